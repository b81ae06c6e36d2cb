/- Walks: each function of the program computes its plain function. -/
import Derived.Test.YtmdkdigmkcpceaaGx2
set_option linter.unusedVariables false
set_option linter.unusedSimpArgs false
set_option maxHeartbeats 4000000
namespace Gp
open Go Gw Go.Proofs
theorem law09_awake_calls (k : Nat)   (r : Bool) (w : World)  (hf : law09_awake k = some r) :
  CallsR Try.prog 14 #[] w (fun v w' => v = (.bool r) ∧ Keeps NoS w w') := by
 have hS : St NoS w w [] [] := St.init (ro_nil _ _)
 refine enter 63 Try.func14 rfl Try.ntmps14 rfl ?_
 unfold law09_awake at hf
 refine WC.seq ?_
 refine WC.region ?_
 refine seg 1 [] [] [] [] (fun fb => by kernel_rfl) rfl trivial ?_
 refine WL.done rfl ?_
 refine WX.next ?_
 refine WC.seq ?_
 refine WC.region ?_
 refine seg 1 [] [8] [(8, (.agg #[(iv 0), (iv 0), (iv 1), (iv 0)]))] [] (fun fb => by kernel_rfl) rfl trivial ?_
 refine WL.new hS 9 [] (fun g => (.slice (some ⟨g, 0, none⟩) 1 1)) (.cells #[(iv 0), (iv 0), (iv 1), (iv 0)] 24 (0, 0)) [] (fun fb g => by kernel_rfl) trivial (fun g20 w21 hS22 => ?_)
 refine ⟨trivial, ?_⟩
 have hS24 : St NoS w w21 [] [rowO 24 enc_Tile (some ⟨g20, 0, none⟩) 1 [(Tile.mk 0 0 1 0)]] := hS22.map1 0 _ (fun h => rowO.ofBlk h rfl (Nat.le_of_ble_eq_true (by kernel_rfl))) (fun _ h => by obtain ⟨_, h1, h2⟩ := h; injection h1 with h1; subst h1; exact h2) [] (by decide) (by decide)
 obtain ⟨t8968, ht8969, hf⟩ := bind_some hf
 refine WL.call (some 10) 22 #[(.slice (some ⟨g20, 0, none⟩) [(Tile.mk 0 0 1 0)].length 1)] (fun fb => by kernel_rfl) (decide_Decide_calls _ [(Tile.mk 0 0 1 0)] (some ⟨g20, 0, none⟩) 1 t8968 _ (hS24.ow 0).ofO ht8969) (fun v w8970 hR8971 => ?_)
 obtain ⟨A8973, c8974, rfl, hk_⟩ := hR8971
 have hS8972 : St NoS w w8970 [] [rowO 3 encInt A8973 c8974 t8968.1.Torus.Cells, rowO 24 enc_Tile (some ⟨g20, 0, none⟩) 1 [(Tile.mk 0 0 1 0)]] := hS24.call hk_ [] [0] (fun g hg => hg.elim) (by simp) (by decide)
 refine ⟨trivial, ?_⟩
 refine seg 6 [] [11, 12] [(11, (.agg #[(.bool t8968.1.Fills), (iv t8968.1.Torus.Width), (iv t8968.1.Torus.Height), (.slice A8973 t8968.1.Torus.Cells.length c8974), (iv t8968.1.Side)])), (12, (iv t8968.2))] [] (fun fb => by kernel_rfl) rfl trivial ?_
 refine WL.new hS8972 1 [] (fun g => (.pointer (some ⟨g, 0, none⟩))) (.cells #[(.bool false), (iv 0), (iv 0), (.slice none 0 0), (iv 0)] 40 (0, 0)) [] (fun fb g => by kernel_rfl) trivial (fun g8975 w8976 hS8977 => ?_)
 refine ⟨trivial, ?_⟩
 refine WL.store hS8977 0 rfl [(0, (.bool t8968.1.Fills)), (1, (iv t8968.1.Torus.Width)), (2, (iv t8968.1.Torus.Height)), (3, (.slice A8973 t8968.1.Torus.Cells.length c8974)), (4, (iv t8968.1.Side))] #[(.bool t8968.1.Fills), (iv t8968.1.Torus.Width), (iv t8968.1.Torus.Height), (.slice A8973 t8968.1.Torus.Cells.length c8974), (iv t8968.1.Side)] (fun fb => by kernel_rfl) (by kernel_rfl) rfl [1, 2] (by decide) (by decide) (fun w8979 hS8980 => ?_)
 refine ⟨trivial, ?_⟩
 refine seg 9 [] [1, 2] [(1, (pt g8975)), (2, (iv t8968.2))] [] (fun fb => by kernel_rfl) rfl trivial ?_
 refine WL.done rfl ?_
 refine WX.next ?_
 refine WC.seq ?_
 refine WC.region ?_
 obtain ⟨t8986, ht8987, hf⟩ := bind_some hf
 refine WL.call (some 14) 36 #[] (fun fb => by kernel_rfl) (law09_chess_calls t8986 _ ht8987) (fun v w8988 hR8989 => ?_)
 obtain ⟨A8991, c8992, rfl, hk_⟩ := hR8989
 have hS8990 : St NoS w w8988 [] [rowO 24 enc_Tile A8991 c8992 t8986, blk g8975 (.cells #[(.bool t8968.1.Fills), (iv t8968.1.Torus.Width), (iv t8968.1.Torus.Height), (.slice A8973 t8968.1.Torus.Cells.length c8974), (iv t8968.1.Side)] 40 (0, 0)), rowO 3 encInt A8973 c8974 t8968.1.Torus.Cells, rowO 24 enc_Tile (some ⟨g20, 0, none⟩) 1 [(Tile.mk 0 0 1 0)]] := hS8980.call hk_ [] [0, 1, 2] (fun g hg => hg.elim) (by simp) (by decide)
 refine ⟨trivial, ?_⟩
 obtain ⟨t8993, ht8994, hf⟩ := bind_some hf
 refine WL.call (some 15) 22 #[(.slice A8991 t8986.length c8992)] (fun fb => by kernel_rfl) (decide_Decide_calls _ t8986 A8991 c8992 t8993 _ (hS8990.ow 0).ofO ht8994) (fun v w8995 hR8996 => ?_)
 obtain ⟨A8998, c8999, rfl, hk_⟩ := hR8996
 have hS8997 : St NoS w w8995 [] [rowO 3 encInt A8998 c8999 t8993.1.Torus.Cells, rowO 24 enc_Tile A8991 c8992 t8986, blk g8975 (.cells #[(.bool t8968.1.Fills), (iv t8968.1.Torus.Width), (iv t8968.1.Torus.Height), (.slice A8973 t8968.1.Torus.Cells.length c8974), (iv t8968.1.Side)] 40 (0, 0)), rowO 3 encInt A8973 c8974 t8968.1.Torus.Cells, rowO 24 enc_Tile (some ⟨g20, 0, none⟩) 1 [(Tile.mk 0 0 1 0)]] := hS8990.call hk_ [] [0, 1, 2, 3] (fun g hg => hg.elim) (by simp) (by decide)
 refine ⟨trivial, ?_⟩
 refine seg 5 [] [1, 2, 16, 17] [(1, (pt g8975)), (2, (iv t8968.2)), (16, (.agg #[(.bool t8993.1.Fills), (iv t8993.1.Torus.Width), (iv t8993.1.Torus.Height), (.slice A8998 t8993.1.Torus.Cells.length c8999), (iv t8993.1.Side)])), (17, (iv t8993.2))] [] (fun fb => by kernel_rfl) rfl trivial ?_
 refine WL.new hS8997 3 [] (fun g => (.pointer (some ⟨g, 0, none⟩))) (.cells #[(.bool false), (iv 0), (iv 0), (.slice none 0 0), (iv 0)] 40 (0, 0)) [] (fun fb g => by kernel_rfl) trivial (fun g9000 w9001 hS9002 => ?_)
 refine ⟨trivial, ?_⟩
 refine WL.store hS9002 0 rfl [(0, (.bool t8993.1.Fills)), (1, (iv t8993.1.Torus.Width)), (2, (iv t8993.1.Torus.Height)), (3, (.slice A8998 t8993.1.Torus.Cells.length c8999)), (4, (iv t8993.1.Side))] #[(.bool t8993.1.Fills), (iv t8993.1.Torus.Width), (iv t8993.1.Torus.Height), (.slice A8998 t8993.1.Torus.Cells.length c8999), (iv t8993.1.Side)] (fun fb => by kernel_rfl) (by kernel_rfl) rfl [1, 2, 3, 4, 5] (by decide) (by decide) (fun w9004 hS9005 => ?_)
 refine ⟨trivial, ?_⟩
 refine seg 8 [] [1, 2, 3, 4] [(1, (pt g8975)), (2, (iv t8968.2)), (3, (pt g9000)), (4, (iv t8993.2))] [] (fun fb => by kernel_rfl) rfl trivial ?_
 refine WL.done rfl ?_
 refine WX.next ?_
 refine WC.seq ?_
 refine WC.region ?_
 obtain ⟨t9006, ht9007, hf⟩ := bind_some hf
 refine WL.call (some 19) 22 #[(.slice none 0 0)] (fun fb => by kernel_rfl) (decide_Decide_calls _ ([] : List Tile) none 0 t9006 _ (RO.nilR _ _ _) ht9007) (fun v w9008 hR9009 => ?_)
 obtain ⟨A9011, c9012, rfl, hk_⟩ := hR9009
 have hS9010 : St NoS w w9008 [] [rowO 3 encInt A9011 c9012 t9006.1.Torus.Cells, blk g9000 (.cells #[(.bool t8993.1.Fills), (iv t8993.1.Torus.Width), (iv t8993.1.Torus.Height), (.slice A8998 t8993.1.Torus.Cells.length c8999), (iv t8993.1.Side)] 40 (0, 0)), rowO 3 encInt A8998 c8999 t8993.1.Torus.Cells, rowO 24 enc_Tile A8991 c8992 t8986, blk g8975 (.cells #[(.bool t8968.1.Fills), (iv t8968.1.Torus.Width), (iv t8968.1.Torus.Height), (.slice A8973 t8968.1.Torus.Cells.length c8974), (iv t8968.1.Side)] 40 (0, 0)), rowO 3 encInt A8973 c8974 t8968.1.Torus.Cells, rowO 24 enc_Tile (some ⟨g20, 0, none⟩) 1 [(Tile.mk 0 0 1 0)]] := hS9005.call hk_ [] [0, 1, 2, 3, 4, 5] (fun g hg => hg.elim) (by simp) (by decide)
 refine ⟨trivial, ?_⟩
 refine seg 4 [] [1, 2, 3, 4, 20, 21] [(1, (pt g8975)), (2, (iv t8968.2)), (3, (pt g9000)), (4, (iv t8993.2)), (20, (.agg #[(.bool t9006.1.Fills), (iv t9006.1.Torus.Width), (iv t9006.1.Torus.Height), (.slice A9011 t9006.1.Torus.Cells.length c9012), (iv t9006.1.Side)])), (21, (iv t9006.2))] [] (fun fb => by kernel_rfl) rfl trivial ?_
 refine WL.new hS9010 5 [] (fun g => (.pointer (some ⟨g, 0, none⟩))) (.cells #[(.bool false), (iv 0), (iv 0), (.slice none 0 0), (iv 0)] 40 (0, 0)) [] (fun fb g => by kernel_rfl) trivial (fun g9013 w9014 hS9015 => ?_)
 refine ⟨trivial, ?_⟩
 refine WL.store hS9015 0 rfl [(0, (.bool t9006.1.Fills)), (1, (iv t9006.1.Torus.Width)), (2, (iv t9006.1.Torus.Height)), (3, (.slice A9011 t9006.1.Torus.Cells.length c9012)), (4, (iv t9006.1.Side))] #[(.bool t9006.1.Fills), (iv t9006.1.Torus.Width), (iv t9006.1.Torus.Height), (.slice A9011 t9006.1.Torus.Cells.length c9012), (iv t9006.1.Side)] (fun fb => by kernel_rfl) (by kernel_rfl) rfl [1, 2, 3, 4, 5, 6, 7] (by decide) (by decide) (fun w9017 hS9018 => ?_)
 refine ⟨trivial, ?_⟩
 refine seg 7 [] [1, 2, 3, 4, 5, 6] [(1, (pt g8975)), (2, (iv t8968.2)), (3, (pt g9000)), (4, (iv t8993.2)), (5, (pt g9013)), (6, (iv t9006.2))] [] (fun fb => by kernel_rfl) rfl trivial ?_
 refine WL.done rfl ?_
 refine WX.next ?_
 refine WC.seq ?_
 refine WC.region ?_
 refine seg 3 [] [1, 3, 4, 5, 6, 24] [(1, (pt g8975)), (3, (pt g9000)), (4, (iv t8993.2)), (5, (pt g9013)), (6, (iv t9006.2)), (24, (.bool (t8968.2 == 0)))] [] (fun fb => by kernel_rfl) rfl trivial ?_
 refine WL.cutV (T := Bool) 6 (fun t => [(27, (.bool t)), (1, (pt g8975)), (3, (pt g9000)), (5, (pt g9013)), (6, (iv t9006.2))]) (fun t => ((t8968.2 == 0) && (t8993.2 == 0)) = t) (fun K => ?_) ?_
 ·
  rcases Bool.eq_false_or_eq_true (t8968.2 == 0) with h9019 | h9019
  ·
   refine WL.setB 24 h9019 rfl ?_
   refine seg 6 [] [1, 3, 5, 6, 27] [(1, (pt g8975)), (3, (pt g9000)), (5, (pt g9013)), (6, (iv t9006.2)), (27, (.bool (t8993.2 == 0)))] [] (fun fb => by kernel_rfl) rfl trivial ?_
   exact WL.toV K (t8993.2 == 0) [27, 1, 3, 5, 6] rfl (by first | (rw [h9019]; done) | (rw [h9019]; rfl))
  refine WL.setB 24 h9019 rfl ?_
  refine seg 6 [] [1, 3, 5, 6, 27] [(1, (pt g8975)), (3, (pt g9000)), (5, (pt g9013)), (6, (iv t9006.2)), (27, (.bool false))] [] (fun fb => by kernel_rfl) rfl trivial ?_
  exact WL.toV K false [27, 1, 3, 5, 6] rfl (by first | (rw [h9019]; done) | (rw [h9019]; rfl))
 rintro b9020 rfl
 refine seg 7 [] [1, 3, 5, 6, 28] [(1, (pt g8975)), (3, (pt g9000)), (5, (pt g9013)), (6, (iv t9006.2)), (28, (.bool ((t8968.2 == 0) && (t8993.2 == 0))))] [] (fun fb => by kernel_rfl) rfl trivial ?_
 refine WL.cutV (T := Bool) 10 (fun t => [(31, (.bool t)), (1, (pt g8975)), (3, (pt g9000)), (5, (pt g9013))]) (fun t => (((t8968.2 == 0) && (t8993.2 == 0)) && (t9006.2 == 0)) = t) (fun K => ?_) ?_
 ·
  rcases Bool.eq_false_or_eq_true ((t8968.2 == 0) && (t8993.2 == 0)) with h9021 | h9021
  ·
   refine WL.setB 28 h9021 rfl ?_
   refine seg 10 [] [1, 3, 5, 31] [(1, (pt g8975)), (3, (pt g9000)), (5, (pt g9013)), (31, (.bool (t9006.2 == 0)))] [] (fun fb => by kernel_rfl) rfl trivial ?_
   exact WL.toV K (t9006.2 == 0) [31, 1, 3, 5] rfl (by first | (rw [h9021]; done) | (rw [h9021]; rfl))
  refine WL.setB 28 h9021 rfl ?_
  refine seg 10 [] [1, 3, 5, 31] [(1, (pt g8975)), (3, (pt g9000)), (5, (pt g9013)), (31, (.bool false))] [] (fun fb => by kernel_rfl) rfl trivial ?_
  exact WL.toV K false [31, 1, 3, 5] rfl (by first | (rw [h9021]; done) | (rw [h9021]; rfl))
 rintro b9022 rfl
 refine seg 11 [] [1, 3, 5, 32] [(1, (pt g8975)), (3, (pt g9000)), (5, (pt g9013)), (32, (.bool (((t8968.2 == 0) && (t8993.2 == 0)) && (t9006.2 == 0))))] [] (fun fb => by kernel_rfl) rfl trivial ?_
 refine WL.cutV (T := Bool) 15 (fun t => [(36, (.bool t)), (1, (pt g8975)), (3, (pt g9000)), (5, (pt g9013))]) (fun t => ((((t8968.2 == 0) && (t8993.2 == 0)) && (t9006.2 == 0)) && (!t8968.1.Fills)) = t) (fun K => ?_) ?_
 ·
  rcases Bool.eq_false_or_eq_true (((t8968.2 == 0) && (t8993.2 == 0)) && (t9006.2 == 0)) with h9023 | h9023
  ·
   refine WL.setB 32 h9023 rfl ?_
   refine seg 15 [.v (.bool t8968.1.Fills)] [1, 3, 5, 36] [(1, (pt g8975)), (3, (pt g9000)), (5, (pt g9013)), (36, (.bool (!t8968.1.Fills)))] [.cell ⟨g8975, 0, none⟩ (.bool t8968.1.Fills)] (fun fb => by kernel_rfl) rfl ⟨hS9018.cell 5 rfl 0 rfl, trivial⟩ ?_
   exact WL.toV K (!t8968.1.Fills) [36, 1, 3, 5] rfl (by first | (rw [h9023]; done) | (rw [h9023]; rfl))
  refine WL.setB 32 h9023 rfl ?_
  refine seg 15 [] [1, 3, 5, 36] [(1, (pt g8975)), (3, (pt g9000)), (5, (pt g9013)), (36, (.bool false))] [] (fun fb => by kernel_rfl) rfl trivial ?_
  exact WL.toV K false [36, 1, 3, 5] rfl (by first | (rw [h9023]; done) | (rw [h9023]; rfl))
 rintro b9024 rfl
 refine seg 16 [] [1, 3, 5, 37] [(1, (pt g8975)), (3, (pt g9000)), (5, (pt g9013)), (37, (.bool ((((t8968.2 == 0) && (t8993.2 == 0)) && (t9006.2 == 0)) && (!t8968.1.Fills))))] [] (fun fb => by kernel_rfl) rfl trivial ?_
 refine WL.cutV (T := Bool) 20 (fun t => [(41, (.bool t)), (3, (pt g9000)), (5, (pt g9013))]) (fun t => (((((t8968.2 == 0) && (t8993.2 == 0)) && (t9006.2 == 0)) && (!t8968.1.Fills)) && (t8968.1.Side == 2)) = t) (fun K => ?_) ?_
 ·
  rcases Bool.eq_false_or_eq_true ((((t8968.2 == 0) && (t8993.2 == 0)) && (t9006.2 == 0)) && (!t8968.1.Fills)) with h9025 | h9025
  ·
   refine WL.setB 37 h9025 rfl ?_
   refine seg 20 [.v (iv t8968.1.Side)] [3, 5, 41] [(3, (pt g9000)), (5, (pt g9013)), (41, (.bool (t8968.1.Side == 2)))] [.cell ⟨g8975, 4, none⟩ (iv t8968.1.Side)] (fun fb => by kernel_rfl) rfl ⟨hS9018.cell 5 rfl 4 rfl, trivial⟩ ?_
   exact WL.toV K (t8968.1.Side == 2) [41, 3, 5] rfl (by first | (rw [h9025]; done) | (rw [h9025]; rfl))
  refine WL.setB 37 h9025 rfl ?_
  refine seg 20 [] [3, 5, 41] [(3, (pt g9000)), (5, (pt g9013)), (41, (.bool false))] [] (fun fb => by kernel_rfl) rfl trivial ?_
  exact WL.toV K false [41, 3, 5] rfl (by first | (rw [h9025]; done) | (rw [h9025]; rfl))
 rintro b9026 rfl
 refine seg 21 [] [3, 5, 42] [(3, (pt g9000)), (5, (pt g9013)), (42, (.bool (((((t8968.2 == 0) && (t8993.2 == 0)) && (t9006.2 == 0)) && (!t8968.1.Fills)) && (t8968.1.Side == 2))))] [] (fun fb => by kernel_rfl) rfl trivial ?_
 refine WL.cutV (T := Bool) 24 (fun t => [(45, (.bool t)), (3, (pt g9000)), (5, (pt g9013))]) (fun t => ((((((t8968.2 == 0) && (t8993.2 == 0)) && (t9006.2 == 0)) && (!t8968.1.Fills)) && (t8968.1.Side == 2)) && t8993.1.Fills) = t) (fun K => ?_) ?_
 ·
  rcases Bool.eq_false_or_eq_true (((((t8968.2 == 0) && (t8993.2 == 0)) && (t9006.2 == 0)) && (!t8968.1.Fills)) && (t8968.1.Side == 2)) with h9027 | h9027
  ·
   refine WL.setB 42 h9027 rfl ?_
   refine seg 24 [.v (.bool t8993.1.Fills)] [3, 5, 45] [(3, (pt g9000)), (5, (pt g9013)), (45, (.bool t8993.1.Fills))] [.cell ⟨g9000, 0, none⟩ (.bool t8993.1.Fills)] (fun fb => by kernel_rfl) rfl ⟨hS9018.cell 2 rfl 0 rfl, trivial⟩ ?_
   exact WL.toV K t8993.1.Fills [45, 3, 5] rfl (by first | (rw [h9027]; done) | (rw [h9027]; rfl))
  refine WL.setB 42 h9027 rfl ?_
  refine seg 24 [] [3, 5, 45] [(3, (pt g9000)), (5, (pt g9013)), (45, (.bool false))] [] (fun fb => by kernel_rfl) rfl trivial ?_
  exact WL.toV K false [45, 3, 5] rfl (by first | (rw [h9027]; done) | (rw [h9027]; rfl))
 rintro b9028 rfl
 refine seg 25 [] [3, 5, 46] [(3, (pt g9000)), (5, (pt g9013)), (46, (.bool ((((((t8968.2 == 0) && (t8993.2 == 0)) && (t9006.2 == 0)) && (!t8968.1.Fills)) && (t8968.1.Side == 2)) && t8993.1.Fills)))] [] (fun fb => by kernel_rfl) rfl trivial ?_
 obtain ⟨x9113, hx9114, hf⟩ := bind_some hf
 refine WL.cutW (T := Bool) 31 (fun t => [(5, (pt g9013)), (52, (.bool t))]) (fun t w1 => (St NoS w w1 [] [blk g9013 (.cells #[(.bool t9006.1.Fills), (iv t9006.1.Torus.Width), (iv t9006.1.Torus.Height), (.slice A9011 t9006.1.Torus.Cells.length c9012), (iv t9006.1.Side)] 40 (0, 0)), rowO 3 encInt A9011 c9012 t9006.1.Torus.Cells] ∧ x9113 = t) ∧ CellsOK [] w1) (fun K => ?_) ?_
 ·
  rcases br_some hx9114 with ⟨h9115, hx9114⟩ | ⟨h9115, hx9114⟩
  ·
   refine WL.setB 46 h9115 rfl ?_
   refine seg 27 [.v (iv t8993.1.Torus.Width), .v (iv t8993.1.Torus.Height), .v (.slice A8998 t8993.1.Torus.Cells.length c8999)] [5, 46, 48] [(5, (pt g9013)), (46, (.bool true)), (48, (.agg #[(iv t8993.1.Torus.Width), (iv t8993.1.Torus.Height), (.slice A8998 t8993.1.Torus.Cells.length c8999)]))] [.cell ⟨g9000, 1, none⟩ (iv t8993.1.Torus.Width), .cell ⟨g9000, 2, none⟩ (iv t8993.1.Torus.Height), .cell ⟨g9000, 3, none⟩ (.slice A8998 t8993.1.Torus.Cells.length c8999)] (fun fb => by kernel_rfl) rfl ⟨hS9018.cell 2 rfl 1 rfl, hS9018.cell 2 rfl 2 rfl, hS9018.cell 2 rfl 3 rfl, trivial⟩ ?_
   refine WL.new hS9018 49 [] (fun g => (.slice (some ⟨g, 0, none⟩) 4 4)) (.cells #[(iv 0), (iv 1), (iv 1), (iv 0)] 3 (0, 0)) [] (fun fb g => by kernel_rfl) trivial (fun g9116 w9117 hS9118 => ?_)
   refine ⟨trivial, ?_⟩
   have hS9120 : St NoS w w9117 [] [rowO 3 encInt (some ⟨g9116, 0, none⟩) 4 [0, 1, 1, 0], blk g9013 (.cells #[(.bool t9006.1.Fills), (iv t9006.1.Torus.Width), (iv t9006.1.Torus.Height), (.slice A9011 t9006.1.Torus.Cells.length c9012), (iv t9006.1.Side)] 40 (0, 0)), rowO 3 encInt A9011 c9012 t9006.1.Torus.Cells, blk g9000 (.cells #[(.bool t8993.1.Fills), (iv t8993.1.Torus.Width), (iv t8993.1.Torus.Height), (.slice A8998 t8993.1.Torus.Cells.length c8999), (iv t8993.1.Side)] 40 (0, 0)), rowO 3 encInt A8998 c8999 t8993.1.Torus.Cells, rowO 24 enc_Tile A8991 c8992 t8986, blk g8975 (.cells #[(.bool t8968.1.Fills), (iv t8968.1.Torus.Width), (iv t8968.1.Torus.Height), (.slice A8973 t8968.1.Torus.Cells.length c8974), (iv t8968.1.Side)] 40 (0, 0)), rowO 3 encInt A8973 c8974 t8968.1.Torus.Cells, rowO 24 enc_Tile (some ⟨g20, 0, none⟩) 1 [(Tile.mk 0 0 1 0)]] := hS9118.map1 0 _ (fun h => rowO.ofBlk h rfl (Nat.le_of_ble_eq_true (by kernel_rfl))) (fun _ h => by obtain ⟨_, h1, h2⟩ := h; injection h1 with h1; subst h1; exact h2) [1, 2, 3, 4, 5, 6, 7, 8] (by decide) (by decide)
   refine seg 29 [] [5, 46, 48, 50] [(5, (pt g9013)), (46, (.bool true)), (48, (.agg #[(iv t8993.1.Torus.Width), (iv t8993.1.Torus.Height), (.slice A8998 t8993.1.Torus.Cells.length c8999)])), (50, (.agg #[(iv 2), (iv 2), (.slice (some ⟨g9116, 0, none⟩) [0, 1, 1, 0].length 4)]))] [] (fun fb => by kernel_rfl) rfl trivial ?_
   obtain ⟨t9121, ht9122, hx9114⟩ := bind_some hx9114
   refine WL.call (some 51) 26 #[(.agg #[(iv t8993.1.Torus.Width), (iv t8993.1.Torus.Height), (.slice A8998 t8993.1.Torus.Cells.length c8999)]), (.agg #[(iv 2), (iv 2), (.slice (some ⟨g9116, 0, none⟩) [0, 1, 1, 0].length 4)])] (fun fb => by kernel_rfl) (ref01_SamePattern_calls _ t8993.1.Torus (Pattern.mk 2 2 [0, 1, 1, 0]) A8998 c8999 (some ⟨g9116, 0, none⟩) 4 t9121 _ (hS9120.ow 4).ofO (hS9120.ow 0).ofO ht9122) (fun v w9123 hR9124 => ?_)
   obtain ⟨rfl, hk_⟩ := hR9124
   have hS9125 := hS9120.keepN hk_
   refine ⟨trivial, ?_⟩
   refine seg 31 [] [5, 52] [(5, (pt g9013)), (52, (.bool t9121))] [] (fun fb => by kernel_rfl) rfl trivial ?_
   injection hx9114 with hx9114
   exact WL.to K t9121 [5, 52] rfl ⟨⟨(hS9125.subR []).sub [1, 2] (by decide), hx9114.symm⟩, trivial⟩
  refine WL.setB 46 h9115 rfl ?_
  refine seg 31 [] [5, 52] [(5, (pt g9013)), (52, (.bool false))] [] (fun fb => by kernel_rfl) rfl trivial ?_
  injection hx9114 with hx9114
  exact WL.to K false [5, 52] rfl ⟨⟨(hS9018.subR []).sub [0, 1] (by decide), hx9114.symm⟩, trivial⟩
 rintro y9126 w9128 ⟨⟨hS9129, hq9127⟩, hF9130⟩
 subst hq9127
 refine seg 32 [] [5, 53] [(5, (pt g9013)), (53, (.bool x9113))] [] (fun fb => by kernel_rfl) rfl trivial ?_
 refine WL.cutV (T := Bool) 36 (fun t => [(57, (.bool t)), (5, (pt g9013))]) (fun t => (x9113 && (!t9006.1.Fills)) = t) (fun K => ?_) ?_
 ·
  rcases Bool.eq_false_or_eq_true x9113 with h9131 | h9131
  ·
   refine WL.setB 53 h9131 rfl ?_
   refine seg 36 [.v (.bool t9006.1.Fills)] [5, 57] [(5, (pt g9013)), (57, (.bool (!t9006.1.Fills)))] [.cell ⟨g9013, 0, none⟩ (.bool t9006.1.Fills)] (fun fb => by kernel_rfl) rfl ⟨hS9129.cell 0 rfl 0 rfl, trivial⟩ ?_
   exact WL.toV K (!t9006.1.Fills) [57, 5] rfl (by first | (rw [h9131]; done) | (rw [h9131]; rfl))
  refine WL.setB 53 h9131 rfl ?_
  refine seg 36 [] [5, 57] [(5, (pt g9013)), (57, (.bool false))] [] (fun fb => by kernel_rfl) rfl trivial ?_
  exact WL.toV K false [57, 5] rfl (by first | (rw [h9131]; done) | (rw [h9131]; rfl))
 rintro b9132 rfl
 refine seg 37 [] [5, 58] [(5, (pt g9013)), (58, (.bool (x9113 && (!t9006.1.Fills))))] [] (fun fb => by kernel_rfl) rfl trivial ?_
 refine WL.cutV (T := Bool) 41 (fun t => [(62, (.bool t))]) (fun t => ((x9113 && (!t9006.1.Fills)) && (t9006.1.Side == 1)) = t) (fun K => ?_) ?_
 ·
  rcases Bool.eq_false_or_eq_true (x9113 && (!t9006.1.Fills)) with h9133 | h9133
  ·
   refine WL.setB 58 h9133 rfl ?_
   refine seg 41 [.v (iv t9006.1.Side)] [62] [(62, (.bool (t9006.1.Side == 1)))] [.cell ⟨g9013, 4, none⟩ (iv t9006.1.Side)] (fun fb => by kernel_rfl) rfl ⟨hS9129.cell 0 rfl 4 rfl, trivial⟩ ?_
   exact WL.toV K (t9006.1.Side == 1) [62] rfl (by first | (rw [h9133]; done) | (rw [h9133]; rfl))
  refine WL.setB 58 h9133 rfl ?_
  refine seg 41 [] [62] [(62, (.bool false))] [] (fun fb => by kernel_rfl) rfl trivial ?_
  exact WL.toV K false [62] rfl (by first | (rw [h9133]; done) | (rw [h9133]; rfl))
 rintro b9134 rfl
 refine seg 42 [] [0] [(0, (.bool ((x9113 && (!t9006.1.Fills)) && (t9006.1.Side == 1))))] [] (fun fb => by kernel_rfl) rfl trivial ?_
 refine WL.done rfl ?_
 refine WX.next ?_
 refine WC.ret ?_
 injection hf with hf
 subst hf
 exact WX.ret_ [] (.bool ((x9113 && (!t9006.1.Fills)) && (t9006.1.Side == 1))) [] (fun fb => by kernel_rfl) trivial ⟨_, rfl, rfl, hS9129.keep⟩
theorem tile_Form_calls (p0 : Pattern) (A_p0_Cells : Option Addr) (c_p0_Cells : Nat) (r : Bool) (w : World) (hR0 : RO NoS w (rowR encInt A_p0_Cells c_p0_Cells p0.Cells)) (hf : tile_Form p0 = some r) :
  CallsR Try.prog 64 #[(.agg #[(iv p0.Width), (iv p0.Height), (.slice A_p0_Cells p0.Cells.length c_p0_Cells)])] w (fun v w' => v = (.bool r) ∧ Keeps NoS w w') := by
 have hS : St NoS w w [rowR encInt A_p0_Cells c_p0_Cells p0.Cells] [] := St.init (ro_cons hR0 (ro_nil _ _))
 refine enter 40 Try.func64 rfl Try.ntmps64 rfl ?_
 unfold tile_Form at hf
 refine WC.seq ?_
 refine WC.region ?_
 refine WL.new hS 1 [] (fun g => (.pointer (some ⟨g, 0, none⟩))) (.cells #[(iv p0.Width), (iv p0.Height), (.slice A_p0_Cells p0.Cells.length c_p0_Cells)] 38 (0, 0)) [] (fun fb g => by kernel_rfl) trivial (fun g9168 w9169 hS9170 => ?_)
 refine ⟨trivial, ?_⟩
 refine seg 2 [] [1] [(1, (pt g9168))] [] (fun fb => by kernel_rfl) rfl trivial ?_
 refine WL.done rfl ?_
 refine WX.next ?_
 refine WC.seq ?_
 refine WC.region ?_
 refine seg 4 [.v (iv p0.Width)] [1, 6] [(1, (pt g9168)), (6, (.bool (decide (p0.Width ≥ 1))))] [.cell ⟨g9168, 0, none⟩ (iv p0.Width)] (fun fb => by kernel_rfl) rfl ⟨hS9170.cell 0 rfl 0 rfl, trivial⟩ ?_
 refine WL.cutV (T := Bool) 8 (fun t => [(10, (.bool t)), (1, (pt g9168))]) (fun t => ((decide (p0.Width ≥ 1)) && (decide (p0.Height ≥ 1))) = t) (fun K => ?_) ?_
 ·
  rcases Bool.eq_false_or_eq_true (decide (p0.Width ≥ 1)) with h9172 | h9172
  ·
   refine WL.setB 6 h9172 rfl ?_
   refine seg 8 [.v (iv p0.Height)] [1, 10] [(1, (pt g9168)), (10, (.bool (decide (p0.Height ≥ 1))))] [.cell ⟨g9168, 1, none⟩ (iv p0.Height)] (fun fb => by kernel_rfl) rfl ⟨hS9170.cell 0 rfl 1 rfl, trivial⟩ ?_
   exact WL.toV K (decide (p0.Height ≥ 1)) [10, 1] rfl (by first | (rw [h9172]; done) | (rw [h9172]; rfl))
  refine WL.setB 6 h9172 rfl ?_
  refine seg 8 [] [1, 10] [(1, (pt g9168)), (10, (.bool false))] [] (fun fb => by kernel_rfl) rfl trivial ?_
  exact WL.toV K false [10, 1] rfl (by first | (rw [h9172]; done) | (rw [h9172]; rfl))
 rintro b9173 rfl
 refine seg 9 [] [1, 11] [(1, (pt g9168)), (11, (.bool ((decide (p0.Width ≥ 1)) && (decide (p0.Height ≥ 1)))))] [] (fun fb => by kernel_rfl) rfl trivial ?_
 refine WL.cutV (T := Bool) 13 (fun t => [(15, (.bool t)), (1, (pt g9168))]) (fun t => (((decide (p0.Width ≥ 1)) && (decide (p0.Height ≥ 1))) && (decide (p0.Width ≤ 40000))) = t) (fun K => ?_) ?_
 ·
  rcases Bool.eq_false_or_eq_true ((decide (p0.Width ≥ 1)) && (decide (p0.Height ≥ 1))) with h9174 | h9174
  ·
   refine WL.setB 11 h9174 rfl ?_
   refine seg 13 [.v (iv p0.Width)] [1, 15] [(1, (pt g9168)), (15, (.bool (decide (p0.Width ≤ 40000))))] [.cell ⟨g9168, 0, none⟩ (iv p0.Width)] (fun fb => by kernel_rfl) rfl ⟨hS9170.cell 0 rfl 0 rfl, trivial⟩ ?_
   exact WL.toV K (decide (p0.Width ≤ 40000)) [15, 1] rfl (by first | (rw [h9174]; done) | (rw [h9174]; rfl))
  refine WL.setB 11 h9174 rfl ?_
  refine seg 13 [] [1, 15] [(1, (pt g9168)), (15, (.bool false))] [] (fun fb => by kernel_rfl) rfl trivial ?_
  exact WL.toV K false [15, 1] rfl (by first | (rw [h9174]; done) | (rw [h9174]; rfl))
 rintro b9175 rfl
 refine seg 14 [] [1, 16] [(1, (pt g9168)), (16, (.bool (((decide (p0.Width ≥ 1)) && (decide (p0.Height ≥ 1))) && (decide (p0.Width ≤ 40000)))))] [] (fun fb => by kernel_rfl) rfl trivial ?_
 refine WL.cutV (T := Bool) 18 (fun t => [(20, (.bool t)), (1, (pt g9168))]) (fun t => ((((decide (p0.Width ≥ 1)) && (decide (p0.Height ≥ 1))) && (decide (p0.Width ≤ 40000))) && (decide (p0.Height ≤ 40000))) = t) (fun K => ?_) ?_
 ·
  rcases Bool.eq_false_or_eq_true (((decide (p0.Width ≥ 1)) && (decide (p0.Height ≥ 1))) && (decide (p0.Width ≤ 40000))) with h9176 | h9176
  ·
   refine WL.setB 16 h9176 rfl ?_
   refine seg 18 [.v (iv p0.Height)] [1, 20] [(1, (pt g9168)), (20, (.bool (decide (p0.Height ≤ 40000))))] [.cell ⟨g9168, 1, none⟩ (iv p0.Height)] (fun fb => by kernel_rfl) rfl ⟨hS9170.cell 0 rfl 1 rfl, trivial⟩ ?_
   exact WL.toV K (decide (p0.Height ≤ 40000)) [20, 1] rfl (by first | (rw [h9176]; done) | (rw [h9176]; rfl))
  refine WL.setB 16 h9176 rfl ?_
  refine seg 18 [] [1, 20] [(1, (pt g9168)), (20, (.bool false))] [] (fun fb => by kernel_rfl) rfl trivial ?_
  exact WL.toV K false [20, 1] rfl (by first | (rw [h9176]; done) | (rw [h9176]; rfl))
 rintro b9177 rfl
 refine seg 19 [] [1, 21] [(1, (pt g9168)), (21, (.bool ((((decide (p0.Width ≥ 1)) && (decide (p0.Height ≥ 1))) && (decide (p0.Width ≤ 40000))) && (decide (p0.Height ≤ 40000)))))] [] (fun fb => by kernel_rfl) rfl trivial ?_
 refine WL.cutV (T := Bool) 26 (fun t => [(28, (.bool t)), (1, (pt g9168))]) (fun t => (((((decide (p0.Width ≥ 1)) && (decide (p0.Height ≥ 1))) && (decide (p0.Width ≤ 40000))) && (decide (p0.Height ≤ 40000))) && (decide (w64 (p0.Width * p0.Height) ≤ 40000))) = t) (fun K => ?_) ?_
 ·
  rcases Bool.eq_false_or_eq_true ((((decide (p0.Width ≥ 1)) && (decide (p0.Height ≥ 1))) && (decide (p0.Width ≤ 40000))) && (decide (p0.Height ≤ 40000))) with h9178 | h9178
  ·
   refine WL.setB 21 h9178 rfl ?_
   refine seg 26 [.v (iv p0.Width), .v (iv p0.Height)] [1, 28] [(1, (pt g9168)), (28, (.bool (decide (w64 (p0.Width * p0.Height) ≤ 40000))))] [.cell ⟨g9168, 0, none⟩ (iv p0.Width), .cell ⟨g9168, 1, none⟩ (iv p0.Height)] (fun fb => by kernel_rfl) rfl ⟨hS9170.cell 0 rfl 0 rfl, hS9170.cell 0 rfl 1 rfl, trivial⟩ ?_
   exact WL.toV K (decide (w64 (p0.Width * p0.Height) ≤ 40000)) [28, 1] rfl (by first | (rw [h9178]; done) | (rw [h9178]; rfl))
  refine WL.setB 21 h9178 rfl ?_
  refine seg 26 [] [1, 28] [(1, (pt g9168)), (28, (.bool false))] [] (fun fb => by kernel_rfl) rfl trivial ?_
  exact WL.toV K false [28, 1] rfl (by first | (rw [h9178]; done) | (rw [h9178]; rfl))
 rintro b9179 rfl
 refine seg 27 [] [1, 29] [(1, (pt g9168)), (29, (.bool (((((decide (p0.Width ≥ 1)) && (decide (p0.Height ≥ 1))) && (decide (p0.Width ≤ 40000))) && (decide (p0.Height ≤ 40000))) && (decide (w64 (p0.Width * p0.Height) ≤ 40000)))))] [] (fun fb => by kernel_rfl) rfl trivial ?_
 refine WL.cutV (T := Bool) 37 (fun t => [(39, (.bool t))]) (fun t => ((((((decide (p0.Width ≥ 1)) && (decide (p0.Height ≥ 1))) && (decide (p0.Width ≤ 40000))) && (decide (p0.Height ≤ 40000))) && (decide (w64 (p0.Width * p0.Height) ≤ 40000))) && ((p0.Cells.length : Int) == (w64 (p0.Width * p0.Height)))) = t) (fun K => ?_) ?_
 ·
  rcases Bool.eq_false_or_eq_true (((((decide (p0.Width ≥ 1)) && (decide (p0.Height ≥ 1))) && (decide (p0.Width ≤ 40000))) && (decide (p0.Height ≤ 40000))) && (decide (w64 (p0.Width * p0.Height) ≤ 40000))) with h9180 | h9180
  ·
   refine WL.setB 29 h9180 rfl ?_
   refine seg 37 [.v (.slice A_p0_Cells p0.Cells.length c_p0_Cells), .v (iv p0.Width), .v (iv p0.Height)] [39] [(39, (.bool ((p0.Cells.length : Int) == (w64 (p0.Width * p0.Height)))))] [.cell ⟨g9168, 2, none⟩ (.slice A_p0_Cells p0.Cells.length c_p0_Cells), .cell ⟨g9168, 0, none⟩ (iv p0.Width), .cell ⟨g9168, 1, none⟩ (iv p0.Height)] (fun fb => by kernel_rfl) rfl ⟨hS9170.cell 0 rfl 2 rfl, hS9170.cell 0 rfl 0 rfl, hS9170.cell 0 rfl 1 rfl, trivial⟩ ?_
   exact WL.toV K ((p0.Cells.length : Int) == (w64 (p0.Width * p0.Height))) [39] rfl (by first | (rw [h9180]; done) | (rw [h9180]; rfl))
  refine WL.setB 29 h9180 rfl ?_
  refine seg 37 [] [39] [(39, (.bool false))] [] (fun fb => by kernel_rfl) rfl trivial ?_
  exact WL.toV K false [39] rfl (by first | (rw [h9180]; done) | (rw [h9180]; rfl))
 rintro b9181 rfl
 refine seg 38 [] [2] [(2, (.bool ((((((decide (p0.Width ≥ 1)) && (decide (p0.Height ≥ 1))) && (decide (p0.Width ≤ 40000))) && (decide (p0.Height ≤ 40000))) && (decide (w64 (p0.Width * p0.Height) ≤ 40000))) && ((p0.Cells.length : Int) == (w64 (p0.Width * p0.Height))))))] [] (fun fb => by kernel_rfl) rfl trivial ?_
 refine WL.done rfl ?_
 refine WX.next ?_
 refine WC.ret ?_
 injection hf with hf
 subst hf
 exact WX.ret_ [] (.bool ((((((decide (p0.Width ≥ 1)) && (decide (p0.Height ≥ 1))) && (decide (p0.Width ≤ 40000))) && (decide (p0.Height ≤ 40000))) && (decide (w64 (p0.Width * p0.Height) ≤ 40000))) && ((p0.Cells.length : Int) == (w64 (p0.Width * p0.Height))))) [] (fun fb => by kernel_rfl) trivial ⟨_, rfl, rfl, hS9170.keep⟩
theorem tile_of_1_calls (p0 : Int) (f0 : List Tile) (g_f0 : Nat) (A_f0 : Option Addr) (c_f0 : Nat) (r : Bool) (w : World) (hR0 : RO NoS w (blk g_f0 (.cells #[(.slice A_f0 f0.length c_f0)] 22 (0, 0)))) (hR1 : RO NoS w (rowR enc_Tile A_f0 c_f0 f0)) (hf : tile_of_1 p0 f0 = some r) :
  CallsR Try.prog 66 #[(iv p0), (.pointer (some ⟨g_f0, 0, none⟩))] w (fun v w' => v = (.bool r) ∧ Keeps NoS w w') := by
 have hS : St NoS w w [blk g_f0 (.cells #[(.slice A_f0 f0.length c_f0)] 22 (0, 0)), rowR enc_Tile A_f0 c_f0 f0] [] := St.init (ro_cons hR0 (ro_cons hR1 (ro_nil _ _)))
 refine enter 12 Try.func66 rfl Try.ntmps66 rfl ?_
 unfold tile_of_1 at hf
 refine WC.seq ?_
 refine WC.region ?_
 refine seg 1 [] [0, 1] [(0, (iv p0)), (1, (.pointer (some ⟨g_f0, 0, none⟩)))] [] (fun fb => by kernel_rfl) rfl trivial ?_
 refine WL.done rfl ?_
 refine WX.next ?_
 refine WC.seq ?_
 refine WC.region ?_
 refine seg 3 [] [0, 1, 6] [(0, (iv p0)), (1, (.pointer (some ⟨g_f0, 0, none⟩))), (6, (.bool (decide (p0 < 0))))] [] (fun fb => by kernel_rfl) rfl trivial ?_
 refine WL.cutV (T := Bool) 8 (fun t => [(11, (.bool t))]) (fun t => ((decide (p0 < 0)) || (decide (p0 ≥ (f0.length : Int)))) = t) (fun K => ?_) ?_
 ·
  rcases Bool.eq_false_or_eq_true (decide (p0 < 0)) with h9203 | h9203
  ·
   refine WL.setB 6 h9203 rfl ?_
   refine seg 8 [] [11] [(11, (.bool true))] [] (fun fb => by kernel_rfl) rfl trivial ?_
   exact WL.toV K true [11] rfl (by first | (rw [h9203]; done) | (rw [h9203]; rfl))
  refine WL.setB 6 h9203 rfl ?_
  refine seg 8 [.v (.slice A_f0 f0.length c_f0)] [11] [(11, (.bool (decide (p0 ≥ (f0.length : Int)))))] [.cell ⟨g_f0, 0, none⟩ (.slice A_f0 f0.length c_f0)] (fun fb => by kernel_rfl) rfl ⟨blk_cell (hS.rd 0).1 0 rfl, trivial⟩ ?_
  exact WL.toV K (decide (p0 ≥ (f0.length : Int))) [11] rfl (by first | (rw [h9203]; done) | (rw [h9203]; rfl))
 rintro b9204 rfl
 refine seg 9 [] [3] [(3, (.bool ((decide (p0 < 0)) || (decide (p0 ≥ (f0.length : Int))))))] [] (fun fb => by kernel_rfl) rfl trivial ?_
 refine WL.done rfl ?_
 refine WX.next ?_
 refine WC.ret ?_
 injection hf with hf
 subst hf
 exact WX.ret_ [] (.bool ((decide (p0 < 0)) || (decide (p0 ≥ (f0.length : Int))))) [] (fun fb => by kernel_rfl) trivial ⟨_, rfl, rfl, hS.keep⟩
theorem slices_IndexFunc_int_int_with_tile_of_1_calls (k : Nat) (p0 : List Int) (p1_0 : List Tile) (A_p0 : Option Addr) (c_p0 : Nat) (g_p1_0 : Nat) (A_p1_0 : Option Addr) (c_p1_0 : Nat) (r : Int) (w : World) (hR0 : RO NoS w (rowR encInt A_p0 c_p0 p0)) (hR1 : RO NoS w (blk g_p1_0 (.cells #[(.slice A_p1_0 p1_0.length c_p1_0)] 22 (0, 0)))) (hR2 : RO NoS w (rowR enc_Tile A_p1_0 c_p1_0 p1_0)) (hf : slices_IndexFunc_int_int_with_tile_of_1 k p0 p1_0 = some r) :
  CallsR Try.prog 81 #[(.slice A_p0 p0.length c_p0), (.func (.func 66) #[] #[(.pointer (some ⟨g_p1_0, 0, none⟩))])] w (fun v w' => v = (iv r) ∧ Keeps NoS w w') := by
 have hS : St NoS w w [rowR encInt A_p0 c_p0 p0, blk g_p1_0 (.cells #[(.slice A_p1_0 p1_0.length c_p1_0)] 22 (0, 0)), rowR enc_Tile A_p1_0 c_p1_0 p1_0] [] := St.init (ro_cons hR0 (ro_cons hR1 (ro_cons hR2 (ro_nil _ _))))
 refine enter 19 Try.func81 rfl Try.ntmps81 rfl ?_
 unfold slices_IndexFunc_int_int_with_tile_of_1 at hf
 refine WC.seq ?_
 refine WC.region ?_
 refine seg 1 [] [0, 1] [(0, (.slice A_p0 p0.length c_p0)), (1, (.func (.func 66) #[] #[(.pointer (some ⟨g_p1_0, 0, none⟩))]))] [] (fun fb => by kernel_rfl) rfl trivial ?_
 refine WL.done rfl ?_
 refine WX.next ?_
 refine WC.seq ?_
 refine WC.seq ?_
 refine WC.region ?_
 refine seg 3 [] [0, 1, 7, 8] [(0, (.slice A_p0 p0.length c_p0)), (1, (.func (.func 66) #[] #[(.pointer (some ⟨g_p1_0, 0, none⟩))])), (7, (iv (p0.length : Int))), (8, (iv 0))] [] (fun fb => by kernel_rfl) rfl trivial ?_
 refine WL.done rfl ?_
 refine WX.next ?_
 obtain ⟨x9221, hx9222, hf⟩ := bind_some hf
 refine WC.cutN (T := Unit) (fun t => []) (fun t w1 => St NoS w w1 [rowR encInt A_p0 c_p0 p0, blk g_p1_0 (.cells #[(.slice A_p1_0 p1_0.length c_p1_0)] 22 (0, 0)), rowR enc_Tile A_p1_0 c_p1_0 p1_0] [] ∧ x9221 = .inr t) (fun Kx9221 => ?_) ?_
 ·
  refine WC.block ?_
  refine WC.loop (T := Int) (fun t => [(0, (.slice A_p0 p0.length c_p0)), (1, (.func (.func 66) #[] #[(.pointer (some ⟨g_p1_0, 0, none⟩))])), (7, (iv (p0.length : Int))), (8, (iv t))]) (fun n t w1 => St NoS w w1 [rowR encInt A_p0 c_p0 p0, blk g_p1_0 (.cells #[(.slice A_p1_0 p1_0.length c_p1_0)] 22 (0, 0)), rowR enc_Tile A_p1_0 c_p1_0 p1_0] [] ∧ slices_IndexFunc_int_int_with_tile_of_1.l0 n t p0 p1_0 = some x9221) k 0 [0, 1, 7, 8] rfl ⟨(hS.subR [0, 1, 2]).sub [] (by decide), hx9222⟩ ?_
  rintro k9223 x9220 w9224 ⟨hS9225, hl9226⟩
  cases k9223 with
  | zero => rw [slices_IndexFunc_int_int_with_tile_of_1.l0] at hl9226; cases hl9226
  | succ k9223 =>
   rw [slices_IndexFunc_int_int_with_tile_of_1.l0] at hl9226
   refine WC.seq ?_
   refine WC.region ?_
   refine seg 1 [] [0, 1, 7, 8, 9] [(0, (.slice A_p0 p0.length c_p0)), (1, (.func (.func 66) #[] #[(.pointer (some ⟨g_p1_0, 0, none⟩))])), (7, (iv (p0.length : Int))), (8, (iv x9220)), (9, (.bool (decide (x9220 < (p0.length : Int)))))] [] (fun fb => by kernel_rfl) rfl trivial ?_
   refine WL.done rfl ?_
   refine WX.next ?_
   refine WC.seq ?_
   rcases br_some hl9226 with ⟨h9227, hl9226⟩ | ⟨h9227, hl9226⟩
   ·refine WC.condT2 (fun fb => by kernel_rfl) h9227 ?_
    refine WC.skip ?_
    refine WX.next ?_
    refine WC.seq ?_
    refine WC.block ?_
    refine WC.seq ?_
    refine WC.region ?_
    refine seg 2 [] [0, 1, 5, 7, 8] [(0, (.slice A_p0 p0.length c_p0)), (1, (.func (.func 66) #[] #[(.pointer (some ⟨g_p1_0, 0, none⟩))])), (5, (iv x9220)), (7, (iv (p0.length : Int))), (8, (iv x9220))] [] (fun fb => by kernel_rfl) rfl trivial ?_
    refine WL.done rfl ?_
    refine WX.next ?_
    refine WC.seq ?_
    refine WC.region ?_
    refine seg 3 [] [0, 1, 5, 7, 8, 11, 12, 13] [(0, (.slice A_p0 p0.length c_p0)), (1, (.func (.func 66) #[] #[(.pointer (some ⟨g_p1_0, 0, none⟩))])), (5, (iv x9220)), (7, (iv (p0.length : Int))), (8, (iv x9220)), (11, (.func (.func 66) #[] #[(.pointer (some ⟨g_p1_0, 0, none⟩))])), (12, (.slice A_p0 p0.length c_p0)), (13, (iv x9220))] [] (fun fb => by kernel_rfl) rfl trivial ?_
    obtain ⟨h9228, hl9226⟩ := as_some hl9226
    refine seg 5 [.v (iv (rdD p0 x9220 0))] [0, 1, 5, 7, 8, 11, 15] [(0, (.slice A_p0 p0.length c_p0)), (1, (.func (.func 66) #[] #[(.pointer (some ⟨g_p1_0, 0, none⟩))])), (5, (iv x9220)), (7, (iv (p0.length : Int))), (8, (iv x9220)), (11, (.func (.func 66) #[] #[(.pointer (some ⟨g_p1_0, 0, none⟩))])), (15, (iv (rdD p0 x9220 0)))] [.idx A_p0 x9220 p0.length, .cell ((adr A_p0).add ((x9220).toNat * 1)) (iv (rdD p0 x9220 0))] (fun fb => by kernel_rfl) rfl ⟨rowR.adr (hS9225.rd 0).1 h9228.1 h9228.2, rowR.cell (hS9225.rd 0).1 0 h9228.1 h9228.2 0 rfl, trivial⟩ ?_
    obtain ⟨t9229, ht9230, hl9226⟩ := bind_some hl9226
    refine WL.call (some 16) 66 #[(iv (rdD p0 x9220 0)), (.pointer (some ⟨g_p1_0, 0, none⟩))] (fun fb => by kernel_rfl) (tile_of_1_calls (rdD p0 x9220 0) p1_0 g_p1_0 A_p1_0 c_p1_0 t9229 _ (hS9225.rd 1) (hS9225.rd 2) ht9230) (fun v w9231 hR9232 => ?_)
    obtain ⟨rfl, hk_⟩ := hR9232
    have hS9233 := hS9225.keepN hk_
    refine ⟨trivial, ?_⟩
    refine WL.done rfl ?_
    refine WX.next ?_
    rcases br_some hl9226 with ⟨h9234, hl9226⟩ | ⟨h9234, hl9226⟩
    ·refine WC.condT2 (fun fb => by kernel_rfl) h9234 ?_
     refine WC.seq ?_
     refine WC.region ?_
     refine seg 2 [] [4] [(4, (iv x9220))] [] (fun fb => by kernel_rfl) rfl trivial ?_
     refine WL.done rfl ?_
     refine WX.next ?_
     refine WC.ret ?_
     injection hl9226 with hl9226
     subst hl9226
     injection hf with hf
     subst hf
     exact WX.blockR (WX.thenR (WX.thenR (WX.blockR (WX.thenR (WX.ret_ [] (iv x9220) [] (fun fb => by kernel_rfl) trivial ⟨_, rfl, rfl, hS9233.keep⟩)))))
    refine WC.condF2 (fun fb => by kernel_rfl) h9234 ?_
    refine WC.skip ?_
    refine WX.blockN (WX.next ?_)
    refine WC.region ?_
    refine seg 2 [] [0, 1, 7, 8] [(0, (.slice A_p0 p0.length c_p0)), (1, (.func (.func 66) #[] #[(.pointer (some ⟨g_p1_0, 0, none⟩))])), (7, (iv (p0.length : Int))), (8, (iv (w64 (x9220 + 1))))] [] (fun fb => by kernel_rfl) rfl trivial ?_
    refine WL.done rfl ?_
    exact WX.again k9223 (Nat.lt_succ_self _) (w64 (x9220 + 1)) [0, 1, 7, 8] rfl ⟨(hS9233.subR [0, 1, 2]).sub [] (by decide), hl9226⟩
   refine WC.condF2 (fun fb => by kernel_rfl) h9227 ?_
   refine WC.exit ?_
   injection hl9226 with hl9226
   exact WX.thenX (WX.thenX (WX.blockHere (WX.to Kx9221 () [] rfl ⟨(hS9225.subR [0, 1, 2]).sub [] (by decide), hl9226.symm⟩)))
 rintro y9238 w9235 ⟨hS9236, hq9237⟩
 subst hq9237
 have hf := sum_inr hf
 refine WX.next ?_
 refine WC.seq ?_
 refine WC.region ?_
 refine seg 1 [] [4] [(4, (iv (-1)))] [] (fun fb => by kernel_rfl) rfl trivial ?_
 refine WL.done rfl ?_
 refine WX.next ?_
 refine WC.ret ?_
 injection hf with hf
 subst hf
 exact WX.ret_ [] (iv (-1)) [] (fun fb => by kernel_rfl) trivial ⟨_, rfl, rfl, hS9236.keep⟩
theorem slices_ContainsFunc_int_int_with_tile_of_1_calls (k : Nat) (p0 : List Int) (p1_0 : List Tile) (A_p0 : Option Addr) (c_p0 : Nat) (g_p1_0 : Nat) (A_p1_0 : Option Addr) (c_p1_0 : Nat) (r : Bool) (w : World) (hR0 : RO NoS w (rowR encInt A_p0 c_p0 p0)) (hR1 : RO NoS w (blk g_p1_0 (.cells #[(.slice A_p1_0 p1_0.length c_p1_0)] 22 (0, 0)))) (hR2 : RO NoS w (rowR enc_Tile A_p1_0 c_p1_0 p1_0)) (hf : slices_ContainsFunc_int_int_with_tile_of_1 k p0 p1_0 = some r) :
  CallsR Try.prog 65 #[(.slice A_p0 p0.length c_p0), (.func (.func 66) #[] #[(.pointer (some ⟨g_p1_0, 0, none⟩))])] w (fun v w' => v = (.bool r) ∧ Keeps NoS w w') := by
 have hS : St NoS w w [rowR encInt A_p0 c_p0 p0, blk g_p1_0 (.cells #[(.slice A_p1_0 p1_0.length c_p1_0)] 22 (0, 0)), rowR enc_Tile A_p1_0 c_p1_0 p1_0] [] := St.init (ro_cons hR0 (ro_cons hR1 (ro_cons hR2 (ro_nil _ _))))
 refine enter 9 Try.func65 rfl Try.ntmps65 rfl ?_
 unfold slices_ContainsFunc_int_int_with_tile_of_1 at hf
 refine WC.seq ?_
 refine WC.region ?_
 refine seg 1 [] [0, 1] [(0, (.slice A_p0 p0.length c_p0)), (1, (.func (.func 66) #[] #[(.pointer (some ⟨g_p1_0, 0, none⟩))]))] [] (fun fb => by kernel_rfl) rfl trivial ?_
 refine WL.done rfl ?_
 refine WX.next ?_
 refine WC.seq ?_
 refine WC.region ?_
 refine seg 2 [] [5, 6] [(5, (.slice A_p0 p0.length c_p0)), (6, (.func (.func 66) #[] #[(.pointer (some ⟨g_p1_0, 0, none⟩))]))] [] (fun fb => by kernel_rfl) rfl trivial ?_
 obtain ⟨t9240, ht9241, hf⟩ := bind_some hf
 refine WL.call (some 7) 81 #[(.slice A_p0 p0.length c_p0), (.func (.func 66) #[] #[(.pointer (some ⟨g_p1_0, 0, none⟩))])] (fun fb => by kernel_rfl) (slices_IndexFunc_int_int_with_tile_of_1_calls _ p0 p1_0 A_p0 c_p0 g_p1_0 A_p1_0 c_p1_0 t9240 _ (hS.rd 0) (hS.rd 1) (hS.rd 2) ht9241) (fun v w9242 hR9243 => ?_)
 obtain ⟨rfl, hk_⟩ := hR9243
 have hS9244 := hS.keepN hk_
 refine ⟨trivial, ?_⟩
 refine seg 5 [] [4] [(4, (.bool (decide (t9240 ≥ 0))))] [] (fun fb => by kernel_rfl) rfl trivial ?_
 refine WL.done rfl ?_
 refine WX.next ?_
 refine WC.ret ?_
 injection hf with hf
 subst hf
 exact WX.ret_ [] (.bool (decide (t9240 ≥ 0))) [] (fun fb => by kernel_rfl) trivial ⟨_, rfl, rfl, hS9244.keep⟩
theorem tile_of_calls (k : Nat) (p0 : List Tile) (p1 : Pattern) (A_p0 : Option Addr) (c_p0 : Nat) (A_p1_Cells : Option Addr) (c_p1_Cells : Nat) (r : Bool) (w : World) (hR0 : RO NoS w (rowR enc_Tile A_p0 c_p0 p0)) (hR1 : RO NoS w (rowR encInt A_p1_Cells c_p1_Cells p1.Cells)) (hf : tile_of k p0 p1 = some r) :
  CallsR Try.prog 48 #[(.slice A_p0 p0.length c_p0), (.agg #[(iv p1.Width), (iv p1.Height), (.slice A_p1_Cells p1.Cells.length c_p1_Cells)])] w (fun v w' => v = (.bool r) ∧ Keeps NoS w w') := by
 have hS : St NoS w w [rowR enc_Tile A_p0 c_p0 p0, rowR encInt A_p1_Cells c_p1_Cells p1.Cells] [] := St.init (ro_cons hR0 (ro_cons hR1 (ro_nil _ _)))
 refine enter 18 Try.func48 rfl Try.ntmps48 rfl ?_
 unfold tile_of at hf
 refine WC.seq ?_
 refine WC.region ?_
 refine WL.new hS 2 [] (fun g => (.pointer (some ⟨g, 0, none⟩))) (.cells #[(.slice A_p0 p0.length c_p0)] 22 (0, 0)) [] (fun fb g => by kernel_rfl) trivial (fun g9155 w9156 hS9157 => ?_)
 refine ⟨trivial, ?_⟩
 refine WL.new hS9157 3 [] (fun g => (.pointer (some ⟨g, 0, none⟩))) (.cells #[(iv p1.Width), (iv p1.Height), (.slice A_p1_Cells p1.Cells.length c_p1_Cells)] 38 (0, 0)) [] (fun fb g => by kernel_rfl) trivial (fun g9159 w9160 hS9161 => ?_)
 refine ⟨trivial, ?_⟩
 refine seg 3 [] [2, 3] [(2, (pt g9155)), (3, (pt g9159))] [] (fun fb => by kernel_rfl) rfl trivial ?_
 refine WL.done rfl ?_
 refine WX.next ?_
 refine WC.seq ?_
 refine WC.region ?_
 refine seg 1 [.v (.slice A_p0 p0.length c_p0)] [2, 3, 5] [(2, (pt g9155)), (3, (pt g9159)), (5, (.slice A_p0 p0.length c_p0))] [.cell ⟨g9155, 0, none⟩ (.slice A_p0 p0.length c_p0)] (fun fb => by kernel_rfl) rfl ⟨hS9161.cell 1 rfl 0 rfl, trivial⟩ ?_
 obtain ⟨t9163, ht9164, hf⟩ := bind_some hf
 refine WL.call (some 6) 38 #[(.slice A_p0 p0.length c_p0)] (fun fb => by kernel_rfl) (tile_Valid_calls _ p0 A_p0 c_p0 t9163 _ (hS9161.rd 0) ht9164) (fun v w9165 hR9166 => ?_)
 obtain ⟨rfl, hk_⟩ := hR9166
 have hS9167 := hS9161.keepN hk_
 refine ⟨trivial, ?_⟩
 refine seg 3 [] [2, 3, 7] [(2, (pt g9155)), (3, (pt g9159)), (7, (.bool t9163))] [] (fun fb => by kernel_rfl) rfl trivial ?_
 obtain ⟨x9188, hx9189, hf⟩ := bind_some hf
 refine WL.cutW (T := Bool) 6 (fun t => [(2, (pt g9155)), (3, (pt g9159)), (10, (.bool t))]) (fun t w1 => (St NoS w w1 [rowR enc_Tile A_p0 c_p0 p0, rowR encInt A_p1_Cells c_p1_Cells p1.Cells] [blk g9155 (.cells #[(.slice A_p0 p0.length c_p0)] 22 (0, 0)), blk g9159 (.cells #[(iv p1.Width), (iv p1.Height), (.slice A_p1_Cells p1.Cells.length c_p1_Cells)] 38 (0, 0))] ∧ x9188 = t) ∧ CellsOK [] w1) (fun K => ?_) ?_
 ·
  rcases br_some hx9189 with ⟨h9190, hx9189⟩ | ⟨h9190, hx9189⟩
  ·
   refine WL.setB 7 h9190 rfl ?_
   refine seg 4 [.v (iv p1.Width), .v (iv p1.Height), .v (.slice A_p1_Cells p1.Cells.length c_p1_Cells)] [2, 3, 7, 8] [(2, (pt g9155)), (3, (pt g9159)), (7, (.bool true)), (8, (.agg #[(iv p1.Width), (iv p1.Height), (.slice A_p1_Cells p1.Cells.length c_p1_Cells)]))] [.cell ⟨g9159, 0, none⟩ (iv p1.Width), .cell ⟨g9159, 1, none⟩ (iv p1.Height), .cell ⟨g9159, 2, none⟩ (.slice A_p1_Cells p1.Cells.length c_p1_Cells)] (fun fb => by kernel_rfl) rfl ⟨hS9167.cell 0 rfl 0 rfl, hS9167.cell 0 rfl 1 rfl, hS9167.cell 0 rfl 2 rfl, trivial⟩ ?_
   obtain ⟨t9191, ht9192, hx9189⟩ := bind_some hx9189
   refine WL.call (some 9) 64 #[(.agg #[(iv p1.Width), (iv p1.Height), (.slice A_p1_Cells p1.Cells.length c_p1_Cells)])] (fun fb => by kernel_rfl) (tile_Form_calls p1 A_p1_Cells c_p1_Cells t9191 _ (hS9167.rd 1) ht9192) (fun v w9193 hR9194 => ?_)
   obtain ⟨rfl, hk_⟩ := hR9194
   have hS9195 := hS9167.keepN hk_
   refine ⟨trivial, ?_⟩
   refine seg 6 [] [2, 3, 10] [(2, (pt g9155)), (3, (pt g9159)), (10, (.bool t9191))] [] (fun fb => by kernel_rfl) rfl trivial ?_
   injection hx9189 with hx9189
   exact WL.to K t9191 [2, 3, 10] rfl ⟨⟨(hS9195.subR [0, 1]).sub [1, 0] (by decide), hx9189.symm⟩, trivial⟩
  refine WL.setB 7 h9190 rfl ?_
  refine seg 6 [] [2, 3, 10] [(2, (pt g9155)), (3, (pt g9159)), (10, (.bool false))] [] (fun fb => by kernel_rfl) rfl trivial ?_
  injection hx9189 with hx9189
  exact WL.to K false [2, 3, 10] rfl ⟨⟨(hS9167.subR [0, 1]).sub [1, 0] (by decide), hx9189.symm⟩, trivial⟩
 rintro y9196 w9198 ⟨⟨hS9199, hq9197⟩, hF9200⟩
 subst hq9197
 refine seg 7 [] [2, 3, 11] [(2, (pt g9155)), (3, (pt g9159)), (11, (.bool x9188))] [] (fun fb => by kernel_rfl) rfl trivial ?_
 obtain ⟨x9251, hx9252, hf⟩ := bind_some hf
 refine WL.cutW (T := Bool) 13 (fun t => [(17, (.bool t))]) (fun t w1 => (St NoS w w1 [rowR enc_Tile A_p0 c_p0 p0, rowR encInt A_p1_Cells c_p1_Cells p1.Cells] [] ∧ x9251 = t) ∧ CellsOK [] w1) (fun K => ?_) ?_
 ·
  rcases br_some hx9252 with ⟨h9253, hx9252⟩ | ⟨h9253, hx9252⟩
  ·
   refine WL.setB 11 h9253 rfl ?_
   refine seg 10 [.v (.slice A_p1_Cells p1.Cells.length c_p1_Cells)] [11, 13, 14] [(11, (.bool true)), (13, (.slice A_p1_Cells p1.Cells.length c_p1_Cells)), (14, (.func (.func 66) #[] #[(pt g9155)]))] [.cell ⟨g9159, 2, none⟩ (.slice A_p1_Cells p1.Cells.length c_p1_Cells)] (fun fb => by kernel_rfl) rfl ⟨hS9199.cell 1 rfl 2 rfl, trivial⟩ ?_
   obtain ⟨t9254, ht9255, hx9252⟩ := bind_some hx9252
   refine WL.call (some 15) 65 #[(.slice A_p1_Cells p1.Cells.length c_p1_Cells), (.func (.func 66) #[] #[(pt g9155)])] (fun fb => by kernel_rfl) (slices_ContainsFunc_int_int_with_tile_of_1_calls _ p1.Cells p0 A_p1_Cells c_p1_Cells g9155 A_p0 c_p0 t9254 _ (hS9199.rd 1) (hS9199.ow 0) (hS9199.rd 0) ht9255) (fun v w9256 hR9257 => ?_)
   obtain ⟨rfl, hk_⟩ := hR9257
   have hS9258 := hS9199.keepN hk_
   refine ⟨trivial, ?_⟩
   refine seg 13 [] [17] [(17, (.bool (!t9254)))] [] (fun fb => by kernel_rfl) rfl trivial ?_
   injection hx9252 with hx9252
   exact WL.to K (!t9254) [17] rfl ⟨⟨(hS9258.subR [0, 1]).sub [] (by decide), hx9252.symm⟩, trivial⟩
  refine WL.setB 11 h9253 rfl ?_
  refine seg 13 [] [17] [(17, (.bool false))] [] (fun fb => by kernel_rfl) rfl trivial ?_
  injection hx9252 with hx9252
  exact WL.to K false [17] rfl ⟨⟨(hS9199.subR [0, 1]).sub [] (by decide), hx9252.symm⟩, trivial⟩
 rintro y9259 w9261 ⟨⟨hS9262, hq9260⟩, hF9263⟩
 subst hq9260
 refine seg 14 [] [4] [(4, (.bool x9251))] [] (fun fb => by kernel_rfl) rfl trivial ?_
 refine WL.done rfl ?_
 refine WX.next ?_
 refine WC.ret ?_
 injection hf with hf
 subst hf
 exact WX.ret_ [] (.bool x9251) [] (fun fb => by kernel_rfl) trivial ⟨_, rfl, rfl, hS9262.keep⟩
theorem tile_joins_calls (k : Nat) (p0 : List Tile) (p1 : Pattern) (p2 : Bool) (A_p0 : Option Addr) (c_p0 : Nat) (A_p1_Cells : Option Addr) (c_p1_Cells : Nat) (r : Bool) (w : World) (hR0 : RO NoS w (rowR enc_Tile A_p0 c_p0 p0)) (hR1 : RO NoS w (rowR encInt A_p1_Cells c_p1_Cells p1.Cells)) (hf : tile_joins k p0 p1 p2 = some r) :
  CallsR Try.prog 49 #[(.slice A_p0 p0.length c_p0), (.agg #[(iv p1.Width), (iv p1.Height), (.slice A_p1_Cells p1.Cells.length c_p1_Cells)]), (.bool p2)] w (fun v w' => v = (.bool r) ∧ Keeps NoS w w') := by
 have hS : St NoS w w [rowR enc_Tile A_p0 c_p0 p0, rowR encInt A_p1_Cells c_p1_Cells p1.Cells] [] := St.init (ro_cons hR0 (ro_cons hR1 (ro_nil _ _)))
 refine enter 92 Try.func49 rfl Try.ntmps49 rfl ?_
 unfold tile_joins at hf
 refine WC.seq ?_
 refine WC.region ?_
 refine WL.new hS 4 [] (fun g => (.pointer (some ⟨g, 0, none⟩))) (.cells #[(iv p1.Width), (iv p1.Height), (.slice A_p1_Cells p1.Cells.length c_p1_Cells)] 38 (0, 0)) [] (fun fb g => by kernel_rfl) trivial (fun g9269 w9270 hS9271 => ?_)
 refine ⟨trivial, ?_⟩
 refine seg 2 [] [0, 2, 4] [(0, (.slice A_p0 p0.length c_p0)), (2, (.bool p2)), (4, (pt g9269))] [] (fun fb => by kernel_rfl) rfl trivial ?_
 refine WL.done rfl ?_
 refine WX.next ?_
 refine WC.seq ?_
 refine WC.seq ?_
 refine WC.region ?_
 refine seg 4 [.v (.slice A_p1_Cells p1.Cells.length c_p1_Cells)] [0, 2, 4, 12, 13, 14] [(0, (.slice A_p0 p0.length c_p0)), (2, (.bool p2)), (4, (pt g9269)), (12, (.slice A_p1_Cells p1.Cells.length c_p1_Cells)), (13, (iv (p1.Cells.length : Int))), (14, (iv 0))] [.cell ⟨g9269, 2, none⟩ (.slice A_p1_Cells p1.Cells.length c_p1_Cells)] (fun fb => by kernel_rfl) rfl ⟨hS9271.cell 0 rfl 2 rfl, trivial⟩ ?_
 refine WL.done rfl ?_
 refine WX.next ?_
 obtain ⟨x9441, hx9442, hf⟩ := bind_some hf
 refine WC.cutN (T := Unit) (fun t => []) (fun t w1 => St NoS w w1 [rowR enc_Tile A_p0 c_p0 p0, rowR encInt A_p1_Cells c_p1_Cells p1.Cells] [] ∧ x9441 = .inr t) (fun Kx9441 => ?_) ?_
 ·
  refine WC.block ?_
  refine WC.loop (T := Int) (fun t => [(0, (.slice A_p0 p0.length c_p0)), (2, (.bool p2)), (4, (pt g9269)), (12, (.slice A_p1_Cells p1.Cells.length c_p1_Cells)), (13, (iv (p1.Cells.length : Int))), (14, (iv t))]) (fun n t w1 => St NoS w w1 [rowR enc_Tile A_p0 c_p0 p0, rowR encInt A_p1_Cells c_p1_Cells p1.Cells] [blk g9269 (.cells #[(iv p1.Width), (iv p1.Height), (.slice A_p1_Cells p1.Cells.length c_p1_Cells)] 38 (0, 0))] ∧ tile_joins.l0 n t p0 p1 p2 = some x9441) k 0 [0, 2, 4, 12, 13, 14] rfl ⟨(hS9271.subR [0, 1]).sub [0] (by decide), hx9442⟩ ?_
  rintro k9443 x9440 w9444 ⟨hS9445, hl9446⟩
  cases k9443 with
  | zero => rw [tile_joins.l0] at hl9446; cases hl9446
  | succ k9443 =>
   rw [tile_joins.l0] at hl9446
   refine WC.seq ?_
   refine WC.region ?_
   refine seg 1 [] [0, 2, 4, 12, 13, 14, 15] [(0, (.slice A_p0 p0.length c_p0)), (2, (.bool p2)), (4, (pt g9269)), (12, (.slice A_p1_Cells p1.Cells.length c_p1_Cells)), (13, (iv (p1.Cells.length : Int))), (14, (iv x9440)), (15, (.bool (decide (x9440 < (p1.Cells.length : Int)))))] [] (fun fb => by kernel_rfl) rfl trivial ?_
   refine WL.done rfl ?_
   refine WX.next ?_
   refine WC.seq ?_
   rcases br_some hl9446 with ⟨h9447, hl9446⟩ | ⟨h9447, hl9446⟩
   ·refine WC.condT2 (fun fb => by kernel_rfl) h9447 ?_
    refine WC.skip ?_
    refine WX.next ?_
    refine WC.seq ?_
    refine WC.block ?_
    refine WC.seq ?_
    refine WC.region ?_
    refine seg 1 [] [0, 2, 4, 12, 13, 14, 16] [(0, (.slice A_p0 p0.length c_p0)), (2, (.bool p2)), (4, (pt g9269)), (12, (.slice A_p1_Cells p1.Cells.length c_p1_Cells)), (13, (iv (p1.Cells.length : Int))), (14, (iv x9440)), (16, (iv x9440))] [] (fun fb => by kernel_rfl) rfl trivial ?_
    obtain ⟨h9448, hl9446⟩ := as_some hl9446
    refine seg 5 [.v (iv (rdD p1.Cells x9440 0))] [0, 2, 4, 7, 8, 12, 13, 14] [(0, (.slice A_p0 p0.length c_p0)), (2, (.bool p2)), (4, (pt g9269)), (7, (iv x9440)), (8, (iv (rdD p1.Cells x9440 0))), (12, (.slice A_p1_Cells p1.Cells.length c_p1_Cells)), (13, (iv (p1.Cells.length : Int))), (14, (iv x9440))] [.idx A_p1_Cells x9440 p1.Cells.length, .cell ((adr A_p1_Cells).add ((x9440).toNat * 1)) (iv (rdD p1.Cells x9440 0))] (fun fb => by kernel_rfl) rfl ⟨rowR.adr (hS9445.rd 1).1 h9448.1 h9448.2, rowR.cell (hS9445.rd 1).1 0 h9448.1 h9448.2 0 rfl, trivial⟩ ?_
    refine WL.done rfl ?_
    refine WX.next ?_
    refine WC.seq ?_
    obtain ⟨h9453, hl9446⟩ := as_some hl9446
    refine WC.regionD ([(2, ⟨g9269, 0, none⟩, (iv p1.Width)), (6, ⟨g9269, 0, none⟩, (iv p1.Width))], [0, 1, 2, 3, 4, 5, 6, 7, 8, 9], [[], [], [1], [0, 1, 2], [], [], [5], [4, 5, 6], [0, 1, 2, 3], [0, 1, 2, 3, 4, 5, 6, 7, 8]]) [[0, 1, 2, 3, 4, 5, 6, 7, 8, 9]] (by kernel_rfl) (by kernel_rfl) (NoPanic.seq (NoPanic.block (NoPanic.seq (NoPanic.seq (NoPanic.block (NoPanic.seq (NoPanic.body))))))) ?_
    have hS9451 := hS9445.drew
    revert hS9451
    generalize World.drew w9444 = w9450
    intro hS9451
    refine ⟨⟨hS9451.cell 0 rfl 0 rfl, hS9451.cell 0 rfl 0 rfl, trivial⟩, forallC ?_ (forallN)⟩
    refine segF 10 [.v (iv p1.Width), .v (iv p1.Width)] [0, 2, 4, 8, 9, 10, 12, 13, 14] [(0, (.slice A_p0 p0.length c_p0)), (2, (.bool p2)), (4, (pt g9269)), (8, (iv (rdD p1.Cells x9440 0))), (9, (iv (Int.tmod x9440 p1.Width))), (10, (iv (w64 (Int.tdiv x9440 p1.Width)))), (12, (.slice A_p1_Cells p1.Cells.length c_p1_Cells)), (13, (iv (p1.Cells.length : Int))), (14, (iv x9440))] [.ne p1.Width, .ne p1.Width] [0, 1] [(2, ⟨g9269, 0, none⟩, (iv p1.Width)), (6, ⟨g9269, 0, none⟩, (iv p1.Width))] (fun fb => by kernel_rfl) rfl ⟨h9453, h9453, trivial⟩ rfl ?_
    refine WL.done rfl ?_
    refine WX.next ?_
    refine WC.seq ?_
    refine WC.seq ?_
    refine WC.region ?_
    refine seg 6 [.v (iv p1.Width)] [0, 2, 4, 8, 9, 10, 12, 13, 14, 32] [(0, (.slice A_p0 p0.length c_p0)), (2, (.bool p2)), (4, (pt g9269)), (8, (iv (rdD p1.Cells x9440 0))), (9, (iv (Int.tmod x9440 p1.Width))), (10, (iv (w64 (Int.tdiv x9440 p1.Width)))), (12, (.slice A_p1_Cells p1.Cells.length c_p1_Cells)), (13, (iv (p1.Cells.length : Int))), (14, (iv x9440)), (32, (.bool (decide (w64 ((Int.tmod x9440 p1.Width) + 1) < p1.Width))))] [.cell ⟨g9269, 0, none⟩ (iv p1.Width)] (fun fb => by kernel_rfl) rfl ⟨hS9451.cell 0 rfl 0 rfl, trivial⟩ ?_
    refine WL.cutV (T := Bool) 8 (fun t => [(34, (.bool t)), (0, (.slice A_p0 p0.length c_p0)), (2, (.bool p2)), (4, (pt g9269)), (8, (iv (rdD p1.Cells x9440 0))), (9, (iv (Int.tmod x9440 p1.Width))), (10, (iv (w64 (Int.tdiv x9440 p1.Width)))), (12, (.slice A_p1_Cells p1.Cells.length c_p1_Cells)), (13, (iv (p1.Cells.length : Int))), (14, (iv x9440))]) (fun t => ((decide (w64 ((Int.tmod x9440 p1.Width) + 1) < p1.Width)) || p2) = t) (fun K => ?_) ?_
    ·
     rcases Bool.eq_false_or_eq_true (decide (w64 ((Int.tmod x9440 p1.Width) + 1) < p1.Width)) with h9454 | h9454
     ·
      refine WL.setB 32 h9454 rfl ?_
      refine seg 8 [] [0, 2, 4, 8, 9, 10, 12, 13, 14, 34] [(0, (.slice A_p0 p0.length c_p0)), (2, (.bool p2)), (4, (pt g9269)), (8, (iv (rdD p1.Cells x9440 0))), (9, (iv (Int.tmod x9440 p1.Width))), (10, (iv (w64 (Int.tdiv x9440 p1.Width)))), (12, (.slice A_p1_Cells p1.Cells.length c_p1_Cells)), (13, (iv (p1.Cells.length : Int))), (14, (iv x9440)), (34, (.bool true))] [] (fun fb => by kernel_rfl) rfl trivial ?_
      exact WL.toV K true [34, 0, 2, 4, 8, 9, 10, 12, 13, 14] rfl (by first | (rw [h9454]; done) | (rw [h9454]; rfl))
     refine WL.setB 32 h9454 rfl ?_
     refine seg 8 [] [0, 2, 4, 8, 9, 10, 12, 13, 14, 34] [(0, (.slice A_p0 p0.length c_p0)), (2, (.bool p2)), (4, (pt g9269)), (8, (iv (rdD p1.Cells x9440 0))), (9, (iv (Int.tmod x9440 p1.Width))), (10, (iv (w64 (Int.tdiv x9440 p1.Width)))), (12, (.slice A_p1_Cells p1.Cells.length c_p1_Cells)), (13, (iv (p1.Cells.length : Int))), (14, (iv x9440)), (34, (.bool p2))] [] (fun fb => by kernel_rfl) rfl trivial ?_
     exact WL.toV K p2 [34, 0, 2, 4, 8, 9, 10, 12, 13, 14] rfl (by first | (rw [h9454]; done) | (rw [h9454]; rfl))
    rintro b9455 rfl
    refine WL.done rfl ?_
    refine WX.next ?_
    obtain ⟨x9469, hx9470, hl9446⟩ := bind_some hl9446
    refine WC.cutN (T := Unit) (fun t => [(0, (.slice A_p0 p0.length c_p0)), (2, (.bool p2)), (4, (pt g9269)), (8, (iv (rdD p1.Cells x9440 0))), (9, (iv (Int.tmod x9440 p1.Width))), (10, (iv (w64 (Int.tdiv x9440 p1.Width)))), (12, (.slice A_p1_Cells p1.Cells.length c_p1_Cells)), (13, (iv (p1.Cells.length : Int))), (14, (iv x9440))]) (fun t w1 => St NoS w w1 [rowR enc_Tile A_p0 c_p0 p0, rowR encInt A_p1_Cells c_p1_Cells p1.Cells] [blk g9269 (.cells #[(iv p1.Width), (iv p1.Height), (.slice A_p1_Cells p1.Cells.length c_p1_Cells)] 38 (0, 0))] ∧ x9469 = .inr t) (fun Kx9469 => ?_) ?_
    ·
     rcases br_some hx9470 with ⟨h9471, hx9470⟩ | ⟨h9471, hx9470⟩
     ·refine WC.condT2 (fun fb => by kernel_rfl) h9471 ?_
      refine WC.seq ?_
      obtain ⟨h9480, hx9470⟩ := as_some hx9470
      obtain ⟨h9481, hx9470⟩ := as_some hx9470
      obtain ⟨h9482, hx9470⟩ := as_some hx9470
      refine WC.regionD ([(4, (((adr A_p0).add (((rdD p1.Cells x9440 0)).toNat * 4)).add 1), (iv ((rdD p0 (rdD p1.Cells x9440 0) z_Tile).E))), (7, ⟨g9269, 2, none⟩, (.slice A_p1_Cells p1.Cells.length c_p1_Cells)), (10, ⟨g9269, 0, none⟩, (iv p1.Width)), (15, ⟨g9269, 0, none⟩, (iv p1.Width)), (19, ((adr A_p1_Cells).add ((w64 ((w64 ((w64 (Int.tdiv x9440 p1.Width)) * p1.Width)) + (Int.tmod (w64 ((Int.tmod x9440 p1.Width) + 1)) p1.Width))).toNat * 1)), (iv (rdD p1.Cells (w64 ((w64 ((w64 (Int.tdiv x9440 p1.Width)) * p1.Width)) + (Int.tmod (w64 ((Int.tmod x9440 p1.Width) + 1)) p1.Width))) 0))), (22, (((adr A_p0).add (((rdD p1.Cells (w64 ((w64 ((w64 (Int.tdiv x9440 p1.Width)) * p1.Width)) + (Int.tmod (w64 ((Int.tmod x9440 p1.Width) + 1)) p1.Width))) 0)).toNat * 4)).add 3), (iv ((rdD p0 (rdD p1.Cells (w64 ((w64 ((w64 (Int.tdiv x9440 p1.Width)) * p1.Width)) + (Int.tmod (w64 ((Int.tmod x9440 p1.Width) + 1)) p1.Width))) 0) z_Tile).W)))], [0, 1, 2, 3, 4, 5, 6, 7, 8, 9, 10, 11, 12, 13, 14, 15, 16, 17, 18, 19, 20, 21, 22, 23], [[], [], [0, 1], [0, 1, 2], [0, 1, 2, 3], [], [], [6], [], [], [9], [8, 9, 10], [], [12], [], [14], [12, 13, 14, 15], [8, 9, 10, 11, 12, 13, 14, 15, 16], [6, 7, 8, 9, 10, 11, 12, 13, 14, 15, 16, 17], [6, 7, 8, 9, 10, 11, 12, 13, 14, 15, 16, 17, 18], [5, 6, 7, 8, 9, 10, 11, 12, 13, 14, 15, 16, 17, 18, 19], [5, 6, 7, 8, 9, 10, 11, 12, 13, 14, 15, 16, 17, 18, 19, 20], [5, 6, 7, 8, 9, 10, 11, 12, 13, 14, 15, 16, 17, 18, 19, 20, 21], [0, 1, 2, 3, 4, 5, 6, 7, 8, 9, 10, 11, 12, 13, 14, 15, 16, 17, 18, 19, 20, 21, 22]]) [[0, 1, 2, 3, 4, 5, 6, 7, 8, 9, 10, 11, 12, 13, 14, 15, 16, 17, 18, 19, 20, 21, 22, 23]] (by kernel_rfl) (by kernel_rfl) (NoPanic.seq (NoPanic.seq (NoPanic.block (NoPanic.seq (NoPanic.seq (NoPanic.block (NoPanic.seq (NoPanic.body)))))))) ?_
      have hS9476 := hS9451.drew
      revert hS9476
      generalize World.drew w9450 = w9475
      intro hS9476
      refine ⟨⟨rowR.cell (hS9476.rd 0).1 z_Tile h9480.1 h9480.2 1 rfl, hS9476.cell 0 rfl 2 rfl, hS9476.cell 0 rfl 0 rfl, hS9476.cell 0 rfl 0 rfl, rowR.cell (hS9476.rd 1).1 0 h9481.1 h9481.2 0 rfl, rowR.cell (hS9476.rd 0).1 z_Tile h9482.1 h9482.2 3 rfl, trivial⟩, forallC ?_ (forallN)⟩
      refine segF 24 [.v (iv ((rdD p0 (rdD p1.Cells x9440 0) z_Tile).E)), .v (.slice A_p1_Cells p1.Cells.length c_p1_Cells), .v (iv p1.Width), .v (iv p1.Width), .v (iv (rdD p1.Cells (w64 ((w64 ((w64 (Int.tdiv x9440 p1.Width)) * p1.Width)) + (Int.tmod (w64 ((Int.tmod x9440 p1.Width) + 1)) p1.Width))) 0)), .v (iv ((rdD p0 (rdD p1.Cells (w64 ((w64 ((w64 (Int.tdiv x9440 p1.Width)) * p1.Width)) + (Int.tmod (w64 ((Int.tmod x9440 p1.Width) + 1)) p1.Width))) 0) z_Tile).W))] [0, 2, 4, 8, 9, 10, 12, 13, 14, 58] [(0, (.slice A_p0 p0.length c_p0)), (2, (.bool p2)), (4, (pt g9269)), (8, (iv (rdD p1.Cells x9440 0))), (9, (iv (Int.tmod x9440 p1.Width))), (10, (iv (w64 (Int.tdiv x9440 p1.Width)))), (12, (.slice A_p1_Cells p1.Cells.length c_p1_Cells)), (13, (iv (p1.Cells.length : Int))), (14, (iv x9440)), (58, (.bool (((rdD p0 (rdD p1.Cells x9440 0) z_Tile).E) != ((rdD p0 (rdD p1.Cells (w64 ((w64 ((w64 (Int.tdiv x9440 p1.Width)) * p1.Width)) + (Int.tmod (w64 ((Int.tmod x9440 p1.Width) + 1)) p1.Width))) 0) z_Tile).W))))] [.idx A_p0 (rdD p1.Cells x9440 0) p0.length, .ne p1.Width, .idx A_p1_Cells (w64 ((w64 ((w64 (Int.tdiv x9440 p1.Width)) * p1.Width)) + (Int.tmod (w64 ((Int.tmod x9440 p1.Width) + 1)) p1.Width))) p1.Cells.length, .idx A_p0 (rdD p1.Cells (w64 ((w64 ((w64 (Int.tdiv x9440 p1.Width)) * p1.Width)) + (Int.tmod (w64 ((Int.tmod x9440 p1.Width) + 1)) p1.Width))) 0) p0.length] [0, 1, 2, 3, 4, 5] [(4, (((adr A_p0).add (((rdD p1.Cells x9440 0)).toNat * 4)).add 1), (iv ((rdD p0 (rdD p1.Cells x9440 0) z_Tile).E))), (7, ⟨g9269, 2, none⟩, (.slice A_p1_Cells p1.Cells.length c_p1_Cells)), (10, ⟨g9269, 0, none⟩, (iv p1.Width)), (15, ⟨g9269, 0, none⟩, (iv p1.Width)), (19, ((adr A_p1_Cells).add ((w64 ((w64 ((w64 (Int.tdiv x9440 p1.Width)) * p1.Width)) + (Int.tmod (w64 ((Int.tmod x9440 p1.Width) + 1)) p1.Width))).toNat * 1)), (iv (rdD p1.Cells (w64 ((w64 ((w64 (Int.tdiv x9440 p1.Width)) * p1.Width)) + (Int.tmod (w64 ((Int.tmod x9440 p1.Width) + 1)) p1.Width))) 0))), (22, (((adr A_p0).add (((rdD p1.Cells (w64 ((w64 ((w64 (Int.tdiv x9440 p1.Width)) * p1.Width)) + (Int.tmod (w64 ((Int.tmod x9440 p1.Width) + 1)) p1.Width))) 0)).toNat * 4)).add 3), (iv ((rdD p0 (rdD p1.Cells (w64 ((w64 ((w64 (Int.tdiv x9440 p1.Width)) * p1.Width)) + (Int.tmod (w64 ((Int.tmod x9440 p1.Width) + 1)) p1.Width))) 0) z_Tile).W)))] (fun fb => by kernel_rfl) rfl ⟨rowR.adr (hS9476.rd 0).1 h9480.1 h9480.2, h9453, rowR.adr (hS9476.rd 1).1 h9481.1 h9481.2, rowR.adr (hS9476.rd 0).1 h9482.1 h9482.2, trivial⟩ rfl ?_
      refine WL.done rfl ?_
      refine WX.next ?_
      rcases br_some hx9470 with ⟨h9483, hx9470⟩ | ⟨h9483, hx9470⟩
      ·refine WC.condT2 (fun fb => by kernel_rfl) h9483 ?_
       refine WC.seq ?_
       refine WC.region ?_
       refine seg 1 [] [6] [(6, (.bool false))] [] (fun fb => by kernel_rfl) rfl trivial ?_
       refine WL.done rfl ?_
       refine WX.next ?_
       refine WC.ret ?_
       injection hx9470 with hx9470
       subst hx9470
       injection hl9446 with hl9446
       subst hl9446
       injection hf with hf
       subst hf
       exact WX.thenR (WX.blockR (WX.thenR (WX.thenR (WX.blockR (WX.thenR (WX.ret_ [] (.bool false) [] (fun fb => by kernel_rfl) trivial ⟨_, rfl, rfl, hS9476.keep⟩))))))
      refine WC.condF2 (fun fb => by kernel_rfl) h9483 ?_
      refine WC.skip ?_
      injection hx9470 with hx9470
      exact WX.to Kx9469 () [0, 2, 4, 8, 9, 10, 12, 13, 14] rfl ⟨(hS9476.subR [0, 1]).sub [0] (by decide), hx9470.symm⟩
     refine WC.condF2 (fun fb => by kernel_rfl) h9471 ?_
     refine WC.skip ?_
     injection hx9470 with hx9470
     exact WX.to Kx9469 () [0, 2, 4, 8, 9, 10, 12, 13, 14] rfl ⟨(hS9451.subR [0, 1]).sub [0] (by decide), hx9470.symm⟩
    rintro y9487 w9484 ⟨hS9485, hq9486⟩
    subst hq9486
    have hl9446 := sum_inr hl9446
    refine WX.next ?_
    refine WC.seq ?_
    refine WC.region ?_
    refine seg 6 [.v (iv p1.Height)] [0, 2, 4, 8, 9, 10, 12, 13, 14, 64] [(0, (.slice A_p0 p0.length c_p0)), (2, (.bool p2)), (4, (pt g9269)), (8, (iv (rdD p1.Cells x9440 0))), (9, (iv (Int.tmod x9440 p1.Width))), (10, (iv (w64 (Int.tdiv x9440 p1.Width)))), (12, (.slice A_p1_Cells p1.Cells.length c_p1_Cells)), (13, (iv (p1.Cells.length : Int))), (14, (iv x9440)), (64, (.bool (decide (w64 ((w64 (Int.tdiv x9440 p1.Width)) + 1) < p1.Height))))] [.cell ⟨g9269, 1, none⟩ (iv p1.Height)] (fun fb => by kernel_rfl) rfl ⟨hS9485.cell 0 rfl 1 rfl, trivial⟩ ?_
    refine WL.cutV (T := Bool) 8 (fun t => [(66, (.bool t)), (0, (.slice A_p0 p0.length c_p0)), (2, (.bool p2)), (4, (pt g9269)), (8, (iv (rdD p1.Cells x9440 0))), (9, (iv (Int.tmod x9440 p1.Width))), (10, (iv (w64 (Int.tdiv x9440 p1.Width)))), (12, (.slice A_p1_Cells p1.Cells.length c_p1_Cells)), (13, (iv (p1.Cells.length : Int))), (14, (iv x9440))]) (fun t => ((decide (w64 ((w64 (Int.tdiv x9440 p1.Width)) + 1) < p1.Height)) || p2) = t) (fun K => ?_) ?_
    ·
     rcases Bool.eq_false_or_eq_true (decide (w64 ((w64 (Int.tdiv x9440 p1.Width)) + 1) < p1.Height)) with h9489 | h9489
     ·
      refine WL.setB 64 h9489 rfl ?_
      refine seg 8 [] [0, 2, 4, 8, 9, 10, 12, 13, 14, 66] [(0, (.slice A_p0 p0.length c_p0)), (2, (.bool p2)), (4, (pt g9269)), (8, (iv (rdD p1.Cells x9440 0))), (9, (iv (Int.tmod x9440 p1.Width))), (10, (iv (w64 (Int.tdiv x9440 p1.Width)))), (12, (.slice A_p1_Cells p1.Cells.length c_p1_Cells)), (13, (iv (p1.Cells.length : Int))), (14, (iv x9440)), (66, (.bool true))] [] (fun fb => by kernel_rfl) rfl trivial ?_
      exact WL.toV K true [66, 0, 2, 4, 8, 9, 10, 12, 13, 14] rfl (by first | (rw [h9489]; done) | (rw [h9489]; rfl))
     refine WL.setB 64 h9489 rfl ?_
     refine seg 8 [] [0, 2, 4, 8, 9, 10, 12, 13, 14, 66] [(0, (.slice A_p0 p0.length c_p0)), (2, (.bool p2)), (4, (pt g9269)), (8, (iv (rdD p1.Cells x9440 0))), (9, (iv (Int.tmod x9440 p1.Width))), (10, (iv (w64 (Int.tdiv x9440 p1.Width)))), (12, (.slice A_p1_Cells p1.Cells.length c_p1_Cells)), (13, (iv (p1.Cells.length : Int))), (14, (iv x9440)), (66, (.bool p2))] [] (fun fb => by kernel_rfl) rfl trivial ?_
     exact WL.toV K p2 [66, 0, 2, 4, 8, 9, 10, 12, 13, 14] rfl (by first | (rw [h9489]; done) | (rw [h9489]; rfl))
    rintro b9490 rfl
    refine WL.done rfl ?_
    refine WX.next ?_
    obtain ⟨x9507, hx9508, hl9446⟩ := bind_some hl9446
    refine WC.cutN (T := Unit) (fun t => [(0, (.slice A_p0 p0.length c_p0)), (2, (.bool p2)), (4, (pt g9269)), (12, (.slice A_p1_Cells p1.Cells.length c_p1_Cells)), (13, (iv (p1.Cells.length : Int))), (14, (iv x9440))]) (fun t w1 => St NoS w w1 [rowR enc_Tile A_p0 c_p0 p0, rowR encInt A_p1_Cells c_p1_Cells p1.Cells] [blk g9269 (.cells #[(iv p1.Width), (iv p1.Height), (.slice A_p1_Cells p1.Cells.length c_p1_Cells)] 38 (0, 0))] ∧ x9507 = .inr t) (fun Kx9507 => ?_) ?_
    ·
     rcases br_some hx9508 with ⟨h9509, hx9508⟩ | ⟨h9509, hx9508⟩
     ·refine WC.condT2 (fun fb => by kernel_rfl) h9509 ?_
      refine WC.seq ?_
      obtain ⟨h9520, hx9508⟩ := as_some hx9508
      obtain ⟨h9521, hx9508⟩ := as_some hx9508
      obtain ⟨h9522, hx9508⟩ := as_some hx9508
      obtain ⟨h9523, hx9508⟩ := as_some hx9508
      refine WC.regionD ([(4, ((adr A_p0).add (((rdD p1.Cells x9440 0)).toNat * 4)), (iv ((rdD p0 (rdD p1.Cells x9440 0) z_Tile).N))), (7, ⟨g9269, 2, none⟩, (.slice A_p1_Cells p1.Cells.length c_p1_Cells)), (11, ⟨g9269, 1, none⟩, (iv p1.Height)), (14, ⟨g9269, 0, none⟩, (iv p1.Width)), (19, ((adr A_p1_Cells).add ((w64 ((w64 ((Int.tmod (w64 ((w64 (Int.tdiv x9440 p1.Width)) + 1)) p1.Height) * p1.Width)) + (Int.tmod x9440 p1.Width))).toNat * 1)), (iv (rdD p1.Cells (w64 ((w64 ((Int.tmod (w64 ((w64 (Int.tdiv x9440 p1.Width)) + 1)) p1.Height) * p1.Width)) + (Int.tmod x9440 p1.Width))) 0))), (22, (((adr A_p0).add (((rdD p1.Cells (w64 ((w64 ((Int.tmod (w64 ((w64 (Int.tdiv x9440 p1.Width)) + 1)) p1.Height) * p1.Width)) + (Int.tmod x9440 p1.Width))) 0)).toNat * 4)).add 2), (iv ((rdD p0 (rdD p1.Cells (w64 ((w64 ((Int.tmod (w64 ((w64 (Int.tdiv x9440 p1.Width)) + 1)) p1.Height) * p1.Width)) + (Int.tmod x9440 p1.Width))) 0) z_Tile).S)))], [0, 1, 2, 3, 4, 5, 6, 7, 8, 9, 10, 11, 12, 13, 14, 15, 16, 17, 18, 19, 20, 21, 22, 23], [[], [], [0, 1], [0, 1, 2], [0, 1, 2, 3], [], [], [6], [], [8], [], [10], [8, 9, 10, 11], [], [13], [8, 9, 10, 11, 12, 13, 14], [], [8, 9, 10, 11, 12, 13, 14, 15, 16], [6, 7, 8, 9, 10, 11, 12, 13, 14, 15, 16, 17], [6, 7, 8, 9, 10, 11, 12, 13, 14, 15, 16, 17, 18], [5, 6, 7, 8, 9, 10, 11, 12, 13, 14, 15, 16, 17, 18, 19], [5, 6, 7, 8, 9, 10, 11, 12, 13, 14, 15, 16, 17, 18, 19, 20], [5, 6, 7, 8, 9, 10, 11, 12, 13, 14, 15, 16, 17, 18, 19, 20, 21], [0, 1, 2, 3, 4, 5, 6, 7, 8, 9, 10, 11, 12, 13, 14, 15, 16, 17, 18, 19, 20, 21, 22]]) [[0, 1, 2, 3, 4, 5, 6, 7, 8, 9, 10, 11, 12, 13, 14, 15, 16, 17, 18, 19, 20, 21, 22, 23]] (by kernel_rfl) (by kernel_rfl) (NoPanic.seq (NoPanic.block (NoPanic.seq (NoPanic.seq (NoPanic.block (NoPanic.seq (NoPanic.body))))))) ?_
      have hS9515 := hS9485.drew
      revert hS9515
      generalize World.drew w9484 = w9514
      intro hS9515
      refine ⟨⟨rowR.cell (hS9515.rd 0).1 z_Tile h9520.1 h9520.2 0 rfl, hS9515.cell 0 rfl 2 rfl, hS9515.cell 0 rfl 1 rfl, hS9515.cell 0 rfl 0 rfl, rowR.cell (hS9515.rd 1).1 0 h9522.1 h9522.2 0 rfl, rowR.cell (hS9515.rd 0).1 z_Tile h9523.1 h9523.2 2 rfl, trivial⟩, forallC ?_ (forallN)⟩
      refine segF 24 [.v (iv ((rdD p0 (rdD p1.Cells x9440 0) z_Tile).N)), .v (.slice A_p1_Cells p1.Cells.length c_p1_Cells), .v (iv p1.Height), .v (iv p1.Width), .v (iv (rdD p1.Cells (w64 ((w64 ((Int.tmod (w64 ((w64 (Int.tdiv x9440 p1.Width)) + 1)) p1.Height) * p1.Width)) + (Int.tmod x9440 p1.Width))) 0)), .v (iv ((rdD p0 (rdD p1.Cells (w64 ((w64 ((Int.tmod (w64 ((w64 (Int.tdiv x9440 p1.Width)) + 1)) p1.Height) * p1.Width)) + (Int.tmod x9440 p1.Width))) 0) z_Tile).S))] [0, 2, 4, 12, 13, 14, 90] [(0, (.slice A_p0 p0.length c_p0)), (2, (.bool p2)), (4, (pt g9269)), (12, (.slice A_p1_Cells p1.Cells.length c_p1_Cells)), (13, (iv (p1.Cells.length : Int))), (14, (iv x9440)), (90, (.bool (((rdD p0 (rdD p1.Cells x9440 0) z_Tile).N) != ((rdD p0 (rdD p1.Cells (w64 ((w64 ((Int.tmod (w64 ((w64 (Int.tdiv x9440 p1.Width)) + 1)) p1.Height) * p1.Width)) + (Int.tmod x9440 p1.Width))) 0) z_Tile).S))))] [.idx A_p0 (rdD p1.Cells x9440 0) p0.length, .ne p1.Height, .idx A_p1_Cells (w64 ((w64 ((Int.tmod (w64 ((w64 (Int.tdiv x9440 p1.Width)) + 1)) p1.Height) * p1.Width)) + (Int.tmod x9440 p1.Width))) p1.Cells.length, .idx A_p0 (rdD p1.Cells (w64 ((w64 ((Int.tmod (w64 ((w64 (Int.tdiv x9440 p1.Width)) + 1)) p1.Height) * p1.Width)) + (Int.tmod x9440 p1.Width))) 0) p0.length] [0, 1, 2, 3, 4, 5] [(4, ((adr A_p0).add (((rdD p1.Cells x9440 0)).toNat * 4)), (iv ((rdD p0 (rdD p1.Cells x9440 0) z_Tile).N))), (7, ⟨g9269, 2, none⟩, (.slice A_p1_Cells p1.Cells.length c_p1_Cells)), (11, ⟨g9269, 1, none⟩, (iv p1.Height)), (14, ⟨g9269, 0, none⟩, (iv p1.Width)), (19, ((adr A_p1_Cells).add ((w64 ((w64 ((Int.tmod (w64 ((w64 (Int.tdiv x9440 p1.Width)) + 1)) p1.Height) * p1.Width)) + (Int.tmod x9440 p1.Width))).toNat * 1)), (iv (rdD p1.Cells (w64 ((w64 ((Int.tmod (w64 ((w64 (Int.tdiv x9440 p1.Width)) + 1)) p1.Height) * p1.Width)) + (Int.tmod x9440 p1.Width))) 0))), (22, (((adr A_p0).add (((rdD p1.Cells (w64 ((w64 ((Int.tmod (w64 ((w64 (Int.tdiv x9440 p1.Width)) + 1)) p1.Height) * p1.Width)) + (Int.tmod x9440 p1.Width))) 0)).toNat * 4)).add 2), (iv ((rdD p0 (rdD p1.Cells (w64 ((w64 ((Int.tmod (w64 ((w64 (Int.tdiv x9440 p1.Width)) + 1)) p1.Height) * p1.Width)) + (Int.tmod x9440 p1.Width))) 0) z_Tile).S)))] (fun fb => by kernel_rfl) rfl ⟨rowR.adr (hS9515.rd 0).1 h9520.1 h9520.2, h9521, rowR.adr (hS9515.rd 1).1 h9522.1 h9522.2, rowR.adr (hS9515.rd 0).1 h9523.1 h9523.2, trivial⟩ rfl ?_
      refine WL.done rfl ?_
      refine WX.next ?_
      rcases br_some hx9508 with ⟨h9524, hx9508⟩ | ⟨h9524, hx9508⟩
      ·refine WC.condT2 (fun fb => by kernel_rfl) h9524 ?_
       refine WC.seq ?_
       refine WC.region ?_
       refine seg 1 [] [6] [(6, (.bool false))] [] (fun fb => by kernel_rfl) rfl trivial ?_
       refine WL.done rfl ?_
       refine WX.next ?_
       refine WC.ret ?_
       injection hx9508 with hx9508
       subst hx9508
       injection hl9446 with hl9446
       subst hl9446
       injection hf with hf
       subst hf
       exact WX.blockR (WX.thenR (WX.thenR (WX.blockR (WX.thenR (WX.ret_ [] (.bool false) [] (fun fb => by kernel_rfl) trivial ⟨_, rfl, rfl, hS9515.keep⟩)))))
      refine WC.condF2 (fun fb => by kernel_rfl) h9524 ?_
      refine WC.skip ?_
      injection hx9508 with hx9508
      exact WX.to Kx9507 () [0, 2, 4, 12, 13, 14] rfl ⟨(hS9515.subR [0, 1]).sub [0] (by decide), hx9508.symm⟩
     refine WC.condF2 (fun fb => by kernel_rfl) h9509 ?_
     refine WC.skip ?_
     injection hx9508 with hx9508
     exact WX.to Kx9507 () [0, 2, 4, 12, 13, 14] rfl ⟨(hS9485.subR [0, 1]).sub [0] (by decide), hx9508.symm⟩
    rintro y9528 w9525 ⟨hS9526, hq9527⟩
    subst hq9527
    have hl9446 := sum_inr hl9446
    refine WX.blockN (WX.next ?_)
    refine WC.region ?_
    refine seg 2 [] [0, 2, 4, 12, 13, 14] [(0, (.slice A_p0 p0.length c_p0)), (2, (.bool p2)), (4, (pt g9269)), (12, (.slice A_p1_Cells p1.Cells.length c_p1_Cells)), (13, (iv (p1.Cells.length : Int))), (14, (iv (w64 (x9440 + 1))))] [] (fun fb => by kernel_rfl) rfl trivial ?_
    refine WL.done rfl ?_
    exact WX.again k9443 (Nat.lt_succ_self _) (w64 (x9440 + 1)) [0, 2, 4, 12, 13, 14] rfl ⟨(hS9526.subR [0, 1]).sub [0] (by decide), hl9446⟩
   refine WC.condF2 (fun fb => by kernel_rfl) h9447 ?_
   refine WC.exit ?_
   injection hl9446 with hl9446
   exact WX.thenX (WX.thenX (WX.blockHere (WX.to Kx9441 () [] rfl ⟨(hS9445.subR [0, 1]).sub [] (by decide), hl9446.symm⟩)))
 rintro y9533 w9530 ⟨hS9531, hq9532⟩
 subst hq9532
 have hf := sum_inr hf
 refine WX.next ?_
 refine WC.seq ?_
 refine WC.region ?_
 refine seg 1 [] [6] [(6, (.bool true))] [] (fun fb => by kernel_rfl) rfl trivial ?_
 refine WL.done rfl ?_
 refine WX.next ?_
 refine WC.ret ?_
 injection hf with hf
 subst hf
 exact WX.ret_ [] (.bool true) [] (fun fb => by kernel_rfl) trivial ⟨_, rfl, rfl, hS9531.keep⟩
theorem tile_Repeats_calls (k : Nat) (p0 : List Tile) (p1 : Pattern) (A_p0 : Option Addr) (c_p0 : Nat) (A_p1_Cells : Option Addr) (c_p1_Cells : Nat) (r : Bool) (w : World) (hR0 : RO NoS w (rowR enc_Tile A_p0 c_p0 p0)) (hR1 : RO NoS w (rowR encInt A_p1_Cells c_p1_Cells p1.Cells)) (hf : tile_Repeats k p0 p1 = some r) :
  CallsR Try.prog 27 #[(.slice A_p0 p0.length c_p0), (.agg #[(iv p1.Width), (iv p1.Height), (.slice A_p1_Cells p1.Cells.length c_p1_Cells)])] w (fun v w' => v = (.bool r) ∧ Keeps NoS w w') := by
 have hS : St NoS w w [rowR enc_Tile A_p0 c_p0 p0, rowR encInt A_p1_Cells c_p1_Cells p1.Cells] [] := St.init (ro_cons hR0 (ro_cons hR1 (ro_nil _ _)))
 refine enter 13 Try.func27 rfl Try.ntmps27 rfl ?_
 unfold tile_Repeats at hf
 refine WC.seq ?_
 refine WC.region ?_
 refine WL.new hS 3 [] (fun g => (.pointer (some ⟨g, 0, none⟩))) (.cells #[(iv p1.Width), (iv p1.Height), (.slice A_p1_Cells p1.Cells.length c_p1_Cells)] 38 (0, 0)) [] (fun fb g => by kernel_rfl) trivial (fun g9151 w9152 hS9153 => ?_)
 refine ⟨trivial, ?_⟩
 refine seg 2 [] [0, 3] [(0, (.slice A_p0 p0.length c_p0)), (3, (pt g9151))] [] (fun fb => by kernel_rfl) rfl trivial ?_
 refine WL.done rfl ?_
 refine WX.next ?_
 refine WC.seq ?_
 refine WC.region ?_
 refine seg 2 [.v (iv p1.Width), .v (iv p1.Height), .v (.slice A_p1_Cells p1.Cells.length c_p1_Cells)] [0, 3, 5, 6] [(0, (.slice A_p0 p0.length c_p0)), (3, (pt g9151)), (5, (.slice A_p0 p0.length c_p0)), (6, (.agg #[(iv p1.Width), (iv p1.Height), (.slice A_p1_Cells p1.Cells.length c_p1_Cells)]))] [.cell ⟨g9151, 0, none⟩ (iv p1.Width), .cell ⟨g9151, 1, none⟩ (iv p1.Height), .cell ⟨g9151, 2, none⟩ (.slice A_p1_Cells p1.Cells.length c_p1_Cells)] (fun fb => by kernel_rfl) rfl ⟨hS9153.cell 0 rfl 0 rfl, hS9153.cell 0 rfl 1 rfl, hS9153.cell 0 rfl 2 rfl, trivial⟩ ?_
 obtain ⟨t9264, ht9265, hf⟩ := bind_some hf
 refine WL.call (some 7) 48 #[(.slice A_p0 p0.length c_p0), (.agg #[(iv p1.Width), (iv p1.Height), (.slice A_p1_Cells p1.Cells.length c_p1_Cells)])] (fun fb => by kernel_rfl) (tile_of_calls _ p0 p1 A_p0 c_p0 A_p1_Cells c_p1_Cells t9264 _ (hS9153.rd 0) (hS9153.rd 1) ht9265) (fun v w9266 hR9267 => ?_)
 obtain ⟨rfl, hk_⟩ := hR9267
 have hS9268 := hS9153.keepN hk_
 refine ⟨trivial, ?_⟩
 refine seg 4 [] [0, 3, 8] [(0, (.slice A_p0 p0.length c_p0)), (3, (pt g9151)), (8, (.bool t9264))] [] (fun fb => by kernel_rfl) rfl trivial ?_
 obtain ⟨x9541, hx9542, hf⟩ := bind_some hf
 refine WL.cutW (T := Bool) 8 (fun t => [(12, (.bool t))]) (fun t w1 => (St NoS w w1 [rowR enc_Tile A_p0 c_p0 p0, rowR encInt A_p1_Cells c_p1_Cells p1.Cells] [] ∧ x9541 = t) ∧ CellsOK [] w1) (fun K => ?_) ?_
 ·
  rcases br_some hx9542 with ⟨h9543, hx9542⟩ | ⟨h9543, hx9542⟩
  ·
   refine WL.setB 8 h9543 rfl ?_
   refine seg 6 [.v (iv p1.Width), .v (iv p1.Height), .v (.slice A_p1_Cells p1.Cells.length c_p1_Cells)] [8, 9, 10] [(8, (.bool true)), (9, (.slice A_p0 p0.length c_p0)), (10, (.agg #[(iv p1.Width), (iv p1.Height), (.slice A_p1_Cells p1.Cells.length c_p1_Cells)]))] [.cell ⟨g9151, 0, none⟩ (iv p1.Width), .cell ⟨g9151, 1, none⟩ (iv p1.Height), .cell ⟨g9151, 2, none⟩ (.slice A_p1_Cells p1.Cells.length c_p1_Cells)] (fun fb => by kernel_rfl) rfl ⟨hS9268.cell 0 rfl 0 rfl, hS9268.cell 0 rfl 1 rfl, hS9268.cell 0 rfl 2 rfl, trivial⟩ ?_
   obtain ⟨t9544, ht9545, hx9542⟩ := bind_some hx9542
   refine WL.call (some 11) 49 #[(.slice A_p0 p0.length c_p0), (.agg #[(iv p1.Width), (iv p1.Height), (.slice A_p1_Cells p1.Cells.length c_p1_Cells)]), (.bool true)] (fun fb => by kernel_rfl) (tile_joins_calls _ p0 p1 true A_p0 c_p0 A_p1_Cells c_p1_Cells t9544 _ (hS9268.rd 0) (hS9268.rd 1) ht9545) (fun v w9546 hR9547 => ?_)
   obtain ⟨rfl, hk_⟩ := hR9547
   have hS9548 := hS9268.keepN hk_
   refine ⟨trivial, ?_⟩
   refine seg 8 [] [12] [(12, (.bool t9544))] [] (fun fb => by kernel_rfl) rfl trivial ?_
   injection hx9542 with hx9542
   exact WL.to K t9544 [12] rfl ⟨⟨(hS9548.subR [0, 1]).sub [] (by decide), hx9542.symm⟩, trivial⟩
  refine WL.setB 8 h9543 rfl ?_
  refine seg 8 [] [12] [(12, (.bool false))] [] (fun fb => by kernel_rfl) rfl trivial ?_
  injection hx9542 with hx9542
  exact WL.to K false [12] rfl ⟨⟨(hS9268.subR [0, 1]).sub [] (by decide), hx9542.symm⟩, trivial⟩
 rintro y9549 w9551 ⟨⟨hS9552, hq9550⟩, hF9553⟩
 subst hq9550
 refine seg 9 [] [4] [(4, (.bool x9541))] [] (fun fb => by kernel_rfl) rfl trivial ?_
 refine WL.done rfl ?_
 refine WX.next ?_
 refine WC.ret ?_
 injection hf with hf
 subst hf
 exact WX.ret_ [] (.bool x9541) [] (fun fb => by kernel_rfl) trivial ⟨_, rfl, rfl, hS9552.keep⟩
theorem decide_Check_calls (k : Nat) (p0 : List Tile) (p1 : Verdict) (A_p0 : Option Addr) (c_p0 : Nat) (A_p1_Torus_Cells : Option Addr) (c_p1_Torus_Cells : Nat) (r : Bool × Int) (w : World) (hR0 : RO NoS w (rowR enc_Tile A_p0 c_p0 p0)) (hR1 : RO NoS w (rowR encInt A_p1_Torus_Cells c_p1_Torus_Cells p1.Torus.Cells)) (hf : decide_Check k p0 p1 = some r) :
  CallsR Try.prog 18 #[(.slice A_p0 p0.length c_p0), (.agg #[(.bool p1.Fills), (iv p1.Torus.Width), (iv p1.Torus.Height), (.slice A_p1_Torus_Cells p1.Torus.Cells.length c_p1_Torus_Cells), (iv p1.Side)])] w (fun v w' => v = (.tuple #[(.bool r.1), (iv r.2)]) ∧ Keeps NoS w w') := by
 have hS : St NoS w w [rowR enc_Tile A_p0 c_p0 p0, rowR encInt A_p1_Torus_Cells c_p1_Torus_Cells p1.Torus.Cells] [] := St.init (ro_cons hR0 (ro_cons hR1 (ro_nil _ _)))
 refine enter 52 Try.func18 rfl Try.ntmps18 rfl ?_
 unfold decide_Check at hf
 refine WC.seq ?_
 refine WC.region ?_
 refine WL.new hS 3 [] (fun g => (.pointer (some ⟨g, 0, none⟩))) (.cells #[(.bool p1.Fills), (iv p1.Torus.Width), (iv p1.Torus.Height), (.slice A_p1_Torus_Cells p1.Torus.Cells.length c_p1_Torus_Cells), (iv p1.Side)] 40 (0, 0)) [] (fun fb g => by kernel_rfl) trivial (fun g9140 w9141 hS9142 => ?_)
 refine ⟨trivial, ?_⟩
 refine seg 3 [] [0, 3] [(0, (.slice A_p0 p0.length c_p0)), (3, (pt g9140))] [] (fun fb => by kernel_rfl) rfl trivial ?_
 refine WL.done rfl ?_
 refine WX.next ?_
 refine WC.seq ?_
 refine WC.seq ?_
 refine WC.region ?_
 refine seg 1 [] [0, 3, 8] [(0, (.slice A_p0 p0.length c_p0)), (3, (pt g9140)), (8, (.slice A_p0 p0.length c_p0))] [] (fun fb => by kernel_rfl) rfl trivial ?_
 obtain ⟨t9144, ht9145, hf⟩ := bind_some hf
 refine WL.call (some 9) 38 #[(.slice A_p0 p0.length c_p0)] (fun fb => by kernel_rfl) (tile_Valid_calls _ p0 A_p0 c_p0 t9144 _ (hS9142.rd 0) ht9145) (fun v w9146 hR9147 => ?_)
 obtain ⟨rfl, hk_⟩ := hR9147
 have hS9148 := hS9142.keepN hk_
 refine ⟨trivial, ?_⟩
 refine seg 3 [] [0, 3, 10] [(0, (.slice A_p0 p0.length c_p0)), (3, (pt g9140)), (10, (.bool (!t9144)))] [] (fun fb => by kernel_rfl) rfl trivial ?_
 refine WL.done rfl ?_
 refine WX.next ?_
 rcases br_some hf with ⟨h9149, hf⟩ | ⟨h9149, hf⟩
 ·refine WC.condT2 (fun fb => by kernel_rfl) h9149 ?_
  refine WC.seq ?_
  refine WC.region ?_
  refine seg 2 [] [4, 5] [(4, (.bool false)), (5, (iv 1))] [] (fun fb => by kernel_rfl) rfl trivial ?_
  refine WL.done rfl ?_
  refine WX.next ?_
  refine WC.ret ?_
  injection hf with hf
  subst hf
  exact WX.thenR (WX.ret_ [] (.tuple #[(.bool false), (iv 1)]) [] (fun fb => by kernel_rfl) trivial ⟨_, rfl, rfl, hS9148.keep⟩)
 refine WC.condF2 (fun fb => by kernel_rfl) h9149 ?_
 refine WC.skip ?_
 refine WX.next ?_
 refine WC.seq ?_
 refine WC.seq ?_
 refine WC.region ?_
 refine seg 2 [.v (.bool p1.Fills)] [0, 3, 12] [(0, (.slice A_p0 p0.length c_p0)), (3, (pt g9140)), (12, (.bool p1.Fills))] [.cell ⟨g9140, 0, none⟩ (.bool p1.Fills)] (fun fb => by kernel_rfl) rfl ⟨hS9148.cell 0 rfl 0 rfl, trivial⟩ ?_
 refine WL.done rfl ?_
 refine WX.next ?_
 rcases br_some hf with ⟨h9150, hf⟩ | ⟨h9150, hf⟩
 ·refine WC.condT2 (fun fb => by kernel_rfl) h9150 ?_
  refine WC.seq ?_
  refine WC.region ?_
  refine seg 4 [.v (iv p1.Side)] [0, 3, 16] [(0, (.slice A_p0 p0.length c_p0)), (3, (pt g9140)), (16, (.bool (p1.Side == 0)))] [.cell ⟨g9140, 4, none⟩ (iv p1.Side)] (fun fb => by kernel_rfl) rfl ⟨hS9148.cell 0 rfl 4 rfl, trivial⟩ ?_
  obtain ⟨x9560, hx9561, hf⟩ := bind_some hf
  refine WL.cutW (T := Bool) 9 (fun t => [(21, (.bool t))]) (fun t w1 => (St NoS w w1 [rowR enc_Tile A_p0 c_p0 p0, rowR encInt A_p1_Torus_Cells c_p1_Torus_Cells p1.Torus.Cells] [] ∧ x9560 = t) ∧ CellsOK [] w1) (fun K => ?_) ?_
  ·
   rcases br_some hx9561 with ⟨h9562, hx9561⟩ | ⟨h9562, hx9561⟩
   ·
    refine WL.setB 16 h9562 rfl ?_
    refine seg 7 [.v (iv p1.Torus.Width), .v (iv p1.Torus.Height), .v (.slice A_p1_Torus_Cells p1.Torus.Cells.length c_p1_Torus_Cells)] [16, 17, 19] [(16, (.bool true)), (17, (.slice A_p0 p0.length c_p0)), (19, (.agg #[(iv p1.Torus.Width), (iv p1.Torus.Height), (.slice A_p1_Torus_Cells p1.Torus.Cells.length c_p1_Torus_Cells)]))] [.cell ⟨g9140, 1, none⟩ (iv p1.Torus.Width), .cell ⟨g9140, 2, none⟩ (iv p1.Torus.Height), .cell ⟨g9140, 3, none⟩ (.slice A_p1_Torus_Cells p1.Torus.Cells.length c_p1_Torus_Cells)] (fun fb => by kernel_rfl) rfl ⟨hS9148.cell 0 rfl 1 rfl, hS9148.cell 0 rfl 2 rfl, hS9148.cell 0 rfl 3 rfl, trivial⟩ ?_
    obtain ⟨t9563, ht9564, hx9561⟩ := bind_some hx9561
    refine WL.call (some 20) 27 #[(.slice A_p0 p0.length c_p0), (.agg #[(iv p1.Torus.Width), (iv p1.Torus.Height), (.slice A_p1_Torus_Cells p1.Torus.Cells.length c_p1_Torus_Cells)])] (fun fb => by kernel_rfl) (tile_Repeats_calls _ p0 p1.Torus A_p0 c_p0 A_p1_Torus_Cells c_p1_Torus_Cells t9563 _ (hS9148.rd 0) (hS9148.rd 1) ht9564) (fun v w9565 hR9566 => ?_)
    obtain ⟨rfl, hk_⟩ := hR9566
    have hS9567 := hS9148.keepN hk_
    refine ⟨trivial, ?_⟩
    refine seg 9 [] [21] [(21, (.bool t9563))] [] (fun fb => by kernel_rfl) rfl trivial ?_
    injection hx9561 with hx9561
    exact WL.to K t9563 [21] rfl ⟨⟨(hS9567.subR [0, 1]).sub [] (by decide), hx9561.symm⟩, trivial⟩
   refine WL.setB 16 h9562 rfl ?_
   refine seg 9 [] [21] [(21, (.bool false))] [] (fun fb => by kernel_rfl) rfl trivial ?_
   injection hx9561 with hx9561
   exact WL.to K false [21] rfl ⟨⟨(hS9148.subR [0, 1]).sub [] (by decide), hx9561.symm⟩, trivial⟩
  rintro y9568 w9570 ⟨⟨hS9571, hq9569⟩, hF9572⟩
  subst hq9569
  refine seg 11 [] [4, 5] [(4, (.bool x9560)), (5, (iv 0))] [] (fun fb => by kernel_rfl) rfl trivial ?_
  refine WL.done rfl ?_
  refine WX.next ?_
  refine WC.ret ?_
  injection hf with hf
  subst hf
  exact WX.thenR (WX.ret_ [] (.tuple #[(.bool x9560), (iv 0)]) [] (fun fb => by kernel_rfl) trivial ⟨_, rfl, rfl, hS9571.keep⟩)
 refine WC.condF2 (fun fb => by kernel_rfl) h9150 ?_
 refine WC.skip ?_
 refine WX.next ?_
 refine WC.seq ?_
 refine WC.seq ?_
 refine WC.region ?_
 refine seg 5 [.v (iv p1.Torus.Width)] [0, 3, 26] [(0, (.slice A_p0 p0.length c_p0)), (3, (pt g9140)), (26, (.bool (p1.Torus.Width != 0)))] [.cell ⟨g9140, 1, none⟩ (iv p1.Torus.Width)] (fun fb => by kernel_rfl) rfl ⟨hS9148.cell 0 rfl 1 rfl, trivial⟩ ?_
 refine WL.cutV (T := Bool) 10 (fun t => [(31, (.bool t)), (0, (.slice A_p0 p0.length c_p0)), (3, (pt g9140))]) (fun t => ((p1.Torus.Width != 0) || (p1.Torus.Height != 0)) = t) (fun K => ?_) ?_
 ·
  rcases Bool.eq_false_or_eq_true (p1.Torus.Width != 0) with h9573 | h9573
  ·
   refine WL.setB 26 h9573 rfl ?_
   refine seg 10 [] [0, 3, 31] [(0, (.slice A_p0 p0.length c_p0)), (3, (pt g9140)), (31, (.bool true))] [] (fun fb => by kernel_rfl) rfl trivial ?_
   exact WL.toV K true [31, 0, 3] rfl (by first | (rw [h9573]; done) | (rw [h9573]; rfl))
  refine WL.setB 26 h9573 rfl ?_
  refine seg 10 [.v (iv p1.Torus.Height)] [0, 3, 31] [(0, (.slice A_p0 p0.length c_p0)), (3, (pt g9140)), (31, (.bool (p1.Torus.Height != 0)))] [.cell ⟨g9140, 2, none⟩ (iv p1.Torus.Height)] (fun fb => by kernel_rfl) rfl ⟨hS9148.cell 0 rfl 2 rfl, trivial⟩ ?_
  exact WL.toV K (p1.Torus.Height != 0) [31, 0, 3] rfl (by first | (rw [h9573]; done) | (rw [h9573]; rfl))
 rintro b9574 rfl
 refine seg 11 [] [0, 3, 32] [(0, (.slice A_p0 p0.length c_p0)), (3, (pt g9140)), (32, (.bool ((p1.Torus.Width != 0) || (p1.Torus.Height != 0))))] [] (fun fb => by kernel_rfl) rfl trivial ?_
 refine WL.cutV (T := Bool) 17 (fun t => [(38, (.bool t)), (0, (.slice A_p0 p0.length c_p0)), (3, (pt g9140))]) (fun t => (((p1.Torus.Width != 0) || (p1.Torus.Height != 0)) || (decide ((p1.Torus.Cells.length : Int) > 0))) = t) (fun K => ?_) ?_
 ·
  rcases Bool.eq_false_or_eq_true ((p1.Torus.Width != 0) || (p1.Torus.Height != 0)) with h9575 | h9575
  ·
   refine WL.setB 32 h9575 rfl ?_
   refine seg 17 [] [0, 3, 38] [(0, (.slice A_p0 p0.length c_p0)), (3, (pt g9140)), (38, (.bool true))] [] (fun fb => by kernel_rfl) rfl trivial ?_
   exact WL.toV K true [38, 0, 3] rfl (by first | (rw [h9575]; done) | (rw [h9575]; rfl))
  refine WL.setB 32 h9575 rfl ?_
  refine seg 17 [.v (.slice A_p1_Torus_Cells p1.Torus.Cells.length c_p1_Torus_Cells)] [0, 3, 38] [(0, (.slice A_p0 p0.length c_p0)), (3, (pt g9140)), (38, (.bool (decide ((p1.Torus.Cells.length : Int) > 0))))] [.cell ⟨g9140, 3, none⟩ (.slice A_p1_Torus_Cells p1.Torus.Cells.length c_p1_Torus_Cells)] (fun fb => by kernel_rfl) rfl ⟨hS9148.cell 0 rfl 3 rfl, trivial⟩ ?_
  exact WL.toV K (decide ((p1.Torus.Cells.length : Int) > 0)) [38, 0, 3] rfl (by first | (rw [h9575]; done) | (rw [h9575]; rfl))
 rintro b9576 rfl
 refine WL.done rfl ?_
 refine WX.next ?_
 rcases br_some hf with ⟨h9577, hf⟩ | ⟨h9577, hf⟩
 ·refine WC.condT2 (fun fb => by kernel_rfl) h9577 ?_
  refine WC.seq ?_
  refine WC.region ?_
  refine seg 2 [] [4, 5] [(4, (.bool false)), (5, (iv 0))] [] (fun fb => by kernel_rfl) rfl trivial ?_
  refine WL.done rfl ?_
  refine WX.next ?_
  refine WC.ret ?_
  injection hf with hf
  subst hf
  exact WX.thenR (WX.ret_ [] (.tuple #[(.bool false), (iv 0)]) [] (fun fb => by kernel_rfl) trivial ⟨_, rfl, rfl, hS9148.keep⟩)
 refine WC.condF2 (fun fb => by kernel_rfl) h9577 ?_
 refine WC.skip ?_
 refine WX.next ?_
 refine WC.seq ?_
 refine WC.region ?_
 refine seg 3 [.v (iv p1.Side)] [40, 42] [(40, (.slice A_p0 p0.length c_p0)), (42, (iv p1.Side))] [.cell ⟨g9140, 4, none⟩ (iv p1.Side)] (fun fb => by kernel_rfl) rfl ⟨hS9148.cell 0 rfl 4 rfl, trivial⟩ ?_
 obtain ⟨t9578, ht9579, hf⟩ := bind_some hf
 refine WL.call (some 43) 21 #[(.slice A_p0 p0.length c_p0), (iv p1.Side)] (fun fb => by kernel_rfl) (square_Exists_calls _ p0 p1.Side A_p0 c_p0 t9578 _ (hS9148.rd 0) ht9579) (fun v w9580 hR9581 => ?_)
 obtain ⟨rfl, hk_⟩ := hR9581
 have hS9582 := hS9148.keepN hk_
 refine ⟨trivial, ?_⟩
 refine seg 9 [] [6, 7] [(6, (.bool t9578.1)), (7, (iv t9578.2))] [] (fun fb => by kernel_rfl) rfl trivial ?_
 refine WL.done rfl ?_
 refine WX.next ?_
 refine WC.seq ?_
 refine WC.region ?_
 refine seg 3 [] [6, 48] [(6, (.bool t9578.1)), (48, (.bool (t9578.2 == 0)))] [] (fun fb => by kernel_rfl) rfl trivial ?_
 refine WL.cutV (T := Bool) 6 (fun t => [(51, (.bool t))]) (fun t => ((t9578.2 == 0) && (!t9578.1)) = t) (fun K => ?_) ?_
 ·
  rcases Bool.eq_false_or_eq_true (t9578.2 == 0) with h9583 | h9583
  ·
   refine WL.setB 48 h9583 rfl ?_
   refine seg 6 [] [51] [(51, (.bool (!t9578.1)))] [] (fun fb => by kernel_rfl) rfl trivial ?_
   exact WL.toV K (!t9578.1) [51] rfl (by first | (rw [h9583]; done) | (rw [h9583]; rfl))
  refine WL.setB 48 h9583 rfl ?_
  refine seg 6 [] [51] [(51, (.bool false))] [] (fun fb => by kernel_rfl) rfl trivial ?_
  exact WL.toV K false [51] rfl (by first | (rw [h9583]; done) | (rw [h9583]; rfl))
 rintro b9584 rfl
 refine seg 8 [] [4, 5] [(4, (.bool ((t9578.2 == 0) && (!t9578.1)))), (5, (iv 0))] [] (fun fb => by kernel_rfl) rfl trivial ?_
 refine WL.done rfl ?_
 refine WX.next ?_
 refine WC.ret ?_
 injection hf with hf
 subst hf
 exact WX.ret_ [] (.tuple #[(.bool ((t9578.2 == 0) && (!t9578.1))), (iv 0)]) [] (fun fb => by kernel_rfl) trivial ⟨_, rfl, rfl, hS9582.keep⟩
theorem ref01_colour_calls (p0 : Int)  (r : Bool) (w : World)  (hf : ref01_colour p0 = some r) :
  CallsR Try.prog 35 #[(iv p0)] w (fun v w' => v = (.bool r) ∧ Keeps NoS w w') := by
 have hS : St NoS w w [] [] := St.init (ro_nil _ _)
 refine enter 9 Try.func35 rfl Try.ntmps35 rfl ?_
 unfold ref01_colour at hf
 refine WC.seq ?_
 refine WC.region ?_
 refine seg 1 [] [0] [(0, (iv p0))] [] (fun fb => by kernel_rfl) rfl trivial ?_
 refine WL.done rfl ?_
 refine WX.next ?_
 refine WC.seq ?_
 refine WC.region ?_
 refine seg 3 [] [0, 5] [(0, (iv p0)), (5, (.bool (decide (p0 ≥ 0))))] [] (fun fb => by kernel_rfl) rfl trivial ?_
 refine WL.cutV (T := Bool) 6 (fun t => [(8, (.bool t))]) (fun t => ((decide (p0 ≥ 0)) && (decide (p0 < 1000))) = t) (fun K => ?_) ?_
 ·
  rcases Bool.eq_false_or_eq_true (decide (p0 ≥ 0)) with h9599 | h9599
  ·
   refine WL.setB 5 h9599 rfl ?_
   refine seg 6 [] [8] [(8, (.bool (decide (p0 < 1000))))] [] (fun fb => by kernel_rfl) rfl trivial ?_
   exact WL.toV K (decide (p0 < 1000)) [8] rfl (by first | (rw [h9599]; done) | (rw [h9599]; rfl))
  refine WL.setB 5 h9599 rfl ?_
  refine seg 6 [] [8] [(8, (.bool false))] [] (fun fb => by kernel_rfl) rfl trivial ?_
  exact WL.toV K false [8] rfl (by first | (rw [h9599]; done) | (rw [h9599]; rfl))
 rintro b9600 rfl
 refine seg 7 [] [2] [(2, (.bool ((decide (p0 ≥ 0)) && (decide (p0 < 1000)))))] [] (fun fb => by kernel_rfl) rfl trivial ?_
 refine WL.done rfl ?_
 refine WX.next ?_
 refine WC.ret ?_
 injection hf with hf
 subst hf
 exact WX.ret_ [] (.bool ((decide (p0 ≥ 0)) && (decide (p0 < 1000)))) [] (fun fb => by kernel_rfl) trivial ⟨_, rfl, rfl, hS.keep⟩
theorem ref01_Index_calls (k : Nat) (p0 : List Tile) (p1 : Tile) (A_p0 : Option Addr) (c_p0 : Nat) (r : Int) (w : World) (hR0 : RO NoS w (rowR enc_Tile A_p0 c_p0 p0)) (hf : ref01_Index k p0 p1 = some r) :
  CallsR Try.prog 12 #[(.slice A_p0 p0.length c_p0), (.agg #[(iv p1.N), (iv p1.E), (iv p1.S), (iv p1.W)])] w (fun v w' => v = (iv r) ∧ Keeps NoS w w') := by
 have hS : St NoS w w [rowR enc_Tile A_p0 c_p0 p0] [] := St.init (ro_cons hR0 (ro_nil _ _))
 refine enter 19 Try.func12 rfl Try.ntmps12 rfl ?_
 unfold ref01_Index at hf
 refine WC.seq ?_
 refine WC.region ?_
 refine WL.new hS 3 [] (fun g => (.pointer (some ⟨g, 0, none⟩))) (.cells #[(iv p1.N), (iv p1.E), (iv p1.S), (iv p1.W)] 24 (0, 0)) [] (fun fb g => by kernel_rfl) trivial (fun g9665 w9666 hS9667 => ?_)
 refine ⟨trivial, ?_⟩
 refine seg 2 [] [0, 3] [(0, (.slice A_p0 p0.length c_p0)), (3, (pt g9665))] [] (fun fb => by kernel_rfl) rfl trivial ?_
 refine WL.done rfl ?_
 refine WX.next ?_
 refine WC.seq ?_
 refine WC.seq ?_
 refine WC.region ?_
 refine seg 1 [] [0, 3, 5] [(0, (.slice A_p0 p0.length c_p0)), (3, (pt g9665)), (5, (iv 0))] [] (fun fb => by kernel_rfl) rfl trivial ?_
 refine WL.done rfl ?_
 refine WX.next ?_
 obtain ⟨x9685, hx9686, hf⟩ := bind_some hf
 refine WC.cutN (T := Unit) (fun t => []) (fun t w1 => St NoS w w1 [rowR enc_Tile A_p0 c_p0 p0] [] ∧ x9685 = .inr t) (fun Kx9685 => ?_) ?_
 ·
  refine WC.block ?_
  refine WC.loop (T := Int) (fun t => [(0, (.slice A_p0 p0.length c_p0)), (3, (pt g9665)), (5, (iv t))]) (fun n t w1 => St NoS w w1 [rowR enc_Tile A_p0 c_p0 p0] [blk g9665 (.cells #[(iv p1.N), (iv p1.E), (iv p1.S), (iv p1.W)] 24 (0, 0))] ∧ ref01_Index.l0 n t p0 p1 = some x9685) k 0 [0, 3, 5] rfl ⟨(hS9667.subR [0]).sub [0] (by decide), hx9686⟩ ?_
  rintro k9687 x9684 w9688 ⟨hS9689, hl9690⟩
  cases k9687 with
  | zero => rw [ref01_Index.l0] at hl9690; cases hl9690
  | succ k9687 =>
   rw [ref01_Index.l0] at hl9690
   refine WC.seq ?_
   refine WC.seq ?_
   refine WC.region ?_
   refine seg 4 [] [0, 3, 5, 9] [(0, (.slice A_p0 p0.length c_p0)), (3, (pt g9665)), (5, (iv x9684)), (9, (.bool (decide (x9684 < (p0.length : Int)))))] [] (fun fb => by kernel_rfl) rfl trivial ?_
   refine WL.done rfl ?_
   refine WX.next ?_
   rcases br_some hl9690 with ⟨h9691, hl9690⟩ | ⟨h9691, hl9690⟩
   ·refine WC.condT2 (fun fb => by kernel_rfl) h9691 ?_
    refine WC.skip ?_
    refine WX.next ?_
    refine WC.seq ?_
    refine WC.block ?_
    refine WC.seq ?_
    obtain ⟨h9696, hl9690⟩ := as_some hl9690
    refine WC.regionD ([(3, ((adr A_p0).add ((x9684).toNat * 4)), (iv ((rdD p0 x9684 z_Tile).N))), (3, (((adr A_p0).add ((x9684).toNat * 4)).add 1), (iv ((rdD p0 x9684 z_Tile).E))), (3, (((adr A_p0).add ((x9684).toNat * 4)).add 2), (iv ((rdD p0 x9684 z_Tile).S))), (3, (((adr A_p0).add ((x9684).toNat * 4)).add 3), (iv ((rdD p0 x9684 z_Tile).W))), (4, ⟨g9665, 0, none⟩, (iv p1.N)), (4, ⟨g9665, 1, none⟩, (iv p1.E)), (4, ⟨g9665, 2, none⟩, (iv p1.S)), (4, ⟨g9665, 3, none⟩, (iv p1.W))], [0, 1, 2, 3, 4, 5], [[], [], [0, 1], [0, 1, 2], [], [0, 1, 2, 3, 4]]) [[0, 1, 2, 3, 4, 5]] (by kernel_rfl) (by kernel_rfl) (NoPanic.seq (NoPanic.block (NoPanic.seq (NoPanic.seq (NoPanic.block (NoPanic.seq (NoPanic.body))))))) ?_
    have hS9694 := hS9689.drew
    revert hS9694
    generalize World.drew w9688 = w9693
    intro hS9694
    refine ⟨⟨rowR.cell (hS9694.rd 0).1 z_Tile h9696.1 h9696.2 0 rfl, rowR.cell (hS9694.rd 0).1 z_Tile h9696.1 h9696.2 1 rfl, rowR.cell (hS9694.rd 0).1 z_Tile h9696.1 h9696.2 2 rfl, rowR.cell (hS9694.rd 0).1 z_Tile h9696.1 h9696.2 3 rfl, hS9694.cell 0 rfl 0 rfl, hS9694.cell 0 rfl 1 rfl, hS9694.cell 0 rfl 2 rfl, hS9694.cell 0 rfl 3 rfl, trivial⟩, forallC ?_ (forallN)⟩
    refine segF 6 [.v (iv ((rdD p0 x9684 z_Tile).N)), .v (iv ((rdD p0 x9684 z_Tile).E)), .v (iv ((rdD p0 x9684 z_Tile).S)), .v (iv ((rdD p0 x9684 z_Tile).W)), .v (iv p1.N), .v (iv p1.E), .v (iv p1.S), .v (iv p1.W)] [0, 3, 5, 17] [(0, (.slice A_p0 p0.length c_p0)), (3, (pt g9665)), (5, (iv x9684)), (17, (.bool (((rdD p0 x9684 z_Tile).N) == p1.N && (((rdD p0 x9684 z_Tile).E) == p1.E && (((rdD p0 x9684 z_Tile).S) == p1.S && (((rdD p0 x9684 z_Tile).W) == p1.W))))))] [.idx A_p0 x9684 p0.length] [0, 1, 2, 3, 4, 5, 6, 7] [(3, ((adr A_p0).add ((x9684).toNat * 4)), (iv ((rdD p0 x9684 z_Tile).N))), (3, (((adr A_p0).add ((x9684).toNat * 4)).add 1), (iv ((rdD p0 x9684 z_Tile).E))), (3, (((adr A_p0).add ((x9684).toNat * 4)).add 2), (iv ((rdD p0 x9684 z_Tile).S))), (3, (((adr A_p0).add ((x9684).toNat * 4)).add 3), (iv ((rdD p0 x9684 z_Tile).W))), (4, ⟨g9665, 0, none⟩, (iv p1.N)), (4, ⟨g9665, 1, none⟩, (iv p1.E)), (4, ⟨g9665, 2, none⟩, (iv p1.S)), (4, ⟨g9665, 3, none⟩, (iv p1.W))] (fun fb => by kernel_rfl) rfl ⟨rowR.adr (hS9694.rd 0).1 h9696.1 h9696.2, trivial⟩ rfl ?_
    refine WL.done rfl ?_
    refine WX.next ?_
    rcases br_some hl9690 with ⟨h9697, hl9690⟩ | ⟨h9697, hl9690⟩
    ·refine WC.condT2 (fun fb => by kernel_rfl) h9697 ?_
     refine WC.seq ?_
     refine WC.region ?_
     refine seg 2 [] [4] [(4, (iv x9684))] [] (fun fb => by kernel_rfl) rfl trivial ?_
     refine WL.done rfl ?_
     refine WX.next ?_
     refine WC.ret ?_
     injection hl9690 with hl9690
     subst hl9690
     injection hf with hf
     subst hf
     exact WX.blockR (WX.thenR (WX.thenR (WX.blockR (WX.thenR (WX.ret_ [] (iv x9684) [] (fun fb => by kernel_rfl) trivial ⟨_, rfl, rfl, hS9694.keep⟩)))))
    refine WC.condF2 (fun fb => by kernel_rfl) h9697 ?_
    refine WC.skip ?_
    refine WX.blockN (WX.next ?_)
    refine WC.region ?_
    refine seg 3 [] [0, 3, 5] [(0, (.slice A_p0 p0.length c_p0)), (3, (pt g9665)), (5, (iv (w64 (x9684 + 1))))] [] (fun fb => by kernel_rfl) rfl trivial ?_
    refine WL.done rfl ?_
    exact WX.again k9687 (Nat.lt_succ_self _) (w64 (x9684 + 1)) [0, 3, 5] rfl ⟨(hS9694.subR [0]).sub [0] (by decide), hl9690⟩
   refine WC.condF2 (fun fb => by kernel_rfl) h9691 ?_
   refine WC.exit ?_
   injection hl9690 with hl9690
   exact WX.thenX (WX.thenX (WX.blockHere (WX.to Kx9685 () [] rfl ⟨(hS9689.subR [0]).sub [] (by decide), hl9690.symm⟩)))
 rintro y9701 w9698 ⟨hS9699, hq9700⟩
 subst hq9700
 have hf := sum_inr hf
 refine WX.next ?_
 refine WC.seq ?_
 refine WC.region ?_
 refine seg 1 [] [4] [(4, (iv (-1)))] [] (fun fb => by kernel_rfl) rfl trivial ?_
 refine WL.done rfl ?_
 refine WX.next ?_
 refine WC.ret ?_
 injection hf with hf
 subst hf
 exact WX.ret_ [] (iv (-1)) [] (fun fb => by kernel_rfl) trivial ⟨_, rfl, rfl, hS9699.keep⟩
theorem ref01_Valid_calls (k : Nat) (p0 : List Tile) (A_p0 : Option Addr) (c_p0 : Nat) (r : Bool) (w : World) (hR0 : RO NoS w (rowR enc_Tile A_p0 c_p0 p0)) (hf : ref01_Valid k p0 = some r) :
  CallsR Try.prog 13 #[(.slice A_p0 p0.length c_p0)] w (fun v w' => v = (.bool r) ∧ Keeps NoS w w') := by
 have hS : St NoS w w [rowR enc_Tile A_p0 c_p0 p0] [] := St.init (ro_cons hR0 (ro_nil _ _))
 refine enter 48 Try.func13 rfl Try.ntmps13 rfl ?_
 unfold ref01_Valid at hf
 refine WC.seq ?_
 refine WC.region ?_
 refine seg 1 [] [0] [(0, (.slice A_p0 p0.length c_p0))] [] (fun fb => by kernel_rfl) rfl trivial ?_
 refine WL.done rfl ?_
 refine WX.next ?_
 refine WC.seq ?_
 refine WC.seq ?_
 refine WC.region ?_
 refine seg 3 [] [0, 7] [(0, (.slice A_p0 p0.length c_p0)), (7, (.bool (decide ((p0.length : Int) > 1000))))] [] (fun fb => by kernel_rfl) rfl trivial ?_
 refine WL.done rfl ?_
 refine WX.next ?_
 rcases br_some hf with ⟨h9590, hf⟩ | ⟨h9590, hf⟩
 ·refine WC.condT2 (fun fb => by kernel_rfl) h9590 ?_
  refine WC.seq ?_
  refine WC.region ?_
  refine seg 1 [] [2] [(2, (.bool false))] [] (fun fb => by kernel_rfl) rfl trivial ?_
  refine WL.done rfl ?_
  refine WX.next ?_
  refine WC.ret ?_
  injection hf with hf
  subst hf
  exact WX.thenR (WX.ret_ [] (.bool false) [] (fun fb => by kernel_rfl) trivial ⟨_, rfl, rfl, hS.keep⟩)
 refine WC.condF2 (fun fb => by kernel_rfl) h9590 ?_
 refine WC.skip ?_
 refine WX.next ?_
 refine WC.seq ?_
 refine WC.seq ?_
 refine WC.region ?_
 refine seg 1 [] [0, 3] [(0, (.slice A_p0 p0.length c_p0)), (3, (iv 0))] [] (fun fb => by kernel_rfl) rfl trivial ?_
 refine WL.done rfl ?_
 refine WX.next ?_
 obtain ⟨x9999, hx10000, hf⟩ := bind_some hf
 refine WC.cutN (T := Unit) (fun t => []) (fun t w1 => St NoS w w1 [rowR enc_Tile A_p0 c_p0 p0] [] ∧ x9999 = .inr t) (fun Kx9999 => ?_) ?_
 ·
  refine WC.block ?_
  refine WC.loop (T := Int) (fun t => [(0, (.slice A_p0 p0.length c_p0)), (3, (iv t))]) (fun n t w1 => St NoS w w1 [rowR enc_Tile A_p0 c_p0 p0] [] ∧ ref01_Valid.l0 n t p0 = some x9999) k 0 [0, 3] rfl ⟨(hS.subR [0]).sub [] (by decide), hx10000⟩ ?_
  rintro k10001 x9998 w10002 ⟨hS10003, hl10004⟩
  cases k10001 with
  | zero => rw [ref01_Valid.l0] at hl10004; cases hl10004
  | succ k10001 =>
   rw [ref01_Valid.l0] at hl10004
   refine WC.seq ?_
   refine WC.seq ?_
   refine WC.region ?_
   refine seg 4 [] [0, 3, 11] [(0, (.slice A_p0 p0.length c_p0)), (3, (iv x9998)), (11, (.bool (decide (x9998 < (p0.length : Int)))))] [] (fun fb => by kernel_rfl) rfl trivial ?_
   refine WL.done rfl ?_
   refine WX.next ?_
   rcases br_some hl10004 with ⟨h10005, hl10004⟩ | ⟨h10005, hl10004⟩
   ·refine WC.condT2 (fun fb => by kernel_rfl) h10005 ?_
    refine WC.skip ?_
    refine WX.next ?_
    refine WC.seq ?_
    refine WC.block ?_
    refine WC.seq ?_
    refine WC.region ?_
    refine seg 2 [] [0, 3, 14, 15] [(0, (.slice A_p0 p0.length c_p0)), (3, (iv x9998)), (14, (.slice A_p0 p0.length c_p0)), (15, (iv x9998))] [] (fun fb => by kernel_rfl) rfl trivial ?_
    obtain ⟨h10006, hl10004⟩ := as_some hl10004
    refine seg 4 [.v (iv ((rdD p0 x9998 z_Tile).N)), .v (iv ((rdD p0 x9998 z_Tile).E)), .v (iv ((rdD p0 x9998 z_Tile).S)), .v (iv ((rdD p0 x9998 z_Tile).W))] [0, 3, 17] [(0, (.slice A_p0 p0.length c_p0)), (3, (iv x9998)), (17, (.agg #[(iv ((rdD p0 x9998 z_Tile).N)), (iv ((rdD p0 x9998 z_Tile).E)), (iv ((rdD p0 x9998 z_Tile).S)), (iv ((rdD p0 x9998 z_Tile).W))]))] [.idx A_p0 x9998 p0.length, .cell ((adr A_p0).add ((x9998).toNat * 4)) (iv ((rdD p0 x9998 z_Tile).N)), .cell (((adr A_p0).add ((x9998).toNat * 4)).add 1) (iv ((rdD p0 x9998 z_Tile).E)), .cell (((adr A_p0).add ((x9998).toNat * 4)).add 2) (iv ((rdD p0 x9998 z_Tile).S)), .cell (((adr A_p0).add ((x9998).toNat * 4)).add 3) (iv ((rdD p0 x9998 z_Tile).W))] (fun fb => by kernel_rfl) rfl ⟨rowR.adr (hS10003.rd 0).1 h10006.1 h10006.2, rowR.cell (hS10003.rd 0).1 z_Tile h10006.1 h10006.2 0 rfl, rowR.cell (hS10003.rd 0).1 z_Tile h10006.1 h10006.2 1 rfl, rowR.cell (hS10003.rd 0).1 z_Tile h10006.1 h10006.2 2 rfl, rowR.cell (hS10003.rd 0).1 z_Tile h10006.1 h10006.2 3 rfl, trivial⟩ ?_
    refine WL.new hS10003 4 [] (fun g => (.pointer (some ⟨g, 0, none⟩))) (.cells #[(iv 0), (iv 0), (iv 0), (iv 0)] 24 (0, 0)) [] (fun fb g => by kernel_rfl) trivial (fun g10007 w10008 hS10009 => ?_)
    refine ⟨trivial, ?_⟩
    refine WL.store hS10009 0 rfl [(0, (iv ((rdD p0 x9998 z_Tile).N))), (1, (iv ((rdD p0 x9998 z_Tile).E))), (2, (iv ((rdD p0 x9998 z_Tile).S))), (3, (iv ((rdD p0 x9998 z_Tile).W)))] #[(iv ((rdD p0 x9998 z_Tile).N)), (iv ((rdD p0 x9998 z_Tile).E)), (iv ((rdD p0 x9998 z_Tile).S)), (iv ((rdD p0 x9998 z_Tile).W))] (fun fb => by kernel_rfl) (by kernel_rfl) rfl [] (by decide) (by decide) (fun w10011 hS10012 => ?_)
    refine ⟨trivial, ?_⟩
    refine WL.done rfl ?_
    refine WX.next ?_
    refine WC.seq ?_
    refine WC.regionD ([(1, ⟨g10007, 0, none⟩, (iv ((rdD p0 x9998 z_Tile).N))), (6, ⟨g10007, 1, none⟩, (iv ((rdD p0 x9998 z_Tile).E))), (12, ⟨g10007, 2, none⟩, (iv ((rdD p0 x9998 z_Tile).S))), (18, ⟨g10007, 3, none⟩, (iv ((rdD p0 x9998 z_Tile).W))), (26, ⟨g10007, 0, none⟩, (iv ((rdD p0 x9998 z_Tile).N))), (26, ⟨g10007, 1, none⟩, (iv ((rdD p0 x9998 z_Tile).E))), (26, ⟨g10007, 2, none⟩, (iv ((rdD p0 x9998 z_Tile).S))), (26, ⟨g10007, 3, none⟩, (iv ((rdD p0 x9998 z_Tile).W)))], [0, 1, 3, 4, 5, 6, 8, 9, 10, 11, 12, 14, 15, 16, 17, 18, 20, 21, 22, 23, 24, 25, 26, 28, 29], [[], [0], [0, 1], [0, 1, 2], [0, 1, 2, 3], [0, 1, 2, 3, 4], [0, 1, 2, 3, 4, 5], [0, 1, 2, 3, 4, 5, 6], [0, 1, 2, 3, 4, 5, 6, 7], [0, 1, 2, 3, 4, 5, 6, 7, 8], [0, 1, 2, 3, 4, 5, 6, 7, 8, 9], [0, 1, 2, 3, 4, 5, 6, 7, 8, 9, 10], [0, 1, 2, 3, 4, 5, 6, 7, 8, 9, 10, 11], [0, 1, 2, 3, 4, 5, 6, 7, 8, 9, 10, 11, 12], [0, 1, 2, 3, 4, 5, 6, 7, 8, 9, 10, 11, 12, 13], [0, 1, 2, 3, 4, 5, 6, 7, 8, 9, 10, 11, 12, 13, 14], [0, 1, 2, 3, 4, 5, 6, 7, 8, 9, 10, 11, 12, 13, 14, 15], [0, 1, 2, 3, 4, 5, 6, 7, 8, 9, 10, 11, 12, 13, 14, 15, 16], [0, 1, 2, 3, 4, 5, 6, 7, 8, 9, 10, 11, 12, 13, 14, 15, 16, 17], [0, 1, 2, 3, 4, 5, 6, 7, 8, 9, 10, 11, 12, 13, 14, 15, 16, 17, 18], [0, 1, 2, 3, 4, 5, 6, 7, 8, 9, 10, 11, 12, 13, 14, 15, 16, 17, 18, 19], [0, 1, 2, 3, 4, 5, 6, 7, 8, 9, 10, 11, 12, 13, 14, 15, 16, 17, 18, 19, 20], [0, 1, 2, 3, 4, 5, 6, 7, 8, 9, 10, 11, 12, 13, 14, 15, 16, 17, 18, 19, 20, 21], [0, 1, 2, 3, 4, 5, 6, 7, 8, 9, 10, 11, 12, 13, 14, 15, 16, 17, 18, 19, 20, 21, 22], [0, 1, 2, 3, 4, 5, 6, 7, 8, 9, 10, 11, 12, 13, 14, 15, 16, 17, 18, 19, 20, 21, 22], [0, 1, 2, 3, 4, 5, 6, 7, 8, 9, 10, 11, 12, 13, 14, 15, 16, 17, 18, 19, 20, 21, 22, 23, 24], [0, 1, 2, 3, 4, 5, 6, 7, 8, 9, 10, 11, 12, 13, 14, 15, 16, 17, 18, 19, 20, 21, 22], [0, 1, 2, 3, 4, 5, 6, 7, 8, 9, 10, 11, 12, 13, 14, 15, 16, 17, 18, 19, 20, 21, 22, 23, 24, 25, 26], [0, 1, 2, 3, 4, 5, 6, 7, 8, 9, 10, 11, 12, 13, 14, 15, 16, 17, 18, 19, 20, 21, 22, 23, 24, 25, 26, 27], [0, 1, 2, 3, 4, 5, 6, 7, 8, 9, 10, 11, 12, 13, 14, 15, 16, 17, 18, 19, 20, 21, 22, 23, 24, 25, 26, 27, 28]]) [[0, 1, 2, 3, 4, 5, 6, 7, 8, 9, 10, 11, 12, 13, 14, 15, 16, 17, 18, 19, 20, 21, 22, 23, 24, 25, 26, 27, 28, 29]] (by kernel_rfl) (by kernel_rfl) (NoPanic.seq (NoPanic.block (NoPanic.seq (NoPanic.seq (NoPanic.block (NoPanic.seq (NoPanic.body))))))) ?_
    have hS10099 := hS10012.drew
    revert hS10099
    generalize World.drew w10011 = w10098
    intro hS10099
    refine ⟨⟨hS10099.cell 0 rfl 0 rfl, hS10099.cell 0 rfl 1 rfl, hS10099.cell 0 rfl 2 rfl, hS10099.cell 0 rfl 3 rfl, hS10099.cell 0 rfl 0 rfl, hS10099.cell 0 rfl 1 rfl, hS10099.cell 0 rfl 2 rfl, hS10099.cell 0 rfl 3 rfl, trivial⟩, forallC ?_ (forallN)⟩
    refine segF 2 [.v (iv ((rdD p0 x9998 z_Tile).N))] [0, 3, 4, 19] [(0, (.slice A_p0 p0.length c_p0)), (3, (iv x9998)), (4, (pt g10007)), (19, (iv ((rdD p0 x9998 z_Tile).N)))] [] [0] [(1, ⟨g10007, 0, none⟩, (iv ((rdD p0 x9998 z_Tile).N)))] (fun fb => by kernel_rfl) rfl trivial rfl ?_
    obtain ⟨t10102, ht10103, hl10004⟩ := bind_some hl10004
    refine WL.call (some 20) 35 #[(iv ((rdD p0 x9998 z_Tile).N))] (fun fb => by kernel_rfl) (ref01_colour_calls ((rdD p0 x9998 z_Tile).N) t10102 _ ht10103) (fun v w10104 hR10105 => ?_)
    obtain ⟨rfl, hk_⟩ := hR10105
    have hS10106 := hS10099.keepN hk_
    refine ⟨⟨hS10106.cell 0 rfl 1 rfl, hS10106.cell 0 rfl 2 rfl, hS10106.cell 0 rfl 3 rfl, hS10106.cell 0 rfl 0 rfl, hS10106.cell 0 rfl 1 rfl, hS10106.cell 0 rfl 2 rfl, hS10106.cell 0 rfl 3 rfl, trivial⟩, ?_⟩
    refine seg 5 [] [0, 3, 4, 22] [(0, (.slice A_p0 p0.length c_p0)), (3, (iv x9998)), (4, (pt g10007)), (22, (.bool (!t10102)))] [] (fun fb => by kernel_rfl) rfl trivial ?_
    obtain ⟨x10113, hx10114, hl10004⟩ := bind_some hl10004
    refine WL.cutW (T := Bool) 10 (fun t => [(0, (.slice A_p0 p0.length c_p0)), (3, (iv x9998)), (4, (pt g10007)), (27, (.bool t))]) (fun t w1 => (St NoS w w1 [rowR enc_Tile A_p0 c_p0 p0] [blk g10007 (.cells #[(iv ((rdD p0 x9998 z_Tile).N)), (iv ((rdD p0 x9998 z_Tile).E)), (iv ((rdD p0 x9998 z_Tile).S)), (iv ((rdD p0 x9998 z_Tile).W))] 24 (0, 0))] ∧ x10113 = t) ∧ CellsOK [] w1) (fun K => ?_) ?_
    ·
     rcases br_some hx10114 with ⟨h10115, hx10114⟩ | ⟨h10115, hx10114⟩
     ·
      refine WL.setB 22 h10115 rfl ?_
      refine seg 10 [] [0, 3, 4, 27] [(0, (.slice A_p0 p0.length c_p0)), (3, (iv x9998)), (4, (pt g10007)), (27, (.bool true))] [] (fun fb => by kernel_rfl) rfl trivial ?_
      injection hx10114 with hx10114
      exact WL.to K true [0, 3, 4, 27] rfl ⟨⟨(hS10106.subR [0]).sub [0] (by decide), hx10114.symm⟩, trivial⟩
     refine WL.setB 22 h10115 rfl ?_
     refine segF 7 [.v (iv ((rdD p0 x9998 z_Tile).E))] [0, 3, 4, 22, 24] [(0, (.slice A_p0 p0.length c_p0)), (3, (iv x9998)), (4, (pt g10007)), (22, (.bool false)), (24, (iv ((rdD p0 x9998 z_Tile).E)))] [] [1] [(6, ⟨g10007, 1, none⟩, (iv ((rdD p0 x9998 z_Tile).E)))] (fun fb => by kernel_rfl) rfl trivial rfl ?_
     obtain ⟨t10116, ht10117, hx10114⟩ := bind_some hx10114
     refine WL.call (some 25) 35 #[(iv ((rdD p0 x9998 z_Tile).E))] (fun fb => by kernel_rfl) (ref01_colour_calls ((rdD p0 x9998 z_Tile).E) t10116 _ ht10117) (fun v w10118 hR10119 => ?_)
     obtain ⟨rfl, hk_⟩ := hR10119
     have hS10120 := hS10106.keepN hk_
     refine ⟨⟨hS10120.cell 0 rfl 2 rfl, hS10120.cell 0 rfl 3 rfl, hS10120.cell 0 rfl 0 rfl, hS10120.cell 0 rfl 1 rfl, hS10120.cell 0 rfl 2 rfl, hS10120.cell 0 rfl 3 rfl, trivial⟩, ?_⟩
     refine seg 10 [] [0, 3, 4, 27] [(0, (.slice A_p0 p0.length c_p0)), (3, (iv x9998)), (4, (pt g10007)), (27, (.bool (!t10116)))] [] (fun fb => by kernel_rfl) rfl trivial ?_
     injection hx10114 with hx10114
     exact WL.to K (!t10116) [0, 3, 4, 27] rfl ⟨⟨(hS10120.subR [0]).sub [0] (by decide), hx10114.symm⟩, trivial⟩
    rintro y10121 w10123 ⟨⟨hS10124, hq10122⟩, hF10125⟩
    subst hq10122
    refine seg 11 [] [0, 3, 4, 28] [(0, (.slice A_p0 p0.length c_p0)), (3, (iv x9998)), (4, (pt g10007)), (28, (.bool x10113))] [] (fun fb => by kernel_rfl) rfl trivial ?_
    obtain ⟨x10132, hx10133, hl10004⟩ := bind_some hl10004
    refine WL.cutW (T := Bool) 16 (fun t => [(0, (.slice A_p0 p0.length c_p0)), (3, (iv x9998)), (4, (pt g10007)), (33, (.bool t))]) (fun t w1 => (St NoS w w1 [rowR enc_Tile A_p0 c_p0 p0] [blk g10007 (.cells #[(iv ((rdD p0 x9998 z_Tile).N)), (iv ((rdD p0 x9998 z_Tile).E)), (iv ((rdD p0 x9998 z_Tile).S)), (iv ((rdD p0 x9998 z_Tile).W))] 24 (0, 0))] ∧ x10132 = t) ∧ CellsOK [] w1) (fun K => ?_) ?_
    ·
     rcases br_some hx10133 with ⟨h10134, hx10133⟩ | ⟨h10134, hx10133⟩
     ·
      refine WL.setB 28 h10134 rfl ?_
      refine seg 16 [] [0, 3, 4, 33] [(0, (.slice A_p0 p0.length c_p0)), (3, (iv x9998)), (4, (pt g10007)), (33, (.bool true))] [] (fun fb => by kernel_rfl) rfl trivial ?_
      injection hx10133 with hx10133
      exact WL.to K true [0, 3, 4, 33] rfl ⟨⟨(hS10124.subR [0]).sub [0] (by decide), hx10133.symm⟩, trivial⟩
     refine WL.setB 28 h10134 rfl ?_
     refine segF 13 [.v (iv ((rdD p0 x9998 z_Tile).S))] [0, 3, 4, 28, 30] [(0, (.slice A_p0 p0.length c_p0)), (3, (iv x9998)), (4, (pt g10007)), (28, (.bool false)), (30, (iv ((rdD p0 x9998 z_Tile).S)))] [] [2] [(12, ⟨g10007, 2, none⟩, (iv ((rdD p0 x9998 z_Tile).S)))] (fun fb => by kernel_rfl) rfl trivial rfl ?_
     obtain ⟨t10135, ht10136, hx10133⟩ := bind_some hx10133
     refine WL.call (some 31) 35 #[(iv ((rdD p0 x9998 z_Tile).S))] (fun fb => by kernel_rfl) (ref01_colour_calls ((rdD p0 x9998 z_Tile).S) t10135 _ ht10136) (fun v w10137 hR10138 => ?_)
     obtain ⟨rfl, hk_⟩ := hR10138
     have hS10139 := hS10124.keepN hk_
     refine ⟨⟨hS10139.cell 0 rfl 3 rfl, hS10139.cell 0 rfl 0 rfl, hS10139.cell 0 rfl 1 rfl, hS10139.cell 0 rfl 2 rfl, hS10139.cell 0 rfl 3 rfl, trivial⟩, ?_⟩
     refine seg 16 [] [0, 3, 4, 33] [(0, (.slice A_p0 p0.length c_p0)), (3, (iv x9998)), (4, (pt g10007)), (33, (.bool (!t10135)))] [] (fun fb => by kernel_rfl) rfl trivial ?_
     injection hx10133 with hx10133
     exact WL.to K (!t10135) [0, 3, 4, 33] rfl ⟨⟨(hS10139.subR [0]).sub [0] (by decide), hx10133.symm⟩, trivial⟩
    rintro y10140 w10142 ⟨⟨hS10143, hq10141⟩, hF10144⟩
    subst hq10141
    refine seg 17 [] [0, 3, 4, 34] [(0, (.slice A_p0 p0.length c_p0)), (3, (iv x9998)), (4, (pt g10007)), (34, (.bool x10132))] [] (fun fb => by kernel_rfl) rfl trivial ?_
    obtain ⟨x10151, hx10152, hl10004⟩ := bind_some hl10004
    refine WL.cutW (T := Bool) 22 (fun t => [(0, (.slice A_p0 p0.length c_p0)), (3, (iv x9998)), (4, (pt g10007)), (39, (.bool t))]) (fun t w1 => (St NoS w w1 [rowR enc_Tile A_p0 c_p0 p0] [blk g10007 (.cells #[(iv ((rdD p0 x9998 z_Tile).N)), (iv ((rdD p0 x9998 z_Tile).E)), (iv ((rdD p0 x9998 z_Tile).S)), (iv ((rdD p0 x9998 z_Tile).W))] 24 (0, 0))] ∧ x10151 = t) ∧ CellsOK [] w1) (fun K => ?_) ?_
    ·
     rcases br_some hx10152 with ⟨h10153, hx10152⟩ | ⟨h10153, hx10152⟩
     ·
      refine WL.setB 34 h10153 rfl ?_
      refine seg 22 [] [0, 3, 4, 39] [(0, (.slice A_p0 p0.length c_p0)), (3, (iv x9998)), (4, (pt g10007)), (39, (.bool true))] [] (fun fb => by kernel_rfl) rfl trivial ?_
      injection hx10152 with hx10152
      exact WL.to K true [0, 3, 4, 39] rfl ⟨⟨(hS10143.subR [0]).sub [0] (by decide), hx10152.symm⟩, trivial⟩
     refine WL.setB 34 h10153 rfl ?_
     refine segF 19 [.v (iv ((rdD p0 x9998 z_Tile).W))] [0, 3, 4, 34, 36] [(0, (.slice A_p0 p0.length c_p0)), (3, (iv x9998)), (4, (pt g10007)), (34, (.bool false)), (36, (iv ((rdD p0 x9998 z_Tile).W)))] [] [3] [(18, ⟨g10007, 3, none⟩, (iv ((rdD p0 x9998 z_Tile).W)))] (fun fb => by kernel_rfl) rfl trivial rfl ?_
     obtain ⟨t10154, ht10155, hx10152⟩ := bind_some hx10152
     refine WL.call (some 37) 35 #[(iv ((rdD p0 x9998 z_Tile).W))] (fun fb => by kernel_rfl) (ref01_colour_calls ((rdD p0 x9998 z_Tile).W) t10154 _ ht10155) (fun v w10156 hR10157 => ?_)
     obtain ⟨rfl, hk_⟩ := hR10157
     have hS10158 := hS10143.keepN hk_
     refine ⟨⟨hS10158.cell 0 rfl 0 rfl, hS10158.cell 0 rfl 1 rfl, hS10158.cell 0 rfl 2 rfl, hS10158.cell 0 rfl 3 rfl, trivial⟩, ?_⟩
     refine seg 22 [] [0, 3, 4, 39] [(0, (.slice A_p0 p0.length c_p0)), (3, (iv x9998)), (4, (pt g10007)), (39, (.bool (!t10154)))] [] (fun fb => by kernel_rfl) rfl trivial ?_
     injection hx10152 with hx10152
     exact WL.to K (!t10154) [0, 3, 4, 39] rfl ⟨⟨(hS10158.subR [0]).sub [0] (by decide), hx10152.symm⟩, trivial⟩
    rintro y10159 w10161 ⟨⟨hS10162, hq10160⟩, hF10163⟩
    subst hq10160
    refine seg 23 [] [0, 3, 4, 40] [(0, (.slice A_p0 p0.length c_p0)), (3, (iv x9998)), (4, (pt g10007)), (40, (.bool x10151))] [] (fun fb => by kernel_rfl) rfl trivial ?_
    obtain ⟨x10172, hx10173, hl10004⟩ := bind_some hl10004
    refine WL.cutW (T := Bool) 30 (fun t => [(0, (.slice A_p0 p0.length c_p0)), (3, (iv x9998)), (47, (.bool t))]) (fun t w1 => (St NoS w w1 [rowR enc_Tile A_p0 c_p0 p0] [] ∧ x10172 = t) ∧ CellsOK [] w1) (fun K => ?_) ?_
    ·
     rcases br_some hx10173 with ⟨h10174, hx10173⟩ | ⟨h10174, hx10173⟩
     ·
      refine WL.setB 40 h10174 rfl ?_
      refine seg 30 [] [0, 3, 47] [(0, (.slice A_p0 p0.length c_p0)), (3, (iv x9998)), (47, (.bool true))] [] (fun fb => by kernel_rfl) rfl trivial ?_
      injection hx10173 with hx10173
      exact WL.to K true [0, 3, 47] rfl ⟨⟨(hS10162.subR [0]).sub [] (by decide), hx10173.symm⟩, trivial⟩
     refine WL.setB 40 h10174 rfl ?_
     refine seg 25 [] [0, 3, 4, 40, 41, 42] [(0, (.slice A_p0 p0.length c_p0)), (3, (iv x9998)), (4, (pt g10007)), (40, (.bool false)), (41, (.slice A_p0 p0.length c_p0)), (42, (iv x9998))] [] (fun fb => by kernel_rfl) rfl trivial ?_
     obtain ⟨h10175, hx10173⟩ := as_some hx10173
     refine seg 26 [] [0, 3, 4, 40, 43] [(0, (.slice A_p0 p0.length c_p0)), (3, (iv x9998)), (4, (pt g10007)), (40, (.bool false)), (43, (.slice (subA A_p0 c_p0 (0 : Int).toNat 4) (x9998.toNat - (0 : Int).toNat) (c_p0 - (0 : Int).toNat)))] [.idx (some ⟨0, 0, none⟩) (0 : Int) (x9998.toNat + 1), .idx (some ⟨0, 0, none⟩) x9998 (c_p0 + 1)] (fun fb => by kernel_rfl) rfl ⟨cut1 h10175.1 h10175.2.1, cut2 h10175.1 h10175.2.1 h10175.2.2 (hS10162.rd 0).1.2, trivial⟩ ?_
     refine WL.reE [0, 3, 4, 40, 43] [(0, (.slice A_p0 p0.length c_p0)), (3, (iv x9998)), (4, (pt g10007)), (40, (.bool false)), (43, (.slice (subA A_p0 c_p0 (0 : Int).toNat 4) (x9998.toNat - (0 : Int).toNat) (c_p0 - (0 : Int).toNat)))] [(0, (.slice A_p0 p0.length c_p0)), (3, (iv x9998)), (4, (pt g10007)), (40, (.bool false)), (43, (.slice (subA A_p0 c_p0 (0 : Int).toNat 4) (cut p0 (0 : Int) x9998).length (c_p0 - (0 : Int).toNat)))] rfl (by rw [cut_length h10175.1 h10175.2.1 h10175.2.2]) ?_
     have hS10176 := hS10162.cutR 0 rfl h10175.1 h10175.2.1 h10175.2.2
     refine segF 27 [.v (iv ((rdD p0 x9998 z_Tile).N)), .v (iv ((rdD p0 x9998 z_Tile).E)), .v (iv ((rdD p0 x9998 z_Tile).S)), .v (iv ((rdD p0 x9998 z_Tile).W))] [0, 3, 40, 43, 44] [(0, (.slice A_p0 p0.length c_p0)), (3, (iv x9998)), (40, (.bool false)), (43, (.slice (subA A_p0 c_p0 (0 : Int).toNat 4) (cut p0 (0 : Int) x9998).length (c_p0 - (0 : Int).toNat))), (44, (.agg #[(iv ((rdD p0 x9998 z_Tile).N)), (iv ((rdD p0 x9998 z_Tile).E)), (iv ((rdD p0 x9998 z_Tile).S)), (iv ((rdD p0 x9998 z_Tile).W))]))] [] [4, 5, 6, 7] [(26, ⟨g10007, 0, none⟩, (iv ((rdD p0 x9998 z_Tile).N))), (26, ⟨g10007, 1, none⟩, (iv ((rdD p0 x9998 z_Tile).E))), (26, ⟨g10007, 2, none⟩, (iv ((rdD p0 x9998 z_Tile).S))), (26, ⟨g10007, 3, none⟩, (iv ((rdD p0 x9998 z_Tile).W)))] (fun fb => by kernel_rfl) rfl trivial rfl ?_
     obtain ⟨t10177, ht10178, hx10173⟩ := bind_some hx10173
     refine WL.call (some 45) 12 #[(.slice (subA A_p0 c_p0 (0 : Int).toNat 4) (cut p0 (0 : Int) x9998).length (c_p0 - (0 : Int).toNat)), (.agg #[(iv ((rdD p0 x9998 z_Tile).N)), (iv ((rdD p0 x9998 z_Tile).E)), (iv ((rdD p0 x9998 z_Tile).S)), (iv ((rdD p0 x9998 z_Tile).W))])] (fun fb => by kernel_rfl) (ref01_Index_calls _ (cut p0 (0 : Int) x9998) (rdD p0 x9998 z_Tile) (subA A_p0 c_p0 (0 : Int).toNat 4) (c_p0 - (0 : Int).toNat) t10177 _ (hS10176.rd 0) ht10178) (fun v w10179 hR10180 => ?_)
     obtain ⟨rfl, hk_⟩ := hR10180
     have hS10181 := hS10176.keepN hk_
     refine ⟨trivial, ?_⟩
     refine seg 30 [] [0, 3, 47] [(0, (.slice A_p0 p0.length c_p0)), (3, (iv x9998)), (47, (.bool (decide (t10177 ≥ 0))))] [] (fun fb => by kernel_rfl) rfl trivial ?_
     injection hx10173 with hx10173
     exact WL.to K (decide (t10177 ≥ 0)) [0, 3, 47] rfl ⟨⟨(hS10181.subR [1]).sub [] (by decide), hx10173.symm⟩, trivial⟩
    rintro y10182 w10184 ⟨⟨hS10185, hq10183⟩, hF10186⟩
    subst hq10183
    refine WL.done rfl ?_
    refine WX.next ?_
    rcases br_some hl10004 with ⟨h10187, hl10004⟩ | ⟨h10187, hl10004⟩
    ·refine WC.condT2 (fun fb => by kernel_rfl) h10187 ?_
     refine WC.seq ?_
     refine WC.region ?_
     refine seg 1 [] [2] [(2, (.bool false))] [] (fun fb => by kernel_rfl) rfl trivial ?_
     refine WL.done rfl ?_
     refine WX.next ?_
     refine WC.ret ?_
     injection hl10004 with hl10004
     subst hl10004
     injection hf with hf
     subst hf
     exact WX.blockR (WX.thenR (WX.thenR (WX.blockR (WX.thenR (WX.ret_ [] (.bool false) [] (fun fb => by kernel_rfl) trivial ⟨_, rfl, rfl, hS10185.keep⟩)))))
    refine WC.condF2 (fun fb => by kernel_rfl) h10187 ?_
    refine WC.skip ?_
    refine WX.blockN (WX.next ?_)
    refine WC.region ?_
    refine seg 3 [] [0, 3] [(0, (.slice A_p0 p0.length c_p0)), (3, (iv (w64 (x9998 + 1))))] [] (fun fb => by kernel_rfl) rfl trivial ?_
    refine WL.done rfl ?_
    exact WX.again k10001 (Nat.lt_succ_self _) (w64 (x9998 + 1)) [0, 3] rfl ⟨(hS10185.subR [0]).sub [] (by decide), hl10004⟩
   refine WC.condF2 (fun fb => by kernel_rfl) h10005 ?_
   refine WC.exit ?_
   injection hl10004 with hl10004
   exact WX.thenX (WX.thenX (WX.blockHere (WX.to Kx9999 () [] rfl ⟨(hS10003.subR [0]).sub [] (by decide), hl10004.symm⟩)))
 rintro y10191 w10188 ⟨hS10189, hq10190⟩
 subst hq10190
 have hf := sum_inr hf
 refine WX.next ?_
 refine WC.seq ?_
 refine WC.region ?_
 refine seg 1 [] [2] [(2, (.bool true))] [] (fun fb => by kernel_rfl) rfl trivial ?_
 refine WL.done rfl ?_
 refine WX.next ?_
 refine WC.ret ?_
 injection hf with hf
 subst hf
 exact WX.ret_ [] (.bool true) [] (fun fb => by kernel_rfl) trivial ⟨_, rfl, rfl, hS10189.keep⟩
theorem ref01_Form_calls (p0 : Pattern) (A_p0_Cells : Option Addr) (c_p0_Cells : Nat) (r : Bool) (w : World) (hR0 : RO NoS w (rowR encInt A_p0_Cells c_p0_Cells p0.Cells)) (hf : ref01_Form p0 = some r) :
  CallsR Try.prog 60 #[(.agg #[(iv p0.Width), (iv p0.Height), (.slice A_p0_Cells p0.Cells.length c_p0_Cells)])] w (fun v w' => v = (.bool r) ∧ Keeps NoS w w') := by
 have hS : St NoS w w [rowR encInt A_p0_Cells c_p0_Cells p0.Cells] [] := St.init (ro_cons hR0 (ro_nil _ _))
 refine enter 40 Try.func60 rfl Try.ntmps60 rfl ?_
 unfold ref01_Form at hf
 refine WC.seq ?_
 refine WC.region ?_
 refine WL.new hS 1 [] (fun g => (.pointer (some ⟨g, 0, none⟩))) (.cells #[(iv p0.Width), (iv p0.Height), (.slice A_p0_Cells p0.Cells.length c_p0_Cells)] 38 (0, 0)) [] (fun fb g => by kernel_rfl) trivial (fun g10230 w10231 hS10232 => ?_)
 refine ⟨trivial, ?_⟩
 refine seg 2 [] [1] [(1, (pt g10230))] [] (fun fb => by kernel_rfl) rfl trivial ?_
 refine WL.done rfl ?_
 refine WX.next ?_
 refine WC.seq ?_
 refine WC.region ?_
 refine seg 4 [.v (iv p0.Width)] [1, 6] [(1, (pt g10230)), (6, (.bool (decide (p0.Width ≥ 1))))] [.cell ⟨g10230, 0, none⟩ (iv p0.Width)] (fun fb => by kernel_rfl) rfl ⟨hS10232.cell 0 rfl 0 rfl, trivial⟩ ?_
 refine WL.cutV (T := Bool) 8 (fun t => [(10, (.bool t)), (1, (pt g10230))]) (fun t => ((decide (p0.Width ≥ 1)) && (decide (p0.Height ≥ 1))) = t) (fun K => ?_) ?_
 ·
  rcases Bool.eq_false_or_eq_true (decide (p0.Width ≥ 1)) with h10234 | h10234
  ·
   refine WL.setB 6 h10234 rfl ?_
   refine seg 8 [.v (iv p0.Height)] [1, 10] [(1, (pt g10230)), (10, (.bool (decide (p0.Height ≥ 1))))] [.cell ⟨g10230, 1, none⟩ (iv p0.Height)] (fun fb => by kernel_rfl) rfl ⟨hS10232.cell 0 rfl 1 rfl, trivial⟩ ?_
   exact WL.toV K (decide (p0.Height ≥ 1)) [10, 1] rfl (by first | (rw [h10234]; done) | (rw [h10234]; rfl))
  refine WL.setB 6 h10234 rfl ?_
  refine seg 8 [] [1, 10] [(1, (pt g10230)), (10, (.bool false))] [] (fun fb => by kernel_rfl) rfl trivial ?_
  exact WL.toV K false [10, 1] rfl (by first | (rw [h10234]; done) | (rw [h10234]; rfl))
 rintro b10235 rfl
 refine seg 9 [] [1, 11] [(1, (pt g10230)), (11, (.bool ((decide (p0.Width ≥ 1)) && (decide (p0.Height ≥ 1)))))] [] (fun fb => by kernel_rfl) rfl trivial ?_
 refine WL.cutV (T := Bool) 13 (fun t => [(15, (.bool t)), (1, (pt g10230))]) (fun t => (((decide (p0.Width ≥ 1)) && (decide (p0.Height ≥ 1))) && (decide (p0.Width ≤ 40000))) = t) (fun K => ?_) ?_
 ·
  rcases Bool.eq_false_or_eq_true ((decide (p0.Width ≥ 1)) && (decide (p0.Height ≥ 1))) with h10236 | h10236
  ·
   refine WL.setB 11 h10236 rfl ?_
   refine seg 13 [.v (iv p0.Width)] [1, 15] [(1, (pt g10230)), (15, (.bool (decide (p0.Width ≤ 40000))))] [.cell ⟨g10230, 0, none⟩ (iv p0.Width)] (fun fb => by kernel_rfl) rfl ⟨hS10232.cell 0 rfl 0 rfl, trivial⟩ ?_
   exact WL.toV K (decide (p0.Width ≤ 40000)) [15, 1] rfl (by first | (rw [h10236]; done) | (rw [h10236]; rfl))
  refine WL.setB 11 h10236 rfl ?_
  refine seg 13 [] [1, 15] [(1, (pt g10230)), (15, (.bool false))] [] (fun fb => by kernel_rfl) rfl trivial ?_
  exact WL.toV K false [15, 1] rfl (by first | (rw [h10236]; done) | (rw [h10236]; rfl))
 rintro b10237 rfl
 refine seg 14 [] [1, 16] [(1, (pt g10230)), (16, (.bool (((decide (p0.Width ≥ 1)) && (decide (p0.Height ≥ 1))) && (decide (p0.Width ≤ 40000)))))] [] (fun fb => by kernel_rfl) rfl trivial ?_
 refine WL.cutV (T := Bool) 18 (fun t => [(20, (.bool t)), (1, (pt g10230))]) (fun t => ((((decide (p0.Width ≥ 1)) && (decide (p0.Height ≥ 1))) && (decide (p0.Width ≤ 40000))) && (decide (p0.Height ≤ 40000))) = t) (fun K => ?_) ?_
 ·
  rcases Bool.eq_false_or_eq_true (((decide (p0.Width ≥ 1)) && (decide (p0.Height ≥ 1))) && (decide (p0.Width ≤ 40000))) with h10238 | h10238
  ·
   refine WL.setB 16 h10238 rfl ?_
   refine seg 18 [.v (iv p0.Height)] [1, 20] [(1, (pt g10230)), (20, (.bool (decide (p0.Height ≤ 40000))))] [.cell ⟨g10230, 1, none⟩ (iv p0.Height)] (fun fb => by kernel_rfl) rfl ⟨hS10232.cell 0 rfl 1 rfl, trivial⟩ ?_
   exact WL.toV K (decide (p0.Height ≤ 40000)) [20, 1] rfl (by first | (rw [h10238]; done) | (rw [h10238]; rfl))
  refine WL.setB 16 h10238 rfl ?_
  refine seg 18 [] [1, 20] [(1, (pt g10230)), (20, (.bool false))] [] (fun fb => by kernel_rfl) rfl trivial ?_
  exact WL.toV K false [20, 1] rfl (by first | (rw [h10238]; done) | (rw [h10238]; rfl))
 rintro b10239 rfl
 refine seg 19 [] [1, 21] [(1, (pt g10230)), (21, (.bool ((((decide (p0.Width ≥ 1)) && (decide (p0.Height ≥ 1))) && (decide (p0.Width ≤ 40000))) && (decide (p0.Height ≤ 40000)))))] [] (fun fb => by kernel_rfl) rfl trivial ?_
 refine WL.cutV (T := Bool) 26 (fun t => [(28, (.bool t)), (1, (pt g10230))]) (fun t => (((((decide (p0.Width ≥ 1)) && (decide (p0.Height ≥ 1))) && (decide (p0.Width ≤ 40000))) && (decide (p0.Height ≤ 40000))) && (decide (w64 (p0.Width * p0.Height) ≤ 40000))) = t) (fun K => ?_) ?_
 ·
  rcases Bool.eq_false_or_eq_true ((((decide (p0.Width ≥ 1)) && (decide (p0.Height ≥ 1))) && (decide (p0.Width ≤ 40000))) && (decide (p0.Height ≤ 40000))) with h10240 | h10240
  ·
   refine WL.setB 21 h10240 rfl ?_
   refine seg 26 [.v (iv p0.Width), .v (iv p0.Height)] [1, 28] [(1, (pt g10230)), (28, (.bool (decide (w64 (p0.Width * p0.Height) ≤ 40000))))] [.cell ⟨g10230, 0, none⟩ (iv p0.Width), .cell ⟨g10230, 1, none⟩ (iv p0.Height)] (fun fb => by kernel_rfl) rfl ⟨hS10232.cell 0 rfl 0 rfl, hS10232.cell 0 rfl 1 rfl, trivial⟩ ?_
   exact WL.toV K (decide (w64 (p0.Width * p0.Height) ≤ 40000)) [28, 1] rfl (by first | (rw [h10240]; done) | (rw [h10240]; rfl))
  refine WL.setB 21 h10240 rfl ?_
  refine seg 26 [] [1, 28] [(1, (pt g10230)), (28, (.bool false))] [] (fun fb => by kernel_rfl) rfl trivial ?_
  exact WL.toV K false [28, 1] rfl (by first | (rw [h10240]; done) | (rw [h10240]; rfl))
 rintro b10241 rfl
 refine seg 27 [] [1, 29] [(1, (pt g10230)), (29, (.bool (((((decide (p0.Width ≥ 1)) && (decide (p0.Height ≥ 1))) && (decide (p0.Width ≤ 40000))) && (decide (p0.Height ≤ 40000))) && (decide (w64 (p0.Width * p0.Height) ≤ 40000)))))] [] (fun fb => by kernel_rfl) rfl trivial ?_
 refine WL.cutV (T := Bool) 37 (fun t => [(39, (.bool t))]) (fun t => ((((((decide (p0.Width ≥ 1)) && (decide (p0.Height ≥ 1))) && (decide (p0.Width ≤ 40000))) && (decide (p0.Height ≤ 40000))) && (decide (w64 (p0.Width * p0.Height) ≤ 40000))) && ((p0.Cells.length : Int) == (w64 (p0.Width * p0.Height)))) = t) (fun K => ?_) ?_
 ·
  rcases Bool.eq_false_or_eq_true (((((decide (p0.Width ≥ 1)) && (decide (p0.Height ≥ 1))) && (decide (p0.Width ≤ 40000))) && (decide (p0.Height ≤ 40000))) && (decide (w64 (p0.Width * p0.Height) ≤ 40000))) with h10242 | h10242
  ·
   refine WL.setB 29 h10242 rfl ?_
   refine seg 37 [.v (.slice A_p0_Cells p0.Cells.length c_p0_Cells), .v (iv p0.Width), .v (iv p0.Height)] [39] [(39, (.bool ((p0.Cells.length : Int) == (w64 (p0.Width * p0.Height)))))] [.cell ⟨g10230, 2, none⟩ (.slice A_p0_Cells p0.Cells.length c_p0_Cells), .cell ⟨g10230, 0, none⟩ (iv p0.Width), .cell ⟨g10230, 1, none⟩ (iv p0.Height)] (fun fb => by kernel_rfl) rfl ⟨hS10232.cell 0 rfl 2 rfl, hS10232.cell 0 rfl 0 rfl, hS10232.cell 0 rfl 1 rfl, trivial⟩ ?_
   exact WL.toV K ((p0.Cells.length : Int) == (w64 (p0.Width * p0.Height))) [39] rfl (by first | (rw [h10242]; done) | (rw [h10242]; rfl))
  refine WL.setB 29 h10242 rfl ?_
  refine seg 37 [] [39] [(39, (.bool false))] [] (fun fb => by kernel_rfl) rfl trivial ?_
  exact WL.toV K false [39] rfl (by first | (rw [h10242]; done) | (rw [h10242]; rfl))
 rintro b10243 rfl
 refine seg 38 [] [2] [(2, (.bool ((((((decide (p0.Width ≥ 1)) && (decide (p0.Height ≥ 1))) && (decide (p0.Width ≤ 40000))) && (decide (p0.Height ≤ 40000))) && (decide (w64 (p0.Width * p0.Height) ≤ 40000))) && ((p0.Cells.length : Int) == (w64 (p0.Width * p0.Height))))))] [] (fun fb => by kernel_rfl) rfl trivial ?_
 refine WL.done rfl ?_
 refine WX.next ?_
 refine WC.ret ?_
 injection hf with hf
 subst hf
 exact WX.ret_ [] (.bool ((((((decide (p0.Width ≥ 1)) && (decide (p0.Height ≥ 1))) && (decide (p0.Width ≤ 40000))) && (decide (p0.Height ≤ 40000))) && (decide (w64 (p0.Width * p0.Height) ≤ 40000))) && ((p0.Cells.length : Int) == (w64 (p0.Width * p0.Height))))) [] (fun fb => by kernel_rfl) trivial ⟨_, rfl, rfl, hS10232.keep⟩
theorem ref01_Cell_calls (p0 : Pattern) (p1 : Int) (p2 : Int) (A_p0_Cells : Option Addr) (c_p0_Cells : Nat) (r : Int) (w : World) (hR0 : RO NoS w (rowR encInt A_p0_Cells c_p0_Cells p0.Cells)) (hf : ref01_Cell p0 p1 p2 = some r) :
  CallsR Try.prog 40 #[(.agg #[(iv p0.Width), (iv p0.Height), (.slice A_p0_Cells p0.Cells.length c_p0_Cells)]), (iv p1), (iv p2)] w (fun v w' => v = (iv r) ∧ Keeps NoS w w') := by
 have hS : St NoS w w [rowR encInt A_p0_Cells c_p0_Cells p0.Cells] [] := St.init (ro_cons hR0 (ro_nil _ _))
 refine enter 17 Try.func40 rfl Try.ntmps40 rfl ?_
 unfold ref01_Cell at hf
 refine WC.seq ?_
 refine WC.region ?_
 refine WL.new hS 3 [] (fun g => (.pointer (some ⟨g, 0, none⟩))) (.cells #[(iv p0.Width), (iv p0.Height), (.slice A_p0_Cells p0.Cells.length c_p0_Cells)] 38 (0, 0)) [] (fun fb g => by kernel_rfl) trivial (fun g10280 w10281 hS10282 => ?_)
 refine ⟨trivial, ?_⟩
 refine seg 2 [] [1, 2, 3] [(1, (iv p1)), (2, (iv p2)), (3, (pt g10280))] [] (fun fb => by kernel_rfl) rfl trivial ?_
 refine WL.done rfl ?_
 refine WX.next ?_
 refine WC.seq ?_
 refine WC.region ?_
 refine seg 8 [.v (.slice A_p0_Cells p0.Cells.length c_p0_Cells), .v (iv p0.Width)] [8, 14] [(8, (.slice A_p0_Cells p0.Cells.length c_p0_Cells)), (14, (iv (w64 ((w64 (p2 * p0.Width)) + p1))))] [.cell ⟨g10280, 2, none⟩ (.slice A_p0_Cells p0.Cells.length c_p0_Cells), .cell ⟨g10280, 0, none⟩ (iv p0.Width)] (fun fb => by kernel_rfl) rfl ⟨hS10282.cell 0 rfl 2 rfl, hS10282.cell 0 rfl 0 rfl, trivial⟩ ?_
 obtain ⟨h10284, hf⟩ := as_some hf
 refine seg 11 [.v (iv (rdD p0.Cells (w64 ((w64 (p2 * p0.Width)) + p1)) 0))] [6] [(6, (iv (rdD p0.Cells (w64 ((w64 (p2 * p0.Width)) + p1)) 0)))] [.idx A_p0_Cells (w64 ((w64 (p2 * p0.Width)) + p1)) p0.Cells.length, .cell ((adr A_p0_Cells).add ((w64 ((w64 (p2 * p0.Width)) + p1)).toNat * 1)) (iv (rdD p0.Cells (w64 ((w64 (p2 * p0.Width)) + p1)) 0))] (fun fb => by kernel_rfl) rfl ⟨rowR.adr (hS10282.rd 0).1 h10284.1 h10284.2, rowR.cell (hS10282.rd 0).1 0 h10284.1 h10284.2 0 rfl, trivial⟩ ?_
 refine WL.done rfl ?_
 refine WX.next ?_
 refine WC.ret ?_
 injection hf with hf
 subst hf
 exact WX.ret_ [] (iv (rdD p0.Cells (w64 ((w64 (p2 * p0.Width)) + p1)) 0)) [] (fun fb => by kernel_rfl) trivial ⟨_, rfl, rfl, hS10282.keep⟩
theorem ref01_Of_calls (k : Nat) (p0 : List Tile) (p1 : Pattern) (A_p0 : Option Addr) (c_p0 : Nat) (A_p1_Cells : Option Addr) (c_p1_Cells : Nat) (r : Bool) (w : World) (hR0 : RO NoS w (rowR enc_Tile A_p0 c_p0 p0)) (hR1 : RO NoS w (rowR encInt A_p1_Cells c_p1_Cells p1.Cells)) (hf : ref01_Of k p0 p1 = some r) :
  CallsR Try.prog 39 #[(.slice A_p0 p0.length c_p0), (.agg #[(iv p1.Width), (iv p1.Height), (.slice A_p1_Cells p1.Cells.length c_p1_Cells)])] w (fun v w' => v = (.bool r) ∧ Keeps NoS w w') := by
 have hS : St NoS w w [rowR enc_Tile A_p0 c_p0 p0, rowR encInt A_p1_Cells c_p1_Cells p1.Cells] [] := St.init (ro_cons hR0 (ro_cons hR1 (ro_nil _ _)))
 refine enter 94 Try.func39 rfl Try.ntmps39 rfl ?_
 unfold ref01_Of at hf
 refine WC.seq ?_
 refine WC.region ?_
 refine WL.new hS 3 [] (fun g => (.pointer (some ⟨g, 0, none⟩))) (.cells #[(iv p1.Width), (iv p1.Height), (.slice A_p1_Cells p1.Cells.length c_p1_Cells)] 38 (0, 0)) [] (fun fb g => by kernel_rfl) trivial (fun g10226 w10227 hS10228 => ?_)
 refine ⟨trivial, ?_⟩
 refine seg 2 [] [0, 3] [(0, (.slice A_p0 p0.length c_p0)), (3, (pt g10226))] [] (fun fb => by kernel_rfl) rfl trivial ?_
 refine WL.done rfl ?_
 refine WX.next ?_
 refine WC.seq ?_
 refine WC.seq ?_
 refine WC.region ?_
 refine seg 1 [.v (iv p1.Width), .v (iv p1.Height), .v (.slice A_p1_Cells p1.Cells.length c_p1_Cells)] [0, 3, 9] [(0, (.slice A_p0 p0.length c_p0)), (3, (pt g10226)), (9, (.agg #[(iv p1.Width), (iv p1.Height), (.slice A_p1_Cells p1.Cells.length c_p1_Cells)]))] [.cell ⟨g10226, 0, none⟩ (iv p1.Width), .cell ⟨g10226, 1, none⟩ (iv p1.Height), .cell ⟨g10226, 2, none⟩ (.slice A_p1_Cells p1.Cells.length c_p1_Cells)] (fun fb => by kernel_rfl) rfl ⟨hS10228.cell 0 rfl 0 rfl, hS10228.cell 0 rfl 1 rfl, hS10228.cell 0 rfl 2 rfl, trivial⟩ ?_
 obtain ⟨t10244, ht10245, hf⟩ := bind_some hf
 refine WL.call (some 10) 60 #[(.agg #[(iv p1.Width), (iv p1.Height), (.slice A_p1_Cells p1.Cells.length c_p1_Cells)])] (fun fb => by kernel_rfl) (ref01_Form_calls p1 A_p1_Cells c_p1_Cells t10244 _ (hS10228.rd 1) ht10245) (fun v w10246 hR10247 => ?_)
 obtain ⟨rfl, hk_⟩ := hR10247
 have hS10248 := hS10228.keepN hk_
 refine ⟨trivial, ?_⟩
 refine seg 3 [] [0, 3, 11] [(0, (.slice A_p0 p0.length c_p0)), (3, (pt g10226)), (11, (.bool (!t10244)))] [] (fun fb => by kernel_rfl) rfl trivial ?_
 refine WL.done rfl ?_
 refine WX.next ?_
 rcases br_some hf with ⟨h10249, hf⟩ | ⟨h10249, hf⟩
 ·refine WC.condT2 (fun fb => by kernel_rfl) h10249 ?_
  refine WC.seq ?_
  refine WC.region ?_
  refine seg 1 [] [4] [(4, (.bool false))] [] (fun fb => by kernel_rfl) rfl trivial ?_
  refine WL.done rfl ?_
  refine WX.next ?_
  refine WC.ret ?_
  injection hf with hf
  subst hf
  exact WX.thenR (WX.ret_ [] (.bool false) [] (fun fb => by kernel_rfl) trivial ⟨_, rfl, rfl, hS10248.keep⟩)
 refine WC.condF2 (fun fb => by kernel_rfl) h10249 ?_
 refine WC.skip ?_
 refine WX.next ?_
 refine WC.seq ?_
 refine WC.seq ?_
 refine WC.region ?_
 refine seg 1 [] [0, 3, 5] [(0, (.slice A_p0 p0.length c_p0)), (3, (pt g10226)), (5, (iv 0))] [] (fun fb => by kernel_rfl) rfl trivial ?_
 refine WL.done rfl ?_
 refine WX.next ?_
 obtain ⟨x10262, hx10263, hf⟩ := bind_some hf
 refine WC.cutN (T := Unit) (fun t => [(0, (.slice A_p0 p0.length c_p0)), (3, (pt g10226))]) (fun t w1 => St NoS w w1 [rowR enc_Tile A_p0 c_p0 p0, rowR encInt A_p1_Cells c_p1_Cells p1.Cells] [blk g10226 (.cells #[(iv p1.Width), (iv p1.Height), (.slice A_p1_Cells p1.Cells.length c_p1_Cells)] 38 (0, 0))] ∧ x10262 = .inr t) (fun Kx10262 => ?_) ?_
 ·
  refine WC.block ?_
  refine WC.loop (T := Int) (fun t => [(0, (.slice A_p0 p0.length c_p0)), (3, (pt g10226)), (5, (iv t))]) (fun n t w1 => St NoS w w1 [rowR enc_Tile A_p0 c_p0 p0, rowR encInt A_p1_Cells c_p1_Cells p1.Cells] [blk g10226 (.cells #[(iv p1.Width), (iv p1.Height), (.slice A_p1_Cells p1.Cells.length c_p1_Cells)] 38 (0, 0))] ∧ ref01_Of.l0 n t p0 p1 = some x10262) k 0 [0, 3, 5] rfl ⟨(hS10248.subR [0, 1]).sub [0] (by decide), hx10263⟩ ?_
  rintro k10264 x10261 w10265 ⟨hS10266, hl10267⟩
  cases k10264 with
  | zero => rw [ref01_Of.l0] at hl10267; cases hl10267
  | succ k10264 =>
   rw [ref01_Of.l0] at hl10267
   refine WC.seq ?_
   refine WC.seq ?_
   refine WC.region ?_
   refine seg 5 [.v (.slice A_p1_Cells p1.Cells.length c_p1_Cells)] [0, 3, 5, 16] [(0, (.slice A_p0 p0.length c_p0)), (3, (pt g10226)), (5, (iv x10261)), (16, (.bool (decide (x10261 < (p1.Cells.length : Int)))))] [.cell ⟨g10226, 2, none⟩ (.slice A_p1_Cells p1.Cells.length c_p1_Cells)] (fun fb => by kernel_rfl) rfl ⟨hS10266.cell 0 rfl 2 rfl, trivial⟩ ?_
   refine WL.done rfl ?_
   refine WX.next ?_
   rcases br_some hl10267 with ⟨h10268, hl10267⟩ | ⟨h10268, hl10267⟩
   ·refine WC.condT2 (fun fb => by kernel_rfl) h10268 ?_
    refine WC.skip ?_
    refine WX.next ?_
    refine WC.seq ?_
    refine WC.block ?_
    refine WC.seq ?_
    refine WC.region ?_
    refine seg 3 [.v (.slice A_p1_Cells p1.Cells.length c_p1_Cells)] [0, 3, 5, 20, 21] [(0, (.slice A_p0 p0.length c_p0)), (3, (pt g10226)), (5, (iv x10261)), (20, (.slice A_p1_Cells p1.Cells.length c_p1_Cells)), (21, (iv x10261))] [.cell ⟨g10226, 2, none⟩ (.slice A_p1_Cells p1.Cells.length c_p1_Cells)] (fun fb => by kernel_rfl) rfl ⟨hS10266.cell 0 rfl 2 rfl, trivial⟩ ?_
    obtain ⟨h10269, hl10267⟩ := as_some hl10267
    refine seg 7 [.v (iv (rdD p1.Cells x10261 0))] [0, 3, 5, 25] [(0, (.slice A_p0 p0.length c_p0)), (3, (pt g10226)), (5, (iv x10261)), (25, (.bool (decide ((rdD p1.Cells x10261 0) < 0))))] [.idx A_p1_Cells x10261 p1.Cells.length, .cell ((adr A_p1_Cells).add ((x10261).toNat * 1)) (iv (rdD p1.Cells x10261 0))] (fun fb => by kernel_rfl) rfl ⟨rowR.adr (hS10266.rd 1).1 h10269.1 h10269.2, rowR.cell (hS10266.rd 1).1 0 h10269.1 h10269.2 0 rfl, trivial⟩ ?_
    refine WL.cutV (T := Bool) 16 (fun t => [(34, (.bool t)), (0, (.slice A_p0 p0.length c_p0)), (3, (pt g10226)), (5, (iv x10261))]) (fun t => ((decide ((rdD p1.Cells x10261 0) < 0)) || (decide ((rdD p1.Cells x10261 0) ≥ (p0.length : Int)))) = t) (fun K => ?_) ?_
    ·
     rcases Bool.eq_false_or_eq_true (decide ((rdD p1.Cells x10261 0) < 0)) with h10270 | h10270
     ·
      refine WL.setB 25 h10270 rfl ?_
      refine seg 16 [] [0, 3, 5, 34] [(0, (.slice A_p0 p0.length c_p0)), (3, (pt g10226)), (5, (iv x10261)), (34, (.bool true))] [] (fun fb => by kernel_rfl) rfl trivial ?_
      exact WL.toV K true [34, 0, 3, 5] rfl (by first | (rw [h10270]; done) | (rw [h10270]; rfl))
     refine WL.setB 25 h10270 rfl ?_
     refine seg 16 [.v (.slice A_p1_Cells p1.Cells.length c_p1_Cells), .v (iv (rdD p1.Cells x10261 0))] [0, 3, 5, 34] [(0, (.slice A_p0 p0.length c_p0)), (3, (pt g10226)), (5, (iv x10261)), (34, (.bool (decide ((rdD p1.Cells x10261 0) ≥ (p0.length : Int)))))] [.cell ⟨g10226, 2, none⟩ (.slice A_p1_Cells p1.Cells.length c_p1_Cells), .idx A_p1_Cells x10261 p1.Cells.length, .cell ((adr A_p1_Cells).add ((x10261).toNat * 1)) (iv (rdD p1.Cells x10261 0))] (fun fb => by kernel_rfl) rfl ⟨hS10266.cell 0 rfl 2 rfl, rowR.adr (hS10266.rd 1).1 h10269.1 h10269.2, rowR.cell (hS10266.rd 1).1 0 h10269.1 h10269.2 0 rfl, trivial⟩ ?_
     exact WL.toV K (decide ((rdD p1.Cells x10261 0) ≥ (p0.length : Int))) [34, 0, 3, 5] rfl (by first | (rw [h10270]; done) | (rw [h10270]; rfl))
    rintro b10271 rfl
    refine WL.done rfl ?_
    refine WX.next ?_
    rcases br_some hl10267 with ⟨h10272, hl10267⟩ | ⟨h10272, hl10267⟩
    ·refine WC.condT2 (fun fb => by kernel_rfl) h10272 ?_
     refine WC.seq ?_
     refine WC.region ?_
     refine seg 1 [] [4] [(4, (.bool false))] [] (fun fb => by kernel_rfl) rfl trivial ?_
     refine WL.done rfl ?_
     refine WX.next ?_
     refine WC.ret ?_
     injection hl10267 with hl10267
     subst hl10267
     injection hf with hf
     subst hf
     exact WX.blockR (WX.thenR (WX.thenR (WX.blockR (WX.thenR (WX.ret_ [] (.bool false) [] (fun fb => by kernel_rfl) trivial ⟨_, rfl, rfl, hS10266.keep⟩)))))
    refine WC.condF2 (fun fb => by kernel_rfl) h10272 ?_
    refine WC.skip ?_
    refine WX.blockN (WX.next ?_)
    refine WC.region ?_
    refine seg 3 [] [0, 3, 5] [(0, (.slice A_p0 p0.length c_p0)), (3, (pt g10226)), (5, (iv (w64 (x10261 + 1))))] [] (fun fb => by kernel_rfl) rfl trivial ?_
    refine WL.done rfl ?_
    exact WX.again k10264 (Nat.lt_succ_self _) (w64 (x10261 + 1)) [0, 3, 5] rfl ⟨(hS10266.subR [0, 1]).sub [0] (by decide), hl10267⟩
   refine WC.condF2 (fun fb => by kernel_rfl) h10268 ?_
   refine WC.exit ?_
   injection hl10267 with hl10267
   exact WX.thenX (WX.thenX (WX.blockHere (WX.to Kx10262 () [0, 3] rfl ⟨(hS10266.subR [0, 1]).sub [0] (by decide), hl10267.symm⟩)))
 rintro y10276 w10273 ⟨hS10274, hq10275⟩
 subst hq10275
 have hf := sum_inr hf
 refine WX.next ?_
 refine WC.seq ?_
 refine WC.seq ?_
 refine WC.region ?_
 refine seg 1 [] [0, 3, 6] [(0, (.slice A_p0 p0.length c_p0)), (3, (pt g10226)), (6, (iv 0))] [] (fun fb => by kernel_rfl) rfl trivial ?_
 refine WL.done rfl ?_
 refine WX.next ?_
 obtain ⟨x11627, hx11628, hf⟩ := bind_some hf
 refine WC.cutN (T := Unit) (fun t => []) (fun t w1 => St NoS w w1 [rowR enc_Tile A_p0 c_p0 p0, rowR encInt A_p1_Cells c_p1_Cells p1.Cells] [] ∧ x11627 = .inr t) (fun Kx11627 => ?_) ?_
 ·
  refine WC.block ?_
  refine WC.loop (T := Int) (fun t => [(0, (.slice A_p0 p0.length c_p0)), (3, (pt g10226)), (6, (iv t))]) (fun n t w1 => St NoS w w1 [rowR enc_Tile A_p0 c_p0 p0, rowR encInt A_p1_Cells c_p1_Cells p1.Cells] [blk g10226 (.cells #[(iv p1.Width), (iv p1.Height), (.slice A_p1_Cells p1.Cells.length c_p1_Cells)] 38 (0, 0))] ∧ ref01_Of.l1 n t p0 p1 = some x11627) k 0 [0, 3, 6] rfl ⟨(hS10274.subR [0, 1]).sub [0] (by decide), hx11628⟩ ?_
  rintro k11629 x11626 w11630 ⟨hS11631, hl11632⟩
  cases k11629 with
  | zero => rw [ref01_Of.l1] at hl11632; cases hl11632
  | succ k11629 =>
   rw [ref01_Of.l1] at hl11632
   refine WC.seq ?_
   refine WC.seq ?_
   refine WC.region ?_
   refine seg 4 [.v (iv p1.Height)] [0, 3, 6, 38] [(0, (.slice A_p0 p0.length c_p0)), (3, (pt g10226)), (6, (iv x11626)), (38, (.bool (decide (x11626 < p1.Height))))] [.cell ⟨g10226, 1, none⟩ (iv p1.Height)] (fun fb => by kernel_rfl) rfl ⟨hS11631.cell 0 rfl 1 rfl, trivial⟩ ?_
   refine WL.done rfl ?_
   refine WX.next ?_
   rcases br_some hl11632 with ⟨h11633, hl11632⟩ | ⟨h11633, hl11632⟩
   ·refine WC.condT2 (fun fb => by kernel_rfl) h11633 ?_
    refine WC.skip ?_
    refine WX.next ?_
    refine WC.seq ?_
    refine WC.block ?_
    refine WC.seq ?_
    refine WC.region ?_
    refine seg 1 [] [0, 3, 6, 7] [(0, (.slice A_p0 p0.length c_p0)), (3, (pt g10226)), (6, (iv x11626)), (7, (iv 0))] [] (fun fb => by kernel_rfl) rfl trivial ?_
    refine WL.done rfl ?_
    refine WX.next ?_
    obtain ⟨x12074, hx12075, hl11632⟩ := bind_some hl11632
    refine WC.cutN (T := Unit) (fun t => [(0, (.slice A_p0 p0.length c_p0)), (3, (pt g10226)), (6, (iv x11626))]) (fun t w1 => St NoS w w1 [rowR enc_Tile A_p0 c_p0 p0, rowR encInt A_p1_Cells c_p1_Cells p1.Cells] [blk g10226 (.cells #[(iv p1.Width), (iv p1.Height), (.slice A_p1_Cells p1.Cells.length c_p1_Cells)] 38 (0, 0))] ∧ x12074 = .inr t) (fun Kx12074 => ?_) ?_
    ·
     refine WC.block ?_
     refine WC.loop (T := Int) (fun t => [(0, (.slice A_p0 p0.length c_p0)), (3, (pt g10226)), (6, (iv x11626)), (7, (iv t))]) (fun n t w1 => St NoS w w1 [rowR enc_Tile A_p0 c_p0 p0, rowR encInt A_p1_Cells c_p1_Cells p1.Cells] [blk g10226 (.cells #[(iv p1.Width), (iv p1.Height), (.slice A_p1_Cells p1.Cells.length c_p1_Cells)] 38 (0, 0))] ∧ ref01_Of.l2 n t p0 p1 x11626 = some x12074) k11629 0 [0, 3, 6, 7] rfl ⟨(hS11631.subR [0, 1]).sub [0] (by decide), hx12075⟩ ?_
     rintro k12076 x12073 w12077 ⟨hS12078, hl12079⟩
     cases k12076 with
     | zero => rw [ref01_Of.l2] at hl12079; cases hl12079
     | succ k12076 =>
      rw [ref01_Of.l2] at hl12079
      refine WC.seq ?_
      refine WC.seq ?_
      refine WC.region ?_
      refine seg 4 [.v (iv p1.Width)] [0, 3, 6, 7, 44] [(0, (.slice A_p0 p0.length c_p0)), (3, (pt g10226)), (6, (iv x11626)), (7, (iv x12073)), (44, (.bool (decide (x12073 < p1.Width))))] [.cell ⟨g10226, 0, none⟩ (iv p1.Width)] (fun fb => by kernel_rfl) rfl ⟨hS12078.cell 0 rfl 0 rfl, trivial⟩ ?_
      refine WL.done rfl ?_
      refine WX.next ?_
      rcases br_some hl12079 with ⟨h12080, hl12079⟩ | ⟨h12080, hl12079⟩
      ·refine WC.condT2 (fun fb => by kernel_rfl) h12080 ?_
       refine WC.skip ?_
       refine WX.next ?_
       refine WC.seq ?_
       refine WC.block ?_
       refine WC.seq ?_
       refine WC.region ?_
       refine seg 4 [.v (iv p1.Width), .v (iv p1.Height), .v (.slice A_p1_Cells p1.Cells.length c_p1_Cells)] [0, 3, 6, 7, 47, 48, 49, 50] [(0, (.slice A_p0 p0.length c_p0)), (3, (pt g10226)), (6, (iv x11626)), (7, (iv x12073)), (47, (.slice A_p0 p0.length c_p0)), (48, (.agg #[(iv p1.Width), (iv p1.Height), (.slice A_p1_Cells p1.Cells.length c_p1_Cells)])), (49, (iv x12073)), (50, (iv x11626))] [.cell ⟨g10226, 0, none⟩ (iv p1.Width), .cell ⟨g10226, 1, none⟩ (iv p1.Height), .cell ⟨g10226, 2, none⟩ (.slice A_p1_Cells p1.Cells.length c_p1_Cells)] (fun fb => by kernel_rfl) rfl ⟨hS12078.cell 0 rfl 0 rfl, hS12078.cell 0 rfl 1 rfl, hS12078.cell 0 rfl 2 rfl, trivial⟩ ?_
       obtain ⟨t12081, ht12082, hl12079⟩ := bind_some hl12079
       refine WL.call (some 51) 40 #[(.agg #[(iv p1.Width), (iv p1.Height), (.slice A_p1_Cells p1.Cells.length c_p1_Cells)]), (iv x12073), (iv x11626)] (fun fb => by kernel_rfl) (ref01_Cell_calls p1 x12073 x11626 A_p1_Cells c_p1_Cells t12081 _ (hS12078.rd 1) ht12082) (fun v w12083 hR12084 => ?_)
       obtain ⟨rfl, hk_⟩ := hR12084
       have hS12085 := hS12078.keepN hk_
       refine ⟨trivial, ?_⟩
       obtain ⟨h12086, hl12079⟩ := as_some hl12079
       refine seg 7 [.v (iv ((rdD p0 t12081 z_Tile).N)), .v (iv ((rdD p0 t12081 z_Tile).E)), .v (iv ((rdD p0 t12081 z_Tile).S)), .v (iv ((rdD p0 t12081 z_Tile).W))] [0, 3, 6, 7, 53] [(0, (.slice A_p0 p0.length c_p0)), (3, (pt g10226)), (6, (iv x11626)), (7, (iv x12073)), (53, (.agg #[(iv ((rdD p0 t12081 z_Tile).N)), (iv ((rdD p0 t12081 z_Tile).E)), (iv ((rdD p0 t12081 z_Tile).S)), (iv ((rdD p0 t12081 z_Tile).W))]))] [.idx A_p0 t12081 p0.length, .cell ((adr A_p0).add ((t12081).toNat * 4)) (iv ((rdD p0 t12081 z_Tile).N)), .cell (((adr A_p0).add ((t12081).toNat * 4)).add 1) (iv ((rdD p0 t12081 z_Tile).E)), .cell (((adr A_p0).add ((t12081).toNat * 4)).add 2) (iv ((rdD p0 t12081 z_Tile).S)), .cell (((adr A_p0).add ((t12081).toNat * 4)).add 3) (iv ((rdD p0 t12081 z_Tile).W))] (fun fb => by kernel_rfl) rfl ⟨rowR.adr (hS12085.rd 0).1 h12086.1 h12086.2, rowR.cell (hS12085.rd 0).1 z_Tile h12086.1 h12086.2 0 rfl, rowR.cell (hS12085.rd 0).1 z_Tile h12086.1 h12086.2 1 rfl, rowR.cell (hS12085.rd 0).1 z_Tile h12086.1 h12086.2 2 rfl, rowR.cell (hS12085.rd 0).1 z_Tile h12086.1 h12086.2 3 rfl, trivial⟩ ?_
       refine WL.new hS12085 8 [] (fun g => (.pointer (some ⟨g, 0, none⟩))) (.cells #[(iv 0), (iv 0), (iv 0), (iv 0)] 24 (0, 0)) [] (fun fb g => by kernel_rfl) trivial (fun g12087 w12088 hS12089 => ?_)
       refine ⟨trivial, ?_⟩
       refine WL.store hS12089 0 rfl [(0, (iv ((rdD p0 t12081 z_Tile).N))), (1, (iv ((rdD p0 t12081 z_Tile).E))), (2, (iv ((rdD p0 t12081 z_Tile).S))), (3, (iv ((rdD p0 t12081 z_Tile).W)))] #[(iv ((rdD p0 t12081 z_Tile).N)), (iv ((rdD p0 t12081 z_Tile).E)), (iv ((rdD p0 t12081 z_Tile).S)), (iv ((rdD p0 t12081 z_Tile).W))] (fun fb => by kernel_rfl) (by kernel_rfl) rfl [1] (by decide) (by decide) (fun w12091 hS12092 => ?_)
       refine ⟨trivial, ?_⟩
       refine WL.done rfl ?_
       refine WX.next ?_
       refine WC.seq ?_
       obtain ⟨x12193, hx12194, hl12079⟩ := bind_some hl12079
       refine WC.cutN (T := Bool) (fun t => [(0, (.slice A_p0 p0.length c_p0)), (3, (pt g10226)), (6, (iv x11626)), (7, (iv x12073)), (93, (.bool t))]) (fun t w1 => St NoS w w1 [rowR enc_Tile A_p0 c_p0 p0, rowR encInt A_p1_Cells c_p1_Cells p1.Cells] [blk g10226 (.cells #[(iv p1.Width), (iv p1.Height), (.slice A_p1_Cells p1.Cells.length c_p1_Cells)] 38 (0, 0))] ∧ x12193 = t) (fun Kx12193 => ?_) ?_
       ·
        rcases br_some hx12194 with ⟨h12195, hx12194⟩ | ⟨h12195, hx12194⟩
        ·
         rcases br_some hx12194 with ⟨h12202, hx12194⟩ | ⟨h12202, hx12194⟩
         ·
          refine WC.regionD ([(3, ⟨g10226, 0, none⟩, (iv p1.Width)), (7, ⟨g12087, 1, none⟩, (iv ((rdD p0 t12081 z_Tile).E))), (9, ⟨g10226, 0, none⟩, (iv p1.Width)), (9, ⟨g10226, 1, none⟩, (iv p1.Height)), (9, ⟨g10226, 2, none⟩, (.slice A_p1_Cells p1.Cells.length c_p1_Cells)), (23, ⟨g10226, 1, none⟩, (iv p1.Height)), (27, ⟨g12087, 0, none⟩, (iv ((rdD p0 t12081 z_Tile).N))), (29, ⟨g10226, 0, none⟩, (iv p1.Width)), (29, ⟨g10226, 1, none⟩, (iv p1.Height)), (29, ⟨g10226, 2, none⟩, (.slice A_p1_Cells p1.Cells.length c_p1_Cells))], [0, 1, 2, 3, 4, 5, 6, 7, 8, 9, 10, 11, 12, 14, 15, 17, 18, 19, 20, 21, 22, 23, 24, 25, 26, 27, 28, 29, 30, 31, 32, 34, 35, 37, 38, 39], [[], [0], [], [2], [0, 1, 2, 3], [0, 1, 2, 3, 4], [0, 1, 2, 3, 4, 5], [0, 1, 2, 3, 4, 5, 6], [0, 1, 2, 3, 4, 5], [0, 1, 2, 3, 4, 5], [0, 1, 2, 3, 4, 5], [0, 1, 2, 3, 4, 5, 10], [0, 1, 2, 3, 4, 5], [0, 1, 2, 3, 4, 5, 9, 10, 11, 12], [0, 1, 2, 3, 4, 5, 8, 9, 10, 11, 12, 13], [0, 1, 2, 3, 4, 5, 8, 9, 10, 11, 12, 13, 14], [0, 1, 2, 3, 4, 5, 8, 9, 10, 11, 12, 13, 14, 15], [0, 1, 2, 3, 4, 5, 6, 7, 8, 9, 10, 11, 12, 13, 14, 15, 16], [0, 1, 2, 3, 4, 5, 6, 7, 8, 9, 10, 11, 12, 13, 14, 15, 16, 17], [0, 1, 2, 3, 4, 5, 6, 7, 8, 9, 10, 11, 12, 13, 14, 15, 16, 17, 18], [0, 1, 2, 3, 4, 5, 6, 7, 8, 9, 10, 11, 12, 13, 14, 15, 16, 17, 18, 19], [0, 1, 2, 3, 4, 5, 6, 7, 8, 9, 10, 11, 12, 13, 14, 15, 16, 17, 18, 19, 20], [0, 1, 2, 3, 4, 5, 6, 7, 8, 9, 10, 11, 12, 13, 14, 15, 16, 17, 18, 19], [0, 1, 2, 3, 4, 5, 6, 7, 8, 9, 10, 11, 12, 13, 14, 15, 16, 17, 18, 19, 22], [0, 1, 2, 3, 4, 5, 6, 7, 8, 9, 10, 11, 12, 13, 14, 15, 16, 17, 18, 19, 20, 21, 22, 23], [0, 1, 2, 3, 4, 5, 6, 7, 8, 9, 10, 11, 12, 13, 14, 15, 16, 17, 18, 19, 20, 21, 22, 23, 24], [0, 1, 2, 3, 4, 5, 6, 7, 8, 9, 10, 11, 12, 13, 14, 15, 16, 17, 18, 19, 20, 21, 22, 23, 24, 25], [0, 1, 2, 3, 4, 5, 6, 7, 8, 9, 10, 11, 12, 13, 14, 15, 16, 17, 18, 19, 20, 21, 22, 23, 24, 25, 26], [0, 1, 2, 3, 4, 5, 6, 7, 8, 9, 10, 11, 12, 13, 14, 15, 16, 17, 18, 19, 20, 21, 22, 23, 24, 25], [0, 1, 2, 3, 4, 5, 6, 7, 8, 9, 10, 11, 12, 13, 14, 15, 16, 17, 18, 19, 20, 21, 22, 23, 24, 25], [0, 1, 2, 3, 4, 5, 6, 7, 8, 9, 10, 11, 12, 13, 14, 15, 16, 17, 18, 19, 20, 21, 22, 23, 24, 25], [0, 1, 2, 3, 4, 5, 6, 7, 8, 9, 10, 11, 12, 13, 14, 15, 16, 17, 18, 19, 20, 21, 22, 23, 24, 25], [0, 1, 2, 3, 4, 5, 6, 7, 8, 9, 10, 11, 12, 13, 14, 15, 16, 17, 18, 19, 20, 21, 22, 23, 24, 25, 31], [0, 1, 2, 3, 4, 5, 6, 7, 8, 9, 10, 11, 12, 13, 14, 15, 16, 17, 18, 19, 20, 21, 22, 23, 24, 25, 29, 30, 31, 32], [0, 1, 2, 3, 4, 5, 6, 7, 8, 9, 10, 11, 12, 13, 14, 15, 16, 17, 18, 19, 20, 21, 22, 23, 24, 25, 28, 29, 30, 31, 32, 33], [0, 1, 2, 3, 4, 5, 6, 7, 8, 9, 10, 11, 12, 13, 14, 15, 16, 17, 18, 19, 20, 21, 22, 23, 24, 25, 28, 29, 30, 31, 32, 33, 34], [0, 1, 2, 3, 4, 5, 6, 7, 8, 9, 10, 11, 12, 13, 14, 15, 16, 17, 18, 19, 20, 21, 22, 23, 24, 25, 28, 29, 30, 31, 32, 33, 34, 35], [0, 1, 2, 3, 4, 5, 6, 7, 8, 9, 10, 11, 12, 13, 14, 15, 16, 17, 18, 19, 20, 21, 22, 23, 24, 25, 26, 27, 28, 29, 30, 31, 32, 33, 34, 35, 36], [0, 1, 2, 3, 4, 5, 6, 7, 8, 9, 10, 11, 12, 13, 14, 15, 16, 17, 18, 19, 20, 21, 22, 23, 24, 25, 26, 27, 28, 29, 30, 31, 32, 33, 34, 35, 36, 37], [0, 1, 2, 3, 4, 5, 6, 7, 8, 9, 10, 11, 12, 13, 14, 15, 16, 17, 18, 19, 20, 21, 22, 23, 24, 25, 26, 27, 28, 29, 30, 31, 32, 33, 34, 35, 36, 37, 38]]) [[0, 1, 2, 3, 4, 5, 6, 7, 8, 9, 10, 11, 12, 13, 14, 15, 16, 17, 18, 19, 20, 21, 22, 23, 24, 25, 26, 27, 28, 29, 30, 31, 32, 33, 34, 35, 36, 37, 38, 39]] (by kernel_rfl) (by kernel_rfl) (NoPanic.seq (NoPanic.block (NoPanic.seq (NoPanic.seq (NoPanic.block (NoPanic.block (NoPanic.seq (NoPanic.seq (NoPanic.block (NoPanic.seq (NoPanic.body))))))))))) ?_
          have hS12231 := hS12092.drew
          revert hS12231
          generalize World.drew w12091 = w12230
          intro hS12231
          refine ⟨⟨hS12231.cell 1 rfl 0 rfl, hS12231.cell 0 rfl 1 rfl, hS12231.cell 1 rfl 0 rfl, hS12231.cell 1 rfl 1 rfl, hS12231.cell 1 rfl 2 rfl, hS12231.cell 1 rfl 1 rfl, hS12231.cell 0 rfl 0 rfl, hS12231.cell 1 rfl 0 rfl, hS12231.cell 1 rfl 1 rfl, hS12231.cell 1 rfl 2 rfl, trivial⟩, forallC ?_ (forallN)⟩
          refine segF 6 [.v (iv p1.Width)] [0, 3, 6, 7, 8, 59] [(0, (.slice A_p0 p0.length c_p0)), (3, (pt g10226)), (6, (iv x11626)), (7, (iv x12073)), (8, (pt g12087)), (59, (.bool (decide (w64 (x12073 + 1) < p1.Width))))] [] [0] [(3, ⟨g10226, 0, none⟩, (iv p1.Width))] (fun fb => by kernel_rfl) rfl trivial rfl ?_
          refine WL.setB 59 h12195 rfl ?_
          refine segF 13 [.v (iv ((rdD p0 t12081 z_Tile).E)), .v (iv p1.Width), .v (iv p1.Height), .v (.slice A_p1_Cells p1.Cells.length c_p1_Cells)] [0, 3, 6, 7, 8, 59, 61, 62, 63, 65, 66] [(0, (.slice A_p0 p0.length c_p0)), (3, (pt g10226)), (6, (iv x11626)), (7, (iv x12073)), (8, (pt g12087)), (59, (.bool true)), (61, (iv ((rdD p0 t12081 z_Tile).E))), (62, (.slice A_p0 p0.length c_p0)), (63, (.agg #[(iv p1.Width), (iv p1.Height), (.slice A_p1_Cells p1.Cells.length c_p1_Cells)])), (65, (iv (w64 (x12073 + 1)))), (66, (iv x11626))] [] [1, 2, 3, 4] [(7, ⟨g12087, 1, none⟩, (iv ((rdD p0 t12081 z_Tile).E))), (9, ⟨g10226, 0, none⟩, (iv p1.Width)), (9, ⟨g10226, 1, none⟩, (iv p1.Height)), (9, ⟨g10226, 2, none⟩, (.slice A_p1_Cells p1.Cells.length c_p1_Cells))] (fun fb => by kernel_rfl) rfl trivial rfl ?_
          obtain ⟨t12232, ht12233, hx12194⟩ := bind_some hx12194
          refine WL.call (some 67) 40 #[(.agg #[(iv p1.Width), (iv p1.Height), (.slice A_p1_Cells p1.Cells.length c_p1_Cells)]), (iv (w64 (x12073 + 1))), (iv x11626)] (fun fb => by kernel_rfl) (ref01_Cell_calls p1 (w64 (x12073 + 1)) x11626 A_p1_Cells c_p1_Cells t12232 _ (hS12231.rd 1) ht12233) (fun v w12234 hR12235 => ?_)
          obtain ⟨rfl, hk_⟩ := hR12235
          have hS12236 := hS12231.keepN hk_
          refine ⟨⟨hS12236.cell 0 rfl 1 rfl, hS12236.cell 1 rfl 1 rfl, hS12236.cell 0 rfl 0 rfl, hS12236.cell 1 rfl 0 rfl, hS12236.cell 1 rfl 1 rfl, hS12236.cell 1 rfl 2 rfl, trivial⟩, ?_⟩
          obtain ⟨h12237, hx12194⟩ := as_some hx12194
          refine seg 20 [.v (iv ((rdD p0 t12232 z_Tile).W))] [0, 3, 6, 7, 8, 73] [(0, (.slice A_p0 p0.length c_p0)), (3, (pt g10226)), (6, (iv x11626)), (7, (iv x12073)), (8, (pt g12087)), (73, (.bool (((rdD p0 t12081 z_Tile).E) != ((rdD p0 t12232 z_Tile).W))))] [.idx A_p0 t12232 p0.length, .cell (((adr A_p0).add ((t12232).toNat * 4)).add 3) (iv ((rdD p0 t12232 z_Tile).W))] (fun fb => by kernel_rfl) rfl ⟨rowR.adr (hS12236.rd 0).1 h12237.1 h12237.2, rowR.cell (hS12236.rd 0).1 z_Tile h12237.1 h12237.2 3 rfl, trivial⟩ ?_
          obtain ⟨x12245, hx12246, hx12194⟩ := bind_some hx12194
          refine WL.cutW (T := Bool) 40 (fun t => [(0, (.slice A_p0 p0.length c_p0)), (3, (pt g10226)), (6, (iv x11626)), (7, (iv x12073)), (93, (.bool t))]) (fun t w1 => (St NoS w w1 [rowR enc_Tile A_p0 c_p0 p0, rowR encInt A_p1_Cells c_p1_Cells p1.Cells] [blk g10226 (.cells #[(iv p1.Width), (iv p1.Height), (.slice A_p1_Cells p1.Cells.length c_p1_Cells)] 38 (0, 0))] ∧ x12245 = t) ∧ CellsOK [] w1) (fun K => ?_) ?_
          ·
           rcases br_some hx12246 with ⟨h12247, hx12246⟩ | ⟨h12247, hx12246⟩
           ·
            refine WL.setB 73 h12247 rfl ?_
            refine seg 40 [] [0, 3, 6, 7, 93] [(0, (.slice A_p0 p0.length c_p0)), (3, (pt g10226)), (6, (iv x11626)), (7, (iv x12073)), (93, (.bool true))] [] (fun fb => by kernel_rfl) rfl trivial ?_
            injection hx12246 with hx12246
            exact WL.to K true [0, 3, 6, 7, 93] rfl ⟨⟨(hS12236.subR [0, 1]).sub [1] (by decide), hx12246.symm⟩, trivial⟩
           refine WL.setB 73 h12247 rfl ?_
           refine segF 26 [.v (iv p1.Height)] [0, 3, 6, 7, 8, 73, 79] [(0, (.slice A_p0 p0.length c_p0)), (3, (pt g10226)), (6, (iv x11626)), (7, (iv x12073)), (8, (pt g12087)), (73, (.bool false)), (79, (.bool (decide (w64 (x11626 + 1) < p1.Height))))] [] [5] [(23, ⟨g10226, 1, none⟩, (iv p1.Height))] (fun fb => by kernel_rfl) rfl trivial rfl ?_
           refine WL.setB 79 h12202 rfl ?_
           refine segF 33 [.v (iv ((rdD p0 t12081 z_Tile).N)), .v (iv p1.Width), .v (iv p1.Height), .v (.slice A_p1_Cells p1.Cells.length c_p1_Cells)] [0, 3, 6, 7, 73, 79, 81, 82, 83, 84, 86] [(0, (.slice A_p0 p0.length c_p0)), (3, (pt g10226)), (6, (iv x11626)), (7, (iv x12073)), (73, (.bool false)), (79, (.bool true)), (81, (iv ((rdD p0 t12081 z_Tile).N))), (82, (.slice A_p0 p0.length c_p0)), (83, (.agg #[(iv p1.Width), (iv p1.Height), (.slice A_p1_Cells p1.Cells.length c_p1_Cells)])), (84, (iv x12073)), (86, (iv (w64 (x11626 + 1))))] [] [6, 7, 8, 9] [(27, ⟨g12087, 0, none⟩, (iv ((rdD p0 t12081 z_Tile).N))), (29, ⟨g10226, 0, none⟩, (iv p1.Width)), (29, ⟨g10226, 1, none⟩, (iv p1.Height)), (29, ⟨g10226, 2, none⟩, (.slice A_p1_Cells p1.Cells.length c_p1_Cells))] (fun fb => by kernel_rfl) rfl trivial rfl ?_
           obtain ⟨t12248, ht12249, hx12246⟩ := bind_some hx12246
           refine WL.call (some 87) 40 #[(.agg #[(iv p1.Width), (iv p1.Height), (.slice A_p1_Cells p1.Cells.length c_p1_Cells)]), (iv x12073), (iv (w64 (x11626 + 1)))] (fun fb => by kernel_rfl) (ref01_Cell_calls p1 x12073 (w64 (x11626 + 1)) A_p1_Cells c_p1_Cells t12248 _ (hS12236.rd 1) ht12249) (fun v w12250 hR12251 => ?_)
           obtain ⟨rfl, hk_⟩ := hR12251
           have hS12252 := hS12236.keepN hk_
           refine ⟨⟨hS12252.cell 0 rfl 0 rfl, trivial⟩, ?_⟩
           obtain ⟨h12253, hx12246⟩ := as_some hx12246
           refine seg 40 [.v (iv ((rdD p0 t12248 z_Tile).S))] [0, 3, 6, 7, 93] [(0, (.slice A_p0 p0.length c_p0)), (3, (pt g10226)), (6, (iv x11626)), (7, (iv x12073)), (93, (.bool (((rdD p0 t12081 z_Tile).N) != ((rdD p0 t12248 z_Tile).S))))] [.idx A_p0 t12248 p0.length, .cell (((adr A_p0).add ((t12248).toNat * 4)).add 2) (iv ((rdD p0 t12248 z_Tile).S))] (fun fb => by kernel_rfl) rfl ⟨rowR.adr (hS12252.rd 0).1 h12253.1 h12253.2, rowR.cell (hS12252.rd 0).1 z_Tile h12253.1 h12253.2 2 rfl, trivial⟩ ?_
           injection hx12246 with hx12246
           exact WL.to K (((rdD p0 t12081 z_Tile).N) != ((rdD p0 t12248 z_Tile).S)) [0, 3, 6, 7, 93] rfl ⟨⟨(hS12252.subR [0, 1]).sub [1] (by decide), hx12246.symm⟩, trivial⟩
          rintro y12254 w12256 ⟨⟨hS12257, hq12255⟩, hF12258⟩
          subst hq12255
          refine WL.done rfl ?_
          injection hx12194 with hx12194
          exact WX.to Kx12193 x12245 [0, 3, 6, 7, 93] rfl ⟨(hS12257.subR [0, 1]).sub [0] (by decide), hx12194.symm⟩
         refine WC.regionD ([(3, ⟨g10226, 0, none⟩, (iv p1.Width)), (7, ⟨g12087, 1, none⟩, (iv ((rdD p0 t12081 z_Tile).E))), (9, ⟨g10226, 0, none⟩, (iv p1.Width)), (9, ⟨g10226, 1, none⟩, (iv p1.Height)), (9, ⟨g10226, 2, none⟩, (.slice A_p1_Cells p1.Cells.length c_p1_Cells)), (23, ⟨g10226, 1, none⟩, (iv p1.Height)), (27, ⟨g12087, 0, none⟩, (iv ((rdD p0 t12081 z_Tile).N))), (29, ⟨g10226, 0, none⟩, (iv p1.Width)), (29, ⟨g10226, 1, none⟩, (iv p1.Height)), (29, ⟨g10226, 2, none⟩, (.slice A_p1_Cells p1.Cells.length c_p1_Cells))], [0, 1, 2, 3, 4, 5, 6, 7, 8, 9, 10, 11, 12, 14, 15, 17, 18, 19, 20, 21, 22, 23, 24, 25, 26, 27, 28, 29, 30, 31, 32, 34, 35, 37, 38, 39], [[], [0], [], [2], [0, 1, 2, 3], [0, 1, 2, 3, 4], [0, 1, 2, 3, 4, 5], [0, 1, 2, 3, 4, 5, 6], [0, 1, 2, 3, 4, 5], [0, 1, 2, 3, 4, 5], [0, 1, 2, 3, 4, 5], [0, 1, 2, 3, 4, 5, 10], [0, 1, 2, 3, 4, 5], [0, 1, 2, 3, 4, 5, 9, 10, 11, 12], [0, 1, 2, 3, 4, 5, 8, 9, 10, 11, 12, 13], [0, 1, 2, 3, 4, 5, 8, 9, 10, 11, 12, 13, 14], [0, 1, 2, 3, 4, 5, 8, 9, 10, 11, 12, 13, 14, 15], [0, 1, 2, 3, 4, 5, 6, 7, 8, 9, 10, 11, 12, 13, 14, 15, 16], [0, 1, 2, 3, 4, 5, 6, 7, 8, 9, 10, 11, 12, 13, 14, 15, 16, 17], [0, 1, 2, 3, 4, 5, 6, 7, 8, 9, 10, 11, 12, 13, 14, 15, 16, 17, 18], [0, 1, 2, 3, 4, 5, 6, 7, 8, 9, 10, 11, 12, 13, 14, 15, 16, 17, 18, 19], [0, 1, 2, 3, 4, 5, 6, 7, 8, 9, 10, 11, 12, 13, 14, 15, 16, 17, 18, 19, 20], [0, 1, 2, 3, 4, 5, 6, 7, 8, 9, 10, 11, 12, 13, 14, 15, 16, 17, 18, 19], [0, 1, 2, 3, 4, 5, 6, 7, 8, 9, 10, 11, 12, 13, 14, 15, 16, 17, 18, 19, 22], [0, 1, 2, 3, 4, 5, 6, 7, 8, 9, 10, 11, 12, 13, 14, 15, 16, 17, 18, 19, 20, 21, 22, 23], [0, 1, 2, 3, 4, 5, 6, 7, 8, 9, 10, 11, 12, 13, 14, 15, 16, 17, 18, 19, 20, 21, 22, 23, 24], [0, 1, 2, 3, 4, 5, 6, 7, 8, 9, 10, 11, 12, 13, 14, 15, 16, 17, 18, 19, 20, 21, 22, 23, 24, 25], [0, 1, 2, 3, 4, 5, 6, 7, 8, 9, 10, 11, 12, 13, 14, 15, 16, 17, 18, 19, 20, 21, 22, 23, 24, 25, 26], [0, 1, 2, 3, 4, 5, 6, 7, 8, 9, 10, 11, 12, 13, 14, 15, 16, 17, 18, 19, 20, 21, 22, 23, 24, 25], [0, 1, 2, 3, 4, 5, 6, 7, 8, 9, 10, 11, 12, 13, 14, 15, 16, 17, 18, 19, 20, 21, 22, 23, 24, 25], [0, 1, 2, 3, 4, 5, 6, 7, 8, 9, 10, 11, 12, 13, 14, 15, 16, 17, 18, 19, 20, 21, 22, 23, 24, 25], [0, 1, 2, 3, 4, 5, 6, 7, 8, 9, 10, 11, 12, 13, 14, 15, 16, 17, 18, 19, 20, 21, 22, 23, 24, 25], [0, 1, 2, 3, 4, 5, 6, 7, 8, 9, 10, 11, 12, 13, 14, 15, 16, 17, 18, 19, 20, 21, 22, 23, 24, 25, 31], [0, 1, 2, 3, 4, 5, 6, 7, 8, 9, 10, 11, 12, 13, 14, 15, 16, 17, 18, 19, 20, 21, 22, 23, 24, 25, 29, 30, 31, 32], [0, 1, 2, 3, 4, 5, 6, 7, 8, 9, 10, 11, 12, 13, 14, 15, 16, 17, 18, 19, 20, 21, 22, 23, 24, 25, 28, 29, 30, 31, 32, 33], [0, 1, 2, 3, 4, 5, 6, 7, 8, 9, 10, 11, 12, 13, 14, 15, 16, 17, 18, 19, 20, 21, 22, 23, 24, 25, 28, 29, 30, 31, 32, 33, 34], [0, 1, 2, 3, 4, 5, 6, 7, 8, 9, 10, 11, 12, 13, 14, 15, 16, 17, 18, 19, 20, 21, 22, 23, 24, 25, 28, 29, 30, 31, 32, 33, 34, 35], [0, 1, 2, 3, 4, 5, 6, 7, 8, 9, 10, 11, 12, 13, 14, 15, 16, 17, 18, 19, 20, 21, 22, 23, 24, 25, 26, 27, 28, 29, 30, 31, 32, 33, 34, 35, 36], [0, 1, 2, 3, 4, 5, 6, 7, 8, 9, 10, 11, 12, 13, 14, 15, 16, 17, 18, 19, 20, 21, 22, 23, 24, 25, 26, 27, 28, 29, 30, 31, 32, 33, 34, 35, 36, 37], [0, 1, 2, 3, 4, 5, 6, 7, 8, 9, 10, 11, 12, 13, 14, 15, 16, 17, 18, 19, 20, 21, 22, 23, 24, 25, 26, 27, 28, 29, 30, 31, 32, 33, 34, 35, 36, 37, 38]]) [[0, 1, 2, 3, 4, 5, 6, 7, 8, 9, 10, 11, 12, 13, 14, 15, 16, 17, 18, 19, 20, 21, 22, 23, 24, 25, 26, 27, 28, 29, 30, 31, 32, 33, 34, 35, 36, 37, 38, 39]] (by kernel_rfl) (by kernel_rfl) (NoPanic.seq (NoPanic.block (NoPanic.seq (NoPanic.seq (NoPanic.block (NoPanic.block (NoPanic.seq (NoPanic.seq (NoPanic.block (NoPanic.seq (NoPanic.body))))))))))) ?_
         have hS12268 := hS12092.drew
         revert hS12268
         generalize World.drew w12091 = w12267
         intro hS12268
         refine ⟨⟨hS12268.cell 1 rfl 0 rfl, hS12268.cell 0 rfl 1 rfl, hS12268.cell 1 rfl 0 rfl, hS12268.cell 1 rfl 1 rfl, hS12268.cell 1 rfl 2 rfl, hS12268.cell 1 rfl 1 rfl, hS12268.cell 0 rfl 0 rfl, hS12268.cell 1 rfl 0 rfl, hS12268.cell 1 rfl 1 rfl, hS12268.cell 1 rfl 2 rfl, trivial⟩, forallC ?_ (forallN)⟩
         refine segF 6 [.v (iv p1.Width)] [0, 3, 6, 7, 8, 59] [(0, (.slice A_p0 p0.length c_p0)), (3, (pt g10226)), (6, (iv x11626)), (7, (iv x12073)), (8, (pt g12087)), (59, (.bool (decide (w64 (x12073 + 1) < p1.Width))))] [] [0] [(3, ⟨g10226, 0, none⟩, (iv p1.Width))] (fun fb => by kernel_rfl) rfl trivial rfl ?_
         refine WL.setB 59 h12195 rfl ?_
         refine segF 13 [.v (iv ((rdD p0 t12081 z_Tile).E)), .v (iv p1.Width), .v (iv p1.Height), .v (.slice A_p1_Cells p1.Cells.length c_p1_Cells)] [0, 3, 6, 7, 8, 59, 61, 62, 63, 65, 66] [(0, (.slice A_p0 p0.length c_p0)), (3, (pt g10226)), (6, (iv x11626)), (7, (iv x12073)), (8, (pt g12087)), (59, (.bool true)), (61, (iv ((rdD p0 t12081 z_Tile).E))), (62, (.slice A_p0 p0.length c_p0)), (63, (.agg #[(iv p1.Width), (iv p1.Height), (.slice A_p1_Cells p1.Cells.length c_p1_Cells)])), (65, (iv (w64 (x12073 + 1)))), (66, (iv x11626))] [] [1, 2, 3, 4] [(7, ⟨g12087, 1, none⟩, (iv ((rdD p0 t12081 z_Tile).E))), (9, ⟨g10226, 0, none⟩, (iv p1.Width)), (9, ⟨g10226, 1, none⟩, (iv p1.Height)), (9, ⟨g10226, 2, none⟩, (.slice A_p1_Cells p1.Cells.length c_p1_Cells))] (fun fb => by kernel_rfl) rfl trivial rfl ?_
         obtain ⟨t12269, ht12270, hx12194⟩ := bind_some hx12194
         refine WL.call (some 67) 40 #[(.agg #[(iv p1.Width), (iv p1.Height), (.slice A_p1_Cells p1.Cells.length c_p1_Cells)]), (iv (w64 (x12073 + 1))), (iv x11626)] (fun fb => by kernel_rfl) (ref01_Cell_calls p1 (w64 (x12073 + 1)) x11626 A_p1_Cells c_p1_Cells t12269 _ (hS12268.rd 1) ht12270) (fun v w12271 hR12272 => ?_)
         obtain ⟨rfl, hk_⟩ := hR12272
         have hS12273 := hS12268.keepN hk_
         refine ⟨⟨hS12273.cell 0 rfl 1 rfl, hS12273.cell 1 rfl 1 rfl, hS12273.cell 0 rfl 0 rfl, hS12273.cell 1 rfl 0 rfl, hS12273.cell 1 rfl 1 rfl, hS12273.cell 1 rfl 2 rfl, trivial⟩, ?_⟩
         obtain ⟨h12274, hx12194⟩ := as_some hx12194
         refine seg 20 [.v (iv ((rdD p0 t12269 z_Tile).W))] [0, 3, 6, 7, 8, 73] [(0, (.slice A_p0 p0.length c_p0)), (3, (pt g10226)), (6, (iv x11626)), (7, (iv x12073)), (8, (pt g12087)), (73, (.bool (((rdD p0 t12081 z_Tile).E) != ((rdD p0 t12269 z_Tile).W))))] [.idx A_p0 t12269 p0.length, .cell (((adr A_p0).add ((t12269).toNat * 4)).add 3) (iv ((rdD p0 t12269 z_Tile).W))] (fun fb => by kernel_rfl) rfl ⟨rowR.adr (hS12273.rd 0).1 h12274.1 h12274.2, rowR.cell (hS12273.rd 0).1 z_Tile h12274.1 h12274.2 3 rfl, trivial⟩ ?_
         refine WL.cutV (T := Bool) 40 (fun t => [(93, (.bool t)), (0, (.slice A_p0 p0.length c_p0)), (3, (pt g10226)), (6, (iv x11626)), (7, (iv x12073))]) (fun t => (((rdD p0 t12081 z_Tile).E) != ((rdD p0 t12269 z_Tile).W)) = t) (fun K => ?_) ?_
         ·
          rcases Bool.eq_false_or_eq_true (((rdD p0 t12081 z_Tile).E) != ((rdD p0 t12269 z_Tile).W)) with h12275 | h12275
          ·
           refine WL.setB 73 h12275 rfl ?_
           refine seg 40 [] [0, 3, 6, 7, 93] [(0, (.slice A_p0 p0.length c_p0)), (3, (pt g10226)), (6, (iv x11626)), (7, (iv x12073)), (93, (.bool true))] [] (fun fb => by kernel_rfl) rfl trivial ?_
           exact WL.toV K true [93, 0, 3, 6, 7] rfl (by first | (rw [h12275]; done) | (rw [h12275]; rfl))
          refine WL.setB 73 h12275 rfl ?_
          refine segF 26 [.v (iv p1.Height)] [0, 3, 6, 7, 8, 73, 79] [(0, (.slice A_p0 p0.length c_p0)), (3, (pt g10226)), (6, (iv x11626)), (7, (iv x12073)), (8, (pt g12087)), (73, (.bool false)), (79, (.bool (decide (w64 (x11626 + 1) < p1.Height))))] [] [5] [(23, ⟨g10226, 1, none⟩, (iv p1.Height))] (fun fb => by kernel_rfl) rfl trivial rfl ?_
          refine WL.setB 79 h12202 rfl ?_
          refine seg 40 [] [0, 3, 6, 7, 93] [(0, (.slice A_p0 p0.length c_p0)), (3, (pt g10226)), (6, (iv x11626)), (7, (iv x12073)), (93, (.bool false))] [] (fun fb => by kernel_rfl) rfl trivial ?_
          exact WL.toV K false [93, 0, 3, 6, 7] rfl (by first | (rw [h12275]; done) | (rw [h12275]; rfl))
         rintro b12276 rfl
         refine WL.done rfl ?_
         injection hx12194 with hx12194
         exact WX.to Kx12193 (((rdD p0 t12081 z_Tile).E) != ((rdD p0 t12269 z_Tile).W)) [0, 3, 6, 7, 93] rfl ⟨(hS12273.subR [0, 1]).sub [1] (by decide), hx12194.symm⟩
        rcases br_some hx12194 with ⟨h12277, hx12194⟩ | ⟨h12277, hx12194⟩
        ·
         refine WC.regionD ([(3, ⟨g10226, 0, none⟩, (iv p1.Width)), (23, ⟨g10226, 1, none⟩, (iv p1.Height)), (27, ⟨g12087, 0, none⟩, (iv ((rdD p0 t12081 z_Tile).N))), (29, ⟨g10226, 0, none⟩, (iv p1.Width)), (29, ⟨g10226, 1, none⟩, (iv p1.Height)), (29, ⟨g10226, 2, none⟩, (.slice A_p1_Cells p1.Cells.length c_p1_Cells))], [0, 1, 2, 3, 4, 5, 6, 7, 8, 9, 10, 11, 12, 14, 15, 17, 18, 19, 20, 21, 22, 23, 24, 25, 26, 27, 28, 29, 30, 31, 32, 34, 35, 37, 38, 39], [[], [0], [], [2], [0, 1, 2, 3], [0, 1, 2, 3, 4], [0, 1, 2, 3, 4, 5], [0, 1, 2, 3, 4, 5, 6], [0, 1, 2, 3, 4, 5], [0, 1, 2, 3, 4, 5], [0, 1, 2, 3, 4, 5], [0, 1, 2, 3, 4, 5, 10], [0, 1, 2, 3, 4, 5], [0, 1, 2, 3, 4, 5, 9, 10, 11, 12], [0, 1, 2, 3, 4, 5, 8, 9, 10, 11, 12, 13], [0, 1, 2, 3, 4, 5, 8, 9, 10, 11, 12, 13, 14], [0, 1, 2, 3, 4, 5, 8, 9, 10, 11, 12, 13, 14, 15], [0, 1, 2, 3, 4, 5, 6, 7, 8, 9, 10, 11, 12, 13, 14, 15, 16], [0, 1, 2, 3, 4, 5, 6, 7, 8, 9, 10, 11, 12, 13, 14, 15, 16, 17], [0, 1, 2, 3, 4, 5, 6, 7, 8, 9, 10, 11, 12, 13, 14, 15, 16, 17, 18], [0, 1, 2, 3, 4, 5, 6, 7, 8, 9, 10, 11, 12, 13, 14, 15, 16, 17, 18, 19], [0, 1, 2, 3, 4, 5, 6, 7, 8, 9, 10, 11, 12, 13, 14, 15, 16, 17, 18, 19, 20], [0, 1, 2, 3, 4, 5, 6, 7, 8, 9, 10, 11, 12, 13, 14, 15, 16, 17, 18, 19], [0, 1, 2, 3, 4, 5, 6, 7, 8, 9, 10, 11, 12, 13, 14, 15, 16, 17, 18, 19, 22], [0, 1, 2, 3, 4, 5, 6, 7, 8, 9, 10, 11, 12, 13, 14, 15, 16, 17, 18, 19, 20, 21, 22, 23], [0, 1, 2, 3, 4, 5, 6, 7, 8, 9, 10, 11, 12, 13, 14, 15, 16, 17, 18, 19, 20, 21, 22, 23, 24], [0, 1, 2, 3, 4, 5, 6, 7, 8, 9, 10, 11, 12, 13, 14, 15, 16, 17, 18, 19, 20, 21, 22, 23, 24, 25], [0, 1, 2, 3, 4, 5, 6, 7, 8, 9, 10, 11, 12, 13, 14, 15, 16, 17, 18, 19, 20, 21, 22, 23, 24, 25, 26], [0, 1, 2, 3, 4, 5, 6, 7, 8, 9, 10, 11, 12, 13, 14, 15, 16, 17, 18, 19, 20, 21, 22, 23, 24, 25], [0, 1, 2, 3, 4, 5, 6, 7, 8, 9, 10, 11, 12, 13, 14, 15, 16, 17, 18, 19, 20, 21, 22, 23, 24, 25], [0, 1, 2, 3, 4, 5, 6, 7, 8, 9, 10, 11, 12, 13, 14, 15, 16, 17, 18, 19, 20, 21, 22, 23, 24, 25], [0, 1, 2, 3, 4, 5, 6, 7, 8, 9, 10, 11, 12, 13, 14, 15, 16, 17, 18, 19, 20, 21, 22, 23, 24, 25], [0, 1, 2, 3, 4, 5, 6, 7, 8, 9, 10, 11, 12, 13, 14, 15, 16, 17, 18, 19, 20, 21, 22, 23, 24, 25, 31], [0, 1, 2, 3, 4, 5, 6, 7, 8, 9, 10, 11, 12, 13, 14, 15, 16, 17, 18, 19, 20, 21, 22, 23, 24, 25, 29, 30, 31, 32], [0, 1, 2, 3, 4, 5, 6, 7, 8, 9, 10, 11, 12, 13, 14, 15, 16, 17, 18, 19, 20, 21, 22, 23, 24, 25, 28, 29, 30, 31, 32, 33], [0, 1, 2, 3, 4, 5, 6, 7, 8, 9, 10, 11, 12, 13, 14, 15, 16, 17, 18, 19, 20, 21, 22, 23, 24, 25, 28, 29, 30, 31, 32, 33, 34], [0, 1, 2, 3, 4, 5, 6, 7, 8, 9, 10, 11, 12, 13, 14, 15, 16, 17, 18, 19, 20, 21, 22, 23, 24, 25, 28, 29, 30, 31, 32, 33, 34, 35], [0, 1, 2, 3, 4, 5, 6, 7, 8, 9, 10, 11, 12, 13, 14, 15, 16, 17, 18, 19, 20, 21, 22, 23, 24, 25, 26, 27, 28, 29, 30, 31, 32, 33, 34, 35, 36], [0, 1, 2, 3, 4, 5, 6, 7, 8, 9, 10, 11, 12, 13, 14, 15, 16, 17, 18, 19, 20, 21, 22, 23, 24, 25, 26, 27, 28, 29, 30, 31, 32, 33, 34, 35, 36, 37], [0, 1, 2, 3, 4, 5, 6, 7, 8, 9, 10, 11, 12, 13, 14, 15, 16, 17, 18, 19, 20, 21, 22, 23, 24, 25, 26, 27, 28, 29, 30, 31, 32, 33, 34, 35, 36, 37, 38]]) [[0, 1, 2, 3, 4, 5, 6, 7, 8, 9, 10, 11, 12, 13, 14, 15, 16, 17, 18, 19, 20, 21, 22, 23, 24, 25, 26, 27, 28, 29, 30, 31, 32, 33, 34, 35, 36, 37, 38, 39]] (by kernel_rfl) (by kernel_rfl) (NoPanic.seq (NoPanic.block (NoPanic.seq (NoPanic.seq (NoPanic.block (NoPanic.block (NoPanic.seq (NoPanic.seq (NoPanic.block (NoPanic.seq (NoPanic.body))))))))))) ?_
         have hS12285 := hS12092.drew
         revert hS12285
         generalize World.drew w12091 = w12284
         intro hS12285
         refine ⟨⟨hS12285.cell 1 rfl 0 rfl, hS12285.cell 1 rfl 1 rfl, hS12285.cell 0 rfl 0 rfl, hS12285.cell 1 rfl 0 rfl, hS12285.cell 1 rfl 1 rfl, hS12285.cell 1 rfl 2 rfl, trivial⟩, forallC ?_ (forallN)⟩
         refine segF 6 [.v (iv p1.Width)] [0, 3, 6, 7, 8, 59] [(0, (.slice A_p0 p0.length c_p0)), (3, (pt g10226)), (6, (iv x11626)), (7, (iv x12073)), (8, (pt g12087)), (59, (.bool (decide (w64 (x12073 + 1) < p1.Width))))] [] [0] [(3, ⟨g10226, 0, none⟩, (iv p1.Width))] (fun fb => by kernel_rfl) rfl trivial rfl ?_
         refine WL.setB 59 h12195 rfl ?_
         refine segF 26 [.v (iv p1.Height)] [0, 3, 6, 7, 8, 73, 79] [(0, (.slice A_p0 p0.length c_p0)), (3, (pt g10226)), (6, (iv x11626)), (7, (iv x12073)), (8, (pt g12087)), (73, (.bool false)), (79, (.bool (decide (w64 (x11626 + 1) < p1.Height))))] [] [1] [(23, ⟨g10226, 1, none⟩, (iv p1.Height))] (fun fb => by kernel_rfl) rfl trivial rfl ?_
         refine WL.setB 79 h12277 rfl ?_
         refine segF 33 [.v (iv ((rdD p0 t12081 z_Tile).N)), .v (iv p1.Width), .v (iv p1.Height), .v (.slice A_p1_Cells p1.Cells.length c_p1_Cells)] [0, 3, 6, 7, 73, 79, 81, 82, 83, 84, 86] [(0, (.slice A_p0 p0.length c_p0)), (3, (pt g10226)), (6, (iv x11626)), (7, (iv x12073)), (73, (.bool false)), (79, (.bool true)), (81, (iv ((rdD p0 t12081 z_Tile).N))), (82, (.slice A_p0 p0.length c_p0)), (83, (.agg #[(iv p1.Width), (iv p1.Height), (.slice A_p1_Cells p1.Cells.length c_p1_Cells)])), (84, (iv x12073)), (86, (iv (w64 (x11626 + 1))))] [] [2, 3, 4, 5] [(27, ⟨g12087, 0, none⟩, (iv ((rdD p0 t12081 z_Tile).N))), (29, ⟨g10226, 0, none⟩, (iv p1.Width)), (29, ⟨g10226, 1, none⟩, (iv p1.Height)), (29, ⟨g10226, 2, none⟩, (.slice A_p1_Cells p1.Cells.length c_p1_Cells))] (fun fb => by kernel_rfl) rfl trivial rfl ?_
         obtain ⟨t12286, ht12287, hx12194⟩ := bind_some hx12194
         refine WL.call (some 87) 40 #[(.agg #[(iv p1.Width), (iv p1.Height), (.slice A_p1_Cells p1.Cells.length c_p1_Cells)]), (iv x12073), (iv (w64 (x11626 + 1)))] (fun fb => by kernel_rfl) (ref01_Cell_calls p1 x12073 (w64 (x11626 + 1)) A_p1_Cells c_p1_Cells t12286 _ (hS12285.rd 1) ht12287) (fun v w12288 hR12289 => ?_)
         obtain ⟨rfl, hk_⟩ := hR12289
         have hS12290 := hS12285.keepN hk_
         refine ⟨⟨hS12290.cell 0 rfl 0 rfl, trivial⟩, ?_⟩
         obtain ⟨h12291, hx12194⟩ := as_some hx12194
         refine seg 40 [.v (iv ((rdD p0 t12286 z_Tile).S))] [0, 3, 6, 7, 93] [(0, (.slice A_p0 p0.length c_p0)), (3, (pt g10226)), (6, (iv x11626)), (7, (iv x12073)), (93, (.bool (((rdD p0 t12081 z_Tile).N) != ((rdD p0 t12286 z_Tile).S))))] [.idx A_p0 t12286 p0.length, .cell (((adr A_p0).add ((t12286).toNat * 4)).add 2) (iv ((rdD p0 t12286 z_Tile).S))] (fun fb => by kernel_rfl) rfl ⟨rowR.adr (hS12290.rd 0).1 h12291.1 h12291.2, rowR.cell (hS12290.rd 0).1 z_Tile h12291.1 h12291.2 2 rfl, trivial⟩ ?_
         refine WL.done rfl ?_
         injection hx12194 with hx12194
         exact WX.to Kx12193 (((rdD p0 t12081 z_Tile).N) != ((rdD p0 t12286 z_Tile).S)) [0, 3, 6, 7, 93] rfl ⟨(hS12290.subR [0, 1]).sub [1] (by decide), hx12194.symm⟩
        refine WC.regionD ([(3, ⟨g10226, 0, none⟩, (iv p1.Width)), (23, ⟨g10226, 1, none⟩, (iv p1.Height)), (27, ⟨g12087, 0, none⟩, (iv ((rdD p0 t12081 z_Tile).N))), (29, ⟨g10226, 0, none⟩, (iv p1.Width)), (29, ⟨g10226, 1, none⟩, (iv p1.Height)), (29, ⟨g10226, 2, none⟩, (.slice A_p1_Cells p1.Cells.length c_p1_Cells))], [0, 1, 2, 3, 4, 5, 6, 7, 8, 9, 10, 11, 12, 14, 15, 17, 18, 19, 20, 21, 22, 23, 24, 25, 26, 27, 28, 29, 30, 31, 32, 34, 35, 37, 38, 39], [[], [0], [], [2], [0, 1, 2, 3], [0, 1, 2, 3, 4], [0, 1, 2, 3, 4, 5], [0, 1, 2, 3, 4, 5, 6], [0, 1, 2, 3, 4, 5], [0, 1, 2, 3, 4, 5], [0, 1, 2, 3, 4, 5], [0, 1, 2, 3, 4, 5, 10], [0, 1, 2, 3, 4, 5], [0, 1, 2, 3, 4, 5, 9, 10, 11, 12], [0, 1, 2, 3, 4, 5, 8, 9, 10, 11, 12, 13], [0, 1, 2, 3, 4, 5, 8, 9, 10, 11, 12, 13, 14], [0, 1, 2, 3, 4, 5, 8, 9, 10, 11, 12, 13, 14, 15], [0, 1, 2, 3, 4, 5, 6, 7, 8, 9, 10, 11, 12, 13, 14, 15, 16], [0, 1, 2, 3, 4, 5, 6, 7, 8, 9, 10, 11, 12, 13, 14, 15, 16, 17], [0, 1, 2, 3, 4, 5, 6, 7, 8, 9, 10, 11, 12, 13, 14, 15, 16, 17, 18], [0, 1, 2, 3, 4, 5, 6, 7, 8, 9, 10, 11, 12, 13, 14, 15, 16, 17, 18, 19], [0, 1, 2, 3, 4, 5, 6, 7, 8, 9, 10, 11, 12, 13, 14, 15, 16, 17, 18, 19, 20], [0, 1, 2, 3, 4, 5, 6, 7, 8, 9, 10, 11, 12, 13, 14, 15, 16, 17, 18, 19], [0, 1, 2, 3, 4, 5, 6, 7, 8, 9, 10, 11, 12, 13, 14, 15, 16, 17, 18, 19, 22], [0, 1, 2, 3, 4, 5, 6, 7, 8, 9, 10, 11, 12, 13, 14, 15, 16, 17, 18, 19, 20, 21, 22, 23], [0, 1, 2, 3, 4, 5, 6, 7, 8, 9, 10, 11, 12, 13, 14, 15, 16, 17, 18, 19, 20, 21, 22, 23, 24], [0, 1, 2, 3, 4, 5, 6, 7, 8, 9, 10, 11, 12, 13, 14, 15, 16, 17, 18, 19, 20, 21, 22, 23, 24, 25], [0, 1, 2, 3, 4, 5, 6, 7, 8, 9, 10, 11, 12, 13, 14, 15, 16, 17, 18, 19, 20, 21, 22, 23, 24, 25, 26], [0, 1, 2, 3, 4, 5, 6, 7, 8, 9, 10, 11, 12, 13, 14, 15, 16, 17, 18, 19, 20, 21, 22, 23, 24, 25], [0, 1, 2, 3, 4, 5, 6, 7, 8, 9, 10, 11, 12, 13, 14, 15, 16, 17, 18, 19, 20, 21, 22, 23, 24, 25], [0, 1, 2, 3, 4, 5, 6, 7, 8, 9, 10, 11, 12, 13, 14, 15, 16, 17, 18, 19, 20, 21, 22, 23, 24, 25], [0, 1, 2, 3, 4, 5, 6, 7, 8, 9, 10, 11, 12, 13, 14, 15, 16, 17, 18, 19, 20, 21, 22, 23, 24, 25], [0, 1, 2, 3, 4, 5, 6, 7, 8, 9, 10, 11, 12, 13, 14, 15, 16, 17, 18, 19, 20, 21, 22, 23, 24, 25, 31], [0, 1, 2, 3, 4, 5, 6, 7, 8, 9, 10, 11, 12, 13, 14, 15, 16, 17, 18, 19, 20, 21, 22, 23, 24, 25, 29, 30, 31, 32], [0, 1, 2, 3, 4, 5, 6, 7, 8, 9, 10, 11, 12, 13, 14, 15, 16, 17, 18, 19, 20, 21, 22, 23, 24, 25, 28, 29, 30, 31, 32, 33], [0, 1, 2, 3, 4, 5, 6, 7, 8, 9, 10, 11, 12, 13, 14, 15, 16, 17, 18, 19, 20, 21, 22, 23, 24, 25, 28, 29, 30, 31, 32, 33, 34], [0, 1, 2, 3, 4, 5, 6, 7, 8, 9, 10, 11, 12, 13, 14, 15, 16, 17, 18, 19, 20, 21, 22, 23, 24, 25, 28, 29, 30, 31, 32, 33, 34, 35], [0, 1, 2, 3, 4, 5, 6, 7, 8, 9, 10, 11, 12, 13, 14, 15, 16, 17, 18, 19, 20, 21, 22, 23, 24, 25, 26, 27, 28, 29, 30, 31, 32, 33, 34, 35, 36], [0, 1, 2, 3, 4, 5, 6, 7, 8, 9, 10, 11, 12, 13, 14, 15, 16, 17, 18, 19, 20, 21, 22, 23, 24, 25, 26, 27, 28, 29, 30, 31, 32, 33, 34, 35, 36, 37], [0, 1, 2, 3, 4, 5, 6, 7, 8, 9, 10, 11, 12, 13, 14, 15, 16, 17, 18, 19, 20, 21, 22, 23, 24, 25, 26, 27, 28, 29, 30, 31, 32, 33, 34, 35, 36, 37, 38]]) [[0, 1, 2, 3, 4, 5, 6, 7, 8, 9, 10, 11, 12, 13, 14, 15, 16, 17, 18, 19, 20, 21, 22, 23, 24, 25, 26, 27, 28, 29, 30, 31, 32, 33, 34, 35, 36, 37, 38, 39]] (by kernel_rfl) (by kernel_rfl) (NoPanic.seq (NoPanic.block (NoPanic.seq (NoPanic.seq (NoPanic.block (NoPanic.block (NoPanic.seq (NoPanic.seq (NoPanic.block (NoPanic.seq (NoPanic.body))))))))))) ?_
        have hS12293 := hS12092.drew
        revert hS12293
        generalize World.drew w12091 = w12292
        intro hS12293
        refine ⟨⟨hS12293.cell 1 rfl 0 rfl, hS12293.cell 1 rfl 1 rfl, hS12293.cell 0 rfl 0 rfl, hS12293.cell 1 rfl 0 rfl, hS12293.cell 1 rfl 1 rfl, hS12293.cell 1 rfl 2 rfl, trivial⟩, forallC ?_ (forallN)⟩
        refine segF 6 [.v (iv p1.Width)] [0, 3, 6, 7, 8, 59] [(0, (.slice A_p0 p0.length c_p0)), (3, (pt g10226)), (6, (iv x11626)), (7, (iv x12073)), (8, (pt g12087)), (59, (.bool (decide (w64 (x12073 + 1) < p1.Width))))] [] [0] [(3, ⟨g10226, 0, none⟩, (iv p1.Width))] (fun fb => by kernel_rfl) rfl trivial rfl ?_
        refine WL.setB 59 h12195 rfl ?_
        refine segF 26 [.v (iv p1.Height)] [0, 3, 6, 7, 8, 73, 79] [(0, (.slice A_p0 p0.length c_p0)), (3, (pt g10226)), (6, (iv x11626)), (7, (iv x12073)), (8, (pt g12087)), (73, (.bool false)), (79, (.bool (decide (w64 (x11626 + 1) < p1.Height))))] [] [1] [(23, ⟨g10226, 1, none⟩, (iv p1.Height))] (fun fb => by kernel_rfl) rfl trivial rfl ?_
        refine WL.setB 79 h12277 rfl ?_
        refine seg 40 [] [0, 3, 6, 7, 93] [(0, (.slice A_p0 p0.length c_p0)), (3, (pt g10226)), (6, (iv x11626)), (7, (iv x12073)), (93, (.bool false))] [] (fun fb => by kernel_rfl) rfl trivial ?_
        refine WL.done rfl ?_
        injection hx12194 with hx12194
        exact WX.to Kx12193 false [0, 3, 6, 7, 93] rfl ⟨(hS12293.subR [0, 1]).sub [1] (by decide), hx12194.symm⟩
       rintro y12297 w12294 ⟨hS12295, hq12296⟩
       subst hq12296
       refine WX.next ?_
       rcases br_some hl12079 with ⟨h12298, hl12079⟩ | ⟨h12298, hl12079⟩
       ·refine WC.condT2 (fun fb => by kernel_rfl) h12298 ?_
        refine WC.seq ?_
        refine WC.region ?_
        refine seg 1 [] [4] [(4, (.bool false))] [] (fun fb => by kernel_rfl) rfl trivial ?_
        refine WL.done rfl ?_
        refine WX.next ?_
        refine WC.ret ?_
        injection hl12079 with hl12079
        subst hl12079
        injection hl11632 with hl11632
        subst hl11632
        injection hf with hf
        subst hf
        exact WX.blockR (WX.thenR (WX.thenR (WX.blockR (WX.blockR (WX.thenR (WX.thenR (WX.blockR (WX.thenR (WX.ret_ [] (.bool false) [] (fun fb => by kernel_rfl) trivial ⟨_, rfl, rfl, hS12295.keep⟩)))))))))
       refine WC.condF2 (fun fb => by kernel_rfl) h12298 ?_
       refine WC.skip ?_
       refine WX.blockN (WX.next ?_)
       refine WC.region ?_
       refine seg 3 [] [0, 3, 6, 7] [(0, (.slice A_p0 p0.length c_p0)), (3, (pt g10226)), (6, (iv x11626)), (7, (iv (w64 (x12073 + 1))))] [] (fun fb => by kernel_rfl) rfl trivial ?_
       refine WL.done rfl ?_
       exact WX.again k12076 (Nat.lt_succ_self _) (w64 (x12073 + 1)) [0, 3, 6, 7] rfl ⟨(hS12295.subR [0, 1]).sub [0] (by decide), hl12079⟩
      refine WC.condF2 (fun fb => by kernel_rfl) h12080 ?_
      refine WC.exit ?_
      injection hl12079 with hl12079
      exact WX.thenX (WX.thenX (WX.blockHere (WX.to Kx12074 () [0, 3, 6] rfl ⟨(hS12078.subR [0, 1]).sub [0] (by decide), hl12079.symm⟩)))
    rintro y12302 w12299 ⟨hS12300, hq12301⟩
    subst hq12301
    have hl11632 := sum_inr hl11632
    refine WX.blockN (WX.next ?_)
    refine WC.region ?_
    refine seg 3 [] [0, 3, 6] [(0, (.slice A_p0 p0.length c_p0)), (3, (pt g10226)), (6, (iv (w64 (x11626 + 1))))] [] (fun fb => by kernel_rfl) rfl trivial ?_
    refine WL.done rfl ?_
    exact WX.again k11629 (Nat.lt_succ_self _) (w64 (x11626 + 1)) [0, 3, 6] rfl ⟨(hS12300.subR [0, 1]).sub [0] (by decide), hl11632⟩
   refine WC.condF2 (fun fb => by kernel_rfl) h11633 ?_
   refine WC.exit ?_
   injection hl11632 with hl11632
   exact WX.thenX (WX.thenX (WX.blockHere (WX.to Kx11627 () [] rfl ⟨(hS11631.subR [0, 1]).sub [] (by decide), hl11632.symm⟩)))
 rintro y12307 w12304 ⟨hS12305, hq12306⟩
 subst hq12306
 have hf := sum_inr hf
 refine WX.next ?_
 refine WC.seq ?_
 refine WC.region ?_
 refine seg 1 [] [4] [(4, (.bool true))] [] (fun fb => by kernel_rfl) rfl trivial ?_
 refine WL.done rfl ?_
 refine WX.next ?_
 refine WC.ret ?_
 injection hf with hf
 subst hf
 exact WX.ret_ [] (.bool true) [] (fun fb => by kernel_rfl) trivial ⟨_, rfl, rfl, hS12305.keep⟩
theorem ref01_Torus_calls (k : Nat) (p0 : List Tile) (p1 : Pattern) (A_p0 : Option Addr) (c_p0 : Nat) (A_p1_Cells : Option Addr) (c_p1_Cells : Nat) (r : Bool) (w : World) (hR0 : RO NoS w (rowR enc_Tile A_p0 c_p0 p0)) (hR1 : RO NoS w (rowR encInt A_p1_Cells c_p1_Cells p1.Cells)) (hf : ref01_Torus k p0 p1 = some r) :
  CallsR Try.prog 19 #[(.slice A_p0 p0.length c_p0), (.agg #[(iv p1.Width), (iv p1.Height), (.slice A_p1_Cells p1.Cells.length c_p1_Cells)])] w (fun v w' => v = (.bool r) ∧ Keeps NoS w w') := by
 have hS : St NoS w w [rowR enc_Tile A_p0 c_p0 p0, rowR encInt A_p1_Cells c_p1_Cells p1.Cells] [] := St.init (ro_cons hR0 (ro_cons hR1 (ro_nil _ _)))
 refine enter 59 Try.func19 rfl Try.ntmps19 rfl ?_
 unfold ref01_Torus at hf
 refine WC.seq ?_
 refine WC.region ?_
 refine WL.new hS 3 [] (fun g => (.pointer (some ⟨g, 0, none⟩))) (.cells #[(iv p1.Width), (iv p1.Height), (.slice A_p1_Cells p1.Cells.length c_p1_Cells)] 38 (0, 0)) [] (fun fb g => by kernel_rfl) trivial (fun g10222 w10223 hS10224 => ?_)
 refine ⟨trivial, ?_⟩
 refine seg 2 [] [0, 3] [(0, (.slice A_p0 p0.length c_p0)), (3, (pt g10222))] [] (fun fb => by kernel_rfl) rfl trivial ?_
 refine WL.done rfl ?_
 refine WX.next ?_
 refine WC.seq ?_
 refine WC.seq ?_
 refine WC.region ?_
 refine seg 2 [.v (iv p1.Width), .v (iv p1.Height), .v (.slice A_p1_Cells p1.Cells.length c_p1_Cells)] [0, 3, 7, 8] [(0, (.slice A_p0 p0.length c_p0)), (3, (pt g10222)), (7, (.slice A_p0 p0.length c_p0)), (8, (.agg #[(iv p1.Width), (iv p1.Height), (.slice A_p1_Cells p1.Cells.length c_p1_Cells)]))] [.cell ⟨g10222, 0, none⟩ (iv p1.Width), .cell ⟨g10222, 1, none⟩ (iv p1.Height), .cell ⟨g10222, 2, none⟩ (.slice A_p1_Cells p1.Cells.length c_p1_Cells)] (fun fb => by kernel_rfl) rfl ⟨hS10224.cell 0 rfl 0 rfl, hS10224.cell 0 rfl 1 rfl, hS10224.cell 0 rfl 2 rfl, trivial⟩ ?_
 obtain ⟨t12309, ht12310, hf⟩ := bind_some hf
 refine WL.call (some 9) 39 #[(.slice A_p0 p0.length c_p0), (.agg #[(iv p1.Width), (iv p1.Height), (.slice A_p1_Cells p1.Cells.length c_p1_Cells)])] (fun fb => by kernel_rfl) (ref01_Of_calls _ p0 p1 A_p0 c_p0 A_p1_Cells c_p1_Cells t12309 _ (hS10224.rd 0) (hS10224.rd 1) ht12310) (fun v w12311 hR12312 => ?_)
 obtain ⟨rfl, hk_⟩ := hR12312
 have hS12313 := hS10224.keepN hk_
 refine ⟨trivial, ?_⟩
 refine seg 4 [] [0, 3, 10] [(0, (.slice A_p0 p0.length c_p0)), (3, (pt g10222)), (10, (.bool (!t12309)))] [] (fun fb => by kernel_rfl) rfl trivial ?_
 refine WL.done rfl ?_
 refine WX.next ?_
 rcases br_some hf with ⟨h12314, hf⟩ | ⟨h12314, hf⟩
 ·refine WC.condT2 (fun fb => by kernel_rfl) h12314 ?_
  refine WC.seq ?_
  refine WC.region ?_
  refine seg 1 [] [4] [(4, (.bool false))] [] (fun fb => by kernel_rfl) rfl trivial ?_
  refine WL.done rfl ?_
  refine WX.next ?_
  refine WC.ret ?_
  injection hf with hf
  subst hf
  exact WX.thenR (WX.ret_ [] (.bool false) [] (fun fb => by kernel_rfl) trivial ⟨_, rfl, rfl, hS12313.keep⟩)
 refine WC.condF2 (fun fb => by kernel_rfl) h12314 ?_
 refine WC.skip ?_
 refine WX.next ?_
 refine WC.seq ?_
 refine WC.seq ?_
 refine WC.region ?_
 refine seg 1 [] [0, 3, 5] [(0, (.slice A_p0 p0.length c_p0)), (3, (pt g10222)), (5, (iv 0))] [] (fun fb => by kernel_rfl) rfl trivial ?_
 refine WL.done rfl ?_
 refine WX.next ?_
 obtain ⟨x12511, hx12512, hf⟩ := bind_some hf
 refine WC.cutN (T := Unit) (fun t => [(0, (.slice A_p0 p0.length c_p0)), (3, (pt g10222))]) (fun t w1 => St NoS w w1 [rowR enc_Tile A_p0 c_p0 p0, rowR encInt A_p1_Cells c_p1_Cells p1.Cells] [blk g10222 (.cells #[(iv p1.Width), (iv p1.Height), (.slice A_p1_Cells p1.Cells.length c_p1_Cells)] 38 (0, 0))] ∧ x12511 = .inr t) (fun Kx12511 => ?_) ?_
 ·
  refine WC.block ?_
  refine WC.loop (T := Int) (fun t => [(0, (.slice A_p0 p0.length c_p0)), (3, (pt g10222)), (5, (iv t))]) (fun n t w1 => St NoS w w1 [rowR enc_Tile A_p0 c_p0 p0, rowR encInt A_p1_Cells c_p1_Cells p1.Cells] [blk g10222 (.cells #[(iv p1.Width), (iv p1.Height), (.slice A_p1_Cells p1.Cells.length c_p1_Cells)] 38 (0, 0))] ∧ ref01_Torus.l0 n t p0 p1 = some x12511) k 0 [0, 3, 5] rfl ⟨(hS12313.subR [0, 1]).sub [0] (by decide), hx12512⟩ ?_
  rintro k12513 x12510 w12514 ⟨hS12515, hl12516⟩
  cases k12513 with
  | zero => rw [ref01_Torus.l0] at hl12516; cases hl12516
  | succ k12513 =>
   rw [ref01_Torus.l0] at hl12516
   refine WC.seq ?_
   refine WC.seq ?_
   refine WC.region ?_
   refine seg 4 [.v (iv p1.Height)] [0, 3, 5, 14] [(0, (.slice A_p0 p0.length c_p0)), (3, (pt g10222)), (5, (iv x12510)), (14, (.bool (decide (x12510 < p1.Height))))] [.cell ⟨g10222, 1, none⟩ (iv p1.Height)] (fun fb => by kernel_rfl) rfl ⟨hS12515.cell 0 rfl 1 rfl, trivial⟩ ?_
   refine WL.done rfl ?_
   refine WX.next ?_
   rcases br_some hl12516 with ⟨h12517, hl12516⟩ | ⟨h12517, hl12516⟩
   ·refine WC.condT2 (fun fb => by kernel_rfl) h12517 ?_
    refine WC.skip ?_
    refine WX.next ?_
    refine WC.seq ?_
    refine WC.block ?_
    refine WC.seq ?_
    obtain ⟨x12569, hx12570, hl12516⟩ := bind_some hl12516
    refine WC.cutN (T := Bool) (fun t => [(0, (.slice A_p0 p0.length c_p0)), (3, (pt g10222)), (5, (iv x12510)), (34, (.bool t))]) (fun t w1 => St NoS w w1 [rowR enc_Tile A_p0 c_p0 p0, rowR encInt A_p1_Cells c_p1_Cells p1.Cells] [blk g10222 (.cells #[(iv p1.Width), (iv p1.Height), (.slice A_p1_Cells p1.Cells.length c_p1_Cells)] 38 (0, 0))] ∧ x12569 = t) (fun Kx12569 => ?_) ?_
    ·
     refine WC.regionD ([(1, ⟨g10222, 0, none⟩, (iv p1.Width)), (1, ⟨g10222, 1, none⟩, (iv p1.Height)), (1, ⟨g10222, 2, none⟩, (.slice A_p1_Cells p1.Cells.length c_p1_Cells)), (3, ⟨g10222, 0, none⟩, (iv p1.Width)), (11, ⟨g10222, 0, none⟩, (iv p1.Width)), (11, ⟨g10222, 1, none⟩, (iv p1.Height)), (11, ⟨g10222, 2, none⟩, (.slice A_p1_Cells p1.Cells.length c_p1_Cells))], [0, 1, 2, 3, 4, 5, 7, 8, 10, 11, 12, 14, 15, 17], [[], [], [], [2], [2, 3], [], [1, 2, 3, 4, 5], [0, 1, 2, 3, 4, 5, 6], [0, 1, 2, 3, 4, 5, 6, 7], [0, 1, 2, 3, 4, 5, 6, 7, 8], [], [], [], [1, 2, 3, 4, 5, 6, 11, 12], [1, 2, 3, 4, 5, 6, 10, 11, 12, 13], [1, 2, 3, 4, 5, 6, 10, 11, 12, 13, 14], [1, 2, 3, 4, 5, 6, 10, 11, 12, 13, 14, 15], [0, 1, 2, 3, 4, 5, 6, 7, 8, 9, 10, 11, 12, 13, 14, 15, 16]]) [[0, 1, 2, 3, 4, 5, 10, 11, 12, 6, 7, 8, 9, 13, 14, 15, 16, 17], [0, 1, 2, 3, 4, 5, 10, 11, 12, 6, 7, 8, 13, 14, 15, 9, 16, 17], [0, 1, 2, 3, 4, 5, 10, 11, 12, 6, 7, 8, 13, 14, 15, 16, 9, 17]] (by kernel_rfl) (by kernel_rfl) (NoPanic.seq (NoPanic.block (NoPanic.seq (NoPanic.seq (NoPanic.block (NoPanic.seq (NoPanic.body))))))) ?_
     have hS12572 := hS12515.drew
     revert hS12572
     generalize World.drew w12514 = w12571
     intro hS12572
     refine ⟨⟨hS12572.cell 0 rfl 0 rfl, hS12572.cell 0 rfl 1 rfl, hS12572.cell 0 rfl 2 rfl, hS12572.cell 0 rfl 0 rfl, hS12572.cell 0 rfl 0 rfl, hS12572.cell 0 rfl 1 rfl, hS12572.cell 0 rfl 2 rfl, trivial⟩, forallC ?_ (forallC ?_ (forallC ?_ (forallN)))⟩
     ·
      refine segF 9 [.v (iv p1.Width), .v (iv p1.Height), .v (.slice A_p1_Cells p1.Cells.length c_p1_Cells), .v (iv p1.Width), .v (iv p1.Width), .v (iv p1.Height), .v (.slice A_p1_Cells p1.Cells.length c_p1_Cells)] [0, 3, 5, 17, 18, 21, 22, 27, 28, 29] [(0, (.slice A_p0 p0.length c_p0)), (3, (pt g10222)), (5, (iv x12510)), (17, (.slice A_p0 p0.length c_p0)), (18, (.agg #[(iv p1.Width), (iv p1.Height), (.slice A_p1_Cells p1.Cells.length c_p1_Cells)])), (21, (iv (w64 (p1.Width - 1)))), (22, (iv x12510)), (27, (.slice A_p0 p0.length c_p0)), (28, (.agg #[(iv p1.Width), (iv p1.Height), (.slice A_p1_Cells p1.Cells.length c_p1_Cells)])), (29, (iv x12510))] [] [0, 1, 2, 3, 4, 5, 6] [(1, ⟨g10222, 0, none⟩, (iv p1.Width)), (1, ⟨g10222, 1, none⟩, (iv p1.Height)), (1, ⟨g10222, 2, none⟩, (.slice A_p1_Cells p1.Cells.length c_p1_Cells)), (3, ⟨g10222, 0, none⟩, (iv p1.Width)), (11, ⟨g10222, 0, none⟩, (iv p1.Width)), (11, ⟨g10222, 1, none⟩, (iv p1.Height)), (11, ⟨g10222, 2, none⟩, (.slice A_p1_Cells p1.Cells.length c_p1_Cells))] (fun fb => by kernel_rfl) rfl trivial rfl ?_
      obtain ⟨t12573, ht12574, hx12570⟩ := bind_some hx12570
      refine WL.call (some 23) 40 #[(.agg #[(iv p1.Width), (iv p1.Height), (.slice A_p1_Cells p1.Cells.length c_p1_Cells)]), (iv (w64 (p1.Width - 1))), (iv x12510)] (fun fb => by kernel_rfl) (ref01_Cell_calls p1 (w64 (p1.Width - 1)) x12510 A_p1_Cells c_p1_Cells t12573 _ (hS12572.rd 1) ht12574) (fun v w12575 hR12576 => ?_)
      obtain ⟨rfl, hk_⟩ := hR12576
      have hS12577 := hS12572.keepN hk_
      refine ⟨⟨hS12577.cell 0 rfl 0 rfl, hS12577.cell 0 rfl 1 rfl, hS12577.cell 0 rfl 2 rfl, trivial⟩, ?_⟩
      obtain ⟨h12578, hx12570⟩ := as_some hx12570
      refine seg 13 [.v (iv ((rdD p0 t12573 z_Tile).E))] [0, 3, 5, 26, 27, 28, 29] [(0, (.slice A_p0 p0.length c_p0)), (3, (pt g10222)), (5, (iv x12510)), (26, (iv ((rdD p0 t12573 z_Tile).E))), (27, (.slice A_p0 p0.length c_p0)), (28, (.agg #[(iv p1.Width), (iv p1.Height), (.slice A_p1_Cells p1.Cells.length c_p1_Cells)])), (29, (iv x12510))] [.idx A_p0 t12573 p0.length, .cell (((adr A_p0).add ((t12573).toNat * 4)).add 1) (iv ((rdD p0 t12573 z_Tile).E))] (fun fb => by kernel_rfl) rfl ⟨rowR.adr (hS12577.rd 0).1 h12578.1 h12578.2, rowR.cell (hS12577.rd 0).1 z_Tile h12578.1 h12578.2 1 rfl, trivial⟩ ?_
      obtain ⟨t12579, ht12580, hx12570⟩ := bind_some hx12570
      refine WL.call (some 30) 40 #[(.agg #[(iv p1.Width), (iv p1.Height), (.slice A_p1_Cells p1.Cells.length c_p1_Cells)]), (iv 0), (iv x12510)] (fun fb => by kernel_rfl) (ref01_Cell_calls p1 0 x12510 A_p1_Cells c_p1_Cells t12579 _ (hS12577.rd 1) ht12580) (fun v w12581 hR12582 => ?_)
      obtain ⟨rfl, hk_⟩ := hR12582
      have hS12583 := hS12577.keepN hk_
      refine ⟨trivial, ?_⟩
      obtain ⟨h12584, hx12570⟩ := as_some hx12570
      refine seg 18 [.v (iv ((rdD p0 t12579 z_Tile).W))] [0, 3, 5, 34] [(0, (.slice A_p0 p0.length c_p0)), (3, (pt g10222)), (5, (iv x12510)), (34, (.bool (((rdD p0 t12573 z_Tile).E) != ((rdD p0 t12579 z_Tile).W))))] [.idx A_p0 t12579 p0.length, .cell (((adr A_p0).add ((t12579).toNat * 4)).add 3) (iv ((rdD p0 t12579 z_Tile).W))] (fun fb => by kernel_rfl) rfl ⟨rowR.adr (hS12583.rd 0).1 h12584.1 h12584.2, rowR.cell (hS12583.rd 0).1 z_Tile h12584.1 h12584.2 3 rfl, trivial⟩ ?_
      refine WL.done rfl ?_
      injection hx12570 with hx12570
      exact WX.to Kx12569 (((rdD p0 t12573 z_Tile).E) != ((rdD p0 t12579 z_Tile).W)) [0, 3, 5, 34] rfl ⟨(hS12583.subR [0, 1]).sub [0] (by decide), hx12570.symm⟩
     ·
      refine segF 9 [.v (iv p1.Width), .v (iv p1.Height), .v (.slice A_p1_Cells p1.Cells.length c_p1_Cells), .v (iv p1.Width), .v (iv p1.Width), .v (iv p1.Height), .v (.slice A_p1_Cells p1.Cells.length c_p1_Cells)] [0, 3, 5, 17, 18, 21, 22, 27, 28, 29] [(0, (.slice A_p0 p0.length c_p0)), (3, (pt g10222)), (5, (iv x12510)), (17, (.slice A_p0 p0.length c_p0)), (18, (.agg #[(iv p1.Width), (iv p1.Height), (.slice A_p1_Cells p1.Cells.length c_p1_Cells)])), (21, (iv (w64 (p1.Width - 1)))), (22, (iv x12510)), (27, (.slice A_p0 p0.length c_p0)), (28, (.agg #[(iv p1.Width), (iv p1.Height), (.slice A_p1_Cells p1.Cells.length c_p1_Cells)])), (29, (iv x12510))] [] [0, 1, 2, 3, 4, 5, 6] [(1, ⟨g10222, 0, none⟩, (iv p1.Width)), (1, ⟨g10222, 1, none⟩, (iv p1.Height)), (1, ⟨g10222, 2, none⟩, (.slice A_p1_Cells p1.Cells.length c_p1_Cells)), (3, ⟨g10222, 0, none⟩, (iv p1.Width)), (11, ⟨g10222, 0, none⟩, (iv p1.Width)), (11, ⟨g10222, 1, none⟩, (iv p1.Height)), (11, ⟨g10222, 2, none⟩, (.slice A_p1_Cells p1.Cells.length c_p1_Cells))] (fun fb => by kernel_rfl) rfl trivial rfl ?_
      obtain ⟨t12585, ht12586, hx12570⟩ := bind_some hx12570
      refine WL.call (some 23) 40 #[(.agg #[(iv p1.Width), (iv p1.Height), (.slice A_p1_Cells p1.Cells.length c_p1_Cells)]), (iv (w64 (p1.Width - 1))), (iv x12510)] (fun fb => by kernel_rfl) (ref01_Cell_calls p1 (w64 (p1.Width - 1)) x12510 A_p1_Cells c_p1_Cells t12585 _ (hS12572.rd 1) ht12586) (fun v w12587 hR12588 => ?_)
      obtain ⟨rfl, hk_⟩ := hR12588
      have hS12589 := hS12572.keepN hk_
      refine ⟨⟨hS12589.cell 0 rfl 0 rfl, hS12589.cell 0 rfl 1 rfl, hS12589.cell 0 rfl 2 rfl, trivial⟩, ?_⟩
      obtain ⟨h12590, hx12570⟩ := as_some hx12570
      refine seg 12 [] [0, 3, 5, 25, 27, 28, 29] [(0, (.slice A_p0 p0.length c_p0)), (3, (pt g10222)), (5, (iv x12510)), (25, (.pointer (some (((adr A_p0).add ((t12585).toNat * 4)).add 1)))), (27, (.slice A_p0 p0.length c_p0)), (28, (.agg #[(iv p1.Width), (iv p1.Height), (.slice A_p1_Cells p1.Cells.length c_p1_Cells)])), (29, (iv x12510))] [.idx A_p0 t12585 p0.length] (fun fb => by kernel_rfl) rfl ⟨rowR.adr (hS12589.rd 0).1 h12590.1 h12590.2, trivial⟩ ?_
      obtain ⟨t12591, ht12592, hx12570⟩ := bind_some hx12570
      refine WL.call (some 30) 40 #[(.agg #[(iv p1.Width), (iv p1.Height), (.slice A_p1_Cells p1.Cells.length c_p1_Cells)]), (iv 0), (iv x12510)] (fun fb => by kernel_rfl) (ref01_Cell_calls p1 0 x12510 A_p1_Cells c_p1_Cells t12591 _ (hS12589.rd 1) ht12592) (fun v w12593 hR12594 => ?_)
      obtain ⟨rfl, hk_⟩ := hR12594
      have hS12595 := hS12589.keepN hk_
      refine ⟨trivial, ?_⟩
      obtain ⟨h12596, hx12570⟩ := as_some hx12570
      refine seg 18 [.v (iv ((rdD p0 t12585 z_Tile).E)), .v (iv ((rdD p0 t12591 z_Tile).W))] [0, 3, 5, 34] [(0, (.slice A_p0 p0.length c_p0)), (3, (pt g10222)), (5, (iv x12510)), (34, (.bool (((rdD p0 t12585 z_Tile).E) != ((rdD p0 t12591 z_Tile).W))))] [.idx A_p0 t12591 p0.length, .cell (((adr A_p0).add ((t12585).toNat * 4)).add 1) (iv ((rdD p0 t12585 z_Tile).E)), .cell (((adr A_p0).add ((t12591).toNat * 4)).add 3) (iv ((rdD p0 t12591 z_Tile).W))] (fun fb => by kernel_rfl) rfl ⟨rowR.adr (hS12595.rd 0).1 h12596.1 h12596.2, rowR.cell (hS12595.rd 0).1 z_Tile h12590.1 h12590.2 1 rfl, rowR.cell (hS12595.rd 0).1 z_Tile h12596.1 h12596.2 3 rfl, trivial⟩ ?_
      refine WL.done rfl ?_
      injection hx12570 with hx12570
      exact WX.to Kx12569 (((rdD p0 t12585 z_Tile).E) != ((rdD p0 t12591 z_Tile).W)) [0, 3, 5, 34] rfl ⟨(hS12595.subR [0, 1]).sub [0] (by decide), hx12570.symm⟩
     refine segF 9 [.v (iv p1.Width), .v (iv p1.Height), .v (.slice A_p1_Cells p1.Cells.length c_p1_Cells), .v (iv p1.Width), .v (iv p1.Width), .v (iv p1.Height), .v (.slice A_p1_Cells p1.Cells.length c_p1_Cells)] [0, 3, 5, 17, 18, 21, 22, 27, 28, 29] [(0, (.slice A_p0 p0.length c_p0)), (3, (pt g10222)), (5, (iv x12510)), (17, (.slice A_p0 p0.length c_p0)), (18, (.agg #[(iv p1.Width), (iv p1.Height), (.slice A_p1_Cells p1.Cells.length c_p1_Cells)])), (21, (iv (w64 (p1.Width - 1)))), (22, (iv x12510)), (27, (.slice A_p0 p0.length c_p0)), (28, (.agg #[(iv p1.Width), (iv p1.Height), (.slice A_p1_Cells p1.Cells.length c_p1_Cells)])), (29, (iv x12510))] [] [0, 1, 2, 3, 4, 5, 6] [(1, ⟨g10222, 0, none⟩, (iv p1.Width)), (1, ⟨g10222, 1, none⟩, (iv p1.Height)), (1, ⟨g10222, 2, none⟩, (.slice A_p1_Cells p1.Cells.length c_p1_Cells)), (3, ⟨g10222, 0, none⟩, (iv p1.Width)), (11, ⟨g10222, 0, none⟩, (iv p1.Width)), (11, ⟨g10222, 1, none⟩, (iv p1.Height)), (11, ⟨g10222, 2, none⟩, (.slice A_p1_Cells p1.Cells.length c_p1_Cells))] (fun fb => by kernel_rfl) rfl trivial rfl ?_
     obtain ⟨t12597, ht12598, hx12570⟩ := bind_some hx12570
     refine WL.call (some 23) 40 #[(.agg #[(iv p1.Width), (iv p1.Height), (.slice A_p1_Cells p1.Cells.length c_p1_Cells)]), (iv (w64 (p1.Width - 1))), (iv x12510)] (fun fb => by kernel_rfl) (ref01_Cell_calls p1 (w64 (p1.Width - 1)) x12510 A_p1_Cells c_p1_Cells t12597 _ (hS12572.rd 1) ht12598) (fun v w12599 hR12600 => ?_)
     obtain ⟨rfl, hk_⟩ := hR12600
     have hS12601 := hS12572.keepN hk_
     refine ⟨⟨hS12601.cell 0 rfl 0 rfl, hS12601.cell 0 rfl 1 rfl, hS12601.cell 0 rfl 2 rfl, trivial⟩, ?_⟩
     obtain ⟨h12602, hx12570⟩ := as_some hx12570
     refine seg 12 [] [0, 3, 5, 25, 27, 28, 29] [(0, (.slice A_p0 p0.length c_p0)), (3, (pt g10222)), (5, (iv x12510)), (25, (.pointer (some (((adr A_p0).add ((t12597).toNat * 4)).add 1)))), (27, (.slice A_p0 p0.length c_p0)), (28, (.agg #[(iv p1.Width), (iv p1.Height), (.slice A_p1_Cells p1.Cells.length c_p1_Cells)])), (29, (iv x12510))] [.idx A_p0 t12597 p0.length] (fun fb => by kernel_rfl) rfl ⟨rowR.adr (hS12601.rd 0).1 h12602.1 h12602.2, trivial⟩ ?_
     obtain ⟨t12603, ht12604, hx12570⟩ := bind_some hx12570
     refine WL.call (some 30) 40 #[(.agg #[(iv p1.Width), (iv p1.Height), (.slice A_p1_Cells p1.Cells.length c_p1_Cells)]), (iv 0), (iv x12510)] (fun fb => by kernel_rfl) (ref01_Cell_calls p1 0 x12510 A_p1_Cells c_p1_Cells t12603 _ (hS12601.rd 1) ht12604) (fun v w12605 hR12606 => ?_)
     obtain ⟨rfl, hk_⟩ := hR12606
     have hS12607 := hS12601.keepN hk_
     refine ⟨trivial, ?_⟩
     obtain ⟨h12608, hx12570⟩ := as_some hx12570
     refine seg 18 [.v (iv ((rdD p0 t12603 z_Tile).W)), .v (iv ((rdD p0 t12597 z_Tile).E))] [0, 3, 5, 34] [(0, (.slice A_p0 p0.length c_p0)), (3, (pt g10222)), (5, (iv x12510)), (34, (.bool (((rdD p0 t12597 z_Tile).E) != ((rdD p0 t12603 z_Tile).W))))] [.idx A_p0 t12603 p0.length, .cell (((adr A_p0).add ((t12603).toNat * 4)).add 3) (iv ((rdD p0 t12603 z_Tile).W)), .cell (((adr A_p0).add ((t12597).toNat * 4)).add 1) (iv ((rdD p0 t12597 z_Tile).E))] (fun fb => by kernel_rfl) rfl ⟨rowR.adr (hS12607.rd 0).1 h12608.1 h12608.2, rowR.cell (hS12607.rd 0).1 z_Tile h12608.1 h12608.2 3 rfl, rowR.cell (hS12607.rd 0).1 z_Tile h12602.1 h12602.2 1 rfl, trivial⟩ ?_
     refine WL.done rfl ?_
     injection hx12570 with hx12570
     exact WX.to Kx12569 (((rdD p0 t12597 z_Tile).E) != ((rdD p0 t12603 z_Tile).W)) [0, 3, 5, 34] rfl ⟨(hS12607.subR [0, 1]).sub [0] (by decide), hx12570.symm⟩
    rintro y12612 w12609 ⟨hS12610, hq12611⟩
    subst hq12611
    refine WX.next ?_
    rcases br_some hl12516 with ⟨h12613, hl12516⟩ | ⟨h12613, hl12516⟩
    ·refine WC.condT2 (fun fb => by kernel_rfl) h12613 ?_
     refine WC.seq ?_
     refine WC.region ?_
     refine seg 1 [] [4] [(4, (.bool false))] [] (fun fb => by kernel_rfl) rfl trivial ?_
     refine WL.done rfl ?_
     refine WX.next ?_
     refine WC.ret ?_
     injection hl12516 with hl12516
     subst hl12516
     injection hf with hf
     subst hf
     exact WX.blockR (WX.thenR (WX.thenR (WX.blockR (WX.thenR (WX.ret_ [] (.bool false) [] (fun fb => by kernel_rfl) trivial ⟨_, rfl, rfl, hS12610.keep⟩)))))
    refine WC.condF2 (fun fb => by kernel_rfl) h12613 ?_
    refine WC.skip ?_
    refine WX.blockN (WX.next ?_)
    refine WC.region ?_
    refine seg 3 [] [0, 3, 5] [(0, (.slice A_p0 p0.length c_p0)), (3, (pt g10222)), (5, (iv (w64 (x12510 + 1))))] [] (fun fb => by kernel_rfl) rfl trivial ?_
    refine WL.done rfl ?_
    exact WX.again k12513 (Nat.lt_succ_self _) (w64 (x12510 + 1)) [0, 3, 5] rfl ⟨(hS12610.subR [0, 1]).sub [0] (by decide), hl12516⟩
   refine WC.condF2 (fun fb => by kernel_rfl) h12517 ?_
   refine WC.exit ?_
   injection hl12516 with hl12516
   exact WX.thenX (WX.thenX (WX.blockHere (WX.to Kx12511 () [0, 3] rfl ⟨(hS12515.subR [0, 1]).sub [0] (by decide), hl12516.symm⟩)))
 rintro y12617 w12614 ⟨hS12615, hq12616⟩
 subst hq12616
 have hf := sum_inr hf
 refine WX.next ?_
 refine WC.seq ?_
 refine WC.seq ?_
 refine WC.region ?_
 refine seg 1 [] [0, 3, 6] [(0, (.slice A_p0 p0.length c_p0)), (3, (pt g10222)), (6, (iv 0))] [] (fun fb => by kernel_rfl) rfl trivial ?_
 refine WL.done rfl ?_
 refine WX.next ?_
 obtain ⟨x12815, hx12816, hf⟩ := bind_some hf
 refine WC.cutN (T := Unit) (fun t => []) (fun t w1 => St NoS w w1 [rowR enc_Tile A_p0 c_p0 p0, rowR encInt A_p1_Cells c_p1_Cells p1.Cells] [] ∧ x12815 = .inr t) (fun Kx12815 => ?_) ?_
 ·
  refine WC.block ?_
  refine WC.loop (T := Int) (fun t => [(0, (.slice A_p0 p0.length c_p0)), (3, (pt g10222)), (6, (iv t))]) (fun n t w1 => St NoS w w1 [rowR enc_Tile A_p0 c_p0 p0, rowR encInt A_p1_Cells c_p1_Cells p1.Cells] [blk g10222 (.cells #[(iv p1.Width), (iv p1.Height), (.slice A_p1_Cells p1.Cells.length c_p1_Cells)] 38 (0, 0))] ∧ ref01_Torus.l1 n t p0 p1 = some x12815) k 0 [0, 3, 6] rfl ⟨(hS12615.subR [0, 1]).sub [0] (by decide), hx12816⟩ ?_
  rintro k12817 x12814 w12818 ⟨hS12819, hl12820⟩
  cases k12817 with
  | zero => rw [ref01_Torus.l1] at hl12820; cases hl12820
  | succ k12817 =>
   rw [ref01_Torus.l1] at hl12820
   refine WC.seq ?_
   refine WC.seq ?_
   refine WC.region ?_
   refine seg 4 [.v (iv p1.Width)] [0, 3, 6, 38] [(0, (.slice A_p0 p0.length c_p0)), (3, (pt g10222)), (6, (iv x12814)), (38, (.bool (decide (x12814 < p1.Width))))] [.cell ⟨g10222, 0, none⟩ (iv p1.Width)] (fun fb => by kernel_rfl) rfl ⟨hS12819.cell 0 rfl 0 rfl, trivial⟩ ?_
   refine WL.done rfl ?_
   refine WX.next ?_
   rcases br_some hl12820 with ⟨h12821, hl12820⟩ | ⟨h12821, hl12820⟩
   ·refine WC.condT2 (fun fb => by kernel_rfl) h12821 ?_
    refine WC.skip ?_
    refine WX.next ?_
    refine WC.seq ?_
    refine WC.block ?_
    refine WC.seq ?_
    obtain ⟨x12873, hx12874, hl12820⟩ := bind_some hl12820
    refine WC.cutN (T := Bool) (fun t => [(0, (.slice A_p0 p0.length c_p0)), (3, (pt g10222)), (6, (iv x12814)), (58, (.bool t))]) (fun t w1 => St NoS w w1 [rowR enc_Tile A_p0 c_p0 p0, rowR encInt A_p1_Cells c_p1_Cells p1.Cells] [blk g10222 (.cells #[(iv p1.Width), (iv p1.Height), (.slice A_p1_Cells p1.Cells.length c_p1_Cells)] 38 (0, 0))] ∧ x12873 = t) (fun Kx12873 => ?_) ?_
    ·
     refine WC.regionD ([(1, ⟨g10222, 0, none⟩, (iv p1.Width)), (1, ⟨g10222, 1, none⟩, (iv p1.Height)), (1, ⟨g10222, 2, none⟩, (.slice A_p1_Cells p1.Cells.length c_p1_Cells)), (4, ⟨g10222, 1, none⟩, (iv p1.Height)), (11, ⟨g10222, 0, none⟩, (iv p1.Width)), (11, ⟨g10222, 1, none⟩, (iv p1.Height)), (11, ⟨g10222, 2, none⟩, (.slice A_p1_Cells p1.Cells.length c_p1_Cells))], [0, 1, 2, 3, 4, 5, 7, 8, 10, 11, 12, 14, 15, 17], [[], [], [], [], [3], [3, 4], [1, 2, 3, 4, 5], [0, 1, 2, 3, 4, 5, 6], [0, 1, 2, 3, 4, 5, 6, 7], [0, 1, 2, 3, 4, 5, 6, 7, 8], [], [], [], [1, 2, 3, 4, 5, 6, 11, 12], [1, 2, 3, 4, 5, 6, 10, 11, 12, 13], [1, 2, 3, 4, 5, 6, 10, 11, 12, 13, 14], [1, 2, 3, 4, 5, 6, 10, 11, 12, 13, 14, 15], [0, 1, 2, 3, 4, 5, 6, 7, 8, 9, 10, 11, 12, 13, 14, 15, 16]]) [[0, 1, 2, 3, 4, 5, 10, 11, 12, 6, 7, 8, 9, 13, 14, 15, 16, 17], [0, 1, 2, 3, 4, 5, 10, 11, 12, 6, 7, 8, 13, 14, 15, 9, 16, 17], [0, 1, 2, 3, 4, 5, 10, 11, 12, 6, 7, 8, 13, 14, 15, 16, 9, 17]] (by kernel_rfl) (by kernel_rfl) (NoPanic.seq (NoPanic.block (NoPanic.seq (NoPanic.seq (NoPanic.block (NoPanic.seq (NoPanic.body))))))) ?_
     have hS12876 := hS12819.drew
     revert hS12876
     generalize World.drew w12818 = w12875
     intro hS12876
     refine ⟨⟨hS12876.cell 0 rfl 0 rfl, hS12876.cell 0 rfl 1 rfl, hS12876.cell 0 rfl 2 rfl, hS12876.cell 0 rfl 1 rfl, hS12876.cell 0 rfl 0 rfl, hS12876.cell 0 rfl 1 rfl, hS12876.cell 0 rfl 2 rfl, trivial⟩, forallC ?_ (forallC ?_ (forallC ?_ (forallN)))⟩
     ·
      refine segF 9 [.v (iv p1.Width), .v (iv p1.Height), .v (.slice A_p1_Cells p1.Cells.length c_p1_Cells), .v (iv p1.Height), .v (iv p1.Width), .v (iv p1.Height), .v (.slice A_p1_Cells p1.Cells.length c_p1_Cells)] [0, 3, 6, 41, 42, 43, 46, 51, 52, 53] [(0, (.slice A_p0 p0.length c_p0)), (3, (pt g10222)), (6, (iv x12814)), (41, (.slice A_p0 p0.length c_p0)), (42, (.agg #[(iv p1.Width), (iv p1.Height), (.slice A_p1_Cells p1.Cells.length c_p1_Cells)])), (43, (iv x12814)), (46, (iv (w64 (p1.Height - 1)))), (51, (.slice A_p0 p0.length c_p0)), (52, (.agg #[(iv p1.Width), (iv p1.Height), (.slice A_p1_Cells p1.Cells.length c_p1_Cells)])), (53, (iv x12814))] [] [0, 1, 2, 3, 4, 5, 6] [(1, ⟨g10222, 0, none⟩, (iv p1.Width)), (1, ⟨g10222, 1, none⟩, (iv p1.Height)), (1, ⟨g10222, 2, none⟩, (.slice A_p1_Cells p1.Cells.length c_p1_Cells)), (4, ⟨g10222, 1, none⟩, (iv p1.Height)), (11, ⟨g10222, 0, none⟩, (iv p1.Width)), (11, ⟨g10222, 1, none⟩, (iv p1.Height)), (11, ⟨g10222, 2, none⟩, (.slice A_p1_Cells p1.Cells.length c_p1_Cells))] (fun fb => by kernel_rfl) rfl trivial rfl ?_
      obtain ⟨t12877, ht12878, hx12874⟩ := bind_some hx12874
      refine WL.call (some 47) 40 #[(.agg #[(iv p1.Width), (iv p1.Height), (.slice A_p1_Cells p1.Cells.length c_p1_Cells)]), (iv x12814), (iv (w64 (p1.Height - 1)))] (fun fb => by kernel_rfl) (ref01_Cell_calls p1 x12814 (w64 (p1.Height - 1)) A_p1_Cells c_p1_Cells t12877 _ (hS12876.rd 1) ht12878) (fun v w12879 hR12880 => ?_)
      obtain ⟨rfl, hk_⟩ := hR12880
      have hS12881 := hS12876.keepN hk_
      refine ⟨⟨hS12881.cell 0 rfl 0 rfl, hS12881.cell 0 rfl 1 rfl, hS12881.cell 0 rfl 2 rfl, trivial⟩, ?_⟩
      obtain ⟨h12882, hx12874⟩ := as_some hx12874
      refine seg 13 [.v (iv ((rdD p0 t12877 z_Tile).N))] [0, 3, 6, 50, 51, 52, 53] [(0, (.slice A_p0 p0.length c_p0)), (3, (pt g10222)), (6, (iv x12814)), (50, (iv ((rdD p0 t12877 z_Tile).N))), (51, (.slice A_p0 p0.length c_p0)), (52, (.agg #[(iv p1.Width), (iv p1.Height), (.slice A_p1_Cells p1.Cells.length c_p1_Cells)])), (53, (iv x12814))] [.idx A_p0 t12877 p0.length, .cell ((adr A_p0).add ((t12877).toNat * 4)) (iv ((rdD p0 t12877 z_Tile).N))] (fun fb => by kernel_rfl) rfl ⟨rowR.adr (hS12881.rd 0).1 h12882.1 h12882.2, rowR.cell (hS12881.rd 0).1 z_Tile h12882.1 h12882.2 0 rfl, trivial⟩ ?_
      obtain ⟨t12883, ht12884, hx12874⟩ := bind_some hx12874
      refine WL.call (some 54) 40 #[(.agg #[(iv p1.Width), (iv p1.Height), (.slice A_p1_Cells p1.Cells.length c_p1_Cells)]), (iv x12814), (iv 0)] (fun fb => by kernel_rfl) (ref01_Cell_calls p1 x12814 0 A_p1_Cells c_p1_Cells t12883 _ (hS12881.rd 1) ht12884) (fun v w12885 hR12886 => ?_)
      obtain ⟨rfl, hk_⟩ := hR12886
      have hS12887 := hS12881.keepN hk_
      refine ⟨trivial, ?_⟩
      obtain ⟨h12888, hx12874⟩ := as_some hx12874
      refine seg 18 [.v (iv ((rdD p0 t12883 z_Tile).S))] [0, 3, 6, 58] [(0, (.slice A_p0 p0.length c_p0)), (3, (pt g10222)), (6, (iv x12814)), (58, (.bool (((rdD p0 t12877 z_Tile).N) != ((rdD p0 t12883 z_Tile).S))))] [.idx A_p0 t12883 p0.length, .cell (((adr A_p0).add ((t12883).toNat * 4)).add 2) (iv ((rdD p0 t12883 z_Tile).S))] (fun fb => by kernel_rfl) rfl ⟨rowR.adr (hS12887.rd 0).1 h12888.1 h12888.2, rowR.cell (hS12887.rd 0).1 z_Tile h12888.1 h12888.2 2 rfl, trivial⟩ ?_
      refine WL.done rfl ?_
      injection hx12874 with hx12874
      exact WX.to Kx12873 (((rdD p0 t12877 z_Tile).N) != ((rdD p0 t12883 z_Tile).S)) [0, 3, 6, 58] rfl ⟨(hS12887.subR [0, 1]).sub [0] (by decide), hx12874.symm⟩
     ·
      refine segF 9 [.v (iv p1.Width), .v (iv p1.Height), .v (.slice A_p1_Cells p1.Cells.length c_p1_Cells), .v (iv p1.Height), .v (iv p1.Width), .v (iv p1.Height), .v (.slice A_p1_Cells p1.Cells.length c_p1_Cells)] [0, 3, 6, 41, 42, 43, 46, 51, 52, 53] [(0, (.slice A_p0 p0.length c_p0)), (3, (pt g10222)), (6, (iv x12814)), (41, (.slice A_p0 p0.length c_p0)), (42, (.agg #[(iv p1.Width), (iv p1.Height), (.slice A_p1_Cells p1.Cells.length c_p1_Cells)])), (43, (iv x12814)), (46, (iv (w64 (p1.Height - 1)))), (51, (.slice A_p0 p0.length c_p0)), (52, (.agg #[(iv p1.Width), (iv p1.Height), (.slice A_p1_Cells p1.Cells.length c_p1_Cells)])), (53, (iv x12814))] [] [0, 1, 2, 3, 4, 5, 6] [(1, ⟨g10222, 0, none⟩, (iv p1.Width)), (1, ⟨g10222, 1, none⟩, (iv p1.Height)), (1, ⟨g10222, 2, none⟩, (.slice A_p1_Cells p1.Cells.length c_p1_Cells)), (4, ⟨g10222, 1, none⟩, (iv p1.Height)), (11, ⟨g10222, 0, none⟩, (iv p1.Width)), (11, ⟨g10222, 1, none⟩, (iv p1.Height)), (11, ⟨g10222, 2, none⟩, (.slice A_p1_Cells p1.Cells.length c_p1_Cells))] (fun fb => by kernel_rfl) rfl trivial rfl ?_
      obtain ⟨t12889, ht12890, hx12874⟩ := bind_some hx12874
      refine WL.call (some 47) 40 #[(.agg #[(iv p1.Width), (iv p1.Height), (.slice A_p1_Cells p1.Cells.length c_p1_Cells)]), (iv x12814), (iv (w64 (p1.Height - 1)))] (fun fb => by kernel_rfl) (ref01_Cell_calls p1 x12814 (w64 (p1.Height - 1)) A_p1_Cells c_p1_Cells t12889 _ (hS12876.rd 1) ht12890) (fun v w12891 hR12892 => ?_)
      obtain ⟨rfl, hk_⟩ := hR12892
      have hS12893 := hS12876.keepN hk_
      refine ⟨⟨hS12893.cell 0 rfl 0 rfl, hS12893.cell 0 rfl 1 rfl, hS12893.cell 0 rfl 2 rfl, trivial⟩, ?_⟩
      obtain ⟨h12894, hx12874⟩ := as_some hx12874
      refine seg 12 [] [0, 3, 6, 49, 51, 52, 53] [(0, (.slice A_p0 p0.length c_p0)), (3, (pt g10222)), (6, (iv x12814)), (49, (.pointer (some ((adr A_p0).add ((t12889).toNat * 4))))), (51, (.slice A_p0 p0.length c_p0)), (52, (.agg #[(iv p1.Width), (iv p1.Height), (.slice A_p1_Cells p1.Cells.length c_p1_Cells)])), (53, (iv x12814))] [.idx A_p0 t12889 p0.length] (fun fb => by kernel_rfl) rfl ⟨rowR.adr (hS12893.rd 0).1 h12894.1 h12894.2, trivial⟩ ?_
      obtain ⟨t12895, ht12896, hx12874⟩ := bind_some hx12874
      refine WL.call (some 54) 40 #[(.agg #[(iv p1.Width), (iv p1.Height), (.slice A_p1_Cells p1.Cells.length c_p1_Cells)]), (iv x12814), (iv 0)] (fun fb => by kernel_rfl) (ref01_Cell_calls p1 x12814 0 A_p1_Cells c_p1_Cells t12895 _ (hS12893.rd 1) ht12896) (fun v w12897 hR12898 => ?_)
      obtain ⟨rfl, hk_⟩ := hR12898
      have hS12899 := hS12893.keepN hk_
      refine ⟨trivial, ?_⟩
      obtain ⟨h12900, hx12874⟩ := as_some hx12874
      refine seg 18 [.v (iv ((rdD p0 t12889 z_Tile).N)), .v (iv ((rdD p0 t12895 z_Tile).S))] [0, 3, 6, 58] [(0, (.slice A_p0 p0.length c_p0)), (3, (pt g10222)), (6, (iv x12814)), (58, (.bool (((rdD p0 t12889 z_Tile).N) != ((rdD p0 t12895 z_Tile).S))))] [.idx A_p0 t12895 p0.length, .cell ((adr A_p0).add ((t12889).toNat * 4)) (iv ((rdD p0 t12889 z_Tile).N)), .cell (((adr A_p0).add ((t12895).toNat * 4)).add 2) (iv ((rdD p0 t12895 z_Tile).S))] (fun fb => by kernel_rfl) rfl ⟨rowR.adr (hS12899.rd 0).1 h12900.1 h12900.2, rowR.cell (hS12899.rd 0).1 z_Tile h12894.1 h12894.2 0 rfl, rowR.cell (hS12899.rd 0).1 z_Tile h12900.1 h12900.2 2 rfl, trivial⟩ ?_
      refine WL.done rfl ?_
      injection hx12874 with hx12874
      exact WX.to Kx12873 (((rdD p0 t12889 z_Tile).N) != ((rdD p0 t12895 z_Tile).S)) [0, 3, 6, 58] rfl ⟨(hS12899.subR [0, 1]).sub [0] (by decide), hx12874.symm⟩
     refine segF 9 [.v (iv p1.Width), .v (iv p1.Height), .v (.slice A_p1_Cells p1.Cells.length c_p1_Cells), .v (iv p1.Height), .v (iv p1.Width), .v (iv p1.Height), .v (.slice A_p1_Cells p1.Cells.length c_p1_Cells)] [0, 3, 6, 41, 42, 43, 46, 51, 52, 53] [(0, (.slice A_p0 p0.length c_p0)), (3, (pt g10222)), (6, (iv x12814)), (41, (.slice A_p0 p0.length c_p0)), (42, (.agg #[(iv p1.Width), (iv p1.Height), (.slice A_p1_Cells p1.Cells.length c_p1_Cells)])), (43, (iv x12814)), (46, (iv (w64 (p1.Height - 1)))), (51, (.slice A_p0 p0.length c_p0)), (52, (.agg #[(iv p1.Width), (iv p1.Height), (.slice A_p1_Cells p1.Cells.length c_p1_Cells)])), (53, (iv x12814))] [] [0, 1, 2, 3, 4, 5, 6] [(1, ⟨g10222, 0, none⟩, (iv p1.Width)), (1, ⟨g10222, 1, none⟩, (iv p1.Height)), (1, ⟨g10222, 2, none⟩, (.slice A_p1_Cells p1.Cells.length c_p1_Cells)), (4, ⟨g10222, 1, none⟩, (iv p1.Height)), (11, ⟨g10222, 0, none⟩, (iv p1.Width)), (11, ⟨g10222, 1, none⟩, (iv p1.Height)), (11, ⟨g10222, 2, none⟩, (.slice A_p1_Cells p1.Cells.length c_p1_Cells))] (fun fb => by kernel_rfl) rfl trivial rfl ?_
     obtain ⟨t12901, ht12902, hx12874⟩ := bind_some hx12874
     refine WL.call (some 47) 40 #[(.agg #[(iv p1.Width), (iv p1.Height), (.slice A_p1_Cells p1.Cells.length c_p1_Cells)]), (iv x12814), (iv (w64 (p1.Height - 1)))] (fun fb => by kernel_rfl) (ref01_Cell_calls p1 x12814 (w64 (p1.Height - 1)) A_p1_Cells c_p1_Cells t12901 _ (hS12876.rd 1) ht12902) (fun v w12903 hR12904 => ?_)
     obtain ⟨rfl, hk_⟩ := hR12904
     have hS12905 := hS12876.keepN hk_
     refine ⟨⟨hS12905.cell 0 rfl 0 rfl, hS12905.cell 0 rfl 1 rfl, hS12905.cell 0 rfl 2 rfl, trivial⟩, ?_⟩
     obtain ⟨h12906, hx12874⟩ := as_some hx12874
     refine seg 12 [] [0, 3, 6, 49, 51, 52, 53] [(0, (.slice A_p0 p0.length c_p0)), (3, (pt g10222)), (6, (iv x12814)), (49, (.pointer (some ((adr A_p0).add ((t12901).toNat * 4))))), (51, (.slice A_p0 p0.length c_p0)), (52, (.agg #[(iv p1.Width), (iv p1.Height), (.slice A_p1_Cells p1.Cells.length c_p1_Cells)])), (53, (iv x12814))] [.idx A_p0 t12901 p0.length] (fun fb => by kernel_rfl) rfl ⟨rowR.adr (hS12905.rd 0).1 h12906.1 h12906.2, trivial⟩ ?_
     obtain ⟨t12907, ht12908, hx12874⟩ := bind_some hx12874
     refine WL.call (some 54) 40 #[(.agg #[(iv p1.Width), (iv p1.Height), (.slice A_p1_Cells p1.Cells.length c_p1_Cells)]), (iv x12814), (iv 0)] (fun fb => by kernel_rfl) (ref01_Cell_calls p1 x12814 0 A_p1_Cells c_p1_Cells t12907 _ (hS12905.rd 1) ht12908) (fun v w12909 hR12910 => ?_)
     obtain ⟨rfl, hk_⟩ := hR12910
     have hS12911 := hS12905.keepN hk_
     refine ⟨trivial, ?_⟩
     obtain ⟨h12912, hx12874⟩ := as_some hx12874
     refine seg 18 [.v (iv ((rdD p0 t12907 z_Tile).S)), .v (iv ((rdD p0 t12901 z_Tile).N))] [0, 3, 6, 58] [(0, (.slice A_p0 p0.length c_p0)), (3, (pt g10222)), (6, (iv x12814)), (58, (.bool (((rdD p0 t12901 z_Tile).N) != ((rdD p0 t12907 z_Tile).S))))] [.idx A_p0 t12907 p0.length, .cell (((adr A_p0).add ((t12907).toNat * 4)).add 2) (iv ((rdD p0 t12907 z_Tile).S)), .cell ((adr A_p0).add ((t12901).toNat * 4)) (iv ((rdD p0 t12901 z_Tile).N))] (fun fb => by kernel_rfl) rfl ⟨rowR.adr (hS12911.rd 0).1 h12912.1 h12912.2, rowR.cell (hS12911.rd 0).1 z_Tile h12912.1 h12912.2 2 rfl, rowR.cell (hS12911.rd 0).1 z_Tile h12906.1 h12906.2 0 rfl, trivial⟩ ?_
     refine WL.done rfl ?_
     injection hx12874 with hx12874
     exact WX.to Kx12873 (((rdD p0 t12901 z_Tile).N) != ((rdD p0 t12907 z_Tile).S)) [0, 3, 6, 58] rfl ⟨(hS12911.subR [0, 1]).sub [0] (by decide), hx12874.symm⟩
    rintro y12916 w12913 ⟨hS12914, hq12915⟩
    subst hq12915
    refine WX.next ?_
    rcases br_some hl12820 with ⟨h12917, hl12820⟩ | ⟨h12917, hl12820⟩
    ·refine WC.condT2 (fun fb => by kernel_rfl) h12917 ?_
     refine WC.seq ?_
     refine WC.region ?_
     refine seg 1 [] [4] [(4, (.bool false))] [] (fun fb => by kernel_rfl) rfl trivial ?_
     refine WL.done rfl ?_
     refine WX.next ?_
     refine WC.ret ?_
     injection hl12820 with hl12820
     subst hl12820
     injection hf with hf
     subst hf
     exact WX.blockR (WX.thenR (WX.thenR (WX.blockR (WX.thenR (WX.ret_ [] (.bool false) [] (fun fb => by kernel_rfl) trivial ⟨_, rfl, rfl, hS12914.keep⟩)))))
    refine WC.condF2 (fun fb => by kernel_rfl) h12917 ?_
    refine WC.skip ?_
    refine WX.blockN (WX.next ?_)
    refine WC.region ?_
    refine seg 3 [] [0, 3, 6] [(0, (.slice A_p0 p0.length c_p0)), (3, (pt g10222)), (6, (iv (w64 (x12814 + 1))))] [] (fun fb => by kernel_rfl) rfl trivial ?_
    refine WL.done rfl ?_
    exact WX.again k12817 (Nat.lt_succ_self _) (w64 (x12814 + 1)) [0, 3, 6] rfl ⟨(hS12914.subR [0, 1]).sub [0] (by decide), hl12820⟩
   refine WC.condF2 (fun fb => by kernel_rfl) h12821 ?_
   refine WC.exit ?_
   injection hl12820 with hl12820
   exact WX.thenX (WX.thenX (WX.blockHere (WX.to Kx12815 () [] rfl ⟨(hS12819.subR [0, 1]).sub [] (by decide), hl12820.symm⟩)))
 rintro y12921 w12918 ⟨hS12919, hq12920⟩
 subst hq12920
 have hf := sum_inr hf
 refine WX.next ?_
 refine WC.seq ?_
 refine WC.region ?_
 refine seg 1 [] [4] [(4, (.bool true))] [] (fun fb => by kernel_rfl) rfl trivial ?_
 refine WL.done rfl ?_
 refine WX.next ?_
 refine WC.ret ?_
 injection hf with hf
 subst hf
 exact WX.ret_ [] (.bool true) [] (fun fb => by kernel_rfl) trivial ⟨_, rfl, rfl, hS12919.keep⟩
theorem law09_none_calls (p0 : Pattern) (A_p0_Cells : Option Addr) (c_p0_Cells : Nat) (r : Bool) (w : World) (hR0 : RO NoS w (rowR encInt A_p0_Cells c_p0_Cells p0.Cells)) (hf : law09_none p0 = some r) :
  CallsR Try.prog 20 #[(.agg #[(iv p0.Width), (iv p0.Height), (.slice A_p0_Cells p0.Cells.length c_p0_Cells)])] w (fun v w' => v = (.bool r) ∧ Keeps NoS w w') := by
 have hS : St NoS w w [rowR encInt A_p0_Cells c_p0_Cells p0.Cells] [] := St.init (ro_cons hR0 (ro_nil _ _))
 refine enter 17 Try.func20 rfl Try.ntmps20 rfl ?_
 unfold law09_none at hf
 refine WC.seq ?_
 refine WC.region ?_
 refine WL.new hS 1 [] (fun g => (.pointer (some ⟨g, 0, none⟩))) (.cells #[(iv p0.Width), (iv p0.Height), (.slice A_p0_Cells p0.Cells.length c_p0_Cells)] 38 (0, 0)) [] (fun fb g => by kernel_rfl) trivial (fun g12942 w12943 hS12944 => ?_)
 refine ⟨trivial, ?_⟩
 refine seg 2 [] [1] [(1, (pt g12942))] [] (fun fb => by kernel_rfl) rfl trivial ?_
 refine WL.done rfl ?_
 refine WX.next ?_
 refine WC.seq ?_
 refine WC.region ?_
 refine seg 4 [.v (iv p0.Width)] [1, 6] [(1, (pt g12942)), (6, (.bool (p0.Width == 0)))] [.cell ⟨g12942, 0, none⟩ (iv p0.Width)] (fun fb => by kernel_rfl) rfl ⟨hS12944.cell 0 rfl 0 rfl, trivial⟩ ?_
 refine WL.cutV (T := Bool) 8 (fun t => [(10, (.bool t)), (1, (pt g12942))]) (fun t => ((p0.Width == 0) && (p0.Height == 0)) = t) (fun K => ?_) ?_
 ·
  rcases Bool.eq_false_or_eq_true (p0.Width == 0) with h12946 | h12946
  ·
   refine WL.setB 6 h12946 rfl ?_
   refine seg 8 [.v (iv p0.Height)] [1, 10] [(1, (pt g12942)), (10, (.bool (p0.Height == 0)))] [.cell ⟨g12942, 1, none⟩ (iv p0.Height)] (fun fb => by kernel_rfl) rfl ⟨hS12944.cell 0 rfl 1 rfl, trivial⟩ ?_
   exact WL.toV K (p0.Height == 0) [10, 1] rfl (by first | (rw [h12946]; done) | (rw [h12946]; rfl))
  refine WL.setB 6 h12946 rfl ?_
  refine seg 8 [] [1, 10] [(1, (pt g12942)), (10, (.bool false))] [] (fun fb => by kernel_rfl) rfl trivial ?_
  exact WL.toV K false [10, 1] rfl (by first | (rw [h12946]; done) | (rw [h12946]; rfl))
 rintro b12947 rfl
 refine seg 9 [] [1, 11] [(1, (pt g12942)), (11, (.bool ((p0.Width == 0) && (p0.Height == 0))))] [] (fun fb => by kernel_rfl) rfl trivial ?_
 refine WL.cutV (T := Bool) 14 (fun t => [(16, (.bool t))]) (fun t => (((p0.Width == 0) && (p0.Height == 0)) && ((p0.Cells.length : Int) == 0)) = t) (fun K => ?_) ?_
 ·
  rcases Bool.eq_false_or_eq_true ((p0.Width == 0) && (p0.Height == 0)) with h12948 | h12948
  ·
   refine WL.setB 11 h12948 rfl ?_
   refine seg 14 [.v (.slice A_p0_Cells p0.Cells.length c_p0_Cells)] [16] [(16, (.bool ((p0.Cells.length : Int) == 0)))] [.cell ⟨g12942, 2, none⟩ (.slice A_p0_Cells p0.Cells.length c_p0_Cells)] (fun fb => by kernel_rfl) rfl ⟨hS12944.cell 0 rfl 2 rfl, trivial⟩ ?_
   exact WL.toV K ((p0.Cells.length : Int) == 0) [16] rfl (by first | (rw [h12948]; done) | (rw [h12948]; rfl))
  refine WL.setB 11 h12948 rfl ?_
  refine seg 14 [] [16] [(16, (.bool false))] [] (fun fb => by kernel_rfl) rfl trivial ?_
  exact WL.toV K false [16] rfl (by first | (rw [h12948]; done) | (rw [h12948]; rfl))
 rintro b12949 rfl
 refine seg 15 [] [2] [(2, (.bool (((p0.Width == 0) && (p0.Height == 0)) && ((p0.Cells.length : Int) == 0))))] [] (fun fb => by kernel_rfl) rfl trivial ?_
 refine WL.done rfl ?_
 refine WX.next ?_
 refine WC.ret ?_
 injection hf with hf
 subst hf
 exact WX.ret_ [] (.bool (((p0.Width == 0) && (p0.Height == 0)) && ((p0.Cells.length : Int) == 0))) [] (fun fb => by kernel_rfl) trivial ⟨_, rfl, rfl, hS12944.keep⟩
end Gp
