/- Walks: each function of the program computes its plain function. -/
import Derived.Test.YtmdkdigmkcpceaaGx2
set_option linter.unusedVariables false
set_option linter.unusedSimpArgs false
set_option maxHeartbeats 4000000
namespace Gp
open Go Gw Go.Proofs
theorem law09_awake_calls (k : Nat)   (r : Bool) (w : World)  (hf : law09_awake k = some r) :
  CallsR Try.prog 14 #[] w (fun v w' => v = (.bool r) ∧ Keeps NoS w w') := by
 have hS : St NoS w w [] [] := St.init (ro_nil _ _)
 refine enter 63 Try.func14 rfl Try.ntmps14 rfl ?_
 unfold law09_awake at hf
 refine WC.seq ?_
 refine WC.region ?_
 refine seg 1 [] [] [] [] (fun fb => by kernel_rfl) rfl trivial ?_
 refine WL.done rfl ?_
 refine WX.next ?_
 refine WC.seq ?_
 refine WC.region ?_
 refine seg 1 [] [8] [(8, (.agg #[(iv 0), (iv 0), (iv 1), (iv 0)]))] [] (fun fb => by kernel_rfl) rfl trivial ?_
 refine WL.new hS 9 [] (fun g => (.slice (some ⟨g, 0, none⟩) 1 1)) (.cells #[(iv 0), (iv 0), (iv 1), (iv 0)] 24 (0, 0)) [] (fun fb g => by kernel_rfl) trivial (fun g8963 w8964 hS8965 => ?_)
 refine ⟨trivial, ?_⟩
 have hS8967 : St NoS w w8964 [] [rowO 24 enc_Tile (some ⟨g8963, 0, none⟩) 1 [(Tile.mk 0 0 1 0)]] := hS8965.map1 0 _ (fun h => rowO.ofBlk h rfl (Nat.le_of_ble_eq_true (by kernel_rfl))) (fun _ h => by obtain ⟨_, h1, h2⟩ := h; injection h1 with h1; subst h1; exact h2) [] (by decide) (by decide)
 obtain ⟨t8968, ht8969, hf⟩ := bind_some hf
 refine WL.call (some 10) 22 #[(.slice (some ⟨g8963, 0, none⟩) [(Tile.mk 0 0 1 0)].length 1)] (fun fb => by kernel_rfl) (decide_Decide_calls _ [(Tile.mk 0 0 1 0)] (some ⟨g8963, 0, none⟩) 1 t8968 _ (hS8967.ow 0).ofO ht8969) (fun v w8970 hR8971 => ?_)
 obtain ⟨A8973, c8974, rfl, hk_⟩ := hR8971
 have hS8972 : St NoS w w8970 [] [rowO 3 encInt A8973 c8974 t8968.1.Torus.Cells, rowO 24 enc_Tile (some ⟨g8963, 0, none⟩) 1 [(Tile.mk 0 0 1 0)]] := hS8967.call hk_ [] [0] (fun g hg => hg.elim) (by simp) (by decide)
 refine ⟨trivial, ?_⟩
 refine seg 6 [] [11, 12] [(11, (.agg #[(.bool t8968.1.Fills), (iv t8968.1.Torus.Width), (iv t8968.1.Torus.Height), (.slice A8973 t8968.1.Torus.Cells.length c8974), (iv t8968.1.Side)])), (12, (iv t8968.2))] [] (fun fb => by kernel_rfl) rfl trivial ?_
 refine WL.new hS8972 1 [] (fun g => (.pointer (some ⟨g, 0, none⟩))) (.cells #[(.bool false), (iv 0), (iv 0), (.slice none 0 0), (iv 0)] 40 (0, 0)) [] (fun fb g => by kernel_rfl) trivial (fun g8975 w8976 hS8977 => ?_)
 refine ⟨trivial, ?_⟩
 refine WL.store hS8977 0 rfl [(0, (.bool t8968.1.Fills)), (1, (iv t8968.1.Torus.Width)), (2, (iv t8968.1.Torus.Height)), (3, (.slice A8973 t8968.1.Torus.Cells.length c8974)), (4, (iv t8968.1.Side))] #[(.bool t8968.1.Fills), (iv t8968.1.Torus.Width), (iv t8968.1.Torus.Height), (.slice A8973 t8968.1.Torus.Cells.length c8974), (iv t8968.1.Side)] (fun fb => by kernel_rfl) (by kernel_rfl) rfl [1, 2] (by decide) (by decide) (fun w8979 hS8980 => ?_)
 refine ⟨trivial, ?_⟩
 refine seg 9 [] [1, 2] [(1, (pt g8975)), (2, (iv t8968.2))] [] (fun fb => by kernel_rfl) rfl trivial ?_
 refine WL.done rfl ?_
 refine WX.next ?_
 refine WC.seq ?_
 refine WC.region ?_
 obtain ⟨t8986, ht8987, hf⟩ := bind_some hf
 refine WL.call (some 14) 36 #[] (fun fb => by kernel_rfl) (law09_chess_calls t8986 _ ht8987) (fun v w8988 hR8989 => ?_)
 obtain ⟨A8991, c8992, rfl, hk_⟩ := hR8989
 have hS8990 : St NoS w w8988 [] [rowO 24 enc_Tile A8991 c8992 t8986, blk g8975 (.cells #[(.bool t8968.1.Fills), (iv t8968.1.Torus.Width), (iv t8968.1.Torus.Height), (.slice A8973 t8968.1.Torus.Cells.length c8974), (iv t8968.1.Side)] 40 (0, 0)), rowO 3 encInt A8973 c8974 t8968.1.Torus.Cells, rowO 24 enc_Tile (some ⟨g8963, 0, none⟩) 1 [(Tile.mk 0 0 1 0)]] := hS8980.call hk_ [] [0, 1, 2] (fun g hg => hg.elim) (by simp) (by decide)
 refine ⟨trivial, ?_⟩
 obtain ⟨t8993, ht8994, hf⟩ := bind_some hf
 refine WL.call (some 15) 22 #[(.slice A8991 t8986.length c8992)] (fun fb => by kernel_rfl) (decide_Decide_calls _ t8986 A8991 c8992 t8993 _ (hS8990.ow 0).ofO ht8994) (fun v w8995 hR8996 => ?_)
 obtain ⟨A8998, c8999, rfl, hk_⟩ := hR8996
 have hS8997 : St NoS w w8995 [] [rowO 3 encInt A8998 c8999 t8993.1.Torus.Cells, rowO 24 enc_Tile A8991 c8992 t8986, blk g8975 (.cells #[(.bool t8968.1.Fills), (iv t8968.1.Torus.Width), (iv t8968.1.Torus.Height), (.slice A8973 t8968.1.Torus.Cells.length c8974), (iv t8968.1.Side)] 40 (0, 0)), rowO 3 encInt A8973 c8974 t8968.1.Torus.Cells, rowO 24 enc_Tile (some ⟨g8963, 0, none⟩) 1 [(Tile.mk 0 0 1 0)]] := hS8990.call hk_ [] [0, 1, 2, 3] (fun g hg => hg.elim) (by simp) (by decide)
 refine ⟨trivial, ?_⟩
 refine seg 5 [] [1, 2, 16, 17] [(1, (pt g8975)), (2, (iv t8968.2)), (16, (.agg #[(.bool t8993.1.Fills), (iv t8993.1.Torus.Width), (iv t8993.1.Torus.Height), (.slice A8998 t8993.1.Torus.Cells.length c8999), (iv t8993.1.Side)])), (17, (iv t8993.2))] [] (fun fb => by kernel_rfl) rfl trivial ?_
 refine WL.new hS8997 3 [] (fun g => (.pointer (some ⟨g, 0, none⟩))) (.cells #[(.bool false), (iv 0), (iv 0), (.slice none 0 0), (iv 0)] 40 (0, 0)) [] (fun fb g => by kernel_rfl) trivial (fun g9000 w9001 hS9002 => ?_)
 refine ⟨trivial, ?_⟩
 refine WL.store hS9002 0 rfl [(0, (.bool t8993.1.Fills)), (1, (iv t8993.1.Torus.Width)), (2, (iv t8993.1.Torus.Height)), (3, (.slice A8998 t8993.1.Torus.Cells.length c8999)), (4, (iv t8993.1.Side))] #[(.bool t8993.1.Fills), (iv t8993.1.Torus.Width), (iv t8993.1.Torus.Height), (.slice A8998 t8993.1.Torus.Cells.length c8999), (iv t8993.1.Side)] (fun fb => by kernel_rfl) (by kernel_rfl) rfl [1, 2, 3, 4, 5] (by decide) (by decide) (fun w9004 hS9005 => ?_)
 refine ⟨trivial, ?_⟩
 refine seg 8 [] [1, 2, 3, 4] [(1, (pt g8975)), (2, (iv t8968.2)), (3, (pt g9000)), (4, (iv t8993.2))] [] (fun fb => by kernel_rfl) rfl trivial ?_
 refine WL.done rfl ?_
 refine WX.next ?_
 refine WC.seq ?_
 refine WC.region ?_
 obtain ⟨t9006, ht9007, hf⟩ := bind_some hf
 refine WL.call (some 19) 22 #[(.slice none 0 0)] (fun fb => by kernel_rfl) (decide_Decide_calls _ ([] : List Tile) none 0 t9006 _ (RO.nilR _ _ _) ht9007) (fun v w9008 hR9009 => ?_)
 obtain ⟨A9011, c9012, rfl, hk_⟩ := hR9009
 have hS9010 : St NoS w w9008 [] [rowO 3 encInt A9011 c9012 t9006.1.Torus.Cells, blk g9000 (.cells #[(.bool t8993.1.Fills), (iv t8993.1.Torus.Width), (iv t8993.1.Torus.Height), (.slice A8998 t8993.1.Torus.Cells.length c8999), (iv t8993.1.Side)] 40 (0, 0)), rowO 3 encInt A8998 c8999 t8993.1.Torus.Cells, rowO 24 enc_Tile A8991 c8992 t8986, blk g8975 (.cells #[(.bool t8968.1.Fills), (iv t8968.1.Torus.Width), (iv t8968.1.Torus.Height), (.slice A8973 t8968.1.Torus.Cells.length c8974), (iv t8968.1.Side)] 40 (0, 0)), rowO 3 encInt A8973 c8974 t8968.1.Torus.Cells, rowO 24 enc_Tile (some ⟨g8963, 0, none⟩) 1 [(Tile.mk 0 0 1 0)]] := hS9005.call hk_ [] [0, 1, 2, 3, 4, 5] (fun g hg => hg.elim) (by simp) (by decide)
 refine ⟨trivial, ?_⟩
 refine seg 4 [] [1, 2, 3, 4, 20, 21] [(1, (pt g8975)), (2, (iv t8968.2)), (3, (pt g9000)), (4, (iv t8993.2)), (20, (.agg #[(.bool t9006.1.Fills), (iv t9006.1.Torus.Width), (iv t9006.1.Torus.Height), (.slice A9011 t9006.1.Torus.Cells.length c9012), (iv t9006.1.Side)])), (21, (iv t9006.2))] [] (fun fb => by kernel_rfl) rfl trivial ?_
 refine WL.new hS9010 5 [] (fun g => (.pointer (some ⟨g, 0, none⟩))) (.cells #[(.bool false), (iv 0), (iv 0), (.slice none 0 0), (iv 0)] 40 (0, 0)) [] (fun fb g => by kernel_rfl) trivial (fun g9013 w9014 hS9015 => ?_)
 refine ⟨trivial, ?_⟩
 refine WL.store hS9015 0 rfl [(0, (.bool t9006.1.Fills)), (1, (iv t9006.1.Torus.Width)), (2, (iv t9006.1.Torus.Height)), (3, (.slice A9011 t9006.1.Torus.Cells.length c9012)), (4, (iv t9006.1.Side))] #[(.bool t9006.1.Fills), (iv t9006.1.Torus.Width), (iv t9006.1.Torus.Height), (.slice A9011 t9006.1.Torus.Cells.length c9012), (iv t9006.1.Side)] (fun fb => by kernel_rfl) (by kernel_rfl) rfl [1, 2, 3, 4, 5, 6, 7] (by decide) (by decide) (fun w9017 hS9018 => ?_)
 refine ⟨trivial, ?_⟩
 refine seg 7 [] [1, 2, 3, 4, 5, 6] [(1, (pt g8975)), (2, (iv t8968.2)), (3, (pt g9000)), (4, (iv t8993.2)), (5, (pt g9013)), (6, (iv t9006.2))] [] (fun fb => by kernel_rfl) rfl trivial ?_
 refine WL.done rfl ?_
 refine WX.next ?_
 refine WC.seq ?_
 refine WC.region ?_
 refine seg 3 [] [1, 3, 4, 5, 6, 24] [(1, (pt g8975)), (3, (pt g9000)), (4, (iv t8993.2)), (5, (pt g9013)), (6, (iv t9006.2)), (24, (.bool (t8968.2 == 0)))] [] (fun fb => by kernel_rfl) rfl trivial ?_
 refine WL.cutV (T := Bool) 6 (fun t => [(27, (.bool t)), (1, (pt g8975)), (3, (pt g9000)), (5, (pt g9013)), (6, (iv t9006.2))]) (fun t => ((t8968.2 == 0) && (t8993.2 == 0)) = t) (fun K => ?_) ?_
 ·
  rcases Bool.eq_false_or_eq_true (t8968.2 == 0) with h9019 | h9019
  ·
   refine WL.setB 24 h9019 rfl ?_
   refine seg 6 [] [1, 3, 5, 6, 27] [(1, (pt g8975)), (3, (pt g9000)), (5, (pt g9013)), (6, (iv t9006.2)), (27, (.bool (t8993.2 == 0)))] [] (fun fb => by kernel_rfl) rfl trivial ?_
   exact WL.toV K (t8993.2 == 0) [27, 1, 3, 5, 6] rfl (by first | (rw [h9019]; done) | (rw [h9019]; rfl))
  refine WL.setB 24 h9019 rfl ?_
  refine seg 6 [] [1, 3, 5, 6, 27] [(1, (pt g8975)), (3, (pt g9000)), (5, (pt g9013)), (6, (iv t9006.2)), (27, (.bool false))] [] (fun fb => by kernel_rfl) rfl trivial ?_
  exact WL.toV K false [27, 1, 3, 5, 6] rfl (by first | (rw [h9019]; done) | (rw [h9019]; rfl))
 rintro b9020 rfl
 refine seg 7 [] [1, 3, 5, 6, 28] [(1, (pt g8975)), (3, (pt g9000)), (5, (pt g9013)), (6, (iv t9006.2)), (28, (.bool ((t8968.2 == 0) && (t8993.2 == 0))))] [] (fun fb => by kernel_rfl) rfl trivial ?_
 refine WL.cutV (T := Bool) 10 (fun t => [(31, (.bool t)), (1, (pt g8975)), (3, (pt g9000)), (5, (pt g9013))]) (fun t => (((t8968.2 == 0) && (t8993.2 == 0)) && (t9006.2 == 0)) = t) (fun K => ?_) ?_
 ·
  rcases Bool.eq_false_or_eq_true ((t8968.2 == 0) && (t8993.2 == 0)) with h9021 | h9021
  ·
   refine WL.setB 28 h9021 rfl ?_
   refine seg 10 [] [1, 3, 5, 31] [(1, (pt g8975)), (3, (pt g9000)), (5, (pt g9013)), (31, (.bool (t9006.2 == 0)))] [] (fun fb => by kernel_rfl) rfl trivial ?_
   exact WL.toV K (t9006.2 == 0) [31, 1, 3, 5] rfl (by first | (rw [h9021]; done) | (rw [h9021]; rfl))
  refine WL.setB 28 h9021 rfl ?_
  refine seg 10 [] [1, 3, 5, 31] [(1, (pt g8975)), (3, (pt g9000)), (5, (pt g9013)), (31, (.bool false))] [] (fun fb => by kernel_rfl) rfl trivial ?_
  exact WL.toV K false [31, 1, 3, 5] rfl (by first | (rw [h9021]; done) | (rw [h9021]; rfl))
 rintro b9022 rfl
 refine seg 11 [] [1, 3, 5, 32] [(1, (pt g8975)), (3, (pt g9000)), (5, (pt g9013)), (32, (.bool (((t8968.2 == 0) && (t8993.2 == 0)) && (t9006.2 == 0))))] [] (fun fb => by kernel_rfl) rfl trivial ?_
 refine WL.cutV (T := Bool) 15 (fun t => [(36, (.bool t)), (1, (pt g8975)), (3, (pt g9000)), (5, (pt g9013))]) (fun t => ((((t8968.2 == 0) && (t8993.2 == 0)) && (t9006.2 == 0)) && (!t8968.1.Fills)) = t) (fun K => ?_) ?_
 ·
  rcases Bool.eq_false_or_eq_true (((t8968.2 == 0) && (t8993.2 == 0)) && (t9006.2 == 0)) with h9023 | h9023
  ·
   refine WL.setB 32 h9023 rfl ?_
   refine seg 15 [.v (.bool t8968.1.Fills)] [1, 3, 5, 36] [(1, (pt g8975)), (3, (pt g9000)), (5, (pt g9013)), (36, (.bool (!t8968.1.Fills)))] [.cell ⟨g8975, 0, none⟩ (.bool t8968.1.Fills)] (fun fb => by kernel_rfl) rfl ⟨hS9018.cell 5 rfl 0 rfl, trivial⟩ ?_
   exact WL.toV K (!t8968.1.Fills) [36, 1, 3, 5] rfl (by first | (rw [h9023]; done) | (rw [h9023]; rfl))
  refine WL.setB 32 h9023 rfl ?_
  refine seg 15 [] [1, 3, 5, 36] [(1, (pt g8975)), (3, (pt g9000)), (5, (pt g9013)), (36, (.bool false))] [] (fun fb => by kernel_rfl) rfl trivial ?_
  exact WL.toV K false [36, 1, 3, 5] rfl (by first | (rw [h9023]; done) | (rw [h9023]; rfl))
 rintro b9024 rfl
 refine seg 16 [] [1, 3, 5, 37] [(1, (pt g8975)), (3, (pt g9000)), (5, (pt g9013)), (37, (.bool ((((t8968.2 == 0) && (t8993.2 == 0)) && (t9006.2 == 0)) && (!t8968.1.Fills))))] [] (fun fb => by kernel_rfl) rfl trivial ?_
 refine WL.cutV (T := Bool) 20 (fun t => [(41, (.bool t)), (3, (pt g9000)), (5, (pt g9013))]) (fun t => (((((t8968.2 == 0) && (t8993.2 == 0)) && (t9006.2 == 0)) && (!t8968.1.Fills)) && (t8968.1.Side == 2)) = t) (fun K => ?_) ?_
 ·
  rcases Bool.eq_false_or_eq_true ((((t8968.2 == 0) && (t8993.2 == 0)) && (t9006.2 == 0)) && (!t8968.1.Fills)) with h9025 | h9025
  ·
   refine WL.setB 37 h9025 rfl ?_
   refine seg 20 [.v (iv t8968.1.Side)] [3, 5, 41] [(3, (pt g9000)), (5, (pt g9013)), (41, (.bool (t8968.1.Side == 2)))] [.cell ⟨g8975, 4, none⟩ (iv t8968.1.Side)] (fun fb => by kernel_rfl) rfl ⟨hS9018.cell 5 rfl 4 rfl, trivial⟩ ?_
   exact WL.toV K (t8968.1.Side == 2) [41, 3, 5] rfl (by first | (rw [h9025]; done) | (rw [h9025]; rfl))
  refine WL.setB 37 h9025 rfl ?_
  refine seg 20 [] [3, 5, 41] [(3, (pt g9000)), (5, (pt g9013)), (41, (.bool false))] [] (fun fb => by kernel_rfl) rfl trivial ?_
  exact WL.toV K false [41, 3, 5] rfl (by first | (rw [h9025]; done) | (rw [h9025]; rfl))
 rintro b9026 rfl
 refine seg 21 [] [3, 5, 42] [(3, (pt g9000)), (5, (pt g9013)), (42, (.bool (((((t8968.2 == 0) && (t8993.2 == 0)) && (t9006.2 == 0)) && (!t8968.1.Fills)) && (t8968.1.Side == 2))))] [] (fun fb => by kernel_rfl) rfl trivial ?_
 refine WL.cutV (T := Bool) 24 (fun t => [(45, (.bool t)), (3, (pt g9000)), (5, (pt g9013))]) (fun t => ((((((t8968.2 == 0) && (t8993.2 == 0)) && (t9006.2 == 0)) && (!t8968.1.Fills)) && (t8968.1.Side == 2)) && t8993.1.Fills) = t) (fun K => ?_) ?_
 ·
  rcases Bool.eq_false_or_eq_true (((((t8968.2 == 0) && (t8993.2 == 0)) && (t9006.2 == 0)) && (!t8968.1.Fills)) && (t8968.1.Side == 2)) with h9027 | h9027
  ·
   refine WL.setB 42 h9027 rfl ?_
   refine seg 24 [.v (.bool t8993.1.Fills)] [3, 5, 45] [(3, (pt g9000)), (5, (pt g9013)), (45, (.bool t8993.1.Fills))] [.cell ⟨g9000, 0, none⟩ (.bool t8993.1.Fills)] (fun fb => by kernel_rfl) rfl ⟨hS9018.cell 2 rfl 0 rfl, trivial⟩ ?_
   exact WL.toV K t8993.1.Fills [45, 3, 5] rfl (by first | (rw [h9027]; done) | (rw [h9027]; rfl))
  refine WL.setB 42 h9027 rfl ?_
  refine seg 24 [] [3, 5, 45] [(3, (pt g9000)), (5, (pt g9013)), (45, (.bool false))] [] (fun fb => by kernel_rfl) rfl trivial ?_
  exact WL.toV K false [45, 3, 5] rfl (by first | (rw [h9027]; done) | (rw [h9027]; rfl))
 rintro b9028 rfl
 refine seg 25 [] [3, 5, 46] [(3, (pt g9000)), (5, (pt g9013)), (46, (.bool ((((((t8968.2 == 0) && (t8993.2 == 0)) && (t9006.2 == 0)) && (!t8968.1.Fills)) && (t8968.1.Side == 2)) && t8993.1.Fills)))] [] (fun fb => by kernel_rfl) rfl trivial ?_
 obtain ⟨x9113, hx9114, hf⟩ := bind_some hf
 refine WL.cutW (T := Bool) 31 (fun t => [(5, (pt g9013)), (52, (.bool t))]) (fun t w1 => (St NoS w w1 [] [blk g9013 (.cells #[(.bool t9006.1.Fills), (iv t9006.1.Torus.Width), (iv t9006.1.Torus.Height), (.slice A9011 t9006.1.Torus.Cells.length c9012), (iv t9006.1.Side)] 40 (0, 0)), rowO 3 encInt A9011 c9012 t9006.1.Torus.Cells] ∧ x9113 = t) ∧ CellsOK [] w1) (fun K => ?_) ?_
 ·
  rcases br_some hx9114 with ⟨h9115, hx9114⟩ | ⟨h9115, hx9114⟩
  ·
   refine WL.setB 46 h9115 rfl ?_
   refine seg 27 [.v (iv t8993.1.Torus.Width), .v (iv t8993.1.Torus.Height), .v (.slice A8998 t8993.1.Torus.Cells.length c8999)] [5, 46, 48] [(5, (pt g9013)), (46, (.bool true)), (48, (.agg #[(iv t8993.1.Torus.Width), (iv t8993.1.Torus.Height), (.slice A8998 t8993.1.Torus.Cells.length c8999)]))] [.cell ⟨g9000, 1, none⟩ (iv t8993.1.Torus.Width), .cell ⟨g9000, 2, none⟩ (iv t8993.1.Torus.Height), .cell ⟨g9000, 3, none⟩ (.slice A8998 t8993.1.Torus.Cells.length c8999)] (fun fb => by kernel_rfl) rfl ⟨hS9018.cell 2 rfl 1 rfl, hS9018.cell 2 rfl 2 rfl, hS9018.cell 2 rfl 3 rfl, trivial⟩ ?_
   refine WL.new hS9018 49 [] (fun g => (.slice (some ⟨g, 0, none⟩) 4 4)) (.cells #[(iv 0), (iv 1), (iv 1), (iv 0)] 3 (0, 0)) [] (fun fb g => by kernel_rfl) trivial (fun g9116 w9117 hS9118 => ?_)
   refine ⟨trivial, ?_⟩
   have hS9120 : St NoS w w9117 [] [rowO 3 encInt (some ⟨g9116, 0, none⟩) 4 [0, 1, 1, 0], blk g9013 (.cells #[(.bool t9006.1.Fills), (iv t9006.1.Torus.Width), (iv t9006.1.Torus.Height), (.slice A9011 t9006.1.Torus.Cells.length c9012), (iv t9006.1.Side)] 40 (0, 0)), rowO 3 encInt A9011 c9012 t9006.1.Torus.Cells, blk g9000 (.cells #[(.bool t8993.1.Fills), (iv t8993.1.Torus.Width), (iv t8993.1.Torus.Height), (.slice A8998 t8993.1.Torus.Cells.length c8999), (iv t8993.1.Side)] 40 (0, 0)), rowO 3 encInt A8998 c8999 t8993.1.Torus.Cells, rowO 24 enc_Tile A8991 c8992 t8986, blk g8975 (.cells #[(.bool t8968.1.Fills), (iv t8968.1.Torus.Width), (iv t8968.1.Torus.Height), (.slice A8973 t8968.1.Torus.Cells.length c8974), (iv t8968.1.Side)] 40 (0, 0)), rowO 3 encInt A8973 c8974 t8968.1.Torus.Cells, rowO 24 enc_Tile (some ⟨g8963, 0, none⟩) 1 [(Tile.mk 0 0 1 0)]] := hS9118.map1 0 _ (fun h => rowO.ofBlk h rfl (Nat.le_of_ble_eq_true (by kernel_rfl))) (fun _ h => by obtain ⟨_, h1, h2⟩ := h; injection h1 with h1; subst h1; exact h2) [1, 2, 3, 4, 5, 6, 7, 8] (by decide) (by decide)
   refine seg 29 [] [5, 46, 48, 50] [(5, (pt g9013)), (46, (.bool true)), (48, (.agg #[(iv t8993.1.Torus.Width), (iv t8993.1.Torus.Height), (.slice A8998 t8993.1.Torus.Cells.length c8999)])), (50, (.agg #[(iv 2), (iv 2), (.slice (some ⟨g9116, 0, none⟩) [0, 1, 1, 0].length 4)]))] [] (fun fb => by kernel_rfl) rfl trivial ?_
   obtain ⟨t9121, ht9122, hx9114⟩ := bind_some hx9114
   refine WL.call (some 51) 26 #[(.agg #[(iv t8993.1.Torus.Width), (iv t8993.1.Torus.Height), (.slice A8998 t8993.1.Torus.Cells.length c8999)]), (.agg #[(iv 2), (iv 2), (.slice (some ⟨g9116, 0, none⟩) [0, 1, 1, 0].length 4)])] (fun fb => by kernel_rfl) (ref01_SamePattern_calls _ t8993.1.Torus (Pattern.mk 2 2 [0, 1, 1, 0]) A8998 c8999 (some ⟨g9116, 0, none⟩) 4 t9121 _ (hS9120.ow 4).ofO (hS9120.ow 0).ofO ht9122) (fun v w9123 hR9124 => ?_)
   obtain ⟨rfl, hk_⟩ := hR9124
   have hS9125 := hS9120.keepN hk_
   refine ⟨trivial, ?_⟩
   refine seg 31 [] [5, 52] [(5, (pt g9013)), (52, (.bool t9121))] [] (fun fb => by kernel_rfl) rfl trivial ?_
   injection hx9114 with hx9114
   exact WL.to K t9121 [5, 52] rfl ⟨⟨(hS9125.subR []).sub [1, 2] (by decide), hx9114.symm⟩, trivial⟩
  refine WL.setB 46 h9115 rfl ?_
  refine seg 31 [] [5, 52] [(5, (pt g9013)), (52, (.bool false))] [] (fun fb => by kernel_rfl) rfl trivial ?_
  injection hx9114 with hx9114
  exact WL.to K false [5, 52] rfl ⟨⟨(hS9018.subR []).sub [0, 1] (by decide), hx9114.symm⟩, trivial⟩
 rintro y9126 w9128 ⟨⟨hS9129, hq9127⟩, hF9130⟩
 subst hq9127
 refine seg 32 [] [5, 53] [(5, (pt g9013)), (53, (.bool x9113))] [] (fun fb => by kernel_rfl) rfl trivial ?_
 refine WL.cutV (T := Bool) 36 (fun t => [(57, (.bool t)), (5, (pt g9013))]) (fun t => (x9113 && (!t9006.1.Fills)) = t) (fun K => ?_) ?_
 ·
  rcases Bool.eq_false_or_eq_true x9113 with h9131 | h9131
  ·
   refine WL.setB 53 h9131 rfl ?_
   refine seg 36 [.v (.bool t9006.1.Fills)] [5, 57] [(5, (pt g9013)), (57, (.bool (!t9006.1.Fills)))] [.cell ⟨g9013, 0, none⟩ (.bool t9006.1.Fills)] (fun fb => by kernel_rfl) rfl ⟨hS9129.cell 0 rfl 0 rfl, trivial⟩ ?_
   exact WL.toV K (!t9006.1.Fills) [57, 5] rfl (by first | (rw [h9131]; done) | (rw [h9131]; rfl))
  refine WL.setB 53 h9131 rfl ?_
  refine seg 36 [] [5, 57] [(5, (pt g9013)), (57, (.bool false))] [] (fun fb => by kernel_rfl) rfl trivial ?_
  exact WL.toV K false [57, 5] rfl (by first | (rw [h9131]; done) | (rw [h9131]; rfl))
 rintro b9132 rfl
 refine seg 37 [] [5, 58] [(5, (pt g9013)), (58, (.bool (x9113 && (!t9006.1.Fills))))] [] (fun fb => by kernel_rfl) rfl trivial ?_
 refine WL.cutV (T := Bool) 41 (fun t => [(62, (.bool t))]) (fun t => ((x9113 && (!t9006.1.Fills)) && (t9006.1.Side == 1)) = t) (fun K => ?_) ?_
 ·
  rcases Bool.eq_false_or_eq_true (x9113 && (!t9006.1.Fills)) with h9133 | h9133
  ·
   refine WL.setB 58 h9133 rfl ?_
   refine seg 41 [.v (iv t9006.1.Side)] [62] [(62, (.bool (t9006.1.Side == 1)))] [.cell ⟨g9013, 4, none⟩ (iv t9006.1.Side)] (fun fb => by kernel_rfl) rfl ⟨hS9129.cell 0 rfl 4 rfl, trivial⟩ ?_
   exact WL.toV K (t9006.1.Side == 1) [62] rfl (by first | (rw [h9133]; done) | (rw [h9133]; rfl))
  refine WL.setB 58 h9133 rfl ?_
  refine seg 41 [] [62] [(62, (.bool false))] [] (fun fb => by kernel_rfl) rfl trivial ?_
  exact WL.toV K false [62] rfl (by first | (rw [h9133]; done) | (rw [h9133]; rfl))
 rintro b9134 rfl
 refine seg 42 [] [0] [(0, (.bool ((x9113 && (!t9006.1.Fills)) && (t9006.1.Side == 1))))] [] (fun fb => by kernel_rfl) rfl trivial ?_
 refine WL.done rfl ?_
 refine WX.next ?_
 refine WC.ret ?_
 injection hf with hf
 subst hf
 exact WX.ret_ [] (.bool ((x9113 && (!t9006.1.Fills)) && (t9006.1.Side == 1))) [] (fun fb => by kernel_rfl) trivial ⟨_, rfl, rfl, hS9129.keep⟩
theorem tile_changes_calls   (r : A3_Change) (w : World)  (hf : tile_changes = some r) :
  CallsR Try.prog 58 #[] w (fun v w' => v = (.agg #[(.func (.func 72) #[] #[]), (.func (.func 73) #[] #[]), (.func (.func 74) #[] #[]), (.func (.func 75) #[] #[]), (.func (.func 73) #[] #[]), (.func (.func 76) #[] #[]), (.func (.func 77) #[] #[]), (.func (.func 78) #[] #[]), (.func (.func 79) #[] #[])]) ∧ Keeps NoS w w') := by
 have hS : St NoS w w [] [] := St.init (ro_nil _ _)
 refine enter 5 Try.func58 rfl Try.ntmps58 rfl ?_
 unfold tile_changes at hf
 refine WC.seq ?_
 refine WC.region ?_
 refine WL.new hS 0 [] (fun g => (.pointer (some ⟨g, 0, none⟩))) (.cells #[.nilFunc, .nilFunc, .nilFunc, .nilFunc, .nilFunc, .nilFunc, .nilFunc, .nilFunc, .nilFunc] 98 (0, 0)) [] (fun fb g => by kernel_rfl) trivial (fun g9155 w9156 hS9157 => ?_)
 refine ⟨trivial, ?_⟩
 refine WL.done rfl ?_
 refine WX.next ?_
 refine WC.seq ?_
 refine WC.region ?_
 refine seg 4 [] [0, 4] [(0, (pt g9155)), (4, (.agg #[(.func (.func 72) #[] #[]), (.func (.func 73) #[] #[]), (.func (.func 74) #[] #[]), (.func (.func 75) #[] #[]), (.func (.func 73) #[] #[]), (.func (.func 76) #[] #[]), (.func (.func 77) #[] #[]), (.func (.func 78) #[] #[]), (.func (.func 79) #[] #[])]))] [] (fun fb => by kernel_rfl) rfl trivial ?_
 refine WL.store hS9157 0 rfl [(0, (.func (.func 72) #[] #[])), (1, (.func (.func 73) #[] #[])), (2, (.func (.func 74) #[] #[])), (3, (.func (.func 75) #[] #[])), (4, (.func (.func 73) #[] #[])), (5, (.func (.func 76) #[] #[])), (6, (.func (.func 77) #[] #[])), (7, (.func (.func 78) #[] #[])), (8, (.func (.func 79) #[] #[]))] #[(.func (.func 72) #[] #[]), (.func (.func 73) #[] #[]), (.func (.func 74) #[] #[]), (.func (.func 75) #[] #[]), (.func (.func 73) #[] #[]), (.func (.func 76) #[] #[]), (.func (.func 77) #[] #[]), (.func (.func 78) #[] #[]), (.func (.func 79) #[] #[])] (fun fb => by kernel_rfl) (by kernel_rfl) (by kernel_rfl) [] (by decide) (by decide) (fun w9159 hS9160 => ?_)
 refine ⟨trivial, ?_⟩
 refine WL.done rfl ?_
 refine WX.next ?_
 refine WC.ret ?_
 injection hf with hf
 subst hf
 exact WX.ret_ [.v (.func (.func 72) #[] #[]), .v (.func (.func 73) #[] #[]), .v (.func (.func 74) #[] #[]), .v (.func (.func 75) #[] #[]), .v (.func (.func 73) #[] #[]), .v (.func (.func 76) #[] #[]), .v (.func (.func 77) #[] #[]), .v (.func (.func 78) #[] #[]), .v (.func (.func 79) #[] #[])] (.agg #[(.func (.func 72) #[] #[]), (.func (.func 73) #[] #[]), (.func (.func 74) #[] #[]), (.func (.func 75) #[] #[]), (.func (.func 73) #[] #[]), (.func (.func 76) #[] #[]), (.func (.func 77) #[] #[]), (.func (.func 78) #[] #[]), (.func (.func 79) #[] #[])]) [.cell ⟨g9155, 0, none⟩ (.func (.func 72) #[] #[]), .cell ⟨g9155, 1, none⟩ (.func (.func 73) #[] #[]), .cell ⟨g9155, 2, none⟩ (.func (.func 74) #[] #[]), .cell ⟨g9155, 3, none⟩ (.func (.func 75) #[] #[]), .cell ⟨g9155, 4, none⟩ (.func (.func 73) #[] #[]), .cell ⟨g9155, 5, none⟩ (.func (.func 76) #[] #[]), .cell ⟨g9155, 6, none⟩ (.func (.func 77) #[] #[]), .cell ⟨g9155, 7, none⟩ (.func (.func 78) #[] #[]), .cell ⟨g9155, 8, none⟩ (.func (.func 79) #[] #[])] (fun fb => by kernel_rfl) ⟨hS9160.cell 0 rfl 0 rfl, hS9160.cell 0 rfl 1 rfl, hS9160.cell 0 rfl 2 rfl, hS9160.cell 0 rfl 3 rfl, hS9160.cell 0 rfl 4 rfl, hS9160.cell 0 rfl 5 rfl, hS9160.cell 0 rfl 6 rfl, hS9160.cell 0 rfl 7 rfl, hS9160.cell 0 rfl 8 rfl, trivial⟩ ⟨_, rfl, rfl, hS9160.keep⟩
theorem tile_changes_1_calls (p0 : Tile)  (r : Tile) (w : World)  (hf : tile_changes_1 p0 = some r) :
  CallsR Try.prog 72 #[(.agg #[(iv p0.N), (iv p0.E), (iv p0.S), (iv p0.W)])] w (fun v w' => v = (.agg #[(iv r.N), (iv r.E), (iv r.S), (iv r.W)]) ∧ Keeps NoS w w') := by
 have hS : St NoS w w [] [] := St.init (ro_nil _ _)
 refine enter 12 Try.func72 rfl Try.ntmps72 rfl ?_
 unfold tile_changes_1 at hf
 refine WC.seq ?_
 refine WC.region ?_
 refine WL.new hS 1 [] (fun g => (.pointer (some ⟨g, 0, none⟩))) (.cells #[(iv p0.N), (iv p0.E), (iv p0.S), (iv p0.W)] 24 (0, 0)) [] (fun fb g => by kernel_rfl) trivial (fun g9166 w9167 hS9168 => ?_)
 refine ⟨trivial, ?_⟩
 refine WL.new hS9168 2 [] (fun g => (.pointer (some ⟨g, 0, none⟩))) (.cells #[(iv 0), (iv 0), (iv 0), (iv 0)] 24 (0, 0)) [] (fun fb g => by kernel_rfl) trivial (fun g9170 w9171 hS9172 => ?_)
 refine ⟨trivial, ?_⟩
 refine WL.done rfl ?_
 refine WX.next ?_
 refine WC.seq ?_
 refine WC.region ?_
 refine seg 9 [.v (iv p0.N), .v (iv p0.W), .v (iv p0.S), .v (iv p0.E)] [2, 11] [(2, (pt g9170)), (11, (.agg #[(iv p0.N), (iv p0.W), (iv p0.S), (iv p0.E)]))] [.cell ⟨g9166, 0, none⟩ (iv p0.N), .cell ⟨g9166, 3, none⟩ (iv p0.W), .cell ⟨g9166, 2, none⟩ (iv p0.S), .cell ⟨g9166, 1, none⟩ (iv p0.E)] (fun fb => by kernel_rfl) rfl ⟨hS9172.cell 1 rfl 0 rfl, hS9172.cell 1 rfl 3 rfl, hS9172.cell 1 rfl 2 rfl, hS9172.cell 1 rfl 1 rfl, trivial⟩ ?_
 refine WL.store hS9172 0 rfl [(0, (iv p0.N)), (1, (iv p0.W)), (2, (iv p0.S)), (3, (iv p0.E))] #[(iv p0.N), (iv p0.W), (iv p0.S), (iv p0.E)] (fun fb => by kernel_rfl) (by kernel_rfl) rfl [1] (by decide) (by decide) (fun w9174 hS9175 => ?_)
 refine ⟨trivial, ?_⟩
 refine WL.done rfl ?_
 refine WX.next ?_
 refine WC.ret ?_
 injection hf with hf
 subst hf
 exact WX.ret_ [.v (iv p0.N), .v (iv p0.W), .v (iv p0.S), .v (iv p0.E)] (.agg #[(iv p0.N), (iv p0.W), (iv p0.S), (iv p0.E)]) [.cell ⟨g9170, 0, none⟩ (iv p0.N), .cell ⟨g9170, 1, none⟩ (iv p0.W), .cell ⟨g9170, 2, none⟩ (iv p0.S), .cell ⟨g9170, 3, none⟩ (iv p0.E)] (fun fb => by kernel_rfl) ⟨hS9175.cell 0 rfl 0 rfl, hS9175.cell 0 rfl 1 rfl, hS9175.cell 0 rfl 2 rfl, hS9175.cell 0 rfl 3 rfl, trivial⟩ ⟨_, rfl, rfl, hS9175.keep⟩
theorem tile_changed_at0_calls (k : Nat) (p0 : List Tile) (A_p0 : Option Addr) (c_p0 : Nat) (r : (List Tile) × Int) (w : World) (hR0 : RO NoS w (rowR enc_Tile A_p0 c_p0 p0)) (hf : tile_changed_at0 k p0 = some r) :
  CallsR Try.prog 37 #[(.slice A_p0 p0.length c_p0), (iv 0)] w (fun v w' => ∃ (A1_ : Option Addr), ∃ (c1_ : Nat), v = (.tuple #[(.slice A1_ r.1.length c1_), (iv r.2)]) ∧ St NoS w w' [] [rowO 24 enc_Tile A1_ c1_ r.1]) := by
 have hS : St NoS w w [rowR enc_Tile A_p0 c_p0 p0] [] := St.init (ro_cons hR0 (ro_nil _ _))
 refine enter 29 Try.func37 rfl Try.ntmps37 rfl ?_
 unfold tile_changed_at0 at hf
 refine WC.seq ?_
 refine WC.region ?_
 refine seg 2 [] [0, 1] [(0, (.slice A_p0 p0.length c_p0)), (1, (iv 0))] [] (fun fb => by kernel_rfl) rfl trivial ?_
 refine WL.done rfl ?_
 refine WX.next ?_
 refine WC.seq ?_
 refine WC.seq ?_
 refine WC.region ?_
 refine seg 1 [] [0, 1, 9] [(0, (.slice A_p0 p0.length c_p0)), (1, (iv 0)), (9, (.slice A_p0 p0.length c_p0))] [] (fun fb => by kernel_rfl) rfl trivial ?_
 obtain ⟨t9140, ht9141, hf⟩ := bind_some hf
 refine WL.call (some 10) 38 #[(.slice A_p0 p0.length c_p0)] (fun fb => by kernel_rfl) (tile_Valid_calls _ p0 A_p0 c_p0 t9140 _ (hS.rd 0) ht9141) (fun v w9142 hR9143 => ?_)
 obtain ⟨rfl, hk_⟩ := hR9143
 have hS9144 := hS.keepN hk_
 refine ⟨trivial, ?_⟩
 refine seg 3 [] [0, 1, 11] [(0, (.slice A_p0 p0.length c_p0)), (1, (iv 0)), (11, (.bool (!t9140)))] [] (fun fb => by kernel_rfl) rfl trivial ?_
 refine WL.done rfl ?_
 refine WX.next ?_
 rcases br_some hf with ⟨h9145, hf⟩ | ⟨h9145, hf⟩
 ·refine WC.condT2 (fun fb => by kernel_rfl) h9145 ?_
  refine WC.seq ?_
  refine WC.region ?_
  refine seg 2 [] [4, 5] [(4, (.slice none 0 0)), (5, (iv 1))] [] (fun fb => by kernel_rfl) rfl trivial ?_
  refine WL.done rfl ?_
  refine WX.next ?_
  refine WC.ret ?_
  have hS9146 := hS9144.nilrow 24 enc_Tile
  injection hf with hf
  subst hf
  exact WX.thenR (WX.ret_ [] (.tuple #[(.slice none ([] : List Tile).length 0), (iv 1)]) [] (fun fb => by kernel_rfl) trivial ⟨_, rfl, none, 0, rfl, (hS9146.sub [0] (by decide)).noR⟩)
 refine WC.condF2 (fun fb => by kernel_rfl) h9145 ?_
 refine WC.skip ?_
 refine WX.next ?_
 refine WC.seq ?_
 refine WC.region ?_
 refine seg 1 [] [0, 1, 6] [(0, (.slice A_p0 p0.length c_p0)), (1, (iv 0)), (6, (.slice none 0 0))] [] (fun fb => by kernel_rfl) rfl trivial ?_
 refine WL.done rfl ?_
 refine WX.next ?_
 refine WC.seq ?_
 refine WC.seq ?_
 refine WC.region ?_
 refine seg 3 [] [1, 6, 12, 13, 14] [(1, (iv 0)), (6, (.slice none 0 0)), (12, (.slice A_p0 p0.length c_p0)), (13, (iv (p0.length : Int))), (14, (iv 0))] [] (fun fb => by kernel_rfl) rfl trivial ?_
 refine WL.done rfl ?_
 refine WX.next ?_
 have hS9270 := hS9144.nilrow 24 enc_Tile
 obtain ⟨x9278, hx9279, hf⟩ := bind_some hf
 refine WC.cutN (T := (List Tile) × (Option Addr) × Nat) (fun t => [(6, (.slice t.2.1 t.1.length t.2.2))]) (fun t w1 => St NoS w w1 [rowR enc_Tile A_p0 c_p0 p0] [rowO 24 enc_Tile t.2.1 t.2.2 t.1] ∧ x9278 = t.1) (fun Kx9278 => ?_) ?_
 ·
  refine WC.block ?_
  refine WC.loop (T := ((List Tile) × Int) × (Option Addr) × Nat) (fun t => [(1, (iv 0)), (6, (.slice t.2.1 t.1.1.length t.2.2)), (12, (.slice A_p0 p0.length c_p0)), (13, (iv (p0.length : Int))), (14, (iv t.1.2))]) (fun n t w1 => St NoS w w1 [rowR enc_Tile A_p0 c_p0 p0] [rowO 24 enc_Tile t.2.1 t.2.2 t.1.1] ∧ tile_changed_at0.l0 n t.1.1 t.1.2 p0 = some x9278) k ((([] : List Tile), 0), none, 0) [1, 6, 12, 13, 14] rfl ⟨(hS9270.subR [0]).sub [0] (by decide), hx9279⟩ ?_
  rintro k9280 ⟨⟨l9273, x9274⟩, A9271, c9272⟩ w9281 ⟨hS9282, hl9283⟩
  cases k9280 with
  | zero => rw [tile_changed_at0.l0] at hl9283; cases hl9283
  | succ k9280 =>
   rw [tile_changed_at0.l0] at hl9283
   refine WC.seq ?_
   refine WC.region ?_
   refine seg 1 [] [1, 6, 12, 13, 14, 15] [(1, (iv 0)), (6, (.slice A9271 l9273.length c9272)), (12, (.slice A_p0 p0.length c_p0)), (13, (iv (p0.length : Int))), (14, (iv x9274)), (15, (.bool (decide (x9274 < (p0.length : Int)))))] [] (fun fb => by kernel_rfl) rfl trivial ?_
   refine WL.done rfl ?_
   refine WX.next ?_
   refine WC.seq ?_
   rcases br_some hl9283 with ⟨h9284, hl9283⟩ | ⟨h9284, hl9283⟩
   ·refine WC.condT2 (fun fb => by kernel_rfl) h9284 ?_
    refine WC.skip ?_
    refine WX.next ?_
    refine WC.seq ?_
    refine WC.block ?_
    refine WC.seq ?_
    refine WC.region ?_
    obtain ⟨h9285, hl9283⟩ := as_some hl9283
    refine seg 2 [.v (iv ((rdD p0 x9274 z_Tile).N)), .v (iv ((rdD p0 x9274 z_Tile).E)), .v (iv ((rdD p0 x9274 z_Tile).S)), .v (iv ((rdD p0 x9274 z_Tile).W))] [1, 6, 12, 13, 14, 17] [(1, (iv 0)), (6, (.slice A9271 l9273.length c9272)), (12, (.slice A_p0 p0.length c_p0)), (13, (iv (p0.length : Int))), (14, (iv x9274)), (17, (.agg #[(iv ((rdD p0 x9274 z_Tile).N)), (iv ((rdD p0 x9274 z_Tile).E)), (iv ((rdD p0 x9274 z_Tile).S)), (iv ((rdD p0 x9274 z_Tile).W))]))] [.idx A_p0 x9274 p0.length, .cell ((adr A_p0).add ((x9274).toNat * 4)) (iv ((rdD p0 x9274 z_Tile).N)), .cell (((adr A_p0).add ((x9274).toNat * 4)).add 1) (iv ((rdD p0 x9274 z_Tile).E)), .cell (((adr A_p0).add ((x9274).toNat * 4)).add 2) (iv ((rdD p0 x9274 z_Tile).S)), .cell (((adr A_p0).add ((x9274).toNat * 4)).add 3) (iv ((rdD p0 x9274 z_Tile).W))] (fun fb => by kernel_rfl) rfl ⟨rowR.adr (hS9282.rd 0).1 h9285.1 h9285.2, rowR.cell (hS9282.rd 0).1 z_Tile h9285.1 h9285.2 0 rfl, rowR.cell (hS9282.rd 0).1 z_Tile h9285.1 h9285.2 1 rfl, rowR.cell (hS9282.rd 0).1 z_Tile h9285.1 h9285.2 2 rfl, rowR.cell (hS9282.rd 0).1 z_Tile h9285.1 h9285.2 3 rfl, trivial⟩ ?_
    refine WL.new hS9282 8 [] (fun g => (.pointer (some ⟨g, 0, none⟩))) (.cells #[(iv 0), (iv 0), (iv 0), (iv 0)] 24 (0, 0)) [] (fun fb g => by kernel_rfl) trivial (fun g9286 w9287 hS9288 => ?_)
    refine ⟨trivial, ?_⟩
    refine WL.store hS9288 0 rfl [(0, (iv ((rdD p0 x9274 z_Tile).N))), (1, (iv ((rdD p0 x9274 z_Tile).E))), (2, (iv ((rdD p0 x9274 z_Tile).S))), (3, (iv ((rdD p0 x9274 z_Tile).W)))] #[(iv ((rdD p0 x9274 z_Tile).N)), (iv ((rdD p0 x9274 z_Tile).E)), (iv ((rdD p0 x9274 z_Tile).S)), (iv ((rdD p0 x9274 z_Tile).W))] (fun fb => by kernel_rfl) (by kernel_rfl) rfl [1] (by decide) (by decide) (fun w9290 hS9291 => ?_)
    refine ⟨trivial, ?_⟩
    refine WL.done rfl ?_
    refine WX.next ?_
    refine WC.regionD ([(5, ⟨g9286, 0, none⟩, (iv ((rdD p0 x9274 z_Tile).N))), (5, ⟨g9286, 1, none⟩, (iv ((rdD p0 x9274 z_Tile).E))), (5, ⟨g9286, 2, none⟩, (iv ((rdD p0 x9274 z_Tile).S))), (5, ⟨g9286, 3, none⟩, (iv ((rdD p0 x9274 z_Tile).W)))], [0, 2, 3, 4, 5, 9], [[], [], [], [1, 2], [1, 2, 3], [], [1, 2, 3, 4, 5], [1, 2, 3, 4, 5, 6], [0, 1, 2, 3, 4, 5, 6, 7], [0, 1, 2, 3, 4, 5, 6, 7, 8]]) [[0, 2, 5, 1, 3, 4, 6, 7, 8, 9]] (by kernel_rfl) (by kernel_rfl) (NoPanic.block (NoPanic.seq (NoPanic.seq (NoPanic.block (NoPanic.seq (NoPanic.body)))))) ?_
    have hS9313 := hS9291.drew
    revert hS9313
    generalize World.drew w9290 = w9312
    intro hS9313
    refine ⟨⟨hS9313.cell 0 rfl 0 rfl, hS9313.cell 0 rfl 1 rfl, hS9313.cell 0 rfl 2 rfl, hS9313.cell 0 rfl 3 rfl, trivial⟩, forallC ?_ (forallN)⟩
    refine segF 3 [.v (iv ((rdD p0 x9274 z_Tile).N)), .v (iv ((rdD p0 x9274 z_Tile).E)), .v (iv ((rdD p0 x9274 z_Tile).S)), .v (iv ((rdD p0 x9274 z_Tile).W))] [1, 12, 13, 14, 18, 20, 23] [(1, (iv 0)), (12, (.slice A_p0 p0.length c_p0)), (13, (iv (p0.length : Int))), (14, (iv x9274)), (18, (.slice A9271 l9273.length c9272)), (20, (iv 0)), (23, (.agg #[(iv ((rdD p0 x9274 z_Tile).N)), (iv ((rdD p0 x9274 z_Tile).E)), (iv ((rdD p0 x9274 z_Tile).S)), (iv ((rdD p0 x9274 z_Tile).W))]))] [] [0, 1, 2, 3] [(5, ⟨g9286, 0, none⟩, (iv ((rdD p0 x9274 z_Tile).N))), (5, ⟨g9286, 1, none⟩, (iv ((rdD p0 x9274 z_Tile).E))), (5, ⟨g9286, 2, none⟩, (iv ((rdD p0 x9274 z_Tile).S))), (5, ⟨g9286, 3, none⟩, (iv ((rdD p0 x9274 z_Tile).W)))] (fun fb => by kernel_rfl) rfl trivial rfl ?_
    obtain ⟨t9314, ht9315, hl9283⟩ := bind_some hl9283
    refine WL.call (some 19) 58 #[] (fun fb => by kernel_rfl) (tile_changes_calls t9314 _ ht9315) (fun v w9316 hR9317 => ?_)
    obtain ⟨rfl, hk_⟩ := hR9317
    have hS9318 := hS9313.keepN hk_
    refine ⟨⟨hS9318.cell 0 rfl 0 rfl, hS9318.cell 0 rfl 1 rfl, hS9318.cell 0 rfl 2 rfl, hS9318.cell 0 rfl 3 rfl, trivial⟩, ?_⟩
    refine seg 6 [] [1, 12, 13, 14, 18, 22, 23] [(1, (iv 0)), (12, (.slice A_p0 p0.length c_p0)), (13, (iv (p0.length : Int))), (14, (iv x9274)), (18, (.slice A9271 l9273.length c9272)), (22, (.func (.func 72) #[] #[])), (23, (.agg #[(iv ((rdD p0 x9274 z_Tile).N)), (iv ((rdD p0 x9274 z_Tile).E)), (iv ((rdD p0 x9274 z_Tile).S)), (iv ((rdD p0 x9274 z_Tile).W))]))] [] (fun fb => by kernel_rfl) rfl trivial ?_
    obtain ⟨t9319, ht9320, hl9283⟩ := bind_some hl9283
    refine WL.call (some 24) 72 #[(.agg #[(iv ((rdD p0 x9274 z_Tile).N)), (iv ((rdD p0 x9274 z_Tile).E)), (iv ((rdD p0 x9274 z_Tile).S)), (iv ((rdD p0 x9274 z_Tile).W))])] (fun fb => by kernel_rfl) (tile_changes_1_calls (rdD p0 x9274 z_Tile) t9319 _ ht9320) (fun v w9321 hR9322 => ?_)
    obtain ⟨rfl, hk_⟩ := hR9322
    have hS9323 := hS9318.keepN hk_
    refine ⟨trivial, ?_⟩
    refine WL.new hS9323 25 [] (fun g => (.slice (some ⟨g, 0, none⟩) 1 1)) (.cells #[(iv t9319.N), (iv t9319.E), (iv t9319.S), (iv t9319.W)] 24 (0, 0)) [] (fun fb g => by kernel_rfl) trivial (fun g9324 w9325 hS9326 => ?_)
    refine ⟨trivial, ?_⟩
    have hS9328 : St NoS w w9325 [rowR enc_Tile A_p0 c_p0 p0] [rowO 24 enc_Tile (some ⟨g9324, 0, none⟩) 1 [t9319], blk g9286 (.cells #[(iv ((rdD p0 x9274 z_Tile).N)), (iv ((rdD p0 x9274 z_Tile).E)), (iv ((rdD p0 x9274 z_Tile).S)), (iv ((rdD p0 x9274 z_Tile).W))] 24 (0, 0)), rowO 24 enc_Tile A9271 c9272 l9273] := hS9326.map1 0 _ (fun h => rowO.ofBlk h rfl (Nat.le_of_ble_eq_true (by kernel_rfl))) (fun _ h => by obtain ⟨_, h1, h2⟩ := h; injection h1 with h1; subst h1; exact h2) [1, 2] (by decide) (by decide)
    obtain ⟨h9329, hl9283⟩ := as_some hl9283
    refine WL.append hS9328 2 (d := 26) (tS := 22) (z := (.agg #[(iv 0), (iv 0), (iv 0), (iv 0)])) (bytes := 32) (c2 := 1) rfl (fun fb => by kernel_rfl) (rowO.rd (hS9328.own 0).1) (by kernel_rfl) (by kernel_rfl) rfl (by decide) h9329 (by decide) [0, 1] (by decide) (by decide) (fun A9330 c9331 w9332 hS9333 => ?_)
    refine ⟨trivial, ?_⟩
    refine seg 10 [] [1, 6, 12, 13, 14] [(1, (iv 0)), (6, (.slice A9330 (l9273 ++ [t9319]).length c9331)), (12, (.slice A_p0 p0.length c_p0)), (13, (iv (p0.length : Int))), (14, (iv x9274))] [] (fun fb => by kernel_rfl) rfl trivial ?_
    refine WL.done rfl ?_
    refine WX.blockN (WX.next ?_)
    refine WC.region ?_
    refine seg 2 [] [1, 6, 12, 13, 14] [(1, (iv 0)), (6, (.slice A9330 (l9273 ++ [t9319]).length c9331)), (12, (.slice A_p0 p0.length c_p0)), (13, (iv (p0.length : Int))), (14, (iv (w64 (x9274 + 1))))] [] (fun fb => by kernel_rfl) rfl trivial ?_
    refine WL.done rfl ?_
    exact WX.again k9280 (Nat.lt_succ_self _) ((l9273 ++ [t9319], w64 (x9274 + 1)), A9330, c9331) [1, 6, 12, 13, 14] rfl ⟨(hS9333.subR [0]).sub [0] (by decide), hl9283⟩
   refine WC.condF2 (fun fb => by kernel_rfl) h9284 ?_
   refine WC.exit ?_
   injection hl9283 with hl9283
   exact WX.thenX (WX.thenX (WX.blockHere (WX.to Kx9278 (l9273, A9271, c9272) [6] rfl ⟨(hS9282.subR [0]).sub [0] (by decide), hl9283.symm⟩)))
 rintro ⟨y9337, A9275, c9276⟩ w9334 ⟨hS9335, hq9336⟩
 subst hq9336
 refine WX.next ?_
 refine WC.seq ?_
 refine WC.region ?_
 refine seg 3 [] [4, 5] [(4, (.slice A9275 x9278.length c9276)), (5, (iv 0))] [] (fun fb => by kernel_rfl) rfl trivial ?_
 refine WL.done rfl ?_
 refine WX.next ?_
 refine WC.ret ?_
 injection hf with hf
 subst hf
 exact WX.ret_ [] (.tuple #[(.slice A9275 x9278.length c9276), (iv 0)]) [] (fun fb => by kernel_rfl) trivial ⟨_, rfl, A9275, c9276, rfl, (hS9335.sub [0] (by decide)).noR⟩
theorem tile_Mirror_calls (k : Nat) (p0 : List Tile) (A_p0 : Option Addr) (c_p0 : Nat) (r : (List Tile) × Int) (w : World) (hR0 : RO NoS w (rowR enc_Tile A_p0 c_p0 p0)) (hf : tile_Mirror k p0 = some r) :
  CallsR Try.prog 15 #[(.slice A_p0 p0.length c_p0)] w (fun v w' => ∃ (A1_ : Option Addr), ∃ (c1_ : Nat), v = (.tuple #[(.slice A1_ r.1.length c1_), (iv r.2)]) ∧ St NoS w w' [] [rowO 24 enc_Tile A1_ c1_ r.1]) := by
 have hS : St NoS w w [rowR enc_Tile A_p0 c_p0 p0] [] := St.init (ro_cons hR0 (ro_nil _ _))
 refine enter 8 Try.func15 rfl Try.ntmps15 rfl ?_
 unfold tile_Mirror at hf
 refine WC.seq ?_
 refine WC.region ?_
 refine seg 2 [] [0] [(0, (.slice A_p0 p0.length c_p0))] [] (fun fb => by kernel_rfl) rfl trivial ?_
 refine WL.done rfl ?_
 refine WX.next ?_
 refine WC.seq ?_
 refine WC.region ?_
 refine seg 1 [] [4] [(4, (.slice A_p0 p0.length c_p0))] [] (fun fb => by kernel_rfl) rfl trivial ?_
 obtain ⟨t9338, ht9339, hf⟩ := bind_some hf
 refine WL.call (some 5) 37 #[(.slice A_p0 p0.length c_p0), (iv 0)] (fun fb => by kernel_rfl) (tile_changed_at0_calls _ p0 A_p0 c_p0 t9338 _ (hS.rd 0) ht9339) (fun v w9340 hR9341 => ?_)
 obtain ⟨A9343, c9344, rfl, hk_⟩ := hR9341
 have hS9342 : St NoS w w9340 [rowR enc_Tile A_p0 c_p0 p0] [rowO 24 enc_Tile A9343 c9344 t9338.1] := hS.call hk_ [] [] (fun g hg => hg.elim) (by simp) (by decide)
 refine ⟨trivial, ?_⟩
 refine seg 6 [] [2, 3] [(2, (.slice A9343 t9338.1.length c9344)), (3, (iv t9338.2))] [] (fun fb => by kernel_rfl) rfl trivial ?_
 refine WL.done rfl ?_
 refine WX.next ?_
 refine WC.ret ?_
 injection hf with hf
 subst hf
 exact WX.ret_ [] (.tuple #[(.slice A9343 t9338.1.length c9344), (iv t9338.2)]) [] (fun fb => by kernel_rfl) trivial ⟨_, rfl, A9343, c9344, rfl, (hS9342.sub [0] (by decide)).noR⟩
theorem tile_changes_3_calls (p0 : Tile)  (r : Tile) (w : World)  (hf : tile_changes_3 p0 = some r) :
  CallsR Try.prog 75 #[(.agg #[(iv p0.N), (iv p0.E), (iv p0.S), (iv p0.W)])] w (fun v w' => v = (.agg #[(iv r.N), (iv r.E), (iv r.S), (iv r.W)]) ∧ Keeps NoS w w') := by
 have hS : St NoS w w [] [] := St.init (ro_nil _ _)
 refine enter 12 Try.func75 rfl Try.ntmps75 rfl ?_
 unfold tile_changes_3 at hf
 refine WC.seq ?_
 refine WC.region ?_
 refine WL.new hS 1 [] (fun g => (.pointer (some ⟨g, 0, none⟩))) (.cells #[(iv p0.N), (iv p0.E), (iv p0.S), (iv p0.W)] 24 (0, 0)) [] (fun fb g => by kernel_rfl) trivial (fun g9372 w9373 hS9374 => ?_)
 refine ⟨trivial, ?_⟩
 refine WL.new hS9374 2 [] (fun g => (.pointer (some ⟨g, 0, none⟩))) (.cells #[(iv 0), (iv 0), (iv 0), (iv 0)] 24 (0, 0)) [] (fun fb g => by kernel_rfl) trivial (fun g9376 w9377 hS9378 => ?_)
 refine ⟨trivial, ?_⟩
 refine WL.done rfl ?_
 refine WX.next ?_
 refine WC.seq ?_
 refine WC.region ?_
 refine seg 9 [.v (iv p0.S), .v (iv p0.E), .v (iv p0.N), .v (iv p0.W)] [2, 11] [(2, (pt g9376)), (11, (.agg #[(iv p0.S), (iv p0.E), (iv p0.N), (iv p0.W)]))] [.cell ⟨g9372, 2, none⟩ (iv p0.S), .cell ⟨g9372, 1, none⟩ (iv p0.E), .cell ⟨g9372, 0, none⟩ (iv p0.N), .cell ⟨g9372, 3, none⟩ (iv p0.W)] (fun fb => by kernel_rfl) rfl ⟨hS9378.cell 1 rfl 2 rfl, hS9378.cell 1 rfl 1 rfl, hS9378.cell 1 rfl 0 rfl, hS9378.cell 1 rfl 3 rfl, trivial⟩ ?_
 refine WL.store hS9378 0 rfl [(0, (iv p0.S)), (1, (iv p0.E)), (2, (iv p0.N)), (3, (iv p0.W))] #[(iv p0.S), (iv p0.E), (iv p0.N), (iv p0.W)] (fun fb => by kernel_rfl) (by kernel_rfl) rfl [1] (by decide) (by decide) (fun w9380 hS9381 => ?_)
 refine ⟨trivial, ?_⟩
 refine WL.done rfl ?_
 refine WX.next ?_
 refine WC.ret ?_
 injection hf with hf
 subst hf
 exact WX.ret_ [.v (iv p0.S), .v (iv p0.E), .v (iv p0.N), .v (iv p0.W)] (.agg #[(iv p0.S), (iv p0.E), (iv p0.N), (iv p0.W)]) [.cell ⟨g9376, 0, none⟩ (iv p0.S), .cell ⟨g9376, 1, none⟩ (iv p0.E), .cell ⟨g9376, 2, none⟩ (iv p0.N), .cell ⟨g9376, 3, none⟩ (iv p0.W)] (fun fb => by kernel_rfl) ⟨hS9381.cell 0 rfl 0 rfl, hS9381.cell 0 rfl 1 rfl, hS9381.cell 0 rfl 2 rfl, hS9381.cell 0 rfl 3 rfl, trivial⟩ ⟨_, rfl, rfl, hS9381.keep⟩
theorem tile_changed_at1_calls (k : Nat) (p0 : List Tile) (A_p0 : Option Addr) (c_p0 : Nat) (r : (List Tile) × Int) (w : World) (hR0 : RO NoS w (rowR enc_Tile A_p0 c_p0 p0)) (hf : tile_changed_at1 k p0 = some r) :
  CallsR Try.prog 37 #[(.slice A_p0 p0.length c_p0), (iv 1)] w (fun v w' => ∃ (A1_ : Option Addr), ∃ (c1_ : Nat), v = (.tuple #[(.slice A1_ r.1.length c1_), (iv r.2)]) ∧ St NoS w w' [] [rowO 24 enc_Tile A1_ c1_ r.1]) := by
 have hS : St NoS w w [rowR enc_Tile A_p0 c_p0 p0] [] := St.init (ro_cons hR0 (ro_nil _ _))
 refine enter 29 Try.func37 rfl Try.ntmps37 rfl ?_
 unfold tile_changed_at1 at hf
 refine WC.seq ?_
 refine WC.region ?_
 refine seg 2 [] [0, 1] [(0, (.slice A_p0 p0.length c_p0)), (1, (iv 1))] [] (fun fb => by kernel_rfl) rfl trivial ?_
 refine WL.done rfl ?_
 refine WX.next ?_
 refine WC.seq ?_
 refine WC.seq ?_
 refine WC.region ?_
 refine seg 1 [] [0, 1, 9] [(0, (.slice A_p0 p0.length c_p0)), (1, (iv 1)), (9, (.slice A_p0 p0.length c_p0))] [] (fun fb => by kernel_rfl) rfl trivial ?_
 obtain ⟨t9352, ht9353, hf⟩ := bind_some hf
 refine WL.call (some 10) 38 #[(.slice A_p0 p0.length c_p0)] (fun fb => by kernel_rfl) (tile_Valid_calls _ p0 A_p0 c_p0 t9352 _ (hS.rd 0) ht9353) (fun v w9354 hR9355 => ?_)
 obtain ⟨rfl, hk_⟩ := hR9355
 have hS9356 := hS.keepN hk_
 refine ⟨trivial, ?_⟩
 refine seg 3 [] [0, 1, 11] [(0, (.slice A_p0 p0.length c_p0)), (1, (iv 1)), (11, (.bool (!t9352)))] [] (fun fb => by kernel_rfl) rfl trivial ?_
 refine WL.done rfl ?_
 refine WX.next ?_
 rcases br_some hf with ⟨h9357, hf⟩ | ⟨h9357, hf⟩
 ·refine WC.condT2 (fun fb => by kernel_rfl) h9357 ?_
  refine WC.seq ?_
  refine WC.region ?_
  refine seg 2 [] [4, 5] [(4, (.slice none 0 0)), (5, (iv 1))] [] (fun fb => by kernel_rfl) rfl trivial ?_
  refine WL.done rfl ?_
  refine WX.next ?_
  refine WC.ret ?_
  have hS9358 := hS9356.nilrow 24 enc_Tile
  injection hf with hf
  subst hf
  exact WX.thenR (WX.ret_ [] (.tuple #[(.slice none ([] : List Tile).length 0), (iv 1)]) [] (fun fb => by kernel_rfl) trivial ⟨_, rfl, none, 0, rfl, (hS9358.sub [0] (by decide)).noR⟩)
 refine WC.condF2 (fun fb => by kernel_rfl) h9357 ?_
 refine WC.skip ?_
 refine WX.next ?_
 refine WC.seq ?_
 refine WC.region ?_
 refine seg 1 [] [0, 1, 6] [(0, (.slice A_p0 p0.length c_p0)), (1, (iv 1)), (6, (.slice none 0 0))] [] (fun fb => by kernel_rfl) rfl trivial ?_
 refine WL.done rfl ?_
 refine WX.next ?_
 refine WC.seq ?_
 refine WC.seq ?_
 refine WC.region ?_
 refine seg 3 [] [1, 6, 12, 13, 14] [(1, (iv 1)), (6, (.slice none 0 0)), (12, (.slice A_p0 p0.length c_p0)), (13, (iv (p0.length : Int))), (14, (iv 0))] [] (fun fb => by kernel_rfl) rfl trivial ?_
 refine WL.done rfl ?_
 refine WX.next ?_
 have hS9476 := hS9356.nilrow 24 enc_Tile
 obtain ⟨x9484, hx9485, hf⟩ := bind_some hf
 refine WC.cutN (T := (List Tile) × (Option Addr) × Nat) (fun t => [(6, (.slice t.2.1 t.1.length t.2.2))]) (fun t w1 => St NoS w w1 [rowR enc_Tile A_p0 c_p0 p0] [rowO 24 enc_Tile t.2.1 t.2.2 t.1] ∧ x9484 = t.1) (fun Kx9484 => ?_) ?_
 ·
  refine WC.block ?_
  refine WC.loop (T := ((List Tile) × Int) × (Option Addr) × Nat) (fun t => [(1, (iv 1)), (6, (.slice t.2.1 t.1.1.length t.2.2)), (12, (.slice A_p0 p0.length c_p0)), (13, (iv (p0.length : Int))), (14, (iv t.1.2))]) (fun n t w1 => St NoS w w1 [rowR enc_Tile A_p0 c_p0 p0] [rowO 24 enc_Tile t.2.1 t.2.2 t.1.1] ∧ tile_changed_at1.l0 n t.1.1 t.1.2 p0 = some x9484) k ((([] : List Tile), 0), none, 0) [1, 6, 12, 13, 14] rfl ⟨(hS9476.subR [0]).sub [0] (by decide), hx9485⟩ ?_
  rintro k9486 ⟨⟨l9479, x9480⟩, A9477, c9478⟩ w9487 ⟨hS9488, hl9489⟩
  cases k9486 with
  | zero => rw [tile_changed_at1.l0] at hl9489; cases hl9489
  | succ k9486 =>
   rw [tile_changed_at1.l0] at hl9489
   refine WC.seq ?_
   refine WC.region ?_
   refine seg 1 [] [1, 6, 12, 13, 14, 15] [(1, (iv 1)), (6, (.slice A9477 l9479.length c9478)), (12, (.slice A_p0 p0.length c_p0)), (13, (iv (p0.length : Int))), (14, (iv x9480)), (15, (.bool (decide (x9480 < (p0.length : Int)))))] [] (fun fb => by kernel_rfl) rfl trivial ?_
   refine WL.done rfl ?_
   refine WX.next ?_
   refine WC.seq ?_
   rcases br_some hl9489 with ⟨h9490, hl9489⟩ | ⟨h9490, hl9489⟩
   ·refine WC.condT2 (fun fb => by kernel_rfl) h9490 ?_
    refine WC.skip ?_
    refine WX.next ?_
    refine WC.seq ?_
    refine WC.block ?_
    refine WC.seq ?_
    refine WC.region ?_
    obtain ⟨h9491, hl9489⟩ := as_some hl9489
    refine seg 2 [.v (iv ((rdD p0 x9480 z_Tile).N)), .v (iv ((rdD p0 x9480 z_Tile).E)), .v (iv ((rdD p0 x9480 z_Tile).S)), .v (iv ((rdD p0 x9480 z_Tile).W))] [1, 6, 12, 13, 14, 17] [(1, (iv 1)), (6, (.slice A9477 l9479.length c9478)), (12, (.slice A_p0 p0.length c_p0)), (13, (iv (p0.length : Int))), (14, (iv x9480)), (17, (.agg #[(iv ((rdD p0 x9480 z_Tile).N)), (iv ((rdD p0 x9480 z_Tile).E)), (iv ((rdD p0 x9480 z_Tile).S)), (iv ((rdD p0 x9480 z_Tile).W))]))] [.idx A_p0 x9480 p0.length, .cell ((adr A_p0).add ((x9480).toNat * 4)) (iv ((rdD p0 x9480 z_Tile).N)), .cell (((adr A_p0).add ((x9480).toNat * 4)).add 1) (iv ((rdD p0 x9480 z_Tile).E)), .cell (((adr A_p0).add ((x9480).toNat * 4)).add 2) (iv ((rdD p0 x9480 z_Tile).S)), .cell (((adr A_p0).add ((x9480).toNat * 4)).add 3) (iv ((rdD p0 x9480 z_Tile).W))] (fun fb => by kernel_rfl) rfl ⟨rowR.adr (hS9488.rd 0).1 h9491.1 h9491.2, rowR.cell (hS9488.rd 0).1 z_Tile h9491.1 h9491.2 0 rfl, rowR.cell (hS9488.rd 0).1 z_Tile h9491.1 h9491.2 1 rfl, rowR.cell (hS9488.rd 0).1 z_Tile h9491.1 h9491.2 2 rfl, rowR.cell (hS9488.rd 0).1 z_Tile h9491.1 h9491.2 3 rfl, trivial⟩ ?_
    refine WL.new hS9488 8 [] (fun g => (.pointer (some ⟨g, 0, none⟩))) (.cells #[(iv 0), (iv 0), (iv 0), (iv 0)] 24 (0, 0)) [] (fun fb g => by kernel_rfl) trivial (fun g9492 w9493 hS9494 => ?_)
    refine ⟨trivial, ?_⟩
    refine WL.store hS9494 0 rfl [(0, (iv ((rdD p0 x9480 z_Tile).N))), (1, (iv ((rdD p0 x9480 z_Tile).E))), (2, (iv ((rdD p0 x9480 z_Tile).S))), (3, (iv ((rdD p0 x9480 z_Tile).W)))] #[(iv ((rdD p0 x9480 z_Tile).N)), (iv ((rdD p0 x9480 z_Tile).E)), (iv ((rdD p0 x9480 z_Tile).S)), (iv ((rdD p0 x9480 z_Tile).W))] (fun fb => by kernel_rfl) (by kernel_rfl) rfl [1] (by decide) (by decide) (fun w9496 hS9497 => ?_)
    refine ⟨trivial, ?_⟩
    refine WL.done rfl ?_
    refine WX.next ?_
    refine WC.regionD ([(5, ⟨g9492, 0, none⟩, (iv ((rdD p0 x9480 z_Tile).N))), (5, ⟨g9492, 1, none⟩, (iv ((rdD p0 x9480 z_Tile).E))), (5, ⟨g9492, 2, none⟩, (iv ((rdD p0 x9480 z_Tile).S))), (5, ⟨g9492, 3, none⟩, (iv ((rdD p0 x9480 z_Tile).W)))], [0, 2, 3, 4, 5, 9], [[], [], [], [1, 2], [1, 2, 3], [], [1, 2, 3, 4, 5], [1, 2, 3, 4, 5, 6], [0, 1, 2, 3, 4, 5, 6, 7], [0, 1, 2, 3, 4, 5, 6, 7, 8]]) [[0, 2, 5, 1, 3, 4, 6, 7, 8, 9]] (by kernel_rfl) (by kernel_rfl) (NoPanic.block (NoPanic.seq (NoPanic.seq (NoPanic.block (NoPanic.seq (NoPanic.body)))))) ?_
    have hS9519 := hS9497.drew
    revert hS9519
    generalize World.drew w9496 = w9518
    intro hS9519
    refine ⟨⟨hS9519.cell 0 rfl 0 rfl, hS9519.cell 0 rfl 1 rfl, hS9519.cell 0 rfl 2 rfl, hS9519.cell 0 rfl 3 rfl, trivial⟩, forallC ?_ (forallN)⟩
    refine segF 3 [.v (iv ((rdD p0 x9480 z_Tile).N)), .v (iv ((rdD p0 x9480 z_Tile).E)), .v (iv ((rdD p0 x9480 z_Tile).S)), .v (iv ((rdD p0 x9480 z_Tile).W))] [1, 12, 13, 14, 18, 20, 23] [(1, (iv 1)), (12, (.slice A_p0 p0.length c_p0)), (13, (iv (p0.length : Int))), (14, (iv x9480)), (18, (.slice A9477 l9479.length c9478)), (20, (iv 1)), (23, (.agg #[(iv ((rdD p0 x9480 z_Tile).N)), (iv ((rdD p0 x9480 z_Tile).E)), (iv ((rdD p0 x9480 z_Tile).S)), (iv ((rdD p0 x9480 z_Tile).W))]))] [] [0, 1, 2, 3] [(5, ⟨g9492, 0, none⟩, (iv ((rdD p0 x9480 z_Tile).N))), (5, ⟨g9492, 1, none⟩, (iv ((rdD p0 x9480 z_Tile).E))), (5, ⟨g9492, 2, none⟩, (iv ((rdD p0 x9480 z_Tile).S))), (5, ⟨g9492, 3, none⟩, (iv ((rdD p0 x9480 z_Tile).W)))] (fun fb => by kernel_rfl) rfl trivial rfl ?_
    obtain ⟨t9520, ht9521, hl9489⟩ := bind_some hl9489
    refine WL.call (some 19) 58 #[] (fun fb => by kernel_rfl) (tile_changes_calls t9520 _ ht9521) (fun v w9522 hR9523 => ?_)
    obtain ⟨rfl, hk_⟩ := hR9523
    have hS9524 := hS9519.keepN hk_
    refine ⟨⟨hS9524.cell 0 rfl 0 rfl, hS9524.cell 0 rfl 1 rfl, hS9524.cell 0 rfl 2 rfl, hS9524.cell 0 rfl 3 rfl, trivial⟩, ?_⟩
    refine seg 6 [] [1, 12, 13, 14, 18, 22, 23] [(1, (iv 1)), (12, (.slice A_p0 p0.length c_p0)), (13, (iv (p0.length : Int))), (14, (iv x9480)), (18, (.slice A9477 l9479.length c9478)), (22, (.func (.func 75) #[] #[])), (23, (.agg #[(iv ((rdD p0 x9480 z_Tile).N)), (iv ((rdD p0 x9480 z_Tile).E)), (iv ((rdD p0 x9480 z_Tile).S)), (iv ((rdD p0 x9480 z_Tile).W))]))] [] (fun fb => by kernel_rfl) rfl trivial ?_
    obtain ⟨t9525, ht9526, hl9489⟩ := bind_some hl9489
    refine WL.call (some 24) 75 #[(.agg #[(iv ((rdD p0 x9480 z_Tile).N)), (iv ((rdD p0 x9480 z_Tile).E)), (iv ((rdD p0 x9480 z_Tile).S)), (iv ((rdD p0 x9480 z_Tile).W))])] (fun fb => by kernel_rfl) (tile_changes_3_calls (rdD p0 x9480 z_Tile) t9525 _ ht9526) (fun v w9527 hR9528 => ?_)
    obtain ⟨rfl, hk_⟩ := hR9528
    have hS9529 := hS9524.keepN hk_
    refine ⟨trivial, ?_⟩
    refine WL.new hS9529 25 [] (fun g => (.slice (some ⟨g, 0, none⟩) 1 1)) (.cells #[(iv t9525.N), (iv t9525.E), (iv t9525.S), (iv t9525.W)] 24 (0, 0)) [] (fun fb g => by kernel_rfl) trivial (fun g9530 w9531 hS9532 => ?_)
    refine ⟨trivial, ?_⟩
    have hS9534 : St NoS w w9531 [rowR enc_Tile A_p0 c_p0 p0] [rowO 24 enc_Tile (some ⟨g9530, 0, none⟩) 1 [t9525], blk g9492 (.cells #[(iv ((rdD p0 x9480 z_Tile).N)), (iv ((rdD p0 x9480 z_Tile).E)), (iv ((rdD p0 x9480 z_Tile).S)), (iv ((rdD p0 x9480 z_Tile).W))] 24 (0, 0)), rowO 24 enc_Tile A9477 c9478 l9479] := hS9532.map1 0 _ (fun h => rowO.ofBlk h rfl (Nat.le_of_ble_eq_true (by kernel_rfl))) (fun _ h => by obtain ⟨_, h1, h2⟩ := h; injection h1 with h1; subst h1; exact h2) [1, 2] (by decide) (by decide)
    obtain ⟨h9535, hl9489⟩ := as_some hl9489
    refine WL.append hS9534 2 (d := 26) (tS := 22) (z := (.agg #[(iv 0), (iv 0), (iv 0), (iv 0)])) (bytes := 32) (c2 := 1) rfl (fun fb => by kernel_rfl) (rowO.rd (hS9534.own 0).1) (by kernel_rfl) (by kernel_rfl) rfl (by decide) h9535 (by decide) [0, 1] (by decide) (by decide) (fun A9536 c9537 w9538 hS9539 => ?_)
    refine ⟨trivial, ?_⟩
    refine seg 10 [] [1, 6, 12, 13, 14] [(1, (iv 1)), (6, (.slice A9536 (l9479 ++ [t9525]).length c9537)), (12, (.slice A_p0 p0.length c_p0)), (13, (iv (p0.length : Int))), (14, (iv x9480))] [] (fun fb => by kernel_rfl) rfl trivial ?_
    refine WL.done rfl ?_
    refine WX.blockN (WX.next ?_)
    refine WC.region ?_
    refine seg 2 [] [1, 6, 12, 13, 14] [(1, (iv 1)), (6, (.slice A9536 (l9479 ++ [t9525]).length c9537)), (12, (.slice A_p0 p0.length c_p0)), (13, (iv (p0.length : Int))), (14, (iv (w64 (x9480 + 1))))] [] (fun fb => by kernel_rfl) rfl trivial ?_
    refine WL.done rfl ?_
    exact WX.again k9486 (Nat.lt_succ_self _) ((l9479 ++ [t9525], w64 (x9480 + 1)), A9536, c9537) [1, 6, 12, 13, 14] rfl ⟨(hS9539.subR [0]).sub [0] (by decide), hl9489⟩
   refine WC.condF2 (fun fb => by kernel_rfl) h9490 ?_
   refine WC.exit ?_
   injection hl9489 with hl9489
   exact WX.thenX (WX.thenX (WX.blockHere (WX.to Kx9484 (l9479, A9477, c9478) [6] rfl ⟨(hS9488.subR [0]).sub [0] (by decide), hl9489.symm⟩)))
 rintro ⟨y9543, A9481, c9482⟩ w9540 ⟨hS9541, hq9542⟩
 subst hq9542
 refine WX.next ?_
 refine WC.seq ?_
 refine WC.region ?_
 refine seg 3 [] [4, 5] [(4, (.slice A9481 x9484.length c9482)), (5, (iv 0))] [] (fun fb => by kernel_rfl) rfl trivial ?_
 refine WL.done rfl ?_
 refine WX.next ?_
 refine WC.ret ?_
 injection hf with hf
 subst hf
 exact WX.ret_ [] (.tuple #[(.slice A9481 x9484.length c9482), (iv 0)]) [] (fun fb => by kernel_rfl) trivial ⟨_, rfl, A9481, c9482, rfl, (hS9541.sub [0] (by decide)).noR⟩
theorem tile_Upturn_calls (k : Nat) (p0 : List Tile) (A_p0 : Option Addr) (c_p0 : Nat) (r : (List Tile) × Int) (w : World) (hR0 : RO NoS w (rowR enc_Tile A_p0 c_p0 p0)) (hf : tile_Upturn k p0 = some r) :
  CallsR Try.prog 16 #[(.slice A_p0 p0.length c_p0)] w (fun v w' => ∃ (A1_ : Option Addr), ∃ (c1_ : Nat), v = (.tuple #[(.slice A1_ r.1.length c1_), (iv r.2)]) ∧ St NoS w w' [] [rowO 24 enc_Tile A1_ c1_ r.1]) := by
 have hS : St NoS w w [rowR enc_Tile A_p0 c_p0 p0] [] := St.init (ro_cons hR0 (ro_nil _ _))
 refine enter 8 Try.func16 rfl Try.ntmps16 rfl ?_
 unfold tile_Upturn at hf
 refine WC.seq ?_
 refine WC.region ?_
 refine seg 2 [] [0] [(0, (.slice A_p0 p0.length c_p0))] [] (fun fb => by kernel_rfl) rfl trivial ?_
 refine WL.done rfl ?_
 refine WX.next ?_
 refine WC.seq ?_
 refine WC.region ?_
 refine seg 1 [] [4] [(4, (.slice A_p0 p0.length c_p0))] [] (fun fb => by kernel_rfl) rfl trivial ?_
 obtain ⟨t9544, ht9545, hf⟩ := bind_some hf
 refine WL.call (some 5) 37 #[(.slice A_p0 p0.length c_p0), (iv 1)] (fun fb => by kernel_rfl) (tile_changed_at1_calls _ p0 A_p0 c_p0 t9544 _ (hS.rd 0) ht9545) (fun v w9546 hR9547 => ?_)
 obtain ⟨A9549, c9550, rfl, hk_⟩ := hR9547
 have hS9548 : St NoS w w9546 [rowR enc_Tile A_p0 c_p0 p0] [rowO 24 enc_Tile A9549 c9550 t9544.1] := hS.call hk_ [] [] (fun g hg => hg.elim) (by simp) (by decide)
 refine ⟨trivial, ?_⟩
 refine seg 6 [] [2, 3] [(2, (.slice A9549 t9544.1.length c9550)), (3, (iv t9544.2))] [] (fun fb => by kernel_rfl) rfl trivial ?_
 refine WL.done rfl ?_
 refine WX.next ?_
 refine WC.ret ?_
 injection hf with hf
 subst hf
 exact WX.ret_ [] (.tuple #[(.slice A9549 t9544.1.length c9550), (iv t9544.2)]) [] (fun fb => by kernel_rfl) trivial ⟨_, rfl, A9549, c9550, rfl, (hS9548.sub [0] (by decide)).noR⟩
theorem tile_changes_5_calls (p0 : Tile)  (r : Tile) (w : World)  (hf : tile_changes_5 p0 = some r) :
  CallsR Try.prog 77 #[(.agg #[(iv p0.N), (iv p0.E), (iv p0.S), (iv p0.W)])] w (fun v w' => v = (.agg #[(iv r.N), (iv r.E), (iv r.S), (iv r.W)]) ∧ Keeps NoS w w') := by
 have hS : St NoS w w [] [] := St.init (ro_nil _ _)
 refine enter 12 Try.func77 rfl Try.ntmps77 rfl ?_
 unfold tile_changes_5 at hf
 refine WC.seq ?_
 refine WC.region ?_
 refine WL.new hS 1 [] (fun g => (.pointer (some ⟨g, 0, none⟩))) (.cells #[(iv p0.N), (iv p0.E), (iv p0.S), (iv p0.W)] 24 (0, 0)) [] (fun fb g => by kernel_rfl) trivial (fun g9578 w9579 hS9580 => ?_)
 refine ⟨trivial, ?_⟩
 refine WL.new hS9580 2 [] (fun g => (.pointer (some ⟨g, 0, none⟩))) (.cells #[(iv 0), (iv 0), (iv 0), (iv 0)] 24 (0, 0)) [] (fun fb g => by kernel_rfl) trivial (fun g9582 w9583 hS9584 => ?_)
 refine ⟨trivial, ?_⟩
 refine WL.done rfl ?_
 refine WX.next ?_
 refine WC.seq ?_
 refine WC.region ?_
 refine seg 9 [.v (iv p0.W), .v (iv p0.N), .v (iv p0.E), .v (iv p0.S)] [2, 11] [(2, (pt g9582)), (11, (.agg #[(iv p0.W), (iv p0.N), (iv p0.E), (iv p0.S)]))] [.cell ⟨g9578, 3, none⟩ (iv p0.W), .cell ⟨g9578, 0, none⟩ (iv p0.N), .cell ⟨g9578, 1, none⟩ (iv p0.E), .cell ⟨g9578, 2, none⟩ (iv p0.S)] (fun fb => by kernel_rfl) rfl ⟨hS9584.cell 1 rfl 3 rfl, hS9584.cell 1 rfl 0 rfl, hS9584.cell 1 rfl 1 rfl, hS9584.cell 1 rfl 2 rfl, trivial⟩ ?_
 refine WL.store hS9584 0 rfl [(0, (iv p0.W)), (1, (iv p0.N)), (2, (iv p0.E)), (3, (iv p0.S))] #[(iv p0.W), (iv p0.N), (iv p0.E), (iv p0.S)] (fun fb => by kernel_rfl) (by kernel_rfl) rfl [1] (by decide) (by decide) (fun w9586 hS9587 => ?_)
 refine ⟨trivial, ?_⟩
 refine WL.done rfl ?_
 refine WX.next ?_
 refine WC.ret ?_
 injection hf with hf
 subst hf
 exact WX.ret_ [.v (iv p0.W), .v (iv p0.N), .v (iv p0.E), .v (iv p0.S)] (.agg #[(iv p0.W), (iv p0.N), (iv p0.E), (iv p0.S)]) [.cell ⟨g9582, 0, none⟩ (iv p0.W), .cell ⟨g9582, 1, none⟩ (iv p0.N), .cell ⟨g9582, 2, none⟩ (iv p0.E), .cell ⟨g9582, 3, none⟩ (iv p0.S)] (fun fb => by kernel_rfl) ⟨hS9587.cell 0 rfl 0 rfl, hS9587.cell 0 rfl 1 rfl, hS9587.cell 0 rfl 2 rfl, hS9587.cell 0 rfl 3 rfl, trivial⟩ ⟨_, rfl, rfl, hS9587.keep⟩
theorem tile_changed_at2_calls (k : Nat) (p0 : List Tile) (A_p0 : Option Addr) (c_p0 : Nat) (r : (List Tile) × Int) (w : World) (hR0 : RO NoS w (rowR enc_Tile A_p0 c_p0 p0)) (hf : tile_changed_at2 k p0 = some r) :
  CallsR Try.prog 37 #[(.slice A_p0 p0.length c_p0), (iv 2)] w (fun v w' => ∃ (A1_ : Option Addr), ∃ (c1_ : Nat), v = (.tuple #[(.slice A1_ r.1.length c1_), (iv r.2)]) ∧ St NoS w w' [] [rowO 24 enc_Tile A1_ c1_ r.1]) := by
 have hS : St NoS w w [rowR enc_Tile A_p0 c_p0 p0] [] := St.init (ro_cons hR0 (ro_nil _ _))
 refine enter 29 Try.func37 rfl Try.ntmps37 rfl ?_
 unfold tile_changed_at2 at hf
 refine WC.seq ?_
 refine WC.region ?_
 refine seg 2 [] [0, 1] [(0, (.slice A_p0 p0.length c_p0)), (1, (iv 2))] [] (fun fb => by kernel_rfl) rfl trivial ?_
 refine WL.done rfl ?_
 refine WX.next ?_
 refine WC.seq ?_
 refine WC.seq ?_
 refine WC.region ?_
 refine seg 1 [] [0, 1, 9] [(0, (.slice A_p0 p0.length c_p0)), (1, (iv 2)), (9, (.slice A_p0 p0.length c_p0))] [] (fun fb => by kernel_rfl) rfl trivial ?_
 obtain ⟨t9558, ht9559, hf⟩ := bind_some hf
 refine WL.call (some 10) 38 #[(.slice A_p0 p0.length c_p0)] (fun fb => by kernel_rfl) (tile_Valid_calls _ p0 A_p0 c_p0 t9558 _ (hS.rd 0) ht9559) (fun v w9560 hR9561 => ?_)
 obtain ⟨rfl, hk_⟩ := hR9561
 have hS9562 := hS.keepN hk_
 refine ⟨trivial, ?_⟩
 refine seg 3 [] [0, 1, 11] [(0, (.slice A_p0 p0.length c_p0)), (1, (iv 2)), (11, (.bool (!t9558)))] [] (fun fb => by kernel_rfl) rfl trivial ?_
 refine WL.done rfl ?_
 refine WX.next ?_
 rcases br_some hf with ⟨h9563, hf⟩ | ⟨h9563, hf⟩
 ·refine WC.condT2 (fun fb => by kernel_rfl) h9563 ?_
  refine WC.seq ?_
  refine WC.region ?_
  refine seg 2 [] [4, 5] [(4, (.slice none 0 0)), (5, (iv 1))] [] (fun fb => by kernel_rfl) rfl trivial ?_
  refine WL.done rfl ?_
  refine WX.next ?_
  refine WC.ret ?_
  have hS9564 := hS9562.nilrow 24 enc_Tile
  injection hf with hf
  subst hf
  exact WX.thenR (WX.ret_ [] (.tuple #[(.slice none ([] : List Tile).length 0), (iv 1)]) [] (fun fb => by kernel_rfl) trivial ⟨_, rfl, none, 0, rfl, (hS9564.sub [0] (by decide)).noR⟩)
 refine WC.condF2 (fun fb => by kernel_rfl) h9563 ?_
 refine WC.skip ?_
 refine WX.next ?_
 refine WC.seq ?_
 refine WC.region ?_
 refine seg 1 [] [0, 1, 6] [(0, (.slice A_p0 p0.length c_p0)), (1, (iv 2)), (6, (.slice none 0 0))] [] (fun fb => by kernel_rfl) rfl trivial ?_
 refine WL.done rfl ?_
 refine WX.next ?_
 refine WC.seq ?_
 refine WC.seq ?_
 refine WC.region ?_
 refine seg 3 [] [1, 6, 12, 13, 14] [(1, (iv 2)), (6, (.slice none 0 0)), (12, (.slice A_p0 p0.length c_p0)), (13, (iv (p0.length : Int))), (14, (iv 0))] [] (fun fb => by kernel_rfl) rfl trivial ?_
 refine WL.done rfl ?_
 refine WX.next ?_
 have hS9682 := hS9562.nilrow 24 enc_Tile
 obtain ⟨x9690, hx9691, hf⟩ := bind_some hf
 refine WC.cutN (T := (List Tile) × (Option Addr) × Nat) (fun t => [(6, (.slice t.2.1 t.1.length t.2.2))]) (fun t w1 => St NoS w w1 [rowR enc_Tile A_p0 c_p0 p0] [rowO 24 enc_Tile t.2.1 t.2.2 t.1] ∧ x9690 = t.1) (fun Kx9690 => ?_) ?_
 ·
  refine WC.block ?_
  refine WC.loop (T := ((List Tile) × Int) × (Option Addr) × Nat) (fun t => [(1, (iv 2)), (6, (.slice t.2.1 t.1.1.length t.2.2)), (12, (.slice A_p0 p0.length c_p0)), (13, (iv (p0.length : Int))), (14, (iv t.1.2))]) (fun n t w1 => St NoS w w1 [rowR enc_Tile A_p0 c_p0 p0] [rowO 24 enc_Tile t.2.1 t.2.2 t.1.1] ∧ tile_changed_at2.l0 n t.1.1 t.1.2 p0 = some x9690) k ((([] : List Tile), 0), none, 0) [1, 6, 12, 13, 14] rfl ⟨(hS9682.subR [0]).sub [0] (by decide), hx9691⟩ ?_
  rintro k9692 ⟨⟨l9685, x9686⟩, A9683, c9684⟩ w9693 ⟨hS9694, hl9695⟩
  cases k9692 with
  | zero => rw [tile_changed_at2.l0] at hl9695; cases hl9695
  | succ k9692 =>
   rw [tile_changed_at2.l0] at hl9695
   refine WC.seq ?_
   refine WC.region ?_
   refine seg 1 [] [1, 6, 12, 13, 14, 15] [(1, (iv 2)), (6, (.slice A9683 l9685.length c9684)), (12, (.slice A_p0 p0.length c_p0)), (13, (iv (p0.length : Int))), (14, (iv x9686)), (15, (.bool (decide (x9686 < (p0.length : Int)))))] [] (fun fb => by kernel_rfl) rfl trivial ?_
   refine WL.done rfl ?_
   refine WX.next ?_
   refine WC.seq ?_
   rcases br_some hl9695 with ⟨h9696, hl9695⟩ | ⟨h9696, hl9695⟩
   ·refine WC.condT2 (fun fb => by kernel_rfl) h9696 ?_
    refine WC.skip ?_
    refine WX.next ?_
    refine WC.seq ?_
    refine WC.block ?_
    refine WC.seq ?_
    refine WC.region ?_
    obtain ⟨h9697, hl9695⟩ := as_some hl9695
    refine seg 2 [.v (iv ((rdD p0 x9686 z_Tile).N)), .v (iv ((rdD p0 x9686 z_Tile).E)), .v (iv ((rdD p0 x9686 z_Tile).S)), .v (iv ((rdD p0 x9686 z_Tile).W))] [1, 6, 12, 13, 14, 17] [(1, (iv 2)), (6, (.slice A9683 l9685.length c9684)), (12, (.slice A_p0 p0.length c_p0)), (13, (iv (p0.length : Int))), (14, (iv x9686)), (17, (.agg #[(iv ((rdD p0 x9686 z_Tile).N)), (iv ((rdD p0 x9686 z_Tile).E)), (iv ((rdD p0 x9686 z_Tile).S)), (iv ((rdD p0 x9686 z_Tile).W))]))] [.idx A_p0 x9686 p0.length, .cell ((adr A_p0).add ((x9686).toNat * 4)) (iv ((rdD p0 x9686 z_Tile).N)), .cell (((adr A_p0).add ((x9686).toNat * 4)).add 1) (iv ((rdD p0 x9686 z_Tile).E)), .cell (((adr A_p0).add ((x9686).toNat * 4)).add 2) (iv ((rdD p0 x9686 z_Tile).S)), .cell (((adr A_p0).add ((x9686).toNat * 4)).add 3) (iv ((rdD p0 x9686 z_Tile).W))] (fun fb => by kernel_rfl) rfl ⟨rowR.adr (hS9694.rd 0).1 h9697.1 h9697.2, rowR.cell (hS9694.rd 0).1 z_Tile h9697.1 h9697.2 0 rfl, rowR.cell (hS9694.rd 0).1 z_Tile h9697.1 h9697.2 1 rfl, rowR.cell (hS9694.rd 0).1 z_Tile h9697.1 h9697.2 2 rfl, rowR.cell (hS9694.rd 0).1 z_Tile h9697.1 h9697.2 3 rfl, trivial⟩ ?_
    refine WL.new hS9694 8 [] (fun g => (.pointer (some ⟨g, 0, none⟩))) (.cells #[(iv 0), (iv 0), (iv 0), (iv 0)] 24 (0, 0)) [] (fun fb g => by kernel_rfl) trivial (fun g9698 w9699 hS9700 => ?_)
    refine ⟨trivial, ?_⟩
    refine WL.store hS9700 0 rfl [(0, (iv ((rdD p0 x9686 z_Tile).N))), (1, (iv ((rdD p0 x9686 z_Tile).E))), (2, (iv ((rdD p0 x9686 z_Tile).S))), (3, (iv ((rdD p0 x9686 z_Tile).W)))] #[(iv ((rdD p0 x9686 z_Tile).N)), (iv ((rdD p0 x9686 z_Tile).E)), (iv ((rdD p0 x9686 z_Tile).S)), (iv ((rdD p0 x9686 z_Tile).W))] (fun fb => by kernel_rfl) (by kernel_rfl) rfl [1] (by decide) (by decide) (fun w9702 hS9703 => ?_)
    refine ⟨trivial, ?_⟩
    refine WL.done rfl ?_
    refine WX.next ?_
    refine WC.regionD ([(5, ⟨g9698, 0, none⟩, (iv ((rdD p0 x9686 z_Tile).N))), (5, ⟨g9698, 1, none⟩, (iv ((rdD p0 x9686 z_Tile).E))), (5, ⟨g9698, 2, none⟩, (iv ((rdD p0 x9686 z_Tile).S))), (5, ⟨g9698, 3, none⟩, (iv ((rdD p0 x9686 z_Tile).W)))], [0, 2, 3, 4, 5, 9], [[], [], [], [1, 2], [1, 2, 3], [], [1, 2, 3, 4, 5], [1, 2, 3, 4, 5, 6], [0, 1, 2, 3, 4, 5, 6, 7], [0, 1, 2, 3, 4, 5, 6, 7, 8]]) [[0, 2, 5, 1, 3, 4, 6, 7, 8, 9]] (by kernel_rfl) (by kernel_rfl) (NoPanic.block (NoPanic.seq (NoPanic.seq (NoPanic.block (NoPanic.seq (NoPanic.body)))))) ?_
    have hS9725 := hS9703.drew
    revert hS9725
    generalize World.drew w9702 = w9724
    intro hS9725
    refine ⟨⟨hS9725.cell 0 rfl 0 rfl, hS9725.cell 0 rfl 1 rfl, hS9725.cell 0 rfl 2 rfl, hS9725.cell 0 rfl 3 rfl, trivial⟩, forallC ?_ (forallN)⟩
    refine segF 3 [.v (iv ((rdD p0 x9686 z_Tile).N)), .v (iv ((rdD p0 x9686 z_Tile).E)), .v (iv ((rdD p0 x9686 z_Tile).S)), .v (iv ((rdD p0 x9686 z_Tile).W))] [1, 12, 13, 14, 18, 20, 23] [(1, (iv 2)), (12, (.slice A_p0 p0.length c_p0)), (13, (iv (p0.length : Int))), (14, (iv x9686)), (18, (.slice A9683 l9685.length c9684)), (20, (iv 2)), (23, (.agg #[(iv ((rdD p0 x9686 z_Tile).N)), (iv ((rdD p0 x9686 z_Tile).E)), (iv ((rdD p0 x9686 z_Tile).S)), (iv ((rdD p0 x9686 z_Tile).W))]))] [] [0, 1, 2, 3] [(5, ⟨g9698, 0, none⟩, (iv ((rdD p0 x9686 z_Tile).N))), (5, ⟨g9698, 1, none⟩, (iv ((rdD p0 x9686 z_Tile).E))), (5, ⟨g9698, 2, none⟩, (iv ((rdD p0 x9686 z_Tile).S))), (5, ⟨g9698, 3, none⟩, (iv ((rdD p0 x9686 z_Tile).W)))] (fun fb => by kernel_rfl) rfl trivial rfl ?_
    obtain ⟨t9726, ht9727, hl9695⟩ := bind_some hl9695
    refine WL.call (some 19) 58 #[] (fun fb => by kernel_rfl) (tile_changes_calls t9726 _ ht9727) (fun v w9728 hR9729 => ?_)
    obtain ⟨rfl, hk_⟩ := hR9729
    have hS9730 := hS9725.keepN hk_
    refine ⟨⟨hS9730.cell 0 rfl 0 rfl, hS9730.cell 0 rfl 1 rfl, hS9730.cell 0 rfl 2 rfl, hS9730.cell 0 rfl 3 rfl, trivial⟩, ?_⟩
    refine seg 6 [] [1, 12, 13, 14, 18, 22, 23] [(1, (iv 2)), (12, (.slice A_p0 p0.length c_p0)), (13, (iv (p0.length : Int))), (14, (iv x9686)), (18, (.slice A9683 l9685.length c9684)), (22, (.func (.func 77) #[] #[])), (23, (.agg #[(iv ((rdD p0 x9686 z_Tile).N)), (iv ((rdD p0 x9686 z_Tile).E)), (iv ((rdD p0 x9686 z_Tile).S)), (iv ((rdD p0 x9686 z_Tile).W))]))] [] (fun fb => by kernel_rfl) rfl trivial ?_
    obtain ⟨t9731, ht9732, hl9695⟩ := bind_some hl9695
    refine WL.call (some 24) 77 #[(.agg #[(iv ((rdD p0 x9686 z_Tile).N)), (iv ((rdD p0 x9686 z_Tile).E)), (iv ((rdD p0 x9686 z_Tile).S)), (iv ((rdD p0 x9686 z_Tile).W))])] (fun fb => by kernel_rfl) (tile_changes_5_calls (rdD p0 x9686 z_Tile) t9731 _ ht9732) (fun v w9733 hR9734 => ?_)
    obtain ⟨rfl, hk_⟩ := hR9734
    have hS9735 := hS9730.keepN hk_
    refine ⟨trivial, ?_⟩
    refine WL.new hS9735 25 [] (fun g => (.slice (some ⟨g, 0, none⟩) 1 1)) (.cells #[(iv t9731.N), (iv t9731.E), (iv t9731.S), (iv t9731.W)] 24 (0, 0)) [] (fun fb g => by kernel_rfl) trivial (fun g9736 w9737 hS9738 => ?_)
    refine ⟨trivial, ?_⟩
    have hS9740 : St NoS w w9737 [rowR enc_Tile A_p0 c_p0 p0] [rowO 24 enc_Tile (some ⟨g9736, 0, none⟩) 1 [t9731], blk g9698 (.cells #[(iv ((rdD p0 x9686 z_Tile).N)), (iv ((rdD p0 x9686 z_Tile).E)), (iv ((rdD p0 x9686 z_Tile).S)), (iv ((rdD p0 x9686 z_Tile).W))] 24 (0, 0)), rowO 24 enc_Tile A9683 c9684 l9685] := hS9738.map1 0 _ (fun h => rowO.ofBlk h rfl (Nat.le_of_ble_eq_true (by kernel_rfl))) (fun _ h => by obtain ⟨_, h1, h2⟩ := h; injection h1 with h1; subst h1; exact h2) [1, 2] (by decide) (by decide)
    obtain ⟨h9741, hl9695⟩ := as_some hl9695
    refine WL.append hS9740 2 (d := 26) (tS := 22) (z := (.agg #[(iv 0), (iv 0), (iv 0), (iv 0)])) (bytes := 32) (c2 := 1) rfl (fun fb => by kernel_rfl) (rowO.rd (hS9740.own 0).1) (by kernel_rfl) (by kernel_rfl) rfl (by decide) h9741 (by decide) [0, 1] (by decide) (by decide) (fun A9742 c9743 w9744 hS9745 => ?_)
    refine ⟨trivial, ?_⟩
    refine seg 10 [] [1, 6, 12, 13, 14] [(1, (iv 2)), (6, (.slice A9742 (l9685 ++ [t9731]).length c9743)), (12, (.slice A_p0 p0.length c_p0)), (13, (iv (p0.length : Int))), (14, (iv x9686))] [] (fun fb => by kernel_rfl) rfl trivial ?_
    refine WL.done rfl ?_
    refine WX.blockN (WX.next ?_)
    refine WC.region ?_
    refine seg 2 [] [1, 6, 12, 13, 14] [(1, (iv 2)), (6, (.slice A9742 (l9685 ++ [t9731]).length c9743)), (12, (.slice A_p0 p0.length c_p0)), (13, (iv (p0.length : Int))), (14, (iv (w64 (x9686 + 1))))] [] (fun fb => by kernel_rfl) rfl trivial ?_
    refine WL.done rfl ?_
    exact WX.again k9692 (Nat.lt_succ_self _) ((l9685 ++ [t9731], w64 (x9686 + 1)), A9742, c9743) [1, 6, 12, 13, 14] rfl ⟨(hS9745.subR [0]).sub [0] (by decide), hl9695⟩
   refine WC.condF2 (fun fb => by kernel_rfl) h9696 ?_
   refine WC.exit ?_
   injection hl9695 with hl9695
   exact WX.thenX (WX.thenX (WX.blockHere (WX.to Kx9690 (l9685, A9683, c9684) [6] rfl ⟨(hS9694.subR [0]).sub [0] (by decide), hl9695.symm⟩)))
 rintro ⟨y9749, A9687, c9688⟩ w9746 ⟨hS9747, hq9748⟩
 subst hq9748
 refine WX.next ?_
 refine WC.seq ?_
 refine WC.region ?_
 refine seg 3 [] [4, 5] [(4, (.slice A9687 x9690.length c9688)), (5, (iv 0))] [] (fun fb => by kernel_rfl) rfl trivial ?_
 refine WL.done rfl ?_
 refine WX.next ?_
 refine WC.ret ?_
 injection hf with hf
 subst hf
 exact WX.ret_ [] (.tuple #[(.slice A9687 x9690.length c9688), (iv 0)]) [] (fun fb => by kernel_rfl) trivial ⟨_, rfl, A9687, c9688, rfl, (hS9747.sub [0] (by decide)).noR⟩
theorem tile_Turn_calls (k : Nat) (p0 : List Tile) (A_p0 : Option Addr) (c_p0 : Nat) (r : (List Tile) × Int) (w : World) (hR0 : RO NoS w (rowR enc_Tile A_p0 c_p0 p0)) (hf : tile_Turn k p0 = some r) :
  CallsR Try.prog 17 #[(.slice A_p0 p0.length c_p0)] w (fun v w' => ∃ (A1_ : Option Addr), ∃ (c1_ : Nat), v = (.tuple #[(.slice A1_ r.1.length c1_), (iv r.2)]) ∧ St NoS w w' [] [rowO 24 enc_Tile A1_ c1_ r.1]) := by
 have hS : St NoS w w [rowR enc_Tile A_p0 c_p0 p0] [] := St.init (ro_cons hR0 (ro_nil _ _))
 refine enter 8 Try.func17 rfl Try.ntmps17 rfl ?_
 unfold tile_Turn at hf
 refine WC.seq ?_
 refine WC.region ?_
 refine seg 2 [] [0] [(0, (.slice A_p0 p0.length c_p0))] [] (fun fb => by kernel_rfl) rfl trivial ?_
 refine WL.done rfl ?_
 refine WX.next ?_
 refine WC.seq ?_
 refine WC.region ?_
 refine seg 1 [] [4] [(4, (.slice A_p0 p0.length c_p0))] [] (fun fb => by kernel_rfl) rfl trivial ?_
 obtain ⟨t9750, ht9751, hf⟩ := bind_some hf
 refine WL.call (some 5) 37 #[(.slice A_p0 p0.length c_p0), (iv 2)] (fun fb => by kernel_rfl) (tile_changed_at2_calls _ p0 A_p0 c_p0 t9750 _ (hS.rd 0) ht9751) (fun v w9752 hR9753 => ?_)
 obtain ⟨A9755, c9756, rfl, hk_⟩ := hR9753
 have hS9754 : St NoS w w9752 [rowR enc_Tile A_p0 c_p0 p0] [rowO 24 enc_Tile A9755 c9756 t9750.1] := hS.call hk_ [] [] (fun g hg => hg.elim) (by simp) (by decide)
 refine ⟨trivial, ?_⟩
 refine seg 6 [] [2, 3] [(2, (.slice A9755 t9750.1.length c9756)), (3, (iv t9750.2))] [] (fun fb => by kernel_rfl) rfl trivial ?_
 refine WL.done rfl ?_
 refine WX.next ?_
 refine WC.ret ?_
 injection hf with hf
 subst hf
 exact WX.ret_ [] (.tuple #[(.slice A9755 t9750.1.length c9756), (iv t9750.2)]) [] (fun fb => by kernel_rfl) trivial ⟨_, rfl, A9755, c9756, rfl, (hS9754.sub [0] (by decide)).noR⟩
theorem law09_DecideTurned_calls (k : Nat) (p0 : List Tile) (p1 : Int) (A_p0 : Option Addr) (c_p0 : Nat) (r : Bool) (w : World) (hR0 : RO NoS w (rowR enc_Tile A_p0 c_p0 p0)) (hf : law09_DecideTurned k p0 p1 = some r) :
  CallsR Try.prog 4 #[(.slice A_p0 p0.length c_p0), (.int .u16 p1)] w (fun v w' => v = (.bool r) ∧ Keeps NoS w w') := by
 have hS : St NoS w w [rowR enc_Tile A_p0 c_p0 p0] [] := St.init (ro_cons hR0 (ro_nil _ _))
 refine enter 154 Try.func4 rfl Try.ntmps4 rfl ?_
 unfold law09_DecideTurned at hf
 refine WC.seq ?_
 refine WC.region ?_
 refine seg 1 [] [0, 1] [(0, (.slice A_p0 p0.length c_p0)), (1, (.int .u16 p1))] [] (fun fb => by kernel_rfl) rfl trivial ?_
 refine WL.done rfl ?_
 refine WX.next ?_
 refine WC.seq ?_
 refine WC.region ?_
 refine seg 1 [] [0, 1, 26] [(0, (.slice A_p0 p0.length c_p0)), (1, (.int .u16 p1)), (26, (.slice A_p0 p0.length c_p0))] [] (fun fb => by kernel_rfl) rfl trivial ?_
 obtain ⟨t8957, ht8958, hf⟩ := bind_some hf
 refine WL.call (some 27) 11 #[(.slice A_p0 p0.length c_p0)] (fun fb => by kernel_rfl) (decide_Fills_calls _ p0 A_p0 c_p0 t8957 _ (hS.rd 0) ht8958) (fun v w8959 hR8960 => ?_)
 obtain ⟨rfl, hk_⟩ := hR8960
 have hS8961 := hS.keepN hk_
 refine ⟨trivial, ?_⟩
 refine seg 7 [] [0, 1, 5, 6] [(0, (.slice A_p0 p0.length c_p0)), (1, (.int .u16 p1)), (5, (.bool t8957.1)), (6, (iv t8957.2))] [] (fun fb => by kernel_rfl) rfl trivial ?_
 refine WL.done rfl ?_
 refine WX.next ?_
 refine WC.seq ?_
 refine WC.seq ?_
 refine WC.region ?_
 refine seg 2 [] [0, 1, 5, 31] [(0, (.slice A_p0 p0.length c_p0)), (1, (.int .u16 p1)), (5, (.bool t8957.1)), (31, (.bool (t8957.2 != 0)))] [] (fun fb => by kernel_rfl) rfl trivial ?_
 refine WL.done rfl ?_
 refine WX.next ?_
 rcases br_some hf with ⟨h8962, hf⟩ | ⟨h8962, hf⟩
 ·refine WC.condT2 (fun fb => by kernel_rfl) h8962 ?_
  refine WC.seq ?_
  refine WC.region ?_
  obtain ⟨t9135, ht9136, hf⟩ := bind_some hf
  refine WL.call (some 32) 14 #[] (fun fb => by kernel_rfl) (law09_awake_calls _ t9135 _ ht9136) (fun v w9137 hR9138 => ?_)
  obtain ⟨rfl, hk_⟩ := hR9138
  have hS9139 := hS8961.keepN hk_
  refine ⟨trivial, ?_⟩
  refine seg 2 [] [4] [(4, (.bool t9135))] [] (fun fb => by kernel_rfl) rfl trivial ?_
  refine WL.done rfl ?_
  refine WX.next ?_
  refine WC.ret ?_
  injection hf with hf
  subst hf
  exact WX.thenR (WX.ret_ [] (.bool t9135) [] (fun fb => by kernel_rfl) trivial ⟨_, rfl, rfl, hS9139.keep⟩)
 refine WC.condF2 (fun fb => by kernel_rfl) h8962 ?_
 refine WC.skip ?_
 refine WX.next ?_
 refine WC.seq ?_
 refine WC.region ?_
 refine seg 1 [] [0, 1, 5, 34] [(0, (.slice A_p0 p0.length c_p0)), (1, (.int .u16 p1)), (5, (.bool t8957.1)), (34, (.slice A_p0 p0.length c_p0))] [] (fun fb => by kernel_rfl) rfl trivial ?_
 obtain ⟨t9345, ht9346, hf⟩ := bind_some hf
 refine WL.call (some 35) 15 #[(.slice A_p0 p0.length c_p0)] (fun fb => by kernel_rfl) (tile_Mirror_calls _ p0 A_p0 c_p0 t9345 _ (hS8961.rd 0) ht9346) (fun v w9347 hR9348 => ?_)
 obtain ⟨A9350, c9351, rfl, hk_⟩ := hR9348
 have hS9349 : St NoS w w9347 [rowR enc_Tile A_p0 c_p0 p0] [rowO 24 enc_Tile A9350 c9351 t9345.1] := hS8961.call hk_ [] [] (fun g hg => hg.elim) (by simp) (by decide)
 refine ⟨trivial, ?_⟩
 refine seg 7 [] [0, 1, 5, 7, 8] [(0, (.slice A_p0 p0.length c_p0)), (1, (.int .u16 p1)), (5, (.bool t8957.1)), (7, (.slice A9350 t9345.1.length c9351)), (8, (iv t9345.2))] [] (fun fb => by kernel_rfl) rfl trivial ?_
 refine WL.done rfl ?_
 refine WX.next ?_
 refine WC.seq ?_
 refine WC.region ?_
 refine seg 1 [] [0, 1, 5, 7, 8, 39] [(0, (.slice A_p0 p0.length c_p0)), (1, (.int .u16 p1)), (5, (.bool t8957.1)), (7, (.slice A9350 t9345.1.length c9351)), (8, (iv t9345.2)), (39, (.slice A_p0 p0.length c_p0))] [] (fun fb => by kernel_rfl) rfl trivial ?_
 obtain ⟨t9551, ht9552, hf⟩ := bind_some hf
 refine WL.call (some 40) 16 #[(.slice A_p0 p0.length c_p0)] (fun fb => by kernel_rfl) (tile_Upturn_calls _ p0 A_p0 c_p0 t9551 _ (hS9349.rd 0) ht9552) (fun v w9553 hR9554 => ?_)
 obtain ⟨A9556, c9557, rfl, hk_⟩ := hR9554
 have hS9555 : St NoS w w9553 [rowR enc_Tile A_p0 c_p0 p0] [rowO 24 enc_Tile A9556 c9557 t9551.1, rowO 24 enc_Tile A9350 c9351 t9345.1] := hS9349.call hk_ [] [0] (fun g hg => hg.elim) (by simp) (by decide)
 refine ⟨trivial, ?_⟩
 refine seg 7 [] [0, 1, 5, 7, 8, 9, 10] [(0, (.slice A_p0 p0.length c_p0)), (1, (.int .u16 p1)), (5, (.bool t8957.1)), (7, (.slice A9350 t9345.1.length c9351)), (8, (iv t9345.2)), (9, (.slice A9556 t9551.1.length c9557)), (10, (iv t9551.2))] [] (fun fb => by kernel_rfl) rfl trivial ?_
 refine WL.done rfl ?_
 refine WX.next ?_
 refine WC.seq ?_
 refine WC.region ?_
 refine seg 1 [] [0, 1, 5, 7, 8, 9, 10, 44] [(0, (.slice A_p0 p0.length c_p0)), (1, (.int .u16 p1)), (5, (.bool t8957.1)), (7, (.slice A9350 t9345.1.length c9351)), (8, (iv t9345.2)), (9, (.slice A9556 t9551.1.length c9557)), (10, (iv t9551.2)), (44, (.slice A_p0 p0.length c_p0))] [] (fun fb => by kernel_rfl) rfl trivial ?_
 obtain ⟨t9757, ht9758, hf⟩ := bind_some hf
 refine WL.call (some 45) 17 #[(.slice A_p0 p0.length c_p0)] (fun fb => by kernel_rfl) (tile_Turn_calls _ p0 A_p0 c_p0 t9757 _ (hS9555.rd 0) ht9758) (fun v w9759 hR9760 => ?_)
 obtain ⟨A9762, c9763, rfl, hk_⟩ := hR9760
 have hS9761 : St NoS w w9759 [rowR enc_Tile A_p0 c_p0 p0] [rowO 24 enc_Tile A9762 c9763 t9757.1, rowO 24 enc_Tile A9556 c9557 t9551.1, rowO 24 enc_Tile A9350 c9351 t9345.1] := hS9555.call hk_ [] [0, 1] (fun g hg => hg.elim) (by simp) (by decide)
 refine ⟨trivial, ?_⟩
 refine seg 7 [] [0, 1, 5, 7, 8, 9, 10, 11, 12] [(0, (.slice A_p0 p0.length c_p0)), (1, (.int .u16 p1)), (5, (.bool t8957.1)), (7, (.slice A9350 t9345.1.length c9351)), (8, (iv t9345.2)), (9, (.slice A9556 t9551.1.length c9557)), (10, (iv t9551.2)), (11, (.slice A9762 t9757.1.length c9763)), (12, (iv t9757.2))] [] (fun fb => by kernel_rfl) rfl trivial ?_
 refine WL.done rfl ?_
 refine WX.next ?_
 refine WC.seq ?_
 refine WC.seq ?_
 refine WC.region ?_
 refine seg 3 [] [0, 1, 5, 7, 9, 10, 11, 12, 50] [(0, (.slice A_p0 p0.length c_p0)), (1, (.int .u16 p1)), (5, (.bool t8957.1)), (7, (.slice A9350 t9345.1.length c9351)), (9, (.slice A9556 t9551.1.length c9557)), (10, (iv t9551.2)), (11, (.slice A9762 t9757.1.length c9763)), (12, (iv t9757.2)), (50, (.bool (t9345.2 != 0)))] [] (fun fb => by kernel_rfl) rfl trivial ?_
 refine WL.cutV (T := Bool) 6 (fun t => [(53, (.bool t)), (0, (.slice A_p0 p0.length c_p0)), (1, (.int .u16 p1)), (5, (.bool t8957.1)), (7, (.slice A9350 t9345.1.length c9351)), (9, (.slice A9556 t9551.1.length c9557)), (11, (.slice A9762 t9757.1.length c9763)), (12, (iv t9757.2))]) (fun t => ((t9345.2 != 0) || (t9551.2 != 0)) = t) (fun K => ?_) ?_
 ·
  rcases Bool.eq_false_or_eq_true (t9345.2 != 0) with h9764 | h9764
  ·
   refine WL.setB 50 h9764 rfl ?_
   refine seg 6 [] [0, 1, 5, 7, 9, 11, 12, 53] [(0, (.slice A_p0 p0.length c_p0)), (1, (.int .u16 p1)), (5, (.bool t8957.1)), (7, (.slice A9350 t9345.1.length c9351)), (9, (.slice A9556 t9551.1.length c9557)), (11, (.slice A9762 t9757.1.length c9763)), (12, (iv t9757.2)), (53, (.bool true))] [] (fun fb => by kernel_rfl) rfl trivial ?_
   exact WL.toV K true [53, 0, 1, 5, 7, 9, 11, 12] rfl (by first | (rw [h9764]; done) | (rw [h9764]; rfl))
  refine WL.setB 50 h9764 rfl ?_
  refine seg 6 [] [0, 1, 5, 7, 9, 11, 12, 53] [(0, (.slice A_p0 p0.length c_p0)), (1, (.int .u16 p1)), (5, (.bool t8957.1)), (7, (.slice A9350 t9345.1.length c9351)), (9, (.slice A9556 t9551.1.length c9557)), (11, (.slice A9762 t9757.1.length c9763)), (12, (iv t9757.2)), (53, (.bool (t9551.2 != 0)))] [] (fun fb => by kernel_rfl) rfl trivial ?_
  exact WL.toV K (t9551.2 != 0) [53, 0, 1, 5, 7, 9, 11, 12] rfl (by first | (rw [h9764]; done) | (rw [h9764]; rfl))
 rintro b9765 rfl
 refine seg 7 [] [0, 1, 5, 7, 9, 11, 12, 54] [(0, (.slice A_p0 p0.length c_p0)), (1, (.int .u16 p1)), (5, (.bool t8957.1)), (7, (.slice A9350 t9345.1.length c9351)), (9, (.slice A9556 t9551.1.length c9557)), (11, (.slice A9762 t9757.1.length c9763)), (12, (iv t9757.2)), (54, (.bool ((t9345.2 != 0) || (t9551.2 != 0))))] [] (fun fb => by kernel_rfl) rfl trivial ?_
 refine WL.cutV (T := Bool) 10 (fun t => [(57, (.bool t)), (0, (.slice A_p0 p0.length c_p0)), (1, (.int .u16 p1)), (5, (.bool t8957.1)), (7, (.slice A9350 t9345.1.length c9351)), (9, (.slice A9556 t9551.1.length c9557)), (11, (.slice A9762 t9757.1.length c9763))]) (fun t => (((t9345.2 != 0) || (t9551.2 != 0)) || (t9757.2 != 0)) = t) (fun K => ?_) ?_
 ·
  rcases Bool.eq_false_or_eq_true ((t9345.2 != 0) || (t9551.2 != 0)) with h9766 | h9766
  ·
   refine WL.setB 54 h9766 rfl ?_
   refine seg 10 [] [0, 1, 5, 7, 9, 11, 57] [(0, (.slice A_p0 p0.length c_p0)), (1, (.int .u16 p1)), (5, (.bool t8957.1)), (7, (.slice A9350 t9345.1.length c9351)), (9, (.slice A9556 t9551.1.length c9557)), (11, (.slice A9762 t9757.1.length c9763)), (57, (.bool true))] [] (fun fb => by kernel_rfl) rfl trivial ?_
   exact WL.toV K true [57, 0, 1, 5, 7, 9, 11] rfl (by first | (rw [h9766]; done) | (rw [h9766]; rfl))
  refine WL.setB 54 h9766 rfl ?_
  refine seg 10 [] [0, 1, 5, 7, 9, 11, 57] [(0, (.slice A_p0 p0.length c_p0)), (1, (.int .u16 p1)), (5, (.bool t8957.1)), (7, (.slice A9350 t9345.1.length c9351)), (9, (.slice A9556 t9551.1.length c9557)), (11, (.slice A9762 t9757.1.length c9763)), (57, (.bool (t9757.2 != 0)))] [] (fun fb => by kernel_rfl) rfl trivial ?_
  exact WL.toV K (t9757.2 != 0) [57, 0, 1, 5, 7, 9, 11] rfl (by first | (rw [h9766]; done) | (rw [h9766]; rfl))
 rintro b9767 rfl
 refine WL.done rfl ?_
 refine WX.next ?_
 rcases br_some hf with ⟨h9768, hf⟩ | ⟨h9768, hf⟩
 ·refine WC.condT2 (fun fb => by kernel_rfl) h9768 ?_
  refine WC.seq ?_
  refine WC.region ?_
  refine seg 1 [] [4] [(4, (.bool false))] [] (fun fb => by kernel_rfl) rfl trivial ?_
  refine WL.done rfl ?_
  refine WX.next ?_
  refine WC.ret ?_
  injection hf with hf
  subst hf
  exact WX.thenR (WX.ret_ [] (.bool false) [] (fun fb => by kernel_rfl) trivial ⟨_, rfl, rfl, hS9761.keep⟩)
 refine WC.condF2 (fun fb => by kernel_rfl) h9768 ?_
 refine WC.skip ?_
 refine WX.next ?_
 refine WC.seq ?_
 refine WC.region ?_
 refine seg 4 [] [0, 5, 7, 9, 11, 13] [(0, (.slice A_p0 p0.length c_p0)), (5, (.bool t8957.1)), (7, (.slice A9350 t9345.1.length c9351)), (9, (.slice A9556 t9551.1.length c9557)), (11, (.slice A9762 t9757.1.length c9763)), (13, (iv (Int.tmod (w64 (p1)) 1000)))] [.ne 1000] (fun fb => by kernel_rfl) rfl ⟨(by decide), trivial⟩ ?_
 refine WL.done rfl ?_
 refine WX.next ?_
 refine WC.seq ?_
 refine WC.region ?_
 refine seg 1 [] [0, 5, 7, 9, 11, 13, 14] [(0, (.slice A_p0 p0.length c_p0)), (5, (.bool t8957.1)), (7, (.slice A9350 t9345.1.length c9351)), (9, (.slice A9556 t9551.1.length c9557)), (11, (.slice A9762 t9757.1.length c9763)), (13, (iv (Int.tmod (w64 (p1)) 1000))), (14, (.slice none 0 0))] [] (fun fb => by kernel_rfl) rfl trivial ?_
 refine WL.done rfl ?_
 refine WX.next ?_
 refine WC.seq ?_
 refine WC.seq ?_
 refine WC.region ?_
 refine seg 1 [] [0, 5, 7, 9, 11, 13, 14, 15] [(0, (.slice A_p0 p0.length c_p0)), (5, (.bool t8957.1)), (7, (.slice A9350 t9345.1.length c9351)), (9, (.slice A9556 t9551.1.length c9557)), (11, (.slice A9762 t9757.1.length c9763)), (13, (iv (Int.tmod (w64 (p1)) 1000))), (14, (.slice none 0 0)), (15, (iv 0))] [] (fun fb => by kernel_rfl) rfl trivial ?_
 refine WL.done rfl ?_
 refine WX.next ?_
 have hS9811 := hS9761.nilrow 24 enc_Tile
 obtain ⟨x9819, hx9820, hf⟩ := bind_some hf
 refine WC.cutN (T := (List Tile) × (Option Addr) × Nat) (fun t => [(5, (.bool t8957.1)), (7, (.slice A9350 t9345.1.length c9351)), (9, (.slice A9556 t9551.1.length c9557)), (11, (.slice A9762 t9757.1.length c9763)), (14, (.slice t.2.1 t.1.length t.2.2))]) (fun t w1 => St NoS w w1 [rowR enc_Tile A_p0 c_p0 p0] [rowO 24 enc_Tile A9350 c9351 t9345.1, rowO 24 enc_Tile A9556 c9557 t9551.1, rowO 24 enc_Tile A9762 c9763 t9757.1, rowO 24 enc_Tile t.2.1 t.2.2 t.1] ∧ x9819 = t.1) (fun Kx9819 => ?_) ?_
 ·
  refine WC.block ?_
  refine WC.loop (T := ((List Tile) × Int) × (Option Addr) × Nat) (fun t => [(0, (.slice A_p0 p0.length c_p0)), (5, (.bool t8957.1)), (7, (.slice A9350 t9345.1.length c9351)), (9, (.slice A9556 t9551.1.length c9557)), (11, (.slice A9762 t9757.1.length c9763)), (13, (iv (Int.tmod (w64 (p1)) 1000))), (14, (.slice t.2.1 t.1.1.length t.2.2)), (15, (iv t.1.2))]) (fun n t w1 => St NoS w w1 [rowR enc_Tile A_p0 c_p0 p0] [rowO 24 enc_Tile A9350 c9351 t9345.1, rowO 24 enc_Tile A9556 c9557 t9551.1, rowO 24 enc_Tile A9762 c9763 t9757.1, rowO 24 enc_Tile t.2.1 t.2.2 t.1.1] ∧ law09_DecideTurned.l0 n t.1.1 t.1.2 p0 p1 = some x9819) k ((([] : List Tile), 0), none, 0) [0, 5, 7, 9, 11, 13, 14, 15] rfl ⟨(hS9811.subR [0]).sub [3, 2, 1, 0] (by decide), hx9820⟩ ?_
  rintro k9821 ⟨⟨l9814, x9815⟩, A9812, c9813⟩ w9822 ⟨hS9823, hl9824⟩
  cases k9821 with
  | zero => rw [law09_DecideTurned.l0] at hl9824; cases hl9824
  | succ k9821 =>
   rw [law09_DecideTurned.l0] at hl9824
   refine WC.seq ?_
   refine WC.seq ?_
   refine WC.region ?_
   refine seg 4 [] [0, 5, 7, 9, 11, 13, 14, 15, 64] [(0, (.slice A_p0 p0.length c_p0)), (5, (.bool t8957.1)), (7, (.slice A9350 t9345.1.length c9351)), (9, (.slice A9556 t9551.1.length c9557)), (11, (.slice A9762 t9757.1.length c9763)), (13, (iv (Int.tmod (w64 (p1)) 1000))), (14, (.slice A9812 l9814.length c9813)), (15, (iv x9815)), (64, (.bool (decide (x9815 < (p0.length : Int)))))] [] (fun fb => by kernel_rfl) rfl trivial ?_
   refine WL.done rfl ?_
   refine WX.next ?_
   rcases br_some hl9824 with ⟨h9825, hl9824⟩ | ⟨h9825, hl9824⟩
   ·refine WC.condT2 (fun fb => by kernel_rfl) h9825 ?_
    refine WC.skip ?_
    refine WX.next ?_
    refine WC.seq ?_
    refine WC.block ?_
    refine WC.seq ?_
    refine WC.region ?_
    refine seg 2 [] [0, 5, 7, 9, 11, 13, 14, 15, 67, 68] [(0, (.slice A_p0 p0.length c_p0)), (5, (.bool t8957.1)), (7, (.slice A9350 t9345.1.length c9351)), (9, (.slice A9556 t9551.1.length c9557)), (11, (.slice A9762 t9757.1.length c9763)), (13, (iv (Int.tmod (w64 (p1)) 1000))), (14, (.slice A9812 l9814.length c9813)), (15, (iv x9815)), (67, (.slice A_p0 p0.length c_p0)), (68, (iv x9815))] [] (fun fb => by kernel_rfl) rfl trivial ?_
    obtain ⟨h9826, hl9824⟩ := as_some hl9824
    refine seg 4 [.v (iv ((rdD p0 x9815 z_Tile).N)), .v (iv ((rdD p0 x9815 z_Tile).E)), .v (iv ((rdD p0 x9815 z_Tile).S)), .v (iv ((rdD p0 x9815 z_Tile).W))] [0, 5, 7, 9, 11, 13, 14, 15, 70] [(0, (.slice A_p0 p0.length c_p0)), (5, (.bool t8957.1)), (7, (.slice A9350 t9345.1.length c9351)), (9, (.slice A9556 t9551.1.length c9557)), (11, (.slice A9762 t9757.1.length c9763)), (13, (iv (Int.tmod (w64 (p1)) 1000))), (14, (.slice A9812 l9814.length c9813)), (15, (iv x9815)), (70, (.agg #[(iv ((rdD p0 x9815 z_Tile).N)), (iv ((rdD p0 x9815 z_Tile).E)), (iv ((rdD p0 x9815 z_Tile).S)), (iv ((rdD p0 x9815 z_Tile).W))]))] [.idx A_p0 x9815 p0.length, .cell ((adr A_p0).add ((x9815).toNat * 4)) (iv ((rdD p0 x9815 z_Tile).N)), .cell (((adr A_p0).add ((x9815).toNat * 4)).add 1) (iv ((rdD p0 x9815 z_Tile).E)), .cell (((adr A_p0).add ((x9815).toNat * 4)).add 2) (iv ((rdD p0 x9815 z_Tile).S)), .cell (((adr A_p0).add ((x9815).toNat * 4)).add 3) (iv ((rdD p0 x9815 z_Tile).W))] (fun fb => by kernel_rfl) rfl ⟨rowR.adr (hS9823.rd 0).1 h9826.1 h9826.2, rowR.cell (hS9823.rd 0).1 z_Tile h9826.1 h9826.2 0 rfl, rowR.cell (hS9823.rd 0).1 z_Tile h9826.1 h9826.2 1 rfl, rowR.cell (hS9823.rd 0).1 z_Tile h9826.1 h9826.2 2 rfl, rowR.cell (hS9823.rd 0).1 z_Tile h9826.1 h9826.2 3 rfl, trivial⟩ ?_
    refine WL.new hS9823 16 [] (fun g => (.pointer (some ⟨g, 0, none⟩))) (.cells #[(iv 0), (iv 0), (iv 0), (iv 0)] 24 (0, 0)) [] (fun fb g => by kernel_rfl) trivial (fun g9827 w9828 hS9829 => ?_)
    refine ⟨trivial, ?_⟩
    refine WL.store hS9829 0 rfl [(0, (iv ((rdD p0 x9815 z_Tile).N))), (1, (iv ((rdD p0 x9815 z_Tile).E))), (2, (iv ((rdD p0 x9815 z_Tile).S))), (3, (iv ((rdD p0 x9815 z_Tile).W)))] #[(iv ((rdD p0 x9815 z_Tile).N)), (iv ((rdD p0 x9815 z_Tile).E)), (iv ((rdD p0 x9815 z_Tile).S)), (iv ((rdD p0 x9815 z_Tile).W))] (fun fb => by kernel_rfl) (by kernel_rfl) rfl [1, 2, 3, 4] (by decide) (by decide) (fun w9831 hS9832 => ?_)
    refine ⟨trivial, ?_⟩
    refine WL.done rfl ?_
    refine WX.next ?_
    refine WC.region ?_
    refine seg 24 [.v (iv ((rdD p0 x9815 z_Tile).N)), .v (iv ((rdD p0 x9815 z_Tile).S)), .v (iv ((rdD p0 x9815 z_Tile).E)), .v (iv ((rdD p0 x9815 z_Tile).W))] [0, 5, 7, 9, 11, 13, 15, 71, 94] [(0, (.slice A_p0 p0.length c_p0)), (5, (.bool t8957.1)), (7, (.slice A9350 t9345.1.length c9351)), (9, (.slice A9556 t9551.1.length c9557)), (11, (.slice A9762 t9757.1.length c9763)), (13, (iv (Int.tmod (w64 (p1)) 1000))), (15, (iv x9815)), (71, (.slice A9812 l9814.length c9813)), (94, (.agg #[(iv (Int.tmod (w64 (((rdD p0 x9815 z_Tile).N) + (Int.tmod (w64 (p1)) 1000))) 1000)), (iv (Int.tmod (w64 (((rdD p0 x9815 z_Tile).E) + (w64 (2 * (Int.tmod (w64 (p1)) 1000))))) 1000)), (iv (Int.tmod (w64 (((rdD p0 x9815 z_Tile).S) + (Int.tmod (w64 (p1)) 1000))) 1000)), (iv (Int.tmod (w64 (((rdD p0 x9815 z_Tile).W) + (w64 (2 * (Int.tmod (w64 (p1)) 1000))))) 1000))]))] [.cell ⟨g9827, 0, none⟩ (iv ((rdD p0 x9815 z_Tile).N)), .ne 1000, .cell ⟨g9827, 2, none⟩ (iv ((rdD p0 x9815 z_Tile).S)), .ne 1000, .cell ⟨g9827, 1, none⟩ (iv ((rdD p0 x9815 z_Tile).E)), .ne 1000, .cell ⟨g9827, 3, none⟩ (iv ((rdD p0 x9815 z_Tile).W)), .ne 1000] (fun fb => by kernel_rfl) rfl ⟨hS9832.cell 0 rfl 0 rfl, (by decide), hS9832.cell 0 rfl 2 rfl, (by decide), hS9832.cell 0 rfl 1 rfl, (by decide), hS9832.cell 0 rfl 3 rfl, (by decide), trivial⟩ ?_
    refine WL.new hS9832 95 [] (fun g => (.slice (some ⟨g, 0, none⟩) 1 1)) (.cells #[(iv (Int.tmod (w64 (((rdD p0 x9815 z_Tile).N) + (Int.tmod (w64 (p1)) 1000))) 1000)), (iv (Int.tmod (w64 (((rdD p0 x9815 z_Tile).E) + (w64 (2 * (Int.tmod (w64 (p1)) 1000))))) 1000)), (iv (Int.tmod (w64 (((rdD p0 x9815 z_Tile).S) + (Int.tmod (w64 (p1)) 1000))) 1000)), (iv (Int.tmod (w64 (((rdD p0 x9815 z_Tile).W) + (w64 (2 * (Int.tmod (w64 (p1)) 1000))))) 1000))] 24 (0, 0)) [] (fun fb g => by kernel_rfl) trivial (fun g9833 w9834 hS9835 => ?_)
    refine ⟨trivial, ?_⟩
    have hS9837 : St NoS w w9834 [rowR enc_Tile A_p0 c_p0 p0] [rowO 24 enc_Tile (some ⟨g9833, 0, none⟩) 1 [(Tile.mk (Int.tmod (w64 (((rdD p0 x9815 z_Tile).N) + (Int.tmod (w64 (p1)) 1000))) 1000) (Int.tmod (w64 (((rdD p0 x9815 z_Tile).E) + (w64 (2 * (Int.tmod (w64 (p1)) 1000))))) 1000) (Int.tmod (w64 (((rdD p0 x9815 z_Tile).S) + (Int.tmod (w64 (p1)) 1000))) 1000) (Int.tmod (w64 (((rdD p0 x9815 z_Tile).W) + (w64 (2 * (Int.tmod (w64 (p1)) 1000))))) 1000))], blk g9827 (.cells #[(iv ((rdD p0 x9815 z_Tile).N)), (iv ((rdD p0 x9815 z_Tile).E)), (iv ((rdD p0 x9815 z_Tile).S)), (iv ((rdD p0 x9815 z_Tile).W))] 24 (0, 0)), rowO 24 enc_Tile A9350 c9351 t9345.1, rowO 24 enc_Tile A9556 c9557 t9551.1, rowO 24 enc_Tile A9762 c9763 t9757.1, rowO 24 enc_Tile A9812 c9813 l9814] := hS9835.map1 0 _ (fun h => rowO.ofBlk h rfl (Nat.le_of_ble_eq_true (by kernel_rfl))) (fun _ h => by obtain ⟨_, h1, h2⟩ := h; injection h1 with h1; subst h1; exact h2) [1, 2, 3, 4, 5] (by decide) (by decide)
    obtain ⟨h9838, hl9824⟩ := as_some hl9824
    refine WL.append hS9837 5 (d := 96) (tS := 22) (z := (.agg #[(iv 0), (iv 0), (iv 0), (iv 0)])) (bytes := 32) (c2 := 1) rfl (fun fb => by kernel_rfl) (rowO.rd (hS9837.own 0).1) (by kernel_rfl) (by kernel_rfl) rfl (by decide) h9838 (by decide) [0, 1, 2, 3, 4] (by decide) (by decide) (fun A9839 c9840 w9841 hS9842 => ?_)
    refine ⟨trivial, ?_⟩
    refine seg 27 [] [0, 5, 7, 9, 11, 13, 14, 15] [(0, (.slice A_p0 p0.length c_p0)), (5, (.bool t8957.1)), (7, (.slice A9350 t9345.1.length c9351)), (9, (.slice A9556 t9551.1.length c9557)), (11, (.slice A9762 t9757.1.length c9763)), (13, (iv (Int.tmod (w64 (p1)) 1000))), (14, (.slice A9839 (l9814 ++ [(Tile.mk (Int.tmod (w64 (((rdD p0 x9815 z_Tile).N) + (Int.tmod (w64 (p1)) 1000))) 1000) (Int.tmod (w64 (((rdD p0 x9815 z_Tile).E) + (w64 (2 * (Int.tmod (w64 (p1)) 1000))))) 1000) (Int.tmod (w64 (((rdD p0 x9815 z_Tile).S) + (Int.tmod (w64 (p1)) 1000))) 1000) (Int.tmod (w64 (((rdD p0 x9815 z_Tile).W) + (w64 (2 * (Int.tmod (w64 (p1)) 1000))))) 1000))]).length c9840)), (15, (iv x9815))] [] (fun fb => by kernel_rfl) rfl trivial ?_
    refine WL.done rfl ?_
    refine WX.blockN (WX.next ?_)
    refine WC.region ?_
    refine seg 3 [] [0, 5, 7, 9, 11, 13, 14, 15] [(0, (.slice A_p0 p0.length c_p0)), (5, (.bool t8957.1)), (7, (.slice A9350 t9345.1.length c9351)), (9, (.slice A9556 t9551.1.length c9557)), (11, (.slice A9762 t9757.1.length c9763)), (13, (iv (Int.tmod (w64 (p1)) 1000))), (14, (.slice A9839 (l9814 ++ [(Tile.mk (Int.tmod (w64 (((rdD p0 x9815 z_Tile).N) + (Int.tmod (w64 (p1)) 1000))) 1000) (Int.tmod (w64 (((rdD p0 x9815 z_Tile).E) + (w64 (2 * (Int.tmod (w64 (p1)) 1000))))) 1000) (Int.tmod (w64 (((rdD p0 x9815 z_Tile).S) + (Int.tmod (w64 (p1)) 1000))) 1000) (Int.tmod (w64 (((rdD p0 x9815 z_Tile).W) + (w64 (2 * (Int.tmod (w64 (p1)) 1000))))) 1000))]).length c9840)), (15, (iv (w64 (x9815 + 1))))] [] (fun fb => by kernel_rfl) rfl trivial ?_
    refine WL.done rfl ?_
    exact WX.again k9821 (Nat.lt_succ_self _) ((l9814 ++ [(Tile.mk (Int.tmod (w64 (((rdD p0 x9815 z_Tile).N) + (Int.tmod (w64 (p1)) 1000))) 1000) (Int.tmod (w64 (((rdD p0 x9815 z_Tile).E) + (w64 (2 * (Int.tmod (w64 (p1)) 1000))))) 1000) (Int.tmod (w64 (((rdD p0 x9815 z_Tile).S) + (Int.tmod (w64 (p1)) 1000))) 1000) (Int.tmod (w64 (((rdD p0 x9815 z_Tile).W) + (w64 (2 * (Int.tmod (w64 (p1)) 1000))))) 1000))], w64 (x9815 + 1)), A9839, c9840) [0, 5, 7, 9, 11, 13, 14, 15] rfl ⟨(hS9842.subR [0]).sub [3, 4, 5, 0] (by decide), hl9824⟩
   refine WC.condF2 (fun fb => by kernel_rfl) h9825 ?_
   refine WC.exit ?_
   injection hl9824 with hl9824
   exact WX.thenX (WX.thenX (WX.blockHere (WX.to Kx9819 (l9814, A9812, c9813) [5, 7, 9, 11, 14] rfl ⟨(hS9823.subR [0]).sub [0, 1, 2, 3] (by decide), hl9824.symm⟩)))
 rintro ⟨y9846, A9816, c9817⟩ w9843 ⟨hS9844, hq9845⟩
 subst hq9845
 refine WX.next ?_
 refine WC.seq ?_
 refine WC.region ?_
 refine seg 1 [] [5, 9, 11, 14, 98] [(5, (.bool t8957.1)), (9, (.slice A9556 t9551.1.length c9557)), (11, (.slice A9762 t9757.1.length c9763)), (14, (.slice A9816 x9819.length c9817)), (98, (.slice A9350 t9345.1.length c9351))] [] (fun fb => by kernel_rfl) rfl trivial ?_
 obtain ⟨t9847, ht9848, hf⟩ := bind_some hf
 refine WL.call (some 99) 11 #[(.slice A9350 t9345.1.length c9351)] (fun fb => by kernel_rfl) (decide_Fills_calls _ t9345.1 A9350 c9351 t9847 _ (hS9844.ow 0).ofO ht9848) (fun v w9849 hR9850 => ?_)
 obtain ⟨rfl, hk_⟩ := hR9850
 have hS9851 := hS9844.keepN hk_
 refine ⟨trivial, ?_⟩
 refine seg 7 [] [5, 9, 11, 14, 17, 18] [(5, (.bool t8957.1)), (9, (.slice A9556 t9551.1.length c9557)), (11, (.slice A9762 t9757.1.length c9763)), (14, (.slice A9816 x9819.length c9817)), (17, (.bool t9847.1)), (18, (iv t9847.2))] [] (fun fb => by kernel_rfl) rfl trivial ?_
 refine WL.done rfl ?_
 refine WX.next ?_
 refine WC.seq ?_
 refine WC.region ?_
 refine seg 1 [] [5, 11, 14, 17, 18, 103] [(5, (.bool t8957.1)), (11, (.slice A9762 t9757.1.length c9763)), (14, (.slice A9816 x9819.length c9817)), (17, (.bool t9847.1)), (18, (iv t9847.2)), (103, (.slice A9556 t9551.1.length c9557))] [] (fun fb => by kernel_rfl) rfl trivial ?_
 obtain ⟨t9852, ht9853, hf⟩ := bind_some hf
 refine WL.call (some 104) 11 #[(.slice A9556 t9551.1.length c9557)] (fun fb => by kernel_rfl) (decide_Fills_calls _ t9551.1 A9556 c9557 t9852 _ (hS9851.ow 1).ofO ht9853) (fun v w9854 hR9855 => ?_)
 obtain ⟨rfl, hk_⟩ := hR9855
 have hS9856 := hS9851.keepN hk_
 refine ⟨trivial, ?_⟩
 refine seg 7 [] [5, 11, 14, 17, 18, 19, 20] [(5, (.bool t8957.1)), (11, (.slice A9762 t9757.1.length c9763)), (14, (.slice A9816 x9819.length c9817)), (17, (.bool t9847.1)), (18, (iv t9847.2)), (19, (.bool t9852.1)), (20, (iv t9852.2))] [] (fun fb => by kernel_rfl) rfl trivial ?_
 refine WL.done rfl ?_
 refine WX.next ?_
 refine WC.seq ?_
 refine WC.region ?_
 refine seg 1 [] [5, 14, 17, 18, 19, 20, 108] [(5, (.bool t8957.1)), (14, (.slice A9816 x9819.length c9817)), (17, (.bool t9847.1)), (18, (iv t9847.2)), (19, (.bool t9852.1)), (20, (iv t9852.2)), (108, (.slice A9762 t9757.1.length c9763))] [] (fun fb => by kernel_rfl) rfl trivial ?_
 obtain ⟨t9857, ht9858, hf⟩ := bind_some hf
 refine WL.call (some 109) 11 #[(.slice A9762 t9757.1.length c9763)] (fun fb => by kernel_rfl) (decide_Fills_calls _ t9757.1 A9762 c9763 t9857 _ (hS9856.ow 2).ofO ht9858) (fun v w9859 hR9860 => ?_)
 obtain ⟨rfl, hk_⟩ := hR9860
 have hS9861 := hS9856.keepN hk_
 refine ⟨trivial, ?_⟩
 refine seg 7 [] [5, 14, 17, 18, 19, 20, 21, 22] [(5, (.bool t8957.1)), (14, (.slice A9816 x9819.length c9817)), (17, (.bool t9847.1)), (18, (iv t9847.2)), (19, (.bool t9852.1)), (20, (iv t9852.2)), (21, (.bool t9857.1)), (22, (iv t9857.2))] [] (fun fb => by kernel_rfl) rfl trivial ?_
 refine WL.done rfl ?_
 refine WX.next ?_
 refine WC.seq ?_
 refine WC.region ?_
 refine seg 1 [] [5, 17, 18, 19, 20, 21, 22, 113] [(5, (.bool t8957.1)), (17, (.bool t9847.1)), (18, (iv t9847.2)), (19, (.bool t9852.1)), (20, (iv t9852.2)), (21, (.bool t9857.1)), (22, (iv t9857.2)), (113, (.slice A9816 x9819.length c9817))] [] (fun fb => by kernel_rfl) rfl trivial ?_
 obtain ⟨t9862, ht9863, hf⟩ := bind_some hf
 refine WL.call (some 114) 11 #[(.slice A9816 x9819.length c9817)] (fun fb => by kernel_rfl) (decide_Fills_calls _ x9819 A9816 c9817 t9862 _ (hS9861.ow 3).ofO ht9863) (fun v w9864 hR9865 => ?_)
 obtain ⟨rfl, hk_⟩ := hR9865
 have hS9866 := hS9861.keepN hk_
 refine ⟨trivial, ?_⟩
 refine seg 7 [] [5, 17, 18, 19, 20, 21, 22, 23, 24] [(5, (.bool t8957.1)), (17, (.bool t9847.1)), (18, (iv t9847.2)), (19, (.bool t9852.1)), (20, (iv t9852.2)), (21, (.bool t9857.1)), (22, (iv t9857.2)), (23, (.bool t9862.1)), (24, (iv t9862.2))] [] (fun fb => by kernel_rfl) rfl trivial ?_
 refine WL.done rfl ?_
 refine WX.next ?_
 refine WC.seq ?_
 refine WC.region ?_
 refine seg 3 [] [5, 17, 19, 20, 21, 22, 23, 24, 119] [(5, (.bool t8957.1)), (17, (.bool t9847.1)), (19, (.bool t9852.1)), (20, (iv t9852.2)), (21, (.bool t9857.1)), (22, (iv t9857.2)), (23, (.bool t9862.1)), (24, (iv t9862.2)), (119, (.bool (t9847.2 == 0)))] [] (fun fb => by kernel_rfl) rfl trivial ?_
 refine WL.cutV (T := Bool) 6 (fun t => [(122, (.bool t)), (5, (.bool t8957.1)), (17, (.bool t9847.1)), (19, (.bool t9852.1)), (21, (.bool t9857.1)), (22, (iv t9857.2)), (23, (.bool t9862.1)), (24, (iv t9862.2))]) (fun t => ((t9847.2 == 0) && (t9852.2 == 0)) = t) (fun K => ?_) ?_
 ·
  rcases Bool.eq_false_or_eq_true (t9847.2 == 0) with h9867 | h9867
  ·
   refine WL.setB 119 h9867 rfl ?_
   refine seg 6 [] [5, 17, 19, 21, 22, 23, 24, 122] [(5, (.bool t8957.1)), (17, (.bool t9847.1)), (19, (.bool t9852.1)), (21, (.bool t9857.1)), (22, (iv t9857.2)), (23, (.bool t9862.1)), (24, (iv t9862.2)), (122, (.bool (t9852.2 == 0)))] [] (fun fb => by kernel_rfl) rfl trivial ?_
   exact WL.toV K (t9852.2 == 0) [122, 5, 17, 19, 21, 22, 23, 24] rfl (by first | (rw [h9867]; done) | (rw [h9867]; rfl))
  refine WL.setB 119 h9867 rfl ?_
  refine seg 6 [] [5, 17, 19, 21, 22, 23, 24, 122] [(5, (.bool t8957.1)), (17, (.bool t9847.1)), (19, (.bool t9852.1)), (21, (.bool t9857.1)), (22, (iv t9857.2)), (23, (.bool t9862.1)), (24, (iv t9862.2)), (122, (.bool false))] [] (fun fb => by kernel_rfl) rfl trivial ?_
  exact WL.toV K false [122, 5, 17, 19, 21, 22, 23, 24] rfl (by first | (rw [h9867]; done) | (rw [h9867]; rfl))
 rintro b9868 rfl
 refine seg 7 [] [5, 17, 19, 21, 22, 23, 24, 123] [(5, (.bool t8957.1)), (17, (.bool t9847.1)), (19, (.bool t9852.1)), (21, (.bool t9857.1)), (22, (iv t9857.2)), (23, (.bool t9862.1)), (24, (iv t9862.2)), (123, (.bool ((t9847.2 == 0) && (t9852.2 == 0))))] [] (fun fb => by kernel_rfl) rfl trivial ?_
 refine WL.cutV (T := Bool) 10 (fun t => [(126, (.bool t)), (5, (.bool t8957.1)), (17, (.bool t9847.1)), (19, (.bool t9852.1)), (21, (.bool t9857.1)), (23, (.bool t9862.1)), (24, (iv t9862.2))]) (fun t => (((t9847.2 == 0) && (t9852.2 == 0)) && (t9857.2 == 0)) = t) (fun K => ?_) ?_
 ·
  rcases Bool.eq_false_or_eq_true ((t9847.2 == 0) && (t9852.2 == 0)) with h9869 | h9869
  ·
   refine WL.setB 123 h9869 rfl ?_
   refine seg 10 [] [5, 17, 19, 21, 23, 24, 126] [(5, (.bool t8957.1)), (17, (.bool t9847.1)), (19, (.bool t9852.1)), (21, (.bool t9857.1)), (23, (.bool t9862.1)), (24, (iv t9862.2)), (126, (.bool (t9857.2 == 0)))] [] (fun fb => by kernel_rfl) rfl trivial ?_
   exact WL.toV K (t9857.2 == 0) [126, 5, 17, 19, 21, 23, 24] rfl (by first | (rw [h9869]; done) | (rw [h9869]; rfl))
  refine WL.setB 123 h9869 rfl ?_
  refine seg 10 [] [5, 17, 19, 21, 23, 24, 126] [(5, (.bool t8957.1)), (17, (.bool t9847.1)), (19, (.bool t9852.1)), (21, (.bool t9857.1)), (23, (.bool t9862.1)), (24, (iv t9862.2)), (126, (.bool false))] [] (fun fb => by kernel_rfl) rfl trivial ?_
  exact WL.toV K false [126, 5, 17, 19, 21, 23, 24] rfl (by first | (rw [h9869]; done) | (rw [h9869]; rfl))
 rintro b9870 rfl
 refine seg 11 [] [5, 17, 19, 21, 23, 24, 127] [(5, (.bool t8957.1)), (17, (.bool t9847.1)), (19, (.bool t9852.1)), (21, (.bool t9857.1)), (23, (.bool t9862.1)), (24, (iv t9862.2)), (127, (.bool (((t9847.2 == 0) && (t9852.2 == 0)) && (t9857.2 == 0))))] [] (fun fb => by kernel_rfl) rfl trivial ?_
 refine WL.cutV (T := Bool) 14 (fun t => [(130, (.bool t)), (5, (.bool t8957.1)), (17, (.bool t9847.1)), (19, (.bool t9852.1)), (21, (.bool t9857.1)), (23, (.bool t9862.1))]) (fun t => ((((t9847.2 == 0) && (t9852.2 == 0)) && (t9857.2 == 0)) && (t9862.2 == 0)) = t) (fun K => ?_) ?_
 ·
  rcases Bool.eq_false_or_eq_true (((t9847.2 == 0) && (t9852.2 == 0)) && (t9857.2 == 0)) with h9871 | h9871
  ·
   refine WL.setB 127 h9871 rfl ?_
   refine seg 14 [] [5, 17, 19, 21, 23, 130] [(5, (.bool t8957.1)), (17, (.bool t9847.1)), (19, (.bool t9852.1)), (21, (.bool t9857.1)), (23, (.bool t9862.1)), (130, (.bool (t9862.2 == 0)))] [] (fun fb => by kernel_rfl) rfl trivial ?_
   exact WL.toV K (t9862.2 == 0) [130, 5, 17, 19, 21, 23] rfl (by first | (rw [h9871]; done) | (rw [h9871]; rfl))
  refine WL.setB 127 h9871 rfl ?_
  refine seg 14 [] [5, 17, 19, 21, 23, 130] [(5, (.bool t8957.1)), (17, (.bool t9847.1)), (19, (.bool t9852.1)), (21, (.bool t9857.1)), (23, (.bool t9862.1)), (130, (.bool false))] [] (fun fb => by kernel_rfl) rfl trivial ?_
  exact WL.toV K false [130, 5, 17, 19, 21, 23] rfl (by first | (rw [h9871]; done) | (rw [h9871]; rfl))
 rintro b9872 rfl
 refine seg 15 [] [5, 17, 19, 21, 23, 131] [(5, (.bool t8957.1)), (17, (.bool t9847.1)), (19, (.bool t9852.1)), (21, (.bool t9857.1)), (23, (.bool t9862.1)), (131, (.bool ((((t9847.2 == 0) && (t9852.2 == 0)) && (t9857.2 == 0)) && (t9862.2 == 0))))] [] (fun fb => by kernel_rfl) rfl trivial ?_
 refine WL.cutV (T := Bool) 19 (fun t => [(135, (.bool t)), (5, (.bool t8957.1)), (19, (.bool t9852.1)), (21, (.bool t9857.1)), (23, (.bool t9862.1))]) (fun t => (((((t9847.2 == 0) && (t9852.2 == 0)) && (t9857.2 == 0)) && (t9862.2 == 0)) && (t9847.1 == t8957.1)) = t) (fun K => ?_) ?_
 ·
  rcases Bool.eq_false_or_eq_true ((((t9847.2 == 0) && (t9852.2 == 0)) && (t9857.2 == 0)) && (t9862.2 == 0)) with h9873 | h9873
  ·
   refine WL.setB 131 h9873 rfl ?_
   refine seg 19 [] [5, 19, 21, 23, 135] [(5, (.bool t8957.1)), (19, (.bool t9852.1)), (21, (.bool t9857.1)), (23, (.bool t9862.1)), (135, (.bool (t9847.1 == t8957.1)))] [] (fun fb => by kernel_rfl) rfl trivial ?_
   exact WL.toV K (t9847.1 == t8957.1) [135, 5, 19, 21, 23] rfl (by first | (rw [h9873]; done) | (rw [h9873]; rfl))
  refine WL.setB 131 h9873 rfl ?_
  refine seg 19 [] [5, 19, 21, 23, 135] [(5, (.bool t8957.1)), (19, (.bool t9852.1)), (21, (.bool t9857.1)), (23, (.bool t9862.1)), (135, (.bool false))] [] (fun fb => by kernel_rfl) rfl trivial ?_
  exact WL.toV K false [135, 5, 19, 21, 23] rfl (by first | (rw [h9873]; done) | (rw [h9873]; rfl))
 rintro b9874 rfl
 refine seg 20 [] [5, 19, 21, 23, 136] [(5, (.bool t8957.1)), (19, (.bool t9852.1)), (21, (.bool t9857.1)), (23, (.bool t9862.1)), (136, (.bool (((((t9847.2 == 0) && (t9852.2 == 0)) && (t9857.2 == 0)) && (t9862.2 == 0)) && (t9847.1 == t8957.1))))] [] (fun fb => by kernel_rfl) rfl trivial ?_
 refine WL.cutV (T := Bool) 24 (fun t => [(140, (.bool t)), (5, (.bool t8957.1)), (21, (.bool t9857.1)), (23, (.bool t9862.1))]) (fun t => ((((((t9847.2 == 0) && (t9852.2 == 0)) && (t9857.2 == 0)) && (t9862.2 == 0)) && (t9847.1 == t8957.1)) && (t9852.1 == t8957.1)) = t) (fun K => ?_) ?_
 ·
  rcases Bool.eq_false_or_eq_true (((((t9847.2 == 0) && (t9852.2 == 0)) && (t9857.2 == 0)) && (t9862.2 == 0)) && (t9847.1 == t8957.1)) with h9875 | h9875
  ·
   refine WL.setB 136 h9875 rfl ?_
   refine seg 24 [] [5, 21, 23, 140] [(5, (.bool t8957.1)), (21, (.bool t9857.1)), (23, (.bool t9862.1)), (140, (.bool (t9852.1 == t8957.1)))] [] (fun fb => by kernel_rfl) rfl trivial ?_
   exact WL.toV K (t9852.1 == t8957.1) [140, 5, 21, 23] rfl (by first | (rw [h9875]; done) | (rw [h9875]; rfl))
  refine WL.setB 136 h9875 rfl ?_
  refine seg 24 [] [5, 21, 23, 140] [(5, (.bool t8957.1)), (21, (.bool t9857.1)), (23, (.bool t9862.1)), (140, (.bool false))] [] (fun fb => by kernel_rfl) rfl trivial ?_
  exact WL.toV K false [140, 5, 21, 23] rfl (by first | (rw [h9875]; done) | (rw [h9875]; rfl))
 rintro b9876 rfl
 refine seg 25 [] [5, 21, 23, 141] [(5, (.bool t8957.1)), (21, (.bool t9857.1)), (23, (.bool t9862.1)), (141, (.bool ((((((t9847.2 == 0) && (t9852.2 == 0)) && (t9857.2 == 0)) && (t9862.2 == 0)) && (t9847.1 == t8957.1)) && (t9852.1 == t8957.1))))] [] (fun fb => by kernel_rfl) rfl trivial ?_
 refine WL.cutV (T := Bool) 29 (fun t => [(145, (.bool t)), (5, (.bool t8957.1)), (23, (.bool t9862.1))]) (fun t => (((((((t9847.2 == 0) && (t9852.2 == 0)) && (t9857.2 == 0)) && (t9862.2 == 0)) && (t9847.1 == t8957.1)) && (t9852.1 == t8957.1)) && (t9857.1 == t8957.1)) = t) (fun K => ?_) ?_
 ·
  rcases Bool.eq_false_or_eq_true ((((((t9847.2 == 0) && (t9852.2 == 0)) && (t9857.2 == 0)) && (t9862.2 == 0)) && (t9847.1 == t8957.1)) && (t9852.1 == t8957.1)) with h9877 | h9877
  ·
   refine WL.setB 141 h9877 rfl ?_
   refine seg 29 [] [5, 23, 145] [(5, (.bool t8957.1)), (23, (.bool t9862.1)), (145, (.bool (t9857.1 == t8957.1)))] [] (fun fb => by kernel_rfl) rfl trivial ?_
   exact WL.toV K (t9857.1 == t8957.1) [145, 5, 23] rfl (by first | (rw [h9877]; done) | (rw [h9877]; rfl))
  refine WL.setB 141 h9877 rfl ?_
  refine seg 29 [] [5, 23, 145] [(5, (.bool t8957.1)), (23, (.bool t9862.1)), (145, (.bool false))] [] (fun fb => by kernel_rfl) rfl trivial ?_
  exact WL.toV K false [145, 5, 23] rfl (by first | (rw [h9877]; done) | (rw [h9877]; rfl))
 rintro b9878 rfl
 refine seg 30 [] [5, 23, 146] [(5, (.bool t8957.1)), (23, (.bool t9862.1)), (146, (.bool (((((((t9847.2 == 0) && (t9852.2 == 0)) && (t9857.2 == 0)) && (t9862.2 == 0)) && (t9847.1 == t8957.1)) && (t9852.1 == t8957.1)) && (t9857.1 == t8957.1))))] [] (fun fb => by kernel_rfl) rfl trivial ?_
 refine WL.cutV (T := Bool) 34 (fun t => [(150, (.bool t))]) (fun t => ((((((((t9847.2 == 0) && (t9852.2 == 0)) && (t9857.2 == 0)) && (t9862.2 == 0)) && (t9847.1 == t8957.1)) && (t9852.1 == t8957.1)) && (t9857.1 == t8957.1)) && (t9862.1 == t8957.1)) = t) (fun K => ?_) ?_
 ·
  rcases Bool.eq_false_or_eq_true (((((((t9847.2 == 0) && (t9852.2 == 0)) && (t9857.2 == 0)) && (t9862.2 == 0)) && (t9847.1 == t8957.1)) && (t9852.1 == t8957.1)) && (t9857.1 == t8957.1)) with h9879 | h9879
  ·
   refine WL.setB 146 h9879 rfl ?_
   refine seg 34 [] [150] [(150, (.bool (t9862.1 == t8957.1)))] [] (fun fb => by kernel_rfl) rfl trivial ?_
   exact WL.toV K (t9862.1 == t8957.1) [150] rfl (by first | (rw [h9879]; done) | (rw [h9879]; rfl))
  refine WL.setB 146 h9879 rfl ?_
  refine seg 34 [] [150] [(150, (.bool false))] [] (fun fb => by kernel_rfl) rfl trivial ?_
  exact WL.toV K false [150] rfl (by first | (rw [h9879]; done) | (rw [h9879]; rfl))
 rintro b9880 rfl
 refine seg 35 [] [151] [(151, (.bool ((((((((t9847.2 == 0) && (t9852.2 == 0)) && (t9857.2 == 0)) && (t9862.2 == 0)) && (t9847.1 == t8957.1)) && (t9852.1 == t8957.1)) && (t9857.1 == t8957.1)) && (t9862.1 == t8957.1))))] [] (fun fb => by kernel_rfl) rfl trivial ?_
 obtain ⟨x9887, hx9888, hf⟩ := bind_some hf
 refine WL.cutW (T := Bool) 37 (fun t => [(153, (.bool t))]) (fun t w1 => (St NoS w w1 [rowR enc_Tile A_p0 c_p0 p0] [] ∧ x9887 = t) ∧ CellsOK [] w1) (fun K => ?_) ?_
 ·
  rcases br_some hx9888 with ⟨h9889, hx9888⟩ | ⟨h9889, hx9888⟩
  ·
   refine WL.setB 151 h9889 rfl ?_
   obtain ⟨t9890, ht9891, hx9888⟩ := bind_some hx9888
   refine WL.call (some 152) 14 #[] (fun fb => by kernel_rfl) (law09_awake_calls _ t9890 _ ht9891) (fun v w9892 hR9893 => ?_)
   obtain ⟨rfl, hk_⟩ := hR9893
   have hS9894 := hS9866.keepN hk_
   refine ⟨trivial, ?_⟩
   refine seg 37 [] [153] [(153, (.bool t9890))] [] (fun fb => by kernel_rfl) rfl trivial ?_
   injection hx9888 with hx9888
   exact WL.to K t9890 [153] rfl ⟨⟨(hS9894.subR [0]).sub [] (by decide), hx9888.symm⟩, trivial⟩
  refine WL.setB 151 h9889 rfl ?_
  refine seg 37 [] [153] [(153, (.bool false))] [] (fun fb => by kernel_rfl) rfl trivial ?_
  injection hx9888 with hx9888
  exact WL.to K false [153] rfl ⟨⟨(hS9866.subR [0]).sub [] (by decide), hx9888.symm⟩, trivial⟩
 rintro y9895 w9897 ⟨⟨hS9898, hq9896⟩, hF9899⟩
 subst hq9896
 refine seg 38 [] [4] [(4, (.bool x9887))] [] (fun fb => by kernel_rfl) rfl trivial ?_
 refine WL.done rfl ?_
 refine WX.next ?_
 refine WC.ret ?_
 injection hf with hf
 subst hf
 exact WX.ret_ [] (.bool x9887) [] (fun fb => by kernel_rfl) trivial ⟨_, rfl, rfl, hS9898.keep⟩
end Gp
