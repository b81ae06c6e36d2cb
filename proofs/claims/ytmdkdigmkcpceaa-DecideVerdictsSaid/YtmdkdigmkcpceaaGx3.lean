/- Walks: each function of the program computes its plain function. -/
import Derived.Test.YtmdkdigmkcpceaaGx2
set_option linter.unusedVariables false
set_option linter.unusedSimpArgs false
set_option maxHeartbeats 4000000
namespace Gp
open Go Gw Go.Proofs
theorem law09_awake_calls (k : Nat)   (r : Bool) (w : World)  (hf : law09_awake k = some r) :
  CallsR Try.prog 14 #[] w (fun v w' => v = (.bool r) ∧ Keeps NoS w w') := by
 have hS : St NoS w w [] [] := St.init (ro_nil _ _)
 refine enter 63 Try.func14 rfl Try.ntmps14 rfl ?_
 unfold law09_awake at hf
 refine WC.seq ?_
 refine WC.region ?_
 refine seg 1 [] [] [] [] (fun fb => by kernel_rfl) rfl trivial ?_
 refine WL.done rfl ?_
 refine WX.next ?_
 refine WC.seq ?_
 refine WC.region ?_
 refine seg 1 [] [8] [(8, (.agg #[(iv 0), (iv 0), (iv 1), (iv 0)]))] [] (fun fb => by kernel_rfl) rfl trivial ?_
 refine WL.new hS 9 [] (fun g => (.slice (some ⟨g, 0, none⟩) 1 1)) (.cells #[(iv 0), (iv 0), (iv 1), (iv 0)] 24 (0, 0)) [] (fun fb g => by kernel_rfl) trivial (fun g2 w3 hS4 => ?_)
 refine ⟨trivial, ?_⟩
 have hS6 : St NoS w w3 [] [rowO 24 enc_Tile (some ⟨g2, 0, none⟩) 1 [(Tile.mk 0 0 1 0)]] := hS4.map1 0 _ (fun h => rowO.ofBlk h rfl (Nat.le_of_ble_eq_true (by kernel_rfl))) (fun _ h => by obtain ⟨_, h1, h2⟩ := h; injection h1 with h1; subst h1; exact h2) [] (by decide) (by decide)
 obtain ⟨t8950, ht8951, hf⟩ := bind_some hf
 refine WL.call (some 10) 22 #[(.slice (some ⟨g2, 0, none⟩) [(Tile.mk 0 0 1 0)].length 1)] (fun fb => by kernel_rfl) (decide_Decide_calls _ [(Tile.mk 0 0 1 0)] (some ⟨g2, 0, none⟩) 1 t8950 _ (hS6.ow 0).ofO ht8951) (fun v w8952 hR8953 => ?_)
 obtain ⟨A8955, c8956, rfl, hk_⟩ := hR8953
 have hS8954 : St NoS w w8952 [] [rowO 3 encInt A8955 c8956 t8950.1.Torus.Cells, rowO 24 enc_Tile (some ⟨g2, 0, none⟩) 1 [(Tile.mk 0 0 1 0)]] := hS6.call hk_ [] [0] (fun g hg => hg.elim) (by simp) (by decide)
 refine ⟨trivial, ?_⟩
 refine seg 6 [] [11, 12] [(11, (.agg #[(.bool t8950.1.Fills), (iv t8950.1.Torus.Width), (iv t8950.1.Torus.Height), (.slice A8955 t8950.1.Torus.Cells.length c8956), (iv t8950.1.Side)])), (12, (iv t8950.2))] [] (fun fb => by kernel_rfl) rfl trivial ?_
 refine WL.new hS8954 1 [] (fun g => (.pointer (some ⟨g, 0, none⟩))) (.cells #[(.bool false), (iv 0), (iv 0), (.slice none 0 0), (iv 0)] 40 (0, 0)) [] (fun fb g => by kernel_rfl) trivial (fun g8957 w8958 hS8959 => ?_)
 refine ⟨trivial, ?_⟩
 refine WL.store hS8959 0 rfl [(0, (.bool t8950.1.Fills)), (1, (iv t8950.1.Torus.Width)), (2, (iv t8950.1.Torus.Height)), (3, (.slice A8955 t8950.1.Torus.Cells.length c8956)), (4, (iv t8950.1.Side))] #[(.bool t8950.1.Fills), (iv t8950.1.Torus.Width), (iv t8950.1.Torus.Height), (.slice A8955 t8950.1.Torus.Cells.length c8956), (iv t8950.1.Side)] (fun fb => by kernel_rfl) (by kernel_rfl) rfl [1, 2] (by decide) (by decide) (fun w8961 hS8962 => ?_)
 refine ⟨trivial, ?_⟩
 refine seg 9 [] [1, 2] [(1, (pt g8957)), (2, (iv t8950.2))] [] (fun fb => by kernel_rfl) rfl trivial ?_
 refine WL.done rfl ?_
 refine WX.next ?_
 refine WC.seq ?_
 refine WC.region ?_
 obtain ⟨t8968, ht8969, hf⟩ := bind_some hf
 refine WL.call (some 14) 36 #[] (fun fb => by kernel_rfl) (law09_chess_calls t8968 _ ht8969) (fun v w8970 hR8971 => ?_)
 obtain ⟨A8973, c8974, rfl, hk_⟩ := hR8971
 have hS8972 : St NoS w w8970 [] [rowO 24 enc_Tile A8973 c8974 t8968, blk g8957 (.cells #[(.bool t8950.1.Fills), (iv t8950.1.Torus.Width), (iv t8950.1.Torus.Height), (.slice A8955 t8950.1.Torus.Cells.length c8956), (iv t8950.1.Side)] 40 (0, 0)), rowO 3 encInt A8955 c8956 t8950.1.Torus.Cells, rowO 24 enc_Tile (some ⟨g2, 0, none⟩) 1 [(Tile.mk 0 0 1 0)]] := hS8962.call hk_ [] [0, 1, 2] (fun g hg => hg.elim) (by simp) (by decide)
 refine ⟨trivial, ?_⟩
 obtain ⟨t8975, ht8976, hf⟩ := bind_some hf
 refine WL.call (some 15) 22 #[(.slice A8973 t8968.length c8974)] (fun fb => by kernel_rfl) (decide_Decide_calls _ t8968 A8973 c8974 t8975 _ (hS8972.ow 0).ofO ht8976) (fun v w8977 hR8978 => ?_)
 obtain ⟨A8980, c8981, rfl, hk_⟩ := hR8978
 have hS8979 : St NoS w w8977 [] [rowO 3 encInt A8980 c8981 t8975.1.Torus.Cells, rowO 24 enc_Tile A8973 c8974 t8968, blk g8957 (.cells #[(.bool t8950.1.Fills), (iv t8950.1.Torus.Width), (iv t8950.1.Torus.Height), (.slice A8955 t8950.1.Torus.Cells.length c8956), (iv t8950.1.Side)] 40 (0, 0)), rowO 3 encInt A8955 c8956 t8950.1.Torus.Cells, rowO 24 enc_Tile (some ⟨g2, 0, none⟩) 1 [(Tile.mk 0 0 1 0)]] := hS8972.call hk_ [] [0, 1, 2, 3] (fun g hg => hg.elim) (by simp) (by decide)
 refine ⟨trivial, ?_⟩
 refine seg 5 [] [1, 2, 16, 17] [(1, (pt g8957)), (2, (iv t8950.2)), (16, (.agg #[(.bool t8975.1.Fills), (iv t8975.1.Torus.Width), (iv t8975.1.Torus.Height), (.slice A8980 t8975.1.Torus.Cells.length c8981), (iv t8975.1.Side)])), (17, (iv t8975.2))] [] (fun fb => by kernel_rfl) rfl trivial ?_
 refine WL.new hS8979 3 [] (fun g => (.pointer (some ⟨g, 0, none⟩))) (.cells #[(.bool false), (iv 0), (iv 0), (.slice none 0 0), (iv 0)] 40 (0, 0)) [] (fun fb g => by kernel_rfl) trivial (fun g8982 w8983 hS8984 => ?_)
 refine ⟨trivial, ?_⟩
 refine WL.store hS8984 0 rfl [(0, (.bool t8975.1.Fills)), (1, (iv t8975.1.Torus.Width)), (2, (iv t8975.1.Torus.Height)), (3, (.slice A8980 t8975.1.Torus.Cells.length c8981)), (4, (iv t8975.1.Side))] #[(.bool t8975.1.Fills), (iv t8975.1.Torus.Width), (iv t8975.1.Torus.Height), (.slice A8980 t8975.1.Torus.Cells.length c8981), (iv t8975.1.Side)] (fun fb => by kernel_rfl) (by kernel_rfl) rfl [1, 2, 3, 4, 5] (by decide) (by decide) (fun w8986 hS8987 => ?_)
 refine ⟨trivial, ?_⟩
 refine seg 8 [] [1, 2, 3, 4] [(1, (pt g8957)), (2, (iv t8950.2)), (3, (pt g8982)), (4, (iv t8975.2))] [] (fun fb => by kernel_rfl) rfl trivial ?_
 refine WL.done rfl ?_
 refine WX.next ?_
 refine WC.seq ?_
 refine WC.region ?_
 obtain ⟨t8988, ht8989, hf⟩ := bind_some hf
 refine WL.call (some 19) 22 #[(.slice none 0 0)] (fun fb => by kernel_rfl) (decide_Decide_calls _ ([] : List Tile) none 0 t8988 _ (RO.nilR _ _ _) ht8989) (fun v w8990 hR8991 => ?_)
 obtain ⟨A8993, c8994, rfl, hk_⟩ := hR8991
 have hS8992 : St NoS w w8990 [] [rowO 3 encInt A8993 c8994 t8988.1.Torus.Cells, blk g8982 (.cells #[(.bool t8975.1.Fills), (iv t8975.1.Torus.Width), (iv t8975.1.Torus.Height), (.slice A8980 t8975.1.Torus.Cells.length c8981), (iv t8975.1.Side)] 40 (0, 0)), rowO 3 encInt A8980 c8981 t8975.1.Torus.Cells, rowO 24 enc_Tile A8973 c8974 t8968, blk g8957 (.cells #[(.bool t8950.1.Fills), (iv t8950.1.Torus.Width), (iv t8950.1.Torus.Height), (.slice A8955 t8950.1.Torus.Cells.length c8956), (iv t8950.1.Side)] 40 (0, 0)), rowO 3 encInt A8955 c8956 t8950.1.Torus.Cells, rowO 24 enc_Tile (some ⟨g2, 0, none⟩) 1 [(Tile.mk 0 0 1 0)]] := hS8987.call hk_ [] [0, 1, 2, 3, 4, 5] (fun g hg => hg.elim) (by simp) (by decide)
 refine ⟨trivial, ?_⟩
 refine seg 4 [] [1, 2, 3, 4, 20, 21] [(1, (pt g8957)), (2, (iv t8950.2)), (3, (pt g8982)), (4, (iv t8975.2)), (20, (.agg #[(.bool t8988.1.Fills), (iv t8988.1.Torus.Width), (iv t8988.1.Torus.Height), (.slice A8993 t8988.1.Torus.Cells.length c8994), (iv t8988.1.Side)])), (21, (iv t8988.2))] [] (fun fb => by kernel_rfl) rfl trivial ?_
 refine WL.new hS8992 5 [] (fun g => (.pointer (some ⟨g, 0, none⟩))) (.cells #[(.bool false), (iv 0), (iv 0), (.slice none 0 0), (iv 0)] 40 (0, 0)) [] (fun fb g => by kernel_rfl) trivial (fun g8995 w8996 hS8997 => ?_)
 refine ⟨trivial, ?_⟩
 refine WL.store hS8997 0 rfl [(0, (.bool t8988.1.Fills)), (1, (iv t8988.1.Torus.Width)), (2, (iv t8988.1.Torus.Height)), (3, (.slice A8993 t8988.1.Torus.Cells.length c8994)), (4, (iv t8988.1.Side))] #[(.bool t8988.1.Fills), (iv t8988.1.Torus.Width), (iv t8988.1.Torus.Height), (.slice A8993 t8988.1.Torus.Cells.length c8994), (iv t8988.1.Side)] (fun fb => by kernel_rfl) (by kernel_rfl) rfl [1, 2, 3, 4, 5, 6, 7] (by decide) (by decide) (fun w8999 hS9000 => ?_)
 refine ⟨trivial, ?_⟩
 refine seg 7 [] [1, 2, 3, 4, 5, 6] [(1, (pt g8957)), (2, (iv t8950.2)), (3, (pt g8982)), (4, (iv t8975.2)), (5, (pt g8995)), (6, (iv t8988.2))] [] (fun fb => by kernel_rfl) rfl trivial ?_
 refine WL.done rfl ?_
 refine WX.next ?_
 refine WC.seq ?_
 refine WC.region ?_
 refine seg 3 [] [1, 3, 4, 5, 6, 24] [(1, (pt g8957)), (3, (pt g8982)), (4, (iv t8975.2)), (5, (pt g8995)), (6, (iv t8988.2)), (24, (.bool (t8950.2 == 0)))] [] (fun fb => by kernel_rfl) rfl trivial ?_
 refine WL.cutV (T := Bool) 6 (fun t => [(27, (.bool t)), (1, (pt g8957)), (3, (pt g8982)), (5, (pt g8995)), (6, (iv t8988.2))]) (fun t => ((t8950.2 == 0) && (t8975.2 == 0)) = t) (fun K => ?_) ?_
 ·
  rcases Bool.eq_false_or_eq_true (t8950.2 == 0) with h9001 | h9001
  ·
   refine WL.setB 24 h9001 rfl ?_
   refine seg 6 [] [1, 3, 5, 6, 27] [(1, (pt g8957)), (3, (pt g8982)), (5, (pt g8995)), (6, (iv t8988.2)), (27, (.bool (t8975.2 == 0)))] [] (fun fb => by kernel_rfl) rfl trivial ?_
   exact WL.toV K (t8975.2 == 0) [27, 1, 3, 5, 6] rfl (by first | (rw [h9001]; done) | (rw [h9001]; rfl))
  refine WL.setB 24 h9001 rfl ?_
  refine seg 6 [] [1, 3, 5, 6, 27] [(1, (pt g8957)), (3, (pt g8982)), (5, (pt g8995)), (6, (iv t8988.2)), (27, (.bool false))] [] (fun fb => by kernel_rfl) rfl trivial ?_
  exact WL.toV K false [27, 1, 3, 5, 6] rfl (by first | (rw [h9001]; done) | (rw [h9001]; rfl))
 rintro b9002 rfl
 refine seg 7 [] [1, 3, 5, 6, 28] [(1, (pt g8957)), (3, (pt g8982)), (5, (pt g8995)), (6, (iv t8988.2)), (28, (.bool ((t8950.2 == 0) && (t8975.2 == 0))))] [] (fun fb => by kernel_rfl) rfl trivial ?_
 refine WL.cutV (T := Bool) 10 (fun t => [(31, (.bool t)), (1, (pt g8957)), (3, (pt g8982)), (5, (pt g8995))]) (fun t => (((t8950.2 == 0) && (t8975.2 == 0)) && (t8988.2 == 0)) = t) (fun K => ?_) ?_
 ·
  rcases Bool.eq_false_or_eq_true ((t8950.2 == 0) && (t8975.2 == 0)) with h9003 | h9003
  ·
   refine WL.setB 28 h9003 rfl ?_
   refine seg 10 [] [1, 3, 5, 31] [(1, (pt g8957)), (3, (pt g8982)), (5, (pt g8995)), (31, (.bool (t8988.2 == 0)))] [] (fun fb => by kernel_rfl) rfl trivial ?_
   exact WL.toV K (t8988.2 == 0) [31, 1, 3, 5] rfl (by first | (rw [h9003]; done) | (rw [h9003]; rfl))
  refine WL.setB 28 h9003 rfl ?_
  refine seg 10 [] [1, 3, 5, 31] [(1, (pt g8957)), (3, (pt g8982)), (5, (pt g8995)), (31, (.bool false))] [] (fun fb => by kernel_rfl) rfl trivial ?_
  exact WL.toV K false [31, 1, 3, 5] rfl (by first | (rw [h9003]; done) | (rw [h9003]; rfl))
 rintro b9004 rfl
 refine seg 11 [] [1, 3, 5, 32] [(1, (pt g8957)), (3, (pt g8982)), (5, (pt g8995)), (32, (.bool (((t8950.2 == 0) && (t8975.2 == 0)) && (t8988.2 == 0))))] [] (fun fb => by kernel_rfl) rfl trivial ?_
 refine WL.cutV (T := Bool) 15 (fun t => [(36, (.bool t)), (1, (pt g8957)), (3, (pt g8982)), (5, (pt g8995))]) (fun t => ((((t8950.2 == 0) && (t8975.2 == 0)) && (t8988.2 == 0)) && (!t8950.1.Fills)) = t) (fun K => ?_) ?_
 ·
  rcases Bool.eq_false_or_eq_true (((t8950.2 == 0) && (t8975.2 == 0)) && (t8988.2 == 0)) with h9005 | h9005
  ·
   refine WL.setB 32 h9005 rfl ?_
   refine seg 15 [.v (.bool t8950.1.Fills)] [1, 3, 5, 36] [(1, (pt g8957)), (3, (pt g8982)), (5, (pt g8995)), (36, (.bool (!t8950.1.Fills)))] [.cell ⟨g8957, 0, none⟩ (.bool t8950.1.Fills)] (fun fb => by kernel_rfl) rfl ⟨hS9000.cell 5 rfl 0 rfl, trivial⟩ ?_
   exact WL.toV K (!t8950.1.Fills) [36, 1, 3, 5] rfl (by first | (rw [h9005]; done) | (rw [h9005]; rfl))
  refine WL.setB 32 h9005 rfl ?_
  refine seg 15 [] [1, 3, 5, 36] [(1, (pt g8957)), (3, (pt g8982)), (5, (pt g8995)), (36, (.bool false))] [] (fun fb => by kernel_rfl) rfl trivial ?_
  exact WL.toV K false [36, 1, 3, 5] rfl (by first | (rw [h9005]; done) | (rw [h9005]; rfl))
 rintro b9006 rfl
 refine seg 16 [] [1, 3, 5, 37] [(1, (pt g8957)), (3, (pt g8982)), (5, (pt g8995)), (37, (.bool ((((t8950.2 == 0) && (t8975.2 == 0)) && (t8988.2 == 0)) && (!t8950.1.Fills))))] [] (fun fb => by kernel_rfl) rfl trivial ?_
 refine WL.cutV (T := Bool) 20 (fun t => [(41, (.bool t)), (3, (pt g8982)), (5, (pt g8995))]) (fun t => (((((t8950.2 == 0) && (t8975.2 == 0)) && (t8988.2 == 0)) && (!t8950.1.Fills)) && (t8950.1.Side == 2)) = t) (fun K => ?_) ?_
 ·
  rcases Bool.eq_false_or_eq_true ((((t8950.2 == 0) && (t8975.2 == 0)) && (t8988.2 == 0)) && (!t8950.1.Fills)) with h9007 | h9007
  ·
   refine WL.setB 37 h9007 rfl ?_
   refine seg 20 [.v (iv t8950.1.Side)] [3, 5, 41] [(3, (pt g8982)), (5, (pt g8995)), (41, (.bool (t8950.1.Side == 2)))] [.cell ⟨g8957, 4, none⟩ (iv t8950.1.Side)] (fun fb => by kernel_rfl) rfl ⟨hS9000.cell 5 rfl 4 rfl, trivial⟩ ?_
   exact WL.toV K (t8950.1.Side == 2) [41, 3, 5] rfl (by first | (rw [h9007]; done) | (rw [h9007]; rfl))
  refine WL.setB 37 h9007 rfl ?_
  refine seg 20 [] [3, 5, 41] [(3, (pt g8982)), (5, (pt g8995)), (41, (.bool false))] [] (fun fb => by kernel_rfl) rfl trivial ?_
  exact WL.toV K false [41, 3, 5] rfl (by first | (rw [h9007]; done) | (rw [h9007]; rfl))
 rintro b9008 rfl
 refine seg 21 [] [3, 5, 42] [(3, (pt g8982)), (5, (pt g8995)), (42, (.bool (((((t8950.2 == 0) && (t8975.2 == 0)) && (t8988.2 == 0)) && (!t8950.1.Fills)) && (t8950.1.Side == 2))))] [] (fun fb => by kernel_rfl) rfl trivial ?_
 refine WL.cutV (T := Bool) 24 (fun t => [(45, (.bool t)), (3, (pt g8982)), (5, (pt g8995))]) (fun t => ((((((t8950.2 == 0) && (t8975.2 == 0)) && (t8988.2 == 0)) && (!t8950.1.Fills)) && (t8950.1.Side == 2)) && t8975.1.Fills) = t) (fun K => ?_) ?_
 ·
  rcases Bool.eq_false_or_eq_true (((((t8950.2 == 0) && (t8975.2 == 0)) && (t8988.2 == 0)) && (!t8950.1.Fills)) && (t8950.1.Side == 2)) with h9009 | h9009
  ·
   refine WL.setB 42 h9009 rfl ?_
   refine seg 24 [.v (.bool t8975.1.Fills)] [3, 5, 45] [(3, (pt g8982)), (5, (pt g8995)), (45, (.bool t8975.1.Fills))] [.cell ⟨g8982, 0, none⟩ (.bool t8975.1.Fills)] (fun fb => by kernel_rfl) rfl ⟨hS9000.cell 2 rfl 0 rfl, trivial⟩ ?_
   exact WL.toV K t8975.1.Fills [45, 3, 5] rfl (by first | (rw [h9009]; done) | (rw [h9009]; rfl))
  refine WL.setB 42 h9009 rfl ?_
  refine seg 24 [] [3, 5, 45] [(3, (pt g8982)), (5, (pt g8995)), (45, (.bool false))] [] (fun fb => by kernel_rfl) rfl trivial ?_
  exact WL.toV K false [45, 3, 5] rfl (by first | (rw [h9009]; done) | (rw [h9009]; rfl))
 rintro b9010 rfl
 refine seg 25 [] [3, 5, 46] [(3, (pt g8982)), (5, (pt g8995)), (46, (.bool ((((((t8950.2 == 0) && (t8975.2 == 0)) && (t8988.2 == 0)) && (!t8950.1.Fills)) && (t8950.1.Side == 2)) && t8975.1.Fills)))] [] (fun fb => by kernel_rfl) rfl trivial ?_
 obtain ⟨x9095, hx9096, hf⟩ := bind_some hf
 refine WL.cutW (T := Bool) 31 (fun t => [(5, (pt g8995)), (52, (.bool t))]) (fun t w1 => (St NoS w w1 [] [blk g8995 (.cells #[(.bool t8988.1.Fills), (iv t8988.1.Torus.Width), (iv t8988.1.Torus.Height), (.slice A8993 t8988.1.Torus.Cells.length c8994), (iv t8988.1.Side)] 40 (0, 0)), rowO 3 encInt A8993 c8994 t8988.1.Torus.Cells] ∧ x9095 = t) ∧ CellsOK [] w1) (fun K => ?_) ?_
 ·
  rcases br_some hx9096 with ⟨h9097, hx9096⟩ | ⟨h9097, hx9096⟩
  ·
   refine WL.setB 46 h9097 rfl ?_
   refine seg 27 [.v (iv t8975.1.Torus.Width), .v (iv t8975.1.Torus.Height), .v (.slice A8980 t8975.1.Torus.Cells.length c8981)] [5, 46, 48] [(5, (pt g8995)), (46, (.bool true)), (48, (.agg #[(iv t8975.1.Torus.Width), (iv t8975.1.Torus.Height), (.slice A8980 t8975.1.Torus.Cells.length c8981)]))] [.cell ⟨g8982, 1, none⟩ (iv t8975.1.Torus.Width), .cell ⟨g8982, 2, none⟩ (iv t8975.1.Torus.Height), .cell ⟨g8982, 3, none⟩ (.slice A8980 t8975.1.Torus.Cells.length c8981)] (fun fb => by kernel_rfl) rfl ⟨hS9000.cell 2 rfl 1 rfl, hS9000.cell 2 rfl 2 rfl, hS9000.cell 2 rfl 3 rfl, trivial⟩ ?_
   refine WL.new hS9000 49 [] (fun g => (.slice (some ⟨g, 0, none⟩) 4 4)) (.cells #[(iv 0), (iv 1), (iv 1), (iv 0)] 3 (0, 0)) [] (fun fb g => by kernel_rfl) trivial (fun g9098 w9099 hS9100 => ?_)
   refine ⟨trivial, ?_⟩
   have hS9102 : St NoS w w9099 [] [rowO 3 encInt (some ⟨g9098, 0, none⟩) 4 [0, 1, 1, 0], blk g8995 (.cells #[(.bool t8988.1.Fills), (iv t8988.1.Torus.Width), (iv t8988.1.Torus.Height), (.slice A8993 t8988.1.Torus.Cells.length c8994), (iv t8988.1.Side)] 40 (0, 0)), rowO 3 encInt A8993 c8994 t8988.1.Torus.Cells, blk g8982 (.cells #[(.bool t8975.1.Fills), (iv t8975.1.Torus.Width), (iv t8975.1.Torus.Height), (.slice A8980 t8975.1.Torus.Cells.length c8981), (iv t8975.1.Side)] 40 (0, 0)), rowO 3 encInt A8980 c8981 t8975.1.Torus.Cells, rowO 24 enc_Tile A8973 c8974 t8968, blk g8957 (.cells #[(.bool t8950.1.Fills), (iv t8950.1.Torus.Width), (iv t8950.1.Torus.Height), (.slice A8955 t8950.1.Torus.Cells.length c8956), (iv t8950.1.Side)] 40 (0, 0)), rowO 3 encInt A8955 c8956 t8950.1.Torus.Cells, rowO 24 enc_Tile (some ⟨g2, 0, none⟩) 1 [(Tile.mk 0 0 1 0)]] := hS9100.map1 0 _ (fun h => rowO.ofBlk h rfl (Nat.le_of_ble_eq_true (by kernel_rfl))) (fun _ h => by obtain ⟨_, h1, h2⟩ := h; injection h1 with h1; subst h1; exact h2) [1, 2, 3, 4, 5, 6, 7, 8] (by decide) (by decide)
   refine seg 29 [] [5, 46, 48, 50] [(5, (pt g8995)), (46, (.bool true)), (48, (.agg #[(iv t8975.1.Torus.Width), (iv t8975.1.Torus.Height), (.slice A8980 t8975.1.Torus.Cells.length c8981)])), (50, (.agg #[(iv 2), (iv 2), (.slice (some ⟨g9098, 0, none⟩) [0, 1, 1, 0].length 4)]))] [] (fun fb => by kernel_rfl) rfl trivial ?_
   obtain ⟨t9103, ht9104, hx9096⟩ := bind_some hx9096
   refine WL.call (some 51) 26 #[(.agg #[(iv t8975.1.Torus.Width), (iv t8975.1.Torus.Height), (.slice A8980 t8975.1.Torus.Cells.length c8981)]), (.agg #[(iv 2), (iv 2), (.slice (some ⟨g9098, 0, none⟩) [0, 1, 1, 0].length 4)])] (fun fb => by kernel_rfl) (ref01_SamePattern_calls _ t8975.1.Torus (Pattern.mk 2 2 [0, 1, 1, 0]) A8980 c8981 (some ⟨g9098, 0, none⟩) 4 t9103 _ (hS9102.ow 4).ofO (hS9102.ow 0).ofO ht9104) (fun v w9105 hR9106 => ?_)
   obtain ⟨rfl, hk_⟩ := hR9106
   have hS9107 := hS9102.keepN hk_
   refine ⟨trivial, ?_⟩
   refine seg 31 [] [5, 52] [(5, (pt g8995)), (52, (.bool t9103))] [] (fun fb => by kernel_rfl) rfl trivial ?_
   injection hx9096 with hx9096
   exact WL.to K t9103 [5, 52] rfl ⟨⟨(hS9107.subR []).sub [1, 2] (by decide), hx9096.symm⟩, trivial⟩
  refine WL.setB 46 h9097 rfl ?_
  refine seg 31 [] [5, 52] [(5, (pt g8995)), (52, (.bool false))] [] (fun fb => by kernel_rfl) rfl trivial ?_
  injection hx9096 with hx9096
  exact WL.to K false [5, 52] rfl ⟨⟨(hS9000.subR []).sub [0, 1] (by decide), hx9096.symm⟩, trivial⟩
 rintro y9108 w9110 ⟨⟨hS9111, hq9109⟩, hF9112⟩
 subst hq9109
 refine seg 32 [] [5, 53] [(5, (pt g8995)), (53, (.bool x9095))] [] (fun fb => by kernel_rfl) rfl trivial ?_
 refine WL.cutV (T := Bool) 36 (fun t => [(57, (.bool t)), (5, (pt g8995))]) (fun t => (x9095 && (!t8988.1.Fills)) = t) (fun K => ?_) ?_
 ·
  rcases Bool.eq_false_or_eq_true x9095 with h9113 | h9113
  ·
   refine WL.setB 53 h9113 rfl ?_
   refine seg 36 [.v (.bool t8988.1.Fills)] [5, 57] [(5, (pt g8995)), (57, (.bool (!t8988.1.Fills)))] [.cell ⟨g8995, 0, none⟩ (.bool t8988.1.Fills)] (fun fb => by kernel_rfl) rfl ⟨hS9111.cell 0 rfl 0 rfl, trivial⟩ ?_
   exact WL.toV K (!t8988.1.Fills) [57, 5] rfl (by first | (rw [h9113]; done) | (rw [h9113]; rfl))
  refine WL.setB 53 h9113 rfl ?_
  refine seg 36 [] [5, 57] [(5, (pt g8995)), (57, (.bool false))] [] (fun fb => by kernel_rfl) rfl trivial ?_
  exact WL.toV K false [57, 5] rfl (by first | (rw [h9113]; done) | (rw [h9113]; rfl))
 rintro b9114 rfl
 refine seg 37 [] [5, 58] [(5, (pt g8995)), (58, (.bool (x9095 && (!t8988.1.Fills))))] [] (fun fb => by kernel_rfl) rfl trivial ?_
 refine WL.cutV (T := Bool) 41 (fun t => [(62, (.bool t))]) (fun t => ((x9095 && (!t8988.1.Fills)) && (t8988.1.Side == 1)) = t) (fun K => ?_) ?_
 ·
  rcases Bool.eq_false_or_eq_true (x9095 && (!t8988.1.Fills)) with h9115 | h9115
  ·
   refine WL.setB 58 h9115 rfl ?_
   refine seg 41 [.v (iv t8988.1.Side)] [62] [(62, (.bool (t8988.1.Side == 1)))] [.cell ⟨g8995, 4, none⟩ (iv t8988.1.Side)] (fun fb => by kernel_rfl) rfl ⟨hS9111.cell 0 rfl 4 rfl, trivial⟩ ?_
   exact WL.toV K (t8988.1.Side == 1) [62] rfl (by first | (rw [h9115]; done) | (rw [h9115]; rfl))
  refine WL.setB 58 h9115 rfl ?_
  refine seg 41 [] [62] [(62, (.bool false))] [] (fun fb => by kernel_rfl) rfl trivial ?_
  exact WL.toV K false [62] rfl (by first | (rw [h9115]; done) | (rw [h9115]; rfl))
 rintro b9116 rfl
 refine seg 42 [] [0] [(0, (.bool ((x9095 && (!t8988.1.Fills)) && (t8988.1.Side == 1))))] [] (fun fb => by kernel_rfl) rfl trivial ?_
 refine WL.done rfl ?_
 refine WX.next ?_
 refine WC.ret ?_
 injection hf with hf
 subst hf
 exact WX.ret_ [] (.bool ((x9095 && (!t8988.1.Fills)) && (t8988.1.Side == 1))) [] (fun fb => by kernel_rfl) trivial ⟨_, rfl, rfl, hS9111.keep⟩
theorem decide_Fills_calls (k : Nat) (p0 : List Tile) (A_p0 : Option Addr) (c_p0 : Nat) (r : Bool × Int) (w : World) (hR0 : RO NoS w (rowR enc_Tile A_p0 c_p0 p0)) (hf : decide_Fills k p0 = some r) :
  CallsR Try.prog 11 #[(.slice A_p0 p0.length c_p0)] w (fun v w' => v = (.tuple #[(.bool r.1), (iv r.2)]) ∧ Keeps NoS w w') := by
 have hS : St NoS w w [rowR enc_Tile A_p0 c_p0 p0] [] := St.init (ro_cons hR0 (ro_nil _ _))
 refine enter 14 Try.func11 rfl Try.ntmps11 rfl ?_
 unfold decide_Fills at hf
 refine WC.seq ?_
 refine WC.region ?_
 refine seg 2 [] [0] [(0, (.slice A_p0 p0.length c_p0))] [] (fun fb => by kernel_rfl) rfl trivial ?_
 refine WL.done rfl ?_
 refine WX.next ?_
 refine WC.seq ?_
 refine WC.region ?_
 refine seg 1 [] [7] [(7, (.slice A_p0 p0.length c_p0))] [] (fun fb => by kernel_rfl) rfl trivial ?_
 obtain ⟨t9135, ht9136, hf⟩ := bind_some hf
 refine WL.call (some 8) 22 #[(.slice A_p0 p0.length c_p0)] (fun fb => by kernel_rfl) (decide_Decide_calls _ p0 A_p0 c_p0 t9135 _ (hS.rd 0) ht9136) (fun v w9137 hR9138 => ?_)
 obtain ⟨A9140, c9141, rfl, hk_⟩ := hR9138
 have hS9139 : St NoS w w9137 [rowR enc_Tile A_p0 c_p0 p0] [rowO 3 encInt A9140 c9141 t9135.1.Torus.Cells] := hS.call hk_ [] [] (fun g hg => hg.elim) (by simp) (by decide)
 refine ⟨trivial, ?_⟩
 refine seg 5 [] [9, 10] [(9, (.agg #[(.bool t9135.1.Fills), (iv t9135.1.Torus.Width), (iv t9135.1.Torus.Height), (.slice A9140 t9135.1.Torus.Cells.length c9141), (iv t9135.1.Side)])), (10, (iv t9135.2))] [] (fun fb => by kernel_rfl) rfl trivial ?_
 refine WL.new hS9139 4 [] (fun g => (.pointer (some ⟨g, 0, none⟩))) (.cells #[(.bool false), (iv 0), (iv 0), (.slice none 0 0), (iv 0)] 40 (0, 0)) [] (fun fb g => by kernel_rfl) trivial (fun g9142 w9143 hS9144 => ?_)
 refine ⟨trivial, ?_⟩
 refine WL.store hS9144 0 rfl [(0, (.bool t9135.1.Fills)), (1, (iv t9135.1.Torus.Width)), (2, (iv t9135.1.Torus.Height)), (3, (.slice A9140 t9135.1.Torus.Cells.length c9141)), (4, (iv t9135.1.Side))] #[(.bool t9135.1.Fills), (iv t9135.1.Torus.Width), (iv t9135.1.Torus.Height), (.slice A9140 t9135.1.Torus.Cells.length c9141), (iv t9135.1.Side)] (fun fb => by kernel_rfl) (by kernel_rfl) rfl [1] (by decide) (by decide) (fun w9146 hS9147 => ?_)
 refine ⟨trivial, ?_⟩
 refine seg 8 [] [4, 5] [(4, (pt g9142)), (5, (iv t9135.2))] [] (fun fb => by kernel_rfl) rfl trivial ?_
 refine WL.done rfl ?_
 refine WX.next ?_
 refine WC.seq ?_
 refine WC.region ?_
 refine seg 5 [.v (.bool t9135.1.Fills)] [2, 3] [(2, (.bool t9135.1.Fills)), (3, (iv t9135.2))] [.cell ⟨g9142, 0, none⟩ (.bool t9135.1.Fills)] (fun fb => by kernel_rfl) rfl ⟨hS9147.cell 0 rfl 0 rfl, trivial⟩ ?_
 refine WL.done rfl ?_
 refine WX.next ?_
 refine WC.ret ?_
 injection hf with hf
 subst hf
 exact WX.ret_ [] (.tuple #[(.bool t9135.1.Fills), (iv t9135.2)]) [] (fun fb => by kernel_rfl) trivial ⟨_, rfl, rfl, hS9147.keep⟩
theorem ref01_colour_calls (p0 : Int)  (r : Bool) (w : World)  (hf : ref01_colour p0 = some r) :
  CallsR Try.prog 35 #[(iv p0)] w (fun v w' => v = (.bool r) ∧ Keeps NoS w w') := by
 have hS : St NoS w w [] [] := St.init (ro_nil _ _)
 refine enter 9 Try.func35 rfl Try.ntmps35 rfl ?_
 unfold ref01_colour at hf
 refine WC.seq ?_
 refine WC.region ?_
 refine seg 1 [] [0] [(0, (iv p0))] [] (fun fb => by kernel_rfl) rfl trivial ?_
 refine WL.done rfl ?_
 refine WX.next ?_
 refine WC.seq ?_
 refine WC.region ?_
 refine seg 3 [] [0, 5] [(0, (iv p0)), (5, (.bool (decide (p0 ≥ 0))))] [] (fun fb => by kernel_rfl) rfl trivial ?_
 refine WL.cutV (T := Bool) 6 (fun t => [(8, (.bool t))]) (fun t => ((decide (p0 ≥ 0)) && (decide (p0 < 1000))) = t) (fun K => ?_) ?_
 ·
  rcases Bool.eq_false_or_eq_true (decide (p0 ≥ 0)) with h9162 | h9162
  ·
   refine WL.setB 5 h9162 rfl ?_
   refine seg 6 [] [8] [(8, (.bool (decide (p0 < 1000))))] [] (fun fb => by kernel_rfl) rfl trivial ?_
   exact WL.toV K (decide (p0 < 1000)) [8] rfl (by first | (rw [h9162]; done) | (rw [h9162]; rfl))
  refine WL.setB 5 h9162 rfl ?_
  refine seg 6 [] [8] [(8, (.bool false))] [] (fun fb => by kernel_rfl) rfl trivial ?_
  exact WL.toV K false [8] rfl (by first | (rw [h9162]; done) | (rw [h9162]; rfl))
 rintro b9163 rfl
 refine seg 7 [] [2] [(2, (.bool ((decide (p0 ≥ 0)) && (decide (p0 < 1000)))))] [] (fun fb => by kernel_rfl) rfl trivial ?_
 refine WL.done rfl ?_
 refine WX.next ?_
 refine WC.ret ?_
 injection hf with hf
 subst hf
 exact WX.ret_ [] (.bool ((decide (p0 ≥ 0)) && (decide (p0 < 1000)))) [] (fun fb => by kernel_rfl) trivial ⟨_, rfl, rfl, hS.keep⟩
theorem ref01_Index_calls (k : Nat) (p0 : List Tile) (p1 : Tile) (A_p0 : Option Addr) (c_p0 : Nat) (r : Int) (w : World) (hR0 : RO NoS w (rowR enc_Tile A_p0 c_p0 p0)) (hf : ref01_Index k p0 p1 = some r) :
  CallsR Try.prog 12 #[(.slice A_p0 p0.length c_p0), (.agg #[(iv p1.N), (iv p1.E), (iv p1.S), (iv p1.W)])] w (fun v w' => v = (iv r) ∧ Keeps NoS w w') := by
 have hS : St NoS w w [rowR enc_Tile A_p0 c_p0 p0] [] := St.init (ro_cons hR0 (ro_nil _ _))
 refine enter 19 Try.func12 rfl Try.ntmps12 rfl ?_
 unfold ref01_Index at hf
 refine WC.seq ?_
 refine WC.region ?_
 refine WL.new hS 3 [] (fun g => (.pointer (some ⟨g, 0, none⟩))) (.cells #[(iv p1.N), (iv p1.E), (iv p1.S), (iv p1.W)] 24 (0, 0)) [] (fun fb g => by kernel_rfl) trivial (fun g9228 w9229 hS9230 => ?_)
 refine ⟨trivial, ?_⟩
 refine seg 2 [] [0, 3] [(0, (.slice A_p0 p0.length c_p0)), (3, (pt g9228))] [] (fun fb => by kernel_rfl) rfl trivial ?_
 refine WL.done rfl ?_
 refine WX.next ?_
 refine WC.seq ?_
 refine WC.seq ?_
 refine WC.region ?_
 refine seg 1 [] [0, 3, 5] [(0, (.slice A_p0 p0.length c_p0)), (3, (pt g9228)), (5, (iv 0))] [] (fun fb => by kernel_rfl) rfl trivial ?_
 refine WL.done rfl ?_
 refine WX.next ?_
 obtain ⟨x9248, hx9249, hf⟩ := bind_some hf
 refine WC.cutN (T := Unit) (fun t => []) (fun t w1 => St NoS w w1 [rowR enc_Tile A_p0 c_p0 p0] [] ∧ x9248 = .inr t) (fun Kx9248 => ?_) ?_
 ·
  refine WC.block ?_
  refine WC.loop (T := Int) (fun t => [(0, (.slice A_p0 p0.length c_p0)), (3, (pt g9228)), (5, (iv t))]) (fun n t w1 => St NoS w w1 [rowR enc_Tile A_p0 c_p0 p0] [blk g9228 (.cells #[(iv p1.N), (iv p1.E), (iv p1.S), (iv p1.W)] 24 (0, 0))] ∧ ref01_Index.l0 n t p0 p1 = some x9248) k 0 [0, 3, 5] rfl ⟨(hS9230.subR [0]).sub [0] (by decide), hx9249⟩ ?_
  rintro k9250 x9247 w9251 ⟨hS9252, hl9253⟩
  cases k9250 with
  | zero => rw [ref01_Index.l0] at hl9253; cases hl9253
  | succ k9250 =>
   rw [ref01_Index.l0] at hl9253
   refine WC.seq ?_
   refine WC.seq ?_
   refine WC.region ?_
   refine seg 4 [] [0, 3, 5, 9] [(0, (.slice A_p0 p0.length c_p0)), (3, (pt g9228)), (5, (iv x9247)), (9, (.bool (decide (x9247 < (p0.length : Int)))))] [] (fun fb => by kernel_rfl) rfl trivial ?_
   refine WL.done rfl ?_
   refine WX.next ?_
   rcases br_some hl9253 with ⟨h9254, hl9253⟩ | ⟨h9254, hl9253⟩
   ·refine WC.condT2 (fun fb => by kernel_rfl) h9254 ?_
    refine WC.skip ?_
    refine WX.next ?_
    refine WC.seq ?_
    refine WC.block ?_
    refine WC.seq ?_
    obtain ⟨h9259, hl9253⟩ := as_some hl9253
    refine WC.regionD ([(3, ((adr A_p0).add ((x9247).toNat * 4)), (iv ((rdD p0 x9247 z_Tile).N))), (3, (((adr A_p0).add ((x9247).toNat * 4)).add 1), (iv ((rdD p0 x9247 z_Tile).E))), (3, (((adr A_p0).add ((x9247).toNat * 4)).add 2), (iv ((rdD p0 x9247 z_Tile).S))), (3, (((adr A_p0).add ((x9247).toNat * 4)).add 3), (iv ((rdD p0 x9247 z_Tile).W))), (4, ⟨g9228, 0, none⟩, (iv p1.N)), (4, ⟨g9228, 1, none⟩, (iv p1.E)), (4, ⟨g9228, 2, none⟩, (iv p1.S)), (4, ⟨g9228, 3, none⟩, (iv p1.W))], [0, 1, 2, 3, 4, 5], [[], [], [0, 1], [0, 1, 2], [], [0, 1, 2, 3, 4]]) [[0, 1, 2, 3, 4, 5]] (by kernel_rfl) (by kernel_rfl) (NoPanic.seq (NoPanic.block (NoPanic.seq (NoPanic.seq (NoPanic.block (NoPanic.seq (NoPanic.body))))))) ?_
    have hS9257 := hS9252.drew
    revert hS9257
    generalize World.drew w9251 = w9256
    intro hS9257
    refine ⟨⟨rowR.cell (hS9257.rd 0).1 z_Tile h9259.1 h9259.2 0 rfl, rowR.cell (hS9257.rd 0).1 z_Tile h9259.1 h9259.2 1 rfl, rowR.cell (hS9257.rd 0).1 z_Tile h9259.1 h9259.2 2 rfl, rowR.cell (hS9257.rd 0).1 z_Tile h9259.1 h9259.2 3 rfl, hS9257.cell 0 rfl 0 rfl, hS9257.cell 0 rfl 1 rfl, hS9257.cell 0 rfl 2 rfl, hS9257.cell 0 rfl 3 rfl, trivial⟩, forallC ?_ (forallN)⟩
    refine segF 6 [.v (iv ((rdD p0 x9247 z_Tile).N)), .v (iv ((rdD p0 x9247 z_Tile).E)), .v (iv ((rdD p0 x9247 z_Tile).S)), .v (iv ((rdD p0 x9247 z_Tile).W)), .v (iv p1.N), .v (iv p1.E), .v (iv p1.S), .v (iv p1.W)] [0, 3, 5, 17] [(0, (.slice A_p0 p0.length c_p0)), (3, (pt g9228)), (5, (iv x9247)), (17, (.bool (((rdD p0 x9247 z_Tile).N) == p1.N && (((rdD p0 x9247 z_Tile).E) == p1.E && (((rdD p0 x9247 z_Tile).S) == p1.S && (((rdD p0 x9247 z_Tile).W) == p1.W))))))] [.idx A_p0 x9247 p0.length] [0, 1, 2, 3, 4, 5, 6, 7] [(3, ((adr A_p0).add ((x9247).toNat * 4)), (iv ((rdD p0 x9247 z_Tile).N))), (3, (((adr A_p0).add ((x9247).toNat * 4)).add 1), (iv ((rdD p0 x9247 z_Tile).E))), (3, (((adr A_p0).add ((x9247).toNat * 4)).add 2), (iv ((rdD p0 x9247 z_Tile).S))), (3, (((adr A_p0).add ((x9247).toNat * 4)).add 3), (iv ((rdD p0 x9247 z_Tile).W))), (4, ⟨g9228, 0, none⟩, (iv p1.N)), (4, ⟨g9228, 1, none⟩, (iv p1.E)), (4, ⟨g9228, 2, none⟩, (iv p1.S)), (4, ⟨g9228, 3, none⟩, (iv p1.W))] (fun fb => by kernel_rfl) rfl ⟨rowR.adr (hS9257.rd 0).1 h9259.1 h9259.2, trivial⟩ rfl ?_
    refine WL.done rfl ?_
    refine WX.next ?_
    rcases br_some hl9253 with ⟨h9260, hl9253⟩ | ⟨h9260, hl9253⟩
    ·refine WC.condT2 (fun fb => by kernel_rfl) h9260 ?_
     refine WC.seq ?_
     refine WC.region ?_
     refine seg 2 [] [4] [(4, (iv x9247))] [] (fun fb => by kernel_rfl) rfl trivial ?_
     refine WL.done rfl ?_
     refine WX.next ?_
     refine WC.ret ?_
     injection hl9253 with hl9253
     subst hl9253
     injection hf with hf
     subst hf
     exact WX.blockR (WX.thenR (WX.thenR (WX.blockR (WX.thenR (WX.ret_ [] (iv x9247) [] (fun fb => by kernel_rfl) trivial ⟨_, rfl, rfl, hS9257.keep⟩)))))
    refine WC.condF2 (fun fb => by kernel_rfl) h9260 ?_
    refine WC.skip ?_
    refine WX.blockN (WX.next ?_)
    refine WC.region ?_
    refine seg 3 [] [0, 3, 5] [(0, (.slice A_p0 p0.length c_p0)), (3, (pt g9228)), (5, (iv (w64 (x9247 + 1))))] [] (fun fb => by kernel_rfl) rfl trivial ?_
    refine WL.done rfl ?_
    exact WX.again k9250 (Nat.lt_succ_self _) (w64 (x9247 + 1)) [0, 3, 5] rfl ⟨(hS9257.subR [0]).sub [0] (by decide), hl9253⟩
   refine WC.condF2 (fun fb => by kernel_rfl) h9254 ?_
   refine WC.exit ?_
   injection hl9253 with hl9253
   exact WX.thenX (WX.thenX (WX.blockHere (WX.to Kx9248 () [] rfl ⟨(hS9252.subR [0]).sub [] (by decide), hl9253.symm⟩)))
 rintro y9264 w9261 ⟨hS9262, hq9263⟩
 subst hq9263
 have hf := sum_inr hf
 refine WX.next ?_
 refine WC.seq ?_
 refine WC.region ?_
 refine seg 1 [] [4] [(4, (iv (-1)))] [] (fun fb => by kernel_rfl) rfl trivial ?_
 refine WL.done rfl ?_
 refine WX.next ?_
 refine WC.ret ?_
 injection hf with hf
 subst hf
 exact WX.ret_ [] (iv (-1)) [] (fun fb => by kernel_rfl) trivial ⟨_, rfl, rfl, hS9262.keep⟩
theorem ref01_Valid_calls (k : Nat) (p0 : List Tile) (A_p0 : Option Addr) (c_p0 : Nat) (r : Bool) (w : World) (hR0 : RO NoS w (rowR enc_Tile A_p0 c_p0 p0)) (hf : ref01_Valid k p0 = some r) :
  CallsR Try.prog 13 #[(.slice A_p0 p0.length c_p0)] w (fun v w' => v = (.bool r) ∧ Keeps NoS w w') := by
 have hS : St NoS w w [rowR enc_Tile A_p0 c_p0 p0] [] := St.init (ro_cons hR0 (ro_nil _ _))
 refine enter 48 Try.func13 rfl Try.ntmps13 rfl ?_
 unfold ref01_Valid at hf
 refine WC.seq ?_
 refine WC.region ?_
 refine seg 1 [] [0] [(0, (.slice A_p0 p0.length c_p0))] [] (fun fb => by kernel_rfl) rfl trivial ?_
 refine WL.done rfl ?_
 refine WX.next ?_
 refine WC.seq ?_
 refine WC.seq ?_
 refine WC.region ?_
 refine seg 3 [] [0, 7] [(0, (.slice A_p0 p0.length c_p0)), (7, (.bool (decide ((p0.length : Int) > 1000))))] [] (fun fb => by kernel_rfl) rfl trivial ?_
 refine WL.done rfl ?_
 refine WX.next ?_
 rcases br_some hf with ⟨h9153, hf⟩ | ⟨h9153, hf⟩
 ·refine WC.condT2 (fun fb => by kernel_rfl) h9153 ?_
  refine WC.seq ?_
  refine WC.region ?_
  refine seg 1 [] [2] [(2, (.bool false))] [] (fun fb => by kernel_rfl) rfl trivial ?_
  refine WL.done rfl ?_
  refine WX.next ?_
  refine WC.ret ?_
  injection hf with hf
  subst hf
  exact WX.thenR (WX.ret_ [] (.bool false) [] (fun fb => by kernel_rfl) trivial ⟨_, rfl, rfl, hS.keep⟩)
 refine WC.condF2 (fun fb => by kernel_rfl) h9153 ?_
 refine WC.skip ?_
 refine WX.next ?_
 refine WC.seq ?_
 refine WC.seq ?_
 refine WC.region ?_
 refine seg 1 [] [0, 3] [(0, (.slice A_p0 p0.length c_p0)), (3, (iv 0))] [] (fun fb => by kernel_rfl) rfl trivial ?_
 refine WL.done rfl ?_
 refine WX.next ?_
 obtain ⟨x9562, hx9563, hf⟩ := bind_some hf
 refine WC.cutN (T := Unit) (fun t => []) (fun t w1 => St NoS w w1 [rowR enc_Tile A_p0 c_p0 p0] [] ∧ x9562 = .inr t) (fun Kx9562 => ?_) ?_
 ·
  refine WC.block ?_
  refine WC.loop (T := Int) (fun t => [(0, (.slice A_p0 p0.length c_p0)), (3, (iv t))]) (fun n t w1 => St NoS w w1 [rowR enc_Tile A_p0 c_p0 p0] [] ∧ ref01_Valid.l0 n t p0 = some x9562) k 0 [0, 3] rfl ⟨(hS.subR [0]).sub [] (by decide), hx9563⟩ ?_
  rintro k9564 x9561 w9565 ⟨hS9566, hl9567⟩
  cases k9564 with
  | zero => rw [ref01_Valid.l0] at hl9567; cases hl9567
  | succ k9564 =>
   rw [ref01_Valid.l0] at hl9567
   refine WC.seq ?_
   refine WC.seq ?_
   refine WC.region ?_
   refine seg 4 [] [0, 3, 11] [(0, (.slice A_p0 p0.length c_p0)), (3, (iv x9561)), (11, (.bool (decide (x9561 < (p0.length : Int)))))] [] (fun fb => by kernel_rfl) rfl trivial ?_
   refine WL.done rfl ?_
   refine WX.next ?_
   rcases br_some hl9567 with ⟨h9568, hl9567⟩ | ⟨h9568, hl9567⟩
   ·refine WC.condT2 (fun fb => by kernel_rfl) h9568 ?_
    refine WC.skip ?_
    refine WX.next ?_
    refine WC.seq ?_
    refine WC.block ?_
    refine WC.seq ?_
    refine WC.region ?_
    refine seg 2 [] [0, 3, 14, 15] [(0, (.slice A_p0 p0.length c_p0)), (3, (iv x9561)), (14, (.slice A_p0 p0.length c_p0)), (15, (iv x9561))] [] (fun fb => by kernel_rfl) rfl trivial ?_
    obtain ⟨h9569, hl9567⟩ := as_some hl9567
    refine seg 4 [.v (iv ((rdD p0 x9561 z_Tile).N)), .v (iv ((rdD p0 x9561 z_Tile).E)), .v (iv ((rdD p0 x9561 z_Tile).S)), .v (iv ((rdD p0 x9561 z_Tile).W))] [0, 3, 17] [(0, (.slice A_p0 p0.length c_p0)), (3, (iv x9561)), (17, (.agg #[(iv ((rdD p0 x9561 z_Tile).N)), (iv ((rdD p0 x9561 z_Tile).E)), (iv ((rdD p0 x9561 z_Tile).S)), (iv ((rdD p0 x9561 z_Tile).W))]))] [.idx A_p0 x9561 p0.length, .cell ((adr A_p0).add ((x9561).toNat * 4)) (iv ((rdD p0 x9561 z_Tile).N)), .cell (((adr A_p0).add ((x9561).toNat * 4)).add 1) (iv ((rdD p0 x9561 z_Tile).E)), .cell (((adr A_p0).add ((x9561).toNat * 4)).add 2) (iv ((rdD p0 x9561 z_Tile).S)), .cell (((adr A_p0).add ((x9561).toNat * 4)).add 3) (iv ((rdD p0 x9561 z_Tile).W))] (fun fb => by kernel_rfl) rfl ⟨rowR.adr (hS9566.rd 0).1 h9569.1 h9569.2, rowR.cell (hS9566.rd 0).1 z_Tile h9569.1 h9569.2 0 rfl, rowR.cell (hS9566.rd 0).1 z_Tile h9569.1 h9569.2 1 rfl, rowR.cell (hS9566.rd 0).1 z_Tile h9569.1 h9569.2 2 rfl, rowR.cell (hS9566.rd 0).1 z_Tile h9569.1 h9569.2 3 rfl, trivial⟩ ?_
    refine WL.new hS9566 4 [] (fun g => (.pointer (some ⟨g, 0, none⟩))) (.cells #[(iv 0), (iv 0), (iv 0), (iv 0)] 24 (0, 0)) [] (fun fb g => by kernel_rfl) trivial (fun g9570 w9571 hS9572 => ?_)
    refine ⟨trivial, ?_⟩
    refine WL.store hS9572 0 rfl [(0, (iv ((rdD p0 x9561 z_Tile).N))), (1, (iv ((rdD p0 x9561 z_Tile).E))), (2, (iv ((rdD p0 x9561 z_Tile).S))), (3, (iv ((rdD p0 x9561 z_Tile).W)))] #[(iv ((rdD p0 x9561 z_Tile).N)), (iv ((rdD p0 x9561 z_Tile).E)), (iv ((rdD p0 x9561 z_Tile).S)), (iv ((rdD p0 x9561 z_Tile).W))] (fun fb => by kernel_rfl) (by kernel_rfl) rfl [] (by decide) (by decide) (fun w9574 hS9575 => ?_)
    refine ⟨trivial, ?_⟩
    refine WL.done rfl ?_
    refine WX.next ?_
    refine WC.seq ?_
    refine WC.regionD ([(1, ⟨g9570, 0, none⟩, (iv ((rdD p0 x9561 z_Tile).N))), (6, ⟨g9570, 1, none⟩, (iv ((rdD p0 x9561 z_Tile).E))), (12, ⟨g9570, 2, none⟩, (iv ((rdD p0 x9561 z_Tile).S))), (18, ⟨g9570, 3, none⟩, (iv ((rdD p0 x9561 z_Tile).W))), (26, ⟨g9570, 0, none⟩, (iv ((rdD p0 x9561 z_Tile).N))), (26, ⟨g9570, 1, none⟩, (iv ((rdD p0 x9561 z_Tile).E))), (26, ⟨g9570, 2, none⟩, (iv ((rdD p0 x9561 z_Tile).S))), (26, ⟨g9570, 3, none⟩, (iv ((rdD p0 x9561 z_Tile).W)))], [0, 1, 3, 4, 5, 6, 8, 9, 10, 11, 12, 14, 15, 16, 17, 18, 20, 21, 22, 23, 24, 25, 26, 28, 29], [[], [0], [0, 1], [0, 1, 2], [0, 1, 2, 3], [0, 1, 2, 3, 4], [0, 1, 2, 3, 4, 5], [0, 1, 2, 3, 4, 5, 6], [0, 1, 2, 3, 4, 5, 6, 7], [0, 1, 2, 3, 4, 5, 6, 7, 8], [0, 1, 2, 3, 4, 5, 6, 7, 8, 9], [0, 1, 2, 3, 4, 5, 6, 7, 8, 9, 10], [0, 1, 2, 3, 4, 5, 6, 7, 8, 9, 10, 11], [0, 1, 2, 3, 4, 5, 6, 7, 8, 9, 10, 11, 12], [0, 1, 2, 3, 4, 5, 6, 7, 8, 9, 10, 11, 12, 13], [0, 1, 2, 3, 4, 5, 6, 7, 8, 9, 10, 11, 12, 13, 14], [0, 1, 2, 3, 4, 5, 6, 7, 8, 9, 10, 11, 12, 13, 14, 15], [0, 1, 2, 3, 4, 5, 6, 7, 8, 9, 10, 11, 12, 13, 14, 15, 16], [0, 1, 2, 3, 4, 5, 6, 7, 8, 9, 10, 11, 12, 13, 14, 15, 16, 17], [0, 1, 2, 3, 4, 5, 6, 7, 8, 9, 10, 11, 12, 13, 14, 15, 16, 17, 18], [0, 1, 2, 3, 4, 5, 6, 7, 8, 9, 10, 11, 12, 13, 14, 15, 16, 17, 18, 19], [0, 1, 2, 3, 4, 5, 6, 7, 8, 9, 10, 11, 12, 13, 14, 15, 16, 17, 18, 19, 20], [0, 1, 2, 3, 4, 5, 6, 7, 8, 9, 10, 11, 12, 13, 14, 15, 16, 17, 18, 19, 20, 21], [0, 1, 2, 3, 4, 5, 6, 7, 8, 9, 10, 11, 12, 13, 14, 15, 16, 17, 18, 19, 20, 21, 22], [0, 1, 2, 3, 4, 5, 6, 7, 8, 9, 10, 11, 12, 13, 14, 15, 16, 17, 18, 19, 20, 21, 22], [0, 1, 2, 3, 4, 5, 6, 7, 8, 9, 10, 11, 12, 13, 14, 15, 16, 17, 18, 19, 20, 21, 22, 23, 24], [0, 1, 2, 3, 4, 5, 6, 7, 8, 9, 10, 11, 12, 13, 14, 15, 16, 17, 18, 19, 20, 21, 22], [0, 1, 2, 3, 4, 5, 6, 7, 8, 9, 10, 11, 12, 13, 14, 15, 16, 17, 18, 19, 20, 21, 22, 23, 24, 25, 26], [0, 1, 2, 3, 4, 5, 6, 7, 8, 9, 10, 11, 12, 13, 14, 15, 16, 17, 18, 19, 20, 21, 22, 23, 24, 25, 26, 27], [0, 1, 2, 3, 4, 5, 6, 7, 8, 9, 10, 11, 12, 13, 14, 15, 16, 17, 18, 19, 20, 21, 22, 23, 24, 25, 26, 27, 28]]) [[0, 1, 2, 3, 4, 5, 6, 7, 8, 9, 10, 11, 12, 13, 14, 15, 16, 17, 18, 19, 20, 21, 22, 23, 24, 25, 26, 27, 28, 29]] (by kernel_rfl) (by kernel_rfl) (NoPanic.seq (NoPanic.block (NoPanic.seq (NoPanic.seq (NoPanic.block (NoPanic.seq (NoPanic.body))))))) ?_
    have hS9662 := hS9575.drew
    revert hS9662
    generalize World.drew w9574 = w9661
    intro hS9662
    refine ⟨⟨hS9662.cell 0 rfl 0 rfl, hS9662.cell 0 rfl 1 rfl, hS9662.cell 0 rfl 2 rfl, hS9662.cell 0 rfl 3 rfl, hS9662.cell 0 rfl 0 rfl, hS9662.cell 0 rfl 1 rfl, hS9662.cell 0 rfl 2 rfl, hS9662.cell 0 rfl 3 rfl, trivial⟩, forallC ?_ (forallN)⟩
    refine segF 2 [.v (iv ((rdD p0 x9561 z_Tile).N))] [0, 3, 4, 19] [(0, (.slice A_p0 p0.length c_p0)), (3, (iv x9561)), (4, (pt g9570)), (19, (iv ((rdD p0 x9561 z_Tile).N)))] [] [0] [(1, ⟨g9570, 0, none⟩, (iv ((rdD p0 x9561 z_Tile).N)))] (fun fb => by kernel_rfl) rfl trivial rfl ?_
    obtain ⟨t9665, ht9666, hl9567⟩ := bind_some hl9567
    refine WL.call (some 20) 35 #[(iv ((rdD p0 x9561 z_Tile).N))] (fun fb => by kernel_rfl) (ref01_colour_calls ((rdD p0 x9561 z_Tile).N) t9665 _ ht9666) (fun v w9667 hR9668 => ?_)
    obtain ⟨rfl, hk_⟩ := hR9668
    have hS9669 := hS9662.keepN hk_
    refine ⟨⟨hS9669.cell 0 rfl 1 rfl, hS9669.cell 0 rfl 2 rfl, hS9669.cell 0 rfl 3 rfl, hS9669.cell 0 rfl 0 rfl, hS9669.cell 0 rfl 1 rfl, hS9669.cell 0 rfl 2 rfl, hS9669.cell 0 rfl 3 rfl, trivial⟩, ?_⟩
    refine seg 5 [] [0, 3, 4, 22] [(0, (.slice A_p0 p0.length c_p0)), (3, (iv x9561)), (4, (pt g9570)), (22, (.bool (!t9665)))] [] (fun fb => by kernel_rfl) rfl trivial ?_
    obtain ⟨x9676, hx9677, hl9567⟩ := bind_some hl9567
    refine WL.cutW (T := Bool) 10 (fun t => [(0, (.slice A_p0 p0.length c_p0)), (3, (iv x9561)), (4, (pt g9570)), (27, (.bool t))]) (fun t w1 => (St NoS w w1 [rowR enc_Tile A_p0 c_p0 p0] [blk g9570 (.cells #[(iv ((rdD p0 x9561 z_Tile).N)), (iv ((rdD p0 x9561 z_Tile).E)), (iv ((rdD p0 x9561 z_Tile).S)), (iv ((rdD p0 x9561 z_Tile).W))] 24 (0, 0))] ∧ x9676 = t) ∧ CellsOK [] w1) (fun K => ?_) ?_
    ·
     rcases br_some hx9677 with ⟨h9678, hx9677⟩ | ⟨h9678, hx9677⟩
     ·
      refine WL.setB 22 h9678 rfl ?_
      refine seg 10 [] [0, 3, 4, 27] [(0, (.slice A_p0 p0.length c_p0)), (3, (iv x9561)), (4, (pt g9570)), (27, (.bool true))] [] (fun fb => by kernel_rfl) rfl trivial ?_
      injection hx9677 with hx9677
      exact WL.to K true [0, 3, 4, 27] rfl ⟨⟨(hS9669.subR [0]).sub [0] (by decide), hx9677.symm⟩, trivial⟩
     refine WL.setB 22 h9678 rfl ?_
     refine segF 7 [.v (iv ((rdD p0 x9561 z_Tile).E))] [0, 3, 4, 22, 24] [(0, (.slice A_p0 p0.length c_p0)), (3, (iv x9561)), (4, (pt g9570)), (22, (.bool false)), (24, (iv ((rdD p0 x9561 z_Tile).E)))] [] [1] [(6, ⟨g9570, 1, none⟩, (iv ((rdD p0 x9561 z_Tile).E)))] (fun fb => by kernel_rfl) rfl trivial rfl ?_
     obtain ⟨t9679, ht9680, hx9677⟩ := bind_some hx9677
     refine WL.call (some 25) 35 #[(iv ((rdD p0 x9561 z_Tile).E))] (fun fb => by kernel_rfl) (ref01_colour_calls ((rdD p0 x9561 z_Tile).E) t9679 _ ht9680) (fun v w9681 hR9682 => ?_)
     obtain ⟨rfl, hk_⟩ := hR9682
     have hS9683 := hS9669.keepN hk_
     refine ⟨⟨hS9683.cell 0 rfl 2 rfl, hS9683.cell 0 rfl 3 rfl, hS9683.cell 0 rfl 0 rfl, hS9683.cell 0 rfl 1 rfl, hS9683.cell 0 rfl 2 rfl, hS9683.cell 0 rfl 3 rfl, trivial⟩, ?_⟩
     refine seg 10 [] [0, 3, 4, 27] [(0, (.slice A_p0 p0.length c_p0)), (3, (iv x9561)), (4, (pt g9570)), (27, (.bool (!t9679)))] [] (fun fb => by kernel_rfl) rfl trivial ?_
     injection hx9677 with hx9677
     exact WL.to K (!t9679) [0, 3, 4, 27] rfl ⟨⟨(hS9683.subR [0]).sub [0] (by decide), hx9677.symm⟩, trivial⟩
    rintro y9684 w9686 ⟨⟨hS9687, hq9685⟩, hF9688⟩
    subst hq9685
    refine seg 11 [] [0, 3, 4, 28] [(0, (.slice A_p0 p0.length c_p0)), (3, (iv x9561)), (4, (pt g9570)), (28, (.bool x9676))] [] (fun fb => by kernel_rfl) rfl trivial ?_
    obtain ⟨x9695, hx9696, hl9567⟩ := bind_some hl9567
    refine WL.cutW (T := Bool) 16 (fun t => [(0, (.slice A_p0 p0.length c_p0)), (3, (iv x9561)), (4, (pt g9570)), (33, (.bool t))]) (fun t w1 => (St NoS w w1 [rowR enc_Tile A_p0 c_p0 p0] [blk g9570 (.cells #[(iv ((rdD p0 x9561 z_Tile).N)), (iv ((rdD p0 x9561 z_Tile).E)), (iv ((rdD p0 x9561 z_Tile).S)), (iv ((rdD p0 x9561 z_Tile).W))] 24 (0, 0))] ∧ x9695 = t) ∧ CellsOK [] w1) (fun K => ?_) ?_
    ·
     rcases br_some hx9696 with ⟨h9697, hx9696⟩ | ⟨h9697, hx9696⟩
     ·
      refine WL.setB 28 h9697 rfl ?_
      refine seg 16 [] [0, 3, 4, 33] [(0, (.slice A_p0 p0.length c_p0)), (3, (iv x9561)), (4, (pt g9570)), (33, (.bool true))] [] (fun fb => by kernel_rfl) rfl trivial ?_
      injection hx9696 with hx9696
      exact WL.to K true [0, 3, 4, 33] rfl ⟨⟨(hS9687.subR [0]).sub [0] (by decide), hx9696.symm⟩, trivial⟩
     refine WL.setB 28 h9697 rfl ?_
     refine segF 13 [.v (iv ((rdD p0 x9561 z_Tile).S))] [0, 3, 4, 28, 30] [(0, (.slice A_p0 p0.length c_p0)), (3, (iv x9561)), (4, (pt g9570)), (28, (.bool false)), (30, (iv ((rdD p0 x9561 z_Tile).S)))] [] [2] [(12, ⟨g9570, 2, none⟩, (iv ((rdD p0 x9561 z_Tile).S)))] (fun fb => by kernel_rfl) rfl trivial rfl ?_
     obtain ⟨t9698, ht9699, hx9696⟩ := bind_some hx9696
     refine WL.call (some 31) 35 #[(iv ((rdD p0 x9561 z_Tile).S))] (fun fb => by kernel_rfl) (ref01_colour_calls ((rdD p0 x9561 z_Tile).S) t9698 _ ht9699) (fun v w9700 hR9701 => ?_)
     obtain ⟨rfl, hk_⟩ := hR9701
     have hS9702 := hS9687.keepN hk_
     refine ⟨⟨hS9702.cell 0 rfl 3 rfl, hS9702.cell 0 rfl 0 rfl, hS9702.cell 0 rfl 1 rfl, hS9702.cell 0 rfl 2 rfl, hS9702.cell 0 rfl 3 rfl, trivial⟩, ?_⟩
     refine seg 16 [] [0, 3, 4, 33] [(0, (.slice A_p0 p0.length c_p0)), (3, (iv x9561)), (4, (pt g9570)), (33, (.bool (!t9698)))] [] (fun fb => by kernel_rfl) rfl trivial ?_
     injection hx9696 with hx9696
     exact WL.to K (!t9698) [0, 3, 4, 33] rfl ⟨⟨(hS9702.subR [0]).sub [0] (by decide), hx9696.symm⟩, trivial⟩
    rintro y9703 w9705 ⟨⟨hS9706, hq9704⟩, hF9707⟩
    subst hq9704
    refine seg 17 [] [0, 3, 4, 34] [(0, (.slice A_p0 p0.length c_p0)), (3, (iv x9561)), (4, (pt g9570)), (34, (.bool x9695))] [] (fun fb => by kernel_rfl) rfl trivial ?_
    obtain ⟨x9714, hx9715, hl9567⟩ := bind_some hl9567
    refine WL.cutW (T := Bool) 22 (fun t => [(0, (.slice A_p0 p0.length c_p0)), (3, (iv x9561)), (4, (pt g9570)), (39, (.bool t))]) (fun t w1 => (St NoS w w1 [rowR enc_Tile A_p0 c_p0 p0] [blk g9570 (.cells #[(iv ((rdD p0 x9561 z_Tile).N)), (iv ((rdD p0 x9561 z_Tile).E)), (iv ((rdD p0 x9561 z_Tile).S)), (iv ((rdD p0 x9561 z_Tile).W))] 24 (0, 0))] ∧ x9714 = t) ∧ CellsOK [] w1) (fun K => ?_) ?_
    ·
     rcases br_some hx9715 with ⟨h9716, hx9715⟩ | ⟨h9716, hx9715⟩
     ·
      refine WL.setB 34 h9716 rfl ?_
      refine seg 22 [] [0, 3, 4, 39] [(0, (.slice A_p0 p0.length c_p0)), (3, (iv x9561)), (4, (pt g9570)), (39, (.bool true))] [] (fun fb => by kernel_rfl) rfl trivial ?_
      injection hx9715 with hx9715
      exact WL.to K true [0, 3, 4, 39] rfl ⟨⟨(hS9706.subR [0]).sub [0] (by decide), hx9715.symm⟩, trivial⟩
     refine WL.setB 34 h9716 rfl ?_
     refine segF 19 [.v (iv ((rdD p0 x9561 z_Tile).W))] [0, 3, 4, 34, 36] [(0, (.slice A_p0 p0.length c_p0)), (3, (iv x9561)), (4, (pt g9570)), (34, (.bool false)), (36, (iv ((rdD p0 x9561 z_Tile).W)))] [] [3] [(18, ⟨g9570, 3, none⟩, (iv ((rdD p0 x9561 z_Tile).W)))] (fun fb => by kernel_rfl) rfl trivial rfl ?_
     obtain ⟨t9717, ht9718, hx9715⟩ := bind_some hx9715
     refine WL.call (some 37) 35 #[(iv ((rdD p0 x9561 z_Tile).W))] (fun fb => by kernel_rfl) (ref01_colour_calls ((rdD p0 x9561 z_Tile).W) t9717 _ ht9718) (fun v w9719 hR9720 => ?_)
     obtain ⟨rfl, hk_⟩ := hR9720
     have hS9721 := hS9706.keepN hk_
     refine ⟨⟨hS9721.cell 0 rfl 0 rfl, hS9721.cell 0 rfl 1 rfl, hS9721.cell 0 rfl 2 rfl, hS9721.cell 0 rfl 3 rfl, trivial⟩, ?_⟩
     refine seg 22 [] [0, 3, 4, 39] [(0, (.slice A_p0 p0.length c_p0)), (3, (iv x9561)), (4, (pt g9570)), (39, (.bool (!t9717)))] [] (fun fb => by kernel_rfl) rfl trivial ?_
     injection hx9715 with hx9715
     exact WL.to K (!t9717) [0, 3, 4, 39] rfl ⟨⟨(hS9721.subR [0]).sub [0] (by decide), hx9715.symm⟩, trivial⟩
    rintro y9722 w9724 ⟨⟨hS9725, hq9723⟩, hF9726⟩
    subst hq9723
    refine seg 23 [] [0, 3, 4, 40] [(0, (.slice A_p0 p0.length c_p0)), (3, (iv x9561)), (4, (pt g9570)), (40, (.bool x9714))] [] (fun fb => by kernel_rfl) rfl trivial ?_
    obtain ⟨x9735, hx9736, hl9567⟩ := bind_some hl9567
    refine WL.cutW (T := Bool) 30 (fun t => [(0, (.slice A_p0 p0.length c_p0)), (3, (iv x9561)), (47, (.bool t))]) (fun t w1 => (St NoS w w1 [rowR enc_Tile A_p0 c_p0 p0] [] ∧ x9735 = t) ∧ CellsOK [] w1) (fun K => ?_) ?_
    ·
     rcases br_some hx9736 with ⟨h9737, hx9736⟩ | ⟨h9737, hx9736⟩
     ·
      refine WL.setB 40 h9737 rfl ?_
      refine seg 30 [] [0, 3, 47] [(0, (.slice A_p0 p0.length c_p0)), (3, (iv x9561)), (47, (.bool true))] [] (fun fb => by kernel_rfl) rfl trivial ?_
      injection hx9736 with hx9736
      exact WL.to K true [0, 3, 47] rfl ⟨⟨(hS9725.subR [0]).sub [] (by decide), hx9736.symm⟩, trivial⟩
     refine WL.setB 40 h9737 rfl ?_
     refine seg 25 [] [0, 3, 4, 40, 41, 42] [(0, (.slice A_p0 p0.length c_p0)), (3, (iv x9561)), (4, (pt g9570)), (40, (.bool false)), (41, (.slice A_p0 p0.length c_p0)), (42, (iv x9561))] [] (fun fb => by kernel_rfl) rfl trivial ?_
     obtain ⟨h9738, hx9736⟩ := as_some hx9736
     refine seg 26 [] [0, 3, 4, 40, 43] [(0, (.slice A_p0 p0.length c_p0)), (3, (iv x9561)), (4, (pt g9570)), (40, (.bool false)), (43, (.slice (subA A_p0 c_p0 (0 : Int).toNat 4) (x9561.toNat - (0 : Int).toNat) (c_p0 - (0 : Int).toNat)))] [.idx (some ⟨0, 0, none⟩) (0 : Int) (x9561.toNat + 1), .idx (some ⟨0, 0, none⟩) x9561 (c_p0 + 1)] (fun fb => by kernel_rfl) rfl ⟨cut1 h9738.1 h9738.2.1, cut2 h9738.1 h9738.2.1 h9738.2.2 (hS9725.rd 0).1.2, trivial⟩ ?_
     refine WL.reE [0, 3, 4, 40, 43] [(0, (.slice A_p0 p0.length c_p0)), (3, (iv x9561)), (4, (pt g9570)), (40, (.bool false)), (43, (.slice (subA A_p0 c_p0 (0 : Int).toNat 4) (x9561.toNat - (0 : Int).toNat) (c_p0 - (0 : Int).toNat)))] [(0, (.slice A_p0 p0.length c_p0)), (3, (iv x9561)), (4, (pt g9570)), (40, (.bool false)), (43, (.slice (subA A_p0 c_p0 (0 : Int).toNat 4) (cut p0 (0 : Int) x9561).length (c_p0 - (0 : Int).toNat)))] rfl (by rw [cut_length h9738.1 h9738.2.1 h9738.2.2]) ?_
     have hS9739 := hS9725.cutR 0 rfl h9738.1 h9738.2.1 h9738.2.2
     refine segF 27 [.v (iv ((rdD p0 x9561 z_Tile).N)), .v (iv ((rdD p0 x9561 z_Tile).E)), .v (iv ((rdD p0 x9561 z_Tile).S)), .v (iv ((rdD p0 x9561 z_Tile).W))] [0, 3, 40, 43, 44] [(0, (.slice A_p0 p0.length c_p0)), (3, (iv x9561)), (40, (.bool false)), (43, (.slice (subA A_p0 c_p0 (0 : Int).toNat 4) (cut p0 (0 : Int) x9561).length (c_p0 - (0 : Int).toNat))), (44, (.agg #[(iv ((rdD p0 x9561 z_Tile).N)), (iv ((rdD p0 x9561 z_Tile).E)), (iv ((rdD p0 x9561 z_Tile).S)), (iv ((rdD p0 x9561 z_Tile).W))]))] [] [4, 5, 6, 7] [(26, ⟨g9570, 0, none⟩, (iv ((rdD p0 x9561 z_Tile).N))), (26, ⟨g9570, 1, none⟩, (iv ((rdD p0 x9561 z_Tile).E))), (26, ⟨g9570, 2, none⟩, (iv ((rdD p0 x9561 z_Tile).S))), (26, ⟨g9570, 3, none⟩, (iv ((rdD p0 x9561 z_Tile).W)))] (fun fb => by kernel_rfl) rfl trivial rfl ?_
     obtain ⟨t9740, ht9741, hx9736⟩ := bind_some hx9736
     refine WL.call (some 45) 12 #[(.slice (subA A_p0 c_p0 (0 : Int).toNat 4) (cut p0 (0 : Int) x9561).length (c_p0 - (0 : Int).toNat)), (.agg #[(iv ((rdD p0 x9561 z_Tile).N)), (iv ((rdD p0 x9561 z_Tile).E)), (iv ((rdD p0 x9561 z_Tile).S)), (iv ((rdD p0 x9561 z_Tile).W))])] (fun fb => by kernel_rfl) (ref01_Index_calls _ (cut p0 (0 : Int) x9561) (rdD p0 x9561 z_Tile) (subA A_p0 c_p0 (0 : Int).toNat 4) (c_p0 - (0 : Int).toNat) t9740 _ (hS9739.rd 0) ht9741) (fun v w9742 hR9743 => ?_)
     obtain ⟨rfl, hk_⟩ := hR9743
     have hS9744 := hS9739.keepN hk_
     refine ⟨trivial, ?_⟩
     refine seg 30 [] [0, 3, 47] [(0, (.slice A_p0 p0.length c_p0)), (3, (iv x9561)), (47, (.bool (decide (t9740 ≥ 0))))] [] (fun fb => by kernel_rfl) rfl trivial ?_
     injection hx9736 with hx9736
     exact WL.to K (decide (t9740 ≥ 0)) [0, 3, 47] rfl ⟨⟨(hS9744.subR [1]).sub [] (by decide), hx9736.symm⟩, trivial⟩
    rintro y9745 w9747 ⟨⟨hS9748, hq9746⟩, hF9749⟩
    subst hq9746
    refine WL.done rfl ?_
    refine WX.next ?_
    rcases br_some hl9567 with ⟨h9750, hl9567⟩ | ⟨h9750, hl9567⟩
    ·refine WC.condT2 (fun fb => by kernel_rfl) h9750 ?_
     refine WC.seq ?_
     refine WC.region ?_
     refine seg 1 [] [2] [(2, (.bool false))] [] (fun fb => by kernel_rfl) rfl trivial ?_
     refine WL.done rfl ?_
     refine WX.next ?_
     refine WC.ret ?_
     injection hl9567 with hl9567
     subst hl9567
     injection hf with hf
     subst hf
     exact WX.blockR (WX.thenR (WX.thenR (WX.blockR (WX.thenR (WX.ret_ [] (.bool false) [] (fun fb => by kernel_rfl) trivial ⟨_, rfl, rfl, hS9748.keep⟩)))))
    refine WC.condF2 (fun fb => by kernel_rfl) h9750 ?_
    refine WC.skip ?_
    refine WX.blockN (WX.next ?_)
    refine WC.region ?_
    refine seg 3 [] [0, 3] [(0, (.slice A_p0 p0.length c_p0)), (3, (iv (w64 (x9561 + 1))))] [] (fun fb => by kernel_rfl) rfl trivial ?_
    refine WL.done rfl ?_
    exact WX.again k9564 (Nat.lt_succ_self _) (w64 (x9561 + 1)) [0, 3] rfl ⟨(hS9748.subR [0]).sub [] (by decide), hl9567⟩
   refine WC.condF2 (fun fb => by kernel_rfl) h9568 ?_
   refine WC.exit ?_
   injection hl9567 with hl9567
   exact WX.thenX (WX.thenX (WX.blockHere (WX.to Kx9562 () [] rfl ⟨(hS9566.subR [0]).sub [] (by decide), hl9567.symm⟩)))
 rintro y9754 w9751 ⟨hS9752, hq9753⟩
 subst hq9753
 have hf := sum_inr hf
 refine WX.next ?_
 refine WC.seq ?_
 refine WC.region ?_
 refine seg 1 [] [2] [(2, (.bool true))] [] (fun fb => by kernel_rfl) rfl trivial ?_
 refine WL.done rfl ?_
 refine WX.next ?_
 refine WC.ret ?_
 injection hf with hf
 subst hf
 exact WX.ret_ [] (.bool true) [] (fun fb => by kernel_rfl) trivial ⟨_, rfl, rfl, hS9752.keep⟩
theorem law09_code_calls (k : Nat) (p0 : List Tile) (A_p0 : Option Addr) (c_p0 : Nat) (r : Int) (w : World) (hR0 : RO NoS w (rowR enc_Tile A_p0 c_p0 p0)) (hf : law09_code k p0 = some r) :
  CallsR Try.prog 23 #[(.slice A_p0 p0.length c_p0)] w (fun v w' => v = (iv r) ∧ Keeps NoS w w') := by
 have hS : St NoS w w [rowR enc_Tile A_p0 c_p0 p0] [] := St.init (ro_cons hR0 (ro_nil _ _))
 refine enter 11 Try.func23 rfl Try.ntmps23 rfl ?_
 unfold law09_code at hf
 refine WC.seq ?_
 refine WC.region ?_
 refine seg 1 [] [0] [(0, (.slice A_p0 p0.length c_p0))] [] (fun fb => by kernel_rfl) rfl trivial ?_
 refine WL.done rfl ?_
 refine WX.next ?_
 refine WC.seq ?_
 refine WC.block ?_
 refine WC.seq ?_
 refine WC.region ?_
 refine seg 1 [] [0, 4] [(0, (.slice A_p0 p0.length c_p0)), (4, (.slice A_p0 p0.length c_p0))] [] (fun fb => by kernel_rfl) rfl trivial ?_
 obtain ⟨t9756, ht9757, hf⟩ := bind_some hf
 refine WL.call (some 5) 13 #[(.slice A_p0 p0.length c_p0)] (fun fb => by kernel_rfl) (ref01_Valid_calls _ p0 A_p0 c_p0 t9756 _ (hS.rd 0) ht9757) (fun v w9758 hR9759 => ?_)
 obtain ⟨rfl, hk_⟩ := hR9759
 have hS9760 := hS.keepN hk_
 refine ⟨trivial, ?_⟩
 refine seg 4 [] [0, 3] [(0, (.slice A_p0 p0.length c_p0)), (3, (.bool (!t9756)))] [] (fun fb => by kernel_rfl) rfl trivial ?_
 refine WL.done rfl ?_
 refine WX.next ?_
 rcases br_some hf with ⟨h9761, hf⟩ | ⟨h9761, hf⟩
 ·refine WC.condT2 (fun fb => by kernel_rfl) h9761 ?_
  refine WC.seq ?_
  refine WC.region ?_
  refine seg 1 [] [2] [(2, (iv 1))] [] (fun fb => by kernel_rfl) rfl trivial ?_
  refine WL.done rfl ?_
  refine WX.next ?_
  refine WC.ret ?_
  injection hf with hf
  subst hf
  exact WX.blockR (WX.thenR (WX.ret_ [] (iv 1) [] (fun fb => by kernel_rfl) trivial ⟨_, rfl, rfl, hS9760.keep⟩))
 refine WC.condF2 (fun fb => by kernel_rfl) h9761 ?_
 refine WC.seq ?_
 refine WC.region ?_
 refine seg 4 [] [7] [(7, (.bool (decide ((p0.length : Int) > 3))))] [] (fun fb => by kernel_rfl) rfl trivial ?_
 refine WL.done rfl ?_
 refine WX.next ?_
 rcases br_some hf with ⟨h9762, hf⟩ | ⟨h9762, hf⟩
 ·refine WC.condT2 (fun fb => by kernel_rfl) h9762 ?_
  refine WC.seq ?_
  refine WC.region ?_
  refine seg 1 [] [2] [(2, (iv 2))] [] (fun fb => by kernel_rfl) rfl trivial ?_
  refine WL.done rfl ?_
  refine WX.next ?_
  refine WC.ret ?_
  injection hf with hf
  subst hf
  exact WX.blockR (WX.thenR (WX.ret_ [] (iv 2) [] (fun fb => by kernel_rfl) trivial ⟨_, rfl, rfl, hS9760.keep⟩))
 refine WC.condF2 (fun fb => by kernel_rfl) h9762 ?_
 refine WC.skip ?_
 refine WX.blockN (WX.next ?_)
 refine WC.seq ?_
 refine WC.region ?_
 refine seg 1 [] [2] [(2, (iv 0))] [] (fun fb => by kernel_rfl) rfl trivial ?_
 refine WL.done rfl ?_
 refine WX.next ?_
 refine WC.ret ?_
 injection hf with hf
 subst hf
 exact WX.ret_ [] (iv 0) [] (fun fb => by kernel_rfl) trivial ⟨_, rfl, rfl, hS9760.keep⟩
theorem law09_none_calls (p0 : Pattern) (A_p0_Cells : Option Addr) (c_p0_Cells : Nat) (r : Bool) (w : World) (hR0 : RO NoS w (rowR encInt A_p0_Cells c_p0_Cells p0.Cells)) (hf : law09_none p0 = some r) :
  CallsR Try.prog 20 #[(.agg #[(iv p0.Width), (iv p0.Height), (.slice A_p0_Cells p0.Cells.length c_p0_Cells)])] w (fun v w' => v = (.bool r) ∧ Keeps NoS w w') := by
 have hS : St NoS w w [rowR encInt A_p0_Cells c_p0_Cells p0.Cells] [] := St.init (ro_cons hR0 (ro_nil _ _))
 refine enter 17 Try.func20 rfl Try.ntmps20 rfl ?_
 unfold law09_none at hf
 refine WC.seq ?_
 refine WC.region ?_
 refine WL.new hS 1 [] (fun g => (.pointer (some ⟨g, 0, none⟩))) (.cells #[(iv p0.Width), (iv p0.Height), (.slice A_p0_Cells p0.Cells.length c_p0_Cells)] 38 (0, 0)) [] (fun fb g => by kernel_rfl) trivial (fun g9777 w9778 hS9779 => ?_)
 refine ⟨trivial, ?_⟩
 refine seg 2 [] [1] [(1, (pt g9777))] [] (fun fb => by kernel_rfl) rfl trivial ?_
 refine WL.done rfl ?_
 refine WX.next ?_
 refine WC.seq ?_
 refine WC.region ?_
 refine seg 4 [.v (iv p0.Width)] [1, 6] [(1, (pt g9777)), (6, (.bool (p0.Width == 0)))] [.cell ⟨g9777, 0, none⟩ (iv p0.Width)] (fun fb => by kernel_rfl) rfl ⟨hS9779.cell 0 rfl 0 rfl, trivial⟩ ?_
 refine WL.cutV (T := Bool) 8 (fun t => [(10, (.bool t)), (1, (pt g9777))]) (fun t => ((p0.Width == 0) && (p0.Height == 0)) = t) (fun K => ?_) ?_
 ·
  rcases Bool.eq_false_or_eq_true (p0.Width == 0) with h9781 | h9781
  ·
   refine WL.setB 6 h9781 rfl ?_
   refine seg 8 [.v (iv p0.Height)] [1, 10] [(1, (pt g9777)), (10, (.bool (p0.Height == 0)))] [.cell ⟨g9777, 1, none⟩ (iv p0.Height)] (fun fb => by kernel_rfl) rfl ⟨hS9779.cell 0 rfl 1 rfl, trivial⟩ ?_
   exact WL.toV K (p0.Height == 0) [10, 1] rfl (by first | (rw [h9781]; done) | (rw [h9781]; rfl))
  refine WL.setB 6 h9781 rfl ?_
  refine seg 8 [] [1, 10] [(1, (pt g9777)), (10, (.bool false))] [] (fun fb => by kernel_rfl) rfl trivial ?_
  exact WL.toV K false [10, 1] rfl (by first | (rw [h9781]; done) | (rw [h9781]; rfl))
 rintro b9782 rfl
 refine seg 9 [] [1, 11] [(1, (pt g9777)), (11, (.bool ((p0.Width == 0) && (p0.Height == 0))))] [] (fun fb => by kernel_rfl) rfl trivial ?_
 refine WL.cutV (T := Bool) 14 (fun t => [(16, (.bool t))]) (fun t => (((p0.Width == 0) && (p0.Height == 0)) && ((p0.Cells.length : Int) == 0)) = t) (fun K => ?_) ?_
 ·
  rcases Bool.eq_false_or_eq_true ((p0.Width == 0) && (p0.Height == 0)) with h9783 | h9783
  ·
   refine WL.setB 11 h9783 rfl ?_
   refine seg 14 [.v (.slice A_p0_Cells p0.Cells.length c_p0_Cells)] [16] [(16, (.bool ((p0.Cells.length : Int) == 0)))] [.cell ⟨g9777, 2, none⟩ (.slice A_p0_Cells p0.Cells.length c_p0_Cells)] (fun fb => by kernel_rfl) rfl ⟨hS9779.cell 0 rfl 2 rfl, trivial⟩ ?_
   exact WL.toV K ((p0.Cells.length : Int) == 0) [16] rfl (by first | (rw [h9783]; done) | (rw [h9783]; rfl))
  refine WL.setB 11 h9783 rfl ?_
  refine seg 14 [] [16] [(16, (.bool false))] [] (fun fb => by kernel_rfl) rfl trivial ?_
  exact WL.toV K false [16] rfl (by first | (rw [h9783]; done) | (rw [h9783]; rfl))
 rintro b9784 rfl
 refine seg 15 [] [2] [(2, (.bool (((p0.Width == 0) && (p0.Height == 0)) && ((p0.Cells.length : Int) == 0))))] [] (fun fb => by kernel_rfl) rfl trivial ?_
 refine WL.done rfl ?_
 refine WX.next ?_
 refine WC.ret ?_
 injection hf with hf
 subst hf
 exact WX.ret_ [] (.bool (((p0.Width == 0) && (p0.Height == 0)) && ((p0.Cells.length : Int) == 0))) [] (fun fb => by kernel_rfl) trivial ⟨_, rfl, rfl, hS9779.keep⟩
theorem law09_zero_calls (p0 : Verdict) (A_p0_Torus_Cells : Option Addr) (c_p0_Torus_Cells : Nat) (r : Bool) (w : World) (hR0 : RO NoS w (rowR encInt A_p0_Torus_Cells c_p0_Torus_Cells p0.Torus.Cells)) (hf : law09_zero p0 = some r) :
  CallsR Try.prog 24 #[(.agg #[(.bool p0.Fills), (iv p0.Torus.Width), (iv p0.Torus.Height), (.slice A_p0_Torus_Cells p0.Torus.Cells.length c_p0_Torus_Cells), (iv p0.Side)])] w (fun v w' => v = (.bool r) ∧ Keeps NoS w w') := by
 have hS : St NoS w w [rowR encInt A_p0_Torus_Cells c_p0_Torus_Cells p0.Torus.Cells] [] := St.init (ro_cons hR0 (ro_nil _ _))
 refine enter 16 Try.func24 rfl Try.ntmps24 rfl ?_
 unfold law09_zero at hf
 refine WC.seq ?_
 refine WC.region ?_
 refine WL.new hS 1 [] (fun g => (.pointer (some ⟨g, 0, none⟩))) (.cells #[(.bool p0.Fills), (iv p0.Torus.Width), (iv p0.Torus.Height), (.slice A_p0_Torus_Cells p0.Torus.Cells.length c_p0_Torus_Cells), (iv p0.Side)] 40 (0, 0)) [] (fun fb g => by kernel_rfl) trivial (fun g9771 w9772 hS9773 => ?_)
 refine ⟨trivial, ?_⟩
 refine seg 2 [] [1] [(1, (pt g9771))] [] (fun fb => by kernel_rfl) rfl trivial ?_
 refine WL.done rfl ?_
 refine WX.next ?_
 refine WC.seq ?_
 refine WC.region ?_
 refine seg 4 [.v (.bool p0.Fills)] [1, 6] [(1, (pt g9771)), (6, (.bool (!p0.Fills)))] [.cell ⟨g9771, 0, none⟩ (.bool p0.Fills)] (fun fb => by kernel_rfl) rfl ⟨hS9773.cell 0 rfl 0 rfl, trivial⟩ ?_
 refine WL.cutV (T := Bool) 8 (fun t => [(10, (.bool t)), (1, (pt g9771))]) (fun t => ((!p0.Fills) && (p0.Side == 0)) = t) (fun K => ?_) ?_
 ·
  rcases Bool.eq_false_or_eq_true (!p0.Fills) with h9775 | h9775
  ·
   refine WL.setB 6 h9775 rfl ?_
   refine seg 8 [.v (iv p0.Side)] [1, 10] [(1, (pt g9771)), (10, (.bool (p0.Side == 0)))] [.cell ⟨g9771, 4, none⟩ (iv p0.Side)] (fun fb => by kernel_rfl) rfl ⟨hS9773.cell 0 rfl 4 rfl, trivial⟩ ?_
   exact WL.toV K (p0.Side == 0) [10, 1] rfl (by first | (rw [h9775]; done) | (rw [h9775]; rfl))
  refine WL.setB 6 h9775 rfl ?_
  refine seg 8 [] [1, 10] [(1, (pt g9771)), (10, (.bool false))] [] (fun fb => by kernel_rfl) rfl trivial ?_
  exact WL.toV K false [10, 1] rfl (by first | (rw [h9775]; done) | (rw [h9775]; rfl))
 rintro b9776 rfl
 refine seg 9 [] [1, 11] [(1, (pt g9771)), (11, (.bool ((!p0.Fills) && (p0.Side == 0))))] [] (fun fb => by kernel_rfl) rfl trivial ?_
 obtain ⟨x9791, hx9792, hf⟩ := bind_some hf
 refine WL.cutW (T := Bool) 13 (fun t => [(15, (.bool t))]) (fun t w1 => (St NoS w w1 [rowR encInt A_p0_Torus_Cells c_p0_Torus_Cells p0.Torus.Cells] [] ∧ x9791 = t) ∧ CellsOK [] w1) (fun K => ?_) ?_
 ·
  rcases br_some hx9792 with ⟨h9793, hx9792⟩ | ⟨h9793, hx9792⟩
  ·
   refine WL.setB 11 h9793 rfl ?_
   refine seg 11 [.v (iv p0.Torus.Width), .v (iv p0.Torus.Height), .v (.slice A_p0_Torus_Cells p0.Torus.Cells.length c_p0_Torus_Cells)] [11, 13] [(11, (.bool true)), (13, (.agg #[(iv p0.Torus.Width), (iv p0.Torus.Height), (.slice A_p0_Torus_Cells p0.Torus.Cells.length c_p0_Torus_Cells)]))] [.cell ⟨g9771, 1, none⟩ (iv p0.Torus.Width), .cell ⟨g9771, 2, none⟩ (iv p0.Torus.Height), .cell ⟨g9771, 3, none⟩ (.slice A_p0_Torus_Cells p0.Torus.Cells.length c_p0_Torus_Cells)] (fun fb => by kernel_rfl) rfl ⟨hS9773.cell 0 rfl 1 rfl, hS9773.cell 0 rfl 2 rfl, hS9773.cell 0 rfl 3 rfl, trivial⟩ ?_
   obtain ⟨t9794, ht9795, hx9792⟩ := bind_some hx9792
   refine WL.call (some 14) 20 #[(.agg #[(iv p0.Torus.Width), (iv p0.Torus.Height), (.slice A_p0_Torus_Cells p0.Torus.Cells.length c_p0_Torus_Cells)])] (fun fb => by kernel_rfl) (law09_none_calls p0.Torus A_p0_Torus_Cells c_p0_Torus_Cells t9794 _ (hS9773.rd 0) ht9795) (fun v w9796 hR9797 => ?_)
   obtain ⟨rfl, hk_⟩ := hR9797
   have hS9798 := hS9773.keepN hk_
   refine ⟨trivial, ?_⟩
   refine seg 13 [] [15] [(15, (.bool t9794))] [] (fun fb => by kernel_rfl) rfl trivial ?_
   injection hx9792 with hx9792
   exact WL.to K t9794 [15] rfl ⟨⟨(hS9798.subR [0]).sub [] (by decide), hx9792.symm⟩, trivial⟩
  refine WL.setB 11 h9793 rfl ?_
  refine seg 13 [] [15] [(15, (.bool false))] [] (fun fb => by kernel_rfl) rfl trivial ?_
  injection hx9792 with hx9792
  exact WL.to K false [15] rfl ⟨⟨(hS9773.subR [0]).sub [] (by decide), hx9792.symm⟩, trivial⟩
 rintro y9799 w9801 ⟨⟨hS9802, hq9800⟩, hF9803⟩
 subst hq9800
 refine seg 14 [] [2] [(2, (.bool x9791))] [] (fun fb => by kernel_rfl) rfl trivial ?_
 refine WL.done rfl ?_
 refine WX.next ?_
 refine WC.ret ?_
 injection hf with hf
 subst hf
 exact WX.ret_ [] (.bool x9791) [] (fun fb => by kernel_rfl) trivial ⟨_, rfl, rfl, hS9802.keep⟩
theorem tile_Form_calls (p0 : Pattern) (A_p0_Cells : Option Addr) (c_p0_Cells : Nat) (r : Bool) (w : World) (hR0 : RO NoS w (rowR encInt A_p0_Cells c_p0_Cells p0.Cells)) (hf : tile_Form p0 = some r) :
  CallsR Try.prog 64 #[(.agg #[(iv p0.Width), (iv p0.Height), (.slice A_p0_Cells p0.Cells.length c_p0_Cells)])] w (fun v w' => v = (.bool r) ∧ Keeps NoS w w') := by
 have hS : St NoS w w [rowR encInt A_p0_Cells c_p0_Cells p0.Cells] [] := St.init (ro_cons hR0 (ro_nil _ _))
 refine enter 40 Try.func64 rfl Try.ntmps64 rfl ?_
 unfold tile_Form at hf
 refine WC.seq ?_
 refine WC.region ?_
 refine WL.new hS 1 [] (fun g => (.pointer (some ⟨g, 0, none⟩))) (.cells #[(iv p0.Width), (iv p0.Height), (.slice A_p0_Cells p0.Cells.length c_p0_Cells)] 38 (0, 0)) [] (fun fb g => by kernel_rfl) trivial (fun g9872 w9873 hS9874 => ?_)
 refine ⟨trivial, ?_⟩
 refine seg 2 [] [1] [(1, (pt g9872))] [] (fun fb => by kernel_rfl) rfl trivial ?_
 refine WL.done rfl ?_
 refine WX.next ?_
 refine WC.seq ?_
 refine WC.region ?_
 refine seg 4 [.v (iv p0.Width)] [1, 6] [(1, (pt g9872)), (6, (.bool (decide (p0.Width ≥ 1))))] [.cell ⟨g9872, 0, none⟩ (iv p0.Width)] (fun fb => by kernel_rfl) rfl ⟨hS9874.cell 0 rfl 0 rfl, trivial⟩ ?_
 refine WL.cutV (T := Bool) 8 (fun t => [(10, (.bool t)), (1, (pt g9872))]) (fun t => ((decide (p0.Width ≥ 1)) && (decide (p0.Height ≥ 1))) = t) (fun K => ?_) ?_
 ·
  rcases Bool.eq_false_or_eq_true (decide (p0.Width ≥ 1)) with h9876 | h9876
  ·
   refine WL.setB 6 h9876 rfl ?_
   refine seg 8 [.v (iv p0.Height)] [1, 10] [(1, (pt g9872)), (10, (.bool (decide (p0.Height ≥ 1))))] [.cell ⟨g9872, 1, none⟩ (iv p0.Height)] (fun fb => by kernel_rfl) rfl ⟨hS9874.cell 0 rfl 1 rfl, trivial⟩ ?_
   exact WL.toV K (decide (p0.Height ≥ 1)) [10, 1] rfl (by first | (rw [h9876]; done) | (rw [h9876]; rfl))
  refine WL.setB 6 h9876 rfl ?_
  refine seg 8 [] [1, 10] [(1, (pt g9872)), (10, (.bool false))] [] (fun fb => by kernel_rfl) rfl trivial ?_
  exact WL.toV K false [10, 1] rfl (by first | (rw [h9876]; done) | (rw [h9876]; rfl))
 rintro b9877 rfl
 refine seg 9 [] [1, 11] [(1, (pt g9872)), (11, (.bool ((decide (p0.Width ≥ 1)) && (decide (p0.Height ≥ 1)))))] [] (fun fb => by kernel_rfl) rfl trivial ?_
 refine WL.cutV (T := Bool) 13 (fun t => [(15, (.bool t)), (1, (pt g9872))]) (fun t => (((decide (p0.Width ≥ 1)) && (decide (p0.Height ≥ 1))) && (decide (p0.Width ≤ 40000))) = t) (fun K => ?_) ?_
 ·
  rcases Bool.eq_false_or_eq_true ((decide (p0.Width ≥ 1)) && (decide (p0.Height ≥ 1))) with h9878 | h9878
  ·
   refine WL.setB 11 h9878 rfl ?_
   refine seg 13 [.v (iv p0.Width)] [1, 15] [(1, (pt g9872)), (15, (.bool (decide (p0.Width ≤ 40000))))] [.cell ⟨g9872, 0, none⟩ (iv p0.Width)] (fun fb => by kernel_rfl) rfl ⟨hS9874.cell 0 rfl 0 rfl, trivial⟩ ?_
   exact WL.toV K (decide (p0.Width ≤ 40000)) [15, 1] rfl (by first | (rw [h9878]; done) | (rw [h9878]; rfl))
  refine WL.setB 11 h9878 rfl ?_
  refine seg 13 [] [1, 15] [(1, (pt g9872)), (15, (.bool false))] [] (fun fb => by kernel_rfl) rfl trivial ?_
  exact WL.toV K false [15, 1] rfl (by first | (rw [h9878]; done) | (rw [h9878]; rfl))
 rintro b9879 rfl
 refine seg 14 [] [1, 16] [(1, (pt g9872)), (16, (.bool (((decide (p0.Width ≥ 1)) && (decide (p0.Height ≥ 1))) && (decide (p0.Width ≤ 40000)))))] [] (fun fb => by kernel_rfl) rfl trivial ?_
 refine WL.cutV (T := Bool) 18 (fun t => [(20, (.bool t)), (1, (pt g9872))]) (fun t => ((((decide (p0.Width ≥ 1)) && (decide (p0.Height ≥ 1))) && (decide (p0.Width ≤ 40000))) && (decide (p0.Height ≤ 40000))) = t) (fun K => ?_) ?_
 ·
  rcases Bool.eq_false_or_eq_true (((decide (p0.Width ≥ 1)) && (decide (p0.Height ≥ 1))) && (decide (p0.Width ≤ 40000))) with h9880 | h9880
  ·
   refine WL.setB 16 h9880 rfl ?_
   refine seg 18 [.v (iv p0.Height)] [1, 20] [(1, (pt g9872)), (20, (.bool (decide (p0.Height ≤ 40000))))] [.cell ⟨g9872, 1, none⟩ (iv p0.Height)] (fun fb => by kernel_rfl) rfl ⟨hS9874.cell 0 rfl 1 rfl, trivial⟩ ?_
   exact WL.toV K (decide (p0.Height ≤ 40000)) [20, 1] rfl (by first | (rw [h9880]; done) | (rw [h9880]; rfl))
  refine WL.setB 16 h9880 rfl ?_
  refine seg 18 [] [1, 20] [(1, (pt g9872)), (20, (.bool false))] [] (fun fb => by kernel_rfl) rfl trivial ?_
  exact WL.toV K false [20, 1] rfl (by first | (rw [h9880]; done) | (rw [h9880]; rfl))
 rintro b9881 rfl
 refine seg 19 [] [1, 21] [(1, (pt g9872)), (21, (.bool ((((decide (p0.Width ≥ 1)) && (decide (p0.Height ≥ 1))) && (decide (p0.Width ≤ 40000))) && (decide (p0.Height ≤ 40000)))))] [] (fun fb => by kernel_rfl) rfl trivial ?_
 refine WL.cutV (T := Bool) 26 (fun t => [(28, (.bool t)), (1, (pt g9872))]) (fun t => (((((decide (p0.Width ≥ 1)) && (decide (p0.Height ≥ 1))) && (decide (p0.Width ≤ 40000))) && (decide (p0.Height ≤ 40000))) && (decide (w64 (p0.Width * p0.Height) ≤ 40000))) = t) (fun K => ?_) ?_
 ·
  rcases Bool.eq_false_or_eq_true ((((decide (p0.Width ≥ 1)) && (decide (p0.Height ≥ 1))) && (decide (p0.Width ≤ 40000))) && (decide (p0.Height ≤ 40000))) with h9882 | h9882
  ·
   refine WL.setB 21 h9882 rfl ?_
   refine seg 26 [.v (iv p0.Width), .v (iv p0.Height)] [1, 28] [(1, (pt g9872)), (28, (.bool (decide (w64 (p0.Width * p0.Height) ≤ 40000))))] [.cell ⟨g9872, 0, none⟩ (iv p0.Width), .cell ⟨g9872, 1, none⟩ (iv p0.Height)] (fun fb => by kernel_rfl) rfl ⟨hS9874.cell 0 rfl 0 rfl, hS9874.cell 0 rfl 1 rfl, trivial⟩ ?_
   exact WL.toV K (decide (w64 (p0.Width * p0.Height) ≤ 40000)) [28, 1] rfl (by first | (rw [h9882]; done) | (rw [h9882]; rfl))
  refine WL.setB 21 h9882 rfl ?_
  refine seg 26 [] [1, 28] [(1, (pt g9872)), (28, (.bool false))] [] (fun fb => by kernel_rfl) rfl trivial ?_
  exact WL.toV K false [28, 1] rfl (by first | (rw [h9882]; done) | (rw [h9882]; rfl))
 rintro b9883 rfl
 refine seg 27 [] [1, 29] [(1, (pt g9872)), (29, (.bool (((((decide (p0.Width ≥ 1)) && (decide (p0.Height ≥ 1))) && (decide (p0.Width ≤ 40000))) && (decide (p0.Height ≤ 40000))) && (decide (w64 (p0.Width * p0.Height) ≤ 40000)))))] [] (fun fb => by kernel_rfl) rfl trivial ?_
 refine WL.cutV (T := Bool) 37 (fun t => [(39, (.bool t))]) (fun t => ((((((decide (p0.Width ≥ 1)) && (decide (p0.Height ≥ 1))) && (decide (p0.Width ≤ 40000))) && (decide (p0.Height ≤ 40000))) && (decide (w64 (p0.Width * p0.Height) ≤ 40000))) && ((p0.Cells.length : Int) == (w64 (p0.Width * p0.Height)))) = t) (fun K => ?_) ?_
 ·
  rcases Bool.eq_false_or_eq_true (((((decide (p0.Width ≥ 1)) && (decide (p0.Height ≥ 1))) && (decide (p0.Width ≤ 40000))) && (decide (p0.Height ≤ 40000))) && (decide (w64 (p0.Width * p0.Height) ≤ 40000))) with h9884 | h9884
  ·
   refine WL.setB 29 h9884 rfl ?_
   refine seg 37 [.v (.slice A_p0_Cells p0.Cells.length c_p0_Cells), .v (iv p0.Width), .v (iv p0.Height)] [39] [(39, (.bool ((p0.Cells.length : Int) == (w64 (p0.Width * p0.Height)))))] [.cell ⟨g9872, 2, none⟩ (.slice A_p0_Cells p0.Cells.length c_p0_Cells), .cell ⟨g9872, 0, none⟩ (iv p0.Width), .cell ⟨g9872, 1, none⟩ (iv p0.Height)] (fun fb => by kernel_rfl) rfl ⟨hS9874.cell 0 rfl 2 rfl, hS9874.cell 0 rfl 0 rfl, hS9874.cell 0 rfl 1 rfl, trivial⟩ ?_
   exact WL.toV K ((p0.Cells.length : Int) == (w64 (p0.Width * p0.Height))) [39] rfl (by first | (rw [h9884]; done) | (rw [h9884]; rfl))
  refine WL.setB 29 h9884 rfl ?_
  refine seg 37 [] [39] [(39, (.bool false))] [] (fun fb => by kernel_rfl) rfl trivial ?_
  exact WL.toV K false [39] rfl (by first | (rw [h9884]; done) | (rw [h9884]; rfl))
 rintro b9885 rfl
 refine seg 38 [] [2] [(2, (.bool ((((((decide (p0.Width ≥ 1)) && (decide (p0.Height ≥ 1))) && (decide (p0.Width ≤ 40000))) && (decide (p0.Height ≤ 40000))) && (decide (w64 (p0.Width * p0.Height) ≤ 40000))) && ((p0.Cells.length : Int) == (w64 (p0.Width * p0.Height))))))] [] (fun fb => by kernel_rfl) rfl trivial ?_
 refine WL.done rfl ?_
 refine WX.next ?_
 refine WC.ret ?_
 injection hf with hf
 subst hf
 exact WX.ret_ [] (.bool ((((((decide (p0.Width ≥ 1)) && (decide (p0.Height ≥ 1))) && (decide (p0.Width ≤ 40000))) && (decide (p0.Height ≤ 40000))) && (decide (w64 (p0.Width * p0.Height) ≤ 40000))) && ((p0.Cells.length : Int) == (w64 (p0.Width * p0.Height))))) [] (fun fb => by kernel_rfl) trivial ⟨_, rfl, rfl, hS9874.keep⟩
theorem tile_of_1_calls (p0 : Int) (f0 : List Tile) (g_f0 : Nat) (A_f0 : Option Addr) (c_f0 : Nat) (r : Bool) (w : World) (hR0 : RO NoS w (blk g_f0 (.cells #[(.slice A_f0 f0.length c_f0)] 22 (0, 0)))) (hR1 : RO NoS w (rowR enc_Tile A_f0 c_f0 f0)) (hf : tile_of_1 p0 f0 = some r) :
  CallsR Try.prog 66 #[(iv p0), (.pointer (some ⟨g_f0, 0, none⟩))] w (fun v w' => v = (.bool r) ∧ Keeps NoS w w') := by
 have hS : St NoS w w [blk g_f0 (.cells #[(.slice A_f0 f0.length c_f0)] 22 (0, 0)), rowR enc_Tile A_f0 c_f0 f0] [] := St.init (ro_cons hR0 (ro_cons hR1 (ro_nil _ _)))
 refine enter 12 Try.func66 rfl Try.ntmps66 rfl ?_
 unfold tile_of_1 at hf
 refine WC.seq ?_
 refine WC.region ?_
 refine seg 1 [] [0, 1] [(0, (iv p0)), (1, (.pointer (some ⟨g_f0, 0, none⟩)))] [] (fun fb => by kernel_rfl) rfl trivial ?_
 refine WL.done rfl ?_
 refine WX.next ?_
 refine WC.seq ?_
 refine WC.region ?_
 refine seg 3 [] [0, 1, 6] [(0, (iv p0)), (1, (.pointer (some ⟨g_f0, 0, none⟩))), (6, (.bool (decide (p0 < 0))))] [] (fun fb => by kernel_rfl) rfl trivial ?_
 refine WL.cutV (T := Bool) 8 (fun t => [(11, (.bool t))]) (fun t => ((decide (p0 < 0)) || (decide (p0 ≥ (f0.length : Int)))) = t) (fun K => ?_) ?_
 ·
  rcases Bool.eq_false_or_eq_true (decide (p0 < 0)) with h9907 | h9907
  ·
   refine WL.setB 6 h9907 rfl ?_
   refine seg 8 [] [11] [(11, (.bool true))] [] (fun fb => by kernel_rfl) rfl trivial ?_
   exact WL.toV K true [11] rfl (by first | (rw [h9907]; done) | (rw [h9907]; rfl))
  refine WL.setB 6 h9907 rfl ?_
  refine seg 8 [.v (.slice A_f0 f0.length c_f0)] [11] [(11, (.bool (decide (p0 ≥ (f0.length : Int)))))] [.cell ⟨g_f0, 0, none⟩ (.slice A_f0 f0.length c_f0)] (fun fb => by kernel_rfl) rfl ⟨blk_cell (hS.rd 0).1 0 rfl, trivial⟩ ?_
  exact WL.toV K (decide (p0 ≥ (f0.length : Int))) [11] rfl (by first | (rw [h9907]; done) | (rw [h9907]; rfl))
 rintro b9908 rfl
 refine seg 9 [] [3] [(3, (.bool ((decide (p0 < 0)) || (decide (p0 ≥ (f0.length : Int))))))] [] (fun fb => by kernel_rfl) rfl trivial ?_
 refine WL.done rfl ?_
 refine WX.next ?_
 refine WC.ret ?_
 injection hf with hf
 subst hf
 exact WX.ret_ [] (.bool ((decide (p0 < 0)) || (decide (p0 ≥ (f0.length : Int))))) [] (fun fb => by kernel_rfl) trivial ⟨_, rfl, rfl, hS.keep⟩
theorem slices_IndexFunc_int_int_with_tile_of_1_calls (k : Nat) (p0 : List Int) (p1_0 : List Tile) (A_p0 : Option Addr) (c_p0 : Nat) (g_p1_0 : Nat) (A_p1_0 : Option Addr) (c_p1_0 : Nat) (r : Int) (w : World) (hR0 : RO NoS w (rowR encInt A_p0 c_p0 p0)) (hR1 : RO NoS w (blk g_p1_0 (.cells #[(.slice A_p1_0 p1_0.length c_p1_0)] 22 (0, 0)))) (hR2 : RO NoS w (rowR enc_Tile A_p1_0 c_p1_0 p1_0)) (hf : slices_IndexFunc_int_int_with_tile_of_1 k p0 p1_0 = some r) :
  CallsR Try.prog 81 #[(.slice A_p0 p0.length c_p0), (.func (.func 66) #[] #[(.pointer (some ⟨g_p1_0, 0, none⟩))])] w (fun v w' => v = (iv r) ∧ Keeps NoS w w') := by
 have hS : St NoS w w [rowR encInt A_p0 c_p0 p0, blk g_p1_0 (.cells #[(.slice A_p1_0 p1_0.length c_p1_0)] 22 (0, 0)), rowR enc_Tile A_p1_0 c_p1_0 p1_0] [] := St.init (ro_cons hR0 (ro_cons hR1 (ro_cons hR2 (ro_nil _ _))))
 refine enter 19 Try.func81 rfl Try.ntmps81 rfl ?_
 unfold slices_IndexFunc_int_int_with_tile_of_1 at hf
 refine WC.seq ?_
 refine WC.region ?_
 refine seg 1 [] [0, 1] [(0, (.slice A_p0 p0.length c_p0)), (1, (.func (.func 66) #[] #[(.pointer (some ⟨g_p1_0, 0, none⟩))]))] [] (fun fb => by kernel_rfl) rfl trivial ?_
 refine WL.done rfl ?_
 refine WX.next ?_
 refine WC.seq ?_
 refine WC.seq ?_
 refine WC.region ?_
 refine seg 3 [] [0, 1, 7, 8] [(0, (.slice A_p0 p0.length c_p0)), (1, (.func (.func 66) #[] #[(.pointer (some ⟨g_p1_0, 0, none⟩))])), (7, (iv (p0.length : Int))), (8, (iv 0))] [] (fun fb => by kernel_rfl) rfl trivial ?_
 refine WL.done rfl ?_
 refine WX.next ?_
 obtain ⟨x9925, hx9926, hf⟩ := bind_some hf
 refine WC.cutN (T := Unit) (fun t => []) (fun t w1 => St NoS w w1 [rowR encInt A_p0 c_p0 p0, blk g_p1_0 (.cells #[(.slice A_p1_0 p1_0.length c_p1_0)] 22 (0, 0)), rowR enc_Tile A_p1_0 c_p1_0 p1_0] [] ∧ x9925 = .inr t) (fun Kx9925 => ?_) ?_
 ·
  refine WC.block ?_
  refine WC.loop (T := Int) (fun t => [(0, (.slice A_p0 p0.length c_p0)), (1, (.func (.func 66) #[] #[(.pointer (some ⟨g_p1_0, 0, none⟩))])), (7, (iv (p0.length : Int))), (8, (iv t))]) (fun n t w1 => St NoS w w1 [rowR encInt A_p0 c_p0 p0, blk g_p1_0 (.cells #[(.slice A_p1_0 p1_0.length c_p1_0)] 22 (0, 0)), rowR enc_Tile A_p1_0 c_p1_0 p1_0] [] ∧ slices_IndexFunc_int_int_with_tile_of_1.l0 n t p0 p1_0 = some x9925) k 0 [0, 1, 7, 8] rfl ⟨(hS.subR [0, 1, 2]).sub [] (by decide), hx9926⟩ ?_
  rintro k9927 x9924 w9928 ⟨hS9929, hl9930⟩
  cases k9927 with
  | zero => rw [slices_IndexFunc_int_int_with_tile_of_1.l0] at hl9930; cases hl9930
  | succ k9927 =>
   rw [slices_IndexFunc_int_int_with_tile_of_1.l0] at hl9930
   refine WC.seq ?_
   refine WC.region ?_
   refine seg 1 [] [0, 1, 7, 8, 9] [(0, (.slice A_p0 p0.length c_p0)), (1, (.func (.func 66) #[] #[(.pointer (some ⟨g_p1_0, 0, none⟩))])), (7, (iv (p0.length : Int))), (8, (iv x9924)), (9, (.bool (decide (x9924 < (p0.length : Int)))))] [] (fun fb => by kernel_rfl) rfl trivial ?_
   refine WL.done rfl ?_
   refine WX.next ?_
   refine WC.seq ?_
   rcases br_some hl9930 with ⟨h9931, hl9930⟩ | ⟨h9931, hl9930⟩
   ·refine WC.condT2 (fun fb => by kernel_rfl) h9931 ?_
    refine WC.skip ?_
    refine WX.next ?_
    refine WC.seq ?_
    refine WC.block ?_
    refine WC.seq ?_
    refine WC.region ?_
    refine seg 2 [] [0, 1, 5, 7, 8] [(0, (.slice A_p0 p0.length c_p0)), (1, (.func (.func 66) #[] #[(.pointer (some ⟨g_p1_0, 0, none⟩))])), (5, (iv x9924)), (7, (iv (p0.length : Int))), (8, (iv x9924))] [] (fun fb => by kernel_rfl) rfl trivial ?_
    refine WL.done rfl ?_
    refine WX.next ?_
    refine WC.seq ?_
    refine WC.region ?_
    refine seg 3 [] [0, 1, 5, 7, 8, 11, 12, 13] [(0, (.slice A_p0 p0.length c_p0)), (1, (.func (.func 66) #[] #[(.pointer (some ⟨g_p1_0, 0, none⟩))])), (5, (iv x9924)), (7, (iv (p0.length : Int))), (8, (iv x9924)), (11, (.func (.func 66) #[] #[(.pointer (some ⟨g_p1_0, 0, none⟩))])), (12, (.slice A_p0 p0.length c_p0)), (13, (iv x9924))] [] (fun fb => by kernel_rfl) rfl trivial ?_
    obtain ⟨h9932, hl9930⟩ := as_some hl9930
    refine seg 5 [.v (iv (rdD p0 x9924 0))] [0, 1, 5, 7, 8, 11, 15] [(0, (.slice A_p0 p0.length c_p0)), (1, (.func (.func 66) #[] #[(.pointer (some ⟨g_p1_0, 0, none⟩))])), (5, (iv x9924)), (7, (iv (p0.length : Int))), (8, (iv x9924)), (11, (.func (.func 66) #[] #[(.pointer (some ⟨g_p1_0, 0, none⟩))])), (15, (iv (rdD p0 x9924 0)))] [.idx A_p0 x9924 p0.length, .cell ((adr A_p0).add ((x9924).toNat * 1)) (iv (rdD p0 x9924 0))] (fun fb => by kernel_rfl) rfl ⟨rowR.adr (hS9929.rd 0).1 h9932.1 h9932.2, rowR.cell (hS9929.rd 0).1 0 h9932.1 h9932.2 0 rfl, trivial⟩ ?_
    obtain ⟨t9933, ht9934, hl9930⟩ := bind_some hl9930
    refine WL.call (some 16) 66 #[(iv (rdD p0 x9924 0)), (.pointer (some ⟨g_p1_0, 0, none⟩))] (fun fb => by kernel_rfl) (tile_of_1_calls (rdD p0 x9924 0) p1_0 g_p1_0 A_p1_0 c_p1_0 t9933 _ (hS9929.rd 1) (hS9929.rd 2) ht9934) (fun v w9935 hR9936 => ?_)
    obtain ⟨rfl, hk_⟩ := hR9936
    have hS9937 := hS9929.keepN hk_
    refine ⟨trivial, ?_⟩
    refine WL.done rfl ?_
    refine WX.next ?_
    rcases br_some hl9930 with ⟨h9938, hl9930⟩ | ⟨h9938, hl9930⟩
    ·refine WC.condT2 (fun fb => by kernel_rfl) h9938 ?_
     refine WC.seq ?_
     refine WC.region ?_
     refine seg 2 [] [4] [(4, (iv x9924))] [] (fun fb => by kernel_rfl) rfl trivial ?_
     refine WL.done rfl ?_
     refine WX.next ?_
     refine WC.ret ?_
     injection hl9930 with hl9930
     subst hl9930
     injection hf with hf
     subst hf
     exact WX.blockR (WX.thenR (WX.thenR (WX.blockR (WX.thenR (WX.ret_ [] (iv x9924) [] (fun fb => by kernel_rfl) trivial ⟨_, rfl, rfl, hS9937.keep⟩)))))
    refine WC.condF2 (fun fb => by kernel_rfl) h9938 ?_
    refine WC.skip ?_
    refine WX.blockN (WX.next ?_)
    refine WC.region ?_
    refine seg 2 [] [0, 1, 7, 8] [(0, (.slice A_p0 p0.length c_p0)), (1, (.func (.func 66) #[] #[(.pointer (some ⟨g_p1_0, 0, none⟩))])), (7, (iv (p0.length : Int))), (8, (iv (w64 (x9924 + 1))))] [] (fun fb => by kernel_rfl) rfl trivial ?_
    refine WL.done rfl ?_
    exact WX.again k9927 (Nat.lt_succ_self _) (w64 (x9924 + 1)) [0, 1, 7, 8] rfl ⟨(hS9937.subR [0, 1, 2]).sub [] (by decide), hl9930⟩
   refine WC.condF2 (fun fb => by kernel_rfl) h9931 ?_
   refine WC.exit ?_
   injection hl9930 with hl9930
   exact WX.thenX (WX.thenX (WX.blockHere (WX.to Kx9925 () [] rfl ⟨(hS9929.subR [0, 1, 2]).sub [] (by decide), hl9930.symm⟩)))
 rintro y9942 w9939 ⟨hS9940, hq9941⟩
 subst hq9941
 have hf := sum_inr hf
 refine WX.next ?_
 refine WC.seq ?_
 refine WC.region ?_
 refine seg 1 [] [4] [(4, (iv (-1)))] [] (fun fb => by kernel_rfl) rfl trivial ?_
 refine WL.done rfl ?_
 refine WX.next ?_
 refine WC.ret ?_
 injection hf with hf
 subst hf
 exact WX.ret_ [] (iv (-1)) [] (fun fb => by kernel_rfl) trivial ⟨_, rfl, rfl, hS9940.keep⟩
theorem slices_ContainsFunc_int_int_with_tile_of_1_calls (k : Nat) (p0 : List Int) (p1_0 : List Tile) (A_p0 : Option Addr) (c_p0 : Nat) (g_p1_0 : Nat) (A_p1_0 : Option Addr) (c_p1_0 : Nat) (r : Bool) (w : World) (hR0 : RO NoS w (rowR encInt A_p0 c_p0 p0)) (hR1 : RO NoS w (blk g_p1_0 (.cells #[(.slice A_p1_0 p1_0.length c_p1_0)] 22 (0, 0)))) (hR2 : RO NoS w (rowR enc_Tile A_p1_0 c_p1_0 p1_0)) (hf : slices_ContainsFunc_int_int_with_tile_of_1 k p0 p1_0 = some r) :
  CallsR Try.prog 65 #[(.slice A_p0 p0.length c_p0), (.func (.func 66) #[] #[(.pointer (some ⟨g_p1_0, 0, none⟩))])] w (fun v w' => v = (.bool r) ∧ Keeps NoS w w') := by
 have hS : St NoS w w [rowR encInt A_p0 c_p0 p0, blk g_p1_0 (.cells #[(.slice A_p1_0 p1_0.length c_p1_0)] 22 (0, 0)), rowR enc_Tile A_p1_0 c_p1_0 p1_0] [] := St.init (ro_cons hR0 (ro_cons hR1 (ro_cons hR2 (ro_nil _ _))))
 refine enter 9 Try.func65 rfl Try.ntmps65 rfl ?_
 unfold slices_ContainsFunc_int_int_with_tile_of_1 at hf
 refine WC.seq ?_
 refine WC.region ?_
 refine seg 1 [] [0, 1] [(0, (.slice A_p0 p0.length c_p0)), (1, (.func (.func 66) #[] #[(.pointer (some ⟨g_p1_0, 0, none⟩))]))] [] (fun fb => by kernel_rfl) rfl trivial ?_
 refine WL.done rfl ?_
 refine WX.next ?_
 refine WC.seq ?_
 refine WC.region ?_
 refine seg 2 [] [5, 6] [(5, (.slice A_p0 p0.length c_p0)), (6, (.func (.func 66) #[] #[(.pointer (some ⟨g_p1_0, 0, none⟩))]))] [] (fun fb => by kernel_rfl) rfl trivial ?_
 obtain ⟨t9944, ht9945, hf⟩ := bind_some hf
 refine WL.call (some 7) 81 #[(.slice A_p0 p0.length c_p0), (.func (.func 66) #[] #[(.pointer (some ⟨g_p1_0, 0, none⟩))])] (fun fb => by kernel_rfl) (slices_IndexFunc_int_int_with_tile_of_1_calls _ p0 p1_0 A_p0 c_p0 g_p1_0 A_p1_0 c_p1_0 t9944 _ (hS.rd 0) (hS.rd 1) (hS.rd 2) ht9945) (fun v w9946 hR9947 => ?_)
 obtain ⟨rfl, hk_⟩ := hR9947
 have hS9948 := hS.keepN hk_
 refine ⟨trivial, ?_⟩
 refine seg 5 [] [4] [(4, (.bool (decide (t9944 ≥ 0))))] [] (fun fb => by kernel_rfl) rfl trivial ?_
 refine WL.done rfl ?_
 refine WX.next ?_
 refine WC.ret ?_
 injection hf with hf
 subst hf
 exact WX.ret_ [] (.bool (decide (t9944 ≥ 0))) [] (fun fb => by kernel_rfl) trivial ⟨_, rfl, rfl, hS9948.keep⟩
theorem tile_of_calls (k : Nat) (p0 : List Tile) (p1 : Pattern) (A_p0 : Option Addr) (c_p0 : Nat) (A_p1_Cells : Option Addr) (c_p1_Cells : Nat) (r : Bool) (w : World) (hR0 : RO NoS w (rowR enc_Tile A_p0 c_p0 p0)) (hR1 : RO NoS w (rowR encInt A_p1_Cells c_p1_Cells p1.Cells)) (hf : tile_of k p0 p1 = some r) :
  CallsR Try.prog 48 #[(.slice A_p0 p0.length c_p0), (.agg #[(iv p1.Width), (iv p1.Height), (.slice A_p1_Cells p1.Cells.length c_p1_Cells)])] w (fun v w' => v = (.bool r) ∧ Keeps NoS w w') := by
 have hS : St NoS w w [rowR enc_Tile A_p0 c_p0 p0, rowR encInt A_p1_Cells c_p1_Cells p1.Cells] [] := St.init (ro_cons hR0 (ro_cons hR1 (ro_nil _ _)))
 refine enter 18 Try.func48 rfl Try.ntmps48 rfl ?_
 unfold tile_of at hf
 refine WC.seq ?_
 refine WC.region ?_
 refine WL.new hS 2 [] (fun g => (.pointer (some ⟨g, 0, none⟩))) (.cells #[(.slice A_p0 p0.length c_p0)] 22 (0, 0)) [] (fun fb g => by kernel_rfl) trivial (fun g9859 w9860 hS9861 => ?_)
 refine ⟨trivial, ?_⟩
 refine WL.new hS9861 3 [] (fun g => (.pointer (some ⟨g, 0, none⟩))) (.cells #[(iv p1.Width), (iv p1.Height), (.slice A_p1_Cells p1.Cells.length c_p1_Cells)] 38 (0, 0)) [] (fun fb g => by kernel_rfl) trivial (fun g9863 w9864 hS9865 => ?_)
 refine ⟨trivial, ?_⟩
 refine seg 3 [] [2, 3] [(2, (pt g9859)), (3, (pt g9863))] [] (fun fb => by kernel_rfl) rfl trivial ?_
 refine WL.done rfl ?_
 refine WX.next ?_
 refine WC.seq ?_
 refine WC.region ?_
 refine seg 1 [.v (.slice A_p0 p0.length c_p0)] [2, 3, 5] [(2, (pt g9859)), (3, (pt g9863)), (5, (.slice A_p0 p0.length c_p0))] [.cell ⟨g9859, 0, none⟩ (.slice A_p0 p0.length c_p0)] (fun fb => by kernel_rfl) rfl ⟨hS9865.cell 1 rfl 0 rfl, trivial⟩ ?_
 obtain ⟨t9867, ht9868, hf⟩ := bind_some hf
 refine WL.call (some 6) 38 #[(.slice A_p0 p0.length c_p0)] (fun fb => by kernel_rfl) (tile_Valid_calls _ p0 A_p0 c_p0 t9867 _ (hS9865.rd 0) ht9868) (fun v w9869 hR9870 => ?_)
 obtain ⟨rfl, hk_⟩ := hR9870
 have hS9871 := hS9865.keepN hk_
 refine ⟨trivial, ?_⟩
 refine seg 3 [] [2, 3, 7] [(2, (pt g9859)), (3, (pt g9863)), (7, (.bool t9867))] [] (fun fb => by kernel_rfl) rfl trivial ?_
 obtain ⟨x9892, hx9893, hf⟩ := bind_some hf
 refine WL.cutW (T := Bool) 6 (fun t => [(2, (pt g9859)), (3, (pt g9863)), (10, (.bool t))]) (fun t w1 => (St NoS w w1 [rowR enc_Tile A_p0 c_p0 p0, rowR encInt A_p1_Cells c_p1_Cells p1.Cells] [blk g9859 (.cells #[(.slice A_p0 p0.length c_p0)] 22 (0, 0)), blk g9863 (.cells #[(iv p1.Width), (iv p1.Height), (.slice A_p1_Cells p1.Cells.length c_p1_Cells)] 38 (0, 0))] ∧ x9892 = t) ∧ CellsOK [] w1) (fun K => ?_) ?_
 ·
  rcases br_some hx9893 with ⟨h9894, hx9893⟩ | ⟨h9894, hx9893⟩
  ·
   refine WL.setB 7 h9894 rfl ?_
   refine seg 4 [.v (iv p1.Width), .v (iv p1.Height), .v (.slice A_p1_Cells p1.Cells.length c_p1_Cells)] [2, 3, 7, 8] [(2, (pt g9859)), (3, (pt g9863)), (7, (.bool true)), (8, (.agg #[(iv p1.Width), (iv p1.Height), (.slice A_p1_Cells p1.Cells.length c_p1_Cells)]))] [.cell ⟨g9863, 0, none⟩ (iv p1.Width), .cell ⟨g9863, 1, none⟩ (iv p1.Height), .cell ⟨g9863, 2, none⟩ (.slice A_p1_Cells p1.Cells.length c_p1_Cells)] (fun fb => by kernel_rfl) rfl ⟨hS9871.cell 0 rfl 0 rfl, hS9871.cell 0 rfl 1 rfl, hS9871.cell 0 rfl 2 rfl, trivial⟩ ?_
   obtain ⟨t9895, ht9896, hx9893⟩ := bind_some hx9893
   refine WL.call (some 9) 64 #[(.agg #[(iv p1.Width), (iv p1.Height), (.slice A_p1_Cells p1.Cells.length c_p1_Cells)])] (fun fb => by kernel_rfl) (tile_Form_calls p1 A_p1_Cells c_p1_Cells t9895 _ (hS9871.rd 1) ht9896) (fun v w9897 hR9898 => ?_)
   obtain ⟨rfl, hk_⟩ := hR9898
   have hS9899 := hS9871.keepN hk_
   refine ⟨trivial, ?_⟩
   refine seg 6 [] [2, 3, 10] [(2, (pt g9859)), (3, (pt g9863)), (10, (.bool t9895))] [] (fun fb => by kernel_rfl) rfl trivial ?_
   injection hx9893 with hx9893
   exact WL.to K t9895 [2, 3, 10] rfl ⟨⟨(hS9899.subR [0, 1]).sub [1, 0] (by decide), hx9893.symm⟩, trivial⟩
  refine WL.setB 7 h9894 rfl ?_
  refine seg 6 [] [2, 3, 10] [(2, (pt g9859)), (3, (pt g9863)), (10, (.bool false))] [] (fun fb => by kernel_rfl) rfl trivial ?_
  injection hx9893 with hx9893
  exact WL.to K false [2, 3, 10] rfl ⟨⟨(hS9871.subR [0, 1]).sub [1, 0] (by decide), hx9893.symm⟩, trivial⟩
 rintro y9900 w9902 ⟨⟨hS9903, hq9901⟩, hF9904⟩
 subst hq9901
 refine seg 7 [] [2, 3, 11] [(2, (pt g9859)), (3, (pt g9863)), (11, (.bool x9892))] [] (fun fb => by kernel_rfl) rfl trivial ?_
 obtain ⟨x9955, hx9956, hf⟩ := bind_some hf
 refine WL.cutW (T := Bool) 13 (fun t => [(17, (.bool t))]) (fun t w1 => (St NoS w w1 [rowR enc_Tile A_p0 c_p0 p0, rowR encInt A_p1_Cells c_p1_Cells p1.Cells] [] ∧ x9955 = t) ∧ CellsOK [] w1) (fun K => ?_) ?_
 ·
  rcases br_some hx9956 with ⟨h9957, hx9956⟩ | ⟨h9957, hx9956⟩
  ·
   refine WL.setB 11 h9957 rfl ?_
   refine seg 10 [.v (.slice A_p1_Cells p1.Cells.length c_p1_Cells)] [11, 13, 14] [(11, (.bool true)), (13, (.slice A_p1_Cells p1.Cells.length c_p1_Cells)), (14, (.func (.func 66) #[] #[(pt g9859)]))] [.cell ⟨g9863, 2, none⟩ (.slice A_p1_Cells p1.Cells.length c_p1_Cells)] (fun fb => by kernel_rfl) rfl ⟨hS9903.cell 1 rfl 2 rfl, trivial⟩ ?_
   obtain ⟨t9958, ht9959, hx9956⟩ := bind_some hx9956
   refine WL.call (some 15) 65 #[(.slice A_p1_Cells p1.Cells.length c_p1_Cells), (.func (.func 66) #[] #[(pt g9859)])] (fun fb => by kernel_rfl) (slices_ContainsFunc_int_int_with_tile_of_1_calls _ p1.Cells p0 A_p1_Cells c_p1_Cells g9859 A_p0 c_p0 t9958 _ (hS9903.rd 1) (hS9903.ow 0) (hS9903.rd 0) ht9959) (fun v w9960 hR9961 => ?_)
   obtain ⟨rfl, hk_⟩ := hR9961
   have hS9962 := hS9903.keepN hk_
   refine ⟨trivial, ?_⟩
   refine seg 13 [] [17] [(17, (.bool (!t9958)))] [] (fun fb => by kernel_rfl) rfl trivial ?_
   injection hx9956 with hx9956
   exact WL.to K (!t9958) [17] rfl ⟨⟨(hS9962.subR [0, 1]).sub [] (by decide), hx9956.symm⟩, trivial⟩
  refine WL.setB 11 h9957 rfl ?_
  refine seg 13 [] [17] [(17, (.bool false))] [] (fun fb => by kernel_rfl) rfl trivial ?_
  injection hx9956 with hx9956
  exact WL.to K false [17] rfl ⟨⟨(hS9903.subR [0, 1]).sub [] (by decide), hx9956.symm⟩, trivial⟩
 rintro y9963 w9965 ⟨⟨hS9966, hq9964⟩, hF9967⟩
 subst hq9964
 refine seg 14 [] [4] [(4, (.bool x9955))] [] (fun fb => by kernel_rfl) rfl trivial ?_
 refine WL.done rfl ?_
 refine WX.next ?_
 refine WC.ret ?_
 injection hf with hf
 subst hf
 exact WX.ret_ [] (.bool x9955) [] (fun fb => by kernel_rfl) trivial ⟨_, rfl, rfl, hS9966.keep⟩
theorem tile_joins_calls (k : Nat) (p0 : List Tile) (p1 : Pattern) (p2 : Bool) (A_p0 : Option Addr) (c_p0 : Nat) (A_p1_Cells : Option Addr) (c_p1_Cells : Nat) (r : Bool) (w : World) (hR0 : RO NoS w (rowR enc_Tile A_p0 c_p0 p0)) (hR1 : RO NoS w (rowR encInt A_p1_Cells c_p1_Cells p1.Cells)) (hf : tile_joins k p0 p1 p2 = some r) :
  CallsR Try.prog 49 #[(.slice A_p0 p0.length c_p0), (.agg #[(iv p1.Width), (iv p1.Height), (.slice A_p1_Cells p1.Cells.length c_p1_Cells)]), (.bool p2)] w (fun v w' => v = (.bool r) ∧ Keeps NoS w w') := by
 have hS : St NoS w w [rowR enc_Tile A_p0 c_p0 p0, rowR encInt A_p1_Cells c_p1_Cells p1.Cells] [] := St.init (ro_cons hR0 (ro_cons hR1 (ro_nil _ _)))
 refine enter 92 Try.func49 rfl Try.ntmps49 rfl ?_
 unfold tile_joins at hf
 refine WC.seq ?_
 refine WC.region ?_
 refine WL.new hS 4 [] (fun g => (.pointer (some ⟨g, 0, none⟩))) (.cells #[(iv p1.Width), (iv p1.Height), (.slice A_p1_Cells p1.Cells.length c_p1_Cells)] 38 (0, 0)) [] (fun fb g => by kernel_rfl) trivial (fun g9973 w9974 hS9975 => ?_)
 refine ⟨trivial, ?_⟩
 refine seg 2 [] [0, 2, 4] [(0, (.slice A_p0 p0.length c_p0)), (2, (.bool p2)), (4, (pt g9973))] [] (fun fb => by kernel_rfl) rfl trivial ?_
 refine WL.done rfl ?_
 refine WX.next ?_
 refine WC.seq ?_
 refine WC.seq ?_
 refine WC.region ?_
 refine seg 4 [.v (.slice A_p1_Cells p1.Cells.length c_p1_Cells)] [0, 2, 4, 12, 13, 14] [(0, (.slice A_p0 p0.length c_p0)), (2, (.bool p2)), (4, (pt g9973)), (12, (.slice A_p1_Cells p1.Cells.length c_p1_Cells)), (13, (iv (p1.Cells.length : Int))), (14, (iv 0))] [.cell ⟨g9973, 2, none⟩ (.slice A_p1_Cells p1.Cells.length c_p1_Cells)] (fun fb => by kernel_rfl) rfl ⟨hS9975.cell 0 rfl 2 rfl, trivial⟩ ?_
 refine WL.done rfl ?_
 refine WX.next ?_
 obtain ⟨x10145, hx10146, hf⟩ := bind_some hf
 refine WC.cutN (T := Unit) (fun t => []) (fun t w1 => St NoS w w1 [rowR enc_Tile A_p0 c_p0 p0, rowR encInt A_p1_Cells c_p1_Cells p1.Cells] [] ∧ x10145 = .inr t) (fun Kx10145 => ?_) ?_
 ·
  refine WC.block ?_
  refine WC.loop (T := Int) (fun t => [(0, (.slice A_p0 p0.length c_p0)), (2, (.bool p2)), (4, (pt g9973)), (12, (.slice A_p1_Cells p1.Cells.length c_p1_Cells)), (13, (iv (p1.Cells.length : Int))), (14, (iv t))]) (fun n t w1 => St NoS w w1 [rowR enc_Tile A_p0 c_p0 p0, rowR encInt A_p1_Cells c_p1_Cells p1.Cells] [blk g9973 (.cells #[(iv p1.Width), (iv p1.Height), (.slice A_p1_Cells p1.Cells.length c_p1_Cells)] 38 (0, 0))] ∧ tile_joins.l0 n t p0 p1 p2 = some x10145) k 0 [0, 2, 4, 12, 13, 14] rfl ⟨(hS9975.subR [0, 1]).sub [0] (by decide), hx10146⟩ ?_
  rintro k10147 x10144 w10148 ⟨hS10149, hl10150⟩
  cases k10147 with
  | zero => rw [tile_joins.l0] at hl10150; cases hl10150
  | succ k10147 =>
   rw [tile_joins.l0] at hl10150
   refine WC.seq ?_
   refine WC.region ?_
   refine seg 1 [] [0, 2, 4, 12, 13, 14, 15] [(0, (.slice A_p0 p0.length c_p0)), (2, (.bool p2)), (4, (pt g9973)), (12, (.slice A_p1_Cells p1.Cells.length c_p1_Cells)), (13, (iv (p1.Cells.length : Int))), (14, (iv x10144)), (15, (.bool (decide (x10144 < (p1.Cells.length : Int)))))] [] (fun fb => by kernel_rfl) rfl trivial ?_
   refine WL.done rfl ?_
   refine WX.next ?_
   refine WC.seq ?_
   rcases br_some hl10150 with ⟨h10151, hl10150⟩ | ⟨h10151, hl10150⟩
   ·refine WC.condT2 (fun fb => by kernel_rfl) h10151 ?_
    refine WC.skip ?_
    refine WX.next ?_
    refine WC.seq ?_
    refine WC.block ?_
    refine WC.seq ?_
    refine WC.region ?_
    refine seg 1 [] [0, 2, 4, 12, 13, 14, 16] [(0, (.slice A_p0 p0.length c_p0)), (2, (.bool p2)), (4, (pt g9973)), (12, (.slice A_p1_Cells p1.Cells.length c_p1_Cells)), (13, (iv (p1.Cells.length : Int))), (14, (iv x10144)), (16, (iv x10144))] [] (fun fb => by kernel_rfl) rfl trivial ?_
    obtain ⟨h10152, hl10150⟩ := as_some hl10150
    refine seg 5 [.v (iv (rdD p1.Cells x10144 0))] [0, 2, 4, 7, 8, 12, 13, 14] [(0, (.slice A_p0 p0.length c_p0)), (2, (.bool p2)), (4, (pt g9973)), (7, (iv x10144)), (8, (iv (rdD p1.Cells x10144 0))), (12, (.slice A_p1_Cells p1.Cells.length c_p1_Cells)), (13, (iv (p1.Cells.length : Int))), (14, (iv x10144))] [.idx A_p1_Cells x10144 p1.Cells.length, .cell ((adr A_p1_Cells).add ((x10144).toNat * 1)) (iv (rdD p1.Cells x10144 0))] (fun fb => by kernel_rfl) rfl ⟨rowR.adr (hS10149.rd 1).1 h10152.1 h10152.2, rowR.cell (hS10149.rd 1).1 0 h10152.1 h10152.2 0 rfl, trivial⟩ ?_
    refine WL.done rfl ?_
    refine WX.next ?_
    refine WC.seq ?_
    obtain ⟨h10157, hl10150⟩ := as_some hl10150
    refine WC.regionD ([(2, ⟨g9973, 0, none⟩, (iv p1.Width)), (6, ⟨g9973, 0, none⟩, (iv p1.Width))], [0, 1, 2, 3, 4, 5, 6, 7, 8, 9], [[], [], [1], [0, 1, 2], [], [], [5], [4, 5, 6], [0, 1, 2, 3], [0, 1, 2, 3, 4, 5, 6, 7, 8]]) [[0, 1, 2, 3, 4, 5, 6, 7, 8, 9]] (by kernel_rfl) (by kernel_rfl) (NoPanic.seq (NoPanic.block (NoPanic.seq (NoPanic.seq (NoPanic.block (NoPanic.seq (NoPanic.body))))))) ?_
    have hS10155 := hS10149.drew
    revert hS10155
    generalize World.drew w10148 = w10154
    intro hS10155
    refine ⟨⟨hS10155.cell 0 rfl 0 rfl, hS10155.cell 0 rfl 0 rfl, trivial⟩, forallC ?_ (forallN)⟩
    refine segF 10 [.v (iv p1.Width), .v (iv p1.Width)] [0, 2, 4, 8, 9, 10, 12, 13, 14] [(0, (.slice A_p0 p0.length c_p0)), (2, (.bool p2)), (4, (pt g9973)), (8, (iv (rdD p1.Cells x10144 0))), (9, (iv (Int.tmod x10144 p1.Width))), (10, (iv (w64 (Int.tdiv x10144 p1.Width)))), (12, (.slice A_p1_Cells p1.Cells.length c_p1_Cells)), (13, (iv (p1.Cells.length : Int))), (14, (iv x10144))] [.ne p1.Width, .ne p1.Width] [0, 1] [(2, ⟨g9973, 0, none⟩, (iv p1.Width)), (6, ⟨g9973, 0, none⟩, (iv p1.Width))] (fun fb => by kernel_rfl) rfl ⟨h10157, h10157, trivial⟩ rfl ?_
    refine WL.done rfl ?_
    refine WX.next ?_
    refine WC.seq ?_
    refine WC.seq ?_
    refine WC.region ?_
    refine seg 6 [.v (iv p1.Width)] [0, 2, 4, 8, 9, 10, 12, 13, 14, 32] [(0, (.slice A_p0 p0.length c_p0)), (2, (.bool p2)), (4, (pt g9973)), (8, (iv (rdD p1.Cells x10144 0))), (9, (iv (Int.tmod x10144 p1.Width))), (10, (iv (w64 (Int.tdiv x10144 p1.Width)))), (12, (.slice A_p1_Cells p1.Cells.length c_p1_Cells)), (13, (iv (p1.Cells.length : Int))), (14, (iv x10144)), (32, (.bool (decide (w64 ((Int.tmod x10144 p1.Width) + 1) < p1.Width))))] [.cell ⟨g9973, 0, none⟩ (iv p1.Width)] (fun fb => by kernel_rfl) rfl ⟨hS10155.cell 0 rfl 0 rfl, trivial⟩ ?_
    refine WL.cutV (T := Bool) 8 (fun t => [(34, (.bool t)), (0, (.slice A_p0 p0.length c_p0)), (2, (.bool p2)), (4, (pt g9973)), (8, (iv (rdD p1.Cells x10144 0))), (9, (iv (Int.tmod x10144 p1.Width))), (10, (iv (w64 (Int.tdiv x10144 p1.Width)))), (12, (.slice A_p1_Cells p1.Cells.length c_p1_Cells)), (13, (iv (p1.Cells.length : Int))), (14, (iv x10144))]) (fun t => ((decide (w64 ((Int.tmod x10144 p1.Width) + 1) < p1.Width)) || p2) = t) (fun K => ?_) ?_
    ·
     rcases Bool.eq_false_or_eq_true (decide (w64 ((Int.tmod x10144 p1.Width) + 1) < p1.Width)) with h10158 | h10158
     ·
      refine WL.setB 32 h10158 rfl ?_
      refine seg 8 [] [0, 2, 4, 8, 9, 10, 12, 13, 14, 34] [(0, (.slice A_p0 p0.length c_p0)), (2, (.bool p2)), (4, (pt g9973)), (8, (iv (rdD p1.Cells x10144 0))), (9, (iv (Int.tmod x10144 p1.Width))), (10, (iv (w64 (Int.tdiv x10144 p1.Width)))), (12, (.slice A_p1_Cells p1.Cells.length c_p1_Cells)), (13, (iv (p1.Cells.length : Int))), (14, (iv x10144)), (34, (.bool true))] [] (fun fb => by kernel_rfl) rfl trivial ?_
      exact WL.toV K true [34, 0, 2, 4, 8, 9, 10, 12, 13, 14] rfl (by first | (rw [h10158]; done) | (rw [h10158]; rfl))
     refine WL.setB 32 h10158 rfl ?_
     refine seg 8 [] [0, 2, 4, 8, 9, 10, 12, 13, 14, 34] [(0, (.slice A_p0 p0.length c_p0)), (2, (.bool p2)), (4, (pt g9973)), (8, (iv (rdD p1.Cells x10144 0))), (9, (iv (Int.tmod x10144 p1.Width))), (10, (iv (w64 (Int.tdiv x10144 p1.Width)))), (12, (.slice A_p1_Cells p1.Cells.length c_p1_Cells)), (13, (iv (p1.Cells.length : Int))), (14, (iv x10144)), (34, (.bool p2))] [] (fun fb => by kernel_rfl) rfl trivial ?_
     exact WL.toV K p2 [34, 0, 2, 4, 8, 9, 10, 12, 13, 14] rfl (by first | (rw [h10158]; done) | (rw [h10158]; rfl))
    rintro b10159 rfl
    refine WL.done rfl ?_
    refine WX.next ?_
    obtain ⟨x10173, hx10174, hl10150⟩ := bind_some hl10150
    refine WC.cutN (T := Unit) (fun t => [(0, (.slice A_p0 p0.length c_p0)), (2, (.bool p2)), (4, (pt g9973)), (8, (iv (rdD p1.Cells x10144 0))), (9, (iv (Int.tmod x10144 p1.Width))), (10, (iv (w64 (Int.tdiv x10144 p1.Width)))), (12, (.slice A_p1_Cells p1.Cells.length c_p1_Cells)), (13, (iv (p1.Cells.length : Int))), (14, (iv x10144))]) (fun t w1 => St NoS w w1 [rowR enc_Tile A_p0 c_p0 p0, rowR encInt A_p1_Cells c_p1_Cells p1.Cells] [blk g9973 (.cells #[(iv p1.Width), (iv p1.Height), (.slice A_p1_Cells p1.Cells.length c_p1_Cells)] 38 (0, 0))] ∧ x10173 = .inr t) (fun Kx10173 => ?_) ?_
    ·
     rcases br_some hx10174 with ⟨h10175, hx10174⟩ | ⟨h10175, hx10174⟩
     ·refine WC.condT2 (fun fb => by kernel_rfl) h10175 ?_
      refine WC.seq ?_
      obtain ⟨h10184, hx10174⟩ := as_some hx10174
      obtain ⟨h10185, hx10174⟩ := as_some hx10174
      obtain ⟨h10186, hx10174⟩ := as_some hx10174
      refine WC.regionD ([(4, (((adr A_p0).add (((rdD p1.Cells x10144 0)).toNat * 4)).add 1), (iv ((rdD p0 (rdD p1.Cells x10144 0) z_Tile).E))), (7, ⟨g9973, 2, none⟩, (.slice A_p1_Cells p1.Cells.length c_p1_Cells)), (10, ⟨g9973, 0, none⟩, (iv p1.Width)), (15, ⟨g9973, 0, none⟩, (iv p1.Width)), (19, ((adr A_p1_Cells).add ((w64 ((w64 ((w64 (Int.tdiv x10144 p1.Width)) * p1.Width)) + (Int.tmod (w64 ((Int.tmod x10144 p1.Width) + 1)) p1.Width))).toNat * 1)), (iv (rdD p1.Cells (w64 ((w64 ((w64 (Int.tdiv x10144 p1.Width)) * p1.Width)) + (Int.tmod (w64 ((Int.tmod x10144 p1.Width) + 1)) p1.Width))) 0))), (22, (((adr A_p0).add (((rdD p1.Cells (w64 ((w64 ((w64 (Int.tdiv x10144 p1.Width)) * p1.Width)) + (Int.tmod (w64 ((Int.tmod x10144 p1.Width) + 1)) p1.Width))) 0)).toNat * 4)).add 3), (iv ((rdD p0 (rdD p1.Cells (w64 ((w64 ((w64 (Int.tdiv x10144 p1.Width)) * p1.Width)) + (Int.tmod (w64 ((Int.tmod x10144 p1.Width) + 1)) p1.Width))) 0) z_Tile).W)))], [0, 1, 2, 3, 4, 5, 6, 7, 8, 9, 10, 11, 12, 13, 14, 15, 16, 17, 18, 19, 20, 21, 22, 23], [[], [], [0, 1], [0, 1, 2], [0, 1, 2, 3], [], [], [6], [], [], [9], [8, 9, 10], [], [12], [], [14], [12, 13, 14, 15], [8, 9, 10, 11, 12, 13, 14, 15, 16], [6, 7, 8, 9, 10, 11, 12, 13, 14, 15, 16, 17], [6, 7, 8, 9, 10, 11, 12, 13, 14, 15, 16, 17, 18], [5, 6, 7, 8, 9, 10, 11, 12, 13, 14, 15, 16, 17, 18, 19], [5, 6, 7, 8, 9, 10, 11, 12, 13, 14, 15, 16, 17, 18, 19, 20], [5, 6, 7, 8, 9, 10, 11, 12, 13, 14, 15, 16, 17, 18, 19, 20, 21], [0, 1, 2, 3, 4, 5, 6, 7, 8, 9, 10, 11, 12, 13, 14, 15, 16, 17, 18, 19, 20, 21, 22]]) [[0, 1, 2, 3, 4, 5, 6, 7, 8, 9, 10, 11, 12, 13, 14, 15, 16, 17, 18, 19, 20, 21, 22, 23]] (by kernel_rfl) (by kernel_rfl) (NoPanic.seq (NoPanic.seq (NoPanic.block (NoPanic.seq (NoPanic.seq (NoPanic.block (NoPanic.seq (NoPanic.body)))))))) ?_
      have hS10180 := hS10155.drew
      revert hS10180
      generalize World.drew w10154 = w10179
      intro hS10180
      refine ⟨⟨rowR.cell (hS10180.rd 0).1 z_Tile h10184.1 h10184.2 1 rfl, hS10180.cell 0 rfl 2 rfl, hS10180.cell 0 rfl 0 rfl, hS10180.cell 0 rfl 0 rfl, rowR.cell (hS10180.rd 1).1 0 h10185.1 h10185.2 0 rfl, rowR.cell (hS10180.rd 0).1 z_Tile h10186.1 h10186.2 3 rfl, trivial⟩, forallC ?_ (forallN)⟩
      refine segF 24 [.v (iv ((rdD p0 (rdD p1.Cells x10144 0) z_Tile).E)), .v (.slice A_p1_Cells p1.Cells.length c_p1_Cells), .v (iv p1.Width), .v (iv p1.Width), .v (iv (rdD p1.Cells (w64 ((w64 ((w64 (Int.tdiv x10144 p1.Width)) * p1.Width)) + (Int.tmod (w64 ((Int.tmod x10144 p1.Width) + 1)) p1.Width))) 0)), .v (iv ((rdD p0 (rdD p1.Cells (w64 ((w64 ((w64 (Int.tdiv x10144 p1.Width)) * p1.Width)) + (Int.tmod (w64 ((Int.tmod x10144 p1.Width) + 1)) p1.Width))) 0) z_Tile).W))] [0, 2, 4, 8, 9, 10, 12, 13, 14, 58] [(0, (.slice A_p0 p0.length c_p0)), (2, (.bool p2)), (4, (pt g9973)), (8, (iv (rdD p1.Cells x10144 0))), (9, (iv (Int.tmod x10144 p1.Width))), (10, (iv (w64 (Int.tdiv x10144 p1.Width)))), (12, (.slice A_p1_Cells p1.Cells.length c_p1_Cells)), (13, (iv (p1.Cells.length : Int))), (14, (iv x10144)), (58, (.bool (((rdD p0 (rdD p1.Cells x10144 0) z_Tile).E) != ((rdD p0 (rdD p1.Cells (w64 ((w64 ((w64 (Int.tdiv x10144 p1.Width)) * p1.Width)) + (Int.tmod (w64 ((Int.tmod x10144 p1.Width) + 1)) p1.Width))) 0) z_Tile).W))))] [.idx A_p0 (rdD p1.Cells x10144 0) p0.length, .ne p1.Width, .idx A_p1_Cells (w64 ((w64 ((w64 (Int.tdiv x10144 p1.Width)) * p1.Width)) + (Int.tmod (w64 ((Int.tmod x10144 p1.Width) + 1)) p1.Width))) p1.Cells.length, .idx A_p0 (rdD p1.Cells (w64 ((w64 ((w64 (Int.tdiv x10144 p1.Width)) * p1.Width)) + (Int.tmod (w64 ((Int.tmod x10144 p1.Width) + 1)) p1.Width))) 0) p0.length] [0, 1, 2, 3, 4, 5] [(4, (((adr A_p0).add (((rdD p1.Cells x10144 0)).toNat * 4)).add 1), (iv ((rdD p0 (rdD p1.Cells x10144 0) z_Tile).E))), (7, ⟨g9973, 2, none⟩, (.slice A_p1_Cells p1.Cells.length c_p1_Cells)), (10, ⟨g9973, 0, none⟩, (iv p1.Width)), (15, ⟨g9973, 0, none⟩, (iv p1.Width)), (19, ((adr A_p1_Cells).add ((w64 ((w64 ((w64 (Int.tdiv x10144 p1.Width)) * p1.Width)) + (Int.tmod (w64 ((Int.tmod x10144 p1.Width) + 1)) p1.Width))).toNat * 1)), (iv (rdD p1.Cells (w64 ((w64 ((w64 (Int.tdiv x10144 p1.Width)) * p1.Width)) + (Int.tmod (w64 ((Int.tmod x10144 p1.Width) + 1)) p1.Width))) 0))), (22, (((adr A_p0).add (((rdD p1.Cells (w64 ((w64 ((w64 (Int.tdiv x10144 p1.Width)) * p1.Width)) + (Int.tmod (w64 ((Int.tmod x10144 p1.Width) + 1)) p1.Width))) 0)).toNat * 4)).add 3), (iv ((rdD p0 (rdD p1.Cells (w64 ((w64 ((w64 (Int.tdiv x10144 p1.Width)) * p1.Width)) + (Int.tmod (w64 ((Int.tmod x10144 p1.Width) + 1)) p1.Width))) 0) z_Tile).W)))] (fun fb => by kernel_rfl) rfl ⟨rowR.adr (hS10180.rd 0).1 h10184.1 h10184.2, h10157, rowR.adr (hS10180.rd 1).1 h10185.1 h10185.2, rowR.adr (hS10180.rd 0).1 h10186.1 h10186.2, trivial⟩ rfl ?_
      refine WL.done rfl ?_
      refine WX.next ?_
      rcases br_some hx10174 with ⟨h10187, hx10174⟩ | ⟨h10187, hx10174⟩
      ·refine WC.condT2 (fun fb => by kernel_rfl) h10187 ?_
       refine WC.seq ?_
       refine WC.region ?_
       refine seg 1 [] [6] [(6, (.bool false))] [] (fun fb => by kernel_rfl) rfl trivial ?_
       refine WL.done rfl ?_
       refine WX.next ?_
       refine WC.ret ?_
       injection hx10174 with hx10174
       subst hx10174
       injection hl10150 with hl10150
       subst hl10150
       injection hf with hf
       subst hf
       exact WX.thenR (WX.blockR (WX.thenR (WX.thenR (WX.blockR (WX.thenR (WX.ret_ [] (.bool false) [] (fun fb => by kernel_rfl) trivial ⟨_, rfl, rfl, hS10180.keep⟩))))))
      refine WC.condF2 (fun fb => by kernel_rfl) h10187 ?_
      refine WC.skip ?_
      injection hx10174 with hx10174
      exact WX.to Kx10173 () [0, 2, 4, 8, 9, 10, 12, 13, 14] rfl ⟨(hS10180.subR [0, 1]).sub [0] (by decide), hx10174.symm⟩
     refine WC.condF2 (fun fb => by kernel_rfl) h10175 ?_
     refine WC.skip ?_
     injection hx10174 with hx10174
     exact WX.to Kx10173 () [0, 2, 4, 8, 9, 10, 12, 13, 14] rfl ⟨(hS10155.subR [0, 1]).sub [0] (by decide), hx10174.symm⟩
    rintro y10191 w10188 ⟨hS10189, hq10190⟩
    subst hq10190
    have hl10150 := sum_inr hl10150
    refine WX.next ?_
    refine WC.seq ?_
    refine WC.region ?_
    refine seg 6 [.v (iv p1.Height)] [0, 2, 4, 8, 9, 10, 12, 13, 14, 64] [(0, (.slice A_p0 p0.length c_p0)), (2, (.bool p2)), (4, (pt g9973)), (8, (iv (rdD p1.Cells x10144 0))), (9, (iv (Int.tmod x10144 p1.Width))), (10, (iv (w64 (Int.tdiv x10144 p1.Width)))), (12, (.slice A_p1_Cells p1.Cells.length c_p1_Cells)), (13, (iv (p1.Cells.length : Int))), (14, (iv x10144)), (64, (.bool (decide (w64 ((w64 (Int.tdiv x10144 p1.Width)) + 1) < p1.Height))))] [.cell ⟨g9973, 1, none⟩ (iv p1.Height)] (fun fb => by kernel_rfl) rfl ⟨hS10189.cell 0 rfl 1 rfl, trivial⟩ ?_
    refine WL.cutV (T := Bool) 8 (fun t => [(66, (.bool t)), (0, (.slice A_p0 p0.length c_p0)), (2, (.bool p2)), (4, (pt g9973)), (8, (iv (rdD p1.Cells x10144 0))), (9, (iv (Int.tmod x10144 p1.Width))), (10, (iv (w64 (Int.tdiv x10144 p1.Width)))), (12, (.slice A_p1_Cells p1.Cells.length c_p1_Cells)), (13, (iv (p1.Cells.length : Int))), (14, (iv x10144))]) (fun t => ((decide (w64 ((w64 (Int.tdiv x10144 p1.Width)) + 1) < p1.Height)) || p2) = t) (fun K => ?_) ?_
    ·
     rcases Bool.eq_false_or_eq_true (decide (w64 ((w64 (Int.tdiv x10144 p1.Width)) + 1) < p1.Height)) with h10193 | h10193
     ·
      refine WL.setB 64 h10193 rfl ?_
      refine seg 8 [] [0, 2, 4, 8, 9, 10, 12, 13, 14, 66] [(0, (.slice A_p0 p0.length c_p0)), (2, (.bool p2)), (4, (pt g9973)), (8, (iv (rdD p1.Cells x10144 0))), (9, (iv (Int.tmod x10144 p1.Width))), (10, (iv (w64 (Int.tdiv x10144 p1.Width)))), (12, (.slice A_p1_Cells p1.Cells.length c_p1_Cells)), (13, (iv (p1.Cells.length : Int))), (14, (iv x10144)), (66, (.bool true))] [] (fun fb => by kernel_rfl) rfl trivial ?_
      exact WL.toV K true [66, 0, 2, 4, 8, 9, 10, 12, 13, 14] rfl (by first | (rw [h10193]; done) | (rw [h10193]; rfl))
     refine WL.setB 64 h10193 rfl ?_
     refine seg 8 [] [0, 2, 4, 8, 9, 10, 12, 13, 14, 66] [(0, (.slice A_p0 p0.length c_p0)), (2, (.bool p2)), (4, (pt g9973)), (8, (iv (rdD p1.Cells x10144 0))), (9, (iv (Int.tmod x10144 p1.Width))), (10, (iv (w64 (Int.tdiv x10144 p1.Width)))), (12, (.slice A_p1_Cells p1.Cells.length c_p1_Cells)), (13, (iv (p1.Cells.length : Int))), (14, (iv x10144)), (66, (.bool p2))] [] (fun fb => by kernel_rfl) rfl trivial ?_
     exact WL.toV K p2 [66, 0, 2, 4, 8, 9, 10, 12, 13, 14] rfl (by first | (rw [h10193]; done) | (rw [h10193]; rfl))
    rintro b10194 rfl
    refine WL.done rfl ?_
    refine WX.next ?_
    obtain ⟨x10211, hx10212, hl10150⟩ := bind_some hl10150
    refine WC.cutN (T := Unit) (fun t => [(0, (.slice A_p0 p0.length c_p0)), (2, (.bool p2)), (4, (pt g9973)), (12, (.slice A_p1_Cells p1.Cells.length c_p1_Cells)), (13, (iv (p1.Cells.length : Int))), (14, (iv x10144))]) (fun t w1 => St NoS w w1 [rowR enc_Tile A_p0 c_p0 p0, rowR encInt A_p1_Cells c_p1_Cells p1.Cells] [blk g9973 (.cells #[(iv p1.Width), (iv p1.Height), (.slice A_p1_Cells p1.Cells.length c_p1_Cells)] 38 (0, 0))] ∧ x10211 = .inr t) (fun Kx10211 => ?_) ?_
    ·
     rcases br_some hx10212 with ⟨h10213, hx10212⟩ | ⟨h10213, hx10212⟩
     ·refine WC.condT2 (fun fb => by kernel_rfl) h10213 ?_
      refine WC.seq ?_
      obtain ⟨h10224, hx10212⟩ := as_some hx10212
      obtain ⟨h10225, hx10212⟩ := as_some hx10212
      obtain ⟨h10226, hx10212⟩ := as_some hx10212
      obtain ⟨h10227, hx10212⟩ := as_some hx10212
      refine WC.regionD ([(4, ((adr A_p0).add (((rdD p1.Cells x10144 0)).toNat * 4)), (iv ((rdD p0 (rdD p1.Cells x10144 0) z_Tile).N))), (7, ⟨g9973, 2, none⟩, (.slice A_p1_Cells p1.Cells.length c_p1_Cells)), (11, ⟨g9973, 1, none⟩, (iv p1.Height)), (14, ⟨g9973, 0, none⟩, (iv p1.Width)), (19, ((adr A_p1_Cells).add ((w64 ((w64 ((Int.tmod (w64 ((w64 (Int.tdiv x10144 p1.Width)) + 1)) p1.Height) * p1.Width)) + (Int.tmod x10144 p1.Width))).toNat * 1)), (iv (rdD p1.Cells (w64 ((w64 ((Int.tmod (w64 ((w64 (Int.tdiv x10144 p1.Width)) + 1)) p1.Height) * p1.Width)) + (Int.tmod x10144 p1.Width))) 0))), (22, (((adr A_p0).add (((rdD p1.Cells (w64 ((w64 ((Int.tmod (w64 ((w64 (Int.tdiv x10144 p1.Width)) + 1)) p1.Height) * p1.Width)) + (Int.tmod x10144 p1.Width))) 0)).toNat * 4)).add 2), (iv ((rdD p0 (rdD p1.Cells (w64 ((w64 ((Int.tmod (w64 ((w64 (Int.tdiv x10144 p1.Width)) + 1)) p1.Height) * p1.Width)) + (Int.tmod x10144 p1.Width))) 0) z_Tile).S)))], [0, 1, 2, 3, 4, 5, 6, 7, 8, 9, 10, 11, 12, 13, 14, 15, 16, 17, 18, 19, 20, 21, 22, 23], [[], [], [0, 1], [0, 1, 2], [0, 1, 2, 3], [], [], [6], [], [8], [], [10], [8, 9, 10, 11], [], [13], [8, 9, 10, 11, 12, 13, 14], [], [8, 9, 10, 11, 12, 13, 14, 15, 16], [6, 7, 8, 9, 10, 11, 12, 13, 14, 15, 16, 17], [6, 7, 8, 9, 10, 11, 12, 13, 14, 15, 16, 17, 18], [5, 6, 7, 8, 9, 10, 11, 12, 13, 14, 15, 16, 17, 18, 19], [5, 6, 7, 8, 9, 10, 11, 12, 13, 14, 15, 16, 17, 18, 19, 20], [5, 6, 7, 8, 9, 10, 11, 12, 13, 14, 15, 16, 17, 18, 19, 20, 21], [0, 1, 2, 3, 4, 5, 6, 7, 8, 9, 10, 11, 12, 13, 14, 15, 16, 17, 18, 19, 20, 21, 22]]) [[0, 1, 2, 3, 4, 5, 6, 7, 8, 9, 10, 11, 12, 13, 14, 15, 16, 17, 18, 19, 20, 21, 22, 23]] (by kernel_rfl) (by kernel_rfl) (NoPanic.seq (NoPanic.block (NoPanic.seq (NoPanic.seq (NoPanic.block (NoPanic.seq (NoPanic.body))))))) ?_
      have hS10219 := hS10189.drew
      revert hS10219
      generalize World.drew w10188 = w10218
      intro hS10219
      refine ⟨⟨rowR.cell (hS10219.rd 0).1 z_Tile h10224.1 h10224.2 0 rfl, hS10219.cell 0 rfl 2 rfl, hS10219.cell 0 rfl 1 rfl, hS10219.cell 0 rfl 0 rfl, rowR.cell (hS10219.rd 1).1 0 h10226.1 h10226.2 0 rfl, rowR.cell (hS10219.rd 0).1 z_Tile h10227.1 h10227.2 2 rfl, trivial⟩, forallC ?_ (forallN)⟩
      refine segF 24 [.v (iv ((rdD p0 (rdD p1.Cells x10144 0) z_Tile).N)), .v (.slice A_p1_Cells p1.Cells.length c_p1_Cells), .v (iv p1.Height), .v (iv p1.Width), .v (iv (rdD p1.Cells (w64 ((w64 ((Int.tmod (w64 ((w64 (Int.tdiv x10144 p1.Width)) + 1)) p1.Height) * p1.Width)) + (Int.tmod x10144 p1.Width))) 0)), .v (iv ((rdD p0 (rdD p1.Cells (w64 ((w64 ((Int.tmod (w64 ((w64 (Int.tdiv x10144 p1.Width)) + 1)) p1.Height) * p1.Width)) + (Int.tmod x10144 p1.Width))) 0) z_Tile).S))] [0, 2, 4, 12, 13, 14, 90] [(0, (.slice A_p0 p0.length c_p0)), (2, (.bool p2)), (4, (pt g9973)), (12, (.slice A_p1_Cells p1.Cells.length c_p1_Cells)), (13, (iv (p1.Cells.length : Int))), (14, (iv x10144)), (90, (.bool (((rdD p0 (rdD p1.Cells x10144 0) z_Tile).N) != ((rdD p0 (rdD p1.Cells (w64 ((w64 ((Int.tmod (w64 ((w64 (Int.tdiv x10144 p1.Width)) + 1)) p1.Height) * p1.Width)) + (Int.tmod x10144 p1.Width))) 0) z_Tile).S))))] [.idx A_p0 (rdD p1.Cells x10144 0) p0.length, .ne p1.Height, .idx A_p1_Cells (w64 ((w64 ((Int.tmod (w64 ((w64 (Int.tdiv x10144 p1.Width)) + 1)) p1.Height) * p1.Width)) + (Int.tmod x10144 p1.Width))) p1.Cells.length, .idx A_p0 (rdD p1.Cells (w64 ((w64 ((Int.tmod (w64 ((w64 (Int.tdiv x10144 p1.Width)) + 1)) p1.Height) * p1.Width)) + (Int.tmod x10144 p1.Width))) 0) p0.length] [0, 1, 2, 3, 4, 5] [(4, ((adr A_p0).add (((rdD p1.Cells x10144 0)).toNat * 4)), (iv ((rdD p0 (rdD p1.Cells x10144 0) z_Tile).N))), (7, ⟨g9973, 2, none⟩, (.slice A_p1_Cells p1.Cells.length c_p1_Cells)), (11, ⟨g9973, 1, none⟩, (iv p1.Height)), (14, ⟨g9973, 0, none⟩, (iv p1.Width)), (19, ((adr A_p1_Cells).add ((w64 ((w64 ((Int.tmod (w64 ((w64 (Int.tdiv x10144 p1.Width)) + 1)) p1.Height) * p1.Width)) + (Int.tmod x10144 p1.Width))).toNat * 1)), (iv (rdD p1.Cells (w64 ((w64 ((Int.tmod (w64 ((w64 (Int.tdiv x10144 p1.Width)) + 1)) p1.Height) * p1.Width)) + (Int.tmod x10144 p1.Width))) 0))), (22, (((adr A_p0).add (((rdD p1.Cells (w64 ((w64 ((Int.tmod (w64 ((w64 (Int.tdiv x10144 p1.Width)) + 1)) p1.Height) * p1.Width)) + (Int.tmod x10144 p1.Width))) 0)).toNat * 4)).add 2), (iv ((rdD p0 (rdD p1.Cells (w64 ((w64 ((Int.tmod (w64 ((w64 (Int.tdiv x10144 p1.Width)) + 1)) p1.Height) * p1.Width)) + (Int.tmod x10144 p1.Width))) 0) z_Tile).S)))] (fun fb => by kernel_rfl) rfl ⟨rowR.adr (hS10219.rd 0).1 h10224.1 h10224.2, h10225, rowR.adr (hS10219.rd 1).1 h10226.1 h10226.2, rowR.adr (hS10219.rd 0).1 h10227.1 h10227.2, trivial⟩ rfl ?_
      refine WL.done rfl ?_
      refine WX.next ?_
      rcases br_some hx10212 with ⟨h10228, hx10212⟩ | ⟨h10228, hx10212⟩
      ·refine WC.condT2 (fun fb => by kernel_rfl) h10228 ?_
       refine WC.seq ?_
       refine WC.region ?_
       refine seg 1 [] [6] [(6, (.bool false))] [] (fun fb => by kernel_rfl) rfl trivial ?_
       refine WL.done rfl ?_
       refine WX.next ?_
       refine WC.ret ?_
       injection hx10212 with hx10212
       subst hx10212
       injection hl10150 with hl10150
       subst hl10150
       injection hf with hf
       subst hf
       exact WX.blockR (WX.thenR (WX.thenR (WX.blockR (WX.thenR (WX.ret_ [] (.bool false) [] (fun fb => by kernel_rfl) trivial ⟨_, rfl, rfl, hS10219.keep⟩)))))
      refine WC.condF2 (fun fb => by kernel_rfl) h10228 ?_
      refine WC.skip ?_
      injection hx10212 with hx10212
      exact WX.to Kx10211 () [0, 2, 4, 12, 13, 14] rfl ⟨(hS10219.subR [0, 1]).sub [0] (by decide), hx10212.symm⟩
     refine WC.condF2 (fun fb => by kernel_rfl) h10213 ?_
     refine WC.skip ?_
     injection hx10212 with hx10212
     exact WX.to Kx10211 () [0, 2, 4, 12, 13, 14] rfl ⟨(hS10189.subR [0, 1]).sub [0] (by decide), hx10212.symm⟩
    rintro y10232 w10229 ⟨hS10230, hq10231⟩
    subst hq10231
    have hl10150 := sum_inr hl10150
    refine WX.blockN (WX.next ?_)
    refine WC.region ?_
    refine seg 2 [] [0, 2, 4, 12, 13, 14] [(0, (.slice A_p0 p0.length c_p0)), (2, (.bool p2)), (4, (pt g9973)), (12, (.slice A_p1_Cells p1.Cells.length c_p1_Cells)), (13, (iv (p1.Cells.length : Int))), (14, (iv (w64 (x10144 + 1))))] [] (fun fb => by kernel_rfl) rfl trivial ?_
    refine WL.done rfl ?_
    exact WX.again k10147 (Nat.lt_succ_self _) (w64 (x10144 + 1)) [0, 2, 4, 12, 13, 14] rfl ⟨(hS10230.subR [0, 1]).sub [0] (by decide), hl10150⟩
   refine WC.condF2 (fun fb => by kernel_rfl) h10151 ?_
   refine WC.exit ?_
   injection hl10150 with hl10150
   exact WX.thenX (WX.thenX (WX.blockHere (WX.to Kx10145 () [] rfl ⟨(hS10149.subR [0, 1]).sub [] (by decide), hl10150.symm⟩)))
 rintro y10237 w10234 ⟨hS10235, hq10236⟩
 subst hq10236
 have hf := sum_inr hf
 refine WX.next ?_
 refine WC.seq ?_
 refine WC.region ?_
 refine seg 1 [] [6] [(6, (.bool true))] [] (fun fb => by kernel_rfl) rfl trivial ?_
 refine WL.done rfl ?_
 refine WX.next ?_
 refine WC.ret ?_
 injection hf with hf
 subst hf
 exact WX.ret_ [] (.bool true) [] (fun fb => by kernel_rfl) trivial ⟨_, rfl, rfl, hS10235.keep⟩
theorem tile_Repeats_calls (k : Nat) (p0 : List Tile) (p1 : Pattern) (A_p0 : Option Addr) (c_p0 : Nat) (A_p1_Cells : Option Addr) (c_p1_Cells : Nat) (r : Bool) (w : World) (hR0 : RO NoS w (rowR enc_Tile A_p0 c_p0 p0)) (hR1 : RO NoS w (rowR encInt A_p1_Cells c_p1_Cells p1.Cells)) (hf : tile_Repeats k p0 p1 = some r) :
  CallsR Try.prog 27 #[(.slice A_p0 p0.length c_p0), (.agg #[(iv p1.Width), (iv p1.Height), (.slice A_p1_Cells p1.Cells.length c_p1_Cells)])] w (fun v w' => v = (.bool r) ∧ Keeps NoS w w') := by
 have hS : St NoS w w [rowR enc_Tile A_p0 c_p0 p0, rowR encInt A_p1_Cells c_p1_Cells p1.Cells] [] := St.init (ro_cons hR0 (ro_cons hR1 (ro_nil _ _)))
 refine enter 13 Try.func27 rfl Try.ntmps27 rfl ?_
 unfold tile_Repeats at hf
 refine WC.seq ?_
 refine WC.region ?_
 refine WL.new hS 3 [] (fun g => (.pointer (some ⟨g, 0, none⟩))) (.cells #[(iv p1.Width), (iv p1.Height), (.slice A_p1_Cells p1.Cells.length c_p1_Cells)] 38 (0, 0)) [] (fun fb g => by kernel_rfl) trivial (fun g9855 w9856 hS9857 => ?_)
 refine ⟨trivial, ?_⟩
 refine seg 2 [] [0, 3] [(0, (.slice A_p0 p0.length c_p0)), (3, (pt g9855))] [] (fun fb => by kernel_rfl) rfl trivial ?_
 refine WL.done rfl ?_
 refine WX.next ?_
 refine WC.seq ?_
 refine WC.region ?_
 refine seg 2 [.v (iv p1.Width), .v (iv p1.Height), .v (.slice A_p1_Cells p1.Cells.length c_p1_Cells)] [0, 3, 5, 6] [(0, (.slice A_p0 p0.length c_p0)), (3, (pt g9855)), (5, (.slice A_p0 p0.length c_p0)), (6, (.agg #[(iv p1.Width), (iv p1.Height), (.slice A_p1_Cells p1.Cells.length c_p1_Cells)]))] [.cell ⟨g9855, 0, none⟩ (iv p1.Width), .cell ⟨g9855, 1, none⟩ (iv p1.Height), .cell ⟨g9855, 2, none⟩ (.slice A_p1_Cells p1.Cells.length c_p1_Cells)] (fun fb => by kernel_rfl) rfl ⟨hS9857.cell 0 rfl 0 rfl, hS9857.cell 0 rfl 1 rfl, hS9857.cell 0 rfl 2 rfl, trivial⟩ ?_
 obtain ⟨t9968, ht9969, hf⟩ := bind_some hf
 refine WL.call (some 7) 48 #[(.slice A_p0 p0.length c_p0), (.agg #[(iv p1.Width), (iv p1.Height), (.slice A_p1_Cells p1.Cells.length c_p1_Cells)])] (fun fb => by kernel_rfl) (tile_of_calls _ p0 p1 A_p0 c_p0 A_p1_Cells c_p1_Cells t9968 _ (hS9857.rd 0) (hS9857.rd 1) ht9969) (fun v w9970 hR9971 => ?_)
 obtain ⟨rfl, hk_⟩ := hR9971
 have hS9972 := hS9857.keepN hk_
 refine ⟨trivial, ?_⟩
 refine seg 4 [] [0, 3, 8] [(0, (.slice A_p0 p0.length c_p0)), (3, (pt g9855)), (8, (.bool t9968))] [] (fun fb => by kernel_rfl) rfl trivial ?_
 obtain ⟨x10245, hx10246, hf⟩ := bind_some hf
 refine WL.cutW (T := Bool) 8 (fun t => [(12, (.bool t))]) (fun t w1 => (St NoS w w1 [rowR enc_Tile A_p0 c_p0 p0, rowR encInt A_p1_Cells c_p1_Cells p1.Cells] [] ∧ x10245 = t) ∧ CellsOK [] w1) (fun K => ?_) ?_
 ·
  rcases br_some hx10246 with ⟨h10247, hx10246⟩ | ⟨h10247, hx10246⟩
  ·
   refine WL.setB 8 h10247 rfl ?_
   refine seg 6 [.v (iv p1.Width), .v (iv p1.Height), .v (.slice A_p1_Cells p1.Cells.length c_p1_Cells)] [8, 9, 10] [(8, (.bool true)), (9, (.slice A_p0 p0.length c_p0)), (10, (.agg #[(iv p1.Width), (iv p1.Height), (.slice A_p1_Cells p1.Cells.length c_p1_Cells)]))] [.cell ⟨g9855, 0, none⟩ (iv p1.Width), .cell ⟨g9855, 1, none⟩ (iv p1.Height), .cell ⟨g9855, 2, none⟩ (.slice A_p1_Cells p1.Cells.length c_p1_Cells)] (fun fb => by kernel_rfl) rfl ⟨hS9972.cell 0 rfl 0 rfl, hS9972.cell 0 rfl 1 rfl, hS9972.cell 0 rfl 2 rfl, trivial⟩ ?_
   obtain ⟨t10248, ht10249, hx10246⟩ := bind_some hx10246
   refine WL.call (some 11) 49 #[(.slice A_p0 p0.length c_p0), (.agg #[(iv p1.Width), (iv p1.Height), (.slice A_p1_Cells p1.Cells.length c_p1_Cells)]), (.bool true)] (fun fb => by kernel_rfl) (tile_joins_calls _ p0 p1 true A_p0 c_p0 A_p1_Cells c_p1_Cells t10248 _ (hS9972.rd 0) (hS9972.rd 1) ht10249) (fun v w10250 hR10251 => ?_)
   obtain ⟨rfl, hk_⟩ := hR10251
   have hS10252 := hS9972.keepN hk_
   refine ⟨trivial, ?_⟩
   refine seg 8 [] [12] [(12, (.bool t10248))] [] (fun fb => by kernel_rfl) rfl trivial ?_
   injection hx10246 with hx10246
   exact WL.to K t10248 [12] rfl ⟨⟨(hS10252.subR [0, 1]).sub [] (by decide), hx10246.symm⟩, trivial⟩
  refine WL.setB 8 h10247 rfl ?_
  refine seg 8 [] [12] [(12, (.bool false))] [] (fun fb => by kernel_rfl) rfl trivial ?_
  injection hx10246 with hx10246
  exact WL.to K false [12] rfl ⟨⟨(hS9972.subR [0, 1]).sub [] (by decide), hx10246.symm⟩, trivial⟩
 rintro y10253 w10255 ⟨⟨hS10256, hq10254⟩, hF10257⟩
 subst hq10254
 refine seg 9 [] [4] [(4, (.bool x10245))] [] (fun fb => by kernel_rfl) rfl trivial ?_
 refine WL.done rfl ?_
 refine WX.next ?_
 refine WC.ret ?_
 injection hf with hf
 subst hf
 exact WX.ret_ [] (.bool x10245) [] (fun fb => by kernel_rfl) trivial ⟨_, rfl, rfl, hS10256.keep⟩
theorem decide_Check_calls (k : Nat) (p0 : List Tile) (p1 : Verdict) (A_p0 : Option Addr) (c_p0 : Nat) (A_p1_Torus_Cells : Option Addr) (c_p1_Torus_Cells : Nat) (r : Bool × Int) (w : World) (hR0 : RO NoS w (rowR enc_Tile A_p0 c_p0 p0)) (hR1 : RO NoS w (rowR encInt A_p1_Torus_Cells c_p1_Torus_Cells p1.Torus.Cells)) (hf : decide_Check k p0 p1 = some r) :
  CallsR Try.prog 18 #[(.slice A_p0 p0.length c_p0), (.agg #[(.bool p1.Fills), (iv p1.Torus.Width), (iv p1.Torus.Height), (.slice A_p1_Torus_Cells p1.Torus.Cells.length c_p1_Torus_Cells), (iv p1.Side)])] w (fun v w' => v = (.tuple #[(.bool r.1), (iv r.2)]) ∧ Keeps NoS w w') := by
 have hS : St NoS w w [rowR enc_Tile A_p0 c_p0 p0, rowR encInt A_p1_Torus_Cells c_p1_Torus_Cells p1.Torus.Cells] [] := St.init (ro_cons hR0 (ro_cons hR1 (ro_nil _ _)))
 refine enter 52 Try.func18 rfl Try.ntmps18 rfl ?_
 unfold decide_Check at hf
 refine WC.seq ?_
 refine WC.region ?_
 refine WL.new hS 3 [] (fun g => (.pointer (some ⟨g, 0, none⟩))) (.cells #[(.bool p1.Fills), (iv p1.Torus.Width), (iv p1.Torus.Height), (.slice A_p1_Torus_Cells p1.Torus.Cells.length c_p1_Torus_Cells), (iv p1.Side)] 40 (0, 0)) [] (fun fb g => by kernel_rfl) trivial (fun g9844 w9845 hS9846 => ?_)
 refine ⟨trivial, ?_⟩
 refine seg 3 [] [0, 3] [(0, (.slice A_p0 p0.length c_p0)), (3, (pt g9844))] [] (fun fb => by kernel_rfl) rfl trivial ?_
 refine WL.done rfl ?_
 refine WX.next ?_
 refine WC.seq ?_
 refine WC.seq ?_
 refine WC.region ?_
 refine seg 1 [] [0, 3, 8] [(0, (.slice A_p0 p0.length c_p0)), (3, (pt g9844)), (8, (.slice A_p0 p0.length c_p0))] [] (fun fb => by kernel_rfl) rfl trivial ?_
 obtain ⟨t9848, ht9849, hf⟩ := bind_some hf
 refine WL.call (some 9) 38 #[(.slice A_p0 p0.length c_p0)] (fun fb => by kernel_rfl) (tile_Valid_calls _ p0 A_p0 c_p0 t9848 _ (hS9846.rd 0) ht9849) (fun v w9850 hR9851 => ?_)
 obtain ⟨rfl, hk_⟩ := hR9851
 have hS9852 := hS9846.keepN hk_
 refine ⟨trivial, ?_⟩
 refine seg 3 [] [0, 3, 10] [(0, (.slice A_p0 p0.length c_p0)), (3, (pt g9844)), (10, (.bool (!t9848)))] [] (fun fb => by kernel_rfl) rfl trivial ?_
 refine WL.done rfl ?_
 refine WX.next ?_
 rcases br_some hf with ⟨h9853, hf⟩ | ⟨h9853, hf⟩
 ·refine WC.condT2 (fun fb => by kernel_rfl) h9853 ?_
  refine WC.seq ?_
  refine WC.region ?_
  refine seg 2 [] [4, 5] [(4, (.bool false)), (5, (iv 1))] [] (fun fb => by kernel_rfl) rfl trivial ?_
  refine WL.done rfl ?_
  refine WX.next ?_
  refine WC.ret ?_
  injection hf with hf
  subst hf
  exact WX.thenR (WX.ret_ [] (.tuple #[(.bool false), (iv 1)]) [] (fun fb => by kernel_rfl) trivial ⟨_, rfl, rfl, hS9852.keep⟩)
 refine WC.condF2 (fun fb => by kernel_rfl) h9853 ?_
 refine WC.skip ?_
 refine WX.next ?_
 refine WC.seq ?_
 refine WC.seq ?_
 refine WC.region ?_
 refine seg 2 [.v (.bool p1.Fills)] [0, 3, 12] [(0, (.slice A_p0 p0.length c_p0)), (3, (pt g9844)), (12, (.bool p1.Fills))] [.cell ⟨g9844, 0, none⟩ (.bool p1.Fills)] (fun fb => by kernel_rfl) rfl ⟨hS9852.cell 0 rfl 0 rfl, trivial⟩ ?_
 refine WL.done rfl ?_
 refine WX.next ?_
 rcases br_some hf with ⟨h9854, hf⟩ | ⟨h9854, hf⟩
 ·refine WC.condT2 (fun fb => by kernel_rfl) h9854 ?_
  refine WC.seq ?_
  refine WC.region ?_
  refine seg 4 [.v (iv p1.Side)] [0, 3, 16] [(0, (.slice A_p0 p0.length c_p0)), (3, (pt g9844)), (16, (.bool (p1.Side == 0)))] [.cell ⟨g9844, 4, none⟩ (iv p1.Side)] (fun fb => by kernel_rfl) rfl ⟨hS9852.cell 0 rfl 4 rfl, trivial⟩ ?_
  obtain ⟨x10264, hx10265, hf⟩ := bind_some hf
  refine WL.cutW (T := Bool) 9 (fun t => [(21, (.bool t))]) (fun t w1 => (St NoS w w1 [rowR enc_Tile A_p0 c_p0 p0, rowR encInt A_p1_Torus_Cells c_p1_Torus_Cells p1.Torus.Cells] [] ∧ x10264 = t) ∧ CellsOK [] w1) (fun K => ?_) ?_
  ·
   rcases br_some hx10265 with ⟨h10266, hx10265⟩ | ⟨h10266, hx10265⟩
   ·
    refine WL.setB 16 h10266 rfl ?_
    refine seg 7 [.v (iv p1.Torus.Width), .v (iv p1.Torus.Height), .v (.slice A_p1_Torus_Cells p1.Torus.Cells.length c_p1_Torus_Cells)] [16, 17, 19] [(16, (.bool true)), (17, (.slice A_p0 p0.length c_p0)), (19, (.agg #[(iv p1.Torus.Width), (iv p1.Torus.Height), (.slice A_p1_Torus_Cells p1.Torus.Cells.length c_p1_Torus_Cells)]))] [.cell ⟨g9844, 1, none⟩ (iv p1.Torus.Width), .cell ⟨g9844, 2, none⟩ (iv p1.Torus.Height), .cell ⟨g9844, 3, none⟩ (.slice A_p1_Torus_Cells p1.Torus.Cells.length c_p1_Torus_Cells)] (fun fb => by kernel_rfl) rfl ⟨hS9852.cell 0 rfl 1 rfl, hS9852.cell 0 rfl 2 rfl, hS9852.cell 0 rfl 3 rfl, trivial⟩ ?_
    obtain ⟨t10267, ht10268, hx10265⟩ := bind_some hx10265
    refine WL.call (some 20) 27 #[(.slice A_p0 p0.length c_p0), (.agg #[(iv p1.Torus.Width), (iv p1.Torus.Height), (.slice A_p1_Torus_Cells p1.Torus.Cells.length c_p1_Torus_Cells)])] (fun fb => by kernel_rfl) (tile_Repeats_calls _ p0 p1.Torus A_p0 c_p0 A_p1_Torus_Cells c_p1_Torus_Cells t10267 _ (hS9852.rd 0) (hS9852.rd 1) ht10268) (fun v w10269 hR10270 => ?_)
    obtain ⟨rfl, hk_⟩ := hR10270
    have hS10271 := hS9852.keepN hk_
    refine ⟨trivial, ?_⟩
    refine seg 9 [] [21] [(21, (.bool t10267))] [] (fun fb => by kernel_rfl) rfl trivial ?_
    injection hx10265 with hx10265
    exact WL.to K t10267 [21] rfl ⟨⟨(hS10271.subR [0, 1]).sub [] (by decide), hx10265.symm⟩, trivial⟩
   refine WL.setB 16 h10266 rfl ?_
   refine seg 9 [] [21] [(21, (.bool false))] [] (fun fb => by kernel_rfl) rfl trivial ?_
   injection hx10265 with hx10265
   exact WL.to K false [21] rfl ⟨⟨(hS9852.subR [0, 1]).sub [] (by decide), hx10265.symm⟩, trivial⟩
  rintro y10272 w10274 ⟨⟨hS10275, hq10273⟩, hF10276⟩
  subst hq10273
  refine seg 11 [] [4, 5] [(4, (.bool x10264)), (5, (iv 0))] [] (fun fb => by kernel_rfl) rfl trivial ?_
  refine WL.done rfl ?_
  refine WX.next ?_
  refine WC.ret ?_
  injection hf with hf
  subst hf
  exact WX.thenR (WX.ret_ [] (.tuple #[(.bool x10264), (iv 0)]) [] (fun fb => by kernel_rfl) trivial ⟨_, rfl, rfl, hS10275.keep⟩)
 refine WC.condF2 (fun fb => by kernel_rfl) h9854 ?_
 refine WC.skip ?_
 refine WX.next ?_
 refine WC.seq ?_
 refine WC.seq ?_
 refine WC.region ?_
 refine seg 5 [.v (iv p1.Torus.Width)] [0, 3, 26] [(0, (.slice A_p0 p0.length c_p0)), (3, (pt g9844)), (26, (.bool (p1.Torus.Width != 0)))] [.cell ⟨g9844, 1, none⟩ (iv p1.Torus.Width)] (fun fb => by kernel_rfl) rfl ⟨hS9852.cell 0 rfl 1 rfl, trivial⟩ ?_
 refine WL.cutV (T := Bool) 10 (fun t => [(31, (.bool t)), (0, (.slice A_p0 p0.length c_p0)), (3, (pt g9844))]) (fun t => ((p1.Torus.Width != 0) || (p1.Torus.Height != 0)) = t) (fun K => ?_) ?_
 ·
  rcases Bool.eq_false_or_eq_true (p1.Torus.Width != 0) with h10277 | h10277
  ·
   refine WL.setB 26 h10277 rfl ?_
   refine seg 10 [] [0, 3, 31] [(0, (.slice A_p0 p0.length c_p0)), (3, (pt g9844)), (31, (.bool true))] [] (fun fb => by kernel_rfl) rfl trivial ?_
   exact WL.toV K true [31, 0, 3] rfl (by first | (rw [h10277]; done) | (rw [h10277]; rfl))
  refine WL.setB 26 h10277 rfl ?_
  refine seg 10 [.v (iv p1.Torus.Height)] [0, 3, 31] [(0, (.slice A_p0 p0.length c_p0)), (3, (pt g9844)), (31, (.bool (p1.Torus.Height != 0)))] [.cell ⟨g9844, 2, none⟩ (iv p1.Torus.Height)] (fun fb => by kernel_rfl) rfl ⟨hS9852.cell 0 rfl 2 rfl, trivial⟩ ?_
  exact WL.toV K (p1.Torus.Height != 0) [31, 0, 3] rfl (by first | (rw [h10277]; done) | (rw [h10277]; rfl))
 rintro b10278 rfl
 refine seg 11 [] [0, 3, 32] [(0, (.slice A_p0 p0.length c_p0)), (3, (pt g9844)), (32, (.bool ((p1.Torus.Width != 0) || (p1.Torus.Height != 0))))] [] (fun fb => by kernel_rfl) rfl trivial ?_
 refine WL.cutV (T := Bool) 17 (fun t => [(38, (.bool t)), (0, (.slice A_p0 p0.length c_p0)), (3, (pt g9844))]) (fun t => (((p1.Torus.Width != 0) || (p1.Torus.Height != 0)) || (decide ((p1.Torus.Cells.length : Int) > 0))) = t) (fun K => ?_) ?_
 ·
  rcases Bool.eq_false_or_eq_true ((p1.Torus.Width != 0) || (p1.Torus.Height != 0)) with h10279 | h10279
  ·
   refine WL.setB 32 h10279 rfl ?_
   refine seg 17 [] [0, 3, 38] [(0, (.slice A_p0 p0.length c_p0)), (3, (pt g9844)), (38, (.bool true))] [] (fun fb => by kernel_rfl) rfl trivial ?_
   exact WL.toV K true [38, 0, 3] rfl (by first | (rw [h10279]; done) | (rw [h10279]; rfl))
  refine WL.setB 32 h10279 rfl ?_
  refine seg 17 [.v (.slice A_p1_Torus_Cells p1.Torus.Cells.length c_p1_Torus_Cells)] [0, 3, 38] [(0, (.slice A_p0 p0.length c_p0)), (3, (pt g9844)), (38, (.bool (decide ((p1.Torus.Cells.length : Int) > 0))))] [.cell ⟨g9844, 3, none⟩ (.slice A_p1_Torus_Cells p1.Torus.Cells.length c_p1_Torus_Cells)] (fun fb => by kernel_rfl) rfl ⟨hS9852.cell 0 rfl 3 rfl, trivial⟩ ?_
  exact WL.toV K (decide ((p1.Torus.Cells.length : Int) > 0)) [38, 0, 3] rfl (by first | (rw [h10279]; done) | (rw [h10279]; rfl))
 rintro b10280 rfl
 refine WL.done rfl ?_
 refine WX.next ?_
 rcases br_some hf with ⟨h10281, hf⟩ | ⟨h10281, hf⟩
 ·refine WC.condT2 (fun fb => by kernel_rfl) h10281 ?_
  refine WC.seq ?_
  refine WC.region ?_
  refine seg 2 [] [4, 5] [(4, (.bool false)), (5, (iv 0))] [] (fun fb => by kernel_rfl) rfl trivial ?_
  refine WL.done rfl ?_
  refine WX.next ?_
  refine WC.ret ?_
  injection hf with hf
  subst hf
  exact WX.thenR (WX.ret_ [] (.tuple #[(.bool false), (iv 0)]) [] (fun fb => by kernel_rfl) trivial ⟨_, rfl, rfl, hS9852.keep⟩)
 refine WC.condF2 (fun fb => by kernel_rfl) h10281 ?_
 refine WC.skip ?_
 refine WX.next ?_
 refine WC.seq ?_
 refine WC.region ?_
 refine seg 3 [.v (iv p1.Side)] [40, 42] [(40, (.slice A_p0 p0.length c_p0)), (42, (iv p1.Side))] [.cell ⟨g9844, 4, none⟩ (iv p1.Side)] (fun fb => by kernel_rfl) rfl ⟨hS9852.cell 0 rfl 4 rfl, trivial⟩ ?_
 obtain ⟨t10282, ht10283, hf⟩ := bind_some hf
 refine WL.call (some 43) 21 #[(.slice A_p0 p0.length c_p0), (iv p1.Side)] (fun fb => by kernel_rfl) (square_Exists_calls _ p0 p1.Side A_p0 c_p0 t10282 _ (hS9852.rd 0) ht10283) (fun v w10284 hR10285 => ?_)
 obtain ⟨rfl, hk_⟩ := hR10285
 have hS10286 := hS9852.keepN hk_
 refine ⟨trivial, ?_⟩
 refine seg 9 [] [6, 7] [(6, (.bool t10282.1)), (7, (iv t10282.2))] [] (fun fb => by kernel_rfl) rfl trivial ?_
 refine WL.done rfl ?_
 refine WX.next ?_
 refine WC.seq ?_
 refine WC.region ?_
 refine seg 3 [] [6, 48] [(6, (.bool t10282.1)), (48, (.bool (t10282.2 == 0)))] [] (fun fb => by kernel_rfl) rfl trivial ?_
 refine WL.cutV (T := Bool) 6 (fun t => [(51, (.bool t))]) (fun t => ((t10282.2 == 0) && (!t10282.1)) = t) (fun K => ?_) ?_
 ·
  rcases Bool.eq_false_or_eq_true (t10282.2 == 0) with h10287 | h10287
  ·
   refine WL.setB 48 h10287 rfl ?_
   refine seg 6 [] [51] [(51, (.bool (!t10282.1)))] [] (fun fb => by kernel_rfl) rfl trivial ?_
   exact WL.toV K (!t10282.1) [51] rfl (by first | (rw [h10287]; done) | (rw [h10287]; rfl))
  refine WL.setB 48 h10287 rfl ?_
  refine seg 6 [] [51] [(51, (.bool false))] [] (fun fb => by kernel_rfl) rfl trivial ?_
  exact WL.toV K false [51] rfl (by first | (rw [h10287]; done) | (rw [h10287]; rfl))
 rintro b10288 rfl
 refine seg 8 [] [4, 5] [(4, (.bool ((t10282.2 == 0) && (!t10282.1)))), (5, (iv 0))] [] (fun fb => by kernel_rfl) rfl trivial ?_
 refine WL.done rfl ?_
 refine WX.next ?_
 refine WC.ret ?_
 injection hf with hf
 subst hf
 exact WX.ret_ [] (.tuple #[(.bool ((t10282.2 == 0) && (!t10282.1))), (iv 0)]) [] (fun fb => by kernel_rfl) trivial ⟨_, rfl, rfl, hS10286.keep⟩
theorem law09_DecideVerdicts_calls (k : Nat) (p0 : List Tile) (A_p0 : Option Addr) (c_p0 : Nat) (r : Bool) (w : World) (hR0 : RO NoS w (rowR enc_Tile A_p0 c_p0 p0)) (hf : law09_DecideVerdicts k p0 = some r) :
  CallsR Try.prog 7 #[(.slice A_p0 p0.length c_p0)] w (fun v w' => v = (.bool r) ∧ Keeps NoS w w') := by
 have hS : St NoS w w [rowR enc_Tile A_p0 c_p0 p0] [] := St.init (ro_cons hR0 (ro_nil _ _))
 refine enter 153 Try.func7 rfl Try.ntmps7 rfl ?_
 unfold law09_DecideVerdicts at hf
 refine WC.seq ?_
 refine WC.region ?_
 refine seg 1 [] [0] [(0, (.slice A_p0 p0.length c_p0))] [] (fun fb => by kernel_rfl) rfl trivial ?_
 refine WL.done rfl ?_
 refine WX.next ?_
 refine WC.seq ?_
 refine WC.seq ?_
 refine WC.region ?_
 refine seg 3 [] [0, 16] [(0, (.slice A_p0 p0.length c_p0)), (16, (.bool (decide ((p0.length : Int) > 2000))))] [] (fun fb => by kernel_rfl) rfl trivial ?_
 refine WL.done rfl ?_
 refine WX.next ?_
 rcases br_some hf with ⟨h1, hf⟩ | ⟨h1, hf⟩
 ·refine WC.condT2 (fun fb => by kernel_rfl) h1 ?_
  refine WC.seq ?_
  refine WC.region ?_
  obtain ⟨t9117, ht9118, hf⟩ := bind_some hf
  refine WL.call (some 17) 14 #[] (fun fb => by kernel_rfl) (law09_awake_calls _ t9117 _ ht9118) (fun v w9119 hR9120 => ?_)
  obtain ⟨rfl, hk_⟩ := hR9120
  have hS9121 := hS.keepN hk_
  refine ⟨trivial, ?_⟩
  refine seg 2 [] [2] [(2, (.bool t9117))] [] (fun fb => by kernel_rfl) rfl trivial ?_
  refine WL.done rfl ?_
  refine WX.next ?_
  refine WC.ret ?_
  injection hf with hf
  subst hf
  exact WX.thenR (WX.ret_ [] (.bool t9117) [] (fun fb => by kernel_rfl) trivial ⟨_, rfl, rfl, hS9121.keep⟩)
 refine WC.condF2 (fun fb => by kernel_rfl) h1 ?_
 refine WC.skip ?_
 refine WX.next ?_
 refine WC.seq ?_
 refine WC.region ?_
 refine seg 1 [] [0, 19] [(0, (.slice A_p0 p0.length c_p0)), (19, (.slice A_p0 p0.length c_p0))] [] (fun fb => by kernel_rfl) rfl trivial ?_
 obtain ⟨t9122, ht9123, hf⟩ := bind_some hf
 refine WL.call (some 20) 22 #[(.slice A_p0 p0.length c_p0)] (fun fb => by kernel_rfl) (decide_Decide_calls _ p0 A_p0 c_p0 t9122 _ (hS.rd 0) ht9123) (fun v w9124 hR9125 => ?_)
 obtain ⟨A9127, c9128, rfl, hk_⟩ := hR9125
 have hS9126 : St NoS w w9124 [rowR enc_Tile A_p0 c_p0 p0] [rowO 3 encInt A9127 c9128 t9122.1.Torus.Cells] := hS.call hk_ [] [] (fun g hg => hg.elim) (by simp) (by decide)
 refine ⟨trivial, ?_⟩
 refine seg 5 [] [0, 21, 22] [(0, (.slice A_p0 p0.length c_p0)), (21, (.agg #[(.bool t9122.1.Fills), (iv t9122.1.Torus.Width), (iv t9122.1.Torus.Height), (.slice A9127 t9122.1.Torus.Cells.length c9128), (iv t9122.1.Side)])), (22, (iv t9122.2))] [] (fun fb => by kernel_rfl) rfl trivial ?_
 refine WL.new hS9126 3 [] (fun g => (.pointer (some ⟨g, 0, none⟩))) (.cells #[(.bool false), (iv 0), (iv 0), (.slice none 0 0), (iv 0)] 40 (0, 0)) [] (fun fb g => by kernel_rfl) trivial (fun g9129 w9130 hS9131 => ?_)
 refine ⟨trivial, ?_⟩
 refine WL.store hS9131 0 rfl [(0, (.bool t9122.1.Fills)), (1, (iv t9122.1.Torus.Width)), (2, (iv t9122.1.Torus.Height)), (3, (.slice A9127 t9122.1.Torus.Cells.length c9128)), (4, (iv t9122.1.Side))] #[(.bool t9122.1.Fills), (iv t9122.1.Torus.Width), (iv t9122.1.Torus.Height), (.slice A9127 t9122.1.Torus.Cells.length c9128), (iv t9122.1.Side)] (fun fb => by kernel_rfl) (by kernel_rfl) rfl [1] (by decide) (by decide) (fun w9133 hS9134 => ?_)
 refine ⟨trivial, ?_⟩
 refine seg 8 [] [0, 3, 4] [(0, (.slice A_p0 p0.length c_p0)), (3, (pt g9129)), (4, (iv t9122.2))] [] (fun fb => by kernel_rfl) rfl trivial ?_
 refine WL.done rfl ?_
 refine WX.next ?_
 refine WC.seq ?_
 refine WC.region ?_
 refine seg 1 [] [0, 3, 4, 24] [(0, (.slice A_p0 p0.length c_p0)), (3, (pt g9129)), (4, (iv t9122.2)), (24, (.slice A_p0 p0.length c_p0))] [] (fun fb => by kernel_rfl) rfl trivial ?_
 obtain ⟨t9148, ht9149, hf⟩ := bind_some hf
 refine WL.call (some 25) 11 #[(.slice A_p0 p0.length c_p0)] (fun fb => by kernel_rfl) (decide_Fills_calls _ p0 A_p0 c_p0 t9148 _ (hS9134.rd 0) ht9149) (fun v w9150 hR9151 => ?_)
 obtain ⟨rfl, hk_⟩ := hR9151
 have hS9152 := hS9134.keepN hk_
 refine ⟨trivial, ?_⟩
 refine seg 7 [] [0, 3, 4, 5, 6] [(0, (.slice A_p0 p0.length c_p0)), (3, (pt g9129)), (4, (iv t9122.2)), (5, (.bool t9148.1)), (6, (iv t9148.2))] [] (fun fb => by kernel_rfl) rfl trivial ?_
 refine WL.done rfl ?_
 refine WX.next ?_
 refine WC.seq ?_
 refine WC.seq ?_
 refine WC.region ?_
 refine seg 1 [] [0, 3, 4, 5, 6, 28] [(0, (.slice A_p0 p0.length c_p0)), (3, (pt g9129)), (4, (iv t9122.2)), (5, (.bool t9148.1)), (6, (iv t9148.2)), (28, (.slice A_p0 p0.length c_p0))] [] (fun fb => by kernel_rfl) rfl trivial ?_
 obtain ⟨t9763, ht9764, hf⟩ := bind_some hf
 refine WL.call (some 29) 23 #[(.slice A_p0 p0.length c_p0)] (fun fb => by kernel_rfl) (law09_code_calls _ p0 A_p0 c_p0 t9763 _ (hS9152.rd 0) ht9764) (fun v w9765 hR9766 => ?_)
 obtain ⟨rfl, hk_⟩ := hR9766
 have hS9767 := hS9152.keepN hk_
 refine ⟨trivial, ?_⟩
 refine seg 3 [] [0, 3, 4, 5, 6, 7] [(0, (.slice A_p0 p0.length c_p0)), (3, (pt g9129)), (4, (iv t9122.2)), (5, (.bool t9148.1)), (6, (iv t9148.2)), (7, (iv t9763))] [] (fun fb => by kernel_rfl) rfl trivial ?_
 refine WL.done rfl ?_
 refine WX.next ?_
 refine WC.seq ?_
 refine WC.region ?_
 refine seg 2 [] [0, 3, 4, 5, 6, 7, 31] [(0, (.slice A_p0 p0.length c_p0)), (3, (pt g9129)), (4, (iv t9122.2)), (5, (.bool t9148.1)), (6, (iv t9148.2)), (7, (iv t9763)), (31, (.bool (t9763 != 0)))] [] (fun fb => by kernel_rfl) rfl trivial ?_
 refine WL.done rfl ?_
 refine WX.next ?_
 rcases br_some hf with ⟨h9768, hf⟩ | ⟨h9768, hf⟩
 ·refine WC.condT2 (fun fb => by kernel_rfl) h9768 ?_
  refine WC.seq ?_
  refine WC.region ?_
  refine seg 4 [] [3, 5, 6, 7, 35] [(3, (pt g9129)), (5, (.bool t9148.1)), (6, (iv t9148.2)), (7, (iv t9763)), (35, (.bool (t9122.2 == t9763)))] [] (fun fb => by kernel_rfl) rfl trivial ?_
  refine WL.cutV (T := Bool) 8 (fun t => [(39, (.bool t)), (3, (pt g9129)), (5, (.bool t9148.1))]) (fun t => ((t9122.2 == t9763) && (t9148.2 == t9763)) = t) (fun K => ?_) ?_
  ·
   rcases Bool.eq_false_or_eq_true (t9122.2 == t9763) with h9769 | h9769
   ·
    refine WL.setB 35 h9769 rfl ?_
    refine seg 8 [] [3, 5, 39] [(3, (pt g9129)), (5, (.bool t9148.1)), (39, (.bool (t9148.2 == t9763)))] [] (fun fb => by kernel_rfl) rfl trivial ?_
    exact WL.toV K (t9148.2 == t9763) [39, 3, 5] rfl (by first | (rw [h9769]; done) | (rw [h9769]; rfl))
   refine WL.setB 35 h9769 rfl ?_
   refine seg 8 [] [3, 5, 39] [(3, (pt g9129)), (5, (.bool t9148.1)), (39, (.bool false))] [] (fun fb => by kernel_rfl) rfl trivial ?_
   exact WL.toV K false [39, 3, 5] rfl (by first | (rw [h9769]; done) | (rw [h9769]; rfl))
  rintro b9770 rfl
  refine seg 9 [] [3, 5, 40] [(3, (pt g9129)), (5, (.bool t9148.1)), (40, (.bool ((t9122.2 == t9763) && (t9148.2 == t9763))))] [] (fun fb => by kernel_rfl) rfl trivial ?_
  obtain ⟨x9810, hx9811, hf⟩ := bind_some hf
  refine WL.cutW (T := Bool) 12 (fun t => [(5, (.bool t9148.1)), (43, (.bool t))]) (fun t w1 => (St NoS w w1 [rowR enc_Tile A_p0 c_p0 p0] [] ∧ x9810 = t) ∧ CellsOK [] w1) (fun K => ?_) ?_
  ·
   rcases br_some hx9811 with ⟨h9812, hx9811⟩ | ⟨h9812, hx9811⟩
   ·
    refine WL.setB 40 h9812 rfl ?_
    refine seg 10 [.v (.bool t9122.1.Fills), .v (iv t9122.1.Torus.Width), .v (iv t9122.1.Torus.Height), .v (.slice A9127 t9122.1.Torus.Cells.length c9128), .v (iv t9122.1.Side)] [5, 40, 41] [(5, (.bool t9148.1)), (40, (.bool true)), (41, (.agg #[(.bool t9122.1.Fills), (iv t9122.1.Torus.Width), (iv t9122.1.Torus.Height), (.slice A9127 t9122.1.Torus.Cells.length c9128), (iv t9122.1.Side)]))] [.cell ⟨g9129, 0, none⟩ (.bool t9122.1.Fills), .cell ⟨g9129, 1, none⟩ (iv t9122.1.Torus.Width), .cell ⟨g9129, 2, none⟩ (iv t9122.1.Torus.Height), .cell ⟨g9129, 3, none⟩ (.slice A9127 t9122.1.Torus.Cells.length c9128), .cell ⟨g9129, 4, none⟩ (iv t9122.1.Side)] (fun fb => by kernel_rfl) rfl ⟨hS9767.cell 0 rfl 0 rfl, hS9767.cell 0 rfl 1 rfl, hS9767.cell 0 rfl 2 rfl, hS9767.cell 0 rfl 3 rfl, hS9767.cell 0 rfl 4 rfl, trivial⟩ ?_
    obtain ⟨t9813, ht9814, hx9811⟩ := bind_some hx9811
    refine WL.call (some 42) 24 #[(.agg #[(.bool t9122.1.Fills), (iv t9122.1.Torus.Width), (iv t9122.1.Torus.Height), (.slice A9127 t9122.1.Torus.Cells.length c9128), (iv t9122.1.Side)])] (fun fb => by kernel_rfl) (law09_zero_calls t9122.1 A9127 c9128 t9813 _ (hS9767.ow 1).ofO ht9814) (fun v w9815 hR9816 => ?_)
    obtain ⟨rfl, hk_⟩ := hR9816
    have hS9817 := hS9767.keepN hk_
    refine ⟨trivial, ?_⟩
    refine seg 12 [] [5, 43] [(5, (.bool t9148.1)), (43, (.bool t9813))] [] (fun fb => by kernel_rfl) rfl trivial ?_
    injection hx9811 with hx9811
    exact WL.to K t9813 [5, 43] rfl ⟨⟨(hS9817.subR [0]).sub [] (by decide), hx9811.symm⟩, trivial⟩
   refine WL.setB 40 h9812 rfl ?_
   refine seg 12 [] [5, 43] [(5, (.bool t9148.1)), (43, (.bool false))] [] (fun fb => by kernel_rfl) rfl trivial ?_
   injection hx9811 with hx9811
   exact WL.to K false [5, 43] rfl ⟨⟨(hS9767.subR [0]).sub [] (by decide), hx9811.symm⟩, trivial⟩
  rintro y9818 w9820 ⟨⟨hS9821, hq9819⟩, hF9822⟩
  subst hq9819
  refine seg 13 [] [5, 44] [(5, (.bool t9148.1)), (44, (.bool x9810))] [] (fun fb => by kernel_rfl) rfl trivial ?_
  refine WL.cutV (T := Bool) 16 (fun t => [(47, (.bool t))]) (fun t => (x9810 && (!t9148.1)) = t) (fun K => ?_) ?_
  ·
   rcases Bool.eq_false_or_eq_true x9810 with h9823 | h9823
   ·
    refine WL.setB 44 h9823 rfl ?_
    refine seg 16 [] [47] [(47, (.bool (!t9148.1)))] [] (fun fb => by kernel_rfl) rfl trivial ?_
    exact WL.toV K (!t9148.1) [47] rfl (by first | (rw [h9823]; done) | (rw [h9823]; rfl))
   refine WL.setB 44 h9823 rfl ?_
   refine seg 16 [] [47] [(47, (.bool false))] [] (fun fb => by kernel_rfl) rfl trivial ?_
   exact WL.toV K false [47] rfl (by first | (rw [h9823]; done) | (rw [h9823]; rfl))
  rintro b9824 rfl
  refine seg 17 [] [48] [(48, (.bool (x9810 && (!t9148.1))))] [] (fun fb => by kernel_rfl) rfl trivial ?_
  obtain ⟨x9831, hx9832, hf⟩ := bind_some hf
  refine WL.cutW (T := Bool) 19 (fun t => [(50, (.bool t))]) (fun t w1 => (St NoS w w1 [rowR enc_Tile A_p0 c_p0 p0] [] ∧ x9831 = t) ∧ CellsOK [] w1) (fun K => ?_) ?_
  ·
   rcases br_some hx9832 with ⟨h9833, hx9832⟩ | ⟨h9833, hx9832⟩
   ·
    refine WL.setB 48 h9833 rfl ?_
    obtain ⟨t9834, ht9835, hx9832⟩ := bind_some hx9832
    refine WL.call (some 49) 14 #[] (fun fb => by kernel_rfl) (law09_awake_calls _ t9834 _ ht9835) (fun v w9836 hR9837 => ?_)
    obtain ⟨rfl, hk_⟩ := hR9837
    have hS9838 := hS9821.keepN hk_
    refine ⟨trivial, ?_⟩
    refine seg 19 [] [50] [(50, (.bool t9834))] [] (fun fb => by kernel_rfl) rfl trivial ?_
    injection hx9832 with hx9832
    exact WL.to K t9834 [50] rfl ⟨⟨(hS9838.subR [0]).sub [] (by decide), hx9832.symm⟩, trivial⟩
   refine WL.setB 48 h9833 rfl ?_
   refine seg 19 [] [50] [(50, (.bool false))] [] (fun fb => by kernel_rfl) rfl trivial ?_
   injection hx9832 with hx9832
   exact WL.to K false [50] rfl ⟨⟨(hS9821.subR [0]).sub [] (by decide), hx9832.symm⟩, trivial⟩
  rintro y9839 w9841 ⟨⟨hS9842, hq9840⟩, hF9843⟩
  subst hq9840
  refine seg 20 [] [2] [(2, (.bool x9831))] [] (fun fb => by kernel_rfl) rfl trivial ?_
  refine WL.done rfl ?_
  refine WX.next ?_
  refine WC.ret ?_
  injection hf with hf
  subst hf
  exact WX.thenR (WX.ret_ [] (.bool x9831) [] (fun fb => by kernel_rfl) trivial ⟨_, rfl, rfl, hS9842.keep⟩)
 refine WC.condF2 (fun fb => by kernel_rfl) h9768 ?_
 refine WC.skip ?_
 refine WX.next ?_
 refine WC.seq ?_
 refine WC.region ?_
 refine seg 2 [.v (.bool t9122.1.Fills), .v (iv t9122.1.Torus.Width), .v (iv t9122.1.Torus.Height), .v (.slice A9127 t9122.1.Torus.Cells.length c9128), .v (iv t9122.1.Side)] [0, 3, 4, 5, 6, 52, 53] [(0, (.slice A_p0 p0.length c_p0)), (3, (pt g9129)), (4, (iv t9122.2)), (5, (.bool t9148.1)), (6, (iv t9148.2)), (52, (.slice A_p0 p0.length c_p0)), (53, (.agg #[(.bool t9122.1.Fills), (iv t9122.1.Torus.Width), (iv t9122.1.Torus.Height), (.slice A9127 t9122.1.Torus.Cells.length c9128), (iv t9122.1.Side)]))] [.cell ⟨g9129, 0, none⟩ (.bool t9122.1.Fills), .cell ⟨g9129, 1, none⟩ (iv t9122.1.Torus.Width), .cell ⟨g9129, 2, none⟩ (iv t9122.1.Torus.Height), .cell ⟨g9129, 3, none⟩ (.slice A9127 t9122.1.Torus.Cells.length c9128), .cell ⟨g9129, 4, none⟩ (iv t9122.1.Side)] (fun fb => by kernel_rfl) rfl ⟨hS9767.cell 0 rfl 0 rfl, hS9767.cell 0 rfl 1 rfl, hS9767.cell 0 rfl 2 rfl, hS9767.cell 0 rfl 3 rfl, hS9767.cell 0 rfl 4 rfl, trivial⟩ ?_
 obtain ⟨t10289, ht10290, hf⟩ := bind_some hf
 refine WL.call (some 54) 18 #[(.slice A_p0 p0.length c_p0), (.agg #[(.bool t9122.1.Fills), (iv t9122.1.Torus.Width), (iv t9122.1.Torus.Height), (.slice A9127 t9122.1.Torus.Cells.length c9128), (iv t9122.1.Side)])] (fun fb => by kernel_rfl) (decide_Check_calls _ p0 t9122.1 A_p0 c_p0 A9127 c9128 t10289 _ (hS9767.rd 0) (hS9767.ow 1).ofO ht10290) (fun v w10291 hR10292 => ?_)
 obtain ⟨rfl, hk_⟩ := hR10292
 have hS10293 := hS9767.keepN hk_
 refine ⟨trivial, ?_⟩
 refine seg 8 [] [0, 3, 4, 5, 6, 8, 9] [(0, (.slice A_p0 p0.length c_p0)), (3, (pt g9129)), (4, (iv t9122.2)), (5, (.bool t9148.1)), (6, (iv t9148.2)), (8, (.bool t10289.1)), (9, (iv t10289.2))] [] (fun fb => by kernel_rfl) rfl trivial ?_
 refine WL.done rfl ?_
 refine WX.next ?_
 refine WC.seq ?_
 refine WC.seq ?_
 refine WC.region ?_
 refine seg 3 [] [0, 3, 5, 6, 8, 9, 59] [(0, (.slice A_p0 p0.length c_p0)), (3, (pt g9129)), (5, (.bool t9148.1)), (6, (iv t9148.2)), (8, (.bool t10289.1)), (9, (iv t10289.2)), (59, (.bool (t9122.2 != 0)))] [] (fun fb => by kernel_rfl) rfl trivial ?_
 refine WL.cutV (T := Bool) 6 (fun t => [(62, (.bool t)), (0, (.slice A_p0 p0.length c_p0)), (3, (pt g9129)), (5, (.bool t9148.1)), (8, (.bool t10289.1)), (9, (iv t10289.2))]) (fun t => ((t9122.2 != 0) || (t9148.2 != 0)) = t) (fun K => ?_) ?_
 ·
  rcases Bool.eq_false_or_eq_true (t9122.2 != 0) with h10294 | h10294
  ·
   refine WL.setB 59 h10294 rfl ?_
   refine seg 6 [] [0, 3, 5, 8, 9, 62] [(0, (.slice A_p0 p0.length c_p0)), (3, (pt g9129)), (5, (.bool t9148.1)), (8, (.bool t10289.1)), (9, (iv t10289.2)), (62, (.bool true))] [] (fun fb => by kernel_rfl) rfl trivial ?_
   exact WL.toV K true [62, 0, 3, 5, 8, 9] rfl (by first | (rw [h10294]; done) | (rw [h10294]; rfl))
  refine WL.setB 59 h10294 rfl ?_
  refine seg 6 [] [0, 3, 5, 8, 9, 62] [(0, (.slice A_p0 p0.length c_p0)), (3, (pt g9129)), (5, (.bool t9148.1)), (8, (.bool t10289.1)), (9, (iv t10289.2)), (62, (.bool (t9148.2 != 0)))] [] (fun fb => by kernel_rfl) rfl trivial ?_
  exact WL.toV K (t9148.2 != 0) [62, 0, 3, 5, 8, 9] rfl (by first | (rw [h10294]; done) | (rw [h10294]; rfl))
 rintro b10295 rfl
 refine seg 7 [] [0, 3, 5, 8, 9, 63] [(0, (.slice A_p0 p0.length c_p0)), (3, (pt g9129)), (5, (.bool t9148.1)), (8, (.bool t10289.1)), (9, (iv t10289.2)), (63, (.bool ((t9122.2 != 0) || (t9148.2 != 0))))] [] (fun fb => by kernel_rfl) rfl trivial ?_
 refine WL.cutV (T := Bool) 10 (fun t => [(66, (.bool t)), (0, (.slice A_p0 p0.length c_p0)), (3, (pt g9129)), (5, (.bool t9148.1)), (8, (.bool t10289.1))]) (fun t => (((t9122.2 != 0) || (t9148.2 != 0)) || (t10289.2 != 0)) = t) (fun K => ?_) ?_
 ·
  rcases Bool.eq_false_or_eq_true ((t9122.2 != 0) || (t9148.2 != 0)) with h10296 | h10296
  ·
   refine WL.setB 63 h10296 rfl ?_
   refine seg 10 [] [0, 3, 5, 8, 66] [(0, (.slice A_p0 p0.length c_p0)), (3, (pt g9129)), (5, (.bool t9148.1)), (8, (.bool t10289.1)), (66, (.bool true))] [] (fun fb => by kernel_rfl) rfl trivial ?_
   exact WL.toV K true [66, 0, 3, 5, 8] rfl (by first | (rw [h10296]; done) | (rw [h10296]; rfl))
  refine WL.setB 63 h10296 rfl ?_
  refine seg 10 [] [0, 3, 5, 8, 66] [(0, (.slice A_p0 p0.length c_p0)), (3, (pt g9129)), (5, (.bool t9148.1)), (8, (.bool t10289.1)), (66, (.bool (t10289.2 != 0)))] [] (fun fb => by kernel_rfl) rfl trivial ?_
  exact WL.toV K (t10289.2 != 0) [66, 0, 3, 5, 8] rfl (by first | (rw [h10296]; done) | (rw [h10296]; rfl))
 rintro b10297 rfl
 refine seg 11 [] [0, 3, 5, 8, 67] [(0, (.slice A_p0 p0.length c_p0)), (3, (pt g9129)), (5, (.bool t9148.1)), (8, (.bool t10289.1)), (67, (.bool (((t9122.2 != 0) || (t9148.2 != 0)) || (t10289.2 != 0))))] [] (fun fb => by kernel_rfl) rfl trivial ?_
 refine WL.cutV (T := Bool) 14 (fun t => [(70, (.bool t)), (0, (.slice A_p0 p0.length c_p0)), (3, (pt g9129)), (5, (.bool t9148.1))]) (fun t => ((((t9122.2 != 0) || (t9148.2 != 0)) || (t10289.2 != 0)) || (!t10289.1)) = t) (fun K => ?_) ?_
 ·
  rcases Bool.eq_false_or_eq_true (((t9122.2 != 0) || (t9148.2 != 0)) || (t10289.2 != 0)) with h10298 | h10298
  ·
   refine WL.setB 67 h10298 rfl ?_
   refine seg 14 [] [0, 3, 5, 70] [(0, (.slice A_p0 p0.length c_p0)), (3, (pt g9129)), (5, (.bool t9148.1)), (70, (.bool true))] [] (fun fb => by kernel_rfl) rfl trivial ?_
   exact WL.toV K true [70, 0, 3, 5] rfl (by first | (rw [h10298]; done) | (rw [h10298]; rfl))
  refine WL.setB 67 h10298 rfl ?_
  refine seg 14 [] [0, 3, 5, 70] [(0, (.slice A_p0 p0.length c_p0)), (3, (pt g9129)), (5, (.bool t9148.1)), (70, (.bool (!t10289.1)))] [] (fun fb => by kernel_rfl) rfl trivial ?_
  exact WL.toV K (!t10289.1) [70, 0, 3, 5] rfl (by first | (rw [h10298]; done) | (rw [h10298]; rfl))
 rintro b10299 rfl
 refine seg 15 [] [0, 3, 5, 71] [(0, (.slice A_p0 p0.length c_p0)), (3, (pt g9129)), (5, (.bool t9148.1)), (71, (.bool ((((t9122.2 != 0) || (t9148.2 != 0)) || (t10289.2 != 0)) || (!t10289.1))))] [] (fun fb => by kernel_rfl) rfl trivial ?_
 refine WL.cutV (T := Bool) 20 (fun t => [(76, (.bool t)), (0, (.slice A_p0 p0.length c_p0)), (3, (pt g9129))]) (fun t => (((((t9122.2 != 0) || (t9148.2 != 0)) || (t10289.2 != 0)) || (!t10289.1)) || (t9148.1 != t9122.1.Fills)) = t) (fun K => ?_) ?_
 ·
  rcases Bool.eq_false_or_eq_true ((((t9122.2 != 0) || (t9148.2 != 0)) || (t10289.2 != 0)) || (!t10289.1)) with h10300 | h10300
  ·
   refine WL.setB 71 h10300 rfl ?_
   refine seg 20 [] [0, 3, 76] [(0, (.slice A_p0 p0.length c_p0)), (3, (pt g9129)), (76, (.bool true))] [] (fun fb => by kernel_rfl) rfl trivial ?_
   exact WL.toV K true [76, 0, 3] rfl (by first | (rw [h10300]; done) | (rw [h10300]; rfl))
  refine WL.setB 71 h10300 rfl ?_
  refine seg 20 [.v (.bool t9122.1.Fills)] [0, 3, 76] [(0, (.slice A_p0 p0.length c_p0)), (3, (pt g9129)), (76, (.bool (t9148.1 != t9122.1.Fills)))] [.cell ⟨g9129, 0, none⟩ (.bool t9122.1.Fills)] (fun fb => by kernel_rfl) rfl ⟨hS10293.cell 0 rfl 0 rfl, trivial⟩ ?_
  exact WL.toV K (t9148.1 != t9122.1.Fills) [76, 0, 3] rfl (by first | (rw [h10300]; done) | (rw [h10300]; rfl))
 rintro b10301 rfl
 refine WL.done rfl ?_
 refine WX.next ?_
 rcases br_some hf with ⟨h10302, hf⟩ | ⟨h10302, hf⟩
 ·refine WC.condT2 (fun fb => by kernel_rfl) h10302 ?_
  refine WC.seq ?_
  refine WC.region ?_
  refine seg 1 [] [2] [(2, (.bool false))] [] (fun fb => by kernel_rfl) rfl trivial ?_
  refine WL.done rfl ?_
  refine WX.next ?_
  refine WC.ret ?_
  injection hf with hf
  subst hf
  exact WX.thenR (WX.ret_ [] (.bool false) [] (fun fb => by kernel_rfl) trivial ⟨_, rfl, rfl, hS10293.keep⟩)
 refine WC.condF2 (fun fb => by kernel_rfl) h10302 ?_
 refine WC.skip ?_
 refine WX.next ?_
 refine WC.seq ?_
 refine WC.region ?_
 refine seg 1 [] [0, 3, 78] [(0, (.slice A_p0 p0.length c_p0)), (3, (pt g9129)), (78, (.slice A_p0 p0.length c_p0))] [] (fun fb => by kernel_rfl) rfl trivial ?_
 obtain ⟨t10303, ht10304, hf⟩ := bind_some hf
 refine WL.call (some 79) 25 #[(.slice A_p0 p0.length c_p0), (iv 6)] (fun fb => by kernel_rfl) (torus_Least_calls _ p0 6 A_p0 c_p0 t10303 _ (hS10293.rd 0) ht10304) (fun v w10305 hR10306 => ?_)
 obtain ⟨A10308, c10309, rfl, hk_⟩ := hR10306
 have hS10307 : St NoS w w10305 [rowR enc_Tile A_p0 c_p0 p0] [rowO 3 encInt A10308 c10309 t10303.1.Cells, blk g9129 (.cells #[(.bool t9122.1.Fills), (iv t9122.1.Torus.Width), (iv t9122.1.Torus.Height), (.slice A9127 t9122.1.Torus.Cells.length c9128), (iv t9122.1.Side)] 40 (0, 0)), rowO 3 encInt A9127 c9128 t9122.1.Torus.Cells] := hS10293.call hk_ [] [0, 1] (fun g hg => hg.elim) (by simp) (by decide)
 refine ⟨trivial, ?_⟩
 refine seg 5 [] [0, 3, 80, 81] [(0, (.slice A_p0 p0.length c_p0)), (3, (pt g9129)), (80, (.agg #[(iv t10303.1.Width), (iv t10303.1.Height), (.slice A10308 t10303.1.Cells.length c10309)])), (81, (iv t10303.2))] [] (fun fb => by kernel_rfl) rfl trivial ?_
 refine WL.new hS10307 10 [] (fun g => (.pointer (some ⟨g, 0, none⟩))) (.cells #[(iv 0), (iv 0), (.slice none 0 0)] 38 (0, 0)) [] (fun fb g => by kernel_rfl) trivial (fun g10310 w10311 hS10312 => ?_)
 refine ⟨trivial, ?_⟩
 refine WL.store hS10312 0 rfl [(0, (iv t10303.1.Width)), (1, (iv t10303.1.Height)), (2, (.slice A10308 t10303.1.Cells.length c10309))] #[(iv t10303.1.Width), (iv t10303.1.Height), (.slice A10308 t10303.1.Cells.length c10309)] (fun fb => by kernel_rfl) (by kernel_rfl) rfl [1, 2, 3] (by decide) (by decide) (fun w10314 hS10315 => ?_)
 refine ⟨trivial, ?_⟩
 refine seg 8 [] [0, 3, 10, 11] [(0, (.slice A_p0 p0.length c_p0)), (3, (pt g9129)), (10, (pt g10310)), (11, (iv t10303.2))] [] (fun fb => by kernel_rfl) rfl trivial ?_
 refine WL.done rfl ?_
 refine WX.next ?_
 refine WC.seq ?_
 refine WC.seq ?_
 refine WC.region ?_
 refine seg 2 [.v (.bool t9122.1.Fills)] [0, 3, 10, 11, 83] [(0, (.slice A_p0 p0.length c_p0)), (3, (pt g9129)), (10, (pt g10310)), (11, (iv t10303.2)), (83, (.bool t9122.1.Fills))] [.cell ⟨g9129, 0, none⟩ (.bool t9122.1.Fills)] (fun fb => by kernel_rfl) rfl ⟨hS10315.cell 2 rfl 0 rfl, trivial⟩ ?_
 refine WL.done rfl ?_
 refine WX.next ?_
 rcases br_some hf with ⟨h10316, hf⟩ | ⟨h10316, hf⟩
 ·refine WC.condT2 (fun fb => by kernel_rfl) h10316 ?_
  refine WC.seq ?_
  refine WC.region ?_
  refine seg 3 [] [0, 3, 10, 86] [(0, (.slice A_p0 p0.length c_p0)), (3, (pt g9129)), (10, (pt g10310)), (86, (.bool (t10303.2 == 0)))] [] (fun fb => by kernel_rfl) rfl trivial ?_
  refine WL.cutV (T := Bool) 7 (fun t => [(90, (.bool t)), (0, (.slice A_p0 p0.length c_p0)), (3, (pt g9129)), (10, (pt g10310))]) (fun t => ((t10303.2 == 0) && (t9122.1.Side == 0)) = t) (fun K => ?_) ?_
  ·
   rcases Bool.eq_false_or_eq_true (t10303.2 == 0) with h10317 | h10317
   ·
    refine WL.setB 86 h10317 rfl ?_
    refine seg 7 [.v (iv t9122.1.Side)] [0, 3, 10, 90] [(0, (.slice A_p0 p0.length c_p0)), (3, (pt g9129)), (10, (pt g10310)), (90, (.bool (t9122.1.Side == 0)))] [.cell ⟨g9129, 4, none⟩ (iv t9122.1.Side)] (fun fb => by kernel_rfl) rfl ⟨hS10315.cell 2 rfl 4 rfl, trivial⟩ ?_
    exact WL.toV K (t9122.1.Side == 0) [90, 0, 3, 10] rfl (by first | (rw [h10317]; done) | (rw [h10317]; rfl))
   refine WL.setB 86 h10317 rfl ?_
   refine seg 7 [] [0, 3, 10, 90] [(0, (.slice A_p0 p0.length c_p0)), (3, (pt g9129)), (10, (pt g10310)), (90, (.bool false))] [] (fun fb => by kernel_rfl) rfl trivial ?_
   exact WL.toV K false [90, 0, 3, 10] rfl (by first | (rw [h10317]; done) | (rw [h10317]; rfl))
  rintro b10318 rfl
  refine seg 8 [] [0, 3, 10, 91] [(0, (.slice A_p0 p0.length c_p0)), (3, (pt g9129)), (10, (pt g10310)), (91, (.bool ((t10303.2 == 0) && (t9122.1.Side == 0))))] [] (fun fb => by kernel_rfl) rfl trivial ?_
  obtain ⟨x10325, hx10326, hf⟩ := bind_some hf
  refine WL.cutW (T := Bool) 13 (fun t => [(0, (.slice A_p0 p0.length c_p0)), (10, (pt g10310)), (96, (.bool t))]) (fun t w1 => (St NoS w w1 [rowR enc_Tile A_p0 c_p0 p0] [blk g10310 (.cells #[(iv t10303.1.Width), (iv t10303.1.Height), (.slice A10308 t10303.1.Cells.length c10309)] 38 (0, 0)), rowO 3 encInt A10308 c10309 t10303.1.Cells] ∧ x10325 = t) ∧ CellsOK [] w1) (fun K => ?_) ?_
  ·
   rcases br_some hx10326 with ⟨h10327, hx10326⟩ | ⟨h10327, hx10326⟩
   ·
    refine WL.setB 91 h10327 rfl ?_
    refine seg 11 [.v (iv t10303.1.Width), .v (iv t10303.1.Height), .v (.slice A10308 t10303.1.Cells.length c10309), .v (iv t9122.1.Torus.Width), .v (iv t9122.1.Torus.Height), .v (.slice A9127 t9122.1.Torus.Cells.length c9128)] [0, 10, 91, 92, 94] [(0, (.slice A_p0 p0.length c_p0)), (10, (pt g10310)), (91, (.bool true)), (92, (.agg #[(iv t10303.1.Width), (iv t10303.1.Height), (.slice A10308 t10303.1.Cells.length c10309)])), (94, (.agg #[(iv t9122.1.Torus.Width), (iv t9122.1.Torus.Height), (.slice A9127 t9122.1.Torus.Cells.length c9128)]))] [.cell ⟨g10310, 0, none⟩ (iv t10303.1.Width), .cell ⟨g10310, 1, none⟩ (iv t10303.1.Height), .cell ⟨g10310, 2, none⟩ (.slice A10308 t10303.1.Cells.length c10309), .cell ⟨g9129, 1, none⟩ (iv t9122.1.Torus.Width), .cell ⟨g9129, 2, none⟩ (iv t9122.1.Torus.Height), .cell ⟨g9129, 3, none⟩ (.slice A9127 t9122.1.Torus.Cells.length c9128)] (fun fb => by kernel_rfl) rfl ⟨hS10315.cell 0 rfl 0 rfl, hS10315.cell 0 rfl 1 rfl, hS10315.cell 0 rfl 2 rfl, hS10315.cell 2 rfl 1 rfl, hS10315.cell 2 rfl 2 rfl, hS10315.cell 2 rfl 3 rfl, trivial⟩ ?_
    obtain ⟨t10328, ht10329, hx10326⟩ := bind_some hx10326
    refine WL.call (some 95) 26 #[(.agg #[(iv t10303.1.Width), (iv t10303.1.Height), (.slice A10308 t10303.1.Cells.length c10309)]), (.agg #[(iv t9122.1.Torus.Width), (iv t9122.1.Torus.Height), (.slice A9127 t9122.1.Torus.Cells.length c9128)])] (fun fb => by kernel_rfl) (ref01_SamePattern_calls _ t10303.1 t9122.1.Torus A10308 c10309 A9127 c9128 t10328 _ (hS10315.ow 1).ofO (hS10315.ow 3).ofO ht10329) (fun v w10330 hR10331 => ?_)
    obtain ⟨rfl, hk_⟩ := hR10331
    have hS10332 := hS10315.keepN hk_
    refine ⟨trivial, ?_⟩
    refine seg 13 [] [0, 10, 96] [(0, (.slice A_p0 p0.length c_p0)), (10, (pt g10310)), (96, (.bool t10328))] [] (fun fb => by kernel_rfl) rfl trivial ?_
    injection hx10326 with hx10326
    exact WL.to K t10328 [0, 10, 96] rfl ⟨⟨(hS10332.subR [0]).sub [0, 1] (by decide), hx10326.symm⟩, trivial⟩
   refine WL.setB 91 h10327 rfl ?_
   refine seg 13 [] [0, 10, 96] [(0, (.slice A_p0 p0.length c_p0)), (10, (pt g10310)), (96, (.bool false))] [] (fun fb => by kernel_rfl) rfl trivial ?_
   injection hx10326 with hx10326
   exact WL.to K false [0, 10, 96] rfl ⟨⟨(hS10315.subR [0]).sub [0, 1] (by decide), hx10326.symm⟩, trivial⟩
  rintro y10333 w10335 ⟨⟨hS10336, hq10334⟩, hF10337⟩
  subst hq10334
  refine seg 14 [] [0, 10, 97] [(0, (.slice A_p0 p0.length c_p0)), (10, (pt g10310)), (97, (.bool x10325))] [] (fun fb => by kernel_rfl) rfl trivial ?_
  obtain ⟨x10344, hx10345, hf⟩ := bind_some hf
  refine WL.cutW (T := Bool) 18 (fun t => [(101, (.bool t))]) (fun t w1 => (St NoS w w1 [rowR enc_Tile A_p0 c_p0 p0] [] ∧ x10344 = t) ∧ CellsOK [] w1) (fun K => ?_) ?_
  ·
   rcases br_some hx10345 with ⟨h10346, hx10345⟩ | ⟨h10346, hx10345⟩
   ·
    refine WL.setB 97 h10346 rfl ?_
    refine seg 16 [.v (iv t10303.1.Width), .v (iv t10303.1.Height), .v (.slice A10308 t10303.1.Cells.length c10309)] [97, 98, 99] [(97, (.bool true)), (98, (.slice A_p0 p0.length c_p0)), (99, (.agg #[(iv t10303.1.Width), (iv t10303.1.Height), (.slice A10308 t10303.1.Cells.length c10309)]))] [.cell ⟨g10310, 0, none⟩ (iv t10303.1.Width), .cell ⟨g10310, 1, none⟩ (iv t10303.1.Height), .cell ⟨g10310, 2, none⟩ (.slice A10308 t10303.1.Cells.length c10309)] (fun fb => by kernel_rfl) rfl ⟨hS10336.cell 0 rfl 0 rfl, hS10336.cell 0 rfl 1 rfl, hS10336.cell 0 rfl 2 rfl, trivial⟩ ?_
    obtain ⟨t10347, ht10348, hx10345⟩ := bind_some hx10345
    refine WL.call (some 100) 27 #[(.slice A_p0 p0.length c_p0), (.agg #[(iv t10303.1.Width), (iv t10303.1.Height), (.slice A10308 t10303.1.Cells.length c10309)])] (fun fb => by kernel_rfl) (tile_Repeats_calls _ p0 t10303.1 A_p0 c_p0 A10308 c10309 t10347 _ (hS10336.rd 0) (hS10336.ow 1).ofO ht10348) (fun v w10349 hR10350 => ?_)
    obtain ⟨rfl, hk_⟩ := hR10350
    have hS10351 := hS10336.keepN hk_
    refine ⟨trivial, ?_⟩
    refine seg 18 [] [101] [(101, (.bool t10347))] [] (fun fb => by kernel_rfl) rfl trivial ?_
    injection hx10345 with hx10345
    exact WL.to K t10347 [101] rfl ⟨⟨(hS10351.subR [0]).sub [] (by decide), hx10345.symm⟩, trivial⟩
   refine WL.setB 97 h10346 rfl ?_
   refine seg 18 [] [101] [(101, (.bool false))] [] (fun fb => by kernel_rfl) rfl trivial ?_
   injection hx10345 with hx10345
   exact WL.to K false [101] rfl ⟨⟨(hS10336.subR [0]).sub [] (by decide), hx10345.symm⟩, trivial⟩
  rintro y10352 w10354 ⟨⟨hS10355, hq10353⟩, hF10356⟩
  subst hq10353
  refine seg 19 [] [102] [(102, (.bool x10344))] [] (fun fb => by kernel_rfl) rfl trivial ?_
  obtain ⟨x10363, hx10364, hf⟩ := bind_some hf
  refine WL.cutW (T := Bool) 21 (fun t => [(104, (.bool t))]) (fun t w1 => (St NoS w w1 [rowR enc_Tile A_p0 c_p0 p0] [] ∧ x10363 = t) ∧ CellsOK [] w1) (fun K => ?_) ?_
  ·
   rcases br_some hx10364 with ⟨h10365, hx10364⟩ | ⟨h10365, hx10364⟩
   ·
    refine WL.setB 102 h10365 rfl ?_
    obtain ⟨t10366, ht10367, hx10364⟩ := bind_some hx10364
    refine WL.call (some 103) 14 #[] (fun fb => by kernel_rfl) (law09_awake_calls _ t10366 _ ht10367) (fun v w10368 hR10369 => ?_)
    obtain ⟨rfl, hk_⟩ := hR10369
    have hS10370 := hS10355.keepN hk_
    refine ⟨trivial, ?_⟩
    refine seg 21 [] [104] [(104, (.bool t10366))] [] (fun fb => by kernel_rfl) rfl trivial ?_
    injection hx10364 with hx10364
    exact WL.to K t10366 [104] rfl ⟨⟨(hS10370.subR [0]).sub [] (by decide), hx10364.symm⟩, trivial⟩
   refine WL.setB 102 h10365 rfl ?_
   refine seg 21 [] [104] [(104, (.bool false))] [] (fun fb => by kernel_rfl) rfl trivial ?_
   injection hx10364 with hx10364
   exact WL.to K false [104] rfl ⟨⟨(hS10355.subR [0]).sub [] (by decide), hx10364.symm⟩, trivial⟩
  rintro y10371 w10373 ⟨⟨hS10374, hq10372⟩, hF10375⟩
  subst hq10372
  refine seg 22 [] [2] [(2, (.bool x10363))] [] (fun fb => by kernel_rfl) rfl trivial ?_
  refine WL.done rfl ?_
  refine WX.next ?_
  refine WC.ret ?_
  injection hf with hf
  subst hf
  exact WX.thenR (WX.ret_ [] (.bool x10363) [] (fun fb => by kernel_rfl) trivial ⟨_, rfl, rfl, hS10374.keep⟩)
 refine WC.condF2 (fun fb => by kernel_rfl) h10316 ?_
 refine WC.skip ?_
 refine WX.next ?_
 refine WC.seq ?_
 refine WC.seq ?_
 refine WC.region ?_
 refine seg 3 [] [0, 3, 107] [(0, (.slice A_p0 p0.length c_p0)), (3, (pt g9129)), (107, (.bool (t10303.2 != 6)))] [] (fun fb => by kernel_rfl) rfl trivial ?_
 obtain ⟨x10382, hx10383, hf⟩ := bind_some hf
 refine WL.cutW (T := Bool) 8 (fun t => [(0, (.slice A_p0 p0.length c_p0)), (3, (pt g9129)), (112, (.bool t))]) (fun t w1 => (St NoS w w1 [rowR enc_Tile A_p0 c_p0 p0] [blk g9129 (.cells #[(.bool t9122.1.Fills), (iv t9122.1.Torus.Width), (iv t9122.1.Torus.Height), (.slice A9127 t9122.1.Torus.Cells.length c9128), (iv t9122.1.Side)] 40 (0, 0)), rowO 3 encInt A9127 c9128 t9122.1.Torus.Cells] ∧ x10382 = t) ∧ CellsOK [] w1) (fun K => ?_) ?_
 ·
  rcases br_some hx10383 with ⟨h10384, hx10383⟩ | ⟨h10384, hx10383⟩
  ·
   refine WL.setB 107 h10384 rfl ?_
   refine seg 8 [] [0, 3, 112] [(0, (.slice A_p0 p0.length c_p0)), (3, (pt g9129)), (112, (.bool true))] [] (fun fb => by kernel_rfl) rfl trivial ?_
   injection hx10383 with hx10383
   exact WL.to K true [0, 3, 112] rfl ⟨⟨(hS10315.subR [0]).sub [2, 3] (by decide), hx10383.symm⟩, trivial⟩
  refine WL.setB 107 h10384 rfl ?_
  refine seg 5 [.v (iv t9122.1.Torus.Width), .v (iv t9122.1.Torus.Height), .v (.slice A9127 t9122.1.Torus.Cells.length c9128)] [0, 3, 107, 109] [(0, (.slice A_p0 p0.length c_p0)), (3, (pt g9129)), (107, (.bool false)), (109, (.agg #[(iv t9122.1.Torus.Width), (iv t9122.1.Torus.Height), (.slice A9127 t9122.1.Torus.Cells.length c9128)]))] [.cell ⟨g9129, 1, none⟩ (iv t9122.1.Torus.Width), .cell ⟨g9129, 2, none⟩ (iv t9122.1.Torus.Height), .cell ⟨g9129, 3, none⟩ (.slice A9127 t9122.1.Torus.Cells.length c9128)] (fun fb => by kernel_rfl) rfl ⟨hS10315.cell 2 rfl 1 rfl, hS10315.cell 2 rfl 2 rfl, hS10315.cell 2 rfl 3 rfl, trivial⟩ ?_
  obtain ⟨t10385, ht10386, hx10383⟩ := bind_some hx10383
  refine WL.call (some 110) 20 #[(.agg #[(iv t9122.1.Torus.Width), (iv t9122.1.Torus.Height), (.slice A9127 t9122.1.Torus.Cells.length c9128)])] (fun fb => by kernel_rfl) (law09_none_calls t9122.1.Torus A9127 c9128 t10385 _ (hS10315.ow 3).ofO ht10386) (fun v w10387 hR10388 => ?_)
  obtain ⟨rfl, hk_⟩ := hR10388
  have hS10389 := hS10315.keepN hk_
  refine ⟨trivial, ?_⟩
  refine seg 8 [] [0, 3, 112] [(0, (.slice A_p0 p0.length c_p0)), (3, (pt g9129)), (112, (.bool (!t10385)))] [] (fun fb => by kernel_rfl) rfl trivial ?_
  injection hx10383 with hx10383
  exact WL.to K (!t10385) [0, 3, 112] rfl ⟨⟨(hS10389.subR [0]).sub [2, 3] (by decide), hx10383.symm⟩, trivial⟩
 rintro y10390 w10392 ⟨⟨hS10393, hq10391⟩, hF10394⟩
 subst hq10391
 refine seg 9 [] [0, 3, 113] [(0, (.slice A_p0 p0.length c_p0)), (3, (pt g9129)), (113, (.bool x10382))] [] (fun fb => by kernel_rfl) rfl trivial ?_
 refine WL.cutV (T := Bool) 13 (fun t => [(117, (.bool t)), (0, (.slice A_p0 p0.length c_p0)), (3, (pt g9129))]) (fun t => (x10382 || (decide (t9122.1.Side < 1))) = t) (fun K => ?_) ?_
 ·
  rcases Bool.eq_false_or_eq_true x10382 with h10395 | h10395
  ·
   refine WL.setB 113 h10395 rfl ?_
   refine seg 13 [] [0, 3, 117] [(0, (.slice A_p0 p0.length c_p0)), (3, (pt g9129)), (117, (.bool true))] [] (fun fb => by kernel_rfl) rfl trivial ?_
   exact WL.toV K true [117, 0, 3] rfl (by first | (rw [h10395]; done) | (rw [h10395]; rfl))
  refine WL.setB 113 h10395 rfl ?_
  refine seg 13 [.v (iv t9122.1.Side)] [0, 3, 117] [(0, (.slice A_p0 p0.length c_p0)), (3, (pt g9129)), (117, (.bool (decide (t9122.1.Side < 1))))] [.cell ⟨g9129, 4, none⟩ (iv t9122.1.Side)] (fun fb => by kernel_rfl) rfl ⟨hS10393.cell 0 rfl 4 rfl, trivial⟩ ?_
  exact WL.toV K (decide (t9122.1.Side < 1)) [117, 0, 3] rfl (by first | (rw [h10395]; done) | (rw [h10395]; rfl))
 rintro b10396 rfl
 refine seg 14 [] [0, 3, 118] [(0, (.slice A_p0 p0.length c_p0)), (3, (pt g9129)), (118, (.bool (x10382 || (decide (t9122.1.Side < 1)))))] [] (fun fb => by kernel_rfl) rfl trivial ?_
 refine WL.cutV (T := Bool) 18 (fun t => [(122, (.bool t)), (0, (.slice A_p0 p0.length c_p0)), (3, (pt g9129))]) (fun t => ((x10382 || (decide (t9122.1.Side < 1))) || (decide (t9122.1.Side > 8))) = t) (fun K => ?_) ?_
 ·
  rcases Bool.eq_false_or_eq_true (x10382 || (decide (t9122.1.Side < 1))) with h10397 | h10397
  ·
   refine WL.setB 118 h10397 rfl ?_
   refine seg 18 [] [0, 3, 122] [(0, (.slice A_p0 p0.length c_p0)), (3, (pt g9129)), (122, (.bool true))] [] (fun fb => by kernel_rfl) rfl trivial ?_
   exact WL.toV K true [122, 0, 3] rfl (by first | (rw [h10397]; done) | (rw [h10397]; rfl))
  refine WL.setB 118 h10397 rfl ?_
  refine seg 18 [.v (iv t9122.1.Side)] [0, 3, 122] [(0, (.slice A_p0 p0.length c_p0)), (3, (pt g9129)), (122, (.bool (decide (t9122.1.Side > 8))))] [.cell ⟨g9129, 4, none⟩ (iv t9122.1.Side)] (fun fb => by kernel_rfl) rfl ⟨hS10393.cell 0 rfl 4 rfl, trivial⟩ ?_
  exact WL.toV K (decide (t9122.1.Side > 8)) [122, 0, 3] rfl (by first | (rw [h10397]; done) | (rw [h10397]; rfl))
 rintro b10398 rfl
 refine WL.done rfl ?_
 refine WX.next ?_
 rcases br_some hf with ⟨h10399, hf⟩ | ⟨h10399, hf⟩
 ·refine WC.condT2 (fun fb => by kernel_rfl) h10399 ?_
  refine WC.seq ?_
  refine WC.region ?_
  refine seg 1 [] [2] [(2, (.bool false))] [] (fun fb => by kernel_rfl) rfl trivial ?_
  refine WL.done rfl ?_
  refine WX.next ?_
  refine WC.ret ?_
  injection hf with hf
  subst hf
  exact WX.thenR (WX.ret_ [] (.bool false) [] (fun fb => by kernel_rfl) trivial ⟨_, rfl, rfl, hS10393.keep⟩)
 refine WC.condF2 (fun fb => by kernel_rfl) h10399 ?_
 refine WC.skip ?_
 refine WX.next ?_
 refine WC.seq ?_
 refine WC.region ?_
 refine seg 3 [.v (iv t9122.1.Side)] [0, 3, 124, 126] [(0, (.slice A_p0 p0.length c_p0)), (3, (pt g9129)), (124, (.slice A_p0 p0.length c_p0)), (126, (iv t9122.1.Side))] [.cell ⟨g9129, 4, none⟩ (iv t9122.1.Side)] (fun fb => by kernel_rfl) rfl ⟨hS10393.cell 0 rfl 4 rfl, trivial⟩ ?_
 obtain ⟨t10400, ht10401, hf⟩ := bind_some hf
 refine WL.call (some 127) 21 #[(.slice A_p0 p0.length c_p0), (iv t9122.1.Side)] (fun fb => by kernel_rfl) (square_Exists_calls _ p0 t9122.1.Side A_p0 c_p0 t10400 _ (hS10393.rd 0) ht10401) (fun v w10402 hR10403 => ?_)
 obtain ⟨rfl, hk_⟩ := hR10403
 have hS10404 := hS10393.keepN hk_
 refine ⟨trivial, ?_⟩
 refine seg 9 [] [0, 3, 12, 13] [(0, (.slice A_p0 p0.length c_p0)), (3, (pt g9129)), (12, (.bool t10400.1)), (13, (iv t10400.2))] [] (fun fb => by kernel_rfl) rfl trivial ?_
 refine WL.done rfl ?_
 refine WX.next ?_
 refine WC.seq ?_
 refine WC.seq ?_
 refine WC.region ?_
 refine seg 3 [] [0, 3, 12, 132] [(0, (.slice A_p0 p0.length c_p0)), (3, (pt g9129)), (12, (.bool t10400.1)), (132, (.bool (t10400.2 != 0)))] [] (fun fb => by kernel_rfl) rfl trivial ?_
 refine WL.cutV (T := Bool) 5 (fun t => [(134, (.bool t)), (0, (.slice A_p0 p0.length c_p0)), (3, (pt g9129))]) (fun t => ((t10400.2 != 0) || t10400.1) = t) (fun K => ?_) ?_
 ·
  rcases Bool.eq_false_or_eq_true (t10400.2 != 0) with h10405 | h10405
  ·
   refine WL.setB 132 h10405 rfl ?_
   refine seg 5 [] [0, 3, 134] [(0, (.slice A_p0 p0.length c_p0)), (3, (pt g9129)), (134, (.bool true))] [] (fun fb => by kernel_rfl) rfl trivial ?_
   exact WL.toV K true [134, 0, 3] rfl (by first | (rw [h10405]; done) | (rw [h10405]; rfl))
  refine WL.setB 132 h10405 rfl ?_
  refine seg 5 [] [0, 3, 134] [(0, (.slice A_p0 p0.length c_p0)), (3, (pt g9129)), (134, (.bool t10400.1))] [] (fun fb => by kernel_rfl) rfl trivial ?_
  exact WL.toV K t10400.1 [134, 0, 3] rfl (by first | (rw [h10405]; done) | (rw [h10405]; rfl))
 rintro b10406 rfl
 refine WL.done rfl ?_
 refine WX.next ?_
 rcases br_some hf with ⟨h10407, hf⟩ | ⟨h10407, hf⟩
 ·refine WC.condT2 (fun fb => by kernel_rfl) h10407 ?_
  refine WC.seq ?_
  refine WC.region ?_
  refine seg 1 [] [2] [(2, (.bool false))] [] (fun fb => by kernel_rfl) rfl trivial ?_
  refine WL.done rfl ?_
  refine WX.next ?_
  refine WC.ret ?_
  injection hf with hf
  subst hf
  exact WX.thenR (WX.ret_ [] (.bool false) [] (fun fb => by kernel_rfl) trivial ⟨_, rfl, rfl, hS10404.keep⟩)
 refine WC.condF2 (fun fb => by kernel_rfl) h10407 ?_
 refine WC.skip ?_
 refine WX.next ?_
 refine WC.seq ?_
 refine WC.seq ?_
 refine WC.region ?_
 refine seg 3 [.v (iv t9122.1.Side)] [0, 3, 137] [(0, (.slice A_p0 p0.length c_p0)), (3, (pt g9129)), (137, (.bool (decide (t9122.1.Side > 1))))] [.cell ⟨g9129, 4, none⟩ (iv t9122.1.Side)] (fun fb => by kernel_rfl) rfl ⟨hS10404.cell 0 rfl 4 rfl, trivial⟩ ?_
 refine WL.done rfl ?_
 refine WX.next ?_
 obtain ⟨x10417, hx10418, hf⟩ := bind_some hf
 refine WC.cutN (T := Unit) (fun t => []) (fun t w1 => St NoS w w1 [rowR enc_Tile A_p0 c_p0 p0] [] ∧ x10417 = .inr t) (fun Kx10417 => ?_) ?_
 ·
  rcases br_some hx10418 with ⟨h10419, hx10418⟩ | ⟨h10419, hx10418⟩
  ·refine WC.condT2 (fun fb => by kernel_rfl) h10419 ?_
   refine WC.seq ?_
   refine WC.region ?_
   refine seg 4 [.v (iv t9122.1.Side)] [139, 142] [(139, (.slice A_p0 p0.length c_p0)), (142, (iv (w64 (t9122.1.Side - 1))))] [.cell ⟨g9129, 4, none⟩ (iv t9122.1.Side)] (fun fb => by kernel_rfl) rfl ⟨hS10404.cell 0 rfl 4 rfl, trivial⟩ ?_
   obtain ⟨t10420, ht10421, hx10418⟩ := bind_some hx10418
   refine WL.call (some 143) 21 #[(.slice A_p0 p0.length c_p0), (iv (w64 (t9122.1.Side - 1)))] (fun fb => by kernel_rfl) (square_Exists_calls _ p0 (w64 (t9122.1.Side - 1)) A_p0 c_p0 t10420 _ (hS10404.rd 0) ht10421) (fun v w10422 hR10423 => ?_)
   obtain ⟨rfl, hk_⟩ := hR10423
   have hS10424 := hS10404.keepN hk_
   refine ⟨trivial, ?_⟩
   refine seg 10 [] [12, 13] [(12, (.bool t10420.1)), (13, (iv t10420.2))] [] (fun fb => by kernel_rfl) rfl trivial ?_
   refine WL.done rfl ?_
   refine WX.next ?_
   refine WC.seq ?_
   refine WC.region ?_
   refine seg 3 [] [12, 148] [(12, (.bool t10420.1)), (148, (.bool (t10420.2 != 0)))] [] (fun fb => by kernel_rfl) rfl trivial ?_
   refine WL.cutV (T := Bool) 6 (fun t => [(151, (.bool t))]) (fun t => ((t10420.2 != 0) || (!t10420.1)) = t) (fun K => ?_) ?_
   ·
    rcases Bool.eq_false_or_eq_true (t10420.2 != 0) with h10425 | h10425
    ·
     refine WL.setB 148 h10425 rfl ?_
     refine seg 6 [] [151] [(151, (.bool true))] [] (fun fb => by kernel_rfl) rfl trivial ?_
     exact WL.toV K true [151] rfl (by first | (rw [h10425]; done) | (rw [h10425]; rfl))
    refine WL.setB 148 h10425 rfl ?_
    refine seg 6 [] [151] [(151, (.bool (!t10420.1)))] [] (fun fb => by kernel_rfl) rfl trivial ?_
    exact WL.toV K (!t10420.1) [151] rfl (by first | (rw [h10425]; done) | (rw [h10425]; rfl))
   rintro b10426 rfl
   refine WL.done rfl ?_
   refine WX.next ?_
   rcases br_some hx10418 with ⟨h10427, hx10418⟩ | ⟨h10427, hx10418⟩
   ·refine WC.condT2 (fun fb => by kernel_rfl) h10427 ?_
    refine WC.seq ?_
    refine WC.region ?_
    refine seg 1 [] [2] [(2, (.bool false))] [] (fun fb => by kernel_rfl) rfl trivial ?_
    refine WL.done rfl ?_
    refine WX.next ?_
    refine WC.ret ?_
    injection hx10418 with hx10418
    subst hx10418
    injection hf with hf
    subst hf
    exact WX.thenR (WX.ret_ [] (.bool false) [] (fun fb => by kernel_rfl) trivial ⟨_, rfl, rfl, hS10424.keep⟩)
   refine WC.condF2 (fun fb => by kernel_rfl) h10427 ?_
   refine WC.skip ?_
   injection hx10418 with hx10418
   exact WX.to Kx10417 () [] rfl ⟨(hS10424.subR [0]).sub [] (by decide), hx10418.symm⟩
  refine WC.condF2 (fun fb => by kernel_rfl) h10419 ?_
  refine WC.skip ?_
  injection hx10418 with hx10418
  exact WX.to Kx10417 () [] rfl ⟨(hS10404.subR [0]).sub [] (by decide), hx10418.symm⟩
 rintro y10431 w10428 ⟨hS10429, hq10430⟩
 subst hq10430
 have hf := sum_inr hf
 refine WX.next ?_
 refine WC.seq ?_
 refine WC.region ?_
 obtain ⟨t10433, ht10434, hf⟩ := bind_some hf
 refine WL.call (some 152) 14 #[] (fun fb => by kernel_rfl) (law09_awake_calls _ t10433 _ ht10434) (fun v w10435 hR10436 => ?_)
 obtain ⟨rfl, hk_⟩ := hR10436
 have hS10437 := hS10429.keepN hk_
 refine ⟨trivial, ?_⟩
 refine seg 2 [] [2] [(2, (.bool t10433))] [] (fun fb => by kernel_rfl) rfl trivial ?_
 refine WL.done rfl ?_
 refine WX.next ?_
 refine WC.ret ?_
 injection hf with hf
 subst hf
 exact WX.ret_ [] (.bool t10433) [] (fun fb => by kernel_rfl) trivial ⟨_, rfl, rfl, hS10437.keep⟩
end Gp
