/- Walks: each function of the program computes its plain function. -/
import Derived.Test.YtmdkdigmkcpceaaGx2
set_option linter.unusedVariables false
set_option linter.unusedSimpArgs false
set_option maxHeartbeats 4000000
namespace Gp
open Go Gw Go.Proofs
theorem law09_awake_calls (k : Nat)   (r : Bool) (w : World)  (hf : law09_awake k = some r) :
    CallsR Try.prog 14 #[] w (fun v w' => v = (.bool r) ∧ Keeps NoS w w') := by
  have hS : St NoS w w [] [] := St.init (ro_nil _ _)
  refine enter 63 Try.func14 rfl Try.ntmps14 rfl ?_
  unfold law09_awake at hf
  refine WC.seq ?_
  refine WC.region ?_
  refine seg 1 [] [] [] [] (fun fb => by kernel_rfl) rfl trivial ?_
  refine WL.done rfl ?_
  refine WX.next ?_
  refine WC.seq ?_
  refine WC.region ?_
  refine seg 1 [] [8] [(8, (.agg #[(.int .i64 0), (.int .i64 0), (.int .i64 1), (.int .i64 0)]))] [] (fun fb => by kernel_rfl) rfl trivial ?_
  refine WL.new hS 9 [] (fun g => (.slice (some ⟨g, 0, none⟩) 1 1)) (.cells #[(.int .i64 0), (.int .i64 0), (.int .i64 1), (.int .i64 0)] 24 (0, 0)) [] (fun fb g => by kernel_rfl) trivial (fun g6 w7 hS8 => ?_)
  refine ⟨trivial, ?_⟩
  have hS10 : St NoS w w7 [] [rowO 24 enc_Tile (some ⟨g6, 0, none⟩) 1 [(Tile.mk 0 0 1 0)]] := hS8.map1 0 _ (fun h => rowO.ofBlk h rfl (Nat.le_of_ble_eq_true (by kernel_rfl))) (fun _ h => by obtain ⟨_, h1, h2⟩ := h; injection h1 with h1; subst h1; exact h2) [] (by decide) (by decide)
  obtain ⟨t8954, ht8955, hf⟩ := bind_some hf
  refine WL.call (some 10) 22 #[(.slice (some ⟨g6, 0, none⟩) [(Tile.mk 0 0 1 0)].length 1)] (fun fb => by kernel_rfl) (decide_Decide_calls _ [(Tile.mk 0 0 1 0)] (some ⟨g6, 0, none⟩) 1 t8954 _ (hS10.ow 0).ofO ht8955) (fun v w8956 hR8957 => ?_)
  obtain ⟨A8959, c8960, rfl, hk_⟩ := hR8957
  have hS8958 : St NoS w w8956 [] [rowO 3 encInt A8959 c8960 t8954.1.Torus.Cells, rowO 24 enc_Tile (some ⟨g6, 0, none⟩) 1 [(Tile.mk 0 0 1 0)]] := hS10.call hk_ [] [0] (fun g hg => hg.elim) (by simp) (by decide)
  refine ⟨trivial, ?_⟩
  refine seg 6 [] [11, 12] [(11, (.agg #[(.bool t8954.1.Fills), (.int .i64 t8954.1.Torus.Width), (.int .i64 t8954.1.Torus.Height), (.slice A8959 t8954.1.Torus.Cells.length c8960), (.int .i64 t8954.1.Side)])), (12, (.int .i64 t8954.2))] [] (fun fb => by kernel_rfl) rfl trivial ?_
  refine WL.new hS8958 1 [] (fun g => (.pointer (some ⟨g, 0, none⟩))) (.cells #[(.bool false), (.int .i64 0), (.int .i64 0), (.slice none 0 0), (.int .i64 0)] 40 (0, 0)) [] (fun fb g => by kernel_rfl) trivial (fun g8961 w8962 hS8963 => ?_)
  refine ⟨trivial, ?_⟩
  refine WL.store hS8963 0 rfl [(0, (.bool t8954.1.Fills)), (1, (.int .i64 t8954.1.Torus.Width)), (2, (.int .i64 t8954.1.Torus.Height)), (3, (.slice A8959 t8954.1.Torus.Cells.length c8960)), (4, (.int .i64 t8954.1.Side))] #[(.bool t8954.1.Fills), (.int .i64 t8954.1.Torus.Width), (.int .i64 t8954.1.Torus.Height), (.slice A8959 t8954.1.Torus.Cells.length c8960), (.int .i64 t8954.1.Side)] (fun fb => by kernel_rfl) (by kernel_rfl) rfl [1, 2] (by decide) (by decide) (fun w8965 hS8966 => ?_)
  refine ⟨trivial, ?_⟩
  refine seg 9 [] [1, 2] [(1, (.pointer (some ⟨g8961, 0, none⟩))), (2, (.int .i64 t8954.2))] [] (fun fb => by kernel_rfl) rfl trivial ?_
  refine WL.done rfl ?_
  refine WX.next ?_
  refine WC.seq ?_
  refine WC.region ?_
  obtain ⟨t8972, ht8973, hf⟩ := bind_some hf
  refine WL.call (some 14) 36 #[] (fun fb => by kernel_rfl) (law09_chess_calls t8972 _ ht8973) (fun v w8974 hR8975 => ?_)
  obtain ⟨A8977, c8978, rfl, hk_⟩ := hR8975
  have hS8976 : St NoS w w8974 [] [rowO 24 enc_Tile A8977 c8978 t8972, blk g8961 (.cells #[(.bool t8954.1.Fills), (.int .i64 t8954.1.Torus.Width), (.int .i64 t8954.1.Torus.Height), (.slice A8959 t8954.1.Torus.Cells.length c8960), (.int .i64 t8954.1.Side)] 40 (0, 0)), rowO 3 encInt A8959 c8960 t8954.1.Torus.Cells, rowO 24 enc_Tile (some ⟨g6, 0, none⟩) 1 [(Tile.mk 0 0 1 0)]] := hS8966.call hk_ [] [0, 1, 2] (fun g hg => hg.elim) (by simp) (by decide)
  refine ⟨trivial, ?_⟩
  obtain ⟨t8979, ht8980, hf⟩ := bind_some hf
  refine WL.call (some 15) 22 #[(.slice A8977 t8972.length c8978)] (fun fb => by kernel_rfl) (decide_Decide_calls _ t8972 A8977 c8978 t8979 _ (hS8976.ow 0).ofO ht8980) (fun v w8981 hR8982 => ?_)
  obtain ⟨A8984, c8985, rfl, hk_⟩ := hR8982
  have hS8983 : St NoS w w8981 [] [rowO 3 encInt A8984 c8985 t8979.1.Torus.Cells, rowO 24 enc_Tile A8977 c8978 t8972, blk g8961 (.cells #[(.bool t8954.1.Fills), (.int .i64 t8954.1.Torus.Width), (.int .i64 t8954.1.Torus.Height), (.slice A8959 t8954.1.Torus.Cells.length c8960), (.int .i64 t8954.1.Side)] 40 (0, 0)), rowO 3 encInt A8959 c8960 t8954.1.Torus.Cells, rowO 24 enc_Tile (some ⟨g6, 0, none⟩) 1 [(Tile.mk 0 0 1 0)]] := hS8976.call hk_ [] [0, 1, 2, 3] (fun g hg => hg.elim) (by simp) (by decide)
  refine ⟨trivial, ?_⟩
  refine seg 5 [] [1, 2, 16, 17] [(1, (.pointer (some ⟨g8961, 0, none⟩))), (2, (.int .i64 t8954.2)), (16, (.agg #[(.bool t8979.1.Fills), (.int .i64 t8979.1.Torus.Width), (.int .i64 t8979.1.Torus.Height), (.slice A8984 t8979.1.Torus.Cells.length c8985), (.int .i64 t8979.1.Side)])), (17, (.int .i64 t8979.2))] [] (fun fb => by kernel_rfl) rfl trivial ?_
  refine WL.new hS8983 3 [] (fun g => (.pointer (some ⟨g, 0, none⟩))) (.cells #[(.bool false), (.int .i64 0), (.int .i64 0), (.slice none 0 0), (.int .i64 0)] 40 (0, 0)) [] (fun fb g => by kernel_rfl) trivial (fun g8986 w8987 hS8988 => ?_)
  refine ⟨trivial, ?_⟩
  refine WL.store hS8988 0 rfl [(0, (.bool t8979.1.Fills)), (1, (.int .i64 t8979.1.Torus.Width)), (2, (.int .i64 t8979.1.Torus.Height)), (3, (.slice A8984 t8979.1.Torus.Cells.length c8985)), (4, (.int .i64 t8979.1.Side))] #[(.bool t8979.1.Fills), (.int .i64 t8979.1.Torus.Width), (.int .i64 t8979.1.Torus.Height), (.slice A8984 t8979.1.Torus.Cells.length c8985), (.int .i64 t8979.1.Side)] (fun fb => by kernel_rfl) (by kernel_rfl) rfl [1, 2, 3, 4, 5] (by decide) (by decide) (fun w8990 hS8991 => ?_)
  refine ⟨trivial, ?_⟩
  refine seg 8 [] [1, 2, 3, 4] [(1, (.pointer (some ⟨g8961, 0, none⟩))), (2, (.int .i64 t8954.2)), (3, (.pointer (some ⟨g8986, 0, none⟩))), (4, (.int .i64 t8979.2))] [] (fun fb => by kernel_rfl) rfl trivial ?_
  refine WL.done rfl ?_
  refine WX.next ?_
  refine WC.seq ?_
  refine WC.region ?_
  obtain ⟨t8992, ht8993, hf⟩ := bind_some hf
  refine WL.call (some 19) 22 #[(.slice none 0 0)] (fun fb => by kernel_rfl) (decide_Decide_calls _ ([] : List Tile) none 0 t8992 _ (RO.nilR _ _ _) ht8993) (fun v w8994 hR8995 => ?_)
  obtain ⟨A8997, c8998, rfl, hk_⟩ := hR8995
  have hS8996 : St NoS w w8994 [] [rowO 3 encInt A8997 c8998 t8992.1.Torus.Cells, blk g8986 (.cells #[(.bool t8979.1.Fills), (.int .i64 t8979.1.Torus.Width), (.int .i64 t8979.1.Torus.Height), (.slice A8984 t8979.1.Torus.Cells.length c8985), (.int .i64 t8979.1.Side)] 40 (0, 0)), rowO 3 encInt A8984 c8985 t8979.1.Torus.Cells, rowO 24 enc_Tile A8977 c8978 t8972, blk g8961 (.cells #[(.bool t8954.1.Fills), (.int .i64 t8954.1.Torus.Width), (.int .i64 t8954.1.Torus.Height), (.slice A8959 t8954.1.Torus.Cells.length c8960), (.int .i64 t8954.1.Side)] 40 (0, 0)), rowO 3 encInt A8959 c8960 t8954.1.Torus.Cells, rowO 24 enc_Tile (some ⟨g6, 0, none⟩) 1 [(Tile.mk 0 0 1 0)]] := hS8991.call hk_ [] [0, 1, 2, 3, 4, 5] (fun g hg => hg.elim) (by simp) (by decide)
  refine ⟨trivial, ?_⟩
  refine seg 4 [] [1, 2, 3, 4, 20, 21] [(1, (.pointer (some ⟨g8961, 0, none⟩))), (2, (.int .i64 t8954.2)), (3, (.pointer (some ⟨g8986, 0, none⟩))), (4, (.int .i64 t8979.2)), (20, (.agg #[(.bool t8992.1.Fills), (.int .i64 t8992.1.Torus.Width), (.int .i64 t8992.1.Torus.Height), (.slice A8997 t8992.1.Torus.Cells.length c8998), (.int .i64 t8992.1.Side)])), (21, (.int .i64 t8992.2))] [] (fun fb => by kernel_rfl) rfl trivial ?_
  refine WL.new hS8996 5 [] (fun g => (.pointer (some ⟨g, 0, none⟩))) (.cells #[(.bool false), (.int .i64 0), (.int .i64 0), (.slice none 0 0), (.int .i64 0)] 40 (0, 0)) [] (fun fb g => by kernel_rfl) trivial (fun g8999 w9000 hS9001 => ?_)
  refine ⟨trivial, ?_⟩
  refine WL.store hS9001 0 rfl [(0, (.bool t8992.1.Fills)), (1, (.int .i64 t8992.1.Torus.Width)), (2, (.int .i64 t8992.1.Torus.Height)), (3, (.slice A8997 t8992.1.Torus.Cells.length c8998)), (4, (.int .i64 t8992.1.Side))] #[(.bool t8992.1.Fills), (.int .i64 t8992.1.Torus.Width), (.int .i64 t8992.1.Torus.Height), (.slice A8997 t8992.1.Torus.Cells.length c8998), (.int .i64 t8992.1.Side)] (fun fb => by kernel_rfl) (by kernel_rfl) rfl [1, 2, 3, 4, 5, 6, 7] (by decide) (by decide) (fun w9003 hS9004 => ?_)
  refine ⟨trivial, ?_⟩
  refine seg 7 [] [1, 2, 3, 4, 5, 6] [(1, (.pointer (some ⟨g8961, 0, none⟩))), (2, (.int .i64 t8954.2)), (3, (.pointer (some ⟨g8986, 0, none⟩))), (4, (.int .i64 t8979.2)), (5, (.pointer (some ⟨g8999, 0, none⟩))), (6, (.int .i64 t8992.2))] [] (fun fb => by kernel_rfl) rfl trivial ?_
  refine WL.done rfl ?_
  refine WX.next ?_
  refine WC.seq ?_
  refine WC.region ?_
  refine seg 3 [] [1, 3, 4, 5, 6, 24] [(1, (.pointer (some ⟨g8961, 0, none⟩))), (3, (.pointer (some ⟨g8986, 0, none⟩))), (4, (.int .i64 t8979.2)), (5, (.pointer (some ⟨g8999, 0, none⟩))), (6, (.int .i64 t8992.2)), (24, (.bool (t8954.2 == 0)))] [] (fun fb => by kernel_rfl) rfl trivial ?_
  refine WL.cutV (T := Bool) 6 (fun t => [(27, (.bool t)), (1, (.pointer (some ⟨g8961, 0, none⟩))), (3, (.pointer (some ⟨g8986, 0, none⟩))), (5, (.pointer (some ⟨g8999, 0, none⟩))), (6, (.int .i64 t8992.2))]) (fun t => ((t8954.2 == 0) && (t8979.2 == 0)) = t) (fun K => ?_) ?_
  ·
    rcases Bool.eq_false_or_eq_true (t8954.2 == 0) with h9005 | h9005
    ·
      refine WL.setB 24 h9005 rfl ?_
      refine seg 6 [] [1, 3, 5, 6, 27] [(1, (.pointer (some ⟨g8961, 0, none⟩))), (3, (.pointer (some ⟨g8986, 0, none⟩))), (5, (.pointer (some ⟨g8999, 0, none⟩))), (6, (.int .i64 t8992.2)), (27, (.bool (t8979.2 == 0)))] [] (fun fb => by kernel_rfl) rfl trivial ?_
      exact WL.toV K (t8979.2 == 0) [27, 1, 3, 5, 6] rfl (by first | (rw [h9005]; done) | (rw [h9005]; rfl))
    refine WL.setB 24 h9005 rfl ?_
    refine seg 6 [] [1, 3, 5, 6, 27] [(1, (.pointer (some ⟨g8961, 0, none⟩))), (3, (.pointer (some ⟨g8986, 0, none⟩))), (5, (.pointer (some ⟨g8999, 0, none⟩))), (6, (.int .i64 t8992.2)), (27, (.bool false))] [] (fun fb => by kernel_rfl) rfl trivial ?_
    exact WL.toV K false [27, 1, 3, 5, 6] rfl (by first | (rw [h9005]; done) | (rw [h9005]; rfl))
  rintro b9006 rfl
  refine seg 7 [] [1, 3, 5, 6, 28] [(1, (.pointer (some ⟨g8961, 0, none⟩))), (3, (.pointer (some ⟨g8986, 0, none⟩))), (5, (.pointer (some ⟨g8999, 0, none⟩))), (6, (.int .i64 t8992.2)), (28, (.bool ((t8954.2 == 0) && (t8979.2 == 0))))] [] (fun fb => by kernel_rfl) rfl trivial ?_
  refine WL.cutV (T := Bool) 10 (fun t => [(31, (.bool t)), (1, (.pointer (some ⟨g8961, 0, none⟩))), (3, (.pointer (some ⟨g8986, 0, none⟩))), (5, (.pointer (some ⟨g8999, 0, none⟩)))]) (fun t => (((t8954.2 == 0) && (t8979.2 == 0)) && (t8992.2 == 0)) = t) (fun K => ?_) ?_
  ·
    rcases Bool.eq_false_or_eq_true ((t8954.2 == 0) && (t8979.2 == 0)) with h9007 | h9007
    ·
      refine WL.setB 28 h9007 rfl ?_
      refine seg 10 [] [1, 3, 5, 31] [(1, (.pointer (some ⟨g8961, 0, none⟩))), (3, (.pointer (some ⟨g8986, 0, none⟩))), (5, (.pointer (some ⟨g8999, 0, none⟩))), (31, (.bool (t8992.2 == 0)))] [] (fun fb => by kernel_rfl) rfl trivial ?_
      exact WL.toV K (t8992.2 == 0) [31, 1, 3, 5] rfl (by first | (rw [h9007]; done) | (rw [h9007]; rfl))
    refine WL.setB 28 h9007 rfl ?_
    refine seg 10 [] [1, 3, 5, 31] [(1, (.pointer (some ⟨g8961, 0, none⟩))), (3, (.pointer (some ⟨g8986, 0, none⟩))), (5, (.pointer (some ⟨g8999, 0, none⟩))), (31, (.bool false))] [] (fun fb => by kernel_rfl) rfl trivial ?_
    exact WL.toV K false [31, 1, 3, 5] rfl (by first | (rw [h9007]; done) | (rw [h9007]; rfl))
  rintro b9008 rfl
  refine seg 11 [] [1, 3, 5, 32] [(1, (.pointer (some ⟨g8961, 0, none⟩))), (3, (.pointer (some ⟨g8986, 0, none⟩))), (5, (.pointer (some ⟨g8999, 0, none⟩))), (32, (.bool (((t8954.2 == 0) && (t8979.2 == 0)) && (t8992.2 == 0))))] [] (fun fb => by kernel_rfl) rfl trivial ?_
  refine WL.cutV (T := Bool) 15 (fun t => [(36, (.bool t)), (1, (.pointer (some ⟨g8961, 0, none⟩))), (3, (.pointer (some ⟨g8986, 0, none⟩))), (5, (.pointer (some ⟨g8999, 0, none⟩)))]) (fun t => ((((t8954.2 == 0) && (t8979.2 == 0)) && (t8992.2 == 0)) && (!t8954.1.Fills)) = t) (fun K => ?_) ?_
  ·
    rcases Bool.eq_false_or_eq_true (((t8954.2 == 0) && (t8979.2 == 0)) && (t8992.2 == 0)) with h9009 | h9009
    ·
      refine WL.setB 32 h9009 rfl ?_
      refine seg 15 [.v (.bool t8954.1.Fills)] [1, 3, 5, 36] [(1, (.pointer (some ⟨g8961, 0, none⟩))), (3, (.pointer (some ⟨g8986, 0, none⟩))), (5, (.pointer (some ⟨g8999, 0, none⟩))), (36, (.bool (!t8954.1.Fills)))] [.cell ⟨g8961, 0, none⟩ (.bool t8954.1.Fills)] (fun fb => by kernel_rfl) rfl ⟨hS9004.cell 5 rfl 0 rfl, trivial⟩ ?_
      exact WL.toV K (!t8954.1.Fills) [36, 1, 3, 5] rfl (by first | (rw [h9009]; done) | (rw [h9009]; rfl))
    refine WL.setB 32 h9009 rfl ?_
    refine seg 15 [] [1, 3, 5, 36] [(1, (.pointer (some ⟨g8961, 0, none⟩))), (3, (.pointer (some ⟨g8986, 0, none⟩))), (5, (.pointer (some ⟨g8999, 0, none⟩))), (36, (.bool false))] [] (fun fb => by kernel_rfl) rfl trivial ?_
    exact WL.toV K false [36, 1, 3, 5] rfl (by first | (rw [h9009]; done) | (rw [h9009]; rfl))
  rintro b9010 rfl
  refine seg 16 [] [1, 3, 5, 37] [(1, (.pointer (some ⟨g8961, 0, none⟩))), (3, (.pointer (some ⟨g8986, 0, none⟩))), (5, (.pointer (some ⟨g8999, 0, none⟩))), (37, (.bool ((((t8954.2 == 0) && (t8979.2 == 0)) && (t8992.2 == 0)) && (!t8954.1.Fills))))] [] (fun fb => by kernel_rfl) rfl trivial ?_
  refine WL.cutV (T := Bool) 20 (fun t => [(41, (.bool t)), (3, (.pointer (some ⟨g8986, 0, none⟩))), (5, (.pointer (some ⟨g8999, 0, none⟩)))]) (fun t => (((((t8954.2 == 0) && (t8979.2 == 0)) && (t8992.2 == 0)) && (!t8954.1.Fills)) && (t8954.1.Side == 2)) = t) (fun K => ?_) ?_
  ·
    rcases Bool.eq_false_or_eq_true ((((t8954.2 == 0) && (t8979.2 == 0)) && (t8992.2 == 0)) && (!t8954.1.Fills)) with h9011 | h9011
    ·
      refine WL.setB 37 h9011 rfl ?_
      refine seg 20 [.v (.int .i64 t8954.1.Side)] [3, 5, 41] [(3, (.pointer (some ⟨g8986, 0, none⟩))), (5, (.pointer (some ⟨g8999, 0, none⟩))), (41, (.bool (t8954.1.Side == 2)))] [.cell ⟨g8961, 4, none⟩ (.int .i64 t8954.1.Side)] (fun fb => by kernel_rfl) rfl ⟨hS9004.cell 5 rfl 4 rfl, trivial⟩ ?_
      exact WL.toV K (t8954.1.Side == 2) [41, 3, 5] rfl (by first | (rw [h9011]; done) | (rw [h9011]; rfl))
    refine WL.setB 37 h9011 rfl ?_
    refine seg 20 [] [3, 5, 41] [(3, (.pointer (some ⟨g8986, 0, none⟩))), (5, (.pointer (some ⟨g8999, 0, none⟩))), (41, (.bool false))] [] (fun fb => by kernel_rfl) rfl trivial ?_
    exact WL.toV K false [41, 3, 5] rfl (by first | (rw [h9011]; done) | (rw [h9011]; rfl))
  rintro b9012 rfl
  refine seg 21 [] [3, 5, 42] [(3, (.pointer (some ⟨g8986, 0, none⟩))), (5, (.pointer (some ⟨g8999, 0, none⟩))), (42, (.bool (((((t8954.2 == 0) && (t8979.2 == 0)) && (t8992.2 == 0)) && (!t8954.1.Fills)) && (t8954.1.Side == 2))))] [] (fun fb => by kernel_rfl) rfl trivial ?_
  refine WL.cutV (T := Bool) 24 (fun t => [(45, (.bool t)), (3, (.pointer (some ⟨g8986, 0, none⟩))), (5, (.pointer (some ⟨g8999, 0, none⟩)))]) (fun t => ((((((t8954.2 == 0) && (t8979.2 == 0)) && (t8992.2 == 0)) && (!t8954.1.Fills)) && (t8954.1.Side == 2)) && t8979.1.Fills) = t) (fun K => ?_) ?_
  ·
    rcases Bool.eq_false_or_eq_true (((((t8954.2 == 0) && (t8979.2 == 0)) && (t8992.2 == 0)) && (!t8954.1.Fills)) && (t8954.1.Side == 2)) with h9013 | h9013
    ·
      refine WL.setB 42 h9013 rfl ?_
      refine seg 24 [.v (.bool t8979.1.Fills)] [3, 5, 45] [(3, (.pointer (some ⟨g8986, 0, none⟩))), (5, (.pointer (some ⟨g8999, 0, none⟩))), (45, (.bool t8979.1.Fills))] [.cell ⟨g8986, 0, none⟩ (.bool t8979.1.Fills)] (fun fb => by kernel_rfl) rfl ⟨hS9004.cell 2 rfl 0 rfl, trivial⟩ ?_
      exact WL.toV K t8979.1.Fills [45, 3, 5] rfl (by first | (rw [h9013]; done) | (rw [h9013]; rfl))
    refine WL.setB 42 h9013 rfl ?_
    refine seg 24 [] [3, 5, 45] [(3, (.pointer (some ⟨g8986, 0, none⟩))), (5, (.pointer (some ⟨g8999, 0, none⟩))), (45, (.bool false))] [] (fun fb => by kernel_rfl) rfl trivial ?_
    exact WL.toV K false [45, 3, 5] rfl (by first | (rw [h9013]; done) | (rw [h9013]; rfl))
  rintro b9014 rfl
  refine seg 25 [] [3, 5, 46] [(3, (.pointer (some ⟨g8986, 0, none⟩))), (5, (.pointer (some ⟨g8999, 0, none⟩))), (46, (.bool ((((((t8954.2 == 0) && (t8979.2 == 0)) && (t8992.2 == 0)) && (!t8954.1.Fills)) && (t8954.1.Side == 2)) && t8979.1.Fills)))] [] (fun fb => by kernel_rfl) rfl trivial ?_
  obtain ⟨x9099, hx9100, hf⟩ := bind_some hf
  refine WL.cutW (T := Bool) 31 (fun t => [(5, (.pointer (some ⟨g8999, 0, none⟩))), (52, (.bool t))]) (fun t w1 => (St NoS w w1 [] [blk g8999 (.cells #[(.bool t8992.1.Fills), (.int .i64 t8992.1.Torus.Width), (.int .i64 t8992.1.Torus.Height), (.slice A8997 t8992.1.Torus.Cells.length c8998), (.int .i64 t8992.1.Side)] 40 (0, 0)), rowO 3 encInt A8997 c8998 t8992.1.Torus.Cells] ∧ x9099 = t) ∧ CellsOK [] w1) (fun K => ?_) ?_
  ·
    rcases br_some hx9100 with ⟨h9101, hx9100⟩ | ⟨h9101, hx9100⟩
    ·
      refine WL.setB 46 h9101 rfl ?_
      refine seg 27 [.v (.int .i64 t8979.1.Torus.Width), .v (.int .i64 t8979.1.Torus.Height), .v (.slice A8984 t8979.1.Torus.Cells.length c8985)] [5, 46, 48] [(5, (.pointer (some ⟨g8999, 0, none⟩))), (46, (.bool true)), (48, (.agg #[(.int .i64 t8979.1.Torus.Width), (.int .i64 t8979.1.Torus.Height), (.slice A8984 t8979.1.Torus.Cells.length c8985)]))] [.cell ⟨g8986, 1, none⟩ (.int .i64 t8979.1.Torus.Width), .cell ⟨g8986, 2, none⟩ (.int .i64 t8979.1.Torus.Height), .cell ⟨g8986, 3, none⟩ (.slice A8984 t8979.1.Torus.Cells.length c8985)] (fun fb => by kernel_rfl) rfl ⟨hS9004.cell 2 rfl 1 rfl, hS9004.cell 2 rfl 2 rfl, hS9004.cell 2 rfl 3 rfl, trivial⟩ ?_
      refine WL.new hS9004 49 [] (fun g => (.slice (some ⟨g, 0, none⟩) 4 4)) (.cells #[(.int .i64 0), (.int .i64 1), (.int .i64 1), (.int .i64 0)] 3 (0, 0)) [] (fun fb g => by kernel_rfl) trivial (fun g9102 w9103 hS9104 => ?_)
      refine ⟨trivial, ?_⟩
      have hS9106 : St NoS w w9103 [] [rowO 3 encInt (some ⟨g9102, 0, none⟩) 4 [0, 1, 1, 0], blk g8999 (.cells #[(.bool t8992.1.Fills), (.int .i64 t8992.1.Torus.Width), (.int .i64 t8992.1.Torus.Height), (.slice A8997 t8992.1.Torus.Cells.length c8998), (.int .i64 t8992.1.Side)] 40 (0, 0)), rowO 3 encInt A8997 c8998 t8992.1.Torus.Cells, blk g8986 (.cells #[(.bool t8979.1.Fills), (.int .i64 t8979.1.Torus.Width), (.int .i64 t8979.1.Torus.Height), (.slice A8984 t8979.1.Torus.Cells.length c8985), (.int .i64 t8979.1.Side)] 40 (0, 0)), rowO 3 encInt A8984 c8985 t8979.1.Torus.Cells, rowO 24 enc_Tile A8977 c8978 t8972, blk g8961 (.cells #[(.bool t8954.1.Fills), (.int .i64 t8954.1.Torus.Width), (.int .i64 t8954.1.Torus.Height), (.slice A8959 t8954.1.Torus.Cells.length c8960), (.int .i64 t8954.1.Side)] 40 (0, 0)), rowO 3 encInt A8959 c8960 t8954.1.Torus.Cells, rowO 24 enc_Tile (some ⟨g6, 0, none⟩) 1 [(Tile.mk 0 0 1 0)]] := hS9104.map1 0 _ (fun h => rowO.ofBlk h rfl (Nat.le_of_ble_eq_true (by kernel_rfl))) (fun _ h => by obtain ⟨_, h1, h2⟩ := h; injection h1 with h1; subst h1; exact h2) [1, 2, 3, 4, 5, 6, 7, 8] (by decide) (by decide)
      refine seg 29 [] [5, 46, 48, 50] [(5, (.pointer (some ⟨g8999, 0, none⟩))), (46, (.bool true)), (48, (.agg #[(.int .i64 t8979.1.Torus.Width), (.int .i64 t8979.1.Torus.Height), (.slice A8984 t8979.1.Torus.Cells.length c8985)])), (50, (.agg #[(.int .i64 2), (.int .i64 2), (.slice (some ⟨g9102, 0, none⟩) [0, 1, 1, 0].length 4)]))] [] (fun fb => by kernel_rfl) rfl trivial ?_
      obtain ⟨t9107, ht9108, hx9100⟩ := bind_some hx9100
      refine WL.call (some 51) 26 #[(.agg #[(.int .i64 t8979.1.Torus.Width), (.int .i64 t8979.1.Torus.Height), (.slice A8984 t8979.1.Torus.Cells.length c8985)]), (.agg #[(.int .i64 2), (.int .i64 2), (.slice (some ⟨g9102, 0, none⟩) [0, 1, 1, 0].length 4)])] (fun fb => by kernel_rfl) (ref01_SamePattern_calls _ t8979.1.Torus (Pattern.mk 2 2 [0, 1, 1, 0]) A8984 c8985 (some ⟨g9102, 0, none⟩) 4 t9107 _ (hS9106.ow 4).ofO (hS9106.ow 0).ofO ht9108) (fun v w9109 hR9110 => ?_)
      obtain ⟨rfl, hk_⟩ := hR9110
      have hS9111 := hS9106.keepN hk_
      refine ⟨trivial, ?_⟩
      refine seg 31 [] [5, 52] [(5, (.pointer (some ⟨g8999, 0, none⟩))), (52, (.bool t9107))] [] (fun fb => by kernel_rfl) rfl trivial ?_
      injection hx9100 with hx9100
      exact WL.to K t9107 [5, 52] rfl ⟨⟨(hS9111.subR []).sub [1, 2] (by decide), hx9100.symm⟩, trivial⟩
    refine WL.setB 46 h9101 rfl ?_
    refine seg 31 [] [5, 52] [(5, (.pointer (some ⟨g8999, 0, none⟩))), (52, (.bool false))] [] (fun fb => by kernel_rfl) rfl trivial ?_
    injection hx9100 with hx9100
    exact WL.to K false [5, 52] rfl ⟨⟨(hS9004.subR []).sub [0, 1] (by decide), hx9100.symm⟩, trivial⟩
  rintro y9112 w9114 ⟨⟨hS9115, hq9113⟩, hF9116⟩
  subst hq9113
  refine seg 32 [] [5, 53] [(5, (.pointer (some ⟨g8999, 0, none⟩))), (53, (.bool x9099))] [] (fun fb => by kernel_rfl) rfl trivial ?_
  refine WL.cutV (T := Bool) 36 (fun t => [(57, (.bool t)), (5, (.pointer (some ⟨g8999, 0, none⟩)))]) (fun t => (x9099 && (!t8992.1.Fills)) = t) (fun K => ?_) ?_
  ·
    rcases Bool.eq_false_or_eq_true x9099 with h9117 | h9117
    ·
      refine WL.setB 53 h9117 rfl ?_
      refine seg 36 [.v (.bool t8992.1.Fills)] [5, 57] [(5, (.pointer (some ⟨g8999, 0, none⟩))), (57, (.bool (!t8992.1.Fills)))] [.cell ⟨g8999, 0, none⟩ (.bool t8992.1.Fills)] (fun fb => by kernel_rfl) rfl ⟨hS9115.cell 0 rfl 0 rfl, trivial⟩ ?_
      exact WL.toV K (!t8992.1.Fills) [57, 5] rfl (by first | (rw [h9117]; done) | (rw [h9117]; rfl))
    refine WL.setB 53 h9117 rfl ?_
    refine seg 36 [] [5, 57] [(5, (.pointer (some ⟨g8999, 0, none⟩))), (57, (.bool false))] [] (fun fb => by kernel_rfl) rfl trivial ?_
    exact WL.toV K false [57, 5] rfl (by first | (rw [h9117]; done) | (rw [h9117]; rfl))
  rintro b9118 rfl
  refine seg 37 [] [5, 58] [(5, (.pointer (some ⟨g8999, 0, none⟩))), (58, (.bool (x9099 && (!t8992.1.Fills))))] [] (fun fb => by kernel_rfl) rfl trivial ?_
  refine WL.cutV (T := Bool) 41 (fun t => [(62, (.bool t))]) (fun t => ((x9099 && (!t8992.1.Fills)) && (t8992.1.Side == 1)) = t) (fun K => ?_) ?_
  ·
    rcases Bool.eq_false_or_eq_true (x9099 && (!t8992.1.Fills)) with h9119 | h9119
    ·
      refine WL.setB 58 h9119 rfl ?_
      refine seg 41 [.v (.int .i64 t8992.1.Side)] [62] [(62, (.bool (t8992.1.Side == 1)))] [.cell ⟨g8999, 4, none⟩ (.int .i64 t8992.1.Side)] (fun fb => by kernel_rfl) rfl ⟨hS9115.cell 0 rfl 4 rfl, trivial⟩ ?_
      exact WL.toV K (t8992.1.Side == 1) [62] rfl (by first | (rw [h9119]; done) | (rw [h9119]; rfl))
    refine WL.setB 58 h9119 rfl ?_
    refine seg 41 [] [62] [(62, (.bool false))] [] (fun fb => by kernel_rfl) rfl trivial ?_
    exact WL.toV K false [62] rfl (by first | (rw [h9119]; done) | (rw [h9119]; rfl))
  rintro b9120 rfl
  refine seg 42 [] [0] [(0, (.bool ((x9099 && (!t8992.1.Fills)) && (t8992.1.Side == 1))))] [] (fun fb => by kernel_rfl) rfl trivial ?_
  refine WL.done rfl ?_
  refine WX.next ?_
  refine WC.ret ?_
  injection hf with hf
  subst hf
  exact WX.ret_ [] (.bool ((x9099 && (!t8992.1.Fills)) && (t8992.1.Side == 1))) [] (fun fb => by kernel_rfl) trivial ⟨_, rfl, rfl, hS9115.keep⟩
theorem tile_Form_calls (p0 : Pattern) (A_p0_Cells : Option Addr) (c_p0_Cells : Nat) (r : Bool) (w : World) (hR0 : RO NoS w (rowR encInt A_p0_Cells c_p0_Cells p0.Cells)) (hf : tile_Form p0 = some r) :
    CallsR Try.prog 64 #[(.agg #[(.int .i64 p0.Width), (.int .i64 p0.Height), (.slice A_p0_Cells p0.Cells.length c_p0_Cells)])] w (fun v w' => v = (.bool r) ∧ Keeps NoS w w') := by
  have hS : St NoS w w [rowR encInt A_p0_Cells c_p0_Cells p0.Cells] [] := St.init (ro_cons hR0 (ro_nil _ _))
  refine enter 40 Try.func64 rfl Try.ntmps64 rfl ?_
  unfold tile_Form at hf
  refine WC.seq ?_
  refine WC.region ?_
  refine WL.new hS 1 [] (fun g => (.pointer (some ⟨g, 0, none⟩))) (.cells #[(.int .i64 p0.Width), (.int .i64 p0.Height), (.slice A_p0_Cells p0.Cells.length c_p0_Cells)] 38 (0, 0)) [] (fun fb g => by kernel_rfl) trivial (fun g9154 w9155 hS9156 => ?_)
  refine ⟨trivial, ?_⟩
  refine seg 2 [] [1] [(1, (.pointer (some ⟨g9154, 0, none⟩)))] [] (fun fb => by kernel_rfl) rfl trivial ?_
  refine WL.done rfl ?_
  refine WX.next ?_
  refine WC.seq ?_
  refine WC.region ?_
  refine seg 4 [.v (.int .i64 p0.Width)] [1, 6] [(1, (.pointer (some ⟨g9154, 0, none⟩))), (6, (.bool (decide (p0.Width ≥ 1))))] [.cell ⟨g9154, 0, none⟩ (.int .i64 p0.Width)] (fun fb => by kernel_rfl) rfl ⟨hS9156.cell 0 rfl 0 rfl, trivial⟩ ?_
  refine WL.cutV (T := Bool) 8 (fun t => [(10, (.bool t)), (1, (.pointer (some ⟨g9154, 0, none⟩)))]) (fun t => ((decide (p0.Width ≥ 1)) && (decide (p0.Height ≥ 1))) = t) (fun K => ?_) ?_
  ·
    rcases Bool.eq_false_or_eq_true (decide (p0.Width ≥ 1)) with h9158 | h9158
    ·
      refine WL.setB 6 h9158 rfl ?_
      refine seg 8 [.v (.int .i64 p0.Height)] [1, 10] [(1, (.pointer (some ⟨g9154, 0, none⟩))), (10, (.bool (decide (p0.Height ≥ 1))))] [.cell ⟨g9154, 1, none⟩ (.int .i64 p0.Height)] (fun fb => by kernel_rfl) rfl ⟨hS9156.cell 0 rfl 1 rfl, trivial⟩ ?_
      exact WL.toV K (decide (p0.Height ≥ 1)) [10, 1] rfl (by first | (rw [h9158]; done) | (rw [h9158]; rfl))
    refine WL.setB 6 h9158 rfl ?_
    refine seg 8 [] [1, 10] [(1, (.pointer (some ⟨g9154, 0, none⟩))), (10, (.bool false))] [] (fun fb => by kernel_rfl) rfl trivial ?_
    exact WL.toV K false [10, 1] rfl (by first | (rw [h9158]; done) | (rw [h9158]; rfl))
  rintro b9159 rfl
  refine seg 9 [] [1, 11] [(1, (.pointer (some ⟨g9154, 0, none⟩))), (11, (.bool ((decide (p0.Width ≥ 1)) && (decide (p0.Height ≥ 1)))))] [] (fun fb => by kernel_rfl) rfl trivial ?_
  refine WL.cutV (T := Bool) 13 (fun t => [(15, (.bool t)), (1, (.pointer (some ⟨g9154, 0, none⟩)))]) (fun t => (((decide (p0.Width ≥ 1)) && (decide (p0.Height ≥ 1))) && (decide (p0.Width ≤ 40000))) = t) (fun K => ?_) ?_
  ·
    rcases Bool.eq_false_or_eq_true ((decide (p0.Width ≥ 1)) && (decide (p0.Height ≥ 1))) with h9160 | h9160
    ·
      refine WL.setB 11 h9160 rfl ?_
      refine seg 13 [.v (.int .i64 p0.Width)] [1, 15] [(1, (.pointer (some ⟨g9154, 0, none⟩))), (15, (.bool (decide (p0.Width ≤ 40000))))] [.cell ⟨g9154, 0, none⟩ (.int .i64 p0.Width)] (fun fb => by kernel_rfl) rfl ⟨hS9156.cell 0 rfl 0 rfl, trivial⟩ ?_
      exact WL.toV K (decide (p0.Width ≤ 40000)) [15, 1] rfl (by first | (rw [h9160]; done) | (rw [h9160]; rfl))
    refine WL.setB 11 h9160 rfl ?_
    refine seg 13 [] [1, 15] [(1, (.pointer (some ⟨g9154, 0, none⟩))), (15, (.bool false))] [] (fun fb => by kernel_rfl) rfl trivial ?_
    exact WL.toV K false [15, 1] rfl (by first | (rw [h9160]; done) | (rw [h9160]; rfl))
  rintro b9161 rfl
  refine seg 14 [] [1, 16] [(1, (.pointer (some ⟨g9154, 0, none⟩))), (16, (.bool (((decide (p0.Width ≥ 1)) && (decide (p0.Height ≥ 1))) && (decide (p0.Width ≤ 40000)))))] [] (fun fb => by kernel_rfl) rfl trivial ?_
  refine WL.cutV (T := Bool) 18 (fun t => [(20, (.bool t)), (1, (.pointer (some ⟨g9154, 0, none⟩)))]) (fun t => ((((decide (p0.Width ≥ 1)) && (decide (p0.Height ≥ 1))) && (decide (p0.Width ≤ 40000))) && (decide (p0.Height ≤ 40000))) = t) (fun K => ?_) ?_
  ·
    rcases Bool.eq_false_or_eq_true (((decide (p0.Width ≥ 1)) && (decide (p0.Height ≥ 1))) && (decide (p0.Width ≤ 40000))) with h9162 | h9162
    ·
      refine WL.setB 16 h9162 rfl ?_
      refine seg 18 [.v (.int .i64 p0.Height)] [1, 20] [(1, (.pointer (some ⟨g9154, 0, none⟩))), (20, (.bool (decide (p0.Height ≤ 40000))))] [.cell ⟨g9154, 1, none⟩ (.int .i64 p0.Height)] (fun fb => by kernel_rfl) rfl ⟨hS9156.cell 0 rfl 1 rfl, trivial⟩ ?_
      exact WL.toV K (decide (p0.Height ≤ 40000)) [20, 1] rfl (by first | (rw [h9162]; done) | (rw [h9162]; rfl))
    refine WL.setB 16 h9162 rfl ?_
    refine seg 18 [] [1, 20] [(1, (.pointer (some ⟨g9154, 0, none⟩))), (20, (.bool false))] [] (fun fb => by kernel_rfl) rfl trivial ?_
    exact WL.toV K false [20, 1] rfl (by first | (rw [h9162]; done) | (rw [h9162]; rfl))
  rintro b9163 rfl
  refine seg 19 [] [1, 21] [(1, (.pointer (some ⟨g9154, 0, none⟩))), (21, (.bool ((((decide (p0.Width ≥ 1)) && (decide (p0.Height ≥ 1))) && (decide (p0.Width ≤ 40000))) && (decide (p0.Height ≤ 40000)))))] [] (fun fb => by kernel_rfl) rfl trivial ?_
  refine WL.cutV (T := Bool) 26 (fun t => [(28, (.bool t)), (1, (.pointer (some ⟨g9154, 0, none⟩)))]) (fun t => (((((decide (p0.Width ≥ 1)) && (decide (p0.Height ≥ 1))) && (decide (p0.Width ≤ 40000))) && (decide (p0.Height ≤ 40000))) && (decide (w64 (p0.Width * p0.Height) ≤ 40000))) = t) (fun K => ?_) ?_
  ·
    rcases Bool.eq_false_or_eq_true ((((decide (p0.Width ≥ 1)) && (decide (p0.Height ≥ 1))) && (decide (p0.Width ≤ 40000))) && (decide (p0.Height ≤ 40000))) with h9164 | h9164
    ·
      refine WL.setB 21 h9164 rfl ?_
      refine seg 26 [.v (.int .i64 p0.Width), .v (.int .i64 p0.Height)] [1, 28] [(1, (.pointer (some ⟨g9154, 0, none⟩))), (28, (.bool (decide (w64 (p0.Width * p0.Height) ≤ 40000))))] [.cell ⟨g9154, 0, none⟩ (.int .i64 p0.Width), .cell ⟨g9154, 1, none⟩ (.int .i64 p0.Height)] (fun fb => by kernel_rfl) rfl ⟨hS9156.cell 0 rfl 0 rfl, hS9156.cell 0 rfl 1 rfl, trivial⟩ ?_
      exact WL.toV K (decide (w64 (p0.Width * p0.Height) ≤ 40000)) [28, 1] rfl (by first | (rw [h9164]; done) | (rw [h9164]; rfl))
    refine WL.setB 21 h9164 rfl ?_
    refine seg 26 [] [1, 28] [(1, (.pointer (some ⟨g9154, 0, none⟩))), (28, (.bool false))] [] (fun fb => by kernel_rfl) rfl trivial ?_
    exact WL.toV K false [28, 1] rfl (by first | (rw [h9164]; done) | (rw [h9164]; rfl))
  rintro b9165 rfl
  refine seg 27 [] [1, 29] [(1, (.pointer (some ⟨g9154, 0, none⟩))), (29, (.bool (((((decide (p0.Width ≥ 1)) && (decide (p0.Height ≥ 1))) && (decide (p0.Width ≤ 40000))) && (decide (p0.Height ≤ 40000))) && (decide (w64 (p0.Width * p0.Height) ≤ 40000)))))] [] (fun fb => by kernel_rfl) rfl trivial ?_
  refine WL.cutV (T := Bool) 37 (fun t => [(39, (.bool t))]) (fun t => ((((((decide (p0.Width ≥ 1)) && (decide (p0.Height ≥ 1))) && (decide (p0.Width ≤ 40000))) && (decide (p0.Height ≤ 40000))) && (decide (w64 (p0.Width * p0.Height) ≤ 40000))) && ((p0.Cells.length : Int) == (w64 (p0.Width * p0.Height)))) = t) (fun K => ?_) ?_
  ·
    rcases Bool.eq_false_or_eq_true (((((decide (p0.Width ≥ 1)) && (decide (p0.Height ≥ 1))) && (decide (p0.Width ≤ 40000))) && (decide (p0.Height ≤ 40000))) && (decide (w64 (p0.Width * p0.Height) ≤ 40000))) with h9166 | h9166
    ·
      refine WL.setB 29 h9166 rfl ?_
      refine seg 37 [.v (.slice A_p0_Cells p0.Cells.length c_p0_Cells), .v (.int .i64 p0.Width), .v (.int .i64 p0.Height)] [39] [(39, (.bool ((p0.Cells.length : Int) == (w64 (p0.Width * p0.Height)))))] [.cell ⟨g9154, 2, none⟩ (.slice A_p0_Cells p0.Cells.length c_p0_Cells), .cell ⟨g9154, 0, none⟩ (.int .i64 p0.Width), .cell ⟨g9154, 1, none⟩ (.int .i64 p0.Height)] (fun fb => by kernel_rfl) rfl ⟨hS9156.cell 0 rfl 2 rfl, hS9156.cell 0 rfl 0 rfl, hS9156.cell 0 rfl 1 rfl, trivial⟩ ?_
      exact WL.toV K ((p0.Cells.length : Int) == (w64 (p0.Width * p0.Height))) [39] rfl (by first | (rw [h9166]; done) | (rw [h9166]; rfl))
    refine WL.setB 29 h9166 rfl ?_
    refine seg 37 [] [39] [(39, (.bool false))] [] (fun fb => by kernel_rfl) rfl trivial ?_
    exact WL.toV K false [39] rfl (by first | (rw [h9166]; done) | (rw [h9166]; rfl))
  rintro b9167 rfl
  refine seg 38 [] [2] [(2, (.bool ((((((decide (p0.Width ≥ 1)) && (decide (p0.Height ≥ 1))) && (decide (p0.Width ≤ 40000))) && (decide (p0.Height ≤ 40000))) && (decide (w64 (p0.Width * p0.Height) ≤ 40000))) && ((p0.Cells.length : Int) == (w64 (p0.Width * p0.Height))))))] [] (fun fb => by kernel_rfl) rfl trivial ?_
  refine WL.done rfl ?_
  refine WX.next ?_
  refine WC.ret ?_
  injection hf with hf
  subst hf
  exact WX.ret_ [] (.bool ((((((decide (p0.Width ≥ 1)) && (decide (p0.Height ≥ 1))) && (decide (p0.Width ≤ 40000))) && (decide (p0.Height ≤ 40000))) && (decide (w64 (p0.Width * p0.Height) ≤ 40000))) && ((p0.Cells.length : Int) == (w64 (p0.Width * p0.Height))))) [] (fun fb => by kernel_rfl) trivial ⟨_, rfl, rfl, hS9156.keep⟩
theorem tile_of_1_calls (p0 : Int) (f0 : List Tile) (g_f0 : Nat) (A_f0 : Option Addr) (c_f0 : Nat) (r : Bool) (w : World) (hR0 : RO NoS w (blk g_f0 (.cells #[(.slice A_f0 f0.length c_f0)] 22 (0, 0)))) (hR1 : RO NoS w (rowR enc_Tile A_f0 c_f0 f0)) (hf : tile_of_1 p0 f0 = some r) :
    CallsR Try.prog 66 #[(.int .i64 p0), (.pointer (some ⟨g_f0, 0, none⟩))] w (fun v w' => v = (.bool r) ∧ Keeps NoS w w') := by
  have hS : St NoS w w [blk g_f0 (.cells #[(.slice A_f0 f0.length c_f0)] 22 (0, 0)), rowR enc_Tile A_f0 c_f0 f0] [] := St.init (ro_cons hR0 (ro_cons hR1 (ro_nil _ _)))
  refine enter 12 Try.func66 rfl Try.ntmps66 rfl ?_
  unfold tile_of_1 at hf
  refine WC.seq ?_
  refine WC.region ?_
  refine seg 1 [] [0, 1] [(0, (.int .i64 p0)), (1, (.pointer (some ⟨g_f0, 0, none⟩)))] [] (fun fb => by kernel_rfl) rfl trivial ?_
  refine WL.done rfl ?_
  refine WX.next ?_
  refine WC.seq ?_
  refine WC.region ?_
  refine seg 3 [] [0, 1, 6] [(0, (.int .i64 p0)), (1, (.pointer (some ⟨g_f0, 0, none⟩))), (6, (.bool (decide (p0 < 0))))] [] (fun fb => by kernel_rfl) rfl trivial ?_
  refine WL.cutV (T := Bool) 8 (fun t => [(11, (.bool t))]) (fun t => ((decide (p0 < 0)) || (decide (p0 ≥ (f0.length : Int)))) = t) (fun K => ?_) ?_
  ·
    rcases Bool.eq_false_or_eq_true (decide (p0 < 0)) with h9189 | h9189
    ·
      refine WL.setB 6 h9189 rfl ?_
      refine seg 8 [] [11] [(11, (.bool true))] [] (fun fb => by kernel_rfl) rfl trivial ?_
      exact WL.toV K true [11] rfl (by first | (rw [h9189]; done) | (rw [h9189]; rfl))
    refine WL.setB 6 h9189 rfl ?_
    refine seg 8 [.v (.slice A_f0 f0.length c_f0)] [11] [(11, (.bool (decide (p0 ≥ (f0.length : Int)))))] [.cell ⟨g_f0, 0, none⟩ (.slice A_f0 f0.length c_f0)] (fun fb => by kernel_rfl) rfl ⟨blk_cell (hS.rd 0).1 0 rfl, trivial⟩ ?_
    exact WL.toV K (decide (p0 ≥ (f0.length : Int))) [11] rfl (by first | (rw [h9189]; done) | (rw [h9189]; rfl))
  rintro b9190 rfl
  refine seg 9 [] [3] [(3, (.bool ((decide (p0 < 0)) || (decide (p0 ≥ (f0.length : Int))))))] [] (fun fb => by kernel_rfl) rfl trivial ?_
  refine WL.done rfl ?_
  refine WX.next ?_
  refine WC.ret ?_
  injection hf with hf
  subst hf
  exact WX.ret_ [] (.bool ((decide (p0 < 0)) || (decide (p0 ≥ (f0.length : Int))))) [] (fun fb => by kernel_rfl) trivial ⟨_, rfl, rfl, hS.keep⟩
theorem slices_IndexFunc_int_int_with_tile_of_1_calls (k : Nat) (p0 : List Int) (p1_0 : List Tile) (A_p0 : Option Addr) (c_p0 : Nat) (g_p1_0 : Nat) (A_p1_0 : Option Addr) (c_p1_0 : Nat) (r : Int) (w : World) (hR0 : RO NoS w (rowR encInt A_p0 c_p0 p0)) (hR1 : RO NoS w (blk g_p1_0 (.cells #[(.slice A_p1_0 p1_0.length c_p1_0)] 22 (0, 0)))) (hR2 : RO NoS w (rowR enc_Tile A_p1_0 c_p1_0 p1_0)) (hf : slices_IndexFunc_int_int_with_tile_of_1 k p0 p1_0 = some r) :
    CallsR Try.prog 81 #[(.slice A_p0 p0.length c_p0), (.func (.func 66) #[] #[(.pointer (some ⟨g_p1_0, 0, none⟩))])] w (fun v w' => v = (.int .i64 r) ∧ Keeps NoS w w') := by
  have hS : St NoS w w [rowR encInt A_p0 c_p0 p0, blk g_p1_0 (.cells #[(.slice A_p1_0 p1_0.length c_p1_0)] 22 (0, 0)), rowR enc_Tile A_p1_0 c_p1_0 p1_0] [] := St.init (ro_cons hR0 (ro_cons hR1 (ro_cons hR2 (ro_nil _ _))))
  refine enter 19 Try.func81 rfl Try.ntmps81 rfl ?_
  unfold slices_IndexFunc_int_int_with_tile_of_1 at hf
  refine WC.seq ?_
  refine WC.region ?_
  refine seg 1 [] [0, 1] [(0, (.slice A_p0 p0.length c_p0)), (1, (.func (.func 66) #[] #[(.pointer (some ⟨g_p1_0, 0, none⟩))]))] [] (fun fb => by kernel_rfl) rfl trivial ?_
  refine WL.done rfl ?_
  refine WX.next ?_
  refine WC.seq ?_
  refine WC.seq ?_
  refine WC.region ?_
  refine seg 3 [] [0, 1, 7, 8] [(0, (.slice A_p0 p0.length c_p0)), (1, (.func (.func 66) #[] #[(.pointer (some ⟨g_p1_0, 0, none⟩))])), (7, (.int .i64 (p0.length : Int))), (8, (.int .i64 0))] [] (fun fb => by kernel_rfl) rfl trivial ?_
  refine WL.done rfl ?_
  refine WX.next ?_
  obtain ⟨x9207, hx9208, hf⟩ := bind_some hf
  refine WC.cutN (T := Unit) (fun t => []) (fun t w1 => St NoS w w1 [rowR encInt A_p0 c_p0 p0, blk g_p1_0 (.cells #[(.slice A_p1_0 p1_0.length c_p1_0)] 22 (0, 0)), rowR enc_Tile A_p1_0 c_p1_0 p1_0] [] ∧ x9207 = .inr t) (fun Kx9207 => ?_) ?_
  ·
    refine WC.block ?_
    refine WC.loop (T := Int) (fun t => [(0, (.slice A_p0 p0.length c_p0)), (1, (.func (.func 66) #[] #[(.pointer (some ⟨g_p1_0, 0, none⟩))])), (7, (.int .i64 (p0.length : Int))), (8, (.int .i64 t))]) (fun n t w1 => St NoS w w1 [rowR encInt A_p0 c_p0 p0, blk g_p1_0 (.cells #[(.slice A_p1_0 p1_0.length c_p1_0)] 22 (0, 0)), rowR enc_Tile A_p1_0 c_p1_0 p1_0] [] ∧ slices_IndexFunc_int_int_with_tile_of_1.l0 n t p0 p1_0 = some x9207) k 0 [0, 1, 7, 8] rfl ⟨(hS.subR [0, 1, 2]).sub [] (by decide), hx9208⟩ ?_
    rintro k9209 x9206 w9210 ⟨hS9211, hl9212⟩
    cases k9209 with
    | zero => rw [slices_IndexFunc_int_int_with_tile_of_1.l0] at hl9212; cases hl9212
    | succ k9209 =>
      rw [slices_IndexFunc_int_int_with_tile_of_1.l0] at hl9212
      refine WC.seq ?_
      refine WC.region ?_
      refine seg 1 [] [0, 1, 7, 8, 9] [(0, (.slice A_p0 p0.length c_p0)), (1, (.func (.func 66) #[] #[(.pointer (some ⟨g_p1_0, 0, none⟩))])), (7, (.int .i64 (p0.length : Int))), (8, (.int .i64 x9206)), (9, (.bool (decide (x9206 < (p0.length : Int)))))] [] (fun fb => by kernel_rfl) rfl trivial ?_
      refine WL.done rfl ?_
      refine WX.next ?_
      refine WC.seq ?_
      rcases br_some hl9212 with ⟨h9213, hl9212⟩ | ⟨h9213, hl9212⟩
      · refine WC.condT2 (fun fb => by kernel_rfl) h9213 ?_
        refine WC.skip ?_
        refine WX.next ?_
        refine WC.seq ?_
        refine WC.block ?_
        refine WC.seq ?_
        refine WC.region ?_
        refine seg 2 [] [0, 1, 5, 7, 8] [(0, (.slice A_p0 p0.length c_p0)), (1, (.func (.func 66) #[] #[(.pointer (some ⟨g_p1_0, 0, none⟩))])), (5, (.int .i64 x9206)), (7, (.int .i64 (p0.length : Int))), (8, (.int .i64 x9206))] [] (fun fb => by kernel_rfl) rfl trivial ?_
        refine WL.done rfl ?_
        refine WX.next ?_
        refine WC.seq ?_
        refine WC.region ?_
        refine seg 3 [] [0, 1, 5, 7, 8, 11, 12, 13] [(0, (.slice A_p0 p0.length c_p0)), (1, (.func (.func 66) #[] #[(.pointer (some ⟨g_p1_0, 0, none⟩))])), (5, (.int .i64 x9206)), (7, (.int .i64 (p0.length : Int))), (8, (.int .i64 x9206)), (11, (.func (.func 66) #[] #[(.pointer (some ⟨g_p1_0, 0, none⟩))])), (12, (.slice A_p0 p0.length c_p0)), (13, (.int .i64 x9206))] [] (fun fb => by kernel_rfl) rfl trivial ?_
        obtain ⟨h9214, hl9212⟩ := as_some hl9212
        refine seg 5 [.v (.int .i64 (rdD p0 x9206 0))] [0, 1, 5, 7, 8, 11, 15] [(0, (.slice A_p0 p0.length c_p0)), (1, (.func (.func 66) #[] #[(.pointer (some ⟨g_p1_0, 0, none⟩))])), (5, (.int .i64 x9206)), (7, (.int .i64 (p0.length : Int))), (8, (.int .i64 x9206)), (11, (.func (.func 66) #[] #[(.pointer (some ⟨g_p1_0, 0, none⟩))])), (15, (.int .i64 (rdD p0 x9206 0)))] [.idx A_p0 x9206 p0.length, .cell ((adr A_p0).add ((x9206).toNat * 1)) (.int .i64 (rdD p0 x9206 0))] (fun fb => by kernel_rfl) rfl ⟨rowR.adr (hS9211.rd 0).1 h9214.1 h9214.2, rowR.cell (hS9211.rd 0).1 0 h9214.1 h9214.2 0 rfl, trivial⟩ ?_
        obtain ⟨t9215, ht9216, hl9212⟩ := bind_some hl9212
        refine WL.call (some 16) 66 #[(.int .i64 (rdD p0 x9206 0)), (.pointer (some ⟨g_p1_0, 0, none⟩))] (fun fb => by kernel_rfl) (tile_of_1_calls (rdD p0 x9206 0) p1_0 g_p1_0 A_p1_0 c_p1_0 t9215 _ (hS9211.rd 1) (hS9211.rd 2) ht9216) (fun v w9217 hR9218 => ?_)
        obtain ⟨rfl, hk_⟩ := hR9218
        have hS9219 := hS9211.keepN hk_
        refine ⟨trivial, ?_⟩
        refine WL.done rfl ?_
        refine WX.next ?_
        rcases br_some hl9212 with ⟨h9220, hl9212⟩ | ⟨h9220, hl9212⟩
        · refine WC.condT2 (fun fb => by kernel_rfl) h9220 ?_
          refine WC.seq ?_
          refine WC.region ?_
          refine seg 2 [] [4] [(4, (.int .i64 x9206))] [] (fun fb => by kernel_rfl) rfl trivial ?_
          refine WL.done rfl ?_
          refine WX.next ?_
          refine WC.ret ?_
          injection hl9212 with hl9212
          subst hl9212
          injection hf with hf
          subst hf
          exact WX.blockR (WX.thenR (WX.thenR (WX.blockR (WX.thenR (WX.ret_ [] (.int .i64 x9206) [] (fun fb => by kernel_rfl) trivial ⟨_, rfl, rfl, hS9219.keep⟩)))))
        refine WC.condF2 (fun fb => by kernel_rfl) h9220 ?_
        refine WC.skip ?_
        refine WX.blockN (WX.next ?_)
        refine WC.region ?_
        refine seg 2 [] [0, 1, 7, 8] [(0, (.slice A_p0 p0.length c_p0)), (1, (.func (.func 66) #[] #[(.pointer (some ⟨g_p1_0, 0, none⟩))])), (7, (.int .i64 (p0.length : Int))), (8, (.int .i64 (w64 (x9206 + 1))))] [] (fun fb => by kernel_rfl) rfl trivial ?_
        refine WL.done rfl ?_
        exact WX.again k9209 (Nat.lt_succ_self _) (w64 (x9206 + 1)) [0, 1, 7, 8] rfl ⟨(hS9219.subR [0, 1, 2]).sub [] (by decide), hl9212⟩
      refine WC.condF2 (fun fb => by kernel_rfl) h9213 ?_
      refine WC.exit ?_
      injection hl9212 with hl9212
      exact WX.thenX (WX.thenX (WX.blockHere (WX.to Kx9207 () [] rfl ⟨(hS9211.subR [0, 1, 2]).sub [] (by decide), hl9212.symm⟩)))
  rintro y9224 w9221 ⟨hS9222, hq9223⟩
  subst hq9223
  have hf := sum_inr hf
  refine WX.next ?_
  refine WC.seq ?_
  refine WC.region ?_
  refine seg 1 [] [4] [(4, (.int .i64 (-1)))] [] (fun fb => by kernel_rfl) rfl trivial ?_
  refine WL.done rfl ?_
  refine WX.next ?_
  refine WC.ret ?_
  injection hf with hf
  subst hf
  exact WX.ret_ [] (.int .i64 (-1)) [] (fun fb => by kernel_rfl) trivial ⟨_, rfl, rfl, hS9222.keep⟩
theorem slices_ContainsFunc_int_int_with_tile_of_1_calls (k : Nat) (p0 : List Int) (p1_0 : List Tile) (A_p0 : Option Addr) (c_p0 : Nat) (g_p1_0 : Nat) (A_p1_0 : Option Addr) (c_p1_0 : Nat) (r : Bool) (w : World) (hR0 : RO NoS w (rowR encInt A_p0 c_p0 p0)) (hR1 : RO NoS w (blk g_p1_0 (.cells #[(.slice A_p1_0 p1_0.length c_p1_0)] 22 (0, 0)))) (hR2 : RO NoS w (rowR enc_Tile A_p1_0 c_p1_0 p1_0)) (hf : slices_ContainsFunc_int_int_with_tile_of_1 k p0 p1_0 = some r) :
    CallsR Try.prog 65 #[(.slice A_p0 p0.length c_p0), (.func (.func 66) #[] #[(.pointer (some ⟨g_p1_0, 0, none⟩))])] w (fun v w' => v = (.bool r) ∧ Keeps NoS w w') := by
  have hS : St NoS w w [rowR encInt A_p0 c_p0 p0, blk g_p1_0 (.cells #[(.slice A_p1_0 p1_0.length c_p1_0)] 22 (0, 0)), rowR enc_Tile A_p1_0 c_p1_0 p1_0] [] := St.init (ro_cons hR0 (ro_cons hR1 (ro_cons hR2 (ro_nil _ _))))
  refine enter 9 Try.func65 rfl Try.ntmps65 rfl ?_
  unfold slices_ContainsFunc_int_int_with_tile_of_1 at hf
  refine WC.seq ?_
  refine WC.region ?_
  refine seg 1 [] [0, 1] [(0, (.slice A_p0 p0.length c_p0)), (1, (.func (.func 66) #[] #[(.pointer (some ⟨g_p1_0, 0, none⟩))]))] [] (fun fb => by kernel_rfl) rfl trivial ?_
  refine WL.done rfl ?_
  refine WX.next ?_
  refine WC.seq ?_
  refine WC.region ?_
  refine seg 2 [] [5, 6] [(5, (.slice A_p0 p0.length c_p0)), (6, (.func (.func 66) #[] #[(.pointer (some ⟨g_p1_0, 0, none⟩))]))] [] (fun fb => by kernel_rfl) rfl trivial ?_
  obtain ⟨t9226, ht9227, hf⟩ := bind_some hf
  refine WL.call (some 7) 81 #[(.slice A_p0 p0.length c_p0), (.func (.func 66) #[] #[(.pointer (some ⟨g_p1_0, 0, none⟩))])] (fun fb => by kernel_rfl) (slices_IndexFunc_int_int_with_tile_of_1_calls _ p0 p1_0 A_p0 c_p0 g_p1_0 A_p1_0 c_p1_0 t9226 _ (hS.rd 0) (hS.rd 1) (hS.rd 2) ht9227) (fun v w9228 hR9229 => ?_)
  obtain ⟨rfl, hk_⟩ := hR9229
  have hS9230 := hS.keepN hk_
  refine ⟨trivial, ?_⟩
  refine seg 5 [] [4] [(4, (.bool (decide (t9226 ≥ 0))))] [] (fun fb => by kernel_rfl) rfl trivial ?_
  refine WL.done rfl ?_
  refine WX.next ?_
  refine WC.ret ?_
  injection hf with hf
  subst hf
  exact WX.ret_ [] (.bool (decide (t9226 ≥ 0))) [] (fun fb => by kernel_rfl) trivial ⟨_, rfl, rfl, hS9230.keep⟩
theorem tile_of_calls (k : Nat) (p0 : List Tile) (p1 : Pattern) (A_p0 : Option Addr) (c_p0 : Nat) (A_p1_Cells : Option Addr) (c_p1_Cells : Nat) (r : Bool) (w : World) (hR0 : RO NoS w (rowR enc_Tile A_p0 c_p0 p0)) (hR1 : RO NoS w (rowR encInt A_p1_Cells c_p1_Cells p1.Cells)) (hf : tile_of k p0 p1 = some r) :
    CallsR Try.prog 48 #[(.slice A_p0 p0.length c_p0), (.agg #[(.int .i64 p1.Width), (.int .i64 p1.Height), (.slice A_p1_Cells p1.Cells.length c_p1_Cells)])] w (fun v w' => v = (.bool r) ∧ Keeps NoS w w') := by
  have hS : St NoS w w [rowR enc_Tile A_p0 c_p0 p0, rowR encInt A_p1_Cells c_p1_Cells p1.Cells] [] := St.init (ro_cons hR0 (ro_cons hR1 (ro_nil _ _)))
  refine enter 18 Try.func48 rfl Try.ntmps48 rfl ?_
  unfold tile_of at hf
  refine WC.seq ?_
  refine WC.region ?_
  refine WL.new hS 2 [] (fun g => (.pointer (some ⟨g, 0, none⟩))) (.cells #[(.slice A_p0 p0.length c_p0)] 22 (0, 0)) [] (fun fb g => by kernel_rfl) trivial (fun g9141 w9142 hS9143 => ?_)
  refine ⟨trivial, ?_⟩
  refine WL.new hS9143 3 [] (fun g => (.pointer (some ⟨g, 0, none⟩))) (.cells #[(.int .i64 p1.Width), (.int .i64 p1.Height), (.slice A_p1_Cells p1.Cells.length c_p1_Cells)] 38 (0, 0)) [] (fun fb g => by kernel_rfl) trivial (fun g9145 w9146 hS9147 => ?_)
  refine ⟨trivial, ?_⟩
  refine seg 3 [] [2, 3] [(2, (.pointer (some ⟨g9141, 0, none⟩))), (3, (.pointer (some ⟨g9145, 0, none⟩)))] [] (fun fb => by kernel_rfl) rfl trivial ?_
  refine WL.done rfl ?_
  refine WX.next ?_
  refine WC.seq ?_
  refine WC.region ?_
  refine seg 1 [.v (.slice A_p0 p0.length c_p0)] [2, 3, 5] [(2, (.pointer (some ⟨g9141, 0, none⟩))), (3, (.pointer (some ⟨g9145, 0, none⟩))), (5, (.slice A_p0 p0.length c_p0))] [.cell ⟨g9141, 0, none⟩ (.slice A_p0 p0.length c_p0)] (fun fb => by kernel_rfl) rfl ⟨hS9147.cell 1 rfl 0 rfl, trivial⟩ ?_
  obtain ⟨t9149, ht9150, hf⟩ := bind_some hf
  refine WL.call (some 6) 38 #[(.slice A_p0 p0.length c_p0)] (fun fb => by kernel_rfl) (tile_Valid_calls _ p0 A_p0 c_p0 t9149 _ (hS9147.rd 0) ht9150) (fun v w9151 hR9152 => ?_)
  obtain ⟨rfl, hk_⟩ := hR9152
  have hS9153 := hS9147.keepN hk_
  refine ⟨trivial, ?_⟩
  refine seg 3 [] [2, 3, 7] [(2, (.pointer (some ⟨g9141, 0, none⟩))), (3, (.pointer (some ⟨g9145, 0, none⟩))), (7, (.bool t9149))] [] (fun fb => by kernel_rfl) rfl trivial ?_
  obtain ⟨x9174, hx9175, hf⟩ := bind_some hf
  refine WL.cutW (T := Bool) 6 (fun t => [(2, (.pointer (some ⟨g9141, 0, none⟩))), (3, (.pointer (some ⟨g9145, 0, none⟩))), (10, (.bool t))]) (fun t w1 => (St NoS w w1 [rowR enc_Tile A_p0 c_p0 p0, rowR encInt A_p1_Cells c_p1_Cells p1.Cells] [blk g9141 (.cells #[(.slice A_p0 p0.length c_p0)] 22 (0, 0)), blk g9145 (.cells #[(.int .i64 p1.Width), (.int .i64 p1.Height), (.slice A_p1_Cells p1.Cells.length c_p1_Cells)] 38 (0, 0))] ∧ x9174 = t) ∧ CellsOK [] w1) (fun K => ?_) ?_
  ·
    rcases br_some hx9175 with ⟨h9176, hx9175⟩ | ⟨h9176, hx9175⟩
    ·
      refine WL.setB 7 h9176 rfl ?_
      refine seg 4 [.v (.int .i64 p1.Width), .v (.int .i64 p1.Height), .v (.slice A_p1_Cells p1.Cells.length c_p1_Cells)] [2, 3, 7, 8] [(2, (.pointer (some ⟨g9141, 0, none⟩))), (3, (.pointer (some ⟨g9145, 0, none⟩))), (7, (.bool true)), (8, (.agg #[(.int .i64 p1.Width), (.int .i64 p1.Height), (.slice A_p1_Cells p1.Cells.length c_p1_Cells)]))] [.cell ⟨g9145, 0, none⟩ (.int .i64 p1.Width), .cell ⟨g9145, 1, none⟩ (.int .i64 p1.Height), .cell ⟨g9145, 2, none⟩ (.slice A_p1_Cells p1.Cells.length c_p1_Cells)] (fun fb => by kernel_rfl) rfl ⟨hS9153.cell 0 rfl 0 rfl, hS9153.cell 0 rfl 1 rfl, hS9153.cell 0 rfl 2 rfl, trivial⟩ ?_
      obtain ⟨t9177, ht9178, hx9175⟩ := bind_some hx9175
      refine WL.call (some 9) 64 #[(.agg #[(.int .i64 p1.Width), (.int .i64 p1.Height), (.slice A_p1_Cells p1.Cells.length c_p1_Cells)])] (fun fb => by kernel_rfl) (tile_Form_calls p1 A_p1_Cells c_p1_Cells t9177 _ (hS9153.rd 1) ht9178) (fun v w9179 hR9180 => ?_)
      obtain ⟨rfl, hk_⟩ := hR9180
      have hS9181 := hS9153.keepN hk_
      refine ⟨trivial, ?_⟩
      refine seg 6 [] [2, 3, 10] [(2, (.pointer (some ⟨g9141, 0, none⟩))), (3, (.pointer (some ⟨g9145, 0, none⟩))), (10, (.bool t9177))] [] (fun fb => by kernel_rfl) rfl trivial ?_
      injection hx9175 with hx9175
      exact WL.to K t9177 [2, 3, 10] rfl ⟨⟨(hS9181.subR [0, 1]).sub [1, 0] (by decide), hx9175.symm⟩, trivial⟩
    refine WL.setB 7 h9176 rfl ?_
    refine seg 6 [] [2, 3, 10] [(2, (.pointer (some ⟨g9141, 0, none⟩))), (3, (.pointer (some ⟨g9145, 0, none⟩))), (10, (.bool false))] [] (fun fb => by kernel_rfl) rfl trivial ?_
    injection hx9175 with hx9175
    exact WL.to K false [2, 3, 10] rfl ⟨⟨(hS9153.subR [0, 1]).sub [1, 0] (by decide), hx9175.symm⟩, trivial⟩
  rintro y9182 w9184 ⟨⟨hS9185, hq9183⟩, hF9186⟩
  subst hq9183
  refine seg 7 [] [2, 3, 11] [(2, (.pointer (some ⟨g9141, 0, none⟩))), (3, (.pointer (some ⟨g9145, 0, none⟩))), (11, (.bool x9174))] [] (fun fb => by kernel_rfl) rfl trivial ?_
  obtain ⟨x9237, hx9238, hf⟩ := bind_some hf
  refine WL.cutW (T := Bool) 13 (fun t => [(17, (.bool t))]) (fun t w1 => (St NoS w w1 [rowR enc_Tile A_p0 c_p0 p0, rowR encInt A_p1_Cells c_p1_Cells p1.Cells] [] ∧ x9237 = t) ∧ CellsOK [] w1) (fun K => ?_) ?_
  ·
    rcases br_some hx9238 with ⟨h9239, hx9238⟩ | ⟨h9239, hx9238⟩
    ·
      refine WL.setB 11 h9239 rfl ?_
      refine seg 10 [.v (.slice A_p1_Cells p1.Cells.length c_p1_Cells)] [11, 13, 14] [(11, (.bool true)), (13, (.slice A_p1_Cells p1.Cells.length c_p1_Cells)), (14, (.func (.func 66) #[] #[(.pointer (some ⟨g9141, 0, none⟩))]))] [.cell ⟨g9145, 2, none⟩ (.slice A_p1_Cells p1.Cells.length c_p1_Cells)] (fun fb => by kernel_rfl) rfl ⟨hS9185.cell 1 rfl 2 rfl, trivial⟩ ?_
      obtain ⟨t9240, ht9241, hx9238⟩ := bind_some hx9238
      refine WL.call (some 15) 65 #[(.slice A_p1_Cells p1.Cells.length c_p1_Cells), (.func (.func 66) #[] #[(.pointer (some ⟨g9141, 0, none⟩))])] (fun fb => by kernel_rfl) (slices_ContainsFunc_int_int_with_tile_of_1_calls _ p1.Cells p0 A_p1_Cells c_p1_Cells g9141 A_p0 c_p0 t9240 _ (hS9185.rd 1) (hS9185.ow 0) (hS9185.rd 0) ht9241) (fun v w9242 hR9243 => ?_)
      obtain ⟨rfl, hk_⟩ := hR9243
      have hS9244 := hS9185.keepN hk_
      refine ⟨trivial, ?_⟩
      refine seg 13 [] [17] [(17, (.bool (!t9240)))] [] (fun fb => by kernel_rfl) rfl trivial ?_
      injection hx9238 with hx9238
      exact WL.to K (!t9240) [17] rfl ⟨⟨(hS9244.subR [0, 1]).sub [] (by decide), hx9238.symm⟩, trivial⟩
    refine WL.setB 11 h9239 rfl ?_
    refine seg 13 [] [17] [(17, (.bool false))] [] (fun fb => by kernel_rfl) rfl trivial ?_
    injection hx9238 with hx9238
    exact WL.to K false [17] rfl ⟨⟨(hS9185.subR [0, 1]).sub [] (by decide), hx9238.symm⟩, trivial⟩
  rintro y9245 w9247 ⟨⟨hS9248, hq9246⟩, hF9249⟩
  subst hq9246
  refine seg 14 [] [4] [(4, (.bool x9237))] [] (fun fb => by kernel_rfl) rfl trivial ?_
  refine WL.done rfl ?_
  refine WX.next ?_
  refine WC.ret ?_
  injection hf with hf
  subst hf
  exact WX.ret_ [] (.bool x9237) [] (fun fb => by kernel_rfl) trivial ⟨_, rfl, rfl, hS9248.keep⟩
theorem tile_joins_calls (k : Nat) (p0 : List Tile) (p1 : Pattern) (p2 : Bool) (A_p0 : Option Addr) (c_p0 : Nat) (A_p1_Cells : Option Addr) (c_p1_Cells : Nat) (r : Bool) (w : World) (hR0 : RO NoS w (rowR enc_Tile A_p0 c_p0 p0)) (hR1 : RO NoS w (rowR encInt A_p1_Cells c_p1_Cells p1.Cells)) (hf : tile_joins k p0 p1 p2 = some r) :
    CallsR Try.prog 49 #[(.slice A_p0 p0.length c_p0), (.agg #[(.int .i64 p1.Width), (.int .i64 p1.Height), (.slice A_p1_Cells p1.Cells.length c_p1_Cells)]), (.bool p2)] w (fun v w' => v = (.bool r) ∧ Keeps NoS w w') := by
  have hS : St NoS w w [rowR enc_Tile A_p0 c_p0 p0, rowR encInt A_p1_Cells c_p1_Cells p1.Cells] [] := St.init (ro_cons hR0 (ro_cons hR1 (ro_nil _ _)))
  refine enter 92 Try.func49 rfl Try.ntmps49 rfl ?_
  unfold tile_joins at hf
  refine WC.seq ?_
  refine WC.region ?_
  refine WL.new hS 4 [] (fun g => (.pointer (some ⟨g, 0, none⟩))) (.cells #[(.int .i64 p1.Width), (.int .i64 p1.Height), (.slice A_p1_Cells p1.Cells.length c_p1_Cells)] 38 (0, 0)) [] (fun fb g => by kernel_rfl) trivial (fun g9255 w9256 hS9257 => ?_)
  refine ⟨trivial, ?_⟩
  refine seg 2 [] [0, 2, 4] [(0, (.slice A_p0 p0.length c_p0)), (2, (.bool p2)), (4, (.pointer (some ⟨g9255, 0, none⟩)))] [] (fun fb => by kernel_rfl) rfl trivial ?_
  refine WL.done rfl ?_
  refine WX.next ?_
  refine WC.seq ?_
  refine WC.seq ?_
  refine WC.region ?_
  refine seg 4 [.v (.slice A_p1_Cells p1.Cells.length c_p1_Cells)] [0, 2, 4, 12, 13, 14] [(0, (.slice A_p0 p0.length c_p0)), (2, (.bool p2)), (4, (.pointer (some ⟨g9255, 0, none⟩))), (12, (.slice A_p1_Cells p1.Cells.length c_p1_Cells)), (13, (.int .i64 (p1.Cells.length : Int))), (14, (.int .i64 0))] [.cell ⟨g9255, 2, none⟩ (.slice A_p1_Cells p1.Cells.length c_p1_Cells)] (fun fb => by kernel_rfl) rfl ⟨hS9257.cell 0 rfl 2 rfl, trivial⟩ ?_
  refine WL.done rfl ?_
  refine WX.next ?_
  obtain ⟨x9427, hx9428, hf⟩ := bind_some hf
  refine WC.cutN (T := Unit) (fun t => []) (fun t w1 => St NoS w w1 [rowR enc_Tile A_p0 c_p0 p0, rowR encInt A_p1_Cells c_p1_Cells p1.Cells] [] ∧ x9427 = .inr t) (fun Kx9427 => ?_) ?_
  ·
    refine WC.block ?_
    refine WC.loop (T := Int) (fun t => [(0, (.slice A_p0 p0.length c_p0)), (2, (.bool p2)), (4, (.pointer (some ⟨g9255, 0, none⟩))), (12, (.slice A_p1_Cells p1.Cells.length c_p1_Cells)), (13, (.int .i64 (p1.Cells.length : Int))), (14, (.int .i64 t))]) (fun n t w1 => St NoS w w1 [rowR enc_Tile A_p0 c_p0 p0, rowR encInt A_p1_Cells c_p1_Cells p1.Cells] [blk g9255 (.cells #[(.int .i64 p1.Width), (.int .i64 p1.Height), (.slice A_p1_Cells p1.Cells.length c_p1_Cells)] 38 (0, 0))] ∧ tile_joins.l0 n t p0 p1 p2 = some x9427) k 0 [0, 2, 4, 12, 13, 14] rfl ⟨(hS9257.subR [0, 1]).sub [0] (by decide), hx9428⟩ ?_
    rintro k9429 x9426 w9430 ⟨hS9431, hl9432⟩
    cases k9429 with
    | zero => rw [tile_joins.l0] at hl9432; cases hl9432
    | succ k9429 =>
      rw [tile_joins.l0] at hl9432
      refine WC.seq ?_
      refine WC.region ?_
      refine seg 1 [] [0, 2, 4, 12, 13, 14, 15] [(0, (.slice A_p0 p0.length c_p0)), (2, (.bool p2)), (4, (.pointer (some ⟨g9255, 0, none⟩))), (12, (.slice A_p1_Cells p1.Cells.length c_p1_Cells)), (13, (.int .i64 (p1.Cells.length : Int))), (14, (.int .i64 x9426)), (15, (.bool (decide (x9426 < (p1.Cells.length : Int)))))] [] (fun fb => by kernel_rfl) rfl trivial ?_
      refine WL.done rfl ?_
      refine WX.next ?_
      refine WC.seq ?_
      rcases br_some hl9432 with ⟨h9433, hl9432⟩ | ⟨h9433, hl9432⟩
      · refine WC.condT2 (fun fb => by kernel_rfl) h9433 ?_
        refine WC.skip ?_
        refine WX.next ?_
        refine WC.seq ?_
        refine WC.block ?_
        refine WC.seq ?_
        refine WC.region ?_
        refine seg 1 [] [0, 2, 4, 12, 13, 14, 16] [(0, (.slice A_p0 p0.length c_p0)), (2, (.bool p2)), (4, (.pointer (some ⟨g9255, 0, none⟩))), (12, (.slice A_p1_Cells p1.Cells.length c_p1_Cells)), (13, (.int .i64 (p1.Cells.length : Int))), (14, (.int .i64 x9426)), (16, (.int .i64 x9426))] [] (fun fb => by kernel_rfl) rfl trivial ?_
        obtain ⟨h9434, hl9432⟩ := as_some hl9432
        refine seg 5 [.v (.int .i64 (rdD p1.Cells x9426 0))] [0, 2, 4, 7, 8, 12, 13, 14] [(0, (.slice A_p0 p0.length c_p0)), (2, (.bool p2)), (4, (.pointer (some ⟨g9255, 0, none⟩))), (7, (.int .i64 x9426)), (8, (.int .i64 (rdD p1.Cells x9426 0))), (12, (.slice A_p1_Cells p1.Cells.length c_p1_Cells)), (13, (.int .i64 (p1.Cells.length : Int))), (14, (.int .i64 x9426))] [.idx A_p1_Cells x9426 p1.Cells.length, .cell ((adr A_p1_Cells).add ((x9426).toNat * 1)) (.int .i64 (rdD p1.Cells x9426 0))] (fun fb => by kernel_rfl) rfl ⟨rowR.adr (hS9431.rd 1).1 h9434.1 h9434.2, rowR.cell (hS9431.rd 1).1 0 h9434.1 h9434.2 0 rfl, trivial⟩ ?_
        refine WL.done rfl ?_
        refine WX.next ?_
        refine WC.seq ?_
        obtain ⟨h9439, hl9432⟩ := as_some hl9432
        refine WC.regionD ([(2, ⟨g9255, 0, none⟩, (.int .i64 p1.Width)), (6, ⟨g9255, 0, none⟩, (.int .i64 p1.Width))], [0, 1, 2, 3, 4, 5, 6, 7, 8, 9], [[], [], [1], [0, 1, 2], [], [], [5], [4, 5, 6], [0, 1, 2, 3], [0, 1, 2, 3, 4, 5, 6, 7, 8]]) [[0, 1, 2, 3, 4, 5, 6, 7, 8, 9]] (by kernel_rfl) (by kernel_rfl) (NoPanic.seq (NoPanic.block (NoPanic.seq (NoPanic.seq (NoPanic.block (NoPanic.seq (NoPanic.body))))))) ?_
        have hS9437 := hS9431.drew
        revert hS9437
        generalize World.drew w9430 = w9436
        intro hS9437
        refine ⟨⟨hS9437.cell 0 rfl 0 rfl, hS9437.cell 0 rfl 0 rfl, trivial⟩, forallC ?_ (forallN)⟩
        refine segF 10 [.v (.int .i64 p1.Width), .v (.int .i64 p1.Width)] [0, 2, 4, 8, 9, 10, 12, 13, 14] [(0, (.slice A_p0 p0.length c_p0)), (2, (.bool p2)), (4, (.pointer (some ⟨g9255, 0, none⟩))), (8, (.int .i64 (rdD p1.Cells x9426 0))), (9, (.int .i64 (Int.tmod x9426 p1.Width))), (10, (.int .i64 (w64 (Int.tdiv x9426 p1.Width)))), (12, (.slice A_p1_Cells p1.Cells.length c_p1_Cells)), (13, (.int .i64 (p1.Cells.length : Int))), (14, (.int .i64 x9426))] [.ne p1.Width, .ne p1.Width] [0, 1] [(2, ⟨g9255, 0, none⟩, (.int .i64 p1.Width)), (6, ⟨g9255, 0, none⟩, (.int .i64 p1.Width))] (fun fb => by kernel_rfl) rfl ⟨h9439, h9439, trivial⟩ rfl ?_
        refine WL.done rfl ?_
        refine WX.next ?_
        refine WC.seq ?_
        refine WC.seq ?_
        refine WC.region ?_
        refine seg 6 [.v (.int .i64 p1.Width)] [0, 2, 4, 8, 9, 10, 12, 13, 14, 32] [(0, (.slice A_p0 p0.length c_p0)), (2, (.bool p2)), (4, (.pointer (some ⟨g9255, 0, none⟩))), (8, (.int .i64 (rdD p1.Cells x9426 0))), (9, (.int .i64 (Int.tmod x9426 p1.Width))), (10, (.int .i64 (w64 (Int.tdiv x9426 p1.Width)))), (12, (.slice A_p1_Cells p1.Cells.length c_p1_Cells)), (13, (.int .i64 (p1.Cells.length : Int))), (14, (.int .i64 x9426)), (32, (.bool (decide (w64 ((Int.tmod x9426 p1.Width) + 1) < p1.Width))))] [.cell ⟨g9255, 0, none⟩ (.int .i64 p1.Width)] (fun fb => by kernel_rfl) rfl ⟨hS9437.cell 0 rfl 0 rfl, trivial⟩ ?_
        refine WL.cutV (T := Bool) 8 (fun t => [(34, (.bool t)), (0, (.slice A_p0 p0.length c_p0)), (2, (.bool p2)), (4, (.pointer (some ⟨g9255, 0, none⟩))), (8, (.int .i64 (rdD p1.Cells x9426 0))), (9, (.int .i64 (Int.tmod x9426 p1.Width))), (10, (.int .i64 (w64 (Int.tdiv x9426 p1.Width)))), (12, (.slice A_p1_Cells p1.Cells.length c_p1_Cells)), (13, (.int .i64 (p1.Cells.length : Int))), (14, (.int .i64 x9426))]) (fun t => ((decide (w64 ((Int.tmod x9426 p1.Width) + 1) < p1.Width)) || p2) = t) (fun K => ?_) ?_
        ·
          rcases Bool.eq_false_or_eq_true (decide (w64 ((Int.tmod x9426 p1.Width) + 1) < p1.Width)) with h9440 | h9440
          ·
            refine WL.setB 32 h9440 rfl ?_
            refine seg 8 [] [0, 2, 4, 8, 9, 10, 12, 13, 14, 34] [(0, (.slice A_p0 p0.length c_p0)), (2, (.bool p2)), (4, (.pointer (some ⟨g9255, 0, none⟩))), (8, (.int .i64 (rdD p1.Cells x9426 0))), (9, (.int .i64 (Int.tmod x9426 p1.Width))), (10, (.int .i64 (w64 (Int.tdiv x9426 p1.Width)))), (12, (.slice A_p1_Cells p1.Cells.length c_p1_Cells)), (13, (.int .i64 (p1.Cells.length : Int))), (14, (.int .i64 x9426)), (34, (.bool true))] [] (fun fb => by kernel_rfl) rfl trivial ?_
            exact WL.toV K true [34, 0, 2, 4, 8, 9, 10, 12, 13, 14] rfl (by first | (rw [h9440]; done) | (rw [h9440]; rfl))
          refine WL.setB 32 h9440 rfl ?_
          refine seg 8 [] [0, 2, 4, 8, 9, 10, 12, 13, 14, 34] [(0, (.slice A_p0 p0.length c_p0)), (2, (.bool p2)), (4, (.pointer (some ⟨g9255, 0, none⟩))), (8, (.int .i64 (rdD p1.Cells x9426 0))), (9, (.int .i64 (Int.tmod x9426 p1.Width))), (10, (.int .i64 (w64 (Int.tdiv x9426 p1.Width)))), (12, (.slice A_p1_Cells p1.Cells.length c_p1_Cells)), (13, (.int .i64 (p1.Cells.length : Int))), (14, (.int .i64 x9426)), (34, (.bool p2))] [] (fun fb => by kernel_rfl) rfl trivial ?_
          exact WL.toV K p2 [34, 0, 2, 4, 8, 9, 10, 12, 13, 14] rfl (by first | (rw [h9440]; done) | (rw [h9440]; rfl))
        rintro b9441 rfl
        refine WL.done rfl ?_
        refine WX.next ?_
        obtain ⟨x9455, hx9456, hl9432⟩ := bind_some hl9432
        refine WC.cutN (T := Unit) (fun t => [(0, (.slice A_p0 p0.length c_p0)), (2, (.bool p2)), (4, (.pointer (some ⟨g9255, 0, none⟩))), (8, (.int .i64 (rdD p1.Cells x9426 0))), (9, (.int .i64 (Int.tmod x9426 p1.Width))), (10, (.int .i64 (w64 (Int.tdiv x9426 p1.Width)))), (12, (.slice A_p1_Cells p1.Cells.length c_p1_Cells)), (13, (.int .i64 (p1.Cells.length : Int))), (14, (.int .i64 x9426))]) (fun t w1 => St NoS w w1 [rowR enc_Tile A_p0 c_p0 p0, rowR encInt A_p1_Cells c_p1_Cells p1.Cells] [blk g9255 (.cells #[(.int .i64 p1.Width), (.int .i64 p1.Height), (.slice A_p1_Cells p1.Cells.length c_p1_Cells)] 38 (0, 0))] ∧ x9455 = .inr t) (fun Kx9455 => ?_) ?_
        ·
          rcases br_some hx9456 with ⟨h9457, hx9456⟩ | ⟨h9457, hx9456⟩
          · refine WC.condT2 (fun fb => by kernel_rfl) h9457 ?_
            refine WC.seq ?_
            obtain ⟨h9466, hx9456⟩ := as_some hx9456
            obtain ⟨h9467, hx9456⟩ := as_some hx9456
            obtain ⟨h9468, hx9456⟩ := as_some hx9456
            refine WC.regionD ([(4, (((adr A_p0).add (((rdD p1.Cells x9426 0)).toNat * 4)).add 1), (.int .i64 ((rdD p0 (rdD p1.Cells x9426 0) z_Tile).E))), (7, ⟨g9255, 2, none⟩, (.slice A_p1_Cells p1.Cells.length c_p1_Cells)), (10, ⟨g9255, 0, none⟩, (.int .i64 p1.Width)), (15, ⟨g9255, 0, none⟩, (.int .i64 p1.Width)), (19, ((adr A_p1_Cells).add ((w64 ((w64 ((w64 (Int.tdiv x9426 p1.Width)) * p1.Width)) + (Int.tmod (w64 ((Int.tmod x9426 p1.Width) + 1)) p1.Width))).toNat * 1)), (.int .i64 (rdD p1.Cells (w64 ((w64 ((w64 (Int.tdiv x9426 p1.Width)) * p1.Width)) + (Int.tmod (w64 ((Int.tmod x9426 p1.Width) + 1)) p1.Width))) 0))), (22, (((adr A_p0).add (((rdD p1.Cells (w64 ((w64 ((w64 (Int.tdiv x9426 p1.Width)) * p1.Width)) + (Int.tmod (w64 ((Int.tmod x9426 p1.Width) + 1)) p1.Width))) 0)).toNat * 4)).add 3), (.int .i64 ((rdD p0 (rdD p1.Cells (w64 ((w64 ((w64 (Int.tdiv x9426 p1.Width)) * p1.Width)) + (Int.tmod (w64 ((Int.tmod x9426 p1.Width) + 1)) p1.Width))) 0) z_Tile).W)))], [0, 1, 2, 3, 4, 5, 6, 7, 8, 9, 10, 11, 12, 13, 14, 15, 16, 17, 18, 19, 20, 21, 22, 23], [[], [], [0, 1], [0, 1, 2], [0, 1, 2, 3], [], [], [6], [], [], [9], [8, 9, 10], [], [12], [], [14], [12, 13, 14, 15], [8, 9, 10, 11, 12, 13, 14, 15, 16], [6, 7, 8, 9, 10, 11, 12, 13, 14, 15, 16, 17], [6, 7, 8, 9, 10, 11, 12, 13, 14, 15, 16, 17, 18], [5, 6, 7, 8, 9, 10, 11, 12, 13, 14, 15, 16, 17, 18, 19], [5, 6, 7, 8, 9, 10, 11, 12, 13, 14, 15, 16, 17, 18, 19, 20], [5, 6, 7, 8, 9, 10, 11, 12, 13, 14, 15, 16, 17, 18, 19, 20, 21], [0, 1, 2, 3, 4, 5, 6, 7, 8, 9, 10, 11, 12, 13, 14, 15, 16, 17, 18, 19, 20, 21, 22]]) [[0, 1, 2, 3, 4, 5, 6, 7, 8, 9, 10, 11, 12, 13, 14, 15, 16, 17, 18, 19, 20, 21, 22, 23]] (by kernel_rfl) (by kernel_rfl) (NoPanic.seq (NoPanic.seq (NoPanic.block (NoPanic.seq (NoPanic.seq (NoPanic.block (NoPanic.seq (NoPanic.body)))))))) ?_
            have hS9462 := hS9437.drew
            revert hS9462
            generalize World.drew w9436 = w9461
            intro hS9462
            refine ⟨⟨rowR.cell (hS9462.rd 0).1 z_Tile h9466.1 h9466.2 1 rfl, hS9462.cell 0 rfl 2 rfl, hS9462.cell 0 rfl 0 rfl, hS9462.cell 0 rfl 0 rfl, rowR.cell (hS9462.rd 1).1 0 h9467.1 h9467.2 0 rfl, rowR.cell (hS9462.rd 0).1 z_Tile h9468.1 h9468.2 3 rfl, trivial⟩, forallC ?_ (forallN)⟩
            refine segF 24 [.v (.int .i64 ((rdD p0 (rdD p1.Cells x9426 0) z_Tile).E)), .v (.slice A_p1_Cells p1.Cells.length c_p1_Cells), .v (.int .i64 p1.Width), .v (.int .i64 p1.Width), .v (.int .i64 (rdD p1.Cells (w64 ((w64 ((w64 (Int.tdiv x9426 p1.Width)) * p1.Width)) + (Int.tmod (w64 ((Int.tmod x9426 p1.Width) + 1)) p1.Width))) 0)), .v (.int .i64 ((rdD p0 (rdD p1.Cells (w64 ((w64 ((w64 (Int.tdiv x9426 p1.Width)) * p1.Width)) + (Int.tmod (w64 ((Int.tmod x9426 p1.Width) + 1)) p1.Width))) 0) z_Tile).W))] [0, 2, 4, 8, 9, 10, 12, 13, 14, 58] [(0, (.slice A_p0 p0.length c_p0)), (2, (.bool p2)), (4, (.pointer (some ⟨g9255, 0, none⟩))), (8, (.int .i64 (rdD p1.Cells x9426 0))), (9, (.int .i64 (Int.tmod x9426 p1.Width))), (10, (.int .i64 (w64 (Int.tdiv x9426 p1.Width)))), (12, (.slice A_p1_Cells p1.Cells.length c_p1_Cells)), (13, (.int .i64 (p1.Cells.length : Int))), (14, (.int .i64 x9426)), (58, (.bool (((rdD p0 (rdD p1.Cells x9426 0) z_Tile).E) != ((rdD p0 (rdD p1.Cells (w64 ((w64 ((w64 (Int.tdiv x9426 p1.Width)) * p1.Width)) + (Int.tmod (w64 ((Int.tmod x9426 p1.Width) + 1)) p1.Width))) 0) z_Tile).W))))] [.idx A_p0 (rdD p1.Cells x9426 0) p0.length, .ne p1.Width, .idx A_p1_Cells (w64 ((w64 ((w64 (Int.tdiv x9426 p1.Width)) * p1.Width)) + (Int.tmod (w64 ((Int.tmod x9426 p1.Width) + 1)) p1.Width))) p1.Cells.length, .idx A_p0 (rdD p1.Cells (w64 ((w64 ((w64 (Int.tdiv x9426 p1.Width)) * p1.Width)) + (Int.tmod (w64 ((Int.tmod x9426 p1.Width) + 1)) p1.Width))) 0) p0.length] [0, 1, 2, 3, 4, 5] [(4, (((adr A_p0).add (((rdD p1.Cells x9426 0)).toNat * 4)).add 1), (.int .i64 ((rdD p0 (rdD p1.Cells x9426 0) z_Tile).E))), (7, ⟨g9255, 2, none⟩, (.slice A_p1_Cells p1.Cells.length c_p1_Cells)), (10, ⟨g9255, 0, none⟩, (.int .i64 p1.Width)), (15, ⟨g9255, 0, none⟩, (.int .i64 p1.Width)), (19, ((adr A_p1_Cells).add ((w64 ((w64 ((w64 (Int.tdiv x9426 p1.Width)) * p1.Width)) + (Int.tmod (w64 ((Int.tmod x9426 p1.Width) + 1)) p1.Width))).toNat * 1)), (.int .i64 (rdD p1.Cells (w64 ((w64 ((w64 (Int.tdiv x9426 p1.Width)) * p1.Width)) + (Int.tmod (w64 ((Int.tmod x9426 p1.Width) + 1)) p1.Width))) 0))), (22, (((adr A_p0).add (((rdD p1.Cells (w64 ((w64 ((w64 (Int.tdiv x9426 p1.Width)) * p1.Width)) + (Int.tmod (w64 ((Int.tmod x9426 p1.Width) + 1)) p1.Width))) 0)).toNat * 4)).add 3), (.int .i64 ((rdD p0 (rdD p1.Cells (w64 ((w64 ((w64 (Int.tdiv x9426 p1.Width)) * p1.Width)) + (Int.tmod (w64 ((Int.tmod x9426 p1.Width) + 1)) p1.Width))) 0) z_Tile).W)))] (fun fb => by kernel_rfl) rfl ⟨rowR.adr (hS9462.rd 0).1 h9466.1 h9466.2, h9439, rowR.adr (hS9462.rd 1).1 h9467.1 h9467.2, rowR.adr (hS9462.rd 0).1 h9468.1 h9468.2, trivial⟩ rfl ?_
            refine WL.done rfl ?_
            refine WX.next ?_
            rcases br_some hx9456 with ⟨h9469, hx9456⟩ | ⟨h9469, hx9456⟩
            · refine WC.condT2 (fun fb => by kernel_rfl) h9469 ?_
              refine WC.seq ?_
              refine WC.region ?_
              refine seg 1 [] [6] [(6, (.bool false))] [] (fun fb => by kernel_rfl) rfl trivial ?_
              refine WL.done rfl ?_
              refine WX.next ?_
              refine WC.ret ?_
              injection hx9456 with hx9456
              subst hx9456
              injection hl9432 with hl9432
              subst hl9432
              injection hf with hf
              subst hf
              exact WX.thenR (WX.blockR (WX.thenR (WX.thenR (WX.blockR (WX.thenR (WX.ret_ [] (.bool false) [] (fun fb => by kernel_rfl) trivial ⟨_, rfl, rfl, hS9462.keep⟩))))))
            refine WC.condF2 (fun fb => by kernel_rfl) h9469 ?_
            refine WC.skip ?_
            injection hx9456 with hx9456
            exact WX.to Kx9455 () [0, 2, 4, 8, 9, 10, 12, 13, 14] rfl ⟨(hS9462.subR [0, 1]).sub [0] (by decide), hx9456.symm⟩
          refine WC.condF2 (fun fb => by kernel_rfl) h9457 ?_
          refine WC.skip ?_
          injection hx9456 with hx9456
          exact WX.to Kx9455 () [0, 2, 4, 8, 9, 10, 12, 13, 14] rfl ⟨(hS9437.subR [0, 1]).sub [0] (by decide), hx9456.symm⟩
        rintro y9473 w9470 ⟨hS9471, hq9472⟩
        subst hq9472
        have hl9432 := sum_inr hl9432
        refine WX.next ?_
        refine WC.seq ?_
        refine WC.region ?_
        refine seg 6 [.v (.int .i64 p1.Height)] [0, 2, 4, 8, 9, 10, 12, 13, 14, 64] [(0, (.slice A_p0 p0.length c_p0)), (2, (.bool p2)), (4, (.pointer (some ⟨g9255, 0, none⟩))), (8, (.int .i64 (rdD p1.Cells x9426 0))), (9, (.int .i64 (Int.tmod x9426 p1.Width))), (10, (.int .i64 (w64 (Int.tdiv x9426 p1.Width)))), (12, (.slice A_p1_Cells p1.Cells.length c_p1_Cells)), (13, (.int .i64 (p1.Cells.length : Int))), (14, (.int .i64 x9426)), (64, (.bool (decide (w64 ((w64 (Int.tdiv x9426 p1.Width)) + 1) < p1.Height))))] [.cell ⟨g9255, 1, none⟩ (.int .i64 p1.Height)] (fun fb => by kernel_rfl) rfl ⟨hS9471.cell 0 rfl 1 rfl, trivial⟩ ?_
        refine WL.cutV (T := Bool) 8 (fun t => [(66, (.bool t)), (0, (.slice A_p0 p0.length c_p0)), (2, (.bool p2)), (4, (.pointer (some ⟨g9255, 0, none⟩))), (8, (.int .i64 (rdD p1.Cells x9426 0))), (9, (.int .i64 (Int.tmod x9426 p1.Width))), (10, (.int .i64 (w64 (Int.tdiv x9426 p1.Width)))), (12, (.slice A_p1_Cells p1.Cells.length c_p1_Cells)), (13, (.int .i64 (p1.Cells.length : Int))), (14, (.int .i64 x9426))]) (fun t => ((decide (w64 ((w64 (Int.tdiv x9426 p1.Width)) + 1) < p1.Height)) || p2) = t) (fun K => ?_) ?_
        ·
          rcases Bool.eq_false_or_eq_true (decide (w64 ((w64 (Int.tdiv x9426 p1.Width)) + 1) < p1.Height)) with h9475 | h9475
          ·
            refine WL.setB 64 h9475 rfl ?_
            refine seg 8 [] [0, 2, 4, 8, 9, 10, 12, 13, 14, 66] [(0, (.slice A_p0 p0.length c_p0)), (2, (.bool p2)), (4, (.pointer (some ⟨g9255, 0, none⟩))), (8, (.int .i64 (rdD p1.Cells x9426 0))), (9, (.int .i64 (Int.tmod x9426 p1.Width))), (10, (.int .i64 (w64 (Int.tdiv x9426 p1.Width)))), (12, (.slice A_p1_Cells p1.Cells.length c_p1_Cells)), (13, (.int .i64 (p1.Cells.length : Int))), (14, (.int .i64 x9426)), (66, (.bool true))] [] (fun fb => by kernel_rfl) rfl trivial ?_
            exact WL.toV K true [66, 0, 2, 4, 8, 9, 10, 12, 13, 14] rfl (by first | (rw [h9475]; done) | (rw [h9475]; rfl))
          refine WL.setB 64 h9475 rfl ?_
          refine seg 8 [] [0, 2, 4, 8, 9, 10, 12, 13, 14, 66] [(0, (.slice A_p0 p0.length c_p0)), (2, (.bool p2)), (4, (.pointer (some ⟨g9255, 0, none⟩))), (8, (.int .i64 (rdD p1.Cells x9426 0))), (9, (.int .i64 (Int.tmod x9426 p1.Width))), (10, (.int .i64 (w64 (Int.tdiv x9426 p1.Width)))), (12, (.slice A_p1_Cells p1.Cells.length c_p1_Cells)), (13, (.int .i64 (p1.Cells.length : Int))), (14, (.int .i64 x9426)), (66, (.bool p2))] [] (fun fb => by kernel_rfl) rfl trivial ?_
          exact WL.toV K p2 [66, 0, 2, 4, 8, 9, 10, 12, 13, 14] rfl (by first | (rw [h9475]; done) | (rw [h9475]; rfl))
        rintro b9476 rfl
        refine WL.done rfl ?_
        refine WX.next ?_
        obtain ⟨x9493, hx9494, hl9432⟩ := bind_some hl9432
        refine WC.cutN (T := Unit) (fun t => [(0, (.slice A_p0 p0.length c_p0)), (2, (.bool p2)), (4, (.pointer (some ⟨g9255, 0, none⟩))), (12, (.slice A_p1_Cells p1.Cells.length c_p1_Cells)), (13, (.int .i64 (p1.Cells.length : Int))), (14, (.int .i64 x9426))]) (fun t w1 => St NoS w w1 [rowR enc_Tile A_p0 c_p0 p0, rowR encInt A_p1_Cells c_p1_Cells p1.Cells] [blk g9255 (.cells #[(.int .i64 p1.Width), (.int .i64 p1.Height), (.slice A_p1_Cells p1.Cells.length c_p1_Cells)] 38 (0, 0))] ∧ x9493 = .inr t) (fun Kx9493 => ?_) ?_
        ·
          rcases br_some hx9494 with ⟨h9495, hx9494⟩ | ⟨h9495, hx9494⟩
          · refine WC.condT2 (fun fb => by kernel_rfl) h9495 ?_
            refine WC.seq ?_
            obtain ⟨h9506, hx9494⟩ := as_some hx9494
            obtain ⟨h9507, hx9494⟩ := as_some hx9494
            obtain ⟨h9508, hx9494⟩ := as_some hx9494
            obtain ⟨h9509, hx9494⟩ := as_some hx9494
            refine WC.regionD ([(4, ((adr A_p0).add (((rdD p1.Cells x9426 0)).toNat * 4)), (.int .i64 ((rdD p0 (rdD p1.Cells x9426 0) z_Tile).N))), (7, ⟨g9255, 2, none⟩, (.slice A_p1_Cells p1.Cells.length c_p1_Cells)), (11, ⟨g9255, 1, none⟩, (.int .i64 p1.Height)), (14, ⟨g9255, 0, none⟩, (.int .i64 p1.Width)), (19, ((adr A_p1_Cells).add ((w64 ((w64 ((Int.tmod (w64 ((w64 (Int.tdiv x9426 p1.Width)) + 1)) p1.Height) * p1.Width)) + (Int.tmod x9426 p1.Width))).toNat * 1)), (.int .i64 (rdD p1.Cells (w64 ((w64 ((Int.tmod (w64 ((w64 (Int.tdiv x9426 p1.Width)) + 1)) p1.Height) * p1.Width)) + (Int.tmod x9426 p1.Width))) 0))), (22, (((adr A_p0).add (((rdD p1.Cells (w64 ((w64 ((Int.tmod (w64 ((w64 (Int.tdiv x9426 p1.Width)) + 1)) p1.Height) * p1.Width)) + (Int.tmod x9426 p1.Width))) 0)).toNat * 4)).add 2), (.int .i64 ((rdD p0 (rdD p1.Cells (w64 ((w64 ((Int.tmod (w64 ((w64 (Int.tdiv x9426 p1.Width)) + 1)) p1.Height) * p1.Width)) + (Int.tmod x9426 p1.Width))) 0) z_Tile).S)))], [0, 1, 2, 3, 4, 5, 6, 7, 8, 9, 10, 11, 12, 13, 14, 15, 16, 17, 18, 19, 20, 21, 22, 23], [[], [], [0, 1], [0, 1, 2], [0, 1, 2, 3], [], [], [6], [], [8], [], [10], [8, 9, 10, 11], [], [13], [8, 9, 10, 11, 12, 13, 14], [], [8, 9, 10, 11, 12, 13, 14, 15, 16], [6, 7, 8, 9, 10, 11, 12, 13, 14, 15, 16, 17], [6, 7, 8, 9, 10, 11, 12, 13, 14, 15, 16, 17, 18], [5, 6, 7, 8, 9, 10, 11, 12, 13, 14, 15, 16, 17, 18, 19], [5, 6, 7, 8, 9, 10, 11, 12, 13, 14, 15, 16, 17, 18, 19, 20], [5, 6, 7, 8, 9, 10, 11, 12, 13, 14, 15, 16, 17, 18, 19, 20, 21], [0, 1, 2, 3, 4, 5, 6, 7, 8, 9, 10, 11, 12, 13, 14, 15, 16, 17, 18, 19, 20, 21, 22]]) [[0, 1, 2, 3, 4, 5, 6, 7, 8, 9, 10, 11, 12, 13, 14, 15, 16, 17, 18, 19, 20, 21, 22, 23]] (by kernel_rfl) (by kernel_rfl) (NoPanic.seq (NoPanic.block (NoPanic.seq (NoPanic.seq (NoPanic.block (NoPanic.seq (NoPanic.body))))))) ?_
            have hS9501 := hS9471.drew
            revert hS9501
            generalize World.drew w9470 = w9500
            intro hS9501
            refine ⟨⟨rowR.cell (hS9501.rd 0).1 z_Tile h9506.1 h9506.2 0 rfl, hS9501.cell 0 rfl 2 rfl, hS9501.cell 0 rfl 1 rfl, hS9501.cell 0 rfl 0 rfl, rowR.cell (hS9501.rd 1).1 0 h9508.1 h9508.2 0 rfl, rowR.cell (hS9501.rd 0).1 z_Tile h9509.1 h9509.2 2 rfl, trivial⟩, forallC ?_ (forallN)⟩
            refine segF 24 [.v (.int .i64 ((rdD p0 (rdD p1.Cells x9426 0) z_Tile).N)), .v (.slice A_p1_Cells p1.Cells.length c_p1_Cells), .v (.int .i64 p1.Height), .v (.int .i64 p1.Width), .v (.int .i64 (rdD p1.Cells (w64 ((w64 ((Int.tmod (w64 ((w64 (Int.tdiv x9426 p1.Width)) + 1)) p1.Height) * p1.Width)) + (Int.tmod x9426 p1.Width))) 0)), .v (.int .i64 ((rdD p0 (rdD p1.Cells (w64 ((w64 ((Int.tmod (w64 ((w64 (Int.tdiv x9426 p1.Width)) + 1)) p1.Height) * p1.Width)) + (Int.tmod x9426 p1.Width))) 0) z_Tile).S))] [0, 2, 4, 12, 13, 14, 90] [(0, (.slice A_p0 p0.length c_p0)), (2, (.bool p2)), (4, (.pointer (some ⟨g9255, 0, none⟩))), (12, (.slice A_p1_Cells p1.Cells.length c_p1_Cells)), (13, (.int .i64 (p1.Cells.length : Int))), (14, (.int .i64 x9426)), (90, (.bool (((rdD p0 (rdD p1.Cells x9426 0) z_Tile).N) != ((rdD p0 (rdD p1.Cells (w64 ((w64 ((Int.tmod (w64 ((w64 (Int.tdiv x9426 p1.Width)) + 1)) p1.Height) * p1.Width)) + (Int.tmod x9426 p1.Width))) 0) z_Tile).S))))] [.idx A_p0 (rdD p1.Cells x9426 0) p0.length, .ne p1.Height, .idx A_p1_Cells (w64 ((w64 ((Int.tmod (w64 ((w64 (Int.tdiv x9426 p1.Width)) + 1)) p1.Height) * p1.Width)) + (Int.tmod x9426 p1.Width))) p1.Cells.length, .idx A_p0 (rdD p1.Cells (w64 ((w64 ((Int.tmod (w64 ((w64 (Int.tdiv x9426 p1.Width)) + 1)) p1.Height) * p1.Width)) + (Int.tmod x9426 p1.Width))) 0) p0.length] [0, 1, 2, 3, 4, 5] [(4, ((adr A_p0).add (((rdD p1.Cells x9426 0)).toNat * 4)), (.int .i64 ((rdD p0 (rdD p1.Cells x9426 0) z_Tile).N))), (7, ⟨g9255, 2, none⟩, (.slice A_p1_Cells p1.Cells.length c_p1_Cells)), (11, ⟨g9255, 1, none⟩, (.int .i64 p1.Height)), (14, ⟨g9255, 0, none⟩, (.int .i64 p1.Width)), (19, ((adr A_p1_Cells).add ((w64 ((w64 ((Int.tmod (w64 ((w64 (Int.tdiv x9426 p1.Width)) + 1)) p1.Height) * p1.Width)) + (Int.tmod x9426 p1.Width))).toNat * 1)), (.int .i64 (rdD p1.Cells (w64 ((w64 ((Int.tmod (w64 ((w64 (Int.tdiv x9426 p1.Width)) + 1)) p1.Height) * p1.Width)) + (Int.tmod x9426 p1.Width))) 0))), (22, (((adr A_p0).add (((rdD p1.Cells (w64 ((w64 ((Int.tmod (w64 ((w64 (Int.tdiv x9426 p1.Width)) + 1)) p1.Height) * p1.Width)) + (Int.tmod x9426 p1.Width))) 0)).toNat * 4)).add 2), (.int .i64 ((rdD p0 (rdD p1.Cells (w64 ((w64 ((Int.tmod (w64 ((w64 (Int.tdiv x9426 p1.Width)) + 1)) p1.Height) * p1.Width)) + (Int.tmod x9426 p1.Width))) 0) z_Tile).S)))] (fun fb => by kernel_rfl) rfl ⟨rowR.adr (hS9501.rd 0).1 h9506.1 h9506.2, h9507, rowR.adr (hS9501.rd 1).1 h9508.1 h9508.2, rowR.adr (hS9501.rd 0).1 h9509.1 h9509.2, trivial⟩ rfl ?_
            refine WL.done rfl ?_
            refine WX.next ?_
            rcases br_some hx9494 with ⟨h9510, hx9494⟩ | ⟨h9510, hx9494⟩
            · refine WC.condT2 (fun fb => by kernel_rfl) h9510 ?_
              refine WC.seq ?_
              refine WC.region ?_
              refine seg 1 [] [6] [(6, (.bool false))] [] (fun fb => by kernel_rfl) rfl trivial ?_
              refine WL.done rfl ?_
              refine WX.next ?_
              refine WC.ret ?_
              injection hx9494 with hx9494
              subst hx9494
              injection hl9432 with hl9432
              subst hl9432
              injection hf with hf
              subst hf
              exact WX.blockR (WX.thenR (WX.thenR (WX.blockR (WX.thenR (WX.ret_ [] (.bool false) [] (fun fb => by kernel_rfl) trivial ⟨_, rfl, rfl, hS9501.keep⟩)))))
            refine WC.condF2 (fun fb => by kernel_rfl) h9510 ?_
            refine WC.skip ?_
            injection hx9494 with hx9494
            exact WX.to Kx9493 () [0, 2, 4, 12, 13, 14] rfl ⟨(hS9501.subR [0, 1]).sub [0] (by decide), hx9494.symm⟩
          refine WC.condF2 (fun fb => by kernel_rfl) h9495 ?_
          refine WC.skip ?_
          injection hx9494 with hx9494
          exact WX.to Kx9493 () [0, 2, 4, 12, 13, 14] rfl ⟨(hS9471.subR [0, 1]).sub [0] (by decide), hx9494.symm⟩
        rintro y9514 w9511 ⟨hS9512, hq9513⟩
        subst hq9513
        have hl9432 := sum_inr hl9432
        refine WX.blockN (WX.next ?_)
        refine WC.region ?_
        refine seg 2 [] [0, 2, 4, 12, 13, 14] [(0, (.slice A_p0 p0.length c_p0)), (2, (.bool p2)), (4, (.pointer (some ⟨g9255, 0, none⟩))), (12, (.slice A_p1_Cells p1.Cells.length c_p1_Cells)), (13, (.int .i64 (p1.Cells.length : Int))), (14, (.int .i64 (w64 (x9426 + 1))))] [] (fun fb => by kernel_rfl) rfl trivial ?_
        refine WL.done rfl ?_
        exact WX.again k9429 (Nat.lt_succ_self _) (w64 (x9426 + 1)) [0, 2, 4, 12, 13, 14] rfl ⟨(hS9512.subR [0, 1]).sub [0] (by decide), hl9432⟩
      refine WC.condF2 (fun fb => by kernel_rfl) h9433 ?_
      refine WC.exit ?_
      injection hl9432 with hl9432
      exact WX.thenX (WX.thenX (WX.blockHere (WX.to Kx9427 () [] rfl ⟨(hS9431.subR [0, 1]).sub [] (by decide), hl9432.symm⟩)))
  rintro y9519 w9516 ⟨hS9517, hq9518⟩
  subst hq9518
  have hf := sum_inr hf
  refine WX.next ?_
  refine WC.seq ?_
  refine WC.region ?_
  refine seg 1 [] [6] [(6, (.bool true))] [] (fun fb => by kernel_rfl) rfl trivial ?_
  refine WL.done rfl ?_
  refine WX.next ?_
  refine WC.ret ?_
  injection hf with hf
  subst hf
  exact WX.ret_ [] (.bool true) [] (fun fb => by kernel_rfl) trivial ⟨_, rfl, rfl, hS9517.keep⟩
theorem tile_Repeats_calls (k : Nat) (p0 : List Tile) (p1 : Pattern) (A_p0 : Option Addr) (c_p0 : Nat) (A_p1_Cells : Option Addr) (c_p1_Cells : Nat) (r : Bool) (w : World) (hR0 : RO NoS w (rowR enc_Tile A_p0 c_p0 p0)) (hR1 : RO NoS w (rowR encInt A_p1_Cells c_p1_Cells p1.Cells)) (hf : tile_Repeats k p0 p1 = some r) :
    CallsR Try.prog 27 #[(.slice A_p0 p0.length c_p0), (.agg #[(.int .i64 p1.Width), (.int .i64 p1.Height), (.slice A_p1_Cells p1.Cells.length c_p1_Cells)])] w (fun v w' => v = (.bool r) ∧ Keeps NoS w w') := by
  have hS : St NoS w w [rowR enc_Tile A_p0 c_p0 p0, rowR encInt A_p1_Cells c_p1_Cells p1.Cells] [] := St.init (ro_cons hR0 (ro_cons hR1 (ro_nil _ _)))
  refine enter 13 Try.func27 rfl Try.ntmps27 rfl ?_
  unfold tile_Repeats at hf
  refine WC.seq ?_
  refine WC.region ?_
  refine WL.new hS 3 [] (fun g => (.pointer (some ⟨g, 0, none⟩))) (.cells #[(.int .i64 p1.Width), (.int .i64 p1.Height), (.slice A_p1_Cells p1.Cells.length c_p1_Cells)] 38 (0, 0)) [] (fun fb g => by kernel_rfl) trivial (fun g9137 w9138 hS9139 => ?_)
  refine ⟨trivial, ?_⟩
  refine seg 2 [] [0, 3] [(0, (.slice A_p0 p0.length c_p0)), (3, (.pointer (some ⟨g9137, 0, none⟩)))] [] (fun fb => by kernel_rfl) rfl trivial ?_
  refine WL.done rfl ?_
  refine WX.next ?_
  refine WC.seq ?_
  refine WC.region ?_
  refine seg 2 [.v (.int .i64 p1.Width), .v (.int .i64 p1.Height), .v (.slice A_p1_Cells p1.Cells.length c_p1_Cells)] [0, 3, 5, 6] [(0, (.slice A_p0 p0.length c_p0)), (3, (.pointer (some ⟨g9137, 0, none⟩))), (5, (.slice A_p0 p0.length c_p0)), (6, (.agg #[(.int .i64 p1.Width), (.int .i64 p1.Height), (.slice A_p1_Cells p1.Cells.length c_p1_Cells)]))] [.cell ⟨g9137, 0, none⟩ (.int .i64 p1.Width), .cell ⟨g9137, 1, none⟩ (.int .i64 p1.Height), .cell ⟨g9137, 2, none⟩ (.slice A_p1_Cells p1.Cells.length c_p1_Cells)] (fun fb => by kernel_rfl) rfl ⟨hS9139.cell 0 rfl 0 rfl, hS9139.cell 0 rfl 1 rfl, hS9139.cell 0 rfl 2 rfl, trivial⟩ ?_
  obtain ⟨t9250, ht9251, hf⟩ := bind_some hf
  refine WL.call (some 7) 48 #[(.slice A_p0 p0.length c_p0), (.agg #[(.int .i64 p1.Width), (.int .i64 p1.Height), (.slice A_p1_Cells p1.Cells.length c_p1_Cells)])] (fun fb => by kernel_rfl) (tile_of_calls _ p0 p1 A_p0 c_p0 A_p1_Cells c_p1_Cells t9250 _ (hS9139.rd 0) (hS9139.rd 1) ht9251) (fun v w9252 hR9253 => ?_)
  obtain ⟨rfl, hk_⟩ := hR9253
  have hS9254 := hS9139.keepN hk_
  refine ⟨trivial, ?_⟩
  refine seg 4 [] [0, 3, 8] [(0, (.slice A_p0 p0.length c_p0)), (3, (.pointer (some ⟨g9137, 0, none⟩))), (8, (.bool t9250))] [] (fun fb => by kernel_rfl) rfl trivial ?_
  obtain ⟨x9527, hx9528, hf⟩ := bind_some hf
  refine WL.cutW (T := Bool) 8 (fun t => [(12, (.bool t))]) (fun t w1 => (St NoS w w1 [rowR enc_Tile A_p0 c_p0 p0, rowR encInt A_p1_Cells c_p1_Cells p1.Cells] [] ∧ x9527 = t) ∧ CellsOK [] w1) (fun K => ?_) ?_
  ·
    rcases br_some hx9528 with ⟨h9529, hx9528⟩ | ⟨h9529, hx9528⟩
    ·
      refine WL.setB 8 h9529 rfl ?_
      refine seg 6 [.v (.int .i64 p1.Width), .v (.int .i64 p1.Height), .v (.slice A_p1_Cells p1.Cells.length c_p1_Cells)] [8, 9, 10] [(8, (.bool true)), (9, (.slice A_p0 p0.length c_p0)), (10, (.agg #[(.int .i64 p1.Width), (.int .i64 p1.Height), (.slice A_p1_Cells p1.Cells.length c_p1_Cells)]))] [.cell ⟨g9137, 0, none⟩ (.int .i64 p1.Width), .cell ⟨g9137, 1, none⟩ (.int .i64 p1.Height), .cell ⟨g9137, 2, none⟩ (.slice A_p1_Cells p1.Cells.length c_p1_Cells)] (fun fb => by kernel_rfl) rfl ⟨hS9254.cell 0 rfl 0 rfl, hS9254.cell 0 rfl 1 rfl, hS9254.cell 0 rfl 2 rfl, trivial⟩ ?_
      obtain ⟨t9530, ht9531, hx9528⟩ := bind_some hx9528
      refine WL.call (some 11) 49 #[(.slice A_p0 p0.length c_p0), (.agg #[(.int .i64 p1.Width), (.int .i64 p1.Height), (.slice A_p1_Cells p1.Cells.length c_p1_Cells)]), (.bool true)] (fun fb => by kernel_rfl) (tile_joins_calls _ p0 p1 true A_p0 c_p0 A_p1_Cells c_p1_Cells t9530 _ (hS9254.rd 0) (hS9254.rd 1) ht9531) (fun v w9532 hR9533 => ?_)
      obtain ⟨rfl, hk_⟩ := hR9533
      have hS9534 := hS9254.keepN hk_
      refine ⟨trivial, ?_⟩
      refine seg 8 [] [12] [(12, (.bool t9530))] [] (fun fb => by kernel_rfl) rfl trivial ?_
      injection hx9528 with hx9528
      exact WL.to K t9530 [12] rfl ⟨⟨(hS9534.subR [0, 1]).sub [] (by decide), hx9528.symm⟩, trivial⟩
    refine WL.setB 8 h9529 rfl ?_
    refine seg 8 [] [12] [(12, (.bool false))] [] (fun fb => by kernel_rfl) rfl trivial ?_
    injection hx9528 with hx9528
    exact WL.to K false [12] rfl ⟨⟨(hS9254.subR [0, 1]).sub [] (by decide), hx9528.symm⟩, trivial⟩
  rintro y9535 w9537 ⟨⟨hS9538, hq9536⟩, hF9539⟩
  subst hq9536
  refine seg 9 [] [4] [(4, (.bool x9527))] [] (fun fb => by kernel_rfl) rfl trivial ?_
  refine WL.done rfl ?_
  refine WX.next ?_
  refine WC.ret ?_
  injection hf with hf
  subst hf
  exact WX.ret_ [] (.bool x9527) [] (fun fb => by kernel_rfl) trivial ⟨_, rfl, rfl, hS9538.keep⟩
theorem decide_Check_calls (k : Nat) (p0 : List Tile) (p1 : Verdict) (A_p0 : Option Addr) (c_p0 : Nat) (A_p1_Torus_Cells : Option Addr) (c_p1_Torus_Cells : Nat) (r : Bool × Int) (w : World) (hR0 : RO NoS w (rowR enc_Tile A_p0 c_p0 p0)) (hR1 : RO NoS w (rowR encInt A_p1_Torus_Cells c_p1_Torus_Cells p1.Torus.Cells)) (hf : decide_Check k p0 p1 = some r) :
    CallsR Try.prog 18 #[(.slice A_p0 p0.length c_p0), (.agg #[(.bool p1.Fills), (.int .i64 p1.Torus.Width), (.int .i64 p1.Torus.Height), (.slice A_p1_Torus_Cells p1.Torus.Cells.length c_p1_Torus_Cells), (.int .i64 p1.Side)])] w (fun v w' => v = (.tuple #[(.bool r.1), (.int .i64 r.2)]) ∧ Keeps NoS w w') := by
  have hS : St NoS w w [rowR enc_Tile A_p0 c_p0 p0, rowR encInt A_p1_Torus_Cells c_p1_Torus_Cells p1.Torus.Cells] [] := St.init (ro_cons hR0 (ro_cons hR1 (ro_nil _ _)))
  refine enter 52 Try.func18 rfl Try.ntmps18 rfl ?_
  unfold decide_Check at hf
  refine WC.seq ?_
  refine WC.region ?_
  refine WL.new hS 3 [] (fun g => (.pointer (some ⟨g, 0, none⟩))) (.cells #[(.bool p1.Fills), (.int .i64 p1.Torus.Width), (.int .i64 p1.Torus.Height), (.slice A_p1_Torus_Cells p1.Torus.Cells.length c_p1_Torus_Cells), (.int .i64 p1.Side)] 40 (0, 0)) [] (fun fb g => by kernel_rfl) trivial (fun g9126 w9127 hS9128 => ?_)
  refine ⟨trivial, ?_⟩
  refine seg 3 [] [0, 3] [(0, (.slice A_p0 p0.length c_p0)), (3, (.pointer (some ⟨g9126, 0, none⟩)))] [] (fun fb => by kernel_rfl) rfl trivial ?_
  refine WL.done rfl ?_
  refine WX.next ?_
  refine WC.seq ?_
  refine WC.seq ?_
  refine WC.region ?_
  refine seg 1 [] [0, 3, 8] [(0, (.slice A_p0 p0.length c_p0)), (3, (.pointer (some ⟨g9126, 0, none⟩))), (8, (.slice A_p0 p0.length c_p0))] [] (fun fb => by kernel_rfl) rfl trivial ?_
  obtain ⟨t9130, ht9131, hf⟩ := bind_some hf
  refine WL.call (some 9) 38 #[(.slice A_p0 p0.length c_p0)] (fun fb => by kernel_rfl) (tile_Valid_calls _ p0 A_p0 c_p0 t9130 _ (hS9128.rd 0) ht9131) (fun v w9132 hR9133 => ?_)
  obtain ⟨rfl, hk_⟩ := hR9133
  have hS9134 := hS9128.keepN hk_
  refine ⟨trivial, ?_⟩
  refine seg 3 [] [0, 3, 10] [(0, (.slice A_p0 p0.length c_p0)), (3, (.pointer (some ⟨g9126, 0, none⟩))), (10, (.bool (!t9130)))] [] (fun fb => by kernel_rfl) rfl trivial ?_
  refine WL.done rfl ?_
  refine WX.next ?_
  rcases br_some hf with ⟨h9135, hf⟩ | ⟨h9135, hf⟩
  · refine WC.condT2 (fun fb => by kernel_rfl) h9135 ?_
    refine WC.seq ?_
    refine WC.region ?_
    refine seg 2 [] [4, 5] [(4, (.bool false)), (5, (.int .i64 1))] [] (fun fb => by kernel_rfl) rfl trivial ?_
    refine WL.done rfl ?_
    refine WX.next ?_
    refine WC.ret ?_
    injection hf with hf
    subst hf
    exact WX.thenR (WX.ret_ [] (.tuple #[(.bool false), (.int .i64 1)]) [] (fun fb => by kernel_rfl) trivial ⟨_, rfl, rfl, hS9134.keep⟩)
  refine WC.condF2 (fun fb => by kernel_rfl) h9135 ?_
  refine WC.skip ?_
  refine WX.next ?_
  refine WC.seq ?_
  refine WC.seq ?_
  refine WC.region ?_
  refine seg 2 [.v (.bool p1.Fills)] [0, 3, 12] [(0, (.slice A_p0 p0.length c_p0)), (3, (.pointer (some ⟨g9126, 0, none⟩))), (12, (.bool p1.Fills))] [.cell ⟨g9126, 0, none⟩ (.bool p1.Fills)] (fun fb => by kernel_rfl) rfl ⟨hS9134.cell 0 rfl 0 rfl, trivial⟩ ?_
  refine WL.done rfl ?_
  refine WX.next ?_
  rcases br_some hf with ⟨h9136, hf⟩ | ⟨h9136, hf⟩
  · refine WC.condT2 (fun fb => by kernel_rfl) h9136 ?_
    refine WC.seq ?_
    refine WC.region ?_
    refine seg 4 [.v (.int .i64 p1.Side)] [0, 3, 16] [(0, (.slice A_p0 p0.length c_p0)), (3, (.pointer (some ⟨g9126, 0, none⟩))), (16, (.bool (p1.Side == 0)))] [.cell ⟨g9126, 4, none⟩ (.int .i64 p1.Side)] (fun fb => by kernel_rfl) rfl ⟨hS9134.cell 0 rfl 4 rfl, trivial⟩ ?_
    obtain ⟨x9546, hx9547, hf⟩ := bind_some hf
    refine WL.cutW (T := Bool) 9 (fun t => [(21, (.bool t))]) (fun t w1 => (St NoS w w1 [rowR enc_Tile A_p0 c_p0 p0, rowR encInt A_p1_Torus_Cells c_p1_Torus_Cells p1.Torus.Cells] [] ∧ x9546 = t) ∧ CellsOK [] w1) (fun K => ?_) ?_
    ·
      rcases br_some hx9547 with ⟨h9548, hx9547⟩ | ⟨h9548, hx9547⟩
      ·
        refine WL.setB 16 h9548 rfl ?_
        refine seg 7 [.v (.int .i64 p1.Torus.Width), .v (.int .i64 p1.Torus.Height), .v (.slice A_p1_Torus_Cells p1.Torus.Cells.length c_p1_Torus_Cells)] [16, 17, 19] [(16, (.bool true)), (17, (.slice A_p0 p0.length c_p0)), (19, (.agg #[(.int .i64 p1.Torus.Width), (.int .i64 p1.Torus.Height), (.slice A_p1_Torus_Cells p1.Torus.Cells.length c_p1_Torus_Cells)]))] [.cell ⟨g9126, 1, none⟩ (.int .i64 p1.Torus.Width), .cell ⟨g9126, 2, none⟩ (.int .i64 p1.Torus.Height), .cell ⟨g9126, 3, none⟩ (.slice A_p1_Torus_Cells p1.Torus.Cells.length c_p1_Torus_Cells)] (fun fb => by kernel_rfl) rfl ⟨hS9134.cell 0 rfl 1 rfl, hS9134.cell 0 rfl 2 rfl, hS9134.cell 0 rfl 3 rfl, trivial⟩ ?_
        obtain ⟨t9549, ht9550, hx9547⟩ := bind_some hx9547
        refine WL.call (some 20) 27 #[(.slice A_p0 p0.length c_p0), (.agg #[(.int .i64 p1.Torus.Width), (.int .i64 p1.Torus.Height), (.slice A_p1_Torus_Cells p1.Torus.Cells.length c_p1_Torus_Cells)])] (fun fb => by kernel_rfl) (tile_Repeats_calls _ p0 p1.Torus A_p0 c_p0 A_p1_Torus_Cells c_p1_Torus_Cells t9549 _ (hS9134.rd 0) (hS9134.rd 1) ht9550) (fun v w9551 hR9552 => ?_)
        obtain ⟨rfl, hk_⟩ := hR9552
        have hS9553 := hS9134.keepN hk_
        refine ⟨trivial, ?_⟩
        refine seg 9 [] [21] [(21, (.bool t9549))] [] (fun fb => by kernel_rfl) rfl trivial ?_
        injection hx9547 with hx9547
        exact WL.to K t9549 [21] rfl ⟨⟨(hS9553.subR [0, 1]).sub [] (by decide), hx9547.symm⟩, trivial⟩
      refine WL.setB 16 h9548 rfl ?_
      refine seg 9 [] [21] [(21, (.bool false))] [] (fun fb => by kernel_rfl) rfl trivial ?_
      injection hx9547 with hx9547
      exact WL.to K false [21] rfl ⟨⟨(hS9134.subR [0, 1]).sub [] (by decide), hx9547.symm⟩, trivial⟩
    rintro y9554 w9556 ⟨⟨hS9557, hq9555⟩, hF9558⟩
    subst hq9555
    refine seg 11 [] [4, 5] [(4, (.bool x9546)), (5, (.int .i64 0))] [] (fun fb => by kernel_rfl) rfl trivial ?_
    refine WL.done rfl ?_
    refine WX.next ?_
    refine WC.ret ?_
    injection hf with hf
    subst hf
    exact WX.thenR (WX.ret_ [] (.tuple #[(.bool x9546), (.int .i64 0)]) [] (fun fb => by kernel_rfl) trivial ⟨_, rfl, rfl, hS9557.keep⟩)
  refine WC.condF2 (fun fb => by kernel_rfl) h9136 ?_
  refine WC.skip ?_
  refine WX.next ?_
  refine WC.seq ?_
  refine WC.seq ?_
  refine WC.region ?_
  refine seg 5 [.v (.int .i64 p1.Torus.Width)] [0, 3, 26] [(0, (.slice A_p0 p0.length c_p0)), (3, (.pointer (some ⟨g9126, 0, none⟩))), (26, (.bool (p1.Torus.Width != 0)))] [.cell ⟨g9126, 1, none⟩ (.int .i64 p1.Torus.Width)] (fun fb => by kernel_rfl) rfl ⟨hS9134.cell 0 rfl 1 rfl, trivial⟩ ?_
  refine WL.cutV (T := Bool) 10 (fun t => [(31, (.bool t)), (0, (.slice A_p0 p0.length c_p0)), (3, (.pointer (some ⟨g9126, 0, none⟩)))]) (fun t => ((p1.Torus.Width != 0) || (p1.Torus.Height != 0)) = t) (fun K => ?_) ?_
  ·
    rcases Bool.eq_false_or_eq_true (p1.Torus.Width != 0) with h9559 | h9559
    ·
      refine WL.setB 26 h9559 rfl ?_
      refine seg 10 [] [0, 3, 31] [(0, (.slice A_p0 p0.length c_p0)), (3, (.pointer (some ⟨g9126, 0, none⟩))), (31, (.bool true))] [] (fun fb => by kernel_rfl) rfl trivial ?_
      exact WL.toV K true [31, 0, 3] rfl (by first | (rw [h9559]; done) | (rw [h9559]; rfl))
    refine WL.setB 26 h9559 rfl ?_
    refine seg 10 [.v (.int .i64 p1.Torus.Height)] [0, 3, 31] [(0, (.slice A_p0 p0.length c_p0)), (3, (.pointer (some ⟨g9126, 0, none⟩))), (31, (.bool (p1.Torus.Height != 0)))] [.cell ⟨g9126, 2, none⟩ (.int .i64 p1.Torus.Height)] (fun fb => by kernel_rfl) rfl ⟨hS9134.cell 0 rfl 2 rfl, trivial⟩ ?_
    exact WL.toV K (p1.Torus.Height != 0) [31, 0, 3] rfl (by first | (rw [h9559]; done) | (rw [h9559]; rfl))
  rintro b9560 rfl
  refine seg 11 [] [0, 3, 32] [(0, (.slice A_p0 p0.length c_p0)), (3, (.pointer (some ⟨g9126, 0, none⟩))), (32, (.bool ((p1.Torus.Width != 0) || (p1.Torus.Height != 0))))] [] (fun fb => by kernel_rfl) rfl trivial ?_
  refine WL.cutV (T := Bool) 17 (fun t => [(38, (.bool t)), (0, (.slice A_p0 p0.length c_p0)), (3, (.pointer (some ⟨g9126, 0, none⟩)))]) (fun t => (((p1.Torus.Width != 0) || (p1.Torus.Height != 0)) || (decide ((p1.Torus.Cells.length : Int) > 0))) = t) (fun K => ?_) ?_
  ·
    rcases Bool.eq_false_or_eq_true ((p1.Torus.Width != 0) || (p1.Torus.Height != 0)) with h9561 | h9561
    ·
      refine WL.setB 32 h9561 rfl ?_
      refine seg 17 [] [0, 3, 38] [(0, (.slice A_p0 p0.length c_p0)), (3, (.pointer (some ⟨g9126, 0, none⟩))), (38, (.bool true))] [] (fun fb => by kernel_rfl) rfl trivial ?_
      exact WL.toV K true [38, 0, 3] rfl (by first | (rw [h9561]; done) | (rw [h9561]; rfl))
    refine WL.setB 32 h9561 rfl ?_
    refine seg 17 [.v (.slice A_p1_Torus_Cells p1.Torus.Cells.length c_p1_Torus_Cells)] [0, 3, 38] [(0, (.slice A_p0 p0.length c_p0)), (3, (.pointer (some ⟨g9126, 0, none⟩))), (38, (.bool (decide ((p1.Torus.Cells.length : Int) > 0))))] [.cell ⟨g9126, 3, none⟩ (.slice A_p1_Torus_Cells p1.Torus.Cells.length c_p1_Torus_Cells)] (fun fb => by kernel_rfl) rfl ⟨hS9134.cell 0 rfl 3 rfl, trivial⟩ ?_
    exact WL.toV K (decide ((p1.Torus.Cells.length : Int) > 0)) [38, 0, 3] rfl (by first | (rw [h9561]; done) | (rw [h9561]; rfl))
  rintro b9562 rfl
  refine WL.done rfl ?_
  refine WX.next ?_
  rcases br_some hf with ⟨h9563, hf⟩ | ⟨h9563, hf⟩
  · refine WC.condT2 (fun fb => by kernel_rfl) h9563 ?_
    refine WC.seq ?_
    refine WC.region ?_
    refine seg 2 [] [4, 5] [(4, (.bool false)), (5, (.int .i64 0))] [] (fun fb => by kernel_rfl) rfl trivial ?_
    refine WL.done rfl ?_
    refine WX.next ?_
    refine WC.ret ?_
    injection hf with hf
    subst hf
    exact WX.thenR (WX.ret_ [] (.tuple #[(.bool false), (.int .i64 0)]) [] (fun fb => by kernel_rfl) trivial ⟨_, rfl, rfl, hS9134.keep⟩)
  refine WC.condF2 (fun fb => by kernel_rfl) h9563 ?_
  refine WC.skip ?_
  refine WX.next ?_
  refine WC.seq ?_
  refine WC.region ?_
  refine seg 3 [.v (.int .i64 p1.Side)] [40, 42] [(40, (.slice A_p0 p0.length c_p0)), (42, (.int .i64 p1.Side))] [.cell ⟨g9126, 4, none⟩ (.int .i64 p1.Side)] (fun fb => by kernel_rfl) rfl ⟨hS9134.cell 0 rfl 4 rfl, trivial⟩ ?_
  obtain ⟨t9564, ht9565, hf⟩ := bind_some hf
  refine WL.call (some 43) 21 #[(.slice A_p0 p0.length c_p0), (.int .i64 p1.Side)] (fun fb => by kernel_rfl) (square_Exists_calls _ p0 p1.Side A_p0 c_p0 t9564 _ (hS9134.rd 0) ht9565) (fun v w9566 hR9567 => ?_)
  obtain ⟨rfl, hk_⟩ := hR9567
  have hS9568 := hS9134.keepN hk_
  refine ⟨trivial, ?_⟩
  refine seg 9 [] [6, 7] [(6, (.bool t9564.1)), (7, (.int .i64 t9564.2))] [] (fun fb => by kernel_rfl) rfl trivial ?_
  refine WL.done rfl ?_
  refine WX.next ?_
  refine WC.seq ?_
  refine WC.region ?_
  refine seg 3 [] [6, 48] [(6, (.bool t9564.1)), (48, (.bool (t9564.2 == 0)))] [] (fun fb => by kernel_rfl) rfl trivial ?_
  refine WL.cutV (T := Bool) 6 (fun t => [(51, (.bool t))]) (fun t => ((t9564.2 == 0) && (!t9564.1)) = t) (fun K => ?_) ?_
  ·
    rcases Bool.eq_false_or_eq_true (t9564.2 == 0) with h9569 | h9569
    ·
      refine WL.setB 48 h9569 rfl ?_
      refine seg 6 [] [51] [(51, (.bool (!t9564.1)))] [] (fun fb => by kernel_rfl) rfl trivial ?_
      exact WL.toV K (!t9564.1) [51] rfl (by first | (rw [h9569]; done) | (rw [h9569]; rfl))
    refine WL.setB 48 h9569 rfl ?_
    refine seg 6 [] [51] [(51, (.bool false))] [] (fun fb => by kernel_rfl) rfl trivial ?_
    exact WL.toV K false [51] rfl (by first | (rw [h9569]; done) | (rw [h9569]; rfl))
  rintro b9570 rfl
  refine seg 8 [] [4, 5] [(4, (.bool ((t9564.2 == 0) && (!t9564.1)))), (5, (.int .i64 0))] [] (fun fb => by kernel_rfl) rfl trivial ?_
  refine WL.done rfl ?_
  refine WX.next ?_
  refine WC.ret ?_
  injection hf with hf
  subst hf
  exact WX.ret_ [] (.tuple #[(.bool ((t9564.2 == 0) && (!t9564.1))), (.int .i64 0)]) [] (fun fb => by kernel_rfl) trivial ⟨_, rfl, rfl, hS9568.keep⟩
theorem law09_DecideSide_calls (k : Nat) (p0 : List Tile) (p1 : Pattern) (p2 : Int) (A_p0 : Option Addr) (c_p0 : Nat) (A_p1_Cells : Option Addr) (c_p1_Cells : Nat) (r : Bool) (w : World) (hR0 : RO NoS w (rowR enc_Tile A_p0 c_p0 p0)) (hR1 : RO NoS w (rowR encInt A_p1_Cells c_p1_Cells p1.Cells)) (hf : law09_DecideSide k p0 p1 p2 = some r) :
    CallsR Try.prog 6 #[(.slice A_p0 p0.length c_p0), (.agg #[(.int .i64 p1.Width), (.int .i64 p1.Height), (.slice A_p1_Cells p1.Cells.length c_p1_Cells)]), (.int .u8 p2)] w (fun v w' => v = (.bool r) ∧ Keeps NoS w w') := by
  have hS : St NoS w w [rowR enc_Tile A_p0 c_p0 p0, rowR encInt A_p1_Cells c_p1_Cells p1.Cells] [] := St.init (ro_cons hR0 (ro_cons hR1 (ro_nil _ _)))
  refine enter 45 Try.func6 rfl Try.ntmps6 rfl ?_
  unfold law09_DecideSide at hf
  refine WC.seq ?_
  refine WC.region ?_
  refine WL.new hS 4 [] (fun g => (.pointer (some ⟨g, 0, none⟩))) (.cells #[(.int .i64 p1.Width), (.int .i64 p1.Height), (.slice A_p1_Cells p1.Cells.length c_p1_Cells)] 38 (0, 0)) [] (fun fb g => by kernel_rfl) trivial (fun g1 w2 hS3 => ?_)
  refine ⟨trivial, ?_⟩
  refine seg 2 [] [0, 2, 4] [(0, (.slice A_p0 p0.length c_p0)), (2, (.int .u8 p2)), (4, (.pointer (some ⟨g1, 0, none⟩)))] [] (fun fb => by kernel_rfl) rfl trivial ?_
  refine WL.done rfl ?_
  refine WX.next ?_
  refine WC.seq ?_
  refine WC.seq ?_
  refine WC.region ?_
  refine seg 3 [] [0, 2, 4, 13] [(0, (.slice A_p0 p0.length c_p0)), (2, (.int .u8 p2)), (4, (.pointer (some ⟨g1, 0, none⟩))), (13, (.bool (decide ((p0.length : Int) > 4))))] [] (fun fb => by kernel_rfl) rfl trivial ?_
  refine WL.done rfl ?_
  refine WX.next ?_
  rcases br_some hf with ⟨h5, hf⟩ | ⟨h5, hf⟩
  · refine WC.condT2 (fun fb => by kernel_rfl) h5 ?_
    refine WC.seq ?_
    refine WC.region ?_
    obtain ⟨t9121, ht9122, hf⟩ := bind_some hf
    refine WL.call (some 14) 14 #[] (fun fb => by kernel_rfl) (law09_awake_calls _ t9121 _ ht9122) (fun v w9123 hR9124 => ?_)
    obtain ⟨rfl, hk_⟩ := hR9124
    have hS9125 := hS3.keepN hk_
    refine ⟨trivial, ?_⟩
    refine seg 2 [] [6] [(6, (.bool t9121))] [] (fun fb => by kernel_rfl) rfl trivial ?_
    refine WL.done rfl ?_
    refine WX.next ?_
    refine WC.ret ?_
    injection hf with hf
    subst hf
    exact WX.thenR (WX.ret_ [] (.bool t9121) [] (fun fb => by kernel_rfl) trivial ⟨_, rfl, rfl, hS9125.keep⟩)
  refine WC.condF2 (fun fb => by kernel_rfl) h5 ?_
  refine WC.skip ?_
  refine WX.next ?_
  refine WC.seq ?_
  refine WC.region ?_
  refine seg 3 [.v (.int .i64 p1.Width), .v (.int .i64 p1.Height), .v (.slice A_p1_Cells p1.Cells.length c_p1_Cells)] [0, 2, 16, 18] [(0, (.slice A_p0 p0.length c_p0)), (2, (.int .u8 p2)), (16, (.slice A_p0 p0.length c_p0)), (18, (.agg #[(.bool true), (.int .i64 p1.Width), (.int .i64 p1.Height), (.slice A_p1_Cells p1.Cells.length c_p1_Cells), (.int .i64 0)]))] [.cell ⟨g1, 0, none⟩ (.int .i64 p1.Width), .cell ⟨g1, 1, none⟩ (.int .i64 p1.Height), .cell ⟨g1, 2, none⟩ (.slice A_p1_Cells p1.Cells.length c_p1_Cells)] (fun fb => by kernel_rfl) rfl ⟨hS3.cell 0 rfl 0 rfl, hS3.cell 0 rfl 1 rfl, hS3.cell 0 rfl 2 rfl, trivial⟩ ?_
  obtain ⟨t9571, ht9572, hf⟩ := bind_some hf
  refine WL.call (some 19) 18 #[(.slice A_p0 p0.length c_p0), (.agg #[(.bool true), (.int .i64 p1.Width), (.int .i64 p1.Height), (.slice A_p1_Cells p1.Cells.length c_p1_Cells), (.int .i64 0)])] (fun fb => by kernel_rfl) (decide_Check_calls _ p0 (Verdict.mk true p1 0) A_p0 c_p0 A_p1_Cells c_p1_Cells t9571 _ (hS3.rd 0) (hS3.rd 1) ht9572) (fun v w9573 hR9574 => ?_)
  obtain ⟨rfl, hk_⟩ := hR9574
  have hS9575 := hS3.keepN hk_
  refine ⟨trivial, ?_⟩
  refine seg 9 [] [0, 2, 7, 8] [(0, (.slice A_p0 p0.length c_p0)), (2, (.int .u8 p2)), (7, (.bool t9571.1)), (8, (.int .i64 t9571.2))] [] (fun fb => by kernel_rfl) rfl trivial ?_
  refine WL.done rfl ?_
  refine WX.next ?_
  refine WC.seq ?_
  refine WC.region ?_
  refine seg 6 [] [7, 8, 23, 28] [(7, (.bool t9571.1)), (8, (.int .i64 t9571.2)), (23, (.slice A_p0 p0.length c_p0)), (28, (.agg #[(.bool false), (.int .i64 0), (.int .i64 0), (.slice none 0 0), (.int .i64 (w64 (1 + (Int.tmod (w64 (p2)) 8))))]))] [.ne 8] (fun fb => by kernel_rfl) rfl ⟨(by decide), trivial⟩ ?_
  obtain ⟨t9576, ht9577, hf⟩ := bind_some hf
  refine WL.call (some 29) 18 #[(.slice A_p0 p0.length c_p0), (.agg #[(.bool false), (.int .i64 0), (.int .i64 0), (.slice none 0 0), (.int .i64 (w64 (1 + (Int.tmod (w64 (p2)) 8))))])] (fun fb => by kernel_rfl) (decide_Check_calls _ p0 (Verdict.mk false (Pattern.mk 0 0 ([] : List Int)) (w64 (1 + (Int.tmod (w64 (p2)) 8)))) A_p0 c_p0 none 0 t9576 _ (hS9575.rd 0) (RO.nilR _ _ _) ht9577) (fun v w9578 hR9579 => ?_)
  obtain ⟨rfl, hk_⟩ := hR9579
  have hS9580 := hS9575.keepN hk_
  refine ⟨trivial, ?_⟩
  refine seg 12 [] [7, 8, 9, 10] [(7, (.bool t9571.1)), (8, (.int .i64 t9571.2)), (9, (.bool t9576.1)), (10, (.int .i64 t9576.2))] [] (fun fb => by kernel_rfl) rfl trivial ?_
  refine WL.done rfl ?_
  refine WX.next ?_
  refine WC.seq ?_
  refine WC.region ?_
  refine seg 4 [] [7, 9, 35] [(7, (.bool t9571.1)), (9, (.bool t9576.1)), (35, (.bool (t9571.2 == t9576.2)))] [] (fun fb => by kernel_rfl) rfl trivial ?_
  refine WL.cutV (T := Bool) 10 (fun t => [(41, (.bool t))]) (fun t => ((t9571.2 == t9576.2) && (!(t9571.1 && t9576.1))) = t) (fun K => ?_) ?_
  ·
    rcases Bool.eq_false_or_eq_true (t9571.2 == t9576.2) with h9583 | h9583
    ·
      refine WL.setB 35 h9583 rfl ?_
      refine seg 6 [] [9, 35, 37] [(9, (.bool t9576.1)), (35, (.bool true)), (37, (.bool t9571.1))] [] (fun fb => by kernel_rfl) rfl trivial ?_
      refine WL.cutV (T := Bool) 8 (fun t => [(39, (.bool t)), (35, (.bool true))]) (fun t => (t9571.1 && t9576.1) = t) (fun K => ?_) ?_
      ·
        rcases Bool.eq_false_or_eq_true t9571.1 with h9584 | h9584
        ·
          refine WL.setB 37 h9584 rfl ?_
          refine seg 8 [] [35, 39] [(35, (.bool true)), (39, (.bool t9576.1))] [] (fun fb => by kernel_rfl) rfl trivial ?_
          exact WL.toV K t9576.1 [39, 35] rfl (by first | (rw [h9584]; done) | (rw [h9584]; rfl))
        refine WL.setB 37 h9584 rfl ?_
        refine seg 8 [] [35, 39] [(35, (.bool true)), (39, (.bool false))] [] (fun fb => by kernel_rfl) rfl trivial ?_
        exact WL.toV K false [39, 35] rfl (by first | (rw [h9584]; done) | (rw [h9584]; rfl))
      rintro b9585 rfl
      refine seg 10 [] [41] [(41, (.bool (!(t9571.1 && t9576.1))))] [] (fun fb => by kernel_rfl) rfl trivial ?_
      exact WL.toV K (!(t9571.1 && t9576.1)) [41] rfl (by first | (rw [h9583]; done) | (rw [h9583]; rfl))
    refine WL.setB 35 h9583 rfl ?_
    refine seg 10 [] [41] [(41, (.bool false))] [] (fun fb => by kernel_rfl) rfl trivial ?_
    exact WL.toV K false [41] rfl (by first | (rw [h9583]; done) | (rw [h9583]; rfl))
  rintro b9586 rfl
  refine seg 11 [] [42] [(42, (.bool ((t9571.2 == t9576.2) && (!(t9571.1 && t9576.1)))))] [] (fun fb => by kernel_rfl) rfl trivial ?_
  obtain ⟨x9593, hx9594, hf⟩ := bind_some hf
  refine WL.cutW (T := Bool) 13 (fun t => [(44, (.bool t))]) (fun t w1 => (St NoS w w1 [rowR enc_Tile A_p0 c_p0 p0, rowR encInt A_p1_Cells c_p1_Cells p1.Cells] [] ∧ x9593 = t) ∧ CellsOK [] w1) (fun K => ?_) ?_
  ·
    rcases br_some hx9594 with ⟨h9595, hx9594⟩ | ⟨h9595, hx9594⟩
    ·
      refine WL.setB 42 h9595 rfl ?_
      obtain ⟨t9596, ht9597, hx9594⟩ := bind_some hx9594
      refine WL.call (some 43) 14 #[] (fun fb => by kernel_rfl) (law09_awake_calls _ t9596 _ ht9597) (fun v w9598 hR9599 => ?_)
      obtain ⟨rfl, hk_⟩ := hR9599
      have hS9600 := hS9580.keepN hk_
      refine ⟨trivial, ?_⟩
      refine seg 13 [] [44] [(44, (.bool t9596))] [] (fun fb => by kernel_rfl) rfl trivial ?_
      injection hx9594 with hx9594
      exact WL.to K t9596 [44] rfl ⟨⟨(hS9600.subR [0, 1]).sub [] (by decide), hx9594.symm⟩, trivial⟩
    refine WL.setB 42 h9595 rfl ?_
    refine seg 13 [] [44] [(44, (.bool false))] [] (fun fb => by kernel_rfl) rfl trivial ?_
    injection hx9594 with hx9594
    exact WL.to K false [44] rfl ⟨⟨(hS9580.subR [0, 1]).sub [] (by decide), hx9594.symm⟩, trivial⟩
  rintro y9601 w9603 ⟨⟨hS9604, hq9602⟩, hF9605⟩
  subst hq9602
  refine seg 14 [] [6] [(6, (.bool x9593))] [] (fun fb => by kernel_rfl) rfl trivial ?_
  refine WL.done rfl ?_
  refine WX.next ?_
  refine WC.ret ?_
  injection hf with hf
  subst hf
  exact WX.ret_ [] (.bool x9593) [] (fun fb => by kernel_rfl) trivial ⟨_, rfl, rfl, hS9604.keep⟩
end Gp
