/- Walks: each function of the program computes its plain function. -/
import Derived.Test.YtjfmjfheeijfiaaDoorGx2
set_option linter.unusedVariables false
set_option linter.unusedSimpArgs false
set_option maxHeartbeats 4000000
namespace Gp
open Go Gw Go.Proofs
theorem law05_awake_calls (k : Nat)  (mG : Int) (r : Bool) (w : World) (hR0 : RO NoS w (cel ⟨2, 0, none⟩ (iv mG))) (hf : law05_awake k = some r) :
  CallsR Tryd.prog 40 #[] w (fun v w' => v = (.bool r) ∧ Keeps NoS w w') := by
 have hS : St NoS w w [cel ⟨2, 0, none⟩ (iv mG)] [] := St.init (ro_cons hR0 (ro_nil _ _))
 refine enter 72 Tryd.func40 rfl Tryd.ntmps40 rfl ?_
 unfold law05_awake at hf
 refine WC.seq ?_
 refine WC.region ?_
 refine seg 1 [] [] [] [] (fun fb => by kernel_rfl) rfl trivial ?_
 refine WL.done rfl ?_
 refine WX.next ?_
 refine WC.seq ?_
 refine WC.region ?_
 obtain ⟨t2142, ht2143, hf⟩ := bind_some hf
 refine WL.call (some 16) 49 #[(.string (⟨#[48, 46, 49, 46, 48, 46, 48]⟩ : ByteArray))] (fun fb => by kernel_rfl) (tile_Parse_calls _ (⟨#[48, 46, 49, 46, 48, 46, 48]⟩ : ByteArray) mG t2142 _ (hS.rd 0) ht2143) (fun v w2144 hR2145 => ?_)
 obtain ⟨A2147, c2148, rfl, hk_⟩ := hR2145
 have hS2146 : St NoS w w2144 [cel ⟨2, 0, none⟩ (iv mG)] [rowO 40 enc_Tile A2147 c2148 t2142.1] := hS.call hk_ [] [] (fun g hg => hg.elim) (by simp) (by decide)
 refine ⟨trivial, ?_⟩
 refine seg 6 [] [1] [(1, (.slice A2147 t2142.1.length c2148))] [] (fun fb => by kernel_rfl) rfl trivial ?_
 refine WL.done rfl ?_
 refine WX.next ?_
 refine WC.seq ?_
 refine WC.region ?_
 obtain ⟨t2149, ht2150, hf⟩ := bind_some hf
 refine WL.call (some 20) 49 #[(.string (⟨#[48, 46, 48, 46, 49, 46, 48]⟩ : ByteArray))] (fun fb => by kernel_rfl) (tile_Parse_calls _ (⟨#[48, 46, 48, 46, 49, 46, 48]⟩ : ByteArray) mG t2149 _ (hS2146.rd 0) ht2150) (fun v w2151 hR2152 => ?_)
 obtain ⟨A2154, c2155, rfl, hk_⟩ := hR2152
 have hS2153 : St NoS w w2151 [cel ⟨2, 0, none⟩ (iv mG)] [rowO 40 enc_Tile A2154 c2155 t2149.1, rowO 40 enc_Tile A2147 c2148 t2142.1] := hS2146.call hk_ [] [0] (fun g hg => hg.elim) (by simp) (by decide)
 refine ⟨trivial, ?_⟩
 refine seg 6 [] [1, 3] [(1, (.slice A2147 t2142.1.length c2148)), (3, (.slice A2154 t2149.1.length c2155))] [] (fun fb => by kernel_rfl) rfl trivial ?_
 refine WL.done rfl ?_
 refine WX.next ?_
 refine WC.seq ?_
 refine WC.region ?_
 obtain ⟨t2156, ht2157, hf⟩ := bind_some hf
 refine WL.call (some 24) 49 #[(.string (⟨#[48, 46, 49, 46, 49, 46, 48, 32, 49, 46, 48, 46, 48, 46, 49]⟩ : ByteArray))] (fun fb => by kernel_rfl) (tile_Parse_calls _ (⟨#[48, 46, 49, 46, 49, 46, 48, 32, 49, 46, 48, 46, 48, 46, 49]⟩ : ByteArray) mG t2156 _ (hS2153.rd 0) ht2157) (fun v w2158 hR2159 => ?_)
 obtain ⟨A2161, c2162, rfl, hk_⟩ := hR2159
 have hS2160 : St NoS w w2158 [cel ⟨2, 0, none⟩ (iv mG)] [rowO 40 enc_Tile A2161 c2162 t2156.1, rowO 40 enc_Tile A2154 c2155 t2149.1, rowO 40 enc_Tile A2147 c2148 t2142.1] := hS2153.call hk_ [] [0, 1] (fun g hg => hg.elim) (by simp) (by decide)
 refine ⟨trivial, ?_⟩
 refine seg 6 [] [1, 3, 5] [(1, (.slice A2147 t2142.1.length c2148)), (3, (.slice A2154 t2149.1.length c2155)), (5, (.slice A2161 t2156.1.length c2162))] [] (fun fb => by kernel_rfl) rfl trivial ?_
 refine WL.done rfl ?_
 refine WX.next ?_
 refine WC.seq ?_
 refine WC.region ?_
 refine seg 1 [] [3, 5, 28] [(3, (.slice A2154 t2149.1.length c2155)), (5, (.slice A2161 t2156.1.length c2162)), (28, (.slice A2147 t2142.1.length c2148))] [] (fun fb => by kernel_rfl) rfl trivial ?_
 obtain ⟨t7909, ht7910, hf⟩ := bind_some hf
 refine WL.call (some 29) 45 #[(.slice A2147 t2142.1.length c2148), (iv 4)] (fun fb => by kernel_rfl) (square_Largest_calls _ t2142.1 4 A2147 c2148 t7909 _ (hS2160.ow 2).ofO ht7910) (fun v w7911 hR7912 => ?_)
 obtain ⟨rfl, hk_⟩ := hR7912
 have hS7913 := hS2160.keepN hk_
 refine ⟨trivial, ?_⟩
 refine seg 7 [] [3, 5, 7, 8] [(3, (.slice A2154 t2149.1.length c2155)), (5, (.slice A2161 t2156.1.length c2162)), (7, (iv t7909.1)), (8, (iv t7909.2))] [] (fun fb => by kernel_rfl) rfl trivial ?_
 refine WL.done rfl ?_
 refine WX.next ?_
 refine WC.seq ?_
 refine WC.region ?_
 refine seg 1 [] [5, 7, 8, 33] [(5, (.slice A2161 t2156.1.length c2162)), (7, (iv t7909.1)), (8, (iv t7909.2)), (33, (.slice A2154 t2149.1.length c2155))] [] (fun fb => by kernel_rfl) rfl trivial ?_
 obtain ⟨t7914, ht7915, hf⟩ := bind_some hf
 refine WL.call (some 34) 45 #[(.slice A2154 t2149.1.length c2155), (iv 4)] (fun fb => by kernel_rfl) (square_Largest_calls _ t2149.1 4 A2154 c2155 t7914 _ (hS7913.ow 1).ofO ht7915) (fun v w7916 hR7917 => ?_)
 obtain ⟨rfl, hk_⟩ := hR7917
 have hS7918 := hS7913.keepN hk_
 refine ⟨trivial, ?_⟩
 refine seg 7 [] [5, 7, 8, 9, 10] [(5, (.slice A2161 t2156.1.length c2162)), (7, (iv t7909.1)), (8, (iv t7909.2)), (9, (iv t7914.1)), (10, (iv t7914.2))] [] (fun fb => by kernel_rfl) rfl trivial ?_
 refine WL.done rfl ?_
 refine WX.next ?_
 refine WC.seq ?_
 refine WC.region ?_
 refine seg 1 [] [5, 7, 8, 9, 10, 38] [(5, (.slice A2161 t2156.1.length c2162)), (7, (iv t7909.1)), (8, (iv t7909.2)), (9, (iv t7914.1)), (10, (iv t7914.2)), (38, (.slice A2161 t2156.1.length c2162))] [] (fun fb => by kernel_rfl) rfl trivial ?_
 obtain ⟨t7930, ht7931, hf⟩ := bind_some hf
 refine WL.call (some 39) 44 #[(.slice A2161 t2156.1.length c2162), (iv 5)] (fun fb => by kernel_rfl) (square_Exists_calls _ t2156.1 5 A2161 c2162 t7930 _ (hS7918.ow 0).ofO ht7931) (fun v w7932 hR7933 => ?_)
 obtain ⟨rfl, hk_⟩ := hR7933
 have hS7934 := hS7918.keepN hk_
 refine ⟨trivial, ?_⟩
 refine seg 7 [] [5, 7, 8, 9, 10, 11, 12] [(5, (.slice A2161 t2156.1.length c2162)), (7, (iv t7909.1)), (8, (iv t7909.2)), (9, (iv t7914.1)), (10, (iv t7914.2)), (11, (.bool t7930.1)), (12, (iv t7930.2))] [] (fun fb => by kernel_rfl) rfl trivial ?_
 refine WL.done rfl ?_
 refine WX.next ?_
 refine WC.seq ?_
 refine WC.region ?_
 refine seg 1 [] [7, 8, 9, 10, 11, 12, 43] [(7, (iv t7909.1)), (8, (iv t7909.2)), (9, (iv t7914.1)), (10, (iv t7914.2)), (11, (.bool t7930.1)), (12, (iv t7930.2)), (43, (.slice A2161 t2156.1.length c2162))] [] (fun fb => by kernel_rfl) rfl trivial ?_
 obtain ⟨t7935, ht7936, hf⟩ := bind_some hf
 refine WL.call (some 44) 45 #[(.slice A2161 t2156.1.length c2162), (iv 5)] (fun fb => by kernel_rfl) (square_Largest_calls _ t2156.1 5 A2161 c2162 t7935 _ (hS7934.ow 0).ofO ht7936) (fun v w7937 hR7938 => ?_)
 obtain ⟨rfl, hk_⟩ := hR7938
 have hS7939 := hS7934.keepN hk_
 refine ⟨trivial, ?_⟩
 refine seg 7 [] [7, 8, 9, 10, 11, 12, 14] [(7, (iv t7909.1)), (8, (iv t7909.2)), (9, (iv t7914.1)), (10, (iv t7914.2)), (11, (.bool t7930.1)), (12, (iv t7930.2)), (14, (iv t7935.2))] [] (fun fb => by kernel_rfl) rfl trivial ?_
 refine WL.done rfl ?_
 refine WX.next ?_
 refine WC.seq ?_
 refine WC.region ?_
 refine seg 3 [] [7, 9, 10, 11, 12, 14, 49] [(7, (iv t7909.1)), (9, (iv t7914.1)), (10, (iv t7914.2)), (11, (.bool t7930.1)), (12, (iv t7930.2)), (14, (iv t7935.2)), (49, (.bool (t7909.2 == 0)))] [] (fun fb => by kernel_rfl) rfl trivial ?_
 refine WL.cutV (T := Bool) 6 (fun t => [(52, (.bool t)), (7, (iv t7909.1)), (9, (iv t7914.1)), (11, (.bool t7930.1)), (12, (iv t7930.2)), (14, (iv t7935.2))]) (fun t => ((t7909.2 == 0) && (t7914.2 == 0)) = t) (fun K => ?_) ?_
 ·
  rcases Bool.eq_false_or_eq_true (t7909.2 == 0) with h7940 | h7940
  ·
   refine WL.setB 49 h7940 rfl ?_
   refine seg 6 [] [7, 9, 11, 12, 14, 52] [(7, (iv t7909.1)), (9, (iv t7914.1)), (11, (.bool t7930.1)), (12, (iv t7930.2)), (14, (iv t7935.2)), (52, (.bool (t7914.2 == 0)))] [] (fun fb => by kernel_rfl) rfl trivial ?_
   exact WL.toV K (t7914.2 == 0) [52, 7, 9, 11, 12, 14] rfl (by first | (rw [h7940]; done) | (rw [h7940]; rfl))
  refine WL.setB 49 h7940 rfl ?_
  refine seg 6 [] [7, 9, 11, 12, 14, 52] [(7, (iv t7909.1)), (9, (iv t7914.1)), (11, (.bool t7930.1)), (12, (iv t7930.2)), (14, (iv t7935.2)), (52, (.bool false))] [] (fun fb => by kernel_rfl) rfl trivial ?_
  exact WL.toV K false [52, 7, 9, 11, 12, 14] rfl (by first | (rw [h7940]; done) | (rw [h7940]; rfl))
 rintro b7941 rfl
 refine seg 7 [] [7, 9, 11, 12, 14, 53] [(7, (iv t7909.1)), (9, (iv t7914.1)), (11, (.bool t7930.1)), (12, (iv t7930.2)), (14, (iv t7935.2)), (53, (.bool ((t7909.2 == 0) && (t7914.2 == 0))))] [] (fun fb => by kernel_rfl) rfl trivial ?_
 refine WL.cutV (T := Bool) 10 (fun t => [(56, (.bool t)), (7, (iv t7909.1)), (9, (iv t7914.1)), (11, (.bool t7930.1)), (14, (iv t7935.2))]) (fun t => (((t7909.2 == 0) && (t7914.2 == 0)) && (t7930.2 == 0)) = t) (fun K => ?_) ?_
 ·
  rcases Bool.eq_false_or_eq_true ((t7909.2 == 0) && (t7914.2 == 0)) with h7942 | h7942
  ·
   refine WL.setB 53 h7942 rfl ?_
   refine seg 10 [] [7, 9, 11, 14, 56] [(7, (iv t7909.1)), (9, (iv t7914.1)), (11, (.bool t7930.1)), (14, (iv t7935.2)), (56, (.bool (t7930.2 == 0)))] [] (fun fb => by kernel_rfl) rfl trivial ?_
   exact WL.toV K (t7930.2 == 0) [56, 7, 9, 11, 14] rfl (by first | (rw [h7942]; done) | (rw [h7942]; rfl))
  refine WL.setB 53 h7942 rfl ?_
  refine seg 10 [] [7, 9, 11, 14, 56] [(7, (iv t7909.1)), (9, (iv t7914.1)), (11, (.bool t7930.1)), (14, (iv t7935.2)), (56, (.bool false))] [] (fun fb => by kernel_rfl) rfl trivial ?_
  exact WL.toV K false [56, 7, 9, 11, 14] rfl (by first | (rw [h7942]; done) | (rw [h7942]; rfl))
 rintro b7943 rfl
 refine seg 11 [] [7, 9, 11, 14, 57] [(7, (iv t7909.1)), (9, (iv t7914.1)), (11, (.bool t7930.1)), (14, (iv t7935.2)), (57, (.bool (((t7909.2 == 0) && (t7914.2 == 0)) && (t7930.2 == 0))))] [] (fun fb => by kernel_rfl) rfl trivial ?_
 refine WL.cutV (T := Bool) 14 (fun t => [(60, (.bool t)), (7, (iv t7909.1)), (9, (iv t7914.1)), (11, (.bool t7930.1))]) (fun t => ((((t7909.2 == 0) && (t7914.2 == 0)) && (t7930.2 == 0)) && (t7935.2 == 6)) = t) (fun K => ?_) ?_
 ·
  rcases Bool.eq_false_or_eq_true (((t7909.2 == 0) && (t7914.2 == 0)) && (t7930.2 == 0)) with h7944 | h7944
  ·
   refine WL.setB 57 h7944 rfl ?_
   refine seg 14 [] [7, 9, 11, 60] [(7, (iv t7909.1)), (9, (iv t7914.1)), (11, (.bool t7930.1)), (60, (.bool (t7935.2 == 6)))] [] (fun fb => by kernel_rfl) rfl trivial ?_
   exact WL.toV K (t7935.2 == 6) [60, 7, 9, 11] rfl (by first | (rw [h7944]; done) | (rw [h7944]; rfl))
  refine WL.setB 57 h7944 rfl ?_
  refine seg 14 [] [7, 9, 11, 60] [(7, (iv t7909.1)), (9, (iv t7914.1)), (11, (.bool t7930.1)), (60, (.bool false))] [] (fun fb => by kernel_rfl) rfl trivial ?_
  exact WL.toV K false [60, 7, 9, 11] rfl (by first | (rw [h7944]; done) | (rw [h7944]; rfl))
 rintro b7945 rfl
 refine seg 15 [] [7, 9, 11, 61] [(7, (iv t7909.1)), (9, (iv t7914.1)), (11, (.bool t7930.1)), (61, (.bool ((((t7909.2 == 0) && (t7914.2 == 0)) && (t7930.2 == 0)) && (t7935.2 == 6))))] [] (fun fb => by kernel_rfl) rfl trivial ?_
 refine WL.cutV (T := Bool) 18 (fun t => [(64, (.bool t)), (9, (iv t7914.1)), (11, (.bool t7930.1))]) (fun t => (((((t7909.2 == 0) && (t7914.2 == 0)) && (t7930.2 == 0)) && (t7935.2 == 6)) && (t7909.1 == 1)) = t) (fun K => ?_) ?_
 ·
  rcases Bool.eq_false_or_eq_true ((((t7909.2 == 0) && (t7914.2 == 0)) && (t7930.2 == 0)) && (t7935.2 == 6)) with h7946 | h7946
  ·
   refine WL.setB 61 h7946 rfl ?_
   refine seg 18 [] [9, 11, 64] [(9, (iv t7914.1)), (11, (.bool t7930.1)), (64, (.bool (t7909.1 == 1)))] [] (fun fb => by kernel_rfl) rfl trivial ?_
   exact WL.toV K (t7909.1 == 1) [64, 9, 11] rfl (by first | (rw [h7946]; done) | (rw [h7946]; rfl))
  refine WL.setB 61 h7946 rfl ?_
  refine seg 18 [] [9, 11, 64] [(9, (iv t7914.1)), (11, (.bool t7930.1)), (64, (.bool false))] [] (fun fb => by kernel_rfl) rfl trivial ?_
  exact WL.toV K false [64, 9, 11] rfl (by first | (rw [h7946]; done) | (rw [h7946]; rfl))
 rintro b7947 rfl
 refine seg 19 [] [9, 11, 65] [(9, (iv t7914.1)), (11, (.bool t7930.1)), (65, (.bool (((((t7909.2 == 0) && (t7914.2 == 0)) && (t7930.2 == 0)) && (t7935.2 == 6)) && (t7909.1 == 1))))] [] (fun fb => by kernel_rfl) rfl trivial ?_
 refine WL.cutV (T := Bool) 22 (fun t => [(68, (.bool t)), (11, (.bool t7930.1))]) (fun t => ((((((t7909.2 == 0) && (t7914.2 == 0)) && (t7930.2 == 0)) && (t7935.2 == 6)) && (t7909.1 == 1)) && (t7914.1 == 1)) = t) (fun K => ?_) ?_
 ·
  rcases Bool.eq_false_or_eq_true (((((t7909.2 == 0) && (t7914.2 == 0)) && (t7930.2 == 0)) && (t7935.2 == 6)) && (t7909.1 == 1)) with h7948 | h7948
  ·
   refine WL.setB 65 h7948 rfl ?_
   refine seg 22 [] [11, 68] [(11, (.bool t7930.1)), (68, (.bool (t7914.1 == 1)))] [] (fun fb => by kernel_rfl) rfl trivial ?_
   exact WL.toV K (t7914.1 == 1) [68, 11] rfl (by first | (rw [h7948]; done) | (rw [h7948]; rfl))
  refine WL.setB 65 h7948 rfl ?_
  refine seg 22 [] [11, 68] [(11, (.bool t7930.1)), (68, (.bool false))] [] (fun fb => by kernel_rfl) rfl trivial ?_
  exact WL.toV K false [68, 11] rfl (by first | (rw [h7948]; done) | (rw [h7948]; rfl))
 rintro b7949 rfl
 refine seg 23 [] [11, 69] [(11, (.bool t7930.1)), (69, (.bool ((((((t7909.2 == 0) && (t7914.2 == 0)) && (t7930.2 == 0)) && (t7935.2 == 6)) && (t7909.1 == 1)) && (t7914.1 == 1))))] [] (fun fb => by kernel_rfl) rfl trivial ?_
 refine WL.cutV (T := Bool) 25 (fun t => [(71, (.bool t))]) (fun t => (((((((t7909.2 == 0) && (t7914.2 == 0)) && (t7930.2 == 0)) && (t7935.2 == 6)) && (t7909.1 == 1)) && (t7914.1 == 1)) && t7930.1) = t) (fun K => ?_) ?_
 ·
  rcases Bool.eq_false_or_eq_true ((((((t7909.2 == 0) && (t7914.2 == 0)) && (t7930.2 == 0)) && (t7935.2 == 6)) && (t7909.1 == 1)) && (t7914.1 == 1)) with h7950 | h7950
  ·
   refine WL.setB 69 h7950 rfl ?_
   refine seg 25 [] [71] [(71, (.bool t7930.1))] [] (fun fb => by kernel_rfl) rfl trivial ?_
   exact WL.toV K t7930.1 [71] rfl (by first | (rw [h7950]; done) | (rw [h7950]; rfl))
  refine WL.setB 69 h7950 rfl ?_
  refine seg 25 [] [71] [(71, (.bool false))] [] (fun fb => by kernel_rfl) rfl trivial ?_
  exact WL.toV K false [71] rfl (by first | (rw [h7950]; done) | (rw [h7950]; rfl))
 rintro b7951 rfl
 refine seg 26 [] [0] [(0, (.bool (((((((t7909.2 == 0) && (t7914.2 == 0)) && (t7930.2 == 0)) && (t7935.2 == 6)) && (t7909.1 == 1)) && (t7914.1 == 1)) && t7930.1)))] [] (fun fb => by kernel_rfl) rfl trivial ?_
 refine WL.done rfl ?_
 refine WX.next ?_
 refine WC.ret ?_
 injection hf with hf
 subst hf
 exact WX.ret_ [] (.bool (((((((t7909.2 == 0) && (t7914.2 == 0)) && (t7930.2 == 0)) && (t7935.2 == 6)) && (t7909.1 == 1)) && (t7914.1 == 1)) && t7930.1)) [] (fun fb => by kernel_rfl) trivial ⟨_, rfl, rfl, hS7939.keep⟩
theorem law05_SquareFalls_calls (k : Nat) (p0 : List Tile) (p1 : Int) (p2 : Int) (A_p0 : Option Addr) (c_p0 : Nat) (mG : Int) (r : Bool) (w : World) (hR0 : RO NoS w (rowR enc_Tile A_p0 c_p0 p0)) (hR1 : RO NoS w (cel ⟨2, 0, none⟩ (iv mG))) (hf : law05_SquareFalls k p0 p1 p2 = some r) :
  CallsR Tryd.prog 12 #[(.slice A_p0 p0.length c_p0), (.int .u8 p1), (.int .u8 p2)] w (fun v w' => v = (.bool r) ∧ Keeps NoS w w') := by
 have hS : St NoS w w [rowR enc_Tile A_p0 c_p0 p0, cel ⟨2, 0, none⟩ (iv mG)] [] := St.init (ro_cons hR0 (ro_cons hR1 (ro_nil _ _)))
 refine enter 135 Tryd.func12 rfl Tryd.ntmps12 rfl ?_
 unfold law05_SquareFalls at hf
 refine WC.seq ?_
 refine WC.region ?_
 refine seg 1 [] [0, 1, 2] [(0, (.slice A_p0 p0.length c_p0)), (1, (.int .u8 p1)), (2, (.int .u8 p2))] [] (fun fb => by kernel_rfl) rfl trivial ?_
 refine WL.done rfl ?_
 refine WX.next ?_
 refine WC.seq ?_
 refine WC.region ?_
 refine seg 5 [] [0, 2, 7] [(0, (.slice A_p0 p0.length c_p0)), (2, (.int .u8 p2)), (7, (iv (w64 (1 + (Int.tmod (w64 (p1)) 8)))))] [.ne 8] (fun fb => by kernel_rfl) rfl ⟨(by decide), trivial⟩ ?_
 refine WL.done rfl ?_
 refine WX.next ?_
 refine WC.seq ?_
 refine WC.seq ?_
 refine WC.region ?_
 refine seg 4 [] [0, 2, 7, 25] [(0, (.slice A_p0 p0.length c_p0)), (2, (.int .u8 p2)), (7, (iv (w64 (1 + (Int.tmod (w64 (p1)) 8))))), (25, (.bool (decide ((p0.length : Int) > 60))))] [] (fun fb => by kernel_rfl) rfl trivial ?_
 obtain ⟨x610, hx611, hf⟩ := bind_some hf
 refine WL.cutW (T := Bool) 8 (fun t => [(0, (.slice A_p0 p0.length c_p0)), (2, (.int .u8 p2)), (7, (iv (w64 (1 + (Int.tmod (w64 (p1)) 8))))), (29, (.bool t))]) (fun t w1 => (St NoS w w1 [rowR enc_Tile A_p0 c_p0 p0, cel ⟨2, 0, none⟩ (iv mG)] [] ∧ x610 = t) ∧ CellsOK [] w1) (fun K => ?_) ?_
 ·
  rcases br_some hx611 with ⟨h612, hx611⟩ | ⟨h612, hx611⟩
  ·
   refine WL.setB 25 h612 rfl ?_
   refine seg 8 [] [0, 2, 7, 29] [(0, (.slice A_p0 p0.length c_p0)), (2, (.int .u8 p2)), (7, (iv (w64 (1 + (Int.tmod (w64 (p1)) 8))))), (29, (.bool true))] [] (fun fb => by kernel_rfl) rfl trivial ?_
   injection hx611 with hx611
   exact WL.to K true [0, 2, 7, 29] rfl ⟨⟨(hS.subR [0, 1]).sub [] (by decide), hx611.symm⟩, trivial⟩
  refine WL.setB 25 h612 rfl ?_
  refine seg 5 [] [0, 2, 7, 25, 26] [(0, (.slice A_p0 p0.length c_p0)), (2, (.int .u8 p2)), (7, (iv (w64 (1 + (Int.tmod (w64 (p1)) 8))))), (25, (.bool false)), (26, (.slice A_p0 p0.length c_p0))] [] (fun fb => by kernel_rfl) rfl trivial ?_
  obtain ⟨t613, ht614, hx611⟩ := bind_some hx611
  refine WL.call (some 27) 15 #[(.slice A_p0 p0.length c_p0)] (fun fb => by kernel_rfl) (ref01_Valid_calls _ p0 A_p0 c_p0 t613 _ (hS.rd 0) ht614) (fun v w615 hR616 => ?_)
  obtain ⟨rfl, hk_⟩ := hR616
  have hS617 := hS.keepN hk_
  refine ⟨trivial, ?_⟩
  refine seg 8 [] [0, 2, 7, 29] [(0, (.slice A_p0 p0.length c_p0)), (2, (.int .u8 p2)), (7, (iv (w64 (1 + (Int.tmod (w64 (p1)) 8))))), (29, (.bool (!t613)))] [] (fun fb => by kernel_rfl) rfl trivial ?_
  injection hx611 with hx611
  exact WL.to K (!t613) [0, 2, 7, 29] rfl ⟨⟨(hS617.subR [0, 1]).sub [] (by decide), hx611.symm⟩, trivial⟩
 rintro y618 w620 ⟨⟨hS621, hq619⟩, hF622⟩
 subst hq619
 refine seg 9 [] [0, 2, 7, 30] [(0, (.slice A_p0 p0.length c_p0)), (2, (.int .u8 p2)), (7, (iv (w64 (1 + (Int.tmod (w64 (p1)) 8))))), (30, (.bool x610))] [] (fun fb => by kernel_rfl) rfl trivial ?_
 obtain ⟨x893, hx894, hf⟩ := bind_some hf
 refine WL.cutW (T := Bool) 13 (fun t => [(0, (.slice A_p0 p0.length c_p0)), (2, (.int .u8 p2)), (7, (iv (w64 (1 + (Int.tmod (w64 (p1)) 8))))), (34, (.bool t))]) (fun t w1 => (St NoS w w1 [rowR enc_Tile A_p0 c_p0 p0, cel ⟨2, 0, none⟩ (iv mG)] [] ∧ x893 = t) ∧ CellsOK [] w1) (fun K => ?_) ?_
 ·
  rcases br_some hx894 with ⟨h895, hx894⟩ | ⟨h895, hx894⟩
  ·
   refine WL.setB 30 h895 rfl ?_
   refine seg 13 [] [0, 2, 7, 34] [(0, (.slice A_p0 p0.length c_p0)), (2, (.int .u8 p2)), (7, (iv (w64 (1 + (Int.tmod (w64 (p1)) 8))))), (34, (.bool true))] [] (fun fb => by kernel_rfl) rfl trivial ?_
   injection hx894 with hx894
   exact WL.to K true [0, 2, 7, 34] rfl ⟨⟨(hS621.subR [0, 1]).sub [] (by decide), hx894.symm⟩, trivial⟩
  refine WL.setB 30 h895 rfl ?_
  refine seg 11 [] [0, 2, 7, 30, 31, 32] [(0, (.slice A_p0 p0.length c_p0)), (2, (.int .u8 p2)), (7, (iv (w64 (1 + (Int.tmod (w64 (p1)) 8))))), (30, (.bool false)), (31, (.slice A_p0 p0.length c_p0)), (32, (iv (w64 (1 + (Int.tmod (w64 (p1)) 8)))))] [] (fun fb => by kernel_rfl) rfl trivial ?_
  obtain ⟨t896, ht897, hx894⟩ := bind_some hx894
  refine WL.call (some 33) 41 #[(.slice A_p0 p0.length c_p0), (iv (w64 (1 + (Int.tmod (w64 (p1)) 8))))] (fun fb => by kernel_rfl) (law05_heavy_calls _ p0 (w64 (1 + (Int.tmod (w64 (p1)) 8))) A_p0 c_p0 t896 _ (hS621.rd 0) ht897) (fun v w898 hR899 => ?_)
  obtain ⟨rfl, hk_⟩ := hR899
  have hS900 := hS621.keepN hk_
  refine ⟨trivial, ?_⟩
  refine seg 13 [] [0, 2, 7, 34] [(0, (.slice A_p0 p0.length c_p0)), (2, (.int .u8 p2)), (7, (iv (w64 (1 + (Int.tmod (w64 (p1)) 8))))), (34, (.bool t896))] [] (fun fb => by kernel_rfl) rfl trivial ?_
  injection hx894 with hx894
  exact WL.to K t896 [0, 2, 7, 34] rfl ⟨⟨(hS900.subR [0, 1]).sub [] (by decide), hx894.symm⟩, trivial⟩
 rintro y901 w903 ⟨⟨hS904, hq902⟩, hF905⟩
 subst hq902
 refine seg 14 [] [0, 2, 7, 35] [(0, (.slice A_p0 p0.length c_p0)), (2, (.int .u8 p2)), (7, (iv (w64 (1 + (Int.tmod (w64 (p1)) 8))))), (35, (.bool x893))] [] (fun fb => by kernel_rfl) rfl trivial ?_
 obtain ⟨x917, hx918, hf⟩ := bind_some hf
 refine WL.cutW (T := Bool) 18 (fun t => [(0, (.slice A_p0 p0.length c_p0)), (2, (.int .u8 p2)), (7, (iv (w64 (1 + (Int.tmod (w64 (p1)) 8))))), (39, (.bool t))]) (fun t w1 => (St NoS w w1 [rowR enc_Tile A_p0 c_p0 p0, cel ⟨2, 0, none⟩ (iv mG)] [] ∧ x917 = t) ∧ CellsOK [] w1) (fun K => ?_) ?_
 ·
  rcases br_some hx918 with ⟨h919, hx918⟩ | ⟨h919, hx918⟩
  ·
   refine WL.setB 35 h919 rfl ?_
   refine seg 18 [] [0, 2, 7, 39] [(0, (.slice A_p0 p0.length c_p0)), (2, (.int .u8 p2)), (7, (iv (w64 (1 + (Int.tmod (w64 (p1)) 8))))), (39, (.bool true))] [] (fun fb => by kernel_rfl) rfl trivial ?_
   injection hx918 with hx918
   exact WL.to K true [0, 2, 7, 39] rfl ⟨⟨(hS904.subR [0, 1]).sub [] (by decide), hx918.symm⟩, trivial⟩
  refine WL.setB 35 h919 rfl ?_
  refine seg 16 [] [0, 2, 7, 35, 36, 37] [(0, (.slice A_p0 p0.length c_p0)), (2, (.int .u8 p2)), (7, (iv (w64 (1 + (Int.tmod (w64 (p1)) 8))))), (35, (.bool false)), (36, (.slice A_p0 p0.length c_p0)), (37, (iv (w64 (1 + (Int.tmod (w64 (p1)) 8)))))] [] (fun fb => by kernel_rfl) rfl trivial ?_
  obtain ⟨t920, ht921, hx918⟩ := bind_some hx918
  refine WL.call (some 38) 19 #[(.slice A_p0 p0.length c_p0), (iv (w64 (1 + (Int.tmod (w64 (p1)) 8))))] (fun fb => by kernel_rfl) (ref02_Great_calls _ p0 (w64 (1 + (Int.tmod (w64 (p1)) 8))) A_p0 c_p0 t920 _ (hS904.rd 0) ht921) (fun v w922 hR923 => ?_)
  obtain ⟨rfl, hk_⟩ := hR923
  have hS924 := hS904.keepN hk_
  refine ⟨trivial, ?_⟩
  refine seg 18 [] [0, 2, 7, 39] [(0, (.slice A_p0 p0.length c_p0)), (2, (.int .u8 p2)), (7, (iv (w64 (1 + (Int.tmod (w64 (p1)) 8))))), (39, (.bool t920))] [] (fun fb => by kernel_rfl) rfl trivial ?_
  injection hx918 with hx918
  exact WL.to K t920 [0, 2, 7, 39] rfl ⟨⟨(hS924.subR [0, 1]).sub [] (by decide), hx918.symm⟩, trivial⟩
 rintro y925 w927 ⟨⟨hS928, hq926⟩, hF929⟩
 subst hq926
 refine WL.done rfl ?_
 refine WX.next ?_
 rcases br_some hf with ⟨h930, hf⟩ | ⟨h930, hf⟩
 ·refine WC.condT2 (fun fb => by kernel_rfl) h930 ?_
  refine WC.seq ?_
  refine WC.region ?_
  obtain ⟨t7952, ht7953, hf⟩ := bind_some hf
  refine WL.call (some 40) 40 #[] (fun fb => by kernel_rfl) (law05_awake_calls _ mG t7952 _ (hS928.rd 1) ht7953) (fun v w7954 hR7955 => ?_)
  obtain ⟨rfl, hk_⟩ := hR7955
  have hS7956 := hS928.keepN hk_
  refine ⟨trivial, ?_⟩
  refine seg 2 [] [6] [(6, (.bool t7952))] [] (fun fb => by kernel_rfl) rfl trivial ?_
  refine WL.done rfl ?_
  refine WX.next ?_
  refine WC.ret ?_
  injection hf with hf
  subst hf
  exact WX.thenR (WX.ret_ [] (.bool t7952) [] (fun fb => by kernel_rfl) trivial ⟨_, rfl, rfl, hS7956.keep⟩)
 refine WC.condF2 (fun fb => by kernel_rfl) h930 ?_
 refine WC.skip ?_
 refine WX.next ?_
 refine WC.seq ?_
 refine WC.region ?_
 refine seg 1 [] [0, 2, 7, 8] [(0, (.slice A_p0 p0.length c_p0)), (2, (.int .u8 p2)), (7, (iv (w64 (1 + (Int.tmod (w64 (p1)) 8))))), (8, (iv 0))] [] (fun fb => by kernel_rfl) rfl trivial ?_
 refine WL.done rfl ?_
 refine WX.next ?_
 refine WC.seq ?_
 refine WC.seq ?_
 refine WC.region ?_
 refine seg 1 [] [0, 2, 7, 8, 9] [(0, (.slice A_p0 p0.length c_p0)), (2, (.int .u8 p2)), (7, (iv (w64 (1 + (Int.tmod (w64 (p1)) 8))))), (8, (iv 0)), (9, (iv 1))] [] (fun fb => by kernel_rfl) rfl trivial ?_
 refine WL.done rfl ?_
 refine WX.next ?_
 obtain ⟨x8006, hx8007, hf⟩ := bind_some hf
 refine WC.cutN (T := Int) (fun t => [(0, (.slice A_p0 p0.length c_p0)), (2, (.int .u8 p2)), (7, (iv (w64 (1 + (Int.tmod (w64 (p1)) 8))))), (8, (iv t))]) (fun t w1 => St NoS w w1 [rowR enc_Tile A_p0 c_p0 p0, cel ⟨2, 0, none⟩ (iv mG)] [] ∧ x8006 = .inr t) (fun Kx8006 => ?_) ?_
 ·
  refine WC.block ?_
  refine WC.loop (T := Int × Int) (fun t => [(0, (.slice A_p0 p0.length c_p0)), (2, (.int .u8 p2)), (7, (iv (w64 (1 + (Int.tmod (w64 (p1)) 8))))), (8, (iv t.1)), (9, (iv t.2))]) (fun n t w1 => St NoS w w1 [rowR enc_Tile A_p0 c_p0 p0, cel ⟨2, 0, none⟩ (iv mG)] [] ∧ law05_SquareFalls.l0 n t.1 t.2 p0 p1 = some x8006) k (0, 1) [0, 2, 7, 8, 9] rfl ⟨(hS928.subR [0, 1]).sub [] (by decide), hx8007⟩ ?_
  rintro k8008 ⟨x8003, x8004⟩ w8009 ⟨hS8010, hl8011⟩
  cases k8008 with
  | zero => rw [law05_SquareFalls.l0] at hl8011; cases hl8011
  | succ k8008 =>
   rw [law05_SquareFalls.l0] at hl8011
   refine WC.seq ?_
   refine WC.seq ?_
   refine WC.region ?_
   refine seg 3 [] [0, 2, 7, 8, 9, 43] [(0, (.slice A_p0 p0.length c_p0)), (2, (.int .u8 p2)), (7, (iv (w64 (1 + (Int.tmod (w64 (p1)) 8))))), (8, (iv x8003)), (9, (iv x8004)), (43, (.bool (decide (x8004 ≤ w64 (1 + (Int.tmod (w64 (p1)) 8))))))] [] (fun fb => by kernel_rfl) rfl trivial ?_
   refine WL.done rfl ?_
   refine WX.next ?_
   rcases br_some hl8011 with ⟨h8012, hl8011⟩ | ⟨h8012, hl8011⟩
   ·refine WC.condT2 (fun fb => by kernel_rfl) h8012 ?_
    refine WC.skip ?_
    refine WX.next ?_
    refine WC.seq ?_
    refine WC.block ?_
    refine WC.seq ?_
    refine WC.region ?_
    refine seg 2 [] [0, 2, 7, 8, 9, 47, 48] [(0, (.slice A_p0 p0.length c_p0)), (2, (.int .u8 p2)), (7, (iv (w64 (1 + (Int.tmod (w64 (p1)) 8))))), (8, (iv x8003)), (9, (iv x8004)), (47, (.slice A_p0 p0.length c_p0)), (48, (iv x8004))] [] (fun fb => by kernel_rfl) rfl trivial ?_
    obtain ⟨t8013, ht8014, hl8011⟩ := bind_some hl8011
    refine WL.call (some 49) 44 #[(.slice A_p0 p0.length c_p0), (iv x8004)] (fun fb => by kernel_rfl) (square_Exists_calls _ p0 x8004 A_p0 c_p0 t8013 _ (hS8010.rd 0) ht8014) (fun v w8015 hR8016 => ?_)
    obtain ⟨rfl, hk_⟩ := hR8016
    have hS8017 := hS8010.keepN hk_
    refine ⟨trivial, ?_⟩
    refine seg 8 [] [0, 2, 7, 8, 9, 10, 11] [(0, (.slice A_p0 p0.length c_p0)), (2, (.int .u8 p2)), (7, (iv (w64 (1 + (Int.tmod (w64 (p1)) 8))))), (8, (iv x8003)), (9, (iv x8004)), (10, (.bool t8013.1)), (11, (iv t8013.2))] [] (fun fb => by kernel_rfl) rfl trivial ?_
    refine WL.done rfl ?_
    refine WX.next ?_
    refine WC.seq ?_
    refine WC.seq ?_
    refine WC.region ?_
    refine seg 3 [] [0, 2, 7, 8, 9, 10, 54] [(0, (.slice A_p0 p0.length c_p0)), (2, (.int .u8 p2)), (7, (iv (w64 (1 + (Int.tmod (w64 (p1)) 8))))), (8, (iv x8003)), (9, (iv x8004)), (10, (.bool t8013.1)), (54, (.bool (t8013.2 != 0)))] [] (fun fb => by kernel_rfl) rfl trivial ?_
    refine WL.cutV (T := Bool) 11 (fun t => [(62, (.bool t)), (0, (.slice A_p0 p0.length c_p0)), (2, (.int .u8 p2)), (7, (iv (w64 (1 + (Int.tmod (w64 (p1)) 8))))), (8, (iv x8003)), (9, (iv x8004)), (10, (.bool t8013.1))]) (fun t => ((t8013.2 != 0) || (t8013.1 && (decide (x8003 < w64 (x8004 - 1))))) = t) (fun K => ?_) ?_
    ·
     rcases Bool.eq_false_or_eq_true (t8013.2 != 0) with h8020 | h8020
     ·
      refine WL.setB 54 h8020 rfl ?_
      refine seg 11 [] [0, 2, 7, 8, 9, 10, 62] [(0, (.slice A_p0 p0.length c_p0)), (2, (.int .u8 p2)), (7, (iv (w64 (1 + (Int.tmod (w64 (p1)) 8))))), (8, (iv x8003)), (9, (iv x8004)), (10, (.bool t8013.1)), (62, (.bool true))] [] (fun fb => by kernel_rfl) rfl trivial ?_
      exact WL.toV K true [62, 0, 2, 7, 8, 9, 10] rfl (by first | (rw [h8020]; done) | (rw [h8020]; rfl))
     refine WL.setB 54 h8020 rfl ?_
     refine seg 5 [] [0, 2, 7, 8, 9, 10, 54, 56] [(0, (.slice A_p0 p0.length c_p0)), (2, (.int .u8 p2)), (7, (iv (w64 (1 + (Int.tmod (w64 (p1)) 8))))), (8, (iv x8003)), (9, (iv x8004)), (10, (.bool t8013.1)), (54, (.bool false)), (56, (.bool t8013.1))] [] (fun fb => by kernel_rfl) rfl trivial ?_
     refine WL.cutV (T := Bool) 10 (fun t => [(61, (.bool t)), (0, (.slice A_p0 p0.length c_p0)), (2, (.int .u8 p2)), (7, (iv (w64 (1 + (Int.tmod (w64 (p1)) 8))))), (8, (iv x8003)), (9, (iv x8004)), (10, (.bool t8013.1)), (54, (.bool false))]) (fun t => (t8013.1 && (decide (x8003 < w64 (x8004 - 1)))) = t) (fun K => ?_) ?_
     ·
      rcases Bool.eq_false_or_eq_true t8013.1 with h8021 | h8021
      ·
       refine WL.setB 56 h8021 rfl ?_
       refine seg 10 [] [0, 2, 7, 8, 9, 10, 54, 61] [(0, (.slice A_p0 p0.length c_p0)), (2, (.int .u8 p2)), (7, (iv (w64 (1 + (Int.tmod (w64 (p1)) 8))))), (8, (iv x8003)), (9, (iv x8004)), (10, (.bool t8013.1)), (54, (.bool false)), (61, (.bool (decide (x8003 < w64 (x8004 - 1)))))] [] (fun fb => by kernel_rfl) rfl trivial ?_
       exact WL.toV K (decide (x8003 < w64 (x8004 - 1))) [61, 0, 2, 7, 8, 9, 10, 54] rfl (by first | (rw [h8021]; done) | (rw [h8021]; rfl))
      refine WL.setB 56 h8021 rfl ?_
      refine seg 10 [] [0, 2, 7, 8, 9, 10, 54, 61] [(0, (.slice A_p0 p0.length c_p0)), (2, (.int .u8 p2)), (7, (iv (w64 (1 + (Int.tmod (w64 (p1)) 8))))), (8, (iv x8003)), (9, (iv x8004)), (10, (.bool t8013.1)), (54, (.bool false)), (61, (.bool false))] [] (fun fb => by kernel_rfl) rfl trivial ?_
      exact WL.toV K false [61, 0, 2, 7, 8, 9, 10, 54] rfl (by first | (rw [h8021]; done) | (rw [h8021]; rfl))
     rintro b8022 rfl
     refine seg 11 [] [0, 2, 7, 8, 9, 10, 62] [(0, (.slice A_p0 p0.length c_p0)), (2, (.int .u8 p2)), (7, (iv (w64 (1 + (Int.tmod (w64 (p1)) 8))))), (8, (iv x8003)), (9, (iv x8004)), (10, (.bool t8013.1)), (62, (.bool (t8013.1 && (decide (x8003 < w64 (x8004 - 1))))))] [] (fun fb => by kernel_rfl) rfl trivial ?_
     exact WL.toV K (t8013.1 && (decide (x8003 < w64 (x8004 - 1)))) [62, 0, 2, 7, 8, 9, 10] rfl (by first | (rw [h8020]; done) | (rw [h8020]; rfl))
    rintro b8023 rfl
    refine WL.done rfl ?_
    refine WX.next ?_
    rcases br_some hl8011 with ⟨h8024, hl8011⟩ | ⟨h8024, hl8011⟩
    ·refine WC.condT2 (fun fb => by kernel_rfl) h8024 ?_
     refine WC.seq ?_
     refine WC.region ?_
     refine seg 1 [] [6] [(6, (.bool false))] [] (fun fb => by kernel_rfl) rfl trivial ?_
     refine WL.done rfl ?_
     refine WX.next ?_
     refine WC.ret ?_
     injection hl8011 with hl8011
     subst hl8011
     injection hf with hf
     subst hf
     exact WX.thenR (WX.blockR (WX.thenR (WX.thenR (WX.blockR (WX.thenR (WX.ret_ [] (.bool false) [] (fun fb => by kernel_rfl) trivial ⟨_, rfl, rfl, hS8017.keep⟩))))))
    refine WC.condF2 (fun fb => by kernel_rfl) h8024 ?_
    refine WC.skip ?_
    refine WX.next ?_
    refine WC.seq ?_
    refine WC.region ?_
    refine seg 1 [] [0, 2, 7, 8, 9, 63] [(0, (.slice A_p0 p0.length c_p0)), (2, (.int .u8 p2)), (7, (iv (w64 (1 + (Int.tmod (w64 (p1)) 8))))), (8, (iv x8003)), (9, (iv x8004)), (63, (.bool t8013.1))] [] (fun fb => by kernel_rfl) rfl trivial ?_
    refine WL.done rfl ?_
    refine WX.next ?_
    obtain ⟨x8027, hx8028, hl8011⟩ := bind_some hl8011
    refine WC.cutN (T := Int) (fun t => [(0, (.slice A_p0 p0.length c_p0)), (2, (.int .u8 p2)), (7, (iv (w64 (1 + (Int.tmod (w64 (p1)) 8))))), (8, (iv t)), (9, (iv x8004))]) (fun t w1 => St NoS w w1 [rowR enc_Tile A_p0 c_p0 p0, cel ⟨2, 0, none⟩ (iv mG)] [] ∧ x8027 = t) (fun Kx8027 => ?_) ?_
    ·
     rcases br_some hx8028 with ⟨h8029, hx8028⟩ | ⟨h8029, hx8028⟩
     ·refine WC.condT2 (fun fb => by kernel_rfl) h8029 ?_
      refine WC.region ?_
      refine seg 2 [] [0, 2, 7, 8, 9] [(0, (.slice A_p0 p0.length c_p0)), (2, (.int .u8 p2)), (7, (iv (w64 (1 + (Int.tmod (w64 (p1)) 8))))), (8, (iv x8004)), (9, (iv x8004))] [] (fun fb => by kernel_rfl) rfl trivial ?_
      refine WL.done rfl ?_
      injection hx8028 with hx8028
      exact WX.to Kx8027 x8004 [0, 2, 7, 8, 9] rfl ⟨(hS8017.subR [0, 1]).sub [] (by decide), hx8028.symm⟩
     refine WC.condF2 (fun fb => by kernel_rfl) h8029 ?_
     refine WC.skip ?_
     injection hx8028 with hx8028
     exact WX.to Kx8027 x8003 [0, 2, 7, 8, 9] rfl ⟨(hS8017.subR [0, 1]).sub [] (by decide), hx8028.symm⟩
    rintro y8033 w8030 ⟨hS8031, hq8032⟩
    subst hq8032
    refine WX.blockN (WX.next ?_)
    refine WC.region ?_
    refine seg 3 [] [0, 2, 7, 8, 9] [(0, (.slice A_p0 p0.length c_p0)), (2, (.int .u8 p2)), (7, (iv (w64 (1 + (Int.tmod (w64 (p1)) 8))))), (8, (iv x8027)), (9, (iv (w64 (x8004 + 1))))] [] (fun fb => by kernel_rfl) rfl trivial ?_
    refine WL.done rfl ?_
    exact WX.again k8008 (Nat.lt_succ_self _) (x8027, w64 (x8004 + 1)) [0, 2, 7, 8, 9] rfl ⟨(hS8031.subR [0, 1]).sub [] (by decide), hl8011⟩
   refine WC.condF2 (fun fb => by kernel_rfl) h8012 ?_
   refine WC.exit ?_
   injection hl8011 with hl8011
   exact WX.thenX (WX.thenX (WX.blockHere (WX.to Kx8006 x8003 [0, 2, 7, 8] rfl ⟨(hS8010.subR [0, 1]).sub [] (by decide), hl8011.symm⟩)))
 rintro y8037 w8034 ⟨hS8035, hq8036⟩
 subst hq8036
 have hf := sum_inr hf
 refine WX.next ?_
 refine WC.seq ?_
 refine WC.region ?_
 refine seg 2 [] [0, 2, 7, 8, 66, 67] [(0, (.slice A_p0 p0.length c_p0)), (2, (.int .u8 p2)), (7, (iv (w64 (1 + (Int.tmod (w64 (p1)) 8))))), (8, (iv y8037)), (66, (.slice A_p0 p0.length c_p0)), (67, (iv (w64 (1 + (Int.tmod (w64 (p1)) 8)))))] [] (fun fb => by kernel_rfl) rfl trivial ?_
 obtain ⟨t8039, ht8040, hf⟩ := bind_some hf
 refine WL.call (some 68) 45 #[(.slice A_p0 p0.length c_p0), (iv (w64 (1 + (Int.tmod (w64 (p1)) 8))))] (fun fb => by kernel_rfl) (square_Largest_calls _ p0 (w64 (1 + (Int.tmod (w64 (p1)) 8))) A_p0 c_p0 t8039 _ (hS8035.rd 0) ht8040) (fun v w8041 hR8042 => ?_)
 obtain ⟨rfl, hk_⟩ := hR8042
 have hS8043 := hS8035.keepN hk_
 refine ⟨trivial, ?_⟩
 refine seg 8 [] [0, 2, 7, 8, 12, 13] [(0, (.slice A_p0 p0.length c_p0)), (2, (.int .u8 p2)), (7, (iv (w64 (1 + (Int.tmod (w64 (p1)) 8))))), (8, (iv y8037)), (12, (iv t8039.1)), (13, (iv t8039.2))] [] (fun fb => by kernel_rfl) rfl trivial ?_
 refine WL.done rfl ?_
 refine WX.next ?_
 refine WC.seq ?_
 refine WC.seq ?_
 refine WC.region ?_
 refine seg 4 [] [0, 2, 7, 8, 12, 13, 74] [(0, (.slice A_p0 p0.length c_p0)), (2, (.int .u8 p2)), (7, (iv (w64 (1 + (Int.tmod (w64 (p1)) 8))))), (8, (iv y8037)), (12, (iv t8039.1)), (13, (iv t8039.2)), (74, (.bool (y8037 == (w64 (1 + (Int.tmod (w64 (p1)) 8))))))] [] (fun fb => by kernel_rfl) rfl trivial ?_
 refine WL.cutV (T := Bool) 7 (fun t => [(77, (.bool t)), (0, (.slice A_p0 p0.length c_p0)), (2, (.int .u8 p2)), (7, (iv (w64 (1 + (Int.tmod (w64 (p1)) 8))))), (8, (iv y8037)), (12, (iv t8039.1)), (13, (iv t8039.2))]) (fun t => ((y8037 == (w64 (1 + (Int.tmod (w64 (p1)) 8)))) && (t8039.2 != 6)) = t) (fun K => ?_) ?_
 ·
  rcases Bool.eq_false_or_eq_true (y8037 == (w64 (1 + (Int.tmod (w64 (p1)) 8)))) with h8044 | h8044
  ·
   refine WL.setB 74 h8044 rfl ?_
   refine seg 7 [] [0, 2, 7, 8, 12, 13, 77] [(0, (.slice A_p0 p0.length c_p0)), (2, (.int .u8 p2)), (7, (iv (w64 (1 + (Int.tmod (w64 (p1)) 8))))), (8, (iv y8037)), (12, (iv t8039.1)), (13, (iv t8039.2)), (77, (.bool (t8039.2 != 6)))] [] (fun fb => by kernel_rfl) rfl trivial ?_
   exact WL.toV K (t8039.2 != 6) [77, 0, 2, 7, 8, 12, 13] rfl (by first | (rw [h8044]; done) | (rw [h8044]; rfl))
  refine WL.setB 74 h8044 rfl ?_
  refine seg 7 [] [0, 2, 7, 8, 12, 13, 77] [(0, (.slice A_p0 p0.length c_p0)), (2, (.int .u8 p2)), (7, (iv (w64 (1 + (Int.tmod (w64 (p1)) 8))))), (8, (iv y8037)), (12, (iv t8039.1)), (13, (iv t8039.2)), (77, (.bool false))] [] (fun fb => by kernel_rfl) rfl trivial ?_
  exact WL.toV K false [77, 0, 2, 7, 8, 12, 13] rfl (by first | (rw [h8044]; done) | (rw [h8044]; rfl))
 rintro b8045 rfl
 refine seg 8 [] [0, 2, 7, 8, 12, 13, 78] [(0, (.slice A_p0 p0.length c_p0)), (2, (.int .u8 p2)), (7, (iv (w64 (1 + (Int.tmod (w64 (p1)) 8))))), (8, (iv y8037)), (12, (iv t8039.1)), (13, (iv t8039.2)), (78, (.bool ((y8037 == (w64 (1 + (Int.tmod (w64 (p1)) 8)))) && (t8039.2 != 6))))] [] (fun fb => by kernel_rfl) rfl trivial ?_
 refine WL.cutV (T := Bool) 21 (fun t => [(91, (.bool t)), (0, (.slice A_p0 p0.length c_p0)), (2, (.int .u8 p2)), (7, (iv (w64 (1 + (Int.tmod (w64 (p1)) 8))))), (8, (iv y8037))]) (fun t => (((y8037 == (w64 (1 + (Int.tmod (w64 (p1)) 8)))) && (t8039.2 != 6)) || ((decide (y8037 < w64 (1 + (Int.tmod (w64 (p1)) 8)))) && ((t8039.2 != 0) || (t8039.1 != y8037)))) = t) (fun K => ?_) ?_
 ·
  rcases Bool.eq_false_or_eq_true ((y8037 == (w64 (1 + (Int.tmod (w64 (p1)) 8)))) && (t8039.2 != 6)) with h8052 | h8052
  ·
   refine WL.setB 78 h8052 rfl ?_
   refine seg 21 [] [0, 2, 7, 8, 91] [(0, (.slice A_p0 p0.length c_p0)), (2, (.int .u8 p2)), (7, (iv (w64 (1 + (Int.tmod (w64 (p1)) 8))))), (8, (iv y8037)), (91, (.bool true))] [] (fun fb => by kernel_rfl) rfl trivial ?_
   exact WL.toV K true [91, 0, 2, 7, 8] rfl (by first | (rw [h8052]; done) | (rw [h8052]; rfl))
  refine WL.setB 78 h8052 rfl ?_
  refine seg 12 [] [0, 2, 7, 8, 12, 13, 78, 82] [(0, (.slice A_p0 p0.length c_p0)), (2, (.int .u8 p2)), (7, (iv (w64 (1 + (Int.tmod (w64 (p1)) 8))))), (8, (iv y8037)), (12, (iv t8039.1)), (13, (iv t8039.2)), (78, (.bool false)), (82, (.bool (decide (y8037 < w64 (1 + (Int.tmod (w64 (p1)) 8))))))] [] (fun fb => by kernel_rfl) rfl trivial ?_
  refine WL.cutV (T := Bool) 20 (fun t => [(90, (.bool t)), (0, (.slice A_p0 p0.length c_p0)), (2, (.int .u8 p2)), (7, (iv (w64 (1 + (Int.tmod (w64 (p1)) 8))))), (8, (iv y8037)), (78, (.bool false))]) (fun t => ((decide (y8037 < w64 (1 + (Int.tmod (w64 (p1)) 8)))) && ((t8039.2 != 0) || (t8039.1 != y8037))) = t) (fun K => ?_) ?_
  ·
   rcases Bool.eq_false_or_eq_true (decide (y8037 < w64 (1 + (Int.tmod (w64 (p1)) 8)))) with h8055 | h8055
   ·
    refine WL.setB 82 h8055 rfl ?_
    refine seg 15 [] [0, 2, 7, 8, 12, 78, 82, 85] [(0, (.slice A_p0 p0.length c_p0)), (2, (.int .u8 p2)), (7, (iv (w64 (1 + (Int.tmod (w64 (p1)) 8))))), (8, (iv y8037)), (12, (iv t8039.1)), (78, (.bool false)), (82, (.bool true)), (85, (.bool (t8039.2 != 0)))] [] (fun fb => by kernel_rfl) rfl trivial ?_
    refine WL.cutV (T := Bool) 19 (fun t => [(89, (.bool t)), (0, (.slice A_p0 p0.length c_p0)), (2, (.int .u8 p2)), (7, (iv (w64 (1 + (Int.tmod (w64 (p1)) 8))))), (8, (iv y8037)), (78, (.bool false)), (82, (.bool true))]) (fun t => ((t8039.2 != 0) || (t8039.1 != y8037)) = t) (fun K => ?_) ?_
    ·
     rcases Bool.eq_false_or_eq_true (t8039.2 != 0) with h8056 | h8056
     ·
      refine WL.setB 85 h8056 rfl ?_
      refine seg 19 [] [0, 2, 7, 8, 78, 82, 89] [(0, (.slice A_p0 p0.length c_p0)), (2, (.int .u8 p2)), (7, (iv (w64 (1 + (Int.tmod (w64 (p1)) 8))))), (8, (iv y8037)), (78, (.bool false)), (82, (.bool true)), (89, (.bool true))] [] (fun fb => by kernel_rfl) rfl trivial ?_
      exact WL.toV K true [89, 0, 2, 7, 8, 78, 82] rfl (by first | (rw [h8056]; done) | (rw [h8056]; rfl))
     refine WL.setB 85 h8056 rfl ?_
     refine seg 19 [] [0, 2, 7, 8, 78, 82, 89] [(0, (.slice A_p0 p0.length c_p0)), (2, (.int .u8 p2)), (7, (iv (w64 (1 + (Int.tmod (w64 (p1)) 8))))), (8, (iv y8037)), (78, (.bool false)), (82, (.bool true)), (89, (.bool (t8039.1 != y8037)))] [] (fun fb => by kernel_rfl) rfl trivial ?_
     exact WL.toV K (t8039.1 != y8037) [89, 0, 2, 7, 8, 78, 82] rfl (by first | (rw [h8056]; done) | (rw [h8056]; rfl))
    rintro b8057 rfl
    refine seg 20 [] [0, 2, 7, 8, 78, 90] [(0, (.slice A_p0 p0.length c_p0)), (2, (.int .u8 p2)), (7, (iv (w64 (1 + (Int.tmod (w64 (p1)) 8))))), (8, (iv y8037)), (78, (.bool false)), (90, (.bool ((t8039.2 != 0) || (t8039.1 != y8037))))] [] (fun fb => by kernel_rfl) rfl trivial ?_
    exact WL.toV K ((t8039.2 != 0) || (t8039.1 != y8037)) [90, 0, 2, 7, 8, 78] rfl (by first | (rw [h8055]; done) | (rw [h8055]; rfl))
   refine WL.setB 82 h8055 rfl ?_
   refine seg 20 [] [0, 2, 7, 8, 78, 90] [(0, (.slice A_p0 p0.length c_p0)), (2, (.int .u8 p2)), (7, (iv (w64 (1 + (Int.tmod (w64 (p1)) 8))))), (8, (iv y8037)), (78, (.bool false)), (90, (.bool false))] [] (fun fb => by kernel_rfl) rfl trivial ?_
   exact WL.toV K false [90, 0, 2, 7, 8, 78] rfl (by first | (rw [h8055]; done) | (rw [h8055]; rfl))
  rintro b8058 rfl
  refine seg 21 [] [0, 2, 7, 8, 91] [(0, (.slice A_p0 p0.length c_p0)), (2, (.int .u8 p2)), (7, (iv (w64 (1 + (Int.tmod (w64 (p1)) 8))))), (8, (iv y8037)), (91, (.bool ((decide (y8037 < w64 (1 + (Int.tmod (w64 (p1)) 8)))) && ((t8039.2 != 0) || (t8039.1 != y8037)))))] [] (fun fb => by kernel_rfl) rfl trivial ?_
  exact WL.toV K ((decide (y8037 < w64 (1 + (Int.tmod (w64 (p1)) 8)))) && ((t8039.2 != 0) || (t8039.1 != y8037))) [91, 0, 2, 7, 8] rfl (by first | (rw [h8052]; done) | (rw [h8052]; rfl))
 rintro b8059 rfl
 refine WL.done rfl ?_
 refine WX.next ?_
 rcases br_some hf with ⟨h8060, hf⟩ | ⟨h8060, hf⟩
 ·refine WC.condT2 (fun fb => by kernel_rfl) h8060 ?_
  refine WC.seq ?_
  refine WC.region ?_
  refine seg 1 [] [6] [(6, (.bool false))] [] (fun fb => by kernel_rfl) rfl trivial ?_
  refine WL.done rfl ?_
  refine WX.next ?_
  refine WC.ret ?_
  injection hf with hf
  subst hf
  exact WX.thenR (WX.ret_ [] (.bool false) [] (fun fb => by kernel_rfl) trivial ⟨_, rfl, rfl, hS8043.keep⟩)
 refine WC.condF2 (fun fb => by kernel_rfl) h8060 ?_
 refine WC.skip ?_
 refine WX.next ?_
 refine WC.seq ?_
 refine WC.seq ?_
 refine WC.region ?_
 refine seg 3 [] [0, 2, 7, 8, 94] [(0, (.slice A_p0 p0.length c_p0)), (2, (.int .u8 p2)), (7, (iv (w64 (1 + (Int.tmod (w64 (p1)) 8))))), (8, (iv y8037)), (94, (.bool ((p0.length : Int) == 0)))] [] (fun fb => by kernel_rfl) rfl trivial ?_
 refine WL.done rfl ?_
 refine WX.next ?_
 rcases br_some hf with ⟨h8061, hf⟩ | ⟨h8061, hf⟩
 ·refine WC.condT2 (fun fb => by kernel_rfl) h8061 ?_
  refine WC.seq ?_
  refine WC.region ?_
  refine seg 3 [] [97] [(97, (.bool (y8037 == 0)))] [] (fun fb => by kernel_rfl) rfl trivial ?_
  obtain ⟨x8068, hx8069, hf⟩ := bind_some hf
  refine WL.cutW (T := Bool) 5 (fun t => [(99, (.bool t))]) (fun t w1 => (St NoS w w1 [rowR enc_Tile A_p0 c_p0 p0, cel ⟨2, 0, none⟩ (iv mG)] [] ∧ x8068 = t) ∧ CellsOK [] w1) (fun K => ?_) ?_
  ·
   rcases br_some hx8069 with ⟨h8070, hx8069⟩ | ⟨h8070, hx8069⟩
   ·
    refine WL.setB 97 h8070 rfl ?_
    obtain ⟨t8071, ht8072, hx8069⟩ := bind_some hx8069
    refine WL.call (some 98) 40 #[] (fun fb => by kernel_rfl) (law05_awake_calls _ mG t8071 _ (hS8043.rd 1) ht8072) (fun v w8073 hR8074 => ?_)
    obtain ⟨rfl, hk_⟩ := hR8074
    have hS8075 := hS8043.keepN hk_
    refine ⟨trivial, ?_⟩
    refine seg 5 [] [99] [(99, (.bool t8071))] [] (fun fb => by kernel_rfl) rfl trivial ?_
    injection hx8069 with hx8069
    exact WL.to K t8071 [99] rfl ⟨⟨(hS8075.subR [0, 1]).sub [] (by decide), hx8069.symm⟩, trivial⟩
   refine WL.setB 97 h8070 rfl ?_
   refine seg 5 [] [99] [(99, (.bool false))] [] (fun fb => by kernel_rfl) rfl trivial ?_
   injection hx8069 with hx8069
   exact WL.to K false [99] rfl ⟨⟨(hS8043.subR [0, 1]).sub [] (by decide), hx8069.symm⟩, trivial⟩
  rintro y8076 w8078 ⟨⟨hS8079, hq8077⟩, hF8080⟩
  subst hq8077
  refine seg 6 [] [6] [(6, (.bool x8068))] [] (fun fb => by kernel_rfl) rfl trivial ?_
  refine WL.done rfl ?_
  refine WX.next ?_
  refine WC.ret ?_
  injection hf with hf
  subst hf
  exact WX.thenR (WX.ret_ [] (.bool x8068) [] (fun fb => by kernel_rfl) trivial ⟨_, rfl, rfl, hS8079.keep⟩)
 refine WC.condF2 (fun fb => by kernel_rfl) h8061 ?_
 refine WC.skip ?_
 refine WX.next ?_
 refine WC.seq ?_
 refine WC.region ?_
 refine seg 4 [] [0, 7, 8, 101, 103] [(0, (.slice A_p0 p0.length c_p0)), (7, (iv (w64 (1 + (Int.tmod (w64 (p1)) 8))))), (8, (iv y8037)), (101, (iv (w64 (p2)))), (103, (iv (p0.length : Int)))] [] (fun fb => by kernel_rfl) rfl trivial ?_
 obtain ⟨h8081, hf⟩ := as_some hf
 refine seg 6 [] [0, 7, 8, 14] [(0, (.slice A_p0 p0.length c_p0)), (7, (iv (w64 (1 + (Int.tmod (w64 (p1)) 8))))), (8, (iv y8037)), (14, (iv (Int.tmod (w64 (p2)) (p0.length : Int))))] [.ne (p0.length : Int)] (fun fb => by kernel_rfl) rfl ⟨h8081, trivial⟩ ?_
 refine WL.done rfl ?_
 refine WX.next ?_
 refine WC.seq ?_
 obtain ⟨h8107, hf⟩ := as_some hf
 obtain ⟨h8108, hf⟩ := as_some hf
 refine WC.regionD ([], [1, 2, 3, 5, 6, 7, 8, 10], [[], [], [], [1, 2], [0, 1, 2, 3], [], [], [6], [5, 6, 7], [0, 1, 2, 3, 4, 5, 6, 7, 8], [0, 1, 2, 3, 4, 5, 6, 7, 8, 9]]) [[1, 2, 3, 5, 6, 7, 8, 0, 4, 9, 10]] (by kernel_rfl) (by kernel_rfl) (NoPanic.seq (NoPanic.body)) ?_
 have hS8102 := hS8043.drew
 revert hS8102
 generalize World.drew w8041 = w8101
 intro hS8102
 refine ⟨trivial, forallC ?_ (forallN)⟩
 refine seg 2 [] [0, 7, 8, 14, 106, 107] [(0, (.slice A_p0 p0.length c_p0)), (7, (iv (w64 (1 + (Int.tmod (w64 (p1)) 8))))), (8, (iv y8037)), (14, (iv (Int.tmod (w64 (p2)) (p0.length : Int)))), (106, (.slice A_p0 p0.length c_p0)), (107, (iv (Int.tmod (w64 (p2)) (p0.length : Int))))] [] (fun fb => by kernel_rfl) rfl trivial ?_
 refine seg 3 [] [0, 7, 8, 14, 108] [(0, (.slice A_p0 p0.length c_p0)), (7, (iv (w64 (1 + (Int.tmod (w64 (p1)) 8))))), (8, (iv y8037)), (14, (iv (Int.tmod (w64 (p2)) (p0.length : Int)))), (108, (.slice (subA A_p0 c_p0 (0 : Int).toNat 4) ((Int.tmod (w64 (p2)) (p0.length : Int)).toNat - (0 : Int).toNat) (c_p0 - (0 : Int).toNat)))] [.idx (some ⟨0, 0, none⟩) (0 : Int) ((Int.tmod (w64 (p2)) (p0.length : Int)).toNat + 1), .idx (some ⟨0, 0, none⟩) (Int.tmod (w64 (p2)) (p0.length : Int)) (c_p0 + 1)] (fun fb => by kernel_rfl) rfl ⟨cut1 h8107.1 h8107.2.1, cut2 h8107.1 h8107.2.1 h8107.2.2 (hS8102.rd 0).1.2, trivial⟩ ?_
 refine WL.reE [0, 7, 8, 14, 108] [(0, (.slice A_p0 p0.length c_p0)), (7, (iv (w64 (1 + (Int.tmod (w64 (p1)) 8))))), (8, (iv y8037)), (14, (iv (Int.tmod (w64 (p2)) (p0.length : Int)))), (108, (.slice (subA A_p0 c_p0 (0 : Int).toNat 4) ((Int.tmod (w64 (p2)) (p0.length : Int)).toNat - (0 : Int).toNat) (c_p0 - (0 : Int).toNat)))] [(0, (.slice A_p0 p0.length c_p0)), (7, (iv (w64 (1 + (Int.tmod (w64 (p1)) 8))))), (8, (iv y8037)), (14, (iv (Int.tmod (w64 (p2)) (p0.length : Int)))), (108, (.slice (subA A_p0 c_p0 (0 : Int).toNat 4) (cut p0 (0 : Int) (Int.tmod (w64 (p2)) (p0.length : Int))).length (c_p0 - (0 : Int).toNat)))] rfl (by rw [cut_length h8107.1 h8107.2.1 h8107.2.2]) ?_
 have hS8109 := hS8102.cutR 0 rfl h8107.1 h8107.2.1 h8107.2.2
 refine seg 6 [] [7, 8, 108, 110, 112] [(7, (iv (w64 (1 + (Int.tmod (w64 (p1)) 8))))), (8, (iv y8037)), (108, (.slice (subA A_p0 c_p0 (0 : Int).toNat 4) (cut p0 (0 : Int) (Int.tmod (w64 (p2)) (p0.length : Int))).length (c_p0 - (0 : Int).toNat))), (110, (.slice A_p0 p0.length c_p0)), (112, (iv (w64 ((Int.tmod (w64 (p2)) (p0.length : Int)) + 1))))] [] (fun fb => by kernel_rfl) rfl trivial ?_
 refine seg 7 [] [7, 8, 108, 113] [(7, (iv (w64 (1 + (Int.tmod (w64 (p1)) 8))))), (8, (iv y8037)), (108, (.slice (subA A_p0 c_p0 (0 : Int).toNat 4) (cut p0 (0 : Int) (Int.tmod (w64 (p2)) (p0.length : Int))).length (c_p0 - (0 : Int).toNat))), (113, (.slice (subA A_p0 c_p0 (w64 ((Int.tmod (w64 (p2)) (p0.length : Int)) + 1)).toNat 4) ((p0.length : Int).toNat - (w64 ((Int.tmod (w64 (p2)) (p0.length : Int)) + 1)).toNat) (c_p0 - (w64 ((Int.tmod (w64 (p2)) (p0.length : Int)) + 1)).toNat)))] [.idx (some ⟨0, 0, none⟩) (w64 ((Int.tmod (w64 (p2)) (p0.length : Int)) + 1)) ((p0.length : Int).toNat + 1), .idx (some ⟨0, 0, none⟩) (p0.length : Int) (c_p0 + 1)] (fun fb => by kernel_rfl) rfl ⟨cut1 h8108.1 h8108.2.1, cut2 h8108.1 h8108.2.1 h8108.2.2 (hS8109.rd 1).1.2, trivial⟩ ?_
 refine WL.reE [7, 8, 108, 113] [(7, (iv (w64 (1 + (Int.tmod (w64 (p1)) 8))))), (8, (iv y8037)), (108, (.slice (subA A_p0 c_p0 (0 : Int).toNat 4) (cut p0 (0 : Int) (Int.tmod (w64 (p2)) (p0.length : Int))).length (c_p0 - (0 : Int).toNat))), (113, (.slice (subA A_p0 c_p0 (w64 ((Int.tmod (w64 (p2)) (p0.length : Int)) + 1)).toNat 4) ((p0.length : Int).toNat - (w64 ((Int.tmod (w64 (p2)) (p0.length : Int)) + 1)).toNat) (c_p0 - (w64 ((Int.tmod (w64 (p2)) (p0.length : Int)) + 1)).toNat)))] [(7, (iv (w64 (1 + (Int.tmod (w64 (p1)) 8))))), (8, (iv y8037)), (108, (.slice (subA A_p0 c_p0 (0 : Int).toNat 4) (cut p0 (0 : Int) (Int.tmod (w64 (p2)) (p0.length : Int))).length (c_p0 - (0 : Int).toNat))), (113, (.slice (subA A_p0 c_p0 (w64 ((Int.tmod (w64 (p2)) (p0.length : Int)) + 1)).toNat 4) (cut p0 (w64 ((Int.tmod (w64 (p2)) (p0.length : Int)) + 1)) (p0.length : Int)).length (c_p0 - (w64 ((Int.tmod (w64 (p2)) (p0.length : Int)) + 1)).toNat)))] rfl (by rw [cut_length h8108.1 h8108.2.1 h8108.2.2]) ?_
 have hS8110 := hS8109.cutR 1 rfl h8108.1 h8108.2.1 h8108.2.2
 refine WL.new hS8110 105 [] (fun g => (.slice (some ⟨g, 0, none⟩) 0 0)) (.cells #[] 40 (0, 0)) [] (fun fb g => by kernel_rfl) trivial (fun g8111 w8112 hS8113 => ?_)
 refine ⟨trivial, ?_⟩
 have hS8115 : St NoS w w8112 [rowR enc_Tile (subA A_p0 c_p0 (w64 ((Int.tmod (w64 (p2)) (p0.length : Int)) + 1)).toNat 4) (c_p0 - (w64 ((Int.tmod (w64 (p2)) (p0.length : Int)) + 1)).toNat) (cut p0 (w64 ((Int.tmod (w64 (p2)) (p0.length : Int)) + 1)) (p0.length : Int)), rowR enc_Tile (subA A_p0 c_p0 (0 : Int).toNat 4) (c_p0 - (0 : Int).toNat) (cut p0 (0 : Int) (Int.tmod (w64 (p2)) (p0.length : Int))), rowR enc_Tile A_p0 c_p0 p0, cel ⟨2, 0, none⟩ (iv mG)] [rowO 40 enc_Tile (some ⟨g8111, 0, none⟩) 0 ([] : List Tile)] := hS8113.map1 0 _ (fun h => rowO.ofBlk h rfl (Nat.le_of_ble_eq_true (by kernel_rfl))) (fun _ h => by obtain ⟨_, h1, h2⟩ := h; injection h1 with h1; subst h1; exact h2) [] (by decide) (by decide)
 obtain ⟨h8116, hf⟩ := as_some hf
 refine WL.append hS8115 0 (d := 109) (tS := 22) (z := (.agg #[(iv 0), (iv 0), (iv 0), (iv 0)])) (bytes := 32) (c2 := (c_p0 - (0 : Int).toNat)) rfl (fun fb => by kernel_rfl) (hS8115.rd 1).1 (by kernel_rfl) (by kernel_rfl) rfl (by decide) h8116 (by decide) [] (by decide) (by decide) (fun A8117 c8118 w8119 hS8120 => ?_)
 refine ⟨trivial, ?_⟩
 obtain ⟨h8121, hf⟩ := as_some hf
 refine WL.append hS8120 0 (d := 114) (tS := 22) (z := (.agg #[(iv 0), (iv 0), (iv 0), (iv 0)])) (bytes := 32) (c2 := (c_p0 - (w64 ((Int.tmod (w64 (p2)) (p0.length : Int)) + 1)).toNat)) rfl (fun fb => by kernel_rfl) (hS8120.rd 0).1 (by kernel_rfl) (by kernel_rfl) rfl (by decide) h8121 (by decide) [] (by decide) (by decide) (fun A8122 c8123 w8124 hS8125 => ?_)
 refine ⟨trivial, ?_⟩
 refine seg 11 [] [7, 8, 15] [(7, (iv (w64 (1 + (Int.tmod (w64 (p1)) 8))))), (8, (iv y8037)), (15, (.slice A8122 ((([] : List Tile) ++ (cut p0 (0 : Int) (Int.tmod (w64 (p2)) (p0.length : Int)))) ++ (cut p0 (w64 ((Int.tmod (w64 (p2)) (p0.length : Int)) + 1)) (p0.length : Int))).length c8123))] [] (fun fb => by kernel_rfl) rfl trivial ?_
 refine WL.done rfl ?_
 refine WX.next ?_
 refine WC.seq ?_
 refine WC.region ?_
 refine seg 2 [] [7, 8, 116, 117] [(7, (iv (w64 (1 + (Int.tmod (w64 (p1)) 8))))), (8, (iv y8037)), (116, (.slice A8122 ((([] : List Tile) ++ (cut p0 (0 : Int) (Int.tmod (w64 (p2)) (p0.length : Int)))) ++ (cut p0 (w64 ((Int.tmod (w64 (p2)) (p0.length : Int)) + 1)) (p0.length : Int))).length c8123)), (117, (iv (w64 (1 + (Int.tmod (w64 (p1)) 8)))))] [] (fun fb => by kernel_rfl) rfl trivial ?_
 obtain ⟨t8126, ht8127, hf⟩ := bind_some hf
 refine WL.call (some 118) 44 #[(.slice A8122 ((([] : List Tile) ++ (cut p0 (0 : Int) (Int.tmod (w64 (p2)) (p0.length : Int)))) ++ (cut p0 (w64 ((Int.tmod (w64 (p2)) (p0.length : Int)) + 1)) (p0.length : Int))).length c8123), (iv (w64 (1 + (Int.tmod (w64 (p1)) 8))))] (fun fb => by kernel_rfl) (square_Exists_calls _ ((([] : List Tile) ++ (cut p0 (0 : Int) (Int.tmod (w64 (p2)) (p0.length : Int)))) ++ (cut p0 (w64 ((Int.tmod (w64 (p2)) (p0.length : Int)) + 1)) (p0.length : Int))) (w64 (1 + (Int.tmod (w64 (p1)) 8))) A8122 c8123 t8126 _ (hS8125.ow 0).ofO ht8127) (fun v w8128 hR8129 => ?_)
 obtain ⟨rfl, hk_⟩ := hR8129
 have hS8130 := hS8125.keepN hk_
 refine ⟨trivial, ?_⟩
 refine seg 8 [] [7, 8, 16, 17] [(7, (iv (w64 (1 + (Int.tmod (w64 (p1)) 8))))), (8, (iv y8037)), (16, (.bool t8126.1)), (17, (iv t8126.2))] [] (fun fb => by kernel_rfl) rfl trivial ?_
 refine WL.done rfl ?_
 refine WX.next ?_
 refine WC.seq ?_
 refine WC.region ?_
 refine seg 3 [] [7, 8, 16, 123] [(7, (iv (w64 (1 + (Int.tmod (w64 (p1)) 8))))), (8, (iv y8037)), (16, (.bool t8126.1)), (123, (.bool (t8126.2 == 0)))] [] (fun fb => by kernel_rfl) rfl trivial ?_
 refine WL.cutV (T := Bool) 11 (fun t => [(131, (.bool t))]) (fun t => ((t8126.2 == 0) && ((!t8126.1) || (y8037 == (w64 (1 + (Int.tmod (w64 (p1)) 8)))))) = t) (fun K => ?_) ?_
 ·
  rcases Bool.eq_false_or_eq_true (t8126.2 == 0) with h8133 | h8133
  ·
   refine WL.setB 123 h8133 rfl ?_
   refine seg 6 [] [7, 8, 123, 126] [(7, (iv (w64 (1 + (Int.tmod (w64 (p1)) 8))))), (8, (iv y8037)), (123, (.bool true)), (126, (.bool (!t8126.1)))] [] (fun fb => by kernel_rfl) rfl trivial ?_
   refine WL.cutV (T := Bool) 10 (fun t => [(130, (.bool t)), (123, (.bool true))]) (fun t => ((!t8126.1) || (y8037 == (w64 (1 + (Int.tmod (w64 (p1)) 8))))) = t) (fun K => ?_) ?_
   ·
    rcases Bool.eq_false_or_eq_true (!t8126.1) with h8134 | h8134
    ·
     refine WL.setB 126 h8134 rfl ?_
     refine seg 10 [] [123, 130] [(123, (.bool true)), (130, (.bool true))] [] (fun fb => by kernel_rfl) rfl trivial ?_
     exact WL.toV K true [130, 123] rfl (by first | (rw [h8134]; done) | (rw [h8134]; rfl))
    refine WL.setB 126 h8134 rfl ?_
    refine seg 10 [] [123, 130] [(123, (.bool true)), (130, (.bool (y8037 == (w64 (1 + (Int.tmod (w64 (p1)) 8))))))] [] (fun fb => by kernel_rfl) rfl trivial ?_
    exact WL.toV K (y8037 == (w64 (1 + (Int.tmod (w64 (p1)) 8)))) [130, 123] rfl (by first | (rw [h8134]; done) | (rw [h8134]; rfl))
   rintro b8135 rfl
   refine seg 11 [] [131] [(131, (.bool ((!t8126.1) || (y8037 == (w64 (1 + (Int.tmod (w64 (p1)) 8)))))))] [] (fun fb => by kernel_rfl) rfl trivial ?_
   exact WL.toV K ((!t8126.1) || (y8037 == (w64 (1 + (Int.tmod (w64 (p1)) 8))))) [131] rfl (by first | (rw [h8133]; done) | (rw [h8133]; rfl))
  refine WL.setB 123 h8133 rfl ?_
  refine seg 11 [] [131] [(131, (.bool false))] [] (fun fb => by kernel_rfl) rfl trivial ?_
  exact WL.toV K false [131] rfl (by first | (rw [h8133]; done) | (rw [h8133]; rfl))
 rintro b8136 rfl
 refine seg 12 [] [132] [(132, (.bool ((t8126.2 == 0) && ((!t8126.1) || (y8037 == (w64 (1 + (Int.tmod (w64 (p1)) 8))))))))] [] (fun fb => by kernel_rfl) rfl trivial ?_
 obtain ⟨x8143, hx8144, hf⟩ := bind_some hf
 refine WL.cutW (T := Bool) 14 (fun t => [(134, (.bool t))]) (fun t w1 => (St NoS w w1 [rowR enc_Tile (subA A_p0 c_p0 (w64 ((Int.tmod (w64 (p2)) (p0.length : Int)) + 1)).toNat 4) (c_p0 - (w64 ((Int.tmod (w64 (p2)) (p0.length : Int)) + 1)).toNat) (cut p0 (w64 ((Int.tmod (w64 (p2)) (p0.length : Int)) + 1)) (p0.length : Int)), rowR enc_Tile (subA A_p0 c_p0 (0 : Int).toNat 4) (c_p0 - (0 : Int).toNat) (cut p0 (0 : Int) (Int.tmod (w64 (p2)) (p0.length : Int))), rowR enc_Tile A_p0 c_p0 p0, cel ⟨2, 0, none⟩ (iv mG)] [] ∧ x8143 = t) ∧ CellsOK [] w1) (fun K => ?_) ?_
 ·
  rcases br_some hx8144 with ⟨h8145, hx8144⟩ | ⟨h8145, hx8144⟩
  ·
   refine WL.setB 132 h8145 rfl ?_
   obtain ⟨t8146, ht8147, hx8144⟩ := bind_some hx8144
   refine WL.call (some 133) 40 #[] (fun fb => by kernel_rfl) (law05_awake_calls _ mG t8146 _ (hS8130.rd 3) ht8147) (fun v w8148 hR8149 => ?_)
   obtain ⟨rfl, hk_⟩ := hR8149
   have hS8150 := hS8130.keepN hk_
   refine ⟨trivial, ?_⟩
   refine seg 14 [] [134] [(134, (.bool t8146))] [] (fun fb => by kernel_rfl) rfl trivial ?_
   injection hx8144 with hx8144
   exact WL.to K t8146 [134] rfl ⟨⟨(hS8150.subR [0, 1, 2, 3]).sub [] (by decide), hx8144.symm⟩, trivial⟩
  refine WL.setB 132 h8145 rfl ?_
  refine seg 14 [] [134] [(134, (.bool false))] [] (fun fb => by kernel_rfl) rfl trivial ?_
  injection hx8144 with hx8144
  exact WL.to K false [134] rfl ⟨⟨(hS8130.subR [0, 1, 2, 3]).sub [] (by decide), hx8144.symm⟩, trivial⟩
 rintro y8151 w8153 ⟨⟨hS8154, hq8152⟩, hF8155⟩
 subst hq8152
 refine seg 15 [] [6] [(6, (.bool x8143))] [] (fun fb => by kernel_rfl) rfl trivial ?_
 refine WL.done rfl ?_
 refine WX.next ?_
 refine WC.ret ?_
 injection hf with hf
 subst hf
 exact WX.ret_ [] (.bool x8143) [] (fun fb => by kernel_rfl) trivial ⟨_, rfl, rfl, hS8154.keep⟩
end Gp
