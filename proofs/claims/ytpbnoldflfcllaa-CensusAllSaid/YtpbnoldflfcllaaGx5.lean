/- Walks: each function of the program computes its plain function. -/
import Derived.Test.YtpbnoldflfcllaaGx4
set_option linter.unusedVariables false
set_option linter.unusedSimpArgs false
set_option maxHeartbeats 4000000
set_option maxRecDepth 8000
namespace Gp
open Go Gw Go.Proofs
theorem ref10_Least_calls (k : Nat) (p0 : List Tile) (Aa : Option Addr) (ca : Nat) (r : Bool) (w : World) (hR0 : RO NoS w (rowR enc_Tile Aa ca p0)) (hf : ref10_Least k p0 = some r) :
  CallsR Try.prog 12 #[(sv Aa p0 ca)] w (fun v w' => v = (bv r) ∧ Keeps NoS w w') := by
 have hS : St NoS w w [rowR enc_Tile Aa ca p0] [] := St.init (ro_cons hR0 (ro_nil _ _))
 refine enter 29 Try.func12 rfl Try.ntmps12 rfl ?_
 unfold ref10_Least at hf
 refine WC.seq (WC.region ?_)
 refine sg 1 [] [0] [(0, (sv Aa p0 ca))] (by kernel_rfl) ?_
 refine WL.done rfl (WX.next (WC.seq (WC.seq (WC.region ?_))))
 refine sg 1 [] [0, 5] [(0, (sv Aa p0 ca)), (5, (sv Aa p0 ca))] (by kernel_rfl) ?_
 obtain ⟨t3, ht4, hf⟩ := bind_some hf
 refine WL.call (some 6) 26 #[(sv Aa p0 ca)] (fun fb => by kernel_rfl) (ref10_named_calls _ p0 Aa ca t3 _ (hS.rd 0) ht4) (fun v w5 hR6 => ?_)
 obtain ⟨A8, c9, rfl, hk_⟩ := hR6
 have hS7 := hS.go w5 [rowO 48 enc_Tile A8 c9 t3] (hS.call hk_ [] [] (fun g hg => hg.elim) (by simp) (by decide))
 refine ⟨trivial, ?_⟩
 refine sg 3 [] [0, 6, 7] [(0, (sv Aa p0 ca)), (6, (sv A8 t3 c9)), (7, (sv Aa p0 ca))] (by kernel_rfl) ?_
 obtain ⟨t11, ht13, hf⟩ := bind_some hf
 refine WL.call (some 8) 13 #[(sv A8 t3 c9), (sv Aa p0 ca)] (fun fb => by kernel_rfl) (ref01_SameSet_calls _ t3 p0 A8 c9 Aa ca t11 _ (hS7.ow 0).ofO (hS7.rd 0) ht13) (fun v w14 hR15 => ?_)
 obtain ⟨rfl, hk_⟩ := hR15
 have hS16 := hS7.keepN hk_
 refine ⟨trivial, ?_⟩
 refine sg 5 [] [0, 9] [(0, (sv Aa p0 ca)), (9, (bv (!t11)))] (by kernel_rfl) ?_
 refine WL.done rfl (WX.next ?_)
 rcases br_some hf with ⟨h17, hf⟩ | ⟨h17, hf⟩
 ·refine WC.condT2 (fun fb => by kernel_rfl) h17 ?_
  refine WC.seq (WC.region ?_)
  refine sg 1 [] [2] [(2, (bv false))] (by kernel_rfl) ?_
  refine WL.done rfl (WX.next ?_)
  refine WC.ret ?_
  injection hf with hf
  subst hf
  exact WX.thenR (WX.ret_ [] (bv false) [] (fun fb => by kernel_rfl) trivial ⟨_, rfl, rfl, hS16.keep⟩)
 refine WC.condF2 (fun fb => by kernel_rfl) h17 ?_
 refine WC.skip (WX.next (WC.seq (WC.region ?_)))
 refine WL.new hS16 10 [] (fun g => (.slice (some ⟨g, 0, none⟩) 3 3)) (.cells #[(iv 0), (iv 1), (iv 2)] 3 (0, 0)) [] (fun fb g => by kernel_rfl) trivial (fun g18 w19 hS20 => ?_)
 refine ⟨trivial, ?_⟩
 have hS21 := hS7.go w19 [rowO 3 encInt (some ⟨g18, 0, none⟩) 3 [0, 1, 2], rowO 48 enc_Tile A8 c9 t3] (hS20.map1 0 _ (fun h => rowO.ofBlk h rfl (Nat.le_of_ble_eq_true (by kernel_rfl))) (fun _ h => by obtain ⟨_, h1, h2⟩ := h; injection h1 with h1; subst h1; exact h2) [1] (by decide) (by decide))
 refine WL.new hS21 11 [] (fun g => (.slice (some ⟨g, 0, none⟩) 3 3)) (.cells #[(iv 0), (iv 2), (iv 1)] 3 (0, 0)) [] (fun fb g => by kernel_rfl) trivial (fun g22 w23 hS24 => ?_)
 refine ⟨trivial, ?_⟩
 have hS25 := hS21.go w23 [rowO 3 encInt (some ⟨g22, 0, none⟩) 3 [0, 2, 1], rowO 3 encInt (some ⟨g18, 0, none⟩) 3 [0, 1, 2], rowO 48 enc_Tile A8 c9 t3] (hS24.map1 0 _ (fun h => rowO.ofBlk h rfl (Nat.le_of_ble_eq_true (by kernel_rfl))) (fun _ h => by obtain ⟨_, h1, h2⟩ := h; injection h1 with h1; subst h1; exact h2) [1, 2] (by decide) (by decide))
 refine WL.new hS25 12 [] (fun g => (.slice (some ⟨g, 0, none⟩) 3 3)) (.cells #[(iv 1), (iv 0), (iv 2)] 3 (0, 0)) [] (fun fb g => by kernel_rfl) trivial (fun g26 w27 hS28 => ?_)
 refine ⟨trivial, ?_⟩
 have hS29 := hS25.go w27 [rowO 3 encInt (some ⟨g26, 0, none⟩) 3 [1, 0, 2], rowO 3 encInt (some ⟨g22, 0, none⟩) 3 [0, 2, 1], rowO 3 encInt (some ⟨g18, 0, none⟩) 3 [0, 1, 2], rowO 48 enc_Tile A8 c9 t3] (hS28.map1 0 _ (fun h => rowO.ofBlk h rfl (Nat.le_of_ble_eq_true (by kernel_rfl))) (fun _ h => by obtain ⟨_, h1, h2⟩ := h; injection h1 with h1; subst h1; exact h2) [1, 2, 3] (by decide) (by decide))
 refine WL.new hS29 13 [] (fun g => (.slice (some ⟨g, 0, none⟩) 3 3)) (.cells #[(iv 1), (iv 2), (iv 0)] 3 (0, 0)) [] (fun fb g => by kernel_rfl) trivial (fun g30 w31 hS32 => ?_)
 refine ⟨trivial, ?_⟩
 have hS33 := hS29.go w31 [rowO 3 encInt (some ⟨g30, 0, none⟩) 3 [1, 2, 0], rowO 3 encInt (some ⟨g26, 0, none⟩) 3 [1, 0, 2], rowO 3 encInt (some ⟨g22, 0, none⟩) 3 [0, 2, 1], rowO 3 encInt (some ⟨g18, 0, none⟩) 3 [0, 1, 2], rowO 48 enc_Tile A8 c9 t3] (hS32.map1 0 _ (fun h => rowO.ofBlk h rfl (Nat.le_of_ble_eq_true (by kernel_rfl))) (fun _ h => by obtain ⟨_, h1, h2⟩ := h; injection h1 with h1; subst h1; exact h2) [1, 2, 3, 4] (by decide) (by decide))
 refine WL.new hS33 14 [] (fun g => (.slice (some ⟨g, 0, none⟩) 3 3)) (.cells #[(iv 2), (iv 0), (iv 1)] 3 (0, 0)) [] (fun fb g => by kernel_rfl) trivial (fun g34 w35 hS36 => ?_)
 refine ⟨trivial, ?_⟩
 have hS37 := hS33.go w35 [rowO 3 encInt (some ⟨g34, 0, none⟩) 3 [2, 0, 1], rowO 3 encInt (some ⟨g30, 0, none⟩) 3 [1, 2, 0], rowO 3 encInt (some ⟨g26, 0, none⟩) 3 [1, 0, 2], rowO 3 encInt (some ⟨g22, 0, none⟩) 3 [0, 2, 1], rowO 3 encInt (some ⟨g18, 0, none⟩) 3 [0, 1, 2], rowO 48 enc_Tile A8 c9 t3] (hS36.map1 0 _ (fun h => rowO.ofBlk h rfl (Nat.le_of_ble_eq_true (by kernel_rfl))) (fun _ h => by obtain ⟨_, h1, h2⟩ := h; injection h1 with h1; subst h1; exact h2) [1, 2, 3, 4, 5] (by decide) (by decide))
 refine WL.new hS37 15 [] (fun g => (.slice (some ⟨g, 0, none⟩) 3 3)) (.cells #[(iv 2), (iv 1), (iv 0)] 3 (0, 0)) [] (fun fb g => by kernel_rfl) trivial (fun g38 w39 hS40 => ?_)
 refine ⟨trivial, ?_⟩
 have hS41 := hS37.go w39 [rowO 3 encInt (some ⟨g38, 0, none⟩) 3 [2, 1, 0], rowO 3 encInt (some ⟨g34, 0, none⟩) 3 [2, 0, 1], rowO 3 encInt (some ⟨g30, 0, none⟩) 3 [1, 2, 0], rowO 3 encInt (some ⟨g26, 0, none⟩) 3 [1, 0, 2], rowO 3 encInt (some ⟨g22, 0, none⟩) 3 [0, 2, 1], rowO 3 encInt (some ⟨g18, 0, none⟩) 3 [0, 1, 2], rowO 48 enc_Tile A8 c9 t3] (hS40.map1 0 _ (fun h => rowO.ofBlk h rfl (Nat.le_of_ble_eq_true (by kernel_rfl))) (fun _ h => by obtain ⟨_, h1, h2⟩ := h; injection h1 with h1; subst h1; exact h2) [1, 2, 3, 4, 5, 6] (by decide) (by decide))
 refine WL.new hS41 16 [] (fun g => (.slice (some ⟨g, 0, none⟩) 6 6)) (.cells #[(sv (some ⟨g18, 0, none⟩) [0, 1, 2] 3), (sv (some ⟨g22, 0, none⟩) [0, 2, 1] 3), (sv (some ⟨g26, 0, none⟩) [1, 0, 2] 3), (sv (some ⟨g30, 0, none⟩) [1, 2, 0] 3), (sv (some ⟨g34, 0, none⟩) [2, 0, 1] 3), (sv (some ⟨g38, 0, none⟩) [2, 1, 0] 3)] 37 (0, 0)) [] (fun fb g => by kernel_rfl) trivial (fun g42 w43 hS44 => ?_)
 refine ⟨trivial, ?_⟩
 have hS45 := hS41.go w43 [rowO 37 (encSl Int) (some ⟨g42, 0, none⟩) 6 (tag (updH (updH (updH (updH (updH (fun _ => (((some ⟨g18, 0, none⟩), 3) : Option Addr × Nat)) 1 (((some ⟨g22, 0, none⟩), 3) : Option Addr × Nat)) 2 (((some ⟨g26, 0, none⟩), 3) : Option Addr × Nat)) 3 (((some ⟨g30, 0, none⟩), 3) : Option Addr × Nat)) 4 (((some ⟨g34, 0, none⟩), 3) : Option Addr × Nat)) 5 (((some ⟨g38, 0, none⟩), 3) : Option Addr × Nat)) ([[0, 1, 2], [0, 2, 1], [1, 0, 2], [1, 2, 0], [2, 0, 1], [2, 1, 0]] : List (List Int))), rowO 3 encInt (some ⟨g38, 0, none⟩) 3 [2, 1, 0], rowO 3 encInt (some ⟨g34, 0, none⟩) 3 [2, 0, 1], rowO 3 encInt (some ⟨g30, 0, none⟩) 3 [1, 2, 0], rowO 3 encInt (some ⟨g26, 0, none⟩) 3 [1, 0, 2], rowO 3 encInt (some ⟨g22, 0, none⟩) 3 [0, 2, 1], rowO 3 encInt (some ⟨g18, 0, none⟩) 3 [0, 1, 2], rowO 48 enc_Tile A8 c9 t3] (hS44.map1 0 _ (fun h => rowO.ofBlk h rfl (Nat.le_of_ble_eq_true (by kernel_rfl))) (fun _ h => by obtain ⟨_, h1, h2⟩ := h; injection h1 with h1; subst h1; exact h2) [1, 2, 3, 4, 5, 6, 7] (by decide) (by decide))
 have hS46 := hS45.go w43 [rowsO 3 encInt (fun _ => (((some ⟨g18, 0, none⟩), 3) : Option Addr × Nat)) ([[0, 1, 2]] : List (List Int)), rowO 37 (encSl Int) (some ⟨g42, 0, none⟩) 6 (tag (updH (updH (updH (updH (updH (fun _ => (((some ⟨g18, 0, none⟩), 3) : Option Addr × Nat)) 1 (((some ⟨g22, 0, none⟩), 3) : Option Addr × Nat)) 2 (((some ⟨g26, 0, none⟩), 3) : Option Addr × Nat)) 3 (((some ⟨g30, 0, none⟩), 3) : Option Addr × Nat)) 4 (((some ⟨g34, 0, none⟩), 3) : Option Addr × Nat)) 5 (((some ⟨g38, 0, none⟩), 3) : Option Addr × Nat)) ([[0, 1, 2], [0, 2, 1], [1, 0, 2], [1, 2, 0], [2, 0, 1], [2, 1, 0]] : List (List Int))), rowO 3 encInt (some ⟨g38, 0, none⟩) 3 [2, 1, 0], rowO 3 encInt (some ⟨g34, 0, none⟩) 3 [2, 0, 1], rowO 3 encInt (some ⟨g30, 0, none⟩) 3 [1, 2, 0], rowO 3 encInt (some ⟨g26, 0, none⟩) 3 [1, 0, 2], rowO 3 encInt (some ⟨g22, 0, none⟩) 3 [0, 2, 1], rowO 48 enc_Tile A8 c9 t3] (hS45.rowsOne 6 rfl [0, 1, 2, 3, 4, 5, 7] (by decide) (by decide))
 have hS47 := hS46.go w43 [rowsO 3 encInt (fun _ => (((some ⟨g22, 0, none⟩), 3) : Option Addr × Nat)) ([[0, 2, 1]] : List (List Int)), rowsO 3 encInt (fun _ => (((some ⟨g18, 0, none⟩), 3) : Option Addr × Nat)) ([[0, 1, 2]] : List (List Int)), rowO 37 (encSl Int) (some ⟨g42, 0, none⟩) 6 (tag (updH (updH (updH (updH (updH (fun _ => (((some ⟨g18, 0, none⟩), 3) : Option Addr × Nat)) 1 (((some ⟨g22, 0, none⟩), 3) : Option Addr × Nat)) 2 (((some ⟨g26, 0, none⟩), 3) : Option Addr × Nat)) 3 (((some ⟨g30, 0, none⟩), 3) : Option Addr × Nat)) 4 (((some ⟨g34, 0, none⟩), 3) : Option Addr × Nat)) 5 (((some ⟨g38, 0, none⟩), 3) : Option Addr × Nat)) ([[0, 1, 2], [0, 2, 1], [1, 0, 2], [1, 2, 0], [2, 0, 1], [2, 1, 0]] : List (List Int))), rowO 3 encInt (some ⟨g38, 0, none⟩) 3 [2, 1, 0], rowO 3 encInt (some ⟨g34, 0, none⟩) 3 [2, 0, 1], rowO 3 encInt (some ⟨g30, 0, none⟩) 3 [1, 2, 0], rowO 3 encInt (some ⟨g26, 0, none⟩) 3 [1, 0, 2], rowO 48 enc_Tile A8 c9 t3] (hS46.rowsOne 6 rfl [0, 1, 2, 3, 4, 5, 7] (by decide) (by decide))
 have hS48 := hS47.go w43 [rowsO 3 encInt (updH (fun _ => (((some ⟨g18, 0, none⟩), 3) : Option Addr × Nat)) 1 (((some ⟨g22, 0, none⟩), 3) : Option Addr × Nat)) ([[0, 1, 2], [0, 2, 1]] : List (List Int)), rowO 37 (encSl Int) (some ⟨g42, 0, none⟩) 6 (tag (updH (updH (updH (updH (updH (fun _ => (((some ⟨g18, 0, none⟩), 3) : Option Addr × Nat)) 1 (((some ⟨g22, 0, none⟩), 3) : Option Addr × Nat)) 2 (((some ⟨g26, 0, none⟩), 3) : Option Addr × Nat)) 3 (((some ⟨g30, 0, none⟩), 3) : Option Addr × Nat)) 4 (((some ⟨g34, 0, none⟩), 3) : Option Addr × Nat)) 5 (((some ⟨g38, 0, none⟩), 3) : Option Addr × Nat)) ([[0, 1, 2], [0, 2, 1], [1, 0, 2], [1, 2, 0], [2, 0, 1], [2, 1, 0]] : List (List Int))), rowO 3 encInt (some ⟨g38, 0, none⟩) 3 [2, 1, 0], rowO 3 encInt (some ⟨g34, 0, none⟩) 3 [2, 0, 1], rowO 3 encInt (some ⟨g30, 0, none⟩) 3 [1, 2, 0], rowO 3 encInt (some ⟨g26, 0, none⟩) 3 [1, 0, 2], rowO 48 enc_Tile A8 c9 t3] (hS47.rowsPush 1 0 rfl rfl (by decide) [2, 3, 4, 5, 6, 7] (by decide) (by decide))
 have hS49 := hS48.go w43 [rowsO 3 encInt (fun _ => (((some ⟨g26, 0, none⟩), 3) : Option Addr × Nat)) ([[1, 0, 2]] : List (List Int)), rowsO 3 encInt (updH (fun _ => (((some ⟨g18, 0, none⟩), 3) : Option Addr × Nat)) 1 (((some ⟨g22, 0, none⟩), 3) : Option Addr × Nat)) ([[0, 1, 2], [0, 2, 1]] : List (List Int)), rowO 37 (encSl Int) (some ⟨g42, 0, none⟩) 6 (tag (updH (updH (updH (updH (updH (fun _ => (((some ⟨g18, 0, none⟩), 3) : Option Addr × Nat)) 1 (((some ⟨g22, 0, none⟩), 3) : Option Addr × Nat)) 2 (((some ⟨g26, 0, none⟩), 3) : Option Addr × Nat)) 3 (((some ⟨g30, 0, none⟩), 3) : Option Addr × Nat)) 4 (((some ⟨g34, 0, none⟩), 3) : Option Addr × Nat)) 5 (((some ⟨g38, 0, none⟩), 3) : Option Addr × Nat)) ([[0, 1, 2], [0, 2, 1], [1, 0, 2], [1, 2, 0], [2, 0, 1], [2, 1, 0]] : List (List Int))), rowO 3 encInt (some ⟨g38, 0, none⟩) 3 [2, 1, 0], rowO 3 encInt (some ⟨g34, 0, none⟩) 3 [2, 0, 1], rowO 3 encInt (some ⟨g30, 0, none⟩) 3 [1, 2, 0], rowO 48 enc_Tile A8 c9 t3] (hS48.rowsOne 5 rfl [0, 1, 2, 3, 4, 6] (by decide) (by decide))
 have hS50 := hS49.go w43 [rowsO 3 encInt (updH (updH (fun _ => (((some ⟨g18, 0, none⟩), 3) : Option Addr × Nat)) 1 (((some ⟨g22, 0, none⟩), 3) : Option Addr × Nat)) 2 (((some ⟨g26, 0, none⟩), 3) : Option Addr × Nat)) ([[0, 1, 2], [0, 2, 1], [1, 0, 2]] : List (List Int)), rowO 37 (encSl Int) (some ⟨g42, 0, none⟩) 6 (tag (updH (updH (updH (updH (updH (fun _ => (((some ⟨g18, 0, none⟩), 3) : Option Addr × Nat)) 1 (((some ⟨g22, 0, none⟩), 3) : Option Addr × Nat)) 2 (((some ⟨g26, 0, none⟩), 3) : Option Addr × Nat)) 3 (((some ⟨g30, 0, none⟩), 3) : Option Addr × Nat)) 4 (((some ⟨g34, 0, none⟩), 3) : Option Addr × Nat)) 5 (((some ⟨g38, 0, none⟩), 3) : Option Addr × Nat)) ([[0, 1, 2], [0, 2, 1], [1, 0, 2], [1, 2, 0], [2, 0, 1], [2, 1, 0]] : List (List Int))), rowO 3 encInt (some ⟨g38, 0, none⟩) 3 [2, 1, 0], rowO 3 encInt (some ⟨g34, 0, none⟩) 3 [2, 0, 1], rowO 3 encInt (some ⟨g30, 0, none⟩) 3 [1, 2, 0], rowO 48 enc_Tile A8 c9 t3] (hS49.rowsPush 1 0 rfl rfl (by decide) [2, 3, 4, 5, 6] (by decide) (by decide))
 have hS51 := hS50.go w43 [rowsO 3 encInt (fun _ => (((some ⟨g30, 0, none⟩), 3) : Option Addr × Nat)) ([[1, 2, 0]] : List (List Int)), rowsO 3 encInt (updH (updH (fun _ => (((some ⟨g18, 0, none⟩), 3) : Option Addr × Nat)) 1 (((some ⟨g22, 0, none⟩), 3) : Option Addr × Nat)) 2 (((some ⟨g26, 0, none⟩), 3) : Option Addr × Nat)) ([[0, 1, 2], [0, 2, 1], [1, 0, 2]] : List (List Int)), rowO 37 (encSl Int) (some ⟨g42, 0, none⟩) 6 (tag (updH (updH (updH (updH (updH (fun _ => (((some ⟨g18, 0, none⟩), 3) : Option Addr × Nat)) 1 (((some ⟨g22, 0, none⟩), 3) : Option Addr × Nat)) 2 (((some ⟨g26, 0, none⟩), 3) : Option Addr × Nat)) 3 (((some ⟨g30, 0, none⟩), 3) : Option Addr × Nat)) 4 (((some ⟨g34, 0, none⟩), 3) : Option Addr × Nat)) 5 (((some ⟨g38, 0, none⟩), 3) : Option Addr × Nat)) ([[0, 1, 2], [0, 2, 1], [1, 0, 2], [1, 2, 0], [2, 0, 1], [2, 1, 0]] : List (List Int))), rowO 3 encInt (some ⟨g38, 0, none⟩) 3 [2, 1, 0], rowO 3 encInt (some ⟨g34, 0, none⟩) 3 [2, 0, 1], rowO 48 enc_Tile A8 c9 t3] (hS50.rowsOne 4 rfl [0, 1, 2, 3, 5] (by decide) (by decide))
 have hS52 := hS51.go w43 [rowsO 3 encInt (updH (updH (updH (fun _ => (((some ⟨g18, 0, none⟩), 3) : Option Addr × Nat)) 1 (((some ⟨g22, 0, none⟩), 3) : Option Addr × Nat)) 2 (((some ⟨g26, 0, none⟩), 3) : Option Addr × Nat)) 3 (((some ⟨g30, 0, none⟩), 3) : Option Addr × Nat)) ([[0, 1, 2], [0, 2, 1], [1, 0, 2], [1, 2, 0]] : List (List Int)), rowO 37 (encSl Int) (some ⟨g42, 0, none⟩) 6 (tag (updH (updH (updH (updH (updH (fun _ => (((some ⟨g18, 0, none⟩), 3) : Option Addr × Nat)) 1 (((some ⟨g22, 0, none⟩), 3) : Option Addr × Nat)) 2 (((some ⟨g26, 0, none⟩), 3) : Option Addr × Nat)) 3 (((some ⟨g30, 0, none⟩), 3) : Option Addr × Nat)) 4 (((some ⟨g34, 0, none⟩), 3) : Option Addr × Nat)) 5 (((some ⟨g38, 0, none⟩), 3) : Option Addr × Nat)) ([[0, 1, 2], [0, 2, 1], [1, 0, 2], [1, 2, 0], [2, 0, 1], [2, 1, 0]] : List (List Int))), rowO 3 encInt (some ⟨g38, 0, none⟩) 3 [2, 1, 0], rowO 3 encInt (some ⟨g34, 0, none⟩) 3 [2, 0, 1], rowO 48 enc_Tile A8 c9 t3] (hS51.rowsPush 1 0 rfl rfl (by decide) [2, 3, 4, 5] (by decide) (by decide))
 have hS53 := hS52.go w43 [rowsO 3 encInt (fun _ => (((some ⟨g34, 0, none⟩), 3) : Option Addr × Nat)) ([[2, 0, 1]] : List (List Int)), rowsO 3 encInt (updH (updH (updH (fun _ => (((some ⟨g18, 0, none⟩), 3) : Option Addr × Nat)) 1 (((some ⟨g22, 0, none⟩), 3) : Option Addr × Nat)) 2 (((some ⟨g26, 0, none⟩), 3) : Option Addr × Nat)) 3 (((some ⟨g30, 0, none⟩), 3) : Option Addr × Nat)) ([[0, 1, 2], [0, 2, 1], [1, 0, 2], [1, 2, 0]] : List (List Int)), rowO 37 (encSl Int) (some ⟨g42, 0, none⟩) 6 (tag (updH (updH (updH (updH (updH (fun _ => (((some ⟨g18, 0, none⟩), 3) : Option Addr × Nat)) 1 (((some ⟨g22, 0, none⟩), 3) : Option Addr × Nat)) 2 (((some ⟨g26, 0, none⟩), 3) : Option Addr × Nat)) 3 (((some ⟨g30, 0, none⟩), 3) : Option Addr × Nat)) 4 (((some ⟨g34, 0, none⟩), 3) : Option Addr × Nat)) 5 (((some ⟨g38, 0, none⟩), 3) : Option Addr × Nat)) ([[0, 1, 2], [0, 2, 1], [1, 0, 2], [1, 2, 0], [2, 0, 1], [2, 1, 0]] : List (List Int))), rowO 3 encInt (some ⟨g38, 0, none⟩) 3 [2, 1, 0], rowO 48 enc_Tile A8 c9 t3] (hS52.rowsOne 3 rfl [0, 1, 2, 4] (by decide) (by decide))
 have hS54 := hS53.go w43 [rowsO 3 encInt (updH (updH (updH (updH (fun _ => (((some ⟨g18, 0, none⟩), 3) : Option Addr × Nat)) 1 (((some ⟨g22, 0, none⟩), 3) : Option Addr × Nat)) 2 (((some ⟨g26, 0, none⟩), 3) : Option Addr × Nat)) 3 (((some ⟨g30, 0, none⟩), 3) : Option Addr × Nat)) 4 (((some ⟨g34, 0, none⟩), 3) : Option Addr × Nat)) ([[0, 1, 2], [0, 2, 1], [1, 0, 2], [1, 2, 0], [2, 0, 1]] : List (List Int)), rowO 37 (encSl Int) (some ⟨g42, 0, none⟩) 6 (tag (updH (updH (updH (updH (updH (fun _ => (((some ⟨g18, 0, none⟩), 3) : Option Addr × Nat)) 1 (((some ⟨g22, 0, none⟩), 3) : Option Addr × Nat)) 2 (((some ⟨g26, 0, none⟩), 3) : Option Addr × Nat)) 3 (((some ⟨g30, 0, none⟩), 3) : Option Addr × Nat)) 4 (((some ⟨g34, 0, none⟩), 3) : Option Addr × Nat)) 5 (((some ⟨g38, 0, none⟩), 3) : Option Addr × Nat)) ([[0, 1, 2], [0, 2, 1], [1, 0, 2], [1, 2, 0], [2, 0, 1], [2, 1, 0]] : List (List Int))), rowO 3 encInt (some ⟨g38, 0, none⟩) 3 [2, 1, 0], rowO 48 enc_Tile A8 c9 t3] (hS53.rowsPush 1 0 rfl rfl (by decide) [2, 3, 4] (by decide) (by decide))
 have hS55 := hS54.go w43 [rowsO 3 encInt (fun _ => (((some ⟨g38, 0, none⟩), 3) : Option Addr × Nat)) ([[2, 1, 0]] : List (List Int)), rowsO 3 encInt (updH (updH (updH (updH (fun _ => (((some ⟨g18, 0, none⟩), 3) : Option Addr × Nat)) 1 (((some ⟨g22, 0, none⟩), 3) : Option Addr × Nat)) 2 (((some ⟨g26, 0, none⟩), 3) : Option Addr × Nat)) 3 (((some ⟨g30, 0, none⟩), 3) : Option Addr × Nat)) 4 (((some ⟨g34, 0, none⟩), 3) : Option Addr × Nat)) ([[0, 1, 2], [0, 2, 1], [1, 0, 2], [1, 2, 0], [2, 0, 1]] : List (List Int)), rowO 37 (encSl Int) (some ⟨g42, 0, none⟩) 6 (tag (updH (updH (updH (updH (updH (fun _ => (((some ⟨g18, 0, none⟩), 3) : Option Addr × Nat)) 1 (((some ⟨g22, 0, none⟩), 3) : Option Addr × Nat)) 2 (((some ⟨g26, 0, none⟩), 3) : Option Addr × Nat)) 3 (((some ⟨g30, 0, none⟩), 3) : Option Addr × Nat)) 4 (((some ⟨g34, 0, none⟩), 3) : Option Addr × Nat)) 5 (((some ⟨g38, 0, none⟩), 3) : Option Addr × Nat)) ([[0, 1, 2], [0, 2, 1], [1, 0, 2], [1, 2, 0], [2, 0, 1], [2, 1, 0]] : List (List Int))), rowO 48 enc_Tile A8 c9 t3] (hS54.rowsOne 2 rfl [0, 1, 3] (by decide) (by decide))
 have hS56 := hS55.go w43 [rowsO 3 encInt (updH (updH (updH (updH (updH (fun _ => (((some ⟨g18, 0, none⟩), 3) : Option Addr × Nat)) 1 (((some ⟨g22, 0, none⟩), 3) : Option Addr × Nat)) 2 (((some ⟨g26, 0, none⟩), 3) : Option Addr × Nat)) 3 (((some ⟨g30, 0, none⟩), 3) : Option Addr × Nat)) 4 (((some ⟨g34, 0, none⟩), 3) : Option Addr × Nat)) 5 (((some ⟨g38, 0, none⟩), 3) : Option Addr × Nat)) ([[0, 1, 2], [0, 2, 1], [1, 0, 2], [1, 2, 0], [2, 0, 1], [2, 1, 0]] : List (List Int)), rowO 37 (encSl Int) (some ⟨g42, 0, none⟩) 6 (tag (updH (updH (updH (updH (updH (fun _ => (((some ⟨g18, 0, none⟩), 3) : Option Addr × Nat)) 1 (((some ⟨g22, 0, none⟩), 3) : Option Addr × Nat)) 2 (((some ⟨g26, 0, none⟩), 3) : Option Addr × Nat)) 3 (((some ⟨g30, 0, none⟩), 3) : Option Addr × Nat)) 4 (((some ⟨g34, 0, none⟩), 3) : Option Addr × Nat)) 5 (((some ⟨g38, 0, none⟩), 3) : Option Addr × Nat)) ([[0, 1, 2], [0, 2, 1], [1, 0, 2], [1, 2, 0], [2, 0, 1], [2, 1, 0]] : List (List Int))), rowO 48 enc_Tile A8 c9 t3] (hS55.rowsPush 1 0 rfl rfl (by decide) [2, 3] (by decide) (by decide))
 refine sg 8 [] [0, 3] [(0, (sv Aa p0 ca)), (3, (sv (some ⟨g42, 0, none⟩) ([[0, 1, 2], [0, 2, 1], [1, 0, 2], [1, 2, 0], [2, 0, 1], [2, 1, 0]] : List (List Int)) 6))] (by kernel_rfl) ?_
 refine WL.done rfl (WX.next (WC.seq (WC.seq (WC.region ?_))))
 refine sg 1 [] [0, 3, 4] [(0, (sv Aa p0 ca)), (3, (sv (some ⟨g42, 0, none⟩) ([[0, 1, 2], [0, 2, 1], [1, 0, 2], [1, 2, 0], [2, 0, 1], [2, 1, 0]] : List (List Int)) 6)), (4, (iv 0))] (by kernel_rfl) ?_
 refine WL.done rfl (WX.next ?_)
 obtain ⟨x58, hx59, hf⟩ := bind_some hf
 refine WC.cutN (T := Unit) (fun t => []) (fun t w1 => St NoS w w1 [rowR enc_Tile Aa ca p0] [] ∧ x58 = .inr t) (fun Kx58 => ?_) ?_
 ·
  refine WC.block ?_
  refine WC.loop (T := Int) (fun t => [(0, (sv Aa p0 ca)), (3, (sv (some ⟨g42, 0, none⟩) ([[0, 1, 2], [0, 2, 1], [1, 0, 2], [1, 2, 0], [2, 0, 1], [2, 1, 0]] : List (List Int)) 6)), (4, (iv t))]) (fun n t w1 => St NoS w w1 [rowR enc_Tile Aa ca p0] [rowO 37 (encSl Int) (some ⟨g42, 0, none⟩) 6 (tag (updH (updH (updH (updH (updH (fun _ => (((some ⟨g18, 0, none⟩), 3) : Option Addr × Nat)) 1 (((some ⟨g22, 0, none⟩), 3) : Option Addr × Nat)) 2 (((some ⟨g26, 0, none⟩), 3) : Option Addr × Nat)) 3 (((some ⟨g30, 0, none⟩), 3) : Option Addr × Nat)) 4 (((some ⟨g34, 0, none⟩), 3) : Option Addr × Nat)) 5 (((some ⟨g38, 0, none⟩), 3) : Option Addr × Nat)) ([[0, 1, 2], [0, 2, 1], [1, 0, 2], [1, 2, 0], [2, 0, 1], [2, 1, 0]] : List (List Int))), rowsO 3 encInt (updH (updH (updH (updH (updH (fun _ => (((some ⟨g18, 0, none⟩), 3) : Option Addr × Nat)) 1 (((some ⟨g22, 0, none⟩), 3) : Option Addr × Nat)) 2 (((some ⟨g26, 0, none⟩), 3) : Option Addr × Nat)) 3 (((some ⟨g30, 0, none⟩), 3) : Option Addr × Nat)) 4 (((some ⟨g34, 0, none⟩), 3) : Option Addr × Nat)) 5 (((some ⟨g38, 0, none⟩), 3) : Option Addr × Nat)) ([[0, 1, 2], [0, 2, 1], [1, 0, 2], [1, 2, 0], [2, 0, 1], [2, 1, 0]] : List (List Int))] ∧ ref10_Least.l0 n t p0 = some x58) k 0 [0, 3, 4] rfl ⟨(hS56.subR [0]).sub [1, 0] (by decide), hx59⟩ ?_
  rintro k60 x57 w61 ⟨hS62, hl63⟩
  cases k60 with
  | zero => rw [ref10_Least.l0] at hl63; cases hl63
  | succ k60 =>
   rw [ref10_Least.l0] at hl63
   refine WC.seq (WC.seq (WC.region ?_))
   refine sg 4 [] [0, 3, 4, 20] [(0, (sv Aa p0 ca)), (3, (sv (some ⟨g42, 0, none⟩) ([[0, 1, 2], [0, 2, 1], [1, 0, 2], [1, 2, 0], [2, 0, 1], [2, 1, 0]] : List (List Int)) 6)), (4, (iv x57)), (20, (bv (decide (x57 < (([[0, 1, 2], [0, 2, 1], [1, 0, 2], [1, 2, 0], [2, 0, 1], [2, 1, 0]] : List (List Int)).length : Int)))))] (by kernel_rfl) ?_
   refine WL.done rfl (WX.next ?_)
   rcases br_some hl63 with ⟨h65, hl63⟩ | ⟨h65, hl63⟩
   ·refine WC.condT2 (fun fb => by kernel_rfl) h65 ?_
    refine WC.skip (WX.next (WC.seq (WC.block (WC.seq (WC.region ?_)))))
    refine sg 3 [] [0, 3, 4, 23, 24, 25] [(0, (sv Aa p0 ca)), (3, (sv (some ⟨g42, 0, none⟩) ([[0, 1, 2], [0, 2, 1], [1, 0, 2], [1, 2, 0], [2, 0, 1], [2, 1, 0]] : List (List Int)) 6)), (4, (iv x57)), (23, (sv Aa p0 ca)), (24, (sv (some ⟨g42, 0, none⟩) ([[0, 1, 2], [0, 2, 1], [1, 0, 2], [1, 2, 0], [2, 0, 1], [2, 1, 0]] : List (List Int)) 6)), (25, (iv x57))] (by kernel_rfl) ?_
    obtain ⟨h66, hl63⟩ := as_some hl63
    refine seg 5 [.v (sv (((updH (updH (updH (updH (updH (fun _ => (((some ⟨g18, 0, none⟩), 3) : Option Addr × Nat)) 1 (((some ⟨g22, 0, none⟩), 3) : Option Addr × Nat)) 2 (((some ⟨g26, 0, none⟩), 3) : Option Addr × Nat)) 3 (((some ⟨g30, 0, none⟩), 3) : Option Addr × Nat)) 4 (((some ⟨g34, 0, none⟩), 3) : Option Addr × Nat)) 5 (((some ⟨g38, 0, none⟩), 3) : Option Addr × Nat)) x57.toNat).1) (rdD ([[0, 1, 2], [0, 2, 1], [1, 0, 2], [1, 2, 0], [2, 0, 1], [2, 1, 0]] : List (List Int)) x57 []) (((updH (updH (updH (updH (updH (fun _ => (((some ⟨g18, 0, none⟩), 3) : Option Addr × Nat)) 1 (((some ⟨g22, 0, none⟩), 3) : Option Addr × Nat)) 2 (((some ⟨g26, 0, none⟩), 3) : Option Addr × Nat)) 3 (((some ⟨g30, 0, none⟩), 3) : Option Addr × Nat)) 4 (((some ⟨g34, 0, none⟩), 3) : Option Addr × Nat)) 5 (((some ⟨g38, 0, none⟩), 3) : Option Addr × Nat)) x57.toNat).2))] [0, 3, 4, 23, 27] [(0, (sv Aa p0 ca)), (3, (sv (some ⟨g42, 0, none⟩) ([[0, 1, 2], [0, 2, 1], [1, 0, 2], [1, 2, 0], [2, 0, 1], [2, 1, 0]] : List (List Int)) 6)), (4, (iv x57)), (23, (sv Aa p0 ca)), (27, (sv (((updH (updH (updH (updH (updH (fun _ => (((some ⟨g18, 0, none⟩), 3) : Option Addr × Nat)) 1 (((some ⟨g22, 0, none⟩), 3) : Option Addr × Nat)) 2 (((some ⟨g26, 0, none⟩), 3) : Option Addr × Nat)) 3 (((some ⟨g30, 0, none⟩), 3) : Option Addr × Nat)) 4 (((some ⟨g34, 0, none⟩), 3) : Option Addr × Nat)) 5 (((some ⟨g38, 0, none⟩), 3) : Option Addr × Nat)) x57.toNat).1) (rdD ([[0, 1, 2], [0, 2, 1], [1, 0, 2], [1, 2, 0], [2, 0, 1], [2, 1, 0]] : List (List Int)) x57 []) (((updH (updH (updH (updH (updH (fun _ => (((some ⟨g18, 0, none⟩), 3) : Option Addr × Nat)) 1 (((some ⟨g22, 0, none⟩), 3) : Option Addr × Nat)) 2 (((some ⟨g26, 0, none⟩), 3) : Option Addr × Nat)) 3 (((some ⟨g30, 0, none⟩), 3) : Option Addr × Nat)) 4 (((some ⟨g34, 0, none⟩), 3) : Option Addr × Nat)) 5 (((some ⟨g38, 0, none⟩), 3) : Option Addr × Nat)) x57.toNat).2)))] [.idx (some ⟨g42, 0, none⟩) x57 ([[0, 1, 2], [0, 2, 1], [1, 0, 2], [1, 2, 0], [2, 0, 1], [2, 1, 0]] : List (List Int)).length, .cell ((adr (some ⟨g42, 0, none⟩)).add ((x57).toNat * 1)) (sv (((updH (updH (updH (updH (updH (fun _ => (((some ⟨g18, 0, none⟩), 3) : Option Addr × Nat)) 1 (((some ⟨g22, 0, none⟩), 3) : Option Addr × Nat)) 2 (((some ⟨g26, 0, none⟩), 3) : Option Addr × Nat)) 3 (((some ⟨g30, 0, none⟩), 3) : Option Addr × Nat)) 4 (((some ⟨g34, 0, none⟩), 3) : Option Addr × Nat)) 5 (((some ⟨g38, 0, none⟩), 3) : Option Addr × Nat)) x57.toNat).1) (rdD ([[0, 1, 2], [0, 2, 1], [1, 0, 2], [1, 2, 0], [2, 0, 1], [2, 1, 0]] : List (List Int)) x57 []) (((updH (updH (updH (updH (updH (fun _ => (((some ⟨g18, 0, none⟩), 3) : Option Addr × Nat)) 1 (((some ⟨g22, 0, none⟩), 3) : Option Addr × Nat)) 2 (((some ⟨g26, 0, none⟩), 3) : Option Addr × Nat)) 3 (((some ⟨g30, 0, none⟩), 3) : Option Addr × Nat)) 4 (((some ⟨g34, 0, none⟩), 3) : Option Addr × Nat)) 5 (((some ⟨g38, 0, none⟩), 3) : Option Addr × Nat)) x57.toNat).2))] (fun fb => by kernel_rfl) rfl ⟨nrow_adr (rowO.rd (hS62.own 0).1) h66.1 h66.2, nrow_cell (rowO.rd (hS62.own 0).1) [] h66.1 h66.2 0 rfl, trivial⟩ ?_
    obtain ⟨t67, ht68, hl63⟩ := bind_some hl63
    refine WL.call (some 28) 27 #[(sv Aa p0 ca), (sv (((updH (updH (updH (updH (updH (fun _ => (((some ⟨g18, 0, none⟩), 3) : Option Addr × Nat)) 1 (((some ⟨g22, 0, none⟩), 3) : Option Addr × Nat)) 2 (((some ⟨g26, 0, none⟩), 3) : Option Addr × Nat)) 3 (((some ⟨g30, 0, none⟩), 3) : Option Addr × Nat)) 4 (((some ⟨g34, 0, none⟩), 3) : Option Addr × Nat)) 5 (((some ⟨g38, 0, none⟩), 3) : Option Addr × Nat)) x57.toNat).1) (rdD ([[0, 1, 2], [0, 2, 1], [1, 0, 2], [1, 2, 0], [2, 0, 1], [2, 1, 0]] : List (List Int)) x57 []) (((updH (updH (updH (updH (updH (fun _ => (((some ⟨g18, 0, none⟩), 3) : Option Addr × Nat)) 1 (((some ⟨g22, 0, none⟩), 3) : Option Addr × Nat)) 2 (((some ⟨g26, 0, none⟩), 3) : Option Addr × Nat)) 3 (((some ⟨g30, 0, none⟩), 3) : Option Addr × Nat)) 4 (((some ⟨g34, 0, none⟩), 3) : Option Addr × Nat)) 5 (((some ⟨g38, 0, none⟩), 3) : Option Addr × Nat)) x57.toNat).2))] (fun fb => by kernel_rfl) (ref10_fewer_calls _ p0 (rdD ([[0, 1, 2], [0, 2, 1], [1, 0, 2], [1, 2, 0], [2, 0, 1], [2, 1, 0]] : List (List Int)) x57 []) Aa ca (((updH (updH (updH (updH (updH (fun _ => (((some ⟨g18, 0, none⟩), 3) : Option Addr × Nat)) 1 (((some ⟨g22, 0, none⟩), 3) : Option Addr × Nat)) 2 (((some ⟨g26, 0, none⟩), 3) : Option Addr × Nat)) 3 (((some ⟨g30, 0, none⟩), 3) : Option Addr × Nat)) 4 (((some ⟨g34, 0, none⟩), 3) : Option Addr × Nat)) 5 (((some ⟨g38, 0, none⟩), 3) : Option Addr × Nat)) x57.toNat).1) (((updH (updH (updH (updH (updH (fun _ => (((some ⟨g18, 0, none⟩), 3) : Option Addr × Nat)) 1 (((some ⟨g22, 0, none⟩), 3) : Option Addr × Nat)) 2 (((some ⟨g26, 0, none⟩), 3) : Option Addr × Nat)) 3 (((some ⟨g30, 0, none⟩), 3) : Option Addr × Nat)) 4 (((some ⟨g34, 0, none⟩), 3) : Option Addr × Nat)) 5 (((some ⟨g38, 0, none⟩), 3) : Option Addr × Nat)) x57.toNat).2) t67 _ (hS62.rd 0) (rowsO.ro (hS62.ow 1) h66.1 h66.2).ofO ht68) (fun v w69 hR70 => ?_)
    obtain ⟨rfl, hk_⟩ := hR70
    have hS71 := hS62.keepN hk_
    refine ⟨trivial, ?_⟩
    refine WL.done rfl (WX.next ?_)
    rcases br_some hl63 with ⟨h72, hl63⟩ | ⟨h72, hl63⟩
    ·refine WC.condT2 (fun fb => by kernel_rfl) h72 ?_
     refine WC.seq (WC.region ?_)
     refine sg 1 [] [2] [(2, (bv false))] (by kernel_rfl) ?_
     refine WL.done rfl (WX.next ?_)
     refine WC.ret ?_
     injection hl63 with hl63
     subst hl63
     injection hf with hf
     subst hf
     exact WX.blockR (WX.thenR (WX.thenR (WX.blockR (WX.thenR (WX.ret_ [] (bv false) [] (fun fb => by kernel_rfl) trivial ⟨_, rfl, rfl, hS71.keep⟩)))))
    refine WC.condF2 (fun fb => by kernel_rfl) h72 ?_
    refine WC.skip ?_
    refine WX.blockN (WX.next ?_)
    refine WC.region ?_
    refine sg 3 [] [0, 3, 4] [(0, (sv Aa p0 ca)), (3, (sv (some ⟨g42, 0, none⟩) ([[0, 1, 2], [0, 2, 1], [1, 0, 2], [1, 2, 0], [2, 0, 1], [2, 1, 0]] : List (List Int)) 6)), (4, (iv (w64 (x57 + 1))))] (by kernel_rfl) ?_
    refine WL.done rfl ?_
    exact WX.again k60 (Nat.lt_succ_self _) (w64 (x57 + 1)) [0, 3, 4] rfl ⟨(hS71.subR [0]).sub [0, 1] (by decide), hl63⟩
   refine WC.condF2 (fun fb => by kernel_rfl) h65 ?_
   refine WC.exit ?_
   injection hl63 with hl63
   exact WX.thenX (WX.thenX (WX.blockHere (WX.to Kx58 () [] rfl ⟨(hS62.subR [0]).sub [] (by decide), hl63.symm⟩)))
 rintro y76 w73 ⟨hS74, hq75⟩
 subst hq75
 have hf := sum_inr hf
 refine WX.next (WC.seq (WC.region ?_))
 refine sg 1 [] [2] [(2, (bv true))] (by kernel_rfl) ?_
 refine WL.done rfl (WX.next ?_)
 refine WC.ret ?_
 injection hf with hf
 subst hf
 exact WX.ret_ [] (bv true) [] (fun fb => by kernel_rfl) trivial ⟨_, rfl, rfl, hS74.keep⟩
theorem ref10_All_calls (k : Nat) (p0 : Int)  (r : (List (List Tile))) (w : World)  (hf : ref10_All k p0 = some r) :
  CallsR Try.prog 10 #[(iv p0)] w (fun v w' => ∃ (A1_ : Option Addr), ∃ (c1_ : Nat), ∃ (z1_ : HF), v = (sv A1_ r c1_) ∧ St NoS w w' [] [rowO 28 (encSl Tile) A1_ c1_ (tag z1_ r), rowsO 48 enc_Tile z1_ r]) := by
 have hS : St NoS w w [] [] := St.init (ro_nil _ _)
 refine enter 78 Try.func10 rfl Try.ntmps10 rfl ?_
 unfold ref10_All at hf
 refine WC.seq (WC.region ?_)
 refine sg 1 [] [0] [(0, (iv p0))] (by kernel_rfl) ?_
 refine WL.done rfl (WX.next (WC.seq (WC.region ?_)))
 refine sg 2 [] [0, 10] [(0, (iv p0)), (10, (iv (w64 (2 * p0))))] (by kernel_rfl) ?_
 obtain ⟨t3, ht4, hf⟩ := bind_some hf
 refine WL.call (some 11) 23 #[(iv (w64 (2 * p0)))] (fun fb => by kernel_rfl) (ref10_growing_calls _ (w64 (2 * p0)) t3 _ ht4) (fun v w5 hR6 => ?_)
 obtain ⟨A8, c9, H11, rfl, hk_⟩ := hR6
 have hS7 := hS.go w5 [rowO 37 (encSl Int) A8 c9 (tag H11 t3), rowsO 3 encInt H11 t3] (hS.call hk_ [] [] (fun g hg => hg.elim) (by simp) (by decide))
 refine ⟨trivial, ?_⟩
 refine sg 4 [] [0, 3] [(0, (iv p0)), (3, (sv A8 t3 c9))] (by kernel_rfl) ?_
 refine WL.done rfl (WX.next (WC.seq (WC.region ?_)))
 refine sg 1 [] [0, 3, 4] [(0, (iv p0)), (3, (sv A8 t3 c9)), (4, (.slice none 0 0))] (by kernel_rfl) ?_
 refine WL.done rfl (WX.next (WC.seq (WC.seq (WC.region ?_))))
 refine sg 1 [] [0, 3, 4, 5] [(0, (iv p0)), (3, (sv A8 t3 c9)), (4, (.slice none 0 0)), (5, (iv 0))] (by kernel_rfl) ?_
 refine WL.done rfl (WX.next ?_)
 have hS12 := hS7.go w5 [rowO 28 (encSl Tile) none 0 (tag hf0 ([] : List (List Tile))), rowO 37 (encSl Int) A8 c9 (tag H11 t3), rowsO 3 encInt H11 t3] (hS7.nilrow 28 (encSl Tile))
 have hS13 := hS12.go w5 [rowsO 48 enc_Tile hf0 ([] : List (List Tile)), rowO 28 (encSl Tile) none 0 (tag hf0 ([] : List (List Tile))), rowO 37 (encSl Int) A8 c9 (tag H11 t3), rowsO 3 encInt H11 t3] (hS12.rowsNil 48 enc_Tile 0)
 obtain ⟨x22, hx23, hf⟩ := bind_some hf
 let e3 : Nat × Value := (3, (sv A8 t3 c9))
 let e6 : Nat × Value := (0, (iv p0))
 let e11 := encSl Tile
 let e14 := tag H11 t3
 let e15 := encSl Int
 let e17 : List Nat := [0, 3, 4, 5, 6]
 let e18 : List Nat := [0, 3, 4, 5, 6, 7, 8]
 let e19 := List (List Tile)
 let e20 := Option Addr
 let e22 : List Nat := [0, 3, 4, 5, 6, 7, 72]
 refine WC.cutN (T := e19 × e20 × Nat × HF) (fun t => [(4, (sv t.2.1 t.1 t.2.2.1))]) (fun t w1 => St NoS w w1 [] [rowO 28 e11 t.2.1 t.2.2.1 (tag t.2.2.2 t.1), rowsO 48 enc_Tile t.2.2.2 t.1] ∧ x22 = t.1) (fun Kx22 => ?_) ?_
 ·
  refine WC.block ?_
  refine WC.loop (T := (e19 × Int) × e20 × Nat × HF) (fun t => [e6, e3, (4, (sv t.2.1 t.1.1 t.2.2.1)), (5, (iv t.1.2))]) (fun n t w1 => St NoS w w1 [] [rowO 37 e15 A8 c9 e14, rowsO 3 encInt H11 t3, rowO 28 e11 t.2.1 t.2.2.1 (tag t.2.2.2 t.1.1), rowsO 48 enc_Tile t.2.2.2 t.1.1] ∧ ref10_All.l0 n t.1.1 t.1.2 p0 t3 = some x22) k ((([] : List (List Tile)), 0), none, 0, hf0) [0, 3, 4, 5] rfl ⟨(hS13.subR []).sub [2, 3, 1, 0] (by decide), hx23⟩ ?_
  rintro k24 ⟨⟨l16, x18⟩, A14, c15, H17⟩ w25 ⟨hS26, hl27⟩
  let e5 : Nat × Value := (5, (iv x18))
  let e8 := sv ((H11 x18.toNat).1) (rdD t3 x18 []) ((H11 x18.toNat).2)
  let e12 := rdD t3 x18 []
  cases k24 with
  | zero => rw [ref10_All.l0] at hl27; cases hl27
  | succ k24 =>
   rw [ref10_All.l0] at hl27
   refine WC.seq (WC.seq (WC.region ?_))
   refine sg 4 [] [0, 3, 4, 5, 15] [e6, e3, (4, (sv A14 l16 c15)), e5, (15, (bv (decide (x18 < (t3.length : Int)))))] (by kernel_rfl) ?_
   refine WL.done rfl (WX.next ?_)
   rcases br_some hl27 with ⟨h28, hl27⟩ | ⟨h28, hl27⟩
   ·refine WC.condT2 (fun fb => by kernel_rfl) h28 ?_
    refine WC.skip (WX.next (WC.seq (WC.block (WC.seq (WC.region ?_)))))
    refine sg 1 [] e17 [e6, e3, (4, (sv A14 l16 c15)), e5, (6, (iv 0))] (by kernel_rfl) ?_
    refine WL.done rfl (WX.next ?_)
    obtain ⟨x37, hx38, hl27⟩ := bind_some hl27
    refine WC.cutN (T := e19 × e20 × Nat × HF) (fun t => [e6, e3, (4, (sv t.2.1 t.1 t.2.2.1)), e5]) (fun t w1 => St NoS w w1 [] [rowO 37 e15 A8 c9 e14, rowsO 3 encInt H11 t3, rowO 28 e11 t.2.1 t.2.2.1 (tag t.2.2.2 t.1), rowsO 48 enc_Tile t.2.2.2 t.1] ∧ x37 = t.1) (fun Kx37 => ?_) ?_
    ·
     refine WC.block ?_
     refine WC.loop (T := (e19 × Int) × e20 × Nat × HF) (fun t => [e6, e3, (4, (sv t.2.1 t.1.1 t.2.2.1)), e5, (6, (iv t.1.2))]) (fun n t w1 => St NoS w w1 [] [rowO 37 e15 A8 c9 e14, rowsO 3 encInt H11 t3, rowO 28 e11 t.2.1 t.2.2.1 (tag t.2.2.2 t.1.1), rowsO 48 enc_Tile t.2.2.2 t.1.1] ∧ ref10_All.l1 n t.1.1 t.1.2 p0 t3 x18 = some x37) k24 ((l16, 0), A14, c15, H17) e17 rfl ⟨(hS26.subR []).sub [0, 1, 2, 3] (by decide), hx38⟩ ?_
     rintro k39 ⟨⟨l31, x33⟩, A29, c30, H32⟩ w40 ⟨hS41, hl42⟩
     let e4 : Nat × Value := (4, (sv A29 l31 c30))
     let e9 := sv ((H11 x33.toNat).1) (rdD t3 x33 []) ((H11 x33.toNat).2)
     let e10 : Nat × Value := (6, (iv x33))
     let e13 := rdD t3 x33 []
     cases k39 with
     | zero => rw [ref10_All.l1] at hl42; cases hl42
     | succ k39 =>
      rw [ref10_All.l1] at hl42
      refine WC.seq (WC.seq (WC.region ?_))
      refine sg 4 [] [0, 3, 4, 5, 6, 21] [e6, e3, e4, e5, e10, (21, (bv (decide (x33 < (t3.length : Int)))))] (by kernel_rfl) ?_
      refine WL.done rfl (WX.next ?_)
      rcases br_some hl42 with ⟨h43, hl42⟩ | ⟨h43, hl42⟩
      ·refine WC.condT2 (fun fb => by kernel_rfl) h43 ?_
       refine WC.skip (WX.next (WC.seq (WC.block (WC.seq (WC.region ?_)))))
       refine sg 1 [] [0, 3, 4, 5, 6, 7] [e6, e3, e4, e5, e10, (7, (.slice none 0 0))] (by kernel_rfl) ?_
       refine WL.done rfl (WX.next (WC.seq (WC.seq (WC.region ?_))))
       refine sg 1 [] e18 [e6, e3, e4, e5, e10, (7, (.slice none 0 0)), (8, (iv 0))] (by kernel_rfl) ?_
       refine WL.done rfl (WX.next ?_)
       have hS44 := hS41.nilrow 48 enc_Tile
       obtain ⟨x51, hx52, hl42⟩ := bind_some hl42
       refine WC.cutN (T := (List Tile) × e20 × Nat) (fun t => [e6, e3, e4, e5, e10, (7, (sv t.2.1 t.1 t.2.2))]) (fun t w1 => St NoS w w1 [] [rowO 37 e15 A8 c9 e14, rowsO 3 encInt H11 t3, rowO 28 e11 A29 c30 (tag H32 l31), rowsO 48 enc_Tile H32 l31, rowO 48 enc_Tile t.2.1 t.2.2 t.1] ∧ x51 = t.1) (fun Kx51 => ?_) ?_
       ·
        refine WC.block ?_
        refine WC.loop (T := ((List Tile) × Int) × e20 × Nat) (fun t => [e6, e3, e4, e5, e10, (7, (sv t.2.1 t.1.1 t.2.2)), (8, (iv t.1.2))]) (fun n t w1 => St NoS w w1 [] [rowO 37 e15 A8 c9 e14, rowsO 3 encInt H11 t3, rowO 28 e11 A29 c30 (tag H32 l31), rowsO 48 enc_Tile H32 l31, rowO 48 enc_Tile t.2.1 t.2.2 t.1.1] ∧ ref10_All.l2 n t.1.1 t.1.2 p0 t3 x18 x33 = some x51) k39 ((([] : List Tile), 0), none, 0) e18 rfl ⟨(hS44.subR []).sub [1, 2, 3, 4, 0] (by decide), hx52⟩ ?_
        rintro k53 ⟨⟨l47, x48⟩, A45, c46⟩ w54 ⟨hS55, hl56⟩
        let e16 := w64 (2 * x48)
        let e1 : List (Nat × Addr × Value) := [(4, ((adr A8).add ((x18).toNat * 1)), e8), (8, ((adr ((H11 x18.toNat).1)).add (e16.toNat * 1)), (iv (rdD e12 e16 0))), (12, ((adr A8).add ((x18).toNat * 1)), e8), (17, ((adr ((H11 x18.toNat).1)).add ((w64 (e16 + 1)).toNat * 1)), (iv (rdD e12 (w64 (e16 + 1)) 0))), (21, ((adr A8).add ((x33).toNat * 1)), e9), (25, ((adr ((H11 x33.toNat).1)).add (e16.toNat * 1)), (iv (rdD e13 e16 0))), (29, ((adr A8).add ((x33).toNat * 1)), e9), (34, ((adr ((H11 x33.toNat).1)).add ((w64 (e16 + 1)).toNat * 1)), (iv (rdD e13 (w64 (e16 + 1)) 0)))]
        let e2 := [(Tile.mk (rdD e12 e16 0) (rdD e13 e16 0) (rdD e12 (w64 (e16 + 1)) 0) (rdD e13 (w64 (e16 + 1)) 0))]
        let e7 : Array Value := #[(iv (rdD e12 e16 0)), (iv (rdD e13 e16 0)), (iv (rdD e12 (w64 (e16 + 1)) 0)), (iv (rdD e13 (w64 (e16 + 1)) 0))]
        cases k53 with
        | zero => rw [ref10_All.l2] at hl56; cases hl56
        | succ k53 =>
         rw [ref10_All.l2] at hl56
         refine WC.seq (WC.seq (WC.region ?_))
         refine sg 3 [] [0, 3, 4, 5, 6, 7, 8, 26] [e6, e3, e4, e5, e10, (7, (sv A45 l47 c46)), (8, (iv x48)), (26, (bv (decide (x48 < p0))))] (by kernel_rfl) ?_
         refine WL.done rfl (WX.next ?_)
         rcases br_some hl56 with ⟨h57, hl56⟩ | ⟨h57, hl56⟩
         ·refine WC.condT2 (fun fb => by kernel_rfl) h57 ?_
          refine WC.skip (WX.next (WC.seq (WC.block ?_)))
          obtain ⟨h60, hl56⟩ := as_some hl56
          obtain ⟨h61, hl56⟩ := as_some hl56
          obtain ⟨h62, hl56⟩ := as_some hl56
          obtain ⟨h63, hl56⟩ := as_some hl56
          obtain ⟨h65, hl56⟩ := as_some hl56
          obtain ⟨h66, hl56⟩ := as_some hl56
          refine WC.regionD (e1, [0, 1, 2, 3, 4, 5, 6, 7, 8, 9, 10, 11, 12, 13, 14, 15, 16, 17, 18, 19, 20, 21, 22, 23, 24, 25, 26, 27, 28, 29, 30, 31, 32, 33, 34, 35, 38], [[], [], [], [1, 2], [1, 2, 3], [], [5], [1, 2, 3, 4, 5, 6], [1, 2, 3, 4, 5, 6, 7], [], [], [9, 10], [9, 10, 11], [], [13], [13, 14], [9, 10, 11, 12, 13, 14, 15], [9, 10, 11, 12, 13, 14, 15, 16], [], [], [18, 19], [18, 19, 20], [], [22], [18, 19, 20, 21, 22, 23], [18, 19, 20, 21, 22, 23, 24], [], [], [26, 27], [26, 27, 28], [], [30], [30, 31], [26, 27, 28, 29, 30, 31, 32], [26, 27, 28, 29, 30, 31, 32, 33], [1, 2, 3, 4, 5, 6, 7, 8, 9, 10, 11, 12, 13, 14, 15, 16, 17, 18, 19, 20, 21, 22, 23, 24, 25, 26, 27, 28, 29, 30, 31, 32, 33, 34], [1, 2, 3, 4, 5, 6, 7, 8, 9, 10, 11, 12, 13, 14, 15, 16, 17, 18, 19, 20, 21, 22, 23, 24, 25, 26, 27, 28, 29, 30, 31, 32, 33, 34, 35], [0, 1, 2, 3, 4, 5, 6, 7, 8, 9, 10, 11, 12, 13, 14, 15, 16, 17, 18, 19, 20, 21, 22, 23, 24, 25, 26, 27, 28, 29, 30, 31, 32, 33, 34, 35, 36], [0, 1, 2, 3, 4, 5, 6, 7, 8, 9, 10, 11, 12, 13, 14, 15, 16, 17, 18, 19, 20, 21, 22, 23, 24, 25, 26, 27, 28, 29, 30, 31, 32, 33, 34, 35, 36, 37]]) [[0, 1, 2, 3, 4, 5, 6, 7, 8, 9, 10, 11, 12, 13, 14, 15, 16, 17, 18, 19, 20, 21, 22, 23, 24, 25, 26, 27, 28, 29, 30, 31, 32, 33, 34, 35, 36, 37, 38]] (by kernel_rfl) (by kernel_rfl) (NoPanic.block (NoPanic.seq (NoPanic.seq (NoPanic.block (NoPanic.seq (NoPanic.block (NoPanic.seq (NoPanic.seq (NoPanic.block (NoPanic.block (NoPanic.seq (NoPanic.seq (NoPanic.block (NoPanic.seq (NoPanic.body))))))))))))))) ?_
          have hS59 := hS55.drew
          revert hS59
          generalize World.drew w54 = w58
          intro hS59
          refine ⟨⟨nrow_cell (rowO.rd (hS59.own 0).1) [] h60.1 h60.2 0 rfl, rowR.cell (rowO.rd (rowsO.at (hS59.own 1).1 h60.1 h60.2)) 0 h61.1 h61.2 0 rfl, nrow_cell (rowO.rd (hS59.own 0).1) [] h60.1 h60.2 0 rfl, rowR.cell (rowO.rd (rowsO.at (hS59.own 1).1 h60.1 h60.2)) 0 h62.1 h62.2 0 rfl, nrow_cell (rowO.rd (hS59.own 0).1) [] h63.1 h63.2 0 rfl, rowR.cell (rowO.rd (rowsO.at (hS59.own 1).1 h63.1 h63.2)) 0 h65.1 h65.2 0 rfl, nrow_cell (rowO.rd (hS59.own 0).1) [] h63.1 h63.2 0 rfl, rowR.cell (rowO.rd (rowsO.at (hS59.own 1).1 h63.1 h63.2)) 0 h66.1 h66.2 0 rfl, trivial⟩, forallC ?_ (forallN)⟩
          refine segF 36 [.v e8, .v (iv (rdD e12 e16 0)), .v e8, .v (iv (rdD e12 (w64 (e16 + 1)) 0)), .v e9, .v (iv (rdD e13 e16 0)), .v e9, .v (iv (rdD e13 (w64 (e16 + 1)) 0))] [0, 3, 4, 5, 6, 8, 29, 64] [e6, e3, e4, e5, e10, (8, (iv x48)), (29, (sv A45 l47 c46)), (64, (.agg e7))] [.idx A8 x18 t3.length, .idx ((H11 x18.toNat).1) e16 e12.length, .idx A8 x18 t3.length, .idx ((H11 x18.toNat).1) (w64 (e16 + 1)) e12.length, .idx A8 x33 t3.length, .idx ((H11 x33.toNat).1) e16 e13.length, .idx A8 x33 t3.length, .idx ((H11 x33.toNat).1) (w64 (e16 + 1)) e13.length] [0, 1, 2, 3, 4, 5, 6, 7] e1 (fun fb => by kernel_rfl) rfl ⟨nrow_adr (rowO.rd (hS59.own 0).1) h60.1 h60.2, rowR.adr (rowO.rd (rowsO.at (hS59.own 1).1 h60.1 h60.2)) h61.1 h61.2, nrow_adr (rowO.rd (hS59.own 0).1) h60.1 h60.2, rowR.adr (rowO.rd (rowsO.at (hS59.own 1).1 h60.1 h60.2)) h62.1 h62.2, nrow_adr (rowO.rd (hS59.own 0).1) h63.1 h63.2, rowR.adr (rowO.rd (rowsO.at (hS59.own 1).1 h63.1 h63.2)) h65.1 h65.2, nrow_adr (rowO.rd (hS59.own 0).1) h63.1 h63.2, rowR.adr (rowO.rd (rowsO.at (hS59.own 1).1 h63.1 h63.2)) h66.1 h66.2, trivial⟩ rfl ?_
          refine WL.new hS59 65 [] (fun g => (.slice (some ⟨g, 0, none⟩) 1 1)) (.cells e7 48 (0, 0)) [] (fun fb g => by kernel_rfl) trivial (fun g67 w68 hS69 => ?_)
          refine ⟨trivial, ?_⟩
          have hS70 := hS13.go w68 [rowO 48 enc_Tile (some ⟨g67, 0, none⟩) 1 e2, rowO 37 e15 A8 c9 e14, rowsO 3 encInt H11 t3, rowO 28 e11 A29 c30 (tag H32 l31), rowsO 48 enc_Tile H32 l31, rowO 48 enc_Tile A45 c46 l47] (hS69.map1 0 _ (fun h => rowO.ofBlk h rfl (Nat.le_of_ble_eq_true (by kernel_rfl))) (fun _ h => by obtain ⟨_, h1, h2⟩ := h; injection h1 with h1; subst h1; exact h2) [1, 2, 3, 4, 5] (by decide) (by decide))
          obtain ⟨h71, hl56⟩ := as_some hl56
          refine WL.append hS70 5 (d := 66) (tS := 28) (z := (.agg #[(iv 0), (iv 0), (iv 0), (iv 0)])) (bytes := 32) (c2 := 1) rfl (fun fb => by kernel_rfl) (rowO.rd (hS70.own 0).1) (by kernel_rfl) (by kernel_rfl) rfl (by decide) h71 (by decide) [0, 1, 2, 3, 4] (by decide) (by decide) (fun A72 c73 w74 hS75 => ?_)
          refine ⟨trivial, ?_⟩
          refine sg 39 [] e18 [e6, e3, e4, e5, e10, (7, (sv A72 (l47 ++ e2) c73)), (8, (iv x48))] (by kernel_rfl) ?_
          refine WL.done rfl ?_
          refine WX.blockN (WX.next ?_)
          refine WC.region ?_
          refine sg 3 [] e18 [e6, e3, e4, e5, e10, (7, (sv A72 (l47 ++ e2) c73)), (8, (iv (w64 (x48 + 1))))] (by kernel_rfl) ?_
          refine WL.done rfl ?_
          exact WX.again k53 (Nat.lt_succ_self _) ((l47 ++ e2, w64 (x48 + 1)), A72, c73) e18 rfl ⟨(hS75.subR []).sub [2, 3, 4, 5, 0] (by decide), hl56⟩
         refine WC.condF2 (fun fb => by kernel_rfl) h57 ?_
         refine WC.exit ?_
         injection hl56 with hl56
         exact WX.thenX (WX.thenX (WX.blockHere (WX.to Kx51 (l47, A45, c46) [0, 3, 4, 5, 6, 7] rfl ⟨(hS55.subR []).sub [0, 1, 2, 3, 4] (by decide), hl56.symm⟩)))
       rintro ⟨y79, A49, c50⟩ w76 ⟨hS77, hq78⟩
       subst hq78
       refine WX.next (WC.seq (WC.region ?_))
       refine sg 1 [] [0, 3, 4, 5, 6, 7, 67] [e6, e3, e4, e5, e10, (7, (sv A49 x51 c50)), (67, (sv A49 x51 c50))] (by kernel_rfl) ?_
       obtain ⟨t80, ht81, hl42⟩ := bind_some hl42
       refine WL.call (some 68) 11 #[(sv A49 x51 c50)] (fun fb => by kernel_rfl) (ref01_Valid_calls _ x51 A49 c50 t80 _ (hS77.ow 4).ofO ht81) (fun v w82 hR83 => ?_)
       obtain ⟨rfl, hk_⟩ := hR83
       have hS84 := hS77.keepN hk_
       refine ⟨trivial, ?_⟩
       refine sg 3 [] [0, 3, 4, 5, 6, 7, 69] [e6, e3, e4, e5, e10, (7, (sv A49 x51 c50)), (69, (bv t80))] (by kernel_rfl) ?_
       obtain ⟨x85, hx86, hl42⟩ := bind_some hl42
       let e21 := sv A49 x51 c50
       refine WL.cutW (T := Bool) 6 (fun t => [e6, e3, e4, e5, e10, (7, e21), (72, (bv t))]) (fun t w1 => (St NoS w w1 [] [rowO 37 e15 A8 c9 e14, rowsO 3 encInt H11 t3, rowO 28 e11 A29 c30 (tag H32 l31), rowsO 48 enc_Tile H32 l31, rowO 48 enc_Tile A49 c50 x51] ∧ x85 = t) ∧ CellsOK [] w1) (fun K => ?_) ?_
       ·
        rcases br_some hx86 with ⟨h87, hx86⟩ | ⟨h87, hx86⟩
        ·
         refine WL.setB 69 h87 rfl ?_
         refine sg 4 [] [0, 3, 4, 5, 6, 7, 69, 70] [e6, e3, e4, e5, e10, (7, e21), (69, (bv true)), (70, e21)] (by kernel_rfl) ?_
         obtain ⟨t88, ht89, hx86⟩ := bind_some hx86
         refine WL.call (some 71) 12 #[e21] (fun fb => by kernel_rfl) (ref10_Least_calls _ x51 A49 c50 t88 _ (hS84.ow 4).ofO ht89) (fun v w90 hR91 => ?_)
         obtain ⟨rfl, hk_⟩ := hR91
         have hS92 := hS84.keepN hk_
         refine ⟨trivial, ?_⟩
         refine sg 6 [] e22 [e6, e3, e4, e5, e10, (7, e21), (72, (bv t88))] (by kernel_rfl) ?_
         injection hx86 with hx86
         exact WL.to K t88 e22 rfl ⟨⟨(hS92.subR []).sub [0, 1, 2, 3, 4] (by decide), hx86.symm⟩, trivial⟩
        refine WL.setB 69 h87 rfl ?_
        refine sg 6 [] e22 [e6, e3, e4, e5, e10, (7, e21), (72, (bv false))] (by kernel_rfl) ?_
        injection hx86 with hx86
        exact WL.to K false e22 rfl ⟨⟨(hS84.subR []).sub [0, 1, 2, 3, 4] (by decide), hx86.symm⟩, trivial⟩
       rintro y93 w95 ⟨⟨hS96, hq94⟩, hF97⟩
       subst hq94
       refine WL.done rfl (WX.next ?_)
       obtain ⟨x101, hx102, hl42⟩ := bind_some hl42
       let e23 := updH H32 l31.length (A49, c50)
       refine WC.cutN (T := e19 × e20 × Nat × HF) (fun t => [e6, e3, (4, (sv t.2.1 t.1 t.2.2.1)), e5, e10]) (fun t w1 => St NoS w w1 [] [rowO 37 e15 A8 c9 e14, rowsO 3 encInt H11 t3, rowO 28 e11 t.2.1 t.2.2.1 (tag t.2.2.2 t.1), rowsO 48 enc_Tile t.2.2.2 t.1] ∧ x101 = t.1) (fun Kx101 => ?_) ?_
       ·
        rcases br_some hx102 with ⟨h103, hx102⟩ | ⟨h103, hx102⟩
        ·refine WC.condT2 (fun fb => by kernel_rfl) h103 ?_
         refine WC.region ?_
         refine sg 2 [] [0, 3, 5, 6, 73, 74] [e6, e3, e5, e10, (73, (sv A29 l31 c30)), (74, e21)] (by kernel_rfl) ?_
         refine WL.new hS96 75 [] (fun g => (.slice (some ⟨g, 0, none⟩) 1 1)) (.cells #[e21] 28 (0, 0)) [] (fun fb g => by kernel_rfl) trivial (fun g104 w105 hS106 => ?_)
         refine ⟨trivial, ?_⟩
         have hS107 := hS13.go w105 [rowO 28 e11 (some ⟨g104, 0, none⟩) 1 (tag (fun _ => (A49, c50)) [x51]), rowO 37 e15 A8 c9 e14, rowsO 3 encInt H11 t3, rowO 28 e11 A29 c30 (tag H32 l31), rowsO 48 enc_Tile H32 l31, rowO 48 enc_Tile A49 c50 x51] (hS106.map1 0 _ (fun h => rowO.ofBlk h rfl (Nat.le_of_ble_eq_true (by kernel_rfl))) (fun _ h => by obtain ⟨_, h1, h2⟩ := h; injection h1 with h1; subst h1; exact h2) [1, 2, 3, 4, 5] (by decide) (by decide))
         have hS108 := hS107.go w105 [rowsO 48 enc_Tile (fun _ => (A49, c50)) [x51], rowO 28 e11 (some ⟨g104, 0, none⟩) 1 (tag (fun _ => (A49, c50)) [x51]), rowO 37 e15 A8 c9 e14, rowsO 3 encInt H11 t3, rowO 28 e11 A29 c30 (tag H32 l31), rowsO 48 enc_Tile H32 l31] (hS107.rowsOne 5 rfl [0, 1, 2, 3, 4] (by decide) (by decide))
         obtain ⟨h109, hx102⟩ := as_some hx102
         refine WL.appendN hS108 4 (d := 76) (tS := 22) (z := (.slice none 0 0)) (bytes := 24) (c2 := 1) (hx := (A49, c50)) (x := x51) rfl (fun fb => by kernel_rfl) (rowO.rd (hS108.own 1).1) (by kernel_rfl) (by kernel_rfl) rfl (by decide) h109 (by decide) [0, 1, 2, 3, 5] (by decide) (by decide) (fun A110 c111 w112 hS113 => ?_)
         have hS114 := hS108.go w112 [rowsO 48 enc_Tile e23 (l31 ++ [x51]), rowO 28 e11 A110 c111 (tag e23 (l31 ++ [x51])), rowO 28 e11 (some ⟨g104, 0, none⟩) 1 (tag (fun _ => (A49, c50)) [x51]), rowO 37 e15 A8 c9 e14, rowsO 3 encInt H11 t3] (hS113.rowsPush 5 1 rfl rfl (by decide) [0, 2, 3, 4] (by decide) (by decide))
         refine ⟨trivial, ?_⟩
         refine sg 5 [] e17 [e6, e3, (4, (sv A110 (l31 ++ [x51]) c111)), e5, e10] (by kernel_rfl) ?_
         refine WL.done rfl ?_
         injection hx102 with hx102
         exact WX.to Kx101 (l31 ++ [x51], A110, c111, e23) e17 rfl ⟨(hS114.subR []).sub [3, 4, 1, 0] (by decide), hx102.symm⟩
        refine WC.condF2 (fun fb => by kernel_rfl) h103 ?_
        refine WC.skip ?_
        injection hx102 with hx102
        exact WX.to Kx101 (l31, A29, c30, H32) e17 rfl ⟨(hS96.subR []).sub [0, 1, 2, 3] (by decide), hx102.symm⟩
       rintro ⟨y118, A98, c99, H100⟩ w115 ⟨hS116, hq117⟩
       subst hq117
       refine WX.blockN (WX.next ?_)
       refine WC.region ?_
       refine sg 3 [] e17 [e6, e3, (4, (sv A98 x101 c99)), e5, (6, (iv (w64 (x33 + 1))))] (by kernel_rfl) ?_
       refine WL.done rfl ?_
       exact WX.again k39 (Nat.lt_succ_self _) ((x101, w64 (x33 + 1)), A98, c99, H100) e17 rfl ⟨(hS116.subR []).sub [0, 1, 2, 3] (by decide), hl42⟩
      refine WC.condF2 (fun fb => by kernel_rfl) h43 ?_
      refine WC.exit ?_
      injection hl42 with hl42
      exact WX.thenX (WX.thenX (WX.blockHere (WX.to Kx37 (l31, A29, c30, H32) [0, 3, 4, 5] rfl ⟨(hS41.subR []).sub [0, 1, 2, 3] (by decide), hl42.symm⟩)))
    rintro ⟨y122, A34, c35, H36⟩ w119 ⟨hS120, hq121⟩
    subst hq121
    refine WX.blockN (WX.next ?_)
    refine WC.region ?_
    refine sg 3 [] [0, 3, 4, 5] [e6, e3, (4, (sv A34 x37 c35)), (5, (iv (w64 (x18 + 1))))] (by kernel_rfl) ?_
    refine WL.done rfl ?_
    exact WX.again k24 (Nat.lt_succ_self _) ((x37, w64 (x18 + 1)), A34, c35, H36) [0, 3, 4, 5] rfl ⟨(hS120.subR []).sub [0, 1, 2, 3] (by decide), hl27⟩
   refine WC.condF2 (fun fb => by kernel_rfl) h28 ?_
   refine WC.exit ?_
   injection hl27 with hl27
   exact WX.thenX (WX.thenX (WX.blockHere (WX.to Kx22 (l16, A14, c15, H17) [4] rfl ⟨(hS26.subR []).sub [2, 3] (by decide), hl27.symm⟩)))
 rintro ⟨y126, A19, c20, H21⟩ w123 ⟨hS124, hq125⟩
 subst hq125
 refine WX.next (WC.seq (WC.region ?_))
 refine sg 2 [] [2] [(2, (sv A19 x22 c20))] (by kernel_rfl) ?_
 refine WL.done rfl (WX.next ?_)
 refine WC.ret ?_
 injection hf with hf
 subst hf
 exact WX.ret_ [] (sv A19 x22 c20) [] (fun fb => by kernel_rfl) trivial ⟨_, rfl, A19, c20, H21, rfl, (hS124.sub [0, 1] (by decide)).noR⟩
theorem ref10_orders_calls : ∀ (k : Nat) (p0 : List Tile) (Aa : Option Addr) (ca : Nat) (r : (List (List Tile))) (w : World) (hR0 : RO NoS w (rowR enc_Tile Aa ca p0)) (hf : ref10_orders k p0 = some r),
  CallsR Try.prog 28 #[(sv Aa p0 ca)] w (fun v w' => ∃ (A1_ : Option Addr), ∃ (c1_ : Nat), ∃ (z1_ : HF), v = (sv A1_ r c1_) ∧ St NoS w w' [] [rowO 28 (encSl Tile) A1_ c1_ (tag z1_ r), rowsO 48 enc_Tile z1_ r]) := by
 intro k
 induction k with
 | zero => intro p0 Aa ca r w hR0 hf; rw [ref10_orders] at hf; cases hf
 | succ k ih_ =>
 intro p0 Aa ca r w hR0 hf
 have hS : St NoS w w [rowR enc_Tile Aa ca p0] [] := St.init (ro_cons hR0 (ro_nil _ _))
 rw [ref10_orders] at hf
 generalize ref10_orders k = rc_ at hf ih_
 refine enter 50 Try.func28 rfl Try.ntmps28 rfl ?_
 refine WC.seq (WC.region ?_)
 refine sg 1 [] [0] [(0, (sv Aa p0 ca))] (by kernel_rfl) ?_
 refine WL.done rfl (WX.next (WC.seq (WC.seq (WC.region ?_))))
 refine sg 3 [] [0, 10] [(0, (sv Aa p0 ca)), (10, (bv ((p0.length : Int) == 0)))] (by kernel_rfl) ?_
 refine WL.done rfl (WX.next ?_)
 rcases br_some hf with ⟨h3, hf⟩ | ⟨h3, hf⟩
 ·refine WC.condT2 (fun fb => by kernel_rfl) h3 ?_
  refine WC.seq (WC.region ?_)
  have hS4 := hS.nilrow 48 enc_Tile
  refine WL.new hS4 11 [] (fun g => (.slice (some ⟨g, 0, none⟩) 1 1)) (.cells #[(sv none ([] : List Tile) 0)] 28 (0, 0)) [] (fun fb g => by kernel_rfl) trivial (fun g5 w6 hS7 => ?_)
  refine ⟨trivial, ?_⟩
  have hS8 := hS.go w6 [rowO 28 (encSl Tile) (some ⟨g5, 0, none⟩) 1 (tag (fun _ => (none, 0)) [([] : List Tile)]), rowO 48 enc_Tile none 0 ([] : List Tile)] (hS7.map1 0 _ (fun h => rowO.ofBlk h rfl (Nat.le_of_ble_eq_true (by kernel_rfl))) (fun _ h => by obtain ⟨_, h1, h2⟩ := h; injection h1 with h1; subst h1; exact h2) [1] (by decide) (by decide))
  have hS9 := hS8.go w6 [rowsO 48 enc_Tile (fun _ => (none, 0)) [([] : List Tile)], rowO 28 (encSl Tile) (some ⟨g5, 0, none⟩) 1 (tag (fun _ => (none, 0)) [([] : List Tile)])] (hS8.rowsOne 1 rfl [0] (by decide) (by decide))
  refine sg 2 [] [2] [(2, (sv (some ⟨g5, 0, none⟩) [([] : List Tile)] 1))] (by kernel_rfl) ?_
  refine WL.done rfl (WX.next ?_)
  refine WC.ret ?_
  injection hf with hf
  subst hf
  exact WX.thenR (WX.ret_ [] (sv (some ⟨g5, 0, none⟩) [([] : List Tile)] 1) [] (fun fb => by kernel_rfl) trivial ⟨_, rfl, (some ⟨g5, 0, none⟩), 1, (fun _ => (none, 0)), rfl, (hS9.sub [1, 0] (by decide)).noR⟩)
 refine WC.condF2 (fun fb => by kernel_rfl) h3 ?_
 refine WC.skip (WX.next (WC.seq (WC.region ?_)))
 refine sg 1 [] [0, 3] [(0, (sv Aa p0 ca)), (3, (.slice none 0 0))] (by kernel_rfl) ?_
 refine WL.done rfl (WX.next (WC.seq (WC.seq (WC.region ?_))))
 refine sg 1 [] [0, 3, 4] [(0, (sv Aa p0 ca)), (3, (.slice none 0 0)), (4, (iv 0))] (by kernel_rfl) ?_
 refine WL.done rfl (WX.next ?_)
 have hS11 := hS.go w [rowO 28 (encSl Tile) none 0 (tag hf0 ([] : List (List Tile)))] (hS.nilrow 28 (encSl Tile))
 have hS12 := hS11.go w [rowsO 48 enc_Tile hf0 ([] : List (List Tile)), rowO 28 (encSl Tile) none 0 (tag hf0 ([] : List (List Tile)))] (hS11.rowsNil 48 enc_Tile 0)
 obtain ⟨x21, hx22, hf⟩ := bind_some hf
 let e4 : Nat × Value := (0, (sv Aa p0 ca))
 let e6 := encSl Tile
 let e10 := (p0.length : Int)
 let e13 := (subA Aa ca (0 : Int).toNat 4)
 let e14 := (ca - (0 : Int).toNat)
 let e16 : Array Value := #[(iv 0), (iv 0), (iv 0), (iv 0)]
 refine WC.cutN (T := (List (List Tile)) × (Option Addr) × Nat × HF) (fun t => [(3, (sv t.2.1 t.1 t.2.2.1))]) (fun t w1 => St NoS w w1 [rowR enc_Tile Aa ca p0] [rowO 28 e6 t.2.1 t.2.2.1 (tag t.2.2.2 t.1), rowsO 48 enc_Tile t.2.2.2 t.1] ∧ x21 = t.1) (fun Kx21 => ?_) ?_
 ·
  refine WC.block ?_
  refine WC.loop (T := ((List (List Tile)) × Int) × (Option Addr) × Nat × HF) (fun t => [e4, (3, (sv t.2.1 t.1.1 t.2.2.1)), (4, (iv t.1.2))]) (fun n t w1 => St NoS w w1 [rowR enc_Tile Aa ca p0] [rowO 28 e6 t.2.1 t.2.2.1 (tag t.2.2.2 t.1.1), rowsO 48 enc_Tile t.2.2.2 t.1.1] ∧ ref10_orders.l0 n t.1.1 t.1.2 p0 rc_ = some x21) k ((([] : List (List Tile)), 0), none, 0, hf0) [0, 3, 4] rfl ⟨(hS12.subR [0]).sub [1, 0] (by decide), hx22⟩ ?_
  rintro k23 ⟨⟨l15, x17⟩, A13, c14, H16⟩ w24 ⟨hS25, hl26⟩
  let e1 := rdD p0 x17 z_Tile
  let e2 : List Own := [rowR enc_Tile (subA Aa ca (w64 (x17 + 1)).toNat 4) (ca - (w64 (x17 + 1)).toNat) (cut p0 (w64 (x17 + 1)) e10), rowR enc_Tile e13 e14 (cut p0 (0 : Int) x17), rowR enc_Tile Aa ca p0]
  let e7 : Nat × Value := (3, (sv A13 l15 c14))
  let e8 : Nat × Value := (4, (iv x17))
  let e9 := w64 (x17 + 1)
  let e11 := (cut p0 (0 : Int) x17)
  let e12 := (adr Aa).add ((x17).toNat * 4)
  cases k23 with
  | zero => rw [ref10_orders.l0] at hl26; cases hl26
  | succ k23 =>
   rw [ref10_orders.l0] at hl26
   refine WC.seq (WC.seq (WC.region ?_))
   refine sg 4 [] [0, 3, 4, 15] [e4, e7, e8, (15, (bv (decide (x17 < e10))))] (by kernel_rfl) ?_
   refine WL.done rfl (WX.next ?_)
   rcases br_some hl26 with ⟨h27, hl26⟩ | ⟨h27, hl26⟩
   ·refine WC.condT2 (fun fb => by kernel_rfl) h27 ?_
    refine WC.skip (WX.next (WC.seq (WC.block (WC.seq ?_))))
    obtain ⟨h31, hl26⟩ := as_some hl26
    obtain ⟨h32, hl26⟩ := as_some hl26
    refine WC.regionD ([], [1, 2, 3, 5, 6, 7, 8, 10], [[], [], [], [1, 2], [0, 1, 2, 3], [], [], [6], [5, 6, 7], [0, 1, 2, 3, 4, 5, 6, 7, 8], [0, 1, 2, 3, 4, 5, 6, 7, 8, 9]]) [[1, 2, 3, 5, 6, 7, 8, 0, 4, 9, 10]] (by kernel_rfl) (by kernel_rfl) (NoPanic.seq (NoPanic.block (NoPanic.seq (NoPanic.seq (NoPanic.block (NoPanic.seq (NoPanic.body))))))) ?_
    have hS30 := hS25.drew
    revert hS30
    generalize World.drew w24 = w29
    intro hS30
    refine ⟨trivial, forallC ?_ (forallN)⟩
    refine sg 2 [] [0, 3, 4, 19, 20] [e4, e7, e8, (19, (sv Aa p0 ca)), (20, (iv x17))] (by kernel_rfl) ?_
    refine seg 3 [] [0, 3, 4, 21] [e4, e7, e8, (21, (.slice e13 (x17.toNat - (0 : Int).toNat) e14))] [.idx (some ⟨0, 0, none⟩) (0 : Int) (x17.toNat + 1), .idx (some ⟨0, 0, none⟩) x17 (ca + 1)] (fun fb => by kernel_rfl) rfl ⟨cut1 h31.1 h31.2.1, cut2 h31.1 h31.2.1 h31.2.2 (hS30.rd 0).1.2, trivial⟩ ?_
    refine WL.reE [0, 3, 4, 21] [(0, (.slice Aa p0.length ca)), (3, (.slice A13 l15.length c14)), (4, (iv x17)), (21, (.slice (subA Aa ca (0 : Int).toNat 4) (x17.toNat - (0 : Int).toNat) (ca - (0 : Int).toNat)))] [(0, (.slice Aa p0.length ca)), (3, (.slice A13 l15.length c14)), (4, (iv x17)), (21, (.slice (subA Aa ca (0 : Int).toNat 4) (cut p0 (0 : Int) x17).length (ca - (0 : Int).toNat)))] rfl (by rw [cut_length h31.1 h31.2.1 h31.2.2]) ?_
    have hS33 := hS30.cutR 0 rfl h31.1 h31.2.1 h31.2.2
    refine sg 6 [] [0, 3, 4, 21, 23, 25] [e4, e7, e8, (21, (sv e13 e11 e14)), (23, (sv Aa p0 ca)), (25, (iv e9))] (by kernel_rfl) ?_
    refine seg 7 [] [0, 3, 4, 21, 26] [e4, e7, e8, (21, (sv e13 e11 e14)), (26, (.slice (subA Aa ca e9.toNat 4) (e10.toNat - e9.toNat) (ca - e9.toNat)))] [.idx (some ⟨0, 0, none⟩) e9 (e10.toNat + 1), .idx (some ⟨0, 0, none⟩) e10 (ca + 1)] (fun fb => by kernel_rfl) rfl ⟨cut1 h32.1 h32.2.1, cut2 h32.1 h32.2.1 h32.2.2 (hS33.rd 1).1.2, trivial⟩ ?_
    refine WL.reE [0, 3, 4, 21, 26] [(0, (.slice Aa p0.length ca)), (3, (.slice A13 l15.length c14)), (4, (iv x17)), (21, (.slice (subA Aa ca (0 : Int).toNat 4) (cut p0 (0 : Int) x17).length (ca - (0 : Int).toNat))), (26, (.slice (subA Aa ca (w64 (x17 + 1)).toNat 4) ((p0.length : Int).toNat - (w64 (x17 + 1)).toNat) (ca - (w64 (x17 + 1)).toNat)))] [(0, (.slice Aa p0.length ca)), (3, (.slice A13 l15.length c14)), (4, (iv x17)), (21, (.slice (subA Aa ca (0 : Int).toNat 4) (cut p0 (0 : Int) x17).length (ca - (0 : Int).toNat))), (26, (.slice (subA Aa ca (w64 (x17 + 1)).toNat 4) (cut p0 (w64 (x17 + 1)) (p0.length : Int)).length (ca - (w64 (x17 + 1)).toNat)))] rfl (by rw [cut_length h32.1 h32.2.1 h32.2.2]) ?_
    have hS34 := hS33.cutR 1 rfl h32.1 h32.2.1 h32.2.2
    refine WL.new hS34 18 [] (fun g => (.slice (some ⟨g, 0, none⟩) 0 0)) (.cells #[] 48 (0, 0)) [] (fun fb g => by kernel_rfl) trivial (fun g35 w36 hS37 => ?_)
    refine ⟨trivial, ?_⟩
    have hS38 : St NoS w w36 e2 [rowO 48 enc_Tile (some ⟨g35, 0, none⟩) 0 ([] : List Tile), rowO 28 e6 A13 c14 (tag H16 l15), rowsO 48 enc_Tile H16 l15] := hS37.map1 0 _ (fun h => rowO.ofBlk h rfl (Nat.le_of_ble_eq_true (by kernel_rfl))) (fun _ h => by obtain ⟨_, h1, h2⟩ := h; injection h1 with h1; subst h1; exact h2) [1, 2] (by decide) (by decide)
    obtain ⟨h39, hl26⟩ := as_some hl26
    refine WL.append hS38 0 (d := 22) (tS := 28) (z := (.agg e16)) (bytes := 32) (c2 := e14) rfl (fun fb => by kernel_rfl) (hS38.rd 1).1 (by kernel_rfl) (by kernel_rfl) rfl (by decide) h39 (by decide) [1, 2] (by decide) (by decide) (fun A40 c41 w42 hS43 => ?_)
    refine ⟨trivial, ?_⟩
    obtain ⟨h44, hl26⟩ := as_some hl26
    refine WL.append hS43 0 (d := 27) (tS := 28) (z := (.agg e16)) (bytes := 32) (c2 := (ca - e9.toNat)) rfl (fun fb => by kernel_rfl) (hS43.rd 0).1 (by kernel_rfl) (by kernel_rfl) rfl (by decide) h44 (by decide) [1, 2] (by decide) (by decide) (fun A45 c46 w47 hS48 => ?_)
    refine ⟨trivial, ?_⟩
    refine sg 11 [] [0, 3, 4, 5] [e4, e7, e8, (5, (sv A45 ((([] : List Tile) ++ e11) ++ (cut p0 e9 e10)) c46))] (by kernel_rfl) ?_
    refine WL.done rfl (WX.next (WC.seq (WC.region ?_)))
    refine sg 1 [] [0, 3, 4, 28] [e4, e7, e8, (28, (sv A45 ((([] : List Tile) ++ e11) ++ (cut p0 e9 e10)) c46))] (by kernel_rfl) ?_
    obtain ⟨t49, ht50, hl26⟩ := bind_some hl26
    refine WL.call (some 29) 28 #[(sv A45 ((([] : List Tile) ++ e11) ++ (cut p0 e9 e10)) c46)] (fun fb => by kernel_rfl) (ih_ ((([] : List Tile) ++ e11) ++ (cut p0 e9 e10)) A45 c46 t49 _ (hS48.ow 0).ofO ht50) (fun v w51 hR52 => ?_)
    obtain ⟨A54, c55, H56, rfl, hk_⟩ := hR52
    have hS53 := hS38.go w51 [rowO 28 (encSl Tile) A54 c55 (tag H56 t49), rowsO 48 enc_Tile H56 t49, rowO 48 enc_Tile A45 c46 ((([] : List Tile) ++ (cut p0 (0 : Int) x17)) ++ (cut p0 (w64 (x17 + 1)) (p0.length : Int))), rowO 28 (encSl Tile) A13 c14 (tag H16 l15), rowsO 48 enc_Tile H16 l15] (hS48.call hk_ [] [0, 1, 2] (fun g hg => hg.elim) (by simp) (by decide))
    refine ⟨trivial, ?_⟩
    refine sg 3 [] [0, 3, 4, 6] [e4, e7, e8, (6, (sv A54 t49 c55))] (by kernel_rfl) ?_
    refine WL.done rfl (WX.next (WC.seq (WC.region ?_)))
    refine sg 1 [] [0, 3, 4, 6, 7] [e4, e7, e8, (6, (sv A54 t49 c55)), (7, (iv 0))] (by kernel_rfl) ?_
    refine WL.done rfl (WX.next ?_)
    obtain ⟨x66, hx67, hl26⟩ := bind_some hl26
    let e15 : Nat × Value := (6, (sv A54 t49 c55))
    refine WC.cutN (T := (List (List Tile)) × (Option Addr) × Nat × HF) (fun t => [e4, (3, (sv t.2.1 t.1 t.2.2.1)), e8]) (fun t w1 => St NoS w w1 e2 [rowO 28 e6 t.2.1 t.2.2.1 (tag t.2.2.2 t.1), rowsO 48 enc_Tile t.2.2.2 t.1] ∧ x66 = t.1) (fun Kx66 => ?_) ?_
    ·
     refine WC.block ?_
     refine WC.loop (T := ((List (List Tile)) × Int) × (Option Addr) × Nat × HF) (fun t => [e4, (3, (sv t.2.1 t.1.1 t.2.2.1)), e8, e15, (7, (iv t.1.2))]) (fun n t w1 => St NoS w w1 e2 [rowO 28 e6 t.2.1 t.2.2.1 (tag t.2.2.2 t.1.1), rowsO 48 enc_Tile t.2.2.2 t.1.1, rowO 28 e6 A54 c55 (tag H56 t49), rowsO 48 enc_Tile H56 t49] ∧ ref10_orders.l1 n t.1.1 t.1.2 p0 x17 t49 = some x66) k23 ((l15, 0), A13, c14, H16) [0, 3, 4, 6, 7] rfl ⟨(hS53.subR [0, 1, 2]).sub [3, 4, 0, 1] (by decide), hx67⟩ ?_
     rintro k68 ⟨⟨l59, x61⟩, A57, c58, H60⟩ w69 ⟨hS70, hl71⟩
     let e3 : List (Nat × Addr × Value) := [(4, e12, (iv (e1.N))), (4, (e12.add 1), (iv (e1.E))), (4, (e12.add 2), (iv (e1.S))), (4, (e12.add 3), (iv (e1.W))), (9, ((adr A54).add ((x61).toNat * 1)), (sv ((H56 x61.toNat).1) (rdD t49 x61 []) ((H56 x61.toNat).2)))]
     let e5 := [[e1] ++ (rdD t49 x61 [])]
     let e17 := sv ((H56 x61.toNat).1) (rdD t49 x61 []) ((H56 x61.toNat).2)
     cases k68 with
     | zero => rw [ref10_orders.l1] at hl71; cases hl71
     | succ k68 =>
      rw [ref10_orders.l1] at hl71
      refine WC.seq (WC.seq (WC.region ?_))
      refine sg 4 [] [0, 3, 4, 6, 7, 33] [e4, (3, (sv A57 l59 c58)), e8, e15, (7, (iv x61)), (33, (bv (decide (x61 < (t49.length : Int)))))] (by kernel_rfl) ?_
      refine WL.done rfl (WX.next ?_)
      rcases br_some hl71 with ⟨h72, hl71⟩ | ⟨h72, hl71⟩
      ·refine WC.condT2 (fun fb => by kernel_rfl) h72 ?_
       refine WC.skip (WX.next (WC.seq (WC.block ?_)))
       obtain ⟨h75, hl71⟩ := as_some hl71
       obtain ⟨h76, hl71⟩ := as_some hl71
       refine WC.regionD (e3, [0, 1, 2, 3, 4, 6, 7, 8, 9, 13], [[], [], [], [1, 2], [1, 2, 3], [1, 2, 3, 4], [], [], [6, 7], [6, 7, 8], [1, 2, 3, 4, 5, 6, 7, 8, 9], [1, 2, 3, 4, 5, 6, 7, 8, 9, 10], [0, 1, 2, 3, 4, 5, 6, 7, 8, 9, 10, 11], [0, 1, 2, 3, 4, 5, 6, 7, 8, 9, 10, 11, 12]]) [[0, 1, 2, 3, 4, 6, 7, 8, 9, 5, 10, 11, 12, 13]] (by kernel_rfl) (by kernel_rfl) (NoPanic.block (NoPanic.seq (NoPanic.seq (NoPanic.block (NoPanic.block (NoPanic.seq (NoPanic.seq (NoPanic.block (NoPanic.seq (NoPanic.body)))))))))) ?_
       have hS74 := hS70.drew
       revert hS74
       generalize World.drew w69 = w73
       intro hS74
       refine ⟨⟨rowR.cell (hS74.rd 2).1 z_Tile h75.1 h75.2 0 rfl, rowR.cell (hS74.rd 2).1 z_Tile h75.1 h75.2 1 rfl, rowR.cell (hS74.rd 2).1 z_Tile h75.1 h75.2 2 rfl, rowR.cell (hS74.rd 2).1 z_Tile h75.1 h75.2 3 rfl, nrow_cell (rowO.rd (hS74.own 2).1) [] h76.1 h76.2 0 rfl, trivial⟩, forallC ?_ (forallN)⟩
       refine segF 9 [.v (iv (e1.N)), .v (iv (e1.E)), .v (iv (e1.S)), .v (iv (e1.W)), .v e17] [0, 4, 6, 7, 36, 40, 45] [e4, e8, e15, (7, (iv x61)), (36, (sv A57 l59 c58)), (40, (.agg #[(iv (e1.N)), (iv (e1.E)), (iv (e1.S)), (iv (e1.W))])), (45, e17)] [.idx Aa x17 p0.length, .idx A54 x61 t49.length] [0, 1, 2, 3, 4] e3 (fun fb => by kernel_rfl) rfl ⟨rowR.adr (hS74.rd 2).1 h75.1 h75.2, nrow_adr (rowO.rd (hS74.own 2).1) h76.1 h76.2, trivial⟩ rfl ?_
       refine WL.new hS74 41 [] (fun g => (.slice (some ⟨g, 0, none⟩) 1 1)) (.cells #[(iv (e1.N)), (iv (e1.E)), (iv (e1.S)), (iv (e1.W))] 48 (0, 0)) [] (fun fb g => by kernel_rfl) trivial (fun g77 w78 hS79 => ?_)
       refine ⟨⟨nrow_cell (rowO.rd (hS79.own 3).1) [] h76.1 h76.2 0 rfl, trivial⟩, ?_⟩
       have hS80 := hS53.go w78 [rowO 48 enc_Tile (some ⟨g77, 0, none⟩) 1 [e1], rowO 28 e6 A57 c58 (tag H60 l59), rowsO 48 enc_Tile H60 l59, rowO 28 e6 A54 c55 (tag H56 t49), rowsO 48 enc_Tile H56 t49] (hS79.map1 0 _ (fun h => rowO.ofBlk h rfl (Nat.le_of_ble_eq_true (by kernel_rfl))) (fun _ h => by obtain ⟨_, h1, h2⟩ := h; injection h1 with h1; subst h1; exact h2) [1, 2, 3, 4] (by decide) (by decide))
       obtain ⟨h81, hl71⟩ := as_some hl71
       refine WL.append hS80 0 (d := 46) (tS := 28) (z := (.agg e16)) (bytes := 32) (c2 := (H56 x61.toNat).2) rfl (fun fb => by kernel_rfl) (rowO.rd (rowsO.at (hS80.own 4).1 h76.1 h76.2)) (by kernel_rfl) (by kernel_rfl) rfl (by decide) h81 (by decide) [1, 2, 3, 4] (by decide) (by decide) (fun A82 c83 w84 hS85 => ?_)
       refine ⟨trivial, ?_⟩
       refine WL.new hS85 47 [] (fun g => (.slice (some ⟨g, 0, none⟩) 1 1)) (.cells #[(sv A82 ([e1] ++ (rdD t49 x61 [])) c83)] 28 (0, 0)) [] (fun fb g => by kernel_rfl) trivial (fun g86 w87 hS88 => ?_)
       refine ⟨trivial, ?_⟩
       have hS89 := hS80.go w87 [rowO 28 e6 (some ⟨g86, 0, none⟩) 1 (tag (fun _ => (A82, c83)) e5), rowO 48 enc_Tile A82 c83 ([e1] ++ (rdD t49 x61 [])), rowO 28 e6 A57 c58 (tag H60 l59), rowsO 48 enc_Tile H60 l59, rowO 28 e6 A54 c55 (tag H56 t49), rowsO 48 enc_Tile H56 t49] (hS88.map1 0 _ (fun h => rowO.ofBlk h rfl (Nat.le_of_ble_eq_true (by kernel_rfl))) (fun _ h => by obtain ⟨_, h1, h2⟩ := h; injection h1 with h1; subst h1; exact h2) [1, 2, 3, 4, 5] (by decide) (by decide))
       have hS90 := hS89.go w87 [rowsO 48 enc_Tile (fun _ => (A82, c83)) e5, rowO 28 e6 (some ⟨g86, 0, none⟩) 1 (tag (fun _ => (A82, c83)) e5), rowO 28 e6 A57 c58 (tag H60 l59), rowsO 48 enc_Tile H60 l59, rowO 28 e6 A54 c55 (tag H56 t49), rowsO 48 enc_Tile H56 t49] (hS89.rowsOne 1 rfl [0, 2, 3, 4, 5] (by decide) (by decide))
       obtain ⟨h91, hl71⟩ := as_some hl71
       refine WL.appendN hS90 2 (d := 48) (tS := 22) (z := (.slice none 0 0)) (bytes := 24) (c2 := 1) (hx := (A82, c83)) (x := ([e1] ++ (rdD t49 x61 []))) rfl (fun fb => by kernel_rfl) (rowO.rd (hS90.own 1).1) (by kernel_rfl) (by kernel_rfl) rfl (by decide) h91 (by decide) [0, 1, 3, 4, 5] (by decide) (by decide) (fun A92 c93 w94 hS95 => ?_)
       have hS96 := hS90.go w94 [rowsO 48 enc_Tile (updH H60 l59.length (A82, c83)) (l59 ++ e5), rowO 28 e6 A92 c93 (tag (updH H60 l59.length (A82, c83)) (l59 ++ e5)), rowO 28 e6 (some ⟨g86, 0, none⟩) 1 (tag (fun _ => (A82, c83)) e5), rowO 28 e6 A54 c55 (tag H56 t49), rowsO 48 enc_Tile H56 t49] (hS95.rowsPush 3 1 rfl rfl (by decide) [0, 2, 4, 5] (by decide) (by decide))
       refine ⟨trivial, ?_⟩
       refine sg 14 [] [0, 3, 4, 6, 7] [e4, (3, (sv A92 (l59 ++ e5) c93)), e8, e15, (7, (iv x61))] (by kernel_rfl) ?_
       refine WL.done rfl ?_
       refine WX.blockN (WX.next ?_)
       refine WC.region ?_
       refine sg 3 [] [0, 3, 4, 6, 7] [e4, (3, (sv A92 (l59 ++ e5) c93)), e8, e15, (7, (iv (w64 (x61 + 1))))] (by kernel_rfl) ?_
       refine WL.done rfl ?_
       exact WX.again k68 (Nat.lt_succ_self _) ((l59 ++ e5, w64 (x61 + 1)), A92, c93, (updH H60 l59.length (A82, c83))) [0, 3, 4, 6, 7] rfl ⟨(hS96.subR [0, 1, 2]).sub [1, 0, 3, 4] (by decide), hl71⟩
      refine WC.condF2 (fun fb => by kernel_rfl) h72 ?_
      refine WC.exit ?_
      injection hl71 with hl71
      exact WX.thenX (WX.thenX (WX.blockHere (WX.to Kx66 (l59, A57, c58, H60) [0, 3, 4] rfl ⟨(hS70.subR [0, 1, 2]).sub [0, 1] (by decide), hl71.symm⟩)))
    rintro ⟨y100, A62, c63, H65⟩ w97 ⟨hS98, hq99⟩
    subst hq99
    refine WX.blockN (WX.next ?_)
    refine WC.region ?_
    refine sg 3 [] [0, 3, 4] [e4, (3, (sv A62 x66 c63)), (4, (iv e9))] (by kernel_rfl) ?_
    refine WL.done rfl ?_
    exact WX.again k23 (Nat.lt_succ_self _) ((x66, w64 (x17 + 1)), A62, c63, H65) [0, 3, 4] rfl ⟨(hS98.subR [2]).sub [0, 1] (by decide), hl26⟩
   refine WC.condF2 (fun fb => by kernel_rfl) h27 ?_
   refine WC.exit ?_
   injection hl26 with hl26
   exact WX.thenX (WX.thenX (WX.blockHere (WX.to Kx21 (l15, A13, c14, H16) [3] rfl ⟨(hS25.subR [0]).sub [0, 1] (by decide), hl26.symm⟩)))
 rintro ⟨y104, A18, c19, H20⟩ w101 ⟨hS102, hq103⟩
 subst hq103
 refine WX.next (WC.seq (WC.region ?_))
 refine sg 2 [] [2] [(2, (sv A18 x21 c19))] (by kernel_rfl) ?_
 refine WL.done rfl (WX.next ?_)
 refine WC.ret ?_
 injection hf with hf
 subst hf
 exact WX.ret_ [] (sv A18 x21 c19) [] (fun fb => by kernel_rfl) trivial ⟨_, rfl, A18, c19, H20, rfl, (hS102.sub [0, 1] (by decide)).noR⟩
theorem ref10_numbers_calls (k : Nat) (p0 : List Tile) (Aa : Option Addr) (ca : Nat) (r : (List Int)) (w : World) (hR0 : RO NoS w (rowR enc_Tile Aa ca p0)) (hf : ref10_numbers k p0 = some r) :
  CallsR Try.prog 29 #[(sv Aa p0 ca)] w (fun v w' => ∃ (A1_ : Option Addr), ∃ (c1_ : Nat), v = (sv A1_ r c1_) ∧ St NoS w w' [] [rowO 3 encInt A1_ c1_ r]) := by
 have hS : St NoS w w [rowR enc_Tile Aa ca p0] [] := St.init (ro_cons hR0 (ro_nil _ _))
 refine enter 35 Try.func29 rfl Try.ntmps29 rfl ?_
 unfold ref10_numbers at hf
 refine WC.seq (WC.region ?_)
 refine sg 1 [] [0] [(0, (sv Aa p0 ca))] (by kernel_rfl) ?_
 refine WL.done rfl (WX.next (WC.seq (WC.region ?_)))
 refine sg 1 [] [0, 3] [(0, (sv Aa p0 ca)), (3, (.slice none 0 0))] (by kernel_rfl) ?_
 refine WL.done rfl (WX.next (WC.seq (WC.seq (WC.region ?_))))
 refine sg 1 [] [0, 3, 4] [(0, (sv Aa p0 ca)), (3, (.slice none 0 0)), (4, (iv 0))] (by kernel_rfl) ?_
 refine WL.done rfl (WX.next ?_)
 have hS3 := hS.nilrow 3 encInt
 obtain ⟨x11, hx12, hf⟩ := bind_some hf
 let e5 : Nat × Value := (0, (sv Aa p0 ca))
 refine WC.cutN (T := (List Int) × (Option Addr) × Nat) (fun t => [(3, (sv t.2.1 t.1 t.2.2))]) (fun t w1 => St NoS w w1 [rowR enc_Tile Aa ca p0] [rowO 3 encInt t.2.1 t.2.2 t.1] ∧ x11 = t.1) (fun Kx11 => ?_) ?_
 ·
  refine WC.block ?_
  refine WC.loop (T := ((List Int) × Int) × (Option Addr) × Nat) (fun t => [e5, (3, (sv t.2.1 t.1.1 t.2.2)), (4, (iv t.1.2))]) (fun n t w1 => St NoS w w1 [rowR enc_Tile Aa ca p0] [rowO 3 encInt t.2.1 t.2.2 t.1.1] ∧ ref10_numbers.l0 n t.1.1 t.1.2 p0 = some x11) k ((([] : List Int), 0), none, 0) [0, 3, 4] rfl ⟨(hS3.subR [0]).sub [0] (by decide), hx12⟩ ?_
  rintro k13 ⟨⟨l6, x7⟩, A4, c5⟩ w14 ⟨hS15, hl16⟩
  let e1 := rdD p0 x7 z_Tile
  let e3 := (adr Aa).add ((x7).toNat * 4)
  let e2 : List (Nat × Addr × Value) := [(5, e3, (iv (e1.N))), (10, (e3.add 1), (iv (e1.E))), (15, (e3.add 2), (iv (e1.S))), (20, (e3.add 3), (iv (e1.W)))]
  let e4 := [e1.N, e1.E, e1.S, e1.W]
  cases k13 with
  | zero => rw [ref10_numbers.l0] at hl16; cases hl16
  | succ k13 =>
   rw [ref10_numbers.l0] at hl16
   refine WC.seq (WC.seq (WC.region ?_))
   refine sg 4 [] [0, 3, 4, 8] [e5, (3, (sv A4 l6 c5)), (4, (iv x7)), (8, (bv (decide (x7 < (p0.length : Int)))))] (by kernel_rfl) ?_
   refine WL.done rfl (WX.next ?_)
   rcases br_some hl16 with ⟨h17, hl16⟩ | ⟨h17, hl16⟩
   ·refine WC.condT2 (fun fb => by kernel_rfl) h17 ?_
    refine WC.skip (WX.next (WC.seq (WC.block ?_)))
    obtain ⟨h20, hl16⟩ := as_some hl16
    refine WC.regionD (e2, [0, 1, 2, 3, 4, 5, 6, 7, 8, 9, 10, 11, 12, 13, 14, 15, 16, 17, 18, 19, 20, 23], [[], [], [], [1, 2], [1, 2, 3], [1, 2, 3, 4], [], [], [6, 7], [6, 7, 8], [6, 7, 8, 9], [], [], [11, 12], [11, 12, 13], [11, 12, 13, 14], [], [], [16, 17], [16, 17, 18], [16, 17, 18, 19], [1, 2, 3, 4, 5, 6, 7, 8, 9, 10, 11, 12, 13, 14, 15, 16, 17, 18, 19, 20], [0, 1, 2, 3, 4, 5, 6, 7, 8, 9, 10, 11, 12, 13, 14, 15, 16, 17, 18, 19, 20, 21], [0, 1, 2, 3, 4, 5, 6, 7, 8, 9, 10, 11, 12, 13, 14, 15, 16, 17, 18, 19, 20, 21, 22]]) [[0, 1, 2, 3, 4, 5, 6, 7, 8, 9, 10, 11, 12, 13, 14, 15, 16, 17, 18, 19, 20, 21, 22, 23]] (by kernel_rfl) (by kernel_rfl) (NoPanic.block (NoPanic.seq (NoPanic.seq (NoPanic.block (NoPanic.seq (NoPanic.body)))))) ?_
    have hS19 := hS15.drew
    revert hS19
    generalize World.drew w14 = w18
    intro hS19
    refine ⟨⟨rowR.cell (hS19.rd 0).1 z_Tile h20.1 h20.2 0 rfl, rowR.cell (hS19.rd 0).1 z_Tile h20.1 h20.2 1 rfl, rowR.cell (hS19.rd 0).1 z_Tile h20.1 h20.2 2 rfl, rowR.cell (hS19.rd 0).1 z_Tile h20.1 h20.2 3 rfl, trivial⟩, forallC ?_ (forallN)⟩
    refine segF 21 [.v (iv (e1.N)), .v (iv (e1.E)), .v (iv (e1.S)), .v (iv (e1.W))] [0, 4, 11, 16, 21, 26, 31] [e5, (4, (iv x7)), (11, (sv A4 l6 c5)), (16, (iv (e1.N))), (21, (iv (e1.E))), (26, (iv (e1.S))), (31, (iv (e1.W)))] [.idx Aa x7 p0.length, .idx Aa x7 p0.length, .idx Aa x7 p0.length, .idx Aa x7 p0.length] [0, 1, 2, 3] e2 (fun fb => by kernel_rfl) rfl ⟨rowR.adr (hS19.rd 0).1 h20.1 h20.2, rowR.adr (hS19.rd 0).1 h20.1 h20.2, rowR.adr (hS19.rd 0).1 h20.1 h20.2, rowR.adr (hS19.rd 0).1 h20.1 h20.2, trivial⟩ rfl ?_
    refine WL.new hS19 32 [] (fun g => (.slice (some ⟨g, 0, none⟩) 4 4)) (.cells #[(iv (e1.N)), (iv (e1.E)), (iv (e1.S)), (iv (e1.W))] 3 (0, 0)) [] (fun fb g => by kernel_rfl) trivial (fun g21 w22 hS23 => ?_)
    refine ⟨trivial, ?_⟩
    have hS24 := hS.go w22 [rowO 3 encInt (some ⟨g21, 0, none⟩) 4 e4, rowO 3 encInt A4 c5 l6] (hS23.map1 0 _ (fun h => rowO.ofBlk h rfl (Nat.le_of_ble_eq_true (by kernel_rfl))) (fun _ h => by obtain ⟨_, h1, h2⟩ := h; injection h1 with h1; subst h1; exact h2) [1] (by decide) (by decide))
    obtain ⟨h25, hl16⟩ := as_some hl16
    refine WL.append hS24 1 (d := 33) (tS := 37) (z := (iv 0)) (bytes := 8) (c2 := 4) rfl (fun fb => by kernel_rfl) (rowO.rd (hS24.own 0).1) (by kernel_rfl) (by kernel_rfl) rfl (by decide) h25 (by decide) [0] (by decide) (by decide) (fun A26 c27 w28 hS30 => ?_)
    refine ⟨trivial, ?_⟩
    refine sg 24 [] [0, 3, 4] [e5, (3, (sv A26 (l6 ++ e4) c27)), (4, (iv x7))] (by kernel_rfl) ?_
    refine WL.done rfl ?_
    refine WX.blockN (WX.next ?_)
    refine WC.region ?_
    refine sg 3 [] [0, 3, 4] [e5, (3, (sv A26 (l6 ++ e4) c27)), (4, (iv (w64 (x7 + 1))))] (by kernel_rfl) ?_
    refine WL.done rfl ?_
    exact WX.again k13 (Nat.lt_succ_self _) ((l6 ++ e4, w64 (x7 + 1)), A26, c27) [0, 3, 4] rfl ⟨(hS30.subR [0]).sub [0] (by decide), hl16⟩
   refine WC.condF2 (fun fb => by kernel_rfl) h17 ?_
   refine WC.exit ?_
   injection hl16 with hl16
   exact WX.thenX (WX.thenX (WX.blockHere (WX.to Kx11 (l6, A4, c5) [3] rfl ⟨(hS15.subR [0]).sub [0] (by decide), hl16.symm⟩)))
 rintro ⟨y34, A8, c9⟩ w31 ⟨hS32, hq33⟩
 subst hq33
 refine WX.next (WC.seq (WC.region ?_))
 refine sg 2 [] [2] [(2, (sv A8 x11 c9))] (by kernel_rfl) ?_
 refine WL.done rfl (WX.next ?_)
 refine WC.ret ?_
 injection hf with hf
 subst hf
 exact WX.ret_ [] (sv A8 x11 c9) [] (fun fb => by kernel_rfl) trivial ⟨_, rfl, A8, c9, rfl, (hS32.sub [0] (by decide)).noR⟩
theorem ref10_Before_calls (k : Nat) (p0 : List Tile) (p1 : List Tile) (Aa : Option Addr) (ca : Nat) (Ab : Option Addr) (cb : Nat) (r : Bool) (w : World) (hR0 : RO NoS w (rowR enc_Tile Aa ca p0)) (hR1 : RO NoS w (rowR enc_Tile Ab cb p1)) (hf : ref10_Before k p0 p1 = some r) :
  CallsR Try.prog 15 #[(sv Aa p0 ca), (sv Ab p1 cb)] w (fun v w' => v = (bv r) ∧ Keeps NoS w w') := by
 have hS : St NoS w w [rowR enc_Tile Aa ca p0, rowR enc_Tile Ab cb p1] [] := St.init (ro_cons hR0 (ro_cons hR1 (ro_nil _ _)))
 refine enter 47 Try.func15 rfl Try.ntmps15 rfl ?_
 unfold ref10_Before at hf
 refine WC.seq (WC.region ?_)
 refine sg 1 [] [0, 1] [(0, (sv Aa p0 ca)), (1, (sv Ab p1 cb))] (by kernel_rfl) ?_
 refine WL.done rfl (WX.next (WC.seq (WC.region ?_)))
 refine sg 1 [] [1, 8] [(1, (sv Ab p1 cb)), (8, (sv Aa p0 ca))] (by kernel_rfl) ?_
 obtain ⟨t3, ht4, hf⟩ := bind_some hf
 refine WL.call (some 9) 29 #[(sv Aa p0 ca)] (fun fb => by kernel_rfl) (ref10_numbers_calls _ p0 Aa ca t3 _ (hS.rd 0) ht4) (fun v w5 hR6 => ?_)
 obtain ⟨A8, c9, rfl, hk_⟩ := hR6
 have hS7 := hS.go w5 [rowO 3 encInt A8 c9 t3] (hS.call hk_ [] [] (fun g hg => hg.elim) (by simp) (by decide))
 refine ⟨trivial, ?_⟩
 refine sg 3 [] [9, 10] [(9, (sv A8 t3 c9)), (10, (sv Ab p1 cb))] (by kernel_rfl) ?_
 obtain ⟨t11, ht12, hf⟩ := bind_some hf
 refine WL.call (some 11) 29 #[(sv Ab p1 cb)] (fun fb => by kernel_rfl) (ref10_numbers_calls _ p1 Ab cb t11 _ (hS7.rd 1) ht12) (fun v w13 hR14 => ?_)
 obtain ⟨A17, c18, rfl, hk_⟩ := hR14
 have hS16 := hS7.go w13 [rowO 3 encInt A17 c18 t11, rowO 3 encInt A8 c9 t3] (hS7.call hk_ [] [0] (fun g hg => hg.elim) (by simp) (by decide))
 refine ⟨trivial, ?_⟩
 refine sg 6 [] [5, 6] [(5, (sv A8 t3 c9)), (6, (sv A17 t11 c18))] (by kernel_rfl) ?_
 refine WL.done rfl (WX.next (WC.seq (WC.seq (WC.region ?_))))
 refine sg 1 [] [5, 6, 7] [(5, (sv A8 t3 c9)), (6, (sv A17 t11 c18)), (7, (iv 0))] (by kernel_rfl) ?_
 refine WL.done rfl (WX.next ?_)
 obtain ⟨x20, hx21, hf⟩ := bind_some hf
 let e2 : Nat × Value := (6, (sv A17 t11 c18))
 let e3 : Nat × Value := (5, (sv A8 t3 c9))
 refine WC.cutN (T := Unit) (fun t => [e3, e2]) (fun t w1 => St NoS w w1 [rowR enc_Tile Aa ca p0, rowR enc_Tile Ab cb p1] [rowO 3 encInt A8 c9 t3, rowO 3 encInt A17 c18 t11] ∧ x20 = .inr t) (fun Kx20 => ?_) ?_
 ·
  refine WC.block ?_
  refine WC.loop (T := Int) (fun t => [e3, e2, (7, (iv t))]) (fun n t w1 => St NoS w w1 [rowR enc_Tile Aa ca p0, rowR enc_Tile Ab cb p1] [rowO 3 encInt A8 c9 t3, rowO 3 encInt A17 c18 t11] ∧ ref10_Before.l0 n t t3 t11 = some x20) k 0 [5, 6, 7] rfl ⟨(hS16.subR [0, 1]).sub [1, 0] (by decide), hx21⟩ ?_
  rintro k22 x19 w23 ⟨hS24, hl25⟩
  let e1 : List (Nat × Addr × Value) := [(3, ((adr A8).add ((x19).toNat * 1)), (iv (rdD t3 x19 0))), (7, ((adr A17).add ((x19).toNat * 1)), (iv (rdD t11 x19 0)))]
  let e4 := (decide (x19 < (t3.length : Int)))
  cases k22 with
  | zero => rw [ref10_Before.l0] at hl25; cases hl25
  | succ k22 =>
   rw [ref10_Before.l0] at hl25
   refine WC.seq (WC.seq (WC.region ?_))
   refine sg 5 [] [5, 6, 7, 16] [e3, e2, (7, (iv x19)), (16, (bv e4))] (by kernel_rfl) ?_
   refine WL.cutV (T := Bool) 10 (fun t => [(21, (bv t)), e3, e2, (7, (iv x19))]) (fun t => (e4 && (decide (x19 < (t11.length : Int)))) = t) (fun K => ?_) ?_
   ·
    rcases Bool.eq_false_or_eq_true e4 with h26 | h26
    ·
     refine WL.setB 16 h26 rfl ?_
     refine sg 10 [] [5, 6, 7, 21] [e3, e2, (7, (iv x19)), (21, (bv (decide (x19 < (t11.length : Int)))))] (by kernel_rfl) ?_
     exact WL.toV K (decide (x19 < (t11.length : Int))) [21, 5, 6, 7] rfl (by first | (rw [h26]; done) | (rw [h26]; rfl))
    refine WL.setB 16 h26 rfl ?_
    refine sg 10 [] [5, 6, 7, 21] [e3, e2, (7, (iv x19)), (21, (bv false))] (by kernel_rfl) ?_
    exact WL.toV K false [21, 5, 6, 7] rfl (by first | (rw [h26]; done) | (rw [h26]; rfl))
   rintro b27 rfl
   refine WL.done rfl (WX.next ?_)
   rcases br_some hl25 with ⟨h28, hl25⟩ | ⟨h28, hl25⟩
   ·refine WC.condT2 (fun fb => by kernel_rfl) h28 ?_
    refine WC.skip (WX.next (WC.seq (WC.block (WC.seq ?_))))
    obtain ⟨h31, hl25⟩ := as_some hl25
    obtain ⟨h32, hl25⟩ := as_some hl25
    refine WC.regionD (e1, [0, 1, 2, 3, 4, 5, 6, 7, 8], [[], [], [0, 1], [0, 1, 2], [], [], [4, 5], [4, 5, 6], [0, 1, 2, 3, 4, 5, 6, 7]]) [[0, 1, 2, 3, 4, 5, 6, 7, 8]] (by kernel_rfl) (by kernel_rfl) (NoPanic.seq (NoPanic.block (NoPanic.seq (NoPanic.seq (NoPanic.block (NoPanic.seq (NoPanic.body))))))) ?_
    have hS30 := hS24.drew
    revert hS30
    generalize World.drew w23 = w29
    intro hS30
    refine ⟨⟨rowR.cell (rowO.rd (hS30.own 0).1) 0 h31.1 h31.2 0 rfl, rowR.cell (rowO.rd (hS30.own 1).1) 0 h32.1 h32.2 0 rfl, trivial⟩, forallC ?_ (forallN)⟩
    refine segF 9 [.v (iv (rdD t3 x19 0)), .v (iv (rdD t11 x19 0))] [5, 6, 7, 32] [e3, e2, (7, (iv x19)), (32, (bv ((rdD t3 x19 0) != (rdD t11 x19 0))))] [.idx A8 x19 t3.length, .idx A17 x19 t11.length] [0, 1] e1 (fun fb => by kernel_rfl) rfl ⟨rowR.adr (rowO.rd (hS30.own 0).1) h31.1 h31.2, rowR.adr (rowO.rd (hS30.own 1).1) h32.1 h32.2, trivial⟩ rfl ?_
    refine WL.done rfl (WX.next ?_)
    rcases br_some hl25 with ⟨h33, hl25⟩ | ⟨h33, hl25⟩
    ·refine WC.condT2 (fun fb => by kernel_rfl) h33 ?_
     refine WC.seq ?_
     refine WC.regionD (e1, [0, 1, 2, 3, 4, 5, 6, 7, 8, 9], [[], [], [0, 1], [0, 1, 2], [], [], [4, 5], [4, 5, 6], [0, 1, 2, 3, 4, 5, 6, 7], [0, 1, 2, 3, 4, 5, 6, 7, 8]]) [[0, 1, 2, 3, 4, 5, 6, 7, 8, 9]] (by kernel_rfl) (by kernel_rfl) (NoPanic.seq (NoPanic.block (NoPanic.seq (NoPanic.seq (NoPanic.block (NoPanic.seq (NoPanic.body))))))) ?_
     have hS35 := hS30.drew
     revert hS35
     generalize World.drew w29 = w34
     intro hS35
     refine ⟨⟨rowR.cell (rowO.rd (hS35.own 0).1) 0 h31.1 h31.2 0 rfl, rowR.cell (rowO.rd (hS35.own 1).1) 0 h32.1 h32.2 0 rfl, trivial⟩, forallC ?_ (forallN)⟩
     refine segF 10 [.v (iv (rdD t3 x19 0)), .v (iv (rdD t11 x19 0))] [4] [(4, (bv (decide ((rdD t3 x19 0) < (rdD t11 x19 0)))))] [.idx A8 x19 t3.length, .idx A17 x19 t11.length] [0, 1] e1 (fun fb => by kernel_rfl) rfl ⟨rowR.adr (rowO.rd (hS35.own 0).1) h31.1 h31.2, rowR.adr (rowO.rd (hS35.own 1).1) h32.1 h32.2, trivial⟩ rfl ?_
     refine WL.done rfl (WX.next ?_)
     refine WC.ret ?_
     injection hl25 with hl25
     subst hl25
     injection hf with hf
     subst hf
     exact WX.blockR (WX.thenR (WX.thenR (WX.blockR (WX.thenR (WX.ret_ [] (bv (decide ((rdD t3 x19 0) < (rdD t11 x19 0)))) [] (fun fb => by kernel_rfl) trivial ⟨_, rfl, rfl, hS35.keep⟩)))))
    refine WC.condF2 (fun fb => by kernel_rfl) h33 ?_
    refine WC.skip ?_
    refine WX.blockN (WX.next ?_)
    refine WC.region ?_
    refine sg 3 [] [5, 6, 7] [e3, e2, (7, (iv (w64 (x19 + 1))))] (by kernel_rfl) ?_
    refine WL.done rfl ?_
    exact WX.again k22 (Nat.lt_succ_self _) (w64 (x19 + 1)) [5, 6, 7] rfl ⟨(hS30.subR [0, 1]).sub [0, 1] (by decide), hl25⟩
   refine WC.condF2 (fun fb => by kernel_rfl) h28 ?_
   refine WC.exit ?_
   injection hl25 with hl25
   exact WX.thenX (WX.thenX (WX.blockHere (WX.to Kx20 () [5, 6] rfl ⟨(hS24.subR [0, 1]).sub [0, 1] (by decide), hl25.symm⟩)))
 rintro y39 w36 ⟨hS37, hq38⟩
 subst hq38
 have hf := sum_inr hf
 refine WX.next (WC.seq (WC.region ?_))
 refine sg 6 [] [4] [(4, (bv (decide ((t3.length : Int) < (t11.length : Int)))))] (by kernel_rfl) ?_
 refine WL.done rfl (WX.next ?_)
 refine WC.ret ?_
 injection hf with hf
 subst hf
 exact WX.ret_ [] (bv (decide ((t3.length : Int) < (t11.length : Int)))) [] (fun fb => by kernel_rfl) trivial ⟨_, rfl, rfl, hS37.keep⟩
theorem ref10_Canon_calls (k : Nat) (p0 : List Tile) (Aa : Option Addr) (ca : Nat) (r : (List Tile)) (w : World) (hR0 : RO NoS w (rowR enc_Tile Aa ca p0)) (hf : ref10_Canon k p0 = some r) :
  CallsR Try.prog 14 #[(sv Aa p0 ca)] w (fun v w' => ∃ (A1_ : Option Addr), ∃ (c1_ : Nat), v = (sv A1_ r c1_) ∧ St NoS w w' [] [rowO 48 enc_Tile A1_ c1_ r]) := by
 have hS : St NoS w w [rowR enc_Tile Aa ca p0] [] := St.init (ro_cons hR0 (ro_nil _ _))
 refine enter 29 Try.func14 rfl Try.ntmps14 rfl ?_
 unfold ref10_Canon at hf
 refine WC.seq (WC.region ?_)
 refine sg 1 [] [0] [(0, (sv Aa p0 ca))] (by kernel_rfl) ?_
 refine WL.done rfl (WX.next (WC.seq (WC.region ?_)))
 refine sg 1 [] [7] [(7, (sv Aa p0 ca))] (by kernel_rfl) ?_
 obtain ⟨t3, ht4, hf⟩ := bind_some hf
 refine WL.call (some 8) 28 #[(sv Aa p0 ca)] (fun fb => by kernel_rfl) (ref10_orders_calls _ p0 Aa ca t3 _ (hS.rd 0) ht4) (fun v w5 hR6 => ?_)
 obtain ⟨A8, c9, H11, rfl, hk_⟩ := hR6
 have hS7 := hS.go w5 [rowO 28 (encSl Tile) A8 c9 (tag H11 t3), rowsO 48 enc_Tile H11 t3] (hS.call hk_ [] [] (fun g hg => hg.elim) (by simp) (by decide))
 refine ⟨trivial, ?_⟩
 refine sg 3 [] [3] [(3, (sv A8 t3 c9))] (by kernel_rfl) ?_
 refine WL.done rfl (WX.next (WC.seq (WC.region ?_)))
 refine sg 1 [] [3, 9] [(3, (sv A8 t3 c9)), (9, (sv A8 t3 c9))] (by kernel_rfl) ?_
 obtain ⟨h12, hf⟩ := as_some hf
 let e2 := (sv ((H11 (0 : Int).toNat).1) (rdD t3 (0 : Int) []) ((H11 (0 : Int).toNat).2))
 refine seg 3 [.v e2] [3, 11] [(3, (sv A8 t3 c9)), (11, e2)] [.idx A8 (0 : Int) t3.length, .cell ((adr A8).add (((0 : Int)).toNat * 1)) e2] (fun fb => by kernel_rfl) rfl ⟨nrow_adr (rowO.rd (hS7.own 0).1) h12.1 h12.2, nrow_cell (rowO.rd (hS7.own 0).1) [] h12.1 h12.2 0 rfl, trivial⟩ ?_
 obtain ⟨t13, ht15, hf⟩ := bind_some hf
 refine WL.call (some 12) 26 #[e2] (fun fb => by kernel_rfl) (ref10_named_calls _ (rdD t3 (0 : Int) []) ((H11 (0 : Int).toNat).1) ((H11 (0 : Int).toNat).2) t13 _ (rowsO.ro (hS7.ow 1) h12.1 h12.2).ofO ht15) (fun v w16 hR17 => ?_)
 obtain ⟨A19, c20, rfl, hk_⟩ := hR17
 have hS18 := hS7.go w16 [rowO 48 enc_Tile A19 c20 t13, rowO 28 (encSl Tile) A8 c9 (tag H11 t3), rowsO 48 enc_Tile H11 t3] (hS7.call hk_ [] [0, 1] (fun g hg => hg.elim) (by simp) (by decide))
 refine ⟨trivial, ?_⟩
 refine sg 5 [] [3, 4] [(3, (sv A8 t3 c9)), (4, (sv A19 t13 c20))] (by kernel_rfl) ?_
 refine WL.done rfl (WX.next (WC.seq (WC.seq (WC.region ?_))))
 refine sg 1 [] [3, 4, 5] [(3, (sv A8 t3 c9)), (4, (sv A19 t13 c20)), (5, (iv 1))] (by kernel_rfl) ?_
 refine WL.done rfl (WX.next ?_)
 obtain ⟨x27, hx28, hf⟩ := bind_some hf
 let e3 : Nat × Value := (3, (sv A8 t3 c9))
 refine WC.cutN (T := (List Tile) × (Option Addr) × Nat) (fun t => [(4, (sv t.2.1 t.1 t.2.2))]) (fun t w1 => St NoS w w1 [rowR enc_Tile Aa ca p0] [rowO 48 enc_Tile t.2.1 t.2.2 t.1] ∧ x27 = t.1) (fun Kx27 => ?_) ?_
 ·
  refine WC.block ?_
  refine WC.loop (T := ((List Tile) × Int) × (Option Addr) × Nat) (fun t => [e3, (4, (sv t.2.1 t.1.1 t.2.2)), (5, (iv t.1.2))]) (fun n t w1 => St NoS w w1 [rowR enc_Tile Aa ca p0] [rowO 28 (encSl Tile) A8 c9 (tag H11 t3), rowsO 48 enc_Tile H11 t3, rowO 48 enc_Tile t.2.1 t.2.2 t.1.1] ∧ ref10_Canon.l0 n t.1.1 t.1.2 t3 = some x27) k ((t13, 1), A19, c20) [3, 4, 5] rfl ⟨(hS18.subR [0]).sub [1, 2, 0] (by decide), hx28⟩ ?_
  rintro k29 ⟨⟨l23, x24⟩, A21, c22⟩ w30 ⟨hS31, hl32⟩
  let e1 := sv ((H11 x24.toNat).1) (rdD t3 x24 []) ((H11 x24.toNat).2)
  let e4 := sv A21 l23 c22
  let e5 : Nat × Value := (5, (iv x24))
  cases k29 with
  | zero => rw [ref10_Canon.l0] at hl32; cases hl32
  | succ k29 =>
   rw [ref10_Canon.l0] at hl32
   refine WC.seq (WC.seq (WC.region ?_))
   refine sg 4 [] [3, 4, 5, 16] [e3, (4, e4), e5, (16, (bv (decide (x24 < (t3.length : Int)))))] (by kernel_rfl) ?_
   refine WL.done rfl (WX.next ?_)
   rcases br_some hl32 with ⟨h33, hl32⟩ | ⟨h33, hl32⟩
   ·refine WC.condT2 (fun fb => by kernel_rfl) h33 ?_
    refine WC.skip (WX.next (WC.seq (WC.block (WC.seq (WC.region ?_)))))
    refine sg 2 [] [3, 4, 5, 19, 20] [e3, (4, e4), e5, (19, (sv A8 t3 c9)), (20, (iv x24))] (by kernel_rfl) ?_
    obtain ⟨h34, hl32⟩ := as_some hl32
    refine seg 4 [.v e1] [3, 4, 5, 22] [e3, (4, e4), e5, (22, e1)] [.idx A8 x24 t3.length, .cell ((adr A8).add ((x24).toNat * 1)) e1] (fun fb => by kernel_rfl) rfl ⟨nrow_adr (rowO.rd (hS31.own 0).1) h34.1 h34.2, nrow_cell (rowO.rd (hS31.own 0).1) [] h34.1 h34.2 0 rfl, trivial⟩ ?_
    obtain ⟨t35, ht36, hl32⟩ := bind_some hl32
    refine WL.call (some 23) 26 #[e1] (fun fb => by kernel_rfl) (ref10_named_calls _ (rdD t3 x24 []) ((H11 x24.toNat).1) ((H11 x24.toNat).2) t35 _ (rowsO.ro (hS31.ow 1) h34.1 h34.2).ofO ht36) (fun v w37 hR38 => ?_)
    obtain ⟨A40, c41, rfl, hk_⟩ := hR38
    have hS39 := hS18.go w37 [rowO 48 enc_Tile A40 c41 t35, rowO 28 (encSl Tile) A8 c9 (tag H11 t3), rowsO 48 enc_Tile H11 t3, rowO 48 enc_Tile A21 c22 l23] (hS31.call hk_ [] [0, 1, 2] (fun g hg => hg.elim) (by simp) (by decide))
    refine ⟨trivial, ?_⟩
    refine sg 6 [] [3, 4, 5, 6] [e3, (4, e4), e5, (6, (sv A40 t35 c41))] (by kernel_rfl) ?_
    refine WL.done rfl (WX.next (WC.seq (WC.region ?_)))
    refine sg 2 [] [3, 4, 5, 6, 24, 25] [e3, (4, e4), e5, (6, (sv A40 t35 c41)), (24, (sv A40 t35 c41)), (25, e4)] (by kernel_rfl) ?_
    obtain ⟨t42, ht43, hl32⟩ := bind_some hl32
    refine WL.call (some 26) 15 #[(sv A40 t35 c41), e4] (fun fb => by kernel_rfl) (ref10_Before_calls _ t35 l23 A40 c41 A21 c22 t42 _ (hS39.ow 0).ofO (hS39.ow 3).ofO ht43) (fun v w44 hR45 => ?_)
    obtain ⟨rfl, hk_⟩ := hR45
    have hS46 := hS39.keepN hk_
    refine ⟨trivial, ?_⟩
    refine WL.done rfl (WX.next ?_)
    obtain ⟨x49, hx50, hl32⟩ := bind_some hl32
    refine WC.cutN (T := (List Tile) × (Option Addr) × Nat) (fun t => [e3, (4, (sv t.2.1 t.1 t.2.2)), e5]) (fun t w1 => St NoS w w1 [rowR enc_Tile Aa ca p0] [rowO 28 (encSl Tile) A8 c9 (tag H11 t3), rowsO 48 enc_Tile H11 t3, rowO 48 enc_Tile t.2.1 t.2.2 t.1] ∧ x49 = t.1) (fun Kx49 => ?_) ?_
    ·
     rcases br_some hx50 with ⟨h51, hx50⟩ | ⟨h51, hx50⟩
     ·refine WC.condT2 (fun fb => by kernel_rfl) h51 ?_
      refine WC.region ?_
      refine sg 2 [] [3, 4, 5] [e3, (4, (sv A40 t35 c41)), e5] (by kernel_rfl) ?_
      refine WL.done rfl ?_
      injection hx50 with hx50
      exact WX.to Kx49 (t35, A40, c41) [3, 4, 5] rfl ⟨(hS46.subR [0]).sub [1, 2, 0] (by decide), hx50.symm⟩
     refine WC.condF2 (fun fb => by kernel_rfl) h51 ?_
     refine WC.skip ?_
     injection hx50 with hx50
     exact WX.to Kx49 (l23, A21, c22) [3, 4, 5] rfl ⟨(hS46.subR [0]).sub [1, 2, 3] (by decide), hx50.symm⟩
    rintro ⟨y55, A47, c48⟩ w52 ⟨hS53, hq54⟩
    subst hq54
    refine WX.blockN (WX.next ?_)
    refine WC.region ?_
    refine sg 3 [] [3, 4, 5] [e3, (4, (sv A47 x49 c48)), (5, (iv (w64 (x24 + 1))))] (by kernel_rfl) ?_
    refine WL.done rfl ?_
    exact WX.again k29 (Nat.lt_succ_self _) ((x49, w64 (x24 + 1)), A47, c48) [3, 4, 5] rfl ⟨(hS53.subR [0]).sub [0, 1, 2] (by decide), hl32⟩
   refine WC.condF2 (fun fb => by kernel_rfl) h33 ?_
   refine WC.exit ?_
   injection hl32 with hl32
   exact WX.thenX (WX.thenX (WX.blockHere (WX.to Kx27 (l23, A21, c22) [4] rfl ⟨(hS31.subR [0]).sub [2] (by decide), hl32.symm⟩)))
 rintro ⟨y59, A25, c26⟩ w56 ⟨hS57, hq58⟩
 subst hq58
 refine WX.next (WC.seq (WC.region ?_))
 refine sg 2 [] [2] [(2, (sv A25 x27 c26))] (by kernel_rfl) ?_
 refine WL.done rfl (WX.next ?_)
 refine WC.ret ?_
 injection hf with hf
 subst hf
 exact WX.ret_ [] (sv A25 x27 c26) [] (fun fb => by kernel_rfl) trivial ⟨_, rfl, A25, c26, rfl, (hS57.sub [0] (by decide)).noR⟩
end Gp
