/- Walks: each function of the program computes its plain function. -/
import Derived.Test.YtcmgcacpmbldeaaGx0
set_option linter.unusedVariables false
set_option linter.unusedSimpArgs false
namespace Gp
open Go Gw Go.Proofs
theorem top_of_calls (k : Nat) (p0 : List Tile) (p1 : Pattern) (p2 : Bool) (A_p0 : Option Addr) (c_p0 : Nat) (A_p1_Cells : Option Addr) (c_p1_Cells : Nat) (r : Bool) (w : World) (hR0 : RO NoS w (rowR enc_Tile A_p0 c_p0 p0)) (hR1 : RO NoS w (rowR encInt A_p1_Cells c_p1_Cells p1.Cells)) (hf : top_of k p0 p1 p2 = some r) :
    CallsR Try.prog 6 #[(.slice A_p0 p0.length c_p0), (.agg #[(.int .i64 p1.Width), (.int .i64 p1.Height), (.slice A_p1_Cells p1.Cells.length c_p1_Cells)]), (.bool p2)] w (fun v w' => v = (.bool r) ∧ Keeps NoS w w') := by
  have hS : St NoS w w [rowR enc_Tile A_p0 c_p0 p0, rowR encInt A_p1_Cells c_p1_Cells p1.Cells] [] := St.init (ro_cons hR0 (ro_cons hR1 (ro_nil _ _)))
  refine enter 225 Try.func6 rfl Try.ntmps6 rfl ?_
  unfold top_of at hf
  refine WC.seq ?_
  refine WC.region ?_
  refine WL.new hS 4 [] (fun g => (.pointer (some ⟨g, 0, none⟩))) (.cells #[(.int .i64 p1.Width), (.int .i64 p1.Height), (.slice A_p1_Cells p1.Cells.length c_p1_Cells)] 25 (0, 0)) [] (fun fb g => by kernel_rfl) trivial (fun g1776 w1777 hS1778 => ?_)
  refine ⟨trivial, ?_⟩
  refine seg 2 [] [0, 2, 4] [(0, (.slice A_p0 p0.length c_p0)), (2, (.bool p2)), (4, (.pointer (some ⟨g1776, 0, none⟩)))] [] (fun fb => by kernel_rfl) rfl trivial ?_
  refine WL.done rfl ?_
  refine WX.next ?_
  refine WC.seq ?_
  refine WC.seq ?_
  refine WC.region ?_
  refine seg 4 [] [0, 2, 4, 17] [(0, (.slice A_p0 p0.length c_p0)), (2, (.bool p2)), (4, (.pointer (some ⟨g1776, 0, none⟩))), (17, (.bool (decide ((p0.length : Int) > 1000))))] [] (fun fb => by kernel_rfl) rfl trivial ?_
  refine WL.cutV (T := Bool) 8 (fun t => [(21, (.bool t)), (0, (.slice A_p0 p0.length c_p0)), (2, (.bool p2)), (4, (.pointer (some ⟨g1776, 0, none⟩)))]) (fun t => t = ((decide ((p0.length : Int) > 1000)) || (decide (p1.Width < 1)))) (fun K => ?_) ?_
  ·
    rcases Bool.eq_false_or_eq_true (decide ((p0.length : Int) > 1000)) with h1780 | h1780
    ·
      refine WL.setB 17 h1780 rfl ?_
      refine seg 8 [] [0, 2, 4, 21] [(0, (.slice A_p0 p0.length c_p0)), (2, (.bool p2)), (4, (.pointer (some ⟨g1776, 0, none⟩))), (21, (.bool true))] [] (fun fb => by kernel_rfl) rfl trivial ?_
      exact WL.toV K true [21, 0, 2, 4] rfl (by rw [h1780]; rfl)
    refine WL.setB 17 h1780 rfl ?_
    refine seg 8 [.v (.int .i64 p1.Width)] [0, 2, 4, 21] [(0, (.slice A_p0 p0.length c_p0)), (2, (.bool p2)), (4, (.pointer (some ⟨g1776, 0, none⟩))), (21, (.bool (decide (p1.Width < 1))))] [.cell ⟨g1776, 0, none⟩ (.int .i64 p1.Width)] (fun fb => by kernel_rfl) rfl ⟨hS1778.cell 0 rfl 0 rfl, trivial⟩ ?_
    exact WL.toV K (decide (p1.Width < 1)) [21, 0, 2, 4] rfl (by rw [h1780]; rfl)
  rintro b1781 rfl
  refine seg 9 [] [0, 2, 4, 22] [(0, (.slice A_p0 p0.length c_p0)), (2, (.bool p2)), (4, (.pointer (some ⟨g1776, 0, none⟩))), (22, (.bool ((decide ((p0.length : Int) > 1000)) || (decide (p1.Width < 1)))))] [] (fun fb => by kernel_rfl) rfl trivial ?_
  refine WL.cutV (T := Bool) 13 (fun t => [(26, (.bool t)), (0, (.slice A_p0 p0.length c_p0)), (2, (.bool p2)), (4, (.pointer (some ⟨g1776, 0, none⟩)))]) (fun t => t = (((decide ((p0.length : Int) > 1000)) || (decide (p1.Width < 1))) || (decide (p1.Height < 1)))) (fun K => ?_) ?_
  ·
    rcases Bool.eq_false_or_eq_true ((decide ((p0.length : Int) > 1000)) || (decide (p1.Width < 1))) with h1782 | h1782
    ·
      refine WL.setB 22 h1782 rfl ?_
      refine seg 13 [] [0, 2, 4, 26] [(0, (.slice A_p0 p0.length c_p0)), (2, (.bool p2)), (4, (.pointer (some ⟨g1776, 0, none⟩))), (26, (.bool true))] [] (fun fb => by kernel_rfl) rfl trivial ?_
      exact WL.toV K true [26, 0, 2, 4] rfl (by rw [h1782]; rfl)
    refine WL.setB 22 h1782 rfl ?_
    refine seg 13 [.v (.int .i64 p1.Height)] [0, 2, 4, 26] [(0, (.slice A_p0 p0.length c_p0)), (2, (.bool p2)), (4, (.pointer (some ⟨g1776, 0, none⟩))), (26, (.bool (decide (p1.Height < 1))))] [.cell ⟨g1776, 1, none⟩ (.int .i64 p1.Height)] (fun fb => by kernel_rfl) rfl ⟨hS1778.cell 0 rfl 1 rfl, trivial⟩ ?_
    exact WL.toV K (decide (p1.Height < 1)) [26, 0, 2, 4] rfl (by rw [h1782]; rfl)
  rintro b1783 rfl
  refine seg 14 [] [0, 2, 4, 27] [(0, (.slice A_p0 p0.length c_p0)), (2, (.bool p2)), (4, (.pointer (some ⟨g1776, 0, none⟩))), (27, (.bool (((decide ((p0.length : Int) > 1000)) || (decide (p1.Width < 1))) || (decide (p1.Height < 1)))))] [] (fun fb => by kernel_rfl) rfl trivial ?_
  refine WL.cutV (T := Bool) 18 (fun t => [(31, (.bool t)), (0, (.slice A_p0 p0.length c_p0)), (2, (.bool p2)), (4, (.pointer (some ⟨g1776, 0, none⟩)))]) (fun t => t = ((((decide ((p0.length : Int) > 1000)) || (decide (p1.Width < 1))) || (decide (p1.Height < 1))) || (decide (p1.Width > 40000)))) (fun K => ?_) ?_
  ·
    rcases Bool.eq_false_or_eq_true (((decide ((p0.length : Int) > 1000)) || (decide (p1.Width < 1))) || (decide (p1.Height < 1))) with h1784 | h1784
    ·
      refine WL.setB 27 h1784 rfl ?_
      refine seg 18 [] [0, 2, 4, 31] [(0, (.slice A_p0 p0.length c_p0)), (2, (.bool p2)), (4, (.pointer (some ⟨g1776, 0, none⟩))), (31, (.bool true))] [] (fun fb => by kernel_rfl) rfl trivial ?_
      exact WL.toV K true [31, 0, 2, 4] rfl (by rw [h1784]; rfl)
    refine WL.setB 27 h1784 rfl ?_
    refine seg 18 [.v (.int .i64 p1.Width)] [0, 2, 4, 31] [(0, (.slice A_p0 p0.length c_p0)), (2, (.bool p2)), (4, (.pointer (some ⟨g1776, 0, none⟩))), (31, (.bool (decide (p1.Width > 40000))))] [.cell ⟨g1776, 0, none⟩ (.int .i64 p1.Width)] (fun fb => by kernel_rfl) rfl ⟨hS1778.cell 0 rfl 0 rfl, trivial⟩ ?_
    exact WL.toV K (decide (p1.Width > 40000)) [31, 0, 2, 4] rfl (by rw [h1784]; rfl)
  rintro b1785 rfl
  refine seg 19 [] [0, 2, 4, 32] [(0, (.slice A_p0 p0.length c_p0)), (2, (.bool p2)), (4, (.pointer (some ⟨g1776, 0, none⟩))), (32, (.bool ((((decide ((p0.length : Int) > 1000)) || (decide (p1.Width < 1))) || (decide (p1.Height < 1))) || (decide (p1.Width > 40000)))))] [] (fun fb => by kernel_rfl) rfl trivial ?_
  refine WL.cutV (T := Bool) 23 (fun t => [(36, (.bool t)), (0, (.slice A_p0 p0.length c_p0)), (2, (.bool p2)), (4, (.pointer (some ⟨g1776, 0, none⟩)))]) (fun t => t = (((((decide ((p0.length : Int) > 1000)) || (decide (p1.Width < 1))) || (decide (p1.Height < 1))) || (decide (p1.Width > 40000))) || (decide (p1.Height > 40000)))) (fun K => ?_) ?_
  ·
    rcases Bool.eq_false_or_eq_true ((((decide ((p0.length : Int) > 1000)) || (decide (p1.Width < 1))) || (decide (p1.Height < 1))) || (decide (p1.Width > 40000))) with h1786 | h1786
    ·
      refine WL.setB 32 h1786 rfl ?_
      refine seg 23 [] [0, 2, 4, 36] [(0, (.slice A_p0 p0.length c_p0)), (2, (.bool p2)), (4, (.pointer (some ⟨g1776, 0, none⟩))), (36, (.bool true))] [] (fun fb => by kernel_rfl) rfl trivial ?_
      exact WL.toV K true [36, 0, 2, 4] rfl (by rw [h1786]; rfl)
    refine WL.setB 32 h1786 rfl ?_
    refine seg 23 [.v (.int .i64 p1.Height)] [0, 2, 4, 36] [(0, (.slice A_p0 p0.length c_p0)), (2, (.bool p2)), (4, (.pointer (some ⟨g1776, 0, none⟩))), (36, (.bool (decide (p1.Height > 40000))))] [.cell ⟨g1776, 1, none⟩ (.int .i64 p1.Height)] (fun fb => by kernel_rfl) rfl ⟨hS1778.cell 0 rfl 1 rfl, trivial⟩ ?_
    exact WL.toV K (decide (p1.Height > 40000)) [36, 0, 2, 4] rfl (by rw [h1786]; rfl)
  rintro b1787 rfl
  refine seg 24 [] [0, 2, 4, 37] [(0, (.slice A_p0 p0.length c_p0)), (2, (.bool p2)), (4, (.pointer (some ⟨g1776, 0, none⟩))), (37, (.bool (((((decide ((p0.length : Int) > 1000)) || (decide (p1.Width < 1))) || (decide (p1.Height < 1))) || (decide (p1.Width > 40000))) || (decide (p1.Height > 40000)))))] [] (fun fb => by kernel_rfl) rfl trivial ?_
  refine WL.cutV (T := Bool) 31 (fun t => [(44, (.bool t)), (0, (.slice A_p0 p0.length c_p0)), (2, (.bool p2)), (4, (.pointer (some ⟨g1776, 0, none⟩)))]) (fun t => t = ((((((decide ((p0.length : Int) > 1000)) || (decide (p1.Width < 1))) || (decide (p1.Height < 1))) || (decide (p1.Width > 40000))) || (decide (p1.Height > 40000))) || (decide (w64 (p1.Width * p1.Height) > 40000)))) (fun K => ?_) ?_
  ·
    rcases Bool.eq_false_or_eq_true (((((decide ((p0.length : Int) > 1000)) || (decide (p1.Width < 1))) || (decide (p1.Height < 1))) || (decide (p1.Width > 40000))) || (decide (p1.Height > 40000))) with h1788 | h1788
    ·
      refine WL.setB 37 h1788 rfl ?_
      refine seg 31 [] [0, 2, 4, 44] [(0, (.slice A_p0 p0.length c_p0)), (2, (.bool p2)), (4, (.pointer (some ⟨g1776, 0, none⟩))), (44, (.bool true))] [] (fun fb => by kernel_rfl) rfl trivial ?_
      exact WL.toV K true [44, 0, 2, 4] rfl (by rw [h1788]; rfl)
    refine WL.setB 37 h1788 rfl ?_
    refine seg 31 [.v (.int .i64 p1.Width), .v (.int .i64 p1.Height)] [0, 2, 4, 44] [(0, (.slice A_p0 p0.length c_p0)), (2, (.bool p2)), (4, (.pointer (some ⟨g1776, 0, none⟩))), (44, (.bool (decide (w64 (p1.Width * p1.Height) > 40000))))] [.cell ⟨g1776, 0, none⟩ (.int .i64 p1.Width), .cell ⟨g1776, 1, none⟩ (.int .i64 p1.Height)] (fun fb => by kernel_rfl) rfl ⟨hS1778.cell 0 rfl 0 rfl, hS1778.cell 0 rfl 1 rfl, trivial⟩ ?_
    exact WL.toV K (decide (w64 (p1.Width * p1.Height) > 40000)) [44, 0, 2, 4] rfl (by rw [h1788]; rfl)
  rintro b1789 rfl
  refine seg 32 [] [0, 2, 4, 45] [(0, (.slice A_p0 p0.length c_p0)), (2, (.bool p2)), (4, (.pointer (some ⟨g1776, 0, none⟩))), (45, (.bool ((((((decide ((p0.length : Int) > 1000)) || (decide (p1.Width < 1))) || (decide (p1.Height < 1))) || (decide (p1.Width > 40000))) || (decide (p1.Height > 40000))) || (decide (w64 (p1.Width * p1.Height) > 40000)))))] [] (fun fb => by kernel_rfl) rfl trivial ?_
  refine WL.cutV (T := Bool) 42 (fun t => [(55, (.bool t)), (0, (.slice A_p0 p0.length c_p0)), (2, (.bool p2)), (4, (.pointer (some ⟨g1776, 0, none⟩)))]) (fun t => t = (((((((decide ((p0.length : Int) > 1000)) || (decide (p1.Width < 1))) || (decide (p1.Height < 1))) || (decide (p1.Width > 40000))) || (decide (p1.Height > 40000))) || (decide (w64 (p1.Width * p1.Height) > 40000))) || ((p1.Cells.length : Int) != (w64 (p1.Width * p1.Height))))) (fun K => ?_) ?_
  ·
    rcases Bool.eq_false_or_eq_true ((((((decide ((p0.length : Int) > 1000)) || (decide (p1.Width < 1))) || (decide (p1.Height < 1))) || (decide (p1.Width > 40000))) || (decide (p1.Height > 40000))) || (decide (w64 (p1.Width * p1.Height) > 40000))) with h1790 | h1790
    ·
      refine WL.setB 45 h1790 rfl ?_
      refine seg 42 [] [0, 2, 4, 55] [(0, (.slice A_p0 p0.length c_p0)), (2, (.bool p2)), (4, (.pointer (some ⟨g1776, 0, none⟩))), (55, (.bool true))] [] (fun fb => by kernel_rfl) rfl trivial ?_
      exact WL.toV K true [55, 0, 2, 4] rfl (by rw [h1790]; rfl)
    refine WL.setB 45 h1790 rfl ?_
    refine seg 42 [.v (.slice A_p1_Cells p1.Cells.length c_p1_Cells), .v (.int .i64 p1.Width), .v (.int .i64 p1.Height)] [0, 2, 4, 55] [(0, (.slice A_p0 p0.length c_p0)), (2, (.bool p2)), (4, (.pointer (some ⟨g1776, 0, none⟩))), (55, (.bool ((p1.Cells.length : Int) != (w64 (p1.Width * p1.Height)))))] [.cell ⟨g1776, 2, none⟩ (.slice A_p1_Cells p1.Cells.length c_p1_Cells), .cell ⟨g1776, 0, none⟩ (.int .i64 p1.Width), .cell ⟨g1776, 1, none⟩ (.int .i64 p1.Height)] (fun fb => by kernel_rfl) rfl ⟨hS1778.cell 0 rfl 2 rfl, hS1778.cell 0 rfl 0 rfl, hS1778.cell 0 rfl 1 rfl, trivial⟩ ?_
    exact WL.toV K ((p1.Cells.length : Int) != (w64 (p1.Width * p1.Height))) [55, 0, 2, 4] rfl (by rw [h1790]; rfl)
  rintro b1791 rfl
  refine WL.done rfl ?_
  refine WX.next ?_
  rcases br_some hf with ⟨h1792, hf⟩ | ⟨h1792, hf⟩
  · refine WC.condT2 (fun fb => by kernel_rfl) h1792 ?_
    refine WC.seq ?_
    refine WC.region ?_
    refine seg 1 [] [6] [(6, (.bool false))] [] (fun fb => by kernel_rfl) rfl trivial ?_
    refine WL.done rfl ?_
    refine WX.next ?_
    refine WC.ret ?_
    injection hf with hf
    subst hf
    exact WX.thenR (WX.ret_ [] (.bool false) [] (fun fb => by kernel_rfl) trivial ⟨_, rfl, rfl, hS1778.keep⟩)
  refine WC.condF2 (fun fb => by kernel_rfl) h1792 ?_
  refine WC.skip ?_
  refine WX.next ?_
  refine WC.seq ?_
  refine WC.seq ?_
  refine WC.region ?_
  refine seg 1 [] [0, 2, 4, 7] [(0, (.slice A_p0 p0.length c_p0)), (2, (.bool p2)), (4, (.pointer (some ⟨g1776, 0, none⟩))), (7, (.int .i64 0))] [] (fun fb => by kernel_rfl) rfl trivial ?_
  refine WL.done rfl ?_
  refine WX.next ?_
  obtain ⟨x1906, hx1907, hf⟩ := bind_some hf
  refine WC.cutN (T := Unit) (fun t => [(0, (.slice A_p0 p0.length c_p0)), (2, (.bool p2)), (4, (.pointer (some ⟨g1776, 0, none⟩)))]) (fun t w1 => St NoS w w1 [rowR enc_Tile A_p0 c_p0 p0, rowR encInt A_p1_Cells c_p1_Cells p1.Cells] [blk g1776 (.cells #[(.int .i64 p1.Width), (.int .i64 p1.Height), (.slice A_p1_Cells p1.Cells.length c_p1_Cells)] 25 (0, 0))] ∧ x1906 = .inr t) (fun Kx1906 => ?_) ?_
  ·
    refine WC.block ?_
    refine WC.loop (T := Int) (fun t => [(0, (.slice A_p0 p0.length c_p0)), (2, (.bool p2)), (4, (.pointer (some ⟨g1776, 0, none⟩))), (7, (.int .i64 t))]) (fun n t w1 => St NoS w w1 [rowR enc_Tile A_p0 c_p0 p0, rowR encInt A_p1_Cells c_p1_Cells p1.Cells] [blk g1776 (.cells #[(.int .i64 p1.Width), (.int .i64 p1.Height), (.slice A_p1_Cells p1.Cells.length c_p1_Cells)] 25 (0, 0))] ∧ top_of.l0 n t p0 = some x1906) k 0 [0, 2, 4, 7] rfl ⟨(hS1778.subR [0, 1]).sub [0] (by decide), hx1907⟩ ?_
    rintro k1908 x1905 w1909 ⟨hS1910, hl1911⟩
    cases k1908 with
    | zero => rw [top_of.l0] at hl1911; cases hl1911
    | succ k1908 =>
      rw [top_of.l0] at hl1911
      refine WC.seq ?_
      refine WC.seq ?_
      refine WC.region ?_
      refine seg 4 [] [0, 2, 4, 7, 59] [(0, (.slice A_p0 p0.length c_p0)), (2, (.bool p2)), (4, (.pointer (some ⟨g1776, 0, none⟩))), (7, (.int .i64 x1905)), (59, (.bool (decide (x1905 < (p0.length : Int)))))] [] (fun fb => by kernel_rfl) rfl trivial ?_
      refine WL.done rfl ?_
      refine WX.next ?_
      rcases br_some hl1911 with ⟨h1912, hl1911⟩ | ⟨h1912, hl1911⟩
      · refine WC.condT2 (fun fb => by kernel_rfl) h1912 ?_
        refine WC.skip ?_
        refine WX.next ?_
        refine WC.seq ?_
        refine WC.block ?_
        refine WC.seq ?_
        refine WC.region ?_
        refine seg 2 [] [0, 2, 4, 7, 62, 63] [(0, (.slice A_p0 p0.length c_p0)), (2, (.bool p2)), (4, (.pointer (some ⟨g1776, 0, none⟩))), (7, (.int .i64 x1905)), (62, (.slice A_p0 p0.length c_p0)), (63, (.int .i64 x1905))] [] (fun fb => by kernel_rfl) rfl trivial ?_
        obtain ⟨h1913, hl1911⟩ := as_some hl1911
        refine seg 4 [.v (.int .i64 ((rdD p0 x1905 z_Tile).N)), .v (.int .i64 ((rdD p0 x1905 z_Tile).E)), .v (.int .i64 ((rdD p0 x1905 z_Tile).S)), .v (.int .i64 ((rdD p0 x1905 z_Tile).W))] [0, 2, 4, 7, 65] [(0, (.slice A_p0 p0.length c_p0)), (2, (.bool p2)), (4, (.pointer (some ⟨g1776, 0, none⟩))), (7, (.int .i64 x1905)), (65, (.agg #[(.int .i64 ((rdD p0 x1905 z_Tile).N)), (.int .i64 ((rdD p0 x1905 z_Tile).E)), (.int .i64 ((rdD p0 x1905 z_Tile).S)), (.int .i64 ((rdD p0 x1905 z_Tile).W))]))] [.idx A_p0 x1905 p0.length, .cell ((adr A_p0).add ((x1905).toNat * 4)) (.int .i64 ((rdD p0 x1905 z_Tile).N)), .cell (((adr A_p0).add ((x1905).toNat * 4)).add 1) (.int .i64 ((rdD p0 x1905 z_Tile).E)), .cell (((adr A_p0).add ((x1905).toNat * 4)).add 2) (.int .i64 ((rdD p0 x1905 z_Tile).S)), .cell (((adr A_p0).add ((x1905).toNat * 4)).add 3) (.int .i64 ((rdD p0 x1905 z_Tile).W))] (fun fb => by kernel_rfl) rfl ⟨rowR.adr (hS1910.rd 0).1 h1913.1 h1913.2, rowR.cell (hS1910.rd 0).1 z_Tile h1913.1 h1913.2 0 rfl, rowR.cell (hS1910.rd 0).1 z_Tile h1913.1 h1913.2 1 rfl, rowR.cell (hS1910.rd 0).1 z_Tile h1913.1 h1913.2 2 rfl, rowR.cell (hS1910.rd 0).1 z_Tile h1913.1 h1913.2 3 rfl, trivial⟩ ?_
        refine WL.new hS1910 8 [] (fun g => (.pointer (some ⟨g, 0, none⟩))) (.cells #[(.int .i64 0), (.int .i64 0), (.int .i64 0), (.int .i64 0)] 38 (0, 0)) [] (fun fb g => by kernel_rfl) trivial (fun g1914 w1915 hS1916 => ?_)
        refine ⟨trivial, ?_⟩
        refine WL.store hS1916 0 rfl [(0, (.int .i64 ((rdD p0 x1905 z_Tile).N))), (1, (.int .i64 ((rdD p0 x1905 z_Tile).E))), (2, (.int .i64 ((rdD p0 x1905 z_Tile).S))), (3, (.int .i64 ((rdD p0 x1905 z_Tile).W)))] #[(.int .i64 ((rdD p0 x1905 z_Tile).N)), (.int .i64 ((rdD p0 x1905 z_Tile).E)), (.int .i64 ((rdD p0 x1905 z_Tile).S)), (.int .i64 ((rdD p0 x1905 z_Tile).W))] (fun fb => by kernel_rfl) (by kernel_rfl) rfl [1] (by decide) (by decide) (fun w1918 hS1919 => ?_)
        refine ⟨trivial, ?_⟩
        refine WL.done rfl ?_
        refine WX.next ?_
        refine WC.seq ?_
        refine WC.seq ?_
        refine WC.region ?_
        refine seg 4 [.v (.int .i64 ((rdD p0 x1905 z_Tile).N))] [0, 2, 4, 7, 8, 69] [(0, (.slice A_p0 p0.length c_p0)), (2, (.bool p2)), (4, (.pointer (some ⟨g1776, 0, none⟩))), (7, (.int .i64 x1905)), (8, (.pointer (some ⟨g1914, 0, none⟩))), (69, (.bool (decide ((rdD p0 x1905 z_Tile).N < 0))))] [.cell ⟨g1914, 0, none⟩ (.int .i64 ((rdD p0 x1905 z_Tile).N))] (fun fb => by kernel_rfl) rfl ⟨hS1919.cell 0 rfl 0 rfl, trivial⟩ ?_
        refine WL.cutV (T := Bool) 8 (fun t => [(73, (.bool t)), (0, (.slice A_p0 p0.length c_p0)), (2, (.bool p2)), (4, (.pointer (some ⟨g1776, 0, none⟩))), (7, (.int .i64 x1905)), (8, (.pointer (some ⟨g1914, 0, none⟩)))]) (fun t => t = ((decide ((rdD p0 x1905 z_Tile).N < 0)) || (decide ((rdD p0 x1905 z_Tile).E < 0)))) (fun K => ?_) ?_
        ·
          rcases Bool.eq_false_or_eq_true (decide ((rdD p0 x1905 z_Tile).N < 0)) with h1920 | h1920
          ·
            refine WL.setB 69 h1920 rfl ?_
            refine seg 8 [] [0, 2, 4, 7, 8, 73] [(0, (.slice A_p0 p0.length c_p0)), (2, (.bool p2)), (4, (.pointer (some ⟨g1776, 0, none⟩))), (7, (.int .i64 x1905)), (8, (.pointer (some ⟨g1914, 0, none⟩))), (73, (.bool true))] [] (fun fb => by kernel_rfl) rfl trivial ?_
            exact WL.toV K true [73, 0, 2, 4, 7, 8] rfl (by rw [h1920]; rfl)
          refine WL.setB 69 h1920 rfl ?_
          refine seg 8 [.v (.int .i64 ((rdD p0 x1905 z_Tile).E))] [0, 2, 4, 7, 8, 73] [(0, (.slice A_p0 p0.length c_p0)), (2, (.bool p2)), (4, (.pointer (some ⟨g1776, 0, none⟩))), (7, (.int .i64 x1905)), (8, (.pointer (some ⟨g1914, 0, none⟩))), (73, (.bool (decide ((rdD p0 x1905 z_Tile).E < 0))))] [.cell ⟨g1914, 1, none⟩ (.int .i64 ((rdD p0 x1905 z_Tile).E))] (fun fb => by kernel_rfl) rfl ⟨hS1919.cell 0 rfl 1 rfl, trivial⟩ ?_
          exact WL.toV K (decide ((rdD p0 x1905 z_Tile).E < 0)) [73, 0, 2, 4, 7, 8] rfl (by rw [h1920]; rfl)
        rintro b1921 rfl
        refine seg 9 [] [0, 2, 4, 7, 8, 74] [(0, (.slice A_p0 p0.length c_p0)), (2, (.bool p2)), (4, (.pointer (some ⟨g1776, 0, none⟩))), (7, (.int .i64 x1905)), (8, (.pointer (some ⟨g1914, 0, none⟩))), (74, (.bool ((decide ((rdD p0 x1905 z_Tile).N < 0)) || (decide ((rdD p0 x1905 z_Tile).E < 0)))))] [] (fun fb => by kernel_rfl) rfl trivial ?_
        refine WL.cutV (T := Bool) 13 (fun t => [(78, (.bool t)), (0, (.slice A_p0 p0.length c_p0)), (2, (.bool p2)), (4, (.pointer (some ⟨g1776, 0, none⟩))), (7, (.int .i64 x1905)), (8, (.pointer (some ⟨g1914, 0, none⟩)))]) (fun t => t = (((decide ((rdD p0 x1905 z_Tile).N < 0)) || (decide ((rdD p0 x1905 z_Tile).E < 0))) || (decide ((rdD p0 x1905 z_Tile).S < 0)))) (fun K => ?_) ?_
        ·
          rcases Bool.eq_false_or_eq_true ((decide ((rdD p0 x1905 z_Tile).N < 0)) || (decide ((rdD p0 x1905 z_Tile).E < 0))) with h1922 | h1922
          ·
            refine WL.setB 74 h1922 rfl ?_
            refine seg 13 [] [0, 2, 4, 7, 8, 78] [(0, (.slice A_p0 p0.length c_p0)), (2, (.bool p2)), (4, (.pointer (some ⟨g1776, 0, none⟩))), (7, (.int .i64 x1905)), (8, (.pointer (some ⟨g1914, 0, none⟩))), (78, (.bool true))] [] (fun fb => by kernel_rfl) rfl trivial ?_
            exact WL.toV K true [78, 0, 2, 4, 7, 8] rfl (by rw [h1922]; rfl)
          refine WL.setB 74 h1922 rfl ?_
          refine seg 13 [.v (.int .i64 ((rdD p0 x1905 z_Tile).S))] [0, 2, 4, 7, 8, 78] [(0, (.slice A_p0 p0.length c_p0)), (2, (.bool p2)), (4, (.pointer (some ⟨g1776, 0, none⟩))), (7, (.int .i64 x1905)), (8, (.pointer (some ⟨g1914, 0, none⟩))), (78, (.bool (decide ((rdD p0 x1905 z_Tile).S < 0))))] [.cell ⟨g1914, 2, none⟩ (.int .i64 ((rdD p0 x1905 z_Tile).S))] (fun fb => by kernel_rfl) rfl ⟨hS1919.cell 0 rfl 2 rfl, trivial⟩ ?_
          exact WL.toV K (decide ((rdD p0 x1905 z_Tile).S < 0)) [78, 0, 2, 4, 7, 8] rfl (by rw [h1922]; rfl)
        rintro b1923 rfl
        refine seg 14 [] [0, 2, 4, 7, 8, 79] [(0, (.slice A_p0 p0.length c_p0)), (2, (.bool p2)), (4, (.pointer (some ⟨g1776, 0, none⟩))), (7, (.int .i64 x1905)), (8, (.pointer (some ⟨g1914, 0, none⟩))), (79, (.bool (((decide ((rdD p0 x1905 z_Tile).N < 0)) || (decide ((rdD p0 x1905 z_Tile).E < 0))) || (decide ((rdD p0 x1905 z_Tile).S < 0)))))] [] (fun fb => by kernel_rfl) rfl trivial ?_
        refine WL.cutV (T := Bool) 18 (fun t => [(83, (.bool t)), (0, (.slice A_p0 p0.length c_p0)), (2, (.bool p2)), (4, (.pointer (some ⟨g1776, 0, none⟩))), (7, (.int .i64 x1905)), (8, (.pointer (some ⟨g1914, 0, none⟩)))]) (fun t => t = ((((decide ((rdD p0 x1905 z_Tile).N < 0)) || (decide ((rdD p0 x1905 z_Tile).E < 0))) || (decide ((rdD p0 x1905 z_Tile).S < 0))) || (decide ((rdD p0 x1905 z_Tile).W < 0)))) (fun K => ?_) ?_
        ·
          rcases Bool.eq_false_or_eq_true (((decide ((rdD p0 x1905 z_Tile).N < 0)) || (decide ((rdD p0 x1905 z_Tile).E < 0))) || (decide ((rdD p0 x1905 z_Tile).S < 0))) with h1924 | h1924
          ·
            refine WL.setB 79 h1924 rfl ?_
            refine seg 18 [] [0, 2, 4, 7, 8, 83] [(0, (.slice A_p0 p0.length c_p0)), (2, (.bool p2)), (4, (.pointer (some ⟨g1776, 0, none⟩))), (7, (.int .i64 x1905)), (8, (.pointer (some ⟨g1914, 0, none⟩))), (83, (.bool true))] [] (fun fb => by kernel_rfl) rfl trivial ?_
            exact WL.toV K true [83, 0, 2, 4, 7, 8] rfl (by rw [h1924]; rfl)
          refine WL.setB 79 h1924 rfl ?_
          refine seg 18 [.v (.int .i64 ((rdD p0 x1905 z_Tile).W))] [0, 2, 4, 7, 8, 83] [(0, (.slice A_p0 p0.length c_p0)), (2, (.bool p2)), (4, (.pointer (some ⟨g1776, 0, none⟩))), (7, (.int .i64 x1905)), (8, (.pointer (some ⟨g1914, 0, none⟩))), (83, (.bool (decide ((rdD p0 x1905 z_Tile).W < 0))))] [.cell ⟨g1914, 3, none⟩ (.int .i64 ((rdD p0 x1905 z_Tile).W))] (fun fb => by kernel_rfl) rfl ⟨hS1919.cell 0 rfl 3 rfl, trivial⟩ ?_
          exact WL.toV K (decide ((rdD p0 x1905 z_Tile).W < 0)) [83, 0, 2, 4, 7, 8] rfl (by rw [h1924]; rfl)
        rintro b1925 rfl
        refine seg 19 [] [0, 2, 4, 7, 8, 84] [(0, (.slice A_p0 p0.length c_p0)), (2, (.bool p2)), (4, (.pointer (some ⟨g1776, 0, none⟩))), (7, (.int .i64 x1905)), (8, (.pointer (some ⟨g1914, 0, none⟩))), (84, (.bool ((((decide ((rdD p0 x1905 z_Tile).N < 0)) || (decide ((rdD p0 x1905 z_Tile).E < 0))) || (decide ((rdD p0 x1905 z_Tile).S < 0))) || (decide ((rdD p0 x1905 z_Tile).W < 0)))))] [] (fun fb => by kernel_rfl) rfl trivial ?_
        refine WL.cutV (T := Bool) 23 (fun t => [(88, (.bool t)), (0, (.slice A_p0 p0.length c_p0)), (2, (.bool p2)), (4, (.pointer (some ⟨g1776, 0, none⟩))), (7, (.int .i64 x1905)), (8, (.pointer (some ⟨g1914, 0, none⟩)))]) (fun t => t = (((((decide ((rdD p0 x1905 z_Tile).N < 0)) || (decide ((rdD p0 x1905 z_Tile).E < 0))) || (decide ((rdD p0 x1905 z_Tile).S < 0))) || (decide ((rdD p0 x1905 z_Tile).W < 0))) || (decide ((rdD p0 x1905 z_Tile).N ≥ 1000)))) (fun K => ?_) ?_
        ·
          rcases Bool.eq_false_or_eq_true ((((decide ((rdD p0 x1905 z_Tile).N < 0)) || (decide ((rdD p0 x1905 z_Tile).E < 0))) || (decide ((rdD p0 x1905 z_Tile).S < 0))) || (decide ((rdD p0 x1905 z_Tile).W < 0))) with h1926 | h1926
          ·
            refine WL.setB 84 h1926 rfl ?_
            refine seg 23 [] [0, 2, 4, 7, 8, 88] [(0, (.slice A_p0 p0.length c_p0)), (2, (.bool p2)), (4, (.pointer (some ⟨g1776, 0, none⟩))), (7, (.int .i64 x1905)), (8, (.pointer (some ⟨g1914, 0, none⟩))), (88, (.bool true))] [] (fun fb => by kernel_rfl) rfl trivial ?_
            exact WL.toV K true [88, 0, 2, 4, 7, 8] rfl (by rw [h1926]; rfl)
          refine WL.setB 84 h1926 rfl ?_
          refine seg 23 [.v (.int .i64 ((rdD p0 x1905 z_Tile).N))] [0, 2, 4, 7, 8, 88] [(0, (.slice A_p0 p0.length c_p0)), (2, (.bool p2)), (4, (.pointer (some ⟨g1776, 0, none⟩))), (7, (.int .i64 x1905)), (8, (.pointer (some ⟨g1914, 0, none⟩))), (88, (.bool (decide ((rdD p0 x1905 z_Tile).N ≥ 1000))))] [.cell ⟨g1914, 0, none⟩ (.int .i64 ((rdD p0 x1905 z_Tile).N))] (fun fb => by kernel_rfl) rfl ⟨hS1919.cell 0 rfl 0 rfl, trivial⟩ ?_
          exact WL.toV K (decide ((rdD p0 x1905 z_Tile).N ≥ 1000)) [88, 0, 2, 4, 7, 8] rfl (by rw [h1926]; rfl)
        rintro b1927 rfl
        refine seg 24 [] [0, 2, 4, 7, 8, 89] [(0, (.slice A_p0 p0.length c_p0)), (2, (.bool p2)), (4, (.pointer (some ⟨g1776, 0, none⟩))), (7, (.int .i64 x1905)), (8, (.pointer (some ⟨g1914, 0, none⟩))), (89, (.bool (((((decide ((rdD p0 x1905 z_Tile).N < 0)) || (decide ((rdD p0 x1905 z_Tile).E < 0))) || (decide ((rdD p0 x1905 z_Tile).S < 0))) || (decide ((rdD p0 x1905 z_Tile).W < 0))) || (decide ((rdD p0 x1905 z_Tile).N ≥ 1000)))))] [] (fun fb => by kernel_rfl) rfl trivial ?_
        refine WL.cutV (T := Bool) 28 (fun t => [(93, (.bool t)), (0, (.slice A_p0 p0.length c_p0)), (2, (.bool p2)), (4, (.pointer (some ⟨g1776, 0, none⟩))), (7, (.int .i64 x1905)), (8, (.pointer (some ⟨g1914, 0, none⟩)))]) (fun t => t = ((((((decide ((rdD p0 x1905 z_Tile).N < 0)) || (decide ((rdD p0 x1905 z_Tile).E < 0))) || (decide ((rdD p0 x1905 z_Tile).S < 0))) || (decide ((rdD p0 x1905 z_Tile).W < 0))) || (decide ((rdD p0 x1905 z_Tile).N ≥ 1000))) || (decide ((rdD p0 x1905 z_Tile).E ≥ 1000)))) (fun K => ?_) ?_
        ·
          rcases Bool.eq_false_or_eq_true (((((decide ((rdD p0 x1905 z_Tile).N < 0)) || (decide ((rdD p0 x1905 z_Tile).E < 0))) || (decide ((rdD p0 x1905 z_Tile).S < 0))) || (decide ((rdD p0 x1905 z_Tile).W < 0))) || (decide ((rdD p0 x1905 z_Tile).N ≥ 1000))) with h1928 | h1928
          ·
            refine WL.setB 89 h1928 rfl ?_
            refine seg 28 [] [0, 2, 4, 7, 8, 93] [(0, (.slice A_p0 p0.length c_p0)), (2, (.bool p2)), (4, (.pointer (some ⟨g1776, 0, none⟩))), (7, (.int .i64 x1905)), (8, (.pointer (some ⟨g1914, 0, none⟩))), (93, (.bool true))] [] (fun fb => by kernel_rfl) rfl trivial ?_
            exact WL.toV K true [93, 0, 2, 4, 7, 8] rfl (by rw [h1928]; rfl)
          refine WL.setB 89 h1928 rfl ?_
          refine seg 28 [.v (.int .i64 ((rdD p0 x1905 z_Tile).E))] [0, 2, 4, 7, 8, 93] [(0, (.slice A_p0 p0.length c_p0)), (2, (.bool p2)), (4, (.pointer (some ⟨g1776, 0, none⟩))), (7, (.int .i64 x1905)), (8, (.pointer (some ⟨g1914, 0, none⟩))), (93, (.bool (decide ((rdD p0 x1905 z_Tile).E ≥ 1000))))] [.cell ⟨g1914, 1, none⟩ (.int .i64 ((rdD p0 x1905 z_Tile).E))] (fun fb => by kernel_rfl) rfl ⟨hS1919.cell 0 rfl 1 rfl, trivial⟩ ?_
          exact WL.toV K (decide ((rdD p0 x1905 z_Tile).E ≥ 1000)) [93, 0, 2, 4, 7, 8] rfl (by rw [h1928]; rfl)
        rintro b1929 rfl
        refine seg 29 [] [0, 2, 4, 7, 8, 94] [(0, (.slice A_p0 p0.length c_p0)), (2, (.bool p2)), (4, (.pointer (some ⟨g1776, 0, none⟩))), (7, (.int .i64 x1905)), (8, (.pointer (some ⟨g1914, 0, none⟩))), (94, (.bool ((((((decide ((rdD p0 x1905 z_Tile).N < 0)) || (decide ((rdD p0 x1905 z_Tile).E < 0))) || (decide ((rdD p0 x1905 z_Tile).S < 0))) || (decide ((rdD p0 x1905 z_Tile).W < 0))) || (decide ((rdD p0 x1905 z_Tile).N ≥ 1000))) || (decide ((rdD p0 x1905 z_Tile).E ≥ 1000)))))] [] (fun fb => by kernel_rfl) rfl trivial ?_
        refine WL.cutV (T := Bool) 33 (fun t => [(98, (.bool t)), (0, (.slice A_p0 p0.length c_p0)), (2, (.bool p2)), (4, (.pointer (some ⟨g1776, 0, none⟩))), (7, (.int .i64 x1905)), (8, (.pointer (some ⟨g1914, 0, none⟩)))]) (fun t => t = (((((((decide ((rdD p0 x1905 z_Tile).N < 0)) || (decide ((rdD p0 x1905 z_Tile).E < 0))) || (decide ((rdD p0 x1905 z_Tile).S < 0))) || (decide ((rdD p0 x1905 z_Tile).W < 0))) || (decide ((rdD p0 x1905 z_Tile).N ≥ 1000))) || (decide ((rdD p0 x1905 z_Tile).E ≥ 1000))) || (decide ((rdD p0 x1905 z_Tile).S ≥ 1000)))) (fun K => ?_) ?_
        ·
          rcases Bool.eq_false_or_eq_true ((((((decide ((rdD p0 x1905 z_Tile).N < 0)) || (decide ((rdD p0 x1905 z_Tile).E < 0))) || (decide ((rdD p0 x1905 z_Tile).S < 0))) || (decide ((rdD p0 x1905 z_Tile).W < 0))) || (decide ((rdD p0 x1905 z_Tile).N ≥ 1000))) || (decide ((rdD p0 x1905 z_Tile).E ≥ 1000))) with h1930 | h1930
          ·
            refine WL.setB 94 h1930 rfl ?_
            refine seg 33 [] [0, 2, 4, 7, 8, 98] [(0, (.slice A_p0 p0.length c_p0)), (2, (.bool p2)), (4, (.pointer (some ⟨g1776, 0, none⟩))), (7, (.int .i64 x1905)), (8, (.pointer (some ⟨g1914, 0, none⟩))), (98, (.bool true))] [] (fun fb => by kernel_rfl) rfl trivial ?_
            exact WL.toV K true [98, 0, 2, 4, 7, 8] rfl (by rw [h1930]; rfl)
          refine WL.setB 94 h1930 rfl ?_
          refine seg 33 [.v (.int .i64 ((rdD p0 x1905 z_Tile).S))] [0, 2, 4, 7, 8, 98] [(0, (.slice A_p0 p0.length c_p0)), (2, (.bool p2)), (4, (.pointer (some ⟨g1776, 0, none⟩))), (7, (.int .i64 x1905)), (8, (.pointer (some ⟨g1914, 0, none⟩))), (98, (.bool (decide ((rdD p0 x1905 z_Tile).S ≥ 1000))))] [.cell ⟨g1914, 2, none⟩ (.int .i64 ((rdD p0 x1905 z_Tile).S))] (fun fb => by kernel_rfl) rfl ⟨hS1919.cell 0 rfl 2 rfl, trivial⟩ ?_
          exact WL.toV K (decide ((rdD p0 x1905 z_Tile).S ≥ 1000)) [98, 0, 2, 4, 7, 8] rfl (by rw [h1930]; rfl)
        rintro b1931 rfl
        refine seg 34 [] [0, 2, 4, 7, 8, 99] [(0, (.slice A_p0 p0.length c_p0)), (2, (.bool p2)), (4, (.pointer (some ⟨g1776, 0, none⟩))), (7, (.int .i64 x1905)), (8, (.pointer (some ⟨g1914, 0, none⟩))), (99, (.bool (((((((decide ((rdD p0 x1905 z_Tile).N < 0)) || (decide ((rdD p0 x1905 z_Tile).E < 0))) || (decide ((rdD p0 x1905 z_Tile).S < 0))) || (decide ((rdD p0 x1905 z_Tile).W < 0))) || (decide ((rdD p0 x1905 z_Tile).N ≥ 1000))) || (decide ((rdD p0 x1905 z_Tile).E ≥ 1000))) || (decide ((rdD p0 x1905 z_Tile).S ≥ 1000)))))] [] (fun fb => by kernel_rfl) rfl trivial ?_
        refine WL.cutV (T := Bool) 38 (fun t => [(103, (.bool t)), (0, (.slice A_p0 p0.length c_p0)), (2, (.bool p2)), (4, (.pointer (some ⟨g1776, 0, none⟩))), (7, (.int .i64 x1905)), (8, (.pointer (some ⟨g1914, 0, none⟩)))]) (fun t => t = ((((((((decide ((rdD p0 x1905 z_Tile).N < 0)) || (decide ((rdD p0 x1905 z_Tile).E < 0))) || (decide ((rdD p0 x1905 z_Tile).S < 0))) || (decide ((rdD p0 x1905 z_Tile).W < 0))) || (decide ((rdD p0 x1905 z_Tile).N ≥ 1000))) || (decide ((rdD p0 x1905 z_Tile).E ≥ 1000))) || (decide ((rdD p0 x1905 z_Tile).S ≥ 1000))) || (decide ((rdD p0 x1905 z_Tile).W ≥ 1000)))) (fun K => ?_) ?_
        ·
          rcases Bool.eq_false_or_eq_true (((((((decide ((rdD p0 x1905 z_Tile).N < 0)) || (decide ((rdD p0 x1905 z_Tile).E < 0))) || (decide ((rdD p0 x1905 z_Tile).S < 0))) || (decide ((rdD p0 x1905 z_Tile).W < 0))) || (decide ((rdD p0 x1905 z_Tile).N ≥ 1000))) || (decide ((rdD p0 x1905 z_Tile).E ≥ 1000))) || (decide ((rdD p0 x1905 z_Tile).S ≥ 1000))) with h1932 | h1932
          ·
            refine WL.setB 99 h1932 rfl ?_
            refine seg 38 [] [0, 2, 4, 7, 8, 103] [(0, (.slice A_p0 p0.length c_p0)), (2, (.bool p2)), (4, (.pointer (some ⟨g1776, 0, none⟩))), (7, (.int .i64 x1905)), (8, (.pointer (some ⟨g1914, 0, none⟩))), (103, (.bool true))] [] (fun fb => by kernel_rfl) rfl trivial ?_
            exact WL.toV K true [103, 0, 2, 4, 7, 8] rfl (by rw [h1932]; rfl)
          refine WL.setB 99 h1932 rfl ?_
          refine seg 38 [.v (.int .i64 ((rdD p0 x1905 z_Tile).W))] [0, 2, 4, 7, 8, 103] [(0, (.slice A_p0 p0.length c_p0)), (2, (.bool p2)), (4, (.pointer (some ⟨g1776, 0, none⟩))), (7, (.int .i64 x1905)), (8, (.pointer (some ⟨g1914, 0, none⟩))), (103, (.bool (decide ((rdD p0 x1905 z_Tile).W ≥ 1000))))] [.cell ⟨g1914, 3, none⟩ (.int .i64 ((rdD p0 x1905 z_Tile).W))] (fun fb => by kernel_rfl) rfl ⟨hS1919.cell 0 rfl 3 rfl, trivial⟩ ?_
          exact WL.toV K (decide ((rdD p0 x1905 z_Tile).W ≥ 1000)) [103, 0, 2, 4, 7, 8] rfl (by rw [h1932]; rfl)
        rintro b1933 rfl
        refine WL.done rfl ?_
        refine WX.next ?_
        rcases br_some hl1911 with ⟨h1934, hl1911⟩ | ⟨h1934, hl1911⟩
        · refine WC.condT2 (fun fb => by kernel_rfl) h1934 ?_
          refine WC.seq ?_
          refine WC.region ?_
          refine seg 1 [] [6] [(6, (.bool false))] [] (fun fb => by kernel_rfl) rfl trivial ?_
          refine WL.done rfl ?_
          refine WX.next ?_
          refine WC.ret ?_
          injection hl1911 with hl1911
          subst hl1911
          injection hf with hf
          subst hf
          exact WX.thenR (WX.blockR (WX.thenR (WX.thenR (WX.blockR (WX.thenR (WX.ret_ [] (.bool false) [] (fun fb => by kernel_rfl) trivial ⟨_, rfl, rfl, hS1919.keep⟩))))))
        refine WC.condF2 (fun fb => by kernel_rfl) h1934 ?_
        refine WC.skip ?_
        refine WX.next ?_
        refine WC.seq ?_
        refine WC.region ?_
        refine seg 1 [] [0, 2, 4, 7, 8, 9] [(0, (.slice A_p0 p0.length c_p0)), (2, (.bool p2)), (4, (.pointer (some ⟨g1776, 0, none⟩))), (7, (.int .i64 x1905)), (8, (.pointer (some ⟨g1914, 0, none⟩))), (9, (.int .i64 0))] [] (fun fb => by kernel_rfl) rfl trivial ?_
        refine WL.done rfl ?_
        refine WX.next ?_
        obtain ⟨x1951, hx1952, hl1911⟩ := bind_some hl1911
        refine WC.cutN (T := Unit) (fun t => [(0, (.slice A_p0 p0.length c_p0)), (2, (.bool p2)), (4, (.pointer (some ⟨g1776, 0, none⟩))), (7, (.int .i64 x1905))]) (fun t w1 => St NoS w w1 [rowR enc_Tile A_p0 c_p0 p0, rowR encInt A_p1_Cells c_p1_Cells p1.Cells] [blk g1776 (.cells #[(.int .i64 p1.Width), (.int .i64 p1.Height), (.slice A_p1_Cells p1.Cells.length c_p1_Cells)] 25 (0, 0))] ∧ x1951 = .inr t) (fun Kx1951 => ?_) ?_
        ·
          refine WC.block ?_
          refine WC.loop (T := Int) (fun t => [(0, (.slice A_p0 p0.length c_p0)), (2, (.bool p2)), (4, (.pointer (some ⟨g1776, 0, none⟩))), (7, (.int .i64 x1905)), (8, (.pointer (some ⟨g1914, 0, none⟩))), (9, (.int .i64 t))]) (fun n t w1 => St NoS w w1 [rowR enc_Tile A_p0 c_p0 p0, rowR encInt A_p1_Cells c_p1_Cells p1.Cells] [blk g1776 (.cells #[(.int .i64 p1.Width), (.int .i64 p1.Height), (.slice A_p1_Cells p1.Cells.length c_p1_Cells)] 25 (0, 0)), blk g1914 (.cells #[(.int .i64 ((rdD p0 x1905 z_Tile).N)), (.int .i64 ((rdD p0 x1905 z_Tile).E)), (.int .i64 ((rdD p0 x1905 z_Tile).S)), (.int .i64 ((rdD p0 x1905 z_Tile).W))] 38 (0, 0))] ∧ top_of.l1 n t p0 x1905 = some x1951) k1908 0 [0, 2, 4, 7, 8, 9] rfl ⟨(hS1919.subR [0, 1]).sub [1, 0] (by decide), hx1952⟩ ?_
          rintro k1953 x1950 w1954 ⟨hS1955, hl1956⟩
          cases k1953 with
          | zero => rw [top_of.l1] at hl1956; cases hl1956
          | succ k1953 =>
            rw [top_of.l1] at hl1956
            refine WC.seq ?_
            refine WC.seq ?_
            refine WC.region ?_
            refine seg 3 [] [0, 2, 4, 7, 8, 9, 106] [(0, (.slice A_p0 p0.length c_p0)), (2, (.bool p2)), (4, (.pointer (some ⟨g1776, 0, none⟩))), (7, (.int .i64 x1905)), (8, (.pointer (some ⟨g1914, 0, none⟩))), (9, (.int .i64 x1950)), (106, (.bool (decide (x1950 < x1905))))] [] (fun fb => by kernel_rfl) rfl trivial ?_
            refine WL.done rfl ?_
            refine WX.next ?_
            rcases br_some hl1956 with ⟨h1957, hl1956⟩ | ⟨h1957, hl1956⟩
            · refine WC.condT2 (fun fb => by kernel_rfl) h1957 ?_
              refine WC.skip ?_
              refine WX.next ?_
              refine WC.seq ?_
              refine WC.block ?_
              refine WC.seq ?_
              obtain ⟨h1962, hl1956⟩ := as_some hl1956
              refine WC.regionD ([(3, ((adr A_p0).add ((x1950).toNat * 4)), (.int .i64 ((rdD p0 x1950 z_Tile).N))), (3, (((adr A_p0).add ((x1950).toNat * 4)).add 1), (.int .i64 ((rdD p0 x1950 z_Tile).E))), (3, (((adr A_p0).add ((x1950).toNat * 4)).add 2), (.int .i64 ((rdD p0 x1950 z_Tile).S))), (3, (((adr A_p0).add ((x1950).toNat * 4)).add 3), (.int .i64 ((rdD p0 x1950 z_Tile).W))), (4, ⟨g1914, 0, none⟩, (.int .i64 ((rdD p0 x1905 z_Tile).N))), (4, ⟨g1914, 1, none⟩, (.int .i64 ((rdD p0 x1905 z_Tile).E))), (4, ⟨g1914, 2, none⟩, (.int .i64 ((rdD p0 x1905 z_Tile).S))), (4, ⟨g1914, 3, none⟩, (.int .i64 ((rdD p0 x1905 z_Tile).W)))], [0, 1, 2, 3, 4, 5], [[], [], [0, 1], [0, 1, 2], [], [0, 1, 2, 3, 4]]) [[0, 1, 2, 3, 4, 5]] (by kernel_rfl) (by kernel_rfl) (NoPanic.seq (NoPanic.block (NoPanic.seq (NoPanic.seq (NoPanic.block (NoPanic.block (NoPanic.seq (NoPanic.seq (NoPanic.block (NoPanic.seq (NoPanic.body))))))))))) ?_
              have hS1960 := hS1955.drew
              revert hS1960
              generalize World.drew w1954 = w1959
              intro hS1960
              refine ⟨⟨rowR.cell (hS1960.rd 0).1 z_Tile h1962.1 h1962.2 0 rfl, rowR.cell (hS1960.rd 0).1 z_Tile h1962.1 h1962.2 1 rfl, rowR.cell (hS1960.rd 0).1 z_Tile h1962.1 h1962.2 2 rfl, rowR.cell (hS1960.rd 0).1 z_Tile h1962.1 h1962.2 3 rfl, hS1960.cell 1 rfl 0 rfl, hS1960.cell 1 rfl 1 rfl, hS1960.cell 1 rfl 2 rfl, hS1960.cell 1 rfl 3 rfl, trivial⟩, forallC ?_ (forallN)⟩
              refine segF 6 [.v (.int .i64 ((rdD p0 x1950 z_Tile).N)), .v (.int .i64 ((rdD p0 x1950 z_Tile).E)), .v (.int .i64 ((rdD p0 x1950 z_Tile).S)), .v (.int .i64 ((rdD p0 x1950 z_Tile).W)), .v (.int .i64 ((rdD p0 x1905 z_Tile).N)), .v (.int .i64 ((rdD p0 x1905 z_Tile).E)), .v (.int .i64 ((rdD p0 x1905 z_Tile).S)), .v (.int .i64 ((rdD p0 x1905 z_Tile).W))] [0, 2, 4, 7, 8, 9, 114] [(0, (.slice A_p0 p0.length c_p0)), (2, (.bool p2)), (4, (.pointer (some ⟨g1776, 0, none⟩))), (7, (.int .i64 x1905)), (8, (.pointer (some ⟨g1914, 0, none⟩))), (9, (.int .i64 x1950)), (114, (.bool (((rdD p0 x1950 z_Tile).N) == ((rdD p0 x1905 z_Tile).N) && (((rdD p0 x1950 z_Tile).E) == ((rdD p0 x1905 z_Tile).E) && (((rdD p0 x1950 z_Tile).S) == ((rdD p0 x1905 z_Tile).S) && (((rdD p0 x1950 z_Tile).W) == ((rdD p0 x1905 z_Tile).W)))))))] [.idx A_p0 x1950 p0.length] [0, 1, 2, 3, 4, 5, 6, 7] [(3, ((adr A_p0).add ((x1950).toNat * 4)), (.int .i64 ((rdD p0 x1950 z_Tile).N))), (3, (((adr A_p0).add ((x1950).toNat * 4)).add 1), (.int .i64 ((rdD p0 x1950 z_Tile).E))), (3, (((adr A_p0).add ((x1950).toNat * 4)).add 2), (.int .i64 ((rdD p0 x1950 z_Tile).S))), (3, (((adr A_p0).add ((x1950).toNat * 4)).add 3), (.int .i64 ((rdD p0 x1950 z_Tile).W))), (4, ⟨g1914, 0, none⟩, (.int .i64 ((rdD p0 x1905 z_Tile).N))), (4, ⟨g1914, 1, none⟩, (.int .i64 ((rdD p0 x1905 z_Tile).E))), (4, ⟨g1914, 2, none⟩, (.int .i64 ((rdD p0 x1905 z_Tile).S))), (4, ⟨g1914, 3, none⟩, (.int .i64 ((rdD p0 x1905 z_Tile).W)))] (fun fb => by kernel_rfl) rfl ⟨rowR.adr (hS1960.rd 0).1 h1962.1 h1962.2, trivial⟩ rfl ?_
              refine WL.done rfl ?_
              refine WX.next ?_
              rcases br_some hl1956 with ⟨h1963, hl1956⟩ | ⟨h1963, hl1956⟩
              · refine WC.condT2 (fun fb => by kernel_rfl) h1963 ?_
                refine WC.seq ?_
                refine WC.region ?_
                refine seg 1 [] [6] [(6, (.bool false))] [] (fun fb => by kernel_rfl) rfl trivial ?_
                refine WL.done rfl ?_
                refine WX.next ?_
                refine WC.ret ?_
                injection hl1956 with hl1956
                subst hl1956
                injection hl1911 with hl1911
                subst hl1911
                injection hf with hf
                subst hf
                exact WX.blockR (WX.thenR (WX.thenR (WX.blockR (WX.blockR (WX.thenR (WX.thenR (WX.blockR (WX.thenR (WX.ret_ [] (.bool false) [] (fun fb => by kernel_rfl) trivial ⟨_, rfl, rfl, hS1960.keep⟩)))))))))
              refine WC.condF2 (fun fb => by kernel_rfl) h1963 ?_
              refine WC.skip ?_
              refine WX.blockN (WX.next ?_)
              refine WC.region ?_
              refine seg 3 [] [0, 2, 4, 7, 8, 9] [(0, (.slice A_p0 p0.length c_p0)), (2, (.bool p2)), (4, (.pointer (some ⟨g1776, 0, none⟩))), (7, (.int .i64 x1905)), (8, (.pointer (some ⟨g1914, 0, none⟩))), (9, (.int .i64 (w64 (x1950 + 1))))] [] (fun fb => by kernel_rfl) rfl trivial ?_
              refine WL.done rfl ?_
              exact WX.again k1953 (Nat.lt_succ_self _) (w64 (x1950 + 1)) [0, 2, 4, 7, 8, 9] rfl ⟨(hS1960.subR [0, 1]).sub [0, 1] (by decide), hl1956⟩
            refine WC.condF2 (fun fb => by kernel_rfl) h1957 ?_
            refine WC.exit ?_
            injection hl1956 with hl1956
            exact WX.thenX (WX.thenX (WX.blockHere (WX.to Kx1951 () [0, 2, 4, 7] rfl ⟨(hS1955.subR [0, 1]).sub [0] (by decide), hl1956.symm⟩)))
        rintro y1967 w1964 ⟨hS1965, hq1966⟩
        subst hq1966
        have hl1911 := sum_inr hl1911
        refine WX.blockN (WX.next ?_)
        refine WC.region ?_
        refine seg 3 [] [0, 2, 4, 7] [(0, (.slice A_p0 p0.length c_p0)), (2, (.bool p2)), (4, (.pointer (some ⟨g1776, 0, none⟩))), (7, (.int .i64 (w64 (x1905 + 1))))] [] (fun fb => by kernel_rfl) rfl trivial ?_
        refine WL.done rfl ?_
        exact WX.again k1908 (Nat.lt_succ_self _) (w64 (x1905 + 1)) [0, 2, 4, 7] rfl ⟨(hS1965.subR [0, 1]).sub [0] (by decide), hl1911⟩
      refine WC.condF2 (fun fb => by kernel_rfl) h1912 ?_
      refine WC.exit ?_
      injection hl1911 with hl1911
      exact WX.thenX (WX.thenX (WX.blockHere (WX.to Kx1906 () [0, 2, 4] rfl ⟨(hS1910.subR [0, 1]).sub [0] (by decide), hl1911.symm⟩)))
  rintro y1972 w1969 ⟨hS1970, hq1971⟩
  subst hq1971
  have hf := sum_inr hf
  refine WX.next ?_
  refine WC.seq ?_
  refine WC.seq ?_
  refine WC.region ?_
  refine seg 1 [] [0, 2, 4, 10] [(0, (.slice A_p0 p0.length c_p0)), (2, (.bool p2)), (4, (.pointer (some ⟨g1776, 0, none⟩))), (10, (.int .i64 0))] [] (fun fb => by kernel_rfl) rfl trivial ?_
  refine WL.done rfl ?_
  refine WX.next ?_
  obtain ⟨x1986, hx1987, hf⟩ := bind_some hf
  refine WC.cutN (T := Unit) (fun t => [(0, (.slice A_p0 p0.length c_p0)), (2, (.bool p2)), (4, (.pointer (some ⟨g1776, 0, none⟩)))]) (fun t w1 => St NoS w w1 [rowR enc_Tile A_p0 c_p0 p0, rowR encInt A_p1_Cells c_p1_Cells p1.Cells] [blk g1776 (.cells #[(.int .i64 p1.Width), (.int .i64 p1.Height), (.slice A_p1_Cells p1.Cells.length c_p1_Cells)] 25 (0, 0))] ∧ x1986 = .inr t) (fun Kx1986 => ?_) ?_
  ·
    refine WC.block ?_
    refine WC.loop (T := Int) (fun t => [(0, (.slice A_p0 p0.length c_p0)), (2, (.bool p2)), (4, (.pointer (some ⟨g1776, 0, none⟩))), (10, (.int .i64 t))]) (fun n t w1 => St NoS w w1 [rowR enc_Tile A_p0 c_p0 p0, rowR encInt A_p1_Cells c_p1_Cells p1.Cells] [blk g1776 (.cells #[(.int .i64 p1.Width), (.int .i64 p1.Height), (.slice A_p1_Cells p1.Cells.length c_p1_Cells)] 25 (0, 0))] ∧ top_of.l2 n t p0 p1 = some x1986) k 0 [0, 2, 4, 10] rfl ⟨(hS1970.subR [0, 1]).sub [0] (by decide), hx1987⟩ ?_
    rintro k1988 x1985 w1989 ⟨hS1990, hl1991⟩
    cases k1988 with
    | zero => rw [top_of.l2] at hl1991; cases hl1991
    | succ k1988 =>
      rw [top_of.l2] at hl1991
      refine WC.seq ?_
      refine WC.seq ?_
      refine WC.region ?_
      refine seg 5 [.v (.slice A_p1_Cells p1.Cells.length c_p1_Cells)] [0, 2, 4, 10, 119] [(0, (.slice A_p0 p0.length c_p0)), (2, (.bool p2)), (4, (.pointer (some ⟨g1776, 0, none⟩))), (10, (.int .i64 x1985)), (119, (.bool (decide (x1985 < (p1.Cells.length : Int)))))] [.cell ⟨g1776, 2, none⟩ (.slice A_p1_Cells p1.Cells.length c_p1_Cells)] (fun fb => by kernel_rfl) rfl ⟨hS1990.cell 0 rfl 2 rfl, trivial⟩ ?_
      refine WL.done rfl ?_
      refine WX.next ?_
      rcases br_some hl1991 with ⟨h1992, hl1991⟩ | ⟨h1992, hl1991⟩
      · refine WC.condT2 (fun fb => by kernel_rfl) h1992 ?_
        refine WC.skip ?_
        refine WX.next ?_
        refine WC.seq ?_
        refine WC.block ?_
        refine WC.seq ?_
        refine WC.region ?_
        refine seg 3 [.v (.slice A_p1_Cells p1.Cells.length c_p1_Cells)] [0, 2, 4, 10, 123, 124] [(0, (.slice A_p0 p0.length c_p0)), (2, (.bool p2)), (4, (.pointer (some ⟨g1776, 0, none⟩))), (10, (.int .i64 x1985)), (123, (.slice A_p1_Cells p1.Cells.length c_p1_Cells)), (124, (.int .i64 x1985))] [.cell ⟨g1776, 2, none⟩ (.slice A_p1_Cells p1.Cells.length c_p1_Cells)] (fun fb => by kernel_rfl) rfl ⟨hS1990.cell 0 rfl 2 rfl, trivial⟩ ?_
        obtain ⟨h1993, hl1991⟩ := as_some hl1991
        refine seg 7 [.v (.int .i64 (rdD p1.Cells x1985 0))] [0, 2, 4, 10, 128] [(0, (.slice A_p0 p0.length c_p0)), (2, (.bool p2)), (4, (.pointer (some ⟨g1776, 0, none⟩))), (10, (.int .i64 x1985)), (128, (.bool (decide ((rdD p1.Cells x1985 0) < 0))))] [.idx A_p1_Cells x1985 p1.Cells.length, .cell ((adr A_p1_Cells).add ((x1985).toNat * 1)) (.int .i64 (rdD p1.Cells x1985 0))] (fun fb => by kernel_rfl) rfl ⟨rowR.adr (hS1990.rd 1).1 h1993.1 h1993.2, rowR.cell (hS1990.rd 1).1 0 h1993.1 h1993.2 0 rfl, trivial⟩ ?_
        refine WL.cutV (T := Bool) 16 (fun t => [(137, (.bool t)), (0, (.slice A_p0 p0.length c_p0)), (2, (.bool p2)), (4, (.pointer (some ⟨g1776, 0, none⟩))), (10, (.int .i64 x1985))]) (fun t => t = ((decide ((rdD p1.Cells x1985 0) < 0)) || (decide ((rdD p1.Cells x1985 0) ≥ (p0.length : Int))))) (fun K => ?_) ?_
        ·
          rcases Bool.eq_false_or_eq_true (decide ((rdD p1.Cells x1985 0) < 0)) with h1994 | h1994
          ·
            refine WL.setB 128 h1994 rfl ?_
            refine seg 16 [] [0, 2, 4, 10, 137] [(0, (.slice A_p0 p0.length c_p0)), (2, (.bool p2)), (4, (.pointer (some ⟨g1776, 0, none⟩))), (10, (.int .i64 x1985)), (137, (.bool true))] [] (fun fb => by kernel_rfl) rfl trivial ?_
            exact WL.toV K true [137, 0, 2, 4, 10] rfl (by rw [h1994]; rfl)
          refine WL.setB 128 h1994 rfl ?_
          refine seg 16 [.v (.slice A_p1_Cells p1.Cells.length c_p1_Cells), .v (.int .i64 (rdD p1.Cells x1985 0))] [0, 2, 4, 10, 137] [(0, (.slice A_p0 p0.length c_p0)), (2, (.bool p2)), (4, (.pointer (some ⟨g1776, 0, none⟩))), (10, (.int .i64 x1985)), (137, (.bool (decide ((rdD p1.Cells x1985 0) ≥ (p0.length : Int)))))] [.cell ⟨g1776, 2, none⟩ (.slice A_p1_Cells p1.Cells.length c_p1_Cells), .idx A_p1_Cells x1985 p1.Cells.length, .cell ((adr A_p1_Cells).add ((x1985).toNat * 1)) (.int .i64 (rdD p1.Cells x1985 0))] (fun fb => by kernel_rfl) rfl ⟨hS1990.cell 0 rfl 2 rfl, rowR.adr (hS1990.rd 1).1 h1993.1 h1993.2, rowR.cell (hS1990.rd 1).1 0 h1993.1 h1993.2 0 rfl, trivial⟩ ?_
          exact WL.toV K (decide ((rdD p1.Cells x1985 0) ≥ (p0.length : Int))) [137, 0, 2, 4, 10] rfl (by rw [h1994]; rfl)
        rintro b1995 rfl
        refine WL.done rfl ?_
        refine WX.next ?_
        rcases br_some hl1991 with ⟨h1996, hl1991⟩ | ⟨h1996, hl1991⟩
        · refine WC.condT2 (fun fb => by kernel_rfl) h1996 ?_
          refine WC.seq ?_
          refine WC.region ?_
          refine seg 1 [] [6] [(6, (.bool false))] [] (fun fb => by kernel_rfl) rfl trivial ?_
          refine WL.done rfl ?_
          refine WX.next ?_
          refine WC.ret ?_
          injection hl1991 with hl1991
          subst hl1991
          injection hf with hf
          subst hf
          exact WX.blockR (WX.thenR (WX.thenR (WX.blockR (WX.thenR (WX.ret_ [] (.bool false) [] (fun fb => by kernel_rfl) trivial ⟨_, rfl, rfl, hS1990.keep⟩)))))
        refine WC.condF2 (fun fb => by kernel_rfl) h1996 ?_
        refine WC.skip ?_
        refine WX.blockN (WX.next ?_)
        refine WC.region ?_
        refine seg 3 [] [0, 2, 4, 10] [(0, (.slice A_p0 p0.length c_p0)), (2, (.bool p2)), (4, (.pointer (some ⟨g1776, 0, none⟩))), (10, (.int .i64 (w64 (x1985 + 1))))] [] (fun fb => by kernel_rfl) rfl trivial ?_
        refine WL.done rfl ?_
        exact WX.again k1988 (Nat.lt_succ_self _) (w64 (x1985 + 1)) [0, 2, 4, 10] rfl ⟨(hS1990.subR [0, 1]).sub [0] (by decide), hl1991⟩
      refine WC.condF2 (fun fb => by kernel_rfl) h1992 ?_
      refine WC.exit ?_
      injection hl1991 with hl1991
      exact WX.thenX (WX.thenX (WX.blockHere (WX.to Kx1986 () [0, 2, 4] rfl ⟨(hS1990.subR [0, 1]).sub [0] (by decide), hl1991.symm⟩)))
  rintro y2000 w1997 ⟨hS1998, hq1999⟩
  subst hq1999
  have hf := sum_inr hf
  refine WX.next ?_
  refine WC.seq ?_
  refine WC.seq ?_
  refine WC.region ?_
  refine seg 1 [] [0, 2, 4, 11] [(0, (.slice A_p0 p0.length c_p0)), (2, (.bool p2)), (4, (.pointer (some ⟨g1776, 0, none⟩))), (11, (.int .i64 0))] [] (fun fb => by kernel_rfl) rfl trivial ?_
  refine WL.done rfl ?_
  refine WX.next ?_
  obtain ⟨x2806, hx2807, hf⟩ := bind_some hf
  refine WC.cutN (T := Unit) (fun t => []) (fun t w1 => St NoS w w1 [rowR enc_Tile A_p0 c_p0 p0, rowR encInt A_p1_Cells c_p1_Cells p1.Cells] [] ∧ x2806 = .inr t) (fun Kx2806 => ?_) ?_
  ·
    refine WC.block ?_
    refine WC.loop (T := Int) (fun t => [(0, (.slice A_p0 p0.length c_p0)), (2, (.bool p2)), (4, (.pointer (some ⟨g1776, 0, none⟩))), (11, (.int .i64 t))]) (fun n t w1 => St NoS w w1 [rowR enc_Tile A_p0 c_p0 p0, rowR encInt A_p1_Cells c_p1_Cells p1.Cells] [blk g1776 (.cells #[(.int .i64 p1.Width), (.int .i64 p1.Height), (.slice A_p1_Cells p1.Cells.length c_p1_Cells)] 25 (0, 0))] ∧ top_of.l3 n t p0 p1 p2 = some x2806) k 0 [0, 2, 4, 11] rfl ⟨(hS1998.subR [0, 1]).sub [0] (by decide), hx2807⟩ ?_
    rintro k2808 x2805 w2809 ⟨hS2810, hl2811⟩
    cases k2808 with
    | zero => rw [top_of.l3] at hl2811; cases hl2811
    | succ k2808 =>
      rw [top_of.l3] at hl2811
      refine WC.seq ?_
      refine WC.seq ?_
      refine WC.region ?_
      refine seg 4 [.v (.int .i64 p1.Height)] [0, 2, 4, 11, 141] [(0, (.slice A_p0 p0.length c_p0)), (2, (.bool p2)), (4, (.pointer (some ⟨g1776, 0, none⟩))), (11, (.int .i64 x2805)), (141, (.bool (decide (x2805 < p1.Height))))] [.cell ⟨g1776, 1, none⟩ (.int .i64 p1.Height)] (fun fb => by kernel_rfl) rfl ⟨hS2810.cell 0 rfl 1 rfl, trivial⟩ ?_
      refine WL.done rfl ?_
      refine WX.next ?_
      rcases br_some hl2811 with ⟨h2812, hl2811⟩ | ⟨h2812, hl2811⟩
      · refine WC.condT2 (fun fb => by kernel_rfl) h2812 ?_
        refine WC.skip ?_
        refine WX.next ?_
        refine WC.seq ?_
        refine WC.block ?_
        refine WC.seq ?_
        refine WC.region ?_
        refine seg 1 [] [0, 2, 4, 11, 12] [(0, (.slice A_p0 p0.length c_p0)), (2, (.bool p2)), (4, (.pointer (some ⟨g1776, 0, none⟩))), (11, (.int .i64 x2805)), (12, (.int .i64 0))] [] (fun fb => by kernel_rfl) rfl trivial ?_
        refine WL.done rfl ?_
        refine WX.next ?_
        obtain ⟨x3073, hx3074, hl2811⟩ := bind_some hl2811
        refine WC.cutN (T := Unit) (fun t => [(0, (.slice A_p0 p0.length c_p0)), (2, (.bool p2)), (4, (.pointer (some ⟨g1776, 0, none⟩))), (11, (.int .i64 x2805))]) (fun t w1 => St NoS w w1 [rowR enc_Tile A_p0 c_p0 p0, rowR encInt A_p1_Cells c_p1_Cells p1.Cells] [blk g1776 (.cells #[(.int .i64 p1.Width), (.int .i64 p1.Height), (.slice A_p1_Cells p1.Cells.length c_p1_Cells)] 25 (0, 0))] ∧ x3073 = .inr t) (fun Kx3073 => ?_) ?_
        ·
          refine WC.block ?_
          refine WC.loop (T := Int) (fun t => [(0, (.slice A_p0 p0.length c_p0)), (2, (.bool p2)), (4, (.pointer (some ⟨g1776, 0, none⟩))), (11, (.int .i64 x2805)), (12, (.int .i64 t))]) (fun n t w1 => St NoS w w1 [rowR enc_Tile A_p0 c_p0 p0, rowR encInt A_p1_Cells c_p1_Cells p1.Cells] [blk g1776 (.cells #[(.int .i64 p1.Width), (.int .i64 p1.Height), (.slice A_p1_Cells p1.Cells.length c_p1_Cells)] 25 (0, 0))] ∧ top_of.l4 n t p0 p1 p2 x2805 = some x3073) k2808 0 [0, 2, 4, 11, 12] rfl ⟨(hS2810.subR [0, 1]).sub [0] (by decide), hx3074⟩ ?_
          rintro k3075 x3072 w3076 ⟨hS3077, hl3078⟩
          cases k3075 with
          | zero => rw [top_of.l4] at hl3078; cases hl3078
          | succ k3075 =>
            rw [top_of.l4] at hl3078
            refine WC.seq ?_
            refine WC.seq ?_
            refine WC.region ?_
            refine seg 4 [.v (.int .i64 p1.Width)] [0, 2, 4, 11, 12, 147] [(0, (.slice A_p0 p0.length c_p0)), (2, (.bool p2)), (4, (.pointer (some ⟨g1776, 0, none⟩))), (11, (.int .i64 x2805)), (12, (.int .i64 x3072)), (147, (.bool (decide (x3072 < p1.Width))))] [.cell ⟨g1776, 0, none⟩ (.int .i64 p1.Width)] (fun fb => by kernel_rfl) rfl ⟨hS3077.cell 0 rfl 0 rfl, trivial⟩ ?_
            refine WL.done rfl ?_
            refine WX.next ?_
            rcases br_some hl3078 with ⟨h3079, hl3078⟩ | ⟨h3079, hl3078⟩
            · refine WC.condT2 (fun fb => by kernel_rfl) h3079 ?_
              refine WC.skip ?_
              refine WX.next ?_
              refine WC.seq ?_
              refine WC.block ?_
              refine WC.seq ?_
              refine WC.region ?_
              refine seg 9 [.v (.slice A_p1_Cells p1.Cells.length c_p1_Cells), .v (.int .i64 p1.Width)] [0, 2, 4, 11, 12, 150, 152, 158] [(0, (.slice A_p0 p0.length c_p0)), (2, (.bool p2)), (4, (.pointer (some ⟨g1776, 0, none⟩))), (11, (.int .i64 x2805)), (12, (.int .i64 x3072)), (150, (.slice A_p0 p0.length c_p0)), (152, (.slice A_p1_Cells p1.Cells.length c_p1_Cells)), (158, (.int .i64 (w64 ((w64 (x2805 * p1.Width)) + x3072))))] [.cell ⟨g1776, 2, none⟩ (.slice A_p1_Cells p1.Cells.length c_p1_Cells), .cell ⟨g1776, 0, none⟩ (.int .i64 p1.Width)] (fun fb => by kernel_rfl) rfl ⟨hS3077.cell 0 rfl 2 rfl, hS3077.cell 0 rfl 0 rfl, trivial⟩ ?_
              obtain ⟨h3080, hl3078⟩ := as_some hl3078
              refine seg 11 [.v (.int .i64 (rdD p1.Cells (w64 ((w64 (x2805 * p1.Width)) + x3072)) 0))] [0, 2, 4, 11, 12, 150, 160] [(0, (.slice A_p0 p0.length c_p0)), (2, (.bool p2)), (4, (.pointer (some ⟨g1776, 0, none⟩))), (11, (.int .i64 x2805)), (12, (.int .i64 x3072)), (150, (.slice A_p0 p0.length c_p0)), (160, (.int .i64 (rdD p1.Cells (w64 ((w64 (x2805 * p1.Width)) + x3072)) 0)))] [.idx A_p1_Cells (w64 ((w64 (x2805 * p1.Width)) + x3072)) p1.Cells.length, .cell ((adr A_p1_Cells).add ((w64 ((w64 (x2805 * p1.Width)) + x3072)).toNat * 1)) (.int .i64 (rdD p1.Cells (w64 ((w64 (x2805 * p1.Width)) + x3072)) 0))] (fun fb => by kernel_rfl) rfl ⟨rowR.adr (hS3077.rd 1).1 h3080.1 h3080.2, rowR.cell (hS3077.rd 1).1 0 h3080.1 h3080.2 0 rfl, trivial⟩ ?_
              obtain ⟨h3081, hl3078⟩ := as_some hl3078
              refine seg 13 [.v (.int .i64 ((rdD p0 (rdD p1.Cells (w64 ((w64 (x2805 * p1.Width)) + x3072)) 0) z_Tile).N)), .v (.int .i64 ((rdD p0 (rdD p1.Cells (w64 ((w64 (x2805 * p1.Width)) + x3072)) 0) z_Tile).E)), .v (.int .i64 ((rdD p0 (rdD p1.Cells (w64 ((w64 (x2805 * p1.Width)) + x3072)) 0) z_Tile).S)), .v (.int .i64 ((rdD p0 (rdD p1.Cells (w64 ((w64 (x2805 * p1.Width)) + x3072)) 0) z_Tile).W))] [0, 2, 4, 11, 12, 162] [(0, (.slice A_p0 p0.length c_p0)), (2, (.bool p2)), (4, (.pointer (some ⟨g1776, 0, none⟩))), (11, (.int .i64 x2805)), (12, (.int .i64 x3072)), (162, (.agg #[(.int .i64 ((rdD p0 (rdD p1.Cells (w64 ((w64 (x2805 * p1.Width)) + x3072)) 0) z_Tile).N)), (.int .i64 ((rdD p0 (rdD p1.Cells (w64 ((w64 (x2805 * p1.Width)) + x3072)) 0) z_Tile).E)), (.int .i64 ((rdD p0 (rdD p1.Cells (w64 ((w64 (x2805 * p1.Width)) + x3072)) 0) z_Tile).S)), (.int .i64 ((rdD p0 (rdD p1.Cells (w64 ((w64 (x2805 * p1.Width)) + x3072)) 0) z_Tile).W))]))] [.idx A_p0 (rdD p1.Cells (w64 ((w64 (x2805 * p1.Width)) + x3072)) 0) p0.length, .cell ((adr A_p0).add (((rdD p1.Cells (w64 ((w64 (x2805 * p1.Width)) + x3072)) 0)).toNat * 4)) (.int .i64 ((rdD p0 (rdD p1.Cells (w64 ((w64 (x2805 * p1.Width)) + x3072)) 0) z_Tile).N)), .cell (((adr A_p0).add (((rdD p1.Cells (w64 ((w64 (x2805 * p1.Width)) + x3072)) 0)).toNat * 4)).add 1) (.int .i64 ((rdD p0 (rdD p1.Cells (w64 ((w64 (x2805 * p1.Width)) + x3072)) 0) z_Tile).E)), .cell (((adr A_p0).add (((rdD p1.Cells (w64 ((w64 (x2805 * p1.Width)) + x3072)) 0)).toNat * 4)).add 2) (.int .i64 ((rdD p0 (rdD p1.Cells (w64 ((w64 (x2805 * p1.Width)) + x3072)) 0) z_Tile).S)), .cell (((adr A_p0).add (((rdD p1.Cells (w64 ((w64 (x2805 * p1.Width)) + x3072)) 0)).toNat * 4)).add 3) (.int .i64 ((rdD p0 (rdD p1.Cells (w64 ((w64 (x2805 * p1.Width)) + x3072)) 0) z_Tile).W))] (fun fb => by kernel_rfl) rfl ⟨rowR.adr (hS3077.rd 0).1 h3081.1 h3081.2, rowR.cell (hS3077.rd 0).1 z_Tile h3081.1 h3081.2 0 rfl, rowR.cell (hS3077.rd 0).1 z_Tile h3081.1 h3081.2 1 rfl, rowR.cell (hS3077.rd 0).1 z_Tile h3081.1 h3081.2 2 rfl, rowR.cell (hS3077.rd 0).1 z_Tile h3081.1 h3081.2 3 rfl, trivial⟩ ?_
              refine WL.new hS3077 13 [] (fun g => (.pointer (some ⟨g, 0, none⟩))) (.cells #[(.int .i64 0), (.int .i64 0), (.int .i64 0), (.int .i64 0)] 38 (0, 0)) [] (fun fb g => by kernel_rfl) trivial (fun g3082 w3083 hS3084 => ?_)
              refine ⟨trivial, ?_⟩
              refine WL.store hS3084 0 rfl [(0, (.int .i64 ((rdD p0 (rdD p1.Cells (w64 ((w64 (x2805 * p1.Width)) + x3072)) 0) z_Tile).N))), (1, (.int .i64 ((rdD p0 (rdD p1.Cells (w64 ((w64 (x2805 * p1.Width)) + x3072)) 0) z_Tile).E))), (2, (.int .i64 ((rdD p0 (rdD p1.Cells (w64 ((w64 (x2805 * p1.Width)) + x3072)) 0) z_Tile).S))), (3, (.int .i64 ((rdD p0 (rdD p1.Cells (w64 ((w64 (x2805 * p1.Width)) + x3072)) 0) z_Tile).W)))] #[(.int .i64 ((rdD p0 (rdD p1.Cells (w64 ((w64 (x2805 * p1.Width)) + x3072)) 0) z_Tile).N)), (.int .i64 ((rdD p0 (rdD p1.Cells (w64 ((w64 (x2805 * p1.Width)) + x3072)) 0) z_Tile).E)), (.int .i64 ((rdD p0 (rdD p1.Cells (w64 ((w64 (x2805 * p1.Width)) + x3072)) 0) z_Tile).S)), (.int .i64 ((rdD p0 (rdD p1.Cells (w64 ((w64 (x2805 * p1.Width)) + x3072)) 0) z_Tile).W))] (fun fb => by kernel_rfl) (by kernel_rfl) rfl [1] (by decide) (by decide) (fun w3086 hS3087 => ?_)
              refine ⟨trivial, ?_⟩
              refine WL.done rfl ?_
              refine WX.next ?_
              refine WC.seq ?_
              refine WC.seq ?_
              obtain ⟨x3115, hx3116, hl3078⟩ := bind_some hl3078
              refine WC.cutN (T := Bool) (fun t => [(0, (.slice A_p0 p0.length c_p0)), (2, (.bool p2)), (4, (.pointer (some ⟨g1776, 0, none⟩))), (11, (.int .i64 x2805)), (12, (.int .i64 x3072)), (13, (.pointer (some ⟨g3082, 0, none⟩))), (193, (.bool t))]) (fun t w1 => St NoS w w1 [rowR enc_Tile A_p0 c_p0 p0, rowR encInt A_p1_Cells c_p1_Cells p1.Cells] [blk g1776 (.cells #[(.int .i64 p1.Width), (.int .i64 p1.Height), (.slice A_p1_Cells p1.Cells.length c_p1_Cells)] 25 (0, 0)), blk g3082 (.cells #[(.int .i64 ((rdD p0 (rdD p1.Cells (w64 ((w64 (x2805 * p1.Width)) + x3072)) 0) z_Tile).N)), (.int .i64 ((rdD p0 (rdD p1.Cells (w64 ((w64 (x2805 * p1.Width)) + x3072)) 0) z_Tile).E)), (.int .i64 ((rdD p0 (rdD p1.Cells (w64 ((w64 (x2805 * p1.Width)) + x3072)) 0) z_Tile).S)), (.int .i64 ((rdD p0 (rdD p1.Cells (w64 ((w64 (x2805 * p1.Width)) + x3072)) 0) z_Tile).W))] 38 (0, 0))] ∧ x3115 = t) (fun Kx3115 => ?_) ?_
              ·
                rcases br_some hx3116 with ⟨h3117, hx3116⟩ | ⟨h3117, hx3116⟩
                ·
                  obtain ⟨h3126, hx3116⟩ := as_some hx3116
                  obtain ⟨h3127, hx3116⟩ := as_some hx3116
                  obtain ⟨h3128, hx3116⟩ := as_some hx3116
                  refine WC.regionD ([(10, ⟨g3082, 1, none⟩, (.int .i64 ((rdD p0 (rdD p1.Cells (w64 ((w64 (x2805 * p1.Width)) + x3072)) 0) z_Tile).E))), (13, ⟨g1776, 2, none⟩, (.slice A_p1_Cells p1.Cells.length c_p1_Cells)), (16, ⟨g1776, 0, none⟩, (.int .i64 p1.Width)), (21, ⟨g1776, 0, none⟩, (.int .i64 p1.Width)), (25, ((adr A_p1_Cells).add ((w64 ((w64 (x2805 * p1.Width)) + (Int.tmod (w64 (x3072 + 1)) p1.Width))).toNat * 1)), (.int .i64 (rdD p1.Cells (w64 ((w64 (x2805 * p1.Width)) + (Int.tmod (w64 (x3072 + 1)) p1.Width))) 0))), (28, (((adr A_p0).add (((rdD p1.Cells (w64 ((w64 (x2805 * p1.Width)) + (Int.tmod (w64 (x3072 + 1)) p1.Width))) 0)).toNat * 4)).add 3), (.int .i64 ((rdD p0 (rdD p1.Cells (w64 ((w64 (x2805 * p1.Width)) + (Int.tmod (w64 (x3072 + 1)) p1.Width))) 0) z_Tile).W)))], [0, 1, 2, 3, 4, 5, 6, 7, 8, 9, 10, 11, 12, 13, 14, 15, 16, 17, 18, 19, 20, 21, 22, 23, 24, 25, 26, 27, 28, 29, 30], [[], [0], [0, 1], [0, 1, 2], [0, 1], [0, 1, 4], [0, 1, 2, 3, 4, 5], [0, 1, 2, 3, 4, 5, 6], [0, 1, 2, 3, 4, 5, 6, 7], [0, 1, 2, 3, 4, 5, 6, 7, 8], [0, 1, 2, 3, 4, 5, 6, 7, 8, 9], [0, 1, 2, 3, 4, 5, 6, 7, 8], [0, 1, 2, 3, 4, 5, 6, 7, 8], [0, 1, 2, 3, 4, 5, 6, 7, 8, 12], [0, 1, 2, 3, 4, 5, 6, 7, 8], [0, 1, 2, 3, 4, 5, 6, 7, 8], [0, 1, 2, 3, 4, 5, 6, 7, 8, 15], [0, 1, 2, 3, 4, 5, 6, 7, 8, 14, 15, 16], [0, 1, 2, 3, 4, 5, 6, 7, 8], [0, 1, 2, 3, 4, 5, 6, 7, 8, 18], [0, 1, 2, 3, 4, 5, 6, 7, 8], [0, 1, 2, 3, 4, 5, 6, 7, 8, 20], [0, 1, 2, 3, 4, 5, 6, 7, 8, 18, 19, 20, 21], [0, 1, 2, 3, 4, 5, 6, 7, 8, 14, 15, 16, 17, 18, 19, 20, 21, 22], [0, 1, 2, 3, 4, 5, 6, 7, 8, 12, 13, 14, 15, 16, 17, 18, 19, 20, 21, 22, 23], [0, 1, 2, 3, 4, 5, 6, 7, 8, 12, 13, 14, 15, 16, 17, 18, 19, 20, 21, 22, 23, 24], [0, 1, 2, 3, 4, 5, 6, 7, 8, 11, 12, 13, 14, 15, 16, 17, 18, 19, 20, 21, 22, 23, 24, 25], [0, 1, 2, 3, 4, 5, 6, 7, 8, 11, 12, 13, 14, 15, 16, 17, 18, 19, 20, 21, 22, 23, 24, 25, 26], [0, 1, 2, 3, 4, 5, 6, 7, 8, 11, 12, 13, 14, 15, 16, 17, 18, 19, 20, 21, 22, 23, 24, 25, 26, 27], [0, 1, 2, 3, 4, 5, 6, 7, 8, 9, 10, 11, 12, 13, 14, 15, 16, 17, 18, 19, 20, 21, 22, 23, 24, 25, 26, 27, 28], [0, 1, 2, 3, 4, 5, 6, 7, 8, 9, 10, 11, 12, 13, 14, 15, 16, 17, 18, 19, 20, 21, 22, 23, 24, 25, 26, 27, 28, 29]]) [[0, 1, 2, 3, 4, 5, 6, 7, 8, 9, 10, 11, 12, 13, 14, 15, 16, 17, 18, 19, 20, 21, 22, 23, 24, 25, 26, 27, 28, 29, 30]] (by kernel_rfl) (by kernel_rfl) (NoPanic.seq (NoPanic.seq (NoPanic.block (NoPanic.seq (NoPanic.seq (NoPanic.block (NoPanic.block (NoPanic.seq (NoPanic.seq (NoPanic.block (NoPanic.seq (NoPanic.body)))))))))))) ?_
                  have hS3122 := hS3087.drew
                  revert hS3122
                  generalize World.drew w3086 = w3121
                  intro hS3122
                  refine ⟨⟨hS3122.cell 0 rfl 1 rfl, hS3122.cell 1 rfl 2 rfl, hS3122.cell 1 rfl 0 rfl, hS3122.cell 1 rfl 0 rfl, rowR.cell (hS3122.rd 1).1 0 h3127.1 h3127.2 0 rfl, rowR.cell (hS3122.rd 0).1 z_Tile h3128.1 h3128.2 3 rfl, trivial⟩, forallC ?_ (forallN)⟩
                  refine seg 2 [] [0, 2, 4, 11, 12, 13, 164] [(0, (.slice A_p0 p0.length c_p0)), (2, (.bool p2)), (4, (.pointer (some ⟨g1776, 0, none⟩))), (11, (.int .i64 x2805)), (12, (.int .i64 x3072)), (13, (.pointer (some ⟨g3082, 0, none⟩))), (164, (.bool p2))] [] (fun fb => by kernel_rfl) rfl trivial ?_
                  refine WL.setB 164 h3117 rfl ?_
                  refine segF 31 [.v (.int .i64 ((rdD p0 (rdD p1.Cells (w64 ((w64 (x2805 * p1.Width)) + x3072)) 0) z_Tile).E)), .v (.slice A_p1_Cells p1.Cells.length c_p1_Cells), .v (.int .i64 p1.Width), .v (.int .i64 p1.Width), .v (.int .i64 (rdD p1.Cells (w64 ((w64 (x2805 * p1.Width)) + (Int.tmod (w64 (x3072 + 1)) p1.Width))) 0)), .v (.int .i64 ((rdD p0 (rdD p1.Cells (w64 ((w64 (x2805 * p1.Width)) + (Int.tmod (w64 (x3072 + 1)) p1.Width))) 0) z_Tile).W))] [0, 2, 4, 11, 12, 13, 193] [(0, (.slice A_p0 p0.length c_p0)), (2, (.bool p2)), (4, (.pointer (some ⟨g1776, 0, none⟩))), (11, (.int .i64 x2805)), (12, (.int .i64 x3072)), (13, (.pointer (some ⟨g3082, 0, none⟩))), (193, (.bool (((rdD p0 (rdD p1.Cells (w64 ((w64 (x2805 * p1.Width)) + x3072)) 0) z_Tile).E) != ((rdD p0 (rdD p1.Cells (w64 ((w64 (x2805 * p1.Width)) + (Int.tmod (w64 (x3072 + 1)) p1.Width))) 0) z_Tile).W))))] [.ne p1.Width, .idx A_p1_Cells (w64 ((w64 (x2805 * p1.Width)) + (Int.tmod (w64 (x3072 + 1)) p1.Width))) p1.Cells.length, .idx A_p0 (rdD p1.Cells (w64 ((w64 (x2805 * p1.Width)) + (Int.tmod (w64 (x3072 + 1)) p1.Width))) 0) p0.length] [0, 1, 2, 3, 4, 5] [(10, ⟨g3082, 1, none⟩, (.int .i64 ((rdD p0 (rdD p1.Cells (w64 ((w64 (x2805 * p1.Width)) + x3072)) 0) z_Tile).E))), (13, ⟨g1776, 2, none⟩, (.slice A_p1_Cells p1.Cells.length c_p1_Cells)), (16, ⟨g1776, 0, none⟩, (.int .i64 p1.Width)), (21, ⟨g1776, 0, none⟩, (.int .i64 p1.Width)), (25, ((adr A_p1_Cells).add ((w64 ((w64 (x2805 * p1.Width)) + (Int.tmod (w64 (x3072 + 1)) p1.Width))).toNat * 1)), (.int .i64 (rdD p1.Cells (w64 ((w64 (x2805 * p1.Width)) + (Int.tmod (w64 (x3072 + 1)) p1.Width))) 0))), (28, (((adr A_p0).add (((rdD p1.Cells (w64 ((w64 (x2805 * p1.Width)) + (Int.tmod (w64 (x3072 + 1)) p1.Width))) 0)).toNat * 4)).add 3), (.int .i64 ((rdD p0 (rdD p1.Cells (w64 ((w64 (x2805 * p1.Width)) + (Int.tmod (w64 (x3072 + 1)) p1.Width))) 0) z_Tile).W)))] (fun fb => by kernel_rfl) rfl ⟨h3126, rowR.adr (hS3122.rd 1).1 h3127.1 h3127.2, rowR.adr (hS3122.rd 0).1 h3128.1 h3128.2, trivial⟩ rfl ?_
                  refine WL.done rfl ?_
                  injection hx3116 with hx3116
                  exact WX.to Kx3115 (((rdD p0 (rdD p1.Cells (w64 ((w64 (x2805 * p1.Width)) + x3072)) 0) z_Tile).E) != ((rdD p0 (rdD p1.Cells (w64 ((w64 (x2805 * p1.Width)) + (Int.tmod (w64 (x3072 + 1)) p1.Width))) 0) z_Tile).W)) [0, 2, 4, 11, 12, 13, 193] rfl ⟨(hS3122.subR [0, 1]).sub [1, 0] (by decide), hx3116.symm⟩
                rcases br_some hx3116 with ⟨h3129, hx3116⟩ | ⟨h3129, hx3116⟩
                ·
                  obtain ⟨h3138, hx3116⟩ := as_some hx3116
                  obtain ⟨h3139, hx3116⟩ := as_some hx3116
                  obtain ⟨h3140, hx3116⟩ := as_some hx3116
                  refine WC.regionD ([(5, ⟨g1776, 0, none⟩, (.int .i64 p1.Width)), (10, ⟨g3082, 1, none⟩, (.int .i64 ((rdD p0 (rdD p1.Cells (w64 ((w64 (x2805 * p1.Width)) + x3072)) 0) z_Tile).E))), (13, ⟨g1776, 2, none⟩, (.slice A_p1_Cells p1.Cells.length c_p1_Cells)), (16, ⟨g1776, 0, none⟩, (.int .i64 p1.Width)), (21, ⟨g1776, 0, none⟩, (.int .i64 p1.Width)), (25, ((adr A_p1_Cells).add ((w64 ((w64 (x2805 * p1.Width)) + (Int.tmod (w64 (x3072 + 1)) p1.Width))).toNat * 1)), (.int .i64 (rdD p1.Cells (w64 ((w64 (x2805 * p1.Width)) + (Int.tmod (w64 (x3072 + 1)) p1.Width))) 0))), (28, (((adr A_p0).add (((rdD p1.Cells (w64 ((w64 (x2805 * p1.Width)) + (Int.tmod (w64 (x3072 + 1)) p1.Width))) 0)).toNat * 4)).add 3), (.int .i64 ((rdD p0 (rdD p1.Cells (w64 ((w64 (x2805 * p1.Width)) + (Int.tmod (w64 (x3072 + 1)) p1.Width))) 0) z_Tile).W)))], [0, 1, 2, 3, 4, 5, 6, 7, 8, 9, 10, 11, 12, 13, 14, 15, 16, 17, 18, 19, 20, 21, 22, 23, 24, 25, 26, 27, 28, 29, 30], [[], [0], [0, 1], [0, 1, 2], [0, 1], [0, 1, 4], [0, 1, 2, 3, 4, 5], [0, 1, 2, 3, 4, 5, 6], [0, 1, 2, 3, 4, 5, 6, 7], [0, 1, 2, 3, 4, 5, 6, 7, 8], [0, 1, 2, 3, 4, 5, 6, 7, 8, 9], [0, 1, 2, 3, 4, 5, 6, 7, 8], [0, 1, 2, 3, 4, 5, 6, 7, 8], [0, 1, 2, 3, 4, 5, 6, 7, 8, 12], [0, 1, 2, 3, 4, 5, 6, 7, 8], [0, 1, 2, 3, 4, 5, 6, 7, 8], [0, 1, 2, 3, 4, 5, 6, 7, 8, 15], [0, 1, 2, 3, 4, 5, 6, 7, 8, 14, 15, 16], [0, 1, 2, 3, 4, 5, 6, 7, 8], [0, 1, 2, 3, 4, 5, 6, 7, 8, 18], [0, 1, 2, 3, 4, 5, 6, 7, 8], [0, 1, 2, 3, 4, 5, 6, 7, 8, 20], [0, 1, 2, 3, 4, 5, 6, 7, 8, 18, 19, 20, 21], [0, 1, 2, 3, 4, 5, 6, 7, 8, 14, 15, 16, 17, 18, 19, 20, 21, 22], [0, 1, 2, 3, 4, 5, 6, 7, 8, 12, 13, 14, 15, 16, 17, 18, 19, 20, 21, 22, 23], [0, 1, 2, 3, 4, 5, 6, 7, 8, 12, 13, 14, 15, 16, 17, 18, 19, 20, 21, 22, 23, 24], [0, 1, 2, 3, 4, 5, 6, 7, 8, 11, 12, 13, 14, 15, 16, 17, 18, 19, 20, 21, 22, 23, 24, 25], [0, 1, 2, 3, 4, 5, 6, 7, 8, 11, 12, 13, 14, 15, 16, 17, 18, 19, 20, 21, 22, 23, 24, 25, 26], [0, 1, 2, 3, 4, 5, 6, 7, 8, 11, 12, 13, 14, 15, 16, 17, 18, 19, 20, 21, 22, 23, 24, 25, 26, 27], [0, 1, 2, 3, 4, 5, 6, 7, 8, 9, 10, 11, 12, 13, 14, 15, 16, 17, 18, 19, 20, 21, 22, 23, 24, 25, 26, 27, 28], [0, 1, 2, 3, 4, 5, 6, 7, 8, 9, 10, 11, 12, 13, 14, 15, 16, 17, 18, 19, 20, 21, 22, 23, 24, 25, 26, 27, 28, 29]]) [[0, 1, 2, 3, 4, 5, 6, 7, 8, 9, 10, 11, 12, 13, 14, 15, 16, 17, 18, 19, 20, 21, 22, 23, 24, 25, 26, 27, 28, 29, 30]] (by kernel_rfl) (by kernel_rfl) (NoPanic.seq (NoPanic.seq (NoPanic.block (NoPanic.seq (NoPanic.seq (NoPanic.block (NoPanic.block (NoPanic.seq (NoPanic.seq (NoPanic.block (NoPanic.seq (NoPanic.body)))))))))))) ?_
                  have hS3134 := hS3087.drew
                  revert hS3134
                  generalize World.drew w3086 = w3133
                  intro hS3134
                  refine ⟨⟨hS3134.cell 1 rfl 0 rfl, hS3134.cell 0 rfl 1 rfl, hS3134.cell 1 rfl 2 rfl, hS3134.cell 1 rfl 0 rfl, hS3134.cell 1 rfl 0 rfl, rowR.cell (hS3134.rd 1).1 0 h3139.1 h3139.2 0 rfl, rowR.cell (hS3134.rd 0).1 z_Tile h3140.1 h3140.2 3 rfl, trivial⟩, forallC ?_ (forallN)⟩
                  refine seg 2 [] [0, 2, 4, 11, 12, 13, 164] [(0, (.slice A_p0 p0.length c_p0)), (2, (.bool p2)), (4, (.pointer (some ⟨g1776, 0, none⟩))), (11, (.int .i64 x2805)), (12, (.int .i64 x3072)), (13, (.pointer (some ⟨g3082, 0, none⟩))), (164, (.bool p2))] [] (fun fb => by kernel_rfl) rfl trivial ?_
                  refine WL.setB 164 h3117 rfl ?_
                  refine segF 9 [.v (.int .i64 p1.Width)] [0, 2, 4, 11, 12, 13, 171] [(0, (.slice A_p0 p0.length c_p0)), (2, (.bool p2)), (4, (.pointer (some ⟨g1776, 0, none⟩))), (11, (.int .i64 x2805)), (12, (.int .i64 x3072)), (13, (.pointer (some ⟨g3082, 0, none⟩))), (171, (.bool (decide (w64 (x3072 + 1) < p1.Width))))] [] [0] [(5, ⟨g1776, 0, none⟩, (.int .i64 p1.Width))] (fun fb => by kernel_rfl) rfl trivial rfl ?_
                  refine WL.setB 171 h3129 rfl ?_
                  refine segF 31 [.v (.int .i64 ((rdD p0 (rdD p1.Cells (w64 ((w64 (x2805 * p1.Width)) + x3072)) 0) z_Tile).E)), .v (.slice A_p1_Cells p1.Cells.length c_p1_Cells), .v (.int .i64 p1.Width), .v (.int .i64 p1.Width), .v (.int .i64 (rdD p1.Cells (w64 ((w64 (x2805 * p1.Width)) + (Int.tmod (w64 (x3072 + 1)) p1.Width))) 0)), .v (.int .i64 ((rdD p0 (rdD p1.Cells (w64 ((w64 (x2805 * p1.Width)) + (Int.tmod (w64 (x3072 + 1)) p1.Width))) 0) z_Tile).W))] [0, 2, 4, 11, 12, 13, 193] [(0, (.slice A_p0 p0.length c_p0)), (2, (.bool p2)), (4, (.pointer (some ⟨g1776, 0, none⟩))), (11, (.int .i64 x2805)), (12, (.int .i64 x3072)), (13, (.pointer (some ⟨g3082, 0, none⟩))), (193, (.bool (((rdD p0 (rdD p1.Cells (w64 ((w64 (x2805 * p1.Width)) + x3072)) 0) z_Tile).E) != ((rdD p0 (rdD p1.Cells (w64 ((w64 (x2805 * p1.Width)) + (Int.tmod (w64 (x3072 + 1)) p1.Width))) 0) z_Tile).W))))] [.ne p1.Width, .idx A_p1_Cells (w64 ((w64 (x2805 * p1.Width)) + (Int.tmod (w64 (x3072 + 1)) p1.Width))) p1.Cells.length, .idx A_p0 (rdD p1.Cells (w64 ((w64 (x2805 * p1.Width)) + (Int.tmod (w64 (x3072 + 1)) p1.Width))) 0) p0.length] [1, 2, 3, 4, 5, 6] [(10, ⟨g3082, 1, none⟩, (.int .i64 ((rdD p0 (rdD p1.Cells (w64 ((w64 (x2805 * p1.Width)) + x3072)) 0) z_Tile).E))), (13, ⟨g1776, 2, none⟩, (.slice A_p1_Cells p1.Cells.length c_p1_Cells)), (16, ⟨g1776, 0, none⟩, (.int .i64 p1.Width)), (21, ⟨g1776, 0, none⟩, (.int .i64 p1.Width)), (25, ((adr A_p1_Cells).add ((w64 ((w64 (x2805 * p1.Width)) + (Int.tmod (w64 (x3072 + 1)) p1.Width))).toNat * 1)), (.int .i64 (rdD p1.Cells (w64 ((w64 (x2805 * p1.Width)) + (Int.tmod (w64 (x3072 + 1)) p1.Width))) 0))), (28, (((adr A_p0).add (((rdD p1.Cells (w64 ((w64 (x2805 * p1.Width)) + (Int.tmod (w64 (x3072 + 1)) p1.Width))) 0)).toNat * 4)).add 3), (.int .i64 ((rdD p0 (rdD p1.Cells (w64 ((w64 (x2805 * p1.Width)) + (Int.tmod (w64 (x3072 + 1)) p1.Width))) 0) z_Tile).W)))] (fun fb => by kernel_rfl) rfl ⟨h3138, rowR.adr (hS3134.rd 1).1 h3139.1 h3139.2, rowR.adr (hS3134.rd 0).1 h3140.1 h3140.2, trivial⟩ rfl ?_
                  refine WL.done rfl ?_
                  injection hx3116 with hx3116
                  exact WX.to Kx3115 (((rdD p0 (rdD p1.Cells (w64 ((w64 (x2805 * p1.Width)) + x3072)) 0) z_Tile).E) != ((rdD p0 (rdD p1.Cells (w64 ((w64 (x2805 * p1.Width)) + (Int.tmod (w64 (x3072 + 1)) p1.Width))) 0) z_Tile).W)) [0, 2, 4, 11, 12, 13, 193] rfl ⟨(hS3134.subR [0, 1]).sub [1, 0] (by decide), hx3116.symm⟩
                refine WC.regionD ([(5, ⟨g1776, 0, none⟩, (.int .i64 p1.Width))], [0, 1, 2, 3, 4, 5, 6, 7, 8, 9, 10, 11, 12, 13, 14, 15, 16, 17, 18, 19, 20, 21, 22, 23, 24, 25, 26, 27, 28, 29, 30], [[], [0], [0, 1], [0, 1, 2], [0, 1], [0, 1, 4], [0, 1, 2, 3, 4, 5], [0, 1, 2, 3, 4, 5, 6], [0, 1, 2, 3, 4, 5, 6, 7], [0, 1, 2, 3, 4, 5, 6, 7, 8], [0, 1, 2, 3, 4, 5, 6, 7, 8, 9], [0, 1, 2, 3, 4, 5, 6, 7, 8], [0, 1, 2, 3, 4, 5, 6, 7, 8], [0, 1, 2, 3, 4, 5, 6, 7, 8, 12], [0, 1, 2, 3, 4, 5, 6, 7, 8], [0, 1, 2, 3, 4, 5, 6, 7, 8], [0, 1, 2, 3, 4, 5, 6, 7, 8, 15], [0, 1, 2, 3, 4, 5, 6, 7, 8, 14, 15, 16], [0, 1, 2, 3, 4, 5, 6, 7, 8], [0, 1, 2, 3, 4, 5, 6, 7, 8, 18], [0, 1, 2, 3, 4, 5, 6, 7, 8], [0, 1, 2, 3, 4, 5, 6, 7, 8, 20], [0, 1, 2, 3, 4, 5, 6, 7, 8, 18, 19, 20, 21], [0, 1, 2, 3, 4, 5, 6, 7, 8, 14, 15, 16, 17, 18, 19, 20, 21, 22], [0, 1, 2, 3, 4, 5, 6, 7, 8, 12, 13, 14, 15, 16, 17, 18, 19, 20, 21, 22, 23], [0, 1, 2, 3, 4, 5, 6, 7, 8, 12, 13, 14, 15, 16, 17, 18, 19, 20, 21, 22, 23, 24], [0, 1, 2, 3, 4, 5, 6, 7, 8, 11, 12, 13, 14, 15, 16, 17, 18, 19, 20, 21, 22, 23, 24, 25], [0, 1, 2, 3, 4, 5, 6, 7, 8, 11, 12, 13, 14, 15, 16, 17, 18, 19, 20, 21, 22, 23, 24, 25, 26], [0, 1, 2, 3, 4, 5, 6, 7, 8, 11, 12, 13, 14, 15, 16, 17, 18, 19, 20, 21, 22, 23, 24, 25, 26, 27], [0, 1, 2, 3, 4, 5, 6, 7, 8, 9, 10, 11, 12, 13, 14, 15, 16, 17, 18, 19, 20, 21, 22, 23, 24, 25, 26, 27, 28], [0, 1, 2, 3, 4, 5, 6, 7, 8, 9, 10, 11, 12, 13, 14, 15, 16, 17, 18, 19, 20, 21, 22, 23, 24, 25, 26, 27, 28, 29]]) [[0, 1, 2, 3, 4, 5, 6, 7, 8, 9, 10, 11, 12, 13, 14, 15, 16, 17, 18, 19, 20, 21, 22, 23, 24, 25, 26, 27, 28, 29, 30]] (by kernel_rfl) (by kernel_rfl) (NoPanic.seq (NoPanic.seq (NoPanic.block (NoPanic.seq (NoPanic.seq (NoPanic.block (NoPanic.block (NoPanic.seq (NoPanic.seq (NoPanic.block (NoPanic.seq (NoPanic.body)))))))))))) ?_
                have hS3142 := hS3087.drew
                revert hS3142
                generalize World.drew w3086 = w3141
                intro hS3142
                refine ⟨⟨hS3142.cell 1 rfl 0 rfl, trivial⟩, forallC ?_ (forallN)⟩
                refine seg 2 [] [0, 2, 4, 11, 12, 13, 164] [(0, (.slice A_p0 p0.length c_p0)), (2, (.bool p2)), (4, (.pointer (some ⟨g1776, 0, none⟩))), (11, (.int .i64 x2805)), (12, (.int .i64 x3072)), (13, (.pointer (some ⟨g3082, 0, none⟩))), (164, (.bool p2))] [] (fun fb => by kernel_rfl) rfl trivial ?_
                refine WL.setB 164 h3117 rfl ?_
                refine segF 9 [.v (.int .i64 p1.Width)] [0, 2, 4, 11, 12, 13, 171] [(0, (.slice A_p0 p0.length c_p0)), (2, (.bool p2)), (4, (.pointer (some ⟨g1776, 0, none⟩))), (11, (.int .i64 x2805)), (12, (.int .i64 x3072)), (13, (.pointer (some ⟨g3082, 0, none⟩))), (171, (.bool (decide (w64 (x3072 + 1) < p1.Width))))] [] [0] [(5, ⟨g1776, 0, none⟩, (.int .i64 p1.Width))] (fun fb => by kernel_rfl) rfl trivial rfl ?_
                refine WL.setB 171 h3129 rfl ?_
                refine seg 31 [] [0, 2, 4, 11, 12, 13, 193] [(0, (.slice A_p0 p0.length c_p0)), (2, (.bool p2)), (4, (.pointer (some ⟨g1776, 0, none⟩))), (11, (.int .i64 x2805)), (12, (.int .i64 x3072)), (13, (.pointer (some ⟨g3082, 0, none⟩))), (193, (.bool false))] [] (fun fb => by kernel_rfl) rfl trivial ?_
                refine WL.done rfl ?_
                injection hx3116 with hx3116
                exact WX.to Kx3115 false [0, 2, 4, 11, 12, 13, 193] rfl ⟨(hS3142.subR [0, 1]).sub [1, 0] (by decide), hx3116.symm⟩
              rintro y3146 w3143 ⟨hS3144, hq3145⟩
              subst hq3145
              refine WX.next ?_
              rcases br_some hl3078 with ⟨h3147, hl3078⟩ | ⟨h3147, hl3078⟩
              · refine WC.condT2 (fun fb => by kernel_rfl) h3147 ?_
                refine WC.seq ?_
                refine WC.region ?_
                refine seg 1 [] [6] [(6, (.bool false))] [] (fun fb => by kernel_rfl) rfl trivial ?_
                refine WL.done rfl ?_
                refine WX.next ?_
                refine WC.ret ?_
                injection hl3078 with hl3078
                subst hl3078
                injection hl2811 with hl2811
                subst hl2811
                injection hf with hf
                subst hf
                exact WX.thenR (WX.blockR (WX.thenR (WX.thenR (WX.blockR (WX.blockR (WX.thenR (WX.thenR (WX.blockR (WX.thenR (WX.ret_ [] (.bool false) [] (fun fb => by kernel_rfl) trivial ⟨_, rfl, rfl, hS3144.keep⟩))))))))))
              refine WC.condF2 (fun fb => by kernel_rfl) h3147 ?_
              refine WC.skip ?_
              refine WX.next ?_
              refine WC.seq ?_
              obtain ⟨x3175, hx3176, hl3078⟩ := bind_some hl3078
              refine WC.cutN (T := Bool) (fun t => [(0, (.slice A_p0 p0.length c_p0)), (2, (.bool p2)), (4, (.pointer (some ⟨g1776, 0, none⟩))), (11, (.int .i64 x2805)), (12, (.int .i64 x3072)), (224, (.bool t))]) (fun t w1 => St NoS w w1 [rowR enc_Tile A_p0 c_p0 p0, rowR encInt A_p1_Cells c_p1_Cells p1.Cells] [blk g1776 (.cells #[(.int .i64 p1.Width), (.int .i64 p1.Height), (.slice A_p1_Cells p1.Cells.length c_p1_Cells)] 25 (0, 0))] ∧ x3175 = t) (fun Kx3175 => ?_) ?_
              ·
                rcases br_some hx3176 with ⟨h3177, hx3176⟩ | ⟨h3177, hx3176⟩
                ·
                  obtain ⟨h3186, hx3176⟩ := as_some hx3176
                  obtain ⟨h3187, hx3176⟩ := as_some hx3176
                  obtain ⟨h3188, hx3176⟩ := as_some hx3176
                  refine WC.regionD ([(10, ⟨g3082, 0, none⟩, (.int .i64 ((rdD p0 (rdD p1.Cells (w64 ((w64 (x2805 * p1.Width)) + x3072)) 0) z_Tile).N))), (13, ⟨g1776, 2, none⟩, (.slice A_p1_Cells p1.Cells.length c_p1_Cells)), (17, ⟨g1776, 1, none⟩, (.int .i64 p1.Height)), (20, ⟨g1776, 0, none⟩, (.int .i64 p1.Width)), (25, ((adr A_p1_Cells).add ((w64 ((w64 ((Int.tmod (w64 (x2805 + 1)) p1.Height) * p1.Width)) + x3072)).toNat * 1)), (.int .i64 (rdD p1.Cells (w64 ((w64 ((Int.tmod (w64 (x2805 + 1)) p1.Height) * p1.Width)) + x3072)) 0))), (28, (((adr A_p0).add (((rdD p1.Cells (w64 ((w64 ((Int.tmod (w64 (x2805 + 1)) p1.Height) * p1.Width)) + x3072)) 0)).toNat * 4)).add 2), (.int .i64 ((rdD p0 (rdD p1.Cells (w64 ((w64 ((Int.tmod (w64 (x2805 + 1)) p1.Height) * p1.Width)) + x3072)) 0) z_Tile).S)))], [0, 1, 2, 3, 4, 5, 6, 7, 8, 9, 10, 11, 12, 13, 14, 15, 16, 17, 18, 19, 20, 21, 22, 23, 24, 25, 26, 27, 28, 29, 30], [[], [0], [0, 1], [0, 1, 2], [0, 1], [0, 1, 4], [0, 1, 2, 3, 4, 5], [0, 1, 2, 3, 4, 5, 6], [0, 1, 2, 3, 4, 5, 6, 7], [0, 1, 2, 3, 4, 5, 6, 7, 8], [0, 1, 2, 3, 4, 5, 6, 7, 8, 9], [0, 1, 2, 3, 4, 5, 6, 7, 8], [0, 1, 2, 3, 4, 5, 6, 7, 8], [0, 1, 2, 3, 4, 5, 6, 7, 8, 12], [0, 1, 2, 3, 4, 5, 6, 7, 8], [0, 1, 2, 3, 4, 5, 6, 7, 8, 14], [0, 1, 2, 3, 4, 5, 6, 7, 8], [0, 1, 2, 3, 4, 5, 6, 7, 8, 16], [0, 1, 2, 3, 4, 5, 6, 7, 8, 14, 15, 16, 17], [0, 1, 2, 3, 4, 5, 6, 7, 8], [0, 1, 2, 3, 4, 5, 6, 7, 8, 19], [0, 1, 2, 3, 4, 5, 6, 7, 8, 14, 15, 16, 17, 18, 19, 20], [0, 1, 2, 3, 4, 5, 6, 7, 8], [0, 1, 2, 3, 4, 5, 6, 7, 8, 14, 15, 16, 17, 18, 19, 20, 21, 22], [0, 1, 2, 3, 4, 5, 6, 7, 8, 12, 13, 14, 15, 16, 17, 18, 19, 20, 21, 22, 23], [0, 1, 2, 3, 4, 5, 6, 7, 8, 12, 13, 14, 15, 16, 17, 18, 19, 20, 21, 22, 23, 24], [0, 1, 2, 3, 4, 5, 6, 7, 8, 11, 12, 13, 14, 15, 16, 17, 18, 19, 20, 21, 22, 23, 24, 25], [0, 1, 2, 3, 4, 5, 6, 7, 8, 11, 12, 13, 14, 15, 16, 17, 18, 19, 20, 21, 22, 23, 24, 25, 26], [0, 1, 2, 3, 4, 5, 6, 7, 8, 11, 12, 13, 14, 15, 16, 17, 18, 19, 20, 21, 22, 23, 24, 25, 26, 27], [0, 1, 2, 3, 4, 5, 6, 7, 8, 9, 10, 11, 12, 13, 14, 15, 16, 17, 18, 19, 20, 21, 22, 23, 24, 25, 26, 27, 28], [0, 1, 2, 3, 4, 5, 6, 7, 8, 9, 10, 11, 12, 13, 14, 15, 16, 17, 18, 19, 20, 21, 22, 23, 24, 25, 26, 27, 28, 29]]) [[0, 1, 2, 3, 4, 5, 6, 7, 8, 9, 10, 11, 12, 13, 14, 15, 16, 17, 18, 19, 20, 21, 22, 23, 24, 25, 26, 27, 28, 29, 30]] (by kernel_rfl) (by kernel_rfl) (NoPanic.seq (NoPanic.block (NoPanic.seq (NoPanic.seq (NoPanic.block (NoPanic.block (NoPanic.seq (NoPanic.seq (NoPanic.block (NoPanic.seq (NoPanic.body))))))))))) ?_
                  have hS3182 := hS3144.drew
                  revert hS3182
                  generalize World.drew w3143 = w3181
                  intro hS3182
                  refine ⟨⟨hS3182.cell 1 rfl 0 rfl, hS3182.cell 0 rfl 2 rfl, hS3182.cell 0 rfl 1 rfl, hS3182.cell 0 rfl 0 rfl, rowR.cell (hS3182.rd 1).1 0 h3187.1 h3187.2 0 rfl, rowR.cell (hS3182.rd 0).1 z_Tile h3188.1 h3188.2 2 rfl, trivial⟩, forallC ?_ (forallN)⟩
                  refine seg 2 [] [0, 2, 4, 11, 12, 13, 195] [(0, (.slice A_p0 p0.length c_p0)), (2, (.bool p2)), (4, (.pointer (some ⟨g1776, 0, none⟩))), (11, (.int .i64 x2805)), (12, (.int .i64 x3072)), (13, (.pointer (some ⟨g3082, 0, none⟩))), (195, (.bool p2))] [] (fun fb => by kernel_rfl) rfl trivial ?_
                  refine WL.setB 195 h3177 rfl ?_
                  refine segF 31 [.v (.int .i64 ((rdD p0 (rdD p1.Cells (w64 ((w64 (x2805 * p1.Width)) + x3072)) 0) z_Tile).N)), .v (.slice A_p1_Cells p1.Cells.length c_p1_Cells), .v (.int .i64 p1.Height), .v (.int .i64 p1.Width), .v (.int .i64 (rdD p1.Cells (w64 ((w64 ((Int.tmod (w64 (x2805 + 1)) p1.Height) * p1.Width)) + x3072)) 0)), .v (.int .i64 ((rdD p0 (rdD p1.Cells (w64 ((w64 ((Int.tmod (w64 (x2805 + 1)) p1.Height) * p1.Width)) + x3072)) 0) z_Tile).S))] [0, 2, 4, 11, 12, 224] [(0, (.slice A_p0 p0.length c_p0)), (2, (.bool p2)), (4, (.pointer (some ⟨g1776, 0, none⟩))), (11, (.int .i64 x2805)), (12, (.int .i64 x3072)), (224, (.bool (((rdD p0 (rdD p1.Cells (w64 ((w64 (x2805 * p1.Width)) + x3072)) 0) z_Tile).N) != ((rdD p0 (rdD p1.Cells (w64 ((w64 ((Int.tmod (w64 (x2805 + 1)) p1.Height) * p1.Width)) + x3072)) 0) z_Tile).S))))] [.ne p1.Height, .idx A_p1_Cells (w64 ((w64 ((Int.tmod (w64 (x2805 + 1)) p1.Height) * p1.Width)) + x3072)) p1.Cells.length, .idx A_p0 (rdD p1.Cells (w64 ((w64 ((Int.tmod (w64 (x2805 + 1)) p1.Height) * p1.Width)) + x3072)) 0) p0.length] [0, 1, 2, 3, 4, 5] [(10, ⟨g3082, 0, none⟩, (.int .i64 ((rdD p0 (rdD p1.Cells (w64 ((w64 (x2805 * p1.Width)) + x3072)) 0) z_Tile).N))), (13, ⟨g1776, 2, none⟩, (.slice A_p1_Cells p1.Cells.length c_p1_Cells)), (17, ⟨g1776, 1, none⟩, (.int .i64 p1.Height)), (20, ⟨g1776, 0, none⟩, (.int .i64 p1.Width)), (25, ((adr A_p1_Cells).add ((w64 ((w64 ((Int.tmod (w64 (x2805 + 1)) p1.Height) * p1.Width)) + x3072)).toNat * 1)), (.int .i64 (rdD p1.Cells (w64 ((w64 ((Int.tmod (w64 (x2805 + 1)) p1.Height) * p1.Width)) + x3072)) 0))), (28, (((adr A_p0).add (((rdD p1.Cells (w64 ((w64 ((Int.tmod (w64 (x2805 + 1)) p1.Height) * p1.Width)) + x3072)) 0)).toNat * 4)).add 2), (.int .i64 ((rdD p0 (rdD p1.Cells (w64 ((w64 ((Int.tmod (w64 (x2805 + 1)) p1.Height) * p1.Width)) + x3072)) 0) z_Tile).S)))] (fun fb => by kernel_rfl) rfl ⟨h3186, rowR.adr (hS3182.rd 1).1 h3187.1 h3187.2, rowR.adr (hS3182.rd 0).1 h3188.1 h3188.2, trivial⟩ rfl ?_
                  refine WL.done rfl ?_
                  injection hx3176 with hx3176
                  exact WX.to Kx3175 (((rdD p0 (rdD p1.Cells (w64 ((w64 (x2805 * p1.Width)) + x3072)) 0) z_Tile).N) != ((rdD p0 (rdD p1.Cells (w64 ((w64 ((Int.tmod (w64 (x2805 + 1)) p1.Height) * p1.Width)) + x3072)) 0) z_Tile).S)) [0, 2, 4, 11, 12, 224] rfl ⟨(hS3182.subR [0, 1]).sub [0] (by decide), hx3176.symm⟩
                rcases br_some hx3176 with ⟨h3189, hx3176⟩ | ⟨h3189, hx3176⟩
                ·
                  obtain ⟨h3198, hx3176⟩ := as_some hx3176
                  obtain ⟨h3199, hx3176⟩ := as_some hx3176
                  obtain ⟨h3200, hx3176⟩ := as_some hx3176
                  refine WC.regionD ([(5, ⟨g1776, 1, none⟩, (.int .i64 p1.Height)), (10, ⟨g3082, 0, none⟩, (.int .i64 ((rdD p0 (rdD p1.Cells (w64 ((w64 (x2805 * p1.Width)) + x3072)) 0) z_Tile).N))), (13, ⟨g1776, 2, none⟩, (.slice A_p1_Cells p1.Cells.length c_p1_Cells)), (17, ⟨g1776, 1, none⟩, (.int .i64 p1.Height)), (20, ⟨g1776, 0, none⟩, (.int .i64 p1.Width)), (25, ((adr A_p1_Cells).add ((w64 ((w64 ((Int.tmod (w64 (x2805 + 1)) p1.Height) * p1.Width)) + x3072)).toNat * 1)), (.int .i64 (rdD p1.Cells (w64 ((w64 ((Int.tmod (w64 (x2805 + 1)) p1.Height) * p1.Width)) + x3072)) 0))), (28, (((adr A_p0).add (((rdD p1.Cells (w64 ((w64 ((Int.tmod (w64 (x2805 + 1)) p1.Height) * p1.Width)) + x3072)) 0)).toNat * 4)).add 2), (.int .i64 ((rdD p0 (rdD p1.Cells (w64 ((w64 ((Int.tmod (w64 (x2805 + 1)) p1.Height) * p1.Width)) + x3072)) 0) z_Tile).S)))], [0, 1, 2, 3, 4, 5, 6, 7, 8, 9, 10, 11, 12, 13, 14, 15, 16, 17, 18, 19, 20, 21, 22, 23, 24, 25, 26, 27, 28, 29, 30], [[], [0], [0, 1], [0, 1, 2], [0, 1], [0, 1, 4], [0, 1, 2, 3, 4, 5], [0, 1, 2, 3, 4, 5, 6], [0, 1, 2, 3, 4, 5, 6, 7], [0, 1, 2, 3, 4, 5, 6, 7, 8], [0, 1, 2, 3, 4, 5, 6, 7, 8, 9], [0, 1, 2, 3, 4, 5, 6, 7, 8], [0, 1, 2, 3, 4, 5, 6, 7, 8], [0, 1, 2, 3, 4, 5, 6, 7, 8, 12], [0, 1, 2, 3, 4, 5, 6, 7, 8], [0, 1, 2, 3, 4, 5, 6, 7, 8, 14], [0, 1, 2, 3, 4, 5, 6, 7, 8], [0, 1, 2, 3, 4, 5, 6, 7, 8, 16], [0, 1, 2, 3, 4, 5, 6, 7, 8, 14, 15, 16, 17], [0, 1, 2, 3, 4, 5, 6, 7, 8], [0, 1, 2, 3, 4, 5, 6, 7, 8, 19], [0, 1, 2, 3, 4, 5, 6, 7, 8, 14, 15, 16, 17, 18, 19, 20], [0, 1, 2, 3, 4, 5, 6, 7, 8], [0, 1, 2, 3, 4, 5, 6, 7, 8, 14, 15, 16, 17, 18, 19, 20, 21, 22], [0, 1, 2, 3, 4, 5, 6, 7, 8, 12, 13, 14, 15, 16, 17, 18, 19, 20, 21, 22, 23], [0, 1, 2, 3, 4, 5, 6, 7, 8, 12, 13, 14, 15, 16, 17, 18, 19, 20, 21, 22, 23, 24], [0, 1, 2, 3, 4, 5, 6, 7, 8, 11, 12, 13, 14, 15, 16, 17, 18, 19, 20, 21, 22, 23, 24, 25], [0, 1, 2, 3, 4, 5, 6, 7, 8, 11, 12, 13, 14, 15, 16, 17, 18, 19, 20, 21, 22, 23, 24, 25, 26], [0, 1, 2, 3, 4, 5, 6, 7, 8, 11, 12, 13, 14, 15, 16, 17, 18, 19, 20, 21, 22, 23, 24, 25, 26, 27], [0, 1, 2, 3, 4, 5, 6, 7, 8, 9, 10, 11, 12, 13, 14, 15, 16, 17, 18, 19, 20, 21, 22, 23, 24, 25, 26, 27, 28], [0, 1, 2, 3, 4, 5, 6, 7, 8, 9, 10, 11, 12, 13, 14, 15, 16, 17, 18, 19, 20, 21, 22, 23, 24, 25, 26, 27, 28, 29]]) [[0, 1, 2, 3, 4, 5, 6, 7, 8, 9, 10, 11, 12, 13, 14, 15, 16, 17, 18, 19, 20, 21, 22, 23, 24, 25, 26, 27, 28, 29, 30]] (by kernel_rfl) (by kernel_rfl) (NoPanic.seq (NoPanic.block (NoPanic.seq (NoPanic.seq (NoPanic.block (NoPanic.block (NoPanic.seq (NoPanic.seq (NoPanic.block (NoPanic.seq (NoPanic.body))))))))))) ?_
                  have hS3194 := hS3144.drew
                  revert hS3194
                  generalize World.drew w3143 = w3193
                  intro hS3194
                  refine ⟨⟨hS3194.cell 0 rfl 1 rfl, hS3194.cell 1 rfl 0 rfl, hS3194.cell 0 rfl 2 rfl, hS3194.cell 0 rfl 1 rfl, hS3194.cell 0 rfl 0 rfl, rowR.cell (hS3194.rd 1).1 0 h3199.1 h3199.2 0 rfl, rowR.cell (hS3194.rd 0).1 z_Tile h3200.1 h3200.2 2 rfl, trivial⟩, forallC ?_ (forallN)⟩
                  refine seg 2 [] [0, 2, 4, 11, 12, 13, 195] [(0, (.slice A_p0 p0.length c_p0)), (2, (.bool p2)), (4, (.pointer (some ⟨g1776, 0, none⟩))), (11, (.int .i64 x2805)), (12, (.int .i64 x3072)), (13, (.pointer (some ⟨g3082, 0, none⟩))), (195, (.bool p2))] [] (fun fb => by kernel_rfl) rfl trivial ?_
                  refine WL.setB 195 h3177 rfl ?_
                  refine segF 9 [.v (.int .i64 p1.Height)] [0, 2, 4, 11, 12, 13, 202] [(0, (.slice A_p0 p0.length c_p0)), (2, (.bool p2)), (4, (.pointer (some ⟨g1776, 0, none⟩))), (11, (.int .i64 x2805)), (12, (.int .i64 x3072)), (13, (.pointer (some ⟨g3082, 0, none⟩))), (202, (.bool (decide (w64 (x2805 + 1) < p1.Height))))] [] [0] [(5, ⟨g1776, 1, none⟩, (.int .i64 p1.Height))] (fun fb => by kernel_rfl) rfl trivial rfl ?_
                  refine WL.setB 202 h3189 rfl ?_
                  refine segF 31 [.v (.int .i64 ((rdD p0 (rdD p1.Cells (w64 ((w64 (x2805 * p1.Width)) + x3072)) 0) z_Tile).N)), .v (.slice A_p1_Cells p1.Cells.length c_p1_Cells), .v (.int .i64 p1.Height), .v (.int .i64 p1.Width), .v (.int .i64 (rdD p1.Cells (w64 ((w64 ((Int.tmod (w64 (x2805 + 1)) p1.Height) * p1.Width)) + x3072)) 0)), .v (.int .i64 ((rdD p0 (rdD p1.Cells (w64 ((w64 ((Int.tmod (w64 (x2805 + 1)) p1.Height) * p1.Width)) + x3072)) 0) z_Tile).S))] [0, 2, 4, 11, 12, 224] [(0, (.slice A_p0 p0.length c_p0)), (2, (.bool p2)), (4, (.pointer (some ⟨g1776, 0, none⟩))), (11, (.int .i64 x2805)), (12, (.int .i64 x3072)), (224, (.bool (((rdD p0 (rdD p1.Cells (w64 ((w64 (x2805 * p1.Width)) + x3072)) 0) z_Tile).N) != ((rdD p0 (rdD p1.Cells (w64 ((w64 ((Int.tmod (w64 (x2805 + 1)) p1.Height) * p1.Width)) + x3072)) 0) z_Tile).S))))] [.ne p1.Height, .idx A_p1_Cells (w64 ((w64 ((Int.tmod (w64 (x2805 + 1)) p1.Height) * p1.Width)) + x3072)) p1.Cells.length, .idx A_p0 (rdD p1.Cells (w64 ((w64 ((Int.tmod (w64 (x2805 + 1)) p1.Height) * p1.Width)) + x3072)) 0) p0.length] [1, 2, 3, 4, 5, 6] [(10, ⟨g3082, 0, none⟩, (.int .i64 ((rdD p0 (rdD p1.Cells (w64 ((w64 (x2805 * p1.Width)) + x3072)) 0) z_Tile).N))), (13, ⟨g1776, 2, none⟩, (.slice A_p1_Cells p1.Cells.length c_p1_Cells)), (17, ⟨g1776, 1, none⟩, (.int .i64 p1.Height)), (20, ⟨g1776, 0, none⟩, (.int .i64 p1.Width)), (25, ((adr A_p1_Cells).add ((w64 ((w64 ((Int.tmod (w64 (x2805 + 1)) p1.Height) * p1.Width)) + x3072)).toNat * 1)), (.int .i64 (rdD p1.Cells (w64 ((w64 ((Int.tmod (w64 (x2805 + 1)) p1.Height) * p1.Width)) + x3072)) 0))), (28, (((adr A_p0).add (((rdD p1.Cells (w64 ((w64 ((Int.tmod (w64 (x2805 + 1)) p1.Height) * p1.Width)) + x3072)) 0)).toNat * 4)).add 2), (.int .i64 ((rdD p0 (rdD p1.Cells (w64 ((w64 ((Int.tmod (w64 (x2805 + 1)) p1.Height) * p1.Width)) + x3072)) 0) z_Tile).S)))] (fun fb => by kernel_rfl) rfl ⟨h3198, rowR.adr (hS3194.rd 1).1 h3199.1 h3199.2, rowR.adr (hS3194.rd 0).1 h3200.1 h3200.2, trivial⟩ rfl ?_
                  refine WL.done rfl ?_
                  injection hx3176 with hx3176
                  exact WX.to Kx3175 (((rdD p0 (rdD p1.Cells (w64 ((w64 (x2805 * p1.Width)) + x3072)) 0) z_Tile).N) != ((rdD p0 (rdD p1.Cells (w64 ((w64 ((Int.tmod (w64 (x2805 + 1)) p1.Height) * p1.Width)) + x3072)) 0) z_Tile).S)) [0, 2, 4, 11, 12, 224] rfl ⟨(hS3194.subR [0, 1]).sub [0] (by decide), hx3176.symm⟩
                refine WC.regionD ([(5, ⟨g1776, 1, none⟩, (.int .i64 p1.Height))], [0, 1, 2, 3, 4, 5, 6, 7, 8, 9, 10, 11, 12, 13, 14, 15, 16, 17, 18, 19, 20, 21, 22, 23, 24, 25, 26, 27, 28, 29, 30], [[], [0], [0, 1], [0, 1, 2], [0, 1], [0, 1, 4], [0, 1, 2, 3, 4, 5], [0, 1, 2, 3, 4, 5, 6], [0, 1, 2, 3, 4, 5, 6, 7], [0, 1, 2, 3, 4, 5, 6, 7, 8], [0, 1, 2, 3, 4, 5, 6, 7, 8, 9], [0, 1, 2, 3, 4, 5, 6, 7, 8], [0, 1, 2, 3, 4, 5, 6, 7, 8], [0, 1, 2, 3, 4, 5, 6, 7, 8, 12], [0, 1, 2, 3, 4, 5, 6, 7, 8], [0, 1, 2, 3, 4, 5, 6, 7, 8, 14], [0, 1, 2, 3, 4, 5, 6, 7, 8], [0, 1, 2, 3, 4, 5, 6, 7, 8, 16], [0, 1, 2, 3, 4, 5, 6, 7, 8, 14, 15, 16, 17], [0, 1, 2, 3, 4, 5, 6, 7, 8], [0, 1, 2, 3, 4, 5, 6, 7, 8, 19], [0, 1, 2, 3, 4, 5, 6, 7, 8, 14, 15, 16, 17, 18, 19, 20], [0, 1, 2, 3, 4, 5, 6, 7, 8], [0, 1, 2, 3, 4, 5, 6, 7, 8, 14, 15, 16, 17, 18, 19, 20, 21, 22], [0, 1, 2, 3, 4, 5, 6, 7, 8, 12, 13, 14, 15, 16, 17, 18, 19, 20, 21, 22, 23], [0, 1, 2, 3, 4, 5, 6, 7, 8, 12, 13, 14, 15, 16, 17, 18, 19, 20, 21, 22, 23, 24], [0, 1, 2, 3, 4, 5, 6, 7, 8, 11, 12, 13, 14, 15, 16, 17, 18, 19, 20, 21, 22, 23, 24, 25], [0, 1, 2, 3, 4, 5, 6, 7, 8, 11, 12, 13, 14, 15, 16, 17, 18, 19, 20, 21, 22, 23, 24, 25, 26], [0, 1, 2, 3, 4, 5, 6, 7, 8, 11, 12, 13, 14, 15, 16, 17, 18, 19, 20, 21, 22, 23, 24, 25, 26, 27], [0, 1, 2, 3, 4, 5, 6, 7, 8, 9, 10, 11, 12, 13, 14, 15, 16, 17, 18, 19, 20, 21, 22, 23, 24, 25, 26, 27, 28], [0, 1, 2, 3, 4, 5, 6, 7, 8, 9, 10, 11, 12, 13, 14, 15, 16, 17, 18, 19, 20, 21, 22, 23, 24, 25, 26, 27, 28, 29]]) [[0, 1, 2, 3, 4, 5, 6, 7, 8, 9, 10, 11, 12, 13, 14, 15, 16, 17, 18, 19, 20, 21, 22, 23, 24, 25, 26, 27, 28, 29, 30]] (by kernel_rfl) (by kernel_rfl) (NoPanic.seq (NoPanic.block (NoPanic.seq (NoPanic.seq (NoPanic.block (NoPanic.block (NoPanic.seq (NoPanic.seq (NoPanic.block (NoPanic.seq (NoPanic.body))))))))))) ?_
                have hS3202 := hS3144.drew
                revert hS3202
                generalize World.drew w3143 = w3201
                intro hS3202
                refine ⟨⟨hS3202.cell 0 rfl 1 rfl, trivial⟩, forallC ?_ (forallN)⟩
                refine seg 2 [] [0, 2, 4, 11, 12, 13, 195] [(0, (.slice A_p0 p0.length c_p0)), (2, (.bool p2)), (4, (.pointer (some ⟨g1776, 0, none⟩))), (11, (.int .i64 x2805)), (12, (.int .i64 x3072)), (13, (.pointer (some ⟨g3082, 0, none⟩))), (195, (.bool p2))] [] (fun fb => by kernel_rfl) rfl trivial ?_
                refine WL.setB 195 h3177 rfl ?_
                refine segF 9 [.v (.int .i64 p1.Height)] [0, 2, 4, 11, 12, 13, 202] [(0, (.slice A_p0 p0.length c_p0)), (2, (.bool p2)), (4, (.pointer (some ⟨g1776, 0, none⟩))), (11, (.int .i64 x2805)), (12, (.int .i64 x3072)), (13, (.pointer (some ⟨g3082, 0, none⟩))), (202, (.bool (decide (w64 (x2805 + 1) < p1.Height))))] [] [0] [(5, ⟨g1776, 1, none⟩, (.int .i64 p1.Height))] (fun fb => by kernel_rfl) rfl trivial rfl ?_
                refine WL.setB 202 h3189 rfl ?_
                refine seg 31 [] [0, 2, 4, 11, 12, 224] [(0, (.slice A_p0 p0.length c_p0)), (2, (.bool p2)), (4, (.pointer (some ⟨g1776, 0, none⟩))), (11, (.int .i64 x2805)), (12, (.int .i64 x3072)), (224, (.bool false))] [] (fun fb => by kernel_rfl) rfl trivial ?_
                refine WL.done rfl ?_
                injection hx3176 with hx3176
                exact WX.to Kx3175 false [0, 2, 4, 11, 12, 224] rfl ⟨(hS3202.subR [0, 1]).sub [0] (by decide), hx3176.symm⟩
              rintro y3206 w3203 ⟨hS3204, hq3205⟩
              subst hq3205
              refine WX.next ?_
              rcases br_some hl3078 with ⟨h3207, hl3078⟩ | ⟨h3207, hl3078⟩
              · refine WC.condT2 (fun fb => by kernel_rfl) h3207 ?_
                refine WC.seq ?_
                refine WC.region ?_
                refine seg 1 [] [6] [(6, (.bool false))] [] (fun fb => by kernel_rfl) rfl trivial ?_
                refine WL.done rfl ?_
                refine WX.next ?_
                refine WC.ret ?_
                injection hl3078 with hl3078
                subst hl3078
                injection hl2811 with hl2811
                subst hl2811
                injection hf with hf
                subst hf
                exact WX.blockR (WX.thenR (WX.thenR (WX.blockR (WX.blockR (WX.thenR (WX.thenR (WX.blockR (WX.thenR (WX.ret_ [] (.bool false) [] (fun fb => by kernel_rfl) trivial ⟨_, rfl, rfl, hS3204.keep⟩)))))))))
              refine WC.condF2 (fun fb => by kernel_rfl) h3207 ?_
              refine WC.skip ?_
              refine WX.blockN (WX.next ?_)
              refine WC.region ?_
              refine seg 3 [] [0, 2, 4, 11, 12] [(0, (.slice A_p0 p0.length c_p0)), (2, (.bool p2)), (4, (.pointer (some ⟨g1776, 0, none⟩))), (11, (.int .i64 x2805)), (12, (.int .i64 (w64 (x3072 + 1))))] [] (fun fb => by kernel_rfl) rfl trivial ?_
              refine WL.done rfl ?_
              exact WX.again k3075 (Nat.lt_succ_self _) (w64 (x3072 + 1)) [0, 2, 4, 11, 12] rfl ⟨(hS3204.subR [0, 1]).sub [0] (by decide), hl3078⟩
            refine WC.condF2 (fun fb => by kernel_rfl) h3079 ?_
            refine WC.exit ?_
            injection hl3078 with hl3078
            exact WX.thenX (WX.thenX (WX.blockHere (WX.to Kx3073 () [0, 2, 4, 11] rfl ⟨(hS3077.subR [0, 1]).sub [0] (by decide), hl3078.symm⟩)))
        rintro y3211 w3208 ⟨hS3209, hq3210⟩
        subst hq3210
        have hl2811 := sum_inr hl2811
        refine WX.blockN (WX.next ?_)
        refine WC.region ?_
        refine seg 3 [] [0, 2, 4, 11] [(0, (.slice A_p0 p0.length c_p0)), (2, (.bool p2)), (4, (.pointer (some ⟨g1776, 0, none⟩))), (11, (.int .i64 (w64 (x2805 + 1))))] [] (fun fb => by kernel_rfl) rfl trivial ?_
        refine WL.done rfl ?_
        exact WX.again k2808 (Nat.lt_succ_self _) (w64 (x2805 + 1)) [0, 2, 4, 11] rfl ⟨(hS3209.subR [0, 1]).sub [0] (by decide), hl2811⟩
      refine WC.condF2 (fun fb => by kernel_rfl) h2812 ?_
      refine WC.exit ?_
      injection hl2811 with hl2811
      exact WX.thenX (WX.thenX (WX.blockHere (WX.to Kx2806 () [] rfl ⟨(hS2810.subR [0, 1]).sub [] (by decide), hl2811.symm⟩)))
  rintro y3216 w3213 ⟨hS3214, hq3215⟩
  subst hq3215
  have hf := sum_inr hf
  refine WX.next ?_
  refine WC.seq ?_
  refine WC.region ?_
  refine seg 1 [] [6] [(6, (.bool true))] [] (fun fb => by kernel_rfl) rfl trivial ?_
  refine WL.done rfl ?_
  refine WX.next ?_
  refine WC.ret ?_
  injection hf with hf
  subst hf
  exact WX.ret_ [] (.bool true) [] (fun fb => by kernel_rfl) trivial ⟨_, rfl, rfl, hS3214.keep⟩
theorem top_cycle_calls (p0 : Int) (p1 : Int)  (r : Int) (w : World)  (hf : top_cycle p0 p1 = some r) :
    CallsR Try.prog 8 #[(.int .i64 p0), (.int .i64 p1)] w (fun v w' => v = (.int .i64 r) ∧ Keeps NoS w w') := by
  have hS : St NoS w w [] [] := St.init (ro_nil _ _)
  refine enter 12 Try.func8 rfl Try.ntmps8 rfl ?_
  unfold top_cycle at hf
  refine WC.seq ?_
  refine WC.region ?_
  refine seg 1 [] [0, 1] [(0, (.int .i64 p0)), (1, (.int .i64 p1))] [] (fun fb => by kernel_rfl) rfl trivial ?_
  refine WL.done rfl ?_
  refine WX.next ?_
  refine WC.seq ?_
  refine WC.region ?_
  refine seg 2 [] [1, 5, 6] [(1, (.int .i64 p1)), (5, (.int .i64 p0)), (6, (.int .i64 p1))] [] (fun fb => by kernel_rfl) rfl trivial ?_
  obtain ⟨h3305, hf⟩ := as_some hf
  refine seg 8 [] [4] [(4, (.int .i64 (Int.tmod (w64 ((Int.tmod p0 p1) + p1)) p1)))] [.ne p1, .ne p1] (fun fb => by kernel_rfl) rfl ⟨h3305, h3305, trivial⟩ ?_
  refine WL.done rfl ?_
  refine WX.next ?_
  refine WC.ret ?_
  injection hf with hf
  subst hf
  exact WX.ret_ [] (.int .i64 (Int.tmod (w64 ((Int.tmod p0 p1) + p1)) p1)) [] (fun fb => by kernel_rfl) trivial ⟨_, rfl, rfl, hS.keep⟩
theorem top_TopPeriods_calls (k : Nat) (p0 : List Tile) (p1 : Pattern) (p2 : A2_Int) (A_p0 : Option Addr) (c_p0 : Nat) (A_p1_Cells : Option Addr) (c_p1_Cells : Nat) (r : Bool) (w : World) (hR0 : RO NoS w (rowR enc_Tile A_p0 c_p0 p0)) (hR1 : RO NoS w (rowR encInt A_p1_Cells c_p1_Cells p1.Cells)) (hf : top_TopPeriods k p0 p1 p2 = some r) :
    CallsR Try.prog 3 #[(.slice A_p0 p0.length c_p0), (.agg #[(.int .i64 p1.Width), (.int .i64 p1.Height), (.slice A_p1_Cells p1.Cells.length c_p1_Cells)]), (.agg #[(.int .i64 p2.e0), (.int .i64 p2.e1)])] w (fun v w' => v = (.bool r) ∧ Keeps NoS w w') := by
  have hS : St NoS w w [rowR enc_Tile A_p0 c_p0 p0, rowR encInt A_p1_Cells c_p1_Cells p1.Cells] [] := St.init (ro_cons hR0 (ro_cons hR1 (ro_nil _ _)))
  refine enter 79 Try.func3 rfl Try.ntmps3 rfl ?_
  unfold top_TopPeriods at hf
  refine WC.seq ?_
  refine WC.region ?_
  refine WL.new hS 4 [] (fun g => (.pointer (some ⟨g, 0, none⟩))) (.cells #[(.int .i64 p1.Width), (.int .i64 p1.Height), (.slice A_p1_Cells p1.Cells.length c_p1_Cells)] 25 (0, 0)) [] (fun fb g => by kernel_rfl) trivial (fun g1 w2 hS3 => ?_)
  refine ⟨trivial, ?_⟩
  refine WL.new hS3 5 [] (fun g => (.pointer (some ⟨g, 0, none⟩))) (.cells #[(.int .i64 p2.e0), (.int .i64 p2.e1)] 26 (0, 0)) [] (fun fb g => by kernel_rfl) trivial (fun g5 w6 hS7 => ?_)
  refine ⟨trivial, ?_⟩
  refine seg 3 [] [0, 4, 5] [(0, (.slice A_p0 p0.length c_p0)), (4, (.pointer (some ⟨g1, 0, none⟩))), (5, (.pointer (some ⟨g5, 0, none⟩)))] [] (fun fb => by kernel_rfl) rfl trivial ?_
  refine WL.done rfl ?_
  refine WX.next ?_
  refine WC.seq ?_
  refine WC.seq ?_
  refine WC.region ?_
  refine seg 5 [.v (.slice A_p1_Cells p1.Cells.length c_p1_Cells)] [0, 4, 5, 15] [(0, (.slice A_p0 p0.length c_p0)), (4, (.pointer (some ⟨g1, 0, none⟩))), (5, (.pointer (some ⟨g5, 0, none⟩))), (15, (.bool (decide ((p1.Cells.length : Int) > 5000))))] [.cell ⟨g1, 2, none⟩ (.slice A_p1_Cells p1.Cells.length c_p1_Cells)] (fun fb => by kernel_rfl) rfl ⟨hS7.cell 1 rfl 2 rfl, trivial⟩ ?_
  refine WL.cutV (T := Bool) 9 (fun t => [(19, (.bool t)), (0, (.slice A_p0 p0.length c_p0)), (4, (.pointer (some ⟨g1, 0, none⟩))), (5, (.pointer (some ⟨g5, 0, none⟩)))]) (fun t => t = ((decide ((p1.Cells.length : Int) > 5000)) || (decide ((p0.length : Int) > 200)))) (fun K => ?_) ?_
  ·
    rcases Bool.eq_false_or_eq_true (decide ((p1.Cells.length : Int) > 5000)) with h9 | h9
    ·
      refine WL.setB 15 h9 rfl ?_
      refine seg 9 [] [0, 4, 5, 19] [(0, (.slice A_p0 p0.length c_p0)), (4, (.pointer (some ⟨g1, 0, none⟩))), (5, (.pointer (some ⟨g5, 0, none⟩))), (19, (.bool true))] [] (fun fb => by kernel_rfl) rfl trivial ?_
      exact WL.toV K true [19, 0, 4, 5] rfl (by rw [h9]; rfl)
    refine WL.setB 15 h9 rfl ?_
    refine seg 9 [] [0, 4, 5, 19] [(0, (.slice A_p0 p0.length c_p0)), (4, (.pointer (some ⟨g1, 0, none⟩))), (5, (.pointer (some ⟨g5, 0, none⟩))), (19, (.bool (decide ((p0.length : Int) > 200))))] [] (fun fb => by kernel_rfl) rfl trivial ?_
    exact WL.toV K (decide ((p0.length : Int) > 200)) [19, 0, 4, 5] rfl (by rw [h9]; rfl)
  rintro b10 rfl
  refine WL.done rfl ?_
  refine WX.next ?_
  rcases br_some hf with ⟨h11, hf⟩ | ⟨h11, hf⟩
  · refine WC.condT2 (fun fb => by kernel_rfl) h11 ?_
    refine WC.seq ?_
    refine WC.region ?_
    obtain ⟨t1766, ht1767, hf⟩ := bind_some hf
    refine WL.call (some 20) 4 #[] (fun fb => by kernel_rfl) (top_lives_calls _ t1766 _ ht1767) (fun v w1768 hR1769 => ?_)
    obtain ⟨rfl, hk_⟩ := hR1769
    have hS1770 := hS7.keepN hk_
    refine ⟨trivial, ?_⟩
    refine seg 2 [] [6] [(6, (.bool t1766))] [] (fun fb => by kernel_rfl) rfl trivial ?_
    refine WL.done rfl ?_
    refine WX.next ?_
    refine WC.ret ?_
    injection hf with hf
    subst hf
    exact WX.thenR (WX.ret_ [] (.bool t1766) [] (fun fb => by kernel_rfl) trivial ⟨_, rfl, rfl, hS1770.keep⟩)
  refine WC.condF2 (fun fb => by kernel_rfl) h11 ?_
  refine WC.skip ?_
  refine WX.next ?_
  refine WC.seq ?_
  refine WC.seq ?_
  refine WC.regionD ([(1, ⟨g1, 0, none⟩, (.int .i64 p1.Width)), (1, ⟨g1, 1, none⟩, (.int .i64 p1.Height)), (1, ⟨g1, 2, none⟩, (.slice A_p1_Cells p1.Cells.length c_p1_Cells)), (4, ⟨g1, 0, none⟩, (.int .i64 p1.Width)), (4, ⟨g1, 1, none⟩, (.int .i64 p1.Height)), (4, ⟨g1, 2, none⟩, (.slice A_p1_Cells p1.Cells.length c_p1_Cells)), (9, ⟨g1, 0, none⟩, (.int .i64 p1.Width)), (9, ⟨g1, 1, none⟩, (.int .i64 p1.Height)), (9, ⟨g1, 2, none⟩, (.slice A_p1_Cells p1.Cells.length c_p1_Cells)), (12, ⟨g1, 0, none⟩, (.int .i64 p1.Width)), (12, ⟨g1, 1, none⟩, (.int .i64 p1.Height)), (12, ⟨g1, 2, none⟩, (.slice A_p1_Cells p1.Cells.length c_p1_Cells))], [0, 1, 3, 4, 6, 7, 8, 9, 11, 12, 14, 15], [[], [], [0, 1], [], [], [0, 1, 2, 3, 4], [0, 1, 2, 3, 4, 5], [0, 1, 2, 3, 4, 5, 6], [0, 1, 2, 3, 4, 5, 6, 7], [0, 1, 2, 3, 4, 5, 6, 7], [0, 1, 2, 3, 4, 5, 6, 7, 8, 9], [0, 1, 2, 3, 4, 5, 6, 7], [0, 1, 2, 3, 4, 5, 6, 7], [0, 1, 2, 3, 4, 5, 6, 7, 8, 9, 10, 11, 12], [0, 1, 2, 3, 4, 5, 6, 7, 8, 9, 10, 11, 12, 13], [0, 1, 2, 3, 4, 5, 6, 7, 8, 9, 10, 11, 12, 13, 14]]) [[0, 1, 3, 4, 2, 5, 6, 7, 8, 9, 11, 12, 10, 13, 14, 15]] (by kernel_rfl) (by kernel_rfl) (NoPanic.seq (NoPanic.seq (NoPanic.body))) ?_
  have hS3253 := hS7.drew
  revert hS3253
  generalize World.drew w6 = w3252
  intro hS3253
  refine ⟨⟨hS3253.cell 1 rfl 0 rfl, hS3253.cell 1 rfl 1 rfl, hS3253.cell 1 rfl 2 rfl, hS3253.cell 1 rfl 0 rfl, hS3253.cell 1 rfl 1 rfl, hS3253.cell 1 rfl 2 rfl, hS3253.cell 1 rfl 0 rfl, hS3253.cell 1 rfl 1 rfl, hS3253.cell 1 rfl 2 rfl, hS3253.cell 1 rfl 0 rfl, hS3253.cell 1 rfl 1 rfl, hS3253.cell 1 rfl 2 rfl, trivial⟩, forallC ?_ (forallN)⟩
  refine segF 4 [.v (.int .i64 p1.Width), .v (.int .i64 p1.Height), .v (.slice A_p1_Cells p1.Cells.length c_p1_Cells), .v (.int .i64 p1.Width), .v (.int .i64 p1.Height), .v (.slice A_p1_Cells p1.Cells.length c_p1_Cells)] [0, 4, 5, 21, 22, 24, 25] [(0, (.slice A_p0 p0.length c_p0)), (4, (.pointer (some ⟨g1, 0, none⟩))), (5, (.pointer (some ⟨g5, 0, none⟩))), (21, (.slice A_p0 p0.length c_p0)), (22, (.agg #[(.int .i64 p1.Width), (.int .i64 p1.Height), (.slice A_p1_Cells p1.Cells.length c_p1_Cells)])), (24, (.slice A_p0 p0.length c_p0)), (25, (.agg #[(.int .i64 p1.Width), (.int .i64 p1.Height), (.slice A_p1_Cells p1.Cells.length c_p1_Cells)]))] [] [0, 1, 2, 3, 4, 5] [(1, ⟨g1, 0, none⟩, (.int .i64 p1.Width)), (1, ⟨g1, 1, none⟩, (.int .i64 p1.Height)), (1, ⟨g1, 2, none⟩, (.slice A_p1_Cells p1.Cells.length c_p1_Cells)), (4, ⟨g1, 0, none⟩, (.int .i64 p1.Width)), (4, ⟨g1, 1, none⟩, (.int .i64 p1.Height)), (4, ⟨g1, 2, none⟩, (.slice A_p1_Cells p1.Cells.length c_p1_Cells))] (fun fb => by kernel_rfl) rfl trivial rfl ?_
  obtain ⟨t3254, ht3255, hf⟩ := bind_some hf
  refine WL.call (some 23) 5 #[(.slice A_p0 p0.length c_p0), (.agg #[(.int .i64 p1.Width), (.int .i64 p1.Height), (.slice A_p1_Cells p1.Cells.length c_p1_Cells)])] (fun fb => by kernel_rfl) (tile_Fits_calls _ p0 p1 A_p0 c_p0 A_p1_Cells c_p1_Cells t3254 _ (hS3253.rd 0) (hS3253.rd 1) ht3255) (fun v w3256 hR3257 => ?_)
  obtain ⟨rfl, hk_⟩ := hR3257
  have hS3258 := hS3253.keepN hk_
  refine ⟨⟨hS3258.cell 1 rfl 0 rfl, hS3258.cell 1 rfl 1 rfl, hS3258.cell 1 rfl 2 rfl, hS3258.cell 1 rfl 0 rfl, hS3258.cell 1 rfl 1 rfl, hS3258.cell 1 rfl 2 rfl, hS3258.cell 1 rfl 0 rfl, hS3258.cell 1 rfl 1 rfl, hS3258.cell 1 rfl 2 rfl, trivial⟩, ?_⟩
  obtain ⟨t3259, ht3260, hf⟩ := bind_some hf
  refine WL.call (some 26) 6 #[(.slice A_p0 p0.length c_p0), (.agg #[(.int .i64 p1.Width), (.int .i64 p1.Height), (.slice A_p1_Cells p1.Cells.length c_p1_Cells)]), (.bool false)] (fun fb => by kernel_rfl) (top_of_calls _ p0 p1 false A_p0 c_p0 A_p1_Cells c_p1_Cells t3259 _ (hS3258.rd 0) (hS3258.rd 1) ht3260) (fun v w3261 hR3262 => ?_)
  obtain ⟨rfl, hk_⟩ := hR3262
  have hS3263 := hS3258.keepN hk_
  refine ⟨⟨hS3263.cell 1 rfl 0 rfl, hS3263.cell 1 rfl 1 rfl, hS3263.cell 1 rfl 2 rfl, hS3263.cell 1 rfl 0 rfl, hS3263.cell 1 rfl 1 rfl, hS3263.cell 1 rfl 2 rfl, trivial⟩, ?_⟩
  refine seg 8 [] [0, 4, 5, 28] [(0, (.slice A_p0 p0.length c_p0)), (4, (.pointer (some ⟨g1, 0, none⟩))), (5, (.pointer (some ⟨g5, 0, none⟩))), (28, (.bool (t3254 != t3259)))] [] (fun fb => by kernel_rfl) rfl trivial ?_
  obtain ⟨x3275, hx3276, hf⟩ := bind_some hf
  refine WL.cutW (T := Bool) 16 (fun t => [(0, (.slice A_p0 p0.length c_p0)), (4, (.pointer (some ⟨g1, 0, none⟩))), (5, (.pointer (some ⟨g5, 0, none⟩))), (36, (.bool t))]) (fun t w1 => (St NoS w w1 [rowR enc_Tile A_p0 c_p0 p0, rowR encInt A_p1_Cells c_p1_Cells p1.Cells] [blk g1 (.cells #[(.int .i64 p1.Width), (.int .i64 p1.Height), (.slice A_p1_Cells p1.Cells.length c_p1_Cells)] 25 (0, 0)), blk g5 (.cells #[(.int .i64 p2.e0), (.int .i64 p2.e1)] 26 (0, 0))] ∧ x3275 = t) ∧ CellsOK [] w1) (fun K => ?_) ?_
  ·
    rcases br_some hx3276 with ⟨h3277, hx3276⟩ | ⟨h3277, hx3276⟩
    ·
      refine WL.setB 28 h3277 rfl ?_
      refine seg 16 [] [0, 4, 5, 36] [(0, (.slice A_p0 p0.length c_p0)), (4, (.pointer (some ⟨g1, 0, none⟩))), (5, (.pointer (some ⟨g5, 0, none⟩))), (36, (.bool true))] [] (fun fb => by kernel_rfl) rfl trivial ?_
      injection hx3276 with hx3276
      exact WL.to K true [0, 4, 5, 36] rfl ⟨⟨(hS3263.subR [0, 1]).sub [1, 0] (by decide), hx3276.symm⟩, trivial⟩
    refine WL.setB 28 h3277 rfl ?_
    refine segF 12 [.v (.int .i64 p1.Width), .v (.int .i64 p1.Height), .v (.slice A_p1_Cells p1.Cells.length c_p1_Cells), .v (.int .i64 p1.Width), .v (.int .i64 p1.Height), .v (.slice A_p1_Cells p1.Cells.length c_p1_Cells)] [0, 4, 5, 28, 29, 30, 32, 33] [(0, (.slice A_p0 p0.length c_p0)), (4, (.pointer (some ⟨g1, 0, none⟩))), (5, (.pointer (some ⟨g5, 0, none⟩))), (28, (.bool false)), (29, (.slice A_p0 p0.length c_p0)), (30, (.agg #[(.int .i64 p1.Width), (.int .i64 p1.Height), (.slice A_p1_Cells p1.Cells.length c_p1_Cells)])), (32, (.slice A_p0 p0.length c_p0)), (33, (.agg #[(.int .i64 p1.Width), (.int .i64 p1.Height), (.slice A_p1_Cells p1.Cells.length c_p1_Cells)]))] [] [6, 7, 8, 9, 10, 11] [(9, ⟨g1, 0, none⟩, (.int .i64 p1.Width)), (9, ⟨g1, 1, none⟩, (.int .i64 p1.Height)), (9, ⟨g1, 2, none⟩, (.slice A_p1_Cells p1.Cells.length c_p1_Cells)), (12, ⟨g1, 0, none⟩, (.int .i64 p1.Width)), (12, ⟨g1, 1, none⟩, (.int .i64 p1.Height)), (12, ⟨g1, 2, none⟩, (.slice A_p1_Cells p1.Cells.length c_p1_Cells))] (fun fb => by kernel_rfl) rfl trivial rfl ?_
    obtain ⟨t3278, ht3279, hx3276⟩ := bind_some hx3276
    refine WL.call (some 31) 7 #[(.slice A_p0 p0.length c_p0), (.agg #[(.int .i64 p1.Width), (.int .i64 p1.Height), (.slice A_p1_Cells p1.Cells.length c_p1_Cells)])] (fun fb => by kernel_rfl) (tile_Repeats_calls _ p0 p1 A_p0 c_p0 A_p1_Cells c_p1_Cells t3278 _ (hS3263.rd 0) (hS3263.rd 1) ht3279) (fun v w3280 hR3281 => ?_)
    obtain ⟨rfl, hk_⟩ := hR3281
    have hS3282 := hS3263.keepN hk_
    refine ⟨⟨hS3282.cell 1 rfl 0 rfl, hS3282.cell 1 rfl 1 rfl, hS3282.cell 1 rfl 2 rfl, trivial⟩, ?_⟩
    obtain ⟨t3283, ht3284, hx3276⟩ := bind_some hx3276
    refine WL.call (some 34) 6 #[(.slice A_p0 p0.length c_p0), (.agg #[(.int .i64 p1.Width), (.int .i64 p1.Height), (.slice A_p1_Cells p1.Cells.length c_p1_Cells)]), (.bool true)] (fun fb => by kernel_rfl) (top_of_calls _ p0 p1 true A_p0 c_p0 A_p1_Cells c_p1_Cells t3283 _ (hS3282.rd 0) (hS3282.rd 1) ht3284) (fun v w3285 hR3286 => ?_)
    obtain ⟨rfl, hk_⟩ := hR3286
    have hS3287 := hS3282.keepN hk_
    refine ⟨trivial, ?_⟩
    refine seg 16 [] [0, 4, 5, 36] [(0, (.slice A_p0 p0.length c_p0)), (4, (.pointer (some ⟨g1, 0, none⟩))), (5, (.pointer (some ⟨g5, 0, none⟩))), (36, (.bool (t3278 != t3283)))] [] (fun fb => by kernel_rfl) rfl trivial ?_
    injection hx3276 with hx3276
    exact WL.to K (t3278 != t3283) [0, 4, 5, 36] rfl ⟨⟨(hS3287.subR [0, 1]).sub [1, 0] (by decide), hx3276.symm⟩, trivial⟩
  rintro y3288 w3290 ⟨⟨hS3291, hq3289⟩, hF3292⟩
  subst hq3289
  refine WL.done rfl ?_
  refine WX.next ?_
  rcases br_some hf with ⟨h3293, hf⟩ | ⟨h3293, hf⟩
  · refine WC.condT2 (fun fb => by kernel_rfl) h3293 ?_
    refine WC.seq ?_
    refine WC.region ?_
    refine seg 1 [] [6] [(6, (.bool false))] [] (fun fb => by kernel_rfl) rfl trivial ?_
    refine WL.done rfl ?_
    refine WX.next ?_
    refine WC.ret ?_
    injection hf with hf
    subst hf
    exact WX.thenR (WX.ret_ [] (.bool false) [] (fun fb => by kernel_rfl) trivial ⟨_, rfl, rfl, hS3291.keep⟩)
  refine WC.condF2 (fun fb => by kernel_rfl) h3293 ?_
  refine WC.skip ?_
  refine WX.next ?_
  refine WC.seq ?_
  refine WC.seq ?_
  refine WC.region ?_
  refine seg 2 [.v (.int .i64 p1.Width), .v (.int .i64 p1.Height), .v (.slice A_p1_Cells p1.Cells.length c_p1_Cells)] [0, 4, 5, 37, 38] [(0, (.slice A_p0 p0.length c_p0)), (4, (.pointer (some ⟨g1, 0, none⟩))), (5, (.pointer (some ⟨g5, 0, none⟩))), (37, (.slice A_p0 p0.length c_p0)), (38, (.agg #[(.int .i64 p1.Width), (.int .i64 p1.Height), (.slice A_p1_Cells p1.Cells.length c_p1_Cells)]))] [.cell ⟨g1, 0, none⟩ (.int .i64 p1.Width), .cell ⟨g1, 1, none⟩ (.int .i64 p1.Height), .cell ⟨g1, 2, none⟩ (.slice A_p1_Cells p1.Cells.length c_p1_Cells)] (fun fb => by kernel_rfl) rfl ⟨hS3291.cell 0 rfl 0 rfl, hS3291.cell 0 rfl 1 rfl, hS3291.cell 0 rfl 2 rfl, trivial⟩ ?_
  obtain ⟨t3294, ht3295, hf⟩ := bind_some hf
  refine WL.call (some 39) 6 #[(.slice A_p0 p0.length c_p0), (.agg #[(.int .i64 p1.Width), (.int .i64 p1.Height), (.slice A_p1_Cells p1.Cells.length c_p1_Cells)]), (.bool true)] (fun fb => by kernel_rfl) (top_of_calls _ p0 p1 true A_p0 c_p0 A_p1_Cells c_p1_Cells t3294 _ (hS3291.rd 0) (hS3291.rd 1) ht3295) (fun v w3296 hR3297 => ?_)
  obtain ⟨rfl, hk_⟩ := hR3297
  have hS3298 := hS3291.keepN hk_
  refine ⟨trivial, ?_⟩
  refine seg 4 [] [0, 4, 5, 40] [(0, (.slice A_p0 p0.length c_p0)), (4, (.pointer (some ⟨g1, 0, none⟩))), (5, (.pointer (some ⟨g5, 0, none⟩))), (40, (.bool (!t3294)))] [] (fun fb => by kernel_rfl) rfl trivial ?_
  refine WL.done rfl ?_
  refine WX.next ?_
  rcases br_some hf with ⟨h3299, hf⟩ | ⟨h3299, hf⟩
  · refine WC.condT2 (fun fb => by kernel_rfl) h3299 ?_
    refine WC.seq ?_
    refine WC.region ?_
    obtain ⟨t3300, ht3301, hf⟩ := bind_some hf
    refine WL.call (some 41) 4 #[] (fun fb => by kernel_rfl) (top_lives_calls _ t3300 _ ht3301) (fun v w3302 hR3303 => ?_)
    obtain ⟨rfl, hk_⟩ := hR3303
    have hS3304 := hS3298.keepN hk_
    refine ⟨trivial, ?_⟩
    refine seg 2 [] [6] [(6, (.bool t3300))] [] (fun fb => by kernel_rfl) rfl trivial ?_
    refine WL.done rfl ?_
    refine WX.next ?_
    refine WC.ret ?_
    injection hf with hf
    subst hf
    exact WX.thenR (WX.ret_ [] (.bool t3300) [] (fun fb => by kernel_rfl) trivial ⟨_, rfl, rfl, hS3304.keep⟩)
  refine WC.condF2 (fun fb => by kernel_rfl) h3299 ?_
  refine WC.skip ?_
  refine WX.next ?_
  refine WC.seq ?_
  refine WC.regionD ([(1, ⟨g5, 0, none⟩, (.int .i64 p2.e0)), (5, ⟨g5, 1, none⟩, (.int .i64 p2.e1))], [0, 1, 3, 4, 5, 7, 8, 9], [[], [0], [0, 1], [0, 1, 2], [], [4], [0, 1, 2, 4, 5], [0, 1, 2, 4, 5, 6], [0, 1, 2, 3, 4, 5, 6], [0, 1, 2, 3, 4, 5, 6, 7, 8]]) [[0, 1, 4, 5, 2, 3, 6, 7, 8, 9]] (by kernel_rfl) (by kernel_rfl) (NoPanic.seq (NoPanic.body)) ?_
  have hS3317 := hS3298.drew
  revert hS3317
  generalize World.drew w3296 = w3316
  intro hS3317
  refine ⟨⟨hS3317.cell 1 rfl 0 rfl, hS3317.cell 1 rfl 1 rfl, trivial⟩, forallC ?_ (forallN)⟩
  refine segF 4 [.v (.int .i64 p2.e0), .v (.int .i64 p2.e1)] [0, 4, 43, 47] [(0, (.slice A_p0 p0.length c_p0)), (4, (.pointer (some ⟨g1, 0, none⟩))), (43, (.int .i64 p2.e0)), (47, (.int .i64 p2.e1))] [] [0, 1] [(1, ⟨g5, 0, none⟩, (.int .i64 p2.e0)), (5, ⟨g5, 1, none⟩, (.int .i64 p2.e1))] (fun fb => by kernel_rfl) rfl trivial rfl ?_
  obtain ⟨t3318, ht3319, hf⟩ := bind_some hf
  refine WL.call (some 44) 8 #[(.int .i64 p2.e0), (.int .i64 40)] (fun fb => by kernel_rfl) (top_cycle_calls p2.e0 40 t3318 _ ht3319) (fun v w3320 hR3321 => ?_)
  obtain ⟨rfl, hk_⟩ := hR3321
  have hS3322 := hS3317.keepN hk_
  refine ⟨⟨hS3322.cell 1 rfl 1 rfl, trivial⟩, ?_⟩
  refine seg 6 [] [0, 4, 45, 47] [(0, (.slice A_p0 p0.length c_p0)), (4, (.pointer (some ⟨g1, 0, none⟩))), (45, (.int .i64 (w64 (t3318 + 1)))), (47, (.int .i64 p2.e1))] [] (fun fb => by kernel_rfl) rfl trivial ?_
  obtain ⟨t3323, ht3324, hf⟩ := bind_some hf
  refine WL.call (some 48) 8 #[(.int .i64 p2.e1), (.int .i64 40)] (fun fb => by kernel_rfl) (top_cycle_calls p2.e1 40 t3323 _ ht3324) (fun v w3325 hR3326 => ?_)
  obtain ⟨rfl, hk_⟩ := hR3326
  have hS3327 := hS3322.keepN hk_
  refine ⟨trivial, ?_⟩
  refine seg 10 [] [0, 4, 7, 8] [(0, (.slice A_p0 p0.length c_p0)), (4, (.pointer (some ⟨g1, 0, none⟩))), (7, (.int .i64 (w64 (t3318 + 1)))), (8, (.int .i64 (w64 (t3323 + 1))))] [] (fun fb => by kernel_rfl) rfl trivial ?_
  refine WL.done rfl ?_
  refine WX.next ?_
  refine WC.seq ?_
  refine WC.region ?_
  refine seg 3 [.v (.int .i64 p1.Width), .v (.int .i64 p1.Height), .v (.slice A_p1_Cells p1.Cells.length c_p1_Cells)] [0, 7, 8, 51, 52, 53] [(0, (.slice A_p0 p0.length c_p0)), (7, (.int .i64 (w64 (t3318 + 1)))), (8, (.int .i64 (w64 (t3323 + 1)))), (51, (.agg #[(.int .i64 p1.Width), (.int .i64 p1.Height), (.slice A_p1_Cells p1.Cells.length c_p1_Cells)])), (52, (.int .i64 (w64 (t3318 + 1)))), (53, (.int .i64 (w64 (t3323 + 1))))] [.cell ⟨g1, 0, none⟩ (.int .i64 p1.Width), .cell ⟨g1, 1, none⟩ (.int .i64 p1.Height), .cell ⟨g1, 2, none⟩ (.slice A_p1_Cells p1.Cells.length c_p1_Cells)] (fun fb => by kernel_rfl) rfl ⟨hS3327.cell 0 rfl 0 rfl, hS3327.cell 0 rfl 1 rfl, hS3327.cell 0 rfl 2 rfl, trivial⟩ ?_
  obtain ⟨t3328, ht3329, hf⟩ := bind_some hf
  refine WL.call (some 54) 9 #[(.agg #[(.int .i64 p1.Width), (.int .i64 p1.Height), (.slice A_p1_Cells p1.Cells.length c_p1_Cells)]), (.int .i64 (w64 (t3318 + 1))), (.int .i64 (w64 (t3323 + 1)))] (fun fb => by kernel_rfl) (tile_Repeat_calls _ p1 (w64 (t3318 + 1)) (w64 (t3323 + 1)) A_p1_Cells c_p1_Cells t3328 _ (hS3327.rd 1) ht3329) (fun v w3330 hR3331 => ?_)
  obtain ⟨A3333, c3334, rfl, hk_⟩ := hR3331
  have hS3332 : St NoS w w3330 [rowR enc_Tile A_p0 c_p0 p0, rowR encInt A_p1_Cells c_p1_Cells p1.Cells] [rowO 3 encInt A3333 c3334 t3328.1.Cells, blk g1 (.cells #[(.int .i64 p1.Width), (.int .i64 p1.Height), (.slice A_p1_Cells p1.Cells.length c_p1_Cells)] 25 (0, 0)), blk g5 (.cells #[(.int .i64 p2.e0), (.int .i64 p2.e1)] 26 (0, 0))] := hS3327.call hk_ [] [0, 1] (fun g hg => hg.elim) (by simp) (by decide)
  refine ⟨trivial, ?_⟩
  refine seg 7 [] [0, 7, 8, 55, 56] [(0, (.slice A_p0 p0.length c_p0)), (7, (.int .i64 (w64 (t3318 + 1)))), (8, (.int .i64 (w64 (t3323 + 1)))), (55, (.agg #[(.int .i64 t3328.1.Width), (.int .i64 t3328.1.Height), (.slice A3333 t3328.1.Cells.length c3334)])), (56, (.int .i64 t3328.2))] [] (fun fb => by kernel_rfl) rfl trivial ?_
  refine WL.new hS3332 9 [] (fun g => (.pointer (some ⟨g, 0, none⟩))) (.cells #[(.int .i64 0), (.int .i64 0), (.slice none 0 0)] 25 (0, 0)) [] (fun fb g => by kernel_rfl) trivial (fun g3335 w3336 hS3337 => ?_)
  refine ⟨trivial, ?_⟩
  refine WL.store hS3337 0 rfl [(0, (.int .i64 t3328.1.Width)), (1, (.int .i64 t3328.1.Height)), (2, (.slice A3333 t3328.1.Cells.length c3334))] #[(.int .i64 t3328.1.Width), (.int .i64 t3328.1.Height), (.slice A3333 t3328.1.Cells.length c3334)] (fun fb => by kernel_rfl) (by kernel_rfl) rfl [1, 2, 3] (by decide) (by decide) (fun w3339 hS3340 => ?_)
  refine ⟨trivial, ?_⟩
  refine seg 10 [] [0, 7, 8, 9, 10] [(0, (.slice A_p0 p0.length c_p0)), (7, (.int .i64 (w64 (t3318 + 1)))), (8, (.int .i64 (w64 (t3323 + 1)))), (9, (.pointer (some ⟨g3335, 0, none⟩))), (10, (.int .i64 t3328.2))] [] (fun fb => by kernel_rfl) rfl trivial ?_
  refine WL.done rfl ?_
  refine WX.next ?_
  refine WC.seq ?_
  refine WC.region ?_
  refine seg 3 [] [0, 7, 8, 9, 59] [(0, (.slice A_p0 p0.length c_p0)), (7, (.int .i64 (w64 (t3318 + 1)))), (8, (.int .i64 (w64 (t3323 + 1)))), (9, (.pointer (some ⟨g3335, 0, none⟩))), (59, (.bool (t3328.2 == 0)))] [] (fun fb => by kernel_rfl) rfl trivial ?_
  refine WL.cutV (T := Bool) 8 (fun t => [(64, (.bool t)), (0, (.slice A_p0 p0.length c_p0)), (8, (.int .i64 (w64 (t3323 + 1)))), (9, (.pointer (some ⟨g3335, 0, none⟩)))]) (fun t => t = ((t3328.2 == 0) && (t3328.1.Width == (w64 (t3318 + 1))))) (fun K => ?_) ?_
  ·
    rcases Bool.eq_false_or_eq_true (t3328.2 == 0) with h3341 | h3341
    ·
      refine WL.setB 59 h3341 rfl ?_
      refine seg 8 [.v (.int .i64 t3328.1.Width)] [0, 8, 9, 64] [(0, (.slice A_p0 p0.length c_p0)), (8, (.int .i64 (w64 (t3323 + 1)))), (9, (.pointer (some ⟨g3335, 0, none⟩))), (64, (.bool (t3328.1.Width == (w64 (t3318 + 1)))))] [.cell ⟨g3335, 0, none⟩ (.int .i64 t3328.1.Width)] (fun fb => by kernel_rfl) rfl ⟨hS3340.cell 0 rfl 0 rfl, trivial⟩ ?_
      exact WL.toV K (t3328.1.Width == (w64 (t3318 + 1))) [64, 0, 8, 9] rfl (by rw [h3341]; rfl)
    refine WL.setB 59 h3341 rfl ?_
    refine seg 8 [] [0, 8, 9, 64] [(0, (.slice A_p0 p0.length c_p0)), (8, (.int .i64 (w64 (t3323 + 1)))), (9, (.pointer (some ⟨g3335, 0, none⟩))), (64, (.bool false))] [] (fun fb => by kernel_rfl) rfl trivial ?_
    exact WL.toV K false [64, 0, 8, 9] rfl (by rw [h3341]; rfl)
  rintro b3342 rfl
  refine seg 9 [] [0, 8, 9, 65] [(0, (.slice A_p0 p0.length c_p0)), (8, (.int .i64 (w64 (t3323 + 1)))), (9, (.pointer (some ⟨g3335, 0, none⟩))), (65, (.bool ((t3328.2 == 0) && (t3328.1.Width == (w64 (t3318 + 1))))))] [] (fun fb => by kernel_rfl) rfl trivial ?_
  refine WL.cutV (T := Bool) 14 (fun t => [(70, (.bool t)), (0, (.slice A_p0 p0.length c_p0)), (9, (.pointer (some ⟨g3335, 0, none⟩)))]) (fun t => t = (((t3328.2 == 0) && (t3328.1.Width == (w64 (t3318 + 1)))) && (t3328.1.Height == (w64 (t3323 + 1))))) (fun K => ?_) ?_
  ·
    rcases Bool.eq_false_or_eq_true ((t3328.2 == 0) && (t3328.1.Width == (w64 (t3318 + 1)))) with h3343 | h3343
    ·
      refine WL.setB 65 h3343 rfl ?_
      refine seg 14 [.v (.int .i64 t3328.1.Height)] [0, 9, 70] [(0, (.slice A_p0 p0.length c_p0)), (9, (.pointer (some ⟨g3335, 0, none⟩))), (70, (.bool (t3328.1.Height == (w64 (t3323 + 1)))))] [.cell ⟨g3335, 1, none⟩ (.int .i64 t3328.1.Height)] (fun fb => by kernel_rfl) rfl ⟨hS3340.cell 0 rfl 1 rfl, trivial⟩ ?_
      exact WL.toV K (t3328.1.Height == (w64 (t3323 + 1))) [70, 0, 9] rfl (by rw [h3343]; rfl)
    refine WL.setB 65 h3343 rfl ?_
    refine seg 14 [] [0, 9, 70] [(0, (.slice A_p0 p0.length c_p0)), (9, (.pointer (some ⟨g3335, 0, none⟩))), (70, (.bool false))] [] (fun fb => by kernel_rfl) rfl trivial ?_
    exact WL.toV K false [70, 0, 9] rfl (by rw [h3343]; rfl)
  rintro b3344 rfl
  refine seg 15 [] [0, 9, 71] [(0, (.slice A_p0 p0.length c_p0)), (9, (.pointer (some ⟨g3335, 0, none⟩))), (71, (.bool (((t3328.2 == 0) && (t3328.1.Width == (w64 (t3318 + 1)))) && (t3328.1.Height == (w64 (t3323 + 1))))))] [] (fun fb => by kernel_rfl) rfl trivial ?_
  obtain ⟨x3351, hx3352, hf⟩ := bind_some hf
  refine WL.cutW (T := Bool) 19 (fun t => [(75, (.bool t))]) (fun t w1 => (St NoS w w1 [rowR enc_Tile A_p0 c_p0 p0, rowR encInt A_p1_Cells c_p1_Cells p1.Cells] [] ∧ x3351 = t) ∧ CellsOK [] w1) (fun K => ?_) ?_
  ·
    rcases br_some hx3352 with ⟨h3353, hx3352⟩ | ⟨h3353, hx3352⟩
    ·
      refine WL.setB 71 h3353 rfl ?_
      refine seg 17 [.v (.int .i64 t3328.1.Width), .v (.int .i64 t3328.1.Height), .v (.slice A3333 t3328.1.Cells.length c3334)] [71, 72, 73] [(71, (.bool true)), (72, (.slice A_p0 p0.length c_p0)), (73, (.agg #[(.int .i64 t3328.1.Width), (.int .i64 t3328.1.Height), (.slice A3333 t3328.1.Cells.length c3334)]))] [.cell ⟨g3335, 0, none⟩ (.int .i64 t3328.1.Width), .cell ⟨g3335, 1, none⟩ (.int .i64 t3328.1.Height), .cell ⟨g3335, 2, none⟩ (.slice A3333 t3328.1.Cells.length c3334)] (fun fb => by kernel_rfl) rfl ⟨hS3340.cell 0 rfl 0 rfl, hS3340.cell 0 rfl 1 rfl, hS3340.cell 0 rfl 2 rfl, trivial⟩ ?_
      obtain ⟨t3354, ht3355, hx3352⟩ := bind_some hx3352
      refine WL.call (some 74) 6 #[(.slice A_p0 p0.length c_p0), (.agg #[(.int .i64 t3328.1.Width), (.int .i64 t3328.1.Height), (.slice A3333 t3328.1.Cells.length c3334)]), (.bool false)] (fun fb => by kernel_rfl) (top_of_calls _ p0 t3328.1 false A_p0 c_p0 A3333 c3334 t3354 _ (hS3340.rd 0) (hS3340.ow 1).ofO ht3355) (fun v w3356 hR3357 => ?_)
      obtain ⟨rfl, hk_⟩ := hR3357
      have hS3358 := hS3340.keepN hk_
      refine ⟨trivial, ?_⟩
      refine seg 19 [] [75] [(75, (.bool t3354))] [] (fun fb => by kernel_rfl) rfl trivial ?_
      injection hx3352 with hx3352
      exact WL.to K t3354 [75] rfl ⟨⟨(hS3358.subR [0, 1]).sub [] (by decide), hx3352.symm⟩, trivial⟩
    refine WL.setB 71 h3353 rfl ?_
    refine seg 19 [] [75] [(75, (.bool false))] [] (fun fb => by kernel_rfl) rfl trivial ?_
    injection hx3352 with hx3352
    exact WL.to K false [75] rfl ⟨⟨(hS3340.subR [0, 1]).sub [] (by decide), hx3352.symm⟩, trivial⟩
  rintro y3359 w3361 ⟨⟨hS3362, hq3360⟩, hF3363⟩
  subst hq3360
  refine seg 20 [] [76] [(76, (.bool x3351))] [] (fun fb => by kernel_rfl) rfl trivial ?_
  obtain ⟨x3370, hx3371, hf⟩ := bind_some hf
  refine WL.cutW (T := Bool) 22 (fun t => [(78, (.bool t))]) (fun t w1 => (St NoS w w1 [rowR enc_Tile A_p0 c_p0 p0, rowR encInt A_p1_Cells c_p1_Cells p1.Cells] [] ∧ x3370 = t) ∧ CellsOK [] w1) (fun K => ?_) ?_
  ·
    rcases br_some hx3371 with ⟨h3372, hx3371⟩ | ⟨h3372, hx3371⟩
    ·
      refine WL.setB 76 h3372 rfl ?_
      obtain ⟨t3373, ht3374, hx3371⟩ := bind_some hx3371
      refine WL.call (some 77) 4 #[] (fun fb => by kernel_rfl) (top_lives_calls _ t3373 _ ht3374) (fun v w3375 hR3376 => ?_)
      obtain ⟨rfl, hk_⟩ := hR3376
      have hS3377 := hS3362.keepN hk_
      refine ⟨trivial, ?_⟩
      refine seg 22 [] [78] [(78, (.bool t3373))] [] (fun fb => by kernel_rfl) rfl trivial ?_
      injection hx3371 with hx3371
      exact WL.to K t3373 [78] rfl ⟨⟨(hS3377.subR [0, 1]).sub [] (by decide), hx3371.symm⟩, trivial⟩
    refine WL.setB 76 h3372 rfl ?_
    refine seg 22 [] [78] [(78, (.bool false))] [] (fun fb => by kernel_rfl) rfl trivial ?_
    injection hx3371 with hx3371
    exact WL.to K false [78] rfl ⟨⟨(hS3362.subR [0, 1]).sub [] (by decide), hx3371.symm⟩, trivial⟩
  rintro y3378 w3380 ⟨⟨hS3381, hq3379⟩, hF3382⟩
  subst hq3379
  refine seg 23 [] [6] [(6, (.bool x3370))] [] (fun fb => by kernel_rfl) rfl trivial ?_
  refine WL.done rfl ?_
  refine WX.next ?_
  refine WC.ret ?_
  injection hf with hf
  subst hf
  exact WX.ret_ [] (.bool x3370) [] (fun fb => by kernel_rfl) trivial ⟨_, rfl, rfl, hS3381.keep⟩
end Gp
