/- Walks: each function of the program computes its plain function. -/
import Derived.Test.YtamnfcbekogkdaaGx0
set_option linter.unusedVariables false
set_option linter.unusedSimpArgs false
namespace Gp
open Go Gw Go.Proofs
theorem machine_kit_row_calls (k : Nat) (p0 : Kit) (p1 : Runner) (g_p0 : Nat) (A_p0_m_Actions : Option Addr) (c_p0_m_Actions : Nat) (A_p0_set : Option Addr) (c_p0_set : Nat) (A_p0_does : Option Addr) (c_p0_does : Nat) (g_p1 : Nat) (A_p1_m_Actions : Option Addr) (c_p1_m_Actions : Nat) (A_p1_Config_Cells : Option Addr) (c_p1_Config_Cells : Nat) (r : (List Int)) (w : World) (hR0 : RO NoS w (blk g_p0 (.cells #[(.int .i64 p0.m.States), (.int .i64 p0.m.Symbols), (.slice A_p0_m_Actions p0.m.Actions.length c_p0_m_Actions), (.slice A_p0_set p0.set.length c_p0_set), (.slice A_p0_does p0.does.length c_p0_does), (.int .i64 p0.base)] 96 (0, 0)))) (hR1 : RO NoS w (rowR enc_Action A_p0_m_Actions c_p0_m_Actions p0.m.Actions)) (hR2 : RO NoS w (rowR enc_Tile A_p0_set c_p0_set p0.set)) (hR3 : RO NoS w (rowR encInt A_p0_does c_p0_does p0.does)) (hR4 : RO NoS w (blk g_p1 (.cells #[(.int .i64 p1.m.States), (.int .i64 p1.m.Symbols), (.slice A_p1_m_Actions p1.m.Actions.length c_p1_m_Actions), (.int .i64 p1.Config.State), (.int .i64 p1.Config.At), (.slice A_p1_Config_Cells p1.Config.Cells.length c_p1_Config_Cells)] 82 (0, 0)))) (hR5 : RO NoS w (rowR enc_Action A_p1_m_Actions c_p1_m_Actions p1.m.Actions)) (hR6 : RO NoS w (rowR encInt A_p1_Config_Cells c_p1_Config_Cells p1.Config.Cells)) (hf : machine_kit_row k p0 p1 = some r) :
    CallsR Try.prog 44 #[(.pointer (some ⟨g_p0, 0, none⟩)), (.pointer (some ⟨g_p1, 0, none⟩))] w (fun v w' => ∃ (A1_ : Option Addr), ∃ (c1_ : Nat), v = (.slice A1_ r.length c1_) ∧ St NoS w w' [] [rowO 3 encInt A1_ c1_ r]) := by
  have hS : St NoS w w [blk g_p0 (.cells #[(.int .i64 p0.m.States), (.int .i64 p0.m.Symbols), (.slice A_p0_m_Actions p0.m.Actions.length c_p0_m_Actions), (.slice A_p0_set p0.set.length c_p0_set), (.slice A_p0_does p0.does.length c_p0_does), (.int .i64 p0.base)] 96 (0, 0)), rowR enc_Action A_p0_m_Actions c_p0_m_Actions p0.m.Actions, rowR enc_Tile A_p0_set c_p0_set p0.set, rowR encInt A_p0_does c_p0_does p0.does, blk g_p1 (.cells #[(.int .i64 p1.m.States), (.int .i64 p1.m.Symbols), (.slice A_p1_m_Actions p1.m.Actions.length c_p1_m_Actions), (.int .i64 p1.Config.State), (.int .i64 p1.Config.At), (.slice A_p1_Config_Cells p1.Config.Cells.length c_p1_Config_Cells)] 82 (0, 0)), rowR enc_Action A_p1_m_Actions c_p1_m_Actions p1.m.Actions, rowR encInt A_p1_Config_Cells c_p1_Config_Cells p1.Config.Cells] [] := St.init (ro_cons hR0 (ro_cons hR1 (ro_cons hR2 (ro_cons hR3 (ro_cons hR4 (ro_cons hR5 (ro_cons hR6 (ro_nil _ _))))))))
  refine enter 87 Try.func44 rfl Try.ntmps44 rfl ?_
  unfold machine_kit_row at hf
  refine WC.seq ?_
  refine WC.region ?_
  refine seg 1 [] [0, 1] [(0, (.pointer (some ⟨g_p0, 0, none⟩))), (1, (.pointer (some ⟨g_p1, 0, none⟩)))] [] (fun fb => by kernel_rfl) rfl trivial ?_
  refine WL.done rfl ?_
  refine WX.next ?_
  refine WC.seq ?_
  refine WC.region ?_
  refine seg 1 [] [0, 1, 5] [(0, (.pointer (some ⟨g_p0, 0, none⟩))), (1, (.pointer (some ⟨g_p1, 0, none⟩))), (5, (.slice none 0 0))] [] (fun fb => by kernel_rfl) rfl trivial ?_
  refine WL.done rfl ?_
  refine WX.next ?_
  refine WC.seq ?_
  obtain ⟨x2226, hx2227, hf⟩ := bind_some hf
  refine WC.cutN (T := (Int × Int × Int) × Nat) (fun t => [(0, (.pointer (some ⟨g_p0, 0, none⟩))), (1, (.pointer (some ⟨g_p1, 0, none⟩))), (5, (.slice none 0 0)), (6, (.pointer (some ⟨t.2, 0, none⟩)))]) (fun t w1 => St NoS w w1 [blk g_p0 (.cells #[(.int .i64 p0.m.States), (.int .i64 p0.m.Symbols), (.slice A_p0_m_Actions p0.m.Actions.length c_p0_m_Actions), (.slice A_p0_set p0.set.length c_p0_set), (.slice A_p0_does p0.does.length c_p0_does), (.int .i64 p0.base)] 96 (0, 0)), rowR enc_Action A_p0_m_Actions c_p0_m_Actions p0.m.Actions, rowR enc_Tile A_p0_set c_p0_set p0.set, rowR encInt A_p0_does c_p0_does p0.does, blk g_p1 (.cells #[(.int .i64 p1.m.States), (.int .i64 p1.m.Symbols), (.slice A_p1_m_Actions p1.m.Actions.length c_p1_m_Actions), (.int .i64 p1.Config.State), (.int .i64 p1.Config.At), (.slice A_p1_Config_Cells p1.Config.Cells.length c_p1_Config_Cells)] 82 (0, 0)), rowR enc_Action A_p1_m_Actions c_p1_m_Actions p1.m.Actions, rowR encInt A_p1_Config_Cells c_p1_Config_Cells p1.Config.Cells] [blk t.2 (.cells #[(.int .i64 t.1.1), (.int .i64 t.1.2.1), (.int .i64 t.1.2.2)] 88 (0, 0))] ∧ x2226 = t.1) (fun Kx2226 => ?_) ?_
  ·
    refine WC.regionD ([(4, ⟨g_p1, 2, none⟩, (.slice A_p1_m_Actions p1.m.Actions.length c_p1_m_Actions))], [0, 1, 2, 3, 4, 5, 7], [[], [0], [0, 1], [0, 1, 2], [0, 1, 2, 3], [], [5], [0, 1, 2, 3, 4, 5, 6], [0, 1, 2, 3, 4, 5, 6, 7], [], [0, 1, 2, 3, 4, 5, 6, 7, 8, 9]]) [[0, 1, 2, 3, 4, 5, 6, 7, 8, 9, 10], [0, 1, 2, 3, 4, 5, 6, 7, 9, 8, 10], [0, 1, 2, 3, 4, 5, 9, 6, 7, 8, 10]] (by kernel_rfl) (by kernel_rfl) (NoPanic.seq (NoPanic.body)) ?_
    have hS2229 := hS.drew
    revert hS2229
    generalize World.drew w = w2228
    intro hS2229
    refine ⟨⟨blk_cell (hS2229.rd 4).1 2 rfl, trivial⟩, forallC ?_ (forallC ?_ (forallC ?_ (forallN)))⟩
    ·
      refine segF 6 [.v (.slice A_p1_m_Actions p1.m.Actions.length c_p1_m_Actions)] [0, 1, 5, 15, 16] [(0, (.pointer (some ⟨g_p0, 0, none⟩))), (1, (.pointer (some ⟨g_p1, 0, none⟩))), (5, (.slice none 0 0)), (15, (.slice A_p1_m_Actions p1.m.Actions.length c_p1_m_Actions)), (16, (.pointer (some ⟨g_p1, 0, none⟩)))] [] [0] [(4, ⟨g_p1, 2, none⟩, (.slice A_p1_m_Actions p1.m.Actions.length c_p1_m_Actions))] (fun fb => by kernel_rfl) rfl trivial rfl ?_
      obtain ⟨t2230, ht2231, hx2227⟩ := bind_some hx2227
      refine WL.call (some 17) 63 #[(.pointer (some ⟨g_p1, 0, none⟩))] (fun fb => by kernel_rfl) (machine_runner_does_calls p1 g_p1 A_p1_m_Actions c_p1_m_Actions A_p1_Config_Cells c_p1_Config_Cells t2230 _ (hS2229.rd 4) (hS2229.rd 5) (hS2229.rd 6) ht2231) (fun v w2232 hR2233 => ?_)
      obtain ⟨rfl, hk_⟩ := hR2233
      have hS2234 := hS2229.keepN hk_
      refine ⟨⟨blk_cell (hS2234.rd 4).1 2 rfl, trivial⟩, ?_⟩
      obtain ⟨h2235, hx2227⟩ := as_some hx2227
      refine seg 9 [.v (.int .i64 ((rdD p1.m.Actions t2230 z_Action).Write)), .v (.int .i64 ((rdD p1.m.Actions t2230 z_Action).Move)), .v (.int .i64 ((rdD p1.m.Actions t2230 z_Action).Next))] [0, 1, 5, 19] [(0, (.pointer (some ⟨g_p0, 0, none⟩))), (1, (.pointer (some ⟨g_p1, 0, none⟩))), (5, (.slice none 0 0)), (19, (.agg #[(.int .i64 ((rdD p1.m.Actions t2230 z_Action).Write)), (.int .i64 ((rdD p1.m.Actions t2230 z_Action).Move)), (.int .i64 ((rdD p1.m.Actions t2230 z_Action).Next))]))] [.idx A_p1_m_Actions t2230 p1.m.Actions.length, .cell ((adr A_p1_m_Actions).add ((t2230).toNat * 3)) (.int .i64 ((rdD p1.m.Actions t2230 z_Action).Write)), .cell (((adr A_p1_m_Actions).add ((t2230).toNat * 3)).add 1) (.int .i64 ((rdD p1.m.Actions t2230 z_Action).Move)), .cell (((adr A_p1_m_Actions).add ((t2230).toNat * 3)).add 2) (.int .i64 ((rdD p1.m.Actions t2230 z_Action).Next))] (fun fb => by kernel_rfl) rfl ⟨rowR.adr (hS2234.rd 5).1 h2235.1 h2235.2, rowR.cell (hS2234.rd 5).1 z_Action h2235.1 h2235.2 0 rfl, rowR.cell (hS2234.rd 5).1 z_Action h2235.1 h2235.2 1 rfl, rowR.cell (hS2234.rd 5).1 z_Action h2235.1 h2235.2 2 rfl, trivial⟩ ?_
      refine WL.new hS2234 6 [] (fun g => (.pointer (some ⟨g, 0, none⟩))) (.cells #[(.int .i64 0), (.int .i64 0), (.int .i64 0)] 88 (0, 0)) [] (fun fb g => by kernel_rfl) trivial (fun g2236 w2237 hS2238 => ?_)
      refine ⟨⟨blk_cell (hS2238.rd 4).1 2 rfl, trivial⟩, ?_⟩
      refine WL.store hS2238 0 rfl [(0, (.int .i64 ((rdD p1.m.Actions t2230 z_Action).Write))), (1, (.int .i64 ((rdD p1.m.Actions t2230 z_Action).Move))), (2, (.int .i64 ((rdD p1.m.Actions t2230 z_Action).Next)))] #[(.int .i64 ((rdD p1.m.Actions t2230 z_Action).Write)), (.int .i64 ((rdD p1.m.Actions t2230 z_Action).Move)), (.int .i64 ((rdD p1.m.Actions t2230 z_Action).Next))] (fun fb => by kernel_rfl) (by kernel_rfl) rfl [] (by decide) (by decide) (fun w2240 hS2241 => ?_)
      refine ⟨trivial, ?_⟩
      refine WL.done rfl ?_
      injection hx2227 with hx2227
      exact WX.to Kx2226 (((rdD p1.m.Actions t2230 z_Action).Write, (rdD p1.m.Actions t2230 z_Action).Move, (rdD p1.m.Actions t2230 z_Action).Next), g2236) [0, 1, 5, 6] rfl ⟨(hS2241.subR [0, 1, 2, 3, 4, 5, 6]).sub [0] (by decide), hx2227.symm⟩
    ·
      refine segF 6 [.v (.slice A_p1_m_Actions p1.m.Actions.length c_p1_m_Actions)] [0, 1, 5, 15, 16] [(0, (.pointer (some ⟨g_p0, 0, none⟩))), (1, (.pointer (some ⟨g_p1, 0, none⟩))), (5, (.slice none 0 0)), (15, (.slice A_p1_m_Actions p1.m.Actions.length c_p1_m_Actions)), (16, (.pointer (some ⟨g_p1, 0, none⟩)))] [] [0] [(4, ⟨g_p1, 2, none⟩, (.slice A_p1_m_Actions p1.m.Actions.length c_p1_m_Actions))] (fun fb => by kernel_rfl) rfl trivial rfl ?_
      obtain ⟨t2242, ht2243, hx2227⟩ := bind_some hx2227
      refine WL.call (some 17) 63 #[(.pointer (some ⟨g_p1, 0, none⟩))] (fun fb => by kernel_rfl) (machine_runner_does_calls p1 g_p1 A_p1_m_Actions c_p1_m_Actions A_p1_Config_Cells c_p1_Config_Cells t2242 _ (hS2229.rd 4) (hS2229.rd 5) (hS2229.rd 6) ht2243) (fun v w2244 hR2245 => ?_)
      obtain ⟨rfl, hk_⟩ := hR2245
      have hS2246 := hS2229.keepN hk_
      refine ⟨⟨blk_cell (hS2246.rd 4).1 2 rfl, trivial⟩, ?_⟩
      obtain ⟨h2247, hx2227⟩ := as_some hx2227
      refine seg 8 [] [0, 1, 5, 18] [(0, (.pointer (some ⟨g_p0, 0, none⟩))), (1, (.pointer (some ⟨g_p1, 0, none⟩))), (5, (.slice none 0 0)), (18, (.pointer (some ((adr A_p1_m_Actions).add ((t2242).toNat * 3)))))] [.idx A_p1_m_Actions t2242 p1.m.Actions.length] (fun fb => by kernel_rfl) rfl ⟨rowR.adr (hS2246.rd 5).1 h2247.1 h2247.2, trivial⟩ ?_
      refine WL.new hS2246 6 [] (fun g => (.pointer (some ⟨g, 0, none⟩))) (.cells #[(.int .i64 0), (.int .i64 0), (.int .i64 0)] 88 (0, 0)) [] (fun fb g => by kernel_rfl) trivial (fun g2248 w2249 hS2250 => ?_)
      refine ⟨⟨blk_cell (hS2250.rd 4).1 2 rfl, trivial⟩, ?_⟩
      refine seg 10 [.v (.int .i64 ((rdD p1.m.Actions t2242 z_Action).Write)), .v (.int .i64 ((rdD p1.m.Actions t2242 z_Action).Move)), .v (.int .i64 ((rdD p1.m.Actions t2242 z_Action).Next))] [0, 1, 5, 6, 19] [(0, (.pointer (some ⟨g_p0, 0, none⟩))), (1, (.pointer (some ⟨g_p1, 0, none⟩))), (5, (.slice none 0 0)), (6, (.pointer (some ⟨g2248, 0, none⟩))), (19, (.agg #[(.int .i64 ((rdD p1.m.Actions t2242 z_Action).Write)), (.int .i64 ((rdD p1.m.Actions t2242 z_Action).Move)), (.int .i64 ((rdD p1.m.Actions t2242 z_Action).Next))]))] [.cell ((adr A_p1_m_Actions).add ((t2242).toNat * 3)) (.int .i64 ((rdD p1.m.Actions t2242 z_Action).Write)), .cell (((adr A_p1_m_Actions).add ((t2242).toNat * 3)).add 1) (.int .i64 ((rdD p1.m.Actions t2242 z_Action).Move)), .cell (((adr A_p1_m_Actions).add ((t2242).toNat * 3)).add 2) (.int .i64 ((rdD p1.m.Actions t2242 z_Action).Next))] (fun fb => by kernel_rfl) rfl ⟨rowR.cell (hS2250.rd 5).1 z_Action h2247.1 h2247.2 0 rfl, rowR.cell (hS2250.rd 5).1 z_Action h2247.1 h2247.2 1 rfl, rowR.cell (hS2250.rd 5).1 z_Action h2247.1 h2247.2 2 rfl, trivial⟩ ?_
      refine WL.store hS2250 0 rfl [(0, (.int .i64 ((rdD p1.m.Actions t2242 z_Action).Write))), (1, (.int .i64 ((rdD p1.m.Actions t2242 z_Action).Move))), (2, (.int .i64 ((rdD p1.m.Actions t2242 z_Action).Next)))] #[(.int .i64 ((rdD p1.m.Actions t2242 z_Action).Write)), (.int .i64 ((rdD p1.m.Actions t2242 z_Action).Move)), (.int .i64 ((rdD p1.m.Actions t2242 z_Action).Next))] (fun fb => by kernel_rfl) (by kernel_rfl) rfl [] (by decide) (by decide) (fun w2252 hS2253 => ?_)
      refine ⟨trivial, ?_⟩
      refine WL.done rfl ?_
      injection hx2227 with hx2227
      exact WX.to Kx2226 (((rdD p1.m.Actions t2242 z_Action).Write, (rdD p1.m.Actions t2242 z_Action).Move, (rdD p1.m.Actions t2242 z_Action).Next), g2248) [0, 1, 5, 6] rfl ⟨(hS2253.subR [0, 1, 2, 3, 4, 5, 6]).sub [0] (by decide), hx2227.symm⟩
    refine segF 6 [.v (.slice A_p1_m_Actions p1.m.Actions.length c_p1_m_Actions)] [0, 1, 5, 15, 16] [(0, (.pointer (some ⟨g_p0, 0, none⟩))), (1, (.pointer (some ⟨g_p1, 0, none⟩))), (5, (.slice none 0 0)), (15, (.slice A_p1_m_Actions p1.m.Actions.length c_p1_m_Actions)), (16, (.pointer (some ⟨g_p1, 0, none⟩)))] [] [0] [(4, ⟨g_p1, 2, none⟩, (.slice A_p1_m_Actions p1.m.Actions.length c_p1_m_Actions))] (fun fb => by kernel_rfl) rfl trivial rfl ?_
    refine WL.new hS2229 6 [] (fun g => (.pointer (some ⟨g, 0, none⟩))) (.cells #[(.int .i64 0), (.int .i64 0), (.int .i64 0)] 88 (0, 0)) [] (fun fb g => by kernel_rfl) trivial (fun g2254 w2255 hS2256 => ?_)
    refine ⟨⟨blk_cell (hS2256.rd 4).1 2 rfl, trivial⟩, ?_⟩
    obtain ⟨t2258, ht2259, hx2227⟩ := bind_some hx2227
    refine WL.call (some 17) 63 #[(.pointer (some ⟨g_p1, 0, none⟩))] (fun fb => by kernel_rfl) (machine_runner_does_calls p1 g_p1 A_p1_m_Actions c_p1_m_Actions A_p1_Config_Cells c_p1_Config_Cells t2258 _ (hS2256.rd 4) (hS2256.rd 5) (hS2256.rd 6) ht2259) (fun v w2260 hR2261 => ?_)
    obtain ⟨rfl, hk_⟩ := hR2261
    have hS2262 := hS2256.keepN hk_
    refine ⟨⟨blk_cell (hS2262.rd 4).1 2 rfl, trivial⟩, ?_⟩
    obtain ⟨h2263, hx2227⟩ := as_some hx2227
    refine seg 10 [.v (.int .i64 ((rdD p1.m.Actions t2258 z_Action).Write)), .v (.int .i64 ((rdD p1.m.Actions t2258 z_Action).Move)), .v (.int .i64 ((rdD p1.m.Actions t2258 z_Action).Next))] [0, 1, 5, 6, 19] [(0, (.pointer (some ⟨g_p0, 0, none⟩))), (1, (.pointer (some ⟨g_p1, 0, none⟩))), (5, (.slice none 0 0)), (6, (.pointer (some ⟨g2254, 0, none⟩))), (19, (.agg #[(.int .i64 ((rdD p1.m.Actions t2258 z_Action).Write)), (.int .i64 ((rdD p1.m.Actions t2258 z_Action).Move)), (.int .i64 ((rdD p1.m.Actions t2258 z_Action).Next))]))] [.idx A_p1_m_Actions t2258 p1.m.Actions.length, .cell ((adr A_p1_m_Actions).add ((t2258).toNat * 3)) (.int .i64 ((rdD p1.m.Actions t2258 z_Action).Write)), .cell (((adr A_p1_m_Actions).add ((t2258).toNat * 3)).add 1) (.int .i64 ((rdD p1.m.Actions t2258 z_Action).Move)), .cell (((adr A_p1_m_Actions).add ((t2258).toNat * 3)).add 2) (.int .i64 ((rdD p1.m.Actions t2258 z_Action).Next))] (fun fb => by kernel_rfl) rfl ⟨rowR.adr (hS2262.rd 5).1 h2263.1 h2263.2, rowR.cell (hS2262.rd 5).1 z_Action h2263.1 h2263.2 0 rfl, rowR.cell (hS2262.rd 5).1 z_Action h2263.1 h2263.2 1 rfl, rowR.cell (hS2262.rd 5).1 z_Action h2263.1 h2263.2 2 rfl, trivial⟩ ?_
    refine WL.store hS2262 0 rfl [(0, (.int .i64 ((rdD p1.m.Actions t2258 z_Action).Write))), (1, (.int .i64 ((rdD p1.m.Actions t2258 z_Action).Move))), (2, (.int .i64 ((rdD p1.m.Actions t2258 z_Action).Next)))] #[(.int .i64 ((rdD p1.m.Actions t2258 z_Action).Write)), (.int .i64 ((rdD p1.m.Actions t2258 z_Action).Move)), (.int .i64 ((rdD p1.m.Actions t2258 z_Action).Next))] (fun fb => by kernel_rfl) (by kernel_rfl) rfl [] (by decide) (by decide) (fun w2264 hS2265 => ?_)
    refine ⟨trivial, ?_⟩
    refine WL.done rfl ?_
    injection hx2227 with hx2227
    exact WX.to Kx2226 (((rdD p1.m.Actions t2258 z_Action).Write, (rdD p1.m.Actions t2258 z_Action).Move, (rdD p1.m.Actions t2258 z_Action).Next), g2254) [0, 1, 5, 6] rfl ⟨(hS2265.subR [0, 1, 2, 3, 4, 5, 6]).sub [0] (by decide), hx2227.symm⟩
  rintro ⟨y2269, g2222⟩ w2266 ⟨hS2267, hq2268⟩
  subst hq2268
  refine WX.next ?_
  refine WC.seq ?_
  refine WC.regionD ([(4, ⟨g_p1, 4, none⟩, (.int .i64 p1.Config.At)), (6, ⟨g2222, 1, none⟩, (.int .i64 x2226.2.1))], [0, 1, 2, 3, 4, 5, 6, 7, 8, 9, 10], [[], [0], [0, 1], [0, 1, 2], [0, 1, 2, 3], [], [5], [5, 6], [0, 1, 2, 3, 4, 5, 6, 7], [0, 1, 2, 3, 4, 5, 6, 7, 8], [0, 1, 2, 3, 4, 5, 6, 7, 8, 9]]) [[0, 1, 2, 3, 4, 5, 6, 7, 8, 9, 10]] (by kernel_rfl) (by kernel_rfl) (NoPanic.seq (NoPanic.body)) ?_
  have hS2271 := hS2267.drew
  revert hS2271
  generalize World.drew w2266 = w2270
  intro hS2271
  refine ⟨⟨blk_cell (hS2271.rd 4).1 4 rfl, hS2271.cell 0 rfl 1 rfl, trivial⟩, forallC ?_ (forallN)⟩
  refine segF 11 [.v (.int .i64 p1.Config.At), .v (.int .i64 x2226.2.1)] [0, 1, 5, 6, 7] [(0, (.pointer (some ⟨g_p0, 0, none⟩))), (1, (.pointer (some ⟨g_p1, 0, none⟩))), (5, (.slice none 0 0)), (6, (.pointer (some ⟨g2222, 0, none⟩))), (7, (.int .i64 (w64 ((w64 (p1.Config.At + (w64 (2 * x2226.2.1)))) - 1))))] [] [0, 1] [(4, ⟨g_p1, 4, none⟩, (.int .i64 p1.Config.At)), (6, ⟨g2222, 1, none⟩, (.int .i64 x2226.2.1))] (fun fb => by kernel_rfl) rfl trivial rfl ?_
  refine WL.done rfl ?_
  refine WX.next ?_
  refine WC.seq ?_
  refine WC.seq ?_
  refine WC.region ?_
  refine seg 7 [.v (.slice A_p1_Config_Cells p1.Config.Cells.length c_p1_Config_Cells)] [0, 1, 5, 6, 7, 34, 35, 36] [(0, (.pointer (some ⟨g_p0, 0, none⟩))), (1, (.pointer (some ⟨g_p1, 0, none⟩))), (5, (.slice none 0 0)), (6, (.pointer (some ⟨g2222, 0, none⟩))), (7, (.int .i64 (w64 ((w64 (p1.Config.At + (w64 (2 * x2226.2.1)))) - 1)))), (34, (.slice A_p1_Config_Cells p1.Config.Cells.length c_p1_Config_Cells)), (35, (.int .i64 (p1.Config.Cells.length : Int))), (36, (.int .i64 0))] [.cell ⟨g_p1, 5, none⟩ (.slice A_p1_Config_Cells p1.Config.Cells.length c_p1_Config_Cells)] (fun fb => by kernel_rfl) rfl ⟨blk_cell (hS2271.rd 4).1 5 rfl, trivial⟩ ?_
  refine WL.done rfl ?_
  refine WX.next ?_
  have hS2428 := hS2271.nilrow 3 encInt
  obtain ⟨x2436, hx2437, hf⟩ := bind_some hf
  refine WC.cutN (T := (List Int) × (Option Addr) × Nat) (fun t => [(5, (.slice t.2.1 t.1.length t.2.2))]) (fun t w1 => St NoS w w1 [blk g_p0 (.cells #[(.int .i64 p0.m.States), (.int .i64 p0.m.Symbols), (.slice A_p0_m_Actions p0.m.Actions.length c_p0_m_Actions), (.slice A_p0_set p0.set.length c_p0_set), (.slice A_p0_does p0.does.length c_p0_does), (.int .i64 p0.base)] 96 (0, 0)), rowR enc_Action A_p0_m_Actions c_p0_m_Actions p0.m.Actions, rowR enc_Tile A_p0_set c_p0_set p0.set, rowR encInt A_p0_does c_p0_does p0.does, blk g_p1 (.cells #[(.int .i64 p1.m.States), (.int .i64 p1.m.Symbols), (.slice A_p1_m_Actions p1.m.Actions.length c_p1_m_Actions), (.int .i64 p1.Config.State), (.int .i64 p1.Config.At), (.slice A_p1_Config_Cells p1.Config.Cells.length c_p1_Config_Cells)] 82 (0, 0)), rowR enc_Action A_p1_m_Actions c_p1_m_Actions p1.m.Actions, rowR encInt A_p1_Config_Cells c_p1_Config_Cells p1.Config.Cells] [rowO 3 encInt t.2.1 t.2.2 t.1] ∧ x2436 = t.1) (fun Kx2436 => ?_) ?_
  ·
    refine WC.block ?_
    refine WC.loop (T := ((List Int) × Int) × (Option Addr) × Nat) (fun t => [(0, (.pointer (some ⟨g_p0, 0, none⟩))), (1, (.pointer (some ⟨g_p1, 0, none⟩))), (5, (.slice t.2.1 t.1.1.length t.2.2)), (6, (.pointer (some ⟨g2222, 0, none⟩))), (7, (.int .i64 (w64 ((w64 (p1.Config.At + (w64 (2 * x2226.2.1)))) - 1)))), (34, (.slice A_p1_Config_Cells p1.Config.Cells.length c_p1_Config_Cells)), (35, (.int .i64 (p1.Config.Cells.length : Int))), (36, (.int .i64 t.1.2))]) (fun n t w1 => St NoS w w1 [blk g_p0 (.cells #[(.int .i64 p0.m.States), (.int .i64 p0.m.Symbols), (.slice A_p0_m_Actions p0.m.Actions.length c_p0_m_Actions), (.slice A_p0_set p0.set.length c_p0_set), (.slice A_p0_does p0.does.length c_p0_does), (.int .i64 p0.base)] 96 (0, 0)), rowR enc_Action A_p0_m_Actions c_p0_m_Actions p0.m.Actions, rowR enc_Tile A_p0_set c_p0_set p0.set, rowR encInt A_p0_does c_p0_does p0.does, blk g_p1 (.cells #[(.int .i64 p1.m.States), (.int .i64 p1.m.Symbols), (.slice A_p1_m_Actions p1.m.Actions.length c_p1_m_Actions), (.int .i64 p1.Config.State), (.int .i64 p1.Config.At), (.slice A_p1_Config_Cells p1.Config.Cells.length c_p1_Config_Cells)] 82 (0, 0)), rowR enc_Action A_p1_m_Actions c_p1_m_Actions p1.m.Actions, rowR encInt A_p1_Config_Cells c_p1_Config_Cells p1.Config.Cells] [rowO 3 encInt t.2.1 t.2.2 t.1.1, blk g2222 (.cells #[(.int .i64 x2226.1), (.int .i64 x2226.2.1), (.int .i64 x2226.2.2)] 88 (0, 0))] ∧ machine_kit_row.l0 n t.1.1 t.1.2 p0 p1 x2226 = some x2436) k ((([] : List Int), 0), none, 0) [0, 1, 5, 6, 7, 34, 35, 36] rfl ⟨(hS2428.subR [0, 1, 2, 3, 4, 5, 6]).sub [0, 1] (by decide), hx2437⟩ ?_
    rintro k2438 ⟨⟨l2431, x2432⟩, A2429, c2430⟩ w2439 ⟨hS2440, hl2441⟩
    cases k2438 with
    | zero => rw [machine_kit_row.l0] at hl2441; cases hl2441
    | succ k2438 =>
      rw [machine_kit_row.l0] at hl2441
      refine WC.seq ?_
      refine WC.region ?_
      refine seg 1 [] [0, 1, 5, 6, 7, 34, 35, 36, 37] [(0, (.pointer (some ⟨g_p0, 0, none⟩))), (1, (.pointer (some ⟨g_p1, 0, none⟩))), (5, (.slice A2429 l2431.length c2430)), (6, (.pointer (some ⟨g2222, 0, none⟩))), (7, (.int .i64 (w64 ((w64 (p1.Config.At + (w64 (2 * x2226.2.1)))) - 1)))), (34, (.slice A_p1_Config_Cells p1.Config.Cells.length c_p1_Config_Cells)), (35, (.int .i64 (p1.Config.Cells.length : Int))), (36, (.int .i64 x2432)), (37, (.bool (decide (x2432 < (p1.Config.Cells.length : Int)))))] [] (fun fb => by kernel_rfl) rfl trivial ?_
      refine WL.done rfl ?_
      refine WX.next ?_
      refine WC.seq ?_
      rcases br_some hl2441 with ⟨h2442, hl2441⟩ | ⟨h2442, hl2441⟩
      · refine WC.condT2 (fun fb => by kernel_rfl) h2442 ?_
        refine WC.skip ?_
        refine WX.next ?_
        refine WC.seq ?_
        refine WC.block ?_
        refine WC.seq ?_
        refine WC.region ?_
        refine seg 1 [] [0, 1, 5, 6, 7, 34, 35, 36, 38] [(0, (.pointer (some ⟨g_p0, 0, none⟩))), (1, (.pointer (some ⟨g_p1, 0, none⟩))), (5, (.slice A2429 l2431.length c2430)), (6, (.pointer (some ⟨g2222, 0, none⟩))), (7, (.int .i64 (w64 ((w64 (p1.Config.At + (w64 (2 * x2226.2.1)))) - 1)))), (34, (.slice A_p1_Config_Cells p1.Config.Cells.length c_p1_Config_Cells)), (35, (.int .i64 (p1.Config.Cells.length : Int))), (36, (.int .i64 x2432)), (38, (.int .i64 x2432))] [] (fun fb => by kernel_rfl) rfl trivial ?_
        obtain ⟨h2443, hl2441⟩ := as_some hl2441
        refine seg 5 [.v (.int .i64 (rdD p1.Config.Cells x2432 0))] [0, 1, 5, 6, 7, 8, 9, 34, 35, 36] [(0, (.pointer (some ⟨g_p0, 0, none⟩))), (1, (.pointer (some ⟨g_p1, 0, none⟩))), (5, (.slice A2429 l2431.length c2430)), (6, (.pointer (some ⟨g2222, 0, none⟩))), (7, (.int .i64 (w64 ((w64 (p1.Config.At + (w64 (2 * x2226.2.1)))) - 1)))), (8, (.int .i64 x2432)), (9, (.int .i64 (rdD p1.Config.Cells x2432 0))), (34, (.slice A_p1_Config_Cells p1.Config.Cells.length c_p1_Config_Cells)), (35, (.int .i64 (p1.Config.Cells.length : Int))), (36, (.int .i64 x2432))] [.idx A_p1_Config_Cells x2432 p1.Config.Cells.length, .cell ((adr A_p1_Config_Cells).add ((x2432).toNat * 1)) (.int .i64 (rdD p1.Config.Cells x2432 0))] (fun fb => by kernel_rfl) rfl ⟨rowR.adr (hS2440.rd 6).1 h2443.1 h2443.2, rowR.cell (hS2440.rd 6).1 0 h2443.1 h2443.2 0 rfl, trivial⟩ ?_
        refine WL.done rfl ?_
        refine WX.next ?_
        refine WC.seq ?_
        refine WC.region ?_
        refine seg 2 [] [0, 1, 5, 6, 7, 8, 9, 10, 34, 35, 36] [(0, (.pointer (some ⟨g_p0, 0, none⟩))), (1, (.pointer (some ⟨g_p1, 0, none⟩))), (5, (.slice A2429 l2431.length c2430)), (6, (.pointer (some ⟨g2222, 0, none⟩))), (7, (.int .i64 (w64 ((w64 (p1.Config.At + (w64 (2 * x2226.2.1)))) - 1)))), (8, (.int .i64 x2432)), (9, (.int .i64 (rdD p1.Config.Cells x2432 0))), (10, (.int .i64 (rdD p1.Config.Cells x2432 0))), (34, (.slice A_p1_Config_Cells p1.Config.Cells.length c_p1_Config_Cells)), (35, (.int .i64 (p1.Config.Cells.length : Int))), (36, (.int .i64 x2432))] [] (fun fb => by kernel_rfl) rfl trivial ?_
        refine WL.done rfl ?_
        refine WX.next ?_
        refine WC.seq ?_
        refine WC.seq ?_
        refine WC.region ?_
        refine seg 1 [] [0, 1, 5, 6, 7, 9, 10, 34, 35, 36, 42] [(0, (.pointer (some ⟨g_p0, 0, none⟩))), (1, (.pointer (some ⟨g_p1, 0, none⟩))), (5, (.slice A2429 l2431.length c2430)), (6, (.pointer (some ⟨g2222, 0, none⟩))), (7, (.int .i64 (w64 ((w64 (p1.Config.At + (w64 (2 * x2226.2.1)))) - 1)))), (9, (.int .i64 (rdD p1.Config.Cells x2432 0))), (10, (.int .i64 (rdD p1.Config.Cells x2432 0))), (34, (.slice A_p1_Config_Cells p1.Config.Cells.length c_p1_Config_Cells)), (35, (.int .i64 (p1.Config.Cells.length : Int))), (36, (.int .i64 x2432)), (42, (.int .i64 x2432))] [] (fun fb => by kernel_rfl) rfl trivial ?_
        refine WL.done rfl ?_
        refine WX.next ?_
        refine WC.block ?_
        refine WC.seq ?_
        refine WC.region ?_
        refine seg 7 [.v (.int .i64 p1.Config.At)] [0, 1, 5, 6, 7, 9, 10, 34, 35, 36, 42, 43] [(0, (.pointer (some ⟨g_p0, 0, none⟩))), (1, (.pointer (some ⟨g_p1, 0, none⟩))), (5, (.slice A2429 l2431.length c2430)), (6, (.pointer (some ⟨g2222, 0, none⟩))), (7, (.int .i64 (w64 ((w64 (p1.Config.At + (w64 (2 * x2226.2.1)))) - 1)))), (9, (.int .i64 (rdD p1.Config.Cells x2432 0))), (10, (.int .i64 (rdD p1.Config.Cells x2432 0))), (34, (.slice A_p1_Config_Cells p1.Config.Cells.length c_p1_Config_Cells)), (35, (.int .i64 (p1.Config.Cells.length : Int))), (36, (.int .i64 x2432)), (42, (.int .i64 x2432)), (43, (.bool (x2432 == p1.Config.At)))] [.cell ⟨g_p1, 4, none⟩ (.int .i64 p1.Config.At)] (fun fb => by kernel_rfl) rfl ⟨blk_cell (hS2440.rd 4).1 4 rfl, trivial⟩ ?_
        refine WL.done rfl ?_
        refine WX.next ?_
        obtain ⟨x2473, hx2474, hl2441⟩ := bind_some hl2441
        refine WC.cutN (T := Int) (fun t => [(0, (.pointer (some ⟨g_p0, 0, none⟩))), (1, (.pointer (some ⟨g_p1, 0, none⟩))), (5, (.slice A2429 l2431.length c2430)), (6, (.pointer (some ⟨g2222, 0, none⟩))), (7, (.int .i64 (w64 ((w64 (p1.Config.At + (w64 (2 * x2226.2.1)))) - 1)))), (10, (.int .i64 t)), (34, (.slice A_p1_Config_Cells p1.Config.Cells.length c_p1_Config_Cells)), (35, (.int .i64 (p1.Config.Cells.length : Int))), (36, (.int .i64 x2432))]) (fun t w1 => St NoS w w1 [blk g_p0 (.cells #[(.int .i64 p0.m.States), (.int .i64 p0.m.Symbols), (.slice A_p0_m_Actions p0.m.Actions.length c_p0_m_Actions), (.slice A_p0_set p0.set.length c_p0_set), (.slice A_p0_does p0.does.length c_p0_does), (.int .i64 p0.base)] 96 (0, 0)), rowR enc_Action A_p0_m_Actions c_p0_m_Actions p0.m.Actions, rowR enc_Tile A_p0_set c_p0_set p0.set, rowR encInt A_p0_does c_p0_does p0.does, blk g_p1 (.cells #[(.int .i64 p1.m.States), (.int .i64 p1.m.Symbols), (.slice A_p1_m_Actions p1.m.Actions.length c_p1_m_Actions), (.int .i64 p1.Config.State), (.int .i64 p1.Config.At), (.slice A_p1_Config_Cells p1.Config.Cells.length c_p1_Config_Cells)] 82 (0, 0)), rowR enc_Action A_p1_m_Actions c_p1_m_Actions p1.m.Actions, rowR encInt A_p1_Config_Cells c_p1_Config_Cells p1.Config.Cells] [rowO 3 encInt A2429 c2430 l2431, blk g2222 (.cells #[(.int .i64 x2226.1), (.int .i64 x2226.2.1), (.int .i64 x2226.2.2)] 88 (0, 0))] ∧ x2473 = t) (fun Kx2473 => ?_) ?_
        ·
          rcases br_some hx2474 with ⟨h2475, hx2474⟩ | ⟨h2475, hx2474⟩
          · refine WC.condT2 (fun fb => by kernel_rfl) h2475 ?_
            refine WC.regionD ([(3, ⟨g_p0, 4, none⟩, (.slice A_p0_does p0.does.length c_p0_does))], [0, 1, 2, 3, 4, 6, 8], [[], [0], [0, 1], [0, 1, 2], [], [4], [0, 1, 2, 3, 4, 5], [0, 1, 2, 3, 4, 5, 6], [0, 1, 2, 3, 4, 5, 6, 7]]) [[0, 1, 2, 3, 4, 5, 6, 7, 8]] (by kernel_rfl) (by kernel_rfl) (NoPanic.block (NoPanic.seq (NoPanic.block (NoPanic.seq (NoPanic.seq (NoPanic.block (NoPanic.seq (NoPanic.body)))))))) ?_
            have hS2483 := hS2440.drew
            revert hS2483
            generalize World.drew w2439 = w2482
            intro hS2483
            refine ⟨⟨blk_cell (hS2483.rd 0).1 4 rfl, trivial⟩, forallC ?_ (forallN)⟩
            refine segF 5 [.v (.slice A_p0_does p0.does.length c_p0_does)] [0, 1, 5, 6, 7, 34, 35, 36, 53, 54] [(0, (.pointer (some ⟨g_p0, 0, none⟩))), (1, (.pointer (some ⟨g_p1, 0, none⟩))), (5, (.slice A2429 l2431.length c2430)), (6, (.pointer (some ⟨g2222, 0, none⟩))), (7, (.int .i64 (w64 ((w64 (p1.Config.At + (w64 (2 * x2226.2.1)))) - 1)))), (34, (.slice A_p1_Config_Cells p1.Config.Cells.length c_p1_Config_Cells)), (35, (.int .i64 (p1.Config.Cells.length : Int))), (36, (.int .i64 x2432)), (53, (.slice A_p0_does p0.does.length c_p0_does)), (54, (.pointer (some ⟨g_p1, 0, none⟩)))] [] [0] [(3, ⟨g_p0, 4, none⟩, (.slice A_p0_does p0.does.length c_p0_does))] (fun fb => by kernel_rfl) rfl trivial rfl ?_
            obtain ⟨t2484, ht2485, hx2474⟩ := bind_some hx2474
            refine WL.call (some 55) 63 #[(.pointer (some ⟨g_p1, 0, none⟩))] (fun fb => by kernel_rfl) (machine_runner_does_calls p1 g_p1 A_p1_m_Actions c_p1_m_Actions A_p1_Config_Cells c_p1_Config_Cells t2484 _ (hS2483.rd 4) (hS2483.rd 5) (hS2483.rd 6) ht2485) (fun v w2486 hR2487 => ?_)
            obtain ⟨rfl, hk_⟩ := hR2487
            have hS2488 := hS2483.keepN hk_
            refine ⟨⟨blk_cell (hS2488.rd 0).1 4 rfl, trivial⟩, ?_⟩
            obtain ⟨h2489, hx2474⟩ := as_some hx2474
            refine seg 9 [.v (.int .i64 (rdD p0.does t2484 0))] [0, 1, 5, 6, 7, 10, 34, 35, 36] [(0, (.pointer (some ⟨g_p0, 0, none⟩))), (1, (.pointer (some ⟨g_p1, 0, none⟩))), (5, (.slice A2429 l2431.length c2430)), (6, (.pointer (some ⟨g2222, 0, none⟩))), (7, (.int .i64 (w64 ((w64 (p1.Config.At + (w64 (2 * x2226.2.1)))) - 1)))), (10, (.int .i64 (rdD p0.does t2484 0))), (34, (.slice A_p1_Config_Cells p1.Config.Cells.length c_p1_Config_Cells)), (35, (.int .i64 (p1.Config.Cells.length : Int))), (36, (.int .i64 x2432))] [.idx A_p0_does t2484 p0.does.length, .cell ((adr A_p0_does).add ((t2484).toNat * 1)) (.int .i64 (rdD p0.does t2484 0))] (fun fb => by kernel_rfl) rfl ⟨rowR.adr (hS2488.rd 3).1 h2489.1 h2489.2, rowR.cell (hS2488.rd 3).1 0 h2489.1 h2489.2 0 rfl, trivial⟩ ?_
            refine WL.done rfl ?_
            injection hx2474 with hx2474
            exact WX.to Kx2473 (rdD p0.does t2484 0) [0, 1, 5, 6, 7, 10, 34, 35, 36] rfl ⟨(hS2488.subR [0, 1, 2, 3, 4, 5, 6]).sub [0, 1] (by decide), hx2474.symm⟩
          refine WC.condF2 (fun fb => by kernel_rfl) h2475 ?_
          refine WC.seq ?_
          refine WC.region ?_
          refine seg 3 [] [0, 1, 5, 6, 7, 9, 10, 34, 35, 36, 58] [(0, (.pointer (some ⟨g_p0, 0, none⟩))), (1, (.pointer (some ⟨g_p1, 0, none⟩))), (5, (.slice A2429 l2431.length c2430)), (6, (.pointer (some ⟨g2222, 0, none⟩))), (7, (.int .i64 (w64 ((w64 (p1.Config.At + (w64 (2 * x2226.2.1)))) - 1)))), (9, (.int .i64 (rdD p1.Config.Cells x2432 0))), (10, (.int .i64 (rdD p1.Config.Cells x2432 0))), (34, (.slice A_p1_Config_Cells p1.Config.Cells.length c_p1_Config_Cells)), (35, (.int .i64 (p1.Config.Cells.length : Int))), (36, (.int .i64 x2432)), (58, (.bool (x2432 == (w64 ((w64 (p1.Config.At + (w64 (2 * x2226.2.1)))) - 1)))))] [] (fun fb => by kernel_rfl) rfl trivial ?_
          refine WL.done rfl ?_
          refine WX.next ?_
          obtain ⟨x2494, hx2495, hx2474⟩ := bind_some hx2474
          refine WC.cutN (T := Int) (fun t => [(0, (.pointer (some ⟨g_p0, 0, none⟩))), (1, (.pointer (some ⟨g_p1, 0, none⟩))), (5, (.slice A2429 l2431.length c2430)), (6, (.pointer (some ⟨g2222, 0, none⟩))), (7, (.int .i64 (w64 ((w64 (p1.Config.At + (w64 (2 * x2226.2.1)))) - 1)))), (10, (.int .i64 t)), (34, (.slice A_p1_Config_Cells p1.Config.Cells.length c_p1_Config_Cells)), (35, (.int .i64 (p1.Config.Cells.length : Int))), (36, (.int .i64 x2432))]) (fun t w1 => St NoS w w1 [blk g_p0 (.cells #[(.int .i64 p0.m.States), (.int .i64 p0.m.Symbols), (.slice A_p0_m_Actions p0.m.Actions.length c_p0_m_Actions), (.slice A_p0_set p0.set.length c_p0_set), (.slice A_p0_does p0.does.length c_p0_does), (.int .i64 p0.base)] 96 (0, 0)), rowR enc_Action A_p0_m_Actions c_p0_m_Actions p0.m.Actions, rowR enc_Tile A_p0_set c_p0_set p0.set, rowR encInt A_p0_does c_p0_does p0.does, blk g_p1 (.cells #[(.int .i64 p1.m.States), (.int .i64 p1.m.Symbols), (.slice A_p1_m_Actions p1.m.Actions.length c_p1_m_Actions), (.int .i64 p1.Config.State), (.int .i64 p1.Config.At), (.slice A_p1_Config_Cells p1.Config.Cells.length c_p1_Config_Cells)] 82 (0, 0)), rowR enc_Action A_p1_m_Actions c_p1_m_Actions p1.m.Actions, rowR encInt A_p1_Config_Cells c_p1_Config_Cells p1.Config.Cells] [rowO 3 encInt A2429 c2430 l2431, blk g2222 (.cells #[(.int .i64 x2226.1), (.int .i64 x2226.2.1), (.int .i64 x2226.2.2)] 88 (0, 0))] ∧ x2494 = t) (fun Kx2494 => ?_) ?_
          ·
            rcases br_some hx2495 with ⟨h2496, hx2495⟩ | ⟨h2496, hx2495⟩
            · refine WC.condT2 (fun fb => by kernel_rfl) h2496 ?_
              refine WC.regionD ([(3, ⟨g_p0, 5, none⟩, (.int .i64 p0.base)), (5, ⟨g2222, 2, none⟩, (.int .i64 x2226.2.2)), (10, ⟨g_p1, 1, none⟩, (.int .i64 p1.m.Symbols)), (18, ⟨g2222, 1, none⟩, (.int .i64 x2226.2.1))], [0, 1, 2, 3, 4, 5, 6, 7, 8, 9, 10, 11, 12, 13, 14, 15, 16, 17, 18, 19, 20], [[], [0], [0, 1], [0, 1, 2], [], [4], [], [6], [6, 7], [6, 7, 8], [6, 7, 8, 9], [4, 5, 6, 7, 8, 9, 10], [], [4, 5, 6, 7, 8, 9, 10, 11, 12], [4, 5, 6, 7, 8, 9, 10, 11, 12, 13], [0, 1, 2, 3, 4, 5, 6, 7, 8, 9, 10, 11, 12, 13, 14], [0, 1, 2, 3, 4, 5, 6, 7, 8, 9, 10, 11, 12, 13, 14, 15], [], [17], [0, 1, 2, 3, 4, 5, 6, 7, 8, 9, 10, 11, 12, 13, 14, 15, 16, 17, 18], [0, 1, 2, 3, 4, 5, 6, 7, 8, 9, 10, 11, 12, 13, 14, 15, 16, 17, 18, 19]]) [[0, 1, 2, 3, 4, 5, 6, 7, 8, 9, 10, 11, 12, 13, 14, 15, 16, 17, 18, 19, 20]] (by kernel_rfl) (by kernel_rfl) (NoPanic.block (NoPanic.seq (NoPanic.block (NoPanic.seq (NoPanic.seq (NoPanic.block (NoPanic.seq (NoPanic.body)))))))) ?_
              have hS2498 := hS2440.drew
              revert hS2498
              generalize World.drew w2439 = w2497
              intro hS2498
              refine ⟨⟨blk_cell (hS2498.rd 0).1 5 rfl, hS2498.cell 1 rfl 2 rfl, blk_cell (hS2498.rd 4).1 1 rfl, hS2498.cell 1 rfl 1 rfl, trivial⟩, forallC ?_ (forallN)⟩
              refine segF 21 [.v (.int .i64 p0.base), .v (.int .i64 x2226.2.2), .v (.int .i64 p1.m.Symbols), .v (.int .i64 x2226.2.1)] [0, 1, 5, 6, 7, 10, 34, 35, 36] [(0, (.pointer (some ⟨g_p0, 0, none⟩))), (1, (.pointer (some ⟨g_p1, 0, none⟩))), (5, (.slice A2429 l2431.length c2430)), (6, (.pointer (some ⟨g2222, 0, none⟩))), (7, (.int .i64 (w64 ((w64 (p1.Config.At + (w64 (2 * x2226.2.1)))) - 1)))), (10, (.int .i64 (w64 ((w64 ((w64 (p0.base + (w64 (2 * (w64 ((w64 (x2226.2.2 * p1.m.Symbols)) + (rdD p1.Config.Cells x2432 0))))))) + 1)) - x2226.2.1)))), (34, (.slice A_p1_Config_Cells p1.Config.Cells.length c_p1_Config_Cells)), (35, (.int .i64 (p1.Config.Cells.length : Int))), (36, (.int .i64 x2432))] [] [0, 1, 2, 3] [(3, ⟨g_p0, 5, none⟩, (.int .i64 p0.base)), (5, ⟨g2222, 2, none⟩, (.int .i64 x2226.2.2)), (10, ⟨g_p1, 1, none⟩, (.int .i64 p1.m.Symbols)), (18, ⟨g2222, 1, none⟩, (.int .i64 x2226.2.1))] (fun fb => by kernel_rfl) rfl trivial rfl ?_
              refine WL.done rfl ?_
              injection hx2495 with hx2495
              exact WX.to Kx2494 (w64 ((w64 ((w64 (p0.base + (w64 (2 * (w64 ((w64 (x2226.2.2 * p1.m.Symbols)) + (rdD p1.Config.Cells x2432 0))))))) + 1)) - x2226.2.1)) [0, 1, 5, 6, 7, 10, 34, 35, 36] rfl ⟨(hS2498.subR [0, 1, 2, 3, 4, 5, 6]).sub [0, 1] (by decide), hx2495.symm⟩
            refine WC.condF2 (fun fb => by kernel_rfl) h2496 ?_
            refine WC.skip ?_
            injection hx2495 with hx2495
            exact WX.to Kx2494 (rdD p1.Config.Cells x2432 0) [0, 1, 5, 6, 7, 10, 34, 35, 36] rfl ⟨(hS2440.subR [0, 1, 2, 3, 4, 5, 6]).sub [0, 1] (by decide), hx2495.symm⟩
          rintro y2502 w2499 ⟨hS2500, hq2501⟩
          subst hq2501
          injection hx2474 with hx2474
          exact WX.to Kx2473 x2494 [0, 1, 5, 6, 7, 10, 34, 35, 36] rfl ⟨(hS2500.subR [0, 1, 2, 3, 4, 5, 6]).sub [0, 1] (by decide), hx2474.symm⟩
        rintro y2506 w2503 ⟨hS2504, hq2505⟩
        subst hq2505
        refine WX.blockN (WX.next ?_)
        refine WC.region ?_
        refine seg 2 [] [0, 1, 6, 7, 34, 35, 36, 81, 82] [(0, (.pointer (some ⟨g_p0, 0, none⟩))), (1, (.pointer (some ⟨g_p1, 0, none⟩))), (6, (.pointer (some ⟨g2222, 0, none⟩))), (7, (.int .i64 (w64 ((w64 (p1.Config.At + (w64 (2 * x2226.2.1)))) - 1)))), (34, (.slice A_p1_Config_Cells p1.Config.Cells.length c_p1_Config_Cells)), (35, (.int .i64 (p1.Config.Cells.length : Int))), (36, (.int .i64 x2432)), (81, (.slice A2429 l2431.length c2430)), (82, (.int .i64 x2473))] [] (fun fb => by kernel_rfl) rfl trivial ?_
        refine WL.new hS2504 83 [] (fun g => (.slice (some ⟨g, 0, none⟩) 1 1)) (.cells #[(.int .i64 x2473)] 3 (0, 0)) [] (fun fb g => by kernel_rfl) trivial (fun g2507 w2508 hS2509 => ?_)
        refine ⟨trivial, ?_⟩
        have hS2511 : St NoS w w2508 [blk g_p0 (.cells #[(.int .i64 p0.m.States), (.int .i64 p0.m.Symbols), (.slice A_p0_m_Actions p0.m.Actions.length c_p0_m_Actions), (.slice A_p0_set p0.set.length c_p0_set), (.slice A_p0_does p0.does.length c_p0_does), (.int .i64 p0.base)] 96 (0, 0)), rowR enc_Action A_p0_m_Actions c_p0_m_Actions p0.m.Actions, rowR enc_Tile A_p0_set c_p0_set p0.set, rowR encInt A_p0_does c_p0_does p0.does, blk g_p1 (.cells #[(.int .i64 p1.m.States), (.int .i64 p1.m.Symbols), (.slice A_p1_m_Actions p1.m.Actions.length c_p1_m_Actions), (.int .i64 p1.Config.State), (.int .i64 p1.Config.At), (.slice A_p1_Config_Cells p1.Config.Cells.length c_p1_Config_Cells)] 82 (0, 0)), rowR enc_Action A_p1_m_Actions c_p1_m_Actions p1.m.Actions, rowR encInt A_p1_Config_Cells c_p1_Config_Cells p1.Config.Cells] [rowO 3 encInt (some ⟨g2507, 0, none⟩) 1 [x2473], rowO 3 encInt A2429 c2430 l2431, blk g2222 (.cells #[(.int .i64 x2226.1), (.int .i64 x2226.2.1), (.int .i64 x2226.2.2)] 88 (0, 0))] := hS2509.map1 0 _ (fun h => rowO.ofBlk h rfl (Nat.le_of_ble_eq_true (by kernel_rfl))) (fun _ h => by obtain ⟨_, h1, h2⟩ := h; injection h1 with h1; subst h1; exact h2) [1, 2] (by decide) (by decide)
        obtain ⟨h2512, hl2441⟩ := as_some hl2441
        refine WL.append hS2511 1 (d := 84) (tS := 25) (z := (.int .i64 0)) (bytes := 8) (c2 := 1) rfl (fun fb => by kernel_rfl) (rowO.rd (hS2511.own 0).1) (by kernel_rfl) (by kernel_rfl) rfl (by decide) h2512 (by decide) [0, 2] (by decide) (by decide) (fun A2513 c2514 w2515 hS2516 => ?_)
        refine ⟨trivial, ?_⟩
        refine seg 5 [] [0, 1, 5, 6, 7, 34, 35, 36] [(0, (.pointer (some ⟨g_p0, 0, none⟩))), (1, (.pointer (some ⟨g_p1, 0, none⟩))), (5, (.slice A2513 (l2431 ++ [x2473]).length c2514)), (6, (.pointer (some ⟨g2222, 0, none⟩))), (7, (.int .i64 (w64 ((w64 (p1.Config.At + (w64 (2 * x2226.2.1)))) - 1)))), (34, (.slice A_p1_Config_Cells p1.Config.Cells.length c_p1_Config_Cells)), (35, (.int .i64 (p1.Config.Cells.length : Int))), (36, (.int .i64 x2432))] [] (fun fb => by kernel_rfl) rfl trivial ?_
        refine WL.done rfl ?_
        refine WX.blockN (WX.next ?_)
        refine WC.region ?_
        refine seg 2 [] [0, 1, 5, 6, 7, 34, 35, 36] [(0, (.pointer (some ⟨g_p0, 0, none⟩))), (1, (.pointer (some ⟨g_p1, 0, none⟩))), (5, (.slice A2513 (l2431 ++ [x2473]).length c2514)), (6, (.pointer (some ⟨g2222, 0, none⟩))), (7, (.int .i64 (w64 ((w64 (p1.Config.At + (w64 (2 * x2226.2.1)))) - 1)))), (34, (.slice A_p1_Config_Cells p1.Config.Cells.length c_p1_Config_Cells)), (35, (.int .i64 (p1.Config.Cells.length : Int))), (36, (.int .i64 (w64 (x2432 + 1))))] [] (fun fb => by kernel_rfl) rfl trivial ?_
        refine WL.done rfl ?_
        exact WX.again k2438 (Nat.lt_succ_self _) ((l2431 ++ [x2473], w64 (x2432 + 1)), A2513, c2514) [0, 1, 5, 6, 7, 34, 35, 36] rfl ⟨(hS2516.subR [0, 1, 2, 3, 4, 5, 6]).sub [0, 2] (by decide), hl2441⟩
      refine WC.condF2 (fun fb => by kernel_rfl) h2442 ?_
      refine WC.exit ?_
      injection hl2441 with hl2441
      exact WX.thenX (WX.thenX (WX.blockHere (WX.to Kx2436 (l2431, A2429, c2430) [5] rfl ⟨(hS2440.subR [0, 1, 2, 3, 4, 5, 6]).sub [0] (by decide), hl2441.symm⟩)))
  rintro ⟨y2520, A2433, c2434⟩ w2517 ⟨hS2518, hq2519⟩
  subst hq2519
  refine WX.next ?_
  refine WC.seq ?_
  refine WC.region ?_
  refine seg 2 [] [4] [(4, (.slice A2433 x2436.length c2434))] [] (fun fb => by kernel_rfl) rfl trivial ?_
  refine WL.done rfl ?_
  refine WX.next ?_
  refine WC.ret ?_
  injection hf with hf
  subst hf
  exact WX.ret_ [] (.slice A2433 x2436.length c2434) [] (fun fb => by kernel_rfl) trivial ⟨_, rfl, A2433, c2434, rfl, (hS2518.sub [0] (by decide)).noR⟩
theorem machine_Picture_calls (k : Nat) (p0 : Machine) (p1 : Config) (p2 : Int) (A_p0_Actions : Option Addr) (c_p0_Actions : Nat) (A_p1_Cells : Option Addr) (c_p1_Cells : Nat) (r : Pattern × Int) (w : World) (hR0 : RO NoS w (rowR enc_Action A_p0_Actions c_p0_Actions p0.Actions)) (hR1 : RO NoS w (rowR encInt A_p1_Cells c_p1_Cells p1.Cells)) (hf : machine_Picture k p0 p1 p2 = some r) :
    CallsR Try.prog 12 #[(.agg #[(.int .i64 p0.States), (.int .i64 p0.Symbols), (.slice A_p0_Actions p0.Actions.length c_p0_Actions)]), (.agg #[(.int .i64 p1.State), (.int .i64 p1.At), (.slice A_p1_Cells p1.Cells.length c_p1_Cells)]), (.int .i64 p2)] w (fun v w' => ∃ (A1_ : Option Addr), ∃ (c1_ : Nat), v = (.tuple #[(.agg #[(.int .i64 r.1.Width), (.int .i64 r.1.Height), (.slice A1_ r.1.Cells.length c1_)]), (.int .i64 r.2)]) ∧ St NoS w w' [] [rowO 3 encInt A1_ c1_ r.1.Cells]) := by
  have hS : St NoS w w [rowR enc_Action A_p0_Actions c_p0_Actions p0.Actions, rowR encInt A_p1_Cells c_p1_Cells p1.Cells] [] := St.init (ro_cons hR0 (ro_cons hR1 (ro_nil _ _)))
  refine enter 67 Try.func12 rfl Try.ntmps12 rfl ?_
  unfold machine_Picture at hf
  refine WC.seq ?_
  refine WC.region ?_
  refine WL.new hS 3 [] (fun g => (.pointer (some ⟨g, 0, none⟩))) (.cells #[(.int .i64 p0.States), (.int .i64 p0.Symbols), (.slice A_p0_Actions p0.Actions.length c_p0_Actions)] 24 (0, 0)) [] (fun fb g => by kernel_rfl) trivial (fun g2067 w2068 hS2069 => ?_)
  refine ⟨trivial, ?_⟩
  refine WL.new hS2069 4 [] (fun g => (.pointer (some ⟨g, 0, none⟩))) (.cells #[(.int .i64 p1.State), (.int .i64 p1.At), (.slice A_p1_Cells p1.Cells.length c_p1_Cells)] 27 (0, 0)) [] (fun fb g => by kernel_rfl) trivial (fun g2071 w2072 hS2073 => ?_)
  refine ⟨trivial, ?_⟩
  refine WL.new hS2073 6 [] (fun g => (.pointer (some ⟨g, 0, none⟩))) (.cells #[(.int .i64 0), (.int .i64 0), (.slice none 0 0)] 31 (0, 0)) [] (fun fb g => by kernel_rfl) trivial (fun g2075 w2076 hS2077 => ?_)
  refine ⟨trivial, ?_⟩
  refine seg 4 [] [2, 3, 4, 6] [(2, (.int .i64 p2)), (3, (.pointer (some ⟨g2067, 0, none⟩))), (4, (.pointer (some ⟨g2071, 0, none⟩))), (6, (.pointer (some ⟨g2075, 0, none⟩)))] [] (fun fb => by kernel_rfl) rfl trivial ?_
  refine WL.done rfl ?_
  refine WX.next ?_
  refine WC.seq ?_
  refine WC.block ?_
  refine WC.seq ?_
  refine WC.region ?_
  refine seg 2 [.v (.int .i64 p0.States), .v (.int .i64 p0.Symbols), .v (.slice A_p0_Actions p0.Actions.length c_p0_Actions), .v (.int .i64 p1.State), .v (.int .i64 p1.At), .v (.slice A_p1_Cells p1.Cells.length c_p1_Cells)] [2, 3, 4, 6, 13, 14] [(2, (.int .i64 p2)), (3, (.pointer (some ⟨g2067, 0, none⟩))), (4, (.pointer (some ⟨g2071, 0, none⟩))), (6, (.pointer (some ⟨g2075, 0, none⟩))), (13, (.agg #[(.int .i64 p0.States), (.int .i64 p0.Symbols), (.slice A_p0_Actions p0.Actions.length c_p0_Actions)])), (14, (.agg #[(.int .i64 p1.State), (.int .i64 p1.At), (.slice A_p1_Cells p1.Cells.length c_p1_Cells)]))] [.cell ⟨g2067, 0, none⟩ (.int .i64 p0.States), .cell ⟨g2067, 1, none⟩ (.int .i64 p0.Symbols), .cell ⟨g2067, 2, none⟩ (.slice A_p0_Actions p0.Actions.length c_p0_Actions), .cell ⟨g2071, 0, none⟩ (.int .i64 p1.State), .cell ⟨g2071, 1, none⟩ (.int .i64 p1.At), .cell ⟨g2071, 2, none⟩ (.slice A_p1_Cells p1.Cells.length c_p1_Cells)] (fun fb => by kernel_rfl) rfl ⟨hS2077.cell 2 rfl 0 rfl, hS2077.cell 2 rfl 1 rfl, hS2077.cell 2 rfl 2 rfl, hS2077.cell 1 rfl 0 rfl, hS2077.cell 1 rfl 1 rfl, hS2077.cell 1 rfl 2 rfl, trivial⟩ ?_
  obtain ⟨t2079, ht2080, hf⟩ := bind_some hf
  refine WL.call (some 15) 18 #[(.agg #[(.int .i64 p0.States), (.int .i64 p0.Symbols), (.slice A_p0_Actions p0.Actions.length c_p0_Actions)]), (.agg #[(.int .i64 p1.State), (.int .i64 p1.At), (.slice A_p1_Cells p1.Cells.length c_p1_Cells)])] (fun fb => by kernel_rfl) (machine_Fits_calls _ p0 p1 A_p0_Actions c_p0_Actions A_p1_Cells c_p1_Cells t2079 _ (hS2077.rd 0) (hS2077.rd 1) ht2080) (fun v w2081 hR2082 => ?_)
  obtain ⟨rfl, hk_⟩ := hR2082
  have hS2083 := hS2077.keepN hk_
  refine ⟨trivial, ?_⟩
  refine seg 5 [] [2, 3, 4, 6, 12] [(2, (.int .i64 p2)), (3, (.pointer (some ⟨g2067, 0, none⟩))), (4, (.pointer (some ⟨g2071, 0, none⟩))), (6, (.pointer (some ⟨g2075, 0, none⟩))), (12, (.bool (!t2079)))] [] (fun fb => by kernel_rfl) rfl trivial ?_
  refine WL.done rfl ?_
  refine WX.next ?_
  rcases br_some hf with ⟨h2084, hf⟩ | ⟨h2084, hf⟩
  · refine WC.condT2 (fun fb => by kernel_rfl) h2084 ?_
    refine WC.seq ?_
    refine WC.region ?_
    refine seg 1 [] [6, 17] [(6, (.pointer (some ⟨g2075, 0, none⟩))), (17, (.agg #[(.int .i64 0), (.int .i64 0), (.slice none 0 0)]))] [] (fun fb => by kernel_rfl) rfl trivial ?_
    refine WL.store hS2083 0 rfl [(0, (.int .i64 0)), (1, (.int .i64 0)), (2, (.slice none 0 0))] #[(.int .i64 0), (.int .i64 0), (.slice none 0 0)] (fun fb => by kernel_rfl) (by kernel_rfl) rfl [1, 2] (by decide) (by decide) (fun w2085 hS2086 => ?_)
    refine ⟨trivial, ?_⟩
    refine seg 3 [] [6, 7] [(6, (.pointer (some ⟨g2075, 0, none⟩))), (7, (.int .i64 1))] [] (fun fb => by kernel_rfl) rfl trivial ?_
    refine WL.done rfl ?_
    refine WX.next ?_
    refine WC.ret ?_
    have hS2087 := hS2086.nilrow 3 encInt
    injection hf with hf
    subst hf
    exact WX.blockR (WX.thenR (WX.ret_ [.v (.int .i64 0), .v (.int .i64 0), .v (.slice none 0 0)] (.tuple #[(.agg #[(.int .i64 0), (.int .i64 0), (.slice none ([] : List Int).length 0)]), (.int .i64 1)]) [.cell ⟨g2075, 0, none⟩ (.int .i64 0), .cell ⟨g2075, 1, none⟩ (.int .i64 0), .cell ⟨g2075, 2, none⟩ (.slice none 0 0)] (fun fb => by kernel_rfl) ⟨hS2086.cell 0 rfl 0 rfl, hS2086.cell 0 rfl 1 rfl, hS2086.cell 0 rfl 2 rfl, trivial⟩ ⟨_, rfl, none, 0, rfl, (hS2087.sub [0] (by decide)).noR⟩))
  refine WC.condF2 (fun fb => by kernel_rfl) h2084 ?_
  refine WC.seq ?_
  refine WC.region ?_
  refine seg 3 [] [2, 3, 4, 6, 18] [(2, (.int .i64 p2)), (3, (.pointer (some ⟨g2067, 0, none⟩))), (4, (.pointer (some ⟨g2071, 0, none⟩))), (6, (.pointer (some ⟨g2075, 0, none⟩))), (18, (.bool (decide (p2 < 1))))] [] (fun fb => by kernel_rfl) rfl trivial ?_
  refine WL.done rfl ?_
  refine WX.next ?_
  rcases br_some hf with ⟨h2088, hf⟩ | ⟨h2088, hf⟩
  · refine WC.condT2 (fun fb => by kernel_rfl) h2088 ?_
    refine WC.seq ?_
    refine WC.region ?_
    refine seg 1 [] [6, 21] [(6, (.pointer (some ⟨g2075, 0, none⟩))), (21, (.agg #[(.int .i64 0), (.int .i64 0), (.slice none 0 0)]))] [] (fun fb => by kernel_rfl) rfl trivial ?_
    refine WL.store hS2083 0 rfl [(0, (.int .i64 0)), (1, (.int .i64 0)), (2, (.slice none 0 0))] #[(.int .i64 0), (.int .i64 0), (.slice none 0 0)] (fun fb => by kernel_rfl) (by kernel_rfl) rfl [1, 2] (by decide) (by decide) (fun w2089 hS2090 => ?_)
    refine ⟨trivial, ?_⟩
    refine seg 3 [] [6, 7] [(6, (.pointer (some ⟨g2075, 0, none⟩))), (7, (.int .i64 2))] [] (fun fb => by kernel_rfl) rfl trivial ?_
    refine WL.done rfl ?_
    refine WX.next ?_
    refine WC.ret ?_
    have hS2091 := hS2090.nilrow 3 encInt
    injection hf with hf
    subst hf
    exact WX.blockR (WX.thenR (WX.ret_ [.v (.int .i64 0), .v (.int .i64 0), .v (.slice none 0 0)] (.tuple #[(.agg #[(.int .i64 0), (.int .i64 0), (.slice none ([] : List Int).length 0)]), (.int .i64 2)]) [.cell ⟨g2075, 0, none⟩ (.int .i64 0), .cell ⟨g2075, 1, none⟩ (.int .i64 0), .cell ⟨g2075, 2, none⟩ (.slice none 0 0)] (fun fb => by kernel_rfl) ⟨hS2090.cell 0 rfl 0 rfl, hS2090.cell 0 rfl 1 rfl, hS2090.cell 0 rfl 2 rfl, trivial⟩ ⟨_, rfl, none, 0, rfl, (hS2091.sub [0] (by decide)).noR⟩))
  refine WC.condF2 (fun fb => by kernel_rfl) h2088 ?_
  refine WC.seq ?_
  refine WC.region ?_
  refine seg 3 [] [2, 3, 4, 6, 25] [(2, (.int .i64 p2)), (3, (.pointer (some ⟨g2067, 0, none⟩))), (4, (.pointer (some ⟨g2071, 0, none⟩))), (6, (.pointer (some ⟨g2075, 0, none⟩))), (25, (.bool (decide (p2 > 40000))))] [] (fun fb => by kernel_rfl) rfl trivial ?_
  refine WL.cutV (T := Bool) 10 (fun t => [(32, (.bool t)), (2, (.int .i64 p2)), (3, (.pointer (some ⟨g2067, 0, none⟩))), (4, (.pointer (some ⟨g2071, 0, none⟩))), (6, (.pointer (some ⟨g2075, 0, none⟩)))]) (fun t => t = ((decide (p2 > 40000)) || (decide (w64 ((p1.Cells.length : Int) * p2) > 40000)))) (fun K => ?_) ?_
  ·
    rcases Bool.eq_false_or_eq_true (decide (p2 > 40000)) with h2092 | h2092
    ·
      refine WL.setB 25 h2092 rfl ?_
      refine seg 10 [] [2, 3, 4, 6, 32] [(2, (.int .i64 p2)), (3, (.pointer (some ⟨g2067, 0, none⟩))), (4, (.pointer (some ⟨g2071, 0, none⟩))), (6, (.pointer (some ⟨g2075, 0, none⟩))), (32, (.bool true))] [] (fun fb => by kernel_rfl) rfl trivial ?_
      exact WL.toV K true [32, 2, 3, 4, 6] rfl (by rw [h2092]; rfl)
    refine WL.setB 25 h2092 rfl ?_
    refine seg 10 [.v (.slice A_p1_Cells p1.Cells.length c_p1_Cells)] [2, 3, 4, 6, 32] [(2, (.int .i64 p2)), (3, (.pointer (some ⟨g2067, 0, none⟩))), (4, (.pointer (some ⟨g2071, 0, none⟩))), (6, (.pointer (some ⟨g2075, 0, none⟩))), (32, (.bool (decide (w64 ((p1.Cells.length : Int) * p2) > 40000))))] [.cell ⟨g2071, 2, none⟩ (.slice A_p1_Cells p1.Cells.length c_p1_Cells)] (fun fb => by kernel_rfl) rfl ⟨hS2083.cell 1 rfl 2 rfl, trivial⟩ ?_
    exact WL.toV K (decide (w64 ((p1.Cells.length : Int) * p2) > 40000)) [32, 2, 3, 4, 6] rfl (by rw [h2092]; rfl)
  rintro b2093 rfl
  refine seg 11 [] [2, 3, 4, 6, 22] [(2, (.int .i64 p2)), (3, (.pointer (some ⟨g2067, 0, none⟩))), (4, (.pointer (some ⟨g2071, 0, none⟩))), (6, (.pointer (some ⟨g2075, 0, none⟩))), (22, (.bool ((decide (p2 > 40000)) || (decide (w64 ((p1.Cells.length : Int) * p2) > 40000)))))] [] (fun fb => by kernel_rfl) rfl trivial ?_
  refine WL.done rfl ?_
  refine WX.next ?_
  rcases br_some hf with ⟨h2094, hf⟩ | ⟨h2094, hf⟩
  · refine WC.condT2 (fun fb => by kernel_rfl) h2094 ?_
    refine WC.seq ?_
    refine WC.region ?_
    refine seg 1 [] [6, 33] [(6, (.pointer (some ⟨g2075, 0, none⟩))), (33, (.agg #[(.int .i64 0), (.int .i64 0), (.slice none 0 0)]))] [] (fun fb => by kernel_rfl) rfl trivial ?_
    refine WL.store hS2083 0 rfl [(0, (.int .i64 0)), (1, (.int .i64 0)), (2, (.slice none 0 0))] #[(.int .i64 0), (.int .i64 0), (.slice none 0 0)] (fun fb => by kernel_rfl) (by kernel_rfl) rfl [1, 2] (by decide) (by decide) (fun w2095 hS2096 => ?_)
    refine ⟨trivial, ?_⟩
    refine seg 3 [] [6, 7] [(6, (.pointer (some ⟨g2075, 0, none⟩))), (7, (.int .i64 4))] [] (fun fb => by kernel_rfl) rfl trivial ?_
    refine WL.done rfl ?_
    refine WX.next ?_
    refine WC.ret ?_
    have hS2097 := hS2096.nilrow 3 encInt
    injection hf with hf
    subst hf
    exact WX.blockR (WX.thenR (WX.ret_ [.v (.int .i64 0), .v (.int .i64 0), .v (.slice none 0 0)] (.tuple #[(.agg #[(.int .i64 0), (.int .i64 0), (.slice none ([] : List Int).length 0)]), (.int .i64 4)]) [.cell ⟨g2075, 0, none⟩ (.int .i64 0), .cell ⟨g2075, 1, none⟩ (.int .i64 0), .cell ⟨g2075, 2, none⟩ (.slice none 0 0)] (fun fb => by kernel_rfl) ⟨hS2096.cell 0 rfl 0 rfl, hS2096.cell 0 rfl 1 rfl, hS2096.cell 0 rfl 2 rfl, trivial⟩ ⟨_, rfl, none, 0, rfl, (hS2097.sub [0] (by decide)).noR⟩))
  refine WC.condF2 (fun fb => by kernel_rfl) h2094 ?_
  refine WC.skip ?_
  refine WX.blockN (WX.next ?_)
  refine WC.seq ?_
  refine WC.regionD ([(0, ⟨g2067, 0, none⟩, (.int .i64 p0.States)), (0, ⟨g2067, 1, none⟩, (.int .i64 p0.Symbols)), (0, ⟨g2067, 2, none⟩, (.slice A_p0_Actions p0.Actions.length c_p0_Actions)), (2, ⟨g2067, 0, none⟩, (.int .i64 p0.States)), (2, ⟨g2067, 1, none⟩, (.int .i64 p0.Symbols)), (2, ⟨g2067, 2, none⟩, (.slice A_p0_Actions p0.Actions.length c_p0_Actions)), (3, ⟨g2071, 0, none⟩, (.int .i64 p1.State)), (3, ⟨g2071, 1, none⟩, (.int .i64 p1.At)), (3, ⟨g2071, 2, none⟩, (.slice A_p1_Cells p1.Cells.length c_p1_Cells))], [0, 2, 3, 5, 6], [[], [0], [], [], [0, 1, 2, 3], [0, 1, 2, 3, 4], [0, 1, 2, 3, 4, 5]]) [[0, 2, 3, 1, 4, 5, 6]] (by kernel_rfl) (by kernel_rfl) (NoPanic.seq (NoPanic.body)) ?_
  have hS2117 := hS2083.drew
  revert hS2117
  generalize World.drew w2081 = w2116
  intro hS2117
  refine ⟨⟨hS2117.cell 2 rfl 0 rfl, hS2117.cell 2 rfl 1 rfl, hS2117.cell 2 rfl 2 rfl, hS2117.cell 2 rfl 0 rfl, hS2117.cell 2 rfl 1 rfl, hS2117.cell 2 rfl 2 rfl, hS2117.cell 1 rfl 0 rfl, hS2117.cell 1 rfl 1 rfl, hS2117.cell 1 rfl 2 rfl, trivial⟩, forallC ?_ (forallN)⟩
  refine segF 3 [.v (.int .i64 p0.States), .v (.int .i64 p0.Symbols), .v (.slice A_p0_Actions p0.Actions.length c_p0_Actions), .v (.int .i64 p0.States), .v (.int .i64 p0.Symbols), .v (.slice A_p0_Actions p0.Actions.length c_p0_Actions), .v (.int .i64 p1.State), .v (.int .i64 p1.At), .v (.slice A_p1_Cells p1.Cells.length c_p1_Cells)] [2, 3, 4, 6, 34, 36, 37] [(2, (.int .i64 p2)), (3, (.pointer (some ⟨g2067, 0, none⟩))), (4, (.pointer (some ⟨g2071, 0, none⟩))), (6, (.pointer (some ⟨g2075, 0, none⟩))), (34, (.agg #[(.int .i64 p0.States), (.int .i64 p0.Symbols), (.slice A_p0_Actions p0.Actions.length c_p0_Actions)])), (36, (.agg #[(.int .i64 p0.States), (.int .i64 p0.Symbols), (.slice A_p0_Actions p0.Actions.length c_p0_Actions)])), (37, (.agg #[(.int .i64 p1.State), (.int .i64 p1.At), (.slice A_p1_Cells p1.Cells.length c_p1_Cells)]))] [] [0, 1, 2, 3, 4, 5, 6, 7, 8] [(0, ⟨g2067, 0, none⟩, (.int .i64 p0.States)), (0, ⟨g2067, 1, none⟩, (.int .i64 p0.Symbols)), (0, ⟨g2067, 2, none⟩, (.slice A_p0_Actions p0.Actions.length c_p0_Actions)), (2, ⟨g2067, 0, none⟩, (.int .i64 p0.States)), (2, ⟨g2067, 1, none⟩, (.int .i64 p0.Symbols)), (2, ⟨g2067, 2, none⟩, (.slice A_p0_Actions p0.Actions.length c_p0_Actions)), (3, ⟨g2071, 0, none⟩, (.int .i64 p1.State)), (3, ⟨g2071, 1, none⟩, (.int .i64 p1.At)), (3, ⟨g2071, 2, none⟩, (.slice A_p1_Cells p1.Cells.length c_p1_Cells))] (fun fb => by kernel_rfl) rfl trivial rfl ?_
  obtain ⟨t2118, ht2119, hf⟩ := bind_some hf
  refine WL.call (some 35) 41 #[(.agg #[(.int .i64 p0.States), (.int .i64 p0.Symbols), (.slice A_p0_Actions p0.Actions.length c_p0_Actions)])] (fun fb => by kernel_rfl) (machine_kitOf_calls _ p0 A_p0_Actions c_p0_Actions t2118 _ (hS2117.rd 0) ht2119) (fun v w2120 hR2121 => ?_)
  obtain ⟨g2123, A2124, c2125, A2126, c2127, rfl, hk_⟩ := hR2121
  have hS2122 : St NoS w w2120 [rowR enc_Action A_p0_Actions c_p0_Actions p0.Actions, rowR encInt A_p1_Cells c_p1_Cells p1.Cells] [blk g2123 (.cells #[(.int .i64 t2118.m.States), (.int .i64 t2118.m.Symbols), (.slice A_p0_Actions p0.Actions.length c_p0_Actions), (.slice A2124 t2118.set.length c2125), (.slice A2126 t2118.does.length c2127), (.int .i64 t2118.base)] 96 (0, 0)), rowO 65 enc_Tile A2124 c2125 t2118.set, rowO 3 encInt A2126 c2127 t2118.does, blk g2075 (.cells #[(.int .i64 0), (.int .i64 0), (.slice none 0 0)] 31 (0, 0)), blk g2071 (.cells #[(.int .i64 p1.State), (.int .i64 p1.At), (.slice A_p1_Cells p1.Cells.length c_p1_Cells)] 27 (0, 0)), blk g2067 (.cells #[(.int .i64 p0.States), (.int .i64 p0.Symbols), (.slice A_p0_Actions p0.Actions.length c_p0_Actions)] 24 (0, 0))] := hS2117.call hk_ [] [0, 1, 2] (fun g hg => hg.elim) (by simp) (by decide)
  refine ⟨⟨hS2122.cell 5 rfl 0 rfl, hS2122.cell 5 rfl 1 rfl, hS2122.cell 5 rfl 2 rfl, hS2122.cell 4 rfl 0 rfl, hS2122.cell 4 rfl 1 rfl, hS2122.cell 4 rfl 2 rfl, trivial⟩, ?_⟩
  obtain ⟨t2128, ht2129, hf⟩ := bind_some hf
  refine WL.call (some 38) 42 #[(.agg #[(.int .i64 p0.States), (.int .i64 p0.Symbols), (.slice A_p0_Actions p0.Actions.length c_p0_Actions)]), (.agg #[(.int .i64 p1.State), (.int .i64 p1.At), (.slice A_p1_Cells p1.Cells.length c_p1_Cells)])] (fun fb => by kernel_rfl) (machine_begin_calls p0 p1 A_p0_Actions c_p0_Actions A_p1_Cells c_p1_Cells t2128 _ (hS2122.rd 0) (hS2122.rd 1) ht2129) (fun v w2130 hR2131 => ?_)
  obtain ⟨g2133, A2134, c2135, rfl, hk_⟩ := hR2131
  have hS2132 : St NoS w w2130 [rowR enc_Action A_p0_Actions c_p0_Actions p0.Actions, rowR encInt A_p1_Cells c_p1_Cells p1.Cells] [blk g2133 (.cells #[(.int .i64 t2128.m.States), (.int .i64 t2128.m.Symbols), (.slice A_p0_Actions p0.Actions.length c_p0_Actions), (.int .i64 t2128.Config.State), (.int .i64 t2128.Config.At), (.slice A2134 t2128.Config.Cells.length c2135)] 82 (0, 0)), rowO 3 encInt A2134 c2135 t2128.Config.Cells, blk g2123 (.cells #[(.int .i64 t2118.m.States), (.int .i64 t2118.m.Symbols), (.slice A_p0_Actions p0.Actions.length c_p0_Actions), (.slice A2124 t2118.set.length c2125), (.slice A2126 t2118.does.length c2127), (.int .i64 t2118.base)] 96 (0, 0)), rowO 65 enc_Tile A2124 c2125 t2118.set, rowO 3 encInt A2126 c2127 t2118.does, blk g2075 (.cells #[(.int .i64 0), (.int .i64 0), (.slice none 0 0)] 31 (0, 0)), blk g2071 (.cells #[(.int .i64 p1.State), (.int .i64 p1.At), (.slice A_p1_Cells p1.Cells.length c_p1_Cells)] 27 (0, 0)), blk g2067 (.cells #[(.int .i64 p0.States), (.int .i64 p0.Symbols), (.slice A_p0_Actions p0.Actions.length c_p0_Actions)] 24 (0, 0))] := hS2122.call hk_ [] [0, 1, 2, 3, 4, 5] (fun g hg => hg.elim) (by simp) (by decide)
  refine ⟨trivial, ?_⟩
  refine seg 7 [] [2, 3, 4, 6, 8, 9] [(2, (.int .i64 p2)), (3, (.pointer (some ⟨g2067, 0, none⟩))), (4, (.pointer (some ⟨g2071, 0, none⟩))), (6, (.pointer (some ⟨g2075, 0, none⟩))), (8, (.pointer (some ⟨g2123, 0, none⟩))), (9, (.pointer (some ⟨g2133, 0, none⟩)))] [] (fun fb => by kernel_rfl) rfl trivial ?_
  refine WL.done rfl ?_
  refine WX.next ?_
  refine WC.seq ?_
  refine WC.region ?_
  refine seg 5 [.v (.slice A_p1_Cells p1.Cells.length c_p1_Cells)] [2, 3, 6, 8, 9, 43] [(2, (.int .i64 p2)), (3, (.pointer (some ⟨g2067, 0, none⟩))), (6, (.pointer (some ⟨g2075, 0, none⟩))), (8, (.pointer (some ⟨g2123, 0, none⟩))), (9, (.pointer (some ⟨g2133, 0, none⟩))), (43, (.agg #[(.int .i64 (p1.Cells.length : Int)), (.int .i64 p2), (.slice none 0 0)]))] [.cell ⟨g2071, 2, none⟩ (.slice A_p1_Cells p1.Cells.length c_p1_Cells)] (fun fb => by kernel_rfl) rfl ⟨hS2132.cell 6 rfl 2 rfl, trivial⟩ ?_
  refine WL.new hS2132 10 [] (fun g => (.pointer (some ⟨g, 0, none⟩))) (.cells #[(.int .i64 0), (.int .i64 0), (.slice none 0 0)] 31 (0, 0)) [] (fun fb g => by kernel_rfl) trivial (fun g2136 w2137 hS2138 => ?_)
  refine ⟨trivial, ?_⟩
  refine WL.store hS2138 0 rfl [(0, (.int .i64 (p1.Cells.length : Int))), (1, (.int .i64 p2)), (2, (.slice none 0 0))] #[(.int .i64 (p1.Cells.length : Int)), (.int .i64 p2), (.slice none 0 0)] (fun fb => by kernel_rfl) (by kernel_rfl) rfl [1, 2, 3, 4, 5, 6, 7, 8] (by decide) (by decide) (fun w2140 hS2141 => ?_)
  refine ⟨trivial, ?_⟩
  refine WL.done rfl ?_
  refine WX.next ?_
  refine WC.seq ?_
  refine WC.seq ?_
  refine WC.region ?_
  refine seg 2 [] [3, 6, 8, 9, 10, 44, 45] [(3, (.pointer (some ⟨g2067, 0, none⟩))), (6, (.pointer (some ⟨g2075, 0, none⟩))), (8, (.pointer (some ⟨g2123, 0, none⟩))), (9, (.pointer (some ⟨g2133, 0, none⟩))), (10, (.pointer (some ⟨g2136, 0, none⟩))), (44, (.int .i64 p2)), (45, (.int .i64 0))] [] (fun fb => by kernel_rfl) rfl trivial ?_
  refine WL.done rfl ?_
  refine WX.next ?_
  have hS2626 := hS2141.nilrow 3 encInt
  obtain ⟨x2642, hx2643, hf⟩ := bind_some hf
  refine WC.cutN (T := (List Int) × (Option Addr) × Nat) (fun t => [(6, (.pointer (some ⟨g2075, 0, none⟩))), (10, (.pointer (some ⟨g2136, 0, none⟩)))]) (fun t w1 => St NoS w w1 [rowR enc_Action A_p0_Actions c_p0_Actions p0.Actions, rowR encInt A_p1_Cells c_p1_Cells p1.Cells] [blk g2075 (.cells #[(.int .i64 0), (.int .i64 0), (.slice none 0 0)] 31 (0, 0)), blk g2136 (.cells #[(.int .i64 (p1.Cells.length : Int)), (.int .i64 p2), (.slice t.2.1 t.1.length t.2.2)] 31 (0, 0)), rowO 3 encInt t.2.1 t.2.2 t.1] ∧ x2642 = .inr t.1) (fun Kx2642 => ?_) ?_
  ·
    refine WC.block ?_
    refine WC.loop (T := (Int × Int × Int × Int × (List Int) × (List Int) × Int) × Nat × (Option Addr) × Nat × (Option Addr) × Nat) (fun t => [(3, (.pointer (some ⟨g2067, 0, none⟩))), (6, (.pointer (some ⟨g2075, 0, none⟩))), (8, (.pointer (some ⟨g2123, 0, none⟩))), (9, (.pointer (some ⟨t.2.1, 0, none⟩))), (10, (.pointer (some ⟨g2136, 0, none⟩))), (44, (.int .i64 p2)), (45, (.int .i64 t.1.2.2.2.2.2.2))]) (fun n t w1 => St NoS w w1 [rowR enc_Action A_p0_Actions c_p0_Actions p0.Actions, rowR encInt A_p1_Cells c_p1_Cells p1.Cells] [blk g2067 (.cells #[(.int .i64 p0.States), (.int .i64 p0.Symbols), (.slice A_p0_Actions p0.Actions.length c_p0_Actions)] 24 (0, 0)), blk g2075 (.cells #[(.int .i64 0), (.int .i64 0), (.slice none 0 0)] 31 (0, 0)), blk g2123 (.cells #[(.int .i64 t2118.m.States), (.int .i64 t2118.m.Symbols), (.slice A_p0_Actions p0.Actions.length c_p0_Actions), (.slice A2124 t2118.set.length c2125), (.slice A2126 t2118.does.length c2127), (.int .i64 t2118.base)] 96 (0, 0)), rowO 65 enc_Tile A2124 c2125 t2118.set, rowO 3 encInt A2126 c2127 t2118.does, blk t.2.1 (.cells #[(.int .i64 t.1.1), (.int .i64 t.1.2.1), (.slice A_p0_Actions p0.Actions.length c_p0_Actions), (.int .i64 t.1.2.2.1), (.int .i64 t.1.2.2.2.1), (.slice t.2.2.1 t.1.2.2.2.2.1.length t.2.2.2.1)] 82 (0, 0)), rowO 3 encInt t.2.2.1 t.2.2.2.1 t.1.2.2.2.2.1, blk g2136 (.cells #[(.int .i64 (p1.Cells.length : Int)), (.int .i64 p2), (.slice t.2.2.2.2.1 t.1.2.2.2.2.2.1.length t.2.2.2.2.2)] 31 (0, 0)), rowO 3 encInt t.2.2.2.2.1 t.2.2.2.2.2 t.1.2.2.2.2.2.1] ∧ machine_Picture.l0 n t.1.1 t.1.2.1 t.1.2.2.1 t.1.2.2.2.1 t.1.2.2.2.2.1 t.1.2.2.2.2.2.1 t.1.2.2.2.2.2.2 p0 p2 t2118 = some x2642) k ((t2128.m.States, t2128.m.Symbols, t2128.Config.State, t2128.Config.At, t2128.Config.Cells, ([] : List Int), 0), g2133, A2134, c2135, none, 0) [3, 6, 8, 9, 10, 44, 45] rfl ⟨(hS2626.subR [0, 1]).sub [9, 7, 4, 5, 6, 2, 3, 1, 0] (by decide), hx2643⟩ ?_
    rintro k2644 ⟨⟨x2628, x2629, x2630, x2631, l2634, l2637, x2638⟩, g2627, A2632, c2633, A2635, c2636⟩ w2645 ⟨hS2646, hl2647⟩
    cases k2644 with
    | zero => rw [machine_Picture.l0] at hl2647; cases hl2647
    | succ k2644 =>
      rw [machine_Picture.l0] at hl2647
      refine WC.seq ?_
      refine WC.region ?_
      refine seg 1 [] [3, 6, 8, 9, 10, 44, 45, 46] [(3, (.pointer (some ⟨g2067, 0, none⟩))), (6, (.pointer (some ⟨g2075, 0, none⟩))), (8, (.pointer (some ⟨g2123, 0, none⟩))), (9, (.pointer (some ⟨g2627, 0, none⟩))), (10, (.pointer (some ⟨g2136, 0, none⟩))), (44, (.int .i64 p2)), (45, (.int .i64 x2638)), (46, (.bool (decide (x2638 < p2))))] [] (fun fb => by kernel_rfl) rfl trivial ?_
      refine WL.done rfl ?_
      refine WX.next ?_
      refine WC.seq ?_
      rcases br_some hl2647 with ⟨h2648, hl2647⟩ | ⟨h2648, hl2647⟩
      · refine WC.condT2 (fun fb => by kernel_rfl) h2648 ?_
        refine WC.skip ?_
        refine WX.next ?_
        refine WC.seq ?_
        refine WC.block ?_
        refine WC.seq ?_
        refine WC.regionD ([(0, ⟨g2067, 0, none⟩, (.int .i64 p0.States)), (0, ⟨g2067, 1, none⟩, (.int .i64 p0.Symbols)), (0, ⟨g2067, 2, none⟩, (.slice A_p0_Actions p0.Actions.length c_p0_Actions)), (4, ⟨g2627, 3, none⟩, (.int .i64 x2630)), (4, ⟨g2627, 4, none⟩, (.int .i64 x2631)), (4, ⟨g2627, 5, none⟩, (.slice A2632 l2634.length c2633))], [0, 1, 2, 3, 4, 6], [[], [], [1], [1, 2], [1, 2, 3], [0, 1, 2, 3, 4], [0, 1, 2, 3, 4, 5]]) [[0, 1, 2, 3, 4, 5, 6]] (by kernel_rfl) (by kernel_rfl) (NoPanic.seq (NoPanic.block (NoPanic.seq (NoPanic.seq (NoPanic.block (NoPanic.seq (NoPanic.body))))))) ?_
        have hS2658 := hS2646.drew
        revert hS2658
        generalize World.drew w2645 = w2657
        intro hS2658
        refine ⟨⟨hS2658.cell 0 rfl 0 rfl, hS2658.cell 0 rfl 1 rfl, hS2658.cell 0 rfl 2 rfl, hS2658.cell 5 rfl 3 rfl, hS2658.cell 5 rfl 4 rfl, hS2658.cell 5 rfl 5 rfl, trivial⟩, forallC ?_ (forallN)⟩
        refine segF 5 [.v (.int .i64 p0.States), .v (.int .i64 p0.Symbols), .v (.slice A_p0_Actions p0.Actions.length c_p0_Actions), .v (.int .i64 x2630), .v (.int .i64 x2631), .v (.slice A2632 l2634.length c2633)] [3, 6, 8, 9, 10, 44, 45, 47, 51] [(3, (.pointer (some ⟨g2067, 0, none⟩))), (6, (.pointer (some ⟨g2075, 0, none⟩))), (8, (.pointer (some ⟨g2123, 0, none⟩))), (9, (.pointer (some ⟨g2627, 0, none⟩))), (10, (.pointer (some ⟨g2136, 0, none⟩))), (44, (.int .i64 p2)), (45, (.int .i64 x2638)), (47, (.agg #[(.int .i64 p0.States), (.int .i64 p0.Symbols), (.slice A_p0_Actions p0.Actions.length c_p0_Actions)])), (51, (.agg #[(.int .i64 x2630), (.int .i64 x2631), (.slice A2632 l2634.length c2633)]))] [] [0, 1, 2, 3, 4, 5] [(0, ⟨g2067, 0, none⟩, (.int .i64 p0.States)), (0, ⟨g2067, 1, none⟩, (.int .i64 p0.Symbols)), (0, ⟨g2067, 2, none⟩, (.slice A_p0_Actions p0.Actions.length c_p0_Actions)), (4, ⟨g2627, 3, none⟩, (.int .i64 x2630)), (4, ⟨g2627, 4, none⟩, (.int .i64 x2631)), (4, ⟨g2627, 5, none⟩, (.slice A2632 l2634.length c2633))] (fun fb => by kernel_rfl) rfl trivial rfl ?_
        obtain ⟨t2659, ht2660, hl2647⟩ := bind_some hl2647
        refine WL.call (some 52) 42 #[(.agg #[(.int .i64 p0.States), (.int .i64 p0.Symbols), (.slice A_p0_Actions p0.Actions.length c_p0_Actions)]), (.agg #[(.int .i64 x2630), (.int .i64 x2631), (.slice A2632 l2634.length c2633)])] (fun fb => by kernel_rfl) (machine_begin_calls p0 (Config.mk x2630 x2631 l2634) A_p0_Actions c_p0_Actions A2632 c2633 t2659 _ (hS2658.rd 0) (hS2658.ow 6).ofO ht2660) (fun v w2661 hR2662 => ?_)
        obtain ⟨g2664, A2665, c2666, rfl, hk_⟩ := hR2662
        have hS2663 : St NoS w w2661 [rowR enc_Action A_p0_Actions c_p0_Actions p0.Actions, rowR encInt A_p1_Cells c_p1_Cells p1.Cells] [blk g2664 (.cells #[(.int .i64 t2659.m.States), (.int .i64 t2659.m.Symbols), (.slice A_p0_Actions p0.Actions.length c_p0_Actions), (.int .i64 t2659.Config.State), (.int .i64 t2659.Config.At), (.slice A2665 t2659.Config.Cells.length c2666)] 82 (0, 0)), rowO 3 encInt A2665 c2666 t2659.Config.Cells, blk g2067 (.cells #[(.int .i64 p0.States), (.int .i64 p0.Symbols), (.slice A_p0_Actions p0.Actions.length c_p0_Actions)] 24 (0, 0)), blk g2075 (.cells #[(.int .i64 0), (.int .i64 0), (.slice none 0 0)] 31 (0, 0)), blk g2123 (.cells #[(.int .i64 t2118.m.States), (.int .i64 t2118.m.Symbols), (.slice A_p0_Actions p0.Actions.length c_p0_Actions), (.slice A2124 t2118.set.length c2125), (.slice A2126 t2118.does.length c2127), (.int .i64 t2118.base)] 96 (0, 0)), rowO 65 enc_Tile A2124 c2125 t2118.set, rowO 3 encInt A2126 c2127 t2118.does, blk g2627 (.cells #[(.int .i64 x2628), (.int .i64 x2629), (.slice A_p0_Actions p0.Actions.length c_p0_Actions), (.int .i64 x2630), (.int .i64 x2631), (.slice A2632 l2634.length c2633)] 82 (0, 0)), rowO 3 encInt A2632 c2633 l2634, blk g2136 (.cells #[(.int .i64 (p1.Cells.length : Int)), (.int .i64 p2), (.slice A2635 l2637.length c2636)] 31 (0, 0)), rowO 3 encInt A2635 c2636 l2637] := hS2658.call hk_ [] [0, 1, 2, 3, 4, 5, 6, 7, 8] (fun g hg => hg.elim) (by simp) (by decide)
        refine ⟨trivial, ?_⟩
        refine seg 7 [] [3, 6, 8, 9, 10, 11, 44, 45] [(3, (.pointer (some ⟨g2067, 0, none⟩))), (6, (.pointer (some ⟨g2075, 0, none⟩))), (8, (.pointer (some ⟨g2123, 0, none⟩))), (9, (.pointer (some ⟨g2627, 0, none⟩))), (10, (.pointer (some ⟨g2136, 0, none⟩))), (11, (.pointer (some ⟨g2664, 0, none⟩))), (44, (.int .i64 p2)), (45, (.int .i64 x2638))] [] (fun fb => by kernel_rfl) rfl trivial ?_
        refine WL.done rfl ?_
        refine WX.next ?_
        refine WC.seq ?_
        refine WC.seq ?_
        refine WC.region ?_
        refine seg 1 [] [3, 6, 8, 9, 10, 11, 44, 45, 53] [(3, (.pointer (some ⟨g2067, 0, none⟩))), (6, (.pointer (some ⟨g2075, 0, none⟩))), (8, (.pointer (some ⟨g2123, 0, none⟩))), (9, (.pointer (some ⟨g2627, 0, none⟩))), (10, (.pointer (some ⟨g2136, 0, none⟩))), (11, (.pointer (some ⟨g2664, 0, none⟩))), (44, (.int .i64 p2)), (45, (.int .i64 x2638)), (53, (.pointer (some ⟨g2664, 0, none⟩)))] [] (fun fb => by kernel_rfl) rfl trivial ?_
        obtain ⟨t2667, ht2668, hl2647⟩ := bind_some hl2647
        refine WL.call (some 54) 43 #[(.pointer (some ⟨g2664, 0, none⟩))] (fun fb => by kernel_rfl) (machine_runner_step_calls (Runner.mk (Machine.mk t2659.m.States t2659.m.Symbols p0.Actions) t2659.Config) g2664 A_p0_Actions c_p0_Actions A2665 c2666 t2667 _ (hS2663.rdT [0, 1] 0) (hS2663.io [0, 1] (by decide)) ht2668) (fun v w2669 hR2670 => ?_)
        obtain ⟨A2672, c2673, rfl, hk_⟩ := hR2670
        have hS2671 : St NoS w w2669 [rowR enc_Action A_p0_Actions c_p0_Actions p0.Actions, rowR encInt A_p1_Cells c_p1_Cells p1.Cells] [blk g2664 (.cells #[(.int .i64 t2667.2.m.States), (.int .i64 t2667.2.m.Symbols), (.slice A_p0_Actions p0.Actions.length c_p0_Actions), (.int .i64 t2667.2.Config.State), (.int .i64 t2667.2.Config.At), (.slice A2672 t2667.2.Config.Cells.length c2673)] 82 (0, 0)), rowO 3 encInt A2672 c2673 t2667.2.Config.Cells, blk g2067 (.cells #[(.int .i64 p0.States), (.int .i64 p0.Symbols), (.slice A_p0_Actions p0.Actions.length c_p0_Actions)] 24 (0, 0)), blk g2075 (.cells #[(.int .i64 0), (.int .i64 0), (.slice none 0 0)] 31 (0, 0)), blk g2123 (.cells #[(.int .i64 t2118.m.States), (.int .i64 t2118.m.Symbols), (.slice A_p0_Actions p0.Actions.length c_p0_Actions), (.slice A2124 t2118.set.length c2125), (.slice A2126 t2118.does.length c2127), (.int .i64 t2118.base)] 96 (0, 0)), rowO 65 enc_Tile A2124 c2125 t2118.set, rowO 3 encInt A2126 c2127 t2118.does, blk g2627 (.cells #[(.int .i64 x2628), (.int .i64 x2629), (.slice A_p0_Actions p0.Actions.length c_p0_Actions), (.int .i64 x2630), (.int .i64 x2631), (.slice A2632 l2634.length c2633)] 82 (0, 0)), rowO 3 encInt A2632 c2633 l2634, blk g2136 (.cells #[(.int .i64 (p1.Cells.length : Int)), (.int .i64 p2), (.slice A2635 l2637.length c2636)] 31 (0, 0)), rowO 3 encInt A2635 c2636 l2637] := hS2663.call hk_ [0, 1] [2, 3, 4, 5, 6, 7, 8, 9, 10] (fun g hg => fpL_sel g hg) (by decide) (by decide)
        refine ⟨trivial, ?_⟩
        refine seg 3 [] [3, 6, 8, 9, 10, 11, 44, 45, 55] [(3, (.pointer (some ⟨g2067, 0, none⟩))), (6, (.pointer (some ⟨g2075, 0, none⟩))), (8, (.pointer (some ⟨g2123, 0, none⟩))), (9, (.pointer (some ⟨g2627, 0, none⟩))), (10, (.pointer (some ⟨g2136, 0, none⟩))), (11, (.pointer (some ⟨g2664, 0, none⟩))), (44, (.int .i64 p2)), (45, (.int .i64 x2638)), (55, (.bool (t2667.1 != 0)))] [] (fun fb => by kernel_rfl) rfl trivial ?_
        refine WL.done rfl ?_
        refine WX.next ?_
        rcases br_some hl2647 with ⟨h2674, hl2647⟩ | ⟨h2674, hl2647⟩
        · refine WC.condT2 (fun fb => by kernel_rfl) h2674 ?_
          refine WC.seq ?_
          refine WC.region ?_
          refine seg 1 [] [6, 56] [(6, (.pointer (some ⟨g2075, 0, none⟩))), (56, (.agg #[(.int .i64 0), (.int .i64 0), (.slice none 0 0)]))] [] (fun fb => by kernel_rfl) rfl trivial ?_
          refine WL.store hS2671 3 rfl [(0, (.int .i64 0)), (1, (.int .i64 0)), (2, (.slice none 0 0))] #[(.int .i64 0), (.int .i64 0), (.slice none 0 0)] (fun fb => by kernel_rfl) (by kernel_rfl) rfl [0, 1, 2, 4, 5, 6, 7, 8, 9, 10] (by decide) (by decide) (fun w2675 hS2676 => ?_)
          refine ⟨trivial, ?_⟩
          refine seg 3 [] [6, 7] [(6, (.pointer (some ⟨g2075, 0, none⟩))), (7, (.int .i64 6))] [] (fun fb => by kernel_rfl) rfl trivial ?_
          refine WL.done rfl ?_
          refine WX.next ?_
          refine WC.ret ?_
          have hS2677 := hS2676.nilrow 3 encInt
          injection hl2647 with hl2647
          subst hl2647
          injection hf with hf
          subst hf
          exact WX.thenR (WX.blockR (WX.thenR (WX.thenR (WX.blockR (WX.thenR (WX.ret_ [.v (.int .i64 0), .v (.int .i64 0), .v (.slice none 0 0)] (.tuple #[(.agg #[(.int .i64 0), (.int .i64 0), (.slice none ([] : List Int).length 0)]), (.int .i64 6)]) [.cell ⟨g2075, 0, none⟩ (.int .i64 0), .cell ⟨g2075, 1, none⟩ (.int .i64 0), .cell ⟨g2075, 2, none⟩ (.slice none 0 0)] (fun fb => by kernel_rfl) ⟨hS2676.cell 0 rfl 0 rfl, hS2676.cell 0 rfl 1 rfl, hS2676.cell 0 rfl 2 rfl, trivial⟩ ⟨_, rfl, none, 0, rfl, (hS2677.sub [0] (by decide)).noR⟩))))))
        refine WC.condF2 (fun fb => by kernel_rfl) h2674 ?_
        refine WC.skip ?_
        refine WX.next ?_
        refine WC.seq ?_
        refine WC.regionD ([(1, ⟨g2136, 2, none⟩, (.slice A2635 l2637.length c2636))], [0, 1, 2, 3, 6], [[], [0], [], [], [2, 3], [0, 1, 2, 3, 4], [0, 1, 2, 3, 4, 5], [0, 1, 2, 3, 4, 5, 6]]) [[0, 1, 2, 3, 4, 5, 6, 7]] (by kernel_rfl) (by kernel_rfl) (NoPanic.seq (NoPanic.block (NoPanic.seq (NoPanic.seq (NoPanic.block (NoPanic.seq (NoPanic.body))))))) ?_
        have hS2693 := hS2671.drew
        revert hS2693
        generalize World.drew w2669 = w2692
        intro hS2693
        refine ⟨⟨hS2693.cell 9 rfl 2 rfl, trivial⟩, forallC ?_ (forallN)⟩
        refine segF 4 [.v (.slice A2635 l2637.length c2636)] [3, 6, 8, 10, 11, 44, 45, 58, 59, 60] [(3, (.pointer (some ⟨g2067, 0, none⟩))), (6, (.pointer (some ⟨g2075, 0, none⟩))), (8, (.pointer (some ⟨g2123, 0, none⟩))), (10, (.pointer (some ⟨g2136, 0, none⟩))), (11, (.pointer (some ⟨g2664, 0, none⟩))), (44, (.int .i64 p2)), (45, (.int .i64 x2638)), (58, (.slice A2635 l2637.length c2636)), (59, (.pointer (some ⟨g2123, 0, none⟩))), (60, (.pointer (some ⟨g2627, 0, none⟩)))] [] [0] [(1, ⟨g2136, 2, none⟩, (.slice A2635 l2637.length c2636))] (fun fb => by kernel_rfl) rfl trivial rfl ?_
        obtain ⟨t2694, ht2695, hl2647⟩ := bind_some hl2647
        refine WL.call (some 61) 44 #[(.pointer (some ⟨g2123, 0, none⟩)), (.pointer (some ⟨g2627, 0, none⟩))] (fun fb => by kernel_rfl) (machine_kit_row_calls _ (Kit.mk (Machine.mk t2118.m.States t2118.m.Symbols p0.Actions) t2118.set t2118.does t2118.base) (Runner.mk (Machine.mk x2628 x2629 p0.Actions) (Config.mk x2630 x2631 l2634)) g2123 A_p0_Actions c_p0_Actions A2124 c2125 A2126 c2127 g2627 A_p0_Actions c_p0_Actions A2632 c2633 t2694 _ (hS2693.ow 4) (hS2693.rd 0) (hS2693.ow 5).ofO (hS2693.ow 6).ofO (hS2693.ow 7) (hS2693.rd 0) (hS2693.ow 8).ofO ht2695) (fun v w2696 hR2697 => ?_)
        obtain ⟨A2699, c2700, rfl, hk_⟩ := hR2697
        have hS2698 : St NoS w w2696 [rowR enc_Action A_p0_Actions c_p0_Actions p0.Actions, rowR encInt A_p1_Cells c_p1_Cells p1.Cells] [rowO 3 encInt A2699 c2700 t2694, blk g2664 (.cells #[(.int .i64 t2667.2.m.States), (.int .i64 t2667.2.m.Symbols), (.slice A_p0_Actions p0.Actions.length c_p0_Actions), (.int .i64 t2667.2.Config.State), (.int .i64 t2667.2.Config.At), (.slice A2672 t2667.2.Config.Cells.length c2673)] 82 (0, 0)), rowO 3 encInt A2672 c2673 t2667.2.Config.Cells, blk g2067 (.cells #[(.int .i64 p0.States), (.int .i64 p0.Symbols), (.slice A_p0_Actions p0.Actions.length c_p0_Actions)] 24 (0, 0)), blk g2075 (.cells #[(.int .i64 0), (.int .i64 0), (.slice none 0 0)] 31 (0, 0)), blk g2123 (.cells #[(.int .i64 t2118.m.States), (.int .i64 t2118.m.Symbols), (.slice A_p0_Actions p0.Actions.length c_p0_Actions), (.slice A2124 t2118.set.length c2125), (.slice A2126 t2118.does.length c2127), (.int .i64 t2118.base)] 96 (0, 0)), rowO 65 enc_Tile A2124 c2125 t2118.set, rowO 3 encInt A2126 c2127 t2118.does, blk g2627 (.cells #[(.int .i64 x2628), (.int .i64 x2629), (.slice A_p0_Actions p0.Actions.length c_p0_Actions), (.int .i64 x2630), (.int .i64 x2631), (.slice A2632 l2634.length c2633)] 82 (0, 0)), rowO 3 encInt A2632 c2633 l2634, blk g2136 (.cells #[(.int .i64 (p1.Cells.length : Int)), (.int .i64 p2), (.slice A2635 l2637.length c2636)] 31 (0, 0)), rowO 3 encInt A2635 c2636 l2637] := hS2693.call hk_ [] [0, 1, 2, 3, 4, 5, 6, 7, 8, 9, 10] (fun g hg => hg.elim) (by simp) (by decide)
        refine ⟨⟨hS2698.cell 10 rfl 2 rfl, trivial⟩, ?_⟩
        obtain ⟨h2701, hl2647⟩ := as_some hl2647
        refine WL.append hS2698 11 (d := 62) (tS := 25) (z := (.int .i64 0)) (bytes := 8) (c2 := c2700) rfl (fun fb => by kernel_rfl) (rowO.rd (hS2698.own 0).1) (by kernel_rfl) (by kernel_rfl) rfl (by decide) h2701 (by decide) [0, 1, 2, 3, 4, 5, 6, 7, 8, 9, 10] (by decide) (by decide) (fun A2702 c2703 w2704 hS2705 => ?_)
        refine ⟨trivial, ?_⟩
        refine seg 7 [] [3, 6, 8, 10, 11, 44, 45, 62, 63] [(3, (.pointer (some ⟨g2067, 0, none⟩))), (6, (.pointer (some ⟨g2075, 0, none⟩))), (8, (.pointer (some ⟨g2123, 0, none⟩))), (10, (.pointer (some ⟨g2136, 0, none⟩))), (11, (.pointer (some ⟨g2664, 0, none⟩))), (44, (.int .i64 p2)), (45, (.int .i64 x2638)), (62, (.slice A2702 (l2637 ++ t2694).length c2703)), (63, (.pointer (some ⟨g2136, 2, none⟩)))] [] (fun fb => by kernel_rfl) rfl trivial ?_
        refine WL.store hS2705 11 rfl [(2, (.slice A2702 (l2637 ++ t2694).length c2703))] #[(.int .i64 (p1.Cells.length : Int)), (.int .i64 p2), (.slice A2702 (l2637 ++ t2694).length c2703)] (fun fb => by kernel_rfl) (by kernel_rfl) rfl [0, 1, 2, 3, 4, 5, 6, 7, 8, 9, 10] (by decide) (by decide) (fun w2706 hS2707 => ?_)
        refine ⟨trivial, ?_⟩
        refine WL.done rfl ?_
        refine WX.next ?_
        refine WC.region ?_
        refine seg 2 [] [3, 6, 8, 9, 10, 44, 45] [(3, (.pointer (some ⟨g2067, 0, none⟩))), (6, (.pointer (some ⟨g2075, 0, none⟩))), (8, (.pointer (some ⟨g2123, 0, none⟩))), (9, (.pointer (some ⟨g2664, 0, none⟩))), (10, (.pointer (some ⟨g2136, 0, none⟩))), (44, (.int .i64 p2)), (45, (.int .i64 x2638))] [] (fun fb => by kernel_rfl) rfl trivial ?_
        refine WL.done rfl ?_
        refine WX.blockN (WX.next ?_)
        refine WC.region ?_
        refine seg 2 [] [3, 6, 8, 9, 10, 44, 45] [(3, (.pointer (some ⟨g2067, 0, none⟩))), (6, (.pointer (some ⟨g2075, 0, none⟩))), (8, (.pointer (some ⟨g2123, 0, none⟩))), (9, (.pointer (some ⟨g2664, 0, none⟩))), (10, (.pointer (some ⟨g2136, 0, none⟩))), (44, (.int .i64 p2)), (45, (.int .i64 (w64 (x2638 + 1))))] [] (fun fb => by kernel_rfl) rfl trivial ?_
        refine WL.done rfl ?_
        exact WX.again k2644 (Nat.lt_succ_self _) ((t2667.2.m.States, t2667.2.m.Symbols, t2667.2.Config.State, t2667.2.Config.At, t2667.2.Config.Cells, l2637 ++ t2694, w64 (x2638 + 1)), g2664, A2672, c2673, A2702, c2703) [3, 6, 8, 9, 10, 44, 45] rfl ⟨(hS2707.subR [0, 1]).sub [5, 6, 7, 8, 9, 3, 4, 0, 1] (by decide), hl2647⟩
      refine WC.condF2 (fun fb => by kernel_rfl) h2648 ?_
      refine WC.exit ?_
      injection hl2647 with hl2647
      exact WX.thenX (WX.thenX (WX.blockHere (WX.to Kx2642 (l2637, A2635, c2636) [6, 10] rfl ⟨(hS2646.subR [0, 1]).sub [1, 7, 8] (by decide), hl2647.symm⟩)))
  rintro ⟨y2711, A2639, c2640⟩ w2708 ⟨hS2709, hq2710⟩
  subst hq2710
  have hf := sum_inr hf
  refine WX.next ?_
  refine WC.seq ?_
  refine WC.region ?_
  refine seg 1 [.v (.int .i64 (p1.Cells.length : Int)), .v (.int .i64 p2), .v (.slice A2639 y2711.length c2640)] [6, 66] [(6, (.pointer (some ⟨g2075, 0, none⟩))), (66, (.agg #[(.int .i64 (p1.Cells.length : Int)), (.int .i64 p2), (.slice A2639 y2711.length c2640)]))] [.cell ⟨g2136, 0, none⟩ (.int .i64 (p1.Cells.length : Int)), .cell ⟨g2136, 1, none⟩ (.int .i64 p2), .cell ⟨g2136, 2, none⟩ (.slice A2639 y2711.length c2640)] (fun fb => by kernel_rfl) rfl ⟨hS2709.cell 1 rfl 0 rfl, hS2709.cell 1 rfl 1 rfl, hS2709.cell 1 rfl 2 rfl, trivial⟩ ?_
  refine WL.store hS2709 0 rfl [(0, (.int .i64 (p1.Cells.length : Int))), (1, (.int .i64 p2)), (2, (.slice A2639 y2711.length c2640))] #[(.int .i64 (p1.Cells.length : Int)), (.int .i64 p2), (.slice A2639 y2711.length c2640)] (fun fb => by kernel_rfl) (by kernel_rfl) rfl [1, 2] (by decide) (by decide) (fun w2713 hS2714 => ?_)
  refine ⟨trivial, ?_⟩
  refine seg 3 [] [6, 7] [(6, (.pointer (some ⟨g2075, 0, none⟩))), (7, (.int .i64 0))] [] (fun fb => by kernel_rfl) rfl trivial ?_
  refine WL.done rfl ?_
  refine WX.next ?_
  refine WC.ret ?_
  injection hf with hf
  subst hf
  exact WX.ret_ [.v (.int .i64 (p1.Cells.length : Int)), .v (.int .i64 p2), .v (.slice A2639 y2711.length c2640)] (.tuple #[(.agg #[(.int .i64 (p1.Cells.length : Int)), (.int .i64 p2), (.slice A2639 y2711.length c2640)]), (.int .i64 0)]) [.cell ⟨g2075, 0, none⟩ (.int .i64 (p1.Cells.length : Int)), .cell ⟨g2075, 1, none⟩ (.int .i64 p2), .cell ⟨g2075, 2, none⟩ (.slice A2639 y2711.length c2640)] (fun fb => by kernel_rfl) ⟨hS2714.cell 0 rfl 0 rfl, hS2714.cell 0 rfl 1 rfl, hS2714.cell 0 rfl 2 rfl, trivial⟩ ⟨_, rfl, A2639, c2640, rfl, (hS2714.sub [2] (by decide)).noR⟩
theorem law08_awake_calls (k : Nat)   (r : Bool) (w : World)  (hf : law08_awake k = some r) :
    CallsR Try.prog 11 #[] w (fun v w' => v = (.bool r) ∧ Keeps NoS w w') := by
  have hS : St NoS w w [] [] := St.init (ro_nil _ _)
  refine enter 52 Try.func11 rfl Try.ntmps11 rfl ?_
  unfold law08_awake at hf
  refine WC.seq ?_
  refine WC.region ?_
  refine seg 1 [] [] [] [] (fun fb => by kernel_rfl) rfl trivial ?_
  refine WL.done rfl ?_
  refine WX.next ?_
  refine WC.seq ?_
  refine WC.region ?_
  obtain ⟨t51, ht52, hf⟩ := bind_some hf
  refine WL.call (some 9) 40 #[] (fun fb => by kernel_rfl) (law08_goes_calls t51 _ ht52) (fun v w53 hR54 => ?_)
  obtain ⟨A56, c57, rfl, hk_⟩ := hR54
  have hS55 : St NoS w w53 [] [rowO 88 enc_Action A56 c57 t51.Actions] := hS.call hk_ [] [] (fun g hg => hg.elim) (by simp) (by decide)
  refine ⟨trivial, ?_⟩
  obtain ⟨t1500, ht1501, hf⟩ := bind_some hf
  refine WL.call (some 10) 25 #[(.agg #[(.int .i64 t51.States), (.int .i64 t51.Symbols), (.slice A56 t51.Actions.length c57)])] (fun fb => by kernel_rfl) (machine_Tiles_calls _ t51 A56 c57 t1500 _ (hS55.ow 0).ofO ht1501) (fun v w1502 hR1503 => ?_)
  obtain ⟨A1505, c1506, rfl, hk_⟩ := hR1503
  have hS1504 : St NoS w w1502 [] [rowO 65 enc_Tile A1505 c1506 t1500.1, rowO 88 enc_Action A56 c57 t51.Actions] := hS55.call hk_ [] [0] (fun g hg => hg.elim) (by simp) (by decide)
  refine ⟨trivial, ?_⟩
  refine seg 7 [] [1, 2] [(1, (.slice A1505 t1500.1.length c1506)), (2, (.int .i64 t1500.2))] [] (fun fb => by kernel_rfl) rfl trivial ?_
  refine WL.done rfl ?_
  refine WX.next ?_
  refine WC.seq ?_
  refine WC.region ?_
  obtain ⟨t1507, ht1508, hf⟩ := bind_some hf
  refine WL.call (some 14) 40 #[] (fun fb => by kernel_rfl) (law08_goes_calls t1507 _ ht1508) (fun v w1509 hR1510 => ?_)
  obtain ⟨A1512, c1513, rfl, hk_⟩ := hR1510
  have hS1511 : St NoS w w1509 [] [rowO 88 enc_Action A1512 c1513 t1507.Actions, rowO 65 enc_Tile A1505 c1506 t1500.1, rowO 88 enc_Action A56 c57 t51.Actions] := hS1504.call hk_ [] [0, 1] (fun g hg => hg.elim) (by simp) (by decide)
  refine ⟨trivial, ?_⟩
  refine WL.new hS1511 15 [] (fun g => (.slice (some ⟨g, 0, none⟩) 3 3)) (.cells #[(.int .i64 0), (.int .i64 0), (.int .i64 0)] 3 (0, 0)) [] (fun fb g => by kernel_rfl) trivial (fun g1514 w1515 hS1516 => ?_)
  refine ⟨trivial, ?_⟩
  have hS1518 : St NoS w w1515 [] [rowO 3 encInt (some ⟨g1514, 0, none⟩) 3 [0, 0, 0], rowO 88 enc_Action A1512 c1513 t1507.Actions, rowO 65 enc_Tile A1505 c1506 t1500.1, rowO 88 enc_Action A56 c57 t51.Actions] := hS1516.map1 0 _ (fun h => rowO.ofBlk h rfl (Nat.le_of_ble_eq_true (by kernel_rfl))) (fun _ h => by obtain ⟨_, h1, h2⟩ := h; injection h1 with h1; subst h1; exact h2) [1, 2, 3] (by decide) (by decide)
  refine seg 3 [] [1, 2, 14, 16] [(1, (.slice A1505 t1500.1.length c1506)), (2, (.int .i64 t1500.2)), (14, (.agg #[(.int .i64 t1507.States), (.int .i64 t1507.Symbols), (.slice A1512 t1507.Actions.length c1513)])), (16, (.agg #[(.int .i64 0), (.int .i64 0), (.slice (some ⟨g1514, 0, none⟩) [0, 0, 0].length 3)]))] [] (fun fb => by kernel_rfl) rfl trivial ?_
  obtain ⟨t2042, ht2043, hf⟩ := bind_some hf
  refine WL.call (some 17) 20 #[(.agg #[(.int .i64 t1507.States), (.int .i64 t1507.Symbols), (.slice A1512 t1507.Actions.length c1513)]), (.agg #[(.int .i64 0), (.int .i64 0), (.slice (some ⟨g1514, 0, none⟩) [0, 0, 0].length 3)]), (.int .i64 9)] (fun fb => by kernel_rfl) (machine_Run_calls _ t1507 (Config.mk 0 0 [0, 0, 0]) 9 A1512 c1513 (some ⟨g1514, 0, none⟩) 3 t2042 _ (hS1518.ow 1).ofO (hS1518.ow 0).ofO ht2043) (fun v w2044 hR2045 => ?_)
  obtain ⟨A2047, c2048, rfl, hk_⟩ := hR2045
  have hS2046 : St NoS w w2044 [] [rowO 3 encInt A2047 c2048 t2042.1.Cells, rowO 3 encInt (some ⟨g1514, 0, none⟩) 3 [0, 0, 0], rowO 88 enc_Action A1512 c1513 t1507.Actions, rowO 65 enc_Tile A1505 c1506 t1500.1, rowO 88 enc_Action A56 c57 t51.Actions] := hS1518.call hk_ [] [0, 1, 2, 3] (fun g hg => hg.elim) (by simp) (by decide)
  refine ⟨trivial, ?_⟩
  refine seg 8 [] [1, 2, 18, 19, 20] [(1, (.slice A1505 t1500.1.length c1506)), (2, (.int .i64 t1500.2)), (18, (.agg #[(.int .i64 t2042.1.State), (.int .i64 t2042.1.At), (.slice A2047 t2042.1.Cells.length c2048)])), (19, (.int .i64 t2042.2.1)), (20, (.int .i64 t2042.2.2))] [] (fun fb => by kernel_rfl) rfl trivial ?_
  refine WL.new hS2046 3 [] (fun g => (.pointer (some ⟨g, 0, none⟩))) (.cells #[(.int .i64 0), (.int .i64 0), (.slice none 0 0)] 27 (0, 0)) [] (fun fb g => by kernel_rfl) trivial (fun g2049 w2050 hS2051 => ?_)
  refine ⟨trivial, ?_⟩
  refine WL.store hS2051 0 rfl [(0, (.int .i64 t2042.1.State)), (1, (.int .i64 t2042.1.At)), (2, (.slice A2047 t2042.1.Cells.length c2048))] #[(.int .i64 t2042.1.State), (.int .i64 t2042.1.At), (.slice A2047 t2042.1.Cells.length c2048)] (fun fb => by kernel_rfl) (by kernel_rfl) rfl [1, 2, 3, 4, 5] (by decide) (by decide) (fun w2053 hS2054 => ?_)
  refine ⟨trivial, ?_⟩
  refine seg 12 [] [1, 2, 3, 4, 5] [(1, (.slice A1505 t1500.1.length c1506)), (2, (.int .i64 t1500.2)), (3, (.pointer (some ⟨g2049, 0, none⟩))), (4, (.int .i64 t2042.2.1)), (5, (.int .i64 t2042.2.2))] [] (fun fb => by kernel_rfl) rfl trivial ?_
  refine WL.done rfl ?_
  refine WX.next ?_
  refine WC.seq ?_
  refine WC.region ?_
  obtain ⟨t2055, ht2056, hf⟩ := bind_some hf
  refine WL.call (some 22) 40 #[] (fun fb => by kernel_rfl) (law08_goes_calls t2055 _ ht2056) (fun v w2057 hR2058 => ?_)
  obtain ⟨A2060, c2061, rfl, hk_⟩ := hR2058
  have hS2059 : St NoS w w2057 [] [rowO 88 enc_Action A2060 c2061 t2055.Actions, blk g2049 (.cells #[(.int .i64 t2042.1.State), (.int .i64 t2042.1.At), (.slice A2047 t2042.1.Cells.length c2048)] 27 (0, 0)), rowO 3 encInt A2047 c2048 t2042.1.Cells, rowO 3 encInt (some ⟨g1514, 0, none⟩) 3 [0, 0, 0], rowO 88 enc_Action A1512 c1513 t1507.Actions, rowO 65 enc_Tile A1505 c1506 t1500.1, rowO 88 enc_Action A56 c57 t51.Actions] := hS2054.call hk_ [] [0, 1, 2, 3, 4, 5] (fun g hg => hg.elim) (by simp) (by decide)
  refine ⟨trivial, ?_⟩
  refine WL.new hS2059 23 [] (fun g => (.slice (some ⟨g, 0, none⟩) 3 3)) (.cells #[(.int .i64 0), (.int .i64 0), (.int .i64 0)] 3 (0, 0)) [] (fun fb g => by kernel_rfl) trivial (fun g2062 w2063 hS2064 => ?_)
  refine ⟨trivial, ?_⟩
  have hS2066 : St NoS w w2063 [] [rowO 3 encInt (some ⟨g2062, 0, none⟩) 3 [0, 0, 0], rowO 88 enc_Action A2060 c2061 t2055.Actions, blk g2049 (.cells #[(.int .i64 t2042.1.State), (.int .i64 t2042.1.At), (.slice A2047 t2042.1.Cells.length c2048)] 27 (0, 0)), rowO 3 encInt A2047 c2048 t2042.1.Cells, rowO 3 encInt (some ⟨g1514, 0, none⟩) 3 [0, 0, 0], rowO 88 enc_Action A1512 c1513 t1507.Actions, rowO 65 enc_Tile A1505 c1506 t1500.1, rowO 88 enc_Action A56 c57 t51.Actions] := hS2064.map1 0 _ (fun h => rowO.ofBlk h rfl (Nat.le_of_ble_eq_true (by kernel_rfl))) (fun _ h => by obtain ⟨_, h1, h2⟩ := h; injection h1 with h1; subst h1; exact h2) [1, 2, 3, 4, 5, 6, 7] (by decide) (by decide)
  refine seg 3 [] [1, 2, 3, 4, 5, 22, 24] [(1, (.slice A1505 t1500.1.length c1506)), (2, (.int .i64 t1500.2)), (3, (.pointer (some ⟨g2049, 0, none⟩))), (4, (.int .i64 t2042.2.1)), (5, (.int .i64 t2042.2.2)), (22, (.agg #[(.int .i64 t2055.States), (.int .i64 t2055.Symbols), (.slice A2060 t2055.Actions.length c2061)])), (24, (.agg #[(.int .i64 0), (.int .i64 0), (.slice (some ⟨g2062, 0, none⟩) [0, 0, 0].length 3)]))] [] (fun fb => by kernel_rfl) rfl trivial ?_
  obtain ⟨t2715, ht2716, hf⟩ := bind_some hf
  refine WL.call (some 25) 12 #[(.agg #[(.int .i64 t2055.States), (.int .i64 t2055.Symbols), (.slice A2060 t2055.Actions.length c2061)]), (.agg #[(.int .i64 0), (.int .i64 0), (.slice (some ⟨g2062, 0, none⟩) [0, 0, 0].length 3)]), (.int .i64 3)] (fun fb => by kernel_rfl) (machine_Picture_calls _ t2055 (Config.mk 0 0 [0, 0, 0]) 3 A2060 c2061 (some ⟨g2062, 0, none⟩) 3 t2715 _ (hS2066.ow 1).ofO (hS2066.ow 0).ofO ht2716) (fun v w2717 hR2718 => ?_)
  obtain ⟨A2720, c2721, rfl, hk_⟩ := hR2718
  have hS2719 : St NoS w w2717 [] [rowO 3 encInt A2720 c2721 t2715.1.Cells, rowO 3 encInt (some ⟨g2062, 0, none⟩) 3 [0, 0, 0], rowO 88 enc_Action A2060 c2061 t2055.Actions, blk g2049 (.cells #[(.int .i64 t2042.1.State), (.int .i64 t2042.1.At), (.slice A2047 t2042.1.Cells.length c2048)] 27 (0, 0)), rowO 3 encInt A2047 c2048 t2042.1.Cells, rowO 3 encInt (some ⟨g1514, 0, none⟩) 3 [0, 0, 0], rowO 88 enc_Action A1512 c1513 t1507.Actions, rowO 65 enc_Tile A1505 c1506 t1500.1, rowO 88 enc_Action A56 c57 t51.Actions] := hS2066.call hk_ [] [0, 1, 2, 3, 4, 5, 6, 7] (fun g hg => hg.elim) (by simp) (by decide)
  refine ⟨trivial, ?_⟩
  refine seg 7 [] [1, 2, 3, 4, 5, 26, 27] [(1, (.slice A1505 t1500.1.length c1506)), (2, (.int .i64 t1500.2)), (3, (.pointer (some ⟨g2049, 0, none⟩))), (4, (.int .i64 t2042.2.1)), (5, (.int .i64 t2042.2.2)), (26, (.agg #[(.int .i64 t2715.1.Width), (.int .i64 t2715.1.Height), (.slice A2720 t2715.1.Cells.length c2721)])), (27, (.int .i64 t2715.2))] [] (fun fb => by kernel_rfl) rfl trivial ?_
  refine WL.new hS2719 6 [] (fun g => (.pointer (some ⟨g, 0, none⟩))) (.cells #[(.int .i64 0), (.int .i64 0), (.slice none 0 0)] 31 (0, 0)) [] (fun fb g => by kernel_rfl) trivial (fun g2722 w2723 hS2724 => ?_)
  refine ⟨trivial, ?_⟩
  refine WL.store hS2724 0 rfl [(0, (.int .i64 t2715.1.Width)), (1, (.int .i64 t2715.1.Height)), (2, (.slice A2720 t2715.1.Cells.length c2721))] #[(.int .i64 t2715.1.Width), (.int .i64 t2715.1.Height), (.slice A2720 t2715.1.Cells.length c2721)] (fun fb => by kernel_rfl) (by kernel_rfl) rfl [1, 2, 3, 4, 5, 6, 7, 8, 9] (by decide) (by decide) (fun w2726 hS2727 => ?_)
  refine ⟨trivial, ?_⟩
  refine seg 10 [] [1, 2, 3, 4, 5, 7] [(1, (.slice A1505 t1500.1.length c1506)), (2, (.int .i64 t1500.2)), (3, (.pointer (some ⟨g2049, 0, none⟩))), (4, (.int .i64 t2042.2.1)), (5, (.int .i64 t2042.2.2)), (7, (.int .i64 t2715.2))] [] (fun fb => by kernel_rfl) rfl trivial ?_
  refine WL.done rfl ?_
  refine WX.next ?_
  refine WC.seq ?_
  refine WC.region ?_
  refine seg 3 [] [1, 3, 4, 5, 7, 30] [(1, (.slice A1505 t1500.1.length c1506)), (3, (.pointer (some ⟨g2049, 0, none⟩))), (4, (.int .i64 t2042.2.1)), (5, (.int .i64 t2042.2.2)), (7, (.int .i64 t2715.2)), (30, (.bool (t1500.2 == 0)))] [] (fun fb => by kernel_rfl) rfl trivial ?_
  refine WL.cutV (T := Bool) 7 (fun t => [(34, (.bool t)), (3, (.pointer (some ⟨g2049, 0, none⟩))), (4, (.int .i64 t2042.2.1)), (5, (.int .i64 t2042.2.2)), (7, (.int .i64 t2715.2))]) (fun t => t = ((t1500.2 == 0) && ((t1500.1.length : Int) == 8))) (fun K => ?_) ?_
  ·
    rcases Bool.eq_false_or_eq_true (t1500.2 == 0) with h2728 | h2728
    ·
      refine WL.setB 30 h2728 rfl ?_
      refine seg 7 [] [3, 4, 5, 7, 34] [(3, (.pointer (some ⟨g2049, 0, none⟩))), (4, (.int .i64 t2042.2.1)), (5, (.int .i64 t2042.2.2)), (7, (.int .i64 t2715.2)), (34, (.bool ((t1500.1.length : Int) == 8)))] [] (fun fb => by kernel_rfl) rfl trivial ?_
      exact WL.toV K ((t1500.1.length : Int) == 8) [34, 3, 4, 5, 7] rfl (by rw [h2728]; rfl)
    refine WL.setB 30 h2728 rfl ?_
    refine seg 7 [] [3, 4, 5, 7, 34] [(3, (.pointer (some ⟨g2049, 0, none⟩))), (4, (.int .i64 t2042.2.1)), (5, (.int .i64 t2042.2.2)), (7, (.int .i64 t2715.2)), (34, (.bool false))] [] (fun fb => by kernel_rfl) rfl trivial ?_
    exact WL.toV K false [34, 3, 4, 5, 7] rfl (by rw [h2728]; rfl)
  rintro b2729 rfl
  refine seg 8 [] [3, 4, 5, 7, 35] [(3, (.pointer (some ⟨g2049, 0, none⟩))), (4, (.int .i64 t2042.2.1)), (5, (.int .i64 t2042.2.2)), (7, (.int .i64 t2715.2)), (35, (.bool ((t1500.2 == 0) && ((t1500.1.length : Int) == 8))))] [] (fun fb => by kernel_rfl) rfl trivial ?_
  refine WL.cutV (T := Bool) 11 (fun t => [(38, (.bool t)), (3, (.pointer (some ⟨g2049, 0, none⟩))), (4, (.int .i64 t2042.2.1)), (7, (.int .i64 t2715.2))]) (fun t => t = (((t1500.2 == 0) && ((t1500.1.length : Int) == 8)) && (t2042.2.2 == 0))) (fun K => ?_) ?_
  ·
    rcases Bool.eq_false_or_eq_true ((t1500.2 == 0) && ((t1500.1.length : Int) == 8)) with h2730 | h2730
    ·
      refine WL.setB 35 h2730 rfl ?_
      refine seg 11 [] [3, 4, 7, 38] [(3, (.pointer (some ⟨g2049, 0, none⟩))), (4, (.int .i64 t2042.2.1)), (7, (.int .i64 t2715.2)), (38, (.bool (t2042.2.2 == 0)))] [] (fun fb => by kernel_rfl) rfl trivial ?_
      exact WL.toV K (t2042.2.2 == 0) [38, 3, 4, 7] rfl (by rw [h2730]; rfl)
    refine WL.setB 35 h2730 rfl ?_
    refine seg 11 [] [3, 4, 7, 38] [(3, (.pointer (some ⟨g2049, 0, none⟩))), (4, (.int .i64 t2042.2.1)), (7, (.int .i64 t2715.2)), (38, (.bool false))] [] (fun fb => by kernel_rfl) rfl trivial ?_
    exact WL.toV K false [38, 3, 4, 7] rfl (by rw [h2730]; rfl)
  rintro b2731 rfl
  refine seg 12 [] [3, 4, 7, 39] [(3, (.pointer (some ⟨g2049, 0, none⟩))), (4, (.int .i64 t2042.2.1)), (7, (.int .i64 t2715.2)), (39, (.bool (((t1500.2 == 0) && ((t1500.1.length : Int) == 8)) && (t2042.2.2 == 0))))] [] (fun fb => by kernel_rfl) rfl trivial ?_
  refine WL.cutV (T := Bool) 15 (fun t => [(42, (.bool t)), (3, (.pointer (some ⟨g2049, 0, none⟩))), (7, (.int .i64 t2715.2))]) (fun t => t = ((((t1500.2 == 0) && ((t1500.1.length : Int) == 8)) && (t2042.2.2 == 0)) && (t2042.2.1 == 2))) (fun K => ?_) ?_
  ·
    rcases Bool.eq_false_or_eq_true (((t1500.2 == 0) && ((t1500.1.length : Int) == 8)) && (t2042.2.2 == 0)) with h2732 | h2732
    ·
      refine WL.setB 39 h2732 rfl ?_
      refine seg 15 [] [3, 7, 42] [(3, (.pointer (some ⟨g2049, 0, none⟩))), (7, (.int .i64 t2715.2)), (42, (.bool (t2042.2.1 == 2)))] [] (fun fb => by kernel_rfl) rfl trivial ?_
      exact WL.toV K (t2042.2.1 == 2) [42, 3, 7] rfl (by rw [h2732]; rfl)
    refine WL.setB 39 h2732 rfl ?_
    refine seg 15 [] [3, 7, 42] [(3, (.pointer (some ⟨g2049, 0, none⟩))), (7, (.int .i64 t2715.2)), (42, (.bool false))] [] (fun fb => by kernel_rfl) rfl trivial ?_
    exact WL.toV K false [42, 3, 7] rfl (by rw [h2732]; rfl)
  rintro b2733 rfl
  refine seg 16 [] [3, 7, 43] [(3, (.pointer (some ⟨g2049, 0, none⟩))), (7, (.int .i64 t2715.2)), (43, (.bool ((((t1500.2 == 0) && ((t1500.1.length : Int) == 8)) && (t2042.2.2 == 0)) && (t2042.2.1 == 2))))] [] (fun fb => by kernel_rfl) rfl trivial ?_
  refine WL.cutV (T := Bool) 20 (fun t => [(47, (.bool t)), (7, (.int .i64 t2715.2))]) (fun t => t = (((((t1500.2 == 0) && ((t1500.1.length : Int) == 8)) && (t2042.2.2 == 0)) && (t2042.2.1 == 2)) && (t2042.1.At == 2))) (fun K => ?_) ?_
  ·
    rcases Bool.eq_false_or_eq_true ((((t1500.2 == 0) && ((t1500.1.length : Int) == 8)) && (t2042.2.2 == 0)) && (t2042.2.1 == 2)) with h2734 | h2734
    ·
      refine WL.setB 43 h2734 rfl ?_
      refine seg 20 [.v (.int .i64 t2042.1.At)] [7, 47] [(7, (.int .i64 t2715.2)), (47, (.bool (t2042.1.At == 2)))] [.cell ⟨g2049, 1, none⟩ (.int .i64 t2042.1.At)] (fun fb => by kernel_rfl) rfl ⟨hS2727.cell 4 rfl 1 rfl, trivial⟩ ?_
      exact WL.toV K (t2042.1.At == 2) [47, 7] rfl (by rw [h2734]; rfl)
    refine WL.setB 43 h2734 rfl ?_
    refine seg 20 [] [7, 47] [(7, (.int .i64 t2715.2)), (47, (.bool false))] [] (fun fb => by kernel_rfl) rfl trivial ?_
    exact WL.toV K false [47, 7] rfl (by rw [h2734]; rfl)
  rintro b2735 rfl
  refine seg 21 [] [7, 48] [(7, (.int .i64 t2715.2)), (48, (.bool (((((t1500.2 == 0) && ((t1500.1.length : Int) == 8)) && (t2042.2.2 == 0)) && (t2042.2.1 == 2)) && (t2042.1.At == 2))))] [] (fun fb => by kernel_rfl) rfl trivial ?_
  refine WL.cutV (T := Bool) 24 (fun t => [(51, (.bool t))]) (fun t => t = ((((((t1500.2 == 0) && ((t1500.1.length : Int) == 8)) && (t2042.2.2 == 0)) && (t2042.2.1 == 2)) && (t2042.1.At == 2)) && (t2715.2 == 6))) (fun K => ?_) ?_
  ·
    rcases Bool.eq_false_or_eq_true (((((t1500.2 == 0) && ((t1500.1.length : Int) == 8)) && (t2042.2.2 == 0)) && (t2042.2.1 == 2)) && (t2042.1.At == 2)) with h2736 | h2736
    ·
      refine WL.setB 48 h2736 rfl ?_
      refine seg 24 [] [51] [(51, (.bool (t2715.2 == 6)))] [] (fun fb => by kernel_rfl) rfl trivial ?_
      exact WL.toV K (t2715.2 == 6) [51] rfl (by rw [h2736]; rfl)
    refine WL.setB 48 h2736 rfl ?_
    refine seg 24 [] [51] [(51, (.bool false))] [] (fun fb => by kernel_rfl) rfl trivial ?_
    exact WL.toV K false [51] rfl (by rw [h2736]; rfl)
  rintro b2737 rfl
  refine seg 25 [] [0] [(0, (.bool ((((((t1500.2 == 0) && ((t1500.1.length : Int) == 8)) && (t2042.2.2 == 0)) && (t2042.2.1 == 2)) && (t2042.1.At == 2)) && (t2715.2 == 6))))] [] (fun fb => by kernel_rfl) rfl trivial ?_
  refine WL.done rfl ?_
  refine WX.next ?_
  refine WC.ret ?_
  injection hf with hf
  subst hf
  exact WX.ret_ [] (.bool ((((((t1500.2 == 0) && ((t1500.1.length : Int) == 8)) && (t2042.2.2 == 0)) && (t2042.2.1 == 2)) && (t2042.1.At == 2)) && (t2715.2 == 6))) [] (fun fb => by kernel_rfl) trivial ⟨_, rfl, rfl, hS2727.keep⟩
theorem ref08_Valid_calls (k : Nat) (p0 : Machine) (A_p0_Actions : Option Addr) (c_p0_Actions : Nat) (r : Bool) (w : World) (hR0 : RO NoS w (rowR enc_Action A_p0_Actions c_p0_Actions p0.Actions)) (hf : ref08_Valid k p0 = some r) :
    CallsR Try.prog 17 #[(.agg #[(.int .i64 p0.States), (.int .i64 p0.Symbols), (.slice A_p0_Actions p0.Actions.length c_p0_Actions)])] w (fun v w' => v = (.bool r) ∧ Keeps NoS w w') := by
  have hS : St NoS w w [rowR enc_Action A_p0_Actions c_p0_Actions p0.Actions] [] := St.init (ro_cons hR0 (ro_nil _ _))
  refine enter 93 Try.func17 rfl Try.ntmps17 rfl ?_
  unfold ref08_Valid at hf
  refine WC.seq ?_
  refine WC.region ?_
  refine WL.new hS 1 [] (fun g => (.pointer (some ⟨g, 0, none⟩))) (.cells #[(.int .i64 p0.States), (.int .i64 p0.Symbols), (.slice A_p0_Actions p0.Actions.length c_p0_Actions)] 24 (0, 0)) [] (fun fb g => by kernel_rfl) trivial (fun g2764 w2765 hS2766 => ?_)
  refine ⟨trivial, ?_⟩
  refine seg 2 [] [1] [(1, (.pointer (some ⟨g2764, 0, none⟩)))] [] (fun fb => by kernel_rfl) rfl trivial ?_
  refine WL.done rfl ?_
  refine WX.next ?_
  refine WC.seq ?_
  refine WC.seq ?_
  refine WC.region ?_
  refine seg 4 [.v (.int .i64 p0.States)] [1, 8] [(1, (.pointer (some ⟨g2764, 0, none⟩))), (8, (.bool (decide (p0.States < 1))))] [.cell ⟨g2764, 0, none⟩ (.int .i64 p0.States)] (fun fb => by kernel_rfl) rfl ⟨hS2766.cell 0 rfl 0 rfl, trivial⟩ ?_
  refine WL.cutV (T := Bool) 8 (fun t => [(12, (.bool t)), (1, (.pointer (some ⟨g2764, 0, none⟩)))]) (fun t => t = ((decide (p0.States < 1)) || (decide (p0.States > 6)))) (fun K => ?_) ?_
  ·
    rcases Bool.eq_false_or_eq_true (decide (p0.States < 1)) with h2768 | h2768
    ·
      refine WL.setB 8 h2768 rfl ?_
      refine seg 8 [] [1, 12] [(1, (.pointer (some ⟨g2764, 0, none⟩))), (12, (.bool true))] [] (fun fb => by kernel_rfl) rfl trivial ?_
      exact WL.toV K true [12, 1] rfl (by rw [h2768]; rfl)
    refine WL.setB 8 h2768 rfl ?_
    refine seg 8 [.v (.int .i64 p0.States)] [1, 12] [(1, (.pointer (some ⟨g2764, 0, none⟩))), (12, (.bool (decide (p0.States > 6))))] [.cell ⟨g2764, 0, none⟩ (.int .i64 p0.States)] (fun fb => by kernel_rfl) rfl ⟨hS2766.cell 0 rfl 0 rfl, trivial⟩ ?_
    exact WL.toV K (decide (p0.States > 6)) [12, 1] rfl (by rw [h2768]; rfl)
  rintro b2769 rfl
  refine seg 9 [] [1, 13] [(1, (.pointer (some ⟨g2764, 0, none⟩))), (13, (.bool ((decide (p0.States < 1)) || (decide (p0.States > 6)))))] [] (fun fb => by kernel_rfl) rfl trivial ?_
  refine WL.cutV (T := Bool) 13 (fun t => [(17, (.bool t)), (1, (.pointer (some ⟨g2764, 0, none⟩)))]) (fun t => t = (((decide (p0.States < 1)) || (decide (p0.States > 6))) || (decide (p0.Symbols < 2)))) (fun K => ?_) ?_
  ·
    rcases Bool.eq_false_or_eq_true ((decide (p0.States < 1)) || (decide (p0.States > 6))) with h2770 | h2770
    ·
      refine WL.setB 13 h2770 rfl ?_
      refine seg 13 [] [1, 17] [(1, (.pointer (some ⟨g2764, 0, none⟩))), (17, (.bool true))] [] (fun fb => by kernel_rfl) rfl trivial ?_
      exact WL.toV K true [17, 1] rfl (by rw [h2770]; rfl)
    refine WL.setB 13 h2770 rfl ?_
    refine seg 13 [.v (.int .i64 p0.Symbols)] [1, 17] [(1, (.pointer (some ⟨g2764, 0, none⟩))), (17, (.bool (decide (p0.Symbols < 2))))] [.cell ⟨g2764, 1, none⟩ (.int .i64 p0.Symbols)] (fun fb => by kernel_rfl) rfl ⟨hS2766.cell 0 rfl 1 rfl, trivial⟩ ?_
    exact WL.toV K (decide (p0.Symbols < 2)) [17, 1] rfl (by rw [h2770]; rfl)
  rintro b2771 rfl
  refine seg 14 [] [1, 18] [(1, (.pointer (some ⟨g2764, 0, none⟩))), (18, (.bool (((decide (p0.States < 1)) || (decide (p0.States > 6))) || (decide (p0.Symbols < 2)))))] [] (fun fb => by kernel_rfl) rfl trivial ?_
  refine WL.cutV (T := Bool) 18 (fun t => [(22, (.bool t)), (1, (.pointer (some ⟨g2764, 0, none⟩)))]) (fun t => t = ((((decide (p0.States < 1)) || (decide (p0.States > 6))) || (decide (p0.Symbols < 2))) || (decide (p0.Symbols > 4)))) (fun K => ?_) ?_
  ·
    rcases Bool.eq_false_or_eq_true (((decide (p0.States < 1)) || (decide (p0.States > 6))) || (decide (p0.Symbols < 2))) with h2772 | h2772
    ·
      refine WL.setB 18 h2772 rfl ?_
      refine seg 18 [] [1, 22] [(1, (.pointer (some ⟨g2764, 0, none⟩))), (22, (.bool true))] [] (fun fb => by kernel_rfl) rfl trivial ?_
      exact WL.toV K true [22, 1] rfl (by rw [h2772]; rfl)
    refine WL.setB 18 h2772 rfl ?_
    refine seg 18 [.v (.int .i64 p0.Symbols)] [1, 22] [(1, (.pointer (some ⟨g2764, 0, none⟩))), (22, (.bool (decide (p0.Symbols > 4))))] [.cell ⟨g2764, 1, none⟩ (.int .i64 p0.Symbols)] (fun fb => by kernel_rfl) rfl ⟨hS2766.cell 0 rfl 1 rfl, trivial⟩ ?_
    exact WL.toV K (decide (p0.Symbols > 4)) [22, 1] rfl (by rw [h2772]; rfl)
  rintro b2773 rfl
  refine seg 19 [] [1, 23] [(1, (.pointer (some ⟨g2764, 0, none⟩))), (23, (.bool ((((decide (p0.States < 1)) || (decide (p0.States > 6))) || (decide (p0.Symbols < 2))) || (decide (p0.Symbols > 4)))))] [] (fun fb => by kernel_rfl) rfl trivial ?_
  refine WL.cutV (T := Bool) 29 (fun t => [(33, (.bool t)), (1, (.pointer (some ⟨g2764, 0, none⟩)))]) (fun t => t = (((((decide (p0.States < 1)) || (decide (p0.States > 6))) || (decide (p0.Symbols < 2))) || (decide (p0.Symbols > 4))) || ((p0.Actions.length : Int) != (w64 (p0.States * p0.Symbols))))) (fun K => ?_) ?_
  ·
    rcases Bool.eq_false_or_eq_true ((((decide (p0.States < 1)) || (decide (p0.States > 6))) || (decide (p0.Symbols < 2))) || (decide (p0.Symbols > 4))) with h2774 | h2774
    ·
      refine WL.setB 23 h2774 rfl ?_
      refine seg 29 [] [1, 33] [(1, (.pointer (some ⟨g2764, 0, none⟩))), (33, (.bool true))] [] (fun fb => by kernel_rfl) rfl trivial ?_
      exact WL.toV K true [33, 1] rfl (by rw [h2774]; rfl)
    refine WL.setB 23 h2774 rfl ?_
    refine seg 29 [.v (.slice A_p0_Actions p0.Actions.length c_p0_Actions), .v (.int .i64 p0.States), .v (.int .i64 p0.Symbols)] [1, 33] [(1, (.pointer (some ⟨g2764, 0, none⟩))), (33, (.bool ((p0.Actions.length : Int) != (w64 (p0.States * p0.Symbols)))))] [.cell ⟨g2764, 2, none⟩ (.slice A_p0_Actions p0.Actions.length c_p0_Actions), .cell ⟨g2764, 0, none⟩ (.int .i64 p0.States), .cell ⟨g2764, 1, none⟩ (.int .i64 p0.Symbols)] (fun fb => by kernel_rfl) rfl ⟨hS2766.cell 0 rfl 2 rfl, hS2766.cell 0 rfl 0 rfl, hS2766.cell 0 rfl 1 rfl, trivial⟩ ?_
    exact WL.toV K ((p0.Actions.length : Int) != (w64 (p0.States * p0.Symbols))) [33, 1] rfl (by rw [h2774]; rfl)
  rintro b2775 rfl
  refine WL.done rfl ?_
  refine WX.next ?_
  rcases br_some hf with ⟨h2776, hf⟩ | ⟨h2776, hf⟩
  · refine WC.condT2 (fun fb => by kernel_rfl) h2776 ?_
    refine WC.seq ?_
    refine WC.region ?_
    refine seg 1 [] [2] [(2, (.bool false))] [] (fun fb => by kernel_rfl) rfl trivial ?_
    refine WL.done rfl ?_
    refine WX.next ?_
    refine WC.ret ?_
    injection hf with hf
    subst hf
    exact WX.thenR (WX.ret_ [] (.bool false) [] (fun fb => by kernel_rfl) trivial ⟨_, rfl, rfl, hS2766.keep⟩)
  refine WC.condF2 (fun fb => by kernel_rfl) h2776 ?_
  refine WC.skip ?_
  refine WX.next ?_
  refine WC.seq ?_
  refine WC.seq ?_
  refine WC.region ?_
  refine seg 1 [] [1, 3] [(1, (.pointer (some ⟨g2764, 0, none⟩))), (3, (.int .i64 0))] [] (fun fb => by kernel_rfl) rfl trivial ?_
  refine WL.done rfl ?_
  refine WX.next ?_
  obtain ⟨x2835, hx2836, hf⟩ := bind_some hf
  refine WC.cutN (T := Unit) (fun t => []) (fun t w1 => St NoS w w1 [rowR enc_Action A_p0_Actions c_p0_Actions p0.Actions] [] ∧ x2835 = .inr t) (fun Kx2835 => ?_) ?_
  ·
    refine WC.block ?_
    refine WC.loop (T := Int) (fun t => [(1, (.pointer (some ⟨g2764, 0, none⟩))), (3, (.int .i64 t))]) (fun n t w1 => St NoS w w1 [rowR enc_Action A_p0_Actions c_p0_Actions p0.Actions] [blk g2764 (.cells #[(.int .i64 p0.States), (.int .i64 p0.Symbols), (.slice A_p0_Actions p0.Actions.length c_p0_Actions)] 24 (0, 0))] ∧ ref08_Valid.l0 n t p0 = some x2835) k 0 [1, 3] rfl ⟨(hS2766.subR [0]).sub [0] (by decide), hx2836⟩ ?_
    rintro k2837 x2834 w2838 ⟨hS2839, hl2840⟩
    cases k2837 with
    | zero => rw [ref08_Valid.l0] at hl2840; cases hl2840
    | succ k2837 =>
      rw [ref08_Valid.l0] at hl2840
      refine WC.seq ?_
      refine WC.seq ?_
      refine WC.region ?_
      refine seg 5 [.v (.slice A_p0_Actions p0.Actions.length c_p0_Actions)] [1, 3, 38] [(1, (.pointer (some ⟨g2764, 0, none⟩))), (3, (.int .i64 x2834)), (38, (.bool (decide (x2834 < (p0.Actions.length : Int)))))] [.cell ⟨g2764, 2, none⟩ (.slice A_p0_Actions p0.Actions.length c_p0_Actions)] (fun fb => by kernel_rfl) rfl ⟨hS2839.cell 0 rfl 2 rfl, trivial⟩ ?_
      refine WL.done rfl ?_
      refine WX.next ?_
      rcases br_some hl2840 with ⟨h2841, hl2840⟩ | ⟨h2841, hl2840⟩
      · refine WC.condT2 (fun fb => by kernel_rfl) h2841 ?_
        refine WC.skip ?_
        refine WX.next ?_
        refine WC.seq ?_
        refine WC.block ?_
        refine WC.seq ?_
        refine WC.region ?_
        refine seg 3 [.v (.slice A_p0_Actions p0.Actions.length c_p0_Actions)] [1, 3, 42, 43] [(1, (.pointer (some ⟨g2764, 0, none⟩))), (3, (.int .i64 x2834)), (42, (.slice A_p0_Actions p0.Actions.length c_p0_Actions)), (43, (.int .i64 x2834))] [.cell ⟨g2764, 2, none⟩ (.slice A_p0_Actions p0.Actions.length c_p0_Actions)] (fun fb => by kernel_rfl) rfl ⟨hS2839.cell 0 rfl 2 rfl, trivial⟩ ?_
        obtain ⟨h2842, hl2840⟩ := as_some hl2840
        refine seg 5 [.v (.int .i64 ((rdD p0.Actions x2834 z_Action).Write)), .v (.int .i64 ((rdD p0.Actions x2834 z_Action).Move)), .v (.int .i64 ((rdD p0.Actions x2834 z_Action).Next))] [1, 3, 45] [(1, (.pointer (some ⟨g2764, 0, none⟩))), (3, (.int .i64 x2834)), (45, (.agg #[(.int .i64 ((rdD p0.Actions x2834 z_Action).Write)), (.int .i64 ((rdD p0.Actions x2834 z_Action).Move)), (.int .i64 ((rdD p0.Actions x2834 z_Action).Next))]))] [.idx A_p0_Actions x2834 p0.Actions.length, .cell ((adr A_p0_Actions).add ((x2834).toNat * 3)) (.int .i64 ((rdD p0.Actions x2834 z_Action).Write)), .cell (((adr A_p0_Actions).add ((x2834).toNat * 3)).add 1) (.int .i64 ((rdD p0.Actions x2834 z_Action).Move)), .cell (((adr A_p0_Actions).add ((x2834).toNat * 3)).add 2) (.int .i64 ((rdD p0.Actions x2834 z_Action).Next))] (fun fb => by kernel_rfl) rfl ⟨rowR.adr (hS2839.rd 0).1 h2842.1 h2842.2, rowR.cell (hS2839.rd 0).1 z_Action h2842.1 h2842.2 0 rfl, rowR.cell (hS2839.rd 0).1 z_Action h2842.1 h2842.2 1 rfl, rowR.cell (hS2839.rd 0).1 z_Action h2842.1 h2842.2 2 rfl, trivial⟩ ?_
        refine WL.new hS2839 4 [] (fun g => (.pointer (some ⟨g, 0, none⟩))) (.cells #[(.int .i64 0), (.int .i64 0), (.int .i64 0)] 88 (0, 0)) [] (fun fb g => by kernel_rfl) trivial (fun g2843 w2844 hS2845 => ?_)
        refine ⟨trivial, ?_⟩
        refine WL.store hS2845 0 rfl [(0, (.int .i64 ((rdD p0.Actions x2834 z_Action).Write))), (1, (.int .i64 ((rdD p0.Actions x2834 z_Action).Move))), (2, (.int .i64 ((rdD p0.Actions x2834 z_Action).Next)))] #[(.int .i64 ((rdD p0.Actions x2834 z_Action).Write)), (.int .i64 ((rdD p0.Actions x2834 z_Action).Move)), (.int .i64 ((rdD p0.Actions x2834 z_Action).Next))] (fun fb => by kernel_rfl) (by kernel_rfl) rfl [1] (by decide) (by decide) (fun w2847 hS2848 => ?_)
        refine ⟨trivial, ?_⟩
        refine WL.done rfl ?_
        refine WX.next ?_
        refine WC.seq ?_
        refine WC.seq ?_
        refine WC.region ?_
        refine seg 4 [.v (.int .i64 ((rdD p0.Actions x2834 z_Action).Write))] [1, 3, 4, 49] [(1, (.pointer (some ⟨g2764, 0, none⟩))), (3, (.int .i64 x2834)), (4, (.pointer (some ⟨g2843, 0, none⟩))), (49, (.bool (decide ((rdD p0.Actions x2834 z_Action).Write < 0))))] [.cell ⟨g2843, 0, none⟩ (.int .i64 ((rdD p0.Actions x2834 z_Action).Write))] (fun fb => by kernel_rfl) rfl ⟨hS2848.cell 0 rfl 0 rfl, trivial⟩ ?_
        refine WL.cutV (T := Bool) 10 (fun t => [(55, (.bool t)), (1, (.pointer (some ⟨g2764, 0, none⟩))), (3, (.int .i64 x2834)), (4, (.pointer (some ⟨g2843, 0, none⟩)))]) (fun t => t = ((decide ((rdD p0.Actions x2834 z_Action).Write < 0)) || (decide ((rdD p0.Actions x2834 z_Action).Write ≥ p0.Symbols)))) (fun K => ?_) ?_
        ·
          rcases Bool.eq_false_or_eq_true (decide ((rdD p0.Actions x2834 z_Action).Write < 0)) with h2849 | h2849
          ·
            refine WL.setB 49 h2849 rfl ?_
            refine seg 10 [] [1, 3, 4, 55] [(1, (.pointer (some ⟨g2764, 0, none⟩))), (3, (.int .i64 x2834)), (4, (.pointer (some ⟨g2843, 0, none⟩))), (55, (.bool true))] [] (fun fb => by kernel_rfl) rfl trivial ?_
            exact WL.toV K true [55, 1, 3, 4] rfl (by rw [h2849]; rfl)
          refine WL.setB 49 h2849 rfl ?_
          refine seg 10 [.v (.int .i64 ((rdD p0.Actions x2834 z_Action).Write)), .v (.int .i64 p0.Symbols)] [1, 3, 4, 55] [(1, (.pointer (some ⟨g2764, 0, none⟩))), (3, (.int .i64 x2834)), (4, (.pointer (some ⟨g2843, 0, none⟩))), (55, (.bool (decide ((rdD p0.Actions x2834 z_Action).Write ≥ p0.Symbols))))] [.cell ⟨g2843, 0, none⟩ (.int .i64 ((rdD p0.Actions x2834 z_Action).Write)), .cell ⟨g2764, 1, none⟩ (.int .i64 p0.Symbols)] (fun fb => by kernel_rfl) rfl ⟨hS2848.cell 0 rfl 0 rfl, hS2848.cell 1 rfl 1 rfl, trivial⟩ ?_
          exact WL.toV K (decide ((rdD p0.Actions x2834 z_Action).Write ≥ p0.Symbols)) [55, 1, 3, 4] rfl (by rw [h2849]; rfl)
        rintro b2850 rfl
        refine seg 11 [] [1, 3, 4, 56] [(1, (.pointer (some ⟨g2764, 0, none⟩))), (3, (.int .i64 x2834)), (4, (.pointer (some ⟨g2843, 0, none⟩))), (56, (.bool ((decide ((rdD p0.Actions x2834 z_Action).Write < 0)) || (decide ((rdD p0.Actions x2834 z_Action).Write ≥ p0.Symbols)))))] [] (fun fb => by kernel_rfl) rfl trivial ?_
        refine WL.cutV (T := Bool) 20 (fun t => [(65, (.bool t)), (1, (.pointer (some ⟨g2764, 0, none⟩))), (3, (.int .i64 x2834)), (4, (.pointer (some ⟨g2843, 0, none⟩)))]) (fun t => t = (((decide ((rdD p0.Actions x2834 z_Action).Write < 0)) || (decide ((rdD p0.Actions x2834 z_Action).Write ≥ p0.Symbols))) || ((((rdD p0.Actions x2834 z_Action).Move) != 0) && (((rdD p0.Actions x2834 z_Action).Move) != 1)))) (fun K => ?_) ?_
        ·
          rcases Bool.eq_false_or_eq_true ((decide ((rdD p0.Actions x2834 z_Action).Write < 0)) || (decide ((rdD p0.Actions x2834 z_Action).Write ≥ p0.Symbols))) with h2853 | h2853
          ·
            refine WL.setB 56 h2853 rfl ?_
            refine seg 20 [] [1, 3, 4, 65] [(1, (.pointer (some ⟨g2764, 0, none⟩))), (3, (.int .i64 x2834)), (4, (.pointer (some ⟨g2843, 0, none⟩))), (65, (.bool true))] [] (fun fb => by kernel_rfl) rfl trivial ?_
            exact WL.toV K true [65, 1, 3, 4] rfl (by rw [h2853]; rfl)
          refine WL.setB 56 h2853 rfl ?_
          refine seg 15 [.v (.int .i64 ((rdD p0.Actions x2834 z_Action).Move))] [1, 3, 4, 56, 60] [(1, (.pointer (some ⟨g2764, 0, none⟩))), (3, (.int .i64 x2834)), (4, (.pointer (some ⟨g2843, 0, none⟩))), (56, (.bool false)), (60, (.bool (((rdD p0.Actions x2834 z_Action).Move) != 0)))] [.cell ⟨g2843, 1, none⟩ (.int .i64 ((rdD p0.Actions x2834 z_Action).Move))] (fun fb => by kernel_rfl) rfl ⟨hS2848.cell 0 rfl 1 rfl, trivial⟩ ?_
          refine WL.cutV (T := Bool) 19 (fun t => [(64, (.bool t)), (1, (.pointer (some ⟨g2764, 0, none⟩))), (3, (.int .i64 x2834)), (4, (.pointer (some ⟨g2843, 0, none⟩))), (56, (.bool false))]) (fun t => t = ((((rdD p0.Actions x2834 z_Action).Move) != 0) && (((rdD p0.Actions x2834 z_Action).Move) != 1))) (fun K => ?_) ?_
          ·
            rcases Bool.eq_false_or_eq_true (((rdD p0.Actions x2834 z_Action).Move) != 0) with h2854 | h2854
            ·
              refine WL.setB 60 h2854 rfl ?_
              refine seg 19 [.v (.int .i64 ((rdD p0.Actions x2834 z_Action).Move))] [1, 3, 4, 56, 64] [(1, (.pointer (some ⟨g2764, 0, none⟩))), (3, (.int .i64 x2834)), (4, (.pointer (some ⟨g2843, 0, none⟩))), (56, (.bool false)), (64, (.bool (((rdD p0.Actions x2834 z_Action).Move) != 1)))] [.cell ⟨g2843, 1, none⟩ (.int .i64 ((rdD p0.Actions x2834 z_Action).Move))] (fun fb => by kernel_rfl) rfl ⟨hS2848.cell 0 rfl 1 rfl, trivial⟩ ?_
              exact WL.toV K (((rdD p0.Actions x2834 z_Action).Move) != 1) [64, 1, 3, 4, 56] rfl (by rw [h2854]; rfl)
            refine WL.setB 60 h2854 rfl ?_
            refine seg 19 [] [1, 3, 4, 56, 64] [(1, (.pointer (some ⟨g2764, 0, none⟩))), (3, (.int .i64 x2834)), (4, (.pointer (some ⟨g2843, 0, none⟩))), (56, (.bool false)), (64, (.bool false))] [] (fun fb => by kernel_rfl) rfl trivial ?_
            exact WL.toV K false [64, 1, 3, 4, 56] rfl (by rw [h2854]; rfl)
          rintro b2855 rfl
          refine seg 20 [] [1, 3, 4, 65] [(1, (.pointer (some ⟨g2764, 0, none⟩))), (3, (.int .i64 x2834)), (4, (.pointer (some ⟨g2843, 0, none⟩))), (65, (.bool ((((rdD p0.Actions x2834 z_Action).Move) != 0) && (((rdD p0.Actions x2834 z_Action).Move) != 1))))] [] (fun fb => by kernel_rfl) rfl trivial ?_
          exact WL.toV K ((((rdD p0.Actions x2834 z_Action).Move) != 0) && (((rdD p0.Actions x2834 z_Action).Move) != 1)) [65, 1, 3, 4] rfl (by rw [h2853]; rfl)
        rintro b2856 rfl
        refine seg 21 [] [1, 3, 4, 66] [(1, (.pointer (some ⟨g2764, 0, none⟩))), (3, (.int .i64 x2834)), (4, (.pointer (some ⟨g2843, 0, none⟩))), (66, (.bool (((decide ((rdD p0.Actions x2834 z_Action).Write < 0)) || (decide ((rdD p0.Actions x2834 z_Action).Write ≥ p0.Symbols))) || ((((rdD p0.Actions x2834 z_Action).Move) != 0) && (((rdD p0.Actions x2834 z_Action).Move) != 1)))))] [] (fun fb => by kernel_rfl) rfl trivial ?_
        refine WL.cutV (T := Bool) 25 (fun t => [(70, (.bool t)), (1, (.pointer (some ⟨g2764, 0, none⟩))), (3, (.int .i64 x2834)), (4, (.pointer (some ⟨g2843, 0, none⟩)))]) (fun t => t = ((((decide ((rdD p0.Actions x2834 z_Action).Write < 0)) || (decide ((rdD p0.Actions x2834 z_Action).Write ≥ p0.Symbols))) || ((((rdD p0.Actions x2834 z_Action).Move) != 0) && (((rdD p0.Actions x2834 z_Action).Move) != 1))) || (decide ((rdD p0.Actions x2834 z_Action).Next < 0)))) (fun K => ?_) ?_
        ·
          rcases Bool.eq_false_or_eq_true (((decide ((rdD p0.Actions x2834 z_Action).Write < 0)) || (decide ((rdD p0.Actions x2834 z_Action).Write ≥ p0.Symbols))) || ((((rdD p0.Actions x2834 z_Action).Move) != 0) && (((rdD p0.Actions x2834 z_Action).Move) != 1))) with h2857 | h2857
          ·
            refine WL.setB 66 h2857 rfl ?_
            refine seg 25 [] [1, 3, 4, 70] [(1, (.pointer (some ⟨g2764, 0, none⟩))), (3, (.int .i64 x2834)), (4, (.pointer (some ⟨g2843, 0, none⟩))), (70, (.bool true))] [] (fun fb => by kernel_rfl) rfl trivial ?_
            exact WL.toV K true [70, 1, 3, 4] rfl (by rw [h2857]; rfl)
          refine WL.setB 66 h2857 rfl ?_
          refine seg 25 [.v (.int .i64 ((rdD p0.Actions x2834 z_Action).Next))] [1, 3, 4, 70] [(1, (.pointer (some ⟨g2764, 0, none⟩))), (3, (.int .i64 x2834)), (4, (.pointer (some ⟨g2843, 0, none⟩))), (70, (.bool (decide ((rdD p0.Actions x2834 z_Action).Next < 0))))] [.cell ⟨g2843, 2, none⟩ (.int .i64 ((rdD p0.Actions x2834 z_Action).Next))] (fun fb => by kernel_rfl) rfl ⟨hS2848.cell 0 rfl 2 rfl, trivial⟩ ?_
          exact WL.toV K (decide ((rdD p0.Actions x2834 z_Action).Next < 0)) [70, 1, 3, 4] rfl (by rw [h2857]; rfl)
        rintro b2858 rfl
        refine seg 26 [] [1, 3, 4, 71] [(1, (.pointer (some ⟨g2764, 0, none⟩))), (3, (.int .i64 x2834)), (4, (.pointer (some ⟨g2843, 0, none⟩))), (71, (.bool ((((decide ((rdD p0.Actions x2834 z_Action).Write < 0)) || (decide ((rdD p0.Actions x2834 z_Action).Write ≥ p0.Symbols))) || ((((rdD p0.Actions x2834 z_Action).Move) != 0) && (((rdD p0.Actions x2834 z_Action).Move) != 1))) || (decide ((rdD p0.Actions x2834 z_Action).Next < 0)))))] [] (fun fb => by kernel_rfl) rfl trivial ?_
        refine WL.cutV (T := Bool) 32 (fun t => [(77, (.bool t)), (1, (.pointer (some ⟨g2764, 0, none⟩))), (3, (.int .i64 x2834)), (4, (.pointer (some ⟨g2843, 0, none⟩)))]) (fun t => t = (((((decide ((rdD p0.Actions x2834 z_Action).Write < 0)) || (decide ((rdD p0.Actions x2834 z_Action).Write ≥ p0.Symbols))) || ((((rdD p0.Actions x2834 z_Action).Move) != 0) && (((rdD p0.Actions x2834 z_Action).Move) != 1))) || (decide ((rdD p0.Actions x2834 z_Action).Next < 0))) || (decide ((rdD p0.Actions x2834 z_Action).Next > p0.States)))) (fun K => ?_) ?_
        ·
          rcases Bool.eq_false_or_eq_true ((((decide ((rdD p0.Actions x2834 z_Action).Write < 0)) || (decide ((rdD p0.Actions x2834 z_Action).Write ≥ p0.Symbols))) || ((((rdD p0.Actions x2834 z_Action).Move) != 0) && (((rdD p0.Actions x2834 z_Action).Move) != 1))) || (decide ((rdD p0.Actions x2834 z_Action).Next < 0))) with h2859 | h2859
          ·
            refine WL.setB 71 h2859 rfl ?_
            refine seg 32 [] [1, 3, 4, 77] [(1, (.pointer (some ⟨g2764, 0, none⟩))), (3, (.int .i64 x2834)), (4, (.pointer (some ⟨g2843, 0, none⟩))), (77, (.bool true))] [] (fun fb => by kernel_rfl) rfl trivial ?_
            exact WL.toV K true [77, 1, 3, 4] rfl (by rw [h2859]; rfl)
          refine WL.setB 71 h2859 rfl ?_
          refine seg 32 [.v (.int .i64 ((rdD p0.Actions x2834 z_Action).Next)), .v (.int .i64 p0.States)] [1, 3, 4, 77] [(1, (.pointer (some ⟨g2764, 0, none⟩))), (3, (.int .i64 x2834)), (4, (.pointer (some ⟨g2843, 0, none⟩))), (77, (.bool (decide ((rdD p0.Actions x2834 z_Action).Next > p0.States))))] [.cell ⟨g2843, 2, none⟩ (.int .i64 ((rdD p0.Actions x2834 z_Action).Next)), .cell ⟨g2764, 0, none⟩ (.int .i64 p0.States)] (fun fb => by kernel_rfl) rfl ⟨hS2848.cell 0 rfl 2 rfl, hS2848.cell 1 rfl 0 rfl, trivial⟩ ?_
          exact WL.toV K (decide ((rdD p0.Actions x2834 z_Action).Next > p0.States)) [77, 1, 3, 4] rfl (by rw [h2859]; rfl)
        rintro b2860 rfl
        refine WL.done rfl ?_
        refine WX.next ?_
        rcases br_some hl2840 with ⟨h2861, hl2840⟩ | ⟨h2861, hl2840⟩
        · refine WC.condT2 (fun fb => by kernel_rfl) h2861 ?_
          refine WC.seq ?_
          refine WC.region ?_
          refine seg 1 [] [2] [(2, (.bool false))] [] (fun fb => by kernel_rfl) rfl trivial ?_
          refine WL.done rfl ?_
          refine WX.next ?_
          refine WC.ret ?_
          injection hl2840 with hl2840
          subst hl2840
          injection hf with hf
          subst hf
          exact WX.thenR (WX.blockR (WX.thenR (WX.thenR (WX.blockR (WX.thenR (WX.ret_ [] (.bool false) [] (fun fb => by kernel_rfl) trivial ⟨_, rfl, rfl, hS2848.keep⟩))))))
        refine WC.condF2 (fun fb => by kernel_rfl) h2861 ?_
        refine WC.skip ?_
        refine WX.next ?_
        refine WC.seq ?_
        refine WC.region ?_
        refine seg 6 [.v (.int .i64 ((rdD p0.Actions x2834 z_Action).Next)), .v (.int .i64 p0.States)] [1, 3, 4, 83] [(1, (.pointer (some ⟨g2764, 0, none⟩))), (3, (.int .i64 x2834)), (4, (.pointer (some ⟨g2843, 0, none⟩))), (83, (.bool (((rdD p0.Actions x2834 z_Action).Next) == p0.States)))] [.cell ⟨g2843, 2, none⟩ (.int .i64 ((rdD p0.Actions x2834 z_Action).Next)), .cell ⟨g2764, 0, none⟩ (.int .i64 p0.States)] (fun fb => by kernel_rfl) rfl ⟨hS2848.cell 0 rfl 2 rfl, hS2848.cell 1 rfl 0 rfl, trivial⟩ ?_
        refine WL.cutV (T := Bool) 15 (fun t => [(92, (.bool t)), (1, (.pointer (some ⟨g2764, 0, none⟩))), (3, (.int .i64 x2834))]) (fun t => t = ((((rdD p0.Actions x2834 z_Action).Next) == p0.States) && ((((rdD p0.Actions x2834 z_Action).Write) != 0) || (((rdD p0.Actions x2834 z_Action).Move) != 0)))) (fun K => ?_) ?_
        ·
          rcases Bool.eq_false_or_eq_true (((rdD p0.Actions x2834 z_Action).Next) == p0.States) with h2864 | h2864
          ·
            refine WL.setB 83 h2864 rfl ?_
            refine seg 10 [.v (.int .i64 ((rdD p0.Actions x2834 z_Action).Write))] [1, 3, 4, 83, 87] [(1, (.pointer (some ⟨g2764, 0, none⟩))), (3, (.int .i64 x2834)), (4, (.pointer (some ⟨g2843, 0, none⟩))), (83, (.bool true)), (87, (.bool (((rdD p0.Actions x2834 z_Action).Write) != 0)))] [.cell ⟨g2843, 0, none⟩ (.int .i64 ((rdD p0.Actions x2834 z_Action).Write))] (fun fb => by kernel_rfl) rfl ⟨hS2848.cell 0 rfl 0 rfl, trivial⟩ ?_
            refine WL.cutV (T := Bool) 14 (fun t => [(91, (.bool t)), (1, (.pointer (some ⟨g2764, 0, none⟩))), (3, (.int .i64 x2834)), (83, (.bool true))]) (fun t => t = ((((rdD p0.Actions x2834 z_Action).Write) != 0) || (((rdD p0.Actions x2834 z_Action).Move) != 0))) (fun K => ?_) ?_
            ·
              rcases Bool.eq_false_or_eq_true (((rdD p0.Actions x2834 z_Action).Write) != 0) with h2865 | h2865
              ·
                refine WL.setB 87 h2865 rfl ?_
                refine seg 14 [] [1, 3, 83, 91] [(1, (.pointer (some ⟨g2764, 0, none⟩))), (3, (.int .i64 x2834)), (83, (.bool true)), (91, (.bool true))] [] (fun fb => by kernel_rfl) rfl trivial ?_
                exact WL.toV K true [91, 1, 3, 83] rfl (by rw [h2865]; rfl)
              refine WL.setB 87 h2865 rfl ?_
              refine seg 14 [.v (.int .i64 ((rdD p0.Actions x2834 z_Action).Move))] [1, 3, 83, 91] [(1, (.pointer (some ⟨g2764, 0, none⟩))), (3, (.int .i64 x2834)), (83, (.bool true)), (91, (.bool (((rdD p0.Actions x2834 z_Action).Move) != 0)))] [.cell ⟨g2843, 1, none⟩ (.int .i64 ((rdD p0.Actions x2834 z_Action).Move))] (fun fb => by kernel_rfl) rfl ⟨hS2848.cell 0 rfl 1 rfl, trivial⟩ ?_
              exact WL.toV K (((rdD p0.Actions x2834 z_Action).Move) != 0) [91, 1, 3, 83] rfl (by rw [h2865]; rfl)
            rintro b2866 rfl
            refine seg 15 [] [1, 3, 92] [(1, (.pointer (some ⟨g2764, 0, none⟩))), (3, (.int .i64 x2834)), (92, (.bool ((((rdD p0.Actions x2834 z_Action).Write) != 0) || (((rdD p0.Actions x2834 z_Action).Move) != 0))))] [] (fun fb => by kernel_rfl) rfl trivial ?_
            exact WL.toV K ((((rdD p0.Actions x2834 z_Action).Write) != 0) || (((rdD p0.Actions x2834 z_Action).Move) != 0)) [92, 1, 3] rfl (by rw [h2864]; rfl)
          refine WL.setB 83 h2864 rfl ?_
          refine seg 15 [] [1, 3, 92] [(1, (.pointer (some ⟨g2764, 0, none⟩))), (3, (.int .i64 x2834)), (92, (.bool false))] [] (fun fb => by kernel_rfl) rfl trivial ?_
          exact WL.toV K false [92, 1, 3] rfl (by rw [h2864]; rfl)
        rintro b2867 rfl
        refine WL.done rfl ?_
        refine WX.next ?_
        rcases br_some hl2840 with ⟨h2868, hl2840⟩ | ⟨h2868, hl2840⟩
        · refine WC.condT2 (fun fb => by kernel_rfl) h2868 ?_
          refine WC.seq ?_
          refine WC.region ?_
          refine seg 1 [] [2] [(2, (.bool false))] [] (fun fb => by kernel_rfl) rfl trivial ?_
          refine WL.done rfl ?_
          refine WX.next ?_
          refine WC.ret ?_
          injection hl2840 with hl2840
          subst hl2840
          injection hf with hf
          subst hf
          exact WX.blockR (WX.thenR (WX.thenR (WX.blockR (WX.thenR (WX.ret_ [] (.bool false) [] (fun fb => by kernel_rfl) trivial ⟨_, rfl, rfl, hS2848.keep⟩)))))
        refine WC.condF2 (fun fb => by kernel_rfl) h2868 ?_
        refine WC.skip ?_
        refine WX.blockN (WX.next ?_)
        refine WC.region ?_
        refine seg 3 [] [1, 3] [(1, (.pointer (some ⟨g2764, 0, none⟩))), (3, (.int .i64 (w64 (x2834 + 1))))] [] (fun fb => by kernel_rfl) rfl trivial ?_
        refine WL.done rfl ?_
        exact WX.again k2837 (Nat.lt_succ_self _) (w64 (x2834 + 1)) [1, 3] rfl ⟨(hS2848.subR [0]).sub [1] (by decide), hl2840⟩
      refine WC.condF2 (fun fb => by kernel_rfl) h2841 ?_
      refine WC.exit ?_
      injection hl2840 with hl2840
      exact WX.thenX (WX.thenX (WX.blockHere (WX.to Kx2835 () [] rfl ⟨(hS2839.subR [0]).sub [] (by decide), hl2840.symm⟩)))
  rintro y2872 w2869 ⟨hS2870, hq2871⟩
  subst hq2871
  have hf := sum_inr hf
  refine WX.next ?_
  refine WC.seq ?_
  refine WC.region ?_
  refine seg 1 [] [2] [(2, (.bool true))] [] (fun fb => by kernel_rfl) rfl trivial ?_
  refine WL.done rfl ?_
  refine WX.next ?_
  refine WC.ret ?_
  injection hf with hf
  subst hf
  exact WX.ret_ [] (.bool true) [] (fun fb => by kernel_rfl) trivial ⟨_, rfl, rfl, hS2870.keep⟩
theorem ref08_Fits_calls (k : Nat) (p0 : Machine) (p1 : Config) (A_p0_Actions : Option Addr) (c_p0_Actions : Nat) (A_p1_Cells : Option Addr) (c_p1_Cells : Nat) (r : Bool) (w : World) (hR0 : RO NoS w (rowR enc_Action A_p0_Actions c_p0_Actions p0.Actions)) (hR1 : RO NoS w (rowR encInt A_p1_Cells c_p1_Cells p1.Cells)) (hf : ref08_Fits k p0 p1 = some r) :
    CallsR Try.prog 13 #[(.agg #[(.int .i64 p0.States), (.int .i64 p0.Symbols), (.slice A_p0_Actions p0.Actions.length c_p0_Actions)]), (.agg #[(.int .i64 p1.State), (.int .i64 p1.At), (.slice A_p1_Cells p1.Cells.length c_p1_Cells)])] w (fun v w' => v = (.bool r) ∧ Keeps NoS w w') := by
  have hS : St NoS w w [rowR enc_Action A_p0_Actions c_p0_Actions p0.Actions, rowR encInt A_p1_Cells c_p1_Cells p1.Cells] [] := St.init (ro_cons hR0 (ro_cons hR1 (ro_nil _ _)))
  refine enter 69 Try.func13 rfl Try.ntmps13 rfl ?_
  unfold ref08_Fits at hf
  refine WC.seq ?_
  refine WC.region ?_
  refine WL.new hS 2 [] (fun g => (.pointer (some ⟨g, 0, none⟩))) (.cells #[(.int .i64 p0.States), (.int .i64 p0.Symbols), (.slice A_p0_Actions p0.Actions.length c_p0_Actions)] 24 (0, 0)) [] (fun fb g => by kernel_rfl) trivial (fun g2756 w2757 hS2758 => ?_)
  refine ⟨trivial, ?_⟩
  refine WL.new hS2758 3 [] (fun g => (.pointer (some ⟨g, 0, none⟩))) (.cells #[(.int .i64 p1.State), (.int .i64 p1.At), (.slice A_p1_Cells p1.Cells.length c_p1_Cells)] 27 (0, 0)) [] (fun fb g => by kernel_rfl) trivial (fun g2760 w2761 hS2762 => ?_)
  refine ⟨trivial, ?_⟩
  refine seg 3 [] [2, 3] [(2, (.pointer (some ⟨g2756, 0, none⟩))), (3, (.pointer (some ⟨g2760, 0, none⟩)))] [] (fun fb => by kernel_rfl) rfl trivial ?_
  refine WL.done rfl ?_
  refine WX.next ?_
  refine WC.seq ?_
  refine WC.seq ?_
  refine WC.region ?_
  refine seg 1 [.v (.int .i64 p0.States), .v (.int .i64 p0.Symbols), .v (.slice A_p0_Actions p0.Actions.length c_p0_Actions)] [2, 3, 6] [(2, (.pointer (some ⟨g2756, 0, none⟩))), (3, (.pointer (some ⟨g2760, 0, none⟩))), (6, (.agg #[(.int .i64 p0.States), (.int .i64 p0.Symbols), (.slice A_p0_Actions p0.Actions.length c_p0_Actions)]))] [.cell ⟨g2756, 0, none⟩ (.int .i64 p0.States), .cell ⟨g2756, 1, none⟩ (.int .i64 p0.Symbols), .cell ⟨g2756, 2, none⟩ (.slice A_p0_Actions p0.Actions.length c_p0_Actions)] (fun fb => by kernel_rfl) rfl ⟨hS2762.cell 1 rfl 0 rfl, hS2762.cell 1 rfl 1 rfl, hS2762.cell 1 rfl 2 rfl, trivial⟩ ?_
  obtain ⟨t2874, ht2875, hf⟩ := bind_some hf
  refine WL.call (some 7) 17 #[(.agg #[(.int .i64 p0.States), (.int .i64 p0.Symbols), (.slice A_p0_Actions p0.Actions.length c_p0_Actions)])] (fun fb => by kernel_rfl) (ref08_Valid_calls _ p0 A_p0_Actions c_p0_Actions t2874 _ (hS2762.rd 0) ht2875) (fun v w2876 hR2877 => ?_)
  obtain ⟨rfl, hk_⟩ := hR2877
  have hS2878 := hS2762.keepN hk_
  refine ⟨trivial, ?_⟩
  refine seg 4 [] [2, 3, 9] [(2, (.pointer (some ⟨g2756, 0, none⟩))), (3, (.pointer (some ⟨g2760, 0, none⟩))), (9, (.bool (!t2874)))] [] (fun fb => by kernel_rfl) rfl trivial ?_
  refine WL.cutV (T := Bool) 8 (fun t => [(13, (.bool t)), (2, (.pointer (some ⟨g2756, 0, none⟩))), (3, (.pointer (some ⟨g2760, 0, none⟩)))]) (fun t => t = ((!t2874) || (decide (p1.State < 0)))) (fun K => ?_) ?_
  ·
    rcases Bool.eq_false_or_eq_true (!t2874) with h2879 | h2879
    ·
      refine WL.setB 9 h2879 rfl ?_
      refine seg 8 [] [2, 3, 13] [(2, (.pointer (some ⟨g2756, 0, none⟩))), (3, (.pointer (some ⟨g2760, 0, none⟩))), (13, (.bool true))] [] (fun fb => by kernel_rfl) rfl trivial ?_
      exact WL.toV K true [13, 2, 3] rfl (by rw [h2879]; rfl)
    refine WL.setB 9 h2879 rfl ?_
    refine seg 8 [.v (.int .i64 p1.State)] [2, 3, 13] [(2, (.pointer (some ⟨g2756, 0, none⟩))), (3, (.pointer (some ⟨g2760, 0, none⟩))), (13, (.bool (decide (p1.State < 0))))] [.cell ⟨g2760, 0, none⟩ (.int .i64 p1.State)] (fun fb => by kernel_rfl) rfl ⟨hS2878.cell 0 rfl 0 rfl, trivial⟩ ?_
    exact WL.toV K (decide (p1.State < 0)) [13, 2, 3] rfl (by rw [h2879]; rfl)
  rintro b2880 rfl
  refine seg 9 [] [2, 3, 14] [(2, (.pointer (some ⟨g2756, 0, none⟩))), (3, (.pointer (some ⟨g2760, 0, none⟩))), (14, (.bool ((!t2874) || (decide (p1.State < 0)))))] [] (fun fb => by kernel_rfl) rfl trivial ?_
  refine WL.cutV (T := Bool) 15 (fun t => [(20, (.bool t)), (2, (.pointer (some ⟨g2756, 0, none⟩))), (3, (.pointer (some ⟨g2760, 0, none⟩)))]) (fun t => t = (((!t2874) || (decide (p1.State < 0))) || (decide (p1.State ≥ p0.States)))) (fun K => ?_) ?_
  ·
    rcases Bool.eq_false_or_eq_true ((!t2874) || (decide (p1.State < 0))) with h2881 | h2881
    ·
      refine WL.setB 14 h2881 rfl ?_
      refine seg 15 [] [2, 3, 20] [(2, (.pointer (some ⟨g2756, 0, none⟩))), (3, (.pointer (some ⟨g2760, 0, none⟩))), (20, (.bool true))] [] (fun fb => by kernel_rfl) rfl trivial ?_
      exact WL.toV K true [20, 2, 3] rfl (by rw [h2881]; rfl)
    refine WL.setB 14 h2881 rfl ?_
    refine seg 15 [.v (.int .i64 p1.State), .v (.int .i64 p0.States)] [2, 3, 20] [(2, (.pointer (some ⟨g2756, 0, none⟩))), (3, (.pointer (some ⟨g2760, 0, none⟩))), (20, (.bool (decide (p1.State ≥ p0.States))))] [.cell ⟨g2760, 0, none⟩ (.int .i64 p1.State), .cell ⟨g2756, 0, none⟩ (.int .i64 p0.States)] (fun fb => by kernel_rfl) rfl ⟨hS2878.cell 0 rfl 0 rfl, hS2878.cell 1 rfl 0 rfl, trivial⟩ ?_
    exact WL.toV K (decide (p1.State ≥ p0.States)) [20, 2, 3] rfl (by rw [h2881]; rfl)
  rintro b2882 rfl
  refine seg 16 [] [2, 3, 21] [(2, (.pointer (some ⟨g2756, 0, none⟩))), (3, (.pointer (some ⟨g2760, 0, none⟩))), (21, (.bool (((!t2874) || (decide (p1.State < 0))) || (decide (p1.State ≥ p0.States)))))] [] (fun fb => by kernel_rfl) rfl trivial ?_
  refine WL.cutV (T := Bool) 21 (fun t => [(26, (.bool t)), (2, (.pointer (some ⟨g2756, 0, none⟩))), (3, (.pointer (some ⟨g2760, 0, none⟩)))]) (fun t => t = ((((!t2874) || (decide (p1.State < 0))) || (decide (p1.State ≥ p0.States))) || (decide ((p1.Cells.length : Int) < 1)))) (fun K => ?_) ?_
  ·
    rcases Bool.eq_false_or_eq_true (((!t2874) || (decide (p1.State < 0))) || (decide (p1.State ≥ p0.States))) with h2883 | h2883
    ·
      refine WL.setB 21 h2883 rfl ?_
      refine seg 21 [] [2, 3, 26] [(2, (.pointer (some ⟨g2756, 0, none⟩))), (3, (.pointer (some ⟨g2760, 0, none⟩))), (26, (.bool true))] [] (fun fb => by kernel_rfl) rfl trivial ?_
      exact WL.toV K true [26, 2, 3] rfl (by rw [h2883]; rfl)
    refine WL.setB 21 h2883 rfl ?_
    refine seg 21 [.v (.slice A_p1_Cells p1.Cells.length c_p1_Cells)] [2, 3, 26] [(2, (.pointer (some ⟨g2756, 0, none⟩))), (3, (.pointer (some ⟨g2760, 0, none⟩))), (26, (.bool (decide ((p1.Cells.length : Int) < 1))))] [.cell ⟨g2760, 2, none⟩ (.slice A_p1_Cells p1.Cells.length c_p1_Cells)] (fun fb => by kernel_rfl) rfl ⟨hS2878.cell 0 rfl 2 rfl, trivial⟩ ?_
    exact WL.toV K (decide ((p1.Cells.length : Int) < 1)) [26, 2, 3] rfl (by rw [h2883]; rfl)
  rintro b2884 rfl
  refine seg 22 [] [2, 3, 27] [(2, (.pointer (some ⟨g2756, 0, none⟩))), (3, (.pointer (some ⟨g2760, 0, none⟩))), (27, (.bool ((((!t2874) || (decide (p1.State < 0))) || (decide (p1.State ≥ p0.States))) || (decide ((p1.Cells.length : Int) < 1)))))] [] (fun fb => by kernel_rfl) rfl trivial ?_
  refine WL.cutV (T := Bool) 27 (fun t => [(32, (.bool t)), (2, (.pointer (some ⟨g2756, 0, none⟩))), (3, (.pointer (some ⟨g2760, 0, none⟩)))]) (fun t => t = (((((!t2874) || (decide (p1.State < 0))) || (decide (p1.State ≥ p0.States))) || (decide ((p1.Cells.length : Int) < 1))) || (decide ((p1.Cells.length : Int) > 200)))) (fun K => ?_) ?_
  ·
    rcases Bool.eq_false_or_eq_true ((((!t2874) || (decide (p1.State < 0))) || (decide (p1.State ≥ p0.States))) || (decide ((p1.Cells.length : Int) < 1))) with h2885 | h2885
    ·
      refine WL.setB 27 h2885 rfl ?_
      refine seg 27 [] [2, 3, 32] [(2, (.pointer (some ⟨g2756, 0, none⟩))), (3, (.pointer (some ⟨g2760, 0, none⟩))), (32, (.bool true))] [] (fun fb => by kernel_rfl) rfl trivial ?_
      exact WL.toV K true [32, 2, 3] rfl (by rw [h2885]; rfl)
    refine WL.setB 27 h2885 rfl ?_
    refine seg 27 [.v (.slice A_p1_Cells p1.Cells.length c_p1_Cells)] [2, 3, 32] [(2, (.pointer (some ⟨g2756, 0, none⟩))), (3, (.pointer (some ⟨g2760, 0, none⟩))), (32, (.bool (decide ((p1.Cells.length : Int) > 200))))] [.cell ⟨g2760, 2, none⟩ (.slice A_p1_Cells p1.Cells.length c_p1_Cells)] (fun fb => by kernel_rfl) rfl ⟨hS2878.cell 0 rfl 2 rfl, trivial⟩ ?_
    exact WL.toV K (decide ((p1.Cells.length : Int) > 200)) [32, 2, 3] rfl (by rw [h2885]; rfl)
  rintro b2886 rfl
  refine seg 28 [] [2, 3, 33] [(2, (.pointer (some ⟨g2756, 0, none⟩))), (3, (.pointer (some ⟨g2760, 0, none⟩))), (33, (.bool (((((!t2874) || (decide (p1.State < 0))) || (decide (p1.State ≥ p0.States))) || (decide ((p1.Cells.length : Int) < 1))) || (decide ((p1.Cells.length : Int) > 200)))))] [] (fun fb => by kernel_rfl) rfl trivial ?_
  refine WL.cutV (T := Bool) 32 (fun t => [(37, (.bool t)), (2, (.pointer (some ⟨g2756, 0, none⟩))), (3, (.pointer (some ⟨g2760, 0, none⟩)))]) (fun t => t = ((((((!t2874) || (decide (p1.State < 0))) || (decide (p1.State ≥ p0.States))) || (decide ((p1.Cells.length : Int) < 1))) || (decide ((p1.Cells.length : Int) > 200))) || (decide (p1.At < 0)))) (fun K => ?_) ?_
  ·
    rcases Bool.eq_false_or_eq_true (((((!t2874) || (decide (p1.State < 0))) || (decide (p1.State ≥ p0.States))) || (decide ((p1.Cells.length : Int) < 1))) || (decide ((p1.Cells.length : Int) > 200))) with h2887 | h2887
    ·
      refine WL.setB 33 h2887 rfl ?_
      refine seg 32 [] [2, 3, 37] [(2, (.pointer (some ⟨g2756, 0, none⟩))), (3, (.pointer (some ⟨g2760, 0, none⟩))), (37, (.bool true))] [] (fun fb => by kernel_rfl) rfl trivial ?_
      exact WL.toV K true [37, 2, 3] rfl (by rw [h2887]; rfl)
    refine WL.setB 33 h2887 rfl ?_
    refine seg 32 [.v (.int .i64 p1.At)] [2, 3, 37] [(2, (.pointer (some ⟨g2756, 0, none⟩))), (3, (.pointer (some ⟨g2760, 0, none⟩))), (37, (.bool (decide (p1.At < 0))))] [.cell ⟨g2760, 1, none⟩ (.int .i64 p1.At)] (fun fb => by kernel_rfl) rfl ⟨hS2878.cell 0 rfl 1 rfl, trivial⟩ ?_
    exact WL.toV K (decide (p1.At < 0)) [37, 2, 3] rfl (by rw [h2887]; rfl)
  rintro b2888 rfl
  refine seg 33 [] [2, 3, 38] [(2, (.pointer (some ⟨g2756, 0, none⟩))), (3, (.pointer (some ⟨g2760, 0, none⟩))), (38, (.bool ((((((!t2874) || (decide (p1.State < 0))) || (decide (p1.State ≥ p0.States))) || (decide ((p1.Cells.length : Int) < 1))) || (decide ((p1.Cells.length : Int) > 200))) || (decide (p1.At < 0)))))] [] (fun fb => by kernel_rfl) rfl trivial ?_
  refine WL.cutV (T := Bool) 40 (fun t => [(45, (.bool t)), (2, (.pointer (some ⟨g2756, 0, none⟩))), (3, (.pointer (some ⟨g2760, 0, none⟩)))]) (fun t => t = (((((((!t2874) || (decide (p1.State < 0))) || (decide (p1.State ≥ p0.States))) || (decide ((p1.Cells.length : Int) < 1))) || (decide ((p1.Cells.length : Int) > 200))) || (decide (p1.At < 0))) || (decide (p1.At ≥ (p1.Cells.length : Int))))) (fun K => ?_) ?_
  ·
    rcases Bool.eq_false_or_eq_true ((((((!t2874) || (decide (p1.State < 0))) || (decide (p1.State ≥ p0.States))) || (decide ((p1.Cells.length : Int) < 1))) || (decide ((p1.Cells.length : Int) > 200))) || (decide (p1.At < 0))) with h2889 | h2889
    ·
      refine WL.setB 38 h2889 rfl ?_
      refine seg 40 [] [2, 3, 45] [(2, (.pointer (some ⟨g2756, 0, none⟩))), (3, (.pointer (some ⟨g2760, 0, none⟩))), (45, (.bool true))] [] (fun fb => by kernel_rfl) rfl trivial ?_
      exact WL.toV K true [45, 2, 3] rfl (by rw [h2889]; rfl)
    refine WL.setB 38 h2889 rfl ?_
    refine seg 40 [.v (.int .i64 p1.At), .v (.slice A_p1_Cells p1.Cells.length c_p1_Cells)] [2, 3, 45] [(2, (.pointer (some ⟨g2756, 0, none⟩))), (3, (.pointer (some ⟨g2760, 0, none⟩))), (45, (.bool (decide (p1.At ≥ (p1.Cells.length : Int)))))] [.cell ⟨g2760, 1, none⟩ (.int .i64 p1.At), .cell ⟨g2760, 2, none⟩ (.slice A_p1_Cells p1.Cells.length c_p1_Cells)] (fun fb => by kernel_rfl) rfl ⟨hS2878.cell 0 rfl 1 rfl, hS2878.cell 0 rfl 2 rfl, trivial⟩ ?_
    exact WL.toV K (decide (p1.At ≥ (p1.Cells.length : Int))) [45, 2, 3] rfl (by rw [h2889]; rfl)
  rintro b2890 rfl
  refine WL.done rfl ?_
  refine WX.next ?_
  rcases br_some hf with ⟨h2891, hf⟩ | ⟨h2891, hf⟩
  · refine WC.condT2 (fun fb => by kernel_rfl) h2891 ?_
    refine WC.seq ?_
    refine WC.region ?_
    refine seg 1 [] [4] [(4, (.bool false))] [] (fun fb => by kernel_rfl) rfl trivial ?_
    refine WL.done rfl ?_
    refine WX.next ?_
    refine WC.ret ?_
    injection hf with hf
    subst hf
    exact WX.thenR (WX.ret_ [] (.bool false) [] (fun fb => by kernel_rfl) trivial ⟨_, rfl, rfl, hS2878.keep⟩)
  refine WC.condF2 (fun fb => by kernel_rfl) h2891 ?_
  refine WC.skip ?_
  refine WX.next ?_
  refine WC.seq ?_
  refine WC.seq ?_
  refine WC.region ?_
  refine seg 1 [] [2, 3, 5] [(2, (.pointer (some ⟨g2756, 0, none⟩))), (3, (.pointer (some ⟨g2760, 0, none⟩))), (5, (.int .i64 0))] [] (fun fb => by kernel_rfl) rfl trivial ?_
  refine WL.done rfl ?_
  refine WX.next ?_
  obtain ⟨x2962, hx2963, hf⟩ := bind_some hf
  refine WC.cutN (T := Unit) (fun t => []) (fun t w1 => St NoS w w1 [rowR enc_Action A_p0_Actions c_p0_Actions p0.Actions, rowR encInt A_p1_Cells c_p1_Cells p1.Cells] [] ∧ x2962 = .inr t) (fun Kx2962 => ?_) ?_
  ·
    refine WC.block ?_
    refine WC.loop (T := Int) (fun t => [(2, (.pointer (some ⟨g2756, 0, none⟩))), (3, (.pointer (some ⟨g2760, 0, none⟩))), (5, (.int .i64 t))]) (fun n t w1 => St NoS w w1 [rowR enc_Action A_p0_Actions c_p0_Actions p0.Actions, rowR encInt A_p1_Cells c_p1_Cells p1.Cells] [blk g2756 (.cells #[(.int .i64 p0.States), (.int .i64 p0.Symbols), (.slice A_p0_Actions p0.Actions.length c_p0_Actions)] 24 (0, 0)), blk g2760 (.cells #[(.int .i64 p1.State), (.int .i64 p1.At), (.slice A_p1_Cells p1.Cells.length c_p1_Cells)] 27 (0, 0))] ∧ ref08_Fits.l0 n t p0 p1 = some x2962) k 0 [2, 3, 5] rfl ⟨(hS2878.subR [0, 1]).sub [1, 0] (by decide), hx2963⟩ ?_
    rintro k2964 x2961 w2965 ⟨hS2966, hl2967⟩
    cases k2964 with
    | zero => rw [ref08_Fits.l0] at hl2967; cases hl2967
    | succ k2964 =>
      rw [ref08_Fits.l0] at hl2967
      refine WC.seq ?_
      refine WC.seq ?_
      refine WC.region ?_
      refine seg 5 [.v (.slice A_p1_Cells p1.Cells.length c_p1_Cells)] [2, 3, 5, 50] [(2, (.pointer (some ⟨g2756, 0, none⟩))), (3, (.pointer (some ⟨g2760, 0, none⟩))), (5, (.int .i64 x2961)), (50, (.bool (decide (x2961 < (p1.Cells.length : Int)))))] [.cell ⟨g2760, 2, none⟩ (.slice A_p1_Cells p1.Cells.length c_p1_Cells)] (fun fb => by kernel_rfl) rfl ⟨hS2966.cell 1 rfl 2 rfl, trivial⟩ ?_
      refine WL.done rfl ?_
      refine WX.next ?_
      rcases br_some hl2967 with ⟨h2968, hl2967⟩ | ⟨h2968, hl2967⟩
      · refine WC.condT2 (fun fb => by kernel_rfl) h2968 ?_
        refine WC.skip ?_
        refine WX.next ?_
        refine WC.seq ?_
        refine WC.block ?_
        refine WC.seq ?_
        obtain ⟨x2983, hx2984, hl2967⟩ := bind_some hl2967
        refine WC.cutN (T := Bool) (fun t => [(2, (.pointer (some ⟨g2756, 0, none⟩))), (3, (.pointer (some ⟨g2760, 0, none⟩))), (5, (.int .i64 x2961)), (68, (.bool t))]) (fun t w1 => St NoS w w1 [rowR enc_Action A_p0_Actions c_p0_Actions p0.Actions, rowR encInt A_p1_Cells c_p1_Cells p1.Cells] [blk g2756 (.cells #[(.int .i64 p0.States), (.int .i64 p0.Symbols), (.slice A_p0_Actions p0.Actions.length c_p0_Actions)] 24 (0, 0)), blk g2760 (.cells #[(.int .i64 p1.State), (.int .i64 p1.At), (.slice A_p1_Cells p1.Cells.length c_p1_Cells)] 27 (0, 0))] ∧ x2983 = t) (fun Kx2983 => ?_) ?_
        ·
          rcases br_some hx2984 with ⟨h2986, hx2984⟩ | ⟨h2986, hx2984⟩
          ·
            obtain ⟨h2991, hx2984⟩ := as_some hx2984
            refine WC.regionD ([(1, ⟨g2760, 2, none⟩, (.slice A_p1_Cells p1.Cells.length c_p1_Cells)), (4, ((adr A_p1_Cells).add ((x2961).toNat * 1)), (.int .i64 (rdD p1.Cells x2961 0)))], [0, 1, 2, 3, 4, 5, 6, 7, 8, 9, 10, 11, 12, 13, 14, 15], [[], [0], [], [0, 1, 2], [0, 1, 2, 3], [0, 1, 2, 3, 4], [0, 1, 2, 3, 4, 5], [0, 1, 2, 3, 4, 5, 6], [0, 1, 2, 3, 4, 5, 6, 7], [0, 1, 2, 3, 4, 5, 6], [0, 1, 2, 3, 4, 5, 6, 7, 8, 9], [0, 1, 2, 3, 4, 5, 6, 7, 8, 9, 10], [0, 1, 2, 3, 4, 5, 6], [0, 1, 2, 3, 4, 5, 6, 12], [0, 1, 2, 3, 4, 5, 6, 7, 8, 9, 10, 11, 12, 13], [0, 1, 2, 3, 4, 5, 6, 7, 8, 9, 10, 11, 12, 13, 14]]) [[0, 1, 2, 3, 4, 5, 6, 7, 8, 9, 10, 11, 12, 13, 14, 15]] (by kernel_rfl) (by kernel_rfl) (NoPanic.seq (NoPanic.block (NoPanic.seq (NoPanic.seq (NoPanic.block (NoPanic.seq (NoPanic.body))))))) ?_
            have hS2989 := hS2966.drew
            revert hS2989
            generalize World.drew w2965 = w2988
            intro hS2989
            refine ⟨⟨hS2989.cell 1 rfl 2 rfl, rowR.cell (hS2989.rd 1).1 0 h2991.1 h2991.2 0 rfl, trivial⟩, forallC ?_ (forallN)⟩
            refine segF 7 [.v (.slice A_p1_Cells p1.Cells.length c_p1_Cells), .v (.int .i64 (rdD p1.Cells x2961 0))] [2, 3, 5, 59] [(2, (.pointer (some ⟨g2756, 0, none⟩))), (3, (.pointer (some ⟨g2760, 0, none⟩))), (5, (.int .i64 x2961)), (59, (.bool (decide ((rdD p1.Cells x2961 0) < 0))))] [.idx A_p1_Cells x2961 p1.Cells.length] [0, 1] [(1, ⟨g2760, 2, none⟩, (.slice A_p1_Cells p1.Cells.length c_p1_Cells)), (4, ((adr A_p1_Cells).add ((x2961).toNat * 1)), (.int .i64 (rdD p1.Cells x2961 0)))] (fun fb => by kernel_rfl) rfl ⟨rowR.adr (hS2989.rd 1).1 h2991.1 h2991.2, trivial⟩ rfl ?_
            refine WL.setB 59 h2986 rfl ?_
            refine seg 16 [] [2, 3, 5, 68] [(2, (.pointer (some ⟨g2756, 0, none⟩))), (3, (.pointer (some ⟨g2760, 0, none⟩))), (5, (.int .i64 x2961)), (68, (.bool true))] [] (fun fb => by kernel_rfl) rfl trivial ?_
            refine WL.done rfl ?_
            injection hx2984 with hx2984
            exact WX.to Kx2983 true [2, 3, 5, 68] rfl ⟨(hS2989.subR [0, 1]).sub [0, 1] (by decide), hx2984.symm⟩
          obtain ⟨h2996, hx2984⟩ := as_some hx2984
          refine WC.regionD ([(1, ⟨g2760, 2, none⟩, (.slice A_p1_Cells p1.Cells.length c_p1_Cells)), (4, ((adr A_p1_Cells).add ((x2961).toNat * 1)), (.int .i64 (rdD p1.Cells x2961 0))), (8, ⟨g2760, 2, none⟩, (.slice A_p1_Cells p1.Cells.length c_p1_Cells)), (11, ((adr A_p1_Cells).add ((x2961).toNat * 1)), (.int .i64 (rdD p1.Cells x2961 0))), (13, ⟨g2756, 1, none⟩, (.int .i64 p0.Symbols))], [0, 1, 2, 3, 4, 5, 6, 7, 8, 9, 10, 11, 12, 13, 14, 15], [[], [0], [], [0, 1, 2], [0, 1, 2, 3], [0, 1, 2, 3, 4], [0, 1, 2, 3, 4, 5], [0, 1, 2, 3, 4, 5, 6], [0, 1, 2, 3, 4, 5, 6, 7], [0, 1, 2, 3, 4, 5, 6], [0, 1, 2, 3, 4, 5, 6, 7, 8, 9], [0, 1, 2, 3, 4, 5, 6, 7, 8, 9, 10], [0, 1, 2, 3, 4, 5, 6], [0, 1, 2, 3, 4, 5, 6, 12], [0, 1, 2, 3, 4, 5, 6, 7, 8, 9, 10, 11, 12, 13], [0, 1, 2, 3, 4, 5, 6, 7, 8, 9, 10, 11, 12, 13, 14]]) [[0, 1, 2, 3, 4, 5, 6, 7, 8, 9, 10, 11, 12, 13, 14, 15]] (by kernel_rfl) (by kernel_rfl) (NoPanic.seq (NoPanic.block (NoPanic.seq (NoPanic.seq (NoPanic.block (NoPanic.seq (NoPanic.body))))))) ?_
          have hS2994 := hS2966.drew
          revert hS2994
          generalize World.drew w2965 = w2993
          intro hS2994
          refine ⟨⟨hS2994.cell 1 rfl 2 rfl, rowR.cell (hS2994.rd 1).1 0 h2996.1 h2996.2 0 rfl, hS2994.cell 1 rfl 2 rfl, rowR.cell (hS2994.rd 1).1 0 h2996.1 h2996.2 0 rfl, hS2994.cell 0 rfl 1 rfl, trivial⟩, forallC ?_ (forallN)⟩
          refine segF 7 [.v (.slice A_p1_Cells p1.Cells.length c_p1_Cells), .v (.int .i64 (rdD p1.Cells x2961 0))] [2, 3, 5, 59] [(2, (.pointer (some ⟨g2756, 0, none⟩))), (3, (.pointer (some ⟨g2760, 0, none⟩))), (5, (.int .i64 x2961)), (59, (.bool (decide ((rdD p1.Cells x2961 0) < 0))))] [.idx A_p1_Cells x2961 p1.Cells.length] [0, 1] [(1, ⟨g2760, 2, none⟩, (.slice A_p1_Cells p1.Cells.length c_p1_Cells)), (4, ((adr A_p1_Cells).add ((x2961).toNat * 1)), (.int .i64 (rdD p1.Cells x2961 0)))] (fun fb => by kernel_rfl) rfl ⟨rowR.adr (hS2994.rd 1).1 h2996.1 h2996.2, trivial⟩ rfl ?_
          refine WL.setB 59 h2986 rfl ?_
          refine segF 16 [.v (.slice A_p1_Cells p1.Cells.length c_p1_Cells), .v (.int .i64 (rdD p1.Cells x2961 0)), .v (.int .i64 p0.Symbols)] [2, 3, 5, 68] [(2, (.pointer (some ⟨g2756, 0, none⟩))), (3, (.pointer (some ⟨g2760, 0, none⟩))), (5, (.int .i64 x2961)), (68, (.bool (decide ((rdD p1.Cells x2961 0) ≥ p0.Symbols))))] [.idx A_p1_Cells x2961 p1.Cells.length] [2, 3, 4] [(8, ⟨g2760, 2, none⟩, (.slice A_p1_Cells p1.Cells.length c_p1_Cells)), (11, ((adr A_p1_Cells).add ((x2961).toNat * 1)), (.int .i64 (rdD p1.Cells x2961 0))), (13, ⟨g2756, 1, none⟩, (.int .i64 p0.Symbols))] (fun fb => by kernel_rfl) rfl ⟨rowR.adr (hS2994.rd 1).1 h2996.1 h2996.2, trivial⟩ rfl ?_
          refine WL.done rfl ?_
          injection hx2984 with hx2984
          exact WX.to Kx2983 (decide ((rdD p1.Cells x2961 0) ≥ p0.Symbols)) [2, 3, 5, 68] rfl ⟨(hS2994.subR [0, 1]).sub [0, 1] (by decide), hx2984.symm⟩
        rintro y3000 w2997 ⟨hS2998, hq2999⟩
        subst hq2999
        refine WX.next ?_
        rcases br_some hl2967 with ⟨h3001, hl2967⟩ | ⟨h3001, hl2967⟩
        · refine WC.condT2 (fun fb => by kernel_rfl) h3001 ?_
          refine WC.seq ?_
          refine WC.region ?_
          refine seg 1 [] [4] [(4, (.bool false))] [] (fun fb => by kernel_rfl) rfl trivial ?_
          refine WL.done rfl ?_
          refine WX.next ?_
          refine WC.ret ?_
          injection hl2967 with hl2967
          subst hl2967
          injection hf with hf
          subst hf
          exact WX.blockR (WX.thenR (WX.thenR (WX.blockR (WX.thenR (WX.ret_ [] (.bool false) [] (fun fb => by kernel_rfl) trivial ⟨_, rfl, rfl, hS2998.keep⟩)))))
        refine WC.condF2 (fun fb => by kernel_rfl) h3001 ?_
        refine WC.skip ?_
        refine WX.blockN (WX.next ?_)
        refine WC.region ?_
        refine seg 3 [] [2, 3, 5] [(2, (.pointer (some ⟨g2756, 0, none⟩))), (3, (.pointer (some ⟨g2760, 0, none⟩))), (5, (.int .i64 (w64 (x2961 + 1))))] [] (fun fb => by kernel_rfl) rfl trivial ?_
        refine WL.done rfl ?_
        exact WX.again k2964 (Nat.lt_succ_self _) (w64 (x2961 + 1)) [2, 3, 5] rfl ⟨(hS2998.subR [0, 1]).sub [0, 1] (by decide), hl2967⟩
      refine WC.condF2 (fun fb => by kernel_rfl) h2968 ?_
      refine WC.exit ?_
      injection hl2967 with hl2967
      exact WX.thenX (WX.thenX (WX.blockHere (WX.to Kx2962 () [] rfl ⟨(hS2966.subR [0, 1]).sub [] (by decide), hl2967.symm⟩)))
  rintro y3005 w3002 ⟨hS3003, hq3004⟩
  subst hq3004
  have hf := sum_inr hf
  refine WX.next ?_
  refine WC.seq ?_
  refine WC.region ?_
  refine seg 1 [] [4] [(4, (.bool true))] [] (fun fb => by kernel_rfl) rfl trivial ?_
  refine WL.done rfl ?_
  refine WX.next ?_
  refine WC.ret ?_
  injection hf with hf
  subst hf
  exact WX.ret_ [] (.bool true) [] (fun fb => by kernel_rfl) trivial ⟨_, rfl, rfl, hS3003.keep⟩
theorem ref01_Same_calls (k : Nat) (p0 : List Int) (p1 : List Int) (A_p0 : Option Addr) (c_p0 : Nat) (A_p1 : Option Addr) (c_p1 : Nat) (r : Bool) (w : World) (hR0 : RO NoS w (rowR encInt A_p0 c_p0 p0)) (hR1 : RO NoS w (rowR encInt A_p1 c_p1 p1)) (hf : ref01_Same k p0 p1 = some r) :
    CallsR Try.prog 31 #[(.slice A_p0 p0.length c_p0), (.slice A_p1 p1.length c_p1)] w (fun v w' => v = (.bool r) ∧ Keeps NoS w w') := by
  have hS : St NoS w w [rowR encInt A_p0 c_p0 p0, rowR encInt A_p1 c_p1 p1] [] := St.init (ro_cons hR0 (ro_cons hR1 (ro_nil _ _)))
  refine enter 26 Try.func31 rfl Try.ntmps31 rfl ?_
  unfold ref01_Same at hf
  refine WC.seq ?_
  refine WC.region ?_
  refine seg 1 [] [0, 1] [(0, (.slice A_p0 p0.length c_p0)), (1, (.slice A_p1 p1.length c_p1))] [] (fun fb => by kernel_rfl) rfl trivial ?_
  refine WL.done rfl ?_
  refine WX.next ?_
  refine WC.seq ?_
  refine WC.seq ?_
  refine WC.region ?_
  refine seg 5 [] [0, 1, 10] [(0, (.slice A_p0 p0.length c_p0)), (1, (.slice A_p1 p1.length c_p1)), (10, (.bool ((p0.length : Int) != (p1.length : Int))))] [] (fun fb => by kernel_rfl) rfl trivial ?_
  refine WL.done rfl ?_
  refine WX.next ?_
  rcases br_some hf with ⟨h3086, hf⟩ | ⟨h3086, hf⟩
  · refine WC.condT2 (fun fb => by kernel_rfl) h3086 ?_
    refine WC.seq ?_
    refine WC.region ?_
    refine seg 1 [] [4] [(4, (.bool false))] [] (fun fb => by kernel_rfl) rfl trivial ?_
    refine WL.done rfl ?_
    refine WX.next ?_
    refine WC.ret ?_
    injection hf with hf
    subst hf
    exact WX.thenR (WX.ret_ [] (.bool false) [] (fun fb => by kernel_rfl) trivial ⟨_, rfl, rfl, hS.keep⟩)
  refine WC.condF2 (fun fb => by kernel_rfl) h3086 ?_
  refine WC.skip ?_
  refine WX.next ?_
  refine WC.seq ?_
  refine WC.seq ?_
  refine WC.region ?_
  refine seg 1 [] [0, 1, 5] [(0, (.slice A_p0 p0.length c_p0)), (1, (.slice A_p1 p1.length c_p1)), (5, (.int .i64 0))] [] (fun fb => by kernel_rfl) rfl trivial ?_
  refine WL.done rfl ?_
  refine WX.next ?_
  obtain ⟨x3109, hx3110, hf⟩ := bind_some hf
  refine WC.cutN (T := Unit) (fun t => []) (fun t w1 => St NoS w w1 [rowR encInt A_p0 c_p0 p0, rowR encInt A_p1 c_p1 p1] [] ∧ x3109 = .inr t) (fun Kx3109 => ?_) ?_
  ·
    refine WC.block ?_
    refine WC.loop (T := Int) (fun t => [(0, (.slice A_p0 p0.length c_p0)), (1, (.slice A_p1 p1.length c_p1)), (5, (.int .i64 t))]) (fun n t w1 => St NoS w w1 [rowR encInt A_p0 c_p0 p0, rowR encInt A_p1 c_p1 p1] [] ∧ ref01_Same.l0 n t p0 p1 = some x3109) k 0 [0, 1, 5] rfl ⟨(hS.subR [0, 1]).sub [] (by decide), hx3110⟩ ?_
    rintro k3111 x3108 w3112 ⟨hS3113, hl3114⟩
    cases k3111 with
    | zero => rw [ref01_Same.l0] at hl3114; cases hl3114
    | succ k3111 =>
      rw [ref01_Same.l0] at hl3114
      refine WC.seq ?_
      refine WC.seq ?_
      refine WC.region ?_
      refine seg 4 [] [0, 1, 5, 14] [(0, (.slice A_p0 p0.length c_p0)), (1, (.slice A_p1 p1.length c_p1)), (5, (.int .i64 x3108)), (14, (.bool (decide (x3108 < (p0.length : Int)))))] [] (fun fb => by kernel_rfl) rfl trivial ?_
      refine WL.done rfl ?_
      refine WX.next ?_
      rcases br_some hl3114 with ⟨h3115, hl3114⟩ | ⟨h3115, hl3114⟩
      · refine WC.condT2 (fun fb => by kernel_rfl) h3115 ?_
        refine WC.skip ?_
        refine WX.next ?_
        refine WC.seq ?_
        refine WC.block ?_
        refine WC.seq ?_
        obtain ⟨h3122, hl3114⟩ := as_some hl3114
        obtain ⟨h3123, hl3114⟩ := as_some hl3114
        refine WC.regionD ([(3, ((adr A_p0).add ((x3108).toNat * 1)), (.int .i64 (rdD p0 x3108 0))), (7, ((adr A_p1).add ((x3108).toNat * 1)), (.int .i64 (rdD p1 x3108 0)))], [0, 1, 2, 3, 4, 5, 6, 7, 8], [[], [], [0, 1], [0, 1, 2], [], [], [4, 5], [4, 5, 6], [0, 1, 2, 3, 4, 5, 6, 7]]) [[0, 1, 2, 3, 4, 5, 6, 7, 8]] (by kernel_rfl) (by kernel_rfl) (NoPanic.seq (NoPanic.block (NoPanic.seq (NoPanic.seq (NoPanic.block (NoPanic.seq (NoPanic.body))))))) ?_
        have hS3119 := hS3113.drew
        revert hS3119
        generalize World.drew w3112 = w3118
        intro hS3119
        refine ⟨⟨rowR.cell (hS3119.rd 0).1 0 h3122.1 h3122.2 0 rfl, rowR.cell (hS3119.rd 1).1 0 h3123.1 h3123.2 0 rfl, trivial⟩, forallC ?_ (forallN)⟩
        refine segF 9 [.v (.int .i64 (rdD p0 x3108 0)), .v (.int .i64 (rdD p1 x3108 0))] [0, 1, 5, 25] [(0, (.slice A_p0 p0.length c_p0)), (1, (.slice A_p1 p1.length c_p1)), (5, (.int .i64 x3108)), (25, (.bool ((rdD p0 x3108 0) != (rdD p1 x3108 0))))] [.idx A_p0 x3108 p0.length, .idx A_p1 x3108 p1.length] [0, 1] [(3, ((adr A_p0).add ((x3108).toNat * 1)), (.int .i64 (rdD p0 x3108 0))), (7, ((adr A_p1).add ((x3108).toNat * 1)), (.int .i64 (rdD p1 x3108 0)))] (fun fb => by kernel_rfl) rfl ⟨rowR.adr (hS3119.rd 0).1 h3122.1 h3122.2, rowR.adr (hS3119.rd 1).1 h3123.1 h3123.2, trivial⟩ rfl ?_
        refine WL.done rfl ?_
        refine WX.next ?_
        rcases br_some hl3114 with ⟨h3124, hl3114⟩ | ⟨h3124, hl3114⟩
        · refine WC.condT2 (fun fb => by kernel_rfl) h3124 ?_
          refine WC.seq ?_
          refine WC.region ?_
          refine seg 1 [] [4] [(4, (.bool false))] [] (fun fb => by kernel_rfl) rfl trivial ?_
          refine WL.done rfl ?_
          refine WX.next ?_
          refine WC.ret ?_
          injection hl3114 with hl3114
          subst hl3114
          injection hf with hf
          subst hf
          exact WX.blockR (WX.thenR (WX.thenR (WX.blockR (WX.thenR (WX.ret_ [] (.bool false) [] (fun fb => by kernel_rfl) trivial ⟨_, rfl, rfl, hS3119.keep⟩)))))
        refine WC.condF2 (fun fb => by kernel_rfl) h3124 ?_
        refine WC.skip ?_
        refine WX.blockN (WX.next ?_)
        refine WC.region ?_
        refine seg 3 [] [0, 1, 5] [(0, (.slice A_p0 p0.length c_p0)), (1, (.slice A_p1 p1.length c_p1)), (5, (.int .i64 (w64 (x3108 + 1))))] [] (fun fb => by kernel_rfl) rfl trivial ?_
        refine WL.done rfl ?_
        exact WX.again k3111 (Nat.lt_succ_self _) (w64 (x3108 + 1)) [0, 1, 5] rfl ⟨(hS3119.subR [0, 1]).sub [] (by decide), hl3114⟩
      refine WC.condF2 (fun fb => by kernel_rfl) h3115 ?_
      refine WC.exit ?_
      injection hl3114 with hl3114
      exact WX.thenX (WX.thenX (WX.blockHere (WX.to Kx3109 () [] rfl ⟨(hS3113.subR [0, 1]).sub [] (by decide), hl3114.symm⟩)))
  rintro y3128 w3125 ⟨hS3126, hq3127⟩
  subst hq3127
  have hf := sum_inr hf
  refine WX.next ?_
  refine WC.seq ?_
  refine WC.region ?_
  refine seg 1 [] [4] [(4, (.bool true))] [] (fun fb => by kernel_rfl) rfl trivial ?_
  refine WL.done rfl ?_
  refine WX.next ?_
  refine WC.ret ?_
  injection hf with hf
  subst hf
  exact WX.ret_ [] (.bool true) [] (fun fb => by kernel_rfl) trivial ⟨_, rfl, rfl, hS3126.keep⟩
theorem ref01_SamePattern_calls (k : Nat) (p0 : Pattern) (p1 : Pattern) (A_p0_Cells : Option Addr) (c_p0_Cells : Nat) (A_p1_Cells : Option Addr) (c_p1_Cells : Nat) (r : Bool) (w : World) (hR0 : RO NoS w (rowR encInt A_p0_Cells c_p0_Cells p0.Cells)) (hR1 : RO NoS w (rowR encInt A_p1_Cells c_p1_Cells p1.Cells)) (hf : ref01_SamePattern k p0 p1 = some r) :
    CallsR Try.prog 14 #[(.agg #[(.int .i64 p0.Width), (.int .i64 p0.Height), (.slice A_p0_Cells p0.Cells.length c_p0_Cells)]), (.agg #[(.int .i64 p1.Width), (.int .i64 p1.Height), (.slice A_p1_Cells p1.Cells.length c_p1_Cells)])] w (fun v w' => v = (.bool r) ∧ Keeps NoS w w') := by
  have hS : St NoS w w [rowR encInt A_p0_Cells c_p0_Cells p0.Cells, rowR encInt A_p1_Cells c_p1_Cells p1.Cells] [] := St.init (ro_cons hR0 (ro_cons hR1 (ro_nil _ _)))
  refine enter 24 Try.func14 rfl Try.ntmps14 rfl ?_
  unfold ref01_SamePattern at hf
  refine WC.seq ?_
  refine WC.region ?_
  refine WL.new hS 2 [] (fun g => (.pointer (some ⟨g, 0, none⟩))) (.cells #[(.int .i64 p0.Width), (.int .i64 p0.Height), (.slice A_p0_Cells p0.Cells.length c_p0_Cells)] 31 (0, 0)) [] (fun fb g => by kernel_rfl) trivial (fun g3076 w3077 hS3078 => ?_)
  refine ⟨trivial, ?_⟩
  refine WL.new hS3078 3 [] (fun g => (.pointer (some ⟨g, 0, none⟩))) (.cells #[(.int .i64 p1.Width), (.int .i64 p1.Height), (.slice A_p1_Cells p1.Cells.length c_p1_Cells)] 31 (0, 0)) [] (fun fb g => by kernel_rfl) trivial (fun g3080 w3081 hS3082 => ?_)
  refine ⟨trivial, ?_⟩
  refine seg 3 [] [2, 3] [(2, (.pointer (some ⟨g3076, 0, none⟩))), (3, (.pointer (some ⟨g3080, 0, none⟩)))] [] (fun fb => by kernel_rfl) rfl trivial ?_
  refine WL.done rfl ?_
  refine WX.next ?_
  refine WC.seq ?_
  refine WC.region ?_
  refine seg 6 [.v (.int .i64 p0.Width), .v (.int .i64 p1.Width)] [2, 3, 10] [(2, (.pointer (some ⟨g3076, 0, none⟩))), (3, (.pointer (some ⟨g3080, 0, none⟩))), (10, (.bool (p0.Width == p1.Width)))] [.cell ⟨g3076, 0, none⟩ (.int .i64 p0.Width), .cell ⟨g3080, 0, none⟩ (.int .i64 p1.Width)] (fun fb => by kernel_rfl) rfl ⟨hS3082.cell 1 rfl 0 rfl, hS3082.cell 0 rfl 0 rfl, trivial⟩ ?_
  refine WL.cutV (T := Bool) 12 (fun t => [(16, (.bool t)), (2, (.pointer (some ⟨g3076, 0, none⟩))), (3, (.pointer (some ⟨g3080, 0, none⟩)))]) (fun t => t = ((p0.Width == p1.Width) && (p0.Height == p1.Height))) (fun K => ?_) ?_
  ·
    rcases Bool.eq_false_or_eq_true (p0.Width == p1.Width) with h3084 | h3084
    ·
      refine WL.setB 10 h3084 rfl ?_
      refine seg 12 [.v (.int .i64 p0.Height), .v (.int .i64 p1.Height)] [2, 3, 16] [(2, (.pointer (some ⟨g3076, 0, none⟩))), (3, (.pointer (some ⟨g3080, 0, none⟩))), (16, (.bool (p0.Height == p1.Height)))] [.cell ⟨g3076, 1, none⟩ (.int .i64 p0.Height), .cell ⟨g3080, 1, none⟩ (.int .i64 p1.Height)] (fun fb => by kernel_rfl) rfl ⟨hS3082.cell 1 rfl 1 rfl, hS3082.cell 0 rfl 1 rfl, trivial⟩ ?_
      exact WL.toV K (p0.Height == p1.Height) [16, 2, 3] rfl (by rw [h3084]; rfl)
    refine WL.setB 10 h3084 rfl ?_
    refine seg 12 [] [2, 3, 16] [(2, (.pointer (some ⟨g3076, 0, none⟩))), (3, (.pointer (some ⟨g3080, 0, none⟩))), (16, (.bool false))] [] (fun fb => by kernel_rfl) rfl trivial ?_
    exact WL.toV K false [16, 2, 3] rfl (by rw [h3084]; rfl)
  rintro b3085 rfl
  refine seg 13 [] [2, 3, 17] [(2, (.pointer (some ⟨g3076, 0, none⟩))), (3, (.pointer (some ⟨g3080, 0, none⟩))), (17, (.bool ((p0.Width == p1.Width) && (p0.Height == p1.Height))))] [] (fun fb => by kernel_rfl) rfl trivial ?_
  obtain ⟨x3136, hx3137, hf⟩ := bind_some hf
  refine WL.cutW (T := Bool) 19 (fun t => [(23, (.bool t))]) (fun t w1 => (St NoS w w1 [rowR encInt A_p0_Cells c_p0_Cells p0.Cells, rowR encInt A_p1_Cells c_p1_Cells p1.Cells] [] ∧ x3136 = t) ∧ CellsOK [] w1) (fun K => ?_) ?_
  ·
    rcases br_some hx3137 with ⟨h3138, hx3137⟩ | ⟨h3138, hx3137⟩
    ·
      refine WL.setB 17 h3138 rfl ?_
      refine seg 17 [.v (.slice A_p0_Cells p0.Cells.length c_p0_Cells), .v (.slice A_p1_Cells p1.Cells.length c_p1_Cells)] [17, 19, 21] [(17, (.bool true)), (19, (.slice A_p0_Cells p0.Cells.length c_p0_Cells)), (21, (.slice A_p1_Cells p1.Cells.length c_p1_Cells))] [.cell ⟨g3076, 2, none⟩ (.slice A_p0_Cells p0.Cells.length c_p0_Cells), .cell ⟨g3080, 2, none⟩ (.slice A_p1_Cells p1.Cells.length c_p1_Cells)] (fun fb => by kernel_rfl) rfl ⟨hS3082.cell 1 rfl 2 rfl, hS3082.cell 0 rfl 2 rfl, trivial⟩ ?_
      obtain ⟨t3139, ht3140, hx3137⟩ := bind_some hx3137
      refine WL.call (some 22) 31 #[(.slice A_p0_Cells p0.Cells.length c_p0_Cells), (.slice A_p1_Cells p1.Cells.length c_p1_Cells)] (fun fb => by kernel_rfl) (ref01_Same_calls _ p0.Cells p1.Cells A_p0_Cells c_p0_Cells A_p1_Cells c_p1_Cells t3139 _ (hS3082.rd 0) (hS3082.rd 1) ht3140) (fun v w3141 hR3142 => ?_)
      obtain ⟨rfl, hk_⟩ := hR3142
      have hS3143 := hS3082.keepN hk_
      refine ⟨trivial, ?_⟩
      refine seg 19 [] [23] [(23, (.bool t3139))] [] (fun fb => by kernel_rfl) rfl trivial ?_
      injection hx3137 with hx3137
      exact WL.to K t3139 [23] rfl ⟨⟨(hS3143.subR [0, 1]).sub [] (by decide), hx3137.symm⟩, trivial⟩
    refine WL.setB 17 h3138 rfl ?_
    refine seg 19 [] [23] [(23, (.bool false))] [] (fun fb => by kernel_rfl) rfl trivial ?_
    injection hx3137 with hx3137
    exact WL.to K false [23] rfl ⟨⟨(hS3082.subR [0, 1]).sub [] (by decide), hx3137.symm⟩, trivial⟩
  rintro y3144 w3146 ⟨⟨hS3147, hq3145⟩, hF3148⟩
  subst hq3145
  refine seg 20 [] [4] [(4, (.bool x3136))] [] (fun fb => by kernel_rfl) rfl trivial ?_
  refine WL.done rfl ?_
  refine WX.next ?_
  refine WC.ret ?_
  injection hf with hf
  subst hf
  exact WX.ret_ [] (.bool x3136) [] (fun fb => by kernel_rfl) trivial ⟨_, rfl, rfl, hS3147.keep⟩
theorem ref08_both_calls (p0 : Machine) (p1 : Int) (p2 : Int) (A_p0_Actions : Option Addr) (c_p0_Actions : Nat) (r : Int) (w : World) (hR0 : RO NoS w (rowR enc_Action A_p0_Actions c_p0_Actions p0.Actions)) (hf : ref08_both p0 p1 p2 = some r) :
    CallsR Try.prog 55 #[(.agg #[(.int .i64 p0.States), (.int .i64 p0.Symbols), (.slice A_p0_Actions p0.Actions.length c_p0_Actions)]), (.int .i64 p1), (.int .i64 p2)] w (fun v w' => v = (.int .i64 r) ∧ Keeps NoS w w') := by
  have hS : St NoS w w [rowR enc_Action A_p0_Actions c_p0_Actions p0.Actions] [] := St.init (ro_cons hR0 (ro_nil _ _))
  refine enter 16 Try.func55 rfl Try.ntmps55 rfl ?_
  unfold ref08_both at hf
  refine WC.seq ?_
  refine WC.region ?_
  refine WL.new hS 3 [] (fun g => (.pointer (some ⟨g, 0, none⟩))) (.cells #[(.int .i64 p0.States), (.int .i64 p0.Symbols), (.slice A_p0_Actions p0.Actions.length c_p0_Actions)] 24 (0, 0)) [] (fun fb g => by kernel_rfl) trivial (fun g3270 w3271 hS3272 => ?_)
  refine ⟨trivial, ?_⟩
  refine seg 2 [] [1, 2, 3] [(1, (.int .i64 p1)), (2, (.int .i64 p2)), (3, (.pointer (some ⟨g3270, 0, none⟩)))] [] (fun fb => by kernel_rfl) rfl trivial ?_
  refine WL.done rfl ?_
  refine WX.next ?_
  refine WC.seq ?_
  refine WC.region ?_
  refine seg 10 [.v (.int .i64 p0.Symbols), .v (.int .i64 p0.Symbols)] [6] [(6, (.int .i64 (w64 ((w64 (p0.Symbols + (w64 (p1 * p0.Symbols)))) + p2))))] [.cell ⟨g3270, 1, none⟩ (.int .i64 p0.Symbols), .cell ⟨g3270, 1, none⟩ (.int .i64 p0.Symbols)] (fun fb => by kernel_rfl) rfl ⟨hS3272.cell 0 rfl 1 rfl, hS3272.cell 0 rfl 1 rfl, trivial⟩ ?_
  refine WL.done rfl ?_
  refine WX.next ?_
  refine WC.ret ?_
  injection hf with hf
  subst hf
  exact WX.ret_ [] (.int .i64 (w64 ((w64 (p0.Symbols + (w64 (p1 * p0.Symbols)))) + p2))) [] (fun fb => by kernel_rfl) trivial ⟨_, rfl, rfl, hS3272.keep⟩
theorem ref08_Tiles_calls (k : Nat) (p0 : Machine) (A_p0_Actions : Option Addr) (c_p0_Actions : Nat) (r : (List Tile)) (w : World) (hR0 : RO NoS w (rowR enc_Action A_p0_Actions c_p0_Actions p0.Actions)) (hf : ref08_Tiles k p0 = some r) :
    CallsR Try.prog 29 #[(.agg #[(.int .i64 p0.States), (.int .i64 p0.Symbols), (.slice A_p0_Actions p0.Actions.length c_p0_Actions)])] w (fun v w' => ∃ (A1_ : Option Addr), ∃ (c1_ : Nat), v = (.slice A1_ r.length c1_) ∧ St NoS w w' [] [rowO 65 enc_Tile A1_ c1_ r]) := by
  have hS : St NoS w w [rowR enc_Action A_p0_Actions c_p0_Actions p0.Actions] [] := St.init (ro_cons hR0 (ro_nil _ _))
  refine enter 110 Try.func29 rfl Try.ntmps29 rfl ?_
  unfold ref08_Tiles at hf
  refine WC.seq ?_
  refine WC.region ?_
  refine WL.new hS 1 [] (fun g => (.pointer (some ⟨g, 0, none⟩))) (.cells #[(.int .i64 p0.States), (.int .i64 p0.Symbols), (.slice A_p0_Actions p0.Actions.length c_p0_Actions)] 24 (0, 0)) [] (fun fb g => by kernel_rfl) trivial (fun g3199 w3200 hS3201 => ?_)
  refine ⟨trivial, ?_⟩
  refine seg 2 [] [1] [(1, (.pointer (some ⟨g3199, 0, none⟩)))] [] (fun fb => by kernel_rfl) rfl trivial ?_
  refine WL.done rfl ?_
  refine WX.next ?_
  refine WC.seq ?_
  refine WC.region ?_
  refine seg 1 [] [1, 3] [(1, (.pointer (some ⟨g3199, 0, none⟩))), (3, (.slice none 0 0))] [] (fun fb => by kernel_rfl) rfl trivial ?_
  refine WL.done rfl ?_
  refine WX.next ?_
  refine WC.seq ?_
  refine WC.seq ?_
  refine WC.region ?_
  refine seg 1 [] [1, 3, 4] [(1, (.pointer (some ⟨g3199, 0, none⟩))), (3, (.slice none 0 0)), (4, (.int .i64 0))] [] (fun fb => by kernel_rfl) rfl trivial ?_
  refine WL.done rfl ?_
  refine WX.next ?_
  have hS3231 := hS3201.nilrow 65 enc_Tile
  obtain ⟨x3239, hx3240, hf⟩ := bind_some hf
  refine WC.cutN (T := (List Tile) × (Option Addr) × Nat) (fun t => [(1, (.pointer (some ⟨g3199, 0, none⟩))), (3, (.slice t.2.1 t.1.length t.2.2))]) (fun t w1 => St NoS w w1 [rowR enc_Action A_p0_Actions c_p0_Actions p0.Actions] [blk g3199 (.cells #[(.int .i64 p0.States), (.int .i64 p0.Symbols), (.slice A_p0_Actions p0.Actions.length c_p0_Actions)] 24 (0, 0)), rowO 65 enc_Tile t.2.1 t.2.2 t.1] ∧ x3239 = t.1) (fun Kx3239 => ?_) ?_
  ·
    refine WC.block ?_
    refine WC.loop (T := ((List Tile) × Int) × (Option Addr) × Nat) (fun t => [(1, (.pointer (some ⟨g3199, 0, none⟩))), (3, (.slice t.2.1 t.1.1.length t.2.2)), (4, (.int .i64 t.1.2))]) (fun n t w1 => St NoS w w1 [rowR enc_Action A_p0_Actions c_p0_Actions p0.Actions] [blk g3199 (.cells #[(.int .i64 p0.States), (.int .i64 p0.Symbols), (.slice A_p0_Actions p0.Actions.length c_p0_Actions)] 24 (0, 0)), rowO 65 enc_Tile t.2.1 t.2.2 t.1.1] ∧ ref08_Tiles.l0 n t.1.1 t.1.2 p0 = some x3239) k ((([] : List Tile), 0), none, 0) [1, 3, 4] rfl ⟨(hS3231.subR [0]).sub [1, 0] (by decide), hx3240⟩ ?_
    rintro k3241 ⟨⟨l3234, x3235⟩, A3232, c3233⟩ w3242 ⟨hS3243, hl3244⟩
    cases k3241 with
    | zero => rw [ref08_Tiles.l0] at hl3244; cases hl3244
    | succ k3241 =>
      rw [ref08_Tiles.l0] at hl3244
      refine WC.seq ?_
      refine WC.seq ?_
      refine WC.region ?_
      refine seg 4 [.v (.int .i64 p0.Symbols)] [1, 3, 4, 14] [(1, (.pointer (some ⟨g3199, 0, none⟩))), (3, (.slice A3232 l3234.length c3233)), (4, (.int .i64 x3235)), (14, (.bool (decide (x3235 < p0.Symbols))))] [.cell ⟨g3199, 1, none⟩ (.int .i64 p0.Symbols)] (fun fb => by kernel_rfl) rfl ⟨hS3243.cell 0 rfl 1 rfl, trivial⟩ ?_
      refine WL.done rfl ?_
      refine WX.next ?_
      rcases br_some hl3244 with ⟨h3245, hl3244⟩ | ⟨h3245, hl3244⟩
      · refine WC.condT2 (fun fb => by kernel_rfl) h3245 ?_
        refine WC.skip ?_
        refine WX.next ?_
        refine WC.seq ?_
        refine WC.block ?_
        refine WC.region ?_
        refine seg 4 [] [1, 4, 17, 20] [(1, (.pointer (some ⟨g3199, 0, none⟩))), (4, (.int .i64 x3235)), (17, (.slice A3232 l3234.length c3233)), (20, (.agg #[(.int .i64 x3235), (.int .i64 0), (.int .i64 x3235), (.int .i64 0)]))] [] (fun fb => by kernel_rfl) rfl trivial ?_
        refine WL.new hS3243 21 [] (fun g => (.slice (some ⟨g, 0, none⟩) 1 1)) (.cells #[(.int .i64 x3235), (.int .i64 0), (.int .i64 x3235), (.int .i64 0)] 65 (0, 0)) [] (fun fb g => by kernel_rfl) trivial (fun g3246 w3247 hS3248 => ?_)
        refine ⟨trivial, ?_⟩
        have hS3250 : St NoS w w3247 [rowR enc_Action A_p0_Actions c_p0_Actions p0.Actions] [rowO 65 enc_Tile (some ⟨g3246, 0, none⟩) 1 [(Tile.mk x3235 0 x3235 0)], blk g3199 (.cells #[(.int .i64 p0.States), (.int .i64 p0.Symbols), (.slice A_p0_Actions p0.Actions.length c_p0_Actions)] 24 (0, 0)), rowO 65 enc_Tile A3232 c3233 l3234] := hS3248.map1 0 _ (fun h => rowO.ofBlk h rfl (Nat.le_of_ble_eq_true (by kernel_rfl))) (fun _ h => by obtain ⟨_, h1, h2⟩ := h; injection h1 with h1; subst h1; exact h2) [1, 2] (by decide) (by decide)
        obtain ⟨h3251, hl3244⟩ := as_some hl3244
        refine WL.append hS3250 2 (d := 22) (tS := 50) (z := (.agg #[(.int .i64 0), (.int .i64 0), (.int .i64 0), (.int .i64 0)])) (bytes := 32) (c2 := 1) rfl (fun fb => by kernel_rfl) (rowO.rd (hS3250.own 0).1) (by kernel_rfl) (by kernel_rfl) rfl (by decide) h3251 (by decide) [0, 1] (by decide) (by decide) (fun A3252 c3253 w3254 hS3255 => ?_)
        refine ⟨trivial, ?_⟩
        refine seg 7 [] [1, 3, 4] [(1, (.pointer (some ⟨g3199, 0, none⟩))), (3, (.slice A3252 (l3234 ++ [(Tile.mk x3235 0 x3235 0)]).length c3253)), (4, (.int .i64 x3235))] [] (fun fb => by kernel_rfl) rfl trivial ?_
        refine WL.done rfl ?_
        refine WX.blockN (WX.next ?_)
        refine WC.region ?_
        refine seg 3 [] [1, 3, 4] [(1, (.pointer (some ⟨g3199, 0, none⟩))), (3, (.slice A3252 (l3234 ++ [(Tile.mk x3235 0 x3235 0)]).length c3253)), (4, (.int .i64 (w64 (x3235 + 1))))] [] (fun fb => by kernel_rfl) rfl trivial ?_
        refine WL.done rfl ?_
        exact WX.again k3241 (Nat.lt_succ_self _) ((l3234 ++ [(Tile.mk x3235 0 x3235 0)], w64 (x3235 + 1)), A3252, c3253) [1, 3, 4] rfl ⟨(hS3255.subR [0]).sub [2, 0] (by decide), hl3244⟩
      refine WC.condF2 (fun fb => by kernel_rfl) h3245 ?_
      refine WC.exit ?_
      injection hl3244 with hl3244
      exact WX.thenX (WX.thenX (WX.blockHere (WX.to Kx3239 (l3234, A3232, c3233) [1, 3] rfl ⟨(hS3243.subR [0]).sub [0, 1] (by decide), hl3244.symm⟩)))
  rintro ⟨y3259, A3236, c3237⟩ w3256 ⟨hS3257, hq3258⟩
  subst hq3258
  refine WX.next ?_
  refine WC.seq ?_
  refine WC.seq ?_
  refine WC.region ?_
  refine seg 1 [] [1, 3, 5] [(1, (.pointer (some ⟨g3199, 0, none⟩))), (3, (.slice A3236 x3239.length c3237)), (5, (.int .i64 0))] [] (fun fb => by kernel_rfl) rfl trivial ?_
  refine WL.done rfl ?_
  refine WX.next ?_
  obtain ⟨x4651, hx4652, hf⟩ := bind_some hf
  refine WC.cutN (T := (List Tile) × (Option Addr) × Nat) (fun t => [(1, (.pointer (some ⟨g3199, 0, none⟩))), (3, (.slice t.2.1 t.1.length t.2.2))]) (fun t w1 => St NoS w w1 [rowR enc_Action A_p0_Actions c_p0_Actions p0.Actions] [blk g3199 (.cells #[(.int .i64 p0.States), (.int .i64 p0.Symbols), (.slice A_p0_Actions p0.Actions.length c_p0_Actions)] 24 (0, 0)), rowO 65 enc_Tile t.2.1 t.2.2 t.1] ∧ x4651 = t.1) (fun Kx4651 => ?_) ?_
  ·
    refine WC.block ?_
    refine WC.loop (T := ((List Tile) × Int) × (Option Addr) × Nat) (fun t => [(1, (.pointer (some ⟨g3199, 0, none⟩))), (3, (.slice t.2.1 t.1.1.length t.2.2)), (5, (.int .i64 t.1.2))]) (fun n t w1 => St NoS w w1 [rowR enc_Action A_p0_Actions c_p0_Actions p0.Actions] [blk g3199 (.cells #[(.int .i64 p0.States), (.int .i64 p0.Symbols), (.slice A_p0_Actions p0.Actions.length c_p0_Actions)] 24 (0, 0)), rowO 65 enc_Tile t.2.1 t.2.2 t.1.1] ∧ ref08_Tiles.l1 n t.1.1 t.1.2 p0 = some x4651) k ((x3239, 0), A3236, c3237) [1, 3, 5] rfl ⟨(hS3257.subR [0]).sub [0, 1] (by decide), hx4652⟩ ?_
    rintro k4653 ⟨⟨l4646, x4647⟩, A4644, c4645⟩ w4654 ⟨hS4655, hl4656⟩
    cases k4653 with
    | zero => rw [ref08_Tiles.l1] at hl4656; cases hl4656
    | succ k4653 =>
      rw [ref08_Tiles.l1] at hl4656
      refine WC.seq ?_
      refine WC.seq ?_
      refine WC.region ?_
      refine seg 4 [.v (.int .i64 p0.States)] [1, 3, 5, 26] [(1, (.pointer (some ⟨g3199, 0, none⟩))), (3, (.slice A4644 l4646.length c4645)), (5, (.int .i64 x4647)), (26, (.bool (decide (x4647 < p0.States))))] [.cell ⟨g3199, 0, none⟩ (.int .i64 p0.States)] (fun fb => by kernel_rfl) rfl ⟨hS4655.cell 0 rfl 0 rfl, trivial⟩ ?_
      refine WL.done rfl ?_
      refine WX.next ?_
      rcases br_some hl4656 with ⟨h4657, hl4656⟩ | ⟨h4657, hl4656⟩
      · refine WC.condT2 (fun fb => by kernel_rfl) h4657 ?_
        refine WC.skip ?_
        refine WX.next ?_
        refine WC.seq ?_
        refine WC.block ?_
        refine WC.seq ?_
        refine WC.region ?_
        refine seg 1 [] [1, 3, 5, 6] [(1, (.pointer (some ⟨g3199, 0, none⟩))), (3, (.slice A4644 l4646.length c4645)), (5, (.int .i64 x4647)), (6, (.int .i64 0))] [] (fun fb => by kernel_rfl) rfl trivial ?_
        refine WL.done rfl ?_
        refine WX.next ?_
        obtain ⟨x5113, hx5114, hl4656⟩ := bind_some hl4656
        refine WC.cutN (T := (List Tile) × (Option Addr) × Nat) (fun t => [(1, (.pointer (some ⟨g3199, 0, none⟩))), (3, (.slice t.2.1 t.1.length t.2.2)), (5, (.int .i64 x4647))]) (fun t w1 => St NoS w w1 [rowR enc_Action A_p0_Actions c_p0_Actions p0.Actions] [blk g3199 (.cells #[(.int .i64 p0.States), (.int .i64 p0.Symbols), (.slice A_p0_Actions p0.Actions.length c_p0_Actions)] 24 (0, 0)), rowO 65 enc_Tile t.2.1 t.2.2 t.1] ∧ x5113 = t.1) (fun Kx5113 => ?_) ?_
        ·
          refine WC.block ?_
          refine WC.loop (T := ((List Tile) × Int) × (Option Addr) × Nat) (fun t => [(1, (.pointer (some ⟨g3199, 0, none⟩))), (3, (.slice t.2.1 t.1.1.length t.2.2)), (5, (.int .i64 x4647)), (6, (.int .i64 t.1.2))]) (fun n t w1 => St NoS w w1 [rowR enc_Action A_p0_Actions c_p0_Actions p0.Actions] [blk g3199 (.cells #[(.int .i64 p0.States), (.int .i64 p0.Symbols), (.slice A_p0_Actions p0.Actions.length c_p0_Actions)] 24 (0, 0)), rowO 65 enc_Tile t.2.1 t.2.2 t.1.1] ∧ ref08_Tiles.l2 n t.1.1 t.1.2 p0 x4647 = some x5113) k4653 ((l4646, 0), A4644, c4645) [1, 3, 5, 6] rfl ⟨(hS4655.subR [0]).sub [0, 1] (by decide), hx5114⟩ ?_
          rintro k5115 ⟨⟨l5108, x5109⟩, A5106, c5107⟩ w5116 ⟨hS5117, hl5118⟩
          cases k5115 with
          | zero => rw [ref08_Tiles.l2] at hl5118; cases hl5118
          | succ k5115 =>
            rw [ref08_Tiles.l2] at hl5118
            refine WC.seq ?_
            refine WC.seq ?_
            refine WC.region ?_
            refine seg 4 [.v (.int .i64 p0.Symbols)] [1, 3, 5, 6, 32] [(1, (.pointer (some ⟨g3199, 0, none⟩))), (3, (.slice A5106 l5108.length c5107)), (5, (.int .i64 x4647)), (6, (.int .i64 x5109)), (32, (.bool (decide (x5109 < p0.Symbols))))] [.cell ⟨g3199, 1, none⟩ (.int .i64 p0.Symbols)] (fun fb => by kernel_rfl) rfl ⟨hS5117.cell 0 rfl 1 rfl, trivial⟩ ?_
            refine WL.done rfl ?_
            refine WX.next ?_
            rcases br_some hl5118 with ⟨h5119, hl5118⟩ | ⟨h5119, hl5118⟩
            · refine WC.condT2 (fun fb => by kernel_rfl) h5119 ?_
              refine WC.skip ?_
              refine WX.next ?_
              refine WC.seq ?_
              obtain ⟨x5229, hx5230, hl5118⟩ := bind_some hl5118
              refine WC.cutN (T := (List Tile) × (Option Addr) × Nat) (fun t => [(1, (.pointer (some ⟨g3199, 0, none⟩))), (3, (.slice t.2.1 t.1.length t.2.2)), (5, (.int .i64 x4647)), (6, (.int .i64 x5109))]) (fun t w1 => St NoS w w1 [rowR enc_Action A_p0_Actions c_p0_Actions p0.Actions] [blk g3199 (.cells #[(.int .i64 p0.States), (.int .i64 p0.Symbols), (.slice A_p0_Actions p0.Actions.length c_p0_Actions)] 24 (0, 0)), rowO 65 enc_Tile t.2.1 t.2.2 t.1] ∧ x5229 = t.1) (fun Kx5229 => ?_) ?_
              ·
                refine WC.block ?_
                refine WC.seq ?_
                refine WC.region ?_
                refine seg 8 [.v (.slice A_p0_Actions p0.Actions.length c_p0_Actions), .v (.int .i64 p0.Symbols)] [1, 3, 5, 6, 36, 42] [(1, (.pointer (some ⟨g3199, 0, none⟩))), (3, (.slice A5106 l5108.length c5107)), (5, (.int .i64 x4647)), (6, (.int .i64 x5109)), (36, (.slice A_p0_Actions p0.Actions.length c_p0_Actions)), (42, (.int .i64 (w64 ((w64 (x4647 * p0.Symbols)) + x5109))))] [.cell ⟨g3199, 2, none⟩ (.slice A_p0_Actions p0.Actions.length c_p0_Actions), .cell ⟨g3199, 1, none⟩ (.int .i64 p0.Symbols)] (fun fb => by kernel_rfl) rfl ⟨hS5117.cell 0 rfl 2 rfl, hS5117.cell 0 rfl 1 rfl, trivial⟩ ?_
                obtain ⟨h5231, hx5230⟩ := as_some hx5230
                refine seg 10 [.v (.int .i64 ((rdD p0.Actions (w64 ((w64 (x4647 * p0.Symbols)) + x5109)) z_Action).Write)), .v (.int .i64 ((rdD p0.Actions (w64 ((w64 (x4647 * p0.Symbols)) + x5109)) z_Action).Move)), .v (.int .i64 ((rdD p0.Actions (w64 ((w64 (x4647 * p0.Symbols)) + x5109)) z_Action).Next))] [1, 3, 5, 6, 44] [(1, (.pointer (some ⟨g3199, 0, none⟩))), (3, (.slice A5106 l5108.length c5107)), (5, (.int .i64 x4647)), (6, (.int .i64 x5109)), (44, (.agg #[(.int .i64 ((rdD p0.Actions (w64 ((w64 (x4647 * p0.Symbols)) + x5109)) z_Action).Write)), (.int .i64 ((rdD p0.Actions (w64 ((w64 (x4647 * p0.Symbols)) + x5109)) z_Action).Move)), (.int .i64 ((rdD p0.Actions (w64 ((w64 (x4647 * p0.Symbols)) + x5109)) z_Action).Next))]))] [.idx A_p0_Actions (w64 ((w64 (x4647 * p0.Symbols)) + x5109)) p0.Actions.length, .cell ((adr A_p0_Actions).add ((w64 ((w64 (x4647 * p0.Symbols)) + x5109)).toNat * 3)) (.int .i64 ((rdD p0.Actions (w64 ((w64 (x4647 * p0.Symbols)) + x5109)) z_Action).Write)), .cell (((adr A_p0_Actions).add ((w64 ((w64 (x4647 * p0.Symbols)) + x5109)).toNat * 3)).add 1) (.int .i64 ((rdD p0.Actions (w64 ((w64 (x4647 * p0.Symbols)) + x5109)) z_Action).Move)), .cell (((adr A_p0_Actions).add ((w64 ((w64 (x4647 * p0.Symbols)) + x5109)).toNat * 3)).add 2) (.int .i64 ((rdD p0.Actions (w64 ((w64 (x4647 * p0.Symbols)) + x5109)) z_Action).Next))] (fun fb => by kernel_rfl) rfl ⟨rowR.adr (hS5117.rd 0).1 h5231.1 h5231.2, rowR.cell (hS5117.rd 0).1 z_Action h5231.1 h5231.2 0 rfl, rowR.cell (hS5117.rd 0).1 z_Action h5231.1 h5231.2 1 rfl, rowR.cell (hS5117.rd 0).1 z_Action h5231.1 h5231.2 2 rfl, trivial⟩ ?_
                refine WL.new hS5117 7 [] (fun g => (.pointer (some ⟨g, 0, none⟩))) (.cells #[(.int .i64 0), (.int .i64 0), (.int .i64 0)] 88 (0, 0)) [] (fun fb g => by kernel_rfl) trivial (fun g5232 w5233 hS5234 => ?_)
                refine ⟨trivial, ?_⟩
                refine WL.store hS5234 0 rfl [(0, (.int .i64 ((rdD p0.Actions (w64 ((w64 (x4647 * p0.Symbols)) + x5109)) z_Action).Write))), (1, (.int .i64 ((rdD p0.Actions (w64 ((w64 (x4647 * p0.Symbols)) + x5109)) z_Action).Move))), (2, (.int .i64 ((rdD p0.Actions (w64 ((w64 (x4647 * p0.Symbols)) + x5109)) z_Action).Next)))] #[(.int .i64 ((rdD p0.Actions (w64 ((w64 (x4647 * p0.Symbols)) + x5109)) z_Action).Write)), (.int .i64 ((rdD p0.Actions (w64 ((w64 (x4647 * p0.Symbols)) + x5109)) z_Action).Move)), (.int .i64 ((rdD p0.Actions (w64 ((w64 (x4647 * p0.Symbols)) + x5109)) z_Action).Next))] (fun fb => by kernel_rfl) (by kernel_rfl) rfl [1, 2] (by decide) (by decide) (fun w5236 hS5237 => ?_)
                refine ⟨trivial, ?_⟩
                refine WL.done rfl ?_
                refine WX.next ?_
                refine WC.seq ?_
                refine WC.seq ?_
                refine WC.region ?_
                refine seg 5 [.v (.int .i64 ((rdD p0.Actions (w64 ((w64 (x4647 * p0.Symbols)) + x5109)) z_Action).Next)), .v (.int .i64 p0.States)] [1, 3, 5, 6, 7, 49] [(1, (.pointer (some ⟨g3199, 0, none⟩))), (3, (.slice A5106 l5108.length c5107)), (5, (.int .i64 x4647)), (6, (.int .i64 x5109)), (7, (.pointer (some ⟨g5232, 0, none⟩))), (49, (.bool (((rdD p0.Actions (w64 ((w64 (x4647 * p0.Symbols)) + x5109)) z_Action).Next) == p0.States)))] [.cell ⟨g5232, 2, none⟩ (.int .i64 ((rdD p0.Actions (w64 ((w64 (x4647 * p0.Symbols)) + x5109)) z_Action).Next)), .cell ⟨g3199, 0, none⟩ (.int .i64 p0.States)] (fun fb => by kernel_rfl) rfl ⟨hS5237.cell 0 rfl 2 rfl, hS5237.cell 1 rfl 0 rfl, trivial⟩ ?_
                refine WL.done rfl ?_
                refine WX.next ?_
                rcases br_some hx5230 with ⟨h5238, hx5230⟩ | ⟨h5238, hx5230⟩
                · refine WC.condT2 (fun fb => by kernel_rfl) h5238 ?_
                  refine WC.exit ?_
                  injection hx5230 with hx5230
                  exact WX.thenX (WX.blockHere (WX.to Kx5229 (l5108, A5106, c5107) [1, 3, 5, 6] rfl ⟨(hS5237.subR [0]).sub [1, 2] (by decide), hx5230.symm⟩))
                refine WC.condF2 (fun fb => by kernel_rfl) h5238 ?_
                refine WC.skip ?_
                refine WX.next ?_
                refine WC.seq ?_
                obtain ⟨x5279, hx5280, hx5230⟩ := bind_some hx5230
                refine WC.cutN (T := (Int × Int × Int × Int) × Nat) (fun t => [(1, (.pointer (some ⟨g3199, 0, none⟩))), (3, (.slice A5106 l5108.length c5107)), (5, (.int .i64 x4647)), (6, (.int .i64 x5109)), (7, (.pointer (some ⟨g5232, 0, none⟩))), (8, (.pointer (some ⟨t.2, 0, none⟩)))]) (fun t w1 => St NoS w w1 [rowR enc_Action A_p0_Actions c_p0_Actions p0.Actions] [blk g3199 (.cells #[(.int .i64 p0.States), (.int .i64 p0.Symbols), (.slice A_p0_Actions p0.Actions.length c_p0_Actions)] 24 (0, 0)), rowO 65 enc_Tile A5106 c5107 l5108, blk g5232 (.cells #[(.int .i64 ((rdD p0.Actions (w64 ((w64 (x4647 * p0.Symbols)) + x5109)) z_Action).Write)), (.int .i64 ((rdD p0.Actions (w64 ((w64 (x4647 * p0.Symbols)) + x5109)) z_Action).Move)), (.int .i64 ((rdD p0.Actions (w64 ((w64 (x4647 * p0.Symbols)) + x5109)) z_Action).Next))] 88 (0, 0)), blk t.2 (.cells #[(.int .i64 t.1.1), (.int .i64 t.1.2.1), (.int .i64 t.1.2.2.1), (.int .i64 t.1.2.2.2)] 65 (0, 0))] ∧ x5279 = t.1) (fun Kx5279 => ?_) ?_
                ·
                  refine WC.regionD ([(0, ⟨g3199, 0, none⟩, (.int .i64 p0.States)), (0, ⟨g3199, 1, none⟩, (.int .i64 p0.Symbols)), (0, ⟨g3199, 2, none⟩, (.slice A_p0_Actions p0.Actions.length c_p0_Actions)), (5, ⟨g5232, 0, none⟩, (.int .i64 ((rdD p0.Actions (w64 ((w64 (x4647 * p0.Symbols)) + x5109)) z_Action).Write)))], [0, 1, 2, 4, 5, 6], [[], [], [], [0, 1, 2], [], [4], [0, 1, 2, 3, 4, 5], [], [0, 1, 2, 3, 4, 5, 6, 7]]) [[0, 1, 2, 4, 5, 3, 6, 7, 8], [0, 1, 2, 4, 5, 7, 3, 6, 8]] (by kernel_rfl) (by kernel_rfl) (NoPanic.seq (NoPanic.block (NoPanic.seq (NoPanic.seq (NoPanic.block (NoPanic.block (NoPanic.seq (NoPanic.seq (NoPanic.block (NoPanic.seq (NoPanic.body))))))))))) ?_
                  have hS5282 := hS5237.drew
                  revert hS5282
                  generalize World.drew w5236 = w5281
                  intro hS5282
                  refine ⟨⟨hS5282.cell 1 rfl 0 rfl, hS5282.cell 1 rfl 1 rfl, hS5282.cell 1 rfl 2 rfl, hS5282.cell 0 rfl 0 rfl, trivial⟩, forallC ?_ (forallC ?_ (forallN))⟩
                  ·
                    refine segF 5 [.v (.int .i64 p0.States), .v (.int .i64 p0.Symbols), .v (.slice A_p0_Actions p0.Actions.length c_p0_Actions), .v (.int .i64 ((rdD p0.Actions (w64 ((w64 (x4647 * p0.Symbols)) + x5109)) z_Action).Write))] [1, 3, 5, 6, 7, 50, 51, 52, 55] [(1, (.pointer (some ⟨g3199, 0, none⟩))), (3, (.slice A5106 l5108.length c5107)), (5, (.int .i64 x4647)), (6, (.int .i64 x5109)), (7, (.pointer (some ⟨g5232, 0, none⟩))), (50, (.agg #[(.int .i64 p0.States), (.int .i64 p0.Symbols), (.slice A_p0_Actions p0.Actions.length c_p0_Actions)])), (51, (.int .i64 x4647)), (52, (.int .i64 x5109)), (55, (.int .i64 ((rdD p0.Actions (w64 ((w64 (x4647 * p0.Symbols)) + x5109)) z_Action).Write)))] [] [0, 1, 2, 3] [(0, ⟨g3199, 0, none⟩, (.int .i64 p0.States)), (0, ⟨g3199, 1, none⟩, (.int .i64 p0.Symbols)), (0, ⟨g3199, 2, none⟩, (.slice A_p0_Actions p0.Actions.length c_p0_Actions)), (5, ⟨g5232, 0, none⟩, (.int .i64 ((rdD p0.Actions (w64 ((w64 (x4647 * p0.Symbols)) + x5109)) z_Action).Write)))] (fun fb => by kernel_rfl) rfl trivial rfl ?_
                    obtain ⟨t5283, ht5284, hx5280⟩ := bind_some hx5280
                    refine WL.call (some 53) 55 #[(.agg #[(.int .i64 p0.States), (.int .i64 p0.Symbols), (.slice A_p0_Actions p0.Actions.length c_p0_Actions)]), (.int .i64 x4647), (.int .i64 x5109)] (fun fb => by kernel_rfl) (ref08_both_calls p0 x4647 x5109 A_p0_Actions c_p0_Actions t5283 _ (hS5282.rd 0) ht5284) (fun v w5285 hR5286 => ?_)
                    obtain ⟨rfl, hk_⟩ := hR5286
                    have hS5287 := hS5282.keepN hk_
                    refine ⟨⟨hS5287.cell 0 rfl 0 rfl, trivial⟩, ?_⟩
                    refine seg 7 [] [1, 3, 5, 6, 7, 56] [(1, (.pointer (some ⟨g3199, 0, none⟩))), (3, (.slice A5106 l5108.length c5107)), (5, (.int .i64 x4647)), (6, (.int .i64 x5109)), (7, (.pointer (some ⟨g5232, 0, none⟩))), (56, (.agg #[(.int .i64 ((rdD p0.Actions (w64 ((w64 (x4647 * p0.Symbols)) + x5109)) z_Action).Write)), (.int .i64 0), (.int .i64 t5283), (.int .i64 0)]))] [] (fun fb => by kernel_rfl) rfl trivial ?_
                    refine WL.new hS5287 8 [] (fun g => (.pointer (some ⟨g, 0, none⟩))) (.cells #[(.int .i64 0), (.int .i64 0), (.int .i64 0), (.int .i64 0)] 65 (0, 0)) [] (fun fb g => by kernel_rfl) trivial (fun g5288 w5289 hS5290 => ?_)
                    refine ⟨⟨hS5290.cell 2 rfl 0 rfl, hS5290.cell 2 rfl 1 rfl, hS5290.cell 2 rfl 2 rfl, hS5290.cell 1 rfl 0 rfl, trivial⟩, ?_⟩
                    refine WL.store hS5290 0 rfl [(0, (.int .i64 ((rdD p0.Actions (w64 ((w64 (x4647 * p0.Symbols)) + x5109)) z_Action).Write))), (1, (.int .i64 0)), (2, (.int .i64 t5283)), (3, (.int .i64 0))] #[(.int .i64 ((rdD p0.Actions (w64 ((w64 (x4647 * p0.Symbols)) + x5109)) z_Action).Write)), (.int .i64 0), (.int .i64 t5283), (.int .i64 0)] (fun fb => by kernel_rfl) (by kernel_rfl) rfl [1, 2, 3] (by decide) (by decide) (fun w5292 hS5293 => ?_)
                    refine ⟨trivial, ?_⟩
                    refine WL.done rfl ?_
                    injection hx5280 with hx5280
                    exact WX.to Kx5279 (((rdD p0.Actions (w64 ((w64 (x4647 * p0.Symbols)) + x5109)) z_Action).Write, 0, t5283, 0), g5288) [1, 3, 5, 6, 7, 8] rfl ⟨(hS5293.subR [0]).sub [2, 3, 1, 0] (by decide), hx5280.symm⟩
                  refine segF 5 [.v (.int .i64 p0.States), .v (.int .i64 p0.Symbols), .v (.slice A_p0_Actions p0.Actions.length c_p0_Actions), .v (.int .i64 ((rdD p0.Actions (w64 ((w64 (x4647 * p0.Symbols)) + x5109)) z_Action).Write))] [1, 3, 5, 6, 7, 50, 51, 52, 55] [(1, (.pointer (some ⟨g3199, 0, none⟩))), (3, (.slice A5106 l5108.length c5107)), (5, (.int .i64 x4647)), (6, (.int .i64 x5109)), (7, (.pointer (some ⟨g5232, 0, none⟩))), (50, (.agg #[(.int .i64 p0.States), (.int .i64 p0.Symbols), (.slice A_p0_Actions p0.Actions.length c_p0_Actions)])), (51, (.int .i64 x4647)), (52, (.int .i64 x5109)), (55, (.int .i64 ((rdD p0.Actions (w64 ((w64 (x4647 * p0.Symbols)) + x5109)) z_Action).Write)))] [] [0, 1, 2, 3] [(0, ⟨g3199, 0, none⟩, (.int .i64 p0.States)), (0, ⟨g3199, 1, none⟩, (.int .i64 p0.Symbols)), (0, ⟨g3199, 2, none⟩, (.slice A_p0_Actions p0.Actions.length c_p0_Actions)), (5, ⟨g5232, 0, none⟩, (.int .i64 ((rdD p0.Actions (w64 ((w64 (x4647 * p0.Symbols)) + x5109)) z_Action).Write)))] (fun fb => by kernel_rfl) rfl trivial rfl ?_
                  refine WL.new hS5282 8 [] (fun g => (.pointer (some ⟨g, 0, none⟩))) (.cells #[(.int .i64 0), (.int .i64 0), (.int .i64 0), (.int .i64 0)] 65 (0, 0)) [] (fun fb g => by kernel_rfl) trivial (fun g5294 w5295 hS5296 => ?_)
                  refine ⟨⟨hS5296.cell 2 rfl 0 rfl, hS5296.cell 2 rfl 1 rfl, hS5296.cell 2 rfl 2 rfl, hS5296.cell 1 rfl 0 rfl, trivial⟩, ?_⟩
                  obtain ⟨t5298, ht5299, hx5280⟩ := bind_some hx5280
                  refine WL.call (some 53) 55 #[(.agg #[(.int .i64 p0.States), (.int .i64 p0.Symbols), (.slice A_p0_Actions p0.Actions.length c_p0_Actions)]), (.int .i64 x4647), (.int .i64 x5109)] (fun fb => by kernel_rfl) (ref08_both_calls p0 x4647 x5109 A_p0_Actions c_p0_Actions t5298 _ (hS5296.rd 0) ht5299) (fun v w5300 hR5301 => ?_)
                  obtain ⟨rfl, hk_⟩ := hR5301
                  have hS5302 := hS5296.keepN hk_
                  refine ⟨⟨hS5302.cell 1 rfl 0 rfl, trivial⟩, ?_⟩
                  refine seg 8 [] [1, 3, 5, 6, 7, 8, 56] [(1, (.pointer (some ⟨g3199, 0, none⟩))), (3, (.slice A5106 l5108.length c5107)), (5, (.int .i64 x4647)), (6, (.int .i64 x5109)), (7, (.pointer (some ⟨g5232, 0, none⟩))), (8, (.pointer (some ⟨g5294, 0, none⟩))), (56, (.agg #[(.int .i64 ((rdD p0.Actions (w64 ((w64 (x4647 * p0.Symbols)) + x5109)) z_Action).Write)), (.int .i64 0), (.int .i64 t5298), (.int .i64 0)]))] [] (fun fb => by kernel_rfl) rfl trivial ?_
                  refine WL.store hS5302 0 rfl [(0, (.int .i64 ((rdD p0.Actions (w64 ((w64 (x4647 * p0.Symbols)) + x5109)) z_Action).Write))), (1, (.int .i64 0)), (2, (.int .i64 t5298)), (3, (.int .i64 0))] #[(.int .i64 ((rdD p0.Actions (w64 ((w64 (x4647 * p0.Symbols)) + x5109)) z_Action).Write)), (.int .i64 0), (.int .i64 t5298), (.int .i64 0)] (fun fb => by kernel_rfl) (by kernel_rfl) rfl [1, 2, 3] (by decide) (by decide) (fun w5303 hS5304 => ?_)
                  refine ⟨trivial, ?_⟩
                  refine WL.done rfl ?_
                  injection hx5280 with hx5280
                  exact WX.to Kx5279 (((rdD p0.Actions (w64 ((w64 (x4647 * p0.Symbols)) + x5109)) z_Action).Write, 0, t5298, 0), g5294) [1, 3, 5, 6, 7, 8] rfl ⟨(hS5304.subR [0]).sub [2, 3, 1, 0] (by decide), hx5280.symm⟩
                rintro ⟨y5308, g5274⟩ w5305 ⟨hS5306, hq5307⟩
                subst hq5307
                refine WX.next ?_
                refine WC.seq ?_
                refine WC.seq ?_
                refine WC.region ?_
                refine seg 3 [.v (.int .i64 ((rdD p0.Actions (w64 ((w64 (x4647 * p0.Symbols)) + x5109)) z_Action).Move))] [1, 3, 5, 6, 7, 8, 59] [(1, (.pointer (some ⟨g3199, 0, none⟩))), (3, (.slice A5106 l5108.length c5107)), (5, (.int .i64 x4647)), (6, (.int .i64 x5109)), (7, (.pointer (some ⟨g5232, 0, none⟩))), (8, (.pointer (some ⟨g5274, 0, none⟩))), (59, (.bool (((rdD p0.Actions (w64 ((w64 (x4647 * p0.Symbols)) + x5109)) z_Action).Move) == 1)))] [.cell ⟨g5232, 1, none⟩ (.int .i64 ((rdD p0.Actions (w64 ((w64 (x4647 * p0.Symbols)) + x5109)) z_Action).Move))] (fun fb => by kernel_rfl) rfl ⟨hS5306.cell 2 rfl 1 rfl, trivial⟩ ?_
                refine WL.done rfl ?_
                refine WX.next ?_
                obtain ⟨x5316, hx5317, hx5230⟩ := bind_some hx5230
                refine WC.cutN (T := Int × Int) (fun t => [(1, (.pointer (some ⟨g3199, 0, none⟩))), (3, (.slice A5106 l5108.length c5107)), (5, (.int .i64 x4647)), (6, (.int .i64 x5109)), (8, (.pointer (some ⟨g5274, 0, none⟩)))]) (fun t w1 => St NoS w w1 [rowR enc_Action A_p0_Actions c_p0_Actions p0.Actions] [blk g3199 (.cells #[(.int .i64 p0.States), (.int .i64 p0.Symbols), (.slice A_p0_Actions p0.Actions.length c_p0_Actions)] 24 (0, 0)), rowO 65 enc_Tile A5106 c5107 l5108, blk g5274 (.cells #[(.int .i64 x5279.1), (.int .i64 t.1), (.int .i64 x5279.2.2.1), (.int .i64 t.2)] 65 (0, 0))] ∧ x5316 = t) (fun Kx5316 => ?_) ?_
                ·
                  rcases br_some hx5317 with ⟨h5318, hx5317⟩ | ⟨h5318, hx5317⟩
                  · refine WC.condT2 (fun fb => by kernel_rfl) h5318 ?_
                    refine WC.region ?_
                    refine seg 4 [.v (.int .i64 ((rdD p0.Actions (w64 ((w64 (x4647 * p0.Symbols)) + x5109)) z_Action).Next))] [1, 3, 5, 6, 8, 62, 63] [(1, (.pointer (some ⟨g3199, 0, none⟩))), (3, (.slice A5106 l5108.length c5107)), (5, (.int .i64 x4647)), (6, (.int .i64 x5109)), (8, (.pointer (some ⟨g5274, 0, none⟩))), (62, (.int .i64 (w64 (1 + ((rdD p0.Actions (w64 ((w64 (x4647 * p0.Symbols)) + x5109)) z_Action).Next))))), (63, (.pointer (some ⟨g5274, 1, none⟩)))] [.cell ⟨g5232, 2, none⟩ (.int .i64 ((rdD p0.Actions (w64 ((w64 (x4647 * p0.Symbols)) + x5109)) z_Action).Next))] (fun fb => by kernel_rfl) rfl ⟨hS5306.cell 2 rfl 2 rfl, trivial⟩ ?_
                    refine WL.store hS5306 3 rfl [(1, (.int .i64 (w64 (1 + ((rdD p0.Actions (w64 ((w64 (x4647 * p0.Symbols)) + x5109)) z_Action).Next)))))] #[(.int .i64 x5279.1), (.int .i64 (w64 (1 + ((rdD p0.Actions (w64 ((w64 (x4647 * p0.Symbols)) + x5109)) z_Action).Next)))), (.int .i64 x5279.2.2.1), (.int .i64 x5279.2.2.2)] (fun fb => by kernel_rfl) (by kernel_rfl) rfl [0, 1, 2] (by decide) (by decide) (fun w5319 hS5320 => ?_)
                    refine ⟨trivial, ?_⟩
                    refine WL.done rfl ?_
                    injection hx5317 with hx5317
                    exact WX.to Kx5316 (w64 (1 + ((rdD p0.Actions (w64 ((w64 (x4647 * p0.Symbols)) + x5109)) z_Action).Next)), x5279.2.2.2) [1, 3, 5, 6, 8] rfl ⟨(hS5320.subR [0]).sub [1, 2, 0] (by decide), hx5317.symm⟩
                  refine WC.condF2 (fun fb => by kernel_rfl) h5318 ?_
                  refine WC.region ?_
                  refine seg 7 [.v (.int .i64 p0.States), .v (.int .i64 ((rdD p0.Actions (w64 ((w64 (x4647 * p0.Symbols)) + x5109)) z_Action).Next))] [1, 3, 5, 6, 8, 69, 70] [(1, (.pointer (some ⟨g3199, 0, none⟩))), (3, (.slice A5106 l5108.length c5107)), (5, (.int .i64 x4647)), (6, (.int .i64 x5109)), (8, (.pointer (some ⟨g5274, 0, none⟩))), (69, (.int .i64 (w64 ((w64 (1 + p0.States)) + ((rdD p0.Actions (w64 ((w64 (x4647 * p0.Symbols)) + x5109)) z_Action).Next))))), (70, (.pointer (some ⟨g5274, 3, none⟩)))] [.cell ⟨g3199, 0, none⟩ (.int .i64 p0.States), .cell ⟨g5232, 2, none⟩ (.int .i64 ((rdD p0.Actions (w64 ((w64 (x4647 * p0.Symbols)) + x5109)) z_Action).Next))] (fun fb => by kernel_rfl) rfl ⟨hS5306.cell 0 rfl 0 rfl, hS5306.cell 2 rfl 2 rfl, trivial⟩ ?_
                  refine WL.store hS5306 3 rfl [(3, (.int .i64 (w64 ((w64 (1 + p0.States)) + ((rdD p0.Actions (w64 ((w64 (x4647 * p0.Symbols)) + x5109)) z_Action).Next)))))] #[(.int .i64 x5279.1), (.int .i64 x5279.2.1), (.int .i64 x5279.2.2.1), (.int .i64 (w64 ((w64 (1 + p0.States)) + ((rdD p0.Actions (w64 ((w64 (x4647 * p0.Symbols)) + x5109)) z_Action).Next))))] (fun fb => by kernel_rfl) (by kernel_rfl) rfl [0, 1, 2] (by decide) (by decide) (fun w5321 hS5322 => ?_)
                  refine ⟨trivial, ?_⟩
                  refine WL.done rfl ?_
                  injection hx5317 with hx5317
                  exact WX.to Kx5316 (x5279.2.1, w64 ((w64 (1 + p0.States)) + ((rdD p0.Actions (w64 ((w64 (x4647 * p0.Symbols)) + x5109)) z_Action).Next))) [1, 3, 5, 6, 8] rfl ⟨(hS5322.subR [0]).sub [1, 2, 0] (by decide), hx5317.symm⟩
                rintro y5326 w5323 ⟨hS5324, hq5325⟩
                subst hq5325
                refine WX.next ?_
                refine WC.region ?_
                refine seg 2 [.v (.int .i64 x5279.1), .v (.int .i64 x5316.1), .v (.int .i64 x5279.2.2.1), .v (.int .i64 x5316.2)] [1, 5, 6, 71, 72] [(1, (.pointer (some ⟨g3199, 0, none⟩))), (5, (.int .i64 x4647)), (6, (.int .i64 x5109)), (71, (.slice A5106 l5108.length c5107)), (72, (.agg #[(.int .i64 x5279.1), (.int .i64 x5316.1), (.int .i64 x5279.2.2.1), (.int .i64 x5316.2)]))] [.cell ⟨g5274, 0, none⟩ (.int .i64 x5279.1), .cell ⟨g5274, 1, none⟩ (.int .i64 x5316.1), .cell ⟨g5274, 2, none⟩ (.int .i64 x5279.2.2.1), .cell ⟨g5274, 3, none⟩ (.int .i64 x5316.2)] (fun fb => by kernel_rfl) rfl ⟨hS5324.cell 2 rfl 0 rfl, hS5324.cell 2 rfl 1 rfl, hS5324.cell 2 rfl 2 rfl, hS5324.cell 2 rfl 3 rfl, trivial⟩ ?_
                refine WL.new hS5324 73 [] (fun g => (.slice (some ⟨g, 0, none⟩) 1 1)) (.cells #[(.int .i64 x5279.1), (.int .i64 x5316.1), (.int .i64 x5279.2.2.1), (.int .i64 x5316.2)] 65 (0, 0)) [] (fun fb g => by kernel_rfl) trivial (fun g5327 w5328 hS5329 => ?_)
                refine ⟨trivial, ?_⟩
                have hS5331 : St NoS w w5328 [rowR enc_Action A_p0_Actions c_p0_Actions p0.Actions] [rowO 65 enc_Tile (some ⟨g5327, 0, none⟩) 1 [(Tile.mk x5279.1 x5316.1 x5279.2.2.1 x5316.2)], blk g3199 (.cells #[(.int .i64 p0.States), (.int .i64 p0.Symbols), (.slice A_p0_Actions p0.Actions.length c_p0_Actions)] 24 (0, 0)), rowO 65 enc_Tile A5106 c5107 l5108, blk g5274 (.cells #[(.int .i64 x5279.1), (.int .i64 x5316.1), (.int .i64 x5279.2.2.1), (.int .i64 x5316.2)] 65 (0, 0))] := hS5329.map1 0 _ (fun h => rowO.ofBlk h rfl (Nat.le_of_ble_eq_true (by kernel_rfl))) (fun _ h => by obtain ⟨_, h1, h2⟩ := h; injection h1 with h1; subst h1; exact h2) [1, 2, 3] (by decide) (by decide)
                obtain ⟨h5332, hx5230⟩ := as_some hx5230
                refine WL.append hS5331 2 (d := 74) (tS := 50) (z := (.agg #[(.int .i64 0), (.int .i64 0), (.int .i64 0), (.int .i64 0)])) (bytes := 32) (c2 := 1) rfl (fun fb => by kernel_rfl) (rowO.rd (hS5331.own 0).1) (by kernel_rfl) (by kernel_rfl) rfl (by decide) h5332 (by decide) [0, 1, 3] (by decide) (by decide) (fun A5333 c5334 w5335 hS5336 => ?_)
                refine ⟨trivial, ?_⟩
                refine seg 5 [] [1, 3, 5, 6] [(1, (.pointer (some ⟨g3199, 0, none⟩))), (3, (.slice A5333 (l5108 ++ [(Tile.mk x5279.1 x5316.1 x5279.2.2.1 x5316.2)]).length c5334)), (5, (.int .i64 x4647)), (6, (.int .i64 x5109))] [] (fun fb => by kernel_rfl) rfl trivial ?_
                refine WL.done rfl ?_
                injection hx5230 with hx5230
                exact WX.blockN (WX.to Kx5229 (l5108 ++ [(Tile.mk x5279.1 x5316.1 x5279.2.2.1 x5316.2)], A5333, c5334) [1, 3, 5, 6] rfl ⟨(hS5336.subR [0]).sub [2, 0] (by decide), hx5230.symm⟩)
              rintro ⟨y5340, A5226, c5227⟩ w5337 ⟨hS5338, hq5339⟩
              subst hq5339
              refine WX.next ?_
              refine WC.region ?_
              refine seg 3 [] [1, 3, 5, 6] [(1, (.pointer (some ⟨g3199, 0, none⟩))), (3, (.slice A5226 x5229.length c5227)), (5, (.int .i64 x4647)), (6, (.int .i64 (w64 (x5109 + 1))))] [] (fun fb => by kernel_rfl) rfl trivial ?_
              refine WL.done rfl ?_
              exact WX.again k5115 (Nat.lt_succ_self _) ((x5229, w64 (x5109 + 1)), A5226, c5227) [1, 3, 5, 6] rfl ⟨(hS5338.subR [0]).sub [0, 1] (by decide), hl5118⟩
            refine WC.condF2 (fun fb => by kernel_rfl) h5119 ?_
            refine WC.exit ?_
            injection hl5118 with hl5118
            exact WX.thenX (WX.thenX (WX.blockHere (WX.to Kx5113 (l5108, A5106, c5107) [1, 3, 5] rfl ⟨(hS5117.subR [0]).sub [0, 1] (by decide), hl5118.symm⟩)))
        rintro ⟨y5344, A5110, c5111⟩ w5341 ⟨hS5342, hq5343⟩
        subst hq5343
        refine WX.blockN (WX.next ?_)
        refine WC.region ?_
        refine seg 3 [] [1, 3, 5] [(1, (.pointer (some ⟨g3199, 0, none⟩))), (3, (.slice A5110 x5113.length c5111)), (5, (.int .i64 (w64 (x4647 + 1))))] [] (fun fb => by kernel_rfl) rfl trivial ?_
        refine WL.done rfl ?_
        exact WX.again k4653 (Nat.lt_succ_self _) ((x5113, w64 (x4647 + 1)), A5110, c5111) [1, 3, 5] rfl ⟨(hS5342.subR [0]).sub [0, 1] (by decide), hl4656⟩
      refine WC.condF2 (fun fb => by kernel_rfl) h4657 ?_
      refine WC.exit ?_
      injection hl4656 with hl4656
      exact WX.thenX (WX.thenX (WX.blockHere (WX.to Kx4651 (l4646, A4644, c4645) [1, 3] rfl ⟨(hS4655.subR [0]).sub [0, 1] (by decide), hl4656.symm⟩)))
  rintro ⟨y5348, A4648, c4649⟩ w5345 ⟨hS5346, hq5347⟩
  subst hq5347
  refine WX.next ?_
  refine WC.seq ?_
  refine WC.seq ?_
  refine WC.region ?_
  refine seg 1 [] [1, 3, 9] [(1, (.pointer (some ⟨g3199, 0, none⟩))), (3, (.slice A4648 x4651.length c4649)), (9, (.int .i64 0))] [] (fun fb => by kernel_rfl) rfl trivial ?_
  refine WL.done rfl ?_
  refine WX.next ?_
  obtain ⟨x5662, hx5663, hf⟩ := bind_some hf
  refine WC.cutN (T := (List Tile) × (Option Addr) × Nat) (fun t => [(3, (.slice t.2.1 t.1.length t.2.2))]) (fun t w1 => St NoS w w1 [rowR enc_Action A_p0_Actions c_p0_Actions p0.Actions] [rowO 65 enc_Tile t.2.1 t.2.2 t.1] ∧ x5662 = t.1) (fun Kx5662 => ?_) ?_
  ·
    refine WC.block ?_
    refine WC.loop (T := ((List Tile) × Int) × (Option Addr) × Nat) (fun t => [(1, (.pointer (some ⟨g3199, 0, none⟩))), (3, (.slice t.2.1 t.1.1.length t.2.2)), (9, (.int .i64 t.1.2))]) (fun n t w1 => St NoS w w1 [rowR enc_Action A_p0_Actions c_p0_Actions p0.Actions] [blk g3199 (.cells #[(.int .i64 p0.States), (.int .i64 p0.Symbols), (.slice A_p0_Actions p0.Actions.length c_p0_Actions)] 24 (0, 0)), rowO 65 enc_Tile t.2.1 t.2.2 t.1.1] ∧ ref08_Tiles.l3 n t.1.1 t.1.2 p0 = some x5662) k ((x4651, 0), A4648, c4649) [1, 3, 9] rfl ⟨(hS5346.subR [0]).sub [0, 1] (by decide), hx5663⟩ ?_
    rintro k5664 ⟨⟨l5657, x5658⟩, A5655, c5656⟩ w5665 ⟨hS5666, hl5667⟩
    cases k5664 with
    | zero => rw [ref08_Tiles.l3] at hl5667; cases hl5667
    | succ k5664 =>
      rw [ref08_Tiles.l3] at hl5667
      refine WC.seq ?_
      refine WC.seq ?_
      refine WC.region ?_
      refine seg 4 [.v (.int .i64 p0.States)] [1, 3, 9, 78] [(1, (.pointer (some ⟨g3199, 0, none⟩))), (3, (.slice A5655 l5657.length c5656)), (9, (.int .i64 x5658)), (78, (.bool (decide (x5658 < p0.States))))] [.cell ⟨g3199, 0, none⟩ (.int .i64 p0.States)] (fun fb => by kernel_rfl) rfl ⟨hS5666.cell 0 rfl 0 rfl, trivial⟩ ?_
      refine WL.done rfl ?_
      refine WX.next ?_
      rcases br_some hl5667 with ⟨h5668, hl5667⟩ | ⟨h5668, hl5667⟩
      · refine WC.condT2 (fun fb => by kernel_rfl) h5668 ?_
        refine WC.skip ?_
        refine WX.next ?_
        refine WC.seq ?_
        refine WC.block ?_
        refine WC.seq ?_
        refine WC.region ?_
        refine seg 1 [] [1, 3, 9, 10] [(1, (.pointer (some ⟨g3199, 0, none⟩))), (3, (.slice A5655 l5657.length c5656)), (9, (.int .i64 x5658)), (10, (.int .i64 0))] [] (fun fb => by kernel_rfl) rfl trivial ?_
        refine WL.done rfl ?_
        refine WX.next ?_
        obtain ⟨x5766, hx5767, hl5667⟩ := bind_some hl5667
        refine WC.cutN (T := (List Tile) × (Option Addr) × Nat) (fun t => [(1, (.pointer (some ⟨g3199, 0, none⟩))), (3, (.slice t.2.1 t.1.length t.2.2)), (9, (.int .i64 x5658))]) (fun t w1 => St NoS w w1 [rowR enc_Action A_p0_Actions c_p0_Actions p0.Actions] [blk g3199 (.cells #[(.int .i64 p0.States), (.int .i64 p0.Symbols), (.slice A_p0_Actions p0.Actions.length c_p0_Actions)] 24 (0, 0)), rowO 65 enc_Tile t.2.1 t.2.2 t.1] ∧ x5766 = t.1) (fun Kx5766 => ?_) ?_
        ·
          refine WC.block ?_
          refine WC.loop (T := ((List Tile) × Int) × (Option Addr) × Nat) (fun t => [(1, (.pointer (some ⟨g3199, 0, none⟩))), (3, (.slice t.2.1 t.1.1.length t.2.2)), (9, (.int .i64 x5658)), (10, (.int .i64 t.1.2))]) (fun n t w1 => St NoS w w1 [rowR enc_Action A_p0_Actions c_p0_Actions p0.Actions] [blk g3199 (.cells #[(.int .i64 p0.States), (.int .i64 p0.Symbols), (.slice A_p0_Actions p0.Actions.length c_p0_Actions)] 24 (0, 0)), rowO 65 enc_Tile t.2.1 t.2.2 t.1.1] ∧ ref08_Tiles.l4 n t.1.1 t.1.2 p0 x5658 = some x5766) k5664 ((l5657, 0), A5655, c5656) [1, 3, 9, 10] rfl ⟨(hS5666.subR [0]).sub [0, 1] (by decide), hx5767⟩ ?_
          rintro k5768 ⟨⟨l5761, x5762⟩, A5759, c5760⟩ w5769 ⟨hS5770, hl5771⟩
          cases k5768 with
          | zero => rw [ref08_Tiles.l4] at hl5771; cases hl5771
          | succ k5768 =>
            rw [ref08_Tiles.l4] at hl5771
            refine WC.seq ?_
            refine WC.seq ?_
            refine WC.region ?_
            refine seg 4 [.v (.int .i64 p0.Symbols)] [1, 3, 9, 10, 84] [(1, (.pointer (some ⟨g3199, 0, none⟩))), (3, (.slice A5759 l5761.length c5760)), (9, (.int .i64 x5658)), (10, (.int .i64 x5762)), (84, (.bool (decide (x5762 < p0.Symbols))))] [.cell ⟨g3199, 1, none⟩ (.int .i64 p0.Symbols)] (fun fb => by kernel_rfl) rfl ⟨hS5770.cell 0 rfl 1 rfl, trivial⟩ ?_
            refine WL.done rfl ?_
            refine WX.next ?_
            rcases br_some hl5771 with ⟨h5772, hl5771⟩ | ⟨h5772, hl5771⟩
            · refine WC.condT2 (fun fb => by kernel_rfl) h5772 ?_
              refine WC.skip ?_
              refine WX.next ?_
              refine WC.seq ?_
              refine WC.block ?_
              refine WC.regionD ([(2, ⟨g3199, 0, none⟩, (.int .i64 p0.States)), (2, ⟨g3199, 1, none⟩, (.int .i64 p0.Symbols)), (2, ⟨g3199, 2, none⟩, (.slice A_p0_Actions p0.Actions.length c_p0_Actions)), (10, ⟨g3199, 0, none⟩, (.int .i64 p0.States)), (10, ⟨g3199, 1, none⟩, (.int .i64 p0.Symbols)), (10, ⟨g3199, 2, none⟩, (.slice A_p0_Actions p0.Actions.length c_p0_Actions)), (15, ⟨g3199, 0, none⟩, (.int .i64 p0.States))], [0, 1, 2, 3, 4, 6, 7, 8, 9, 10, 11, 12, 14, 15, 16, 17, 18, 19, 22], [[], [], [], [], [], [2, 3, 4], [], [6], [1, 2, 3, 4, 5, 6, 7], [], [], [], [], [2, 3, 4, 5, 10, 11, 12], [], [14], [14, 15], [], [14, 15, 16, 17], [2, 3, 4, 5, 9, 10, 11, 12, 13, 14, 15, 16, 17, 18], [1, 2, 3, 4, 5, 6, 7, 8, 9, 10, 11, 12, 13, 14, 15, 16, 17, 18, 19], [0, 1, 2, 3, 4, 5, 6, 7, 8, 9, 10, 11, 12, 13, 14, 15, 16, 17, 18, 19, 20], [0, 1, 2, 3, 4, 5, 6, 7, 8, 9, 10, 11, 12, 13, 14, 15, 16, 17, 18, 19, 20, 21]]) [[0, 1, 2, 3, 4, 6, 7, 9, 10, 11, 12, 14, 15, 16, 17, 18, 5, 8, 13, 19, 20, 21, 22]] (by kernel_rfl) (by kernel_rfl) (NoPanic.block (NoPanic.seq (NoPanic.seq (NoPanic.block (NoPanic.block (NoPanic.seq (NoPanic.seq (NoPanic.block (NoPanic.seq (NoPanic.body)))))))))) ?_
              have hS5794 := hS5770.drew
              revert hS5794
              generalize World.drew w5769 = w5793
              intro hS5794
              refine ⟨⟨hS5794.cell 0 rfl 0 rfl, hS5794.cell 0 rfl 1 rfl, hS5794.cell 0 rfl 2 rfl, hS5794.cell 0 rfl 0 rfl, hS5794.cell 0 rfl 1 rfl, hS5794.cell 0 rfl 2 rfl, hS5794.cell 0 rfl 0 rfl, trivial⟩, forallC ?_ (forallN)⟩
              refine segF 16 [.v (.int .i64 p0.States), .v (.int .i64 p0.Symbols), .v (.slice A_p0_Actions p0.Actions.length c_p0_Actions), .v (.int .i64 p0.States), .v (.int .i64 p0.Symbols), .v (.slice A_p0_Actions p0.Actions.length c_p0_Actions), .v (.int .i64 p0.States)] [1, 9, 10, 87, 88, 89, 90, 91, 94, 96, 97, 98, 99, 105] [(1, (.pointer (some ⟨g3199, 0, none⟩))), (9, (.int .i64 x5658)), (10, (.int .i64 x5762)), (87, (.slice A5759 l5761.length c5760)), (88, (.int .i64 x5762)), (89, (.agg #[(.int .i64 p0.States), (.int .i64 p0.Symbols), (.slice A_p0_Actions p0.Actions.length c_p0_Actions)])), (90, (.int .i64 x5658)), (91, (.int .i64 x5762)), (94, (.int .i64 (w64 (1 + x5658)))), (96, (.int .i64 x5762)), (97, (.agg #[(.int .i64 p0.States), (.int .i64 p0.Symbols), (.slice A_p0_Actions p0.Actions.length c_p0_Actions)])), (98, (.int .i64 x5658)), (99, (.int .i64 x5762)), (105, (.int .i64 (w64 ((w64 (1 + p0.States)) + x5658))))] [] [0, 1, 2, 3, 4, 5, 6] [(2, ⟨g3199, 0, none⟩, (.int .i64 p0.States)), (2, ⟨g3199, 1, none⟩, (.int .i64 p0.Symbols)), (2, ⟨g3199, 2, none⟩, (.slice A_p0_Actions p0.Actions.length c_p0_Actions)), (10, ⟨g3199, 0, none⟩, (.int .i64 p0.States)), (10, ⟨g3199, 1, none⟩, (.int .i64 p0.Symbols)), (10, ⟨g3199, 2, none⟩, (.slice A_p0_Actions p0.Actions.length c_p0_Actions)), (15, ⟨g3199, 0, none⟩, (.int .i64 p0.States))] (fun fb => by kernel_rfl) rfl trivial rfl ?_
              obtain ⟨t5795, ht5796, hl5771⟩ := bind_some hl5771
              refine WL.call (some 92) 55 #[(.agg #[(.int .i64 p0.States), (.int .i64 p0.Symbols), (.slice A_p0_Actions p0.Actions.length c_p0_Actions)]), (.int .i64 x5658), (.int .i64 x5762)] (fun fb => by kernel_rfl) (ref08_both_calls p0 x5658 x5762 A_p0_Actions c_p0_Actions t5795 _ (hS5794.rd 0) ht5796) (fun v w5797 hR5798 => ?_)
              obtain ⟨rfl, hk_⟩ := hR5798
              have hS5799 := hS5794.keepN hk_
              refine ⟨⟨hS5799.cell 0 rfl 0 rfl, hS5799.cell 0 rfl 1 rfl, hS5799.cell 0 rfl 2 rfl, hS5799.cell 0 rfl 0 rfl, trivial⟩, ?_⟩
              refine seg 18 [] [1, 9, 10, 87, 95, 96, 97, 98, 99, 105] [(1, (.pointer (some ⟨g3199, 0, none⟩))), (9, (.int .i64 x5658)), (10, (.int .i64 x5762)), (87, (.slice A5759 l5761.length c5760)), (95, (.agg #[(.int .i64 t5795), (.int .i64 0), (.int .i64 x5762), (.int .i64 (w64 (1 + x5658)))])), (96, (.int .i64 x5762)), (97, (.agg #[(.int .i64 p0.States), (.int .i64 p0.Symbols), (.slice A_p0_Actions p0.Actions.length c_p0_Actions)])), (98, (.int .i64 x5658)), (99, (.int .i64 x5762)), (105, (.int .i64 (w64 ((w64 (1 + p0.States)) + x5658))))] [] (fun fb => by kernel_rfl) rfl trivial ?_
              obtain ⟨t5800, ht5801, hl5771⟩ := bind_some hl5771
              refine WL.call (some 100) 55 #[(.agg #[(.int .i64 p0.States), (.int .i64 p0.Symbols), (.slice A_p0_Actions p0.Actions.length c_p0_Actions)]), (.int .i64 x5658), (.int .i64 x5762)] (fun fb => by kernel_rfl) (ref08_both_calls p0 x5658 x5762 A_p0_Actions c_p0_Actions t5800 _ (hS5799.rd 0) ht5801) (fun v w5802 hR5803 => ?_)
              obtain ⟨rfl, hk_⟩ := hR5803
              have hS5804 := hS5799.keepN hk_
              refine ⟨⟨hS5804.cell 0 rfl 0 rfl, trivial⟩, ?_⟩
              refine seg 20 [] [1, 9, 10, 87, 95, 106] [(1, (.pointer (some ⟨g3199, 0, none⟩))), (9, (.int .i64 x5658)), (10, (.int .i64 x5762)), (87, (.slice A5759 l5761.length c5760)), (95, (.agg #[(.int .i64 t5795), (.int .i64 0), (.int .i64 x5762), (.int .i64 (w64 (1 + x5658)))])), (106, (.agg #[(.int .i64 t5800), (.int .i64 (w64 ((w64 (1 + p0.States)) + x5658))), (.int .i64 x5762), (.int .i64 0)]))] [] (fun fb => by kernel_rfl) rfl trivial ?_
              refine WL.new hS5804 107 [] (fun g => (.slice (some ⟨g, 0, none⟩) 2 2)) (.cells #[(.int .i64 t5795), (.int .i64 0), (.int .i64 x5762), (.int .i64 (w64 (1 + x5658))), (.int .i64 t5800), (.int .i64 (w64 ((w64 (1 + p0.States)) + x5658))), (.int .i64 x5762), (.int .i64 0)] 65 (0, 0)) [] (fun fb g => by kernel_rfl) trivial (fun g5805 w5806 hS5807 => ?_)
              refine ⟨trivial, ?_⟩
              have hS5809 : St NoS w w5806 [rowR enc_Action A_p0_Actions c_p0_Actions p0.Actions] [rowO 65 enc_Tile (some ⟨g5805, 0, none⟩) 2 [(Tile.mk t5795 0 x5762 (w64 (1 + x5658))), (Tile.mk t5800 (w64 ((w64 (1 + p0.States)) + x5658)) x5762 0)], blk g3199 (.cells #[(.int .i64 p0.States), (.int .i64 p0.Symbols), (.slice A_p0_Actions p0.Actions.length c_p0_Actions)] 24 (0, 0)), rowO 65 enc_Tile A5759 c5760 l5761] := hS5807.map1 0 _ (fun h => rowO.ofBlk h rfl (Nat.le_of_ble_eq_true (by kernel_rfl))) (fun _ h => by obtain ⟨_, h1, h2⟩ := h; injection h1 with h1; subst h1; exact h2) [1, 2] (by decide) (by decide)
              obtain ⟨h5810, hl5771⟩ := as_some hl5771
              refine WL.append hS5809 2 (d := 108) (tS := 50) (z := (.agg #[(.int .i64 0), (.int .i64 0), (.int .i64 0), (.int .i64 0)])) (bytes := 32) (c2 := 2) rfl (fun fb => by kernel_rfl) (rowO.rd (hS5809.own 0).1) (by kernel_rfl) (by kernel_rfl) rfl (by decide) h5810 (by decide) [0, 1] (by decide) (by decide) (fun A5811 c5812 w5813 hS5814 => ?_)
              refine ⟨trivial, ?_⟩
              refine seg 23 [] [1, 3, 9, 10] [(1, (.pointer (some ⟨g3199, 0, none⟩))), (3, (.slice A5811 (l5761 ++ [(Tile.mk t5795 0 x5762 (w64 (1 + x5658))), (Tile.mk t5800 (w64 ((w64 (1 + p0.States)) + x5658)) x5762 0)]).length c5812)), (9, (.int .i64 x5658)), (10, (.int .i64 x5762))] [] (fun fb => by kernel_rfl) rfl trivial ?_
              refine WL.done rfl ?_
              refine WX.blockN (WX.next ?_)
              refine WC.region ?_
              refine seg 3 [] [1, 3, 9, 10] [(1, (.pointer (some ⟨g3199, 0, none⟩))), (3, (.slice A5811 (l5761 ++ [(Tile.mk t5795 0 x5762 (w64 (1 + x5658))), (Tile.mk t5800 (w64 ((w64 (1 + p0.States)) + x5658)) x5762 0)]).length c5812)), (9, (.int .i64 x5658)), (10, (.int .i64 (w64 (x5762 + 1))))] [] (fun fb => by kernel_rfl) rfl trivial ?_
              refine WL.done rfl ?_
              exact WX.again k5768 (Nat.lt_succ_self _) ((l5761 ++ [(Tile.mk t5795 0 x5762 (w64 (1 + x5658))), (Tile.mk t5800 (w64 ((w64 (1 + p0.States)) + x5658)) x5762 0)], w64 (x5762 + 1)), A5811, c5812) [1, 3, 9, 10] rfl ⟨(hS5814.subR [0]).sub [2, 0] (by decide), hl5771⟩
            refine WC.condF2 (fun fb => by kernel_rfl) h5772 ?_
            refine WC.exit ?_
            injection hl5771 with hl5771
            exact WX.thenX (WX.thenX (WX.blockHere (WX.to Kx5766 (l5761, A5759, c5760) [1, 3, 9] rfl ⟨(hS5770.subR [0]).sub [0, 1] (by decide), hl5771.symm⟩)))
        rintro ⟨y5818, A5763, c5764⟩ w5815 ⟨hS5816, hq5817⟩
        subst hq5817
        refine WX.blockN (WX.next ?_)
        refine WC.region ?_
        refine seg 3 [] [1, 3, 9] [(1, (.pointer (some ⟨g3199, 0, none⟩))), (3, (.slice A5763 x5766.length c5764)), (9, (.int .i64 (w64 (x5658 + 1))))] [] (fun fb => by kernel_rfl) rfl trivial ?_
        refine WL.done rfl ?_
        exact WX.again k5664 (Nat.lt_succ_self _) ((x5766, w64 (x5658 + 1)), A5763, c5764) [1, 3, 9] rfl ⟨(hS5816.subR [0]).sub [0, 1] (by decide), hl5667⟩
      refine WC.condF2 (fun fb => by kernel_rfl) h5668 ?_
      refine WC.exit ?_
      injection hl5667 with hl5667
      exact WX.thenX (WX.thenX (WX.blockHere (WX.to Kx5662 (l5657, A5655, c5656) [3] rfl ⟨(hS5666.subR [0]).sub [1] (by decide), hl5667.symm⟩)))
  rintro ⟨y5822, A5659, c5660⟩ w5819 ⟨hS5820, hq5821⟩
  subst hq5821
  refine WX.next ?_
  refine WC.seq ?_
  refine WC.region ?_
  refine seg 2 [] [2] [(2, (.slice A5659 x5662.length c5660))] [] (fun fb => by kernel_rfl) rfl trivial ?_
  refine WL.done rfl ?_
  refine WX.next ?_
  refine WC.ret ?_
  injection hf with hf
  subst hf
  exact WX.ret_ [] (.slice A5659 x5662.length c5660) [] (fun fb => by kernel_rfl) trivial ⟨_, rfl, A5659, c5660, rfl, (hS5820.sub [0] (by decide)).noR⟩
theorem ref08_Copy_calls (p0 : Config) (A_p0_Cells : Option Addr) (c_p0_Cells : Nat) (r : Config) (w : World) (hR0 : RO NoS w (rowR encInt A_p0_Cells c_p0_Cells p0.Cells)) (hf : ref08_Copy p0 = some r) :
    CallsR Try.prog 51 #[(.agg #[(.int .i64 p0.State), (.int .i64 p0.At), (.slice A_p0_Cells p0.Cells.length c_p0_Cells)])] w (fun v w' => ∃ (A1_ : Option Addr), ∃ (c1_ : Nat), v = (.agg #[(.int .i64 r.State), (.int .i64 r.At), (.slice A1_ r.Cells.length c1_)]) ∧ St NoS w w' [] [rowO 3 encInt A1_ c1_ r.Cells]) := by
  have hS : St NoS w w [rowR encInt A_p0_Cells c_p0_Cells p0.Cells] [] := St.init (ro_cons hR0 (ro_nil _ _))
  refine enter 12 Try.func51 rfl Try.ntmps51 rfl ?_
  unfold ref08_Copy at hf
  refine WC.seq ?_
  refine WC.region ?_
  refine WL.new hS 1 [] (fun g => (.pointer (some ⟨g, 0, none⟩))) (.cells #[(.int .i64 p0.State), (.int .i64 p0.At), (.slice A_p0_Cells p0.Cells.length c_p0_Cells)] 27 (0, 0)) [] (fun fb g => by kernel_rfl) trivial (fun g5873 w5874 hS5875 => ?_)
  refine ⟨trivial, ?_⟩
  refine WL.new hS5875 2 [] (fun g => (.pointer (some ⟨g, 0, none⟩))) (.cells #[(.int .i64 0), (.int .i64 0), (.slice none 0 0)] 27 (0, 0)) [] (fun fb g => by kernel_rfl) trivial (fun g5877 w5878 hS5879 => ?_)
  refine ⟨trivial, ?_⟩
  refine WL.done rfl ?_
  refine WX.next ?_
  refine WC.seq ?_
  refine WC.regionD ([(1, ⟨g5873, 0, none⟩, (.int .i64 p0.State)), (3, ⟨g5873, 1, none⟩, (.int .i64 p0.At)), (6, ⟨g5873, 2, none⟩, (.slice A_p0_Cells p0.Cells.length c_p0_Cells))], [0, 1, 2, 3, 5, 6, 8], [[], [0], [], [2], [], [], [5], [4, 5, 6], [0, 1, 2, 3, 4, 5, 6, 7], [0, 1, 2, 3, 4, 5, 6, 7, 8]]) [[0, 1, 2, 3, 5, 6, 4, 7, 8, 9]] (by kernel_rfl) (by kernel_rfl) (NoPanic.seq (NoPanic.body)) ?_
  have hS5894 := hS5879.drew
  revert hS5894
  generalize World.drew w5878 = w5893
  intro hS5894
  refine ⟨⟨hS5894.cell 1 rfl 0 rfl, hS5894.cell 1 rfl 1 rfl, hS5894.cell 1 rfl 2 rfl, trivial⟩, forallC ?_ (forallN)⟩
  refine segF 6 [.v (.int .i64 p0.State), .v (.int .i64 p0.At), .v (.slice A_p0_Cells p0.Cells.length c_p0_Cells)] [2, 4, 6, 9] [(2, (.pointer (some ⟨g5877, 0, none⟩))), (4, (.int .i64 p0.State)), (6, (.int .i64 p0.At)), (9, (.slice A_p0_Cells p0.Cells.length c_p0_Cells))] [] [0, 1, 2] [(1, ⟨g5873, 0, none⟩, (.int .i64 p0.State)), (3, ⟨g5873, 1, none⟩, (.int .i64 p0.At)), (6, ⟨g5873, 2, none⟩, (.slice A_p0_Cells p0.Cells.length c_p0_Cells))] (fun fb => by kernel_rfl) rfl trivial rfl ?_
  refine WL.new hS5894 7 [] (fun g => (.slice (some ⟨g, 0, none⟩) 0 0)) (.cells #[] 3 (0, 0)) [] (fun fb g => by kernel_rfl) trivial (fun g5895 w5896 hS5897 => ?_)
  refine ⟨⟨hS5897.cell 2 rfl 0 rfl, hS5897.cell 2 rfl 1 rfl, hS5897.cell 2 rfl 2 rfl, trivial⟩, ?_⟩
  have hS5899 : St NoS w w5896 [rowR encInt A_p0_Cells c_p0_Cells p0.Cells] [rowO 3 encInt (some ⟨g5895, 0, none⟩) 0 ([] : List Int), blk g5877 (.cells #[(.int .i64 0), (.int .i64 0), (.slice none 0 0)] 27 (0, 0)), blk g5873 (.cells #[(.int .i64 p0.State), (.int .i64 p0.At), (.slice A_p0_Cells p0.Cells.length c_p0_Cells)] 27 (0, 0))] := hS5897.map1 0 _ (fun h => rowO.ofBlk h rfl (Nat.le_of_ble_eq_true (by kernel_rfl))) (fun _ h => by obtain ⟨_, h1, h2⟩ := h; injection h1 with h1; subst h1; exact h2) [1, 2] (by decide) (by decide)
  obtain ⟨h5900, hf⟩ := as_some hf
  refine WL.append hS5899 0 (d := 10) (tS := 25) (z := (.int .i64 0)) (bytes := 8) (c2 := c_p0_Cells) rfl (fun fb => by kernel_rfl) (hS5899.rd 0).1 (by kernel_rfl) (by kernel_rfl) rfl (by decide) h5900 (by decide) [1, 2] (by decide) (by decide) (fun A5901 c5902 w5903 hS5904 => ?_)
  refine ⟨⟨hS5904.cell 2 rfl 0 rfl, hS5904.cell 2 rfl 1 rfl, trivial⟩, ?_⟩
  refine seg 9 [] [2, 11] [(2, (.pointer (some ⟨g5877, 0, none⟩))), (11, (.agg #[(.int .i64 p0.State), (.int .i64 p0.At), (.slice A5901 (([] : List Int) ++ p0.Cells).length c5902)]))] [] (fun fb => by kernel_rfl) rfl trivial ?_
  refine WL.store hS5904 1 rfl [(0, (.int .i64 p0.State)), (1, (.int .i64 p0.At)), (2, (.slice A5901 (([] : List Int) ++ p0.Cells).length c5902))] #[(.int .i64 p0.State), (.int .i64 p0.At), (.slice A5901 (([] : List Int) ++ p0.Cells).length c5902)] (fun fb => by kernel_rfl) (by kernel_rfl) rfl [0, 2] (by decide) (by decide) (fun w5905 hS5906 => ?_)
  refine ⟨trivial, ?_⟩
  refine WL.done rfl ?_
  refine WX.next ?_
  refine WC.ret ?_
  injection hf with hf
  subst hf
  exact WX.ret_ [.v (.int .i64 p0.State), .v (.int .i64 p0.At), .v (.slice A5901 (([] : List Int) ++ p0.Cells).length c5902)] (.agg #[(.int .i64 p0.State), (.int .i64 p0.At), (.slice A5901 (([] : List Int) ++ p0.Cells).length c5902)]) [.cell ⟨g5877, 0, none⟩ (.int .i64 p0.State), .cell ⟨g5877, 1, none⟩ (.int .i64 p0.At), .cell ⟨g5877, 2, none⟩ (.slice A5901 (([] : List Int) ++ p0.Cells).length c5902)] (fun fb => by kernel_rfl) ⟨hS5906.cell 0 rfl 0 rfl, hS5906.cell 0 rfl 1 rfl, hS5906.cell 0 rfl 2 rfl, trivial⟩ ⟨_, rfl, A5901, c5902, rfl, (hS5906.sub [1] (by decide)).noR⟩
theorem ref08_Step_calls (p0 : Machine) (p1 : Config) (A_p0_Actions : Option Addr) (c_p0_Actions : Nat) (A_p1_Cells : Option Addr) (c_p1_Cells : Nat) (r : Config × Int) (w : World) (hR0 : RO NoS w (rowR enc_Action A_p0_Actions c_p0_Actions p0.Actions)) (hR1 : RO NoS w (rowR encInt A_p1_Cells c_p1_Cells p1.Cells)) (hf : ref08_Step p0 p1 = some r) :
    CallsR Try.prog 22 #[(.agg #[(.int .i64 p0.States), (.int .i64 p0.Symbols), (.slice A_p0_Actions p0.Actions.length c_p0_Actions)]), (.agg #[(.int .i64 p1.State), (.int .i64 p1.At), (.slice A_p1_Cells p1.Cells.length c_p1_Cells)])] w (fun v w' => ∃ (A1_ : Option Addr), ∃ (c1_ : Nat), v = (.tuple #[(.agg #[(.int .i64 r.1.State), (.int .i64 r.1.At), (.slice A1_ r.1.Cells.length c1_)]), (.int .i64 r.2)]) ∧ St NoS w w' [] [rowO 3 encInt A1_ c1_ r.1.Cells]) := by
  have hS : St NoS w w [rowR enc_Action A_p0_Actions c_p0_Actions p0.Actions, rowR encInt A_p1_Cells c_p1_Cells p1.Cells] [] := St.init (ro_cons hR0 (ro_cons hR1 (ro_nil _ _)))
  refine enter 66 Try.func22 rfl Try.ntmps22 rfl ?_
  unfold ref08_Step at hf
  refine WC.seq ?_
  refine WC.region ?_
  refine WL.new hS 2 [] (fun g => (.pointer (some ⟨g, 0, none⟩))) (.cells #[(.int .i64 p0.States), (.int .i64 p0.Symbols), (.slice A_p0_Actions p0.Actions.length c_p0_Actions)] 24 (0, 0)) [] (fun fb g => by kernel_rfl) trivial (fun g5837 w5838 hS5839 => ?_)
  refine ⟨trivial, ?_⟩
  refine WL.new hS5839 3 [] (fun g => (.pointer (some ⟨g, 0, none⟩))) (.cells #[(.int .i64 p1.State), (.int .i64 p1.At), (.slice A_p1_Cells p1.Cells.length c_p1_Cells)] 27 (0, 0)) [] (fun fb g => by kernel_rfl) trivial (fun g5841 w5842 hS5843 => ?_)
  refine ⟨trivial, ?_⟩
  refine WL.new hS5843 4 [] (fun g => (.pointer (some ⟨g, 0, none⟩))) (.cells #[(.int .i64 0), (.int .i64 0), (.slice none 0 0)] 27 (0, 0)) [] (fun fb g => by kernel_rfl) trivial (fun g5845 w5846 hS5847 => ?_)
  refine ⟨trivial, ?_⟩
  refine seg 4 [] [2, 3, 4] [(2, (.pointer (some ⟨g5837, 0, none⟩))), (3, (.pointer (some ⟨g5841, 0, none⟩))), (4, (.pointer (some ⟨g5845, 0, none⟩)))] [] (fun fb => by kernel_rfl) rfl trivial ?_
  refine WL.done rfl ?_
  refine WX.next ?_
  refine WC.seq ?_
  obtain ⟨h5861, hf⟩ := as_some hf
  obtain ⟨h5862, hf⟩ := as_some hf
  refine WC.regionD ([(1, ⟨g5837, 2, none⟩, (.slice A_p0_Actions p0.Actions.length c_p0_Actions)), (3, ⟨g5841, 0, none⟩, (.int .i64 p1.State)), (5, ⟨g5837, 1, none⟩, (.int .i64 p0.Symbols)), (8, ⟨g5841, 2, none⟩, (.slice A_p1_Cells p1.Cells.length c_p1_Cells)), (10, ⟨g5841, 1, none⟩, (.int .i64 p1.At)), (12, ((adr A_p1_Cells).add ((p1.At).toNat * 1)), (.int .i64 (rdD p1.Cells p1.At 0))), (15, ((adr A_p0_Actions).add ((w64 ((w64 (p1.State * p0.Symbols)) + (rdD p1.Cells p1.At 0))).toNat * 3)), (.int .i64 ((rdD p0.Actions (w64 ((w64 (p1.State * p0.Symbols)) + (rdD p1.Cells p1.At 0))) z_Action).Write))), (15, (((adr A_p0_Actions).add ((w64 ((w64 (p1.State * p0.Symbols)) + (rdD p1.Cells p1.At 0))).toNat * 3)).add 1), (.int .i64 ((rdD p0.Actions (w64 ((w64 (p1.State * p0.Symbols)) + (rdD p1.Cells p1.At 0))) z_Action).Move))), (15, (((adr A_p0_Actions).add ((w64 ((w64 (p1.State * p0.Symbols)) + (rdD p1.Cells p1.At 0))).toNat * 3)).add 2), (.int .i64 ((rdD p0.Actions (w64 ((w64 (p1.State * p0.Symbols)) + (rdD p1.Cells p1.At 0))) z_Action).Next)))], [0, 1, 2, 3, 4, 5, 6, 7, 8, 9, 10, 11, 12, 13, 14, 15], [[], [0], [], [2], [], [4], [2, 3, 4, 5], [], [7], [], [9], [7, 8, 9, 10], [7, 8, 9, 10, 11], [2, 3, 4, 5, 6, 7, 8, 9, 10, 11, 12], [0, 1, 2, 3, 4, 5, 6, 7, 8, 9, 10, 11, 12, 13], [0, 1, 2, 3, 4, 5, 6, 7, 8, 9, 10, 11, 12, 13, 14], [], [0, 1, 2, 3, 4, 5, 6, 7, 8, 9, 10, 11, 12, 13, 14, 15, 16]]) [[0, 1, 2, 3, 4, 5, 6, 7, 8, 9, 10, 11, 12, 13, 14, 15, 16, 17]] (by kernel_rfl) (by kernel_rfl) (NoPanic.seq (NoPanic.body)) ?_
  have hS5858 := hS5847.drew
  revert hS5858
  generalize World.drew w5846 = w5857
  intro hS5858
  refine ⟨⟨hS5858.cell 2 rfl 2 rfl, hS5858.cell 1 rfl 0 rfl, hS5858.cell 2 rfl 1 rfl, hS5858.cell 1 rfl 2 rfl, hS5858.cell 1 rfl 1 rfl, rowR.cell (hS5858.rd 1).1 0 h5861.1 h5861.2 0 rfl, rowR.cell (hS5858.rd 0).1 z_Action h5862.1 h5862.2 0 rfl, rowR.cell (hS5858.rd 0).1 z_Action h5862.1 h5862.2 1 rfl, rowR.cell (hS5858.rd 0).1 z_Action h5862.1 h5862.2 2 rfl, trivial⟩, forallC ?_ (forallN)⟩
  refine segF 16 [.v (.slice A_p0_Actions p0.Actions.length c_p0_Actions), .v (.int .i64 p1.State), .v (.int .i64 p0.Symbols), .v (.slice A_p1_Cells p1.Cells.length c_p1_Cells), .v (.int .i64 p1.At), .v (.int .i64 (rdD p1.Cells p1.At 0)), .v (.int .i64 ((rdD p0.Actions (w64 ((w64 (p1.State * p0.Symbols)) + (rdD p1.Cells p1.At 0))) z_Action).Write)), .v (.int .i64 ((rdD p0.Actions (w64 ((w64 (p1.State * p0.Symbols)) + (rdD p1.Cells p1.At 0))) z_Action).Move)), .v (.int .i64 ((rdD p0.Actions (w64 ((w64 (p1.State * p0.Symbols)) + (rdD p1.Cells p1.At 0))) z_Action).Next))] [2, 3, 4, 23] [(2, (.pointer (some ⟨g5837, 0, none⟩))), (3, (.pointer (some ⟨g5841, 0, none⟩))), (4, (.pointer (some ⟨g5845, 0, none⟩))), (23, (.agg #[(.int .i64 ((rdD p0.Actions (w64 ((w64 (p1.State * p0.Symbols)) + (rdD p1.Cells p1.At 0))) z_Action).Write)), (.int .i64 ((rdD p0.Actions (w64 ((w64 (p1.State * p0.Symbols)) + (rdD p1.Cells p1.At 0))) z_Action).Move)), (.int .i64 ((rdD p0.Actions (w64 ((w64 (p1.State * p0.Symbols)) + (rdD p1.Cells p1.At 0))) z_Action).Next))]))] [.idx A_p1_Cells p1.At p1.Cells.length, .idx A_p0_Actions (w64 ((w64 (p1.State * p0.Symbols)) + (rdD p1.Cells p1.At 0))) p0.Actions.length] [0, 1, 2, 3, 4, 5, 6, 7, 8] [(1, ⟨g5837, 2, none⟩, (.slice A_p0_Actions p0.Actions.length c_p0_Actions)), (3, ⟨g5841, 0, none⟩, (.int .i64 p1.State)), (5, ⟨g5837, 1, none⟩, (.int .i64 p0.Symbols)), (8, ⟨g5841, 2, none⟩, (.slice A_p1_Cells p1.Cells.length c_p1_Cells)), (10, ⟨g5841, 1, none⟩, (.int .i64 p1.At)), (12, ((adr A_p1_Cells).add ((p1.At).toNat * 1)), (.int .i64 (rdD p1.Cells p1.At 0))), (15, ((adr A_p0_Actions).add ((w64 ((w64 (p1.State * p0.Symbols)) + (rdD p1.Cells p1.At 0))).toNat * 3)), (.int .i64 ((rdD p0.Actions (w64 ((w64 (p1.State * p0.Symbols)) + (rdD p1.Cells p1.At 0))) z_Action).Write))), (15, (((adr A_p0_Actions).add ((w64 ((w64 (p1.State * p0.Symbols)) + (rdD p1.Cells p1.At 0))).toNat * 3)).add 1), (.int .i64 ((rdD p0.Actions (w64 ((w64 (p1.State * p0.Symbols)) + (rdD p1.Cells p1.At 0))) z_Action).Move))), (15, (((adr A_p0_Actions).add ((w64 ((w64 (p1.State * p0.Symbols)) + (rdD p1.Cells p1.At 0))).toNat * 3)).add 2), (.int .i64 ((rdD p0.Actions (w64 ((w64 (p1.State * p0.Symbols)) + (rdD p1.Cells p1.At 0))) z_Action).Next)))] (fun fb => by kernel_rfl) rfl ⟨rowR.adr (hS5858.rd 1).1 h5861.1 h5861.2, rowR.adr (hS5858.rd 0).1 h5862.1 h5862.2, trivial⟩ rfl ?_
  refine WL.new hS5858 6 [] (fun g => (.pointer (some ⟨g, 0, none⟩))) (.cells #[(.int .i64 0), (.int .i64 0), (.int .i64 0)] 88 (0, 0)) [] (fun fb g => by kernel_rfl) trivial (fun g5863 w5864 hS5865 => ?_)
  refine ⟨⟨hS5865.cell 3 rfl 2 rfl, hS5865.cell 2 rfl 0 rfl, hS5865.cell 3 rfl 1 rfl, hS5865.cell 2 rfl 2 rfl, hS5865.cell 2 rfl 1 rfl, rowR.cell (hS5865.rd 1).1 0 h5861.1 h5861.2 0 rfl, rowR.cell (hS5865.rd 0).1 z_Action h5862.1 h5862.2 0 rfl, rowR.cell (hS5865.rd 0).1 z_Action h5862.1 h5862.2 1 rfl, rowR.cell (hS5865.rd 0).1 z_Action h5862.1 h5862.2 2 rfl, trivial⟩, ?_⟩
  refine WL.store hS5865 0 rfl [(0, (.int .i64 ((rdD p0.Actions (w64 ((w64 (p1.State * p0.Symbols)) + (rdD p1.Cells p1.At 0))) z_Action).Write))), (1, (.int .i64 ((rdD p0.Actions (w64 ((w64 (p1.State * p0.Symbols)) + (rdD p1.Cells p1.At 0))) z_Action).Move))), (2, (.int .i64 ((rdD p0.Actions (w64 ((w64 (p1.State * p0.Symbols)) + (rdD p1.Cells p1.At 0))) z_Action).Next)))] #[(.int .i64 ((rdD p0.Actions (w64 ((w64 (p1.State * p0.Symbols)) + (rdD p1.Cells p1.At 0))) z_Action).Write)), (.int .i64 ((rdD p0.Actions (w64 ((w64 (p1.State * p0.Symbols)) + (rdD p1.Cells p1.At 0))) z_Action).Move)), (.int .i64 ((rdD p0.Actions (w64 ((w64 (p1.State * p0.Symbols)) + (rdD p1.Cells p1.At 0))) z_Action).Next))] (fun fb => by kernel_rfl) (by kernel_rfl) rfl [1, 2, 3] (by decide) (by decide) (fun w5867 hS5868 => ?_)
  refine ⟨trivial, ?_⟩
  refine WL.done rfl ?_
  refine WX.next ?_
  refine WC.seq ?_
  refine WC.seq ?_
  refine WC.region ?_
  refine seg 5 [.v (.int .i64 ((rdD p0.Actions (w64 ((w64 (p1.State * p0.Symbols)) + (rdD p1.Cells p1.At 0))) z_Action).Next)), .v (.int .i64 p0.States)] [3, 4, 6, 28] [(3, (.pointer (some ⟨g5841, 0, none⟩))), (4, (.pointer (some ⟨g5845, 0, none⟩))), (6, (.pointer (some ⟨g5863, 0, none⟩))), (28, (.bool (((rdD p0.Actions (w64 ((w64 (p1.State * p0.Symbols)) + (rdD p1.Cells p1.At 0))) z_Action).Next) == p0.States)))] [.cell ⟨g5863, 2, none⟩ (.int .i64 ((rdD p0.Actions (w64 ((w64 (p1.State * p0.Symbols)) + (rdD p1.Cells p1.At 0))) z_Action).Next)), .cell ⟨g5837, 0, none⟩ (.int .i64 p0.States)] (fun fb => by kernel_rfl) rfl ⟨hS5868.cell 0 rfl 2 rfl, hS5868.cell 3 rfl 0 rfl, trivial⟩ ?_
  refine WL.done rfl ?_
  refine WX.next ?_
  rcases br_some hf with ⟨h5869, hf⟩ | ⟨h5869, hf⟩
  · refine WC.condT2 (fun fb => by kernel_rfl) h5869 ?_
    refine WC.seq ?_
    refine WC.region ?_
    refine seg 1 [] [4, 29] [(4, (.pointer (some ⟨g5845, 0, none⟩))), (29, (.agg #[(.int .i64 0), (.int .i64 0), (.slice none 0 0)]))] [] (fun fb => by kernel_rfl) rfl trivial ?_
    refine WL.store hS5868 1 rfl [(0, (.int .i64 0)), (1, (.int .i64 0)), (2, (.slice none 0 0))] #[(.int .i64 0), (.int .i64 0), (.slice none 0 0)] (fun fb => by kernel_rfl) (by kernel_rfl) rfl [0, 2, 3] (by decide) (by decide) (fun w5870 hS5871 => ?_)
    refine ⟨trivial, ?_⟩
    refine seg 3 [] [4, 5] [(4, (.pointer (some ⟨g5845, 0, none⟩))), (5, (.int .i64 5))] [] (fun fb => by kernel_rfl) rfl trivial ?_
    refine WL.done rfl ?_
    refine WX.next ?_
    refine WC.ret ?_
    have hS5872 := hS5871.nilrow 3 encInt
    injection hf with hf
    subst hf
    exact WX.thenR (WX.ret_ [.v (.int .i64 0), .v (.int .i64 0), .v (.slice none 0 0)] (.tuple #[(.agg #[(.int .i64 0), (.int .i64 0), (.slice none ([] : List Int).length 0)]), (.int .i64 5)]) [.cell ⟨g5845, 0, none⟩ (.int .i64 0), .cell ⟨g5845, 1, none⟩ (.int .i64 0), .cell ⟨g5845, 2, none⟩ (.slice none 0 0)] (fun fb => by kernel_rfl) ⟨hS5871.cell 0 rfl 0 rfl, hS5871.cell 0 rfl 1 rfl, hS5871.cell 0 rfl 2 rfl, trivial⟩ ⟨_, rfl, none, 0, rfl, (hS5872.sub [0] (by decide)).noR⟩)
  refine WC.condF2 (fun fb => by kernel_rfl) h5869 ?_
  refine WC.skip ?_
  refine WX.next ?_
  refine WC.seq ?_
  refine WC.region ?_
  refine seg 1 [.v (.int .i64 p1.State), .v (.int .i64 p1.At), .v (.slice A_p1_Cells p1.Cells.length c_p1_Cells)] [3, 4, 6, 30] [(3, (.pointer (some ⟨g5841, 0, none⟩))), (4, (.pointer (some ⟨g5845, 0, none⟩))), (6, (.pointer (some ⟨g5863, 0, none⟩))), (30, (.agg #[(.int .i64 p1.State), (.int .i64 p1.At), (.slice A_p1_Cells p1.Cells.length c_p1_Cells)]))] [.cell ⟨g5841, 0, none⟩ (.int .i64 p1.State), .cell ⟨g5841, 1, none⟩ (.int .i64 p1.At), .cell ⟨g5841, 2, none⟩ (.slice A_p1_Cells p1.Cells.length c_p1_Cells)] (fun fb => by kernel_rfl) rfl ⟨hS5868.cell 2 rfl 0 rfl, hS5868.cell 2 rfl 1 rfl, hS5868.cell 2 rfl 2 rfl, trivial⟩ ?_
  obtain ⟨t5907, ht5908, hf⟩ := bind_some hf
  refine WL.call (some 31) 51 #[(.agg #[(.int .i64 p1.State), (.int .i64 p1.At), (.slice A_p1_Cells p1.Cells.length c_p1_Cells)])] (fun fb => by kernel_rfl) (ref08_Copy_calls p1 A_p1_Cells c_p1_Cells t5907 _ (hS5868.rd 1) ht5908) (fun v w5909 hR5910 => ?_)
  obtain ⟨A5912, c5913, rfl, hk_⟩ := hR5910
  have hS5911 : St NoS w w5909 [rowR enc_Action A_p0_Actions c_p0_Actions p0.Actions, rowR encInt A_p1_Cells c_p1_Cells p1.Cells] [rowO 3 encInt A5912 c5913 t5907.Cells, blk g5863 (.cells #[(.int .i64 ((rdD p0.Actions (w64 ((w64 (p1.State * p0.Symbols)) + (rdD p1.Cells p1.At 0))) z_Action).Write)), (.int .i64 ((rdD p0.Actions (w64 ((w64 (p1.State * p0.Symbols)) + (rdD p1.Cells p1.At 0))) z_Action).Move)), (.int .i64 ((rdD p0.Actions (w64 ((w64 (p1.State * p0.Symbols)) + (rdD p1.Cells p1.At 0))) z_Action).Next))] 88 (0, 0)), blk g5845 (.cells #[(.int .i64 0), (.int .i64 0), (.slice none 0 0)] 27 (0, 0)), blk g5841 (.cells #[(.int .i64 p1.State), (.int .i64 p1.At), (.slice A_p1_Cells p1.Cells.length c_p1_Cells)] 27 (0, 0)), blk g5837 (.cells #[(.int .i64 p0.States), (.int .i64 p0.Symbols), (.slice A_p0_Actions p0.Actions.length c_p0_Actions)] 24 (0, 0))] := hS5868.call hk_ [] [0, 1, 2, 3] (fun g hg => hg.elim) (by simp) (by decide)
  refine ⟨trivial, ?_⟩
  refine WL.new hS5911 7 [] (fun g => (.pointer (some ⟨g, 0, none⟩))) (.cells #[(.int .i64 0), (.int .i64 0), (.slice none 0 0)] 27 (0, 0)) [] (fun fb g => by kernel_rfl) trivial (fun g5914 w5915 hS5916 => ?_)
  refine ⟨trivial, ?_⟩
  refine WL.store hS5916 0 rfl [(0, (.int .i64 t5907.State)), (1, (.int .i64 t5907.At)), (2, (.slice A5912 t5907.Cells.length c5913))] #[(.int .i64 t5907.State), (.int .i64 t5907.At), (.slice A5912 t5907.Cells.length c5913)] (fun fb => by kernel_rfl) (by kernel_rfl) rfl [1, 2, 3, 4, 5] (by decide) (by decide) (fun w5918 hS5919 => ?_)
  refine ⟨trivial, ?_⟩
  refine WL.done rfl ?_
  refine WX.next ?_
  refine WC.seq ?_
  refine WC.region ?_
  refine seg 6 [.v (.slice A5912 t5907.Cells.length c5913), .v (.int .i64 p1.At), .v (.int .i64 ((rdD p0.Actions (w64 ((w64 (p1.State * p0.Symbols)) + (rdD p1.Cells p1.At 0))) z_Action).Write))] [4, 6, 7, 33, 35, 37] [(4, (.pointer (some ⟨g5845, 0, none⟩))), (6, (.pointer (some ⟨g5863, 0, none⟩))), (7, (.pointer (some ⟨g5914, 0, none⟩))), (33, (.slice A5912 t5907.Cells.length c5913)), (35, (.int .i64 p1.At)), (37, (.int .i64 ((rdD p0.Actions (w64 ((w64 (p1.State * p0.Symbols)) + (rdD p1.Cells p1.At 0))) z_Action).Write)))] [.cell ⟨g5914, 2, none⟩ (.slice A5912 t5907.Cells.length c5913), .cell ⟨g5841, 1, none⟩ (.int .i64 p1.At), .cell ⟨g5863, 0, none⟩ (.int .i64 ((rdD p0.Actions (w64 ((w64 (p1.State * p0.Symbols)) + (rdD p1.Cells p1.At 0))) z_Action).Write))] (fun fb => by kernel_rfl) rfl ⟨hS5919.cell 0 rfl 2 rfl, hS5919.cell 4 rfl 1 rfl, hS5919.cell 2 rfl 0 rfl, trivial⟩ ?_
  obtain ⟨h5920, hf⟩ := as_some hf
  refine seg 7 [] [4, 6, 7, 37, 38] [(4, (.pointer (some ⟨g5845, 0, none⟩))), (6, (.pointer (some ⟨g5863, 0, none⟩))), (7, (.pointer (some ⟨g5914, 0, none⟩))), (37, (.int .i64 ((rdD p0.Actions (w64 ((w64 (p1.State * p0.Symbols)) + (rdD p1.Cells p1.At 0))) z_Action).Write))), (38, (.pointer (some ((adr A5912).add ((p1.At).toNat * 1)))))] [.idx A5912 p1.At t5907.Cells.length] (fun fb => by kernel_rfl) rfl ⟨rowR.adr (rowO.rd (hS5919.own 1).1) h5920.1 h5920.2, trivial⟩ ?_
  refine WL.storeRow hS5919 1 rfl (p1.At) ((rdD p0.Actions (w64 ((w64 (p1.State * p0.Symbols)) + (rdD p1.Cells p1.At 0))) z_Action).Write) (0) [(0, (.int .i64 ((rdD p0.Actions (w64 ((w64 (p1.State * p0.Symbols)) + (rdD p1.Cells p1.At 0))) z_Action).Write)))] (fun fb => by kernel_rfl) h5920.1 h5920.2 (by kernel_rfl) rfl [0, 2, 3, 4, 5] (by decide) (by decide) (fun w5921 hS5922 => ?_)
  refine ⟨trivial, ?_⟩
  have hS5923 : St NoS w w5921 [rowR enc_Action A_p0_Actions c_p0_Actions p0.Actions, rowR encInt A_p1_Cells c_p1_Cells p1.Cells] [rowO 3 encInt A5912 c5913 (t5907.Cells.set (p1.At).toNat ((rdD p0.Actions (w64 ((w64 (p1.State * p0.Symbols)) + (rdD p1.Cells p1.At 0))) z_Action).Write)), blk g5914 (.cells #[(.int .i64 t5907.State), (.int .i64 t5907.At), (.slice A5912 (t5907.Cells.set (p1.At).toNat ((rdD p0.Actions (w64 ((w64 (p1.State * p0.Symbols)) + (rdD p1.Cells p1.At 0))) z_Action).Write)).length c5913)] 27 (0, 0)), blk g5863 (.cells #[(.int .i64 ((rdD p0.Actions (w64 ((w64 (p1.State * p0.Symbols)) + (rdD p1.Cells p1.At 0))) z_Action).Write)), (.int .i64 ((rdD p0.Actions (w64 ((w64 (p1.State * p0.Symbols)) + (rdD p1.Cells p1.At 0))) z_Action).Move)), (.int .i64 ((rdD p0.Actions (w64 ((w64 (p1.State * p0.Symbols)) + (rdD p1.Cells p1.At 0))) z_Action).Next))] 88 (0, 0)), blk g5845 (.cells #[(.int .i64 0), (.int .i64 0), (.slice none 0 0)] 27 (0, 0)), blk g5841 (.cells #[(.int .i64 p1.State), (.int .i64 p1.At), (.slice A_p1_Cells p1.Cells.length c_p1_Cells)] 27 (0, 0)), blk g5837 (.cells #[(.int .i64 p0.States), (.int .i64 p0.Symbols), (.slice A_p0_Actions p0.Actions.length c_p0_Actions)] 24 (0, 0))] := by simpa only [List.length_set] using (show St NoS w w5921 [rowR enc_Action A_p0_Actions c_p0_Actions p0.Actions, rowR encInt A_p1_Cells c_p1_Cells p1.Cells] [rowO 3 encInt A5912 c5913 (t5907.Cells.set (p1.At).toNat ((rdD p0.Actions (w64 ((w64 (p1.State * p0.Symbols)) + (rdD p1.Cells p1.At 0))) z_Action).Write)), blk g5914 (.cells #[(.int .i64 t5907.State), (.int .i64 t5907.At), (.slice A5912 t5907.Cells.length c5913)] 27 (0, 0)), blk g5863 (.cells #[(.int .i64 ((rdD p0.Actions (w64 ((w64 (p1.State * p0.Symbols)) + (rdD p1.Cells p1.At 0))) z_Action).Write)), (.int .i64 ((rdD p0.Actions (w64 ((w64 (p1.State * p0.Symbols)) + (rdD p1.Cells p1.At 0))) z_Action).Move)), (.int .i64 ((rdD p0.Actions (w64 ((w64 (p1.State * p0.Symbols)) + (rdD p1.Cells p1.At 0))) z_Action).Next))] 88 (0, 0)), blk g5845 (.cells #[(.int .i64 0), (.int .i64 0), (.slice none 0 0)] 27 (0, 0)), blk g5841 (.cells #[(.int .i64 p1.State), (.int .i64 p1.At), (.slice A_p1_Cells p1.Cells.length c_p1_Cells)] 27 (0, 0)), blk g5837 (.cells #[(.int .i64 p0.States), (.int .i64 p0.Symbols), (.slice A_p0_Actions p0.Actions.length c_p0_Actions)] 24 (0, 0))] from hS5922)
  refine WL.done rfl ?_
  refine WX.next ?_
  refine WC.seq ?_
  refine WC.region ?_
  refine seg 3 [.v (.int .i64 ((rdD p0.Actions (w64 ((w64 (p1.State * p0.Symbols)) + (rdD p1.Cells p1.At 0))) z_Action).Next))] [4, 6, 7, 40, 41] [(4, (.pointer (some ⟨g5845, 0, none⟩))), (6, (.pointer (some ⟨g5863, 0, none⟩))), (7, (.pointer (some ⟨g5914, 0, none⟩))), (40, (.int .i64 ((rdD p0.Actions (w64 ((w64 (p1.State * p0.Symbols)) + (rdD p1.Cells p1.At 0))) z_Action).Next))), (41, (.pointer (some ⟨g5914, 0, none⟩)))] [.cell ⟨g5863, 2, none⟩ (.int .i64 ((rdD p0.Actions (w64 ((w64 (p1.State * p0.Symbols)) + (rdD p1.Cells p1.At 0))) z_Action).Next))] (fun fb => by kernel_rfl) rfl ⟨hS5923.cell 2 rfl 2 rfl, trivial⟩ ?_
  refine WL.store hS5923 1 rfl [(0, (.int .i64 ((rdD p0.Actions (w64 ((w64 (p1.State * p0.Symbols)) + (rdD p1.Cells p1.At 0))) z_Action).Next)))] #[(.int .i64 ((rdD p0.Actions (w64 ((w64 (p1.State * p0.Symbols)) + (rdD p1.Cells p1.At 0))) z_Action).Next)), (.int .i64 t5907.At), (.slice A5912 (t5907.Cells.set (p1.At).toNat ((rdD p0.Actions (w64 ((w64 (p1.State * p0.Symbols)) + (rdD p1.Cells p1.At 0))) z_Action).Write)).length c5913)] (fun fb => by kernel_rfl) (by kernel_rfl) rfl [0, 2, 3, 4, 5] (by decide) (by decide) (fun w5924 hS5925 => ?_)
  refine ⟨trivial, ?_⟩
  refine WL.done rfl ?_
  refine WX.next ?_
  refine WC.seq ?_
  refine WC.seq ?_
  refine WC.region ?_
  refine seg 3 [.v (.int .i64 ((rdD p0.Actions (w64 ((w64 (p1.State * p0.Symbols)) + (rdD p1.Cells p1.At 0))) z_Action).Move))] [4, 7, 44] [(4, (.pointer (some ⟨g5845, 0, none⟩))), (7, (.pointer (some ⟨g5914, 0, none⟩))), (44, (.bool (((rdD p0.Actions (w64 ((w64 (p1.State * p0.Symbols)) + (rdD p1.Cells p1.At 0))) z_Action).Move) == 1)))] [.cell ⟨g5863, 1, none⟩ (.int .i64 ((rdD p0.Actions (w64 ((w64 (p1.State * p0.Symbols)) + (rdD p1.Cells p1.At 0))) z_Action).Move))] (fun fb => by kernel_rfl) rfl ⟨hS5925.cell 2 rfl 1 rfl, trivial⟩ ?_
  refine WL.done rfl ?_
  refine WX.next ?_
  obtain ⟨x5932, hx5933, hf⟩ := bind_some hf
  refine WC.cutN (T := Int) (fun t => [(4, (.pointer (some ⟨g5845, 0, none⟩))), (7, (.pointer (some ⟨g5914, 0, none⟩)))]) (fun t w1 => St NoS w w1 [rowR enc_Action A_p0_Actions c_p0_Actions p0.Actions, rowR encInt A_p1_Cells c_p1_Cells p1.Cells] [blk g5845 (.cells #[(.int .i64 0), (.int .i64 0), (.slice none 0 0)] 27 (0, 0)), blk g5914 (.cells #[(.int .i64 ((rdD p0.Actions (w64 ((w64 (p1.State * p0.Symbols)) + (rdD p1.Cells p1.At 0))) z_Action).Next)), (.int .i64 t), (.slice A5912 (t5907.Cells.set (p1.At).toNat ((rdD p0.Actions (w64 ((w64 (p1.State * p0.Symbols)) + (rdD p1.Cells p1.At 0))) z_Action).Write)).length c5913)] 27 (0, 0)), rowO 3 encInt A5912 c5913 (t5907.Cells.set (p1.At).toNat ((rdD p0.Actions (w64 ((w64 (p1.State * p0.Symbols)) + (rdD p1.Cells p1.At 0))) z_Action).Write))] ∧ x5932 = t) (fun Kx5932 => ?_) ?_
  ·
    rcases br_some hx5933 with ⟨h5934, hx5933⟩ | ⟨h5934, hx5933⟩
    · refine WC.condT2 (fun fb => by kernel_rfl) h5934 ?_
      refine WC.region ?_
      refine seg 4 [.v (.int .i64 t5907.At)] [4, 7, 47, 48] [(4, (.pointer (some ⟨g5845, 0, none⟩))), (7, (.pointer (some ⟨g5914, 0, none⟩))), (47, (.int .i64 (w64 (t5907.At + 1)))), (48, (.pointer (some ⟨g5914, 1, none⟩)))] [.cell ⟨g5914, 1, none⟩ (.int .i64 t5907.At)] (fun fb => by kernel_rfl) rfl ⟨hS5925.cell 0 rfl 1 rfl, trivial⟩ ?_
      refine WL.store hS5925 0 rfl [(1, (.int .i64 (w64 (t5907.At + 1))))] #[(.int .i64 ((rdD p0.Actions (w64 ((w64 (p1.State * p0.Symbols)) + (rdD p1.Cells p1.At 0))) z_Action).Next)), (.int .i64 (w64 (t5907.At + 1))), (.slice A5912 (t5907.Cells.set (p1.At).toNat ((rdD p0.Actions (w64 ((w64 (p1.State * p0.Symbols)) + (rdD p1.Cells p1.At 0))) z_Action).Write)).length c5913)] (fun fb => by kernel_rfl) (by kernel_rfl) rfl [1, 2, 3, 4, 5] (by decide) (by decide) (fun w5935 hS5936 => ?_)
      refine ⟨trivial, ?_⟩
      refine WL.done rfl ?_
      injection hx5933 with hx5933
      exact WX.to Kx5932 (w64 (t5907.At + 1)) [4, 7] rfl ⟨(hS5936.subR [0, 1]).sub [3, 0, 1] (by decide), hx5933.symm⟩
    refine WC.condF2 (fun fb => by kernel_rfl) h5934 ?_
    refine WC.region ?_
    refine seg 4 [.v (.int .i64 t5907.At)] [4, 7, 51, 52] [(4, (.pointer (some ⟨g5845, 0, none⟩))), (7, (.pointer (some ⟨g5914, 0, none⟩))), (51, (.int .i64 (w64 (t5907.At - 1)))), (52, (.pointer (some ⟨g5914, 1, none⟩)))] [.cell ⟨g5914, 1, none⟩ (.int .i64 t5907.At)] (fun fb => by kernel_rfl) rfl ⟨hS5925.cell 0 rfl 1 rfl, trivial⟩ ?_
    refine WL.store hS5925 0 rfl [(1, (.int .i64 (w64 (t5907.At - 1))))] #[(.int .i64 ((rdD p0.Actions (w64 ((w64 (p1.State * p0.Symbols)) + (rdD p1.Cells p1.At 0))) z_Action).Next)), (.int .i64 (w64 (t5907.At - 1))), (.slice A5912 (t5907.Cells.set (p1.At).toNat ((rdD p0.Actions (w64 ((w64 (p1.State * p0.Symbols)) + (rdD p1.Cells p1.At 0))) z_Action).Write)).length c5913)] (fun fb => by kernel_rfl) (by kernel_rfl) rfl [1, 2, 3, 4, 5] (by decide) (by decide) (fun w5937 hS5938 => ?_)
    refine ⟨trivial, ?_⟩
    refine WL.done rfl ?_
    injection hx5933 with hx5933
    exact WX.to Kx5932 (w64 (t5907.At - 1)) [4, 7] rfl ⟨(hS5938.subR [0, 1]).sub [3, 0, 1] (by decide), hx5933.symm⟩
  rintro y5942 w5939 ⟨hS5940, hq5941⟩
  subst hq5941
  refine WX.next ?_
  refine WC.seq ?_
  refine WC.seq ?_
  refine WC.region ?_
  refine seg 4 [.v (.int .i64 x5932)] [4, 7, 56] [(4, (.pointer (some ⟨g5845, 0, none⟩))), (7, (.pointer (some ⟨g5914, 0, none⟩))), (56, (.bool (decide (x5932 < 0))))] [.cell ⟨g5914, 1, none⟩ (.int .i64 x5932)] (fun fb => by kernel_rfl) rfl ⟨hS5940.cell 1 rfl 1 rfl, trivial⟩ ?_
  refine WL.cutV (T := Bool) 11 (fun t => [(63, (.bool t)), (4, (.pointer (some ⟨g5845, 0, none⟩))), (7, (.pointer (some ⟨g5914, 0, none⟩)))]) (fun t => t = ((decide (x5932 < 0)) || (decide (x5932 ≥ ((t5907.Cells.set (p1.At).toNat ((rdD p0.Actions (w64 ((w64 (p1.State * p0.Symbols)) + (rdD p1.Cells p1.At 0))) z_Action).Write)).length : Int))))) (fun K => ?_) ?_
  ·
    rcases Bool.eq_false_or_eq_true (decide (x5932 < 0)) with h5943 | h5943
    ·
      refine WL.setB 56 h5943 rfl ?_
      refine seg 11 [] [4, 7, 63] [(4, (.pointer (some ⟨g5845, 0, none⟩))), (7, (.pointer (some ⟨g5914, 0, none⟩))), (63, (.bool true))] [] (fun fb => by kernel_rfl) rfl trivial ?_
      exact WL.toV K true [63, 4, 7] rfl (by rw [h5943]; rfl)
    refine WL.setB 56 h5943 rfl ?_
    refine seg 11 [.v (.int .i64 x5932), .v (.slice A5912 (t5907.Cells.set (p1.At).toNat ((rdD p0.Actions (w64 ((w64 (p1.State * p0.Symbols)) + (rdD p1.Cells p1.At 0))) z_Action).Write)).length c5913)] [4, 7, 63] [(4, (.pointer (some ⟨g5845, 0, none⟩))), (7, (.pointer (some ⟨g5914, 0, none⟩))), (63, (.bool (decide (x5932 ≥ ((t5907.Cells.set (p1.At).toNat ((rdD p0.Actions (w64 ((w64 (p1.State * p0.Symbols)) + (rdD p1.Cells p1.At 0))) z_Action).Write)).length : Int)))))] [.cell ⟨g5914, 1, none⟩ (.int .i64 x5932), .cell ⟨g5914, 2, none⟩ (.slice A5912 (t5907.Cells.set (p1.At).toNat ((rdD p0.Actions (w64 ((w64 (p1.State * p0.Symbols)) + (rdD p1.Cells p1.At 0))) z_Action).Write)).length c5913)] (fun fb => by kernel_rfl) rfl ⟨hS5940.cell 1 rfl 1 rfl, hS5940.cell 1 rfl 2 rfl, trivial⟩ ?_
    exact WL.toV K (decide (x5932 ≥ ((t5907.Cells.set (p1.At).toNat ((rdD p0.Actions (w64 ((w64 (p1.State * p0.Symbols)) + (rdD p1.Cells p1.At 0))) z_Action).Write)).length : Int))) [63, 4, 7] rfl (by rw [h5943]; rfl)
  rintro b5944 rfl
  refine WL.done rfl ?_
  refine WX.next ?_
  rcases br_some hf with ⟨h5945, hf⟩ | ⟨h5945, hf⟩
  · refine WC.condT2 (fun fb => by kernel_rfl) h5945 ?_
    refine WC.seq ?_
    refine WC.region ?_
    refine seg 1 [] [4, 64] [(4, (.pointer (some ⟨g5845, 0, none⟩))), (64, (.agg #[(.int .i64 0), (.int .i64 0), (.slice none 0 0)]))] [] (fun fb => by kernel_rfl) rfl trivial ?_
    refine WL.store hS5940 0 rfl [(0, (.int .i64 0)), (1, (.int .i64 0)), (2, (.slice none 0 0))] #[(.int .i64 0), (.int .i64 0), (.slice none 0 0)] (fun fb => by kernel_rfl) (by kernel_rfl) rfl [1, 2] (by decide) (by decide) (fun w5946 hS5947 => ?_)
    refine ⟨trivial, ?_⟩
    refine seg 3 [] [4, 5] [(4, (.pointer (some ⟨g5845, 0, none⟩))), (5, (.int .i64 6))] [] (fun fb => by kernel_rfl) rfl trivial ?_
    refine WL.done rfl ?_
    refine WX.next ?_
    refine WC.ret ?_
    have hS5948 := hS5947.nilrow 3 encInt
    injection hf with hf
    subst hf
    exact WX.thenR (WX.ret_ [.v (.int .i64 0), .v (.int .i64 0), .v (.slice none 0 0)] (.tuple #[(.agg #[(.int .i64 0), (.int .i64 0), (.slice none ([] : List Int).length 0)]), (.int .i64 6)]) [.cell ⟨g5845, 0, none⟩ (.int .i64 0), .cell ⟨g5845, 1, none⟩ (.int .i64 0), .cell ⟨g5845, 2, none⟩ (.slice none 0 0)] (fun fb => by kernel_rfl) ⟨hS5947.cell 0 rfl 0 rfl, hS5947.cell 0 rfl 1 rfl, hS5947.cell 0 rfl 2 rfl, trivial⟩ ⟨_, rfl, none, 0, rfl, (hS5948.sub [0] (by decide)).noR⟩)
  refine WC.condF2 (fun fb => by kernel_rfl) h5945 ?_
  refine WC.skip ?_
  refine WX.next ?_
  refine WC.seq ?_
  refine WC.region ?_
  refine seg 1 [.v (.int .i64 ((rdD p0.Actions (w64 ((w64 (p1.State * p0.Symbols)) + (rdD p1.Cells p1.At 0))) z_Action).Next)), .v (.int .i64 x5932), .v (.slice A5912 (t5907.Cells.set (p1.At).toNat ((rdD p0.Actions (w64 ((w64 (p1.State * p0.Symbols)) + (rdD p1.Cells p1.At 0))) z_Action).Write)).length c5913)] [4, 65] [(4, (.pointer (some ⟨g5845, 0, none⟩))), (65, (.agg #[(.int .i64 ((rdD p0.Actions (w64 ((w64 (p1.State * p0.Symbols)) + (rdD p1.Cells p1.At 0))) z_Action).Next)), (.int .i64 x5932), (.slice A5912 (t5907.Cells.set (p1.At).toNat ((rdD p0.Actions (w64 ((w64 (p1.State * p0.Symbols)) + (rdD p1.Cells p1.At 0))) z_Action).Write)).length c5913)]))] [.cell ⟨g5914, 0, none⟩ (.int .i64 ((rdD p0.Actions (w64 ((w64 (p1.State * p0.Symbols)) + (rdD p1.Cells p1.At 0))) z_Action).Next)), .cell ⟨g5914, 1, none⟩ (.int .i64 x5932), .cell ⟨g5914, 2, none⟩ (.slice A5912 (t5907.Cells.set (p1.At).toNat ((rdD p0.Actions (w64 ((w64 (p1.State * p0.Symbols)) + (rdD p1.Cells p1.At 0))) z_Action).Write)).length c5913)] (fun fb => by kernel_rfl) rfl ⟨hS5940.cell 1 rfl 0 rfl, hS5940.cell 1 rfl 1 rfl, hS5940.cell 1 rfl 2 rfl, trivial⟩ ?_
  refine WL.store hS5940 0 rfl [(0, (.int .i64 ((rdD p0.Actions (w64 ((w64 (p1.State * p0.Symbols)) + (rdD p1.Cells p1.At 0))) z_Action).Next))), (1, (.int .i64 x5932)), (2, (.slice A5912 (t5907.Cells.set (p1.At).toNat ((rdD p0.Actions (w64 ((w64 (p1.State * p0.Symbols)) + (rdD p1.Cells p1.At 0))) z_Action).Write)).length c5913))] #[(.int .i64 ((rdD p0.Actions (w64 ((w64 (p1.State * p0.Symbols)) + (rdD p1.Cells p1.At 0))) z_Action).Next)), (.int .i64 x5932), (.slice A5912 (t5907.Cells.set (p1.At).toNat ((rdD p0.Actions (w64 ((w64 (p1.State * p0.Symbols)) + (rdD p1.Cells p1.At 0))) z_Action).Write)).length c5913)] (fun fb => by kernel_rfl) (by kernel_rfl) rfl [1, 2] (by decide) (by decide) (fun w5949 hS5950 => ?_)
  refine ⟨trivial, ?_⟩
  refine seg 3 [] [4, 5] [(4, (.pointer (some ⟨g5845, 0, none⟩))), (5, (.int .i64 0))] [] (fun fb => by kernel_rfl) rfl trivial ?_
  refine WL.done rfl ?_
  refine WX.next ?_
  refine WC.ret ?_
  injection hf with hf
  subst hf
  exact WX.ret_ [.v (.int .i64 ((rdD p0.Actions (w64 ((w64 (p1.State * p0.Symbols)) + (rdD p1.Cells p1.At 0))) z_Action).Next)), .v (.int .i64 x5932), .v (.slice A5912 (t5907.Cells.set (p1.At).toNat ((rdD p0.Actions (w64 ((w64 (p1.State * p0.Symbols)) + (rdD p1.Cells p1.At 0))) z_Action).Write)).length c5913)] (.tuple #[(.agg #[(.int .i64 ((rdD p0.Actions (w64 ((w64 (p1.State * p0.Symbols)) + (rdD p1.Cells p1.At 0))) z_Action).Next)), (.int .i64 x5932), (.slice A5912 (t5907.Cells.set (p1.At).toNat ((rdD p0.Actions (w64 ((w64 (p1.State * p0.Symbols)) + (rdD p1.Cells p1.At 0))) z_Action).Write)).length c5913)]), (.int .i64 0)]) [.cell ⟨g5845, 0, none⟩ (.int .i64 ((rdD p0.Actions (w64 ((w64 (p1.State * p0.Symbols)) + (rdD p1.Cells p1.At 0))) z_Action).Next)), .cell ⟨g5845, 1, none⟩ (.int .i64 x5932), .cell ⟨g5845, 2, none⟩ (.slice A5912 (t5907.Cells.set (p1.At).toNat ((rdD p0.Actions (w64 ((w64 (p1.State * p0.Symbols)) + (rdD p1.Cells p1.At 0))) z_Action).Write)).length c5913)] (fun fb => by kernel_rfl) ⟨hS5950.cell 0 rfl 0 rfl, hS5950.cell 0 rfl 1 rfl, hS5950.cell 0 rfl 2 rfl, trivial⟩ ⟨_, rfl, A5912, c5913, rfl, (hS5950.sub [2] (by decide)).noR⟩
end Gp
