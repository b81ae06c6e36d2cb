/- Walks: each function of the program computes its plain function. -/
import Derived.Test.YtamnfcbekogkdaaGx0
set_option linter.unusedVariables false
set_option linter.unusedSimpArgs false
namespace Gp
open Go Gw Go.Proofs
theorem machine_kit_row_calls (k : Nat) (p0 : Kit) (p1 : Runner) (g_p0 : Nat) (A_p0_m_Actions : Option Addr) (c_p0_m_Actions : Nat) (A_p0_set : Option Addr) (c_p0_set : Nat) (A_p0_does : Option Addr) (c_p0_does : Nat) (g_p1 : Nat) (A_p1_m_Actions : Option Addr) (c_p1_m_Actions : Nat) (A_p1_Config_Cells : Option Addr) (c_p1_Config_Cells : Nat) (r : (List Int)) (w : World) (hR0 : RO NoS w (blk g_p0 (.cells #[(.int .i64 p0.m.States), (.int .i64 p0.m.Symbols), (.slice A_p0_m_Actions p0.m.Actions.length c_p0_m_Actions), (.slice A_p0_set p0.set.length c_p0_set), (.slice A_p0_does p0.does.length c_p0_does), (.int .i64 p0.base)] 96 (0, 0)))) (hR1 : RO NoS w (rowR enc_Action A_p0_m_Actions c_p0_m_Actions p0.m.Actions)) (hR2 : RO NoS w (rowR enc_Tile A_p0_set c_p0_set p0.set)) (hR3 : RO NoS w (rowR encInt A_p0_does c_p0_does p0.does)) (hR4 : RO NoS w (blk g_p1 (.cells #[(.int .i64 p1.m.States), (.int .i64 p1.m.Symbols), (.slice A_p1_m_Actions p1.m.Actions.length c_p1_m_Actions), (.int .i64 p1.Config.State), (.int .i64 p1.Config.At), (.slice A_p1_Config_Cells p1.Config.Cells.length c_p1_Config_Cells)] 82 (0, 0)))) (hR5 : RO NoS w (rowR enc_Action A_p1_m_Actions c_p1_m_Actions p1.m.Actions)) (hR6 : RO NoS w (rowR encInt A_p1_Config_Cells c_p1_Config_Cells p1.Config.Cells)) (hf : machine_kit_row k p0 p1 = some r) :
    CallsR Try.prog 44 #[(.pointer (some ⟨g_p0, 0, none⟩)), (.pointer (some ⟨g_p1, 0, none⟩))] w (fun v w' => ∃ (A1_ : Option Addr), ∃ (c1_ : Nat), v = (.slice A1_ r.length c1_) ∧ St NoS w w' [] [rowO 3 encInt A1_ c1_ r]) := by
  have hS : St NoS w w [blk g_p0 (.cells #[(.int .i64 p0.m.States), (.int .i64 p0.m.Symbols), (.slice A_p0_m_Actions p0.m.Actions.length c_p0_m_Actions), (.slice A_p0_set p0.set.length c_p0_set), (.slice A_p0_does p0.does.length c_p0_does), (.int .i64 p0.base)] 96 (0, 0)), rowR enc_Action A_p0_m_Actions c_p0_m_Actions p0.m.Actions, rowR enc_Tile A_p0_set c_p0_set p0.set, rowR encInt A_p0_does c_p0_does p0.does, blk g_p1 (.cells #[(.int .i64 p1.m.States), (.int .i64 p1.m.Symbols), (.slice A_p1_m_Actions p1.m.Actions.length c_p1_m_Actions), (.int .i64 p1.Config.State), (.int .i64 p1.Config.At), (.slice A_p1_Config_Cells p1.Config.Cells.length c_p1_Config_Cells)] 82 (0, 0)), rowR enc_Action A_p1_m_Actions c_p1_m_Actions p1.m.Actions, rowR encInt A_p1_Config_Cells c_p1_Config_Cells p1.Config.Cells] [] := St.init (ro_cons hR0 (ro_cons hR1 (ro_cons hR2 (ro_cons hR3 (ro_cons hR4 (ro_cons hR5 (ro_cons hR6 (ro_nil _ _))))))))
  refine enter 87 Try.func44 rfl Try.ntmps44 rfl ?_
  unfold machine_kit_row at hf
  refine WC.seq ?_
  refine WC.region ?_
  refine seg 1 [] [0, 1] [(0, (.pointer (some ⟨g_p0, 0, none⟩))), (1, (.pointer (some ⟨g_p1, 0, none⟩)))] [] (fun fb => by kernel_rfl) rfl trivial ?_
  refine WL.done rfl ?_
  refine WX.next ?_
  refine WC.seq ?_
  refine WC.region ?_
  refine seg 1 [] [0, 1, 5] [(0, (.pointer (some ⟨g_p0, 0, none⟩))), (1, (.pointer (some ⟨g_p1, 0, none⟩))), (5, (.slice none 0 0))] [] (fun fb => by kernel_rfl) rfl trivial ?_
  refine WL.done rfl ?_
  refine WX.next ?_
  refine WC.seq ?_
  obtain ⟨x2217, hx2218, hf⟩ := bind_some hf
  refine WC.cutN (T := (Int × Int × Int) × Nat) (fun t => [(0, (.pointer (some ⟨g_p0, 0, none⟩))), (1, (.pointer (some ⟨g_p1, 0, none⟩))), (5, (.slice none 0 0)), (6, (.pointer (some ⟨t.2, 0, none⟩)))]) (fun t w1 => St NoS w w1 [blk g_p0 (.cells #[(.int .i64 p0.m.States), (.int .i64 p0.m.Symbols), (.slice A_p0_m_Actions p0.m.Actions.length c_p0_m_Actions), (.slice A_p0_set p0.set.length c_p0_set), (.slice A_p0_does p0.does.length c_p0_does), (.int .i64 p0.base)] 96 (0, 0)), rowR enc_Action A_p0_m_Actions c_p0_m_Actions p0.m.Actions, rowR enc_Tile A_p0_set c_p0_set p0.set, rowR encInt A_p0_does c_p0_does p0.does, blk g_p1 (.cells #[(.int .i64 p1.m.States), (.int .i64 p1.m.Symbols), (.slice A_p1_m_Actions p1.m.Actions.length c_p1_m_Actions), (.int .i64 p1.Config.State), (.int .i64 p1.Config.At), (.slice A_p1_Config_Cells p1.Config.Cells.length c_p1_Config_Cells)] 82 (0, 0)), rowR enc_Action A_p1_m_Actions c_p1_m_Actions p1.m.Actions, rowR encInt A_p1_Config_Cells c_p1_Config_Cells p1.Config.Cells] [blk t.2 (.cells #[(.int .i64 t.1.1), (.int .i64 t.1.2.1), (.int .i64 t.1.2.2)] 88 (0, 0))] ∧ x2217 = t.1) (fun Kx2217 => ?_) ?_
  ·
    refine WC.regionD ([(4, ⟨g_p1, 2, none⟩, (.slice A_p1_m_Actions p1.m.Actions.length c_p1_m_Actions))], [0, 1, 2, 3, 4, 5, 7], [[], [0], [0, 1], [0, 1, 2], [0, 1, 2, 3], [], [5], [0, 1, 2, 3, 4, 5, 6], [0, 1, 2, 3, 4, 5, 6, 7], [], [0, 1, 2, 3, 4, 5, 6, 7, 8, 9]]) [[0, 1, 2, 3, 4, 5, 6, 7, 8, 9, 10], [0, 1, 2, 3, 4, 5, 6, 7, 9, 8, 10], [0, 1, 2, 3, 4, 5, 9, 6, 7, 8, 10]] (by kernel_rfl) (by kernel_rfl) (NoPanic.seq (NoPanic.body)) ?_
    have hS2220 := hS.drew
    revert hS2220
    generalize World.drew w = w2219
    intro hS2220
    refine ⟨⟨blk_cell (hS2220.rd 4).1 2 rfl, trivial⟩, forallC ?_ (forallC ?_ (forallC ?_ (forallN)))⟩
    ·
      refine segF 6 [.v (.slice A_p1_m_Actions p1.m.Actions.length c_p1_m_Actions)] [0, 1, 5, 15, 16] [(0, (.pointer (some ⟨g_p0, 0, none⟩))), (1, (.pointer (some ⟨g_p1, 0, none⟩))), (5, (.slice none 0 0)), (15, (.slice A_p1_m_Actions p1.m.Actions.length c_p1_m_Actions)), (16, (.pointer (some ⟨g_p1, 0, none⟩)))] [] [0] [(4, ⟨g_p1, 2, none⟩, (.slice A_p1_m_Actions p1.m.Actions.length c_p1_m_Actions))] (fun fb => by kernel_rfl) rfl trivial rfl ?_
      obtain ⟨t2221, ht2222, hx2218⟩ := bind_some hx2218
      refine WL.call (some 17) 63 #[(.pointer (some ⟨g_p1, 0, none⟩))] (fun fb => by kernel_rfl) (machine_runner_does_calls p1 g_p1 A_p1_m_Actions c_p1_m_Actions A_p1_Config_Cells c_p1_Config_Cells t2221 _ (hS2220.rd 4) (hS2220.rd 5) (hS2220.rd 6) ht2222) (fun v w2223 hR2224 => ?_)
      obtain ⟨rfl, hk_⟩ := hR2224
      have hS2225 := hS2220.keepN hk_
      refine ⟨⟨blk_cell (hS2225.rd 4).1 2 rfl, trivial⟩, ?_⟩
      obtain ⟨h2226, hx2218⟩ := as_some hx2218
      refine seg 9 [.v (.int .i64 ((rdD p1.m.Actions t2221 z_Action).Write)), .v (.int .i64 ((rdD p1.m.Actions t2221 z_Action).Move)), .v (.int .i64 ((rdD p1.m.Actions t2221 z_Action).Next))] [0, 1, 5, 19] [(0, (.pointer (some ⟨g_p0, 0, none⟩))), (1, (.pointer (some ⟨g_p1, 0, none⟩))), (5, (.slice none 0 0)), (19, (.agg #[(.int .i64 ((rdD p1.m.Actions t2221 z_Action).Write)), (.int .i64 ((rdD p1.m.Actions t2221 z_Action).Move)), (.int .i64 ((rdD p1.m.Actions t2221 z_Action).Next))]))] [.idx A_p1_m_Actions t2221 p1.m.Actions.length, .cell ((adr A_p1_m_Actions).add ((t2221).toNat * 3)) (.int .i64 ((rdD p1.m.Actions t2221 z_Action).Write)), .cell (((adr A_p1_m_Actions).add ((t2221).toNat * 3)).add 1) (.int .i64 ((rdD p1.m.Actions t2221 z_Action).Move)), .cell (((adr A_p1_m_Actions).add ((t2221).toNat * 3)).add 2) (.int .i64 ((rdD p1.m.Actions t2221 z_Action).Next))] (fun fb => by kernel_rfl) rfl ⟨rowR.adr (hS2225.rd 5).1 h2226.1 h2226.2, rowR.cell (hS2225.rd 5).1 z_Action h2226.1 h2226.2 0 rfl, rowR.cell (hS2225.rd 5).1 z_Action h2226.1 h2226.2 1 rfl, rowR.cell (hS2225.rd 5).1 z_Action h2226.1 h2226.2 2 rfl, trivial⟩ ?_
      refine WL.new hS2225 6 [] (fun g => (.pointer (some ⟨g, 0, none⟩))) (.cells #[(.int .i64 0), (.int .i64 0), (.int .i64 0)] 88 (0, 0)) [] (fun fb g => by kernel_rfl) trivial (fun g2227 w2228 hS2229 => ?_)
      refine ⟨⟨blk_cell (hS2229.rd 4).1 2 rfl, trivial⟩, ?_⟩
      refine WL.store hS2229 0 rfl [(0, (.int .i64 ((rdD p1.m.Actions t2221 z_Action).Write))), (1, (.int .i64 ((rdD p1.m.Actions t2221 z_Action).Move))), (2, (.int .i64 ((rdD p1.m.Actions t2221 z_Action).Next)))] #[(.int .i64 ((rdD p1.m.Actions t2221 z_Action).Write)), (.int .i64 ((rdD p1.m.Actions t2221 z_Action).Move)), (.int .i64 ((rdD p1.m.Actions t2221 z_Action).Next))] (fun fb => by kernel_rfl) (by kernel_rfl) rfl [] (by decide) (by decide) (fun w2231 hS2232 => ?_)
      refine ⟨trivial, ?_⟩
      refine WL.done rfl ?_
      injection hx2218 with hx2218
      exact WX.to Kx2217 (((rdD p1.m.Actions t2221 z_Action).Write, (rdD p1.m.Actions t2221 z_Action).Move, (rdD p1.m.Actions t2221 z_Action).Next), g2227) [0, 1, 5, 6] rfl ⟨(hS2232.subR [0, 1, 2, 3, 4, 5, 6]).sub [0] (by decide), hx2218.symm⟩
    ·
      refine segF 6 [.v (.slice A_p1_m_Actions p1.m.Actions.length c_p1_m_Actions)] [0, 1, 5, 15, 16] [(0, (.pointer (some ⟨g_p0, 0, none⟩))), (1, (.pointer (some ⟨g_p1, 0, none⟩))), (5, (.slice none 0 0)), (15, (.slice A_p1_m_Actions p1.m.Actions.length c_p1_m_Actions)), (16, (.pointer (some ⟨g_p1, 0, none⟩)))] [] [0] [(4, ⟨g_p1, 2, none⟩, (.slice A_p1_m_Actions p1.m.Actions.length c_p1_m_Actions))] (fun fb => by kernel_rfl) rfl trivial rfl ?_
      obtain ⟨t2233, ht2234, hx2218⟩ := bind_some hx2218
      refine WL.call (some 17) 63 #[(.pointer (some ⟨g_p1, 0, none⟩))] (fun fb => by kernel_rfl) (machine_runner_does_calls p1 g_p1 A_p1_m_Actions c_p1_m_Actions A_p1_Config_Cells c_p1_Config_Cells t2233 _ (hS2220.rd 4) (hS2220.rd 5) (hS2220.rd 6) ht2234) (fun v w2235 hR2236 => ?_)
      obtain ⟨rfl, hk_⟩ := hR2236
      have hS2237 := hS2220.keepN hk_
      refine ⟨⟨blk_cell (hS2237.rd 4).1 2 rfl, trivial⟩, ?_⟩
      obtain ⟨h2238, hx2218⟩ := as_some hx2218
      refine seg 8 [] [0, 1, 5, 18] [(0, (.pointer (some ⟨g_p0, 0, none⟩))), (1, (.pointer (some ⟨g_p1, 0, none⟩))), (5, (.slice none 0 0)), (18, (.pointer (some ((adr A_p1_m_Actions).add ((t2233).toNat * 3)))))] [.idx A_p1_m_Actions t2233 p1.m.Actions.length] (fun fb => by kernel_rfl) rfl ⟨rowR.adr (hS2237.rd 5).1 h2238.1 h2238.2, trivial⟩ ?_
      refine WL.new hS2237 6 [] (fun g => (.pointer (some ⟨g, 0, none⟩))) (.cells #[(.int .i64 0), (.int .i64 0), (.int .i64 0)] 88 (0, 0)) [] (fun fb g => by kernel_rfl) trivial (fun g2239 w2240 hS2241 => ?_)
      refine ⟨⟨blk_cell (hS2241.rd 4).1 2 rfl, trivial⟩, ?_⟩
      refine seg 10 [.v (.int .i64 ((rdD p1.m.Actions t2233 z_Action).Write)), .v (.int .i64 ((rdD p1.m.Actions t2233 z_Action).Move)), .v (.int .i64 ((rdD p1.m.Actions t2233 z_Action).Next))] [0, 1, 5, 6, 19] [(0, (.pointer (some ⟨g_p0, 0, none⟩))), (1, (.pointer (some ⟨g_p1, 0, none⟩))), (5, (.slice none 0 0)), (6, (.pointer (some ⟨g2239, 0, none⟩))), (19, (.agg #[(.int .i64 ((rdD p1.m.Actions t2233 z_Action).Write)), (.int .i64 ((rdD p1.m.Actions t2233 z_Action).Move)), (.int .i64 ((rdD p1.m.Actions t2233 z_Action).Next))]))] [.cell ((adr A_p1_m_Actions).add ((t2233).toNat * 3)) (.int .i64 ((rdD p1.m.Actions t2233 z_Action).Write)), .cell (((adr A_p1_m_Actions).add ((t2233).toNat * 3)).add 1) (.int .i64 ((rdD p1.m.Actions t2233 z_Action).Move)), .cell (((adr A_p1_m_Actions).add ((t2233).toNat * 3)).add 2) (.int .i64 ((rdD p1.m.Actions t2233 z_Action).Next))] (fun fb => by kernel_rfl) rfl ⟨rowR.cell (hS2241.rd 5).1 z_Action h2238.1 h2238.2 0 rfl, rowR.cell (hS2241.rd 5).1 z_Action h2238.1 h2238.2 1 rfl, rowR.cell (hS2241.rd 5).1 z_Action h2238.1 h2238.2 2 rfl, trivial⟩ ?_
      refine WL.store hS2241 0 rfl [(0, (.int .i64 ((rdD p1.m.Actions t2233 z_Action).Write))), (1, (.int .i64 ((rdD p1.m.Actions t2233 z_Action).Move))), (2, (.int .i64 ((rdD p1.m.Actions t2233 z_Action).Next)))] #[(.int .i64 ((rdD p1.m.Actions t2233 z_Action).Write)), (.int .i64 ((rdD p1.m.Actions t2233 z_Action).Move)), (.int .i64 ((rdD p1.m.Actions t2233 z_Action).Next))] (fun fb => by kernel_rfl) (by kernel_rfl) rfl [] (by decide) (by decide) (fun w2243 hS2244 => ?_)
      refine ⟨trivial, ?_⟩
      refine WL.done rfl ?_
      injection hx2218 with hx2218
      exact WX.to Kx2217 (((rdD p1.m.Actions t2233 z_Action).Write, (rdD p1.m.Actions t2233 z_Action).Move, (rdD p1.m.Actions t2233 z_Action).Next), g2239) [0, 1, 5, 6] rfl ⟨(hS2244.subR [0, 1, 2, 3, 4, 5, 6]).sub [0] (by decide), hx2218.symm⟩
    refine segF 6 [.v (.slice A_p1_m_Actions p1.m.Actions.length c_p1_m_Actions)] [0, 1, 5, 15, 16] [(0, (.pointer (some ⟨g_p0, 0, none⟩))), (1, (.pointer (some ⟨g_p1, 0, none⟩))), (5, (.slice none 0 0)), (15, (.slice A_p1_m_Actions p1.m.Actions.length c_p1_m_Actions)), (16, (.pointer (some ⟨g_p1, 0, none⟩)))] [] [0] [(4, ⟨g_p1, 2, none⟩, (.slice A_p1_m_Actions p1.m.Actions.length c_p1_m_Actions))] (fun fb => by kernel_rfl) rfl trivial rfl ?_
    refine WL.new hS2220 6 [] (fun g => (.pointer (some ⟨g, 0, none⟩))) (.cells #[(.int .i64 0), (.int .i64 0), (.int .i64 0)] 88 (0, 0)) [] (fun fb g => by kernel_rfl) trivial (fun g2245 w2246 hS2247 => ?_)
    refine ⟨⟨blk_cell (hS2247.rd 4).1 2 rfl, trivial⟩, ?_⟩
    obtain ⟨t2249, ht2250, hx2218⟩ := bind_some hx2218
    refine WL.call (some 17) 63 #[(.pointer (some ⟨g_p1, 0, none⟩))] (fun fb => by kernel_rfl) (machine_runner_does_calls p1 g_p1 A_p1_m_Actions c_p1_m_Actions A_p1_Config_Cells c_p1_Config_Cells t2249 _ (hS2247.rd 4) (hS2247.rd 5) (hS2247.rd 6) ht2250) (fun v w2251 hR2252 => ?_)
    obtain ⟨rfl, hk_⟩ := hR2252
    have hS2253 := hS2247.keepN hk_
    refine ⟨⟨blk_cell (hS2253.rd 4).1 2 rfl, trivial⟩, ?_⟩
    obtain ⟨h2254, hx2218⟩ := as_some hx2218
    refine seg 10 [.v (.int .i64 ((rdD p1.m.Actions t2249 z_Action).Write)), .v (.int .i64 ((rdD p1.m.Actions t2249 z_Action).Move)), .v (.int .i64 ((rdD p1.m.Actions t2249 z_Action).Next))] [0, 1, 5, 6, 19] [(0, (.pointer (some ⟨g_p0, 0, none⟩))), (1, (.pointer (some ⟨g_p1, 0, none⟩))), (5, (.slice none 0 0)), (6, (.pointer (some ⟨g2245, 0, none⟩))), (19, (.agg #[(.int .i64 ((rdD p1.m.Actions t2249 z_Action).Write)), (.int .i64 ((rdD p1.m.Actions t2249 z_Action).Move)), (.int .i64 ((rdD p1.m.Actions t2249 z_Action).Next))]))] [.idx A_p1_m_Actions t2249 p1.m.Actions.length, .cell ((adr A_p1_m_Actions).add ((t2249).toNat * 3)) (.int .i64 ((rdD p1.m.Actions t2249 z_Action).Write)), .cell (((adr A_p1_m_Actions).add ((t2249).toNat * 3)).add 1) (.int .i64 ((rdD p1.m.Actions t2249 z_Action).Move)), .cell (((adr A_p1_m_Actions).add ((t2249).toNat * 3)).add 2) (.int .i64 ((rdD p1.m.Actions t2249 z_Action).Next))] (fun fb => by kernel_rfl) rfl ⟨rowR.adr (hS2253.rd 5).1 h2254.1 h2254.2, rowR.cell (hS2253.rd 5).1 z_Action h2254.1 h2254.2 0 rfl, rowR.cell (hS2253.rd 5).1 z_Action h2254.1 h2254.2 1 rfl, rowR.cell (hS2253.rd 5).1 z_Action h2254.1 h2254.2 2 rfl, trivial⟩ ?_
    refine WL.store hS2253 0 rfl [(0, (.int .i64 ((rdD p1.m.Actions t2249 z_Action).Write))), (1, (.int .i64 ((rdD p1.m.Actions t2249 z_Action).Move))), (2, (.int .i64 ((rdD p1.m.Actions t2249 z_Action).Next)))] #[(.int .i64 ((rdD p1.m.Actions t2249 z_Action).Write)), (.int .i64 ((rdD p1.m.Actions t2249 z_Action).Move)), (.int .i64 ((rdD p1.m.Actions t2249 z_Action).Next))] (fun fb => by kernel_rfl) (by kernel_rfl) rfl [] (by decide) (by decide) (fun w2255 hS2256 => ?_)
    refine ⟨trivial, ?_⟩
    refine WL.done rfl ?_
    injection hx2218 with hx2218
    exact WX.to Kx2217 (((rdD p1.m.Actions t2249 z_Action).Write, (rdD p1.m.Actions t2249 z_Action).Move, (rdD p1.m.Actions t2249 z_Action).Next), g2245) [0, 1, 5, 6] rfl ⟨(hS2256.subR [0, 1, 2, 3, 4, 5, 6]).sub [0] (by decide), hx2218.symm⟩
  rintro ⟨y2260, g2213⟩ w2257 ⟨hS2258, hq2259⟩
  subst hq2259
  refine WX.next ?_
  refine WC.seq ?_
  refine WC.regionD ([(4, ⟨g_p1, 4, none⟩, (.int .i64 p1.Config.At)), (6, ⟨g2213, 1, none⟩, (.int .i64 x2217.2.1))], [0, 1, 2, 3, 4, 5, 6, 7, 8, 9, 10], [[], [0], [0, 1], [0, 1, 2], [0, 1, 2, 3], [], [5], [5, 6], [0, 1, 2, 3, 4, 5, 6, 7], [0, 1, 2, 3, 4, 5, 6, 7, 8], [0, 1, 2, 3, 4, 5, 6, 7, 8, 9]]) [[0, 1, 2, 3, 4, 5, 6, 7, 8, 9, 10]] (by kernel_rfl) (by kernel_rfl) (NoPanic.seq (NoPanic.body)) ?_
  have hS2262 := hS2258.drew
  revert hS2262
  generalize World.drew w2257 = w2261
  intro hS2262
  refine ⟨⟨blk_cell (hS2262.rd 4).1 4 rfl, hS2262.cell 0 rfl 1 rfl, trivial⟩, forallC ?_ (forallN)⟩
  refine segF 11 [.v (.int .i64 p1.Config.At), .v (.int .i64 x2217.2.1)] [0, 1, 5, 6, 7] [(0, (.pointer (some ⟨g_p0, 0, none⟩))), (1, (.pointer (some ⟨g_p1, 0, none⟩))), (5, (.slice none 0 0)), (6, (.pointer (some ⟨g2213, 0, none⟩))), (7, (.int .i64 (w64 ((w64 (p1.Config.At + (w64 (2 * x2217.2.1)))) - 1))))] [] [0, 1] [(4, ⟨g_p1, 4, none⟩, (.int .i64 p1.Config.At)), (6, ⟨g2213, 1, none⟩, (.int .i64 x2217.2.1))] (fun fb => by kernel_rfl) rfl trivial rfl ?_
  refine WL.done rfl ?_
  refine WX.next ?_
  refine WC.seq ?_
  refine WC.seq ?_
  refine WC.region ?_
  refine seg 7 [.v (.slice A_p1_Config_Cells p1.Config.Cells.length c_p1_Config_Cells)] [0, 1, 5, 6, 7, 34, 35, 36] [(0, (.pointer (some ⟨g_p0, 0, none⟩))), (1, (.pointer (some ⟨g_p1, 0, none⟩))), (5, (.slice none 0 0)), (6, (.pointer (some ⟨g2213, 0, none⟩))), (7, (.int .i64 (w64 ((w64 (p1.Config.At + (w64 (2 * x2217.2.1)))) - 1)))), (34, (.slice A_p1_Config_Cells p1.Config.Cells.length c_p1_Config_Cells)), (35, (.int .i64 (p1.Config.Cells.length : Int))), (36, (.int .i64 0))] [.cell ⟨g_p1, 5, none⟩ (.slice A_p1_Config_Cells p1.Config.Cells.length c_p1_Config_Cells)] (fun fb => by kernel_rfl) rfl ⟨blk_cell (hS2262.rd 4).1 5 rfl, trivial⟩ ?_
  refine WL.done rfl ?_
  refine WX.next ?_
  have hS2419 := hS2262.nilrow 3 encInt
  obtain ⟨x2427, hx2428, hf⟩ := bind_some hf
  refine WC.cutN (T := (List Int) × (Option Addr) × Nat) (fun t => [(5, (.slice t.2.1 t.1.length t.2.2))]) (fun t w1 => St NoS w w1 [blk g_p0 (.cells #[(.int .i64 p0.m.States), (.int .i64 p0.m.Symbols), (.slice A_p0_m_Actions p0.m.Actions.length c_p0_m_Actions), (.slice A_p0_set p0.set.length c_p0_set), (.slice A_p0_does p0.does.length c_p0_does), (.int .i64 p0.base)] 96 (0, 0)), rowR enc_Action A_p0_m_Actions c_p0_m_Actions p0.m.Actions, rowR enc_Tile A_p0_set c_p0_set p0.set, rowR encInt A_p0_does c_p0_does p0.does, blk g_p1 (.cells #[(.int .i64 p1.m.States), (.int .i64 p1.m.Symbols), (.slice A_p1_m_Actions p1.m.Actions.length c_p1_m_Actions), (.int .i64 p1.Config.State), (.int .i64 p1.Config.At), (.slice A_p1_Config_Cells p1.Config.Cells.length c_p1_Config_Cells)] 82 (0, 0)), rowR enc_Action A_p1_m_Actions c_p1_m_Actions p1.m.Actions, rowR encInt A_p1_Config_Cells c_p1_Config_Cells p1.Config.Cells] [rowO 3 encInt t.2.1 t.2.2 t.1] ∧ x2427 = t.1) (fun Kx2427 => ?_) ?_
  ·
    refine WC.block ?_
    refine WC.loop (T := ((List Int) × Int) × (Option Addr) × Nat) (fun t => [(0, (.pointer (some ⟨g_p0, 0, none⟩))), (1, (.pointer (some ⟨g_p1, 0, none⟩))), (5, (.slice t.2.1 t.1.1.length t.2.2)), (6, (.pointer (some ⟨g2213, 0, none⟩))), (7, (.int .i64 (w64 ((w64 (p1.Config.At + (w64 (2 * x2217.2.1)))) - 1)))), (34, (.slice A_p1_Config_Cells p1.Config.Cells.length c_p1_Config_Cells)), (35, (.int .i64 (p1.Config.Cells.length : Int))), (36, (.int .i64 t.1.2))]) (fun n t w1 => St NoS w w1 [blk g_p0 (.cells #[(.int .i64 p0.m.States), (.int .i64 p0.m.Symbols), (.slice A_p0_m_Actions p0.m.Actions.length c_p0_m_Actions), (.slice A_p0_set p0.set.length c_p0_set), (.slice A_p0_does p0.does.length c_p0_does), (.int .i64 p0.base)] 96 (0, 0)), rowR enc_Action A_p0_m_Actions c_p0_m_Actions p0.m.Actions, rowR enc_Tile A_p0_set c_p0_set p0.set, rowR encInt A_p0_does c_p0_does p0.does, blk g_p1 (.cells #[(.int .i64 p1.m.States), (.int .i64 p1.m.Symbols), (.slice A_p1_m_Actions p1.m.Actions.length c_p1_m_Actions), (.int .i64 p1.Config.State), (.int .i64 p1.Config.At), (.slice A_p1_Config_Cells p1.Config.Cells.length c_p1_Config_Cells)] 82 (0, 0)), rowR enc_Action A_p1_m_Actions c_p1_m_Actions p1.m.Actions, rowR encInt A_p1_Config_Cells c_p1_Config_Cells p1.Config.Cells] [rowO 3 encInt t.2.1 t.2.2 t.1.1, blk g2213 (.cells #[(.int .i64 x2217.1), (.int .i64 x2217.2.1), (.int .i64 x2217.2.2)] 88 (0, 0))] ∧ machine_kit_row.l0 n t.1.1 t.1.2 p0 p1 x2217 = some x2427) k ((([] : List Int), 0), none, 0) [0, 1, 5, 6, 7, 34, 35, 36] rfl ⟨(hS2419.subR [0, 1, 2, 3, 4, 5, 6]).sub [0, 1] (by decide), hx2428⟩ ?_
    rintro k2429 ⟨⟨l2422, x2423⟩, A2420, c2421⟩ w2430 ⟨hS2431, hl2432⟩
    cases k2429 with
    | zero => rw [machine_kit_row.l0] at hl2432; cases hl2432
    | succ k2429 =>
      rw [machine_kit_row.l0] at hl2432
      refine WC.seq ?_
      refine WC.region ?_
      refine seg 1 [] [0, 1, 5, 6, 7, 34, 35, 36, 37] [(0, (.pointer (some ⟨g_p0, 0, none⟩))), (1, (.pointer (some ⟨g_p1, 0, none⟩))), (5, (.slice A2420 l2422.length c2421)), (6, (.pointer (some ⟨g2213, 0, none⟩))), (7, (.int .i64 (w64 ((w64 (p1.Config.At + (w64 (2 * x2217.2.1)))) - 1)))), (34, (.slice A_p1_Config_Cells p1.Config.Cells.length c_p1_Config_Cells)), (35, (.int .i64 (p1.Config.Cells.length : Int))), (36, (.int .i64 x2423)), (37, (.bool (decide (x2423 < (p1.Config.Cells.length : Int)))))] [] (fun fb => by kernel_rfl) rfl trivial ?_
      refine WL.done rfl ?_
      refine WX.next ?_
      refine WC.seq ?_
      rcases br_some hl2432 with ⟨h2433, hl2432⟩ | ⟨h2433, hl2432⟩
      · refine WC.condT2 (fun fb => by kernel_rfl) h2433 ?_
        refine WC.skip ?_
        refine WX.next ?_
        refine WC.seq ?_
        refine WC.block ?_
        refine WC.seq ?_
        refine WC.region ?_
        refine seg 1 [] [0, 1, 5, 6, 7, 34, 35, 36, 38] [(0, (.pointer (some ⟨g_p0, 0, none⟩))), (1, (.pointer (some ⟨g_p1, 0, none⟩))), (5, (.slice A2420 l2422.length c2421)), (6, (.pointer (some ⟨g2213, 0, none⟩))), (7, (.int .i64 (w64 ((w64 (p1.Config.At + (w64 (2 * x2217.2.1)))) - 1)))), (34, (.slice A_p1_Config_Cells p1.Config.Cells.length c_p1_Config_Cells)), (35, (.int .i64 (p1.Config.Cells.length : Int))), (36, (.int .i64 x2423)), (38, (.int .i64 x2423))] [] (fun fb => by kernel_rfl) rfl trivial ?_
        obtain ⟨h2434, hl2432⟩ := as_some hl2432
        refine seg 5 [.v (.int .i64 (rdD p1.Config.Cells x2423 0))] [0, 1, 5, 6, 7, 8, 9, 34, 35, 36] [(0, (.pointer (some ⟨g_p0, 0, none⟩))), (1, (.pointer (some ⟨g_p1, 0, none⟩))), (5, (.slice A2420 l2422.length c2421)), (6, (.pointer (some ⟨g2213, 0, none⟩))), (7, (.int .i64 (w64 ((w64 (p1.Config.At + (w64 (2 * x2217.2.1)))) - 1)))), (8, (.int .i64 x2423)), (9, (.int .i64 (rdD p1.Config.Cells x2423 0))), (34, (.slice A_p1_Config_Cells p1.Config.Cells.length c_p1_Config_Cells)), (35, (.int .i64 (p1.Config.Cells.length : Int))), (36, (.int .i64 x2423))] [.idx A_p1_Config_Cells x2423 p1.Config.Cells.length, .cell ((adr A_p1_Config_Cells).add ((x2423).toNat * 1)) (.int .i64 (rdD p1.Config.Cells x2423 0))] (fun fb => by kernel_rfl) rfl ⟨rowR.adr (hS2431.rd 6).1 h2434.1 h2434.2, rowR.cell (hS2431.rd 6).1 0 h2434.1 h2434.2 0 rfl, trivial⟩ ?_
        refine WL.done rfl ?_
        refine WX.next ?_
        refine WC.seq ?_
        refine WC.region ?_
        refine seg 2 [] [0, 1, 5, 6, 7, 8, 9, 10, 34, 35, 36] [(0, (.pointer (some ⟨g_p0, 0, none⟩))), (1, (.pointer (some ⟨g_p1, 0, none⟩))), (5, (.slice A2420 l2422.length c2421)), (6, (.pointer (some ⟨g2213, 0, none⟩))), (7, (.int .i64 (w64 ((w64 (p1.Config.At + (w64 (2 * x2217.2.1)))) - 1)))), (8, (.int .i64 x2423)), (9, (.int .i64 (rdD p1.Config.Cells x2423 0))), (10, (.int .i64 (rdD p1.Config.Cells x2423 0))), (34, (.slice A_p1_Config_Cells p1.Config.Cells.length c_p1_Config_Cells)), (35, (.int .i64 (p1.Config.Cells.length : Int))), (36, (.int .i64 x2423))] [] (fun fb => by kernel_rfl) rfl trivial ?_
        refine WL.done rfl ?_
        refine WX.next ?_
        refine WC.seq ?_
        refine WC.seq ?_
        refine WC.region ?_
        refine seg 1 [] [0, 1, 5, 6, 7, 9, 10, 34, 35, 36, 42] [(0, (.pointer (some ⟨g_p0, 0, none⟩))), (1, (.pointer (some ⟨g_p1, 0, none⟩))), (5, (.slice A2420 l2422.length c2421)), (6, (.pointer (some ⟨g2213, 0, none⟩))), (7, (.int .i64 (w64 ((w64 (p1.Config.At + (w64 (2 * x2217.2.1)))) - 1)))), (9, (.int .i64 (rdD p1.Config.Cells x2423 0))), (10, (.int .i64 (rdD p1.Config.Cells x2423 0))), (34, (.slice A_p1_Config_Cells p1.Config.Cells.length c_p1_Config_Cells)), (35, (.int .i64 (p1.Config.Cells.length : Int))), (36, (.int .i64 x2423)), (42, (.int .i64 x2423))] [] (fun fb => by kernel_rfl) rfl trivial ?_
        refine WL.done rfl ?_
        refine WX.next ?_
        refine WC.block ?_
        refine WC.seq ?_
        refine WC.region ?_
        refine seg 7 [.v (.int .i64 p1.Config.At)] [0, 1, 5, 6, 7, 9, 10, 34, 35, 36, 42, 43] [(0, (.pointer (some ⟨g_p0, 0, none⟩))), (1, (.pointer (some ⟨g_p1, 0, none⟩))), (5, (.slice A2420 l2422.length c2421)), (6, (.pointer (some ⟨g2213, 0, none⟩))), (7, (.int .i64 (w64 ((w64 (p1.Config.At + (w64 (2 * x2217.2.1)))) - 1)))), (9, (.int .i64 (rdD p1.Config.Cells x2423 0))), (10, (.int .i64 (rdD p1.Config.Cells x2423 0))), (34, (.slice A_p1_Config_Cells p1.Config.Cells.length c_p1_Config_Cells)), (35, (.int .i64 (p1.Config.Cells.length : Int))), (36, (.int .i64 x2423)), (42, (.int .i64 x2423)), (43, (.bool (x2423 == p1.Config.At)))] [.cell ⟨g_p1, 4, none⟩ (.int .i64 p1.Config.At)] (fun fb => by kernel_rfl) rfl ⟨blk_cell (hS2431.rd 4).1 4 rfl, trivial⟩ ?_
        refine WL.done rfl ?_
        refine WX.next ?_
        obtain ⟨x2464, hx2465, hl2432⟩ := bind_some hl2432
        refine WC.cutN (T := Int) (fun t => [(0, (.pointer (some ⟨g_p0, 0, none⟩))), (1, (.pointer (some ⟨g_p1, 0, none⟩))), (5, (.slice A2420 l2422.length c2421)), (6, (.pointer (some ⟨g2213, 0, none⟩))), (7, (.int .i64 (w64 ((w64 (p1.Config.At + (w64 (2 * x2217.2.1)))) - 1)))), (10, (.int .i64 t)), (34, (.slice A_p1_Config_Cells p1.Config.Cells.length c_p1_Config_Cells)), (35, (.int .i64 (p1.Config.Cells.length : Int))), (36, (.int .i64 x2423))]) (fun t w1 => St NoS w w1 [blk g_p0 (.cells #[(.int .i64 p0.m.States), (.int .i64 p0.m.Symbols), (.slice A_p0_m_Actions p0.m.Actions.length c_p0_m_Actions), (.slice A_p0_set p0.set.length c_p0_set), (.slice A_p0_does p0.does.length c_p0_does), (.int .i64 p0.base)] 96 (0, 0)), rowR enc_Action A_p0_m_Actions c_p0_m_Actions p0.m.Actions, rowR enc_Tile A_p0_set c_p0_set p0.set, rowR encInt A_p0_does c_p0_does p0.does, blk g_p1 (.cells #[(.int .i64 p1.m.States), (.int .i64 p1.m.Symbols), (.slice A_p1_m_Actions p1.m.Actions.length c_p1_m_Actions), (.int .i64 p1.Config.State), (.int .i64 p1.Config.At), (.slice A_p1_Config_Cells p1.Config.Cells.length c_p1_Config_Cells)] 82 (0, 0)), rowR enc_Action A_p1_m_Actions c_p1_m_Actions p1.m.Actions, rowR encInt A_p1_Config_Cells c_p1_Config_Cells p1.Config.Cells] [rowO 3 encInt A2420 c2421 l2422, blk g2213 (.cells #[(.int .i64 x2217.1), (.int .i64 x2217.2.1), (.int .i64 x2217.2.2)] 88 (0, 0))] ∧ x2464 = t) (fun Kx2464 => ?_) ?_
        ·
          rcases br_some hx2465 with ⟨h2466, hx2465⟩ | ⟨h2466, hx2465⟩
          · refine WC.condT2 (fun fb => by kernel_rfl) h2466 ?_
            refine WC.regionD ([(3, ⟨g_p0, 4, none⟩, (.slice A_p0_does p0.does.length c_p0_does))], [0, 1, 2, 3, 4, 6, 8], [[], [0], [0, 1], [0, 1, 2], [], [4], [0, 1, 2, 3, 4, 5], [0, 1, 2, 3, 4, 5, 6], [0, 1, 2, 3, 4, 5, 6, 7]]) [[0, 1, 2, 3, 4, 5, 6, 7, 8]] (by kernel_rfl) (by kernel_rfl) (NoPanic.block (NoPanic.seq (NoPanic.block (NoPanic.seq (NoPanic.seq (NoPanic.block (NoPanic.seq (NoPanic.body)))))))) ?_
            have hS2474 := hS2431.drew
            revert hS2474
            generalize World.drew w2430 = w2473
            intro hS2474
            refine ⟨⟨blk_cell (hS2474.rd 0).1 4 rfl, trivial⟩, forallC ?_ (forallN)⟩
            refine segF 5 [.v (.slice A_p0_does p0.does.length c_p0_does)] [0, 1, 5, 6, 7, 34, 35, 36, 53, 54] [(0, (.pointer (some ⟨g_p0, 0, none⟩))), (1, (.pointer (some ⟨g_p1, 0, none⟩))), (5, (.slice A2420 l2422.length c2421)), (6, (.pointer (some ⟨g2213, 0, none⟩))), (7, (.int .i64 (w64 ((w64 (p1.Config.At + (w64 (2 * x2217.2.1)))) - 1)))), (34, (.slice A_p1_Config_Cells p1.Config.Cells.length c_p1_Config_Cells)), (35, (.int .i64 (p1.Config.Cells.length : Int))), (36, (.int .i64 x2423)), (53, (.slice A_p0_does p0.does.length c_p0_does)), (54, (.pointer (some ⟨g_p1, 0, none⟩)))] [] [0] [(3, ⟨g_p0, 4, none⟩, (.slice A_p0_does p0.does.length c_p0_does))] (fun fb => by kernel_rfl) rfl trivial rfl ?_
            obtain ⟨t2475, ht2476, hx2465⟩ := bind_some hx2465
            refine WL.call (some 55) 63 #[(.pointer (some ⟨g_p1, 0, none⟩))] (fun fb => by kernel_rfl) (machine_runner_does_calls p1 g_p1 A_p1_m_Actions c_p1_m_Actions A_p1_Config_Cells c_p1_Config_Cells t2475 _ (hS2474.rd 4) (hS2474.rd 5) (hS2474.rd 6) ht2476) (fun v w2477 hR2478 => ?_)
            obtain ⟨rfl, hk_⟩ := hR2478
            have hS2479 := hS2474.keepN hk_
            refine ⟨⟨blk_cell (hS2479.rd 0).1 4 rfl, trivial⟩, ?_⟩
            obtain ⟨h2480, hx2465⟩ := as_some hx2465
            refine seg 9 [.v (.int .i64 (rdD p0.does t2475 0))] [0, 1, 5, 6, 7, 10, 34, 35, 36] [(0, (.pointer (some ⟨g_p0, 0, none⟩))), (1, (.pointer (some ⟨g_p1, 0, none⟩))), (5, (.slice A2420 l2422.length c2421)), (6, (.pointer (some ⟨g2213, 0, none⟩))), (7, (.int .i64 (w64 ((w64 (p1.Config.At + (w64 (2 * x2217.2.1)))) - 1)))), (10, (.int .i64 (rdD p0.does t2475 0))), (34, (.slice A_p1_Config_Cells p1.Config.Cells.length c_p1_Config_Cells)), (35, (.int .i64 (p1.Config.Cells.length : Int))), (36, (.int .i64 x2423))] [.idx A_p0_does t2475 p0.does.length, .cell ((adr A_p0_does).add ((t2475).toNat * 1)) (.int .i64 (rdD p0.does t2475 0))] (fun fb => by kernel_rfl) rfl ⟨rowR.adr (hS2479.rd 3).1 h2480.1 h2480.2, rowR.cell (hS2479.rd 3).1 0 h2480.1 h2480.2 0 rfl, trivial⟩ ?_
            refine WL.done rfl ?_
            injection hx2465 with hx2465
            exact WX.to Kx2464 (rdD p0.does t2475 0) [0, 1, 5, 6, 7, 10, 34, 35, 36] rfl ⟨(hS2479.subR [0, 1, 2, 3, 4, 5, 6]).sub [0, 1] (by decide), hx2465.symm⟩
          refine WC.condF2 (fun fb => by kernel_rfl) h2466 ?_
          refine WC.seq ?_
          refine WC.region ?_
          refine seg 3 [] [0, 1, 5, 6, 7, 9, 10, 34, 35, 36, 58] [(0, (.pointer (some ⟨g_p0, 0, none⟩))), (1, (.pointer (some ⟨g_p1, 0, none⟩))), (5, (.slice A2420 l2422.length c2421)), (6, (.pointer (some ⟨g2213, 0, none⟩))), (7, (.int .i64 (w64 ((w64 (p1.Config.At + (w64 (2 * x2217.2.1)))) - 1)))), (9, (.int .i64 (rdD p1.Config.Cells x2423 0))), (10, (.int .i64 (rdD p1.Config.Cells x2423 0))), (34, (.slice A_p1_Config_Cells p1.Config.Cells.length c_p1_Config_Cells)), (35, (.int .i64 (p1.Config.Cells.length : Int))), (36, (.int .i64 x2423)), (58, (.bool (x2423 == (w64 ((w64 (p1.Config.At + (w64 (2 * x2217.2.1)))) - 1)))))] [] (fun fb => by kernel_rfl) rfl trivial ?_
          refine WL.done rfl ?_
          refine WX.next ?_
          obtain ⟨x2485, hx2486, hx2465⟩ := bind_some hx2465
          refine WC.cutN (T := Int) (fun t => [(0, (.pointer (some ⟨g_p0, 0, none⟩))), (1, (.pointer (some ⟨g_p1, 0, none⟩))), (5, (.slice A2420 l2422.length c2421)), (6, (.pointer (some ⟨g2213, 0, none⟩))), (7, (.int .i64 (w64 ((w64 (p1.Config.At + (w64 (2 * x2217.2.1)))) - 1)))), (10, (.int .i64 t)), (34, (.slice A_p1_Config_Cells p1.Config.Cells.length c_p1_Config_Cells)), (35, (.int .i64 (p1.Config.Cells.length : Int))), (36, (.int .i64 x2423))]) (fun t w1 => St NoS w w1 [blk g_p0 (.cells #[(.int .i64 p0.m.States), (.int .i64 p0.m.Symbols), (.slice A_p0_m_Actions p0.m.Actions.length c_p0_m_Actions), (.slice A_p0_set p0.set.length c_p0_set), (.slice A_p0_does p0.does.length c_p0_does), (.int .i64 p0.base)] 96 (0, 0)), rowR enc_Action A_p0_m_Actions c_p0_m_Actions p0.m.Actions, rowR enc_Tile A_p0_set c_p0_set p0.set, rowR encInt A_p0_does c_p0_does p0.does, blk g_p1 (.cells #[(.int .i64 p1.m.States), (.int .i64 p1.m.Symbols), (.slice A_p1_m_Actions p1.m.Actions.length c_p1_m_Actions), (.int .i64 p1.Config.State), (.int .i64 p1.Config.At), (.slice A_p1_Config_Cells p1.Config.Cells.length c_p1_Config_Cells)] 82 (0, 0)), rowR enc_Action A_p1_m_Actions c_p1_m_Actions p1.m.Actions, rowR encInt A_p1_Config_Cells c_p1_Config_Cells p1.Config.Cells] [rowO 3 encInt A2420 c2421 l2422, blk g2213 (.cells #[(.int .i64 x2217.1), (.int .i64 x2217.2.1), (.int .i64 x2217.2.2)] 88 (0, 0))] ∧ x2485 = t) (fun Kx2485 => ?_) ?_
          ·
            rcases br_some hx2486 with ⟨h2487, hx2486⟩ | ⟨h2487, hx2486⟩
            · refine WC.condT2 (fun fb => by kernel_rfl) h2487 ?_
              refine WC.regionD ([(3, ⟨g_p0, 5, none⟩, (.int .i64 p0.base)), (5, ⟨g2213, 2, none⟩, (.int .i64 x2217.2.2)), (10, ⟨g_p1, 1, none⟩, (.int .i64 p1.m.Symbols)), (18, ⟨g2213, 1, none⟩, (.int .i64 x2217.2.1))], [0, 1, 2, 3, 4, 5, 6, 7, 8, 9, 10, 11, 12, 13, 14, 15, 16, 17, 18, 19, 20], [[], [0], [0, 1], [0, 1, 2], [], [4], [], [6], [6, 7], [6, 7, 8], [6, 7, 8, 9], [4, 5, 6, 7, 8, 9, 10], [], [4, 5, 6, 7, 8, 9, 10, 11, 12], [4, 5, 6, 7, 8, 9, 10, 11, 12, 13], [0, 1, 2, 3, 4, 5, 6, 7, 8, 9, 10, 11, 12, 13, 14], [0, 1, 2, 3, 4, 5, 6, 7, 8, 9, 10, 11, 12, 13, 14, 15], [], [17], [0, 1, 2, 3, 4, 5, 6, 7, 8, 9, 10, 11, 12, 13, 14, 15, 16, 17, 18], [0, 1, 2, 3, 4, 5, 6, 7, 8, 9, 10, 11, 12, 13, 14, 15, 16, 17, 18, 19]]) [[0, 1, 2, 3, 4, 5, 6, 7, 8, 9, 10, 11, 12, 13, 14, 15, 16, 17, 18, 19, 20]] (by kernel_rfl) (by kernel_rfl) (NoPanic.block (NoPanic.seq (NoPanic.block (NoPanic.seq (NoPanic.seq (NoPanic.block (NoPanic.seq (NoPanic.body)))))))) ?_
              have hS2489 := hS2431.drew
              revert hS2489
              generalize World.drew w2430 = w2488
              intro hS2489
              refine ⟨⟨blk_cell (hS2489.rd 0).1 5 rfl, hS2489.cell 1 rfl 2 rfl, blk_cell (hS2489.rd 4).1 1 rfl, hS2489.cell 1 rfl 1 rfl, trivial⟩, forallC ?_ (forallN)⟩
              refine segF 21 [.v (.int .i64 p0.base), .v (.int .i64 x2217.2.2), .v (.int .i64 p1.m.Symbols), .v (.int .i64 x2217.2.1)] [0, 1, 5, 6, 7, 10, 34, 35, 36] [(0, (.pointer (some ⟨g_p0, 0, none⟩))), (1, (.pointer (some ⟨g_p1, 0, none⟩))), (5, (.slice A2420 l2422.length c2421)), (6, (.pointer (some ⟨g2213, 0, none⟩))), (7, (.int .i64 (w64 ((w64 (p1.Config.At + (w64 (2 * x2217.2.1)))) - 1)))), (10, (.int .i64 (w64 ((w64 ((w64 (p0.base + (w64 (2 * (w64 ((w64 (x2217.2.2 * p1.m.Symbols)) + (rdD p1.Config.Cells x2423 0))))))) + 1)) - x2217.2.1)))), (34, (.slice A_p1_Config_Cells p1.Config.Cells.length c_p1_Config_Cells)), (35, (.int .i64 (p1.Config.Cells.length : Int))), (36, (.int .i64 x2423))] [] [0, 1, 2, 3] [(3, ⟨g_p0, 5, none⟩, (.int .i64 p0.base)), (5, ⟨g2213, 2, none⟩, (.int .i64 x2217.2.2)), (10, ⟨g_p1, 1, none⟩, (.int .i64 p1.m.Symbols)), (18, ⟨g2213, 1, none⟩, (.int .i64 x2217.2.1))] (fun fb => by kernel_rfl) rfl trivial rfl ?_
              refine WL.done rfl ?_
              injection hx2486 with hx2486
              exact WX.to Kx2485 (w64 ((w64 ((w64 (p0.base + (w64 (2 * (w64 ((w64 (x2217.2.2 * p1.m.Symbols)) + (rdD p1.Config.Cells x2423 0))))))) + 1)) - x2217.2.1)) [0, 1, 5, 6, 7, 10, 34, 35, 36] rfl ⟨(hS2489.subR [0, 1, 2, 3, 4, 5, 6]).sub [0, 1] (by decide), hx2486.symm⟩
            refine WC.condF2 (fun fb => by kernel_rfl) h2487 ?_
            refine WC.skip ?_
            injection hx2486 with hx2486
            exact WX.to Kx2485 (rdD p1.Config.Cells x2423 0) [0, 1, 5, 6, 7, 10, 34, 35, 36] rfl ⟨(hS2431.subR [0, 1, 2, 3, 4, 5, 6]).sub [0, 1] (by decide), hx2486.symm⟩
          rintro y2493 w2490 ⟨hS2491, hq2492⟩
          subst hq2492
          injection hx2465 with hx2465
          exact WX.to Kx2464 x2485 [0, 1, 5, 6, 7, 10, 34, 35, 36] rfl ⟨(hS2491.subR [0, 1, 2, 3, 4, 5, 6]).sub [0, 1] (by decide), hx2465.symm⟩
        rintro y2497 w2494 ⟨hS2495, hq2496⟩
        subst hq2496
        refine WX.blockN (WX.next ?_)
        refine WC.region ?_
        refine seg 2 [] [0, 1, 6, 7, 34, 35, 36, 81, 82] [(0, (.pointer (some ⟨g_p0, 0, none⟩))), (1, (.pointer (some ⟨g_p1, 0, none⟩))), (6, (.pointer (some ⟨g2213, 0, none⟩))), (7, (.int .i64 (w64 ((w64 (p1.Config.At + (w64 (2 * x2217.2.1)))) - 1)))), (34, (.slice A_p1_Config_Cells p1.Config.Cells.length c_p1_Config_Cells)), (35, (.int .i64 (p1.Config.Cells.length : Int))), (36, (.int .i64 x2423)), (81, (.slice A2420 l2422.length c2421)), (82, (.int .i64 x2464))] [] (fun fb => by kernel_rfl) rfl trivial ?_
        refine WL.new hS2495 83 [] (fun g => (.slice (some ⟨g, 0, none⟩) 1 1)) (.cells #[(.int .i64 x2464)] 3 (0, 0)) [] (fun fb g => by kernel_rfl) trivial (fun g2498 w2499 hS2500 => ?_)
        refine ⟨trivial, ?_⟩
        have hS2502 : St NoS w w2499 [blk g_p0 (.cells #[(.int .i64 p0.m.States), (.int .i64 p0.m.Symbols), (.slice A_p0_m_Actions p0.m.Actions.length c_p0_m_Actions), (.slice A_p0_set p0.set.length c_p0_set), (.slice A_p0_does p0.does.length c_p0_does), (.int .i64 p0.base)] 96 (0, 0)), rowR enc_Action A_p0_m_Actions c_p0_m_Actions p0.m.Actions, rowR enc_Tile A_p0_set c_p0_set p0.set, rowR encInt A_p0_does c_p0_does p0.does, blk g_p1 (.cells #[(.int .i64 p1.m.States), (.int .i64 p1.m.Symbols), (.slice A_p1_m_Actions p1.m.Actions.length c_p1_m_Actions), (.int .i64 p1.Config.State), (.int .i64 p1.Config.At), (.slice A_p1_Config_Cells p1.Config.Cells.length c_p1_Config_Cells)] 82 (0, 0)), rowR enc_Action A_p1_m_Actions c_p1_m_Actions p1.m.Actions, rowR encInt A_p1_Config_Cells c_p1_Config_Cells p1.Config.Cells] [rowO 3 encInt (some ⟨g2498, 0, none⟩) 1 [x2464], rowO 3 encInt A2420 c2421 l2422, blk g2213 (.cells #[(.int .i64 x2217.1), (.int .i64 x2217.2.1), (.int .i64 x2217.2.2)] 88 (0, 0))] := hS2500.map1 0 _ (fun h => rowO.ofBlk h rfl (Nat.le_of_ble_eq_true (by kernel_rfl))) (fun _ h => by obtain ⟨_, h1, h2⟩ := h; injection h1 with h1; subst h1; exact h2) [1, 2] (by decide) (by decide)
        obtain ⟨h2503, hl2432⟩ := as_some hl2432
        refine WL.append hS2502 1 (d := 84) (tS := 25) (z := (.int .i64 0)) (bytes := 8) (c2 := 1) rfl (fun fb => by kernel_rfl) (rowO.rd (hS2502.own 0).1) (by kernel_rfl) (by kernel_rfl) rfl (by decide) h2503 (by decide) [0, 2] (by decide) (by decide) (fun A2504 c2505 w2506 hS2507 => ?_)
        refine ⟨trivial, ?_⟩
        refine seg 5 [] [0, 1, 5, 6, 7, 34, 35, 36] [(0, (.pointer (some ⟨g_p0, 0, none⟩))), (1, (.pointer (some ⟨g_p1, 0, none⟩))), (5, (.slice A2504 (l2422 ++ [x2464]).length c2505)), (6, (.pointer (some ⟨g2213, 0, none⟩))), (7, (.int .i64 (w64 ((w64 (p1.Config.At + (w64 (2 * x2217.2.1)))) - 1)))), (34, (.slice A_p1_Config_Cells p1.Config.Cells.length c_p1_Config_Cells)), (35, (.int .i64 (p1.Config.Cells.length : Int))), (36, (.int .i64 x2423))] [] (fun fb => by kernel_rfl) rfl trivial ?_
        refine WL.done rfl ?_
        refine WX.blockN (WX.next ?_)
        refine WC.region ?_
        refine seg 2 [] [0, 1, 5, 6, 7, 34, 35, 36] [(0, (.pointer (some ⟨g_p0, 0, none⟩))), (1, (.pointer (some ⟨g_p1, 0, none⟩))), (5, (.slice A2504 (l2422 ++ [x2464]).length c2505)), (6, (.pointer (some ⟨g2213, 0, none⟩))), (7, (.int .i64 (w64 ((w64 (p1.Config.At + (w64 (2 * x2217.2.1)))) - 1)))), (34, (.slice A_p1_Config_Cells p1.Config.Cells.length c_p1_Config_Cells)), (35, (.int .i64 (p1.Config.Cells.length : Int))), (36, (.int .i64 (w64 (x2423 + 1))))] [] (fun fb => by kernel_rfl) rfl trivial ?_
        refine WL.done rfl ?_
        exact WX.again k2429 (Nat.lt_succ_self _) ((l2422 ++ [x2464], w64 (x2423 + 1)), A2504, c2505) [0, 1, 5, 6, 7, 34, 35, 36] rfl ⟨(hS2507.subR [0, 1, 2, 3, 4, 5, 6]).sub [0, 2] (by decide), hl2432⟩
      refine WC.condF2 (fun fb => by kernel_rfl) h2433 ?_
      refine WC.exit ?_
      injection hl2432 with hl2432
      exact WX.thenX (WX.thenX (WX.blockHere (WX.to Kx2427 (l2422, A2420, c2421) [5] rfl ⟨(hS2431.subR [0, 1, 2, 3, 4, 5, 6]).sub [0] (by decide), hl2432.symm⟩)))
  rintro ⟨y2511, A2424, c2425⟩ w2508 ⟨hS2509, hq2510⟩
  subst hq2510
  refine WX.next ?_
  refine WC.seq ?_
  refine WC.region ?_
  refine seg 2 [] [4] [(4, (.slice A2424 x2427.length c2425))] [] (fun fb => by kernel_rfl) rfl trivial ?_
  refine WL.done rfl ?_
  refine WX.next ?_
  refine WC.ret ?_
  injection hf with hf
  subst hf
  exact WX.ret_ [] (.slice A2424 x2427.length c2425) [] (fun fb => by kernel_rfl) trivial ⟨_, rfl, A2424, c2425, rfl, (hS2509.sub [0] (by decide)).noR⟩
theorem machine_Picture_calls (k : Nat) (p0 : Machine) (p1 : Config) (p2 : Int) (A_p0_Actions : Option Addr) (c_p0_Actions : Nat) (A_p1_Cells : Option Addr) (c_p1_Cells : Nat) (r : Pattern × Int) (w : World) (hR0 : RO NoS w (rowR enc_Action A_p0_Actions c_p0_Actions p0.Actions)) (hR1 : RO NoS w (rowR encInt A_p1_Cells c_p1_Cells p1.Cells)) (hf : machine_Picture k p0 p1 p2 = some r) :
    CallsR Try.prog 12 #[(.agg #[(.int .i64 p0.States), (.int .i64 p0.Symbols), (.slice A_p0_Actions p0.Actions.length c_p0_Actions)]), (.agg #[(.int .i64 p1.State), (.int .i64 p1.At), (.slice A_p1_Cells p1.Cells.length c_p1_Cells)]), (.int .i64 p2)] w (fun v w' => ∃ (A1_ : Option Addr), ∃ (c1_ : Nat), v = (.tuple #[(.agg #[(.int .i64 r.1.Width), (.int .i64 r.1.Height), (.slice A1_ r.1.Cells.length c1_)]), (.int .i64 r.2)]) ∧ St NoS w w' [] [rowO 3 encInt A1_ c1_ r.1.Cells]) := by
  have hS : St NoS w w [rowR enc_Action A_p0_Actions c_p0_Actions p0.Actions, rowR encInt A_p1_Cells c_p1_Cells p1.Cells] [] := St.init (ro_cons hR0 (ro_cons hR1 (ro_nil _ _)))
  refine enter 67 Try.func12 rfl Try.ntmps12 rfl ?_
  unfold machine_Picture at hf
  refine WC.seq ?_
  refine WC.region ?_
  refine WL.new hS 3 [] (fun g => (.pointer (some ⟨g, 0, none⟩))) (.cells #[(.int .i64 p0.States), (.int .i64 p0.Symbols), (.slice A_p0_Actions p0.Actions.length c_p0_Actions)] 24 (0, 0)) [] (fun fb g => by kernel_rfl) trivial (fun g2058 w2059 hS2060 => ?_)
  refine ⟨trivial, ?_⟩
  refine WL.new hS2060 4 [] (fun g => (.pointer (some ⟨g, 0, none⟩))) (.cells #[(.int .i64 p1.State), (.int .i64 p1.At), (.slice A_p1_Cells p1.Cells.length c_p1_Cells)] 27 (0, 0)) [] (fun fb g => by kernel_rfl) trivial (fun g2062 w2063 hS2064 => ?_)
  refine ⟨trivial, ?_⟩
  refine WL.new hS2064 6 [] (fun g => (.pointer (some ⟨g, 0, none⟩))) (.cells #[(.int .i64 0), (.int .i64 0), (.slice none 0 0)] 31 (0, 0)) [] (fun fb g => by kernel_rfl) trivial (fun g2066 w2067 hS2068 => ?_)
  refine ⟨trivial, ?_⟩
  refine seg 4 [] [2, 3, 4, 6] [(2, (.int .i64 p2)), (3, (.pointer (some ⟨g2058, 0, none⟩))), (4, (.pointer (some ⟨g2062, 0, none⟩))), (6, (.pointer (some ⟨g2066, 0, none⟩)))] [] (fun fb => by kernel_rfl) rfl trivial ?_
  refine WL.done rfl ?_
  refine WX.next ?_
  refine WC.seq ?_
  refine WC.block ?_
  refine WC.seq ?_
  refine WC.region ?_
  refine seg 2 [.v (.int .i64 p0.States), .v (.int .i64 p0.Symbols), .v (.slice A_p0_Actions p0.Actions.length c_p0_Actions), .v (.int .i64 p1.State), .v (.int .i64 p1.At), .v (.slice A_p1_Cells p1.Cells.length c_p1_Cells)] [2, 3, 4, 6, 13, 14] [(2, (.int .i64 p2)), (3, (.pointer (some ⟨g2058, 0, none⟩))), (4, (.pointer (some ⟨g2062, 0, none⟩))), (6, (.pointer (some ⟨g2066, 0, none⟩))), (13, (.agg #[(.int .i64 p0.States), (.int .i64 p0.Symbols), (.slice A_p0_Actions p0.Actions.length c_p0_Actions)])), (14, (.agg #[(.int .i64 p1.State), (.int .i64 p1.At), (.slice A_p1_Cells p1.Cells.length c_p1_Cells)]))] [.cell ⟨g2058, 0, none⟩ (.int .i64 p0.States), .cell ⟨g2058, 1, none⟩ (.int .i64 p0.Symbols), .cell ⟨g2058, 2, none⟩ (.slice A_p0_Actions p0.Actions.length c_p0_Actions), .cell ⟨g2062, 0, none⟩ (.int .i64 p1.State), .cell ⟨g2062, 1, none⟩ (.int .i64 p1.At), .cell ⟨g2062, 2, none⟩ (.slice A_p1_Cells p1.Cells.length c_p1_Cells)] (fun fb => by kernel_rfl) rfl ⟨hS2068.cell 2 rfl 0 rfl, hS2068.cell 2 rfl 1 rfl, hS2068.cell 2 rfl 2 rfl, hS2068.cell 1 rfl 0 rfl, hS2068.cell 1 rfl 1 rfl, hS2068.cell 1 rfl 2 rfl, trivial⟩ ?_
  obtain ⟨t2070, ht2071, hf⟩ := bind_some hf
  refine WL.call (some 15) 18 #[(.agg #[(.int .i64 p0.States), (.int .i64 p0.Symbols), (.slice A_p0_Actions p0.Actions.length c_p0_Actions)]), (.agg #[(.int .i64 p1.State), (.int .i64 p1.At), (.slice A_p1_Cells p1.Cells.length c_p1_Cells)])] (fun fb => by kernel_rfl) (machine_Fits_calls _ p0 p1 A_p0_Actions c_p0_Actions A_p1_Cells c_p1_Cells t2070 _ (hS2068.rd 0) (hS2068.rd 1) ht2071) (fun v w2072 hR2073 => ?_)
  obtain ⟨rfl, hk_⟩ := hR2073
  have hS2074 := hS2068.keepN hk_
  refine ⟨trivial, ?_⟩
  refine seg 5 [] [2, 3, 4, 6, 12] [(2, (.int .i64 p2)), (3, (.pointer (some ⟨g2058, 0, none⟩))), (4, (.pointer (some ⟨g2062, 0, none⟩))), (6, (.pointer (some ⟨g2066, 0, none⟩))), (12, (.bool (!t2070)))] [] (fun fb => by kernel_rfl) rfl trivial ?_
  refine WL.done rfl ?_
  refine WX.next ?_
  rcases br_some hf with ⟨h2075, hf⟩ | ⟨h2075, hf⟩
  · refine WC.condT2 (fun fb => by kernel_rfl) h2075 ?_
    refine WC.seq ?_
    refine WC.region ?_
    refine seg 1 [] [6, 17] [(6, (.pointer (some ⟨g2066, 0, none⟩))), (17, (.agg #[(.int .i64 0), (.int .i64 0), (.slice none 0 0)]))] [] (fun fb => by kernel_rfl) rfl trivial ?_
    refine WL.store hS2074 0 rfl [(0, (.int .i64 0)), (1, (.int .i64 0)), (2, (.slice none 0 0))] #[(.int .i64 0), (.int .i64 0), (.slice none 0 0)] (fun fb => by kernel_rfl) (by kernel_rfl) rfl [1, 2] (by decide) (by decide) (fun w2076 hS2077 => ?_)
    refine ⟨trivial, ?_⟩
    refine seg 3 [] [6, 7] [(6, (.pointer (some ⟨g2066, 0, none⟩))), (7, (.int .i64 1))] [] (fun fb => by kernel_rfl) rfl trivial ?_
    refine WL.done rfl ?_
    refine WX.next ?_
    refine WC.ret ?_
    have hS2078 := hS2077.nilrow 3 encInt
    injection hf with hf
    subst hf
    exact WX.blockR (WX.thenR (WX.ret_ [.v (.int .i64 0), .v (.int .i64 0), .v (.slice none 0 0)] (.tuple #[(.agg #[(.int .i64 0), (.int .i64 0), (.slice none ([] : List Int).length 0)]), (.int .i64 1)]) [.cell ⟨g2066, 0, none⟩ (.int .i64 0), .cell ⟨g2066, 1, none⟩ (.int .i64 0), .cell ⟨g2066, 2, none⟩ (.slice none 0 0)] (fun fb => by kernel_rfl) ⟨hS2077.cell 0 rfl 0 rfl, hS2077.cell 0 rfl 1 rfl, hS2077.cell 0 rfl 2 rfl, trivial⟩ ⟨_, rfl, none, 0, rfl, (hS2078.sub [0] (by decide)).noR⟩))
  refine WC.condF2 (fun fb => by kernel_rfl) h2075 ?_
  refine WC.seq ?_
  refine WC.region ?_
  refine seg 3 [] [2, 3, 4, 6, 18] [(2, (.int .i64 p2)), (3, (.pointer (some ⟨g2058, 0, none⟩))), (4, (.pointer (some ⟨g2062, 0, none⟩))), (6, (.pointer (some ⟨g2066, 0, none⟩))), (18, (.bool (decide (p2 < 1))))] [] (fun fb => by kernel_rfl) rfl trivial ?_
  refine WL.done rfl ?_
  refine WX.next ?_
  rcases br_some hf with ⟨h2079, hf⟩ | ⟨h2079, hf⟩
  · refine WC.condT2 (fun fb => by kernel_rfl) h2079 ?_
    refine WC.seq ?_
    refine WC.region ?_
    refine seg 1 [] [6, 21] [(6, (.pointer (some ⟨g2066, 0, none⟩))), (21, (.agg #[(.int .i64 0), (.int .i64 0), (.slice none 0 0)]))] [] (fun fb => by kernel_rfl) rfl trivial ?_
    refine WL.store hS2074 0 rfl [(0, (.int .i64 0)), (1, (.int .i64 0)), (2, (.slice none 0 0))] #[(.int .i64 0), (.int .i64 0), (.slice none 0 0)] (fun fb => by kernel_rfl) (by kernel_rfl) rfl [1, 2] (by decide) (by decide) (fun w2080 hS2081 => ?_)
    refine ⟨trivial, ?_⟩
    refine seg 3 [] [6, 7] [(6, (.pointer (some ⟨g2066, 0, none⟩))), (7, (.int .i64 2))] [] (fun fb => by kernel_rfl) rfl trivial ?_
    refine WL.done rfl ?_
    refine WX.next ?_
    refine WC.ret ?_
    have hS2082 := hS2081.nilrow 3 encInt
    injection hf with hf
    subst hf
    exact WX.blockR (WX.thenR (WX.ret_ [.v (.int .i64 0), .v (.int .i64 0), .v (.slice none 0 0)] (.tuple #[(.agg #[(.int .i64 0), (.int .i64 0), (.slice none ([] : List Int).length 0)]), (.int .i64 2)]) [.cell ⟨g2066, 0, none⟩ (.int .i64 0), .cell ⟨g2066, 1, none⟩ (.int .i64 0), .cell ⟨g2066, 2, none⟩ (.slice none 0 0)] (fun fb => by kernel_rfl) ⟨hS2081.cell 0 rfl 0 rfl, hS2081.cell 0 rfl 1 rfl, hS2081.cell 0 rfl 2 rfl, trivial⟩ ⟨_, rfl, none, 0, rfl, (hS2082.sub [0] (by decide)).noR⟩))
  refine WC.condF2 (fun fb => by kernel_rfl) h2079 ?_
  refine WC.seq ?_
  refine WC.region ?_
  refine seg 3 [] [2, 3, 4, 6, 25] [(2, (.int .i64 p2)), (3, (.pointer (some ⟨g2058, 0, none⟩))), (4, (.pointer (some ⟨g2062, 0, none⟩))), (6, (.pointer (some ⟨g2066, 0, none⟩))), (25, (.bool (decide (p2 > 40000))))] [] (fun fb => by kernel_rfl) rfl trivial ?_
  refine WL.cutV (T := Bool) 10 (fun t => [(32, (.bool t)), (2, (.int .i64 p2)), (3, (.pointer (some ⟨g2058, 0, none⟩))), (4, (.pointer (some ⟨g2062, 0, none⟩))), (6, (.pointer (some ⟨g2066, 0, none⟩)))]) (fun t => t = ((decide (p2 > 40000)) || (decide (w64 ((p1.Cells.length : Int) * p2) > 40000)))) (fun K => ?_) ?_
  ·
    rcases Bool.eq_false_or_eq_true (decide (p2 > 40000)) with h2083 | h2083
    ·
      refine WL.setB 25 h2083 rfl ?_
      refine seg 10 [] [2, 3, 4, 6, 32] [(2, (.int .i64 p2)), (3, (.pointer (some ⟨g2058, 0, none⟩))), (4, (.pointer (some ⟨g2062, 0, none⟩))), (6, (.pointer (some ⟨g2066, 0, none⟩))), (32, (.bool true))] [] (fun fb => by kernel_rfl) rfl trivial ?_
      exact WL.toV K true [32, 2, 3, 4, 6] rfl (by rw [h2083]; rfl)
    refine WL.setB 25 h2083 rfl ?_
    refine seg 10 [.v (.slice A_p1_Cells p1.Cells.length c_p1_Cells)] [2, 3, 4, 6, 32] [(2, (.int .i64 p2)), (3, (.pointer (some ⟨g2058, 0, none⟩))), (4, (.pointer (some ⟨g2062, 0, none⟩))), (6, (.pointer (some ⟨g2066, 0, none⟩))), (32, (.bool (decide (w64 ((p1.Cells.length : Int) * p2) > 40000))))] [.cell ⟨g2062, 2, none⟩ (.slice A_p1_Cells p1.Cells.length c_p1_Cells)] (fun fb => by kernel_rfl) rfl ⟨hS2074.cell 1 rfl 2 rfl, trivial⟩ ?_
    exact WL.toV K (decide (w64 ((p1.Cells.length : Int) * p2) > 40000)) [32, 2, 3, 4, 6] rfl (by rw [h2083]; rfl)
  rintro b2084 rfl
  refine seg 11 [] [2, 3, 4, 6, 22] [(2, (.int .i64 p2)), (3, (.pointer (some ⟨g2058, 0, none⟩))), (4, (.pointer (some ⟨g2062, 0, none⟩))), (6, (.pointer (some ⟨g2066, 0, none⟩))), (22, (.bool ((decide (p2 > 40000)) || (decide (w64 ((p1.Cells.length : Int) * p2) > 40000)))))] [] (fun fb => by kernel_rfl) rfl trivial ?_
  refine WL.done rfl ?_
  refine WX.next ?_
  rcases br_some hf with ⟨h2085, hf⟩ | ⟨h2085, hf⟩
  · refine WC.condT2 (fun fb => by kernel_rfl) h2085 ?_
    refine WC.seq ?_
    refine WC.region ?_
    refine seg 1 [] [6, 33] [(6, (.pointer (some ⟨g2066, 0, none⟩))), (33, (.agg #[(.int .i64 0), (.int .i64 0), (.slice none 0 0)]))] [] (fun fb => by kernel_rfl) rfl trivial ?_
    refine WL.store hS2074 0 rfl [(0, (.int .i64 0)), (1, (.int .i64 0)), (2, (.slice none 0 0))] #[(.int .i64 0), (.int .i64 0), (.slice none 0 0)] (fun fb => by kernel_rfl) (by kernel_rfl) rfl [1, 2] (by decide) (by decide) (fun w2086 hS2087 => ?_)
    refine ⟨trivial, ?_⟩
    refine seg 3 [] [6, 7] [(6, (.pointer (some ⟨g2066, 0, none⟩))), (7, (.int .i64 4))] [] (fun fb => by kernel_rfl) rfl trivial ?_
    refine WL.done rfl ?_
    refine WX.next ?_
    refine WC.ret ?_
    have hS2088 := hS2087.nilrow 3 encInt
    injection hf with hf
    subst hf
    exact WX.blockR (WX.thenR (WX.ret_ [.v (.int .i64 0), .v (.int .i64 0), .v (.slice none 0 0)] (.tuple #[(.agg #[(.int .i64 0), (.int .i64 0), (.slice none ([] : List Int).length 0)]), (.int .i64 4)]) [.cell ⟨g2066, 0, none⟩ (.int .i64 0), .cell ⟨g2066, 1, none⟩ (.int .i64 0), .cell ⟨g2066, 2, none⟩ (.slice none 0 0)] (fun fb => by kernel_rfl) ⟨hS2087.cell 0 rfl 0 rfl, hS2087.cell 0 rfl 1 rfl, hS2087.cell 0 rfl 2 rfl, trivial⟩ ⟨_, rfl, none, 0, rfl, (hS2088.sub [0] (by decide)).noR⟩))
  refine WC.condF2 (fun fb => by kernel_rfl) h2085 ?_
  refine WC.skip ?_
  refine WX.blockN (WX.next ?_)
  refine WC.seq ?_
  refine WC.regionD ([(0, ⟨g2058, 0, none⟩, (.int .i64 p0.States)), (0, ⟨g2058, 1, none⟩, (.int .i64 p0.Symbols)), (0, ⟨g2058, 2, none⟩, (.slice A_p0_Actions p0.Actions.length c_p0_Actions)), (2, ⟨g2058, 0, none⟩, (.int .i64 p0.States)), (2, ⟨g2058, 1, none⟩, (.int .i64 p0.Symbols)), (2, ⟨g2058, 2, none⟩, (.slice A_p0_Actions p0.Actions.length c_p0_Actions)), (3, ⟨g2062, 0, none⟩, (.int .i64 p1.State)), (3, ⟨g2062, 1, none⟩, (.int .i64 p1.At)), (3, ⟨g2062, 2, none⟩, (.slice A_p1_Cells p1.Cells.length c_p1_Cells))], [0, 2, 3, 5, 6], [[], [0], [], [], [0, 1, 2, 3], [0, 1, 2, 3, 4], [0, 1, 2, 3, 4, 5]]) [[0, 2, 3, 1, 4, 5, 6]] (by kernel_rfl) (by kernel_rfl) (NoPanic.seq (NoPanic.body)) ?_
  have hS2108 := hS2074.drew
  revert hS2108
  generalize World.drew w2072 = w2107
  intro hS2108
  refine ⟨⟨hS2108.cell 2 rfl 0 rfl, hS2108.cell 2 rfl 1 rfl, hS2108.cell 2 rfl 2 rfl, hS2108.cell 2 rfl 0 rfl, hS2108.cell 2 rfl 1 rfl, hS2108.cell 2 rfl 2 rfl, hS2108.cell 1 rfl 0 rfl, hS2108.cell 1 rfl 1 rfl, hS2108.cell 1 rfl 2 rfl, trivial⟩, forallC ?_ (forallN)⟩
  refine segF 3 [.v (.int .i64 p0.States), .v (.int .i64 p0.Symbols), .v (.slice A_p0_Actions p0.Actions.length c_p0_Actions), .v (.int .i64 p0.States), .v (.int .i64 p0.Symbols), .v (.slice A_p0_Actions p0.Actions.length c_p0_Actions), .v (.int .i64 p1.State), .v (.int .i64 p1.At), .v (.slice A_p1_Cells p1.Cells.length c_p1_Cells)] [2, 3, 4, 6, 34, 36, 37] [(2, (.int .i64 p2)), (3, (.pointer (some ⟨g2058, 0, none⟩))), (4, (.pointer (some ⟨g2062, 0, none⟩))), (6, (.pointer (some ⟨g2066, 0, none⟩))), (34, (.agg #[(.int .i64 p0.States), (.int .i64 p0.Symbols), (.slice A_p0_Actions p0.Actions.length c_p0_Actions)])), (36, (.agg #[(.int .i64 p0.States), (.int .i64 p0.Symbols), (.slice A_p0_Actions p0.Actions.length c_p0_Actions)])), (37, (.agg #[(.int .i64 p1.State), (.int .i64 p1.At), (.slice A_p1_Cells p1.Cells.length c_p1_Cells)]))] [] [0, 1, 2, 3, 4, 5, 6, 7, 8] [(0, ⟨g2058, 0, none⟩, (.int .i64 p0.States)), (0, ⟨g2058, 1, none⟩, (.int .i64 p0.Symbols)), (0, ⟨g2058, 2, none⟩, (.slice A_p0_Actions p0.Actions.length c_p0_Actions)), (2, ⟨g2058, 0, none⟩, (.int .i64 p0.States)), (2, ⟨g2058, 1, none⟩, (.int .i64 p0.Symbols)), (2, ⟨g2058, 2, none⟩, (.slice A_p0_Actions p0.Actions.length c_p0_Actions)), (3, ⟨g2062, 0, none⟩, (.int .i64 p1.State)), (3, ⟨g2062, 1, none⟩, (.int .i64 p1.At)), (3, ⟨g2062, 2, none⟩, (.slice A_p1_Cells p1.Cells.length c_p1_Cells))] (fun fb => by kernel_rfl) rfl trivial rfl ?_
  obtain ⟨t2109, ht2110, hf⟩ := bind_some hf
  refine WL.call (some 35) 41 #[(.agg #[(.int .i64 p0.States), (.int .i64 p0.Symbols), (.slice A_p0_Actions p0.Actions.length c_p0_Actions)])] (fun fb => by kernel_rfl) (machine_kitOf_calls _ p0 A_p0_Actions c_p0_Actions t2109 _ (hS2108.rd 0) ht2110) (fun v w2111 hR2112 => ?_)
  obtain ⟨g2114, A2115, c2116, A2117, c2118, rfl, hk_⟩ := hR2112
  have hS2113 : St NoS w w2111 [rowR enc_Action A_p0_Actions c_p0_Actions p0.Actions, rowR encInt A_p1_Cells c_p1_Cells p1.Cells] [blk g2114 (.cells #[(.int .i64 t2109.m.States), (.int .i64 t2109.m.Symbols), (.slice A_p0_Actions p0.Actions.length c_p0_Actions), (.slice A2115 t2109.set.length c2116), (.slice A2117 t2109.does.length c2118), (.int .i64 t2109.base)] 96 (0, 0)), rowO 65 enc_Tile A2115 c2116 t2109.set, rowO 3 encInt A2117 c2118 t2109.does, blk g2066 (.cells #[(.int .i64 0), (.int .i64 0), (.slice none 0 0)] 31 (0, 0)), blk g2062 (.cells #[(.int .i64 p1.State), (.int .i64 p1.At), (.slice A_p1_Cells p1.Cells.length c_p1_Cells)] 27 (0, 0)), blk g2058 (.cells #[(.int .i64 p0.States), (.int .i64 p0.Symbols), (.slice A_p0_Actions p0.Actions.length c_p0_Actions)] 24 (0, 0))] := hS2108.call hk_ [] [0, 1, 2] (fun g hg => hg.elim) (by simp) (by decide)
  refine ⟨⟨hS2113.cell 5 rfl 0 rfl, hS2113.cell 5 rfl 1 rfl, hS2113.cell 5 rfl 2 rfl, hS2113.cell 4 rfl 0 rfl, hS2113.cell 4 rfl 1 rfl, hS2113.cell 4 rfl 2 rfl, trivial⟩, ?_⟩
  obtain ⟨t2119, ht2120, hf⟩ := bind_some hf
  refine WL.call (some 38) 42 #[(.agg #[(.int .i64 p0.States), (.int .i64 p0.Symbols), (.slice A_p0_Actions p0.Actions.length c_p0_Actions)]), (.agg #[(.int .i64 p1.State), (.int .i64 p1.At), (.slice A_p1_Cells p1.Cells.length c_p1_Cells)])] (fun fb => by kernel_rfl) (machine_begin_calls p0 p1 A_p0_Actions c_p0_Actions A_p1_Cells c_p1_Cells t2119 _ (hS2113.rd 0) (hS2113.rd 1) ht2120) (fun v w2121 hR2122 => ?_)
  obtain ⟨g2124, A2125, c2126, rfl, hk_⟩ := hR2122
  have hS2123 : St NoS w w2121 [rowR enc_Action A_p0_Actions c_p0_Actions p0.Actions, rowR encInt A_p1_Cells c_p1_Cells p1.Cells] [blk g2124 (.cells #[(.int .i64 t2119.m.States), (.int .i64 t2119.m.Symbols), (.slice A_p0_Actions p0.Actions.length c_p0_Actions), (.int .i64 t2119.Config.State), (.int .i64 t2119.Config.At), (.slice A2125 t2119.Config.Cells.length c2126)] 82 (0, 0)), rowO 3 encInt A2125 c2126 t2119.Config.Cells, blk g2114 (.cells #[(.int .i64 t2109.m.States), (.int .i64 t2109.m.Symbols), (.slice A_p0_Actions p0.Actions.length c_p0_Actions), (.slice A2115 t2109.set.length c2116), (.slice A2117 t2109.does.length c2118), (.int .i64 t2109.base)] 96 (0, 0)), rowO 65 enc_Tile A2115 c2116 t2109.set, rowO 3 encInt A2117 c2118 t2109.does, blk g2066 (.cells #[(.int .i64 0), (.int .i64 0), (.slice none 0 0)] 31 (0, 0)), blk g2062 (.cells #[(.int .i64 p1.State), (.int .i64 p1.At), (.slice A_p1_Cells p1.Cells.length c_p1_Cells)] 27 (0, 0)), blk g2058 (.cells #[(.int .i64 p0.States), (.int .i64 p0.Symbols), (.slice A_p0_Actions p0.Actions.length c_p0_Actions)] 24 (0, 0))] := hS2113.call hk_ [] [0, 1, 2, 3, 4, 5] (fun g hg => hg.elim) (by simp) (by decide)
  refine ⟨trivial, ?_⟩
  refine seg 7 [] [2, 3, 4, 6, 8, 9] [(2, (.int .i64 p2)), (3, (.pointer (some ⟨g2058, 0, none⟩))), (4, (.pointer (some ⟨g2062, 0, none⟩))), (6, (.pointer (some ⟨g2066, 0, none⟩))), (8, (.pointer (some ⟨g2114, 0, none⟩))), (9, (.pointer (some ⟨g2124, 0, none⟩)))] [] (fun fb => by kernel_rfl) rfl trivial ?_
  refine WL.done rfl ?_
  refine WX.next ?_
  refine WC.seq ?_
  refine WC.region ?_
  refine seg 5 [.v (.slice A_p1_Cells p1.Cells.length c_p1_Cells)] [2, 3, 6, 8, 9, 43] [(2, (.int .i64 p2)), (3, (.pointer (some ⟨g2058, 0, none⟩))), (6, (.pointer (some ⟨g2066, 0, none⟩))), (8, (.pointer (some ⟨g2114, 0, none⟩))), (9, (.pointer (some ⟨g2124, 0, none⟩))), (43, (.agg #[(.int .i64 (p1.Cells.length : Int)), (.int .i64 p2), (.slice none 0 0)]))] [.cell ⟨g2062, 2, none⟩ (.slice A_p1_Cells p1.Cells.length c_p1_Cells)] (fun fb => by kernel_rfl) rfl ⟨hS2123.cell 6 rfl 2 rfl, trivial⟩ ?_
  refine WL.new hS2123 10 [] (fun g => (.pointer (some ⟨g, 0, none⟩))) (.cells #[(.int .i64 0), (.int .i64 0), (.slice none 0 0)] 31 (0, 0)) [] (fun fb g => by kernel_rfl) trivial (fun g2127 w2128 hS2129 => ?_)
  refine ⟨trivial, ?_⟩
  refine WL.store hS2129 0 rfl [(0, (.int .i64 (p1.Cells.length : Int))), (1, (.int .i64 p2)), (2, (.slice none 0 0))] #[(.int .i64 (p1.Cells.length : Int)), (.int .i64 p2), (.slice none 0 0)] (fun fb => by kernel_rfl) (by kernel_rfl) rfl [1, 2, 3, 4, 5, 6, 7, 8] (by decide) (by decide) (fun w2131 hS2132 => ?_)
  refine ⟨trivial, ?_⟩
  refine WL.done rfl ?_
  refine WX.next ?_
  refine WC.seq ?_
  refine WC.seq ?_
  refine WC.region ?_
  refine seg 2 [] [3, 6, 8, 9, 10, 44, 45] [(3, (.pointer (some ⟨g2058, 0, none⟩))), (6, (.pointer (some ⟨g2066, 0, none⟩))), (8, (.pointer (some ⟨g2114, 0, none⟩))), (9, (.pointer (some ⟨g2124, 0, none⟩))), (10, (.pointer (some ⟨g2127, 0, none⟩))), (44, (.int .i64 p2)), (45, (.int .i64 0))] [] (fun fb => by kernel_rfl) rfl trivial ?_
  refine WL.done rfl ?_
  refine WX.next ?_
  have hS2617 := hS2132.nilrow 3 encInt
  obtain ⟨x2633, hx2634, hf⟩ := bind_some hf
  refine WC.cutN (T := (List Int) × (Option Addr) × Nat) (fun t => [(6, (.pointer (some ⟨g2066, 0, none⟩))), (10, (.pointer (some ⟨g2127, 0, none⟩)))]) (fun t w1 => St NoS w w1 [rowR enc_Action A_p0_Actions c_p0_Actions p0.Actions, rowR encInt A_p1_Cells c_p1_Cells p1.Cells] [blk g2066 (.cells #[(.int .i64 0), (.int .i64 0), (.slice none 0 0)] 31 (0, 0)), blk g2127 (.cells #[(.int .i64 (p1.Cells.length : Int)), (.int .i64 p2), (.slice t.2.1 t.1.length t.2.2)] 31 (0, 0)), rowO 3 encInt t.2.1 t.2.2 t.1] ∧ x2633 = .inr t.1) (fun Kx2633 => ?_) ?_
  ·
    refine WC.block ?_
    refine WC.loop (T := (Int × Int × Int × Int × (List Int) × (List Int) × Int) × Nat × (Option Addr) × Nat × (Option Addr) × Nat) (fun t => [(3, (.pointer (some ⟨g2058, 0, none⟩))), (6, (.pointer (some ⟨g2066, 0, none⟩))), (8, (.pointer (some ⟨g2114, 0, none⟩))), (9, (.pointer (some ⟨t.2.1, 0, none⟩))), (10, (.pointer (some ⟨g2127, 0, none⟩))), (44, (.int .i64 p2)), (45, (.int .i64 t.1.2.2.2.2.2.2))]) (fun n t w1 => St NoS w w1 [rowR enc_Action A_p0_Actions c_p0_Actions p0.Actions, rowR encInt A_p1_Cells c_p1_Cells p1.Cells] [blk g2058 (.cells #[(.int .i64 p0.States), (.int .i64 p0.Symbols), (.slice A_p0_Actions p0.Actions.length c_p0_Actions)] 24 (0, 0)), blk g2066 (.cells #[(.int .i64 0), (.int .i64 0), (.slice none 0 0)] 31 (0, 0)), blk g2114 (.cells #[(.int .i64 t2109.m.States), (.int .i64 t2109.m.Symbols), (.slice A_p0_Actions p0.Actions.length c_p0_Actions), (.slice A2115 t2109.set.length c2116), (.slice A2117 t2109.does.length c2118), (.int .i64 t2109.base)] 96 (0, 0)), rowO 65 enc_Tile A2115 c2116 t2109.set, rowO 3 encInt A2117 c2118 t2109.does, blk t.2.1 (.cells #[(.int .i64 t.1.1), (.int .i64 t.1.2.1), (.slice A_p0_Actions p0.Actions.length c_p0_Actions), (.int .i64 t.1.2.2.1), (.int .i64 t.1.2.2.2.1), (.slice t.2.2.1 t.1.2.2.2.2.1.length t.2.2.2.1)] 82 (0, 0)), rowO 3 encInt t.2.2.1 t.2.2.2.1 t.1.2.2.2.2.1, blk g2127 (.cells #[(.int .i64 (p1.Cells.length : Int)), (.int .i64 p2), (.slice t.2.2.2.2.1 t.1.2.2.2.2.2.1.length t.2.2.2.2.2)] 31 (0, 0)), rowO 3 encInt t.2.2.2.2.1 t.2.2.2.2.2 t.1.2.2.2.2.2.1] ∧ machine_Picture.l0 n t.1.1 t.1.2.1 t.1.2.2.1 t.1.2.2.2.1 t.1.2.2.2.2.1 t.1.2.2.2.2.2.1 t.1.2.2.2.2.2.2 p0 p2 t2109 = some x2633) k ((t2119.m.States, t2119.m.Symbols, t2119.Config.State, t2119.Config.At, t2119.Config.Cells, ([] : List Int), 0), g2124, A2125, c2126, none, 0) [3, 6, 8, 9, 10, 44, 45] rfl ⟨(hS2617.subR [0, 1]).sub [9, 7, 4, 5, 6, 2, 3, 1, 0] (by decide), hx2634⟩ ?_
    rintro k2635 ⟨⟨x2619, x2620, x2621, x2622, l2625, l2628, x2629⟩, g2618, A2623, c2624, A2626, c2627⟩ w2636 ⟨hS2637, hl2638⟩
    cases k2635 with
    | zero => rw [machine_Picture.l0] at hl2638; cases hl2638
    | succ k2635 =>
      rw [machine_Picture.l0] at hl2638
      refine WC.seq ?_
      refine WC.region ?_
      refine seg 1 [] [3, 6, 8, 9, 10, 44, 45, 46] [(3, (.pointer (some ⟨g2058, 0, none⟩))), (6, (.pointer (some ⟨g2066, 0, none⟩))), (8, (.pointer (some ⟨g2114, 0, none⟩))), (9, (.pointer (some ⟨g2618, 0, none⟩))), (10, (.pointer (some ⟨g2127, 0, none⟩))), (44, (.int .i64 p2)), (45, (.int .i64 x2629)), (46, (.bool (decide (x2629 < p2))))] [] (fun fb => by kernel_rfl) rfl trivial ?_
      refine WL.done rfl ?_
      refine WX.next ?_
      refine WC.seq ?_
      rcases br_some hl2638 with ⟨h2639, hl2638⟩ | ⟨h2639, hl2638⟩
      · refine WC.condT2 (fun fb => by kernel_rfl) h2639 ?_
        refine WC.skip ?_
        refine WX.next ?_
        refine WC.seq ?_
        refine WC.block ?_
        refine WC.seq ?_
        refine WC.regionD ([(0, ⟨g2058, 0, none⟩, (.int .i64 p0.States)), (0, ⟨g2058, 1, none⟩, (.int .i64 p0.Symbols)), (0, ⟨g2058, 2, none⟩, (.slice A_p0_Actions p0.Actions.length c_p0_Actions)), (4, ⟨g2618, 3, none⟩, (.int .i64 x2621)), (4, ⟨g2618, 4, none⟩, (.int .i64 x2622)), (4, ⟨g2618, 5, none⟩, (.slice A2623 l2625.length c2624))], [0, 1, 2, 3, 4, 6], [[], [], [1], [1, 2], [1, 2, 3], [0, 1, 2, 3, 4], [0, 1, 2, 3, 4, 5]]) [[0, 1, 2, 3, 4, 5, 6]] (by kernel_rfl) (by kernel_rfl) (NoPanic.seq (NoPanic.block (NoPanic.seq (NoPanic.seq (NoPanic.block (NoPanic.seq (NoPanic.body))))))) ?_
        have hS2649 := hS2637.drew
        revert hS2649
        generalize World.drew w2636 = w2648
        intro hS2649
        refine ⟨⟨hS2649.cell 0 rfl 0 rfl, hS2649.cell 0 rfl 1 rfl, hS2649.cell 0 rfl 2 rfl, hS2649.cell 5 rfl 3 rfl, hS2649.cell 5 rfl 4 rfl, hS2649.cell 5 rfl 5 rfl, trivial⟩, forallC ?_ (forallN)⟩
        refine segF 5 [.v (.int .i64 p0.States), .v (.int .i64 p0.Symbols), .v (.slice A_p0_Actions p0.Actions.length c_p0_Actions), .v (.int .i64 x2621), .v (.int .i64 x2622), .v (.slice A2623 l2625.length c2624)] [3, 6, 8, 9, 10, 44, 45, 47, 51] [(3, (.pointer (some ⟨g2058, 0, none⟩))), (6, (.pointer (some ⟨g2066, 0, none⟩))), (8, (.pointer (some ⟨g2114, 0, none⟩))), (9, (.pointer (some ⟨g2618, 0, none⟩))), (10, (.pointer (some ⟨g2127, 0, none⟩))), (44, (.int .i64 p2)), (45, (.int .i64 x2629)), (47, (.agg #[(.int .i64 p0.States), (.int .i64 p0.Symbols), (.slice A_p0_Actions p0.Actions.length c_p0_Actions)])), (51, (.agg #[(.int .i64 x2621), (.int .i64 x2622), (.slice A2623 l2625.length c2624)]))] [] [0, 1, 2, 3, 4, 5] [(0, ⟨g2058, 0, none⟩, (.int .i64 p0.States)), (0, ⟨g2058, 1, none⟩, (.int .i64 p0.Symbols)), (0, ⟨g2058, 2, none⟩, (.slice A_p0_Actions p0.Actions.length c_p0_Actions)), (4, ⟨g2618, 3, none⟩, (.int .i64 x2621)), (4, ⟨g2618, 4, none⟩, (.int .i64 x2622)), (4, ⟨g2618, 5, none⟩, (.slice A2623 l2625.length c2624))] (fun fb => by kernel_rfl) rfl trivial rfl ?_
        obtain ⟨t2650, ht2651, hl2638⟩ := bind_some hl2638
        refine WL.call (some 52) 42 #[(.agg #[(.int .i64 p0.States), (.int .i64 p0.Symbols), (.slice A_p0_Actions p0.Actions.length c_p0_Actions)]), (.agg #[(.int .i64 x2621), (.int .i64 x2622), (.slice A2623 l2625.length c2624)])] (fun fb => by kernel_rfl) (machine_begin_calls p0 (Config.mk x2621 x2622 l2625) A_p0_Actions c_p0_Actions A2623 c2624 t2650 _ (hS2649.rd 0) (hS2649.ow 6).ofO ht2651) (fun v w2652 hR2653 => ?_)
        obtain ⟨g2655, A2656, c2657, rfl, hk_⟩ := hR2653
        have hS2654 : St NoS w w2652 [rowR enc_Action A_p0_Actions c_p0_Actions p0.Actions, rowR encInt A_p1_Cells c_p1_Cells p1.Cells] [blk g2655 (.cells #[(.int .i64 t2650.m.States), (.int .i64 t2650.m.Symbols), (.slice A_p0_Actions p0.Actions.length c_p0_Actions), (.int .i64 t2650.Config.State), (.int .i64 t2650.Config.At), (.slice A2656 t2650.Config.Cells.length c2657)] 82 (0, 0)), rowO 3 encInt A2656 c2657 t2650.Config.Cells, blk g2058 (.cells #[(.int .i64 p0.States), (.int .i64 p0.Symbols), (.slice A_p0_Actions p0.Actions.length c_p0_Actions)] 24 (0, 0)), blk g2066 (.cells #[(.int .i64 0), (.int .i64 0), (.slice none 0 0)] 31 (0, 0)), blk g2114 (.cells #[(.int .i64 t2109.m.States), (.int .i64 t2109.m.Symbols), (.slice A_p0_Actions p0.Actions.length c_p0_Actions), (.slice A2115 t2109.set.length c2116), (.slice A2117 t2109.does.length c2118), (.int .i64 t2109.base)] 96 (0, 0)), rowO 65 enc_Tile A2115 c2116 t2109.set, rowO 3 encInt A2117 c2118 t2109.does, blk g2618 (.cells #[(.int .i64 x2619), (.int .i64 x2620), (.slice A_p0_Actions p0.Actions.length c_p0_Actions), (.int .i64 x2621), (.int .i64 x2622), (.slice A2623 l2625.length c2624)] 82 (0, 0)), rowO 3 encInt A2623 c2624 l2625, blk g2127 (.cells #[(.int .i64 (p1.Cells.length : Int)), (.int .i64 p2), (.slice A2626 l2628.length c2627)] 31 (0, 0)), rowO 3 encInt A2626 c2627 l2628] := hS2649.call hk_ [] [0, 1, 2, 3, 4, 5, 6, 7, 8] (fun g hg => hg.elim) (by simp) (by decide)
        refine ⟨trivial, ?_⟩
        refine seg 7 [] [3, 6, 8, 9, 10, 11, 44, 45] [(3, (.pointer (some ⟨g2058, 0, none⟩))), (6, (.pointer (some ⟨g2066, 0, none⟩))), (8, (.pointer (some ⟨g2114, 0, none⟩))), (9, (.pointer (some ⟨g2618, 0, none⟩))), (10, (.pointer (some ⟨g2127, 0, none⟩))), (11, (.pointer (some ⟨g2655, 0, none⟩))), (44, (.int .i64 p2)), (45, (.int .i64 x2629))] [] (fun fb => by kernel_rfl) rfl trivial ?_
        refine WL.done rfl ?_
        refine WX.next ?_
        refine WC.seq ?_
        refine WC.seq ?_
        refine WC.region ?_
        refine seg 1 [] [3, 6, 8, 9, 10, 11, 44, 45, 53] [(3, (.pointer (some ⟨g2058, 0, none⟩))), (6, (.pointer (some ⟨g2066, 0, none⟩))), (8, (.pointer (some ⟨g2114, 0, none⟩))), (9, (.pointer (some ⟨g2618, 0, none⟩))), (10, (.pointer (some ⟨g2127, 0, none⟩))), (11, (.pointer (some ⟨g2655, 0, none⟩))), (44, (.int .i64 p2)), (45, (.int .i64 x2629)), (53, (.pointer (some ⟨g2655, 0, none⟩)))] [] (fun fb => by kernel_rfl) rfl trivial ?_
        obtain ⟨t2658, ht2659, hl2638⟩ := bind_some hl2638
        refine WL.call (some 54) 43 #[(.pointer (some ⟨g2655, 0, none⟩))] (fun fb => by kernel_rfl) (machine_runner_step_calls (Runner.mk (Machine.mk t2650.m.States t2650.m.Symbols p0.Actions) t2650.Config) g2655 A_p0_Actions c_p0_Actions A2656 c2657 t2658 _ (hS2654.rdT [0, 1] 0) (hS2654.io [0, 1] (by decide)) ht2659) (fun v w2660 hR2661 => ?_)
        obtain ⟨A2663, c2664, rfl, hk_⟩ := hR2661
        have hS2662 : St NoS w w2660 [rowR enc_Action A_p0_Actions c_p0_Actions p0.Actions, rowR encInt A_p1_Cells c_p1_Cells p1.Cells] [blk g2655 (.cells #[(.int .i64 t2658.2.m.States), (.int .i64 t2658.2.m.Symbols), (.slice A_p0_Actions p0.Actions.length c_p0_Actions), (.int .i64 t2658.2.Config.State), (.int .i64 t2658.2.Config.At), (.slice A2663 t2658.2.Config.Cells.length c2664)] 82 (0, 0)), rowO 3 encInt A2663 c2664 t2658.2.Config.Cells, blk g2058 (.cells #[(.int .i64 p0.States), (.int .i64 p0.Symbols), (.slice A_p0_Actions p0.Actions.length c_p0_Actions)] 24 (0, 0)), blk g2066 (.cells #[(.int .i64 0), (.int .i64 0), (.slice none 0 0)] 31 (0, 0)), blk g2114 (.cells #[(.int .i64 t2109.m.States), (.int .i64 t2109.m.Symbols), (.slice A_p0_Actions p0.Actions.length c_p0_Actions), (.slice A2115 t2109.set.length c2116), (.slice A2117 t2109.does.length c2118), (.int .i64 t2109.base)] 96 (0, 0)), rowO 65 enc_Tile A2115 c2116 t2109.set, rowO 3 encInt A2117 c2118 t2109.does, blk g2618 (.cells #[(.int .i64 x2619), (.int .i64 x2620), (.slice A_p0_Actions p0.Actions.length c_p0_Actions), (.int .i64 x2621), (.int .i64 x2622), (.slice A2623 l2625.length c2624)] 82 (0, 0)), rowO 3 encInt A2623 c2624 l2625, blk g2127 (.cells #[(.int .i64 (p1.Cells.length : Int)), (.int .i64 p2), (.slice A2626 l2628.length c2627)] 31 (0, 0)), rowO 3 encInt A2626 c2627 l2628] := hS2654.call hk_ [0, 1] [2, 3, 4, 5, 6, 7, 8, 9, 10] (fun g hg => fpL_sel g hg) (by decide) (by decide)
        refine ⟨trivial, ?_⟩
        refine seg 3 [] [3, 6, 8, 9, 10, 11, 44, 45, 55] [(3, (.pointer (some ⟨g2058, 0, none⟩))), (6, (.pointer (some ⟨g2066, 0, none⟩))), (8, (.pointer (some ⟨g2114, 0, none⟩))), (9, (.pointer (some ⟨g2618, 0, none⟩))), (10, (.pointer (some ⟨g2127, 0, none⟩))), (11, (.pointer (some ⟨g2655, 0, none⟩))), (44, (.int .i64 p2)), (45, (.int .i64 x2629)), (55, (.bool (t2658.1 != 0)))] [] (fun fb => by kernel_rfl) rfl trivial ?_
        refine WL.done rfl ?_
        refine WX.next ?_
        rcases br_some hl2638 with ⟨h2665, hl2638⟩ | ⟨h2665, hl2638⟩
        · refine WC.condT2 (fun fb => by kernel_rfl) h2665 ?_
          refine WC.seq ?_
          refine WC.region ?_
          refine seg 1 [] [6, 56] [(6, (.pointer (some ⟨g2066, 0, none⟩))), (56, (.agg #[(.int .i64 0), (.int .i64 0), (.slice none 0 0)]))] [] (fun fb => by kernel_rfl) rfl trivial ?_
          refine WL.store hS2662 3 rfl [(0, (.int .i64 0)), (1, (.int .i64 0)), (2, (.slice none 0 0))] #[(.int .i64 0), (.int .i64 0), (.slice none 0 0)] (fun fb => by kernel_rfl) (by kernel_rfl) rfl [0, 1, 2, 4, 5, 6, 7, 8, 9, 10] (by decide) (by decide) (fun w2666 hS2667 => ?_)
          refine ⟨trivial, ?_⟩
          refine seg 3 [] [6, 7] [(6, (.pointer (some ⟨g2066, 0, none⟩))), (7, (.int .i64 6))] [] (fun fb => by kernel_rfl) rfl trivial ?_
          refine WL.done rfl ?_
          refine WX.next ?_
          refine WC.ret ?_
          have hS2668 := hS2667.nilrow 3 encInt
          injection hl2638 with hl2638
          subst hl2638
          injection hf with hf
          subst hf
          exact WX.thenR (WX.blockR (WX.thenR (WX.thenR (WX.blockR (WX.thenR (WX.ret_ [.v (.int .i64 0), .v (.int .i64 0), .v (.slice none 0 0)] (.tuple #[(.agg #[(.int .i64 0), (.int .i64 0), (.slice none ([] : List Int).length 0)]), (.int .i64 6)]) [.cell ⟨g2066, 0, none⟩ (.int .i64 0), .cell ⟨g2066, 1, none⟩ (.int .i64 0), .cell ⟨g2066, 2, none⟩ (.slice none 0 0)] (fun fb => by kernel_rfl) ⟨hS2667.cell 0 rfl 0 rfl, hS2667.cell 0 rfl 1 rfl, hS2667.cell 0 rfl 2 rfl, trivial⟩ ⟨_, rfl, none, 0, rfl, (hS2668.sub [0] (by decide)).noR⟩))))))
        refine WC.condF2 (fun fb => by kernel_rfl) h2665 ?_
        refine WC.skip ?_
        refine WX.next ?_
        refine WC.seq ?_
        refine WC.regionD ([(1, ⟨g2127, 2, none⟩, (.slice A2626 l2628.length c2627))], [0, 1, 2, 3, 6], [[], [0], [], [], [2, 3], [0, 1, 2, 3, 4], [0, 1, 2, 3, 4, 5], [0, 1, 2, 3, 4, 5, 6]]) [[0, 1, 2, 3, 4, 5, 6, 7]] (by kernel_rfl) (by kernel_rfl) (NoPanic.seq (NoPanic.block (NoPanic.seq (NoPanic.seq (NoPanic.block (NoPanic.seq (NoPanic.body))))))) ?_
        have hS2684 := hS2662.drew
        revert hS2684
        generalize World.drew w2660 = w2683
        intro hS2684
        refine ⟨⟨hS2684.cell 9 rfl 2 rfl, trivial⟩, forallC ?_ (forallN)⟩
        refine segF 4 [.v (.slice A2626 l2628.length c2627)] [3, 6, 8, 10, 11, 44, 45, 58, 59, 60] [(3, (.pointer (some ⟨g2058, 0, none⟩))), (6, (.pointer (some ⟨g2066, 0, none⟩))), (8, (.pointer (some ⟨g2114, 0, none⟩))), (10, (.pointer (some ⟨g2127, 0, none⟩))), (11, (.pointer (some ⟨g2655, 0, none⟩))), (44, (.int .i64 p2)), (45, (.int .i64 x2629)), (58, (.slice A2626 l2628.length c2627)), (59, (.pointer (some ⟨g2114, 0, none⟩))), (60, (.pointer (some ⟨g2618, 0, none⟩)))] [] [0] [(1, ⟨g2127, 2, none⟩, (.slice A2626 l2628.length c2627))] (fun fb => by kernel_rfl) rfl trivial rfl ?_
        obtain ⟨t2685, ht2686, hl2638⟩ := bind_some hl2638
        refine WL.call (some 61) 44 #[(.pointer (some ⟨g2114, 0, none⟩)), (.pointer (some ⟨g2618, 0, none⟩))] (fun fb => by kernel_rfl) (machine_kit_row_calls _ (Kit.mk (Machine.mk t2109.m.States t2109.m.Symbols p0.Actions) t2109.set t2109.does t2109.base) (Runner.mk (Machine.mk x2619 x2620 p0.Actions) (Config.mk x2621 x2622 l2625)) g2114 A_p0_Actions c_p0_Actions A2115 c2116 A2117 c2118 g2618 A_p0_Actions c_p0_Actions A2623 c2624 t2685 _ (hS2684.ow 4) (hS2684.rd 0) (hS2684.ow 5).ofO (hS2684.ow 6).ofO (hS2684.ow 7) (hS2684.rd 0) (hS2684.ow 8).ofO ht2686) (fun v w2687 hR2688 => ?_)
        obtain ⟨A2690, c2691, rfl, hk_⟩ := hR2688
        have hS2689 : St NoS w w2687 [rowR enc_Action A_p0_Actions c_p0_Actions p0.Actions, rowR encInt A_p1_Cells c_p1_Cells p1.Cells] [rowO 3 encInt A2690 c2691 t2685, blk g2655 (.cells #[(.int .i64 t2658.2.m.States), (.int .i64 t2658.2.m.Symbols), (.slice A_p0_Actions p0.Actions.length c_p0_Actions), (.int .i64 t2658.2.Config.State), (.int .i64 t2658.2.Config.At), (.slice A2663 t2658.2.Config.Cells.length c2664)] 82 (0, 0)), rowO 3 encInt A2663 c2664 t2658.2.Config.Cells, blk g2058 (.cells #[(.int .i64 p0.States), (.int .i64 p0.Symbols), (.slice A_p0_Actions p0.Actions.length c_p0_Actions)] 24 (0, 0)), blk g2066 (.cells #[(.int .i64 0), (.int .i64 0), (.slice none 0 0)] 31 (0, 0)), blk g2114 (.cells #[(.int .i64 t2109.m.States), (.int .i64 t2109.m.Symbols), (.slice A_p0_Actions p0.Actions.length c_p0_Actions), (.slice A2115 t2109.set.length c2116), (.slice A2117 t2109.does.length c2118), (.int .i64 t2109.base)] 96 (0, 0)), rowO 65 enc_Tile A2115 c2116 t2109.set, rowO 3 encInt A2117 c2118 t2109.does, blk g2618 (.cells #[(.int .i64 x2619), (.int .i64 x2620), (.slice A_p0_Actions p0.Actions.length c_p0_Actions), (.int .i64 x2621), (.int .i64 x2622), (.slice A2623 l2625.length c2624)] 82 (0, 0)), rowO 3 encInt A2623 c2624 l2625, blk g2127 (.cells #[(.int .i64 (p1.Cells.length : Int)), (.int .i64 p2), (.slice A2626 l2628.length c2627)] 31 (0, 0)), rowO 3 encInt A2626 c2627 l2628] := hS2684.call hk_ [] [0, 1, 2, 3, 4, 5, 6, 7, 8, 9, 10] (fun g hg => hg.elim) (by simp) (by decide)
        refine ⟨⟨hS2689.cell 10 rfl 2 rfl, trivial⟩, ?_⟩
        obtain ⟨h2692, hl2638⟩ := as_some hl2638
        refine WL.append hS2689 11 (d := 62) (tS := 25) (z := (.int .i64 0)) (bytes := 8) (c2 := c2691) rfl (fun fb => by kernel_rfl) (rowO.rd (hS2689.own 0).1) (by kernel_rfl) (by kernel_rfl) rfl (by decide) h2692 (by decide) [0, 1, 2, 3, 4, 5, 6, 7, 8, 9, 10] (by decide) (by decide) (fun A2693 c2694 w2695 hS2696 => ?_)
        refine ⟨trivial, ?_⟩
        refine seg 7 [] [3, 6, 8, 10, 11, 44, 45, 62, 63] [(3, (.pointer (some ⟨g2058, 0, none⟩))), (6, (.pointer (some ⟨g2066, 0, none⟩))), (8, (.pointer (some ⟨g2114, 0, none⟩))), (10, (.pointer (some ⟨g2127, 0, none⟩))), (11, (.pointer (some ⟨g2655, 0, none⟩))), (44, (.int .i64 p2)), (45, (.int .i64 x2629)), (62, (.slice A2693 (l2628 ++ t2685).length c2694)), (63, (.pointer (some ⟨g2127, 2, none⟩)))] [] (fun fb => by kernel_rfl) rfl trivial ?_
        refine WL.store hS2696 11 rfl [(2, (.slice A2693 (l2628 ++ t2685).length c2694))] #[(.int .i64 (p1.Cells.length : Int)), (.int .i64 p2), (.slice A2693 (l2628 ++ t2685).length c2694)] (fun fb => by kernel_rfl) (by kernel_rfl) rfl [0, 1, 2, 3, 4, 5, 6, 7, 8, 9, 10] (by decide) (by decide) (fun w2697 hS2698 => ?_)
        refine ⟨trivial, ?_⟩
        refine WL.done rfl ?_
        refine WX.next ?_
        refine WC.region ?_
        refine seg 2 [] [3, 6, 8, 9, 10, 44, 45] [(3, (.pointer (some ⟨g2058, 0, none⟩))), (6, (.pointer (some ⟨g2066, 0, none⟩))), (8, (.pointer (some ⟨g2114, 0, none⟩))), (9, (.pointer (some ⟨g2655, 0, none⟩))), (10, (.pointer (some ⟨g2127, 0, none⟩))), (44, (.int .i64 p2)), (45, (.int .i64 x2629))] [] (fun fb => by kernel_rfl) rfl trivial ?_
        refine WL.done rfl ?_
        refine WX.blockN (WX.next ?_)
        refine WC.region ?_
        refine seg 2 [] [3, 6, 8, 9, 10, 44, 45] [(3, (.pointer (some ⟨g2058, 0, none⟩))), (6, (.pointer (some ⟨g2066, 0, none⟩))), (8, (.pointer (some ⟨g2114, 0, none⟩))), (9, (.pointer (some ⟨g2655, 0, none⟩))), (10, (.pointer (some ⟨g2127, 0, none⟩))), (44, (.int .i64 p2)), (45, (.int .i64 (w64 (x2629 + 1))))] [] (fun fb => by kernel_rfl) rfl trivial ?_
        refine WL.done rfl ?_
        exact WX.again k2635 (Nat.lt_succ_self _) ((t2658.2.m.States, t2658.2.m.Symbols, t2658.2.Config.State, t2658.2.Config.At, t2658.2.Config.Cells, l2628 ++ t2685, w64 (x2629 + 1)), g2655, A2663, c2664, A2693, c2694) [3, 6, 8, 9, 10, 44, 45] rfl ⟨(hS2698.subR [0, 1]).sub [5, 6, 7, 8, 9, 3, 4, 0, 1] (by decide), hl2638⟩
      refine WC.condF2 (fun fb => by kernel_rfl) h2639 ?_
      refine WC.exit ?_
      injection hl2638 with hl2638
      exact WX.thenX (WX.thenX (WX.blockHere (WX.to Kx2633 (l2628, A2626, c2627) [6, 10] rfl ⟨(hS2637.subR [0, 1]).sub [1, 7, 8] (by decide), hl2638.symm⟩)))
  rintro ⟨y2702, A2630, c2631⟩ w2699 ⟨hS2700, hq2701⟩
  subst hq2701
  have hf := sum_inr hf
  refine WX.next ?_
  refine WC.seq ?_
  refine WC.region ?_
  refine seg 1 [.v (.int .i64 (p1.Cells.length : Int)), .v (.int .i64 p2), .v (.slice A2630 y2702.length c2631)] [6, 66] [(6, (.pointer (some ⟨g2066, 0, none⟩))), (66, (.agg #[(.int .i64 (p1.Cells.length : Int)), (.int .i64 p2), (.slice A2630 y2702.length c2631)]))] [.cell ⟨g2127, 0, none⟩ (.int .i64 (p1.Cells.length : Int)), .cell ⟨g2127, 1, none⟩ (.int .i64 p2), .cell ⟨g2127, 2, none⟩ (.slice A2630 y2702.length c2631)] (fun fb => by kernel_rfl) rfl ⟨hS2700.cell 1 rfl 0 rfl, hS2700.cell 1 rfl 1 rfl, hS2700.cell 1 rfl 2 rfl, trivial⟩ ?_
  refine WL.store hS2700 0 rfl [(0, (.int .i64 (p1.Cells.length : Int))), (1, (.int .i64 p2)), (2, (.slice A2630 y2702.length c2631))] #[(.int .i64 (p1.Cells.length : Int)), (.int .i64 p2), (.slice A2630 y2702.length c2631)] (fun fb => by kernel_rfl) (by kernel_rfl) rfl [1, 2] (by decide) (by decide) (fun w2704 hS2705 => ?_)
  refine ⟨trivial, ?_⟩
  refine seg 3 [] [6, 7] [(6, (.pointer (some ⟨g2066, 0, none⟩))), (7, (.int .i64 0))] [] (fun fb => by kernel_rfl) rfl trivial ?_
  refine WL.done rfl ?_
  refine WX.next ?_
  refine WC.ret ?_
  injection hf with hf
  subst hf
  exact WX.ret_ [.v (.int .i64 (p1.Cells.length : Int)), .v (.int .i64 p2), .v (.slice A2630 y2702.length c2631)] (.tuple #[(.agg #[(.int .i64 (p1.Cells.length : Int)), (.int .i64 p2), (.slice A2630 y2702.length c2631)]), (.int .i64 0)]) [.cell ⟨g2066, 0, none⟩ (.int .i64 (p1.Cells.length : Int)), .cell ⟨g2066, 1, none⟩ (.int .i64 p2), .cell ⟨g2066, 2, none⟩ (.slice A2630 y2702.length c2631)] (fun fb => by kernel_rfl) ⟨hS2705.cell 0 rfl 0 rfl, hS2705.cell 0 rfl 1 rfl, hS2705.cell 0 rfl 2 rfl, trivial⟩ ⟨_, rfl, A2630, c2631, rfl, (hS2705.sub [2] (by decide)).noR⟩
theorem law08_awake_calls (k : Nat)   (r : Bool) (w : World)  (hf : law08_awake k = some r) :
    CallsR Try.prog 11 #[] w (fun v w' => v = (.bool r) ∧ Keeps NoS w w') := by
  have hS : St NoS w w [] [] := St.init (ro_nil _ _)
  refine enter 52 Try.func11 rfl Try.ntmps11 rfl ?_
  unfold law08_awake at hf
  refine WC.seq ?_
  refine WC.region ?_
  refine seg 1 [] [] [] [] (fun fb => by kernel_rfl) rfl trivial ?_
  refine WL.done rfl ?_
  refine WX.next ?_
  refine WC.seq ?_
  refine WC.region ?_
  obtain ⟨t42, ht43, hf⟩ := bind_some hf
  refine WL.call (some 9) 40 #[] (fun fb => by kernel_rfl) (law08_goes_calls t42 _ ht43) (fun v w44 hR45 => ?_)
  obtain ⟨A47, c48, rfl, hk_⟩ := hR45
  have hS46 : St NoS w w44 [] [rowO 88 enc_Action A47 c48 t42.Actions] := hS.call hk_ [] [] (fun g hg => hg.elim) (by simp) (by decide)
  refine ⟨trivial, ?_⟩
  obtain ⟨t1491, ht1492, hf⟩ := bind_some hf
  refine WL.call (some 10) 25 #[(.agg #[(.int .i64 t42.States), (.int .i64 t42.Symbols), (.slice A47 t42.Actions.length c48)])] (fun fb => by kernel_rfl) (machine_Tiles_calls _ t42 A47 c48 t1491 _ (hS46.ow 0).ofO ht1492) (fun v w1493 hR1494 => ?_)
  obtain ⟨A1496, c1497, rfl, hk_⟩ := hR1494
  have hS1495 : St NoS w w1493 [] [rowO 65 enc_Tile A1496 c1497 t1491.1, rowO 88 enc_Action A47 c48 t42.Actions] := hS46.call hk_ [] [0] (fun g hg => hg.elim) (by simp) (by decide)
  refine ⟨trivial, ?_⟩
  refine seg 7 [] [1, 2] [(1, (.slice A1496 t1491.1.length c1497)), (2, (.int .i64 t1491.2))] [] (fun fb => by kernel_rfl) rfl trivial ?_
  refine WL.done rfl ?_
  refine WX.next ?_
  refine WC.seq ?_
  refine WC.region ?_
  obtain ⟨t1498, ht1499, hf⟩ := bind_some hf
  refine WL.call (some 14) 40 #[] (fun fb => by kernel_rfl) (law08_goes_calls t1498 _ ht1499) (fun v w1500 hR1501 => ?_)
  obtain ⟨A1503, c1504, rfl, hk_⟩ := hR1501
  have hS1502 : St NoS w w1500 [] [rowO 88 enc_Action A1503 c1504 t1498.Actions, rowO 65 enc_Tile A1496 c1497 t1491.1, rowO 88 enc_Action A47 c48 t42.Actions] := hS1495.call hk_ [] [0, 1] (fun g hg => hg.elim) (by simp) (by decide)
  refine ⟨trivial, ?_⟩
  refine WL.new hS1502 15 [] (fun g => (.slice (some ⟨g, 0, none⟩) 3 3)) (.cells #[(.int .i64 0), (.int .i64 0), (.int .i64 0)] 3 (0, 0)) [] (fun fb g => by kernel_rfl) trivial (fun g1505 w1506 hS1507 => ?_)
  refine ⟨trivial, ?_⟩
  have hS1509 : St NoS w w1506 [] [rowO 3 encInt (some ⟨g1505, 0, none⟩) 3 [0, 0, 0], rowO 88 enc_Action A1503 c1504 t1498.Actions, rowO 65 enc_Tile A1496 c1497 t1491.1, rowO 88 enc_Action A47 c48 t42.Actions] := hS1507.map1 0 _ (fun h => rowO.ofBlk h rfl (Nat.le_of_ble_eq_true (by kernel_rfl))) (fun _ h => by obtain ⟨_, h1, h2⟩ := h; injection h1 with h1; subst h1; exact h2) [1, 2, 3] (by decide) (by decide)
  refine seg 3 [] [1, 2, 14, 16] [(1, (.slice A1496 t1491.1.length c1497)), (2, (.int .i64 t1491.2)), (14, (.agg #[(.int .i64 t1498.States), (.int .i64 t1498.Symbols), (.slice A1503 t1498.Actions.length c1504)])), (16, (.agg #[(.int .i64 0), (.int .i64 0), (.slice (some ⟨g1505, 0, none⟩) [0, 0, 0].length 3)]))] [] (fun fb => by kernel_rfl) rfl trivial ?_
  obtain ⟨t2033, ht2034, hf⟩ := bind_some hf
  refine WL.call (some 17) 20 #[(.agg #[(.int .i64 t1498.States), (.int .i64 t1498.Symbols), (.slice A1503 t1498.Actions.length c1504)]), (.agg #[(.int .i64 0), (.int .i64 0), (.slice (some ⟨g1505, 0, none⟩) [0, 0, 0].length 3)]), (.int .i64 9)] (fun fb => by kernel_rfl) (machine_Run_calls _ t1498 (Config.mk 0 0 [0, 0, 0]) 9 A1503 c1504 (some ⟨g1505, 0, none⟩) 3 t2033 _ (hS1509.ow 1).ofO (hS1509.ow 0).ofO ht2034) (fun v w2035 hR2036 => ?_)
  obtain ⟨A2038, c2039, rfl, hk_⟩ := hR2036
  have hS2037 : St NoS w w2035 [] [rowO 3 encInt A2038 c2039 t2033.1.Cells, rowO 3 encInt (some ⟨g1505, 0, none⟩) 3 [0, 0, 0], rowO 88 enc_Action A1503 c1504 t1498.Actions, rowO 65 enc_Tile A1496 c1497 t1491.1, rowO 88 enc_Action A47 c48 t42.Actions] := hS1509.call hk_ [] [0, 1, 2, 3] (fun g hg => hg.elim) (by simp) (by decide)
  refine ⟨trivial, ?_⟩
  refine seg 8 [] [1, 2, 18, 19, 20] [(1, (.slice A1496 t1491.1.length c1497)), (2, (.int .i64 t1491.2)), (18, (.agg #[(.int .i64 t2033.1.State), (.int .i64 t2033.1.At), (.slice A2038 t2033.1.Cells.length c2039)])), (19, (.int .i64 t2033.2.1)), (20, (.int .i64 t2033.2.2))] [] (fun fb => by kernel_rfl) rfl trivial ?_
  refine WL.new hS2037 3 [] (fun g => (.pointer (some ⟨g, 0, none⟩))) (.cells #[(.int .i64 0), (.int .i64 0), (.slice none 0 0)] 27 (0, 0)) [] (fun fb g => by kernel_rfl) trivial (fun g2040 w2041 hS2042 => ?_)
  refine ⟨trivial, ?_⟩
  refine WL.store hS2042 0 rfl [(0, (.int .i64 t2033.1.State)), (1, (.int .i64 t2033.1.At)), (2, (.slice A2038 t2033.1.Cells.length c2039))] #[(.int .i64 t2033.1.State), (.int .i64 t2033.1.At), (.slice A2038 t2033.1.Cells.length c2039)] (fun fb => by kernel_rfl) (by kernel_rfl) rfl [1, 2, 3, 4, 5] (by decide) (by decide) (fun w2044 hS2045 => ?_)
  refine ⟨trivial, ?_⟩
  refine seg 12 [] [1, 2, 3, 4, 5] [(1, (.slice A1496 t1491.1.length c1497)), (2, (.int .i64 t1491.2)), (3, (.pointer (some ⟨g2040, 0, none⟩))), (4, (.int .i64 t2033.2.1)), (5, (.int .i64 t2033.2.2))] [] (fun fb => by kernel_rfl) rfl trivial ?_
  refine WL.done rfl ?_
  refine WX.next ?_
  refine WC.seq ?_
  refine WC.region ?_
  obtain ⟨t2046, ht2047, hf⟩ := bind_some hf
  refine WL.call (some 22) 40 #[] (fun fb => by kernel_rfl) (law08_goes_calls t2046 _ ht2047) (fun v w2048 hR2049 => ?_)
  obtain ⟨A2051, c2052, rfl, hk_⟩ := hR2049
  have hS2050 : St NoS w w2048 [] [rowO 88 enc_Action A2051 c2052 t2046.Actions, blk g2040 (.cells #[(.int .i64 t2033.1.State), (.int .i64 t2033.1.At), (.slice A2038 t2033.1.Cells.length c2039)] 27 (0, 0)), rowO 3 encInt A2038 c2039 t2033.1.Cells, rowO 3 encInt (some ⟨g1505, 0, none⟩) 3 [0, 0, 0], rowO 88 enc_Action A1503 c1504 t1498.Actions, rowO 65 enc_Tile A1496 c1497 t1491.1, rowO 88 enc_Action A47 c48 t42.Actions] := hS2045.call hk_ [] [0, 1, 2, 3, 4, 5] (fun g hg => hg.elim) (by simp) (by decide)
  refine ⟨trivial, ?_⟩
  refine WL.new hS2050 23 [] (fun g => (.slice (some ⟨g, 0, none⟩) 3 3)) (.cells #[(.int .i64 0), (.int .i64 0), (.int .i64 0)] 3 (0, 0)) [] (fun fb g => by kernel_rfl) trivial (fun g2053 w2054 hS2055 => ?_)
  refine ⟨trivial, ?_⟩
  have hS2057 : St NoS w w2054 [] [rowO 3 encInt (some ⟨g2053, 0, none⟩) 3 [0, 0, 0], rowO 88 enc_Action A2051 c2052 t2046.Actions, blk g2040 (.cells #[(.int .i64 t2033.1.State), (.int .i64 t2033.1.At), (.slice A2038 t2033.1.Cells.length c2039)] 27 (0, 0)), rowO 3 encInt A2038 c2039 t2033.1.Cells, rowO 3 encInt (some ⟨g1505, 0, none⟩) 3 [0, 0, 0], rowO 88 enc_Action A1503 c1504 t1498.Actions, rowO 65 enc_Tile A1496 c1497 t1491.1, rowO 88 enc_Action A47 c48 t42.Actions] := hS2055.map1 0 _ (fun h => rowO.ofBlk h rfl (Nat.le_of_ble_eq_true (by kernel_rfl))) (fun _ h => by obtain ⟨_, h1, h2⟩ := h; injection h1 with h1; subst h1; exact h2) [1, 2, 3, 4, 5, 6, 7] (by decide) (by decide)
  refine seg 3 [] [1, 2, 3, 4, 5, 22, 24] [(1, (.slice A1496 t1491.1.length c1497)), (2, (.int .i64 t1491.2)), (3, (.pointer (some ⟨g2040, 0, none⟩))), (4, (.int .i64 t2033.2.1)), (5, (.int .i64 t2033.2.2)), (22, (.agg #[(.int .i64 t2046.States), (.int .i64 t2046.Symbols), (.slice A2051 t2046.Actions.length c2052)])), (24, (.agg #[(.int .i64 0), (.int .i64 0), (.slice (some ⟨g2053, 0, none⟩) [0, 0, 0].length 3)]))] [] (fun fb => by kernel_rfl) rfl trivial ?_
  obtain ⟨t2706, ht2707, hf⟩ := bind_some hf
  refine WL.call (some 25) 12 #[(.agg #[(.int .i64 t2046.States), (.int .i64 t2046.Symbols), (.slice A2051 t2046.Actions.length c2052)]), (.agg #[(.int .i64 0), (.int .i64 0), (.slice (some ⟨g2053, 0, none⟩) [0, 0, 0].length 3)]), (.int .i64 3)] (fun fb => by kernel_rfl) (machine_Picture_calls _ t2046 (Config.mk 0 0 [0, 0, 0]) 3 A2051 c2052 (some ⟨g2053, 0, none⟩) 3 t2706 _ (hS2057.ow 1).ofO (hS2057.ow 0).ofO ht2707) (fun v w2708 hR2709 => ?_)
  obtain ⟨A2711, c2712, rfl, hk_⟩ := hR2709
  have hS2710 : St NoS w w2708 [] [rowO 3 encInt A2711 c2712 t2706.1.Cells, rowO 3 encInt (some ⟨g2053, 0, none⟩) 3 [0, 0, 0], rowO 88 enc_Action A2051 c2052 t2046.Actions, blk g2040 (.cells #[(.int .i64 t2033.1.State), (.int .i64 t2033.1.At), (.slice A2038 t2033.1.Cells.length c2039)] 27 (0, 0)), rowO 3 encInt A2038 c2039 t2033.1.Cells, rowO 3 encInt (some ⟨g1505, 0, none⟩) 3 [0, 0, 0], rowO 88 enc_Action A1503 c1504 t1498.Actions, rowO 65 enc_Tile A1496 c1497 t1491.1, rowO 88 enc_Action A47 c48 t42.Actions] := hS2057.call hk_ [] [0, 1, 2, 3, 4, 5, 6, 7] (fun g hg => hg.elim) (by simp) (by decide)
  refine ⟨trivial, ?_⟩
  refine seg 7 [] [1, 2, 3, 4, 5, 26, 27] [(1, (.slice A1496 t1491.1.length c1497)), (2, (.int .i64 t1491.2)), (3, (.pointer (some ⟨g2040, 0, none⟩))), (4, (.int .i64 t2033.2.1)), (5, (.int .i64 t2033.2.2)), (26, (.agg #[(.int .i64 t2706.1.Width), (.int .i64 t2706.1.Height), (.slice A2711 t2706.1.Cells.length c2712)])), (27, (.int .i64 t2706.2))] [] (fun fb => by kernel_rfl) rfl trivial ?_
  refine WL.new hS2710 6 [] (fun g => (.pointer (some ⟨g, 0, none⟩))) (.cells #[(.int .i64 0), (.int .i64 0), (.slice none 0 0)] 31 (0, 0)) [] (fun fb g => by kernel_rfl) trivial (fun g2713 w2714 hS2715 => ?_)
  refine ⟨trivial, ?_⟩
  refine WL.store hS2715 0 rfl [(0, (.int .i64 t2706.1.Width)), (1, (.int .i64 t2706.1.Height)), (2, (.slice A2711 t2706.1.Cells.length c2712))] #[(.int .i64 t2706.1.Width), (.int .i64 t2706.1.Height), (.slice A2711 t2706.1.Cells.length c2712)] (fun fb => by kernel_rfl) (by kernel_rfl) rfl [1, 2, 3, 4, 5, 6, 7, 8, 9] (by decide) (by decide) (fun w2717 hS2718 => ?_)
  refine ⟨trivial, ?_⟩
  refine seg 10 [] [1, 2, 3, 4, 5, 7] [(1, (.slice A1496 t1491.1.length c1497)), (2, (.int .i64 t1491.2)), (3, (.pointer (some ⟨g2040, 0, none⟩))), (4, (.int .i64 t2033.2.1)), (5, (.int .i64 t2033.2.2)), (7, (.int .i64 t2706.2))] [] (fun fb => by kernel_rfl) rfl trivial ?_
  refine WL.done rfl ?_
  refine WX.next ?_
  refine WC.seq ?_
  refine WC.region ?_
  refine seg 3 [] [1, 3, 4, 5, 7, 30] [(1, (.slice A1496 t1491.1.length c1497)), (3, (.pointer (some ⟨g2040, 0, none⟩))), (4, (.int .i64 t2033.2.1)), (5, (.int .i64 t2033.2.2)), (7, (.int .i64 t2706.2)), (30, (.bool (t1491.2 == 0)))] [] (fun fb => by kernel_rfl) rfl trivial ?_
  refine WL.cutV (T := Bool) 7 (fun t => [(34, (.bool t)), (3, (.pointer (some ⟨g2040, 0, none⟩))), (4, (.int .i64 t2033.2.1)), (5, (.int .i64 t2033.2.2)), (7, (.int .i64 t2706.2))]) (fun t => t = ((t1491.2 == 0) && ((t1491.1.length : Int) == 8))) (fun K => ?_) ?_
  ·
    rcases Bool.eq_false_or_eq_true (t1491.2 == 0) with h2719 | h2719
    ·
      refine WL.setB 30 h2719 rfl ?_
      refine seg 7 [] [3, 4, 5, 7, 34] [(3, (.pointer (some ⟨g2040, 0, none⟩))), (4, (.int .i64 t2033.2.1)), (5, (.int .i64 t2033.2.2)), (7, (.int .i64 t2706.2)), (34, (.bool ((t1491.1.length : Int) == 8)))] [] (fun fb => by kernel_rfl) rfl trivial ?_
      exact WL.toV K ((t1491.1.length : Int) == 8) [34, 3, 4, 5, 7] rfl (by rw [h2719]; rfl)
    refine WL.setB 30 h2719 rfl ?_
    refine seg 7 [] [3, 4, 5, 7, 34] [(3, (.pointer (some ⟨g2040, 0, none⟩))), (4, (.int .i64 t2033.2.1)), (5, (.int .i64 t2033.2.2)), (7, (.int .i64 t2706.2)), (34, (.bool false))] [] (fun fb => by kernel_rfl) rfl trivial ?_
    exact WL.toV K false [34, 3, 4, 5, 7] rfl (by rw [h2719]; rfl)
  rintro b2720 rfl
  refine seg 8 [] [3, 4, 5, 7, 35] [(3, (.pointer (some ⟨g2040, 0, none⟩))), (4, (.int .i64 t2033.2.1)), (5, (.int .i64 t2033.2.2)), (7, (.int .i64 t2706.2)), (35, (.bool ((t1491.2 == 0) && ((t1491.1.length : Int) == 8))))] [] (fun fb => by kernel_rfl) rfl trivial ?_
  refine WL.cutV (T := Bool) 11 (fun t => [(38, (.bool t)), (3, (.pointer (some ⟨g2040, 0, none⟩))), (4, (.int .i64 t2033.2.1)), (7, (.int .i64 t2706.2))]) (fun t => t = (((t1491.2 == 0) && ((t1491.1.length : Int) == 8)) && (t2033.2.2 == 0))) (fun K => ?_) ?_
  ·
    rcases Bool.eq_false_or_eq_true ((t1491.2 == 0) && ((t1491.1.length : Int) == 8)) with h2721 | h2721
    ·
      refine WL.setB 35 h2721 rfl ?_
      refine seg 11 [] [3, 4, 7, 38] [(3, (.pointer (some ⟨g2040, 0, none⟩))), (4, (.int .i64 t2033.2.1)), (7, (.int .i64 t2706.2)), (38, (.bool (t2033.2.2 == 0)))] [] (fun fb => by kernel_rfl) rfl trivial ?_
      exact WL.toV K (t2033.2.2 == 0) [38, 3, 4, 7] rfl (by rw [h2721]; rfl)
    refine WL.setB 35 h2721 rfl ?_
    refine seg 11 [] [3, 4, 7, 38] [(3, (.pointer (some ⟨g2040, 0, none⟩))), (4, (.int .i64 t2033.2.1)), (7, (.int .i64 t2706.2)), (38, (.bool false))] [] (fun fb => by kernel_rfl) rfl trivial ?_
    exact WL.toV K false [38, 3, 4, 7] rfl (by rw [h2721]; rfl)
  rintro b2722 rfl
  refine seg 12 [] [3, 4, 7, 39] [(3, (.pointer (some ⟨g2040, 0, none⟩))), (4, (.int .i64 t2033.2.1)), (7, (.int .i64 t2706.2)), (39, (.bool (((t1491.2 == 0) && ((t1491.1.length : Int) == 8)) && (t2033.2.2 == 0))))] [] (fun fb => by kernel_rfl) rfl trivial ?_
  refine WL.cutV (T := Bool) 15 (fun t => [(42, (.bool t)), (3, (.pointer (some ⟨g2040, 0, none⟩))), (7, (.int .i64 t2706.2))]) (fun t => t = ((((t1491.2 == 0) && ((t1491.1.length : Int) == 8)) && (t2033.2.2 == 0)) && (t2033.2.1 == 2))) (fun K => ?_) ?_
  ·
    rcases Bool.eq_false_or_eq_true (((t1491.2 == 0) && ((t1491.1.length : Int) == 8)) && (t2033.2.2 == 0)) with h2723 | h2723
    ·
      refine WL.setB 39 h2723 rfl ?_
      refine seg 15 [] [3, 7, 42] [(3, (.pointer (some ⟨g2040, 0, none⟩))), (7, (.int .i64 t2706.2)), (42, (.bool (t2033.2.1 == 2)))] [] (fun fb => by kernel_rfl) rfl trivial ?_
      exact WL.toV K (t2033.2.1 == 2) [42, 3, 7] rfl (by rw [h2723]; rfl)
    refine WL.setB 39 h2723 rfl ?_
    refine seg 15 [] [3, 7, 42] [(3, (.pointer (some ⟨g2040, 0, none⟩))), (7, (.int .i64 t2706.2)), (42, (.bool false))] [] (fun fb => by kernel_rfl) rfl trivial ?_
    exact WL.toV K false [42, 3, 7] rfl (by rw [h2723]; rfl)
  rintro b2724 rfl
  refine seg 16 [] [3, 7, 43] [(3, (.pointer (some ⟨g2040, 0, none⟩))), (7, (.int .i64 t2706.2)), (43, (.bool ((((t1491.2 == 0) && ((t1491.1.length : Int) == 8)) && (t2033.2.2 == 0)) && (t2033.2.1 == 2))))] [] (fun fb => by kernel_rfl) rfl trivial ?_
  refine WL.cutV (T := Bool) 20 (fun t => [(47, (.bool t)), (7, (.int .i64 t2706.2))]) (fun t => t = (((((t1491.2 == 0) && ((t1491.1.length : Int) == 8)) && (t2033.2.2 == 0)) && (t2033.2.1 == 2)) && (t2033.1.At == 2))) (fun K => ?_) ?_
  ·
    rcases Bool.eq_false_or_eq_true ((((t1491.2 == 0) && ((t1491.1.length : Int) == 8)) && (t2033.2.2 == 0)) && (t2033.2.1 == 2)) with h2725 | h2725
    ·
      refine WL.setB 43 h2725 rfl ?_
      refine seg 20 [.v (.int .i64 t2033.1.At)] [7, 47] [(7, (.int .i64 t2706.2)), (47, (.bool (t2033.1.At == 2)))] [.cell ⟨g2040, 1, none⟩ (.int .i64 t2033.1.At)] (fun fb => by kernel_rfl) rfl ⟨hS2718.cell 4 rfl 1 rfl, trivial⟩ ?_
      exact WL.toV K (t2033.1.At == 2) [47, 7] rfl (by rw [h2725]; rfl)
    refine WL.setB 43 h2725 rfl ?_
    refine seg 20 [] [7, 47] [(7, (.int .i64 t2706.2)), (47, (.bool false))] [] (fun fb => by kernel_rfl) rfl trivial ?_
    exact WL.toV K false [47, 7] rfl (by rw [h2725]; rfl)
  rintro b2726 rfl
  refine seg 21 [] [7, 48] [(7, (.int .i64 t2706.2)), (48, (.bool (((((t1491.2 == 0) && ((t1491.1.length : Int) == 8)) && (t2033.2.2 == 0)) && (t2033.2.1 == 2)) && (t2033.1.At == 2))))] [] (fun fb => by kernel_rfl) rfl trivial ?_
  refine WL.cutV (T := Bool) 24 (fun t => [(51, (.bool t))]) (fun t => t = ((((((t1491.2 == 0) && ((t1491.1.length : Int) == 8)) && (t2033.2.2 == 0)) && (t2033.2.1 == 2)) && (t2033.1.At == 2)) && (t2706.2 == 6))) (fun K => ?_) ?_
  ·
    rcases Bool.eq_false_or_eq_true (((((t1491.2 == 0) && ((t1491.1.length : Int) == 8)) && (t2033.2.2 == 0)) && (t2033.2.1 == 2)) && (t2033.1.At == 2)) with h2727 | h2727
    ·
      refine WL.setB 48 h2727 rfl ?_
      refine seg 24 [] [51] [(51, (.bool (t2706.2 == 6)))] [] (fun fb => by kernel_rfl) rfl trivial ?_
      exact WL.toV K (t2706.2 == 6) [51] rfl (by rw [h2727]; rfl)
    refine WL.setB 48 h2727 rfl ?_
    refine seg 24 [] [51] [(51, (.bool false))] [] (fun fb => by kernel_rfl) rfl trivial ?_
    exact WL.toV K false [51] rfl (by rw [h2727]; rfl)
  rintro b2728 rfl
  refine seg 25 [] [0] [(0, (.bool ((((((t1491.2 == 0) && ((t1491.1.length : Int) == 8)) && (t2033.2.2 == 0)) && (t2033.2.1 == 2)) && (t2033.1.At == 2)) && (t2706.2 == 6))))] [] (fun fb => by kernel_rfl) rfl trivial ?_
  refine WL.done rfl ?_
  refine WX.next ?_
  refine WC.ret ?_
  injection hf with hf
  subst hf
  exact WX.ret_ [] (.bool ((((((t1491.2 == 0) && ((t1491.1.length : Int) == 8)) && (t2033.2.2 == 0)) && (t2033.2.1 == 2)) && (t2033.1.At == 2)) && (t2706.2 == 6))) [] (fun fb => by kernel_rfl) trivial ⟨_, rfl, rfl, hS2718.keep⟩
theorem ref08_Valid_calls (k : Nat) (p0 : Machine) (A_p0_Actions : Option Addr) (c_p0_Actions : Nat) (r : Bool) (w : World) (hR0 : RO NoS w (rowR enc_Action A_p0_Actions c_p0_Actions p0.Actions)) (hf : ref08_Valid k p0 = some r) :
    CallsR Try.prog 17 #[(.agg #[(.int .i64 p0.States), (.int .i64 p0.Symbols), (.slice A_p0_Actions p0.Actions.length c_p0_Actions)])] w (fun v w' => v = (.bool r) ∧ Keeps NoS w w') := by
  have hS : St NoS w w [rowR enc_Action A_p0_Actions c_p0_Actions p0.Actions] [] := St.init (ro_cons hR0 (ro_nil _ _))
  refine enter 93 Try.func17 rfl Try.ntmps17 rfl ?_
  unfold ref08_Valid at hf
  refine WC.seq ?_
  refine WC.region ?_
  refine WL.new hS 1 [] (fun g => (.pointer (some ⟨g, 0, none⟩))) (.cells #[(.int .i64 p0.States), (.int .i64 p0.Symbols), (.slice A_p0_Actions p0.Actions.length c_p0_Actions)] 24 (0, 0)) [] (fun fb g => by kernel_rfl) trivial (fun g2739 w2740 hS2741 => ?_)
  refine ⟨trivial, ?_⟩
  refine seg 2 [] [1] [(1, (.pointer (some ⟨g2739, 0, none⟩)))] [] (fun fb => by kernel_rfl) rfl trivial ?_
  refine WL.done rfl ?_
  refine WX.next ?_
  refine WC.seq ?_
  refine WC.seq ?_
  refine WC.region ?_
  refine seg 4 [.v (.int .i64 p0.States)] [1, 8] [(1, (.pointer (some ⟨g2739, 0, none⟩))), (8, (.bool (decide (p0.States < 1))))] [.cell ⟨g2739, 0, none⟩ (.int .i64 p0.States)] (fun fb => by kernel_rfl) rfl ⟨hS2741.cell 0 rfl 0 rfl, trivial⟩ ?_
  refine WL.cutV (T := Bool) 8 (fun t => [(12, (.bool t)), (1, (.pointer (some ⟨g2739, 0, none⟩)))]) (fun t => t = ((decide (p0.States < 1)) || (decide (p0.States > 6)))) (fun K => ?_) ?_
  ·
    rcases Bool.eq_false_or_eq_true (decide (p0.States < 1)) with h2743 | h2743
    ·
      refine WL.setB 8 h2743 rfl ?_
      refine seg 8 [] [1, 12] [(1, (.pointer (some ⟨g2739, 0, none⟩))), (12, (.bool true))] [] (fun fb => by kernel_rfl) rfl trivial ?_
      exact WL.toV K true [12, 1] rfl (by rw [h2743]; rfl)
    refine WL.setB 8 h2743 rfl ?_
    refine seg 8 [.v (.int .i64 p0.States)] [1, 12] [(1, (.pointer (some ⟨g2739, 0, none⟩))), (12, (.bool (decide (p0.States > 6))))] [.cell ⟨g2739, 0, none⟩ (.int .i64 p0.States)] (fun fb => by kernel_rfl) rfl ⟨hS2741.cell 0 rfl 0 rfl, trivial⟩ ?_
    exact WL.toV K (decide (p0.States > 6)) [12, 1] rfl (by rw [h2743]; rfl)
  rintro b2744 rfl
  refine seg 9 [] [1, 13] [(1, (.pointer (some ⟨g2739, 0, none⟩))), (13, (.bool ((decide (p0.States < 1)) || (decide (p0.States > 6)))))] [] (fun fb => by kernel_rfl) rfl trivial ?_
  refine WL.cutV (T := Bool) 13 (fun t => [(17, (.bool t)), (1, (.pointer (some ⟨g2739, 0, none⟩)))]) (fun t => t = (((decide (p0.States < 1)) || (decide (p0.States > 6))) || (decide (p0.Symbols < 2)))) (fun K => ?_) ?_
  ·
    rcases Bool.eq_false_or_eq_true ((decide (p0.States < 1)) || (decide (p0.States > 6))) with h2745 | h2745
    ·
      refine WL.setB 13 h2745 rfl ?_
      refine seg 13 [] [1, 17] [(1, (.pointer (some ⟨g2739, 0, none⟩))), (17, (.bool true))] [] (fun fb => by kernel_rfl) rfl trivial ?_
      exact WL.toV K true [17, 1] rfl (by rw [h2745]; rfl)
    refine WL.setB 13 h2745 rfl ?_
    refine seg 13 [.v (.int .i64 p0.Symbols)] [1, 17] [(1, (.pointer (some ⟨g2739, 0, none⟩))), (17, (.bool (decide (p0.Symbols < 2))))] [.cell ⟨g2739, 1, none⟩ (.int .i64 p0.Symbols)] (fun fb => by kernel_rfl) rfl ⟨hS2741.cell 0 rfl 1 rfl, trivial⟩ ?_
    exact WL.toV K (decide (p0.Symbols < 2)) [17, 1] rfl (by rw [h2745]; rfl)
  rintro b2746 rfl
  refine seg 14 [] [1, 18] [(1, (.pointer (some ⟨g2739, 0, none⟩))), (18, (.bool (((decide (p0.States < 1)) || (decide (p0.States > 6))) || (decide (p0.Symbols < 2)))))] [] (fun fb => by kernel_rfl) rfl trivial ?_
  refine WL.cutV (T := Bool) 18 (fun t => [(22, (.bool t)), (1, (.pointer (some ⟨g2739, 0, none⟩)))]) (fun t => t = ((((decide (p0.States < 1)) || (decide (p0.States > 6))) || (decide (p0.Symbols < 2))) || (decide (p0.Symbols > 4)))) (fun K => ?_) ?_
  ·
    rcases Bool.eq_false_or_eq_true (((decide (p0.States < 1)) || (decide (p0.States > 6))) || (decide (p0.Symbols < 2))) with h2747 | h2747
    ·
      refine WL.setB 18 h2747 rfl ?_
      refine seg 18 [] [1, 22] [(1, (.pointer (some ⟨g2739, 0, none⟩))), (22, (.bool true))] [] (fun fb => by kernel_rfl) rfl trivial ?_
      exact WL.toV K true [22, 1] rfl (by rw [h2747]; rfl)
    refine WL.setB 18 h2747 rfl ?_
    refine seg 18 [.v (.int .i64 p0.Symbols)] [1, 22] [(1, (.pointer (some ⟨g2739, 0, none⟩))), (22, (.bool (decide (p0.Symbols > 4))))] [.cell ⟨g2739, 1, none⟩ (.int .i64 p0.Symbols)] (fun fb => by kernel_rfl) rfl ⟨hS2741.cell 0 rfl 1 rfl, trivial⟩ ?_
    exact WL.toV K (decide (p0.Symbols > 4)) [22, 1] rfl (by rw [h2747]; rfl)
  rintro b2748 rfl
  refine seg 19 [] [1, 23] [(1, (.pointer (some ⟨g2739, 0, none⟩))), (23, (.bool ((((decide (p0.States < 1)) || (decide (p0.States > 6))) || (decide (p0.Symbols < 2))) || (decide (p0.Symbols > 4)))))] [] (fun fb => by kernel_rfl) rfl trivial ?_
  refine WL.cutV (T := Bool) 29 (fun t => [(33, (.bool t)), (1, (.pointer (some ⟨g2739, 0, none⟩)))]) (fun t => t = (((((decide (p0.States < 1)) || (decide (p0.States > 6))) || (decide (p0.Symbols < 2))) || (decide (p0.Symbols > 4))) || ((p0.Actions.length : Int) != (w64 (p0.States * p0.Symbols))))) (fun K => ?_) ?_
  ·
    rcases Bool.eq_false_or_eq_true ((((decide (p0.States < 1)) || (decide (p0.States > 6))) || (decide (p0.Symbols < 2))) || (decide (p0.Symbols > 4))) with h2749 | h2749
    ·
      refine WL.setB 23 h2749 rfl ?_
      refine seg 29 [] [1, 33] [(1, (.pointer (some ⟨g2739, 0, none⟩))), (33, (.bool true))] [] (fun fb => by kernel_rfl) rfl trivial ?_
      exact WL.toV K true [33, 1] rfl (by rw [h2749]; rfl)
    refine WL.setB 23 h2749 rfl ?_
    refine seg 29 [.v (.slice A_p0_Actions p0.Actions.length c_p0_Actions), .v (.int .i64 p0.States), .v (.int .i64 p0.Symbols)] [1, 33] [(1, (.pointer (some ⟨g2739, 0, none⟩))), (33, (.bool ((p0.Actions.length : Int) != (w64 (p0.States * p0.Symbols)))))] [.cell ⟨g2739, 2, none⟩ (.slice A_p0_Actions p0.Actions.length c_p0_Actions), .cell ⟨g2739, 0, none⟩ (.int .i64 p0.States), .cell ⟨g2739, 1, none⟩ (.int .i64 p0.Symbols)] (fun fb => by kernel_rfl) rfl ⟨hS2741.cell 0 rfl 2 rfl, hS2741.cell 0 rfl 0 rfl, hS2741.cell 0 rfl 1 rfl, trivial⟩ ?_
    exact WL.toV K ((p0.Actions.length : Int) != (w64 (p0.States * p0.Symbols))) [33, 1] rfl (by rw [h2749]; rfl)
  rintro b2750 rfl
  refine WL.done rfl ?_
  refine WX.next ?_
  rcases br_some hf with ⟨h2751, hf⟩ | ⟨h2751, hf⟩
  · refine WC.condT2 (fun fb => by kernel_rfl) h2751 ?_
    refine WC.seq ?_
    refine WC.region ?_
    refine seg 1 [] [2] [(2, (.bool false))] [] (fun fb => by kernel_rfl) rfl trivial ?_
    refine WL.done rfl ?_
    refine WX.next ?_
    refine WC.ret ?_
    injection hf with hf
    subst hf
    exact WX.thenR (WX.ret_ [] (.bool false) [] (fun fb => by kernel_rfl) trivial ⟨_, rfl, rfl, hS2741.keep⟩)
  refine WC.condF2 (fun fb => by kernel_rfl) h2751 ?_
  refine WC.skip ?_
  refine WX.next ?_
  refine WC.seq ?_
  refine WC.seq ?_
  refine WC.region ?_
  refine seg 1 [] [1, 3] [(1, (.pointer (some ⟨g2739, 0, none⟩))), (3, (.int .i64 0))] [] (fun fb => by kernel_rfl) rfl trivial ?_
  refine WL.done rfl ?_
  refine WX.next ?_
  obtain ⟨x2810, hx2811, hf⟩ := bind_some hf
  refine WC.cutN (T := Unit) (fun t => []) (fun t w1 => St NoS w w1 [rowR enc_Action A_p0_Actions c_p0_Actions p0.Actions] [] ∧ x2810 = .inr t) (fun Kx2810 => ?_) ?_
  ·
    refine WC.block ?_
    refine WC.loop (T := Int) (fun t => [(1, (.pointer (some ⟨g2739, 0, none⟩))), (3, (.int .i64 t))]) (fun n t w1 => St NoS w w1 [rowR enc_Action A_p0_Actions c_p0_Actions p0.Actions] [blk g2739 (.cells #[(.int .i64 p0.States), (.int .i64 p0.Symbols), (.slice A_p0_Actions p0.Actions.length c_p0_Actions)] 24 (0, 0))] ∧ ref08_Valid.l0 n t p0 = some x2810) k 0 [1, 3] rfl ⟨(hS2741.subR [0]).sub [0] (by decide), hx2811⟩ ?_
    rintro k2812 x2809 w2813 ⟨hS2814, hl2815⟩
    cases k2812 with
    | zero => rw [ref08_Valid.l0] at hl2815; cases hl2815
    | succ k2812 =>
      rw [ref08_Valid.l0] at hl2815
      refine WC.seq ?_
      refine WC.seq ?_
      refine WC.region ?_
      refine seg 5 [.v (.slice A_p0_Actions p0.Actions.length c_p0_Actions)] [1, 3, 38] [(1, (.pointer (some ⟨g2739, 0, none⟩))), (3, (.int .i64 x2809)), (38, (.bool (decide (x2809 < (p0.Actions.length : Int)))))] [.cell ⟨g2739, 2, none⟩ (.slice A_p0_Actions p0.Actions.length c_p0_Actions)] (fun fb => by kernel_rfl) rfl ⟨hS2814.cell 0 rfl 2 rfl, trivial⟩ ?_
      refine WL.done rfl ?_
      refine WX.next ?_
      rcases br_some hl2815 with ⟨h2816, hl2815⟩ | ⟨h2816, hl2815⟩
      · refine WC.condT2 (fun fb => by kernel_rfl) h2816 ?_
        refine WC.skip ?_
        refine WX.next ?_
        refine WC.seq ?_
        refine WC.block ?_
        refine WC.seq ?_
        refine WC.region ?_
        refine seg 3 [.v (.slice A_p0_Actions p0.Actions.length c_p0_Actions)] [1, 3, 42, 43] [(1, (.pointer (some ⟨g2739, 0, none⟩))), (3, (.int .i64 x2809)), (42, (.slice A_p0_Actions p0.Actions.length c_p0_Actions)), (43, (.int .i64 x2809))] [.cell ⟨g2739, 2, none⟩ (.slice A_p0_Actions p0.Actions.length c_p0_Actions)] (fun fb => by kernel_rfl) rfl ⟨hS2814.cell 0 rfl 2 rfl, trivial⟩ ?_
        obtain ⟨h2817, hl2815⟩ := as_some hl2815
        refine seg 5 [.v (.int .i64 ((rdD p0.Actions x2809 z_Action).Write)), .v (.int .i64 ((rdD p0.Actions x2809 z_Action).Move)), .v (.int .i64 ((rdD p0.Actions x2809 z_Action).Next))] [1, 3, 45] [(1, (.pointer (some ⟨g2739, 0, none⟩))), (3, (.int .i64 x2809)), (45, (.agg #[(.int .i64 ((rdD p0.Actions x2809 z_Action).Write)), (.int .i64 ((rdD p0.Actions x2809 z_Action).Move)), (.int .i64 ((rdD p0.Actions x2809 z_Action).Next))]))] [.idx A_p0_Actions x2809 p0.Actions.length, .cell ((adr A_p0_Actions).add ((x2809).toNat * 3)) (.int .i64 ((rdD p0.Actions x2809 z_Action).Write)), .cell (((adr A_p0_Actions).add ((x2809).toNat * 3)).add 1) (.int .i64 ((rdD p0.Actions x2809 z_Action).Move)), .cell (((adr A_p0_Actions).add ((x2809).toNat * 3)).add 2) (.int .i64 ((rdD p0.Actions x2809 z_Action).Next))] (fun fb => by kernel_rfl) rfl ⟨rowR.adr (hS2814.rd 0).1 h2817.1 h2817.2, rowR.cell (hS2814.rd 0).1 z_Action h2817.1 h2817.2 0 rfl, rowR.cell (hS2814.rd 0).1 z_Action h2817.1 h2817.2 1 rfl, rowR.cell (hS2814.rd 0).1 z_Action h2817.1 h2817.2 2 rfl, trivial⟩ ?_
        refine WL.new hS2814 4 [] (fun g => (.pointer (some ⟨g, 0, none⟩))) (.cells #[(.int .i64 0), (.int .i64 0), (.int .i64 0)] 88 (0, 0)) [] (fun fb g => by kernel_rfl) trivial (fun g2818 w2819 hS2820 => ?_)
        refine ⟨trivial, ?_⟩
        refine WL.store hS2820 0 rfl [(0, (.int .i64 ((rdD p0.Actions x2809 z_Action).Write))), (1, (.int .i64 ((rdD p0.Actions x2809 z_Action).Move))), (2, (.int .i64 ((rdD p0.Actions x2809 z_Action).Next)))] #[(.int .i64 ((rdD p0.Actions x2809 z_Action).Write)), (.int .i64 ((rdD p0.Actions x2809 z_Action).Move)), (.int .i64 ((rdD p0.Actions x2809 z_Action).Next))] (fun fb => by kernel_rfl) (by kernel_rfl) rfl [1] (by decide) (by decide) (fun w2822 hS2823 => ?_)
        refine ⟨trivial, ?_⟩
        refine WL.done rfl ?_
        refine WX.next ?_
        refine WC.seq ?_
        refine WC.seq ?_
        refine WC.region ?_
        refine seg 4 [.v (.int .i64 ((rdD p0.Actions x2809 z_Action).Write))] [1, 3, 4, 49] [(1, (.pointer (some ⟨g2739, 0, none⟩))), (3, (.int .i64 x2809)), (4, (.pointer (some ⟨g2818, 0, none⟩))), (49, (.bool (decide ((rdD p0.Actions x2809 z_Action).Write < 0))))] [.cell ⟨g2818, 0, none⟩ (.int .i64 ((rdD p0.Actions x2809 z_Action).Write))] (fun fb => by kernel_rfl) rfl ⟨hS2823.cell 0 rfl 0 rfl, trivial⟩ ?_
        refine WL.cutV (T := Bool) 10 (fun t => [(55, (.bool t)), (1, (.pointer (some ⟨g2739, 0, none⟩))), (3, (.int .i64 x2809)), (4, (.pointer (some ⟨g2818, 0, none⟩)))]) (fun t => t = ((decide ((rdD p0.Actions x2809 z_Action).Write < 0)) || (decide ((rdD p0.Actions x2809 z_Action).Write ≥ p0.Symbols)))) (fun K => ?_) ?_
        ·
          rcases Bool.eq_false_or_eq_true (decide ((rdD p0.Actions x2809 z_Action).Write < 0)) with h2824 | h2824
          ·
            refine WL.setB 49 h2824 rfl ?_
            refine seg 10 [] [1, 3, 4, 55] [(1, (.pointer (some ⟨g2739, 0, none⟩))), (3, (.int .i64 x2809)), (4, (.pointer (some ⟨g2818, 0, none⟩))), (55, (.bool true))] [] (fun fb => by kernel_rfl) rfl trivial ?_
            exact WL.toV K true [55, 1, 3, 4] rfl (by rw [h2824]; rfl)
          refine WL.setB 49 h2824 rfl ?_
          refine seg 10 [.v (.int .i64 ((rdD p0.Actions x2809 z_Action).Write)), .v (.int .i64 p0.Symbols)] [1, 3, 4, 55] [(1, (.pointer (some ⟨g2739, 0, none⟩))), (3, (.int .i64 x2809)), (4, (.pointer (some ⟨g2818, 0, none⟩))), (55, (.bool (decide ((rdD p0.Actions x2809 z_Action).Write ≥ p0.Symbols))))] [.cell ⟨g2818, 0, none⟩ (.int .i64 ((rdD p0.Actions x2809 z_Action).Write)), .cell ⟨g2739, 1, none⟩ (.int .i64 p0.Symbols)] (fun fb => by kernel_rfl) rfl ⟨hS2823.cell 0 rfl 0 rfl, hS2823.cell 1 rfl 1 rfl, trivial⟩ ?_
          exact WL.toV K (decide ((rdD p0.Actions x2809 z_Action).Write ≥ p0.Symbols)) [55, 1, 3, 4] rfl (by rw [h2824]; rfl)
        rintro b2825 rfl
        refine seg 11 [] [1, 3, 4, 56] [(1, (.pointer (some ⟨g2739, 0, none⟩))), (3, (.int .i64 x2809)), (4, (.pointer (some ⟨g2818, 0, none⟩))), (56, (.bool ((decide ((rdD p0.Actions x2809 z_Action).Write < 0)) || (decide ((rdD p0.Actions x2809 z_Action).Write ≥ p0.Symbols)))))] [] (fun fb => by kernel_rfl) rfl trivial ?_
        refine WL.cutV (T := Bool) 20 (fun t => [(65, (.bool t)), (1, (.pointer (some ⟨g2739, 0, none⟩))), (3, (.int .i64 x2809)), (4, (.pointer (some ⟨g2818, 0, none⟩)))]) (fun t => t = (((decide ((rdD p0.Actions x2809 z_Action).Write < 0)) || (decide ((rdD p0.Actions x2809 z_Action).Write ≥ p0.Symbols))) || ((((rdD p0.Actions x2809 z_Action).Move) != 0) && (((rdD p0.Actions x2809 z_Action).Move) != 1)))) (fun K => ?_) ?_
        ·
          rcases Bool.eq_false_or_eq_true ((decide ((rdD p0.Actions x2809 z_Action).Write < 0)) || (decide ((rdD p0.Actions x2809 z_Action).Write ≥ p0.Symbols))) with h2828 | h2828
          ·
            refine WL.setB 56 h2828 rfl ?_
            refine seg 20 [] [1, 3, 4, 65] [(1, (.pointer (some ⟨g2739, 0, none⟩))), (3, (.int .i64 x2809)), (4, (.pointer (some ⟨g2818, 0, none⟩))), (65, (.bool true))] [] (fun fb => by kernel_rfl) rfl trivial ?_
            exact WL.toV K true [65, 1, 3, 4] rfl (by rw [h2828]; rfl)
          refine WL.setB 56 h2828 rfl ?_
          refine seg 15 [.v (.int .i64 ((rdD p0.Actions x2809 z_Action).Move))] [1, 3, 4, 56, 60] [(1, (.pointer (some ⟨g2739, 0, none⟩))), (3, (.int .i64 x2809)), (4, (.pointer (some ⟨g2818, 0, none⟩))), (56, (.bool false)), (60, (.bool (((rdD p0.Actions x2809 z_Action).Move) != 0)))] [.cell ⟨g2818, 1, none⟩ (.int .i64 ((rdD p0.Actions x2809 z_Action).Move))] (fun fb => by kernel_rfl) rfl ⟨hS2823.cell 0 rfl 1 rfl, trivial⟩ ?_
          refine WL.cutV (T := Bool) 19 (fun t => [(64, (.bool t)), (1, (.pointer (some ⟨g2739, 0, none⟩))), (3, (.int .i64 x2809)), (4, (.pointer (some ⟨g2818, 0, none⟩))), (56, (.bool false))]) (fun t => t = ((((rdD p0.Actions x2809 z_Action).Move) != 0) && (((rdD p0.Actions x2809 z_Action).Move) != 1))) (fun K => ?_) ?_
          ·
            rcases Bool.eq_false_or_eq_true (((rdD p0.Actions x2809 z_Action).Move) != 0) with h2829 | h2829
            ·
              refine WL.setB 60 h2829 rfl ?_
              refine seg 19 [.v (.int .i64 ((rdD p0.Actions x2809 z_Action).Move))] [1, 3, 4, 56, 64] [(1, (.pointer (some ⟨g2739, 0, none⟩))), (3, (.int .i64 x2809)), (4, (.pointer (some ⟨g2818, 0, none⟩))), (56, (.bool false)), (64, (.bool (((rdD p0.Actions x2809 z_Action).Move) != 1)))] [.cell ⟨g2818, 1, none⟩ (.int .i64 ((rdD p0.Actions x2809 z_Action).Move))] (fun fb => by kernel_rfl) rfl ⟨hS2823.cell 0 rfl 1 rfl, trivial⟩ ?_
              exact WL.toV K (((rdD p0.Actions x2809 z_Action).Move) != 1) [64, 1, 3, 4, 56] rfl (by rw [h2829]; rfl)
            refine WL.setB 60 h2829 rfl ?_
            refine seg 19 [] [1, 3, 4, 56, 64] [(1, (.pointer (some ⟨g2739, 0, none⟩))), (3, (.int .i64 x2809)), (4, (.pointer (some ⟨g2818, 0, none⟩))), (56, (.bool false)), (64, (.bool false))] [] (fun fb => by kernel_rfl) rfl trivial ?_
            exact WL.toV K false [64, 1, 3, 4, 56] rfl (by rw [h2829]; rfl)
          rintro b2830 rfl
          refine seg 20 [] [1, 3, 4, 65] [(1, (.pointer (some ⟨g2739, 0, none⟩))), (3, (.int .i64 x2809)), (4, (.pointer (some ⟨g2818, 0, none⟩))), (65, (.bool ((((rdD p0.Actions x2809 z_Action).Move) != 0) && (((rdD p0.Actions x2809 z_Action).Move) != 1))))] [] (fun fb => by kernel_rfl) rfl trivial ?_
          exact WL.toV K ((((rdD p0.Actions x2809 z_Action).Move) != 0) && (((rdD p0.Actions x2809 z_Action).Move) != 1)) [65, 1, 3, 4] rfl (by rw [h2828]; rfl)
        rintro b2831 rfl
        refine seg 21 [] [1, 3, 4, 66] [(1, (.pointer (some ⟨g2739, 0, none⟩))), (3, (.int .i64 x2809)), (4, (.pointer (some ⟨g2818, 0, none⟩))), (66, (.bool (((decide ((rdD p0.Actions x2809 z_Action).Write < 0)) || (decide ((rdD p0.Actions x2809 z_Action).Write ≥ p0.Symbols))) || ((((rdD p0.Actions x2809 z_Action).Move) != 0) && (((rdD p0.Actions x2809 z_Action).Move) != 1)))))] [] (fun fb => by kernel_rfl) rfl trivial ?_
        refine WL.cutV (T := Bool) 25 (fun t => [(70, (.bool t)), (1, (.pointer (some ⟨g2739, 0, none⟩))), (3, (.int .i64 x2809)), (4, (.pointer (some ⟨g2818, 0, none⟩)))]) (fun t => t = ((((decide ((rdD p0.Actions x2809 z_Action).Write < 0)) || (decide ((rdD p0.Actions x2809 z_Action).Write ≥ p0.Symbols))) || ((((rdD p0.Actions x2809 z_Action).Move) != 0) && (((rdD p0.Actions x2809 z_Action).Move) != 1))) || (decide ((rdD p0.Actions x2809 z_Action).Next < 0)))) (fun K => ?_) ?_
        ·
          rcases Bool.eq_false_or_eq_true (((decide ((rdD p0.Actions x2809 z_Action).Write < 0)) || (decide ((rdD p0.Actions x2809 z_Action).Write ≥ p0.Symbols))) || ((((rdD p0.Actions x2809 z_Action).Move) != 0) && (((rdD p0.Actions x2809 z_Action).Move) != 1))) with h2832 | h2832
          ·
            refine WL.setB 66 h2832 rfl ?_
            refine seg 25 [] [1, 3, 4, 70] [(1, (.pointer (some ⟨g2739, 0, none⟩))), (3, (.int .i64 x2809)), (4, (.pointer (some ⟨g2818, 0, none⟩))), (70, (.bool true))] [] (fun fb => by kernel_rfl) rfl trivial ?_
            exact WL.toV K true [70, 1, 3, 4] rfl (by rw [h2832]; rfl)
          refine WL.setB 66 h2832 rfl ?_
          refine seg 25 [.v (.int .i64 ((rdD p0.Actions x2809 z_Action).Next))] [1, 3, 4, 70] [(1, (.pointer (some ⟨g2739, 0, none⟩))), (3, (.int .i64 x2809)), (4, (.pointer (some ⟨g2818, 0, none⟩))), (70, (.bool (decide ((rdD p0.Actions x2809 z_Action).Next < 0))))] [.cell ⟨g2818, 2, none⟩ (.int .i64 ((rdD p0.Actions x2809 z_Action).Next))] (fun fb => by kernel_rfl) rfl ⟨hS2823.cell 0 rfl 2 rfl, trivial⟩ ?_
          exact WL.toV K (decide ((rdD p0.Actions x2809 z_Action).Next < 0)) [70, 1, 3, 4] rfl (by rw [h2832]; rfl)
        rintro b2833 rfl
        refine seg 26 [] [1, 3, 4, 71] [(1, (.pointer (some ⟨g2739, 0, none⟩))), (3, (.int .i64 x2809)), (4, (.pointer (some ⟨g2818, 0, none⟩))), (71, (.bool ((((decide ((rdD p0.Actions x2809 z_Action).Write < 0)) || (decide ((rdD p0.Actions x2809 z_Action).Write ≥ p0.Symbols))) || ((((rdD p0.Actions x2809 z_Action).Move) != 0) && (((rdD p0.Actions x2809 z_Action).Move) != 1))) || (decide ((rdD p0.Actions x2809 z_Action).Next < 0)))))] [] (fun fb => by kernel_rfl) rfl trivial ?_
        refine WL.cutV (T := Bool) 32 (fun t => [(77, (.bool t)), (1, (.pointer (some ⟨g2739, 0, none⟩))), (3, (.int .i64 x2809)), (4, (.pointer (some ⟨g2818, 0, none⟩)))]) (fun t => t = (((((decide ((rdD p0.Actions x2809 z_Action).Write < 0)) || (decide ((rdD p0.Actions x2809 z_Action).Write ≥ p0.Symbols))) || ((((rdD p0.Actions x2809 z_Action).Move) != 0) && (((rdD p0.Actions x2809 z_Action).Move) != 1))) || (decide ((rdD p0.Actions x2809 z_Action).Next < 0))) || (decide ((rdD p0.Actions x2809 z_Action).Next > p0.States)))) (fun K => ?_) ?_
        ·
          rcases Bool.eq_false_or_eq_true ((((decide ((rdD p0.Actions x2809 z_Action).Write < 0)) || (decide ((rdD p0.Actions x2809 z_Action).Write ≥ p0.Symbols))) || ((((rdD p0.Actions x2809 z_Action).Move) != 0) && (((rdD p0.Actions x2809 z_Action).Move) != 1))) || (decide ((rdD p0.Actions x2809 z_Action).Next < 0))) with h2834 | h2834
          ·
            refine WL.setB 71 h2834 rfl ?_
            refine seg 32 [] [1, 3, 4, 77] [(1, (.pointer (some ⟨g2739, 0, none⟩))), (3, (.int .i64 x2809)), (4, (.pointer (some ⟨g2818, 0, none⟩))), (77, (.bool true))] [] (fun fb => by kernel_rfl) rfl trivial ?_
            exact WL.toV K true [77, 1, 3, 4] rfl (by rw [h2834]; rfl)
          refine WL.setB 71 h2834 rfl ?_
          refine seg 32 [.v (.int .i64 ((rdD p0.Actions x2809 z_Action).Next)), .v (.int .i64 p0.States)] [1, 3, 4, 77] [(1, (.pointer (some ⟨g2739, 0, none⟩))), (3, (.int .i64 x2809)), (4, (.pointer (some ⟨g2818, 0, none⟩))), (77, (.bool (decide ((rdD p0.Actions x2809 z_Action).Next > p0.States))))] [.cell ⟨g2818, 2, none⟩ (.int .i64 ((rdD p0.Actions x2809 z_Action).Next)), .cell ⟨g2739, 0, none⟩ (.int .i64 p0.States)] (fun fb => by kernel_rfl) rfl ⟨hS2823.cell 0 rfl 2 rfl, hS2823.cell 1 rfl 0 rfl, trivial⟩ ?_
          exact WL.toV K (decide ((rdD p0.Actions x2809 z_Action).Next > p0.States)) [77, 1, 3, 4] rfl (by rw [h2834]; rfl)
        rintro b2835 rfl
        refine WL.done rfl ?_
        refine WX.next ?_
        rcases br_some hl2815 with ⟨h2836, hl2815⟩ | ⟨h2836, hl2815⟩
        · refine WC.condT2 (fun fb => by kernel_rfl) h2836 ?_
          refine WC.seq ?_
          refine WC.region ?_
          refine seg 1 [] [2] [(2, (.bool false))] [] (fun fb => by kernel_rfl) rfl trivial ?_
          refine WL.done rfl ?_
          refine WX.next ?_
          refine WC.ret ?_
          injection hl2815 with hl2815
          subst hl2815
          injection hf with hf
          subst hf
          exact WX.thenR (WX.blockR (WX.thenR (WX.thenR (WX.blockR (WX.thenR (WX.ret_ [] (.bool false) [] (fun fb => by kernel_rfl) trivial ⟨_, rfl, rfl, hS2823.keep⟩))))))
        refine WC.condF2 (fun fb => by kernel_rfl) h2836 ?_
        refine WC.skip ?_
        refine WX.next ?_
        refine WC.seq ?_
        refine WC.region ?_
        refine seg 6 [.v (.int .i64 ((rdD p0.Actions x2809 z_Action).Next)), .v (.int .i64 p0.States)] [1, 3, 4, 83] [(1, (.pointer (some ⟨g2739, 0, none⟩))), (3, (.int .i64 x2809)), (4, (.pointer (some ⟨g2818, 0, none⟩))), (83, (.bool (((rdD p0.Actions x2809 z_Action).Next) == p0.States)))] [.cell ⟨g2818, 2, none⟩ (.int .i64 ((rdD p0.Actions x2809 z_Action).Next)), .cell ⟨g2739, 0, none⟩ (.int .i64 p0.States)] (fun fb => by kernel_rfl) rfl ⟨hS2823.cell 0 rfl 2 rfl, hS2823.cell 1 rfl 0 rfl, trivial⟩ ?_
        refine WL.cutV (T := Bool) 15 (fun t => [(92, (.bool t)), (1, (.pointer (some ⟨g2739, 0, none⟩))), (3, (.int .i64 x2809))]) (fun t => t = ((((rdD p0.Actions x2809 z_Action).Next) == p0.States) && ((((rdD p0.Actions x2809 z_Action).Write) != 0) || (((rdD p0.Actions x2809 z_Action).Move) != 0)))) (fun K => ?_) ?_
        ·
          rcases Bool.eq_false_or_eq_true (((rdD p0.Actions x2809 z_Action).Next) == p0.States) with h2839 | h2839
          ·
            refine WL.setB 83 h2839 rfl ?_
            refine seg 10 [.v (.int .i64 ((rdD p0.Actions x2809 z_Action).Write))] [1, 3, 4, 83, 87] [(1, (.pointer (some ⟨g2739, 0, none⟩))), (3, (.int .i64 x2809)), (4, (.pointer (some ⟨g2818, 0, none⟩))), (83, (.bool true)), (87, (.bool (((rdD p0.Actions x2809 z_Action).Write) != 0)))] [.cell ⟨g2818, 0, none⟩ (.int .i64 ((rdD p0.Actions x2809 z_Action).Write))] (fun fb => by kernel_rfl) rfl ⟨hS2823.cell 0 rfl 0 rfl, trivial⟩ ?_
            refine WL.cutV (T := Bool) 14 (fun t => [(91, (.bool t)), (1, (.pointer (some ⟨g2739, 0, none⟩))), (3, (.int .i64 x2809)), (83, (.bool true))]) (fun t => t = ((((rdD p0.Actions x2809 z_Action).Write) != 0) || (((rdD p0.Actions x2809 z_Action).Move) != 0))) (fun K => ?_) ?_
            ·
              rcases Bool.eq_false_or_eq_true (((rdD p0.Actions x2809 z_Action).Write) != 0) with h2840 | h2840
              ·
                refine WL.setB 87 h2840 rfl ?_
                refine seg 14 [] [1, 3, 83, 91] [(1, (.pointer (some ⟨g2739, 0, none⟩))), (3, (.int .i64 x2809)), (83, (.bool true)), (91, (.bool true))] [] (fun fb => by kernel_rfl) rfl trivial ?_
                exact WL.toV K true [91, 1, 3, 83] rfl (by rw [h2840]; rfl)
              refine WL.setB 87 h2840 rfl ?_
              refine seg 14 [.v (.int .i64 ((rdD p0.Actions x2809 z_Action).Move))] [1, 3, 83, 91] [(1, (.pointer (some ⟨g2739, 0, none⟩))), (3, (.int .i64 x2809)), (83, (.bool true)), (91, (.bool (((rdD p0.Actions x2809 z_Action).Move) != 0)))] [.cell ⟨g2818, 1, none⟩ (.int .i64 ((rdD p0.Actions x2809 z_Action).Move))] (fun fb => by kernel_rfl) rfl ⟨hS2823.cell 0 rfl 1 rfl, trivial⟩ ?_
              exact WL.toV K (((rdD p0.Actions x2809 z_Action).Move) != 0) [91, 1, 3, 83] rfl (by rw [h2840]; rfl)
            rintro b2841 rfl
            refine seg 15 [] [1, 3, 92] [(1, (.pointer (some ⟨g2739, 0, none⟩))), (3, (.int .i64 x2809)), (92, (.bool ((((rdD p0.Actions x2809 z_Action).Write) != 0) || (((rdD p0.Actions x2809 z_Action).Move) != 0))))] [] (fun fb => by kernel_rfl) rfl trivial ?_
            exact WL.toV K ((((rdD p0.Actions x2809 z_Action).Write) != 0) || (((rdD p0.Actions x2809 z_Action).Move) != 0)) [92, 1, 3] rfl (by rw [h2839]; rfl)
          refine WL.setB 83 h2839 rfl ?_
          refine seg 15 [] [1, 3, 92] [(1, (.pointer (some ⟨g2739, 0, none⟩))), (3, (.int .i64 x2809)), (92, (.bool false))] [] (fun fb => by kernel_rfl) rfl trivial ?_
          exact WL.toV K false [92, 1, 3] rfl (by rw [h2839]; rfl)
        rintro b2842 rfl
        refine WL.done rfl ?_
        refine WX.next ?_
        rcases br_some hl2815 with ⟨h2843, hl2815⟩ | ⟨h2843, hl2815⟩
        · refine WC.condT2 (fun fb => by kernel_rfl) h2843 ?_
          refine WC.seq ?_
          refine WC.region ?_
          refine seg 1 [] [2] [(2, (.bool false))] [] (fun fb => by kernel_rfl) rfl trivial ?_
          refine WL.done rfl ?_
          refine WX.next ?_
          refine WC.ret ?_
          injection hl2815 with hl2815
          subst hl2815
          injection hf with hf
          subst hf
          exact WX.blockR (WX.thenR (WX.thenR (WX.blockR (WX.thenR (WX.ret_ [] (.bool false) [] (fun fb => by kernel_rfl) trivial ⟨_, rfl, rfl, hS2823.keep⟩)))))
        refine WC.condF2 (fun fb => by kernel_rfl) h2843 ?_
        refine WC.skip ?_
        refine WX.blockN (WX.next ?_)
        refine WC.region ?_
        refine seg 3 [] [1, 3] [(1, (.pointer (some ⟨g2739, 0, none⟩))), (3, (.int .i64 (w64 (x2809 + 1))))] [] (fun fb => by kernel_rfl) rfl trivial ?_
        refine WL.done rfl ?_
        exact WX.again k2812 (Nat.lt_succ_self _) (w64 (x2809 + 1)) [1, 3] rfl ⟨(hS2823.subR [0]).sub [1] (by decide), hl2815⟩
      refine WC.condF2 (fun fb => by kernel_rfl) h2816 ?_
      refine WC.exit ?_
      injection hl2815 with hl2815
      exact WX.thenX (WX.thenX (WX.blockHere (WX.to Kx2810 () [] rfl ⟨(hS2814.subR [0]).sub [] (by decide), hl2815.symm⟩)))
  rintro y2847 w2844 ⟨hS2845, hq2846⟩
  subst hq2846
  have hf := sum_inr hf
  refine WX.next ?_
  refine WC.seq ?_
  refine WC.region ?_
  refine seg 1 [] [2] [(2, (.bool true))] [] (fun fb => by kernel_rfl) rfl trivial ?_
  refine WL.done rfl ?_
  refine WX.next ?_
  refine WC.ret ?_
  injection hf with hf
  subst hf
  exact WX.ret_ [] (.bool true) [] (fun fb => by kernel_rfl) trivial ⟨_, rfl, rfl, hS2845.keep⟩
theorem ref08_Fits_calls (k : Nat) (p0 : Machine) (p1 : Config) (A_p0_Actions : Option Addr) (c_p0_Actions : Nat) (A_p1_Cells : Option Addr) (c_p1_Cells : Nat) (r : Bool) (w : World) (hR0 : RO NoS w (rowR enc_Action A_p0_Actions c_p0_Actions p0.Actions)) (hR1 : RO NoS w (rowR encInt A_p1_Cells c_p1_Cells p1.Cells)) (hf : ref08_Fits k p0 p1 = some r) :
    CallsR Try.prog 13 #[(.agg #[(.int .i64 p0.States), (.int .i64 p0.Symbols), (.slice A_p0_Actions p0.Actions.length c_p0_Actions)]), (.agg #[(.int .i64 p1.State), (.int .i64 p1.At), (.slice A_p1_Cells p1.Cells.length c_p1_Cells)])] w (fun v w' => v = (.bool r) ∧ Keeps NoS w w') := by
  have hS : St NoS w w [rowR enc_Action A_p0_Actions c_p0_Actions p0.Actions, rowR encInt A_p1_Cells c_p1_Cells p1.Cells] [] := St.init (ro_cons hR0 (ro_cons hR1 (ro_nil _ _)))
  refine enter 69 Try.func13 rfl Try.ntmps13 rfl ?_
  unfold ref08_Fits at hf
  refine WC.seq ?_
  refine WC.region ?_
  refine WL.new hS 2 [] (fun g => (.pointer (some ⟨g, 0, none⟩))) (.cells #[(.int .i64 p0.States), (.int .i64 p0.Symbols), (.slice A_p0_Actions p0.Actions.length c_p0_Actions)] 24 (0, 0)) [] (fun fb g => by kernel_rfl) trivial (fun g2859 w2860 hS2861 => ?_)
  refine ⟨trivial, ?_⟩
  refine WL.new hS2861 3 [] (fun g => (.pointer (some ⟨g, 0, none⟩))) (.cells #[(.int .i64 p1.State), (.int .i64 p1.At), (.slice A_p1_Cells p1.Cells.length c_p1_Cells)] 27 (0, 0)) [] (fun fb g => by kernel_rfl) trivial (fun g2863 w2864 hS2865 => ?_)
  refine ⟨trivial, ?_⟩
  refine seg 3 [] [2, 3] [(2, (.pointer (some ⟨g2859, 0, none⟩))), (3, (.pointer (some ⟨g2863, 0, none⟩)))] [] (fun fb => by kernel_rfl) rfl trivial ?_
  refine WL.done rfl ?_
  refine WX.next ?_
  refine WC.seq ?_
  refine WC.seq ?_
  refine WC.region ?_
  refine seg 1 [.v (.int .i64 p0.States), .v (.int .i64 p0.Symbols), .v (.slice A_p0_Actions p0.Actions.length c_p0_Actions)] [2, 3, 6] [(2, (.pointer (some ⟨g2859, 0, none⟩))), (3, (.pointer (some ⟨g2863, 0, none⟩))), (6, (.agg #[(.int .i64 p0.States), (.int .i64 p0.Symbols), (.slice A_p0_Actions p0.Actions.length c_p0_Actions)]))] [.cell ⟨g2859, 0, none⟩ (.int .i64 p0.States), .cell ⟨g2859, 1, none⟩ (.int .i64 p0.Symbols), .cell ⟨g2859, 2, none⟩ (.slice A_p0_Actions p0.Actions.length c_p0_Actions)] (fun fb => by kernel_rfl) rfl ⟨hS2865.cell 1 rfl 0 rfl, hS2865.cell 1 rfl 1 rfl, hS2865.cell 1 rfl 2 rfl, trivial⟩ ?_
  obtain ⟨t2867, ht2868, hf⟩ := bind_some hf
  refine WL.call (some 7) 17 #[(.agg #[(.int .i64 p0.States), (.int .i64 p0.Symbols), (.slice A_p0_Actions p0.Actions.length c_p0_Actions)])] (fun fb => by kernel_rfl) (ref08_Valid_calls _ p0 A_p0_Actions c_p0_Actions t2867 _ (hS2865.rd 0) ht2868) (fun v w2869 hR2870 => ?_)
  obtain ⟨rfl, hk_⟩ := hR2870
  have hS2871 := hS2865.keepN hk_
  refine ⟨trivial, ?_⟩
  refine seg 4 [] [2, 3, 9] [(2, (.pointer (some ⟨g2859, 0, none⟩))), (3, (.pointer (some ⟨g2863, 0, none⟩))), (9, (.bool (!t2867)))] [] (fun fb => by kernel_rfl) rfl trivial ?_
  refine WL.cutV (T := Bool) 8 (fun t => [(13, (.bool t)), (2, (.pointer (some ⟨g2859, 0, none⟩))), (3, (.pointer (some ⟨g2863, 0, none⟩)))]) (fun t => t = ((!t2867) || (decide (p1.State < 0)))) (fun K => ?_) ?_
  ·
    rcases Bool.eq_false_or_eq_true (!t2867) with h2872 | h2872
    ·
      refine WL.setB 9 h2872 rfl ?_
      refine seg 8 [] [2, 3, 13] [(2, (.pointer (some ⟨g2859, 0, none⟩))), (3, (.pointer (some ⟨g2863, 0, none⟩))), (13, (.bool true))] [] (fun fb => by kernel_rfl) rfl trivial ?_
      exact WL.toV K true [13, 2, 3] rfl (by rw [h2872]; rfl)
    refine WL.setB 9 h2872 rfl ?_
    refine seg 8 [.v (.int .i64 p1.State)] [2, 3, 13] [(2, (.pointer (some ⟨g2859, 0, none⟩))), (3, (.pointer (some ⟨g2863, 0, none⟩))), (13, (.bool (decide (p1.State < 0))))] [.cell ⟨g2863, 0, none⟩ (.int .i64 p1.State)] (fun fb => by kernel_rfl) rfl ⟨hS2871.cell 0 rfl 0 rfl, trivial⟩ ?_
    exact WL.toV K (decide (p1.State < 0)) [13, 2, 3] rfl (by rw [h2872]; rfl)
  rintro b2873 rfl
  refine seg 9 [] [2, 3, 14] [(2, (.pointer (some ⟨g2859, 0, none⟩))), (3, (.pointer (some ⟨g2863, 0, none⟩))), (14, (.bool ((!t2867) || (decide (p1.State < 0)))))] [] (fun fb => by kernel_rfl) rfl trivial ?_
  refine WL.cutV (T := Bool) 15 (fun t => [(20, (.bool t)), (2, (.pointer (some ⟨g2859, 0, none⟩))), (3, (.pointer (some ⟨g2863, 0, none⟩)))]) (fun t => t = (((!t2867) || (decide (p1.State < 0))) || (decide (p1.State ≥ p0.States)))) (fun K => ?_) ?_
  ·
    rcases Bool.eq_false_or_eq_true ((!t2867) || (decide (p1.State < 0))) with h2874 | h2874
    ·
      refine WL.setB 14 h2874 rfl ?_
      refine seg 15 [] [2, 3, 20] [(2, (.pointer (some ⟨g2859, 0, none⟩))), (3, (.pointer (some ⟨g2863, 0, none⟩))), (20, (.bool true))] [] (fun fb => by kernel_rfl) rfl trivial ?_
      exact WL.toV K true [20, 2, 3] rfl (by rw [h2874]; rfl)
    refine WL.setB 14 h2874 rfl ?_
    refine seg 15 [.v (.int .i64 p1.State), .v (.int .i64 p0.States)] [2, 3, 20] [(2, (.pointer (some ⟨g2859, 0, none⟩))), (3, (.pointer (some ⟨g2863, 0, none⟩))), (20, (.bool (decide (p1.State ≥ p0.States))))] [.cell ⟨g2863, 0, none⟩ (.int .i64 p1.State), .cell ⟨g2859, 0, none⟩ (.int .i64 p0.States)] (fun fb => by kernel_rfl) rfl ⟨hS2871.cell 0 rfl 0 rfl, hS2871.cell 1 rfl 0 rfl, trivial⟩ ?_
    exact WL.toV K (decide (p1.State ≥ p0.States)) [20, 2, 3] rfl (by rw [h2874]; rfl)
  rintro b2875 rfl
  refine seg 16 [] [2, 3, 21] [(2, (.pointer (some ⟨g2859, 0, none⟩))), (3, (.pointer (some ⟨g2863, 0, none⟩))), (21, (.bool (((!t2867) || (decide (p1.State < 0))) || (decide (p1.State ≥ p0.States)))))] [] (fun fb => by kernel_rfl) rfl trivial ?_
  refine WL.cutV (T := Bool) 21 (fun t => [(26, (.bool t)), (2, (.pointer (some ⟨g2859, 0, none⟩))), (3, (.pointer (some ⟨g2863, 0, none⟩)))]) (fun t => t = ((((!t2867) || (decide (p1.State < 0))) || (decide (p1.State ≥ p0.States))) || (decide ((p1.Cells.length : Int) < 1)))) (fun K => ?_) ?_
  ·
    rcases Bool.eq_false_or_eq_true (((!t2867) || (decide (p1.State < 0))) || (decide (p1.State ≥ p0.States))) with h2876 | h2876
    ·
      refine WL.setB 21 h2876 rfl ?_
      refine seg 21 [] [2, 3, 26] [(2, (.pointer (some ⟨g2859, 0, none⟩))), (3, (.pointer (some ⟨g2863, 0, none⟩))), (26, (.bool true))] [] (fun fb => by kernel_rfl) rfl trivial ?_
      exact WL.toV K true [26, 2, 3] rfl (by rw [h2876]; rfl)
    refine WL.setB 21 h2876 rfl ?_
    refine seg 21 [.v (.slice A_p1_Cells p1.Cells.length c_p1_Cells)] [2, 3, 26] [(2, (.pointer (some ⟨g2859, 0, none⟩))), (3, (.pointer (some ⟨g2863, 0, none⟩))), (26, (.bool (decide ((p1.Cells.length : Int) < 1))))] [.cell ⟨g2863, 2, none⟩ (.slice A_p1_Cells p1.Cells.length c_p1_Cells)] (fun fb => by kernel_rfl) rfl ⟨hS2871.cell 0 rfl 2 rfl, trivial⟩ ?_
    exact WL.toV K (decide ((p1.Cells.length : Int) < 1)) [26, 2, 3] rfl (by rw [h2876]; rfl)
  rintro b2877 rfl
  refine seg 22 [] [2, 3, 27] [(2, (.pointer (some ⟨g2859, 0, none⟩))), (3, (.pointer (some ⟨g2863, 0, none⟩))), (27, (.bool ((((!t2867) || (decide (p1.State < 0))) || (decide (p1.State ≥ p0.States))) || (decide ((p1.Cells.length : Int) < 1)))))] [] (fun fb => by kernel_rfl) rfl trivial ?_
  refine WL.cutV (T := Bool) 27 (fun t => [(32, (.bool t)), (2, (.pointer (some ⟨g2859, 0, none⟩))), (3, (.pointer (some ⟨g2863, 0, none⟩)))]) (fun t => t = (((((!t2867) || (decide (p1.State < 0))) || (decide (p1.State ≥ p0.States))) || (decide ((p1.Cells.length : Int) < 1))) || (decide ((p1.Cells.length : Int) > 200)))) (fun K => ?_) ?_
  ·
    rcases Bool.eq_false_or_eq_true ((((!t2867) || (decide (p1.State < 0))) || (decide (p1.State ≥ p0.States))) || (decide ((p1.Cells.length : Int) < 1))) with h2878 | h2878
    ·
      refine WL.setB 27 h2878 rfl ?_
      refine seg 27 [] [2, 3, 32] [(2, (.pointer (some ⟨g2859, 0, none⟩))), (3, (.pointer (some ⟨g2863, 0, none⟩))), (32, (.bool true))] [] (fun fb => by kernel_rfl) rfl trivial ?_
      exact WL.toV K true [32, 2, 3] rfl (by rw [h2878]; rfl)
    refine WL.setB 27 h2878 rfl ?_
    refine seg 27 [.v (.slice A_p1_Cells p1.Cells.length c_p1_Cells)] [2, 3, 32] [(2, (.pointer (some ⟨g2859, 0, none⟩))), (3, (.pointer (some ⟨g2863, 0, none⟩))), (32, (.bool (decide ((p1.Cells.length : Int) > 200))))] [.cell ⟨g2863, 2, none⟩ (.slice A_p1_Cells p1.Cells.length c_p1_Cells)] (fun fb => by kernel_rfl) rfl ⟨hS2871.cell 0 rfl 2 rfl, trivial⟩ ?_
    exact WL.toV K (decide ((p1.Cells.length : Int) > 200)) [32, 2, 3] rfl (by rw [h2878]; rfl)
  rintro b2879 rfl
  refine seg 28 [] [2, 3, 33] [(2, (.pointer (some ⟨g2859, 0, none⟩))), (3, (.pointer (some ⟨g2863, 0, none⟩))), (33, (.bool (((((!t2867) || (decide (p1.State < 0))) || (decide (p1.State ≥ p0.States))) || (decide ((p1.Cells.length : Int) < 1))) || (decide ((p1.Cells.length : Int) > 200)))))] [] (fun fb => by kernel_rfl) rfl trivial ?_
  refine WL.cutV (T := Bool) 32 (fun t => [(37, (.bool t)), (2, (.pointer (some ⟨g2859, 0, none⟩))), (3, (.pointer (some ⟨g2863, 0, none⟩)))]) (fun t => t = ((((((!t2867) || (decide (p1.State < 0))) || (decide (p1.State ≥ p0.States))) || (decide ((p1.Cells.length : Int) < 1))) || (decide ((p1.Cells.length : Int) > 200))) || (decide (p1.At < 0)))) (fun K => ?_) ?_
  ·
    rcases Bool.eq_false_or_eq_true (((((!t2867) || (decide (p1.State < 0))) || (decide (p1.State ≥ p0.States))) || (decide ((p1.Cells.length : Int) < 1))) || (decide ((p1.Cells.length : Int) > 200))) with h2880 | h2880
    ·
      refine WL.setB 33 h2880 rfl ?_
      refine seg 32 [] [2, 3, 37] [(2, (.pointer (some ⟨g2859, 0, none⟩))), (3, (.pointer (some ⟨g2863, 0, none⟩))), (37, (.bool true))] [] (fun fb => by kernel_rfl) rfl trivial ?_
      exact WL.toV K true [37, 2, 3] rfl (by rw [h2880]; rfl)
    refine WL.setB 33 h2880 rfl ?_
    refine seg 32 [.v (.int .i64 p1.At)] [2, 3, 37] [(2, (.pointer (some ⟨g2859, 0, none⟩))), (3, (.pointer (some ⟨g2863, 0, none⟩))), (37, (.bool (decide (p1.At < 0))))] [.cell ⟨g2863, 1, none⟩ (.int .i64 p1.At)] (fun fb => by kernel_rfl) rfl ⟨hS2871.cell 0 rfl 1 rfl, trivial⟩ ?_
    exact WL.toV K (decide (p1.At < 0)) [37, 2, 3] rfl (by rw [h2880]; rfl)
  rintro b2881 rfl
  refine seg 33 [] [2, 3, 38] [(2, (.pointer (some ⟨g2859, 0, none⟩))), (3, (.pointer (some ⟨g2863, 0, none⟩))), (38, (.bool ((((((!t2867) || (decide (p1.State < 0))) || (decide (p1.State ≥ p0.States))) || (decide ((p1.Cells.length : Int) < 1))) || (decide ((p1.Cells.length : Int) > 200))) || (decide (p1.At < 0)))))] [] (fun fb => by kernel_rfl) rfl trivial ?_
  refine WL.cutV (T := Bool) 40 (fun t => [(45, (.bool t)), (2, (.pointer (some ⟨g2859, 0, none⟩))), (3, (.pointer (some ⟨g2863, 0, none⟩)))]) (fun t => t = (((((((!t2867) || (decide (p1.State < 0))) || (decide (p1.State ≥ p0.States))) || (decide ((p1.Cells.length : Int) < 1))) || (decide ((p1.Cells.length : Int) > 200))) || (decide (p1.At < 0))) || (decide (p1.At ≥ (p1.Cells.length : Int))))) (fun K => ?_) ?_
  ·
    rcases Bool.eq_false_or_eq_true ((((((!t2867) || (decide (p1.State < 0))) || (decide (p1.State ≥ p0.States))) || (decide ((p1.Cells.length : Int) < 1))) || (decide ((p1.Cells.length : Int) > 200))) || (decide (p1.At < 0))) with h2882 | h2882
    ·
      refine WL.setB 38 h2882 rfl ?_
      refine seg 40 [] [2, 3, 45] [(2, (.pointer (some ⟨g2859, 0, none⟩))), (3, (.pointer (some ⟨g2863, 0, none⟩))), (45, (.bool true))] [] (fun fb => by kernel_rfl) rfl trivial ?_
      exact WL.toV K true [45, 2, 3] rfl (by rw [h2882]; rfl)
    refine WL.setB 38 h2882 rfl ?_
    refine seg 40 [.v (.int .i64 p1.At), .v (.slice A_p1_Cells p1.Cells.length c_p1_Cells)] [2, 3, 45] [(2, (.pointer (some ⟨g2859, 0, none⟩))), (3, (.pointer (some ⟨g2863, 0, none⟩))), (45, (.bool (decide (p1.At ≥ (p1.Cells.length : Int)))))] [.cell ⟨g2863, 1, none⟩ (.int .i64 p1.At), .cell ⟨g2863, 2, none⟩ (.slice A_p1_Cells p1.Cells.length c_p1_Cells)] (fun fb => by kernel_rfl) rfl ⟨hS2871.cell 0 rfl 1 rfl, hS2871.cell 0 rfl 2 rfl, trivial⟩ ?_
    exact WL.toV K (decide (p1.At ≥ (p1.Cells.length : Int))) [45, 2, 3] rfl (by rw [h2882]; rfl)
  rintro b2883 rfl
  refine WL.done rfl ?_
  refine WX.next ?_
  rcases br_some hf with ⟨h2884, hf⟩ | ⟨h2884, hf⟩
  · refine WC.condT2 (fun fb => by kernel_rfl) h2884 ?_
    refine WC.seq ?_
    refine WC.region ?_
    refine seg 1 [] [4] [(4, (.bool false))] [] (fun fb => by kernel_rfl) rfl trivial ?_
    refine WL.done rfl ?_
    refine WX.next ?_
    refine WC.ret ?_
    injection hf with hf
    subst hf
    exact WX.thenR (WX.ret_ [] (.bool false) [] (fun fb => by kernel_rfl) trivial ⟨_, rfl, rfl, hS2871.keep⟩)
  refine WC.condF2 (fun fb => by kernel_rfl) h2884 ?_
  refine WC.skip ?_
  refine WX.next ?_
  refine WC.seq ?_
  refine WC.seq ?_
  refine WC.region ?_
  refine seg 1 [] [2, 3, 5] [(2, (.pointer (some ⟨g2859, 0, none⟩))), (3, (.pointer (some ⟨g2863, 0, none⟩))), (5, (.int .i64 0))] [] (fun fb => by kernel_rfl) rfl trivial ?_
  refine WL.done rfl ?_
  refine WX.next ?_
  obtain ⟨x2955, hx2956, hf⟩ := bind_some hf
  refine WC.cutN (T := Unit) (fun t => []) (fun t w1 => St NoS w w1 [rowR enc_Action A_p0_Actions c_p0_Actions p0.Actions, rowR encInt A_p1_Cells c_p1_Cells p1.Cells] [] ∧ x2955 = .inr t) (fun Kx2955 => ?_) ?_
  ·
    refine WC.block ?_
    refine WC.loop (T := Int) (fun t => [(2, (.pointer (some ⟨g2859, 0, none⟩))), (3, (.pointer (some ⟨g2863, 0, none⟩))), (5, (.int .i64 t))]) (fun n t w1 => St NoS w w1 [rowR enc_Action A_p0_Actions c_p0_Actions p0.Actions, rowR encInt A_p1_Cells c_p1_Cells p1.Cells] [blk g2859 (.cells #[(.int .i64 p0.States), (.int .i64 p0.Symbols), (.slice A_p0_Actions p0.Actions.length c_p0_Actions)] 24 (0, 0)), blk g2863 (.cells #[(.int .i64 p1.State), (.int .i64 p1.At), (.slice A_p1_Cells p1.Cells.length c_p1_Cells)] 27 (0, 0))] ∧ ref08_Fits.l0 n t p0 p1 = some x2955) k 0 [2, 3, 5] rfl ⟨(hS2871.subR [0, 1]).sub [1, 0] (by decide), hx2956⟩ ?_
    rintro k2957 x2954 w2958 ⟨hS2959, hl2960⟩
    cases k2957 with
    | zero => rw [ref08_Fits.l0] at hl2960; cases hl2960
    | succ k2957 =>
      rw [ref08_Fits.l0] at hl2960
      refine WC.seq ?_
      refine WC.seq ?_
      refine WC.region ?_
      refine seg 5 [.v (.slice A_p1_Cells p1.Cells.length c_p1_Cells)] [2, 3, 5, 50] [(2, (.pointer (some ⟨g2859, 0, none⟩))), (3, (.pointer (some ⟨g2863, 0, none⟩))), (5, (.int .i64 x2954)), (50, (.bool (decide (x2954 < (p1.Cells.length : Int)))))] [.cell ⟨g2863, 2, none⟩ (.slice A_p1_Cells p1.Cells.length c_p1_Cells)] (fun fb => by kernel_rfl) rfl ⟨hS2959.cell 1 rfl 2 rfl, trivial⟩ ?_
      refine WL.done rfl ?_
      refine WX.next ?_
      rcases br_some hl2960 with ⟨h2961, hl2960⟩ | ⟨h2961, hl2960⟩
      · refine WC.condT2 (fun fb => by kernel_rfl) h2961 ?_
        refine WC.skip ?_
        refine WX.next ?_
        refine WC.seq ?_
        refine WC.block ?_
        refine WC.seq ?_
        obtain ⟨x2976, hx2977, hl2960⟩ := bind_some hl2960
        refine WC.cutN (T := Bool) (fun t => [(2, (.pointer (some ⟨g2859, 0, none⟩))), (3, (.pointer (some ⟨g2863, 0, none⟩))), (5, (.int .i64 x2954)), (68, (.bool t))]) (fun t w1 => St NoS w w1 [rowR enc_Action A_p0_Actions c_p0_Actions p0.Actions, rowR encInt A_p1_Cells c_p1_Cells p1.Cells] [blk g2859 (.cells #[(.int .i64 p0.States), (.int .i64 p0.Symbols), (.slice A_p0_Actions p0.Actions.length c_p0_Actions)] 24 (0, 0)), blk g2863 (.cells #[(.int .i64 p1.State), (.int .i64 p1.At), (.slice A_p1_Cells p1.Cells.length c_p1_Cells)] 27 (0, 0))] ∧ x2976 = t) (fun Kx2976 => ?_) ?_
        ·
          rcases br_some hx2977 with ⟨h2979, hx2977⟩ | ⟨h2979, hx2977⟩
          ·
            obtain ⟨h2984, hx2977⟩ := as_some hx2977
            refine WC.regionD ([(1, ⟨g2863, 2, none⟩, (.slice A_p1_Cells p1.Cells.length c_p1_Cells)), (4, ((adr A_p1_Cells).add ((x2954).toNat * 1)), (.int .i64 (rdD p1.Cells x2954 0)))], [0, 1, 2, 3, 4, 5, 6, 7, 8, 9, 10, 11, 12, 13, 14, 15], [[], [0], [], [0, 1, 2], [0, 1, 2, 3], [0, 1, 2, 3, 4], [0, 1, 2, 3, 4, 5], [0, 1, 2, 3, 4, 5, 6], [0, 1, 2, 3, 4, 5, 6, 7], [0, 1, 2, 3, 4, 5, 6], [0, 1, 2, 3, 4, 5, 6, 7, 8, 9], [0, 1, 2, 3, 4, 5, 6, 7, 8, 9, 10], [0, 1, 2, 3, 4, 5, 6], [0, 1, 2, 3, 4, 5, 6, 12], [0, 1, 2, 3, 4, 5, 6, 7, 8, 9, 10, 11, 12, 13], [0, 1, 2, 3, 4, 5, 6, 7, 8, 9, 10, 11, 12, 13, 14]]) [[0, 1, 2, 3, 4, 5, 6, 7, 8, 9, 10, 11, 12, 13, 14, 15]] (by kernel_rfl) (by kernel_rfl) (NoPanic.seq (NoPanic.block (NoPanic.seq (NoPanic.seq (NoPanic.block (NoPanic.seq (NoPanic.body))))))) ?_
            have hS2982 := hS2959.drew
            revert hS2982
            generalize World.drew w2958 = w2981
            intro hS2982
            refine ⟨⟨hS2982.cell 1 rfl 2 rfl, rowR.cell (hS2982.rd 1).1 0 h2984.1 h2984.2 0 rfl, trivial⟩, forallC ?_ (forallN)⟩
            refine segF 7 [.v (.slice A_p1_Cells p1.Cells.length c_p1_Cells), .v (.int .i64 (rdD p1.Cells x2954 0))] [2, 3, 5, 59] [(2, (.pointer (some ⟨g2859, 0, none⟩))), (3, (.pointer (some ⟨g2863, 0, none⟩))), (5, (.int .i64 x2954)), (59, (.bool (decide ((rdD p1.Cells x2954 0) < 0))))] [.idx A_p1_Cells x2954 p1.Cells.length] [0, 1] [(1, ⟨g2863, 2, none⟩, (.slice A_p1_Cells p1.Cells.length c_p1_Cells)), (4, ((adr A_p1_Cells).add ((x2954).toNat * 1)), (.int .i64 (rdD p1.Cells x2954 0)))] (fun fb => by kernel_rfl) rfl ⟨rowR.adr (hS2982.rd 1).1 h2984.1 h2984.2, trivial⟩ rfl ?_
            refine WL.setB 59 h2979 rfl ?_
            refine seg 16 [] [2, 3, 5, 68] [(2, (.pointer (some ⟨g2859, 0, none⟩))), (3, (.pointer (some ⟨g2863, 0, none⟩))), (5, (.int .i64 x2954)), (68, (.bool true))] [] (fun fb => by kernel_rfl) rfl trivial ?_
            refine WL.done rfl ?_
            injection hx2977 with hx2977
            exact WX.to Kx2976 true [2, 3, 5, 68] rfl ⟨(hS2982.subR [0, 1]).sub [0, 1] (by decide), hx2977.symm⟩
          obtain ⟨h2989, hx2977⟩ := as_some hx2977
          refine WC.regionD ([(1, ⟨g2863, 2, none⟩, (.slice A_p1_Cells p1.Cells.length c_p1_Cells)), (4, ((adr A_p1_Cells).add ((x2954).toNat * 1)), (.int .i64 (rdD p1.Cells x2954 0))), (8, ⟨g2863, 2, none⟩, (.slice A_p1_Cells p1.Cells.length c_p1_Cells)), (11, ((adr A_p1_Cells).add ((x2954).toNat * 1)), (.int .i64 (rdD p1.Cells x2954 0))), (13, ⟨g2859, 1, none⟩, (.int .i64 p0.Symbols))], [0, 1, 2, 3, 4, 5, 6, 7, 8, 9, 10, 11, 12, 13, 14, 15], [[], [0], [], [0, 1, 2], [0, 1, 2, 3], [0, 1, 2, 3, 4], [0, 1, 2, 3, 4, 5], [0, 1, 2, 3, 4, 5, 6], [0, 1, 2, 3, 4, 5, 6, 7], [0, 1, 2, 3, 4, 5, 6], [0, 1, 2, 3, 4, 5, 6, 7, 8, 9], [0, 1, 2, 3, 4, 5, 6, 7, 8, 9, 10], [0, 1, 2, 3, 4, 5, 6], [0, 1, 2, 3, 4, 5, 6, 12], [0, 1, 2, 3, 4, 5, 6, 7, 8, 9, 10, 11, 12, 13], [0, 1, 2, 3, 4, 5, 6, 7, 8, 9, 10, 11, 12, 13, 14]]) [[0, 1, 2, 3, 4, 5, 6, 7, 8, 9, 10, 11, 12, 13, 14, 15]] (by kernel_rfl) (by kernel_rfl) (NoPanic.seq (NoPanic.block (NoPanic.seq (NoPanic.seq (NoPanic.block (NoPanic.seq (NoPanic.body))))))) ?_
          have hS2987 := hS2959.drew
          revert hS2987
          generalize World.drew w2958 = w2986
          intro hS2987
          refine ⟨⟨hS2987.cell 1 rfl 2 rfl, rowR.cell (hS2987.rd 1).1 0 h2989.1 h2989.2 0 rfl, hS2987.cell 1 rfl 2 rfl, rowR.cell (hS2987.rd 1).1 0 h2989.1 h2989.2 0 rfl, hS2987.cell 0 rfl 1 rfl, trivial⟩, forallC ?_ (forallN)⟩
          refine segF 7 [.v (.slice A_p1_Cells p1.Cells.length c_p1_Cells), .v (.int .i64 (rdD p1.Cells x2954 0))] [2, 3, 5, 59] [(2, (.pointer (some ⟨g2859, 0, none⟩))), (3, (.pointer (some ⟨g2863, 0, none⟩))), (5, (.int .i64 x2954)), (59, (.bool (decide ((rdD p1.Cells x2954 0) < 0))))] [.idx A_p1_Cells x2954 p1.Cells.length] [0, 1] [(1, ⟨g2863, 2, none⟩, (.slice A_p1_Cells p1.Cells.length c_p1_Cells)), (4, ((adr A_p1_Cells).add ((x2954).toNat * 1)), (.int .i64 (rdD p1.Cells x2954 0)))] (fun fb => by kernel_rfl) rfl ⟨rowR.adr (hS2987.rd 1).1 h2989.1 h2989.2, trivial⟩ rfl ?_
          refine WL.setB 59 h2979 rfl ?_
          refine segF 16 [.v (.slice A_p1_Cells p1.Cells.length c_p1_Cells), .v (.int .i64 (rdD p1.Cells x2954 0)), .v (.int .i64 p0.Symbols)] [2, 3, 5, 68] [(2, (.pointer (some ⟨g2859, 0, none⟩))), (3, (.pointer (some ⟨g2863, 0, none⟩))), (5, (.int .i64 x2954)), (68, (.bool (decide ((rdD p1.Cells x2954 0) ≥ p0.Symbols))))] [.idx A_p1_Cells x2954 p1.Cells.length] [2, 3, 4] [(8, ⟨g2863, 2, none⟩, (.slice A_p1_Cells p1.Cells.length c_p1_Cells)), (11, ((adr A_p1_Cells).add ((x2954).toNat * 1)), (.int .i64 (rdD p1.Cells x2954 0))), (13, ⟨g2859, 1, none⟩, (.int .i64 p0.Symbols))] (fun fb => by kernel_rfl) rfl ⟨rowR.adr (hS2987.rd 1).1 h2989.1 h2989.2, trivial⟩ rfl ?_
          refine WL.done rfl ?_
          injection hx2977 with hx2977
          exact WX.to Kx2976 (decide ((rdD p1.Cells x2954 0) ≥ p0.Symbols)) [2, 3, 5, 68] rfl ⟨(hS2987.subR [0, 1]).sub [0, 1] (by decide), hx2977.symm⟩
        rintro y2993 w2990 ⟨hS2991, hq2992⟩
        subst hq2992
        refine WX.next ?_
        rcases br_some hl2960 with ⟨h2994, hl2960⟩ | ⟨h2994, hl2960⟩
        · refine WC.condT2 (fun fb => by kernel_rfl) h2994 ?_
          refine WC.seq ?_
          refine WC.region ?_
          refine seg 1 [] [4] [(4, (.bool false))] [] (fun fb => by kernel_rfl) rfl trivial ?_
          refine WL.done rfl ?_
          refine WX.next ?_
          refine WC.ret ?_
          injection hl2960 with hl2960
          subst hl2960
          injection hf with hf
          subst hf
          exact WX.blockR (WX.thenR (WX.thenR (WX.blockR (WX.thenR (WX.ret_ [] (.bool false) [] (fun fb => by kernel_rfl) trivial ⟨_, rfl, rfl, hS2991.keep⟩)))))
        refine WC.condF2 (fun fb => by kernel_rfl) h2994 ?_
        refine WC.skip ?_
        refine WX.blockN (WX.next ?_)
        refine WC.region ?_
        refine seg 3 [] [2, 3, 5] [(2, (.pointer (some ⟨g2859, 0, none⟩))), (3, (.pointer (some ⟨g2863, 0, none⟩))), (5, (.int .i64 (w64 (x2954 + 1))))] [] (fun fb => by kernel_rfl) rfl trivial ?_
        refine WL.done rfl ?_
        exact WX.again k2957 (Nat.lt_succ_self _) (w64 (x2954 + 1)) [2, 3, 5] rfl ⟨(hS2991.subR [0, 1]).sub [0, 1] (by decide), hl2960⟩
      refine WC.condF2 (fun fb => by kernel_rfl) h2961 ?_
      refine WC.exit ?_
      injection hl2960 with hl2960
      exact WX.thenX (WX.thenX (WX.blockHere (WX.to Kx2955 () [] rfl ⟨(hS2959.subR [0, 1]).sub [] (by decide), hl2960.symm⟩)))
  rintro y2998 w2995 ⟨hS2996, hq2997⟩
  subst hq2997
  have hf := sum_inr hf
  refine WX.next ?_
  refine WC.seq ?_
  refine WC.region ?_
  refine seg 1 [] [4] [(4, (.bool true))] [] (fun fb => by kernel_rfl) rfl trivial ?_
  refine WL.done rfl ?_
  refine WX.next ?_
  refine WC.ret ?_
  injection hf with hf
  subst hf
  exact WX.ret_ [] (.bool true) [] (fun fb => by kernel_rfl) trivial ⟨_, rfl, rfl, hS2996.keep⟩
theorem machine_Step_calls (k : Nat) (p0 : Machine) (p1 : Config) (A_p0_Actions : Option Addr) (c_p0_Actions : Nat) (A_p1_Cells : Option Addr) (c_p1_Cells : Nat) (r : Config × Int) (w : World) (hR0 : RO NoS w (rowR enc_Action A_p0_Actions c_p0_Actions p0.Actions)) (hR1 : RO NoS w (rowR encInt A_p1_Cells c_p1_Cells p1.Cells)) (hf : machine_Step k p0 p1 = some r) :
    CallsR Try.prog 19 #[(.agg #[(.int .i64 p0.States), (.int .i64 p0.Symbols), (.slice A_p0_Actions p0.Actions.length c_p0_Actions)]), (.agg #[(.int .i64 p1.State), (.int .i64 p1.At), (.slice A_p1_Cells p1.Cells.length c_p1_Cells)])] w (fun v w' => ∃ (A1_ : Option Addr), ∃ (c1_ : Nat), v = (.tuple #[(.agg #[(.int .i64 r.1.State), (.int .i64 r.1.At), (.slice A1_ r.1.Cells.length c1_)]), (.int .i64 r.2)]) ∧ St NoS w w' [] [rowO 3 encInt A1_ c1_ r.1.Cells]) := by
  have hS : St NoS w w [rowR enc_Action A_p0_Actions c_p0_Actions p0.Actions, rowR encInt A_p1_Cells c_p1_Cells p1.Cells] [] := St.init (ro_cons hR0 (ro_cons hR1 (ro_nil _ _)))
  refine enter 26 Try.func19 rfl Try.ntmps19 rfl ?_
  unfold machine_Step at hf
  refine WC.seq ?_
  refine WC.region ?_
  refine WL.new hS 2 [] (fun g => (.pointer (some ⟨g, 0, none⟩))) (.cells #[(.int .i64 p0.States), (.int .i64 p0.Symbols), (.slice A_p0_Actions p0.Actions.length c_p0_Actions)] 24 (0, 0)) [] (fun fb g => by kernel_rfl) trivial (fun g3066 w3067 hS3068 => ?_)
  refine ⟨trivial, ?_⟩
  refine WL.new hS3068 3 [] (fun g => (.pointer (some ⟨g, 0, none⟩))) (.cells #[(.int .i64 p1.State), (.int .i64 p1.At), (.slice A_p1_Cells p1.Cells.length c_p1_Cells)] 27 (0, 0)) [] (fun fb g => by kernel_rfl) trivial (fun g3070 w3071 hS3072 => ?_)
  refine ⟨trivial, ?_⟩
  refine WL.new hS3072 4 [] (fun g => (.pointer (some ⟨g, 0, none⟩))) (.cells #[(.int .i64 0), (.int .i64 0), (.slice none 0 0)] 27 (0, 0)) [] (fun fb g => by kernel_rfl) trivial (fun g3074 w3075 hS3076 => ?_)
  refine ⟨trivial, ?_⟩
  refine seg 4 [] [2, 3, 4] [(2, (.pointer (some ⟨g3066, 0, none⟩))), (3, (.pointer (some ⟨g3070, 0, none⟩))), (4, (.pointer (some ⟨g3074, 0, none⟩)))] [] (fun fb => by kernel_rfl) rfl trivial ?_
  refine WL.done rfl ?_
  refine WX.next ?_
  refine WC.seq ?_
  refine WC.seq ?_
  refine WC.region ?_
  refine seg 2 [.v (.int .i64 p0.States), .v (.int .i64 p0.Symbols), .v (.slice A_p0_Actions p0.Actions.length c_p0_Actions), .v (.int .i64 p1.State), .v (.int .i64 p1.At), .v (.slice A_p1_Cells p1.Cells.length c_p1_Cells)] [2, 3, 4, 8, 9] [(2, (.pointer (some ⟨g3066, 0, none⟩))), (3, (.pointer (some ⟨g3070, 0, none⟩))), (4, (.pointer (some ⟨g3074, 0, none⟩))), (8, (.agg #[(.int .i64 p0.States), (.int .i64 p0.Symbols), (.slice A_p0_Actions p0.Actions.length c_p0_Actions)])), (9, (.agg #[(.int .i64 p1.State), (.int .i64 p1.At), (.slice A_p1_Cells p1.Cells.length c_p1_Cells)]))] [.cell ⟨g3066, 0, none⟩ (.int .i64 p0.States), .cell ⟨g3066, 1, none⟩ (.int .i64 p0.Symbols), .cell ⟨g3066, 2, none⟩ (.slice A_p0_Actions p0.Actions.length c_p0_Actions), .cell ⟨g3070, 0, none⟩ (.int .i64 p1.State), .cell ⟨g3070, 1, none⟩ (.int .i64 p1.At), .cell ⟨g3070, 2, none⟩ (.slice A_p1_Cells p1.Cells.length c_p1_Cells)] (fun fb => by kernel_rfl) rfl ⟨hS3076.cell 2 rfl 0 rfl, hS3076.cell 2 rfl 1 rfl, hS3076.cell 2 rfl 2 rfl, hS3076.cell 1 rfl 0 rfl, hS3076.cell 1 rfl 1 rfl, hS3076.cell 1 rfl 2 rfl, trivial⟩ ?_
  obtain ⟨t3078, ht3079, hf⟩ := bind_some hf
  refine WL.call (some 10) 18 #[(.agg #[(.int .i64 p0.States), (.int .i64 p0.Symbols), (.slice A_p0_Actions p0.Actions.length c_p0_Actions)]), (.agg #[(.int .i64 p1.State), (.int .i64 p1.At), (.slice A_p1_Cells p1.Cells.length c_p1_Cells)])] (fun fb => by kernel_rfl) (machine_Fits_calls _ p0 p1 A_p0_Actions c_p0_Actions A_p1_Cells c_p1_Cells t3078 _ (hS3076.rd 0) (hS3076.rd 1) ht3079) (fun v w3080 hR3081 => ?_)
  obtain ⟨rfl, hk_⟩ := hR3081
  have hS3082 := hS3076.keepN hk_
  refine ⟨trivial, ?_⟩
  refine seg 4 [] [2, 3, 4, 11] [(2, (.pointer (some ⟨g3066, 0, none⟩))), (3, (.pointer (some ⟨g3070, 0, none⟩))), (4, (.pointer (some ⟨g3074, 0, none⟩))), (11, (.bool (!t3078)))] [] (fun fb => by kernel_rfl) rfl trivial ?_
  refine WL.done rfl ?_
  refine WX.next ?_
  rcases br_some hf with ⟨h3083, hf⟩ | ⟨h3083, hf⟩
  · refine WC.condT2 (fun fb => by kernel_rfl) h3083 ?_
    refine WC.seq ?_
    refine WC.region ?_
    refine seg 1 [] [4, 12] [(4, (.pointer (some ⟨g3074, 0, none⟩))), (12, (.agg #[(.int .i64 0), (.int .i64 0), (.slice none 0 0)]))] [] (fun fb => by kernel_rfl) rfl trivial ?_
    refine WL.store hS3082 0 rfl [(0, (.int .i64 0)), (1, (.int .i64 0)), (2, (.slice none 0 0))] #[(.int .i64 0), (.int .i64 0), (.slice none 0 0)] (fun fb => by kernel_rfl) (by kernel_rfl) rfl [1, 2] (by decide) (by decide) (fun w3084 hS3085 => ?_)
    refine ⟨trivial, ?_⟩
    refine seg 3 [] [4, 5] [(4, (.pointer (some ⟨g3074, 0, none⟩))), (5, (.int .i64 1))] [] (fun fb => by kernel_rfl) rfl trivial ?_
    refine WL.done rfl ?_
    refine WX.next ?_
    refine WC.ret ?_
    have hS3086 := hS3085.nilrow 3 encInt
    injection hf with hf
    subst hf
    exact WX.thenR (WX.ret_ [.v (.int .i64 0), .v (.int .i64 0), .v (.slice none 0 0)] (.tuple #[(.agg #[(.int .i64 0), (.int .i64 0), (.slice none ([] : List Int).length 0)]), (.int .i64 1)]) [.cell ⟨g3074, 0, none⟩ (.int .i64 0), .cell ⟨g3074, 1, none⟩ (.int .i64 0), .cell ⟨g3074, 2, none⟩ (.slice none 0 0)] (fun fb => by kernel_rfl) ⟨hS3085.cell 0 rfl 0 rfl, hS3085.cell 0 rfl 1 rfl, hS3085.cell 0 rfl 2 rfl, trivial⟩ ⟨_, rfl, none, 0, rfl, (hS3086.sub [0] (by decide)).noR⟩)
  refine WC.condF2 (fun fb => by kernel_rfl) h3083 ?_
  refine WC.skip ?_
  refine WX.next ?_
  refine WC.seq ?_
  refine WC.region ?_
  refine seg 2 [.v (.int .i64 p0.States), .v (.int .i64 p0.Symbols), .v (.slice A_p0_Actions p0.Actions.length c_p0_Actions), .v (.int .i64 p1.State), .v (.int .i64 p1.At), .v (.slice A_p1_Cells p1.Cells.length c_p1_Cells)] [4, 13, 14] [(4, (.pointer (some ⟨g3074, 0, none⟩))), (13, (.agg #[(.int .i64 p0.States), (.int .i64 p0.Symbols), (.slice A_p0_Actions p0.Actions.length c_p0_Actions)])), (14, (.agg #[(.int .i64 p1.State), (.int .i64 p1.At), (.slice A_p1_Cells p1.Cells.length c_p1_Cells)]))] [.cell ⟨g3066, 0, none⟩ (.int .i64 p0.States), .cell ⟨g3066, 1, none⟩ (.int .i64 p0.Symbols), .cell ⟨g3066, 2, none⟩ (.slice A_p0_Actions p0.Actions.length c_p0_Actions), .cell ⟨g3070, 0, none⟩ (.int .i64 p1.State), .cell ⟨g3070, 1, none⟩ (.int .i64 p1.At), .cell ⟨g3070, 2, none⟩ (.slice A_p1_Cells p1.Cells.length c_p1_Cells)] (fun fb => by kernel_rfl) rfl ⟨hS3082.cell 2 rfl 0 rfl, hS3082.cell 2 rfl 1 rfl, hS3082.cell 2 rfl 2 rfl, hS3082.cell 1 rfl 0 rfl, hS3082.cell 1 rfl 1 rfl, hS3082.cell 1 rfl 2 rfl, trivial⟩ ?_
  obtain ⟨t3087, ht3088, hf⟩ := bind_some hf
  refine WL.call (some 15) 42 #[(.agg #[(.int .i64 p0.States), (.int .i64 p0.Symbols), (.slice A_p0_Actions p0.Actions.length c_p0_Actions)]), (.agg #[(.int .i64 p1.State), (.int .i64 p1.At), (.slice A_p1_Cells p1.Cells.length c_p1_Cells)])] (fun fb => by kernel_rfl) (machine_begin_calls p0 p1 A_p0_Actions c_p0_Actions A_p1_Cells c_p1_Cells t3087 _ (hS3082.rd 0) (hS3082.rd 1) ht3088) (fun v w3089 hR3090 => ?_)
  obtain ⟨g3092, A3093, c3094, rfl, hk_⟩ := hR3090
  have hS3091 : St NoS w w3089 [rowR enc_Action A_p0_Actions c_p0_Actions p0.Actions, rowR encInt A_p1_Cells c_p1_Cells p1.Cells] [blk g3092 (.cells #[(.int .i64 t3087.m.States), (.int .i64 t3087.m.Symbols), (.slice A_p0_Actions p0.Actions.length c_p0_Actions), (.int .i64 t3087.Config.State), (.int .i64 t3087.Config.At), (.slice A3093 t3087.Config.Cells.length c3094)] 82 (0, 0)), rowO 3 encInt A3093 c3094 t3087.Config.Cells, blk g3074 (.cells #[(.int .i64 0), (.int .i64 0), (.slice none 0 0)] 27 (0, 0)), blk g3070 (.cells #[(.int .i64 p1.State), (.int .i64 p1.At), (.slice A_p1_Cells p1.Cells.length c_p1_Cells)] 27 (0, 0)), blk g3066 (.cells #[(.int .i64 p0.States), (.int .i64 p0.Symbols), (.slice A_p0_Actions p0.Actions.length c_p0_Actions)] 24 (0, 0))] := hS3082.call hk_ [] [0, 1, 2] (fun g hg => hg.elim) (by simp) (by decide)
  refine ⟨trivial, ?_⟩
  refine seg 4 [] [4, 6] [(4, (.pointer (some ⟨g3074, 0, none⟩))), (6, (.pointer (some ⟨g3092, 0, none⟩)))] [] (fun fb => by kernel_rfl) rfl trivial ?_
  refine WL.done rfl ?_
  refine WX.next ?_
  refine WC.seq ?_
  refine WC.seq ?_
  refine WC.region ?_
  refine seg 1 [] [4, 6, 16] [(4, (.pointer (some ⟨g3074, 0, none⟩))), (6, (.pointer (some ⟨g3092, 0, none⟩))), (16, (.pointer (some ⟨g3092, 0, none⟩)))] [] (fun fb => by kernel_rfl) rfl trivial ?_
  obtain ⟨t3095, ht3096, hf⟩ := bind_some hf
  refine WL.call (some 17) 43 #[(.pointer (some ⟨g3092, 0, none⟩))] (fun fb => by kernel_rfl) (machine_runner_step_calls (Runner.mk (Machine.mk t3087.m.States t3087.m.Symbols p0.Actions) t3087.Config) g3092 A_p0_Actions c_p0_Actions A3093 c3094 t3095 _ (hS3091.rdT [0, 1] 0) (hS3091.io [0, 1] (by decide)) ht3096) (fun v w3097 hR3098 => ?_)
  obtain ⟨A3100, c3101, rfl, hk_⟩ := hR3098
  have hS3099 : St NoS w w3097 [rowR enc_Action A_p0_Actions c_p0_Actions p0.Actions, rowR encInt A_p1_Cells c_p1_Cells p1.Cells] [blk g3092 (.cells #[(.int .i64 t3095.2.m.States), (.int .i64 t3095.2.m.Symbols), (.slice A_p0_Actions p0.Actions.length c_p0_Actions), (.int .i64 t3095.2.Config.State), (.int .i64 t3095.2.Config.At), (.slice A3100 t3095.2.Config.Cells.length c3101)] 82 (0, 0)), rowO 3 encInt A3100 c3101 t3095.2.Config.Cells, blk g3074 (.cells #[(.int .i64 0), (.int .i64 0), (.slice none 0 0)] 27 (0, 0)), blk g3070 (.cells #[(.int .i64 p1.State), (.int .i64 p1.At), (.slice A_p1_Cells p1.Cells.length c_p1_Cells)] 27 (0, 0)), blk g3066 (.cells #[(.int .i64 p0.States), (.int .i64 p0.Symbols), (.slice A_p0_Actions p0.Actions.length c_p0_Actions)] 24 (0, 0))] := hS3091.call hk_ [0, 1] [2, 3, 4] (fun g hg => fpL_sel g hg) (by decide) (by decide)
  refine ⟨trivial, ?_⟩
  refine seg 3 [] [4, 6, 7] [(4, (.pointer (some ⟨g3074, 0, none⟩))), (6, (.pointer (some ⟨g3092, 0, none⟩))), (7, (.int .i64 t3095.1))] [] (fun fb => by kernel_rfl) rfl trivial ?_
  refine WL.done rfl ?_
  refine WX.next ?_
  refine WC.seq ?_
  refine WC.region ?_
  refine seg 2 [] [4, 6, 7, 19] [(4, (.pointer (some ⟨g3074, 0, none⟩))), (6, (.pointer (some ⟨g3092, 0, none⟩))), (7, (.int .i64 t3095.1)), (19, (.bool (t3095.1 != 0)))] [] (fun fb => by kernel_rfl) rfl trivial ?_
  refine WL.done rfl ?_
  refine WX.next ?_
  rcases br_some hf with ⟨h3102, hf⟩ | ⟨h3102, hf⟩
  · refine WC.condT2 (fun fb => by kernel_rfl) h3102 ?_
    refine WC.seq ?_
    refine WC.region ?_
    refine seg 2 [] [4, 20, 21] [(4, (.pointer (some ⟨g3074, 0, none⟩))), (20, (.agg #[(.int .i64 0), (.int .i64 0), (.slice none 0 0)])), (21, (.int .i64 t3095.1))] [] (fun fb => by kernel_rfl) rfl trivial ?_
    refine WL.store hS3099 2 rfl [(0, (.int .i64 0)), (1, (.int .i64 0)), (2, (.slice none 0 0))] #[(.int .i64 0), (.int .i64 0), (.slice none 0 0)] (fun fb => by kernel_rfl) (by kernel_rfl) rfl [0, 1, 3, 4] (by decide) (by decide) (fun w3103 hS3104 => ?_)
    refine ⟨trivial, ?_⟩
    refine seg 4 [] [4, 5] [(4, (.pointer (some ⟨g3074, 0, none⟩))), (5, (.int .i64 t3095.1))] [] (fun fb => by kernel_rfl) rfl trivial ?_
    refine WL.done rfl ?_
    refine WX.next ?_
    refine WC.ret ?_
    have hS3105 := hS3104.nilrow 3 encInt
    injection hf with hf
    subst hf
    exact WX.thenR (WX.ret_ [.v (.int .i64 0), .v (.int .i64 0), .v (.slice none 0 0)] (.tuple #[(.agg #[(.int .i64 0), (.int .i64 0), (.slice none ([] : List Int).length 0)]), (.int .i64 t3095.1)]) [.cell ⟨g3074, 0, none⟩ (.int .i64 0), .cell ⟨g3074, 1, none⟩ (.int .i64 0), .cell ⟨g3074, 2, none⟩ (.slice none 0 0)] (fun fb => by kernel_rfl) ⟨hS3104.cell 0 rfl 0 rfl, hS3104.cell 0 rfl 1 rfl, hS3104.cell 0 rfl 2 rfl, trivial⟩ ⟨_, rfl, none, 0, rfl, (hS3105.sub [0] (by decide)).noR⟩)
  refine WC.condF2 (fun fb => by kernel_rfl) h3102 ?_
  refine WC.skip ?_
  refine WX.next ?_
  refine WC.seq ?_
  refine WC.region ?_
  refine seg 4 [.v (.int .i64 t3095.2.Config.State), .v (.int .i64 t3095.2.Config.At), .v (.slice A3100 t3095.2.Config.Cells.length c3101)] [4, 25] [(4, (.pointer (some ⟨g3074, 0, none⟩))), (25, (.agg #[(.int .i64 t3095.2.Config.State), (.int .i64 t3095.2.Config.At), (.slice A3100 t3095.2.Config.Cells.length c3101)]))] [.cell ⟨g3092, 3, none⟩ (.int .i64 t3095.2.Config.State), .cell ⟨g3092, 4, none⟩ (.int .i64 t3095.2.Config.At), .cell ⟨g3092, 5, none⟩ (.slice A3100 t3095.2.Config.Cells.length c3101)] (fun fb => by kernel_rfl) rfl ⟨hS3099.cell 0 rfl 3 rfl, hS3099.cell 0 rfl 4 rfl, hS3099.cell 0 rfl 5 rfl, trivial⟩ ?_
  refine WL.store hS3099 2 rfl [(0, (.int .i64 t3095.2.Config.State)), (1, (.int .i64 t3095.2.Config.At)), (2, (.slice A3100 t3095.2.Config.Cells.length c3101))] #[(.int .i64 t3095.2.Config.State), (.int .i64 t3095.2.Config.At), (.slice A3100 t3095.2.Config.Cells.length c3101)] (fun fb => by kernel_rfl) (by kernel_rfl) rfl [0, 1, 3, 4] (by decide) (by decide) (fun w3106 hS3107 => ?_)
  refine ⟨trivial, ?_⟩
  refine seg 6 [] [4, 5] [(4, (.pointer (some ⟨g3074, 0, none⟩))), (5, (.int .i64 0))] [] (fun fb => by kernel_rfl) rfl trivial ?_
  refine WL.done rfl ?_
  refine WX.next ?_
  refine WC.ret ?_
  injection hf with hf
  subst hf
  exact WX.ret_ [.v (.int .i64 t3095.2.Config.State), .v (.int .i64 t3095.2.Config.At), .v (.slice A3100 t3095.2.Config.Cells.length c3101)] (.tuple #[(.agg #[(.int .i64 t3095.2.Config.State), (.int .i64 t3095.2.Config.At), (.slice A3100 t3095.2.Config.Cells.length c3101)]), (.int .i64 0)]) [.cell ⟨g3074, 0, none⟩ (.int .i64 t3095.2.Config.State), .cell ⟨g3074, 1, none⟩ (.int .i64 t3095.2.Config.At), .cell ⟨g3074, 2, none⟩ (.slice A3100 t3095.2.Config.Cells.length c3101)] (fun fb => by kernel_rfl) ⟨hS3107.cell 0 rfl 0 rfl, hS3107.cell 0 rfl 1 rfl, hS3107.cell 0 rfl 2 rfl, trivial⟩ ⟨_, rfl, A3100, c3101, rfl, (hS3107.sub [2] (by decide)).noR⟩
theorem ref08_SameConfig_calls (k : Nat) (p0 : Config) (p1 : Config) (A_p0_Cells : Option Addr) (c_p0_Cells : Nat) (A_p1_Cells : Option Addr) (c_p1_Cells : Nat) (r : Bool) (w : World) (hR0 : RO NoS w (rowR encInt A_p0_Cells c_p0_Cells p0.Cells)) (hR1 : RO NoS w (rowR encInt A_p1_Cells c_p1_Cells p1.Cells)) (hf : ref08_SameConfig k p0 p1 = some r) :
    CallsR Try.prog 21 #[(.agg #[(.int .i64 p0.State), (.int .i64 p0.At), (.slice A_p0_Cells p0.Cells.length c_p0_Cells)]), (.agg #[(.int .i64 p1.State), (.int .i64 p1.At), (.slice A_p1_Cells p1.Cells.length c_p1_Cells)])] w (fun v w' => v = (.bool r) ∧ Keeps NoS w w') := by
  have hS : St NoS w w [rowR encInt A_p0_Cells c_p0_Cells p0.Cells, rowR encInt A_p1_Cells c_p1_Cells p1.Cells] [] := St.init (ro_cons hR0 (ro_cons hR1 (ro_nil _ _)))
  refine enter 45 Try.func21 rfl Try.ntmps21 rfl ?_
  unfold ref08_SameConfig at hf
  refine WC.seq ?_
  refine WC.region ?_
  refine WL.new hS 2 [] (fun g => (.pointer (some ⟨g, 0, none⟩))) (.cells #[(.int .i64 p0.State), (.int .i64 p0.At), (.slice A_p0_Cells p0.Cells.length c_p0_Cells)] 27 (0, 0)) [] (fun fb g => by kernel_rfl) trivial (fun g3148 w3149 hS3150 => ?_)
  refine ⟨trivial, ?_⟩
  refine WL.new hS3150 3 [] (fun g => (.pointer (some ⟨g, 0, none⟩))) (.cells #[(.int .i64 p1.State), (.int .i64 p1.At), (.slice A_p1_Cells p1.Cells.length c_p1_Cells)] 27 (0, 0)) [] (fun fb g => by kernel_rfl) trivial (fun g3152 w3153 hS3154 => ?_)
  refine ⟨trivial, ?_⟩
  refine seg 3 [] [2, 3] [(2, (.pointer (some ⟨g3148, 0, none⟩))), (3, (.pointer (some ⟨g3152, 0, none⟩)))] [] (fun fb => by kernel_rfl) rfl trivial ?_
  refine WL.done rfl ?_
  refine WX.next ?_
  refine WC.seq ?_
  refine WC.seq ?_
  refine WC.region ?_
  refine seg 6 [.v (.int .i64 p0.State), .v (.int .i64 p1.State)] [2, 3, 11] [(2, (.pointer (some ⟨g3148, 0, none⟩))), (3, (.pointer (some ⟨g3152, 0, none⟩))), (11, (.bool (p0.State != p1.State)))] [.cell ⟨g3148, 0, none⟩ (.int .i64 p0.State), .cell ⟨g3152, 0, none⟩ (.int .i64 p1.State)] (fun fb => by kernel_rfl) rfl ⟨hS3154.cell 1 rfl 0 rfl, hS3154.cell 0 rfl 0 rfl, trivial⟩ ?_
  refine WL.cutV (T := Bool) 12 (fun t => [(17, (.bool t)), (2, (.pointer (some ⟨g3148, 0, none⟩))), (3, (.pointer (some ⟨g3152, 0, none⟩)))]) (fun t => t = ((p0.State != p1.State) || (p0.At != p1.At))) (fun K => ?_) ?_
  ·
    rcases Bool.eq_false_or_eq_true (p0.State != p1.State) with h3156 | h3156
    ·
      refine WL.setB 11 h3156 rfl ?_
      refine seg 12 [] [2, 3, 17] [(2, (.pointer (some ⟨g3148, 0, none⟩))), (3, (.pointer (some ⟨g3152, 0, none⟩))), (17, (.bool true))] [] (fun fb => by kernel_rfl) rfl trivial ?_
      exact WL.toV K true [17, 2, 3] rfl (by rw [h3156]; rfl)
    refine WL.setB 11 h3156 rfl ?_
    refine seg 12 [.v (.int .i64 p0.At), .v (.int .i64 p1.At)] [2, 3, 17] [(2, (.pointer (some ⟨g3148, 0, none⟩))), (3, (.pointer (some ⟨g3152, 0, none⟩))), (17, (.bool (p0.At != p1.At)))] [.cell ⟨g3148, 1, none⟩ (.int .i64 p0.At), .cell ⟨g3152, 1, none⟩ (.int .i64 p1.At)] (fun fb => by kernel_rfl) rfl ⟨hS3154.cell 1 rfl 1 rfl, hS3154.cell 0 rfl 1 rfl, trivial⟩ ?_
    exact WL.toV K (p0.At != p1.At) [17, 2, 3] rfl (by rw [h3156]; rfl)
  rintro b3157 rfl
  refine seg 13 [] [2, 3, 18] [(2, (.pointer (some ⟨g3148, 0, none⟩))), (3, (.pointer (some ⟨g3152, 0, none⟩))), (18, (.bool ((p0.State != p1.State) || (p0.At != p1.At))))] [] (fun fb => by kernel_rfl) rfl trivial ?_
  refine WL.cutV (T := Bool) 21 (fun t => [(26, (.bool t)), (2, (.pointer (some ⟨g3148, 0, none⟩))), (3, (.pointer (some ⟨g3152, 0, none⟩)))]) (fun t => t = (((p0.State != p1.State) || (p0.At != p1.At)) || ((p0.Cells.length : Int) != (p1.Cells.length : Int)))) (fun K => ?_) ?_
  ·
    rcases Bool.eq_false_or_eq_true ((p0.State != p1.State) || (p0.At != p1.At)) with h3158 | h3158
    ·
      refine WL.setB 18 h3158 rfl ?_
      refine seg 21 [] [2, 3, 26] [(2, (.pointer (some ⟨g3148, 0, none⟩))), (3, (.pointer (some ⟨g3152, 0, none⟩))), (26, (.bool true))] [] (fun fb => by kernel_rfl) rfl trivial ?_
      exact WL.toV K true [26, 2, 3] rfl (by rw [h3158]; rfl)
    refine WL.setB 18 h3158 rfl ?_
    refine seg 21 [.v (.slice A_p0_Cells p0.Cells.length c_p0_Cells), .v (.slice A_p1_Cells p1.Cells.length c_p1_Cells)] [2, 3, 26] [(2, (.pointer (some ⟨g3148, 0, none⟩))), (3, (.pointer (some ⟨g3152, 0, none⟩))), (26, (.bool ((p0.Cells.length : Int) != (p1.Cells.length : Int))))] [.cell ⟨g3148, 2, none⟩ (.slice A_p0_Cells p0.Cells.length c_p0_Cells), .cell ⟨g3152, 2, none⟩ (.slice A_p1_Cells p1.Cells.length c_p1_Cells)] (fun fb => by kernel_rfl) rfl ⟨hS3154.cell 1 rfl 2 rfl, hS3154.cell 0 rfl 2 rfl, trivial⟩ ?_
    exact WL.toV K ((p0.Cells.length : Int) != (p1.Cells.length : Int)) [26, 2, 3] rfl (by rw [h3158]; rfl)
  rintro b3159 rfl
  refine WL.done rfl ?_
  refine WX.next ?_
  rcases br_some hf with ⟨h3160, hf⟩ | ⟨h3160, hf⟩
  · refine WC.condT2 (fun fb => by kernel_rfl) h3160 ?_
    refine WC.seq ?_
    refine WC.region ?_
    refine seg 1 [] [4] [(4, (.bool false))] [] (fun fb => by kernel_rfl) rfl trivial ?_
    refine WL.done rfl ?_
    refine WX.next ?_
    refine WC.ret ?_
    injection hf with hf
    subst hf
    exact WX.thenR (WX.ret_ [] (.bool false) [] (fun fb => by kernel_rfl) trivial ⟨_, rfl, rfl, hS3154.keep⟩)
  refine WC.condF2 (fun fb => by kernel_rfl) h3160 ?_
  refine WC.skip ?_
  refine WX.next ?_
  refine WC.seq ?_
  refine WC.seq ?_
  refine WC.region ?_
  refine seg 1 [] [2, 3, 5] [(2, (.pointer (some ⟨g3148, 0, none⟩))), (3, (.pointer (some ⟨g3152, 0, none⟩))), (5, (.int .i64 0))] [] (fun fb => by kernel_rfl) rfl trivial ?_
  refine WL.done rfl ?_
  refine WX.next ?_
  obtain ⟨x3183, hx3184, hf⟩ := bind_some hf
  refine WC.cutN (T := Unit) (fun t => []) (fun t w1 => St NoS w w1 [rowR encInt A_p0_Cells c_p0_Cells p0.Cells, rowR encInt A_p1_Cells c_p1_Cells p1.Cells] [] ∧ x3183 = .inr t) (fun Kx3183 => ?_) ?_
  ·
    refine WC.block ?_
    refine WC.loop (T := Int) (fun t => [(2, (.pointer (some ⟨g3148, 0, none⟩))), (3, (.pointer (some ⟨g3152, 0, none⟩))), (5, (.int .i64 t))]) (fun n t w1 => St NoS w w1 [rowR encInt A_p0_Cells c_p0_Cells p0.Cells, rowR encInt A_p1_Cells c_p1_Cells p1.Cells] [blk g3148 (.cells #[(.int .i64 p0.State), (.int .i64 p0.At), (.slice A_p0_Cells p0.Cells.length c_p0_Cells)] 27 (0, 0)), blk g3152 (.cells #[(.int .i64 p1.State), (.int .i64 p1.At), (.slice A_p1_Cells p1.Cells.length c_p1_Cells)] 27 (0, 0))] ∧ ref08_SameConfig.l0 n t p0 p1 = some x3183) k 0 [2, 3, 5] rfl ⟨(hS3154.subR [0, 1]).sub [1, 0] (by decide), hx3184⟩ ?_
    rintro k3185 x3182 w3186 ⟨hS3187, hl3188⟩
    cases k3185 with
    | zero => rw [ref08_SameConfig.l0] at hl3188; cases hl3188
    | succ k3185 =>
      rw [ref08_SameConfig.l0] at hl3188
      refine WC.seq ?_
      refine WC.seq ?_
      refine WC.region ?_
      refine seg 5 [.v (.slice A_p0_Cells p0.Cells.length c_p0_Cells)] [2, 3, 5, 31] [(2, (.pointer (some ⟨g3148, 0, none⟩))), (3, (.pointer (some ⟨g3152, 0, none⟩))), (5, (.int .i64 x3182)), (31, (.bool (decide (x3182 < (p0.Cells.length : Int)))))] [.cell ⟨g3148, 2, none⟩ (.slice A_p0_Cells p0.Cells.length c_p0_Cells)] (fun fb => by kernel_rfl) rfl ⟨hS3187.cell 0 rfl 2 rfl, trivial⟩ ?_
      refine WL.done rfl ?_
      refine WX.next ?_
      rcases br_some hl3188 with ⟨h3189, hl3188⟩ | ⟨h3189, hl3188⟩
      · refine WC.condT2 (fun fb => by kernel_rfl) h3189 ?_
        refine WC.skip ?_
        refine WX.next ?_
        refine WC.seq ?_
        refine WC.block ?_
        refine WC.seq ?_
        obtain ⟨h3196, hl3188⟩ := as_some hl3188
        obtain ⟨h3197, hl3188⟩ := as_some hl3188
        refine WC.regionD ([(1, ⟨g3148, 2, none⟩, (.slice A_p0_Cells p0.Cells.length c_p0_Cells)), (4, ((adr A_p0_Cells).add ((x3182).toNat * 1)), (.int .i64 (rdD p0.Cells x3182 0))), (6, ⟨g3152, 2, none⟩, (.slice A_p1_Cells p1.Cells.length c_p1_Cells)), (9, ((adr A_p1_Cells).add ((x3182).toNat * 1)), (.int .i64 (rdD p1.Cells x3182 0)))], [0, 1, 2, 3, 4, 5, 6, 7, 8, 9, 10], [[], [0], [], [0, 1, 2], [0, 1, 2, 3], [], [5], [], [5, 6, 7], [5, 6, 7, 8], [0, 1, 2, 3, 4, 5, 6, 7, 8, 9]]) [[0, 1, 2, 3, 4, 5, 6, 7, 8, 9, 10]] (by kernel_rfl) (by kernel_rfl) (NoPanic.seq (NoPanic.block (NoPanic.seq (NoPanic.seq (NoPanic.block (NoPanic.seq (NoPanic.body))))))) ?_
        have hS3193 := hS3187.drew
        revert hS3193
        generalize World.drew w3186 = w3192
        intro hS3193
        refine ⟨⟨hS3193.cell 0 rfl 2 rfl, rowR.cell (hS3193.rd 0).1 0 h3196.1 h3196.2 0 rfl, hS3193.cell 1 rfl 2 rfl, rowR.cell (hS3193.rd 1).1 0 h3197.1 h3197.2 0 rfl, trivial⟩, forallC ?_ (forallN)⟩
        refine segF 11 [.v (.slice A_p0_Cells p0.Cells.length c_p0_Cells), .v (.int .i64 (rdD p0.Cells x3182 0)), .v (.slice A_p1_Cells p1.Cells.length c_p1_Cells), .v (.int .i64 (rdD p1.Cells x3182 0))] [2, 3, 5, 44] [(2, (.pointer (some ⟨g3148, 0, none⟩))), (3, (.pointer (some ⟨g3152, 0, none⟩))), (5, (.int .i64 x3182)), (44, (.bool ((rdD p0.Cells x3182 0) != (rdD p1.Cells x3182 0))))] [.idx A_p0_Cells x3182 p0.Cells.length, .idx A_p1_Cells x3182 p1.Cells.length] [0, 1, 2, 3] [(1, ⟨g3148, 2, none⟩, (.slice A_p0_Cells p0.Cells.length c_p0_Cells)), (4, ((adr A_p0_Cells).add ((x3182).toNat * 1)), (.int .i64 (rdD p0.Cells x3182 0))), (6, ⟨g3152, 2, none⟩, (.slice A_p1_Cells p1.Cells.length c_p1_Cells)), (9, ((adr A_p1_Cells).add ((x3182).toNat * 1)), (.int .i64 (rdD p1.Cells x3182 0)))] (fun fb => by kernel_rfl) rfl ⟨rowR.adr (hS3193.rd 0).1 h3196.1 h3196.2, rowR.adr (hS3193.rd 1).1 h3197.1 h3197.2, trivial⟩ rfl ?_
        refine WL.done rfl ?_
        refine WX.next ?_
        rcases br_some hl3188 with ⟨h3198, hl3188⟩ | ⟨h3198, hl3188⟩
        · refine WC.condT2 (fun fb => by kernel_rfl) h3198 ?_
          refine WC.seq ?_
          refine WC.region ?_
          refine seg 1 [] [4] [(4, (.bool false))] [] (fun fb => by kernel_rfl) rfl trivial ?_
          refine WL.done rfl ?_
          refine WX.next ?_
          refine WC.ret ?_
          injection hl3188 with hl3188
          subst hl3188
          injection hf with hf
          subst hf
          exact WX.blockR (WX.thenR (WX.thenR (WX.blockR (WX.thenR (WX.ret_ [] (.bool false) [] (fun fb => by kernel_rfl) trivial ⟨_, rfl, rfl, hS3193.keep⟩)))))
        refine WC.condF2 (fun fb => by kernel_rfl) h3198 ?_
        refine WC.skip ?_
        refine WX.blockN (WX.next ?_)
        refine WC.region ?_
        refine seg 3 [] [2, 3, 5] [(2, (.pointer (some ⟨g3148, 0, none⟩))), (3, (.pointer (some ⟨g3152, 0, none⟩))), (5, (.int .i64 (w64 (x3182 + 1))))] [] (fun fb => by kernel_rfl) rfl trivial ?_
        refine WL.done rfl ?_
        exact WX.again k3185 (Nat.lt_succ_self _) (w64 (x3182 + 1)) [2, 3, 5] rfl ⟨(hS3193.subR [0, 1]).sub [0, 1] (by decide), hl3188⟩
      refine WC.condF2 (fun fb => by kernel_rfl) h3189 ?_
      refine WC.exit ?_
      injection hl3188 with hl3188
      exact WX.thenX (WX.thenX (WX.blockHere (WX.to Kx3183 () [] rfl ⟨(hS3187.subR [0, 1]).sub [] (by decide), hl3188.symm⟩)))
  rintro y3202 w3199 ⟨hS3200, hq3201⟩
  subst hq3201
  have hf := sum_inr hf
  refine WX.next ?_
  refine WC.seq ?_
  refine WC.region ?_
  refine seg 1 [] [4] [(4, (.bool true))] [] (fun fb => by kernel_rfl) rfl trivial ?_
  refine WL.done rfl ?_
  refine WX.next ?_
  refine WC.ret ?_
  injection hf with hf
  subst hf
  exact WX.ret_ [] (.bool true) [] (fun fb => by kernel_rfl) trivial ⟨_, rfl, rfl, hS3200.keep⟩
theorem ref08_Copy_calls (p0 : Config) (A_p0_Cells : Option Addr) (c_p0_Cells : Nat) (r : Config) (w : World) (hR0 : RO NoS w (rowR encInt A_p0_Cells c_p0_Cells p0.Cells)) (hf : ref08_Copy p0 = some r) :
    CallsR Try.prog 51 #[(.agg #[(.int .i64 p0.State), (.int .i64 p0.At), (.slice A_p0_Cells p0.Cells.length c_p0_Cells)])] w (fun v w' => ∃ (A1_ : Option Addr), ∃ (c1_ : Nat), v = (.agg #[(.int .i64 r.State), (.int .i64 r.At), (.slice A1_ r.Cells.length c1_)]) ∧ St NoS w w' [] [rowO 3 encInt A1_ c1_ r.Cells]) := by
  have hS : St NoS w w [rowR encInt A_p0_Cells c_p0_Cells p0.Cells] [] := St.init (ro_cons hR0 (ro_nil _ _))
  refine enter 12 Try.func51 rfl Try.ntmps51 rfl ?_
  unfold ref08_Copy at hf
  refine WC.seq ?_
  refine WC.region ?_
  refine WL.new hS 1 [] (fun g => (.pointer (some ⟨g, 0, none⟩))) (.cells #[(.int .i64 p0.State), (.int .i64 p0.At), (.slice A_p0_Cells p0.Cells.length c_p0_Cells)] 27 (0, 0)) [] (fun fb g => by kernel_rfl) trivial (fun g3299 w3300 hS3301 => ?_)
  refine ⟨trivial, ?_⟩
  refine WL.new hS3301 2 [] (fun g => (.pointer (some ⟨g, 0, none⟩))) (.cells #[(.int .i64 0), (.int .i64 0), (.slice none 0 0)] 27 (0, 0)) [] (fun fb g => by kernel_rfl) trivial (fun g3303 w3304 hS3305 => ?_)
  refine ⟨trivial, ?_⟩
  refine WL.done rfl ?_
  refine WX.next ?_
  refine WC.seq ?_
  refine WC.regionD ([(1, ⟨g3299, 0, none⟩, (.int .i64 p0.State)), (3, ⟨g3299, 1, none⟩, (.int .i64 p0.At)), (6, ⟨g3299, 2, none⟩, (.slice A_p0_Cells p0.Cells.length c_p0_Cells))], [0, 1, 2, 3, 5, 6, 8], [[], [0], [], [2], [], [], [5], [4, 5, 6], [0, 1, 2, 3, 4, 5, 6, 7], [0, 1, 2, 3, 4, 5, 6, 7, 8]]) [[0, 1, 2, 3, 5, 6, 4, 7, 8, 9]] (by kernel_rfl) (by kernel_rfl) (NoPanic.seq (NoPanic.body)) ?_
  have hS3320 := hS3305.drew
  revert hS3320
  generalize World.drew w3304 = w3319
  intro hS3320
  refine ⟨⟨hS3320.cell 1 rfl 0 rfl, hS3320.cell 1 rfl 1 rfl, hS3320.cell 1 rfl 2 rfl, trivial⟩, forallC ?_ (forallN)⟩
  refine segF 6 [.v (.int .i64 p0.State), .v (.int .i64 p0.At), .v (.slice A_p0_Cells p0.Cells.length c_p0_Cells)] [2, 4, 6, 9] [(2, (.pointer (some ⟨g3303, 0, none⟩))), (4, (.int .i64 p0.State)), (6, (.int .i64 p0.At)), (9, (.slice A_p0_Cells p0.Cells.length c_p0_Cells))] [] [0, 1, 2] [(1, ⟨g3299, 0, none⟩, (.int .i64 p0.State)), (3, ⟨g3299, 1, none⟩, (.int .i64 p0.At)), (6, ⟨g3299, 2, none⟩, (.slice A_p0_Cells p0.Cells.length c_p0_Cells))] (fun fb => by kernel_rfl) rfl trivial rfl ?_
  refine WL.new hS3320 7 [] (fun g => (.slice (some ⟨g, 0, none⟩) 0 0)) (.cells #[] 3 (0, 0)) [] (fun fb g => by kernel_rfl) trivial (fun g3321 w3322 hS3323 => ?_)
  refine ⟨⟨hS3323.cell 2 rfl 0 rfl, hS3323.cell 2 rfl 1 rfl, hS3323.cell 2 rfl 2 rfl, trivial⟩, ?_⟩
  have hS3325 : St NoS w w3322 [rowR encInt A_p0_Cells c_p0_Cells p0.Cells] [rowO 3 encInt (some ⟨g3321, 0, none⟩) 0 ([] : List Int), blk g3303 (.cells #[(.int .i64 0), (.int .i64 0), (.slice none 0 0)] 27 (0, 0)), blk g3299 (.cells #[(.int .i64 p0.State), (.int .i64 p0.At), (.slice A_p0_Cells p0.Cells.length c_p0_Cells)] 27 (0, 0))] := hS3323.map1 0 _ (fun h => rowO.ofBlk h rfl (Nat.le_of_ble_eq_true (by kernel_rfl))) (fun _ h => by obtain ⟨_, h1, h2⟩ := h; injection h1 with h1; subst h1; exact h2) [1, 2] (by decide) (by decide)
  obtain ⟨h3326, hf⟩ := as_some hf
  refine WL.append hS3325 0 (d := 10) (tS := 25) (z := (.int .i64 0)) (bytes := 8) (c2 := c_p0_Cells) rfl (fun fb => by kernel_rfl) (hS3325.rd 0).1 (by kernel_rfl) (by kernel_rfl) rfl (by decide) h3326 (by decide) [1, 2] (by decide) (by decide) (fun A3327 c3328 w3329 hS3330 => ?_)
  refine ⟨⟨hS3330.cell 2 rfl 0 rfl, hS3330.cell 2 rfl 1 rfl, trivial⟩, ?_⟩
  refine seg 9 [] [2, 11] [(2, (.pointer (some ⟨g3303, 0, none⟩))), (11, (.agg #[(.int .i64 p0.State), (.int .i64 p0.At), (.slice A3327 (([] : List Int) ++ p0.Cells).length c3328)]))] [] (fun fb => by kernel_rfl) rfl trivial ?_
  refine WL.store hS3330 1 rfl [(0, (.int .i64 p0.State)), (1, (.int .i64 p0.At)), (2, (.slice A3327 (([] : List Int) ++ p0.Cells).length c3328))] #[(.int .i64 p0.State), (.int .i64 p0.At), (.slice A3327 (([] : List Int) ++ p0.Cells).length c3328)] (fun fb => by kernel_rfl) (by kernel_rfl) rfl [0, 2] (by decide) (by decide) (fun w3331 hS3332 => ?_)
  refine ⟨trivial, ?_⟩
  refine WL.done rfl ?_
  refine WX.next ?_
  refine WC.ret ?_
  injection hf with hf
  subst hf
  exact WX.ret_ [.v (.int .i64 p0.State), .v (.int .i64 p0.At), .v (.slice A3327 (([] : List Int) ++ p0.Cells).length c3328)] (.agg #[(.int .i64 p0.State), (.int .i64 p0.At), (.slice A3327 (([] : List Int) ++ p0.Cells).length c3328)]) [.cell ⟨g3303, 0, none⟩ (.int .i64 p0.State), .cell ⟨g3303, 1, none⟩ (.int .i64 p0.At), .cell ⟨g3303, 2, none⟩ (.slice A3327 (([] : List Int) ++ p0.Cells).length c3328)] (fun fb => by kernel_rfl) ⟨hS3332.cell 0 rfl 0 rfl, hS3332.cell 0 rfl 1 rfl, hS3332.cell 0 rfl 2 rfl, trivial⟩ ⟨_, rfl, A3327, c3328, rfl, (hS3332.sub [1] (by decide)).noR⟩
theorem ref08_Step_calls (p0 : Machine) (p1 : Config) (A_p0_Actions : Option Addr) (c_p0_Actions : Nat) (A_p1_Cells : Option Addr) (c_p1_Cells : Nat) (r : Config × Int) (w : World) (hR0 : RO NoS w (rowR enc_Action A_p0_Actions c_p0_Actions p0.Actions)) (hR1 : RO NoS w (rowR encInt A_p1_Cells c_p1_Cells p1.Cells)) (hf : ref08_Step p0 p1 = some r) :
    CallsR Try.prog 22 #[(.agg #[(.int .i64 p0.States), (.int .i64 p0.Symbols), (.slice A_p0_Actions p0.Actions.length c_p0_Actions)]), (.agg #[(.int .i64 p1.State), (.int .i64 p1.At), (.slice A_p1_Cells p1.Cells.length c_p1_Cells)])] w (fun v w' => ∃ (A1_ : Option Addr), ∃ (c1_ : Nat), v = (.tuple #[(.agg #[(.int .i64 r.1.State), (.int .i64 r.1.At), (.slice A1_ r.1.Cells.length c1_)]), (.int .i64 r.2)]) ∧ St NoS w w' [] [rowO 3 encInt A1_ c1_ r.1.Cells]) := by
  have hS : St NoS w w [rowR enc_Action A_p0_Actions c_p0_Actions p0.Actions, rowR encInt A_p1_Cells c_p1_Cells p1.Cells] [] := St.init (ro_cons hR0 (ro_cons hR1 (ro_nil _ _)))
  refine enter 66 Try.func22 rfl Try.ntmps22 rfl ?_
  unfold ref08_Step at hf
  refine WC.seq ?_
  refine WC.region ?_
  refine WL.new hS 2 [] (fun g => (.pointer (some ⟨g, 0, none⟩))) (.cells #[(.int .i64 p0.States), (.int .i64 p0.Symbols), (.slice A_p0_Actions p0.Actions.length c_p0_Actions)] 24 (0, 0)) [] (fun fb g => by kernel_rfl) trivial (fun g3263 w3264 hS3265 => ?_)
  refine ⟨trivial, ?_⟩
  refine WL.new hS3265 3 [] (fun g => (.pointer (some ⟨g, 0, none⟩))) (.cells #[(.int .i64 p1.State), (.int .i64 p1.At), (.slice A_p1_Cells p1.Cells.length c_p1_Cells)] 27 (0, 0)) [] (fun fb g => by kernel_rfl) trivial (fun g3267 w3268 hS3269 => ?_)
  refine ⟨trivial, ?_⟩
  refine WL.new hS3269 4 [] (fun g => (.pointer (some ⟨g, 0, none⟩))) (.cells #[(.int .i64 0), (.int .i64 0), (.slice none 0 0)] 27 (0, 0)) [] (fun fb g => by kernel_rfl) trivial (fun g3271 w3272 hS3273 => ?_)
  refine ⟨trivial, ?_⟩
  refine seg 4 [] [2, 3, 4] [(2, (.pointer (some ⟨g3263, 0, none⟩))), (3, (.pointer (some ⟨g3267, 0, none⟩))), (4, (.pointer (some ⟨g3271, 0, none⟩)))] [] (fun fb => by kernel_rfl) rfl trivial ?_
  refine WL.done rfl ?_
  refine WX.next ?_
  refine WC.seq ?_
  obtain ⟨h3287, hf⟩ := as_some hf
  obtain ⟨h3288, hf⟩ := as_some hf
  refine WC.regionD ([(1, ⟨g3263, 2, none⟩, (.slice A_p0_Actions p0.Actions.length c_p0_Actions)), (3, ⟨g3267, 0, none⟩, (.int .i64 p1.State)), (5, ⟨g3263, 1, none⟩, (.int .i64 p0.Symbols)), (8, ⟨g3267, 2, none⟩, (.slice A_p1_Cells p1.Cells.length c_p1_Cells)), (10, ⟨g3267, 1, none⟩, (.int .i64 p1.At)), (12, ((adr A_p1_Cells).add ((p1.At).toNat * 1)), (.int .i64 (rdD p1.Cells p1.At 0))), (15, ((adr A_p0_Actions).add ((w64 ((w64 (p1.State * p0.Symbols)) + (rdD p1.Cells p1.At 0))).toNat * 3)), (.int .i64 ((rdD p0.Actions (w64 ((w64 (p1.State * p0.Symbols)) + (rdD p1.Cells p1.At 0))) z_Action).Write))), (15, (((adr A_p0_Actions).add ((w64 ((w64 (p1.State * p0.Symbols)) + (rdD p1.Cells p1.At 0))).toNat * 3)).add 1), (.int .i64 ((rdD p0.Actions (w64 ((w64 (p1.State * p0.Symbols)) + (rdD p1.Cells p1.At 0))) z_Action).Move))), (15, (((adr A_p0_Actions).add ((w64 ((w64 (p1.State * p0.Symbols)) + (rdD p1.Cells p1.At 0))).toNat * 3)).add 2), (.int .i64 ((rdD p0.Actions (w64 ((w64 (p1.State * p0.Symbols)) + (rdD p1.Cells p1.At 0))) z_Action).Next)))], [0, 1, 2, 3, 4, 5, 6, 7, 8, 9, 10, 11, 12, 13, 14, 15], [[], [0], [], [2], [], [4], [2, 3, 4, 5], [], [7], [], [9], [7, 8, 9, 10], [7, 8, 9, 10, 11], [2, 3, 4, 5, 6, 7, 8, 9, 10, 11, 12], [0, 1, 2, 3, 4, 5, 6, 7, 8, 9, 10, 11, 12, 13], [0, 1, 2, 3, 4, 5, 6, 7, 8, 9, 10, 11, 12, 13, 14], [], [0, 1, 2, 3, 4, 5, 6, 7, 8, 9, 10, 11, 12, 13, 14, 15, 16]]) [[0, 1, 2, 3, 4, 5, 6, 7, 8, 9, 10, 11, 12, 13, 14, 15, 16, 17]] (by kernel_rfl) (by kernel_rfl) (NoPanic.seq (NoPanic.body)) ?_
  have hS3284 := hS3273.drew
  revert hS3284
  generalize World.drew w3272 = w3283
  intro hS3284
  refine ⟨⟨hS3284.cell 2 rfl 2 rfl, hS3284.cell 1 rfl 0 rfl, hS3284.cell 2 rfl 1 rfl, hS3284.cell 1 rfl 2 rfl, hS3284.cell 1 rfl 1 rfl, rowR.cell (hS3284.rd 1).1 0 h3287.1 h3287.2 0 rfl, rowR.cell (hS3284.rd 0).1 z_Action h3288.1 h3288.2 0 rfl, rowR.cell (hS3284.rd 0).1 z_Action h3288.1 h3288.2 1 rfl, rowR.cell (hS3284.rd 0).1 z_Action h3288.1 h3288.2 2 rfl, trivial⟩, forallC ?_ (forallN)⟩
  refine segF 16 [.v (.slice A_p0_Actions p0.Actions.length c_p0_Actions), .v (.int .i64 p1.State), .v (.int .i64 p0.Symbols), .v (.slice A_p1_Cells p1.Cells.length c_p1_Cells), .v (.int .i64 p1.At), .v (.int .i64 (rdD p1.Cells p1.At 0)), .v (.int .i64 ((rdD p0.Actions (w64 ((w64 (p1.State * p0.Symbols)) + (rdD p1.Cells p1.At 0))) z_Action).Write)), .v (.int .i64 ((rdD p0.Actions (w64 ((w64 (p1.State * p0.Symbols)) + (rdD p1.Cells p1.At 0))) z_Action).Move)), .v (.int .i64 ((rdD p0.Actions (w64 ((w64 (p1.State * p0.Symbols)) + (rdD p1.Cells p1.At 0))) z_Action).Next))] [2, 3, 4, 23] [(2, (.pointer (some ⟨g3263, 0, none⟩))), (3, (.pointer (some ⟨g3267, 0, none⟩))), (4, (.pointer (some ⟨g3271, 0, none⟩))), (23, (.agg #[(.int .i64 ((rdD p0.Actions (w64 ((w64 (p1.State * p0.Symbols)) + (rdD p1.Cells p1.At 0))) z_Action).Write)), (.int .i64 ((rdD p0.Actions (w64 ((w64 (p1.State * p0.Symbols)) + (rdD p1.Cells p1.At 0))) z_Action).Move)), (.int .i64 ((rdD p0.Actions (w64 ((w64 (p1.State * p0.Symbols)) + (rdD p1.Cells p1.At 0))) z_Action).Next))]))] [.idx A_p1_Cells p1.At p1.Cells.length, .idx A_p0_Actions (w64 ((w64 (p1.State * p0.Symbols)) + (rdD p1.Cells p1.At 0))) p0.Actions.length] [0, 1, 2, 3, 4, 5, 6, 7, 8] [(1, ⟨g3263, 2, none⟩, (.slice A_p0_Actions p0.Actions.length c_p0_Actions)), (3, ⟨g3267, 0, none⟩, (.int .i64 p1.State)), (5, ⟨g3263, 1, none⟩, (.int .i64 p0.Symbols)), (8, ⟨g3267, 2, none⟩, (.slice A_p1_Cells p1.Cells.length c_p1_Cells)), (10, ⟨g3267, 1, none⟩, (.int .i64 p1.At)), (12, ((adr A_p1_Cells).add ((p1.At).toNat * 1)), (.int .i64 (rdD p1.Cells p1.At 0))), (15, ((adr A_p0_Actions).add ((w64 ((w64 (p1.State * p0.Symbols)) + (rdD p1.Cells p1.At 0))).toNat * 3)), (.int .i64 ((rdD p0.Actions (w64 ((w64 (p1.State * p0.Symbols)) + (rdD p1.Cells p1.At 0))) z_Action).Write))), (15, (((adr A_p0_Actions).add ((w64 ((w64 (p1.State * p0.Symbols)) + (rdD p1.Cells p1.At 0))).toNat * 3)).add 1), (.int .i64 ((rdD p0.Actions (w64 ((w64 (p1.State * p0.Symbols)) + (rdD p1.Cells p1.At 0))) z_Action).Move))), (15, (((adr A_p0_Actions).add ((w64 ((w64 (p1.State * p0.Symbols)) + (rdD p1.Cells p1.At 0))).toNat * 3)).add 2), (.int .i64 ((rdD p0.Actions (w64 ((w64 (p1.State * p0.Symbols)) + (rdD p1.Cells p1.At 0))) z_Action).Next)))] (fun fb => by kernel_rfl) rfl ⟨rowR.adr (hS3284.rd 1).1 h3287.1 h3287.2, rowR.adr (hS3284.rd 0).1 h3288.1 h3288.2, trivial⟩ rfl ?_
  refine WL.new hS3284 6 [] (fun g => (.pointer (some ⟨g, 0, none⟩))) (.cells #[(.int .i64 0), (.int .i64 0), (.int .i64 0)] 88 (0, 0)) [] (fun fb g => by kernel_rfl) trivial (fun g3289 w3290 hS3291 => ?_)
  refine ⟨⟨hS3291.cell 3 rfl 2 rfl, hS3291.cell 2 rfl 0 rfl, hS3291.cell 3 rfl 1 rfl, hS3291.cell 2 rfl 2 rfl, hS3291.cell 2 rfl 1 rfl, rowR.cell (hS3291.rd 1).1 0 h3287.1 h3287.2 0 rfl, rowR.cell (hS3291.rd 0).1 z_Action h3288.1 h3288.2 0 rfl, rowR.cell (hS3291.rd 0).1 z_Action h3288.1 h3288.2 1 rfl, rowR.cell (hS3291.rd 0).1 z_Action h3288.1 h3288.2 2 rfl, trivial⟩, ?_⟩
  refine WL.store hS3291 0 rfl [(0, (.int .i64 ((rdD p0.Actions (w64 ((w64 (p1.State * p0.Symbols)) + (rdD p1.Cells p1.At 0))) z_Action).Write))), (1, (.int .i64 ((rdD p0.Actions (w64 ((w64 (p1.State * p0.Symbols)) + (rdD p1.Cells p1.At 0))) z_Action).Move))), (2, (.int .i64 ((rdD p0.Actions (w64 ((w64 (p1.State * p0.Symbols)) + (rdD p1.Cells p1.At 0))) z_Action).Next)))] #[(.int .i64 ((rdD p0.Actions (w64 ((w64 (p1.State * p0.Symbols)) + (rdD p1.Cells p1.At 0))) z_Action).Write)), (.int .i64 ((rdD p0.Actions (w64 ((w64 (p1.State * p0.Symbols)) + (rdD p1.Cells p1.At 0))) z_Action).Move)), (.int .i64 ((rdD p0.Actions (w64 ((w64 (p1.State * p0.Symbols)) + (rdD p1.Cells p1.At 0))) z_Action).Next))] (fun fb => by kernel_rfl) (by kernel_rfl) rfl [1, 2, 3] (by decide) (by decide) (fun w3293 hS3294 => ?_)
  refine ⟨trivial, ?_⟩
  refine WL.done rfl ?_
  refine WX.next ?_
  refine WC.seq ?_
  refine WC.seq ?_
  refine WC.region ?_
  refine seg 5 [.v (.int .i64 ((rdD p0.Actions (w64 ((w64 (p1.State * p0.Symbols)) + (rdD p1.Cells p1.At 0))) z_Action).Next)), .v (.int .i64 p0.States)] [3, 4, 6, 28] [(3, (.pointer (some ⟨g3267, 0, none⟩))), (4, (.pointer (some ⟨g3271, 0, none⟩))), (6, (.pointer (some ⟨g3289, 0, none⟩))), (28, (.bool (((rdD p0.Actions (w64 ((w64 (p1.State * p0.Symbols)) + (rdD p1.Cells p1.At 0))) z_Action).Next) == p0.States)))] [.cell ⟨g3289, 2, none⟩ (.int .i64 ((rdD p0.Actions (w64 ((w64 (p1.State * p0.Symbols)) + (rdD p1.Cells p1.At 0))) z_Action).Next)), .cell ⟨g3263, 0, none⟩ (.int .i64 p0.States)] (fun fb => by kernel_rfl) rfl ⟨hS3294.cell 0 rfl 2 rfl, hS3294.cell 3 rfl 0 rfl, trivial⟩ ?_
  refine WL.done rfl ?_
  refine WX.next ?_
  rcases br_some hf with ⟨h3295, hf⟩ | ⟨h3295, hf⟩
  · refine WC.condT2 (fun fb => by kernel_rfl) h3295 ?_
    refine WC.seq ?_
    refine WC.region ?_
    refine seg 1 [] [4, 29] [(4, (.pointer (some ⟨g3271, 0, none⟩))), (29, (.agg #[(.int .i64 0), (.int .i64 0), (.slice none 0 0)]))] [] (fun fb => by kernel_rfl) rfl trivial ?_
    refine WL.store hS3294 1 rfl [(0, (.int .i64 0)), (1, (.int .i64 0)), (2, (.slice none 0 0))] #[(.int .i64 0), (.int .i64 0), (.slice none 0 0)] (fun fb => by kernel_rfl) (by kernel_rfl) rfl [0, 2, 3] (by decide) (by decide) (fun w3296 hS3297 => ?_)
    refine ⟨trivial, ?_⟩
    refine seg 3 [] [4, 5] [(4, (.pointer (some ⟨g3271, 0, none⟩))), (5, (.int .i64 5))] [] (fun fb => by kernel_rfl) rfl trivial ?_
    refine WL.done rfl ?_
    refine WX.next ?_
    refine WC.ret ?_
    have hS3298 := hS3297.nilrow 3 encInt
    injection hf with hf
    subst hf
    exact WX.thenR (WX.ret_ [.v (.int .i64 0), .v (.int .i64 0), .v (.slice none 0 0)] (.tuple #[(.agg #[(.int .i64 0), (.int .i64 0), (.slice none ([] : List Int).length 0)]), (.int .i64 5)]) [.cell ⟨g3271, 0, none⟩ (.int .i64 0), .cell ⟨g3271, 1, none⟩ (.int .i64 0), .cell ⟨g3271, 2, none⟩ (.slice none 0 0)] (fun fb => by kernel_rfl) ⟨hS3297.cell 0 rfl 0 rfl, hS3297.cell 0 rfl 1 rfl, hS3297.cell 0 rfl 2 rfl, trivial⟩ ⟨_, rfl, none, 0, rfl, (hS3298.sub [0] (by decide)).noR⟩)
  refine WC.condF2 (fun fb => by kernel_rfl) h3295 ?_
  refine WC.skip ?_
  refine WX.next ?_
  refine WC.seq ?_
  refine WC.region ?_
  refine seg 1 [.v (.int .i64 p1.State), .v (.int .i64 p1.At), .v (.slice A_p1_Cells p1.Cells.length c_p1_Cells)] [3, 4, 6, 30] [(3, (.pointer (some ⟨g3267, 0, none⟩))), (4, (.pointer (some ⟨g3271, 0, none⟩))), (6, (.pointer (some ⟨g3289, 0, none⟩))), (30, (.agg #[(.int .i64 p1.State), (.int .i64 p1.At), (.slice A_p1_Cells p1.Cells.length c_p1_Cells)]))] [.cell ⟨g3267, 0, none⟩ (.int .i64 p1.State), .cell ⟨g3267, 1, none⟩ (.int .i64 p1.At), .cell ⟨g3267, 2, none⟩ (.slice A_p1_Cells p1.Cells.length c_p1_Cells)] (fun fb => by kernel_rfl) rfl ⟨hS3294.cell 2 rfl 0 rfl, hS3294.cell 2 rfl 1 rfl, hS3294.cell 2 rfl 2 rfl, trivial⟩ ?_
  obtain ⟨t3333, ht3334, hf⟩ := bind_some hf
  refine WL.call (some 31) 51 #[(.agg #[(.int .i64 p1.State), (.int .i64 p1.At), (.slice A_p1_Cells p1.Cells.length c_p1_Cells)])] (fun fb => by kernel_rfl) (ref08_Copy_calls p1 A_p1_Cells c_p1_Cells t3333 _ (hS3294.rd 1) ht3334) (fun v w3335 hR3336 => ?_)
  obtain ⟨A3338, c3339, rfl, hk_⟩ := hR3336
  have hS3337 : St NoS w w3335 [rowR enc_Action A_p0_Actions c_p0_Actions p0.Actions, rowR encInt A_p1_Cells c_p1_Cells p1.Cells] [rowO 3 encInt A3338 c3339 t3333.Cells, blk g3289 (.cells #[(.int .i64 ((rdD p0.Actions (w64 ((w64 (p1.State * p0.Symbols)) + (rdD p1.Cells p1.At 0))) z_Action).Write)), (.int .i64 ((rdD p0.Actions (w64 ((w64 (p1.State * p0.Symbols)) + (rdD p1.Cells p1.At 0))) z_Action).Move)), (.int .i64 ((rdD p0.Actions (w64 ((w64 (p1.State * p0.Symbols)) + (rdD p1.Cells p1.At 0))) z_Action).Next))] 88 (0, 0)), blk g3271 (.cells #[(.int .i64 0), (.int .i64 0), (.slice none 0 0)] 27 (0, 0)), blk g3267 (.cells #[(.int .i64 p1.State), (.int .i64 p1.At), (.slice A_p1_Cells p1.Cells.length c_p1_Cells)] 27 (0, 0)), blk g3263 (.cells #[(.int .i64 p0.States), (.int .i64 p0.Symbols), (.slice A_p0_Actions p0.Actions.length c_p0_Actions)] 24 (0, 0))] := hS3294.call hk_ [] [0, 1, 2, 3] (fun g hg => hg.elim) (by simp) (by decide)
  refine ⟨trivial, ?_⟩
  refine WL.new hS3337 7 [] (fun g => (.pointer (some ⟨g, 0, none⟩))) (.cells #[(.int .i64 0), (.int .i64 0), (.slice none 0 0)] 27 (0, 0)) [] (fun fb g => by kernel_rfl) trivial (fun g3340 w3341 hS3342 => ?_)
  refine ⟨trivial, ?_⟩
  refine WL.store hS3342 0 rfl [(0, (.int .i64 t3333.State)), (1, (.int .i64 t3333.At)), (2, (.slice A3338 t3333.Cells.length c3339))] #[(.int .i64 t3333.State), (.int .i64 t3333.At), (.slice A3338 t3333.Cells.length c3339)] (fun fb => by kernel_rfl) (by kernel_rfl) rfl [1, 2, 3, 4, 5] (by decide) (by decide) (fun w3344 hS3345 => ?_)
  refine ⟨trivial, ?_⟩
  refine WL.done rfl ?_
  refine WX.next ?_
  refine WC.seq ?_
  refine WC.region ?_
  refine seg 6 [.v (.slice A3338 t3333.Cells.length c3339), .v (.int .i64 p1.At), .v (.int .i64 ((rdD p0.Actions (w64 ((w64 (p1.State * p0.Symbols)) + (rdD p1.Cells p1.At 0))) z_Action).Write))] [4, 6, 7, 33, 35, 37] [(4, (.pointer (some ⟨g3271, 0, none⟩))), (6, (.pointer (some ⟨g3289, 0, none⟩))), (7, (.pointer (some ⟨g3340, 0, none⟩))), (33, (.slice A3338 t3333.Cells.length c3339)), (35, (.int .i64 p1.At)), (37, (.int .i64 ((rdD p0.Actions (w64 ((w64 (p1.State * p0.Symbols)) + (rdD p1.Cells p1.At 0))) z_Action).Write)))] [.cell ⟨g3340, 2, none⟩ (.slice A3338 t3333.Cells.length c3339), .cell ⟨g3267, 1, none⟩ (.int .i64 p1.At), .cell ⟨g3289, 0, none⟩ (.int .i64 ((rdD p0.Actions (w64 ((w64 (p1.State * p0.Symbols)) + (rdD p1.Cells p1.At 0))) z_Action).Write))] (fun fb => by kernel_rfl) rfl ⟨hS3345.cell 0 rfl 2 rfl, hS3345.cell 4 rfl 1 rfl, hS3345.cell 2 rfl 0 rfl, trivial⟩ ?_
  obtain ⟨h3346, hf⟩ := as_some hf
  refine seg 7 [] [4, 6, 7, 37, 38] [(4, (.pointer (some ⟨g3271, 0, none⟩))), (6, (.pointer (some ⟨g3289, 0, none⟩))), (7, (.pointer (some ⟨g3340, 0, none⟩))), (37, (.int .i64 ((rdD p0.Actions (w64 ((w64 (p1.State * p0.Symbols)) + (rdD p1.Cells p1.At 0))) z_Action).Write))), (38, (.pointer (some ((adr A3338).add ((p1.At).toNat * 1)))))] [.idx A3338 p1.At t3333.Cells.length] (fun fb => by kernel_rfl) rfl ⟨rowR.adr (rowO.rd (hS3345.own 1).1) h3346.1 h3346.2, trivial⟩ ?_
  refine WL.storeRow hS3345 1 rfl (p1.At) ((rdD p0.Actions (w64 ((w64 (p1.State * p0.Symbols)) + (rdD p1.Cells p1.At 0))) z_Action).Write) (0) [(0, (.int .i64 ((rdD p0.Actions (w64 ((w64 (p1.State * p0.Symbols)) + (rdD p1.Cells p1.At 0))) z_Action).Write)))] (fun fb => by kernel_rfl) h3346.1 h3346.2 (by kernel_rfl) rfl [0, 2, 3, 4, 5] (by decide) (by decide) (fun w3347 hS3348 => ?_)
  refine ⟨trivial, ?_⟩
  have hS3349 : St NoS w w3347 [rowR enc_Action A_p0_Actions c_p0_Actions p0.Actions, rowR encInt A_p1_Cells c_p1_Cells p1.Cells] [rowO 3 encInt A3338 c3339 (t3333.Cells.set (p1.At).toNat ((rdD p0.Actions (w64 ((w64 (p1.State * p0.Symbols)) + (rdD p1.Cells p1.At 0))) z_Action).Write)), blk g3340 (.cells #[(.int .i64 t3333.State), (.int .i64 t3333.At), (.slice A3338 (t3333.Cells.set (p1.At).toNat ((rdD p0.Actions (w64 ((w64 (p1.State * p0.Symbols)) + (rdD p1.Cells p1.At 0))) z_Action).Write)).length c3339)] 27 (0, 0)), blk g3289 (.cells #[(.int .i64 ((rdD p0.Actions (w64 ((w64 (p1.State * p0.Symbols)) + (rdD p1.Cells p1.At 0))) z_Action).Write)), (.int .i64 ((rdD p0.Actions (w64 ((w64 (p1.State * p0.Symbols)) + (rdD p1.Cells p1.At 0))) z_Action).Move)), (.int .i64 ((rdD p0.Actions (w64 ((w64 (p1.State * p0.Symbols)) + (rdD p1.Cells p1.At 0))) z_Action).Next))] 88 (0, 0)), blk g3271 (.cells #[(.int .i64 0), (.int .i64 0), (.slice none 0 0)] 27 (0, 0)), blk g3267 (.cells #[(.int .i64 p1.State), (.int .i64 p1.At), (.slice A_p1_Cells p1.Cells.length c_p1_Cells)] 27 (0, 0)), blk g3263 (.cells #[(.int .i64 p0.States), (.int .i64 p0.Symbols), (.slice A_p0_Actions p0.Actions.length c_p0_Actions)] 24 (0, 0))] := by simpa only [List.length_set] using (show St NoS w w3347 [rowR enc_Action A_p0_Actions c_p0_Actions p0.Actions, rowR encInt A_p1_Cells c_p1_Cells p1.Cells] [rowO 3 encInt A3338 c3339 (t3333.Cells.set (p1.At).toNat ((rdD p0.Actions (w64 ((w64 (p1.State * p0.Symbols)) + (rdD p1.Cells p1.At 0))) z_Action).Write)), blk g3340 (.cells #[(.int .i64 t3333.State), (.int .i64 t3333.At), (.slice A3338 t3333.Cells.length c3339)] 27 (0, 0)), blk g3289 (.cells #[(.int .i64 ((rdD p0.Actions (w64 ((w64 (p1.State * p0.Symbols)) + (rdD p1.Cells p1.At 0))) z_Action).Write)), (.int .i64 ((rdD p0.Actions (w64 ((w64 (p1.State * p0.Symbols)) + (rdD p1.Cells p1.At 0))) z_Action).Move)), (.int .i64 ((rdD p0.Actions (w64 ((w64 (p1.State * p0.Symbols)) + (rdD p1.Cells p1.At 0))) z_Action).Next))] 88 (0, 0)), blk g3271 (.cells #[(.int .i64 0), (.int .i64 0), (.slice none 0 0)] 27 (0, 0)), blk g3267 (.cells #[(.int .i64 p1.State), (.int .i64 p1.At), (.slice A_p1_Cells p1.Cells.length c_p1_Cells)] 27 (0, 0)), blk g3263 (.cells #[(.int .i64 p0.States), (.int .i64 p0.Symbols), (.slice A_p0_Actions p0.Actions.length c_p0_Actions)] 24 (0, 0))] from hS3348)
  refine WL.done rfl ?_
  refine WX.next ?_
  refine WC.seq ?_
  refine WC.region ?_
  refine seg 3 [.v (.int .i64 ((rdD p0.Actions (w64 ((w64 (p1.State * p0.Symbols)) + (rdD p1.Cells p1.At 0))) z_Action).Next))] [4, 6, 7, 40, 41] [(4, (.pointer (some ⟨g3271, 0, none⟩))), (6, (.pointer (some ⟨g3289, 0, none⟩))), (7, (.pointer (some ⟨g3340, 0, none⟩))), (40, (.int .i64 ((rdD p0.Actions (w64 ((w64 (p1.State * p0.Symbols)) + (rdD p1.Cells p1.At 0))) z_Action).Next))), (41, (.pointer (some ⟨g3340, 0, none⟩)))] [.cell ⟨g3289, 2, none⟩ (.int .i64 ((rdD p0.Actions (w64 ((w64 (p1.State * p0.Symbols)) + (rdD p1.Cells p1.At 0))) z_Action).Next))] (fun fb => by kernel_rfl) rfl ⟨hS3349.cell 2 rfl 2 rfl, trivial⟩ ?_
  refine WL.store hS3349 1 rfl [(0, (.int .i64 ((rdD p0.Actions (w64 ((w64 (p1.State * p0.Symbols)) + (rdD p1.Cells p1.At 0))) z_Action).Next)))] #[(.int .i64 ((rdD p0.Actions (w64 ((w64 (p1.State * p0.Symbols)) + (rdD p1.Cells p1.At 0))) z_Action).Next)), (.int .i64 t3333.At), (.slice A3338 (t3333.Cells.set (p1.At).toNat ((rdD p0.Actions (w64 ((w64 (p1.State * p0.Symbols)) + (rdD p1.Cells p1.At 0))) z_Action).Write)).length c3339)] (fun fb => by kernel_rfl) (by kernel_rfl) rfl [0, 2, 3, 4, 5] (by decide) (by decide) (fun w3350 hS3351 => ?_)
  refine ⟨trivial, ?_⟩
  refine WL.done rfl ?_
  refine WX.next ?_
  refine WC.seq ?_
  refine WC.seq ?_
  refine WC.region ?_
  refine seg 3 [.v (.int .i64 ((rdD p0.Actions (w64 ((w64 (p1.State * p0.Symbols)) + (rdD p1.Cells p1.At 0))) z_Action).Move))] [4, 7, 44] [(4, (.pointer (some ⟨g3271, 0, none⟩))), (7, (.pointer (some ⟨g3340, 0, none⟩))), (44, (.bool (((rdD p0.Actions (w64 ((w64 (p1.State * p0.Symbols)) + (rdD p1.Cells p1.At 0))) z_Action).Move) == 1)))] [.cell ⟨g3289, 1, none⟩ (.int .i64 ((rdD p0.Actions (w64 ((w64 (p1.State * p0.Symbols)) + (rdD p1.Cells p1.At 0))) z_Action).Move))] (fun fb => by kernel_rfl) rfl ⟨hS3351.cell 2 rfl 1 rfl, trivial⟩ ?_
  refine WL.done rfl ?_
  refine WX.next ?_
  obtain ⟨x3358, hx3359, hf⟩ := bind_some hf
  refine WC.cutN (T := Int) (fun t => [(4, (.pointer (some ⟨g3271, 0, none⟩))), (7, (.pointer (some ⟨g3340, 0, none⟩)))]) (fun t w1 => St NoS w w1 [rowR enc_Action A_p0_Actions c_p0_Actions p0.Actions, rowR encInt A_p1_Cells c_p1_Cells p1.Cells] [blk g3271 (.cells #[(.int .i64 0), (.int .i64 0), (.slice none 0 0)] 27 (0, 0)), blk g3340 (.cells #[(.int .i64 ((rdD p0.Actions (w64 ((w64 (p1.State * p0.Symbols)) + (rdD p1.Cells p1.At 0))) z_Action).Next)), (.int .i64 t), (.slice A3338 (t3333.Cells.set (p1.At).toNat ((rdD p0.Actions (w64 ((w64 (p1.State * p0.Symbols)) + (rdD p1.Cells p1.At 0))) z_Action).Write)).length c3339)] 27 (0, 0)), rowO 3 encInt A3338 c3339 (t3333.Cells.set (p1.At).toNat ((rdD p0.Actions (w64 ((w64 (p1.State * p0.Symbols)) + (rdD p1.Cells p1.At 0))) z_Action).Write))] ∧ x3358 = t) (fun Kx3358 => ?_) ?_
  ·
    rcases br_some hx3359 with ⟨h3360, hx3359⟩ | ⟨h3360, hx3359⟩
    · refine WC.condT2 (fun fb => by kernel_rfl) h3360 ?_
      refine WC.region ?_
      refine seg 4 [.v (.int .i64 t3333.At)] [4, 7, 47, 48] [(4, (.pointer (some ⟨g3271, 0, none⟩))), (7, (.pointer (some ⟨g3340, 0, none⟩))), (47, (.int .i64 (w64 (t3333.At + 1)))), (48, (.pointer (some ⟨g3340, 1, none⟩)))] [.cell ⟨g3340, 1, none⟩ (.int .i64 t3333.At)] (fun fb => by kernel_rfl) rfl ⟨hS3351.cell 0 rfl 1 rfl, trivial⟩ ?_
      refine WL.store hS3351 0 rfl [(1, (.int .i64 (w64 (t3333.At + 1))))] #[(.int .i64 ((rdD p0.Actions (w64 ((w64 (p1.State * p0.Symbols)) + (rdD p1.Cells p1.At 0))) z_Action).Next)), (.int .i64 (w64 (t3333.At + 1))), (.slice A3338 (t3333.Cells.set (p1.At).toNat ((rdD p0.Actions (w64 ((w64 (p1.State * p0.Symbols)) + (rdD p1.Cells p1.At 0))) z_Action).Write)).length c3339)] (fun fb => by kernel_rfl) (by kernel_rfl) rfl [1, 2, 3, 4, 5] (by decide) (by decide) (fun w3361 hS3362 => ?_)
      refine ⟨trivial, ?_⟩
      refine WL.done rfl ?_
      injection hx3359 with hx3359
      exact WX.to Kx3358 (w64 (t3333.At + 1)) [4, 7] rfl ⟨(hS3362.subR [0, 1]).sub [3, 0, 1] (by decide), hx3359.symm⟩
    refine WC.condF2 (fun fb => by kernel_rfl) h3360 ?_
    refine WC.region ?_
    refine seg 4 [.v (.int .i64 t3333.At)] [4, 7, 51, 52] [(4, (.pointer (some ⟨g3271, 0, none⟩))), (7, (.pointer (some ⟨g3340, 0, none⟩))), (51, (.int .i64 (w64 (t3333.At - 1)))), (52, (.pointer (some ⟨g3340, 1, none⟩)))] [.cell ⟨g3340, 1, none⟩ (.int .i64 t3333.At)] (fun fb => by kernel_rfl) rfl ⟨hS3351.cell 0 rfl 1 rfl, trivial⟩ ?_
    refine WL.store hS3351 0 rfl [(1, (.int .i64 (w64 (t3333.At - 1))))] #[(.int .i64 ((rdD p0.Actions (w64 ((w64 (p1.State * p0.Symbols)) + (rdD p1.Cells p1.At 0))) z_Action).Next)), (.int .i64 (w64 (t3333.At - 1))), (.slice A3338 (t3333.Cells.set (p1.At).toNat ((rdD p0.Actions (w64 ((w64 (p1.State * p0.Symbols)) + (rdD p1.Cells p1.At 0))) z_Action).Write)).length c3339)] (fun fb => by kernel_rfl) (by kernel_rfl) rfl [1, 2, 3, 4, 5] (by decide) (by decide) (fun w3363 hS3364 => ?_)
    refine ⟨trivial, ?_⟩
    refine WL.done rfl ?_
    injection hx3359 with hx3359
    exact WX.to Kx3358 (w64 (t3333.At - 1)) [4, 7] rfl ⟨(hS3364.subR [0, 1]).sub [3, 0, 1] (by decide), hx3359.symm⟩
  rintro y3368 w3365 ⟨hS3366, hq3367⟩
  subst hq3367
  refine WX.next ?_
  refine WC.seq ?_
  refine WC.seq ?_
  refine WC.region ?_
  refine seg 4 [.v (.int .i64 x3358)] [4, 7, 56] [(4, (.pointer (some ⟨g3271, 0, none⟩))), (7, (.pointer (some ⟨g3340, 0, none⟩))), (56, (.bool (decide (x3358 < 0))))] [.cell ⟨g3340, 1, none⟩ (.int .i64 x3358)] (fun fb => by kernel_rfl) rfl ⟨hS3366.cell 1 rfl 1 rfl, trivial⟩ ?_
  refine WL.cutV (T := Bool) 11 (fun t => [(63, (.bool t)), (4, (.pointer (some ⟨g3271, 0, none⟩))), (7, (.pointer (some ⟨g3340, 0, none⟩)))]) (fun t => t = ((decide (x3358 < 0)) || (decide (x3358 ≥ ((t3333.Cells.set (p1.At).toNat ((rdD p0.Actions (w64 ((w64 (p1.State * p0.Symbols)) + (rdD p1.Cells p1.At 0))) z_Action).Write)).length : Int))))) (fun K => ?_) ?_
  ·
    rcases Bool.eq_false_or_eq_true (decide (x3358 < 0)) with h3369 | h3369
    ·
      refine WL.setB 56 h3369 rfl ?_
      refine seg 11 [] [4, 7, 63] [(4, (.pointer (some ⟨g3271, 0, none⟩))), (7, (.pointer (some ⟨g3340, 0, none⟩))), (63, (.bool true))] [] (fun fb => by kernel_rfl) rfl trivial ?_
      exact WL.toV K true [63, 4, 7] rfl (by rw [h3369]; rfl)
    refine WL.setB 56 h3369 rfl ?_
    refine seg 11 [.v (.int .i64 x3358), .v (.slice A3338 (t3333.Cells.set (p1.At).toNat ((rdD p0.Actions (w64 ((w64 (p1.State * p0.Symbols)) + (rdD p1.Cells p1.At 0))) z_Action).Write)).length c3339)] [4, 7, 63] [(4, (.pointer (some ⟨g3271, 0, none⟩))), (7, (.pointer (some ⟨g3340, 0, none⟩))), (63, (.bool (decide (x3358 ≥ ((t3333.Cells.set (p1.At).toNat ((rdD p0.Actions (w64 ((w64 (p1.State * p0.Symbols)) + (rdD p1.Cells p1.At 0))) z_Action).Write)).length : Int)))))] [.cell ⟨g3340, 1, none⟩ (.int .i64 x3358), .cell ⟨g3340, 2, none⟩ (.slice A3338 (t3333.Cells.set (p1.At).toNat ((rdD p0.Actions (w64 ((w64 (p1.State * p0.Symbols)) + (rdD p1.Cells p1.At 0))) z_Action).Write)).length c3339)] (fun fb => by kernel_rfl) rfl ⟨hS3366.cell 1 rfl 1 rfl, hS3366.cell 1 rfl 2 rfl, trivial⟩ ?_
    exact WL.toV K (decide (x3358 ≥ ((t3333.Cells.set (p1.At).toNat ((rdD p0.Actions (w64 ((w64 (p1.State * p0.Symbols)) + (rdD p1.Cells p1.At 0))) z_Action).Write)).length : Int))) [63, 4, 7] rfl (by rw [h3369]; rfl)
  rintro b3370 rfl
  refine WL.done rfl ?_
  refine WX.next ?_
  rcases br_some hf with ⟨h3371, hf⟩ | ⟨h3371, hf⟩
  · refine WC.condT2 (fun fb => by kernel_rfl) h3371 ?_
    refine WC.seq ?_
    refine WC.region ?_
    refine seg 1 [] [4, 64] [(4, (.pointer (some ⟨g3271, 0, none⟩))), (64, (.agg #[(.int .i64 0), (.int .i64 0), (.slice none 0 0)]))] [] (fun fb => by kernel_rfl) rfl trivial ?_
    refine WL.store hS3366 0 rfl [(0, (.int .i64 0)), (1, (.int .i64 0)), (2, (.slice none 0 0))] #[(.int .i64 0), (.int .i64 0), (.slice none 0 0)] (fun fb => by kernel_rfl) (by kernel_rfl) rfl [1, 2] (by decide) (by decide) (fun w3372 hS3373 => ?_)
    refine ⟨trivial, ?_⟩
    refine seg 3 [] [4, 5] [(4, (.pointer (some ⟨g3271, 0, none⟩))), (5, (.int .i64 6))] [] (fun fb => by kernel_rfl) rfl trivial ?_
    refine WL.done rfl ?_
    refine WX.next ?_
    refine WC.ret ?_
    have hS3374 := hS3373.nilrow 3 encInt
    injection hf with hf
    subst hf
    exact WX.thenR (WX.ret_ [.v (.int .i64 0), .v (.int .i64 0), .v (.slice none 0 0)] (.tuple #[(.agg #[(.int .i64 0), (.int .i64 0), (.slice none ([] : List Int).length 0)]), (.int .i64 6)]) [.cell ⟨g3271, 0, none⟩ (.int .i64 0), .cell ⟨g3271, 1, none⟩ (.int .i64 0), .cell ⟨g3271, 2, none⟩ (.slice none 0 0)] (fun fb => by kernel_rfl) ⟨hS3373.cell 0 rfl 0 rfl, hS3373.cell 0 rfl 1 rfl, hS3373.cell 0 rfl 2 rfl, trivial⟩ ⟨_, rfl, none, 0, rfl, (hS3374.sub [0] (by decide)).noR⟩)
  refine WC.condF2 (fun fb => by kernel_rfl) h3371 ?_
  refine WC.skip ?_
  refine WX.next ?_
  refine WC.seq ?_
  refine WC.region ?_
  refine seg 1 [.v (.int .i64 ((rdD p0.Actions (w64 ((w64 (p1.State * p0.Symbols)) + (rdD p1.Cells p1.At 0))) z_Action).Next)), .v (.int .i64 x3358), .v (.slice A3338 (t3333.Cells.set (p1.At).toNat ((rdD p0.Actions (w64 ((w64 (p1.State * p0.Symbols)) + (rdD p1.Cells p1.At 0))) z_Action).Write)).length c3339)] [4, 65] [(4, (.pointer (some ⟨g3271, 0, none⟩))), (65, (.agg #[(.int .i64 ((rdD p0.Actions (w64 ((w64 (p1.State * p0.Symbols)) + (rdD p1.Cells p1.At 0))) z_Action).Next)), (.int .i64 x3358), (.slice A3338 (t3333.Cells.set (p1.At).toNat ((rdD p0.Actions (w64 ((w64 (p1.State * p0.Symbols)) + (rdD p1.Cells p1.At 0))) z_Action).Write)).length c3339)]))] [.cell ⟨g3340, 0, none⟩ (.int .i64 ((rdD p0.Actions (w64 ((w64 (p1.State * p0.Symbols)) + (rdD p1.Cells p1.At 0))) z_Action).Next)), .cell ⟨g3340, 1, none⟩ (.int .i64 x3358), .cell ⟨g3340, 2, none⟩ (.slice A3338 (t3333.Cells.set (p1.At).toNat ((rdD p0.Actions (w64 ((w64 (p1.State * p0.Symbols)) + (rdD p1.Cells p1.At 0))) z_Action).Write)).length c3339)] (fun fb => by kernel_rfl) rfl ⟨hS3366.cell 1 rfl 0 rfl, hS3366.cell 1 rfl 1 rfl, hS3366.cell 1 rfl 2 rfl, trivial⟩ ?_
  refine WL.store hS3366 0 rfl [(0, (.int .i64 ((rdD p0.Actions (w64 ((w64 (p1.State * p0.Symbols)) + (rdD p1.Cells p1.At 0))) z_Action).Next))), (1, (.int .i64 x3358)), (2, (.slice A3338 (t3333.Cells.set (p1.At).toNat ((rdD p0.Actions (w64 ((w64 (p1.State * p0.Symbols)) + (rdD p1.Cells p1.At 0))) z_Action).Write)).length c3339))] #[(.int .i64 ((rdD p0.Actions (w64 ((w64 (p1.State * p0.Symbols)) + (rdD p1.Cells p1.At 0))) z_Action).Next)), (.int .i64 x3358), (.slice A3338 (t3333.Cells.set (p1.At).toNat ((rdD p0.Actions (w64 ((w64 (p1.State * p0.Symbols)) + (rdD p1.Cells p1.At 0))) z_Action).Write)).length c3339)] (fun fb => by kernel_rfl) (by kernel_rfl) rfl [1, 2] (by decide) (by decide) (fun w3375 hS3376 => ?_)
  refine ⟨trivial, ?_⟩
  refine seg 3 [] [4, 5] [(4, (.pointer (some ⟨g3271, 0, none⟩))), (5, (.int .i64 0))] [] (fun fb => by kernel_rfl) rfl trivial ?_
  refine WL.done rfl ?_
  refine WX.next ?_
  refine WC.ret ?_
  injection hf with hf
  subst hf
  exact WX.ret_ [.v (.int .i64 ((rdD p0.Actions (w64 ((w64 (p1.State * p0.Symbols)) + (rdD p1.Cells p1.At 0))) z_Action).Next)), .v (.int .i64 x3358), .v (.slice A3338 (t3333.Cells.set (p1.At).toNat ((rdD p0.Actions (w64 ((w64 (p1.State * p0.Symbols)) + (rdD p1.Cells p1.At 0))) z_Action).Write)).length c3339)] (.tuple #[(.agg #[(.int .i64 ((rdD p0.Actions (w64 ((w64 (p1.State * p0.Symbols)) + (rdD p1.Cells p1.At 0))) z_Action).Next)), (.int .i64 x3358), (.slice A3338 (t3333.Cells.set (p1.At).toNat ((rdD p0.Actions (w64 ((w64 (p1.State * p0.Symbols)) + (rdD p1.Cells p1.At 0))) z_Action).Write)).length c3339)]), (.int .i64 0)]) [.cell ⟨g3271, 0, none⟩ (.int .i64 ((rdD p0.Actions (w64 ((w64 (p1.State * p0.Symbols)) + (rdD p1.Cells p1.At 0))) z_Action).Next)), .cell ⟨g3271, 1, none⟩ (.int .i64 x3358), .cell ⟨g3271, 2, none⟩ (.slice A3338 (t3333.Cells.set (p1.At).toNat ((rdD p0.Actions (w64 ((w64 (p1.State * p0.Symbols)) + (rdD p1.Cells p1.At 0))) z_Action).Write)).length c3339)] (fun fb => by kernel_rfl) ⟨hS3376.cell 0 rfl 0 rfl, hS3376.cell 0 rfl 1 rfl, hS3376.cell 0 rfl 2 rfl, trivial⟩ ⟨_, rfl, A3338, c3339, rfl, (hS3376.sub [2] (by decide)).noR⟩
theorem ref08_Run_calls (k : Nat) (p0 : Machine) (p1 : Config) (p2 : Int) (A_p0_Actions : Option Addr) (c_p0_Actions : Nat) (A_p1_Cells : Option Addr) (c_p1_Cells : Nat) (r : Config × Int) (w : World) (hR0 : RO NoS w (rowR enc_Action A_p0_Actions c_p0_Actions p0.Actions)) (hR1 : RO NoS w (rowR encInt A_p1_Cells c_p1_Cells p1.Cells)) (hf : ref08_Run k p0 p1 p2 = some r) :
    CallsR Try.prog 23 #[(.agg #[(.int .i64 p0.States), (.int .i64 p0.Symbols), (.slice A_p0_Actions p0.Actions.length c_p0_Actions)]), (.agg #[(.int .i64 p1.State), (.int .i64 p1.At), (.slice A_p1_Cells p1.Cells.length c_p1_Cells)]), (.int .i64 p2)] w (fun v w' => ∃ (A1_ : Option Addr), ∃ (c1_ : Nat), v = (.tuple #[(.agg #[(.int .i64 r.1.State), (.int .i64 r.1.At), (.slice A1_ r.1.Cells.length c1_)]), (.int .i64 r.2)]) ∧ St NoS w w' [] [rowO 3 encInt A1_ c1_ r.1.Cells]) := by
  have hS : St NoS w w [rowR enc_Action A_p0_Actions c_p0_Actions p0.Actions, rowR encInt A_p1_Cells c_p1_Cells p1.Cells] [] := St.init (ro_cons hR0 (ro_cons hR1 (ro_nil _ _)))
  refine enter 31 Try.func23 rfl Try.ntmps23 rfl ?_
  unfold ref08_Run at hf
  refine WC.seq ?_
  refine WC.region ?_
  refine WL.new hS 3 [] (fun g => (.pointer (some ⟨g, 0, none⟩))) (.cells #[(.int .i64 p0.States), (.int .i64 p0.Symbols), (.slice A_p0_Actions p0.Actions.length c_p0_Actions)] 24 (0, 0)) [] (fun fb g => by kernel_rfl) trivial (fun g3453 w3454 hS3455 => ?_)
  refine ⟨trivial, ?_⟩
  refine WL.new hS3455 4 [] (fun g => (.pointer (some ⟨g, 0, none⟩))) (.cells #[(.int .i64 p1.State), (.int .i64 p1.At), (.slice A_p1_Cells p1.Cells.length c_p1_Cells)] 27 (0, 0)) [] (fun fb g => by kernel_rfl) trivial (fun g3457 w3458 hS3459 => ?_)
  refine ⟨trivial, ?_⟩
  refine WL.new hS3459 6 [] (fun g => (.pointer (some ⟨g, 0, none⟩))) (.cells #[(.int .i64 0), (.int .i64 0), (.slice none 0 0)] 27 (0, 0)) [] (fun fb g => by kernel_rfl) trivial (fun g3461 w3462 hS3463 => ?_)
  refine ⟨trivial, ?_⟩
  refine seg 4 [] [2, 3, 4, 6] [(2, (.int .i64 p2)), (3, (.pointer (some ⟨g3453, 0, none⟩))), (4, (.pointer (some ⟨g3457, 0, none⟩))), (6, (.pointer (some ⟨g3461, 0, none⟩)))] [] (fun fb => by kernel_rfl) rfl trivial ?_
  refine WL.done rfl ?_
  refine WX.next ?_
  refine WC.seq ?_
  refine WC.region ?_
  refine seg 1 [.v (.int .i64 p1.State), .v (.int .i64 p1.At), .v (.slice A_p1_Cells p1.Cells.length c_p1_Cells)] [2, 3, 4, 6, 11] [(2, (.int .i64 p2)), (3, (.pointer (some ⟨g3453, 0, none⟩))), (4, (.pointer (some ⟨g3457, 0, none⟩))), (6, (.pointer (some ⟨g3461, 0, none⟩))), (11, (.agg #[(.int .i64 p1.State), (.int .i64 p1.At), (.slice A_p1_Cells p1.Cells.length c_p1_Cells)]))] [.cell ⟨g3457, 0, none⟩ (.int .i64 p1.State), .cell ⟨g3457, 1, none⟩ (.int .i64 p1.At), .cell ⟨g3457, 2, none⟩ (.slice A_p1_Cells p1.Cells.length c_p1_Cells)] (fun fb => by kernel_rfl) rfl ⟨hS3463.cell 1 rfl 0 rfl, hS3463.cell 1 rfl 1 rfl, hS3463.cell 1 rfl 2 rfl, trivial⟩ ?_
  obtain ⟨t3465, ht3466, hf⟩ := bind_some hf
  refine WL.call (some 12) 51 #[(.agg #[(.int .i64 p1.State), (.int .i64 p1.At), (.slice A_p1_Cells p1.Cells.length c_p1_Cells)])] (fun fb => by kernel_rfl) (ref08_Copy_calls p1 A_p1_Cells c_p1_Cells t3465 _ (hS3463.rd 1) ht3466) (fun v w3467 hR3468 => ?_)
  obtain ⟨A3470, c3471, rfl, hk_⟩ := hR3468
  have hS3469 : St NoS w w3467 [rowR enc_Action A_p0_Actions c_p0_Actions p0.Actions, rowR encInt A_p1_Cells c_p1_Cells p1.Cells] [rowO 3 encInt A3470 c3471 t3465.Cells, blk g3461 (.cells #[(.int .i64 0), (.int .i64 0), (.slice none 0 0)] 27 (0, 0)), blk g3457 (.cells #[(.int .i64 p1.State), (.int .i64 p1.At), (.slice A_p1_Cells p1.Cells.length c_p1_Cells)] 27 (0, 0)), blk g3453 (.cells #[(.int .i64 p0.States), (.int .i64 p0.Symbols), (.slice A_p0_Actions p0.Actions.length c_p0_Actions)] 24 (0, 0))] := hS3463.call hk_ [] [0, 1, 2] (fun g hg => hg.elim) (by simp) (by decide)
  refine ⟨trivial, ?_⟩
  refine WL.store hS3469 2 rfl [(0, (.int .i64 t3465.State)), (1, (.int .i64 t3465.At)), (2, (.slice A3470 t3465.Cells.length c3471))] #[(.int .i64 t3465.State), (.int .i64 t3465.At), (.slice A3470 t3465.Cells.length c3471)] (fun fb => by kernel_rfl) (by kernel_rfl) rfl [0, 1, 3] (by decide) (by decide) (fun w3472 hS3473 => ?_)
  refine ⟨trivial, ?_⟩
  refine WL.done rfl ?_
  refine WX.next ?_
  refine WC.seq ?_
  refine WC.seq ?_
  refine WC.region ?_
  refine seg 1 [] [2, 3, 4, 6, 8] [(2, (.int .i64 p2)), (3, (.pointer (some ⟨g3453, 0, none⟩))), (4, (.pointer (some ⟨g3457, 0, none⟩))), (6, (.pointer (some ⟨g3461, 0, none⟩))), (8, (.int .i64 0))] [] (fun fb => by kernel_rfl) rfl trivial ?_
  refine WL.done rfl ?_
  refine WX.next ?_
  obtain ⟨x3529, hx3530, hf⟩ := bind_some hf
  refine WC.cutN (T := (Int × Int × (List Int)) × (Option Addr) × Nat) (fun t => [(2, (.int .i64 p2)), (4, (.pointer (some ⟨g3457, 0, none⟩))), (6, (.pointer (some ⟨g3461, 0, none⟩)))]) (fun t w1 => St NoS w w1 [rowR enc_Action A_p0_Actions c_p0_Actions p0.Actions, rowR encInt A_p1_Cells c_p1_Cells p1.Cells] [blk g3457 (.cells #[(.int .i64 t.1.1), (.int .i64 t.1.2.1), (.slice t.2.1 t.1.2.2.length t.2.2)] 27 (0, 0)), rowO 3 encInt t.2.1 t.2.2 t.1.2.2, blk g3461 (.cells #[(.int .i64 0), (.int .i64 0), (.slice none 0 0)] 27 (0, 0))] ∧ x3529 = .inr t.1) (fun Kx3529 => ?_) ?_
  ·
    refine WC.block ?_
    refine WC.loop (T := (Int × Int × (List Int) × Int) × (Option Addr) × Nat) (fun t => [(2, (.int .i64 p2)), (3, (.pointer (some ⟨g3453, 0, none⟩))), (4, (.pointer (some ⟨g3457, 0, none⟩))), (6, (.pointer (some ⟨g3461, 0, none⟩))), (8, (.int .i64 t.1.2.2.2))]) (fun n t w1 => St NoS w w1 [rowR enc_Action A_p0_Actions c_p0_Actions p0.Actions, rowR encInt A_p1_Cells c_p1_Cells p1.Cells] [blk g3453 (.cells #[(.int .i64 p0.States), (.int .i64 p0.Symbols), (.slice A_p0_Actions p0.Actions.length c_p0_Actions)] 24 (0, 0)), blk g3457 (.cells #[(.int .i64 t.1.1), (.int .i64 t.1.2.1), (.slice t.2.1 t.1.2.2.1.length t.2.2)] 27 (0, 0)), rowO 3 encInt t.2.1 t.2.2 t.1.2.2.1, blk g3461 (.cells #[(.int .i64 0), (.int .i64 0), (.slice none 0 0)] 27 (0, 0))] ∧ ref08_Run.l0 n t.1.1 t.1.2.1 t.1.2.2.1 t.1.2.2.2 p0 p2 = some x3529) k ((t3465.State, t3465.At, t3465.Cells, 0), A3470, c3471) [2, 3, 4, 6, 8] rfl ⟨(hS3473.subR [0, 1]).sub [3, 0, 1, 2] (by decide), hx3530⟩ ?_
    rintro k3531 ⟨⟨x3518, x3519, l3522, x3523⟩, A3520, c3521⟩ w3532 ⟨hS3533, hl3534⟩
    cases k3531 with
    | zero => rw [ref08_Run.l0] at hl3534; cases hl3534
    | succ k3531 =>
      rw [ref08_Run.l0] at hl3534
      refine WC.seq ?_
      refine WC.seq ?_
      refine WC.region ?_
      refine seg 3 [] [2, 3, 4, 6, 8, 15] [(2, (.int .i64 p2)), (3, (.pointer (some ⟨g3453, 0, none⟩))), (4, (.pointer (some ⟨g3457, 0, none⟩))), (6, (.pointer (some ⟨g3461, 0, none⟩))), (8, (.int .i64 x3523)), (15, (.bool (decide (x3523 < p2))))] [] (fun fb => by kernel_rfl) rfl trivial ?_
      refine WL.done rfl ?_
      refine WX.next ?_
      rcases br_some hl3534 with ⟨h3535, hl3534⟩ | ⟨h3535, hl3534⟩
      · refine WC.condT2 (fun fb => by kernel_rfl) h3535 ?_
        refine WC.skip ?_
        refine WX.next ?_
        refine WC.seq ?_
        refine WC.block ?_
        refine WC.seq ?_
        refine WC.region ?_
        refine seg 2 [.v (.int .i64 p0.States), .v (.int .i64 p0.Symbols), .v (.slice A_p0_Actions p0.Actions.length c_p0_Actions), .v (.int .i64 x3518), .v (.int .i64 x3519), .v (.slice A3520 l3522.length c3521)] [2, 3, 4, 6, 8, 19, 20] [(2, (.int .i64 p2)), (3, (.pointer (some ⟨g3453, 0, none⟩))), (4, (.pointer (some ⟨g3457, 0, none⟩))), (6, (.pointer (some ⟨g3461, 0, none⟩))), (8, (.int .i64 x3523)), (19, (.agg #[(.int .i64 p0.States), (.int .i64 p0.Symbols), (.slice A_p0_Actions p0.Actions.length c_p0_Actions)])), (20, (.agg #[(.int .i64 x3518), (.int .i64 x3519), (.slice A3520 l3522.length c3521)]))] [.cell ⟨g3453, 0, none⟩ (.int .i64 p0.States), .cell ⟨g3453, 1, none⟩ (.int .i64 p0.Symbols), .cell ⟨g3453, 2, none⟩ (.slice A_p0_Actions p0.Actions.length c_p0_Actions), .cell ⟨g3457, 0, none⟩ (.int .i64 x3518), .cell ⟨g3457, 1, none⟩ (.int .i64 x3519), .cell ⟨g3457, 2, none⟩ (.slice A3520 l3522.length c3521)] (fun fb => by kernel_rfl) rfl ⟨hS3533.cell 0 rfl 0 rfl, hS3533.cell 0 rfl 1 rfl, hS3533.cell 0 rfl 2 rfl, hS3533.cell 1 rfl 0 rfl, hS3533.cell 1 rfl 1 rfl, hS3533.cell 1 rfl 2 rfl, trivial⟩ ?_
        obtain ⟨t3536, ht3537, hl3534⟩ := bind_some hl3534
        refine WL.call (some 21) 22 #[(.agg #[(.int .i64 p0.States), (.int .i64 p0.Symbols), (.slice A_p0_Actions p0.Actions.length c_p0_Actions)]), (.agg #[(.int .i64 x3518), (.int .i64 x3519), (.slice A3520 l3522.length c3521)])] (fun fb => by kernel_rfl) (ref08_Step_calls p0 (Config.mk x3518 x3519 l3522) A_p0_Actions c_p0_Actions A3520 c3521 t3536 _ (hS3533.rd 0) (hS3533.ow 2).ofO ht3537) (fun v w3538 hR3539 => ?_)
        obtain ⟨A3541, c3542, rfl, hk_⟩ := hR3539
        have hS3540 : St NoS w w3538 [rowR enc_Action A_p0_Actions c_p0_Actions p0.Actions, rowR encInt A_p1_Cells c_p1_Cells p1.Cells] [rowO 3 encInt A3541 c3542 t3536.1.Cells, blk g3453 (.cells #[(.int .i64 p0.States), (.int .i64 p0.Symbols), (.slice A_p0_Actions p0.Actions.length c_p0_Actions)] 24 (0, 0)), blk g3457 (.cells #[(.int .i64 x3518), (.int .i64 x3519), (.slice A3520 l3522.length c3521)] 27 (0, 0)), rowO 3 encInt A3520 c3521 l3522, blk g3461 (.cells #[(.int .i64 0), (.int .i64 0), (.slice none 0 0)] 27 (0, 0))] := hS3533.call hk_ [] [0, 1, 2, 3] (fun g hg => hg.elim) (by simp) (by decide)
        refine ⟨trivial, ?_⟩
        refine seg 6 [] [2, 3, 4, 6, 8, 22, 23] [(2, (.int .i64 p2)), (3, (.pointer (some ⟨g3453, 0, none⟩))), (4, (.pointer (some ⟨g3457, 0, none⟩))), (6, (.pointer (some ⟨g3461, 0, none⟩))), (8, (.int .i64 x3523)), (22, (.agg #[(.int .i64 t3536.1.State), (.int .i64 t3536.1.At), (.slice A3541 t3536.1.Cells.length c3542)])), (23, (.int .i64 t3536.2))] [] (fun fb => by kernel_rfl) rfl trivial ?_
        refine WL.new hS3540 9 [] (fun g => (.pointer (some ⟨g, 0, none⟩))) (.cells #[(.int .i64 0), (.int .i64 0), (.slice none 0 0)] 27 (0, 0)) [] (fun fb g => by kernel_rfl) trivial (fun g3543 w3544 hS3545 => ?_)
        refine ⟨trivial, ?_⟩
        refine WL.store hS3545 0 rfl [(0, (.int .i64 t3536.1.State)), (1, (.int .i64 t3536.1.At)), (2, (.slice A3541 t3536.1.Cells.length c3542))] #[(.int .i64 t3536.1.State), (.int .i64 t3536.1.At), (.slice A3541 t3536.1.Cells.length c3542)] (fun fb => by kernel_rfl) (by kernel_rfl) rfl [1, 2, 3, 4, 5] (by decide) (by decide) (fun w3547 hS3548 => ?_)
        refine ⟨trivial, ?_⟩
        refine seg 9 [] [2, 3, 4, 6, 8, 9, 10] [(2, (.int .i64 p2)), (3, (.pointer (some ⟨g3453, 0, none⟩))), (4, (.pointer (some ⟨g3457, 0, none⟩))), (6, (.pointer (some ⟨g3461, 0, none⟩))), (8, (.int .i64 x3523)), (9, (.pointer (some ⟨g3543, 0, none⟩))), (10, (.int .i64 t3536.2))] [] (fun fb => by kernel_rfl) rfl trivial ?_
        refine WL.done rfl ?_
        refine WX.next ?_
        refine WC.seq ?_
        refine WC.seq ?_
        refine WC.region ?_
        refine seg 2 [] [2, 3, 4, 6, 8, 9, 25] [(2, (.int .i64 p2)), (3, (.pointer (some ⟨g3453, 0, none⟩))), (4, (.pointer (some ⟨g3457, 0, none⟩))), (6, (.pointer (some ⟨g3461, 0, none⟩))), (8, (.int .i64 x3523)), (9, (.pointer (some ⟨g3543, 0, none⟩))), (25, (.bool (t3536.2 != 0)))] [] (fun fb => by kernel_rfl) rfl trivial ?_
        refine WL.done rfl ?_
        refine WX.next ?_
        rcases br_some hl3534 with ⟨h3549, hl3534⟩ | ⟨h3549, hl3534⟩
        · refine WC.condT2 (fun fb => by kernel_rfl) h3549 ?_
          refine WC.seq ?_
          refine WC.region ?_
          refine seg 2 [.v (.int .i64 x3518), .v (.int .i64 x3519), .v (.slice A3520 l3522.length c3521)] [6, 26, 27] [(6, (.pointer (some ⟨g3461, 0, none⟩))), (26, (.agg #[(.int .i64 x3518), (.int .i64 x3519), (.slice A3520 l3522.length c3521)])), (27, (.int .i64 x3523))] [.cell ⟨g3457, 0, none⟩ (.int .i64 x3518), .cell ⟨g3457, 1, none⟩ (.int .i64 x3519), .cell ⟨g3457, 2, none⟩ (.slice A3520 l3522.length c3521)] (fun fb => by kernel_rfl) rfl ⟨hS3548.cell 3 rfl 0 rfl, hS3548.cell 3 rfl 1 rfl, hS3548.cell 3 rfl 2 rfl, trivial⟩ ?_
          refine WL.store hS3548 5 rfl [(0, (.int .i64 x3518)), (1, (.int .i64 x3519)), (2, (.slice A3520 l3522.length c3521))] #[(.int .i64 x3518), (.int .i64 x3519), (.slice A3520 l3522.length c3521)] (fun fb => by kernel_rfl) (by kernel_rfl) rfl [0, 1, 2, 3, 4] (by decide) (by decide) (fun w3550 hS3551 => ?_)
          refine ⟨trivial, ?_⟩
          refine seg 4 [] [6, 7] [(6, (.pointer (some ⟨g3461, 0, none⟩))), (7, (.int .i64 x3523))] [] (fun fb => by kernel_rfl) rfl trivial ?_
          refine WL.done rfl ?_
          refine WX.next ?_
          refine WC.ret ?_
          injection hl3534 with hl3534
          subst hl3534
          injection hf with hf
          subst hf
          exact WX.thenR (WX.blockR (WX.thenR (WX.thenR (WX.blockR (WX.thenR (WX.ret_ [.v (.int .i64 x3518), .v (.int .i64 x3519), .v (.slice A3520 l3522.length c3521)] (.tuple #[(.agg #[(.int .i64 x3518), (.int .i64 x3519), (.slice A3520 l3522.length c3521)]), (.int .i64 x3523)]) [.cell ⟨g3461, 0, none⟩ (.int .i64 x3518), .cell ⟨g3461, 1, none⟩ (.int .i64 x3519), .cell ⟨g3461, 2, none⟩ (.slice A3520 l3522.length c3521)] (fun fb => by kernel_rfl) ⟨hS3551.cell 0 rfl 0 rfl, hS3551.cell 0 rfl 1 rfl, hS3551.cell 0 rfl 2 rfl, trivial⟩ ⟨_, rfl, A3520, c3521, rfl, (hS3551.sub [5] (by decide)).noR⟩))))))
        refine WC.condF2 (fun fb => by kernel_rfl) h3549 ?_
        refine WC.skip ?_
        refine WX.next ?_
        refine WC.region ?_
        refine seg 1 [.v (.int .i64 t3536.1.State), .v (.int .i64 t3536.1.At), .v (.slice A3541 t3536.1.Cells.length c3542)] [2, 3, 4, 6, 8, 28] [(2, (.int .i64 p2)), (3, (.pointer (some ⟨g3453, 0, none⟩))), (4, (.pointer (some ⟨g3457, 0, none⟩))), (6, (.pointer (some ⟨g3461, 0, none⟩))), (8, (.int .i64 x3523)), (28, (.agg #[(.int .i64 t3536.1.State), (.int .i64 t3536.1.At), (.slice A3541 t3536.1.Cells.length c3542)]))] [.cell ⟨g3543, 0, none⟩ (.int .i64 t3536.1.State), .cell ⟨g3543, 1, none⟩ (.int .i64 t3536.1.At), .cell ⟨g3543, 2, none⟩ (.slice A3541 t3536.1.Cells.length c3542)] (fun fb => by kernel_rfl) rfl ⟨hS3548.cell 0 rfl 0 rfl, hS3548.cell 0 rfl 1 rfl, hS3548.cell 0 rfl 2 rfl, trivial⟩ ?_
        refine WL.store hS3548 3 rfl [(0, (.int .i64 t3536.1.State)), (1, (.int .i64 t3536.1.At)), (2, (.slice A3541 t3536.1.Cells.length c3542))] #[(.int .i64 t3536.1.State), (.int .i64 t3536.1.At), (.slice A3541 t3536.1.Cells.length c3542)] (fun fb => by kernel_rfl) (by kernel_rfl) rfl [0, 1, 2, 4, 5] (by decide) (by decide) (fun w3552 hS3553 => ?_)
        refine ⟨trivial, ?_⟩
        refine WL.done rfl ?_
        refine WX.blockN (WX.next ?_)
        refine WC.region ?_
        refine seg 3 [] [2, 3, 4, 6, 8] [(2, (.int .i64 p2)), (3, (.pointer (some ⟨g3453, 0, none⟩))), (4, (.pointer (some ⟨g3457, 0, none⟩))), (6, (.pointer (some ⟨g3461, 0, none⟩))), (8, (.int .i64 (w64 (x3523 + 1))))] [] (fun fb => by kernel_rfl) rfl trivial ?_
        refine WL.done rfl ?_
        exact WX.again k3531 (Nat.lt_succ_self _) ((t3536.1.State, t3536.1.At, t3536.1.Cells, w64 (x3523 + 1)), A3541, c3542) [2, 3, 4, 6, 8] rfl ⟨(hS3553.subR [0, 1]).sub [3, 0, 2, 5] (by decide), hl3534⟩
      refine WC.condF2 (fun fb => by kernel_rfl) h3535 ?_
      refine WC.exit ?_
      injection hl3534 with hl3534
      exact WX.thenX (WX.thenX (WX.blockHere (WX.to Kx3529 ((x3518, x3519, l3522), A3520, c3521) [2, 4, 6] rfl ⟨(hS3533.subR [0, 1]).sub [1, 2, 3] (by decide), hl3534.symm⟩)))
  rintro ⟨y3557, A3526, c3527⟩ w3554 ⟨hS3555, hq3556⟩
  subst hq3556
  have hf := sum_inr hf
  refine WX.next ?_
  refine WC.seq ?_
  refine WC.region ?_
  refine seg 2 [.v (.int .i64 y3557.1), .v (.int .i64 y3557.2.1), .v (.slice A3526 y3557.2.2.length c3527)] [6, 29, 30] [(6, (.pointer (some ⟨g3461, 0, none⟩))), (29, (.agg #[(.int .i64 y3557.1), (.int .i64 y3557.2.1), (.slice A3526 y3557.2.2.length c3527)])), (30, (.int .i64 p2))] [.cell ⟨g3457, 0, none⟩ (.int .i64 y3557.1), .cell ⟨g3457, 1, none⟩ (.int .i64 y3557.2.1), .cell ⟨g3457, 2, none⟩ (.slice A3526 y3557.2.2.length c3527)] (fun fb => by kernel_rfl) rfl ⟨hS3555.cell 0 rfl 0 rfl, hS3555.cell 0 rfl 1 rfl, hS3555.cell 0 rfl 2 rfl, trivial⟩ ?_
  refine WL.store hS3555 2 rfl [(0, (.int .i64 y3557.1)), (1, (.int .i64 y3557.2.1)), (2, (.slice A3526 y3557.2.2.length c3527))] #[(.int .i64 y3557.1), (.int .i64 y3557.2.1), (.slice A3526 y3557.2.2.length c3527)] (fun fb => by kernel_rfl) (by kernel_rfl) rfl [0, 1] (by decide) (by decide) (fun w3559 hS3560 => ?_)
  refine ⟨trivial, ?_⟩
  refine seg 4 [] [6, 7] [(6, (.pointer (some ⟨g3461, 0, none⟩))), (7, (.int .i64 p2))] [] (fun fb => by kernel_rfl) rfl trivial ?_
  refine WL.done rfl ?_
  refine WX.next ?_
  refine WC.ret ?_
  injection hf with hf
  subst hf
  exact WX.ret_ [.v (.int .i64 y3557.1), .v (.int .i64 y3557.2.1), .v (.slice A3526 y3557.2.2.length c3527)] (.tuple #[(.agg #[(.int .i64 y3557.1), (.int .i64 y3557.2.1), (.slice A3526 y3557.2.2.length c3527)]), (.int .i64 p2)]) [.cell ⟨g3461, 0, none⟩ (.int .i64 y3557.1), .cell ⟨g3461, 1, none⟩ (.int .i64 y3557.2.1), .cell ⟨g3461, 2, none⟩ (.slice A3526 y3557.2.2.length c3527)] (fun fb => by kernel_rfl) ⟨hS3560.cell 0 rfl 0 rfl, hS3560.cell 0 rfl 1 rfl, hS3560.cell 0 rfl 2 rfl, trivial⟩ ⟨_, rfl, A3526, c3527, rfl, (hS3560.sub [2] (by decide)).noR⟩
end Gp
