/- Walks: each function of the program computes its plain function. -/
import Derived.Test.YtamnfcbekogkdaaGx0
set_option linter.unusedVariables false
set_option linter.unusedSimpArgs false
namespace Gp
open Go Gw Go.Proofs
theorem machine_kit_row_calls (k : Nat) (p0 : Kit) (p1 : Runner) (g_p0 : Nat) (A_p0_m_Actions : Option Addr) (c_p0_m_Actions : Nat) (A_p0_set : Option Addr) (c_p0_set : Nat) (A_p0_does : Option Addr) (c_p0_does : Nat) (g_p1 : Nat) (A_p1_m_Actions : Option Addr) (c_p1_m_Actions : Nat) (A_p1_Config_Cells : Option Addr) (c_p1_Config_Cells : Nat) (r : (List Int)) (w : World) (hR0 : RO NoS w (blk g_p0 (.cells #[(.int .i64 p0.m.States), (.int .i64 p0.m.Symbols), (.slice A_p0_m_Actions p0.m.Actions.length c_p0_m_Actions), (.slice A_p0_set p0.set.length c_p0_set), (.slice A_p0_does p0.does.length c_p0_does), (.int .i64 p0.base)] 96 (0, 0)))) (hR1 : RO NoS w (rowR enc_Action A_p0_m_Actions c_p0_m_Actions p0.m.Actions)) (hR2 : RO NoS w (rowR enc_Tile A_p0_set c_p0_set p0.set)) (hR3 : RO NoS w (rowR encInt A_p0_does c_p0_does p0.does)) (hR4 : RO NoS w (blk g_p1 (.cells #[(.int .i64 p1.m.States), (.int .i64 p1.m.Symbols), (.slice A_p1_m_Actions p1.m.Actions.length c_p1_m_Actions), (.int .i64 p1.Config.State), (.int .i64 p1.Config.At), (.slice A_p1_Config_Cells p1.Config.Cells.length c_p1_Config_Cells)] 82 (0, 0)))) (hR5 : RO NoS w (rowR enc_Action A_p1_m_Actions c_p1_m_Actions p1.m.Actions)) (hR6 : RO NoS w (rowR encInt A_p1_Config_Cells c_p1_Config_Cells p1.Config.Cells)) (hf : machine_kit_row k p0 p1 = some r) :
    CallsR Try.prog 44 #[(.pointer (some ⟨g_p0, 0, none⟩)), (.pointer (some ⟨g_p1, 0, none⟩))] w (fun v w' => ∃ (A1_ : Option Addr), ∃ (c1_ : Nat), v = (.slice A1_ r.length c1_) ∧ St NoS w w' [] [rowO 3 encInt A1_ c1_ r]) := by
  have hS : St NoS w w [blk g_p0 (.cells #[(.int .i64 p0.m.States), (.int .i64 p0.m.Symbols), (.slice A_p0_m_Actions p0.m.Actions.length c_p0_m_Actions), (.slice A_p0_set p0.set.length c_p0_set), (.slice A_p0_does p0.does.length c_p0_does), (.int .i64 p0.base)] 96 (0, 0)), rowR enc_Action A_p0_m_Actions c_p0_m_Actions p0.m.Actions, rowR enc_Tile A_p0_set c_p0_set p0.set, rowR encInt A_p0_does c_p0_does p0.does, blk g_p1 (.cells #[(.int .i64 p1.m.States), (.int .i64 p1.m.Symbols), (.slice A_p1_m_Actions p1.m.Actions.length c_p1_m_Actions), (.int .i64 p1.Config.State), (.int .i64 p1.Config.At), (.slice A_p1_Config_Cells p1.Config.Cells.length c_p1_Config_Cells)] 82 (0, 0)), rowR enc_Action A_p1_m_Actions c_p1_m_Actions p1.m.Actions, rowR encInt A_p1_Config_Cells c_p1_Config_Cells p1.Config.Cells] [] := St.init (ro_cons hR0 (ro_cons hR1 (ro_cons hR2 (ro_cons hR3 (ro_cons hR4 (ro_cons hR5 (ro_cons hR6 (ro_nil _ _))))))))
  refine enter 87 Try.func44 rfl Try.ntmps44 rfl ?_
  unfold machine_kit_row at hf
  refine WC.seq ?_
  refine WC.region ?_
  refine seg 1 [] [0, 1] [(0, (.pointer (some ⟨g_p0, 0, none⟩))), (1, (.pointer (some ⟨g_p1, 0, none⟩)))] [] (fun fb => by kernel_rfl) rfl trivial ?_
  refine WL.done rfl ?_
  refine WX.next ?_
  refine WC.seq ?_
  refine WC.region ?_
  refine seg 1 [] [0, 1, 5] [(0, (.pointer (some ⟨g_p0, 0, none⟩))), (1, (.pointer (some ⟨g_p1, 0, none⟩))), (5, (.slice none 0 0))] [] (fun fb => by kernel_rfl) rfl trivial ?_
  refine WL.done rfl ?_
  refine WX.next ?_
  refine WC.seq ?_
  obtain ⟨x2213, hx2214, hf⟩ := bind_some hf
  refine WC.cutN (T := (Int × Int × Int) × Nat) (fun t => [(0, (.pointer (some ⟨g_p0, 0, none⟩))), (1, (.pointer (some ⟨g_p1, 0, none⟩))), (5, (.slice none 0 0)), (6, (.pointer (some ⟨t.2, 0, none⟩)))]) (fun t w1 => St NoS w w1 [blk g_p0 (.cells #[(.int .i64 p0.m.States), (.int .i64 p0.m.Symbols), (.slice A_p0_m_Actions p0.m.Actions.length c_p0_m_Actions), (.slice A_p0_set p0.set.length c_p0_set), (.slice A_p0_does p0.does.length c_p0_does), (.int .i64 p0.base)] 96 (0, 0)), rowR enc_Action A_p0_m_Actions c_p0_m_Actions p0.m.Actions, rowR enc_Tile A_p0_set c_p0_set p0.set, rowR encInt A_p0_does c_p0_does p0.does, blk g_p1 (.cells #[(.int .i64 p1.m.States), (.int .i64 p1.m.Symbols), (.slice A_p1_m_Actions p1.m.Actions.length c_p1_m_Actions), (.int .i64 p1.Config.State), (.int .i64 p1.Config.At), (.slice A_p1_Config_Cells p1.Config.Cells.length c_p1_Config_Cells)] 82 (0, 0)), rowR enc_Action A_p1_m_Actions c_p1_m_Actions p1.m.Actions, rowR encInt A_p1_Config_Cells c_p1_Config_Cells p1.Config.Cells] [blk t.2 (.cells #[(.int .i64 t.1.1), (.int .i64 t.1.2.1), (.int .i64 t.1.2.2)] 88 (0, 0))] ∧ x2213 = t.1) (fun Kx2213 => ?_) ?_
  ·
    refine WC.regionD ([(4, ⟨g_p1, 2, none⟩, (.slice A_p1_m_Actions p1.m.Actions.length c_p1_m_Actions))], [0, 1, 2, 3, 4, 5, 7], [[], [0], [0, 1], [0, 1, 2], [0, 1, 2, 3], [], [5], [0, 1, 2, 3, 4, 5, 6], [0, 1, 2, 3, 4, 5, 6, 7], [], [0, 1, 2, 3, 4, 5, 6, 7, 8, 9]]) [[0, 1, 2, 3, 4, 5, 6, 7, 8, 9, 10], [0, 1, 2, 3, 4, 5, 6, 7, 9, 8, 10], [0, 1, 2, 3, 4, 5, 9, 6, 7, 8, 10]] (by kernel_rfl) (by kernel_rfl) (NoPanic.seq (NoPanic.body)) ?_
    have hS2216 := hS.drew
    revert hS2216
    generalize World.drew w = w2215
    intro hS2216
    refine ⟨⟨blk_cell (hS2216.rd 4).1 2 rfl, trivial⟩, forallC ?_ (forallC ?_ (forallC ?_ (forallN)))⟩
    ·
      refine segF 6 [.v (.slice A_p1_m_Actions p1.m.Actions.length c_p1_m_Actions)] [0, 1, 5, 15, 16] [(0, (.pointer (some ⟨g_p0, 0, none⟩))), (1, (.pointer (some ⟨g_p1, 0, none⟩))), (5, (.slice none 0 0)), (15, (.slice A_p1_m_Actions p1.m.Actions.length c_p1_m_Actions)), (16, (.pointer (some ⟨g_p1, 0, none⟩)))] [] [0] [(4, ⟨g_p1, 2, none⟩, (.slice A_p1_m_Actions p1.m.Actions.length c_p1_m_Actions))] (fun fb => by kernel_rfl) rfl trivial rfl ?_
      obtain ⟨t2217, ht2218, hx2214⟩ := bind_some hx2214
      refine WL.call (some 17) 63 #[(.pointer (some ⟨g_p1, 0, none⟩))] (fun fb => by kernel_rfl) (machine_runner_does_calls p1 g_p1 A_p1_m_Actions c_p1_m_Actions A_p1_Config_Cells c_p1_Config_Cells t2217 _ (hS2216.rd 4) (hS2216.rd 5) (hS2216.rd 6) ht2218) (fun v w2219 hR2220 => ?_)
      obtain ⟨rfl, hk_⟩ := hR2220
      have hS2221 := hS2216.keepN hk_
      refine ⟨⟨blk_cell (hS2221.rd 4).1 2 rfl, trivial⟩, ?_⟩
      obtain ⟨h2222, hx2214⟩ := as_some hx2214
      refine seg 9 [.v (.int .i64 ((rdD p1.m.Actions t2217 z_Action).Write)), .v (.int .i64 ((rdD p1.m.Actions t2217 z_Action).Move)), .v (.int .i64 ((rdD p1.m.Actions t2217 z_Action).Next))] [0, 1, 5, 19] [(0, (.pointer (some ⟨g_p0, 0, none⟩))), (1, (.pointer (some ⟨g_p1, 0, none⟩))), (5, (.slice none 0 0)), (19, (.agg #[(.int .i64 ((rdD p1.m.Actions t2217 z_Action).Write)), (.int .i64 ((rdD p1.m.Actions t2217 z_Action).Move)), (.int .i64 ((rdD p1.m.Actions t2217 z_Action).Next))]))] [.idx A_p1_m_Actions t2217 p1.m.Actions.length, .cell ((adr A_p1_m_Actions).add ((t2217).toNat * 3)) (.int .i64 ((rdD p1.m.Actions t2217 z_Action).Write)), .cell (((adr A_p1_m_Actions).add ((t2217).toNat * 3)).add 1) (.int .i64 ((rdD p1.m.Actions t2217 z_Action).Move)), .cell (((adr A_p1_m_Actions).add ((t2217).toNat * 3)).add 2) (.int .i64 ((rdD p1.m.Actions t2217 z_Action).Next))] (fun fb => by kernel_rfl) rfl ⟨rowR.adr (hS2221.rd 5).1 h2222.1 h2222.2, rowR.cell (hS2221.rd 5).1 z_Action h2222.1 h2222.2 0 rfl, rowR.cell (hS2221.rd 5).1 z_Action h2222.1 h2222.2 1 rfl, rowR.cell (hS2221.rd 5).1 z_Action h2222.1 h2222.2 2 rfl, trivial⟩ ?_
      refine WL.new hS2221 6 [] (fun g => (.pointer (some ⟨g, 0, none⟩))) (.cells #[(.int .i64 0), (.int .i64 0), (.int .i64 0)] 88 (0, 0)) [] (fun fb g => by kernel_rfl) trivial (fun g2223 w2224 hS2225 => ?_)
      refine ⟨⟨blk_cell (hS2225.rd 4).1 2 rfl, trivial⟩, ?_⟩
      refine WL.store hS2225 0 rfl [(0, (.int .i64 ((rdD p1.m.Actions t2217 z_Action).Write))), (1, (.int .i64 ((rdD p1.m.Actions t2217 z_Action).Move))), (2, (.int .i64 ((rdD p1.m.Actions t2217 z_Action).Next)))] #[(.int .i64 ((rdD p1.m.Actions t2217 z_Action).Write)), (.int .i64 ((rdD p1.m.Actions t2217 z_Action).Move)), (.int .i64 ((rdD p1.m.Actions t2217 z_Action).Next))] (fun fb => by kernel_rfl) (by kernel_rfl) rfl [] (by decide) (by decide) (fun w2227 hS2228 => ?_)
      refine ⟨trivial, ?_⟩
      refine WL.done rfl ?_
      injection hx2214 with hx2214
      exact WX.to Kx2213 (((rdD p1.m.Actions t2217 z_Action).Write, (rdD p1.m.Actions t2217 z_Action).Move, (rdD p1.m.Actions t2217 z_Action).Next), g2223) [0, 1, 5, 6] rfl ⟨(hS2228.subR [0, 1, 2, 3, 4, 5, 6]).sub [0] (by decide), hx2214.symm⟩
    ·
      refine segF 6 [.v (.slice A_p1_m_Actions p1.m.Actions.length c_p1_m_Actions)] [0, 1, 5, 15, 16] [(0, (.pointer (some ⟨g_p0, 0, none⟩))), (1, (.pointer (some ⟨g_p1, 0, none⟩))), (5, (.slice none 0 0)), (15, (.slice A_p1_m_Actions p1.m.Actions.length c_p1_m_Actions)), (16, (.pointer (some ⟨g_p1, 0, none⟩)))] [] [0] [(4, ⟨g_p1, 2, none⟩, (.slice A_p1_m_Actions p1.m.Actions.length c_p1_m_Actions))] (fun fb => by kernel_rfl) rfl trivial rfl ?_
      obtain ⟨t2229, ht2230, hx2214⟩ := bind_some hx2214
      refine WL.call (some 17) 63 #[(.pointer (some ⟨g_p1, 0, none⟩))] (fun fb => by kernel_rfl) (machine_runner_does_calls p1 g_p1 A_p1_m_Actions c_p1_m_Actions A_p1_Config_Cells c_p1_Config_Cells t2229 _ (hS2216.rd 4) (hS2216.rd 5) (hS2216.rd 6) ht2230) (fun v w2231 hR2232 => ?_)
      obtain ⟨rfl, hk_⟩ := hR2232
      have hS2233 := hS2216.keepN hk_
      refine ⟨⟨blk_cell (hS2233.rd 4).1 2 rfl, trivial⟩, ?_⟩
      obtain ⟨h2234, hx2214⟩ := as_some hx2214
      refine seg 8 [] [0, 1, 5, 18] [(0, (.pointer (some ⟨g_p0, 0, none⟩))), (1, (.pointer (some ⟨g_p1, 0, none⟩))), (5, (.slice none 0 0)), (18, (.pointer (some ((adr A_p1_m_Actions).add ((t2229).toNat * 3)))))] [.idx A_p1_m_Actions t2229 p1.m.Actions.length] (fun fb => by kernel_rfl) rfl ⟨rowR.adr (hS2233.rd 5).1 h2234.1 h2234.2, trivial⟩ ?_
      refine WL.new hS2233 6 [] (fun g => (.pointer (some ⟨g, 0, none⟩))) (.cells #[(.int .i64 0), (.int .i64 0), (.int .i64 0)] 88 (0, 0)) [] (fun fb g => by kernel_rfl) trivial (fun g2235 w2236 hS2237 => ?_)
      refine ⟨⟨blk_cell (hS2237.rd 4).1 2 rfl, trivial⟩, ?_⟩
      refine seg 10 [.v (.int .i64 ((rdD p1.m.Actions t2229 z_Action).Write)), .v (.int .i64 ((rdD p1.m.Actions t2229 z_Action).Move)), .v (.int .i64 ((rdD p1.m.Actions t2229 z_Action).Next))] [0, 1, 5, 6, 19] [(0, (.pointer (some ⟨g_p0, 0, none⟩))), (1, (.pointer (some ⟨g_p1, 0, none⟩))), (5, (.slice none 0 0)), (6, (.pointer (some ⟨g2235, 0, none⟩))), (19, (.agg #[(.int .i64 ((rdD p1.m.Actions t2229 z_Action).Write)), (.int .i64 ((rdD p1.m.Actions t2229 z_Action).Move)), (.int .i64 ((rdD p1.m.Actions t2229 z_Action).Next))]))] [.cell ((adr A_p1_m_Actions).add ((t2229).toNat * 3)) (.int .i64 ((rdD p1.m.Actions t2229 z_Action).Write)), .cell (((adr A_p1_m_Actions).add ((t2229).toNat * 3)).add 1) (.int .i64 ((rdD p1.m.Actions t2229 z_Action).Move)), .cell (((adr A_p1_m_Actions).add ((t2229).toNat * 3)).add 2) (.int .i64 ((rdD p1.m.Actions t2229 z_Action).Next))] (fun fb => by kernel_rfl) rfl ⟨rowR.cell (hS2237.rd 5).1 z_Action h2234.1 h2234.2 0 rfl, rowR.cell (hS2237.rd 5).1 z_Action h2234.1 h2234.2 1 rfl, rowR.cell (hS2237.rd 5).1 z_Action h2234.1 h2234.2 2 rfl, trivial⟩ ?_
      refine WL.store hS2237 0 rfl [(0, (.int .i64 ((rdD p1.m.Actions t2229 z_Action).Write))), (1, (.int .i64 ((rdD p1.m.Actions t2229 z_Action).Move))), (2, (.int .i64 ((rdD p1.m.Actions t2229 z_Action).Next)))] #[(.int .i64 ((rdD p1.m.Actions t2229 z_Action).Write)), (.int .i64 ((rdD p1.m.Actions t2229 z_Action).Move)), (.int .i64 ((rdD p1.m.Actions t2229 z_Action).Next))] (fun fb => by kernel_rfl) (by kernel_rfl) rfl [] (by decide) (by decide) (fun w2239 hS2240 => ?_)
      refine ⟨trivial, ?_⟩
      refine WL.done rfl ?_
      injection hx2214 with hx2214
      exact WX.to Kx2213 (((rdD p1.m.Actions t2229 z_Action).Write, (rdD p1.m.Actions t2229 z_Action).Move, (rdD p1.m.Actions t2229 z_Action).Next), g2235) [0, 1, 5, 6] rfl ⟨(hS2240.subR [0, 1, 2, 3, 4, 5, 6]).sub [0] (by decide), hx2214.symm⟩
    refine segF 6 [.v (.slice A_p1_m_Actions p1.m.Actions.length c_p1_m_Actions)] [0, 1, 5, 15, 16] [(0, (.pointer (some ⟨g_p0, 0, none⟩))), (1, (.pointer (some ⟨g_p1, 0, none⟩))), (5, (.slice none 0 0)), (15, (.slice A_p1_m_Actions p1.m.Actions.length c_p1_m_Actions)), (16, (.pointer (some ⟨g_p1, 0, none⟩)))] [] [0] [(4, ⟨g_p1, 2, none⟩, (.slice A_p1_m_Actions p1.m.Actions.length c_p1_m_Actions))] (fun fb => by kernel_rfl) rfl trivial rfl ?_
    refine WL.new hS2216 6 [] (fun g => (.pointer (some ⟨g, 0, none⟩))) (.cells #[(.int .i64 0), (.int .i64 0), (.int .i64 0)] 88 (0, 0)) [] (fun fb g => by kernel_rfl) trivial (fun g2241 w2242 hS2243 => ?_)
    refine ⟨⟨blk_cell (hS2243.rd 4).1 2 rfl, trivial⟩, ?_⟩
    obtain ⟨t2245, ht2246, hx2214⟩ := bind_some hx2214
    refine WL.call (some 17) 63 #[(.pointer (some ⟨g_p1, 0, none⟩))] (fun fb => by kernel_rfl) (machine_runner_does_calls p1 g_p1 A_p1_m_Actions c_p1_m_Actions A_p1_Config_Cells c_p1_Config_Cells t2245 _ (hS2243.rd 4) (hS2243.rd 5) (hS2243.rd 6) ht2246) (fun v w2247 hR2248 => ?_)
    obtain ⟨rfl, hk_⟩ := hR2248
    have hS2249 := hS2243.keepN hk_
    refine ⟨⟨blk_cell (hS2249.rd 4).1 2 rfl, trivial⟩, ?_⟩
    obtain ⟨h2250, hx2214⟩ := as_some hx2214
    refine seg 10 [.v (.int .i64 ((rdD p1.m.Actions t2245 z_Action).Write)), .v (.int .i64 ((rdD p1.m.Actions t2245 z_Action).Move)), .v (.int .i64 ((rdD p1.m.Actions t2245 z_Action).Next))] [0, 1, 5, 6, 19] [(0, (.pointer (some ⟨g_p0, 0, none⟩))), (1, (.pointer (some ⟨g_p1, 0, none⟩))), (5, (.slice none 0 0)), (6, (.pointer (some ⟨g2241, 0, none⟩))), (19, (.agg #[(.int .i64 ((rdD p1.m.Actions t2245 z_Action).Write)), (.int .i64 ((rdD p1.m.Actions t2245 z_Action).Move)), (.int .i64 ((rdD p1.m.Actions t2245 z_Action).Next))]))] [.idx A_p1_m_Actions t2245 p1.m.Actions.length, .cell ((adr A_p1_m_Actions).add ((t2245).toNat * 3)) (.int .i64 ((rdD p1.m.Actions t2245 z_Action).Write)), .cell (((adr A_p1_m_Actions).add ((t2245).toNat * 3)).add 1) (.int .i64 ((rdD p1.m.Actions t2245 z_Action).Move)), .cell (((adr A_p1_m_Actions).add ((t2245).toNat * 3)).add 2) (.int .i64 ((rdD p1.m.Actions t2245 z_Action).Next))] (fun fb => by kernel_rfl) rfl ⟨rowR.adr (hS2249.rd 5).1 h2250.1 h2250.2, rowR.cell (hS2249.rd 5).1 z_Action h2250.1 h2250.2 0 rfl, rowR.cell (hS2249.rd 5).1 z_Action h2250.1 h2250.2 1 rfl, rowR.cell (hS2249.rd 5).1 z_Action h2250.1 h2250.2 2 rfl, trivial⟩ ?_
    refine WL.store hS2249 0 rfl [(0, (.int .i64 ((rdD p1.m.Actions t2245 z_Action).Write))), (1, (.int .i64 ((rdD p1.m.Actions t2245 z_Action).Move))), (2, (.int .i64 ((rdD p1.m.Actions t2245 z_Action).Next)))] #[(.int .i64 ((rdD p1.m.Actions t2245 z_Action).Write)), (.int .i64 ((rdD p1.m.Actions t2245 z_Action).Move)), (.int .i64 ((rdD p1.m.Actions t2245 z_Action).Next))] (fun fb => by kernel_rfl) (by kernel_rfl) rfl [] (by decide) (by decide) (fun w2251 hS2252 => ?_)
    refine ⟨trivial, ?_⟩
    refine WL.done rfl ?_
    injection hx2214 with hx2214
    exact WX.to Kx2213 (((rdD p1.m.Actions t2245 z_Action).Write, (rdD p1.m.Actions t2245 z_Action).Move, (rdD p1.m.Actions t2245 z_Action).Next), g2241) [0, 1, 5, 6] rfl ⟨(hS2252.subR [0, 1, 2, 3, 4, 5, 6]).sub [0] (by decide), hx2214.symm⟩
  rintro ⟨y2256, g2209⟩ w2253 ⟨hS2254, hq2255⟩
  subst hq2255
  refine WX.next ?_
  refine WC.seq ?_
  refine WC.regionD ([(4, ⟨g_p1, 4, none⟩, (.int .i64 p1.Config.At)), (6, ⟨g2209, 1, none⟩, (.int .i64 x2213.2.1))], [0, 1, 2, 3, 4, 5, 6, 7, 8, 9, 10], [[], [0], [0, 1], [0, 1, 2], [0, 1, 2, 3], [], [5], [5, 6], [0, 1, 2, 3, 4, 5, 6, 7], [0, 1, 2, 3, 4, 5, 6, 7, 8], [0, 1, 2, 3, 4, 5, 6, 7, 8, 9]]) [[0, 1, 2, 3, 4, 5, 6, 7, 8, 9, 10]] (by kernel_rfl) (by kernel_rfl) (NoPanic.seq (NoPanic.body)) ?_
  have hS2258 := hS2254.drew
  revert hS2258
  generalize World.drew w2253 = w2257
  intro hS2258
  refine ⟨⟨blk_cell (hS2258.rd 4).1 4 rfl, hS2258.cell 0 rfl 1 rfl, trivial⟩, forallC ?_ (forallN)⟩
  refine segF 11 [.v (.int .i64 p1.Config.At), .v (.int .i64 x2213.2.1)] [0, 1, 5, 6, 7] [(0, (.pointer (some ⟨g_p0, 0, none⟩))), (1, (.pointer (some ⟨g_p1, 0, none⟩))), (5, (.slice none 0 0)), (6, (.pointer (some ⟨g2209, 0, none⟩))), (7, (.int .i64 (w64 ((w64 (p1.Config.At + (w64 (2 * x2213.2.1)))) - 1))))] [] [0, 1] [(4, ⟨g_p1, 4, none⟩, (.int .i64 p1.Config.At)), (6, ⟨g2209, 1, none⟩, (.int .i64 x2213.2.1))] (fun fb => by kernel_rfl) rfl trivial rfl ?_
  refine WL.done rfl ?_
  refine WX.next ?_
  refine WC.seq ?_
  refine WC.seq ?_
  refine WC.region ?_
  refine seg 7 [.v (.slice A_p1_Config_Cells p1.Config.Cells.length c_p1_Config_Cells)] [0, 1, 5, 6, 7, 34, 35, 36] [(0, (.pointer (some ⟨g_p0, 0, none⟩))), (1, (.pointer (some ⟨g_p1, 0, none⟩))), (5, (.slice none 0 0)), (6, (.pointer (some ⟨g2209, 0, none⟩))), (7, (.int .i64 (w64 ((w64 (p1.Config.At + (w64 (2 * x2213.2.1)))) - 1)))), (34, (.slice A_p1_Config_Cells p1.Config.Cells.length c_p1_Config_Cells)), (35, (.int .i64 (p1.Config.Cells.length : Int))), (36, (.int .i64 0))] [.cell ⟨g_p1, 5, none⟩ (.slice A_p1_Config_Cells p1.Config.Cells.length c_p1_Config_Cells)] (fun fb => by kernel_rfl) rfl ⟨blk_cell (hS2258.rd 4).1 5 rfl, trivial⟩ ?_
  refine WL.done rfl ?_
  refine WX.next ?_
  have hS2415 := hS2258.nilrow 3 encInt
  obtain ⟨x2423, hx2424, hf⟩ := bind_some hf
  refine WC.cutN (T := (List Int) × (Option Addr) × Nat) (fun t => [(5, (.slice t.2.1 t.1.length t.2.2))]) (fun t w1 => St NoS w w1 [blk g_p0 (.cells #[(.int .i64 p0.m.States), (.int .i64 p0.m.Symbols), (.slice A_p0_m_Actions p0.m.Actions.length c_p0_m_Actions), (.slice A_p0_set p0.set.length c_p0_set), (.slice A_p0_does p0.does.length c_p0_does), (.int .i64 p0.base)] 96 (0, 0)), rowR enc_Action A_p0_m_Actions c_p0_m_Actions p0.m.Actions, rowR enc_Tile A_p0_set c_p0_set p0.set, rowR encInt A_p0_does c_p0_does p0.does, blk g_p1 (.cells #[(.int .i64 p1.m.States), (.int .i64 p1.m.Symbols), (.slice A_p1_m_Actions p1.m.Actions.length c_p1_m_Actions), (.int .i64 p1.Config.State), (.int .i64 p1.Config.At), (.slice A_p1_Config_Cells p1.Config.Cells.length c_p1_Config_Cells)] 82 (0, 0)), rowR enc_Action A_p1_m_Actions c_p1_m_Actions p1.m.Actions, rowR encInt A_p1_Config_Cells c_p1_Config_Cells p1.Config.Cells] [rowO 3 encInt t.2.1 t.2.2 t.1] ∧ x2423 = t.1) (fun Kx2423 => ?_) ?_
  ·
    refine WC.block ?_
    refine WC.loop (T := ((List Int) × Int) × (Option Addr) × Nat) (fun t => [(0, (.pointer (some ⟨g_p0, 0, none⟩))), (1, (.pointer (some ⟨g_p1, 0, none⟩))), (5, (.slice t.2.1 t.1.1.length t.2.2)), (6, (.pointer (some ⟨g2209, 0, none⟩))), (7, (.int .i64 (w64 ((w64 (p1.Config.At + (w64 (2 * x2213.2.1)))) - 1)))), (34, (.slice A_p1_Config_Cells p1.Config.Cells.length c_p1_Config_Cells)), (35, (.int .i64 (p1.Config.Cells.length : Int))), (36, (.int .i64 t.1.2))]) (fun n t w1 => St NoS w w1 [blk g_p0 (.cells #[(.int .i64 p0.m.States), (.int .i64 p0.m.Symbols), (.slice A_p0_m_Actions p0.m.Actions.length c_p0_m_Actions), (.slice A_p0_set p0.set.length c_p0_set), (.slice A_p0_does p0.does.length c_p0_does), (.int .i64 p0.base)] 96 (0, 0)), rowR enc_Action A_p0_m_Actions c_p0_m_Actions p0.m.Actions, rowR enc_Tile A_p0_set c_p0_set p0.set, rowR encInt A_p0_does c_p0_does p0.does, blk g_p1 (.cells #[(.int .i64 p1.m.States), (.int .i64 p1.m.Symbols), (.slice A_p1_m_Actions p1.m.Actions.length c_p1_m_Actions), (.int .i64 p1.Config.State), (.int .i64 p1.Config.At), (.slice A_p1_Config_Cells p1.Config.Cells.length c_p1_Config_Cells)] 82 (0, 0)), rowR enc_Action A_p1_m_Actions c_p1_m_Actions p1.m.Actions, rowR encInt A_p1_Config_Cells c_p1_Config_Cells p1.Config.Cells] [rowO 3 encInt t.2.1 t.2.2 t.1.1, blk g2209 (.cells #[(.int .i64 x2213.1), (.int .i64 x2213.2.1), (.int .i64 x2213.2.2)] 88 (0, 0))] ∧ machine_kit_row.l0 n t.1.1 t.1.2 p0 p1 x2213 = some x2423) k ((([] : List Int), 0), none, 0) [0, 1, 5, 6, 7, 34, 35, 36] rfl ⟨(hS2415.subR [0, 1, 2, 3, 4, 5, 6]).sub [0, 1] (by decide), hx2424⟩ ?_
    rintro k2425 ⟨⟨l2418, x2419⟩, A2416, c2417⟩ w2426 ⟨hS2427, hl2428⟩
    cases k2425 with
    | zero => rw [machine_kit_row.l0] at hl2428; cases hl2428
    | succ k2425 =>
      rw [machine_kit_row.l0] at hl2428
      refine WC.seq ?_
      refine WC.region ?_
      refine seg 1 [] [0, 1, 5, 6, 7, 34, 35, 36, 37] [(0, (.pointer (some ⟨g_p0, 0, none⟩))), (1, (.pointer (some ⟨g_p1, 0, none⟩))), (5, (.slice A2416 l2418.length c2417)), (6, (.pointer (some ⟨g2209, 0, none⟩))), (7, (.int .i64 (w64 ((w64 (p1.Config.At + (w64 (2 * x2213.2.1)))) - 1)))), (34, (.slice A_p1_Config_Cells p1.Config.Cells.length c_p1_Config_Cells)), (35, (.int .i64 (p1.Config.Cells.length : Int))), (36, (.int .i64 x2419)), (37, (.bool (decide (x2419 < (p1.Config.Cells.length : Int)))))] [] (fun fb => by kernel_rfl) rfl trivial ?_
      refine WL.done rfl ?_
      refine WX.next ?_
      refine WC.seq ?_
      rcases br_some hl2428 with ⟨h2429, hl2428⟩ | ⟨h2429, hl2428⟩
      · refine WC.condT2 (fun fb => by kernel_rfl) h2429 ?_
        refine WC.skip ?_
        refine WX.next ?_
        refine WC.seq ?_
        refine WC.block ?_
        refine WC.seq ?_
        refine WC.region ?_
        refine seg 1 [] [0, 1, 5, 6, 7, 34, 35, 36, 38] [(0, (.pointer (some ⟨g_p0, 0, none⟩))), (1, (.pointer (some ⟨g_p1, 0, none⟩))), (5, (.slice A2416 l2418.length c2417)), (6, (.pointer (some ⟨g2209, 0, none⟩))), (7, (.int .i64 (w64 ((w64 (p1.Config.At + (w64 (2 * x2213.2.1)))) - 1)))), (34, (.slice A_p1_Config_Cells p1.Config.Cells.length c_p1_Config_Cells)), (35, (.int .i64 (p1.Config.Cells.length : Int))), (36, (.int .i64 x2419)), (38, (.int .i64 x2419))] [] (fun fb => by kernel_rfl) rfl trivial ?_
        obtain ⟨h2430, hl2428⟩ := as_some hl2428
        refine seg 5 [.v (.int .i64 (rdD p1.Config.Cells x2419 0))] [0, 1, 5, 6, 7, 8, 9, 34, 35, 36] [(0, (.pointer (some ⟨g_p0, 0, none⟩))), (1, (.pointer (some ⟨g_p1, 0, none⟩))), (5, (.slice A2416 l2418.length c2417)), (6, (.pointer (some ⟨g2209, 0, none⟩))), (7, (.int .i64 (w64 ((w64 (p1.Config.At + (w64 (2 * x2213.2.1)))) - 1)))), (8, (.int .i64 x2419)), (9, (.int .i64 (rdD p1.Config.Cells x2419 0))), (34, (.slice A_p1_Config_Cells p1.Config.Cells.length c_p1_Config_Cells)), (35, (.int .i64 (p1.Config.Cells.length : Int))), (36, (.int .i64 x2419))] [.idx A_p1_Config_Cells x2419 p1.Config.Cells.length, .cell ((adr A_p1_Config_Cells).add ((x2419).toNat * 1)) (.int .i64 (rdD p1.Config.Cells x2419 0))] (fun fb => by kernel_rfl) rfl ⟨rowR.adr (hS2427.rd 6).1 h2430.1 h2430.2, rowR.cell (hS2427.rd 6).1 0 h2430.1 h2430.2 0 rfl, trivial⟩ ?_
        refine WL.done rfl ?_
        refine WX.next ?_
        refine WC.seq ?_
        refine WC.region ?_
        refine seg 2 [] [0, 1, 5, 6, 7, 8, 9, 10, 34, 35, 36] [(0, (.pointer (some ⟨g_p0, 0, none⟩))), (1, (.pointer (some ⟨g_p1, 0, none⟩))), (5, (.slice A2416 l2418.length c2417)), (6, (.pointer (some ⟨g2209, 0, none⟩))), (7, (.int .i64 (w64 ((w64 (p1.Config.At + (w64 (2 * x2213.2.1)))) - 1)))), (8, (.int .i64 x2419)), (9, (.int .i64 (rdD p1.Config.Cells x2419 0))), (10, (.int .i64 (rdD p1.Config.Cells x2419 0))), (34, (.slice A_p1_Config_Cells p1.Config.Cells.length c_p1_Config_Cells)), (35, (.int .i64 (p1.Config.Cells.length : Int))), (36, (.int .i64 x2419))] [] (fun fb => by kernel_rfl) rfl trivial ?_
        refine WL.done rfl ?_
        refine WX.next ?_
        refine WC.seq ?_
        refine WC.seq ?_
        refine WC.region ?_
        refine seg 1 [] [0, 1, 5, 6, 7, 9, 10, 34, 35, 36, 42] [(0, (.pointer (some ⟨g_p0, 0, none⟩))), (1, (.pointer (some ⟨g_p1, 0, none⟩))), (5, (.slice A2416 l2418.length c2417)), (6, (.pointer (some ⟨g2209, 0, none⟩))), (7, (.int .i64 (w64 ((w64 (p1.Config.At + (w64 (2 * x2213.2.1)))) - 1)))), (9, (.int .i64 (rdD p1.Config.Cells x2419 0))), (10, (.int .i64 (rdD p1.Config.Cells x2419 0))), (34, (.slice A_p1_Config_Cells p1.Config.Cells.length c_p1_Config_Cells)), (35, (.int .i64 (p1.Config.Cells.length : Int))), (36, (.int .i64 x2419)), (42, (.int .i64 x2419))] [] (fun fb => by kernel_rfl) rfl trivial ?_
        refine WL.done rfl ?_
        refine WX.next ?_
        refine WC.block ?_
        refine WC.seq ?_
        refine WC.region ?_
        refine seg 7 [.v (.int .i64 p1.Config.At)] [0, 1, 5, 6, 7, 9, 10, 34, 35, 36, 42, 43] [(0, (.pointer (some ⟨g_p0, 0, none⟩))), (1, (.pointer (some ⟨g_p1, 0, none⟩))), (5, (.slice A2416 l2418.length c2417)), (6, (.pointer (some ⟨g2209, 0, none⟩))), (7, (.int .i64 (w64 ((w64 (p1.Config.At + (w64 (2 * x2213.2.1)))) - 1)))), (9, (.int .i64 (rdD p1.Config.Cells x2419 0))), (10, (.int .i64 (rdD p1.Config.Cells x2419 0))), (34, (.slice A_p1_Config_Cells p1.Config.Cells.length c_p1_Config_Cells)), (35, (.int .i64 (p1.Config.Cells.length : Int))), (36, (.int .i64 x2419)), (42, (.int .i64 x2419)), (43, (.bool (x2419 == p1.Config.At)))] [.cell ⟨g_p1, 4, none⟩ (.int .i64 p1.Config.At)] (fun fb => by kernel_rfl) rfl ⟨blk_cell (hS2427.rd 4).1 4 rfl, trivial⟩ ?_
        refine WL.done rfl ?_
        refine WX.next ?_
        obtain ⟨x2460, hx2461, hl2428⟩ := bind_some hl2428
        refine WC.cutN (T := Int) (fun t => [(0, (.pointer (some ⟨g_p0, 0, none⟩))), (1, (.pointer (some ⟨g_p1, 0, none⟩))), (5, (.slice A2416 l2418.length c2417)), (6, (.pointer (some ⟨g2209, 0, none⟩))), (7, (.int .i64 (w64 ((w64 (p1.Config.At + (w64 (2 * x2213.2.1)))) - 1)))), (10, (.int .i64 t)), (34, (.slice A_p1_Config_Cells p1.Config.Cells.length c_p1_Config_Cells)), (35, (.int .i64 (p1.Config.Cells.length : Int))), (36, (.int .i64 x2419))]) (fun t w1 => St NoS w w1 [blk g_p0 (.cells #[(.int .i64 p0.m.States), (.int .i64 p0.m.Symbols), (.slice A_p0_m_Actions p0.m.Actions.length c_p0_m_Actions), (.slice A_p0_set p0.set.length c_p0_set), (.slice A_p0_does p0.does.length c_p0_does), (.int .i64 p0.base)] 96 (0, 0)), rowR enc_Action A_p0_m_Actions c_p0_m_Actions p0.m.Actions, rowR enc_Tile A_p0_set c_p0_set p0.set, rowR encInt A_p0_does c_p0_does p0.does, blk g_p1 (.cells #[(.int .i64 p1.m.States), (.int .i64 p1.m.Symbols), (.slice A_p1_m_Actions p1.m.Actions.length c_p1_m_Actions), (.int .i64 p1.Config.State), (.int .i64 p1.Config.At), (.slice A_p1_Config_Cells p1.Config.Cells.length c_p1_Config_Cells)] 82 (0, 0)), rowR enc_Action A_p1_m_Actions c_p1_m_Actions p1.m.Actions, rowR encInt A_p1_Config_Cells c_p1_Config_Cells p1.Config.Cells] [rowO 3 encInt A2416 c2417 l2418, blk g2209 (.cells #[(.int .i64 x2213.1), (.int .i64 x2213.2.1), (.int .i64 x2213.2.2)] 88 (0, 0))] ∧ x2460 = t) (fun Kx2460 => ?_) ?_
        ·
          rcases br_some hx2461 with ⟨h2462, hx2461⟩ | ⟨h2462, hx2461⟩
          · refine WC.condT2 (fun fb => by kernel_rfl) h2462 ?_
            refine WC.regionD ([(3, ⟨g_p0, 4, none⟩, (.slice A_p0_does p0.does.length c_p0_does))], [0, 1, 2, 3, 4, 6, 8], [[], [0], [0, 1], [0, 1, 2], [], [4], [0, 1, 2, 3, 4, 5], [0, 1, 2, 3, 4, 5, 6], [0, 1, 2, 3, 4, 5, 6, 7]]) [[0, 1, 2, 3, 4, 5, 6, 7, 8]] (by kernel_rfl) (by kernel_rfl) (NoPanic.block (NoPanic.seq (NoPanic.block (NoPanic.seq (NoPanic.seq (NoPanic.block (NoPanic.seq (NoPanic.body)))))))) ?_
            have hS2470 := hS2427.drew
            revert hS2470
            generalize World.drew w2426 = w2469
            intro hS2470
            refine ⟨⟨blk_cell (hS2470.rd 0).1 4 rfl, trivial⟩, forallC ?_ (forallN)⟩
            refine segF 5 [.v (.slice A_p0_does p0.does.length c_p0_does)] [0, 1, 5, 6, 7, 34, 35, 36, 53, 54] [(0, (.pointer (some ⟨g_p0, 0, none⟩))), (1, (.pointer (some ⟨g_p1, 0, none⟩))), (5, (.slice A2416 l2418.length c2417)), (6, (.pointer (some ⟨g2209, 0, none⟩))), (7, (.int .i64 (w64 ((w64 (p1.Config.At + (w64 (2 * x2213.2.1)))) - 1)))), (34, (.slice A_p1_Config_Cells p1.Config.Cells.length c_p1_Config_Cells)), (35, (.int .i64 (p1.Config.Cells.length : Int))), (36, (.int .i64 x2419)), (53, (.slice A_p0_does p0.does.length c_p0_does)), (54, (.pointer (some ⟨g_p1, 0, none⟩)))] [] [0] [(3, ⟨g_p0, 4, none⟩, (.slice A_p0_does p0.does.length c_p0_does))] (fun fb => by kernel_rfl) rfl trivial rfl ?_
            obtain ⟨t2471, ht2472, hx2461⟩ := bind_some hx2461
            refine WL.call (some 55) 63 #[(.pointer (some ⟨g_p1, 0, none⟩))] (fun fb => by kernel_rfl) (machine_runner_does_calls p1 g_p1 A_p1_m_Actions c_p1_m_Actions A_p1_Config_Cells c_p1_Config_Cells t2471 _ (hS2470.rd 4) (hS2470.rd 5) (hS2470.rd 6) ht2472) (fun v w2473 hR2474 => ?_)
            obtain ⟨rfl, hk_⟩ := hR2474
            have hS2475 := hS2470.keepN hk_
            refine ⟨⟨blk_cell (hS2475.rd 0).1 4 rfl, trivial⟩, ?_⟩
            obtain ⟨h2476, hx2461⟩ := as_some hx2461
            refine seg 9 [.v (.int .i64 (rdD p0.does t2471 0))] [0, 1, 5, 6, 7, 10, 34, 35, 36] [(0, (.pointer (some ⟨g_p0, 0, none⟩))), (1, (.pointer (some ⟨g_p1, 0, none⟩))), (5, (.slice A2416 l2418.length c2417)), (6, (.pointer (some ⟨g2209, 0, none⟩))), (7, (.int .i64 (w64 ((w64 (p1.Config.At + (w64 (2 * x2213.2.1)))) - 1)))), (10, (.int .i64 (rdD p0.does t2471 0))), (34, (.slice A_p1_Config_Cells p1.Config.Cells.length c_p1_Config_Cells)), (35, (.int .i64 (p1.Config.Cells.length : Int))), (36, (.int .i64 x2419))] [.idx A_p0_does t2471 p0.does.length, .cell ((adr A_p0_does).add ((t2471).toNat * 1)) (.int .i64 (rdD p0.does t2471 0))] (fun fb => by kernel_rfl) rfl ⟨rowR.adr (hS2475.rd 3).1 h2476.1 h2476.2, rowR.cell (hS2475.rd 3).1 0 h2476.1 h2476.2 0 rfl, trivial⟩ ?_
            refine WL.done rfl ?_
            injection hx2461 with hx2461
            exact WX.to Kx2460 (rdD p0.does t2471 0) [0, 1, 5, 6, 7, 10, 34, 35, 36] rfl ⟨(hS2475.subR [0, 1, 2, 3, 4, 5, 6]).sub [0, 1] (by decide), hx2461.symm⟩
          refine WC.condF2 (fun fb => by kernel_rfl) h2462 ?_
          refine WC.seq ?_
          refine WC.region ?_
          refine seg 3 [] [0, 1, 5, 6, 7, 9, 10, 34, 35, 36, 58] [(0, (.pointer (some ⟨g_p0, 0, none⟩))), (1, (.pointer (some ⟨g_p1, 0, none⟩))), (5, (.slice A2416 l2418.length c2417)), (6, (.pointer (some ⟨g2209, 0, none⟩))), (7, (.int .i64 (w64 ((w64 (p1.Config.At + (w64 (2 * x2213.2.1)))) - 1)))), (9, (.int .i64 (rdD p1.Config.Cells x2419 0))), (10, (.int .i64 (rdD p1.Config.Cells x2419 0))), (34, (.slice A_p1_Config_Cells p1.Config.Cells.length c_p1_Config_Cells)), (35, (.int .i64 (p1.Config.Cells.length : Int))), (36, (.int .i64 x2419)), (58, (.bool (x2419 == (w64 ((w64 (p1.Config.At + (w64 (2 * x2213.2.1)))) - 1)))))] [] (fun fb => by kernel_rfl) rfl trivial ?_
          refine WL.done rfl ?_
          refine WX.next ?_
          obtain ⟨x2481, hx2482, hx2461⟩ := bind_some hx2461
          refine WC.cutN (T := Int) (fun t => [(0, (.pointer (some ⟨g_p0, 0, none⟩))), (1, (.pointer (some ⟨g_p1, 0, none⟩))), (5, (.slice A2416 l2418.length c2417)), (6, (.pointer (some ⟨g2209, 0, none⟩))), (7, (.int .i64 (w64 ((w64 (p1.Config.At + (w64 (2 * x2213.2.1)))) - 1)))), (10, (.int .i64 t)), (34, (.slice A_p1_Config_Cells p1.Config.Cells.length c_p1_Config_Cells)), (35, (.int .i64 (p1.Config.Cells.length : Int))), (36, (.int .i64 x2419))]) (fun t w1 => St NoS w w1 [blk g_p0 (.cells #[(.int .i64 p0.m.States), (.int .i64 p0.m.Symbols), (.slice A_p0_m_Actions p0.m.Actions.length c_p0_m_Actions), (.slice A_p0_set p0.set.length c_p0_set), (.slice A_p0_does p0.does.length c_p0_does), (.int .i64 p0.base)] 96 (0, 0)), rowR enc_Action A_p0_m_Actions c_p0_m_Actions p0.m.Actions, rowR enc_Tile A_p0_set c_p0_set p0.set, rowR encInt A_p0_does c_p0_does p0.does, blk g_p1 (.cells #[(.int .i64 p1.m.States), (.int .i64 p1.m.Symbols), (.slice A_p1_m_Actions p1.m.Actions.length c_p1_m_Actions), (.int .i64 p1.Config.State), (.int .i64 p1.Config.At), (.slice A_p1_Config_Cells p1.Config.Cells.length c_p1_Config_Cells)] 82 (0, 0)), rowR enc_Action A_p1_m_Actions c_p1_m_Actions p1.m.Actions, rowR encInt A_p1_Config_Cells c_p1_Config_Cells p1.Config.Cells] [rowO 3 encInt A2416 c2417 l2418, blk g2209 (.cells #[(.int .i64 x2213.1), (.int .i64 x2213.2.1), (.int .i64 x2213.2.2)] 88 (0, 0))] ∧ x2481 = t) (fun Kx2481 => ?_) ?_
          ·
            rcases br_some hx2482 with ⟨h2483, hx2482⟩ | ⟨h2483, hx2482⟩
            · refine WC.condT2 (fun fb => by kernel_rfl) h2483 ?_
              refine WC.regionD ([(3, ⟨g_p0, 5, none⟩, (.int .i64 p0.base)), (5, ⟨g2209, 2, none⟩, (.int .i64 x2213.2.2)), (10, ⟨g_p1, 1, none⟩, (.int .i64 p1.m.Symbols)), (18, ⟨g2209, 1, none⟩, (.int .i64 x2213.2.1))], [0, 1, 2, 3, 4, 5, 6, 7, 8, 9, 10, 11, 12, 13, 14, 15, 16, 17, 18, 19, 20], [[], [0], [0, 1], [0, 1, 2], [], [4], [], [6], [6, 7], [6, 7, 8], [6, 7, 8, 9], [4, 5, 6, 7, 8, 9, 10], [], [4, 5, 6, 7, 8, 9, 10, 11, 12], [4, 5, 6, 7, 8, 9, 10, 11, 12, 13], [0, 1, 2, 3, 4, 5, 6, 7, 8, 9, 10, 11, 12, 13, 14], [0, 1, 2, 3, 4, 5, 6, 7, 8, 9, 10, 11, 12, 13, 14, 15], [], [17], [0, 1, 2, 3, 4, 5, 6, 7, 8, 9, 10, 11, 12, 13, 14, 15, 16, 17, 18], [0, 1, 2, 3, 4, 5, 6, 7, 8, 9, 10, 11, 12, 13, 14, 15, 16, 17, 18, 19]]) [[0, 1, 2, 3, 4, 5, 6, 7, 8, 9, 10, 11, 12, 13, 14, 15, 16, 17, 18, 19, 20]] (by kernel_rfl) (by kernel_rfl) (NoPanic.block (NoPanic.seq (NoPanic.block (NoPanic.seq (NoPanic.seq (NoPanic.block (NoPanic.seq (NoPanic.body)))))))) ?_
              have hS2485 := hS2427.drew
              revert hS2485
              generalize World.drew w2426 = w2484
              intro hS2485
              refine ⟨⟨blk_cell (hS2485.rd 0).1 5 rfl, hS2485.cell 1 rfl 2 rfl, blk_cell (hS2485.rd 4).1 1 rfl, hS2485.cell 1 rfl 1 rfl, trivial⟩, forallC ?_ (forallN)⟩
              refine segF 21 [.v (.int .i64 p0.base), .v (.int .i64 x2213.2.2), .v (.int .i64 p1.m.Symbols), .v (.int .i64 x2213.2.1)] [0, 1, 5, 6, 7, 10, 34, 35, 36] [(0, (.pointer (some ⟨g_p0, 0, none⟩))), (1, (.pointer (some ⟨g_p1, 0, none⟩))), (5, (.slice A2416 l2418.length c2417)), (6, (.pointer (some ⟨g2209, 0, none⟩))), (7, (.int .i64 (w64 ((w64 (p1.Config.At + (w64 (2 * x2213.2.1)))) - 1)))), (10, (.int .i64 (w64 ((w64 ((w64 (p0.base + (w64 (2 * (w64 ((w64 (x2213.2.2 * p1.m.Symbols)) + (rdD p1.Config.Cells x2419 0))))))) + 1)) - x2213.2.1)))), (34, (.slice A_p1_Config_Cells p1.Config.Cells.length c_p1_Config_Cells)), (35, (.int .i64 (p1.Config.Cells.length : Int))), (36, (.int .i64 x2419))] [] [0, 1, 2, 3] [(3, ⟨g_p0, 5, none⟩, (.int .i64 p0.base)), (5, ⟨g2209, 2, none⟩, (.int .i64 x2213.2.2)), (10, ⟨g_p1, 1, none⟩, (.int .i64 p1.m.Symbols)), (18, ⟨g2209, 1, none⟩, (.int .i64 x2213.2.1))] (fun fb => by kernel_rfl) rfl trivial rfl ?_
              refine WL.done rfl ?_
              injection hx2482 with hx2482
              exact WX.to Kx2481 (w64 ((w64 ((w64 (p0.base + (w64 (2 * (w64 ((w64 (x2213.2.2 * p1.m.Symbols)) + (rdD p1.Config.Cells x2419 0))))))) + 1)) - x2213.2.1)) [0, 1, 5, 6, 7, 10, 34, 35, 36] rfl ⟨(hS2485.subR [0, 1, 2, 3, 4, 5, 6]).sub [0, 1] (by decide), hx2482.symm⟩
            refine WC.condF2 (fun fb => by kernel_rfl) h2483 ?_
            refine WC.skip ?_
            injection hx2482 with hx2482
            exact WX.to Kx2481 (rdD p1.Config.Cells x2419 0) [0, 1, 5, 6, 7, 10, 34, 35, 36] rfl ⟨(hS2427.subR [0, 1, 2, 3, 4, 5, 6]).sub [0, 1] (by decide), hx2482.symm⟩
          rintro y2489 w2486 ⟨hS2487, hq2488⟩
          subst hq2488
          injection hx2461 with hx2461
          exact WX.to Kx2460 x2481 [0, 1, 5, 6, 7, 10, 34, 35, 36] rfl ⟨(hS2487.subR [0, 1, 2, 3, 4, 5, 6]).sub [0, 1] (by decide), hx2461.symm⟩
        rintro y2493 w2490 ⟨hS2491, hq2492⟩
        subst hq2492
        refine WX.blockN (WX.next ?_)
        refine WC.region ?_
        refine seg 2 [] [0, 1, 6, 7, 34, 35, 36, 81, 82] [(0, (.pointer (some ⟨g_p0, 0, none⟩))), (1, (.pointer (some ⟨g_p1, 0, none⟩))), (6, (.pointer (some ⟨g2209, 0, none⟩))), (7, (.int .i64 (w64 ((w64 (p1.Config.At + (w64 (2 * x2213.2.1)))) - 1)))), (34, (.slice A_p1_Config_Cells p1.Config.Cells.length c_p1_Config_Cells)), (35, (.int .i64 (p1.Config.Cells.length : Int))), (36, (.int .i64 x2419)), (81, (.slice A2416 l2418.length c2417)), (82, (.int .i64 x2460))] [] (fun fb => by kernel_rfl) rfl trivial ?_
        refine WL.new hS2491 83 [] (fun g => (.slice (some ⟨g, 0, none⟩) 1 1)) (.cells #[(.int .i64 x2460)] 3 (0, 0)) [] (fun fb g => by kernel_rfl) trivial (fun g2494 w2495 hS2496 => ?_)
        refine ⟨trivial, ?_⟩
        have hS2498 : St NoS w w2495 [blk g_p0 (.cells #[(.int .i64 p0.m.States), (.int .i64 p0.m.Symbols), (.slice A_p0_m_Actions p0.m.Actions.length c_p0_m_Actions), (.slice A_p0_set p0.set.length c_p0_set), (.slice A_p0_does p0.does.length c_p0_does), (.int .i64 p0.base)] 96 (0, 0)), rowR enc_Action A_p0_m_Actions c_p0_m_Actions p0.m.Actions, rowR enc_Tile A_p0_set c_p0_set p0.set, rowR encInt A_p0_does c_p0_does p0.does, blk g_p1 (.cells #[(.int .i64 p1.m.States), (.int .i64 p1.m.Symbols), (.slice A_p1_m_Actions p1.m.Actions.length c_p1_m_Actions), (.int .i64 p1.Config.State), (.int .i64 p1.Config.At), (.slice A_p1_Config_Cells p1.Config.Cells.length c_p1_Config_Cells)] 82 (0, 0)), rowR enc_Action A_p1_m_Actions c_p1_m_Actions p1.m.Actions, rowR encInt A_p1_Config_Cells c_p1_Config_Cells p1.Config.Cells] [rowO 3 encInt (some ⟨g2494, 0, none⟩) 1 [x2460], rowO 3 encInt A2416 c2417 l2418, blk g2209 (.cells #[(.int .i64 x2213.1), (.int .i64 x2213.2.1), (.int .i64 x2213.2.2)] 88 (0, 0))] := hS2496.map1 0 _ (fun h => rowO.ofBlk h rfl (Nat.le_of_ble_eq_true (by kernel_rfl))) (fun _ h => by obtain ⟨_, h1, h2⟩ := h; injection h1 with h1; subst h1; exact h2) [1, 2] (by decide) (by decide)
        obtain ⟨h2499, hl2428⟩ := as_some hl2428
        refine WL.append hS2498 1 (d := 84) (tS := 25) (z := (.int .i64 0)) (bytes := 8) (c2 := 1) rfl (fun fb => by kernel_rfl) (rowO.rd (hS2498.own 0).1) (by kernel_rfl) (by kernel_rfl) rfl (by decide) h2499 (by decide) [0, 2] (by decide) (by decide) (fun A2500 c2501 w2502 hS2503 => ?_)
        refine ⟨trivial, ?_⟩
        refine seg 5 [] [0, 1, 5, 6, 7, 34, 35, 36] [(0, (.pointer (some ⟨g_p0, 0, none⟩))), (1, (.pointer (some ⟨g_p1, 0, none⟩))), (5, (.slice A2500 (l2418 ++ [x2460]).length c2501)), (6, (.pointer (some ⟨g2209, 0, none⟩))), (7, (.int .i64 (w64 ((w64 (p1.Config.At + (w64 (2 * x2213.2.1)))) - 1)))), (34, (.slice A_p1_Config_Cells p1.Config.Cells.length c_p1_Config_Cells)), (35, (.int .i64 (p1.Config.Cells.length : Int))), (36, (.int .i64 x2419))] [] (fun fb => by kernel_rfl) rfl trivial ?_
        refine WL.done rfl ?_
        refine WX.blockN (WX.next ?_)
        refine WC.region ?_
        refine seg 2 [] [0, 1, 5, 6, 7, 34, 35, 36] [(0, (.pointer (some ⟨g_p0, 0, none⟩))), (1, (.pointer (some ⟨g_p1, 0, none⟩))), (5, (.slice A2500 (l2418 ++ [x2460]).length c2501)), (6, (.pointer (some ⟨g2209, 0, none⟩))), (7, (.int .i64 (w64 ((w64 (p1.Config.At + (w64 (2 * x2213.2.1)))) - 1)))), (34, (.slice A_p1_Config_Cells p1.Config.Cells.length c_p1_Config_Cells)), (35, (.int .i64 (p1.Config.Cells.length : Int))), (36, (.int .i64 (w64 (x2419 + 1))))] [] (fun fb => by kernel_rfl) rfl trivial ?_
        refine WL.done rfl ?_
        exact WX.again k2425 (Nat.lt_succ_self _) ((l2418 ++ [x2460], w64 (x2419 + 1)), A2500, c2501) [0, 1, 5, 6, 7, 34, 35, 36] rfl ⟨(hS2503.subR [0, 1, 2, 3, 4, 5, 6]).sub [0, 2] (by decide), hl2428⟩
      refine WC.condF2 (fun fb => by kernel_rfl) h2429 ?_
      refine WC.exit ?_
      injection hl2428 with hl2428
      exact WX.thenX (WX.thenX (WX.blockHere (WX.to Kx2423 (l2418, A2416, c2417) [5] rfl ⟨(hS2427.subR [0, 1, 2, 3, 4, 5, 6]).sub [0] (by decide), hl2428.symm⟩)))
  rintro ⟨y2507, A2420, c2421⟩ w2504 ⟨hS2505, hq2506⟩
  subst hq2506
  refine WX.next ?_
  refine WC.seq ?_
  refine WC.region ?_
  refine seg 2 [] [4] [(4, (.slice A2420 x2423.length c2421))] [] (fun fb => by kernel_rfl) rfl trivial ?_
  refine WL.done rfl ?_
  refine WX.next ?_
  refine WC.ret ?_
  injection hf with hf
  subst hf
  exact WX.ret_ [] (.slice A2420 x2423.length c2421) [] (fun fb => by kernel_rfl) trivial ⟨_, rfl, A2420, c2421, rfl, (hS2505.sub [0] (by decide)).noR⟩
theorem machine_Picture_calls (k : Nat) (p0 : Machine) (p1 : Config) (p2 : Int) (A_p0_Actions : Option Addr) (c_p0_Actions : Nat) (A_p1_Cells : Option Addr) (c_p1_Cells : Nat) (r : Pattern × Int) (w : World) (hR0 : RO NoS w (rowR enc_Action A_p0_Actions c_p0_Actions p0.Actions)) (hR1 : RO NoS w (rowR encInt A_p1_Cells c_p1_Cells p1.Cells)) (hf : machine_Picture k p0 p1 p2 = some r) :
    CallsR Try.prog 12 #[(.agg #[(.int .i64 p0.States), (.int .i64 p0.Symbols), (.slice A_p0_Actions p0.Actions.length c_p0_Actions)]), (.agg #[(.int .i64 p1.State), (.int .i64 p1.At), (.slice A_p1_Cells p1.Cells.length c_p1_Cells)]), (.int .i64 p2)] w (fun v w' => ∃ (A1_ : Option Addr), ∃ (c1_ : Nat), v = (.tuple #[(.agg #[(.int .i64 r.1.Width), (.int .i64 r.1.Height), (.slice A1_ r.1.Cells.length c1_)]), (.int .i64 r.2)]) ∧ St NoS w w' [] [rowO 3 encInt A1_ c1_ r.1.Cells]) := by
  have hS : St NoS w w [rowR enc_Action A_p0_Actions c_p0_Actions p0.Actions, rowR encInt A_p1_Cells c_p1_Cells p1.Cells] [] := St.init (ro_cons hR0 (ro_cons hR1 (ro_nil _ _)))
  refine enter 67 Try.func12 rfl Try.ntmps12 rfl ?_
  unfold machine_Picture at hf
  refine WC.seq ?_
  refine WC.region ?_
  refine WL.new hS 3 [] (fun g => (.pointer (some ⟨g, 0, none⟩))) (.cells #[(.int .i64 p0.States), (.int .i64 p0.Symbols), (.slice A_p0_Actions p0.Actions.length c_p0_Actions)] 24 (0, 0)) [] (fun fb g => by kernel_rfl) trivial (fun g2054 w2055 hS2056 => ?_)
  refine ⟨trivial, ?_⟩
  refine WL.new hS2056 4 [] (fun g => (.pointer (some ⟨g, 0, none⟩))) (.cells #[(.int .i64 p1.State), (.int .i64 p1.At), (.slice A_p1_Cells p1.Cells.length c_p1_Cells)] 27 (0, 0)) [] (fun fb g => by kernel_rfl) trivial (fun g2058 w2059 hS2060 => ?_)
  refine ⟨trivial, ?_⟩
  refine WL.new hS2060 6 [] (fun g => (.pointer (some ⟨g, 0, none⟩))) (.cells #[(.int .i64 0), (.int .i64 0), (.slice none 0 0)] 31 (0, 0)) [] (fun fb g => by kernel_rfl) trivial (fun g2062 w2063 hS2064 => ?_)
  refine ⟨trivial, ?_⟩
  refine seg 4 [] [2, 3, 4, 6] [(2, (.int .i64 p2)), (3, (.pointer (some ⟨g2054, 0, none⟩))), (4, (.pointer (some ⟨g2058, 0, none⟩))), (6, (.pointer (some ⟨g2062, 0, none⟩)))] [] (fun fb => by kernel_rfl) rfl trivial ?_
  refine WL.done rfl ?_
  refine WX.next ?_
  refine WC.seq ?_
  refine WC.block ?_
  refine WC.seq ?_
  refine WC.region ?_
  refine seg 2 [.v (.int .i64 p0.States), .v (.int .i64 p0.Symbols), .v (.slice A_p0_Actions p0.Actions.length c_p0_Actions), .v (.int .i64 p1.State), .v (.int .i64 p1.At), .v (.slice A_p1_Cells p1.Cells.length c_p1_Cells)] [2, 3, 4, 6, 13, 14] [(2, (.int .i64 p2)), (3, (.pointer (some ⟨g2054, 0, none⟩))), (4, (.pointer (some ⟨g2058, 0, none⟩))), (6, (.pointer (some ⟨g2062, 0, none⟩))), (13, (.agg #[(.int .i64 p0.States), (.int .i64 p0.Symbols), (.slice A_p0_Actions p0.Actions.length c_p0_Actions)])), (14, (.agg #[(.int .i64 p1.State), (.int .i64 p1.At), (.slice A_p1_Cells p1.Cells.length c_p1_Cells)]))] [.cell ⟨g2054, 0, none⟩ (.int .i64 p0.States), .cell ⟨g2054, 1, none⟩ (.int .i64 p0.Symbols), .cell ⟨g2054, 2, none⟩ (.slice A_p0_Actions p0.Actions.length c_p0_Actions), .cell ⟨g2058, 0, none⟩ (.int .i64 p1.State), .cell ⟨g2058, 1, none⟩ (.int .i64 p1.At), .cell ⟨g2058, 2, none⟩ (.slice A_p1_Cells p1.Cells.length c_p1_Cells)] (fun fb => by kernel_rfl) rfl ⟨hS2064.cell 2 rfl 0 rfl, hS2064.cell 2 rfl 1 rfl, hS2064.cell 2 rfl 2 rfl, hS2064.cell 1 rfl 0 rfl, hS2064.cell 1 rfl 1 rfl, hS2064.cell 1 rfl 2 rfl, trivial⟩ ?_
  obtain ⟨t2066, ht2067, hf⟩ := bind_some hf
  refine WL.call (some 15) 18 #[(.agg #[(.int .i64 p0.States), (.int .i64 p0.Symbols), (.slice A_p0_Actions p0.Actions.length c_p0_Actions)]), (.agg #[(.int .i64 p1.State), (.int .i64 p1.At), (.slice A_p1_Cells p1.Cells.length c_p1_Cells)])] (fun fb => by kernel_rfl) (machine_Fits_calls _ p0 p1 A_p0_Actions c_p0_Actions A_p1_Cells c_p1_Cells t2066 _ (hS2064.rd 0) (hS2064.rd 1) ht2067) (fun v w2068 hR2069 => ?_)
  obtain ⟨rfl, hk_⟩ := hR2069
  have hS2070 := hS2064.keepN hk_
  refine ⟨trivial, ?_⟩
  refine seg 5 [] [2, 3, 4, 6, 12] [(2, (.int .i64 p2)), (3, (.pointer (some ⟨g2054, 0, none⟩))), (4, (.pointer (some ⟨g2058, 0, none⟩))), (6, (.pointer (some ⟨g2062, 0, none⟩))), (12, (.bool (!t2066)))] [] (fun fb => by kernel_rfl) rfl trivial ?_
  refine WL.done rfl ?_
  refine WX.next ?_
  rcases br_some hf with ⟨h2071, hf⟩ | ⟨h2071, hf⟩
  · refine WC.condT2 (fun fb => by kernel_rfl) h2071 ?_
    refine WC.seq ?_
    refine WC.region ?_
    refine seg 1 [] [6, 17] [(6, (.pointer (some ⟨g2062, 0, none⟩))), (17, (.agg #[(.int .i64 0), (.int .i64 0), (.slice none 0 0)]))] [] (fun fb => by kernel_rfl) rfl trivial ?_
    refine WL.store hS2070 0 rfl [(0, (.int .i64 0)), (1, (.int .i64 0)), (2, (.slice none 0 0))] #[(.int .i64 0), (.int .i64 0), (.slice none 0 0)] (fun fb => by kernel_rfl) (by kernel_rfl) rfl [1, 2] (by decide) (by decide) (fun w2072 hS2073 => ?_)
    refine ⟨trivial, ?_⟩
    refine seg 3 [] [6, 7] [(6, (.pointer (some ⟨g2062, 0, none⟩))), (7, (.int .i64 1))] [] (fun fb => by kernel_rfl) rfl trivial ?_
    refine WL.done rfl ?_
    refine WX.next ?_
    refine WC.ret ?_
    have hS2074 := hS2073.nilrow 3 encInt
    injection hf with hf
    subst hf
    exact WX.blockR (WX.thenR (WX.ret_ [.v (.int .i64 0), .v (.int .i64 0), .v (.slice none 0 0)] (.tuple #[(.agg #[(.int .i64 0), (.int .i64 0), (.slice none ([] : List Int).length 0)]), (.int .i64 1)]) [.cell ⟨g2062, 0, none⟩ (.int .i64 0), .cell ⟨g2062, 1, none⟩ (.int .i64 0), .cell ⟨g2062, 2, none⟩ (.slice none 0 0)] (fun fb => by kernel_rfl) ⟨hS2073.cell 0 rfl 0 rfl, hS2073.cell 0 rfl 1 rfl, hS2073.cell 0 rfl 2 rfl, trivial⟩ ⟨_, rfl, none, 0, rfl, (hS2074.sub [0] (by decide)).noR⟩))
  refine WC.condF2 (fun fb => by kernel_rfl) h2071 ?_
  refine WC.seq ?_
  refine WC.region ?_
  refine seg 3 [] [2, 3, 4, 6, 18] [(2, (.int .i64 p2)), (3, (.pointer (some ⟨g2054, 0, none⟩))), (4, (.pointer (some ⟨g2058, 0, none⟩))), (6, (.pointer (some ⟨g2062, 0, none⟩))), (18, (.bool (decide (p2 < 1))))] [] (fun fb => by kernel_rfl) rfl trivial ?_
  refine WL.done rfl ?_
  refine WX.next ?_
  rcases br_some hf with ⟨h2075, hf⟩ | ⟨h2075, hf⟩
  · refine WC.condT2 (fun fb => by kernel_rfl) h2075 ?_
    refine WC.seq ?_
    refine WC.region ?_
    refine seg 1 [] [6, 21] [(6, (.pointer (some ⟨g2062, 0, none⟩))), (21, (.agg #[(.int .i64 0), (.int .i64 0), (.slice none 0 0)]))] [] (fun fb => by kernel_rfl) rfl trivial ?_
    refine WL.store hS2070 0 rfl [(0, (.int .i64 0)), (1, (.int .i64 0)), (2, (.slice none 0 0))] #[(.int .i64 0), (.int .i64 0), (.slice none 0 0)] (fun fb => by kernel_rfl) (by kernel_rfl) rfl [1, 2] (by decide) (by decide) (fun w2076 hS2077 => ?_)
    refine ⟨trivial, ?_⟩
    refine seg 3 [] [6, 7] [(6, (.pointer (some ⟨g2062, 0, none⟩))), (7, (.int .i64 2))] [] (fun fb => by kernel_rfl) rfl trivial ?_
    refine WL.done rfl ?_
    refine WX.next ?_
    refine WC.ret ?_
    have hS2078 := hS2077.nilrow 3 encInt
    injection hf with hf
    subst hf
    exact WX.blockR (WX.thenR (WX.ret_ [.v (.int .i64 0), .v (.int .i64 0), .v (.slice none 0 0)] (.tuple #[(.agg #[(.int .i64 0), (.int .i64 0), (.slice none ([] : List Int).length 0)]), (.int .i64 2)]) [.cell ⟨g2062, 0, none⟩ (.int .i64 0), .cell ⟨g2062, 1, none⟩ (.int .i64 0), .cell ⟨g2062, 2, none⟩ (.slice none 0 0)] (fun fb => by kernel_rfl) ⟨hS2077.cell 0 rfl 0 rfl, hS2077.cell 0 rfl 1 rfl, hS2077.cell 0 rfl 2 rfl, trivial⟩ ⟨_, rfl, none, 0, rfl, (hS2078.sub [0] (by decide)).noR⟩))
  refine WC.condF2 (fun fb => by kernel_rfl) h2075 ?_
  refine WC.seq ?_
  refine WC.region ?_
  refine seg 3 [] [2, 3, 4, 6, 25] [(2, (.int .i64 p2)), (3, (.pointer (some ⟨g2054, 0, none⟩))), (4, (.pointer (some ⟨g2058, 0, none⟩))), (6, (.pointer (some ⟨g2062, 0, none⟩))), (25, (.bool (decide (p2 > 40000))))] [] (fun fb => by kernel_rfl) rfl trivial ?_
  refine WL.cutV (T := Bool) 10 (fun t => [(32, (.bool t)), (2, (.int .i64 p2)), (3, (.pointer (some ⟨g2054, 0, none⟩))), (4, (.pointer (some ⟨g2058, 0, none⟩))), (6, (.pointer (some ⟨g2062, 0, none⟩)))]) (fun t => t = ((decide (p2 > 40000)) || (decide (w64 ((p1.Cells.length : Int) * p2) > 40000)))) (fun K => ?_) ?_
  ·
    rcases Bool.eq_false_or_eq_true (decide (p2 > 40000)) with h2079 | h2079
    ·
      refine WL.setB 25 h2079 rfl ?_
      refine seg 10 [] [2, 3, 4, 6, 32] [(2, (.int .i64 p2)), (3, (.pointer (some ⟨g2054, 0, none⟩))), (4, (.pointer (some ⟨g2058, 0, none⟩))), (6, (.pointer (some ⟨g2062, 0, none⟩))), (32, (.bool true))] [] (fun fb => by kernel_rfl) rfl trivial ?_
      exact WL.toV K true [32, 2, 3, 4, 6] rfl (by rw [h2079]; rfl)
    refine WL.setB 25 h2079 rfl ?_
    refine seg 10 [.v (.slice A_p1_Cells p1.Cells.length c_p1_Cells)] [2, 3, 4, 6, 32] [(2, (.int .i64 p2)), (3, (.pointer (some ⟨g2054, 0, none⟩))), (4, (.pointer (some ⟨g2058, 0, none⟩))), (6, (.pointer (some ⟨g2062, 0, none⟩))), (32, (.bool (decide (w64 ((p1.Cells.length : Int) * p2) > 40000))))] [.cell ⟨g2058, 2, none⟩ (.slice A_p1_Cells p1.Cells.length c_p1_Cells)] (fun fb => by kernel_rfl) rfl ⟨hS2070.cell 1 rfl 2 rfl, trivial⟩ ?_
    exact WL.toV K (decide (w64 ((p1.Cells.length : Int) * p2) > 40000)) [32, 2, 3, 4, 6] rfl (by rw [h2079]; rfl)
  rintro b2080 rfl
  refine seg 11 [] [2, 3, 4, 6, 22] [(2, (.int .i64 p2)), (3, (.pointer (some ⟨g2054, 0, none⟩))), (4, (.pointer (some ⟨g2058, 0, none⟩))), (6, (.pointer (some ⟨g2062, 0, none⟩))), (22, (.bool ((decide (p2 > 40000)) || (decide (w64 ((p1.Cells.length : Int) * p2) > 40000)))))] [] (fun fb => by kernel_rfl) rfl trivial ?_
  refine WL.done rfl ?_
  refine WX.next ?_
  rcases br_some hf with ⟨h2081, hf⟩ | ⟨h2081, hf⟩
  · refine WC.condT2 (fun fb => by kernel_rfl) h2081 ?_
    refine WC.seq ?_
    refine WC.region ?_
    refine seg 1 [] [6, 33] [(6, (.pointer (some ⟨g2062, 0, none⟩))), (33, (.agg #[(.int .i64 0), (.int .i64 0), (.slice none 0 0)]))] [] (fun fb => by kernel_rfl) rfl trivial ?_
    refine WL.store hS2070 0 rfl [(0, (.int .i64 0)), (1, (.int .i64 0)), (2, (.slice none 0 0))] #[(.int .i64 0), (.int .i64 0), (.slice none 0 0)] (fun fb => by kernel_rfl) (by kernel_rfl) rfl [1, 2] (by decide) (by decide) (fun w2082 hS2083 => ?_)
    refine ⟨trivial, ?_⟩
    refine seg 3 [] [6, 7] [(6, (.pointer (some ⟨g2062, 0, none⟩))), (7, (.int .i64 4))] [] (fun fb => by kernel_rfl) rfl trivial ?_
    refine WL.done rfl ?_
    refine WX.next ?_
    refine WC.ret ?_
    have hS2084 := hS2083.nilrow 3 encInt
    injection hf with hf
    subst hf
    exact WX.blockR (WX.thenR (WX.ret_ [.v (.int .i64 0), .v (.int .i64 0), .v (.slice none 0 0)] (.tuple #[(.agg #[(.int .i64 0), (.int .i64 0), (.slice none ([] : List Int).length 0)]), (.int .i64 4)]) [.cell ⟨g2062, 0, none⟩ (.int .i64 0), .cell ⟨g2062, 1, none⟩ (.int .i64 0), .cell ⟨g2062, 2, none⟩ (.slice none 0 0)] (fun fb => by kernel_rfl) ⟨hS2083.cell 0 rfl 0 rfl, hS2083.cell 0 rfl 1 rfl, hS2083.cell 0 rfl 2 rfl, trivial⟩ ⟨_, rfl, none, 0, rfl, (hS2084.sub [0] (by decide)).noR⟩))
  refine WC.condF2 (fun fb => by kernel_rfl) h2081 ?_
  refine WC.skip ?_
  refine WX.blockN (WX.next ?_)
  refine WC.seq ?_
  refine WC.regionD ([(0, ⟨g2054, 0, none⟩, (.int .i64 p0.States)), (0, ⟨g2054, 1, none⟩, (.int .i64 p0.Symbols)), (0, ⟨g2054, 2, none⟩, (.slice A_p0_Actions p0.Actions.length c_p0_Actions)), (2, ⟨g2054, 0, none⟩, (.int .i64 p0.States)), (2, ⟨g2054, 1, none⟩, (.int .i64 p0.Symbols)), (2, ⟨g2054, 2, none⟩, (.slice A_p0_Actions p0.Actions.length c_p0_Actions)), (3, ⟨g2058, 0, none⟩, (.int .i64 p1.State)), (3, ⟨g2058, 1, none⟩, (.int .i64 p1.At)), (3, ⟨g2058, 2, none⟩, (.slice A_p1_Cells p1.Cells.length c_p1_Cells))], [0, 2, 3, 5, 6], [[], [0], [], [], [0, 1, 2, 3], [0, 1, 2, 3, 4], [0, 1, 2, 3, 4, 5]]) [[0, 2, 3, 1, 4, 5, 6]] (by kernel_rfl) (by kernel_rfl) (NoPanic.seq (NoPanic.body)) ?_
  have hS2104 := hS2070.drew
  revert hS2104
  generalize World.drew w2068 = w2103
  intro hS2104
  refine ⟨⟨hS2104.cell 2 rfl 0 rfl, hS2104.cell 2 rfl 1 rfl, hS2104.cell 2 rfl 2 rfl, hS2104.cell 2 rfl 0 rfl, hS2104.cell 2 rfl 1 rfl, hS2104.cell 2 rfl 2 rfl, hS2104.cell 1 rfl 0 rfl, hS2104.cell 1 rfl 1 rfl, hS2104.cell 1 rfl 2 rfl, trivial⟩, forallC ?_ (forallN)⟩
  refine segF 3 [.v (.int .i64 p0.States), .v (.int .i64 p0.Symbols), .v (.slice A_p0_Actions p0.Actions.length c_p0_Actions), .v (.int .i64 p0.States), .v (.int .i64 p0.Symbols), .v (.slice A_p0_Actions p0.Actions.length c_p0_Actions), .v (.int .i64 p1.State), .v (.int .i64 p1.At), .v (.slice A_p1_Cells p1.Cells.length c_p1_Cells)] [2, 3, 4, 6, 34, 36, 37] [(2, (.int .i64 p2)), (3, (.pointer (some ⟨g2054, 0, none⟩))), (4, (.pointer (some ⟨g2058, 0, none⟩))), (6, (.pointer (some ⟨g2062, 0, none⟩))), (34, (.agg #[(.int .i64 p0.States), (.int .i64 p0.Symbols), (.slice A_p0_Actions p0.Actions.length c_p0_Actions)])), (36, (.agg #[(.int .i64 p0.States), (.int .i64 p0.Symbols), (.slice A_p0_Actions p0.Actions.length c_p0_Actions)])), (37, (.agg #[(.int .i64 p1.State), (.int .i64 p1.At), (.slice A_p1_Cells p1.Cells.length c_p1_Cells)]))] [] [0, 1, 2, 3, 4, 5, 6, 7, 8] [(0, ⟨g2054, 0, none⟩, (.int .i64 p0.States)), (0, ⟨g2054, 1, none⟩, (.int .i64 p0.Symbols)), (0, ⟨g2054, 2, none⟩, (.slice A_p0_Actions p0.Actions.length c_p0_Actions)), (2, ⟨g2054, 0, none⟩, (.int .i64 p0.States)), (2, ⟨g2054, 1, none⟩, (.int .i64 p0.Symbols)), (2, ⟨g2054, 2, none⟩, (.slice A_p0_Actions p0.Actions.length c_p0_Actions)), (3, ⟨g2058, 0, none⟩, (.int .i64 p1.State)), (3, ⟨g2058, 1, none⟩, (.int .i64 p1.At)), (3, ⟨g2058, 2, none⟩, (.slice A_p1_Cells p1.Cells.length c_p1_Cells))] (fun fb => by kernel_rfl) rfl trivial rfl ?_
  obtain ⟨t2105, ht2106, hf⟩ := bind_some hf
  refine WL.call (some 35) 41 #[(.agg #[(.int .i64 p0.States), (.int .i64 p0.Symbols), (.slice A_p0_Actions p0.Actions.length c_p0_Actions)])] (fun fb => by kernel_rfl) (machine_kitOf_calls _ p0 A_p0_Actions c_p0_Actions t2105 _ (hS2104.rd 0) ht2106) (fun v w2107 hR2108 => ?_)
  obtain ⟨g2110, A2111, c2112, A2113, c2114, rfl, hk_⟩ := hR2108
  have hS2109 : St NoS w w2107 [rowR enc_Action A_p0_Actions c_p0_Actions p0.Actions, rowR encInt A_p1_Cells c_p1_Cells p1.Cells] [blk g2110 (.cells #[(.int .i64 t2105.m.States), (.int .i64 t2105.m.Symbols), (.slice A_p0_Actions p0.Actions.length c_p0_Actions), (.slice A2111 t2105.set.length c2112), (.slice A2113 t2105.does.length c2114), (.int .i64 t2105.base)] 96 (0, 0)), rowO 65 enc_Tile A2111 c2112 t2105.set, rowO 3 encInt A2113 c2114 t2105.does, blk g2062 (.cells #[(.int .i64 0), (.int .i64 0), (.slice none 0 0)] 31 (0, 0)), blk g2058 (.cells #[(.int .i64 p1.State), (.int .i64 p1.At), (.slice A_p1_Cells p1.Cells.length c_p1_Cells)] 27 (0, 0)), blk g2054 (.cells #[(.int .i64 p0.States), (.int .i64 p0.Symbols), (.slice A_p0_Actions p0.Actions.length c_p0_Actions)] 24 (0, 0))] := hS2104.call hk_ [] [0, 1, 2] (fun g hg => hg.elim) (by simp) (by decide)
  refine ⟨⟨hS2109.cell 5 rfl 0 rfl, hS2109.cell 5 rfl 1 rfl, hS2109.cell 5 rfl 2 rfl, hS2109.cell 4 rfl 0 rfl, hS2109.cell 4 rfl 1 rfl, hS2109.cell 4 rfl 2 rfl, trivial⟩, ?_⟩
  obtain ⟨t2115, ht2116, hf⟩ := bind_some hf
  refine WL.call (some 38) 42 #[(.agg #[(.int .i64 p0.States), (.int .i64 p0.Symbols), (.slice A_p0_Actions p0.Actions.length c_p0_Actions)]), (.agg #[(.int .i64 p1.State), (.int .i64 p1.At), (.slice A_p1_Cells p1.Cells.length c_p1_Cells)])] (fun fb => by kernel_rfl) (machine_begin_calls p0 p1 A_p0_Actions c_p0_Actions A_p1_Cells c_p1_Cells t2115 _ (hS2109.rd 0) (hS2109.rd 1) ht2116) (fun v w2117 hR2118 => ?_)
  obtain ⟨g2120, A2121, c2122, rfl, hk_⟩ := hR2118
  have hS2119 : St NoS w w2117 [rowR enc_Action A_p0_Actions c_p0_Actions p0.Actions, rowR encInt A_p1_Cells c_p1_Cells p1.Cells] [blk g2120 (.cells #[(.int .i64 t2115.m.States), (.int .i64 t2115.m.Symbols), (.slice A_p0_Actions p0.Actions.length c_p0_Actions), (.int .i64 t2115.Config.State), (.int .i64 t2115.Config.At), (.slice A2121 t2115.Config.Cells.length c2122)] 82 (0, 0)), rowO 3 encInt A2121 c2122 t2115.Config.Cells, blk g2110 (.cells #[(.int .i64 t2105.m.States), (.int .i64 t2105.m.Symbols), (.slice A_p0_Actions p0.Actions.length c_p0_Actions), (.slice A2111 t2105.set.length c2112), (.slice A2113 t2105.does.length c2114), (.int .i64 t2105.base)] 96 (0, 0)), rowO 65 enc_Tile A2111 c2112 t2105.set, rowO 3 encInt A2113 c2114 t2105.does, blk g2062 (.cells #[(.int .i64 0), (.int .i64 0), (.slice none 0 0)] 31 (0, 0)), blk g2058 (.cells #[(.int .i64 p1.State), (.int .i64 p1.At), (.slice A_p1_Cells p1.Cells.length c_p1_Cells)] 27 (0, 0)), blk g2054 (.cells #[(.int .i64 p0.States), (.int .i64 p0.Symbols), (.slice A_p0_Actions p0.Actions.length c_p0_Actions)] 24 (0, 0))] := hS2109.call hk_ [] [0, 1, 2, 3, 4, 5] (fun g hg => hg.elim) (by simp) (by decide)
  refine ⟨trivial, ?_⟩
  refine seg 7 [] [2, 3, 4, 6, 8, 9] [(2, (.int .i64 p2)), (3, (.pointer (some ⟨g2054, 0, none⟩))), (4, (.pointer (some ⟨g2058, 0, none⟩))), (6, (.pointer (some ⟨g2062, 0, none⟩))), (8, (.pointer (some ⟨g2110, 0, none⟩))), (9, (.pointer (some ⟨g2120, 0, none⟩)))] [] (fun fb => by kernel_rfl) rfl trivial ?_
  refine WL.done rfl ?_
  refine WX.next ?_
  refine WC.seq ?_
  refine WC.region ?_
  refine seg 5 [.v (.slice A_p1_Cells p1.Cells.length c_p1_Cells)] [2, 3, 6, 8, 9, 43] [(2, (.int .i64 p2)), (3, (.pointer (some ⟨g2054, 0, none⟩))), (6, (.pointer (some ⟨g2062, 0, none⟩))), (8, (.pointer (some ⟨g2110, 0, none⟩))), (9, (.pointer (some ⟨g2120, 0, none⟩))), (43, (.agg #[(.int .i64 (p1.Cells.length : Int)), (.int .i64 p2), (.slice none 0 0)]))] [.cell ⟨g2058, 2, none⟩ (.slice A_p1_Cells p1.Cells.length c_p1_Cells)] (fun fb => by kernel_rfl) rfl ⟨hS2119.cell 6 rfl 2 rfl, trivial⟩ ?_
  refine WL.new hS2119 10 [] (fun g => (.pointer (some ⟨g, 0, none⟩))) (.cells #[(.int .i64 0), (.int .i64 0), (.slice none 0 0)] 31 (0, 0)) [] (fun fb g => by kernel_rfl) trivial (fun g2123 w2124 hS2125 => ?_)
  refine ⟨trivial, ?_⟩
  refine WL.store hS2125 0 rfl [(0, (.int .i64 (p1.Cells.length : Int))), (1, (.int .i64 p2)), (2, (.slice none 0 0))] #[(.int .i64 (p1.Cells.length : Int)), (.int .i64 p2), (.slice none 0 0)] (fun fb => by kernel_rfl) (by kernel_rfl) rfl [1, 2, 3, 4, 5, 6, 7, 8] (by decide) (by decide) (fun w2127 hS2128 => ?_)
  refine ⟨trivial, ?_⟩
  refine WL.done rfl ?_
  refine WX.next ?_
  refine WC.seq ?_
  refine WC.seq ?_
  refine WC.region ?_
  refine seg 2 [] [3, 6, 8, 9, 10, 44, 45] [(3, (.pointer (some ⟨g2054, 0, none⟩))), (6, (.pointer (some ⟨g2062, 0, none⟩))), (8, (.pointer (some ⟨g2110, 0, none⟩))), (9, (.pointer (some ⟨g2120, 0, none⟩))), (10, (.pointer (some ⟨g2123, 0, none⟩))), (44, (.int .i64 p2)), (45, (.int .i64 0))] [] (fun fb => by kernel_rfl) rfl trivial ?_
  refine WL.done rfl ?_
  refine WX.next ?_
  have hS2613 := hS2128.nilrow 3 encInt
  obtain ⟨x2629, hx2630, hf⟩ := bind_some hf
  refine WC.cutN (T := (List Int) × (Option Addr) × Nat) (fun t => [(6, (.pointer (some ⟨g2062, 0, none⟩))), (10, (.pointer (some ⟨g2123, 0, none⟩)))]) (fun t w1 => St NoS w w1 [rowR enc_Action A_p0_Actions c_p0_Actions p0.Actions, rowR encInt A_p1_Cells c_p1_Cells p1.Cells] [blk g2062 (.cells #[(.int .i64 0), (.int .i64 0), (.slice none 0 0)] 31 (0, 0)), blk g2123 (.cells #[(.int .i64 (p1.Cells.length : Int)), (.int .i64 p2), (.slice t.2.1 t.1.length t.2.2)] 31 (0, 0)), rowO 3 encInt t.2.1 t.2.2 t.1] ∧ x2629 = .inr t.1) (fun Kx2629 => ?_) ?_
  ·
    refine WC.block ?_
    refine WC.loop (T := (Int × Int × Int × Int × (List Int) × (List Int) × Int) × Nat × (Option Addr) × Nat × (Option Addr) × Nat) (fun t => [(3, (.pointer (some ⟨g2054, 0, none⟩))), (6, (.pointer (some ⟨g2062, 0, none⟩))), (8, (.pointer (some ⟨g2110, 0, none⟩))), (9, (.pointer (some ⟨t.2.1, 0, none⟩))), (10, (.pointer (some ⟨g2123, 0, none⟩))), (44, (.int .i64 p2)), (45, (.int .i64 t.1.2.2.2.2.2.2))]) (fun n t w1 => St NoS w w1 [rowR enc_Action A_p0_Actions c_p0_Actions p0.Actions, rowR encInt A_p1_Cells c_p1_Cells p1.Cells] [blk g2054 (.cells #[(.int .i64 p0.States), (.int .i64 p0.Symbols), (.slice A_p0_Actions p0.Actions.length c_p0_Actions)] 24 (0, 0)), blk g2062 (.cells #[(.int .i64 0), (.int .i64 0), (.slice none 0 0)] 31 (0, 0)), blk g2110 (.cells #[(.int .i64 t2105.m.States), (.int .i64 t2105.m.Symbols), (.slice A_p0_Actions p0.Actions.length c_p0_Actions), (.slice A2111 t2105.set.length c2112), (.slice A2113 t2105.does.length c2114), (.int .i64 t2105.base)] 96 (0, 0)), rowO 65 enc_Tile A2111 c2112 t2105.set, rowO 3 encInt A2113 c2114 t2105.does, blk t.2.1 (.cells #[(.int .i64 t.1.1), (.int .i64 t.1.2.1), (.slice A_p0_Actions p0.Actions.length c_p0_Actions), (.int .i64 t.1.2.2.1), (.int .i64 t.1.2.2.2.1), (.slice t.2.2.1 t.1.2.2.2.2.1.length t.2.2.2.1)] 82 (0, 0)), rowO 3 encInt t.2.2.1 t.2.2.2.1 t.1.2.2.2.2.1, blk g2123 (.cells #[(.int .i64 (p1.Cells.length : Int)), (.int .i64 p2), (.slice t.2.2.2.2.1 t.1.2.2.2.2.2.1.length t.2.2.2.2.2)] 31 (0, 0)), rowO 3 encInt t.2.2.2.2.1 t.2.2.2.2.2 t.1.2.2.2.2.2.1] ∧ machine_Picture.l0 n t.1.1 t.1.2.1 t.1.2.2.1 t.1.2.2.2.1 t.1.2.2.2.2.1 t.1.2.2.2.2.2.1 t.1.2.2.2.2.2.2 p0 p2 t2105 = some x2629) k ((t2115.m.States, t2115.m.Symbols, t2115.Config.State, t2115.Config.At, t2115.Config.Cells, ([] : List Int), 0), g2120, A2121, c2122, none, 0) [3, 6, 8, 9, 10, 44, 45] rfl ⟨(hS2613.subR [0, 1]).sub [9, 7, 4, 5, 6, 2, 3, 1, 0] (by decide), hx2630⟩ ?_
    rintro k2631 ⟨⟨x2615, x2616, x2617, x2618, l2621, l2624, x2625⟩, g2614, A2619, c2620, A2622, c2623⟩ w2632 ⟨hS2633, hl2634⟩
    cases k2631 with
    | zero => rw [machine_Picture.l0] at hl2634; cases hl2634
    | succ k2631 =>
      rw [machine_Picture.l0] at hl2634
      refine WC.seq ?_
      refine WC.region ?_
      refine seg 1 [] [3, 6, 8, 9, 10, 44, 45, 46] [(3, (.pointer (some ⟨g2054, 0, none⟩))), (6, (.pointer (some ⟨g2062, 0, none⟩))), (8, (.pointer (some ⟨g2110, 0, none⟩))), (9, (.pointer (some ⟨g2614, 0, none⟩))), (10, (.pointer (some ⟨g2123, 0, none⟩))), (44, (.int .i64 p2)), (45, (.int .i64 x2625)), (46, (.bool (decide (x2625 < p2))))] [] (fun fb => by kernel_rfl) rfl trivial ?_
      refine WL.done rfl ?_
      refine WX.next ?_
      refine WC.seq ?_
      rcases br_some hl2634 with ⟨h2635, hl2634⟩ | ⟨h2635, hl2634⟩
      · refine WC.condT2 (fun fb => by kernel_rfl) h2635 ?_
        refine WC.skip ?_
        refine WX.next ?_
        refine WC.seq ?_
        refine WC.block ?_
        refine WC.seq ?_
        refine WC.regionD ([(0, ⟨g2054, 0, none⟩, (.int .i64 p0.States)), (0, ⟨g2054, 1, none⟩, (.int .i64 p0.Symbols)), (0, ⟨g2054, 2, none⟩, (.slice A_p0_Actions p0.Actions.length c_p0_Actions)), (4, ⟨g2614, 3, none⟩, (.int .i64 x2617)), (4, ⟨g2614, 4, none⟩, (.int .i64 x2618)), (4, ⟨g2614, 5, none⟩, (.slice A2619 l2621.length c2620))], [0, 1, 2, 3, 4, 6], [[], [], [1], [1, 2], [1, 2, 3], [0, 1, 2, 3, 4], [0, 1, 2, 3, 4, 5]]) [[0, 1, 2, 3, 4, 5, 6]] (by kernel_rfl) (by kernel_rfl) (NoPanic.seq (NoPanic.block (NoPanic.seq (NoPanic.seq (NoPanic.block (NoPanic.seq (NoPanic.body))))))) ?_
        have hS2645 := hS2633.drew
        revert hS2645
        generalize World.drew w2632 = w2644
        intro hS2645
        refine ⟨⟨hS2645.cell 0 rfl 0 rfl, hS2645.cell 0 rfl 1 rfl, hS2645.cell 0 rfl 2 rfl, hS2645.cell 5 rfl 3 rfl, hS2645.cell 5 rfl 4 rfl, hS2645.cell 5 rfl 5 rfl, trivial⟩, forallC ?_ (forallN)⟩
        refine segF 5 [.v (.int .i64 p0.States), .v (.int .i64 p0.Symbols), .v (.slice A_p0_Actions p0.Actions.length c_p0_Actions), .v (.int .i64 x2617), .v (.int .i64 x2618), .v (.slice A2619 l2621.length c2620)] [3, 6, 8, 9, 10, 44, 45, 47, 51] [(3, (.pointer (some ⟨g2054, 0, none⟩))), (6, (.pointer (some ⟨g2062, 0, none⟩))), (8, (.pointer (some ⟨g2110, 0, none⟩))), (9, (.pointer (some ⟨g2614, 0, none⟩))), (10, (.pointer (some ⟨g2123, 0, none⟩))), (44, (.int .i64 p2)), (45, (.int .i64 x2625)), (47, (.agg #[(.int .i64 p0.States), (.int .i64 p0.Symbols), (.slice A_p0_Actions p0.Actions.length c_p0_Actions)])), (51, (.agg #[(.int .i64 x2617), (.int .i64 x2618), (.slice A2619 l2621.length c2620)]))] [] [0, 1, 2, 3, 4, 5] [(0, ⟨g2054, 0, none⟩, (.int .i64 p0.States)), (0, ⟨g2054, 1, none⟩, (.int .i64 p0.Symbols)), (0, ⟨g2054, 2, none⟩, (.slice A_p0_Actions p0.Actions.length c_p0_Actions)), (4, ⟨g2614, 3, none⟩, (.int .i64 x2617)), (4, ⟨g2614, 4, none⟩, (.int .i64 x2618)), (4, ⟨g2614, 5, none⟩, (.slice A2619 l2621.length c2620))] (fun fb => by kernel_rfl) rfl trivial rfl ?_
        obtain ⟨t2646, ht2647, hl2634⟩ := bind_some hl2634
        refine WL.call (some 52) 42 #[(.agg #[(.int .i64 p0.States), (.int .i64 p0.Symbols), (.slice A_p0_Actions p0.Actions.length c_p0_Actions)]), (.agg #[(.int .i64 x2617), (.int .i64 x2618), (.slice A2619 l2621.length c2620)])] (fun fb => by kernel_rfl) (machine_begin_calls p0 (Config.mk x2617 x2618 l2621) A_p0_Actions c_p0_Actions A2619 c2620 t2646 _ (hS2645.rd 0) (hS2645.ow 6).ofO ht2647) (fun v w2648 hR2649 => ?_)
        obtain ⟨g2651, A2652, c2653, rfl, hk_⟩ := hR2649
        have hS2650 : St NoS w w2648 [rowR enc_Action A_p0_Actions c_p0_Actions p0.Actions, rowR encInt A_p1_Cells c_p1_Cells p1.Cells] [blk g2651 (.cells #[(.int .i64 t2646.m.States), (.int .i64 t2646.m.Symbols), (.slice A_p0_Actions p0.Actions.length c_p0_Actions), (.int .i64 t2646.Config.State), (.int .i64 t2646.Config.At), (.slice A2652 t2646.Config.Cells.length c2653)] 82 (0, 0)), rowO 3 encInt A2652 c2653 t2646.Config.Cells, blk g2054 (.cells #[(.int .i64 p0.States), (.int .i64 p0.Symbols), (.slice A_p0_Actions p0.Actions.length c_p0_Actions)] 24 (0, 0)), blk g2062 (.cells #[(.int .i64 0), (.int .i64 0), (.slice none 0 0)] 31 (0, 0)), blk g2110 (.cells #[(.int .i64 t2105.m.States), (.int .i64 t2105.m.Symbols), (.slice A_p0_Actions p0.Actions.length c_p0_Actions), (.slice A2111 t2105.set.length c2112), (.slice A2113 t2105.does.length c2114), (.int .i64 t2105.base)] 96 (0, 0)), rowO 65 enc_Tile A2111 c2112 t2105.set, rowO 3 encInt A2113 c2114 t2105.does, blk g2614 (.cells #[(.int .i64 x2615), (.int .i64 x2616), (.slice A_p0_Actions p0.Actions.length c_p0_Actions), (.int .i64 x2617), (.int .i64 x2618), (.slice A2619 l2621.length c2620)] 82 (0, 0)), rowO 3 encInt A2619 c2620 l2621, blk g2123 (.cells #[(.int .i64 (p1.Cells.length : Int)), (.int .i64 p2), (.slice A2622 l2624.length c2623)] 31 (0, 0)), rowO 3 encInt A2622 c2623 l2624] := hS2645.call hk_ [] [0, 1, 2, 3, 4, 5, 6, 7, 8] (fun g hg => hg.elim) (by simp) (by decide)
        refine ⟨trivial, ?_⟩
        refine seg 7 [] [3, 6, 8, 9, 10, 11, 44, 45] [(3, (.pointer (some ⟨g2054, 0, none⟩))), (6, (.pointer (some ⟨g2062, 0, none⟩))), (8, (.pointer (some ⟨g2110, 0, none⟩))), (9, (.pointer (some ⟨g2614, 0, none⟩))), (10, (.pointer (some ⟨g2123, 0, none⟩))), (11, (.pointer (some ⟨g2651, 0, none⟩))), (44, (.int .i64 p2)), (45, (.int .i64 x2625))] [] (fun fb => by kernel_rfl) rfl trivial ?_
        refine WL.done rfl ?_
        refine WX.next ?_
        refine WC.seq ?_
        refine WC.seq ?_
        refine WC.region ?_
        refine seg 1 [] [3, 6, 8, 9, 10, 11, 44, 45, 53] [(3, (.pointer (some ⟨g2054, 0, none⟩))), (6, (.pointer (some ⟨g2062, 0, none⟩))), (8, (.pointer (some ⟨g2110, 0, none⟩))), (9, (.pointer (some ⟨g2614, 0, none⟩))), (10, (.pointer (some ⟨g2123, 0, none⟩))), (11, (.pointer (some ⟨g2651, 0, none⟩))), (44, (.int .i64 p2)), (45, (.int .i64 x2625)), (53, (.pointer (some ⟨g2651, 0, none⟩)))] [] (fun fb => by kernel_rfl) rfl trivial ?_
        obtain ⟨t2654, ht2655, hl2634⟩ := bind_some hl2634
        refine WL.call (some 54) 43 #[(.pointer (some ⟨g2651, 0, none⟩))] (fun fb => by kernel_rfl) (machine_runner_step_calls (Runner.mk (Machine.mk t2646.m.States t2646.m.Symbols p0.Actions) t2646.Config) g2651 A_p0_Actions c_p0_Actions A2652 c2653 t2654 _ (hS2650.rdT [0, 1] 0) (hS2650.io [0, 1] (by decide)) ht2655) (fun v w2656 hR2657 => ?_)
        obtain ⟨A2659, c2660, rfl, hk_⟩ := hR2657
        have hS2658 : St NoS w w2656 [rowR enc_Action A_p0_Actions c_p0_Actions p0.Actions, rowR encInt A_p1_Cells c_p1_Cells p1.Cells] [blk g2651 (.cells #[(.int .i64 t2654.2.m.States), (.int .i64 t2654.2.m.Symbols), (.slice A_p0_Actions p0.Actions.length c_p0_Actions), (.int .i64 t2654.2.Config.State), (.int .i64 t2654.2.Config.At), (.slice A2659 t2654.2.Config.Cells.length c2660)] 82 (0, 0)), rowO 3 encInt A2659 c2660 t2654.2.Config.Cells, blk g2054 (.cells #[(.int .i64 p0.States), (.int .i64 p0.Symbols), (.slice A_p0_Actions p0.Actions.length c_p0_Actions)] 24 (0, 0)), blk g2062 (.cells #[(.int .i64 0), (.int .i64 0), (.slice none 0 0)] 31 (0, 0)), blk g2110 (.cells #[(.int .i64 t2105.m.States), (.int .i64 t2105.m.Symbols), (.slice A_p0_Actions p0.Actions.length c_p0_Actions), (.slice A2111 t2105.set.length c2112), (.slice A2113 t2105.does.length c2114), (.int .i64 t2105.base)] 96 (0, 0)), rowO 65 enc_Tile A2111 c2112 t2105.set, rowO 3 encInt A2113 c2114 t2105.does, blk g2614 (.cells #[(.int .i64 x2615), (.int .i64 x2616), (.slice A_p0_Actions p0.Actions.length c_p0_Actions), (.int .i64 x2617), (.int .i64 x2618), (.slice A2619 l2621.length c2620)] 82 (0, 0)), rowO 3 encInt A2619 c2620 l2621, blk g2123 (.cells #[(.int .i64 (p1.Cells.length : Int)), (.int .i64 p2), (.slice A2622 l2624.length c2623)] 31 (0, 0)), rowO 3 encInt A2622 c2623 l2624] := hS2650.call hk_ [0, 1] [2, 3, 4, 5, 6, 7, 8, 9, 10] (fun g hg => fpL_sel g hg) (by decide) (by decide)
        refine ⟨trivial, ?_⟩
        refine seg 3 [] [3, 6, 8, 9, 10, 11, 44, 45, 55] [(3, (.pointer (some ⟨g2054, 0, none⟩))), (6, (.pointer (some ⟨g2062, 0, none⟩))), (8, (.pointer (some ⟨g2110, 0, none⟩))), (9, (.pointer (some ⟨g2614, 0, none⟩))), (10, (.pointer (some ⟨g2123, 0, none⟩))), (11, (.pointer (some ⟨g2651, 0, none⟩))), (44, (.int .i64 p2)), (45, (.int .i64 x2625)), (55, (.bool (t2654.1 != 0)))] [] (fun fb => by kernel_rfl) rfl trivial ?_
        refine WL.done rfl ?_
        refine WX.next ?_
        rcases br_some hl2634 with ⟨h2661, hl2634⟩ | ⟨h2661, hl2634⟩
        · refine WC.condT2 (fun fb => by kernel_rfl) h2661 ?_
          refine WC.seq ?_
          refine WC.region ?_
          refine seg 1 [] [6, 56] [(6, (.pointer (some ⟨g2062, 0, none⟩))), (56, (.agg #[(.int .i64 0), (.int .i64 0), (.slice none 0 0)]))] [] (fun fb => by kernel_rfl) rfl trivial ?_
          refine WL.store hS2658 3 rfl [(0, (.int .i64 0)), (1, (.int .i64 0)), (2, (.slice none 0 0))] #[(.int .i64 0), (.int .i64 0), (.slice none 0 0)] (fun fb => by kernel_rfl) (by kernel_rfl) rfl [0, 1, 2, 4, 5, 6, 7, 8, 9, 10] (by decide) (by decide) (fun w2662 hS2663 => ?_)
          refine ⟨trivial, ?_⟩
          refine seg 3 [] [6, 7] [(6, (.pointer (some ⟨g2062, 0, none⟩))), (7, (.int .i64 6))] [] (fun fb => by kernel_rfl) rfl trivial ?_
          refine WL.done rfl ?_
          refine WX.next ?_
          refine WC.ret ?_
          have hS2664 := hS2663.nilrow 3 encInt
          injection hl2634 with hl2634
          subst hl2634
          injection hf with hf
          subst hf
          exact WX.thenR (WX.blockR (WX.thenR (WX.thenR (WX.blockR (WX.thenR (WX.ret_ [.v (.int .i64 0), .v (.int .i64 0), .v (.slice none 0 0)] (.tuple #[(.agg #[(.int .i64 0), (.int .i64 0), (.slice none ([] : List Int).length 0)]), (.int .i64 6)]) [.cell ⟨g2062, 0, none⟩ (.int .i64 0), .cell ⟨g2062, 1, none⟩ (.int .i64 0), .cell ⟨g2062, 2, none⟩ (.slice none 0 0)] (fun fb => by kernel_rfl) ⟨hS2663.cell 0 rfl 0 rfl, hS2663.cell 0 rfl 1 rfl, hS2663.cell 0 rfl 2 rfl, trivial⟩ ⟨_, rfl, none, 0, rfl, (hS2664.sub [0] (by decide)).noR⟩))))))
        refine WC.condF2 (fun fb => by kernel_rfl) h2661 ?_
        refine WC.skip ?_
        refine WX.next ?_
        refine WC.seq ?_
        refine WC.regionD ([(1, ⟨g2123, 2, none⟩, (.slice A2622 l2624.length c2623))], [0, 1, 2, 3, 6], [[], [0], [], [], [2, 3], [0, 1, 2, 3, 4], [0, 1, 2, 3, 4, 5], [0, 1, 2, 3, 4, 5, 6]]) [[0, 1, 2, 3, 4, 5, 6, 7]] (by kernel_rfl) (by kernel_rfl) (NoPanic.seq (NoPanic.block (NoPanic.seq (NoPanic.seq (NoPanic.block (NoPanic.seq (NoPanic.body))))))) ?_
        have hS2680 := hS2658.drew
        revert hS2680
        generalize World.drew w2656 = w2679
        intro hS2680
        refine ⟨⟨hS2680.cell 9 rfl 2 rfl, trivial⟩, forallC ?_ (forallN)⟩
        refine segF 4 [.v (.slice A2622 l2624.length c2623)] [3, 6, 8, 10, 11, 44, 45, 58, 59, 60] [(3, (.pointer (some ⟨g2054, 0, none⟩))), (6, (.pointer (some ⟨g2062, 0, none⟩))), (8, (.pointer (some ⟨g2110, 0, none⟩))), (10, (.pointer (some ⟨g2123, 0, none⟩))), (11, (.pointer (some ⟨g2651, 0, none⟩))), (44, (.int .i64 p2)), (45, (.int .i64 x2625)), (58, (.slice A2622 l2624.length c2623)), (59, (.pointer (some ⟨g2110, 0, none⟩))), (60, (.pointer (some ⟨g2614, 0, none⟩)))] [] [0] [(1, ⟨g2123, 2, none⟩, (.slice A2622 l2624.length c2623))] (fun fb => by kernel_rfl) rfl trivial rfl ?_
        obtain ⟨t2681, ht2682, hl2634⟩ := bind_some hl2634
        refine WL.call (some 61) 44 #[(.pointer (some ⟨g2110, 0, none⟩)), (.pointer (some ⟨g2614, 0, none⟩))] (fun fb => by kernel_rfl) (machine_kit_row_calls _ (Kit.mk (Machine.mk t2105.m.States t2105.m.Symbols p0.Actions) t2105.set t2105.does t2105.base) (Runner.mk (Machine.mk x2615 x2616 p0.Actions) (Config.mk x2617 x2618 l2621)) g2110 A_p0_Actions c_p0_Actions A2111 c2112 A2113 c2114 g2614 A_p0_Actions c_p0_Actions A2619 c2620 t2681 _ (hS2680.ow 4) (hS2680.rd 0) (hS2680.ow 5).ofO (hS2680.ow 6).ofO (hS2680.ow 7) (hS2680.rd 0) (hS2680.ow 8).ofO ht2682) (fun v w2683 hR2684 => ?_)
        obtain ⟨A2686, c2687, rfl, hk_⟩ := hR2684
        have hS2685 : St NoS w w2683 [rowR enc_Action A_p0_Actions c_p0_Actions p0.Actions, rowR encInt A_p1_Cells c_p1_Cells p1.Cells] [rowO 3 encInt A2686 c2687 t2681, blk g2651 (.cells #[(.int .i64 t2654.2.m.States), (.int .i64 t2654.2.m.Symbols), (.slice A_p0_Actions p0.Actions.length c_p0_Actions), (.int .i64 t2654.2.Config.State), (.int .i64 t2654.2.Config.At), (.slice A2659 t2654.2.Config.Cells.length c2660)] 82 (0, 0)), rowO 3 encInt A2659 c2660 t2654.2.Config.Cells, blk g2054 (.cells #[(.int .i64 p0.States), (.int .i64 p0.Symbols), (.slice A_p0_Actions p0.Actions.length c_p0_Actions)] 24 (0, 0)), blk g2062 (.cells #[(.int .i64 0), (.int .i64 0), (.slice none 0 0)] 31 (0, 0)), blk g2110 (.cells #[(.int .i64 t2105.m.States), (.int .i64 t2105.m.Symbols), (.slice A_p0_Actions p0.Actions.length c_p0_Actions), (.slice A2111 t2105.set.length c2112), (.slice A2113 t2105.does.length c2114), (.int .i64 t2105.base)] 96 (0, 0)), rowO 65 enc_Tile A2111 c2112 t2105.set, rowO 3 encInt A2113 c2114 t2105.does, blk g2614 (.cells #[(.int .i64 x2615), (.int .i64 x2616), (.slice A_p0_Actions p0.Actions.length c_p0_Actions), (.int .i64 x2617), (.int .i64 x2618), (.slice A2619 l2621.length c2620)] 82 (0, 0)), rowO 3 encInt A2619 c2620 l2621, blk g2123 (.cells #[(.int .i64 (p1.Cells.length : Int)), (.int .i64 p2), (.slice A2622 l2624.length c2623)] 31 (0, 0)), rowO 3 encInt A2622 c2623 l2624] := hS2680.call hk_ [] [0, 1, 2, 3, 4, 5, 6, 7, 8, 9, 10] (fun g hg => hg.elim) (by simp) (by decide)
        refine ⟨⟨hS2685.cell 10 rfl 2 rfl, trivial⟩, ?_⟩
        obtain ⟨h2688, hl2634⟩ := as_some hl2634
        refine WL.append hS2685 11 (d := 62) (tS := 25) (z := (.int .i64 0)) (bytes := 8) (c2 := c2687) rfl (fun fb => by kernel_rfl) (rowO.rd (hS2685.own 0).1) (by kernel_rfl) (by kernel_rfl) rfl (by decide) h2688 (by decide) [0, 1, 2, 3, 4, 5, 6, 7, 8, 9, 10] (by decide) (by decide) (fun A2689 c2690 w2691 hS2692 => ?_)
        refine ⟨trivial, ?_⟩
        refine seg 7 [] [3, 6, 8, 10, 11, 44, 45, 62, 63] [(3, (.pointer (some ⟨g2054, 0, none⟩))), (6, (.pointer (some ⟨g2062, 0, none⟩))), (8, (.pointer (some ⟨g2110, 0, none⟩))), (10, (.pointer (some ⟨g2123, 0, none⟩))), (11, (.pointer (some ⟨g2651, 0, none⟩))), (44, (.int .i64 p2)), (45, (.int .i64 x2625)), (62, (.slice A2689 (l2624 ++ t2681).length c2690)), (63, (.pointer (some ⟨g2123, 2, none⟩)))] [] (fun fb => by kernel_rfl) rfl trivial ?_
        refine WL.store hS2692 11 rfl [(2, (.slice A2689 (l2624 ++ t2681).length c2690))] #[(.int .i64 (p1.Cells.length : Int)), (.int .i64 p2), (.slice A2689 (l2624 ++ t2681).length c2690)] (fun fb => by kernel_rfl) (by kernel_rfl) rfl [0, 1, 2, 3, 4, 5, 6, 7, 8, 9, 10] (by decide) (by decide) (fun w2693 hS2694 => ?_)
        refine ⟨trivial, ?_⟩
        refine WL.done rfl ?_
        refine WX.next ?_
        refine WC.region ?_
        refine seg 2 [] [3, 6, 8, 9, 10, 44, 45] [(3, (.pointer (some ⟨g2054, 0, none⟩))), (6, (.pointer (some ⟨g2062, 0, none⟩))), (8, (.pointer (some ⟨g2110, 0, none⟩))), (9, (.pointer (some ⟨g2651, 0, none⟩))), (10, (.pointer (some ⟨g2123, 0, none⟩))), (44, (.int .i64 p2)), (45, (.int .i64 x2625))] [] (fun fb => by kernel_rfl) rfl trivial ?_
        refine WL.done rfl ?_
        refine WX.blockN (WX.next ?_)
        refine WC.region ?_
        refine seg 2 [] [3, 6, 8, 9, 10, 44, 45] [(3, (.pointer (some ⟨g2054, 0, none⟩))), (6, (.pointer (some ⟨g2062, 0, none⟩))), (8, (.pointer (some ⟨g2110, 0, none⟩))), (9, (.pointer (some ⟨g2651, 0, none⟩))), (10, (.pointer (some ⟨g2123, 0, none⟩))), (44, (.int .i64 p2)), (45, (.int .i64 (w64 (x2625 + 1))))] [] (fun fb => by kernel_rfl) rfl trivial ?_
        refine WL.done rfl ?_
        exact WX.again k2631 (Nat.lt_succ_self _) ((t2654.2.m.States, t2654.2.m.Symbols, t2654.2.Config.State, t2654.2.Config.At, t2654.2.Config.Cells, l2624 ++ t2681, w64 (x2625 + 1)), g2651, A2659, c2660, A2689, c2690) [3, 6, 8, 9, 10, 44, 45] rfl ⟨(hS2694.subR [0, 1]).sub [5, 6, 7, 8, 9, 3, 4, 0, 1] (by decide), hl2634⟩
      refine WC.condF2 (fun fb => by kernel_rfl) h2635 ?_
      refine WC.exit ?_
      injection hl2634 with hl2634
      exact WX.thenX (WX.thenX (WX.blockHere (WX.to Kx2629 (l2624, A2622, c2623) [6, 10] rfl ⟨(hS2633.subR [0, 1]).sub [1, 7, 8] (by decide), hl2634.symm⟩)))
  rintro ⟨y2698, A2626, c2627⟩ w2695 ⟨hS2696, hq2697⟩
  subst hq2697
  have hf := sum_inr hf
  refine WX.next ?_
  refine WC.seq ?_
  refine WC.region ?_
  refine seg 1 [.v (.int .i64 (p1.Cells.length : Int)), .v (.int .i64 p2), .v (.slice A2626 y2698.length c2627)] [6, 66] [(6, (.pointer (some ⟨g2062, 0, none⟩))), (66, (.agg #[(.int .i64 (p1.Cells.length : Int)), (.int .i64 p2), (.slice A2626 y2698.length c2627)]))] [.cell ⟨g2123, 0, none⟩ (.int .i64 (p1.Cells.length : Int)), .cell ⟨g2123, 1, none⟩ (.int .i64 p2), .cell ⟨g2123, 2, none⟩ (.slice A2626 y2698.length c2627)] (fun fb => by kernel_rfl) rfl ⟨hS2696.cell 1 rfl 0 rfl, hS2696.cell 1 rfl 1 rfl, hS2696.cell 1 rfl 2 rfl, trivial⟩ ?_
  refine WL.store hS2696 0 rfl [(0, (.int .i64 (p1.Cells.length : Int))), (1, (.int .i64 p2)), (2, (.slice A2626 y2698.length c2627))] #[(.int .i64 (p1.Cells.length : Int)), (.int .i64 p2), (.slice A2626 y2698.length c2627)] (fun fb => by kernel_rfl) (by kernel_rfl) rfl [1, 2] (by decide) (by decide) (fun w2700 hS2701 => ?_)
  refine ⟨trivial, ?_⟩
  refine seg 3 [] [6, 7] [(6, (.pointer (some ⟨g2062, 0, none⟩))), (7, (.int .i64 0))] [] (fun fb => by kernel_rfl) rfl trivial ?_
  refine WL.done rfl ?_
  refine WX.next ?_
  refine WC.ret ?_
  injection hf with hf
  subst hf
  exact WX.ret_ [.v (.int .i64 (p1.Cells.length : Int)), .v (.int .i64 p2), .v (.slice A2626 y2698.length c2627)] (.tuple #[(.agg #[(.int .i64 (p1.Cells.length : Int)), (.int .i64 p2), (.slice A2626 y2698.length c2627)]), (.int .i64 0)]) [.cell ⟨g2062, 0, none⟩ (.int .i64 (p1.Cells.length : Int)), .cell ⟨g2062, 1, none⟩ (.int .i64 p2), .cell ⟨g2062, 2, none⟩ (.slice A2626 y2698.length c2627)] (fun fb => by kernel_rfl) ⟨hS2701.cell 0 rfl 0 rfl, hS2701.cell 0 rfl 1 rfl, hS2701.cell 0 rfl 2 rfl, trivial⟩ ⟨_, rfl, A2626, c2627, rfl, (hS2701.sub [2] (by decide)).noR⟩
theorem law08_awake_calls (k : Nat)   (r : Bool) (w : World)  (hf : law08_awake k = some r) :
    CallsR Try.prog 11 #[] w (fun v w' => v = (.bool r) ∧ Keeps NoS w w') := by
  have hS : St NoS w w [] [] := St.init (ro_nil _ _)
  refine enter 52 Try.func11 rfl Try.ntmps11 rfl ?_
  unfold law08_awake at hf
  refine WC.seq ?_
  refine WC.region ?_
  refine seg 1 [] [] [] [] (fun fb => by kernel_rfl) rfl trivial ?_
  refine WL.done rfl ?_
  refine WX.next ?_
  refine WC.seq ?_
  refine WC.region ?_
  obtain ⟨t38, ht39, hf⟩ := bind_some hf
  refine WL.call (some 9) 40 #[] (fun fb => by kernel_rfl) (law08_goes_calls t38 _ ht39) (fun v w40 hR41 => ?_)
  obtain ⟨A43, c44, rfl, hk_⟩ := hR41
  have hS42 : St NoS w w40 [] [rowO 88 enc_Action A43 c44 t38.Actions] := hS.call hk_ [] [] (fun g hg => hg.elim) (by simp) (by decide)
  refine ⟨trivial, ?_⟩
  obtain ⟨t1487, ht1488, hf⟩ := bind_some hf
  refine WL.call (some 10) 25 #[(.agg #[(.int .i64 t38.States), (.int .i64 t38.Symbols), (.slice A43 t38.Actions.length c44)])] (fun fb => by kernel_rfl) (machine_Tiles_calls _ t38 A43 c44 t1487 _ (hS42.ow 0).ofO ht1488) (fun v w1489 hR1490 => ?_)
  obtain ⟨A1492, c1493, rfl, hk_⟩ := hR1490
  have hS1491 : St NoS w w1489 [] [rowO 65 enc_Tile A1492 c1493 t1487.1, rowO 88 enc_Action A43 c44 t38.Actions] := hS42.call hk_ [] [0] (fun g hg => hg.elim) (by simp) (by decide)
  refine ⟨trivial, ?_⟩
  refine seg 7 [] [1, 2] [(1, (.slice A1492 t1487.1.length c1493)), (2, (.int .i64 t1487.2))] [] (fun fb => by kernel_rfl) rfl trivial ?_
  refine WL.done rfl ?_
  refine WX.next ?_
  refine WC.seq ?_
  refine WC.region ?_
  obtain ⟨t1494, ht1495, hf⟩ := bind_some hf
  refine WL.call (some 14) 40 #[] (fun fb => by kernel_rfl) (law08_goes_calls t1494 _ ht1495) (fun v w1496 hR1497 => ?_)
  obtain ⟨A1499, c1500, rfl, hk_⟩ := hR1497
  have hS1498 : St NoS w w1496 [] [rowO 88 enc_Action A1499 c1500 t1494.Actions, rowO 65 enc_Tile A1492 c1493 t1487.1, rowO 88 enc_Action A43 c44 t38.Actions] := hS1491.call hk_ [] [0, 1] (fun g hg => hg.elim) (by simp) (by decide)
  refine ⟨trivial, ?_⟩
  refine WL.new hS1498 15 [] (fun g => (.slice (some ⟨g, 0, none⟩) 3 3)) (.cells #[(.int .i64 0), (.int .i64 0), (.int .i64 0)] 3 (0, 0)) [] (fun fb g => by kernel_rfl) trivial (fun g1501 w1502 hS1503 => ?_)
  refine ⟨trivial, ?_⟩
  have hS1505 : St NoS w w1502 [] [rowO 3 encInt (some ⟨g1501, 0, none⟩) 3 [0, 0, 0], rowO 88 enc_Action A1499 c1500 t1494.Actions, rowO 65 enc_Tile A1492 c1493 t1487.1, rowO 88 enc_Action A43 c44 t38.Actions] := hS1503.map1 0 _ (fun h => rowO.ofBlk h rfl (Nat.le_of_ble_eq_true (by kernel_rfl))) (fun _ h => by obtain ⟨_, h1, h2⟩ := h; injection h1 with h1; subst h1; exact h2) [1, 2, 3] (by decide) (by decide)
  refine seg 3 [] [1, 2, 14, 16] [(1, (.slice A1492 t1487.1.length c1493)), (2, (.int .i64 t1487.2)), (14, (.agg #[(.int .i64 t1494.States), (.int .i64 t1494.Symbols), (.slice A1499 t1494.Actions.length c1500)])), (16, (.agg #[(.int .i64 0), (.int .i64 0), (.slice (some ⟨g1501, 0, none⟩) [0, 0, 0].length 3)]))] [] (fun fb => by kernel_rfl) rfl trivial ?_
  obtain ⟨t2029, ht2030, hf⟩ := bind_some hf
  refine WL.call (some 17) 20 #[(.agg #[(.int .i64 t1494.States), (.int .i64 t1494.Symbols), (.slice A1499 t1494.Actions.length c1500)]), (.agg #[(.int .i64 0), (.int .i64 0), (.slice (some ⟨g1501, 0, none⟩) [0, 0, 0].length 3)]), (.int .i64 9)] (fun fb => by kernel_rfl) (machine_Run_calls _ t1494 (Config.mk 0 0 [0, 0, 0]) 9 A1499 c1500 (some ⟨g1501, 0, none⟩) 3 t2029 _ (hS1505.ow 1).ofO (hS1505.ow 0).ofO ht2030) (fun v w2031 hR2032 => ?_)
  obtain ⟨A2034, c2035, rfl, hk_⟩ := hR2032
  have hS2033 : St NoS w w2031 [] [rowO 3 encInt A2034 c2035 t2029.1.Cells, rowO 3 encInt (some ⟨g1501, 0, none⟩) 3 [0, 0, 0], rowO 88 enc_Action A1499 c1500 t1494.Actions, rowO 65 enc_Tile A1492 c1493 t1487.1, rowO 88 enc_Action A43 c44 t38.Actions] := hS1505.call hk_ [] [0, 1, 2, 3] (fun g hg => hg.elim) (by simp) (by decide)
  refine ⟨trivial, ?_⟩
  refine seg 8 [] [1, 2, 18, 19, 20] [(1, (.slice A1492 t1487.1.length c1493)), (2, (.int .i64 t1487.2)), (18, (.agg #[(.int .i64 t2029.1.State), (.int .i64 t2029.1.At), (.slice A2034 t2029.1.Cells.length c2035)])), (19, (.int .i64 t2029.2.1)), (20, (.int .i64 t2029.2.2))] [] (fun fb => by kernel_rfl) rfl trivial ?_
  refine WL.new hS2033 3 [] (fun g => (.pointer (some ⟨g, 0, none⟩))) (.cells #[(.int .i64 0), (.int .i64 0), (.slice none 0 0)] 27 (0, 0)) [] (fun fb g => by kernel_rfl) trivial (fun g2036 w2037 hS2038 => ?_)
  refine ⟨trivial, ?_⟩
  refine WL.store hS2038 0 rfl [(0, (.int .i64 t2029.1.State)), (1, (.int .i64 t2029.1.At)), (2, (.slice A2034 t2029.1.Cells.length c2035))] #[(.int .i64 t2029.1.State), (.int .i64 t2029.1.At), (.slice A2034 t2029.1.Cells.length c2035)] (fun fb => by kernel_rfl) (by kernel_rfl) rfl [1, 2, 3, 4, 5] (by decide) (by decide) (fun w2040 hS2041 => ?_)
  refine ⟨trivial, ?_⟩
  refine seg 12 [] [1, 2, 3, 4, 5] [(1, (.slice A1492 t1487.1.length c1493)), (2, (.int .i64 t1487.2)), (3, (.pointer (some ⟨g2036, 0, none⟩))), (4, (.int .i64 t2029.2.1)), (5, (.int .i64 t2029.2.2))] [] (fun fb => by kernel_rfl) rfl trivial ?_
  refine WL.done rfl ?_
  refine WX.next ?_
  refine WC.seq ?_
  refine WC.region ?_
  obtain ⟨t2042, ht2043, hf⟩ := bind_some hf
  refine WL.call (some 22) 40 #[] (fun fb => by kernel_rfl) (law08_goes_calls t2042 _ ht2043) (fun v w2044 hR2045 => ?_)
  obtain ⟨A2047, c2048, rfl, hk_⟩ := hR2045
  have hS2046 : St NoS w w2044 [] [rowO 88 enc_Action A2047 c2048 t2042.Actions, blk g2036 (.cells #[(.int .i64 t2029.1.State), (.int .i64 t2029.1.At), (.slice A2034 t2029.1.Cells.length c2035)] 27 (0, 0)), rowO 3 encInt A2034 c2035 t2029.1.Cells, rowO 3 encInt (some ⟨g1501, 0, none⟩) 3 [0, 0, 0], rowO 88 enc_Action A1499 c1500 t1494.Actions, rowO 65 enc_Tile A1492 c1493 t1487.1, rowO 88 enc_Action A43 c44 t38.Actions] := hS2041.call hk_ [] [0, 1, 2, 3, 4, 5] (fun g hg => hg.elim) (by simp) (by decide)
  refine ⟨trivial, ?_⟩
  refine WL.new hS2046 23 [] (fun g => (.slice (some ⟨g, 0, none⟩) 3 3)) (.cells #[(.int .i64 0), (.int .i64 0), (.int .i64 0)] 3 (0, 0)) [] (fun fb g => by kernel_rfl) trivial (fun g2049 w2050 hS2051 => ?_)
  refine ⟨trivial, ?_⟩
  have hS2053 : St NoS w w2050 [] [rowO 3 encInt (some ⟨g2049, 0, none⟩) 3 [0, 0, 0], rowO 88 enc_Action A2047 c2048 t2042.Actions, blk g2036 (.cells #[(.int .i64 t2029.1.State), (.int .i64 t2029.1.At), (.slice A2034 t2029.1.Cells.length c2035)] 27 (0, 0)), rowO 3 encInt A2034 c2035 t2029.1.Cells, rowO 3 encInt (some ⟨g1501, 0, none⟩) 3 [0, 0, 0], rowO 88 enc_Action A1499 c1500 t1494.Actions, rowO 65 enc_Tile A1492 c1493 t1487.1, rowO 88 enc_Action A43 c44 t38.Actions] := hS2051.map1 0 _ (fun h => rowO.ofBlk h rfl (Nat.le_of_ble_eq_true (by kernel_rfl))) (fun _ h => by obtain ⟨_, h1, h2⟩ := h; injection h1 with h1; subst h1; exact h2) [1, 2, 3, 4, 5, 6, 7] (by decide) (by decide)
  refine seg 3 [] [1, 2, 3, 4, 5, 22, 24] [(1, (.slice A1492 t1487.1.length c1493)), (2, (.int .i64 t1487.2)), (3, (.pointer (some ⟨g2036, 0, none⟩))), (4, (.int .i64 t2029.2.1)), (5, (.int .i64 t2029.2.2)), (22, (.agg #[(.int .i64 t2042.States), (.int .i64 t2042.Symbols), (.slice A2047 t2042.Actions.length c2048)])), (24, (.agg #[(.int .i64 0), (.int .i64 0), (.slice (some ⟨g2049, 0, none⟩) [0, 0, 0].length 3)]))] [] (fun fb => by kernel_rfl) rfl trivial ?_
  obtain ⟨t2702, ht2703, hf⟩ := bind_some hf
  refine WL.call (some 25) 12 #[(.agg #[(.int .i64 t2042.States), (.int .i64 t2042.Symbols), (.slice A2047 t2042.Actions.length c2048)]), (.agg #[(.int .i64 0), (.int .i64 0), (.slice (some ⟨g2049, 0, none⟩) [0, 0, 0].length 3)]), (.int .i64 3)] (fun fb => by kernel_rfl) (machine_Picture_calls _ t2042 (Config.mk 0 0 [0, 0, 0]) 3 A2047 c2048 (some ⟨g2049, 0, none⟩) 3 t2702 _ (hS2053.ow 1).ofO (hS2053.ow 0).ofO ht2703) (fun v w2704 hR2705 => ?_)
  obtain ⟨A2707, c2708, rfl, hk_⟩ := hR2705
  have hS2706 : St NoS w w2704 [] [rowO 3 encInt A2707 c2708 t2702.1.Cells, rowO 3 encInt (some ⟨g2049, 0, none⟩) 3 [0, 0, 0], rowO 88 enc_Action A2047 c2048 t2042.Actions, blk g2036 (.cells #[(.int .i64 t2029.1.State), (.int .i64 t2029.1.At), (.slice A2034 t2029.1.Cells.length c2035)] 27 (0, 0)), rowO 3 encInt A2034 c2035 t2029.1.Cells, rowO 3 encInt (some ⟨g1501, 0, none⟩) 3 [0, 0, 0], rowO 88 enc_Action A1499 c1500 t1494.Actions, rowO 65 enc_Tile A1492 c1493 t1487.1, rowO 88 enc_Action A43 c44 t38.Actions] := hS2053.call hk_ [] [0, 1, 2, 3, 4, 5, 6, 7] (fun g hg => hg.elim) (by simp) (by decide)
  refine ⟨trivial, ?_⟩
  refine seg 7 [] [1, 2, 3, 4, 5, 26, 27] [(1, (.slice A1492 t1487.1.length c1493)), (2, (.int .i64 t1487.2)), (3, (.pointer (some ⟨g2036, 0, none⟩))), (4, (.int .i64 t2029.2.1)), (5, (.int .i64 t2029.2.2)), (26, (.agg #[(.int .i64 t2702.1.Width), (.int .i64 t2702.1.Height), (.slice A2707 t2702.1.Cells.length c2708)])), (27, (.int .i64 t2702.2))] [] (fun fb => by kernel_rfl) rfl trivial ?_
  refine WL.new hS2706 6 [] (fun g => (.pointer (some ⟨g, 0, none⟩))) (.cells #[(.int .i64 0), (.int .i64 0), (.slice none 0 0)] 31 (0, 0)) [] (fun fb g => by kernel_rfl) trivial (fun g2709 w2710 hS2711 => ?_)
  refine ⟨trivial, ?_⟩
  refine WL.store hS2711 0 rfl [(0, (.int .i64 t2702.1.Width)), (1, (.int .i64 t2702.1.Height)), (2, (.slice A2707 t2702.1.Cells.length c2708))] #[(.int .i64 t2702.1.Width), (.int .i64 t2702.1.Height), (.slice A2707 t2702.1.Cells.length c2708)] (fun fb => by kernel_rfl) (by kernel_rfl) rfl [1, 2, 3, 4, 5, 6, 7, 8, 9] (by decide) (by decide) (fun w2713 hS2714 => ?_)
  refine ⟨trivial, ?_⟩
  refine seg 10 [] [1, 2, 3, 4, 5, 7] [(1, (.slice A1492 t1487.1.length c1493)), (2, (.int .i64 t1487.2)), (3, (.pointer (some ⟨g2036, 0, none⟩))), (4, (.int .i64 t2029.2.1)), (5, (.int .i64 t2029.2.2)), (7, (.int .i64 t2702.2))] [] (fun fb => by kernel_rfl) rfl trivial ?_
  refine WL.done rfl ?_
  refine WX.next ?_
  refine WC.seq ?_
  refine WC.region ?_
  refine seg 3 [] [1, 3, 4, 5, 7, 30] [(1, (.slice A1492 t1487.1.length c1493)), (3, (.pointer (some ⟨g2036, 0, none⟩))), (4, (.int .i64 t2029.2.1)), (5, (.int .i64 t2029.2.2)), (7, (.int .i64 t2702.2)), (30, (.bool (t1487.2 == 0)))] [] (fun fb => by kernel_rfl) rfl trivial ?_
  refine WL.cutV (T := Bool) 7 (fun t => [(34, (.bool t)), (3, (.pointer (some ⟨g2036, 0, none⟩))), (4, (.int .i64 t2029.2.1)), (5, (.int .i64 t2029.2.2)), (7, (.int .i64 t2702.2))]) (fun t => t = ((t1487.2 == 0) && ((t1487.1.length : Int) == 8))) (fun K => ?_) ?_
  ·
    rcases Bool.eq_false_or_eq_true (t1487.2 == 0) with h2715 | h2715
    ·
      refine WL.setB 30 h2715 rfl ?_
      refine seg 7 [] [3, 4, 5, 7, 34] [(3, (.pointer (some ⟨g2036, 0, none⟩))), (4, (.int .i64 t2029.2.1)), (5, (.int .i64 t2029.2.2)), (7, (.int .i64 t2702.2)), (34, (.bool ((t1487.1.length : Int) == 8)))] [] (fun fb => by kernel_rfl) rfl trivial ?_
      exact WL.toV K ((t1487.1.length : Int) == 8) [34, 3, 4, 5, 7] rfl (by rw [h2715]; rfl)
    refine WL.setB 30 h2715 rfl ?_
    refine seg 7 [] [3, 4, 5, 7, 34] [(3, (.pointer (some ⟨g2036, 0, none⟩))), (4, (.int .i64 t2029.2.1)), (5, (.int .i64 t2029.2.2)), (7, (.int .i64 t2702.2)), (34, (.bool false))] [] (fun fb => by kernel_rfl) rfl trivial ?_
    exact WL.toV K false [34, 3, 4, 5, 7] rfl (by rw [h2715]; rfl)
  rintro b2716 rfl
  refine seg 8 [] [3, 4, 5, 7, 35] [(3, (.pointer (some ⟨g2036, 0, none⟩))), (4, (.int .i64 t2029.2.1)), (5, (.int .i64 t2029.2.2)), (7, (.int .i64 t2702.2)), (35, (.bool ((t1487.2 == 0) && ((t1487.1.length : Int) == 8))))] [] (fun fb => by kernel_rfl) rfl trivial ?_
  refine WL.cutV (T := Bool) 11 (fun t => [(38, (.bool t)), (3, (.pointer (some ⟨g2036, 0, none⟩))), (4, (.int .i64 t2029.2.1)), (7, (.int .i64 t2702.2))]) (fun t => t = (((t1487.2 == 0) && ((t1487.1.length : Int) == 8)) && (t2029.2.2 == 0))) (fun K => ?_) ?_
  ·
    rcases Bool.eq_false_or_eq_true ((t1487.2 == 0) && ((t1487.1.length : Int) == 8)) with h2717 | h2717
    ·
      refine WL.setB 35 h2717 rfl ?_
      refine seg 11 [] [3, 4, 7, 38] [(3, (.pointer (some ⟨g2036, 0, none⟩))), (4, (.int .i64 t2029.2.1)), (7, (.int .i64 t2702.2)), (38, (.bool (t2029.2.2 == 0)))] [] (fun fb => by kernel_rfl) rfl trivial ?_
      exact WL.toV K (t2029.2.2 == 0) [38, 3, 4, 7] rfl (by rw [h2717]; rfl)
    refine WL.setB 35 h2717 rfl ?_
    refine seg 11 [] [3, 4, 7, 38] [(3, (.pointer (some ⟨g2036, 0, none⟩))), (4, (.int .i64 t2029.2.1)), (7, (.int .i64 t2702.2)), (38, (.bool false))] [] (fun fb => by kernel_rfl) rfl trivial ?_
    exact WL.toV K false [38, 3, 4, 7] rfl (by rw [h2717]; rfl)
  rintro b2718 rfl
  refine seg 12 [] [3, 4, 7, 39] [(3, (.pointer (some ⟨g2036, 0, none⟩))), (4, (.int .i64 t2029.2.1)), (7, (.int .i64 t2702.2)), (39, (.bool (((t1487.2 == 0) && ((t1487.1.length : Int) == 8)) && (t2029.2.2 == 0))))] [] (fun fb => by kernel_rfl) rfl trivial ?_
  refine WL.cutV (T := Bool) 15 (fun t => [(42, (.bool t)), (3, (.pointer (some ⟨g2036, 0, none⟩))), (7, (.int .i64 t2702.2))]) (fun t => t = ((((t1487.2 == 0) && ((t1487.1.length : Int) == 8)) && (t2029.2.2 == 0)) && (t2029.2.1 == 2))) (fun K => ?_) ?_
  ·
    rcases Bool.eq_false_or_eq_true (((t1487.2 == 0) && ((t1487.1.length : Int) == 8)) && (t2029.2.2 == 0)) with h2719 | h2719
    ·
      refine WL.setB 39 h2719 rfl ?_
      refine seg 15 [] [3, 7, 42] [(3, (.pointer (some ⟨g2036, 0, none⟩))), (7, (.int .i64 t2702.2)), (42, (.bool (t2029.2.1 == 2)))] [] (fun fb => by kernel_rfl) rfl trivial ?_
      exact WL.toV K (t2029.2.1 == 2) [42, 3, 7] rfl (by rw [h2719]; rfl)
    refine WL.setB 39 h2719 rfl ?_
    refine seg 15 [] [3, 7, 42] [(3, (.pointer (some ⟨g2036, 0, none⟩))), (7, (.int .i64 t2702.2)), (42, (.bool false))] [] (fun fb => by kernel_rfl) rfl trivial ?_
    exact WL.toV K false [42, 3, 7] rfl (by rw [h2719]; rfl)
  rintro b2720 rfl
  refine seg 16 [] [3, 7, 43] [(3, (.pointer (some ⟨g2036, 0, none⟩))), (7, (.int .i64 t2702.2)), (43, (.bool ((((t1487.2 == 0) && ((t1487.1.length : Int) == 8)) && (t2029.2.2 == 0)) && (t2029.2.1 == 2))))] [] (fun fb => by kernel_rfl) rfl trivial ?_
  refine WL.cutV (T := Bool) 20 (fun t => [(47, (.bool t)), (7, (.int .i64 t2702.2))]) (fun t => t = (((((t1487.2 == 0) && ((t1487.1.length : Int) == 8)) && (t2029.2.2 == 0)) && (t2029.2.1 == 2)) && (t2029.1.At == 2))) (fun K => ?_) ?_
  ·
    rcases Bool.eq_false_or_eq_true ((((t1487.2 == 0) && ((t1487.1.length : Int) == 8)) && (t2029.2.2 == 0)) && (t2029.2.1 == 2)) with h2721 | h2721
    ·
      refine WL.setB 43 h2721 rfl ?_
      refine seg 20 [.v (.int .i64 t2029.1.At)] [7, 47] [(7, (.int .i64 t2702.2)), (47, (.bool (t2029.1.At == 2)))] [.cell ⟨g2036, 1, none⟩ (.int .i64 t2029.1.At)] (fun fb => by kernel_rfl) rfl ⟨hS2714.cell 4 rfl 1 rfl, trivial⟩ ?_
      exact WL.toV K (t2029.1.At == 2) [47, 7] rfl (by rw [h2721]; rfl)
    refine WL.setB 43 h2721 rfl ?_
    refine seg 20 [] [7, 47] [(7, (.int .i64 t2702.2)), (47, (.bool false))] [] (fun fb => by kernel_rfl) rfl trivial ?_
    exact WL.toV K false [47, 7] rfl (by rw [h2721]; rfl)
  rintro b2722 rfl
  refine seg 21 [] [7, 48] [(7, (.int .i64 t2702.2)), (48, (.bool (((((t1487.2 == 0) && ((t1487.1.length : Int) == 8)) && (t2029.2.2 == 0)) && (t2029.2.1 == 2)) && (t2029.1.At == 2))))] [] (fun fb => by kernel_rfl) rfl trivial ?_
  refine WL.cutV (T := Bool) 24 (fun t => [(51, (.bool t))]) (fun t => t = ((((((t1487.2 == 0) && ((t1487.1.length : Int) == 8)) && (t2029.2.2 == 0)) && (t2029.2.1 == 2)) && (t2029.1.At == 2)) && (t2702.2 == 6))) (fun K => ?_) ?_
  ·
    rcases Bool.eq_false_or_eq_true (((((t1487.2 == 0) && ((t1487.1.length : Int) == 8)) && (t2029.2.2 == 0)) && (t2029.2.1 == 2)) && (t2029.1.At == 2)) with h2723 | h2723
    ·
      refine WL.setB 48 h2723 rfl ?_
      refine seg 24 [] [51] [(51, (.bool (t2702.2 == 6)))] [] (fun fb => by kernel_rfl) rfl trivial ?_
      exact WL.toV K (t2702.2 == 6) [51] rfl (by rw [h2723]; rfl)
    refine WL.setB 48 h2723 rfl ?_
    refine seg 24 [] [51] [(51, (.bool false))] [] (fun fb => by kernel_rfl) rfl trivial ?_
    exact WL.toV K false [51] rfl (by rw [h2723]; rfl)
  rintro b2724 rfl
  refine seg 25 [] [0] [(0, (.bool ((((((t1487.2 == 0) && ((t1487.1.length : Int) == 8)) && (t2029.2.2 == 0)) && (t2029.2.1 == 2)) && (t2029.1.At == 2)) && (t2702.2 == 6))))] [] (fun fb => by kernel_rfl) rfl trivial ?_
  refine WL.done rfl ?_
  refine WX.next ?_
  refine WC.ret ?_
  injection hf with hf
  subst hf
  exact WX.ret_ [] (.bool ((((((t1487.2 == 0) && ((t1487.1.length : Int) == 8)) && (t2029.2.2 == 0)) && (t2029.2.1 == 2)) && (t2029.1.At == 2)) && (t2702.2 == 6))) [] (fun fb => by kernel_rfl) trivial ⟨_, rfl, rfl, hS2714.keep⟩
theorem machine_colours_calls (p0 : Machine) (p1 : Config) (A_p0_Actions : Option Addr) (c_p0_Actions : Nat) (A_p1_Cells : Option Addr) (c_p1_Cells : Nat) (r : (List Int)) (w : World) (hR0 : RO NoS w (rowR enc_Action A_p0_Actions c_p0_Actions p0.Actions)) (hR1 : RO NoS w (rowR encInt A_p1_Cells c_p1_Cells p1.Cells)) (hf : machine_colours p0 p1 = some r) :
    CallsR Try.prog 53 #[(.agg #[(.int .i64 p0.States), (.int .i64 p0.Symbols), (.slice A_p0_Actions p0.Actions.length c_p0_Actions)]), (.agg #[(.int .i64 p1.State), (.int .i64 p1.At), (.slice A_p1_Cells p1.Cells.length c_p1_Cells)])] w (fun v w' => ∃ (A1_ : Option Addr), ∃ (c1_ : Nat), v = (.slice A1_ r.length c1_) ∧ St NoS w w' [] [rowO 3 encInt A1_ c1_ r]) := by
  have hS : St NoS w w [rowR enc_Action A_p0_Actions c_p0_Actions p0.Actions, rowR encInt A_p1_Cells c_p1_Cells p1.Cells] [] := St.init (ro_cons hR0 (ro_cons hR1 (ro_nil _ _)))
  refine enter 23 Try.func53 rfl Try.ntmps53 rfl ?_
  unfold machine_colours at hf
  refine WC.seq ?_
  refine WC.region ?_
  refine WL.new hS 2 [] (fun g => (.pointer (some ⟨g, 0, none⟩))) (.cells #[(.int .i64 p0.States), (.int .i64 p0.Symbols), (.slice A_p0_Actions p0.Actions.length c_p0_Actions)] 24 (0, 0)) [] (fun fb g => by kernel_rfl) trivial (fun g2752 w2753 hS2754 => ?_)
  refine ⟨trivial, ?_⟩
  refine WL.new hS2754 3 [] (fun g => (.pointer (some ⟨g, 0, none⟩))) (.cells #[(.int .i64 p1.State), (.int .i64 p1.At), (.slice A_p1_Cells p1.Cells.length c_p1_Cells)] 27 (0, 0)) [] (fun fb g => by kernel_rfl) trivial (fun g2756 w2757 hS2758 => ?_)
  refine ⟨trivial, ?_⟩
  refine seg 3 [] [2, 3] [(2, (.pointer (some ⟨g2752, 0, none⟩))), (3, (.pointer (some ⟨g2756, 0, none⟩)))] [] (fun fb => by kernel_rfl) rfl trivial ?_
  refine WL.done rfl ?_
  refine WX.next ?_
  refine WC.seq ?_
  refine WC.region ?_
  refine seg 2 [.v (.slice A_p1_Cells p1.Cells.length c_p1_Cells)] [2, 3, 7] [(2, (.pointer (some ⟨g2752, 0, none⟩))), (3, (.pointer (some ⟨g2756, 0, none⟩))), (7, (.slice A_p1_Cells p1.Cells.length c_p1_Cells))] [.cell ⟨g2756, 2, none⟩ (.slice A_p1_Cells p1.Cells.length c_p1_Cells)] (fun fb => by kernel_rfl) rfl ⟨hS2758.cell 0 rfl 2 rfl, trivial⟩ ?_
  obtain ⟨t2760, ht2761, hf⟩ := bind_some hf
  refine WL.call (some 8) 54 #[(.slice A_p1_Cells p1.Cells.length c_p1_Cells)] (fun fb => by kernel_rfl) (slices_Clone_int_int_calls p1.Cells A_p1_Cells c_p1_Cells t2760 _ (hS2758.rd 1) ht2761) (fun v w2762 hR2763 => ?_)
  obtain ⟨A2765, c2766, rfl, hk_⟩ := hR2763
  have hS2764 : St NoS w w2762 [rowR enc_Action A_p0_Actions c_p0_Actions p0.Actions, rowR encInt A_p1_Cells c_p1_Cells p1.Cells] [rowO 3 encInt A2765 c2766 t2760, blk g2756 (.cells #[(.int .i64 p1.State), (.int .i64 p1.At), (.slice A_p1_Cells p1.Cells.length c_p1_Cells)] 27 (0, 0)), blk g2752 (.cells #[(.int .i64 p0.States), (.int .i64 p0.Symbols), (.slice A_p0_Actions p0.Actions.length c_p0_Actions)] 24 (0, 0))] := hS2758.call hk_ [] [0, 1] (fun g hg => hg.elim) (by simp) (by decide)
  refine ⟨trivial, ?_⟩
  refine seg 4 [] [2, 3, 5] [(2, (.pointer (some ⟨g2752, 0, none⟩))), (3, (.pointer (some ⟨g2756, 0, none⟩))), (5, (.slice A2765 t2760.length c2766))] [] (fun fb => by kernel_rfl) rfl trivial ?_
  refine WL.done rfl ?_
  refine WX.next ?_
  refine WC.seq ?_
  obtain ⟨h2778, hf⟩ := as_some hf
  refine WC.regionD ([(2, ⟨g2756, 1, none⟩, (.int .i64 p1.At)), (3, ⟨g2752, 0, none⟩, (.int .i64 p0.States)), (3, ⟨g2752, 1, none⟩, (.int .i64 p0.Symbols)), (3, ⟨g2752, 2, none⟩, (.slice A_p0_Actions p0.Actions.length c_p0_Actions)), (5, ⟨g2756, 0, none⟩, (.int .i64 p1.State)), (8, ⟨g2756, 1, none⟩, (.int .i64 p1.At)), (10, ((adr A2765).add ((p1.At).toNat * 1)), (.int .i64 (rdD t2760 p1.At 0)))], [0, 1, 2, 3, 4, 5, 6, 7, 8, 9, 10, 12], [[], [], [1], [], [], [4], [], [], [7], [6, 7, 8], [6, 7, 8, 9], [3, 4, 5, 6, 7, 8, 9, 10], [0, 1, 2, 3, 4, 5, 6, 7, 8, 9, 10, 11], [0, 1, 2, 3, 4, 5, 6, 7, 8, 9, 10, 11, 12]]) [[0, 1, 2, 3, 4, 5, 6, 7, 8, 9, 10, 11, 12, 13]] (by kernel_rfl) (by kernel_rfl) (NoPanic.seq (NoPanic.body)) ?_
  have hS2776 := hS2764.drew
  revert hS2776
  generalize World.drew w2762 = w2775
  intro hS2776
  refine ⟨⟨hS2776.cell 1 rfl 1 rfl, hS2776.cell 2 rfl 0 rfl, hS2776.cell 2 rfl 1 rfl, hS2776.cell 2 rfl 2 rfl, hS2776.cell 1 rfl 0 rfl, hS2776.cell 1 rfl 1 rfl, rowR.cell (rowO.rd (hS2776.own 0).1) 0 h2778.1 h2778.2 0 rfl, trivial⟩, forallC ?_ (forallN)⟩
  refine segF 11 [.v (.int .i64 p1.At), .v (.int .i64 p0.States), .v (.int .i64 p0.Symbols), .v (.slice A_p0_Actions p0.Actions.length c_p0_Actions), .v (.int .i64 p1.State), .v (.int .i64 p1.At), .v (.int .i64 (rdD t2760 p1.At 0))] [5, 9, 11, 12, 14, 19] [(5, (.slice A2765 t2760.length c2766)), (9, (.slice A2765 t2760.length c2766)), (11, (.int .i64 p1.At)), (12, (.agg #[(.int .i64 p0.States), (.int .i64 p0.Symbols), (.slice A_p0_Actions p0.Actions.length c_p0_Actions)])), (14, (.int .i64 p1.State)), (19, (.int .i64 (rdD t2760 p1.At 0)))] [.idx A2765 p1.At t2760.length] [0, 1, 2, 3, 4, 5, 6] [(2, ⟨g2756, 1, none⟩, (.int .i64 p1.At)), (3, ⟨g2752, 0, none⟩, (.int .i64 p0.States)), (3, ⟨g2752, 1, none⟩, (.int .i64 p0.Symbols)), (3, ⟨g2752, 2, none⟩, (.slice A_p0_Actions p0.Actions.length c_p0_Actions)), (5, ⟨g2756, 0, none⟩, (.int .i64 p1.State)), (8, ⟨g2756, 1, none⟩, (.int .i64 p1.At)), (10, ((adr A2765).add ((p1.At).toNat * 1)), (.int .i64 (rdD t2760 p1.At 0)))] (fun fb => by kernel_rfl) rfl ⟨rowR.adr (rowO.rd (hS2776.own 0).1) h2778.1 h2778.2, trivial⟩ rfl ?_
  obtain ⟨t2779, ht2780, hf⟩ := bind_some hf
  refine WL.call (some 20) 61 #[(.agg #[(.int .i64 p0.States), (.int .i64 p0.Symbols), (.slice A_p0_Actions p0.Actions.length c_p0_Actions)]), (.int .i64 p1.State), (.int .i64 (rdD t2760 p1.At 0))] (fun fb => by kernel_rfl) (machine_head_calls p0 p1.State (rdD t2760 p1.At 0) A_p0_Actions c_p0_Actions t2779 _ (hS2776.rd 0) ht2780) (fun v w2781 hR2782 => ?_)
  obtain ⟨rfl, hk_⟩ := hR2782
  have hS2783 := hS2776.keepN hk_
  refine ⟨⟨hS2783.cell 1 rfl 1 rfl, trivial⟩, ?_⟩
  refine seg 13 [] [5, 20, 21] [(5, (.slice A2765 t2760.length c2766)), (20, (.int .i64 t2779)), (21, (.pointer (some ((adr A2765).add ((p1.At).toNat * 1)))))] [.idx A2765 p1.At t2760.length] (fun fb => by kernel_rfl) rfl ⟨rowR.adr (rowO.rd (hS2783.own 0).1) h2778.1 h2778.2, trivial⟩ ?_
  refine WL.storeRow hS2783 0 rfl (p1.At) (t2779) (0) [(0, (.int .i64 t2779))] (fun fb => by kernel_rfl) h2778.1 h2778.2 (by kernel_rfl) rfl [1, 2] (by decide) (by decide) (fun w2784 hS2785 => ?_)
  refine ⟨trivial, ?_⟩
  refine WL.reE [5] [(5, (.slice A2765 t2760.length c2766))] [(5, (.slice A2765 (t2760.set (p1.At).toNat t2779).length c2766))] rfl (by simp only [List.length_set]) ?_
  refine WL.done rfl ?_
  refine WX.next ?_
  refine WC.seq ?_
  refine WC.region ?_
  refine seg 2 [] [4] [(4, (.slice A2765 (t2760.set (p1.At).toNat t2779).length c2766))] [] (fun fb => by kernel_rfl) rfl trivial ?_
  refine WL.done rfl ?_
  refine WX.next ?_
  refine WC.ret ?_
  injection hf with hf
  subst hf
  exact WX.ret_ [] (.slice A2765 (t2760.set (p1.At).toNat t2779).length c2766) [] (fun fb => by kernel_rfl) trivial ⟨_, rfl, A2765, c2766, rfl, (hS2785.sub [0] (by decide)).noR⟩
theorem machine_Colours_calls (k : Nat) (p0 : Machine) (p1 : Config) (A_p0_Actions : Option Addr) (c_p0_Actions : Nat) (A_p1_Cells : Option Addr) (c_p1_Cells : Nat) (r : (List Int) × Int) (w : World) (hR0 : RO NoS w (rowR enc_Action A_p0_Actions c_p0_Actions p0.Actions)) (hR1 : RO NoS w (rowR encInt A_p1_Cells c_p1_Cells p1.Cells)) (hf : machine_Colours k p0 p1 = some r) :
    CallsR Try.prog 26 #[(.agg #[(.int .i64 p0.States), (.int .i64 p0.Symbols), (.slice A_p0_Actions p0.Actions.length c_p0_Actions)]), (.agg #[(.int .i64 p1.State), (.int .i64 p1.At), (.slice A_p1_Cells p1.Cells.length c_p1_Cells)])] w (fun v w' => ∃ (A1_ : Option Addr), ∃ (c1_ : Nat), v = (.tuple #[(.slice A1_ r.1.length c1_), (.int .i64 r.2)]) ∧ St NoS w w' [] [rowO 3 encInt A1_ c1_ r.1]) := by
  have hS : St NoS w w [rowR enc_Action A_p0_Actions c_p0_Actions p0.Actions, rowR encInt A_p1_Cells c_p1_Cells p1.Cells] [] := St.init (ro_cons hR0 (ro_cons hR1 (ro_nil _ _)))
  refine enter 13 Try.func26 rfl Try.ntmps26 rfl ?_
  unfold machine_Colours at hf
  refine WC.seq ?_
  refine WC.region ?_
  refine WL.new hS 2 [] (fun g => (.pointer (some ⟨g, 0, none⟩))) (.cells #[(.int .i64 p0.States), (.int .i64 p0.Symbols), (.slice A_p0_Actions p0.Actions.length c_p0_Actions)] 24 (0, 0)) [] (fun fb g => by kernel_rfl) trivial (fun g2737 w2738 hS2739 => ?_)
  refine ⟨trivial, ?_⟩
  refine WL.new hS2739 3 [] (fun g => (.pointer (some ⟨g, 0, none⟩))) (.cells #[(.int .i64 p1.State), (.int .i64 p1.At), (.slice A_p1_Cells p1.Cells.length c_p1_Cells)] 27 (0, 0)) [] (fun fb g => by kernel_rfl) trivial (fun g2741 w2742 hS2743 => ?_)
  refine ⟨trivial, ?_⟩
  refine seg 4 [] [2, 3] [(2, (.pointer (some ⟨g2737, 0, none⟩))), (3, (.pointer (some ⟨g2741, 0, none⟩)))] [] (fun fb => by kernel_rfl) rfl trivial ?_
  refine WL.done rfl ?_
  refine WX.next ?_
  refine WC.seq ?_
  refine WC.seq ?_
  refine WC.region ?_
  refine seg 2 [.v (.int .i64 p0.States), .v (.int .i64 p0.Symbols), .v (.slice A_p0_Actions p0.Actions.length c_p0_Actions), .v (.int .i64 p1.State), .v (.int .i64 p1.At), .v (.slice A_p1_Cells p1.Cells.length c_p1_Cells)] [2, 3, 6, 7] [(2, (.pointer (some ⟨g2737, 0, none⟩))), (3, (.pointer (some ⟨g2741, 0, none⟩))), (6, (.agg #[(.int .i64 p0.States), (.int .i64 p0.Symbols), (.slice A_p0_Actions p0.Actions.length c_p0_Actions)])), (7, (.agg #[(.int .i64 p1.State), (.int .i64 p1.At), (.slice A_p1_Cells p1.Cells.length c_p1_Cells)]))] [.cell ⟨g2737, 0, none⟩ (.int .i64 p0.States), .cell ⟨g2737, 1, none⟩ (.int .i64 p0.Symbols), .cell ⟨g2737, 2, none⟩ (.slice A_p0_Actions p0.Actions.length c_p0_Actions), .cell ⟨g2741, 0, none⟩ (.int .i64 p1.State), .cell ⟨g2741, 1, none⟩ (.int .i64 p1.At), .cell ⟨g2741, 2, none⟩ (.slice A_p1_Cells p1.Cells.length c_p1_Cells)] (fun fb => by kernel_rfl) rfl ⟨hS2743.cell 1 rfl 0 rfl, hS2743.cell 1 rfl 1 rfl, hS2743.cell 1 rfl 2 rfl, hS2743.cell 0 rfl 0 rfl, hS2743.cell 0 rfl 1 rfl, hS2743.cell 0 rfl 2 rfl, trivial⟩ ?_
  obtain ⟨t2745, ht2746, hf⟩ := bind_some hf
  refine WL.call (some 8) 18 #[(.agg #[(.int .i64 p0.States), (.int .i64 p0.Symbols), (.slice A_p0_Actions p0.Actions.length c_p0_Actions)]), (.agg #[(.int .i64 p1.State), (.int .i64 p1.At), (.slice A_p1_Cells p1.Cells.length c_p1_Cells)])] (fun fb => by kernel_rfl) (machine_Fits_calls _ p0 p1 A_p0_Actions c_p0_Actions A_p1_Cells c_p1_Cells t2745 _ (hS2743.rd 0) (hS2743.rd 1) ht2746) (fun v w2747 hR2748 => ?_)
  obtain ⟨rfl, hk_⟩ := hR2748
  have hS2749 := hS2743.keepN hk_
  refine ⟨trivial, ?_⟩
  refine seg 4 [] [2, 3, 9] [(2, (.pointer (some ⟨g2737, 0, none⟩))), (3, (.pointer (some ⟨g2741, 0, none⟩))), (9, (.bool (!t2745)))] [] (fun fb => by kernel_rfl) rfl trivial ?_
  refine WL.done rfl ?_
  refine WX.next ?_
  rcases br_some hf with ⟨h2750, hf⟩ | ⟨h2750, hf⟩
  · refine WC.condT2 (fun fb => by kernel_rfl) h2750 ?_
    refine WC.seq ?_
    refine WC.region ?_
    refine seg 2 [] [4, 5] [(4, (.slice none 0 0)), (5, (.int .i64 1))] [] (fun fb => by kernel_rfl) rfl trivial ?_
    refine WL.done rfl ?_
    refine WX.next ?_
    refine WC.ret ?_
    have hS2751 := hS2749.nilrow 3 encInt
    injection hf with hf
    subst hf
    exact WX.thenR (WX.ret_ [] (.tuple #[(.slice none ([] : List Int).length 0), (.int .i64 1)]) [] (fun fb => by kernel_rfl) trivial ⟨_, rfl, none, 0, rfl, (hS2751.sub [0] (by decide)).noR⟩)
  refine WC.condF2 (fun fb => by kernel_rfl) h2750 ?_
  refine WC.skip ?_
  refine WX.next ?_
  refine WC.seq ?_
  refine WC.region ?_
  refine seg 2 [.v (.int .i64 p0.States), .v (.int .i64 p0.Symbols), .v (.slice A_p0_Actions p0.Actions.length c_p0_Actions), .v (.int .i64 p1.State), .v (.int .i64 p1.At), .v (.slice A_p1_Cells p1.Cells.length c_p1_Cells)] [10, 11] [(10, (.agg #[(.int .i64 p0.States), (.int .i64 p0.Symbols), (.slice A_p0_Actions p0.Actions.length c_p0_Actions)])), (11, (.agg #[(.int .i64 p1.State), (.int .i64 p1.At), (.slice A_p1_Cells p1.Cells.length c_p1_Cells)]))] [.cell ⟨g2737, 0, none⟩ (.int .i64 p0.States), .cell ⟨g2737, 1, none⟩ (.int .i64 p0.Symbols), .cell ⟨g2737, 2, none⟩ (.slice A_p0_Actions p0.Actions.length c_p0_Actions), .cell ⟨g2741, 0, none⟩ (.int .i64 p1.State), .cell ⟨g2741, 1, none⟩ (.int .i64 p1.At), .cell ⟨g2741, 2, none⟩ (.slice A_p1_Cells p1.Cells.length c_p1_Cells)] (fun fb => by kernel_rfl) rfl ⟨hS2749.cell 1 rfl 0 rfl, hS2749.cell 1 rfl 1 rfl, hS2749.cell 1 rfl 2 rfl, hS2749.cell 0 rfl 0 rfl, hS2749.cell 0 rfl 1 rfl, hS2749.cell 0 rfl 2 rfl, trivial⟩ ?_
  obtain ⟨t2786, ht2787, hf⟩ := bind_some hf
  refine WL.call (some 12) 53 #[(.agg #[(.int .i64 p0.States), (.int .i64 p0.Symbols), (.slice A_p0_Actions p0.Actions.length c_p0_Actions)]), (.agg #[(.int .i64 p1.State), (.int .i64 p1.At), (.slice A_p1_Cells p1.Cells.length c_p1_Cells)])] (fun fb => by kernel_rfl) (machine_colours_calls p0 p1 A_p0_Actions c_p0_Actions A_p1_Cells c_p1_Cells t2786 _ (hS2749.rd 0) (hS2749.rd 1) ht2787) (fun v w2788 hR2789 => ?_)
  obtain ⟨A2791, c2792, rfl, hk_⟩ := hR2789
  have hS2790 : St NoS w w2788 [rowR enc_Action A_p0_Actions c_p0_Actions p0.Actions, rowR encInt A_p1_Cells c_p1_Cells p1.Cells] [rowO 3 encInt A2791 c2792 t2786, blk g2741 (.cells #[(.int .i64 p1.State), (.int .i64 p1.At), (.slice A_p1_Cells p1.Cells.length c_p1_Cells)] 27 (0, 0)), blk g2737 (.cells #[(.int .i64 p0.States), (.int .i64 p0.Symbols), (.slice A_p0_Actions p0.Actions.length c_p0_Actions)] 24 (0, 0))] := hS2749.call hk_ [] [0, 1] (fun g hg => hg.elim) (by simp) (by decide)
  refine ⟨trivial, ?_⟩
  refine seg 5 [] [4, 5] [(4, (.slice A2791 t2786.length c2792)), (5, (.int .i64 0))] [] (fun fb => by kernel_rfl) rfl trivial ?_
  refine WL.done rfl ?_
  refine WX.next ?_
  refine WC.ret ?_
  injection hf with hf
  subst hf
  exact WX.ret_ [] (.tuple #[(.slice A2791 t2786.length c2792), (.int .i64 0)]) [] (fun fb => by kernel_rfl) trivial ⟨_, rfl, A2791, c2792, rfl, (hS2790.sub [0] (by decide)).noR⟩
theorem machine_Read_calls (k : Nat) (p0 : Machine) (p1 : List Int) (A_p0_Actions : Option Addr) (c_p0_Actions : Nat) (A_p1 : Option Addr) (c_p1 : Nat) (r : Config × Int) (w : World) (hR0 : RO NoS w (rowR enc_Action A_p0_Actions c_p0_Actions p0.Actions)) (hR1 : RO NoS w (rowR encInt A_p1 c_p1 p1)) (hf : machine_Read k p0 p1 = some r) :
    CallsR Try.prog 27 #[(.agg #[(.int .i64 p0.States), (.int .i64 p0.Symbols), (.slice A_p0_Actions p0.Actions.length c_p0_Actions)]), (.slice A_p1 p1.length c_p1)] w (fun v w' => ∃ (A1_ : Option Addr), ∃ (c1_ : Nat), v = (.tuple #[(.agg #[(.int .i64 r.1.State), (.int .i64 r.1.At), (.slice A1_ r.1.Cells.length c1_)]), (.int .i64 r.2)]) ∧ St NoS w w' [] [rowO 3 encInt A1_ c1_ r.1.Cells]) := by
  have hS : St NoS w w [rowR enc_Action A_p0_Actions c_p0_Actions p0.Actions, rowR encInt A_p1 c_p1 p1] [] := St.init (ro_cons hR0 (ro_cons hR1 (ro_nil _ _)))
  refine enter 60 Try.func27 rfl Try.ntmps27 rfl ?_
  unfold machine_Read at hf
  refine WC.seq ?_
  refine WC.region ?_
  refine WL.new hS 2 [] (fun g => (.pointer (some ⟨g, 0, none⟩))) (.cells #[(.int .i64 p0.States), (.int .i64 p0.Symbols), (.slice A_p0_Actions p0.Actions.length c_p0_Actions)] 24 (0, 0)) [] (fun fb g => by kernel_rfl) trivial (fun g2800 w2801 hS2802 => ?_)
  refine ⟨trivial, ?_⟩
  refine WL.new hS2802 4 [] (fun g => (.pointer (some ⟨g, 0, none⟩))) (.cells #[(.int .i64 0), (.int .i64 0), (.slice none 0 0)] 27 (0, 0)) [] (fun fb g => by kernel_rfl) trivial (fun g2804 w2805 hS2806 => ?_)
  refine ⟨trivial, ?_⟩
  refine seg 3 [] [1, 2, 4] [(1, (.slice A_p1 p1.length c_p1)), (2, (.pointer (some ⟨g2800, 0, none⟩))), (4, (.pointer (some ⟨g2804, 0, none⟩)))] [] (fun fb => by kernel_rfl) rfl trivial ?_
  refine WL.done rfl ?_
  refine WX.next ?_
  refine WC.seq ?_
  refine WC.seq ?_
  refine WC.region ?_
  refine seg 1 [.v (.int .i64 p0.States), .v (.int .i64 p0.Symbols), .v (.slice A_p0_Actions p0.Actions.length c_p0_Actions)] [1, 2, 4, 10] [(1, (.slice A_p1 p1.length c_p1)), (2, (.pointer (some ⟨g2800, 0, none⟩))), (4, (.pointer (some ⟨g2804, 0, none⟩))), (10, (.agg #[(.int .i64 p0.States), (.int .i64 p0.Symbols), (.slice A_p0_Actions p0.Actions.length c_p0_Actions)]))] [.cell ⟨g2800, 0, none⟩ (.int .i64 p0.States), .cell ⟨g2800, 1, none⟩ (.int .i64 p0.Symbols), .cell ⟨g2800, 2, none⟩ (.slice A_p0_Actions p0.Actions.length c_p0_Actions)] (fun fb => by kernel_rfl) rfl ⟨hS2806.cell 1 rfl 0 rfl, hS2806.cell 1 rfl 1 rfl, hS2806.cell 1 rfl 2 rfl, trivial⟩ ?_
  obtain ⟨t2808, ht2809, hf⟩ := bind_some hf
  refine WL.call (some 11) 16 #[(.agg #[(.int .i64 p0.States), (.int .i64 p0.Symbols), (.slice A_p0_Actions p0.Actions.length c_p0_Actions)])] (fun fb => by kernel_rfl) (machine_Valid_calls _ p0 A_p0_Actions c_p0_Actions t2808 _ (hS2806.rd 0) ht2809) (fun v w2810 hR2811 => ?_)
  obtain ⟨rfl, hk_⟩ := hR2811
  have hS2812 := hS2806.keepN hk_
  refine ⟨trivial, ?_⟩
  refine seg 3 [] [1, 2, 4, 12] [(1, (.slice A_p1 p1.length c_p1)), (2, (.pointer (some ⟨g2800, 0, none⟩))), (4, (.pointer (some ⟨g2804, 0, none⟩))), (12, (.bool (!t2808)))] [] (fun fb => by kernel_rfl) rfl trivial ?_
  refine WL.done rfl ?_
  refine WX.next ?_
  rcases br_some hf with ⟨h2813, hf⟩ | ⟨h2813, hf⟩
  · refine WC.condT2 (fun fb => by kernel_rfl) h2813 ?_
    refine WC.seq ?_
    refine WC.region ?_
    refine seg 1 [] [4, 13] [(4, (.pointer (some ⟨g2804, 0, none⟩))), (13, (.agg #[(.int .i64 0), (.int .i64 0), (.slice none 0 0)]))] [] (fun fb => by kernel_rfl) rfl trivial ?_
    refine WL.store hS2812 0 rfl [(0, (.int .i64 0)), (1, (.int .i64 0)), (2, (.slice none 0 0))] #[(.int .i64 0), (.int .i64 0), (.slice none 0 0)] (fun fb => by kernel_rfl) (by kernel_rfl) rfl [1] (by decide) (by decide) (fun w2814 hS2815 => ?_)
    refine ⟨trivial, ?_⟩
    refine seg 3 [] [4, 5] [(4, (.pointer (some ⟨g2804, 0, none⟩))), (5, (.int .i64 1))] [] (fun fb => by kernel_rfl) rfl trivial ?_
    refine WL.done rfl ?_
    refine WX.next ?_
    refine WC.ret ?_
    have hS2816 := hS2815.nilrow 3 encInt
    injection hf with hf
    subst hf
    exact WX.thenR (WX.ret_ [.v (.int .i64 0), .v (.int .i64 0), .v (.slice none 0 0)] (.tuple #[(.agg #[(.int .i64 0), (.int .i64 0), (.slice none ([] : List Int).length 0)]), (.int .i64 1)]) [.cell ⟨g2804, 0, none⟩ (.int .i64 0), .cell ⟨g2804, 1, none⟩ (.int .i64 0), .cell ⟨g2804, 2, none⟩ (.slice none 0 0)] (fun fb => by kernel_rfl) ⟨hS2815.cell 0 rfl 0 rfl, hS2815.cell 0 rfl 1 rfl, hS2815.cell 0 rfl 2 rfl, trivial⟩ ⟨_, rfl, none, 0, rfl, (hS2816.sub [0] (by decide)).noR⟩)
  refine WC.condF2 (fun fb => by kernel_rfl) h2813 ?_
  refine WC.skip ?_
  refine WX.next ?_
  refine WC.seq ?_
  refine WC.region ?_
  refine seg 1 [] [1, 2, 4, 14] [(1, (.slice A_p1 p1.length c_p1)), (2, (.pointer (some ⟨g2800, 0, none⟩))), (4, (.pointer (some ⟨g2804, 0, none⟩))), (14, (.slice A_p1 p1.length c_p1))] [] (fun fb => by kernel_rfl) rfl trivial ?_
  obtain ⟨t2817, ht2818, hf⟩ := bind_some hf
  refine WL.call (some 15) 54 #[(.slice A_p1 p1.length c_p1)] (fun fb => by kernel_rfl) (slices_Clone_int_int_calls p1 A_p1 c_p1 t2817 _ (hS2812.rd 1) ht2818) (fun v w2819 hR2820 => ?_)
  obtain ⟨A2822, c2823, rfl, hk_⟩ := hR2820
  have hS2821 : St NoS w w2819 [rowR enc_Action A_p0_Actions c_p0_Actions p0.Actions, rowR encInt A_p1 c_p1 p1] [rowO 3 encInt A2822 c2823 t2817, blk g2804 (.cells #[(.int .i64 0), (.int .i64 0), (.slice none 0 0)] 27 (0, 0)), blk g2800 (.cells #[(.int .i64 p0.States), (.int .i64 p0.Symbols), (.slice A_p0_Actions p0.Actions.length c_p0_Actions)] 24 (0, 0))] := hS2812.call hk_ [] [0, 1] (fun g hg => hg.elim) (by simp) (by decide)
  refine ⟨trivial, ?_⟩
  refine seg 3 [] [1, 2, 4, 16] [(1, (.slice A_p1 p1.length c_p1)), (2, (.pointer (some ⟨g2800, 0, none⟩))), (4, (.pointer (some ⟨g2804, 0, none⟩))), (16, (.agg #[(.int .i64 0), (.int .i64 0), (.slice A2822 t2817.length c2823)]))] [] (fun fb => by kernel_rfl) rfl trivial ?_
  refine WL.new hS2821 6 [] (fun g => (.pointer (some ⟨g, 0, none⟩))) (.cells #[(.int .i64 0), (.int .i64 0), (.slice none 0 0)] 27 (0, 0)) [] (fun fb g => by kernel_rfl) trivial (fun g2824 w2825 hS2826 => ?_)
  refine ⟨trivial, ?_⟩
  refine WL.store hS2826 0 rfl [(0, (.int .i64 0)), (1, (.int .i64 0)), (2, (.slice A2822 t2817.length c2823))] #[(.int .i64 0), (.int .i64 0), (.slice A2822 t2817.length c2823)] (fun fb => by kernel_rfl) (by kernel_rfl) rfl [1, 2, 3] (by decide) (by decide) (fun w2828 hS2829 => ?_)
  refine ⟨trivial, ?_⟩
  refine WL.done rfl ?_
  refine WX.next ?_
  refine WC.seq ?_
  refine WC.region ?_
  refine seg 1 [] [1, 2, 4, 6, 7] [(1, (.slice A_p1 p1.length c_p1)), (2, (.pointer (some ⟨g2800, 0, none⟩))), (4, (.pointer (some ⟨g2804, 0, none⟩))), (6, (.pointer (some ⟨g2824, 0, none⟩))), (7, (.int .i64 0))] [] (fun fb => by kernel_rfl) rfl trivial ?_
  refine WL.done rfl ?_
  refine WX.next ?_
  refine WC.seq ?_
  refine WC.seq ?_
  refine WC.region ?_
  refine seg 3 [] [2, 4, 6, 7, 17, 18, 19] [(2, (.pointer (some ⟨g2800, 0, none⟩))), (4, (.pointer (some ⟨g2804, 0, none⟩))), (6, (.pointer (some ⟨g2824, 0, none⟩))), (7, (.int .i64 0)), (17, (.slice A_p1 p1.length c_p1)), (18, (.int .i64 (p1.length : Int))), (19, (.int .i64 0))] [] (fun fb => by kernel_rfl) rfl trivial ?_
  refine WL.done rfl ?_
  refine WX.next ?_
  obtain ⟨x3032, hx3033, hf⟩ := bind_some hf
  refine WC.cutN (T := (Int × Int × (List Int) × Int) × (Option Addr) × Nat) (fun t => [(2, (.pointer (some ⟨g2800, 0, none⟩))), (4, (.pointer (some ⟨g2804, 0, none⟩))), (6, (.pointer (some ⟨g2824, 0, none⟩))), (7, (.int .i64 t.1.2.2.2))]) (fun t w1 => St NoS w w1 [rowR enc_Action A_p0_Actions c_p0_Actions p0.Actions, rowR encInt A_p1 c_p1 p1] [blk g2800 (.cells #[(.int .i64 p0.States), (.int .i64 p0.Symbols), (.slice A_p0_Actions p0.Actions.length c_p0_Actions)] 24 (0, 0)), blk g2804 (.cells #[(.int .i64 0), (.int .i64 0), (.slice none 0 0)] 27 (0, 0)), blk g2824 (.cells #[(.int .i64 t.1.1), (.int .i64 t.1.2.1), (.slice t.2.1 t.1.2.2.1.length t.2.2)] 27 (0, 0)), rowO 3 encInt t.2.1 t.2.2 t.1.2.2.1] ∧ x3032 = t.1) (fun Kx3032 => ?_) ?_
  ·
    refine WC.block ?_
    refine WC.loop (T := (Int × Int × (List Int) × Int × Int) × (Option Addr) × Nat) (fun t => [(2, (.pointer (some ⟨g2800, 0, none⟩))), (4, (.pointer (some ⟨g2804, 0, none⟩))), (6, (.pointer (some ⟨g2824, 0, none⟩))), (7, (.int .i64 t.1.2.2.2.1)), (17, (.slice A_p1 p1.length c_p1)), (18, (.int .i64 (p1.length : Int))), (19, (.int .i64 t.1.2.2.2.2))]) (fun n t w1 => St NoS w w1 [rowR enc_Action A_p0_Actions c_p0_Actions p0.Actions, rowR encInt A_p1 c_p1 p1] [blk g2800 (.cells #[(.int .i64 p0.States), (.int .i64 p0.Symbols), (.slice A_p0_Actions p0.Actions.length c_p0_Actions)] 24 (0, 0)), blk g2804 (.cells #[(.int .i64 0), (.int .i64 0), (.slice none 0 0)] 27 (0, 0)), blk g2824 (.cells #[(.int .i64 t.1.1), (.int .i64 t.1.2.1), (.slice t.2.1 t.1.2.2.1.length t.2.2)] 27 (0, 0)), rowO 3 encInt t.2.1 t.2.2 t.1.2.2.1] ∧ machine_Read.l0 n t.1.1 t.1.2.1 t.1.2.2.1 t.1.2.2.2.1 t.1.2.2.2.2 p0 p1 = some x3032) k ((0, 0, t2817, 0, 0), A2822, c2823) [2, 4, 6, 7, 17, 18, 19] rfl ⟨(hS2829.subR [0, 1]).sub [3, 2, 0, 1] (by decide), hx3033⟩ ?_
    rintro k3034 ⟨⟨x3019, x3020, l3023, x3024, x3025⟩, A3021, c3022⟩ w3035 ⟨hS3036, hl3037⟩
    cases k3034 with
    | zero => rw [machine_Read.l0] at hl3037; cases hl3037
    | succ k3034 =>
      rw [machine_Read.l0] at hl3037
      refine WC.seq ?_
      refine WC.region ?_
      refine seg 1 [] [2, 4, 6, 7, 17, 18, 19, 20] [(2, (.pointer (some ⟨g2800, 0, none⟩))), (4, (.pointer (some ⟨g2804, 0, none⟩))), (6, (.pointer (some ⟨g2824, 0, none⟩))), (7, (.int .i64 x3024)), (17, (.slice A_p1 p1.length c_p1)), (18, (.int .i64 (p1.length : Int))), (19, (.int .i64 x3025)), (20, (.bool (decide (x3025 < (p1.length : Int)))))] [] (fun fb => by kernel_rfl) rfl trivial ?_
      refine WL.done rfl ?_
      refine WX.next ?_
      refine WC.seq ?_
      rcases br_some hl3037 with ⟨h3038, hl3037⟩ | ⟨h3038, hl3037⟩
      · refine WC.condT2 (fun fb => by kernel_rfl) h3038 ?_
        refine WC.skip ?_
        refine WX.next ?_
        refine WC.seq ?_
        obtain ⟨x3068, hx3069, hl3037⟩ := bind_some hl3037
        refine WC.cutN (T := (Int × Int × (List Int) × Int) × (Option Addr) × Nat) (fun t => [(2, (.pointer (some ⟨g2800, 0, none⟩))), (4, (.pointer (some ⟨g2804, 0, none⟩))), (6, (.pointer (some ⟨g2824, 0, none⟩))), (7, (.int .i64 t.1.2.2.2)), (17, (.slice A_p1 p1.length c_p1)), (18, (.int .i64 (p1.length : Int))), (19, (.int .i64 x3025))]) (fun t w1 => St NoS w w1 [rowR enc_Action A_p0_Actions c_p0_Actions p0.Actions, rowR encInt A_p1 c_p1 p1] [blk g2800 (.cells #[(.int .i64 p0.States), (.int .i64 p0.Symbols), (.slice A_p0_Actions p0.Actions.length c_p0_Actions)] 24 (0, 0)), blk g2804 (.cells #[(.int .i64 0), (.int .i64 0), (.slice none 0 0)] 27 (0, 0)), blk g2824 (.cells #[(.int .i64 t.1.1), (.int .i64 t.1.2.1), (.slice t.2.1 t.1.2.2.1.length t.2.2)] 27 (0, 0)), rowO 3 encInt t.2.1 t.2.2 t.1.2.2.1] ∧ x3068 = t.1) (fun Kx3068 => ?_) ?_
        ·
          refine WC.block ?_
          refine WC.seq ?_
          refine WC.region ?_
          refine seg 1 [] [2, 4, 6, 7, 17, 18, 19, 21] [(2, (.pointer (some ⟨g2800, 0, none⟩))), (4, (.pointer (some ⟨g2804, 0, none⟩))), (6, (.pointer (some ⟨g2824, 0, none⟩))), (7, (.int .i64 x3024)), (17, (.slice A_p1 p1.length c_p1)), (18, (.int .i64 (p1.length : Int))), (19, (.int .i64 x3025)), (21, (.int .i64 x3025))] [] (fun fb => by kernel_rfl) rfl trivial ?_
          obtain ⟨h3070, hx3069⟩ := as_some hx3069
          refine seg 5 [.v (.int .i64 (rdD p1 x3025 0))] [2, 4, 6, 7, 8, 9, 17, 18, 19] [(2, (.pointer (some ⟨g2800, 0, none⟩))), (4, (.pointer (some ⟨g2804, 0, none⟩))), (6, (.pointer (some ⟨g2824, 0, none⟩))), (7, (.int .i64 x3024)), (8, (.int .i64 x3025)), (9, (.int .i64 (rdD p1 x3025 0))), (17, (.slice A_p1 p1.length c_p1)), (18, (.int .i64 (p1.length : Int))), (19, (.int .i64 x3025))] [.idx A_p1 x3025 p1.length, .cell ((adr A_p1).add ((x3025).toNat * 1)) (.int .i64 (rdD p1 x3025 0))] (fun fb => by kernel_rfl) rfl ⟨rowR.adr (hS3036.rd 1).1 h3070.1 h3070.2, rowR.cell (hS3036.rd 1).1 0 h3070.1 h3070.2 0 rfl, trivial⟩ ?_
          refine WL.done rfl ?_
          refine WX.next ?_
          refine WC.seq ?_
          refine WC.seq ?_
          refine WC.region ?_
          refine seg 4 [.v (.int .i64 p0.Symbols)] [2, 4, 6, 7, 8, 9, 17, 18, 19, 27] [(2, (.pointer (some ⟨g2800, 0, none⟩))), (4, (.pointer (some ⟨g2804, 0, none⟩))), (6, (.pointer (some ⟨g2824, 0, none⟩))), (7, (.int .i64 x3024)), (8, (.int .i64 x3025)), (9, (.int .i64 (rdD p1 x3025 0))), (17, (.slice A_p1 p1.length c_p1)), (18, (.int .i64 (p1.length : Int))), (19, (.int .i64 x3025)), (27, (.bool (decide ((rdD p1 x3025 0) < p0.Symbols))))] [.cell ⟨g2800, 1, none⟩ (.int .i64 p0.Symbols)] (fun fb => by kernel_rfl) rfl ⟨hS3036.cell 0 rfl 1 rfl, trivial⟩ ?_
          refine WL.done rfl ?_
          refine WX.next ?_
          rcases br_some hx3069 with ⟨h3071, hx3069⟩ | ⟨h3071, hx3069⟩
          · refine WC.condT2 (fun fb => by kernel_rfl) h3071 ?_
            refine WC.exit ?_
            injection hx3069 with hx3069
            exact WX.thenX (WX.blockHere (WX.to Kx3068 ((x3019, x3020, l3023, x3024), A3021, c3022) [2, 4, 6, 7, 17, 18, 19] rfl ⟨(hS3036.subR [0, 1]).sub [0, 1, 2, 3] (by decide), hx3069.symm⟩))
          refine WC.condF2 (fun fb => by kernel_rfl) h3071 ?_
          refine WC.skip ?_
          refine WX.next ?_
          refine WC.seq ?_
          refine WC.region ?_
          refine seg 3 [] [2, 4, 6, 7, 8, 9, 17, 18, 19] [(2, (.pointer (some ⟨g2800, 0, none⟩))), (4, (.pointer (some ⟨g2804, 0, none⟩))), (6, (.pointer (some ⟨g2824, 0, none⟩))), (7, (.int .i64 (w64 (x3024 + 1)))), (8, (.int .i64 x3025)), (9, (.int .i64 (rdD p1 x3025 0))), (17, (.slice A_p1 p1.length c_p1)), (18, (.int .i64 (p1.length : Int))), (19, (.int .i64 x3025))] [] (fun fb => by kernel_rfl) rfl trivial ?_
          refine WL.done rfl ?_
          refine WX.next ?_
          refine WC.seq ?_
          refine WC.region ?_
          refine seg 5 [.v (.int .i64 p0.Symbols)] [2, 4, 6, 7, 8, 9, 17, 18, 19] [(2, (.pointer (some ⟨g2800, 0, none⟩))), (4, (.pointer (some ⟨g2804, 0, none⟩))), (6, (.pointer (some ⟨g2824, 0, none⟩))), (7, (.int .i64 (w64 (x3024 + 1)))), (8, (.int .i64 x3025)), (9, (.int .i64 (w64 ((rdD p1 x3025 0) - p0.Symbols)))), (17, (.slice A_p1 p1.length c_p1)), (18, (.int .i64 (p1.length : Int))), (19, (.int .i64 x3025))] [.cell ⟨g2800, 1, none⟩ (.int .i64 p0.Symbols)] (fun fb => by kernel_rfl) rfl ⟨hS3036.cell 0 rfl 1 rfl, trivial⟩ ?_
          refine WL.done rfl ?_
          refine WX.next ?_
          obtain ⟨h3084, hx3069⟩ := as_some hx3069
          refine WC.regionD ([(1, ⟨g2824, 2, none⟩, (.slice A3021 l3023.length c3022)), (5, ⟨g2800, 1, none⟩, (.int .i64 p0.Symbols)), (10, ⟨g2800, 1, none⟩, (.int .i64 p0.Symbols))], [0, 1, 2, 3, 4, 5, 6, 7, 8, 9, 10, 11, 12, 14, 16], [[], [0], [], [], [], [4], [3, 4, 5], [], [], [], [9], [8, 9, 10], [0, 1, 3, 4, 5, 6], [0, 1, 3, 4, 5, 6, 12], [0, 1, 3, 4, 5, 6, 7, 12, 13], [0, 1, 3, 4, 5, 6, 7, 12, 13, 14], [0, 1, 2, 3, 4, 5, 6, 7, 8, 9, 10, 11, 12, 13, 14, 15], [0, 1, 2, 3, 4, 5, 6, 7, 8, 9, 10, 11, 12, 13, 14, 15, 16]]) [[0, 1, 2, 3, 4, 5, 6, 7, 8, 9, 10, 11, 12, 13, 14, 15, 16, 17]] (by kernel_rfl) (by kernel_rfl) (NoPanic.block (NoPanic.seq (NoPanic.seq (NoPanic.block (NoPanic.seq (NoPanic.body)))))) ?_
          have hS3082 := hS3036.drew
          revert hS3082
          generalize World.drew w3035 = w3081
          intro hS3082
          refine ⟨⟨hS3082.cell 2 rfl 2 rfl, hS3082.cell 0 rfl 1 rfl, hS3082.cell 0 rfl 1 rfl, trivial⟩, forallC ?_ (forallN)⟩
          refine segF 13 [.v (.slice A3021 l3023.length c3022), .v (.int .i64 p0.Symbols), .v (.int .i64 p0.Symbols)] [2, 4, 6, 7, 17, 18, 19, 35, 36, 40, 41, 45, 46] [(2, (.pointer (some ⟨g2800, 0, none⟩))), (4, (.pointer (some ⟨g2804, 0, none⟩))), (6, (.pointer (some ⟨g2824, 0, none⟩))), (7, (.int .i64 (w64 (x3024 + 1)))), (17, (.slice A_p1 p1.length c_p1)), (18, (.int .i64 (p1.length : Int))), (19, (.int .i64 x3025)), (35, (.slice A3021 l3023.length c3022)), (36, (.int .i64 x3025)), (40, (.int .i64 (w64 (Int.tdiv (w64 ((rdD p1 x3025 0) - p0.Symbols)) p0.Symbols)))), (41, (.int .i64 x3025)), (45, (.int .i64 (Int.tmod (w64 ((rdD p1 x3025 0) - p0.Symbols)) p0.Symbols))), (46, (.pointer (some ⟨g2824, 0, none⟩)))] [.ne p0.Symbols, .ne p0.Symbols] [0, 1, 2] [(1, ⟨g2824, 2, none⟩, (.slice A3021 l3023.length c3022)), (5, ⟨g2800, 1, none⟩, (.int .i64 p0.Symbols)), (10, ⟨g2800, 1, none⟩, (.int .i64 p0.Symbols))] (fun fb => by kernel_rfl) rfl ⟨h3084, h3084, trivial⟩ rfl ?_
          refine WL.store hS3082 2 rfl [(0, (.int .i64 (w64 (Int.tdiv (w64 ((rdD p1 x3025 0) - p0.Symbols)) p0.Symbols))))] #[(.int .i64 (w64 (Int.tdiv (w64 ((rdD p1 x3025 0) - p0.Symbols)) p0.Symbols))), (.int .i64 x3020), (.slice A3021 l3023.length c3022)] (fun fb => by kernel_rfl) (by kernel_rfl) rfl [0, 1, 3] (by decide) (by decide) (fun w3085 hS3086 => ?_)
          refine ⟨⟨hS3086.cell 1 rfl 1 rfl, trivial⟩, ?_⟩
          refine seg 15 [] [2, 4, 6, 7, 17, 18, 19, 35, 36, 41, 45, 47] [(2, (.pointer (some ⟨g2800, 0, none⟩))), (4, (.pointer (some ⟨g2804, 0, none⟩))), (6, (.pointer (some ⟨g2824, 0, none⟩))), (7, (.int .i64 (w64 (x3024 + 1)))), (17, (.slice A_p1 p1.length c_p1)), (18, (.int .i64 (p1.length : Int))), (19, (.int .i64 x3025)), (35, (.slice A3021 l3023.length c3022)), (36, (.int .i64 x3025)), (41, (.int .i64 x3025)), (45, (.int .i64 (Int.tmod (w64 ((rdD p1 x3025 0) - p0.Symbols)) p0.Symbols))), (47, (.pointer (some ⟨g2824, 1, none⟩)))] [] (fun fb => by kernel_rfl) rfl trivial ?_
          refine WL.store hS3086 0 rfl [(1, (.int .i64 x3025))] #[(.int .i64 (w64 (Int.tdiv (w64 ((rdD p1 x3025 0) - p0.Symbols)) p0.Symbols))), (.int .i64 x3025), (.slice A3021 l3023.length c3022)] (fun fb => by kernel_rfl) (by kernel_rfl) rfl [1, 2, 3] (by decide) (by decide) (fun w3087 hS3088 => ?_)
          refine ⟨⟨hS3088.cell 1 rfl 1 rfl, trivial⟩, ?_⟩
          obtain ⟨h3089, hx3069⟩ := as_some hx3069
          refine seg 17 [] [2, 4, 6, 7, 17, 18, 19, 45, 48] [(2, (.pointer (some ⟨g2800, 0, none⟩))), (4, (.pointer (some ⟨g2804, 0, none⟩))), (6, (.pointer (some ⟨g2824, 0, none⟩))), (7, (.int .i64 (w64 (x3024 + 1)))), (17, (.slice A_p1 p1.length c_p1)), (18, (.int .i64 (p1.length : Int))), (19, (.int .i64 x3025)), (45, (.int .i64 (Int.tmod (w64 ((rdD p1 x3025 0) - p0.Symbols)) p0.Symbols))), (48, (.pointer (some ((adr A3021).add ((x3025).toNat * 1)))))] [.idx A3021 x3025 l3023.length] (fun fb => by kernel_rfl) rfl ⟨rowR.adr (rowO.rd (hS3088.own 3).1) h3089.1 h3089.2, trivial⟩ ?_
          refine WL.storeRow hS3088 3 rfl (x3025) (Int.tmod (w64 ((rdD p1 x3025 0) - p0.Symbols)) p0.Symbols) (0) [(0, (.int .i64 (Int.tmod (w64 ((rdD p1 x3025 0) - p0.Symbols)) p0.Symbols)))] (fun fb => by kernel_rfl) h3089.1 h3089.2 (by kernel_rfl) rfl [0, 1, 2] (by decide) (by decide) (fun w3090 hS3091 => ?_)
          refine ⟨trivial, ?_⟩
          have hS3092 : St NoS w w3090 [rowR enc_Action A_p0_Actions c_p0_Actions p0.Actions, rowR encInt A_p1 c_p1 p1] [rowO 3 encInt A3021 c3022 (l3023.set (x3025).toNat (Int.tmod (w64 ((rdD p1 x3025 0) - p0.Symbols)) p0.Symbols)), blk g2824 (.cells #[(.int .i64 (w64 (Int.tdiv (w64 ((rdD p1 x3025 0) - p0.Symbols)) p0.Symbols))), (.int .i64 x3025), (.slice A3021 (l3023.set (x3025).toNat (Int.tmod (w64 ((rdD p1 x3025 0) - p0.Symbols)) p0.Symbols)).length c3022)] 27 (0, 0)), blk g2800 (.cells #[(.int .i64 p0.States), (.int .i64 p0.Symbols), (.slice A_p0_Actions p0.Actions.length c_p0_Actions)] 24 (0, 0)), blk g2804 (.cells #[(.int .i64 0), (.int .i64 0), (.slice none 0 0)] 27 (0, 0))] := by simpa only [List.length_set] using (show St NoS w w3090 [rowR enc_Action A_p0_Actions c_p0_Actions p0.Actions, rowR encInt A_p1 c_p1 p1] [rowO 3 encInt A3021 c3022 (l3023.set (x3025).toNat (Int.tmod (w64 ((rdD p1 x3025 0) - p0.Symbols)) p0.Symbols)), blk g2824 (.cells #[(.int .i64 (w64 (Int.tdiv (w64 ((rdD p1 x3025 0) - p0.Symbols)) p0.Symbols))), (.int .i64 x3025), (.slice A3021 l3023.length c3022)] 27 (0, 0)), blk g2800 (.cells #[(.int .i64 p0.States), (.int .i64 p0.Symbols), (.slice A_p0_Actions p0.Actions.length c_p0_Actions)] 24 (0, 0)), blk g2804 (.cells #[(.int .i64 0), (.int .i64 0), (.slice none 0 0)] 27 (0, 0))] from hS3091)
          refine WL.done rfl ?_
          injection hx3069 with hx3069
          exact WX.blockN (WX.to Kx3068 ((w64 (Int.tdiv (w64 ((rdD p1 x3025 0) - p0.Symbols)) p0.Symbols), x3025, l3023.set (x3025).toNat (Int.tmod (w64 ((rdD p1 x3025 0) - p0.Symbols)) p0.Symbols), w64 (x3024 + 1)), A3021, c3022) [2, 4, 6, 7, 17, 18, 19] rfl ⟨(hS3092.subR [0, 1]).sub [2, 3, 1, 0] (by decide), hx3069.symm⟩)
        rintro ⟨y3096, A3064, c3065⟩ w3093 ⟨hS3094, hq3095⟩
        subst hq3095
        refine WX.next ?_
        refine WC.region ?_
        refine seg 2 [] [2, 4, 6, 7, 17, 18, 19] [(2, (.pointer (some ⟨g2800, 0, none⟩))), (4, (.pointer (some ⟨g2804, 0, none⟩))), (6, (.pointer (some ⟨g2824, 0, none⟩))), (7, (.int .i64 x3068.2.2.2)), (17, (.slice A_p1 p1.length c_p1)), (18, (.int .i64 (p1.length : Int))), (19, (.int .i64 (w64 (x3025 + 1))))] [] (fun fb => by kernel_rfl) rfl trivial ?_
        refine WL.done rfl ?_
        exact WX.again k3034 (Nat.lt_succ_self _) ((x3068.1, x3068.2.1, x3068.2.2.1, x3068.2.2.2, w64 (x3025 + 1)), A3064, c3065) [2, 4, 6, 7, 17, 18, 19] rfl ⟨(hS3094.subR [0, 1]).sub [0, 1, 2, 3] (by decide), hl3037⟩
      refine WC.condF2 (fun fb => by kernel_rfl) h3038 ?_
      refine WC.exit ?_
      injection hl3037 with hl3037
      exact WX.thenX (WX.thenX (WX.blockHere (WX.to Kx3032 ((x3019, x3020, l3023, x3024), A3021, c3022) [2, 4, 6, 7] rfl ⟨(hS3036.subR [0, 1]).sub [0, 1, 2, 3] (by decide), hl3037.symm⟩)))
  rintro ⟨y3100, A3028, c3029⟩ w3097 ⟨hS3098, hq3099⟩
  subst hq3099
  refine WX.next ?_
  refine WC.seq ?_
  refine WC.seq ?_
  refine WC.region ?_
  refine seg 3 [] [2, 4, 6, 52] [(2, (.pointer (some ⟨g2800, 0, none⟩))), (4, (.pointer (some ⟨g2804, 0, none⟩))), (6, (.pointer (some ⟨g2824, 0, none⟩))), (52, (.bool (x3032.2.2.2 != 1)))] [] (fun fb => by kernel_rfl) rfl trivial ?_
  obtain ⟨x3107, hx3108, hf⟩ := bind_some hf
  refine WL.cutW (T := Bool) 8 (fun t => [(4, (.pointer (some ⟨g2804, 0, none⟩))), (6, (.pointer (some ⟨g2824, 0, none⟩))), (57, (.bool t))]) (fun t w1 => (St NoS w w1 [rowR enc_Action A_p0_Actions c_p0_Actions p0.Actions, rowR encInt A_p1 c_p1 p1] [blk g2804 (.cells #[(.int .i64 0), (.int .i64 0), (.slice none 0 0)] 27 (0, 0)), blk g2824 (.cells #[(.int .i64 x3032.1), (.int .i64 x3032.2.1), (.slice A3028 x3032.2.2.1.length c3029)] 27 (0, 0)), rowO 3 encInt A3028 c3029 x3032.2.2.1] ∧ x3107 = t) ∧ CellsOK [] w1) (fun K => ?_) ?_
  ·
    rcases br_some hx3108 with ⟨h3109, hx3108⟩ | ⟨h3109, hx3108⟩
    ·
      refine WL.setB 52 h3109 rfl ?_
      refine seg 8 [] [4, 6, 57] [(4, (.pointer (some ⟨g2804, 0, none⟩))), (6, (.pointer (some ⟨g2824, 0, none⟩))), (57, (.bool true))] [] (fun fb => by kernel_rfl) rfl trivial ?_
      injection hx3108 with hx3108
      exact WL.to K true [4, 6, 57] rfl ⟨⟨(hS3098.subR [0, 1]).sub [1, 2, 3] (by decide), hx3108.symm⟩, trivial⟩
    refine WL.setB 52 h3109 rfl ?_
    refine seg 5 [.v (.int .i64 p0.States), .v (.int .i64 p0.Symbols), .v (.slice A_p0_Actions p0.Actions.length c_p0_Actions), .v (.int .i64 x3032.1), .v (.int .i64 x3032.2.1), .v (.slice A3028 x3032.2.2.1.length c3029)] [4, 6, 52, 53, 54] [(4, (.pointer (some ⟨g2804, 0, none⟩))), (6, (.pointer (some ⟨g2824, 0, none⟩))), (52, (.bool false)), (53, (.agg #[(.int .i64 p0.States), (.int .i64 p0.Symbols), (.slice A_p0_Actions p0.Actions.length c_p0_Actions)])), (54, (.agg #[(.int .i64 x3032.1), (.int .i64 x3032.2.1), (.slice A3028 x3032.2.2.1.length c3029)]))] [.cell ⟨g2800, 0, none⟩ (.int .i64 p0.States), .cell ⟨g2800, 1, none⟩ (.int .i64 p0.Symbols), .cell ⟨g2800, 2, none⟩ (.slice A_p0_Actions p0.Actions.length c_p0_Actions), .cell ⟨g2824, 0, none⟩ (.int .i64 x3032.1), .cell ⟨g2824, 1, none⟩ (.int .i64 x3032.2.1), .cell ⟨g2824, 2, none⟩ (.slice A3028 x3032.2.2.1.length c3029)] (fun fb => by kernel_rfl) rfl ⟨hS3098.cell 0 rfl 0 rfl, hS3098.cell 0 rfl 1 rfl, hS3098.cell 0 rfl 2 rfl, hS3098.cell 2 rfl 0 rfl, hS3098.cell 2 rfl 1 rfl, hS3098.cell 2 rfl 2 rfl, trivial⟩ ?_
    obtain ⟨t3110, ht3111, hx3108⟩ := bind_some hx3108
    refine WL.call (some 55) 18 #[(.agg #[(.int .i64 p0.States), (.int .i64 p0.Symbols), (.slice A_p0_Actions p0.Actions.length c_p0_Actions)]), (.agg #[(.int .i64 x3032.1), (.int .i64 x3032.2.1), (.slice A3028 x3032.2.2.1.length c3029)])] (fun fb => by kernel_rfl) (machine_Fits_calls _ p0 (Config.mk x3032.1 x3032.2.1 x3032.2.2.1) A_p0_Actions c_p0_Actions A3028 c3029 t3110 _ (hS3098.rd 0) (hS3098.ow 3).ofO ht3111) (fun v w3112 hR3113 => ?_)
    obtain ⟨rfl, hk_⟩ := hR3113
    have hS3114 := hS3098.keepN hk_
    refine ⟨trivial, ?_⟩
    refine seg 8 [] [4, 6, 57] [(4, (.pointer (some ⟨g2804, 0, none⟩))), (6, (.pointer (some ⟨g2824, 0, none⟩))), (57, (.bool (!t3110)))] [] (fun fb => by kernel_rfl) rfl trivial ?_
    injection hx3108 with hx3108
    exact WL.to K (!t3110) [4, 6, 57] rfl ⟨⟨(hS3114.subR [0, 1]).sub [1, 2, 3] (by decide), hx3108.symm⟩, trivial⟩
  rintro y3115 w3117 ⟨⟨hS3118, hq3116⟩, hF3119⟩
  subst hq3116
  refine WL.done rfl ?_
  refine WX.next ?_
  rcases br_some hf with ⟨h3120, hf⟩ | ⟨h3120, hf⟩
  · refine WC.condT2 (fun fb => by kernel_rfl) h3120 ?_
    refine WC.seq ?_
    refine WC.region ?_
    refine seg 1 [] [4, 58] [(4, (.pointer (some ⟨g2804, 0, none⟩))), (58, (.agg #[(.int .i64 0), (.int .i64 0), (.slice none 0 0)]))] [] (fun fb => by kernel_rfl) rfl trivial ?_
    refine WL.store hS3118 0 rfl [(0, (.int .i64 0)), (1, (.int .i64 0)), (2, (.slice none 0 0))] #[(.int .i64 0), (.int .i64 0), (.slice none 0 0)] (fun fb => by kernel_rfl) (by kernel_rfl) rfl [1, 2] (by decide) (by decide) (fun w3121 hS3122 => ?_)
    refine ⟨trivial, ?_⟩
    refine seg 3 [] [4, 5] [(4, (.pointer (some ⟨g2804, 0, none⟩))), (5, (.int .i64 6))] [] (fun fb => by kernel_rfl) rfl trivial ?_
    refine WL.done rfl ?_
    refine WX.next ?_
    refine WC.ret ?_
    have hS3123 := hS3122.nilrow 3 encInt
    injection hf with hf
    subst hf
    exact WX.thenR (WX.ret_ [.v (.int .i64 0), .v (.int .i64 0), .v (.slice none 0 0)] (.tuple #[(.agg #[(.int .i64 0), (.int .i64 0), (.slice none ([] : List Int).length 0)]), (.int .i64 6)]) [.cell ⟨g2804, 0, none⟩ (.int .i64 0), .cell ⟨g2804, 1, none⟩ (.int .i64 0), .cell ⟨g2804, 2, none⟩ (.slice none 0 0)] (fun fb => by kernel_rfl) ⟨hS3122.cell 0 rfl 0 rfl, hS3122.cell 0 rfl 1 rfl, hS3122.cell 0 rfl 2 rfl, trivial⟩ ⟨_, rfl, none, 0, rfl, (hS3123.sub [0] (by decide)).noR⟩)
  refine WC.condF2 (fun fb => by kernel_rfl) h3120 ?_
  refine WC.skip ?_
  refine WX.next ?_
  refine WC.seq ?_
  refine WC.region ?_
  refine seg 1 [.v (.int .i64 x3032.1), .v (.int .i64 x3032.2.1), .v (.slice A3028 x3032.2.2.1.length c3029)] [4, 59] [(4, (.pointer (some ⟨g2804, 0, none⟩))), (59, (.agg #[(.int .i64 x3032.1), (.int .i64 x3032.2.1), (.slice A3028 x3032.2.2.1.length c3029)]))] [.cell ⟨g2824, 0, none⟩ (.int .i64 x3032.1), .cell ⟨g2824, 1, none⟩ (.int .i64 x3032.2.1), .cell ⟨g2824, 2, none⟩ (.slice A3028 x3032.2.2.1.length c3029)] (fun fb => by kernel_rfl) rfl ⟨hS3118.cell 1 rfl 0 rfl, hS3118.cell 1 rfl 1 rfl, hS3118.cell 1 rfl 2 rfl, trivial⟩ ?_
  refine WL.store hS3118 0 rfl [(0, (.int .i64 x3032.1)), (1, (.int .i64 x3032.2.1)), (2, (.slice A3028 x3032.2.2.1.length c3029))] #[(.int .i64 x3032.1), (.int .i64 x3032.2.1), (.slice A3028 x3032.2.2.1.length c3029)] (fun fb => by kernel_rfl) (by kernel_rfl) rfl [1, 2] (by decide) (by decide) (fun w3124 hS3125 => ?_)
  refine ⟨trivial, ?_⟩
  refine seg 3 [] [4, 5] [(4, (.pointer (some ⟨g2804, 0, none⟩))), (5, (.int .i64 0))] [] (fun fb => by kernel_rfl) rfl trivial ?_
  refine WL.done rfl ?_
  refine WX.next ?_
  refine WC.ret ?_
  injection hf with hf
  subst hf
  exact WX.ret_ [.v (.int .i64 x3032.1), .v (.int .i64 x3032.2.1), .v (.slice A3028 x3032.2.2.1.length c3029)] (.tuple #[(.agg #[(.int .i64 x3032.1), (.int .i64 x3032.2.1), (.slice A3028 x3032.2.2.1.length c3029)]), (.int .i64 0)]) [.cell ⟨g2804, 0, none⟩ (.int .i64 x3032.1), .cell ⟨g2804, 1, none⟩ (.int .i64 x3032.2.1), .cell ⟨g2804, 2, none⟩ (.slice A3028 x3032.2.2.1.length c3029)] (fun fb => by kernel_rfl) ⟨hS3125.cell 0 rfl 0 rfl, hS3125.cell 0 rfl 1 rfl, hS3125.cell 0 rfl 2 rfl, trivial⟩ ⟨_, rfl, A3028, c3029, rfl, (hS3125.sub [2] (by decide)).noR⟩
theorem ref08_Valid_calls (k : Nat) (p0 : Machine) (A_p0_Actions : Option Addr) (c_p0_Actions : Nat) (r : Bool) (w : World) (hR0 : RO NoS w (rowR enc_Action A_p0_Actions c_p0_Actions p0.Actions)) (hf : ref08_Valid k p0 = some r) :
    CallsR Try.prog 17 #[(.agg #[(.int .i64 p0.States), (.int .i64 p0.Symbols), (.slice A_p0_Actions p0.Actions.length c_p0_Actions)])] w (fun v w' => v = (.bool r) ∧ Keeps NoS w w') := by
  have hS : St NoS w w [rowR enc_Action A_p0_Actions c_p0_Actions p0.Actions] [] := St.init (ro_cons hR0 (ro_nil _ _))
  refine enter 93 Try.func17 rfl Try.ntmps17 rfl ?_
  unfold ref08_Valid at hf
  refine WC.seq ?_
  refine WC.region ?_
  refine WL.new hS 1 [] (fun g => (.pointer (some ⟨g, 0, none⟩))) (.cells #[(.int .i64 p0.States), (.int .i64 p0.Symbols), (.slice A_p0_Actions p0.Actions.length c_p0_Actions)] 24 (0, 0)) [] (fun fb g => by kernel_rfl) trivial (fun g3139 w3140 hS3141 => ?_)
  refine ⟨trivial, ?_⟩
  refine seg 2 [] [1] [(1, (.pointer (some ⟨g3139, 0, none⟩)))] [] (fun fb => by kernel_rfl) rfl trivial ?_
  refine WL.done rfl ?_
  refine WX.next ?_
  refine WC.seq ?_
  refine WC.seq ?_
  refine WC.region ?_
  refine seg 4 [.v (.int .i64 p0.States)] [1, 8] [(1, (.pointer (some ⟨g3139, 0, none⟩))), (8, (.bool (decide (p0.States < 1))))] [.cell ⟨g3139, 0, none⟩ (.int .i64 p0.States)] (fun fb => by kernel_rfl) rfl ⟨hS3141.cell 0 rfl 0 rfl, trivial⟩ ?_
  refine WL.cutV (T := Bool) 8 (fun t => [(12, (.bool t)), (1, (.pointer (some ⟨g3139, 0, none⟩)))]) (fun t => t = ((decide (p0.States < 1)) || (decide (p0.States > 6)))) (fun K => ?_) ?_
  ·
    rcases Bool.eq_false_or_eq_true (decide (p0.States < 1)) with h3143 | h3143
    ·
      refine WL.setB 8 h3143 rfl ?_
      refine seg 8 [] [1, 12] [(1, (.pointer (some ⟨g3139, 0, none⟩))), (12, (.bool true))] [] (fun fb => by kernel_rfl) rfl trivial ?_
      exact WL.toV K true [12, 1] rfl (by rw [h3143]; rfl)
    refine WL.setB 8 h3143 rfl ?_
    refine seg 8 [.v (.int .i64 p0.States)] [1, 12] [(1, (.pointer (some ⟨g3139, 0, none⟩))), (12, (.bool (decide (p0.States > 6))))] [.cell ⟨g3139, 0, none⟩ (.int .i64 p0.States)] (fun fb => by kernel_rfl) rfl ⟨hS3141.cell 0 rfl 0 rfl, trivial⟩ ?_
    exact WL.toV K (decide (p0.States > 6)) [12, 1] rfl (by rw [h3143]; rfl)
  rintro b3144 rfl
  refine seg 9 [] [1, 13] [(1, (.pointer (some ⟨g3139, 0, none⟩))), (13, (.bool ((decide (p0.States < 1)) || (decide (p0.States > 6)))))] [] (fun fb => by kernel_rfl) rfl trivial ?_
  refine WL.cutV (T := Bool) 13 (fun t => [(17, (.bool t)), (1, (.pointer (some ⟨g3139, 0, none⟩)))]) (fun t => t = (((decide (p0.States < 1)) || (decide (p0.States > 6))) || (decide (p0.Symbols < 2)))) (fun K => ?_) ?_
  ·
    rcases Bool.eq_false_or_eq_true ((decide (p0.States < 1)) || (decide (p0.States > 6))) with h3145 | h3145
    ·
      refine WL.setB 13 h3145 rfl ?_
      refine seg 13 [] [1, 17] [(1, (.pointer (some ⟨g3139, 0, none⟩))), (17, (.bool true))] [] (fun fb => by kernel_rfl) rfl trivial ?_
      exact WL.toV K true [17, 1] rfl (by rw [h3145]; rfl)
    refine WL.setB 13 h3145 rfl ?_
    refine seg 13 [.v (.int .i64 p0.Symbols)] [1, 17] [(1, (.pointer (some ⟨g3139, 0, none⟩))), (17, (.bool (decide (p0.Symbols < 2))))] [.cell ⟨g3139, 1, none⟩ (.int .i64 p0.Symbols)] (fun fb => by kernel_rfl) rfl ⟨hS3141.cell 0 rfl 1 rfl, trivial⟩ ?_
    exact WL.toV K (decide (p0.Symbols < 2)) [17, 1] rfl (by rw [h3145]; rfl)
  rintro b3146 rfl
  refine seg 14 [] [1, 18] [(1, (.pointer (some ⟨g3139, 0, none⟩))), (18, (.bool (((decide (p0.States < 1)) || (decide (p0.States > 6))) || (decide (p0.Symbols < 2)))))] [] (fun fb => by kernel_rfl) rfl trivial ?_
  refine WL.cutV (T := Bool) 18 (fun t => [(22, (.bool t)), (1, (.pointer (some ⟨g3139, 0, none⟩)))]) (fun t => t = ((((decide (p0.States < 1)) || (decide (p0.States > 6))) || (decide (p0.Symbols < 2))) || (decide (p0.Symbols > 4)))) (fun K => ?_) ?_
  ·
    rcases Bool.eq_false_or_eq_true (((decide (p0.States < 1)) || (decide (p0.States > 6))) || (decide (p0.Symbols < 2))) with h3147 | h3147
    ·
      refine WL.setB 18 h3147 rfl ?_
      refine seg 18 [] [1, 22] [(1, (.pointer (some ⟨g3139, 0, none⟩))), (22, (.bool true))] [] (fun fb => by kernel_rfl) rfl trivial ?_
      exact WL.toV K true [22, 1] rfl (by rw [h3147]; rfl)
    refine WL.setB 18 h3147 rfl ?_
    refine seg 18 [.v (.int .i64 p0.Symbols)] [1, 22] [(1, (.pointer (some ⟨g3139, 0, none⟩))), (22, (.bool (decide (p0.Symbols > 4))))] [.cell ⟨g3139, 1, none⟩ (.int .i64 p0.Symbols)] (fun fb => by kernel_rfl) rfl ⟨hS3141.cell 0 rfl 1 rfl, trivial⟩ ?_
    exact WL.toV K (decide (p0.Symbols > 4)) [22, 1] rfl (by rw [h3147]; rfl)
  rintro b3148 rfl
  refine seg 19 [] [1, 23] [(1, (.pointer (some ⟨g3139, 0, none⟩))), (23, (.bool ((((decide (p0.States < 1)) || (decide (p0.States > 6))) || (decide (p0.Symbols < 2))) || (decide (p0.Symbols > 4)))))] [] (fun fb => by kernel_rfl) rfl trivial ?_
  refine WL.cutV (T := Bool) 29 (fun t => [(33, (.bool t)), (1, (.pointer (some ⟨g3139, 0, none⟩)))]) (fun t => t = (((((decide (p0.States < 1)) || (decide (p0.States > 6))) || (decide (p0.Symbols < 2))) || (decide (p0.Symbols > 4))) || ((p0.Actions.length : Int) != (w64 (p0.States * p0.Symbols))))) (fun K => ?_) ?_
  ·
    rcases Bool.eq_false_or_eq_true ((((decide (p0.States < 1)) || (decide (p0.States > 6))) || (decide (p0.Symbols < 2))) || (decide (p0.Symbols > 4))) with h3149 | h3149
    ·
      refine WL.setB 23 h3149 rfl ?_
      refine seg 29 [] [1, 33] [(1, (.pointer (some ⟨g3139, 0, none⟩))), (33, (.bool true))] [] (fun fb => by kernel_rfl) rfl trivial ?_
      exact WL.toV K true [33, 1] rfl (by rw [h3149]; rfl)
    refine WL.setB 23 h3149 rfl ?_
    refine seg 29 [.v (.slice A_p0_Actions p0.Actions.length c_p0_Actions), .v (.int .i64 p0.States), .v (.int .i64 p0.Symbols)] [1, 33] [(1, (.pointer (some ⟨g3139, 0, none⟩))), (33, (.bool ((p0.Actions.length : Int) != (w64 (p0.States * p0.Symbols)))))] [.cell ⟨g3139, 2, none⟩ (.slice A_p0_Actions p0.Actions.length c_p0_Actions), .cell ⟨g3139, 0, none⟩ (.int .i64 p0.States), .cell ⟨g3139, 1, none⟩ (.int .i64 p0.Symbols)] (fun fb => by kernel_rfl) rfl ⟨hS3141.cell 0 rfl 2 rfl, hS3141.cell 0 rfl 0 rfl, hS3141.cell 0 rfl 1 rfl, trivial⟩ ?_
    exact WL.toV K ((p0.Actions.length : Int) != (w64 (p0.States * p0.Symbols))) [33, 1] rfl (by rw [h3149]; rfl)
  rintro b3150 rfl
  refine WL.done rfl ?_
  refine WX.next ?_
  rcases br_some hf with ⟨h3151, hf⟩ | ⟨h3151, hf⟩
  · refine WC.condT2 (fun fb => by kernel_rfl) h3151 ?_
    refine WC.seq ?_
    refine WC.region ?_
    refine seg 1 [] [2] [(2, (.bool false))] [] (fun fb => by kernel_rfl) rfl trivial ?_
    refine WL.done rfl ?_
    refine WX.next ?_
    refine WC.ret ?_
    injection hf with hf
    subst hf
    exact WX.thenR (WX.ret_ [] (.bool false) [] (fun fb => by kernel_rfl) trivial ⟨_, rfl, rfl, hS3141.keep⟩)
  refine WC.condF2 (fun fb => by kernel_rfl) h3151 ?_
  refine WC.skip ?_
  refine WX.next ?_
  refine WC.seq ?_
  refine WC.seq ?_
  refine WC.region ?_
  refine seg 1 [] [1, 3] [(1, (.pointer (some ⟨g3139, 0, none⟩))), (3, (.int .i64 0))] [] (fun fb => by kernel_rfl) rfl trivial ?_
  refine WL.done rfl ?_
  refine WX.next ?_
  obtain ⟨x3210, hx3211, hf⟩ := bind_some hf
  refine WC.cutN (T := Unit) (fun t => []) (fun t w1 => St NoS w w1 [rowR enc_Action A_p0_Actions c_p0_Actions p0.Actions] [] ∧ x3210 = .inr t) (fun Kx3210 => ?_) ?_
  ·
    refine WC.block ?_
    refine WC.loop (T := Int) (fun t => [(1, (.pointer (some ⟨g3139, 0, none⟩))), (3, (.int .i64 t))]) (fun n t w1 => St NoS w w1 [rowR enc_Action A_p0_Actions c_p0_Actions p0.Actions] [blk g3139 (.cells #[(.int .i64 p0.States), (.int .i64 p0.Symbols), (.slice A_p0_Actions p0.Actions.length c_p0_Actions)] 24 (0, 0))] ∧ ref08_Valid.l0 n t p0 = some x3210) k 0 [1, 3] rfl ⟨(hS3141.subR [0]).sub [0] (by decide), hx3211⟩ ?_
    rintro k3212 x3209 w3213 ⟨hS3214, hl3215⟩
    cases k3212 with
    | zero => rw [ref08_Valid.l0] at hl3215; cases hl3215
    | succ k3212 =>
      rw [ref08_Valid.l0] at hl3215
      refine WC.seq ?_
      refine WC.seq ?_
      refine WC.region ?_
      refine seg 5 [.v (.slice A_p0_Actions p0.Actions.length c_p0_Actions)] [1, 3, 38] [(1, (.pointer (some ⟨g3139, 0, none⟩))), (3, (.int .i64 x3209)), (38, (.bool (decide (x3209 < (p0.Actions.length : Int)))))] [.cell ⟨g3139, 2, none⟩ (.slice A_p0_Actions p0.Actions.length c_p0_Actions)] (fun fb => by kernel_rfl) rfl ⟨hS3214.cell 0 rfl 2 rfl, trivial⟩ ?_
      refine WL.done rfl ?_
      refine WX.next ?_
      rcases br_some hl3215 with ⟨h3216, hl3215⟩ | ⟨h3216, hl3215⟩
      · refine WC.condT2 (fun fb => by kernel_rfl) h3216 ?_
        refine WC.skip ?_
        refine WX.next ?_
        refine WC.seq ?_
        refine WC.block ?_
        refine WC.seq ?_
        refine WC.region ?_
        refine seg 3 [.v (.slice A_p0_Actions p0.Actions.length c_p0_Actions)] [1, 3, 42, 43] [(1, (.pointer (some ⟨g3139, 0, none⟩))), (3, (.int .i64 x3209)), (42, (.slice A_p0_Actions p0.Actions.length c_p0_Actions)), (43, (.int .i64 x3209))] [.cell ⟨g3139, 2, none⟩ (.slice A_p0_Actions p0.Actions.length c_p0_Actions)] (fun fb => by kernel_rfl) rfl ⟨hS3214.cell 0 rfl 2 rfl, trivial⟩ ?_
        obtain ⟨h3217, hl3215⟩ := as_some hl3215
        refine seg 5 [.v (.int .i64 ((rdD p0.Actions x3209 z_Action).Write)), .v (.int .i64 ((rdD p0.Actions x3209 z_Action).Move)), .v (.int .i64 ((rdD p0.Actions x3209 z_Action).Next))] [1, 3, 45] [(1, (.pointer (some ⟨g3139, 0, none⟩))), (3, (.int .i64 x3209)), (45, (.agg #[(.int .i64 ((rdD p0.Actions x3209 z_Action).Write)), (.int .i64 ((rdD p0.Actions x3209 z_Action).Move)), (.int .i64 ((rdD p0.Actions x3209 z_Action).Next))]))] [.idx A_p0_Actions x3209 p0.Actions.length, .cell ((adr A_p0_Actions).add ((x3209).toNat * 3)) (.int .i64 ((rdD p0.Actions x3209 z_Action).Write)), .cell (((adr A_p0_Actions).add ((x3209).toNat * 3)).add 1) (.int .i64 ((rdD p0.Actions x3209 z_Action).Move)), .cell (((adr A_p0_Actions).add ((x3209).toNat * 3)).add 2) (.int .i64 ((rdD p0.Actions x3209 z_Action).Next))] (fun fb => by kernel_rfl) rfl ⟨rowR.adr (hS3214.rd 0).1 h3217.1 h3217.2, rowR.cell (hS3214.rd 0).1 z_Action h3217.1 h3217.2 0 rfl, rowR.cell (hS3214.rd 0).1 z_Action h3217.1 h3217.2 1 rfl, rowR.cell (hS3214.rd 0).1 z_Action h3217.1 h3217.2 2 rfl, trivial⟩ ?_
        refine WL.new hS3214 4 [] (fun g => (.pointer (some ⟨g, 0, none⟩))) (.cells #[(.int .i64 0), (.int .i64 0), (.int .i64 0)] 88 (0, 0)) [] (fun fb g => by kernel_rfl) trivial (fun g3218 w3219 hS3220 => ?_)
        refine ⟨trivial, ?_⟩
        refine WL.store hS3220 0 rfl [(0, (.int .i64 ((rdD p0.Actions x3209 z_Action).Write))), (1, (.int .i64 ((rdD p0.Actions x3209 z_Action).Move))), (2, (.int .i64 ((rdD p0.Actions x3209 z_Action).Next)))] #[(.int .i64 ((rdD p0.Actions x3209 z_Action).Write)), (.int .i64 ((rdD p0.Actions x3209 z_Action).Move)), (.int .i64 ((rdD p0.Actions x3209 z_Action).Next))] (fun fb => by kernel_rfl) (by kernel_rfl) rfl [1] (by decide) (by decide) (fun w3222 hS3223 => ?_)
        refine ⟨trivial, ?_⟩
        refine WL.done rfl ?_
        refine WX.next ?_
        refine WC.seq ?_
        refine WC.seq ?_
        refine WC.region ?_
        refine seg 4 [.v (.int .i64 ((rdD p0.Actions x3209 z_Action).Write))] [1, 3, 4, 49] [(1, (.pointer (some ⟨g3139, 0, none⟩))), (3, (.int .i64 x3209)), (4, (.pointer (some ⟨g3218, 0, none⟩))), (49, (.bool (decide ((rdD p0.Actions x3209 z_Action).Write < 0))))] [.cell ⟨g3218, 0, none⟩ (.int .i64 ((rdD p0.Actions x3209 z_Action).Write))] (fun fb => by kernel_rfl) rfl ⟨hS3223.cell 0 rfl 0 rfl, trivial⟩ ?_
        refine WL.cutV (T := Bool) 10 (fun t => [(55, (.bool t)), (1, (.pointer (some ⟨g3139, 0, none⟩))), (3, (.int .i64 x3209)), (4, (.pointer (some ⟨g3218, 0, none⟩)))]) (fun t => t = ((decide ((rdD p0.Actions x3209 z_Action).Write < 0)) || (decide ((rdD p0.Actions x3209 z_Action).Write ≥ p0.Symbols)))) (fun K => ?_) ?_
        ·
          rcases Bool.eq_false_or_eq_true (decide ((rdD p0.Actions x3209 z_Action).Write < 0)) with h3224 | h3224
          ·
            refine WL.setB 49 h3224 rfl ?_
            refine seg 10 [] [1, 3, 4, 55] [(1, (.pointer (some ⟨g3139, 0, none⟩))), (3, (.int .i64 x3209)), (4, (.pointer (some ⟨g3218, 0, none⟩))), (55, (.bool true))] [] (fun fb => by kernel_rfl) rfl trivial ?_
            exact WL.toV K true [55, 1, 3, 4] rfl (by rw [h3224]; rfl)
          refine WL.setB 49 h3224 rfl ?_
          refine seg 10 [.v (.int .i64 ((rdD p0.Actions x3209 z_Action).Write)), .v (.int .i64 p0.Symbols)] [1, 3, 4, 55] [(1, (.pointer (some ⟨g3139, 0, none⟩))), (3, (.int .i64 x3209)), (4, (.pointer (some ⟨g3218, 0, none⟩))), (55, (.bool (decide ((rdD p0.Actions x3209 z_Action).Write ≥ p0.Symbols))))] [.cell ⟨g3218, 0, none⟩ (.int .i64 ((rdD p0.Actions x3209 z_Action).Write)), .cell ⟨g3139, 1, none⟩ (.int .i64 p0.Symbols)] (fun fb => by kernel_rfl) rfl ⟨hS3223.cell 0 rfl 0 rfl, hS3223.cell 1 rfl 1 rfl, trivial⟩ ?_
          exact WL.toV K (decide ((rdD p0.Actions x3209 z_Action).Write ≥ p0.Symbols)) [55, 1, 3, 4] rfl (by rw [h3224]; rfl)
        rintro b3225 rfl
        refine seg 11 [] [1, 3, 4, 56] [(1, (.pointer (some ⟨g3139, 0, none⟩))), (3, (.int .i64 x3209)), (4, (.pointer (some ⟨g3218, 0, none⟩))), (56, (.bool ((decide ((rdD p0.Actions x3209 z_Action).Write < 0)) || (decide ((rdD p0.Actions x3209 z_Action).Write ≥ p0.Symbols)))))] [] (fun fb => by kernel_rfl) rfl trivial ?_
        refine WL.cutV (T := Bool) 20 (fun t => [(65, (.bool t)), (1, (.pointer (some ⟨g3139, 0, none⟩))), (3, (.int .i64 x3209)), (4, (.pointer (some ⟨g3218, 0, none⟩)))]) (fun t => t = (((decide ((rdD p0.Actions x3209 z_Action).Write < 0)) || (decide ((rdD p0.Actions x3209 z_Action).Write ≥ p0.Symbols))) || ((((rdD p0.Actions x3209 z_Action).Move) != 0) && (((rdD p0.Actions x3209 z_Action).Move) != 1)))) (fun K => ?_) ?_
        ·
          rcases Bool.eq_false_or_eq_true ((decide ((rdD p0.Actions x3209 z_Action).Write < 0)) || (decide ((rdD p0.Actions x3209 z_Action).Write ≥ p0.Symbols))) with h3228 | h3228
          ·
            refine WL.setB 56 h3228 rfl ?_
            refine seg 20 [] [1, 3, 4, 65] [(1, (.pointer (some ⟨g3139, 0, none⟩))), (3, (.int .i64 x3209)), (4, (.pointer (some ⟨g3218, 0, none⟩))), (65, (.bool true))] [] (fun fb => by kernel_rfl) rfl trivial ?_
            exact WL.toV K true [65, 1, 3, 4] rfl (by rw [h3228]; rfl)
          refine WL.setB 56 h3228 rfl ?_
          refine seg 15 [.v (.int .i64 ((rdD p0.Actions x3209 z_Action).Move))] [1, 3, 4, 56, 60] [(1, (.pointer (some ⟨g3139, 0, none⟩))), (3, (.int .i64 x3209)), (4, (.pointer (some ⟨g3218, 0, none⟩))), (56, (.bool false)), (60, (.bool (((rdD p0.Actions x3209 z_Action).Move) != 0)))] [.cell ⟨g3218, 1, none⟩ (.int .i64 ((rdD p0.Actions x3209 z_Action).Move))] (fun fb => by kernel_rfl) rfl ⟨hS3223.cell 0 rfl 1 rfl, trivial⟩ ?_
          refine WL.cutV (T := Bool) 19 (fun t => [(64, (.bool t)), (1, (.pointer (some ⟨g3139, 0, none⟩))), (3, (.int .i64 x3209)), (4, (.pointer (some ⟨g3218, 0, none⟩))), (56, (.bool false))]) (fun t => t = ((((rdD p0.Actions x3209 z_Action).Move) != 0) && (((rdD p0.Actions x3209 z_Action).Move) != 1))) (fun K => ?_) ?_
          ·
            rcases Bool.eq_false_or_eq_true (((rdD p0.Actions x3209 z_Action).Move) != 0) with h3229 | h3229
            ·
              refine WL.setB 60 h3229 rfl ?_
              refine seg 19 [.v (.int .i64 ((rdD p0.Actions x3209 z_Action).Move))] [1, 3, 4, 56, 64] [(1, (.pointer (some ⟨g3139, 0, none⟩))), (3, (.int .i64 x3209)), (4, (.pointer (some ⟨g3218, 0, none⟩))), (56, (.bool false)), (64, (.bool (((rdD p0.Actions x3209 z_Action).Move) != 1)))] [.cell ⟨g3218, 1, none⟩ (.int .i64 ((rdD p0.Actions x3209 z_Action).Move))] (fun fb => by kernel_rfl) rfl ⟨hS3223.cell 0 rfl 1 rfl, trivial⟩ ?_
              exact WL.toV K (((rdD p0.Actions x3209 z_Action).Move) != 1) [64, 1, 3, 4, 56] rfl (by rw [h3229]; rfl)
            refine WL.setB 60 h3229 rfl ?_
            refine seg 19 [] [1, 3, 4, 56, 64] [(1, (.pointer (some ⟨g3139, 0, none⟩))), (3, (.int .i64 x3209)), (4, (.pointer (some ⟨g3218, 0, none⟩))), (56, (.bool false)), (64, (.bool false))] [] (fun fb => by kernel_rfl) rfl trivial ?_
            exact WL.toV K false [64, 1, 3, 4, 56] rfl (by rw [h3229]; rfl)
          rintro b3230 rfl
          refine seg 20 [] [1, 3, 4, 65] [(1, (.pointer (some ⟨g3139, 0, none⟩))), (3, (.int .i64 x3209)), (4, (.pointer (some ⟨g3218, 0, none⟩))), (65, (.bool ((((rdD p0.Actions x3209 z_Action).Move) != 0) && (((rdD p0.Actions x3209 z_Action).Move) != 1))))] [] (fun fb => by kernel_rfl) rfl trivial ?_
          exact WL.toV K ((((rdD p0.Actions x3209 z_Action).Move) != 0) && (((rdD p0.Actions x3209 z_Action).Move) != 1)) [65, 1, 3, 4] rfl (by rw [h3228]; rfl)
        rintro b3231 rfl
        refine seg 21 [] [1, 3, 4, 66] [(1, (.pointer (some ⟨g3139, 0, none⟩))), (3, (.int .i64 x3209)), (4, (.pointer (some ⟨g3218, 0, none⟩))), (66, (.bool (((decide ((rdD p0.Actions x3209 z_Action).Write < 0)) || (decide ((rdD p0.Actions x3209 z_Action).Write ≥ p0.Symbols))) || ((((rdD p0.Actions x3209 z_Action).Move) != 0) && (((rdD p0.Actions x3209 z_Action).Move) != 1)))))] [] (fun fb => by kernel_rfl) rfl trivial ?_
        refine WL.cutV (T := Bool) 25 (fun t => [(70, (.bool t)), (1, (.pointer (some ⟨g3139, 0, none⟩))), (3, (.int .i64 x3209)), (4, (.pointer (some ⟨g3218, 0, none⟩)))]) (fun t => t = ((((decide ((rdD p0.Actions x3209 z_Action).Write < 0)) || (decide ((rdD p0.Actions x3209 z_Action).Write ≥ p0.Symbols))) || ((((rdD p0.Actions x3209 z_Action).Move) != 0) && (((rdD p0.Actions x3209 z_Action).Move) != 1))) || (decide ((rdD p0.Actions x3209 z_Action).Next < 0)))) (fun K => ?_) ?_
        ·
          rcases Bool.eq_false_or_eq_true (((decide ((rdD p0.Actions x3209 z_Action).Write < 0)) || (decide ((rdD p0.Actions x3209 z_Action).Write ≥ p0.Symbols))) || ((((rdD p0.Actions x3209 z_Action).Move) != 0) && (((rdD p0.Actions x3209 z_Action).Move) != 1))) with h3232 | h3232
          ·
            refine WL.setB 66 h3232 rfl ?_
            refine seg 25 [] [1, 3, 4, 70] [(1, (.pointer (some ⟨g3139, 0, none⟩))), (3, (.int .i64 x3209)), (4, (.pointer (some ⟨g3218, 0, none⟩))), (70, (.bool true))] [] (fun fb => by kernel_rfl) rfl trivial ?_
            exact WL.toV K true [70, 1, 3, 4] rfl (by rw [h3232]; rfl)
          refine WL.setB 66 h3232 rfl ?_
          refine seg 25 [.v (.int .i64 ((rdD p0.Actions x3209 z_Action).Next))] [1, 3, 4, 70] [(1, (.pointer (some ⟨g3139, 0, none⟩))), (3, (.int .i64 x3209)), (4, (.pointer (some ⟨g3218, 0, none⟩))), (70, (.bool (decide ((rdD p0.Actions x3209 z_Action).Next < 0))))] [.cell ⟨g3218, 2, none⟩ (.int .i64 ((rdD p0.Actions x3209 z_Action).Next))] (fun fb => by kernel_rfl) rfl ⟨hS3223.cell 0 rfl 2 rfl, trivial⟩ ?_
          exact WL.toV K (decide ((rdD p0.Actions x3209 z_Action).Next < 0)) [70, 1, 3, 4] rfl (by rw [h3232]; rfl)
        rintro b3233 rfl
        refine seg 26 [] [1, 3, 4, 71] [(1, (.pointer (some ⟨g3139, 0, none⟩))), (3, (.int .i64 x3209)), (4, (.pointer (some ⟨g3218, 0, none⟩))), (71, (.bool ((((decide ((rdD p0.Actions x3209 z_Action).Write < 0)) || (decide ((rdD p0.Actions x3209 z_Action).Write ≥ p0.Symbols))) || ((((rdD p0.Actions x3209 z_Action).Move) != 0) && (((rdD p0.Actions x3209 z_Action).Move) != 1))) || (decide ((rdD p0.Actions x3209 z_Action).Next < 0)))))] [] (fun fb => by kernel_rfl) rfl trivial ?_
        refine WL.cutV (T := Bool) 32 (fun t => [(77, (.bool t)), (1, (.pointer (some ⟨g3139, 0, none⟩))), (3, (.int .i64 x3209)), (4, (.pointer (some ⟨g3218, 0, none⟩)))]) (fun t => t = (((((decide ((rdD p0.Actions x3209 z_Action).Write < 0)) || (decide ((rdD p0.Actions x3209 z_Action).Write ≥ p0.Symbols))) || ((((rdD p0.Actions x3209 z_Action).Move) != 0) && (((rdD p0.Actions x3209 z_Action).Move) != 1))) || (decide ((rdD p0.Actions x3209 z_Action).Next < 0))) || (decide ((rdD p0.Actions x3209 z_Action).Next > p0.States)))) (fun K => ?_) ?_
        ·
          rcases Bool.eq_false_or_eq_true ((((decide ((rdD p0.Actions x3209 z_Action).Write < 0)) || (decide ((rdD p0.Actions x3209 z_Action).Write ≥ p0.Symbols))) || ((((rdD p0.Actions x3209 z_Action).Move) != 0) && (((rdD p0.Actions x3209 z_Action).Move) != 1))) || (decide ((rdD p0.Actions x3209 z_Action).Next < 0))) with h3234 | h3234
          ·
            refine WL.setB 71 h3234 rfl ?_
            refine seg 32 [] [1, 3, 4, 77] [(1, (.pointer (some ⟨g3139, 0, none⟩))), (3, (.int .i64 x3209)), (4, (.pointer (some ⟨g3218, 0, none⟩))), (77, (.bool true))] [] (fun fb => by kernel_rfl) rfl trivial ?_
            exact WL.toV K true [77, 1, 3, 4] rfl (by rw [h3234]; rfl)
          refine WL.setB 71 h3234 rfl ?_
          refine seg 32 [.v (.int .i64 ((rdD p0.Actions x3209 z_Action).Next)), .v (.int .i64 p0.States)] [1, 3, 4, 77] [(1, (.pointer (some ⟨g3139, 0, none⟩))), (3, (.int .i64 x3209)), (4, (.pointer (some ⟨g3218, 0, none⟩))), (77, (.bool (decide ((rdD p0.Actions x3209 z_Action).Next > p0.States))))] [.cell ⟨g3218, 2, none⟩ (.int .i64 ((rdD p0.Actions x3209 z_Action).Next)), .cell ⟨g3139, 0, none⟩ (.int .i64 p0.States)] (fun fb => by kernel_rfl) rfl ⟨hS3223.cell 0 rfl 2 rfl, hS3223.cell 1 rfl 0 rfl, trivial⟩ ?_
          exact WL.toV K (decide ((rdD p0.Actions x3209 z_Action).Next > p0.States)) [77, 1, 3, 4] rfl (by rw [h3234]; rfl)
        rintro b3235 rfl
        refine WL.done rfl ?_
        refine WX.next ?_
        rcases br_some hl3215 with ⟨h3236, hl3215⟩ | ⟨h3236, hl3215⟩
        · refine WC.condT2 (fun fb => by kernel_rfl) h3236 ?_
          refine WC.seq ?_
          refine WC.region ?_
          refine seg 1 [] [2] [(2, (.bool false))] [] (fun fb => by kernel_rfl) rfl trivial ?_
          refine WL.done rfl ?_
          refine WX.next ?_
          refine WC.ret ?_
          injection hl3215 with hl3215
          subst hl3215
          injection hf with hf
          subst hf
          exact WX.thenR (WX.blockR (WX.thenR (WX.thenR (WX.blockR (WX.thenR (WX.ret_ [] (.bool false) [] (fun fb => by kernel_rfl) trivial ⟨_, rfl, rfl, hS3223.keep⟩))))))
        refine WC.condF2 (fun fb => by kernel_rfl) h3236 ?_
        refine WC.skip ?_
        refine WX.next ?_
        refine WC.seq ?_
        refine WC.region ?_
        refine seg 6 [.v (.int .i64 ((rdD p0.Actions x3209 z_Action).Next)), .v (.int .i64 p0.States)] [1, 3, 4, 83] [(1, (.pointer (some ⟨g3139, 0, none⟩))), (3, (.int .i64 x3209)), (4, (.pointer (some ⟨g3218, 0, none⟩))), (83, (.bool (((rdD p0.Actions x3209 z_Action).Next) == p0.States)))] [.cell ⟨g3218, 2, none⟩ (.int .i64 ((rdD p0.Actions x3209 z_Action).Next)), .cell ⟨g3139, 0, none⟩ (.int .i64 p0.States)] (fun fb => by kernel_rfl) rfl ⟨hS3223.cell 0 rfl 2 rfl, hS3223.cell 1 rfl 0 rfl, trivial⟩ ?_
        refine WL.cutV (T := Bool) 15 (fun t => [(92, (.bool t)), (1, (.pointer (some ⟨g3139, 0, none⟩))), (3, (.int .i64 x3209))]) (fun t => t = ((((rdD p0.Actions x3209 z_Action).Next) == p0.States) && ((((rdD p0.Actions x3209 z_Action).Write) != 0) || (((rdD p0.Actions x3209 z_Action).Move) != 0)))) (fun K => ?_) ?_
        ·
          rcases Bool.eq_false_or_eq_true (((rdD p0.Actions x3209 z_Action).Next) == p0.States) with h3239 | h3239
          ·
            refine WL.setB 83 h3239 rfl ?_
            refine seg 10 [.v (.int .i64 ((rdD p0.Actions x3209 z_Action).Write))] [1, 3, 4, 83, 87] [(1, (.pointer (some ⟨g3139, 0, none⟩))), (3, (.int .i64 x3209)), (4, (.pointer (some ⟨g3218, 0, none⟩))), (83, (.bool true)), (87, (.bool (((rdD p0.Actions x3209 z_Action).Write) != 0)))] [.cell ⟨g3218, 0, none⟩ (.int .i64 ((rdD p0.Actions x3209 z_Action).Write))] (fun fb => by kernel_rfl) rfl ⟨hS3223.cell 0 rfl 0 rfl, trivial⟩ ?_
            refine WL.cutV (T := Bool) 14 (fun t => [(91, (.bool t)), (1, (.pointer (some ⟨g3139, 0, none⟩))), (3, (.int .i64 x3209)), (83, (.bool true))]) (fun t => t = ((((rdD p0.Actions x3209 z_Action).Write) != 0) || (((rdD p0.Actions x3209 z_Action).Move) != 0))) (fun K => ?_) ?_
            ·
              rcases Bool.eq_false_or_eq_true (((rdD p0.Actions x3209 z_Action).Write) != 0) with h3240 | h3240
              ·
                refine WL.setB 87 h3240 rfl ?_
                refine seg 14 [] [1, 3, 83, 91] [(1, (.pointer (some ⟨g3139, 0, none⟩))), (3, (.int .i64 x3209)), (83, (.bool true)), (91, (.bool true))] [] (fun fb => by kernel_rfl) rfl trivial ?_
                exact WL.toV K true [91, 1, 3, 83] rfl (by rw [h3240]; rfl)
              refine WL.setB 87 h3240 rfl ?_
              refine seg 14 [.v (.int .i64 ((rdD p0.Actions x3209 z_Action).Move))] [1, 3, 83, 91] [(1, (.pointer (some ⟨g3139, 0, none⟩))), (3, (.int .i64 x3209)), (83, (.bool true)), (91, (.bool (((rdD p0.Actions x3209 z_Action).Move) != 0)))] [.cell ⟨g3218, 1, none⟩ (.int .i64 ((rdD p0.Actions x3209 z_Action).Move))] (fun fb => by kernel_rfl) rfl ⟨hS3223.cell 0 rfl 1 rfl, trivial⟩ ?_
              exact WL.toV K (((rdD p0.Actions x3209 z_Action).Move) != 0) [91, 1, 3, 83] rfl (by rw [h3240]; rfl)
            rintro b3241 rfl
            refine seg 15 [] [1, 3, 92] [(1, (.pointer (some ⟨g3139, 0, none⟩))), (3, (.int .i64 x3209)), (92, (.bool ((((rdD p0.Actions x3209 z_Action).Write) != 0) || (((rdD p0.Actions x3209 z_Action).Move) != 0))))] [] (fun fb => by kernel_rfl) rfl trivial ?_
            exact WL.toV K ((((rdD p0.Actions x3209 z_Action).Write) != 0) || (((rdD p0.Actions x3209 z_Action).Move) != 0)) [92, 1, 3] rfl (by rw [h3239]; rfl)
          refine WL.setB 83 h3239 rfl ?_
          refine seg 15 [] [1, 3, 92] [(1, (.pointer (some ⟨g3139, 0, none⟩))), (3, (.int .i64 x3209)), (92, (.bool false))] [] (fun fb => by kernel_rfl) rfl trivial ?_
          exact WL.toV K false [92, 1, 3] rfl (by rw [h3239]; rfl)
        rintro b3242 rfl
        refine WL.done rfl ?_
        refine WX.next ?_
        rcases br_some hl3215 with ⟨h3243, hl3215⟩ | ⟨h3243, hl3215⟩
        · refine WC.condT2 (fun fb => by kernel_rfl) h3243 ?_
          refine WC.seq ?_
          refine WC.region ?_
          refine seg 1 [] [2] [(2, (.bool false))] [] (fun fb => by kernel_rfl) rfl trivial ?_
          refine WL.done rfl ?_
          refine WX.next ?_
          refine WC.ret ?_
          injection hl3215 with hl3215
          subst hl3215
          injection hf with hf
          subst hf
          exact WX.blockR (WX.thenR (WX.thenR (WX.blockR (WX.thenR (WX.ret_ [] (.bool false) [] (fun fb => by kernel_rfl) trivial ⟨_, rfl, rfl, hS3223.keep⟩)))))
        refine WC.condF2 (fun fb => by kernel_rfl) h3243 ?_
        refine WC.skip ?_
        refine WX.blockN (WX.next ?_)
        refine WC.region ?_
        refine seg 3 [] [1, 3] [(1, (.pointer (some ⟨g3139, 0, none⟩))), (3, (.int .i64 (w64 (x3209 + 1))))] [] (fun fb => by kernel_rfl) rfl trivial ?_
        refine WL.done rfl ?_
        exact WX.again k3212 (Nat.lt_succ_self _) (w64 (x3209 + 1)) [1, 3] rfl ⟨(hS3223.subR [0]).sub [1] (by decide), hl3215⟩
      refine WC.condF2 (fun fb => by kernel_rfl) h3216 ?_
      refine WC.exit ?_
      injection hl3215 with hl3215
      exact WX.thenX (WX.thenX (WX.blockHere (WX.to Kx3210 () [] rfl ⟨(hS3214.subR [0]).sub [] (by decide), hl3215.symm⟩)))
  rintro y3247 w3244 ⟨hS3245, hq3246⟩
  subst hq3246
  have hf := sum_inr hf
  refine WX.next ?_
  refine WC.seq ?_
  refine WC.region ?_
  refine seg 1 [] [2] [(2, (.bool true))] [] (fun fb => by kernel_rfl) rfl trivial ?_
  refine WL.done rfl ?_
  refine WX.next ?_
  refine WC.ret ?_
  injection hf with hf
  subst hf
  exact WX.ret_ [] (.bool true) [] (fun fb => by kernel_rfl) trivial ⟨_, rfl, rfl, hS3245.keep⟩
theorem ref08_SameConfig_calls (k : Nat) (p0 : Config) (p1 : Config) (A_p0_Cells : Option Addr) (c_p0_Cells : Nat) (A_p1_Cells : Option Addr) (c_p1_Cells : Nat) (r : Bool) (w : World) (hR0 : RO NoS w (rowR encInt A_p0_Cells c_p0_Cells p0.Cells)) (hR1 : RO NoS w (rowR encInt A_p1_Cells c_p1_Cells p1.Cells)) (hf : ref08_SameConfig k p0 p1 = some r) :
    CallsR Try.prog 21 #[(.agg #[(.int .i64 p0.State), (.int .i64 p0.At), (.slice A_p0_Cells p0.Cells.length c_p0_Cells)]), (.agg #[(.int .i64 p1.State), (.int .i64 p1.At), (.slice A_p1_Cells p1.Cells.length c_p1_Cells)])] w (fun v w' => v = (.bool r) ∧ Keeps NoS w w') := by
  have hS : St NoS w w [rowR encInt A_p0_Cells c_p0_Cells p0.Cells, rowR encInt A_p1_Cells c_p1_Cells p1.Cells] [] := St.init (ro_cons hR0 (ro_cons hR1 (ro_nil _ _)))
  refine enter 45 Try.func21 rfl Try.ntmps21 rfl ?_
  unfold ref08_SameConfig at hf
  refine WC.seq ?_
  refine WC.region ?_
  refine WL.new hS 2 [] (fun g => (.pointer (some ⟨g, 0, none⟩))) (.cells #[(.int .i64 p0.State), (.int .i64 p0.At), (.slice A_p0_Cells p0.Cells.length c_p0_Cells)] 27 (0, 0)) [] (fun fb g => by kernel_rfl) trivial (fun g3261 w3262 hS3263 => ?_)
  refine ⟨trivial, ?_⟩
  refine WL.new hS3263 3 [] (fun g => (.pointer (some ⟨g, 0, none⟩))) (.cells #[(.int .i64 p1.State), (.int .i64 p1.At), (.slice A_p1_Cells p1.Cells.length c_p1_Cells)] 27 (0, 0)) [] (fun fb g => by kernel_rfl) trivial (fun g3265 w3266 hS3267 => ?_)
  refine ⟨trivial, ?_⟩
  refine seg 3 [] [2, 3] [(2, (.pointer (some ⟨g3261, 0, none⟩))), (3, (.pointer (some ⟨g3265, 0, none⟩)))] [] (fun fb => by kernel_rfl) rfl trivial ?_
  refine WL.done rfl ?_
  refine WX.next ?_
  refine WC.seq ?_
  refine WC.seq ?_
  refine WC.region ?_
  refine seg 6 [.v (.int .i64 p0.State), .v (.int .i64 p1.State)] [2, 3, 11] [(2, (.pointer (some ⟨g3261, 0, none⟩))), (3, (.pointer (some ⟨g3265, 0, none⟩))), (11, (.bool (p0.State != p1.State)))] [.cell ⟨g3261, 0, none⟩ (.int .i64 p0.State), .cell ⟨g3265, 0, none⟩ (.int .i64 p1.State)] (fun fb => by kernel_rfl) rfl ⟨hS3267.cell 1 rfl 0 rfl, hS3267.cell 0 rfl 0 rfl, trivial⟩ ?_
  refine WL.cutV (T := Bool) 12 (fun t => [(17, (.bool t)), (2, (.pointer (some ⟨g3261, 0, none⟩))), (3, (.pointer (some ⟨g3265, 0, none⟩)))]) (fun t => t = ((p0.State != p1.State) || (p0.At != p1.At))) (fun K => ?_) ?_
  ·
    rcases Bool.eq_false_or_eq_true (p0.State != p1.State) with h3269 | h3269
    ·
      refine WL.setB 11 h3269 rfl ?_
      refine seg 12 [] [2, 3, 17] [(2, (.pointer (some ⟨g3261, 0, none⟩))), (3, (.pointer (some ⟨g3265, 0, none⟩))), (17, (.bool true))] [] (fun fb => by kernel_rfl) rfl trivial ?_
      exact WL.toV K true [17, 2, 3] rfl (by rw [h3269]; rfl)
    refine WL.setB 11 h3269 rfl ?_
    refine seg 12 [.v (.int .i64 p0.At), .v (.int .i64 p1.At)] [2, 3, 17] [(2, (.pointer (some ⟨g3261, 0, none⟩))), (3, (.pointer (some ⟨g3265, 0, none⟩))), (17, (.bool (p0.At != p1.At)))] [.cell ⟨g3261, 1, none⟩ (.int .i64 p0.At), .cell ⟨g3265, 1, none⟩ (.int .i64 p1.At)] (fun fb => by kernel_rfl) rfl ⟨hS3267.cell 1 rfl 1 rfl, hS3267.cell 0 rfl 1 rfl, trivial⟩ ?_
    exact WL.toV K (p0.At != p1.At) [17, 2, 3] rfl (by rw [h3269]; rfl)
  rintro b3270 rfl
  refine seg 13 [] [2, 3, 18] [(2, (.pointer (some ⟨g3261, 0, none⟩))), (3, (.pointer (some ⟨g3265, 0, none⟩))), (18, (.bool ((p0.State != p1.State) || (p0.At != p1.At))))] [] (fun fb => by kernel_rfl) rfl trivial ?_
  refine WL.cutV (T := Bool) 21 (fun t => [(26, (.bool t)), (2, (.pointer (some ⟨g3261, 0, none⟩))), (3, (.pointer (some ⟨g3265, 0, none⟩)))]) (fun t => t = (((p0.State != p1.State) || (p0.At != p1.At)) || ((p0.Cells.length : Int) != (p1.Cells.length : Int)))) (fun K => ?_) ?_
  ·
    rcases Bool.eq_false_or_eq_true ((p0.State != p1.State) || (p0.At != p1.At)) with h3271 | h3271
    ·
      refine WL.setB 18 h3271 rfl ?_
      refine seg 21 [] [2, 3, 26] [(2, (.pointer (some ⟨g3261, 0, none⟩))), (3, (.pointer (some ⟨g3265, 0, none⟩))), (26, (.bool true))] [] (fun fb => by kernel_rfl) rfl trivial ?_
      exact WL.toV K true [26, 2, 3] rfl (by rw [h3271]; rfl)
    refine WL.setB 18 h3271 rfl ?_
    refine seg 21 [.v (.slice A_p0_Cells p0.Cells.length c_p0_Cells), .v (.slice A_p1_Cells p1.Cells.length c_p1_Cells)] [2, 3, 26] [(2, (.pointer (some ⟨g3261, 0, none⟩))), (3, (.pointer (some ⟨g3265, 0, none⟩))), (26, (.bool ((p0.Cells.length : Int) != (p1.Cells.length : Int))))] [.cell ⟨g3261, 2, none⟩ (.slice A_p0_Cells p0.Cells.length c_p0_Cells), .cell ⟨g3265, 2, none⟩ (.slice A_p1_Cells p1.Cells.length c_p1_Cells)] (fun fb => by kernel_rfl) rfl ⟨hS3267.cell 1 rfl 2 rfl, hS3267.cell 0 rfl 2 rfl, trivial⟩ ?_
    exact WL.toV K ((p0.Cells.length : Int) != (p1.Cells.length : Int)) [26, 2, 3] rfl (by rw [h3271]; rfl)
  rintro b3272 rfl
  refine WL.done rfl ?_
  refine WX.next ?_
  rcases br_some hf with ⟨h3273, hf⟩ | ⟨h3273, hf⟩
  · refine WC.condT2 (fun fb => by kernel_rfl) h3273 ?_
    refine WC.seq ?_
    refine WC.region ?_
    refine seg 1 [] [4] [(4, (.bool false))] [] (fun fb => by kernel_rfl) rfl trivial ?_
    refine WL.done rfl ?_
    refine WX.next ?_
    refine WC.ret ?_
    injection hf with hf
    subst hf
    exact WX.thenR (WX.ret_ [] (.bool false) [] (fun fb => by kernel_rfl) trivial ⟨_, rfl, rfl, hS3267.keep⟩)
  refine WC.condF2 (fun fb => by kernel_rfl) h3273 ?_
  refine WC.skip ?_
  refine WX.next ?_
  refine WC.seq ?_
  refine WC.seq ?_
  refine WC.region ?_
  refine seg 1 [] [2, 3, 5] [(2, (.pointer (some ⟨g3261, 0, none⟩))), (3, (.pointer (some ⟨g3265, 0, none⟩))), (5, (.int .i64 0))] [] (fun fb => by kernel_rfl) rfl trivial ?_
  refine WL.done rfl ?_
  refine WX.next ?_
  obtain ⟨x3296, hx3297, hf⟩ := bind_some hf
  refine WC.cutN (T := Unit) (fun t => []) (fun t w1 => St NoS w w1 [rowR encInt A_p0_Cells c_p0_Cells p0.Cells, rowR encInt A_p1_Cells c_p1_Cells p1.Cells] [] ∧ x3296 = .inr t) (fun Kx3296 => ?_) ?_
  ·
    refine WC.block ?_
    refine WC.loop (T := Int) (fun t => [(2, (.pointer (some ⟨g3261, 0, none⟩))), (3, (.pointer (some ⟨g3265, 0, none⟩))), (5, (.int .i64 t))]) (fun n t w1 => St NoS w w1 [rowR encInt A_p0_Cells c_p0_Cells p0.Cells, rowR encInt A_p1_Cells c_p1_Cells p1.Cells] [blk g3261 (.cells #[(.int .i64 p0.State), (.int .i64 p0.At), (.slice A_p0_Cells p0.Cells.length c_p0_Cells)] 27 (0, 0)), blk g3265 (.cells #[(.int .i64 p1.State), (.int .i64 p1.At), (.slice A_p1_Cells p1.Cells.length c_p1_Cells)] 27 (0, 0))] ∧ ref08_SameConfig.l0 n t p0 p1 = some x3296) k 0 [2, 3, 5] rfl ⟨(hS3267.subR [0, 1]).sub [1, 0] (by decide), hx3297⟩ ?_
    rintro k3298 x3295 w3299 ⟨hS3300, hl3301⟩
    cases k3298 with
    | zero => rw [ref08_SameConfig.l0] at hl3301; cases hl3301
    | succ k3298 =>
      rw [ref08_SameConfig.l0] at hl3301
      refine WC.seq ?_
      refine WC.seq ?_
      refine WC.region ?_
      refine seg 5 [.v (.slice A_p0_Cells p0.Cells.length c_p0_Cells)] [2, 3, 5, 31] [(2, (.pointer (some ⟨g3261, 0, none⟩))), (3, (.pointer (some ⟨g3265, 0, none⟩))), (5, (.int .i64 x3295)), (31, (.bool (decide (x3295 < (p0.Cells.length : Int)))))] [.cell ⟨g3261, 2, none⟩ (.slice A_p0_Cells p0.Cells.length c_p0_Cells)] (fun fb => by kernel_rfl) rfl ⟨hS3300.cell 0 rfl 2 rfl, trivial⟩ ?_
      refine WL.done rfl ?_
      refine WX.next ?_
      rcases br_some hl3301 with ⟨h3302, hl3301⟩ | ⟨h3302, hl3301⟩
      · refine WC.condT2 (fun fb => by kernel_rfl) h3302 ?_
        refine WC.skip ?_
        refine WX.next ?_
        refine WC.seq ?_
        refine WC.block ?_
        refine WC.seq ?_
        obtain ⟨h3309, hl3301⟩ := as_some hl3301
        obtain ⟨h3310, hl3301⟩ := as_some hl3301
        refine WC.regionD ([(1, ⟨g3261, 2, none⟩, (.slice A_p0_Cells p0.Cells.length c_p0_Cells)), (4, ((adr A_p0_Cells).add ((x3295).toNat * 1)), (.int .i64 (rdD p0.Cells x3295 0))), (6, ⟨g3265, 2, none⟩, (.slice A_p1_Cells p1.Cells.length c_p1_Cells)), (9, ((adr A_p1_Cells).add ((x3295).toNat * 1)), (.int .i64 (rdD p1.Cells x3295 0)))], [0, 1, 2, 3, 4, 5, 6, 7, 8, 9, 10], [[], [0], [], [0, 1, 2], [0, 1, 2, 3], [], [5], [], [5, 6, 7], [5, 6, 7, 8], [0, 1, 2, 3, 4, 5, 6, 7, 8, 9]]) [[0, 1, 2, 3, 4, 5, 6, 7, 8, 9, 10]] (by kernel_rfl) (by kernel_rfl) (NoPanic.seq (NoPanic.block (NoPanic.seq (NoPanic.seq (NoPanic.block (NoPanic.seq (NoPanic.body))))))) ?_
        have hS3306 := hS3300.drew
        revert hS3306
        generalize World.drew w3299 = w3305
        intro hS3306
        refine ⟨⟨hS3306.cell 0 rfl 2 rfl, rowR.cell (hS3306.rd 0).1 0 h3309.1 h3309.2 0 rfl, hS3306.cell 1 rfl 2 rfl, rowR.cell (hS3306.rd 1).1 0 h3310.1 h3310.2 0 rfl, trivial⟩, forallC ?_ (forallN)⟩
        refine segF 11 [.v (.slice A_p0_Cells p0.Cells.length c_p0_Cells), .v (.int .i64 (rdD p0.Cells x3295 0)), .v (.slice A_p1_Cells p1.Cells.length c_p1_Cells), .v (.int .i64 (rdD p1.Cells x3295 0))] [2, 3, 5, 44] [(2, (.pointer (some ⟨g3261, 0, none⟩))), (3, (.pointer (some ⟨g3265, 0, none⟩))), (5, (.int .i64 x3295)), (44, (.bool ((rdD p0.Cells x3295 0) != (rdD p1.Cells x3295 0))))] [.idx A_p0_Cells x3295 p0.Cells.length, .idx A_p1_Cells x3295 p1.Cells.length] [0, 1, 2, 3] [(1, ⟨g3261, 2, none⟩, (.slice A_p0_Cells p0.Cells.length c_p0_Cells)), (4, ((adr A_p0_Cells).add ((x3295).toNat * 1)), (.int .i64 (rdD p0.Cells x3295 0))), (6, ⟨g3265, 2, none⟩, (.slice A_p1_Cells p1.Cells.length c_p1_Cells)), (9, ((adr A_p1_Cells).add ((x3295).toNat * 1)), (.int .i64 (rdD p1.Cells x3295 0)))] (fun fb => by kernel_rfl) rfl ⟨rowR.adr (hS3306.rd 0).1 h3309.1 h3309.2, rowR.adr (hS3306.rd 1).1 h3310.1 h3310.2, trivial⟩ rfl ?_
        refine WL.done rfl ?_
        refine WX.next ?_
        rcases br_some hl3301 with ⟨h3311, hl3301⟩ | ⟨h3311, hl3301⟩
        · refine WC.condT2 (fun fb => by kernel_rfl) h3311 ?_
          refine WC.seq ?_
          refine WC.region ?_
          refine seg 1 [] [4] [(4, (.bool false))] [] (fun fb => by kernel_rfl) rfl trivial ?_
          refine WL.done rfl ?_
          refine WX.next ?_
          refine WC.ret ?_
          injection hl3301 with hl3301
          subst hl3301
          injection hf with hf
          subst hf
          exact WX.blockR (WX.thenR (WX.thenR (WX.blockR (WX.thenR (WX.ret_ [] (.bool false) [] (fun fb => by kernel_rfl) trivial ⟨_, rfl, rfl, hS3306.keep⟩)))))
        refine WC.condF2 (fun fb => by kernel_rfl) h3311 ?_
        refine WC.skip ?_
        refine WX.blockN (WX.next ?_)
        refine WC.region ?_
        refine seg 3 [] [2, 3, 5] [(2, (.pointer (some ⟨g3261, 0, none⟩))), (3, (.pointer (some ⟨g3265, 0, none⟩))), (5, (.int .i64 (w64 (x3295 + 1))))] [] (fun fb => by kernel_rfl) rfl trivial ?_
        refine WL.done rfl ?_
        exact WX.again k3298 (Nat.lt_succ_self _) (w64 (x3295 + 1)) [2, 3, 5] rfl ⟨(hS3306.subR [0, 1]).sub [0, 1] (by decide), hl3301⟩
      refine WC.condF2 (fun fb => by kernel_rfl) h3302 ?_
      refine WC.exit ?_
      injection hl3301 with hl3301
      exact WX.thenX (WX.thenX (WX.blockHere (WX.to Kx3296 () [] rfl ⟨(hS3300.subR [0, 1]).sub [] (by decide), hl3301.symm⟩)))
  rintro y3315 w3312 ⟨hS3313, hq3314⟩
  subst hq3314
  have hf := sum_inr hf
  refine WX.next ?_
  refine WC.seq ?_
  refine WC.region ?_
  refine seg 1 [] [4] [(4, (.bool true))] [] (fun fb => by kernel_rfl) rfl trivial ?_
  refine WL.done rfl ?_
  refine WX.next ?_
  refine WC.ret ?_
  injection hf with hf
  subst hf
  exact WX.ret_ [] (.bool true) [] (fun fb => by kernel_rfl) trivial ⟨_, rfl, rfl, hS3313.keep⟩
theorem ref08_both_calls (p0 : Machine) (p1 : Int) (p2 : Int) (A_p0_Actions : Option Addr) (c_p0_Actions : Nat) (r : Int) (w : World) (hR0 : RO NoS w (rowR enc_Action A_p0_Actions c_p0_Actions p0.Actions)) (hf : ref08_both p0 p1 p2 = some r) :
    CallsR Try.prog 55 #[(.agg #[(.int .i64 p0.States), (.int .i64 p0.Symbols), (.slice A_p0_Actions p0.Actions.length c_p0_Actions)]), (.int .i64 p1), (.int .i64 p2)] w (fun v w' => v = (.int .i64 r) ∧ Keeps NoS w w') := by
  have hS : St NoS w w [rowR enc_Action A_p0_Actions c_p0_Actions p0.Actions] [] := St.init (ro_cons hR0 (ro_nil _ _))
  refine enter 16 Try.func55 rfl Try.ntmps55 rfl ?_
  unfold ref08_both at hf
  refine WC.seq ?_
  refine WC.region ?_
  refine WL.new hS 3 [] (fun g => (.pointer (some ⟨g, 0, none⟩))) (.cells #[(.int .i64 p0.States), (.int .i64 p0.Symbols), (.slice A_p0_Actions p0.Actions.length c_p0_Actions)] 24 (0, 0)) [] (fun fb g => by kernel_rfl) trivial (fun g3426 w3427 hS3428 => ?_)
  refine ⟨trivial, ?_⟩
  refine seg 2 [] [1, 2, 3] [(1, (.int .i64 p1)), (2, (.int .i64 p2)), (3, (.pointer (some ⟨g3426, 0, none⟩)))] [] (fun fb => by kernel_rfl) rfl trivial ?_
  refine WL.done rfl ?_
  refine WX.next ?_
  refine WC.seq ?_
  refine WC.region ?_
  refine seg 10 [.v (.int .i64 p0.Symbols), .v (.int .i64 p0.Symbols)] [6] [(6, (.int .i64 (w64 ((w64 (p0.Symbols + (w64 (p1 * p0.Symbols)))) + p2))))] [.cell ⟨g3426, 1, none⟩ (.int .i64 p0.Symbols), .cell ⟨g3426, 1, none⟩ (.int .i64 p0.Symbols)] (fun fb => by kernel_rfl) rfl ⟨hS3428.cell 0 rfl 1 rfl, hS3428.cell 0 rfl 1 rfl, trivial⟩ ?_
  refine WL.done rfl ?_
  refine WX.next ?_
  refine WC.ret ?_
  injection hf with hf
  subst hf
  exact WX.ret_ [] (.int .i64 (w64 ((w64 (p0.Symbols + (w64 (p1 * p0.Symbols)))) + p2))) [] (fun fb => by kernel_rfl) trivial ⟨_, rfl, rfl, hS3428.keep⟩
theorem ref08_Tiles_calls (k : Nat) (p0 : Machine) (A_p0_Actions : Option Addr) (c_p0_Actions : Nat) (r : (List Tile)) (w : World) (hR0 : RO NoS w (rowR enc_Action A_p0_Actions c_p0_Actions p0.Actions)) (hf : ref08_Tiles k p0 = some r) :
    CallsR Try.prog 29 #[(.agg #[(.int .i64 p0.States), (.int .i64 p0.Symbols), (.slice A_p0_Actions p0.Actions.length c_p0_Actions)])] w (fun v w' => ∃ (A1_ : Option Addr), ∃ (c1_ : Nat), v = (.slice A1_ r.length c1_) ∧ St NoS w w' [] [rowO 65 enc_Tile A1_ c1_ r]) := by
  have hS : St NoS w w [rowR enc_Action A_p0_Actions c_p0_Actions p0.Actions] [] := St.init (ro_cons hR0 (ro_nil _ _))
  refine enter 110 Try.func29 rfl Try.ntmps29 rfl ?_
  unfold ref08_Tiles at hf
  refine WC.seq ?_
  refine WC.region ?_
  refine WL.new hS 1 [] (fun g => (.pointer (some ⟨g, 0, none⟩))) (.cells #[(.int .i64 p0.States), (.int .i64 p0.Symbols), (.slice A_p0_Actions p0.Actions.length c_p0_Actions)] 24 (0, 0)) [] (fun fb g => by kernel_rfl) trivial (fun g3355 w3356 hS3357 => ?_)
  refine ⟨trivial, ?_⟩
  refine seg 2 [] [1] [(1, (.pointer (some ⟨g3355, 0, none⟩)))] [] (fun fb => by kernel_rfl) rfl trivial ?_
  refine WL.done rfl ?_
  refine WX.next ?_
  refine WC.seq ?_
  refine WC.region ?_
  refine seg 1 [] [1, 3] [(1, (.pointer (some ⟨g3355, 0, none⟩))), (3, (.slice none 0 0))] [] (fun fb => by kernel_rfl) rfl trivial ?_
  refine WL.done rfl ?_
  refine WX.next ?_
  refine WC.seq ?_
  refine WC.seq ?_
  refine WC.region ?_
  refine seg 1 [] [1, 3, 4] [(1, (.pointer (some ⟨g3355, 0, none⟩))), (3, (.slice none 0 0)), (4, (.int .i64 0))] [] (fun fb => by kernel_rfl) rfl trivial ?_
  refine WL.done rfl ?_
  refine WX.next ?_
  have hS3387 := hS3357.nilrow 65 enc_Tile
  obtain ⟨x3395, hx3396, hf⟩ := bind_some hf
  refine WC.cutN (T := (List Tile) × (Option Addr) × Nat) (fun t => [(1, (.pointer (some ⟨g3355, 0, none⟩))), (3, (.slice t.2.1 t.1.length t.2.2))]) (fun t w1 => St NoS w w1 [rowR enc_Action A_p0_Actions c_p0_Actions p0.Actions] [blk g3355 (.cells #[(.int .i64 p0.States), (.int .i64 p0.Symbols), (.slice A_p0_Actions p0.Actions.length c_p0_Actions)] 24 (0, 0)), rowO 65 enc_Tile t.2.1 t.2.2 t.1] ∧ x3395 = t.1) (fun Kx3395 => ?_) ?_
  ·
    refine WC.block ?_
    refine WC.loop (T := ((List Tile) × Int) × (Option Addr) × Nat) (fun t => [(1, (.pointer (some ⟨g3355, 0, none⟩))), (3, (.slice t.2.1 t.1.1.length t.2.2)), (4, (.int .i64 t.1.2))]) (fun n t w1 => St NoS w w1 [rowR enc_Action A_p0_Actions c_p0_Actions p0.Actions] [blk g3355 (.cells #[(.int .i64 p0.States), (.int .i64 p0.Symbols), (.slice A_p0_Actions p0.Actions.length c_p0_Actions)] 24 (0, 0)), rowO 65 enc_Tile t.2.1 t.2.2 t.1.1] ∧ ref08_Tiles.l0 n t.1.1 t.1.2 p0 = some x3395) k ((([] : List Tile), 0), none, 0) [1, 3, 4] rfl ⟨(hS3387.subR [0]).sub [1, 0] (by decide), hx3396⟩ ?_
    rintro k3397 ⟨⟨l3390, x3391⟩, A3388, c3389⟩ w3398 ⟨hS3399, hl3400⟩
    cases k3397 with
    | zero => rw [ref08_Tiles.l0] at hl3400; cases hl3400
    | succ k3397 =>
      rw [ref08_Tiles.l0] at hl3400
      refine WC.seq ?_
      refine WC.seq ?_
      refine WC.region ?_
      refine seg 4 [.v (.int .i64 p0.Symbols)] [1, 3, 4, 14] [(1, (.pointer (some ⟨g3355, 0, none⟩))), (3, (.slice A3388 l3390.length c3389)), (4, (.int .i64 x3391)), (14, (.bool (decide (x3391 < p0.Symbols))))] [.cell ⟨g3355, 1, none⟩ (.int .i64 p0.Symbols)] (fun fb => by kernel_rfl) rfl ⟨hS3399.cell 0 rfl 1 rfl, trivial⟩ ?_
      refine WL.done rfl ?_
      refine WX.next ?_
      rcases br_some hl3400 with ⟨h3401, hl3400⟩ | ⟨h3401, hl3400⟩
      · refine WC.condT2 (fun fb => by kernel_rfl) h3401 ?_
        refine WC.skip ?_
        refine WX.next ?_
        refine WC.seq ?_
        refine WC.block ?_
        refine WC.region ?_
        refine seg 4 [] [1, 4, 17, 20] [(1, (.pointer (some ⟨g3355, 0, none⟩))), (4, (.int .i64 x3391)), (17, (.slice A3388 l3390.length c3389)), (20, (.agg #[(.int .i64 x3391), (.int .i64 0), (.int .i64 x3391), (.int .i64 0)]))] [] (fun fb => by kernel_rfl) rfl trivial ?_
        refine WL.new hS3399 21 [] (fun g => (.slice (some ⟨g, 0, none⟩) 1 1)) (.cells #[(.int .i64 x3391), (.int .i64 0), (.int .i64 x3391), (.int .i64 0)] 65 (0, 0)) [] (fun fb g => by kernel_rfl) trivial (fun g3402 w3403 hS3404 => ?_)
        refine ⟨trivial, ?_⟩
        have hS3406 : St NoS w w3403 [rowR enc_Action A_p0_Actions c_p0_Actions p0.Actions] [rowO 65 enc_Tile (some ⟨g3402, 0, none⟩) 1 [(Tile.mk x3391 0 x3391 0)], blk g3355 (.cells #[(.int .i64 p0.States), (.int .i64 p0.Symbols), (.slice A_p0_Actions p0.Actions.length c_p0_Actions)] 24 (0, 0)), rowO 65 enc_Tile A3388 c3389 l3390] := hS3404.map1 0 _ (fun h => rowO.ofBlk h rfl (Nat.le_of_ble_eq_true (by kernel_rfl))) (fun _ h => by obtain ⟨_, h1, h2⟩ := h; injection h1 with h1; subst h1; exact h2) [1, 2] (by decide) (by decide)
        obtain ⟨h3407, hl3400⟩ := as_some hl3400
        refine WL.append hS3406 2 (d := 22) (tS := 50) (z := (.agg #[(.int .i64 0), (.int .i64 0), (.int .i64 0), (.int .i64 0)])) (bytes := 32) (c2 := 1) rfl (fun fb => by kernel_rfl) (rowO.rd (hS3406.own 0).1) (by kernel_rfl) (by kernel_rfl) rfl (by decide) h3407 (by decide) [0, 1] (by decide) (by decide) (fun A3408 c3409 w3410 hS3411 => ?_)
        refine ⟨trivial, ?_⟩
        refine seg 7 [] [1, 3, 4] [(1, (.pointer (some ⟨g3355, 0, none⟩))), (3, (.slice A3408 (l3390 ++ [(Tile.mk x3391 0 x3391 0)]).length c3409)), (4, (.int .i64 x3391))] [] (fun fb => by kernel_rfl) rfl trivial ?_
        refine WL.done rfl ?_
        refine WX.blockN (WX.next ?_)
        refine WC.region ?_
        refine seg 3 [] [1, 3, 4] [(1, (.pointer (some ⟨g3355, 0, none⟩))), (3, (.slice A3408 (l3390 ++ [(Tile.mk x3391 0 x3391 0)]).length c3409)), (4, (.int .i64 (w64 (x3391 + 1))))] [] (fun fb => by kernel_rfl) rfl trivial ?_
        refine WL.done rfl ?_
        exact WX.again k3397 (Nat.lt_succ_self _) ((l3390 ++ [(Tile.mk x3391 0 x3391 0)], w64 (x3391 + 1)), A3408, c3409) [1, 3, 4] rfl ⟨(hS3411.subR [0]).sub [2, 0] (by decide), hl3400⟩
      refine WC.condF2 (fun fb => by kernel_rfl) h3401 ?_
      refine WC.exit ?_
      injection hl3400 with hl3400
      exact WX.thenX (WX.thenX (WX.blockHere (WX.to Kx3395 (l3390, A3388, c3389) [1, 3] rfl ⟨(hS3399.subR [0]).sub [0, 1] (by decide), hl3400.symm⟩)))
  rintro ⟨y3415, A3392, c3393⟩ w3412 ⟨hS3413, hq3414⟩
  subst hq3414
  refine WX.next ?_
  refine WC.seq ?_
  refine WC.seq ?_
  refine WC.region ?_
  refine seg 1 [] [1, 3, 5] [(1, (.pointer (some ⟨g3355, 0, none⟩))), (3, (.slice A3392 x3395.length c3393)), (5, (.int .i64 0))] [] (fun fb => by kernel_rfl) rfl trivial ?_
  refine WL.done rfl ?_
  refine WX.next ?_
  obtain ⟨x4807, hx4808, hf⟩ := bind_some hf
  refine WC.cutN (T := (List Tile) × (Option Addr) × Nat) (fun t => [(1, (.pointer (some ⟨g3355, 0, none⟩))), (3, (.slice t.2.1 t.1.length t.2.2))]) (fun t w1 => St NoS w w1 [rowR enc_Action A_p0_Actions c_p0_Actions p0.Actions] [blk g3355 (.cells #[(.int .i64 p0.States), (.int .i64 p0.Symbols), (.slice A_p0_Actions p0.Actions.length c_p0_Actions)] 24 (0, 0)), rowO 65 enc_Tile t.2.1 t.2.2 t.1] ∧ x4807 = t.1) (fun Kx4807 => ?_) ?_
  ·
    refine WC.block ?_
    refine WC.loop (T := ((List Tile) × Int) × (Option Addr) × Nat) (fun t => [(1, (.pointer (some ⟨g3355, 0, none⟩))), (3, (.slice t.2.1 t.1.1.length t.2.2)), (5, (.int .i64 t.1.2))]) (fun n t w1 => St NoS w w1 [rowR enc_Action A_p0_Actions c_p0_Actions p0.Actions] [blk g3355 (.cells #[(.int .i64 p0.States), (.int .i64 p0.Symbols), (.slice A_p0_Actions p0.Actions.length c_p0_Actions)] 24 (0, 0)), rowO 65 enc_Tile t.2.1 t.2.2 t.1.1] ∧ ref08_Tiles.l1 n t.1.1 t.1.2 p0 = some x4807) k ((x3395, 0), A3392, c3393) [1, 3, 5] rfl ⟨(hS3413.subR [0]).sub [0, 1] (by decide), hx4808⟩ ?_
    rintro k4809 ⟨⟨l4802, x4803⟩, A4800, c4801⟩ w4810 ⟨hS4811, hl4812⟩
    cases k4809 with
    | zero => rw [ref08_Tiles.l1] at hl4812; cases hl4812
    | succ k4809 =>
      rw [ref08_Tiles.l1] at hl4812
      refine WC.seq ?_
      refine WC.seq ?_
      refine WC.region ?_
      refine seg 4 [.v (.int .i64 p0.States)] [1, 3, 5, 26] [(1, (.pointer (some ⟨g3355, 0, none⟩))), (3, (.slice A4800 l4802.length c4801)), (5, (.int .i64 x4803)), (26, (.bool (decide (x4803 < p0.States))))] [.cell ⟨g3355, 0, none⟩ (.int .i64 p0.States)] (fun fb => by kernel_rfl) rfl ⟨hS4811.cell 0 rfl 0 rfl, trivial⟩ ?_
      refine WL.done rfl ?_
      refine WX.next ?_
      rcases br_some hl4812 with ⟨h4813, hl4812⟩ | ⟨h4813, hl4812⟩
      · refine WC.condT2 (fun fb => by kernel_rfl) h4813 ?_
        refine WC.skip ?_
        refine WX.next ?_
        refine WC.seq ?_
        refine WC.block ?_
        refine WC.seq ?_
        refine WC.region ?_
        refine seg 1 [] [1, 3, 5, 6] [(1, (.pointer (some ⟨g3355, 0, none⟩))), (3, (.slice A4800 l4802.length c4801)), (5, (.int .i64 x4803)), (6, (.int .i64 0))] [] (fun fb => by kernel_rfl) rfl trivial ?_
        refine WL.done rfl ?_
        refine WX.next ?_
        obtain ⟨x5269, hx5270, hl4812⟩ := bind_some hl4812
        refine WC.cutN (T := (List Tile) × (Option Addr) × Nat) (fun t => [(1, (.pointer (some ⟨g3355, 0, none⟩))), (3, (.slice t.2.1 t.1.length t.2.2)), (5, (.int .i64 x4803))]) (fun t w1 => St NoS w w1 [rowR enc_Action A_p0_Actions c_p0_Actions p0.Actions] [blk g3355 (.cells #[(.int .i64 p0.States), (.int .i64 p0.Symbols), (.slice A_p0_Actions p0.Actions.length c_p0_Actions)] 24 (0, 0)), rowO 65 enc_Tile t.2.1 t.2.2 t.1] ∧ x5269 = t.1) (fun Kx5269 => ?_) ?_
        ·
          refine WC.block ?_
          refine WC.loop (T := ((List Tile) × Int) × (Option Addr) × Nat) (fun t => [(1, (.pointer (some ⟨g3355, 0, none⟩))), (3, (.slice t.2.1 t.1.1.length t.2.2)), (5, (.int .i64 x4803)), (6, (.int .i64 t.1.2))]) (fun n t w1 => St NoS w w1 [rowR enc_Action A_p0_Actions c_p0_Actions p0.Actions] [blk g3355 (.cells #[(.int .i64 p0.States), (.int .i64 p0.Symbols), (.slice A_p0_Actions p0.Actions.length c_p0_Actions)] 24 (0, 0)), rowO 65 enc_Tile t.2.1 t.2.2 t.1.1] ∧ ref08_Tiles.l2 n t.1.1 t.1.2 p0 x4803 = some x5269) k4809 ((l4802, 0), A4800, c4801) [1, 3, 5, 6] rfl ⟨(hS4811.subR [0]).sub [0, 1] (by decide), hx5270⟩ ?_
          rintro k5271 ⟨⟨l5264, x5265⟩, A5262, c5263⟩ w5272 ⟨hS5273, hl5274⟩
          cases k5271 with
          | zero => rw [ref08_Tiles.l2] at hl5274; cases hl5274
          | succ k5271 =>
            rw [ref08_Tiles.l2] at hl5274
            refine WC.seq ?_
            refine WC.seq ?_
            refine WC.region ?_
            refine seg 4 [.v (.int .i64 p0.Symbols)] [1, 3, 5, 6, 32] [(1, (.pointer (some ⟨g3355, 0, none⟩))), (3, (.slice A5262 l5264.length c5263)), (5, (.int .i64 x4803)), (6, (.int .i64 x5265)), (32, (.bool (decide (x5265 < p0.Symbols))))] [.cell ⟨g3355, 1, none⟩ (.int .i64 p0.Symbols)] (fun fb => by kernel_rfl) rfl ⟨hS5273.cell 0 rfl 1 rfl, trivial⟩ ?_
            refine WL.done rfl ?_
            refine WX.next ?_
            rcases br_some hl5274 with ⟨h5275, hl5274⟩ | ⟨h5275, hl5274⟩
            · refine WC.condT2 (fun fb => by kernel_rfl) h5275 ?_
              refine WC.skip ?_
              refine WX.next ?_
              refine WC.seq ?_
              obtain ⟨x5385, hx5386, hl5274⟩ := bind_some hl5274
              refine WC.cutN (T := (List Tile) × (Option Addr) × Nat) (fun t => [(1, (.pointer (some ⟨g3355, 0, none⟩))), (3, (.slice t.2.1 t.1.length t.2.2)), (5, (.int .i64 x4803)), (6, (.int .i64 x5265))]) (fun t w1 => St NoS w w1 [rowR enc_Action A_p0_Actions c_p0_Actions p0.Actions] [blk g3355 (.cells #[(.int .i64 p0.States), (.int .i64 p0.Symbols), (.slice A_p0_Actions p0.Actions.length c_p0_Actions)] 24 (0, 0)), rowO 65 enc_Tile t.2.1 t.2.2 t.1] ∧ x5385 = t.1) (fun Kx5385 => ?_) ?_
              ·
                refine WC.block ?_
                refine WC.seq ?_
                refine WC.region ?_
                refine seg 8 [.v (.slice A_p0_Actions p0.Actions.length c_p0_Actions), .v (.int .i64 p0.Symbols)] [1, 3, 5, 6, 36, 42] [(1, (.pointer (some ⟨g3355, 0, none⟩))), (3, (.slice A5262 l5264.length c5263)), (5, (.int .i64 x4803)), (6, (.int .i64 x5265)), (36, (.slice A_p0_Actions p0.Actions.length c_p0_Actions)), (42, (.int .i64 (w64 ((w64 (x4803 * p0.Symbols)) + x5265))))] [.cell ⟨g3355, 2, none⟩ (.slice A_p0_Actions p0.Actions.length c_p0_Actions), .cell ⟨g3355, 1, none⟩ (.int .i64 p0.Symbols)] (fun fb => by kernel_rfl) rfl ⟨hS5273.cell 0 rfl 2 rfl, hS5273.cell 0 rfl 1 rfl, trivial⟩ ?_
                obtain ⟨h5387, hx5386⟩ := as_some hx5386
                refine seg 10 [.v (.int .i64 ((rdD p0.Actions (w64 ((w64 (x4803 * p0.Symbols)) + x5265)) z_Action).Write)), .v (.int .i64 ((rdD p0.Actions (w64 ((w64 (x4803 * p0.Symbols)) + x5265)) z_Action).Move)), .v (.int .i64 ((rdD p0.Actions (w64 ((w64 (x4803 * p0.Symbols)) + x5265)) z_Action).Next))] [1, 3, 5, 6, 44] [(1, (.pointer (some ⟨g3355, 0, none⟩))), (3, (.slice A5262 l5264.length c5263)), (5, (.int .i64 x4803)), (6, (.int .i64 x5265)), (44, (.agg #[(.int .i64 ((rdD p0.Actions (w64 ((w64 (x4803 * p0.Symbols)) + x5265)) z_Action).Write)), (.int .i64 ((rdD p0.Actions (w64 ((w64 (x4803 * p0.Symbols)) + x5265)) z_Action).Move)), (.int .i64 ((rdD p0.Actions (w64 ((w64 (x4803 * p0.Symbols)) + x5265)) z_Action).Next))]))] [.idx A_p0_Actions (w64 ((w64 (x4803 * p0.Symbols)) + x5265)) p0.Actions.length, .cell ((adr A_p0_Actions).add ((w64 ((w64 (x4803 * p0.Symbols)) + x5265)).toNat * 3)) (.int .i64 ((rdD p0.Actions (w64 ((w64 (x4803 * p0.Symbols)) + x5265)) z_Action).Write)), .cell (((adr A_p0_Actions).add ((w64 ((w64 (x4803 * p0.Symbols)) + x5265)).toNat * 3)).add 1) (.int .i64 ((rdD p0.Actions (w64 ((w64 (x4803 * p0.Symbols)) + x5265)) z_Action).Move)), .cell (((adr A_p0_Actions).add ((w64 ((w64 (x4803 * p0.Symbols)) + x5265)).toNat * 3)).add 2) (.int .i64 ((rdD p0.Actions (w64 ((w64 (x4803 * p0.Symbols)) + x5265)) z_Action).Next))] (fun fb => by kernel_rfl) rfl ⟨rowR.adr (hS5273.rd 0).1 h5387.1 h5387.2, rowR.cell (hS5273.rd 0).1 z_Action h5387.1 h5387.2 0 rfl, rowR.cell (hS5273.rd 0).1 z_Action h5387.1 h5387.2 1 rfl, rowR.cell (hS5273.rd 0).1 z_Action h5387.1 h5387.2 2 rfl, trivial⟩ ?_
                refine WL.new hS5273 7 [] (fun g => (.pointer (some ⟨g, 0, none⟩))) (.cells #[(.int .i64 0), (.int .i64 0), (.int .i64 0)] 88 (0, 0)) [] (fun fb g => by kernel_rfl) trivial (fun g5388 w5389 hS5390 => ?_)
                refine ⟨trivial, ?_⟩
                refine WL.store hS5390 0 rfl [(0, (.int .i64 ((rdD p0.Actions (w64 ((w64 (x4803 * p0.Symbols)) + x5265)) z_Action).Write))), (1, (.int .i64 ((rdD p0.Actions (w64 ((w64 (x4803 * p0.Symbols)) + x5265)) z_Action).Move))), (2, (.int .i64 ((rdD p0.Actions (w64 ((w64 (x4803 * p0.Symbols)) + x5265)) z_Action).Next)))] #[(.int .i64 ((rdD p0.Actions (w64 ((w64 (x4803 * p0.Symbols)) + x5265)) z_Action).Write)), (.int .i64 ((rdD p0.Actions (w64 ((w64 (x4803 * p0.Symbols)) + x5265)) z_Action).Move)), (.int .i64 ((rdD p0.Actions (w64 ((w64 (x4803 * p0.Symbols)) + x5265)) z_Action).Next))] (fun fb => by kernel_rfl) (by kernel_rfl) rfl [1, 2] (by decide) (by decide) (fun w5392 hS5393 => ?_)
                refine ⟨trivial, ?_⟩
                refine WL.done rfl ?_
                refine WX.next ?_
                refine WC.seq ?_
                refine WC.seq ?_
                refine WC.region ?_
                refine seg 5 [.v (.int .i64 ((rdD p0.Actions (w64 ((w64 (x4803 * p0.Symbols)) + x5265)) z_Action).Next)), .v (.int .i64 p0.States)] [1, 3, 5, 6, 7, 49] [(1, (.pointer (some ⟨g3355, 0, none⟩))), (3, (.slice A5262 l5264.length c5263)), (5, (.int .i64 x4803)), (6, (.int .i64 x5265)), (7, (.pointer (some ⟨g5388, 0, none⟩))), (49, (.bool (((rdD p0.Actions (w64 ((w64 (x4803 * p0.Symbols)) + x5265)) z_Action).Next) == p0.States)))] [.cell ⟨g5388, 2, none⟩ (.int .i64 ((rdD p0.Actions (w64 ((w64 (x4803 * p0.Symbols)) + x5265)) z_Action).Next)), .cell ⟨g3355, 0, none⟩ (.int .i64 p0.States)] (fun fb => by kernel_rfl) rfl ⟨hS5393.cell 0 rfl 2 rfl, hS5393.cell 1 rfl 0 rfl, trivial⟩ ?_
                refine WL.done rfl ?_
                refine WX.next ?_
                rcases br_some hx5386 with ⟨h5394, hx5386⟩ | ⟨h5394, hx5386⟩
                · refine WC.condT2 (fun fb => by kernel_rfl) h5394 ?_
                  refine WC.exit ?_
                  injection hx5386 with hx5386
                  exact WX.thenX (WX.blockHere (WX.to Kx5385 (l5264, A5262, c5263) [1, 3, 5, 6] rfl ⟨(hS5393.subR [0]).sub [1, 2] (by decide), hx5386.symm⟩))
                refine WC.condF2 (fun fb => by kernel_rfl) h5394 ?_
                refine WC.skip ?_
                refine WX.next ?_
                refine WC.seq ?_
                obtain ⟨x5435, hx5436, hx5386⟩ := bind_some hx5386
                refine WC.cutN (T := (Int × Int × Int × Int) × Nat) (fun t => [(1, (.pointer (some ⟨g3355, 0, none⟩))), (3, (.slice A5262 l5264.length c5263)), (5, (.int .i64 x4803)), (6, (.int .i64 x5265)), (7, (.pointer (some ⟨g5388, 0, none⟩))), (8, (.pointer (some ⟨t.2, 0, none⟩)))]) (fun t w1 => St NoS w w1 [rowR enc_Action A_p0_Actions c_p0_Actions p0.Actions] [blk g3355 (.cells #[(.int .i64 p0.States), (.int .i64 p0.Symbols), (.slice A_p0_Actions p0.Actions.length c_p0_Actions)] 24 (0, 0)), rowO 65 enc_Tile A5262 c5263 l5264, blk g5388 (.cells #[(.int .i64 ((rdD p0.Actions (w64 ((w64 (x4803 * p0.Symbols)) + x5265)) z_Action).Write)), (.int .i64 ((rdD p0.Actions (w64 ((w64 (x4803 * p0.Symbols)) + x5265)) z_Action).Move)), (.int .i64 ((rdD p0.Actions (w64 ((w64 (x4803 * p0.Symbols)) + x5265)) z_Action).Next))] 88 (0, 0)), blk t.2 (.cells #[(.int .i64 t.1.1), (.int .i64 t.1.2.1), (.int .i64 t.1.2.2.1), (.int .i64 t.1.2.2.2)] 65 (0, 0))] ∧ x5435 = t.1) (fun Kx5435 => ?_) ?_
                ·
                  refine WC.regionD ([(0, ⟨g3355, 0, none⟩, (.int .i64 p0.States)), (0, ⟨g3355, 1, none⟩, (.int .i64 p0.Symbols)), (0, ⟨g3355, 2, none⟩, (.slice A_p0_Actions p0.Actions.length c_p0_Actions)), (5, ⟨g5388, 0, none⟩, (.int .i64 ((rdD p0.Actions (w64 ((w64 (x4803 * p0.Symbols)) + x5265)) z_Action).Write)))], [0, 1, 2, 4, 5, 6], [[], [], [], [0, 1, 2], [], [4], [0, 1, 2, 3, 4, 5], [], [0, 1, 2, 3, 4, 5, 6, 7]]) [[0, 1, 2, 4, 5, 3, 6, 7, 8], [0, 1, 2, 4, 5, 7, 3, 6, 8]] (by kernel_rfl) (by kernel_rfl) (NoPanic.seq (NoPanic.block (NoPanic.seq (NoPanic.seq (NoPanic.block (NoPanic.block (NoPanic.seq (NoPanic.seq (NoPanic.block (NoPanic.seq (NoPanic.body))))))))))) ?_
                  have hS5438 := hS5393.drew
                  revert hS5438
                  generalize World.drew w5392 = w5437
                  intro hS5438
                  refine ⟨⟨hS5438.cell 1 rfl 0 rfl, hS5438.cell 1 rfl 1 rfl, hS5438.cell 1 rfl 2 rfl, hS5438.cell 0 rfl 0 rfl, trivial⟩, forallC ?_ (forallC ?_ (forallN))⟩
                  ·
                    refine segF 5 [.v (.int .i64 p0.States), .v (.int .i64 p0.Symbols), .v (.slice A_p0_Actions p0.Actions.length c_p0_Actions), .v (.int .i64 ((rdD p0.Actions (w64 ((w64 (x4803 * p0.Symbols)) + x5265)) z_Action).Write))] [1, 3, 5, 6, 7, 50, 51, 52, 55] [(1, (.pointer (some ⟨g3355, 0, none⟩))), (3, (.slice A5262 l5264.length c5263)), (5, (.int .i64 x4803)), (6, (.int .i64 x5265)), (7, (.pointer (some ⟨g5388, 0, none⟩))), (50, (.agg #[(.int .i64 p0.States), (.int .i64 p0.Symbols), (.slice A_p0_Actions p0.Actions.length c_p0_Actions)])), (51, (.int .i64 x4803)), (52, (.int .i64 x5265)), (55, (.int .i64 ((rdD p0.Actions (w64 ((w64 (x4803 * p0.Symbols)) + x5265)) z_Action).Write)))] [] [0, 1, 2, 3] [(0, ⟨g3355, 0, none⟩, (.int .i64 p0.States)), (0, ⟨g3355, 1, none⟩, (.int .i64 p0.Symbols)), (0, ⟨g3355, 2, none⟩, (.slice A_p0_Actions p0.Actions.length c_p0_Actions)), (5, ⟨g5388, 0, none⟩, (.int .i64 ((rdD p0.Actions (w64 ((w64 (x4803 * p0.Symbols)) + x5265)) z_Action).Write)))] (fun fb => by kernel_rfl) rfl trivial rfl ?_
                    obtain ⟨t5439, ht5440, hx5436⟩ := bind_some hx5436
                    refine WL.call (some 53) 55 #[(.agg #[(.int .i64 p0.States), (.int .i64 p0.Symbols), (.slice A_p0_Actions p0.Actions.length c_p0_Actions)]), (.int .i64 x4803), (.int .i64 x5265)] (fun fb => by kernel_rfl) (ref08_both_calls p0 x4803 x5265 A_p0_Actions c_p0_Actions t5439 _ (hS5438.rd 0) ht5440) (fun v w5441 hR5442 => ?_)
                    obtain ⟨rfl, hk_⟩ := hR5442
                    have hS5443 := hS5438.keepN hk_
                    refine ⟨⟨hS5443.cell 0 rfl 0 rfl, trivial⟩, ?_⟩
                    refine seg 7 [] [1, 3, 5, 6, 7, 56] [(1, (.pointer (some ⟨g3355, 0, none⟩))), (3, (.slice A5262 l5264.length c5263)), (5, (.int .i64 x4803)), (6, (.int .i64 x5265)), (7, (.pointer (some ⟨g5388, 0, none⟩))), (56, (.agg #[(.int .i64 ((rdD p0.Actions (w64 ((w64 (x4803 * p0.Symbols)) + x5265)) z_Action).Write)), (.int .i64 0), (.int .i64 t5439), (.int .i64 0)]))] [] (fun fb => by kernel_rfl) rfl trivial ?_
                    refine WL.new hS5443 8 [] (fun g => (.pointer (some ⟨g, 0, none⟩))) (.cells #[(.int .i64 0), (.int .i64 0), (.int .i64 0), (.int .i64 0)] 65 (0, 0)) [] (fun fb g => by kernel_rfl) trivial (fun g5444 w5445 hS5446 => ?_)
                    refine ⟨⟨hS5446.cell 2 rfl 0 rfl, hS5446.cell 2 rfl 1 rfl, hS5446.cell 2 rfl 2 rfl, hS5446.cell 1 rfl 0 rfl, trivial⟩, ?_⟩
                    refine WL.store hS5446 0 rfl [(0, (.int .i64 ((rdD p0.Actions (w64 ((w64 (x4803 * p0.Symbols)) + x5265)) z_Action).Write))), (1, (.int .i64 0)), (2, (.int .i64 t5439)), (3, (.int .i64 0))] #[(.int .i64 ((rdD p0.Actions (w64 ((w64 (x4803 * p0.Symbols)) + x5265)) z_Action).Write)), (.int .i64 0), (.int .i64 t5439), (.int .i64 0)] (fun fb => by kernel_rfl) (by kernel_rfl) rfl [1, 2, 3] (by decide) (by decide) (fun w5448 hS5449 => ?_)
                    refine ⟨trivial, ?_⟩
                    refine WL.done rfl ?_
                    injection hx5436 with hx5436
                    exact WX.to Kx5435 (((rdD p0.Actions (w64 ((w64 (x4803 * p0.Symbols)) + x5265)) z_Action).Write, 0, t5439, 0), g5444) [1, 3, 5, 6, 7, 8] rfl ⟨(hS5449.subR [0]).sub [2, 3, 1, 0] (by decide), hx5436.symm⟩
                  refine segF 5 [.v (.int .i64 p0.States), .v (.int .i64 p0.Symbols), .v (.slice A_p0_Actions p0.Actions.length c_p0_Actions), .v (.int .i64 ((rdD p0.Actions (w64 ((w64 (x4803 * p0.Symbols)) + x5265)) z_Action).Write))] [1, 3, 5, 6, 7, 50, 51, 52, 55] [(1, (.pointer (some ⟨g3355, 0, none⟩))), (3, (.slice A5262 l5264.length c5263)), (5, (.int .i64 x4803)), (6, (.int .i64 x5265)), (7, (.pointer (some ⟨g5388, 0, none⟩))), (50, (.agg #[(.int .i64 p0.States), (.int .i64 p0.Symbols), (.slice A_p0_Actions p0.Actions.length c_p0_Actions)])), (51, (.int .i64 x4803)), (52, (.int .i64 x5265)), (55, (.int .i64 ((rdD p0.Actions (w64 ((w64 (x4803 * p0.Symbols)) + x5265)) z_Action).Write)))] [] [0, 1, 2, 3] [(0, ⟨g3355, 0, none⟩, (.int .i64 p0.States)), (0, ⟨g3355, 1, none⟩, (.int .i64 p0.Symbols)), (0, ⟨g3355, 2, none⟩, (.slice A_p0_Actions p0.Actions.length c_p0_Actions)), (5, ⟨g5388, 0, none⟩, (.int .i64 ((rdD p0.Actions (w64 ((w64 (x4803 * p0.Symbols)) + x5265)) z_Action).Write)))] (fun fb => by kernel_rfl) rfl trivial rfl ?_
                  refine WL.new hS5438 8 [] (fun g => (.pointer (some ⟨g, 0, none⟩))) (.cells #[(.int .i64 0), (.int .i64 0), (.int .i64 0), (.int .i64 0)] 65 (0, 0)) [] (fun fb g => by kernel_rfl) trivial (fun g5450 w5451 hS5452 => ?_)
                  refine ⟨⟨hS5452.cell 2 rfl 0 rfl, hS5452.cell 2 rfl 1 rfl, hS5452.cell 2 rfl 2 rfl, hS5452.cell 1 rfl 0 rfl, trivial⟩, ?_⟩
                  obtain ⟨t5454, ht5455, hx5436⟩ := bind_some hx5436
                  refine WL.call (some 53) 55 #[(.agg #[(.int .i64 p0.States), (.int .i64 p0.Symbols), (.slice A_p0_Actions p0.Actions.length c_p0_Actions)]), (.int .i64 x4803), (.int .i64 x5265)] (fun fb => by kernel_rfl) (ref08_both_calls p0 x4803 x5265 A_p0_Actions c_p0_Actions t5454 _ (hS5452.rd 0) ht5455) (fun v w5456 hR5457 => ?_)
                  obtain ⟨rfl, hk_⟩ := hR5457
                  have hS5458 := hS5452.keepN hk_
                  refine ⟨⟨hS5458.cell 1 rfl 0 rfl, trivial⟩, ?_⟩
                  refine seg 8 [] [1, 3, 5, 6, 7, 8, 56] [(1, (.pointer (some ⟨g3355, 0, none⟩))), (3, (.slice A5262 l5264.length c5263)), (5, (.int .i64 x4803)), (6, (.int .i64 x5265)), (7, (.pointer (some ⟨g5388, 0, none⟩))), (8, (.pointer (some ⟨g5450, 0, none⟩))), (56, (.agg #[(.int .i64 ((rdD p0.Actions (w64 ((w64 (x4803 * p0.Symbols)) + x5265)) z_Action).Write)), (.int .i64 0), (.int .i64 t5454), (.int .i64 0)]))] [] (fun fb => by kernel_rfl) rfl trivial ?_
                  refine WL.store hS5458 0 rfl [(0, (.int .i64 ((rdD p0.Actions (w64 ((w64 (x4803 * p0.Symbols)) + x5265)) z_Action).Write))), (1, (.int .i64 0)), (2, (.int .i64 t5454)), (3, (.int .i64 0))] #[(.int .i64 ((rdD p0.Actions (w64 ((w64 (x4803 * p0.Symbols)) + x5265)) z_Action).Write)), (.int .i64 0), (.int .i64 t5454), (.int .i64 0)] (fun fb => by kernel_rfl) (by kernel_rfl) rfl [1, 2, 3] (by decide) (by decide) (fun w5459 hS5460 => ?_)
                  refine ⟨trivial, ?_⟩
                  refine WL.done rfl ?_
                  injection hx5436 with hx5436
                  exact WX.to Kx5435 (((rdD p0.Actions (w64 ((w64 (x4803 * p0.Symbols)) + x5265)) z_Action).Write, 0, t5454, 0), g5450) [1, 3, 5, 6, 7, 8] rfl ⟨(hS5460.subR [0]).sub [2, 3, 1, 0] (by decide), hx5436.symm⟩
                rintro ⟨y5464, g5430⟩ w5461 ⟨hS5462, hq5463⟩
                subst hq5463
                refine WX.next ?_
                refine WC.seq ?_
                refine WC.seq ?_
                refine WC.region ?_
                refine seg 3 [.v (.int .i64 ((rdD p0.Actions (w64 ((w64 (x4803 * p0.Symbols)) + x5265)) z_Action).Move))] [1, 3, 5, 6, 7, 8, 59] [(1, (.pointer (some ⟨g3355, 0, none⟩))), (3, (.slice A5262 l5264.length c5263)), (5, (.int .i64 x4803)), (6, (.int .i64 x5265)), (7, (.pointer (some ⟨g5388, 0, none⟩))), (8, (.pointer (some ⟨g5430, 0, none⟩))), (59, (.bool (((rdD p0.Actions (w64 ((w64 (x4803 * p0.Symbols)) + x5265)) z_Action).Move) == 1)))] [.cell ⟨g5388, 1, none⟩ (.int .i64 ((rdD p0.Actions (w64 ((w64 (x4803 * p0.Symbols)) + x5265)) z_Action).Move))] (fun fb => by kernel_rfl) rfl ⟨hS5462.cell 2 rfl 1 rfl, trivial⟩ ?_
                refine WL.done rfl ?_
                refine WX.next ?_
                obtain ⟨x5472, hx5473, hx5386⟩ := bind_some hx5386
                refine WC.cutN (T := Int × Int) (fun t => [(1, (.pointer (some ⟨g3355, 0, none⟩))), (3, (.slice A5262 l5264.length c5263)), (5, (.int .i64 x4803)), (6, (.int .i64 x5265)), (8, (.pointer (some ⟨g5430, 0, none⟩)))]) (fun t w1 => St NoS w w1 [rowR enc_Action A_p0_Actions c_p0_Actions p0.Actions] [blk g3355 (.cells #[(.int .i64 p0.States), (.int .i64 p0.Symbols), (.slice A_p0_Actions p0.Actions.length c_p0_Actions)] 24 (0, 0)), rowO 65 enc_Tile A5262 c5263 l5264, blk g5430 (.cells #[(.int .i64 x5435.1), (.int .i64 t.1), (.int .i64 x5435.2.2.1), (.int .i64 t.2)] 65 (0, 0))] ∧ x5472 = t) (fun Kx5472 => ?_) ?_
                ·
                  rcases br_some hx5473 with ⟨h5474, hx5473⟩ | ⟨h5474, hx5473⟩
                  · refine WC.condT2 (fun fb => by kernel_rfl) h5474 ?_
                    refine WC.region ?_
                    refine seg 4 [.v (.int .i64 ((rdD p0.Actions (w64 ((w64 (x4803 * p0.Symbols)) + x5265)) z_Action).Next))] [1, 3, 5, 6, 8, 62, 63] [(1, (.pointer (some ⟨g3355, 0, none⟩))), (3, (.slice A5262 l5264.length c5263)), (5, (.int .i64 x4803)), (6, (.int .i64 x5265)), (8, (.pointer (some ⟨g5430, 0, none⟩))), (62, (.int .i64 (w64 (1 + ((rdD p0.Actions (w64 ((w64 (x4803 * p0.Symbols)) + x5265)) z_Action).Next))))), (63, (.pointer (some ⟨g5430, 1, none⟩)))] [.cell ⟨g5388, 2, none⟩ (.int .i64 ((rdD p0.Actions (w64 ((w64 (x4803 * p0.Symbols)) + x5265)) z_Action).Next))] (fun fb => by kernel_rfl) rfl ⟨hS5462.cell 2 rfl 2 rfl, trivial⟩ ?_
                    refine WL.store hS5462 3 rfl [(1, (.int .i64 (w64 (1 + ((rdD p0.Actions (w64 ((w64 (x4803 * p0.Symbols)) + x5265)) z_Action).Next)))))] #[(.int .i64 x5435.1), (.int .i64 (w64 (1 + ((rdD p0.Actions (w64 ((w64 (x4803 * p0.Symbols)) + x5265)) z_Action).Next)))), (.int .i64 x5435.2.2.1), (.int .i64 x5435.2.2.2)] (fun fb => by kernel_rfl) (by kernel_rfl) rfl [0, 1, 2] (by decide) (by decide) (fun w5475 hS5476 => ?_)
                    refine ⟨trivial, ?_⟩
                    refine WL.done rfl ?_
                    injection hx5473 with hx5473
                    exact WX.to Kx5472 (w64 (1 + ((rdD p0.Actions (w64 ((w64 (x4803 * p0.Symbols)) + x5265)) z_Action).Next)), x5435.2.2.2) [1, 3, 5, 6, 8] rfl ⟨(hS5476.subR [0]).sub [1, 2, 0] (by decide), hx5473.symm⟩
                  refine WC.condF2 (fun fb => by kernel_rfl) h5474 ?_
                  refine WC.region ?_
                  refine seg 7 [.v (.int .i64 p0.States), .v (.int .i64 ((rdD p0.Actions (w64 ((w64 (x4803 * p0.Symbols)) + x5265)) z_Action).Next))] [1, 3, 5, 6, 8, 69, 70] [(1, (.pointer (some ⟨g3355, 0, none⟩))), (3, (.slice A5262 l5264.length c5263)), (5, (.int .i64 x4803)), (6, (.int .i64 x5265)), (8, (.pointer (some ⟨g5430, 0, none⟩))), (69, (.int .i64 (w64 ((w64 (1 + p0.States)) + ((rdD p0.Actions (w64 ((w64 (x4803 * p0.Symbols)) + x5265)) z_Action).Next))))), (70, (.pointer (some ⟨g5430, 3, none⟩)))] [.cell ⟨g3355, 0, none⟩ (.int .i64 p0.States), .cell ⟨g5388, 2, none⟩ (.int .i64 ((rdD p0.Actions (w64 ((w64 (x4803 * p0.Symbols)) + x5265)) z_Action).Next))] (fun fb => by kernel_rfl) rfl ⟨hS5462.cell 0 rfl 0 rfl, hS5462.cell 2 rfl 2 rfl, trivial⟩ ?_
                  refine WL.store hS5462 3 rfl [(3, (.int .i64 (w64 ((w64 (1 + p0.States)) + ((rdD p0.Actions (w64 ((w64 (x4803 * p0.Symbols)) + x5265)) z_Action).Next)))))] #[(.int .i64 x5435.1), (.int .i64 x5435.2.1), (.int .i64 x5435.2.2.1), (.int .i64 (w64 ((w64 (1 + p0.States)) + ((rdD p0.Actions (w64 ((w64 (x4803 * p0.Symbols)) + x5265)) z_Action).Next))))] (fun fb => by kernel_rfl) (by kernel_rfl) rfl [0, 1, 2] (by decide) (by decide) (fun w5477 hS5478 => ?_)
                  refine ⟨trivial, ?_⟩
                  refine WL.done rfl ?_
                  injection hx5473 with hx5473
                  exact WX.to Kx5472 (x5435.2.1, w64 ((w64 (1 + p0.States)) + ((rdD p0.Actions (w64 ((w64 (x4803 * p0.Symbols)) + x5265)) z_Action).Next))) [1, 3, 5, 6, 8] rfl ⟨(hS5478.subR [0]).sub [1, 2, 0] (by decide), hx5473.symm⟩
                rintro y5482 w5479 ⟨hS5480, hq5481⟩
                subst hq5481
                refine WX.next ?_
                refine WC.region ?_
                refine seg 2 [.v (.int .i64 x5435.1), .v (.int .i64 x5472.1), .v (.int .i64 x5435.2.2.1), .v (.int .i64 x5472.2)] [1, 5, 6, 71, 72] [(1, (.pointer (some ⟨g3355, 0, none⟩))), (5, (.int .i64 x4803)), (6, (.int .i64 x5265)), (71, (.slice A5262 l5264.length c5263)), (72, (.agg #[(.int .i64 x5435.1), (.int .i64 x5472.1), (.int .i64 x5435.2.2.1), (.int .i64 x5472.2)]))] [.cell ⟨g5430, 0, none⟩ (.int .i64 x5435.1), .cell ⟨g5430, 1, none⟩ (.int .i64 x5472.1), .cell ⟨g5430, 2, none⟩ (.int .i64 x5435.2.2.1), .cell ⟨g5430, 3, none⟩ (.int .i64 x5472.2)] (fun fb => by kernel_rfl) rfl ⟨hS5480.cell 2 rfl 0 rfl, hS5480.cell 2 rfl 1 rfl, hS5480.cell 2 rfl 2 rfl, hS5480.cell 2 rfl 3 rfl, trivial⟩ ?_
                refine WL.new hS5480 73 [] (fun g => (.slice (some ⟨g, 0, none⟩) 1 1)) (.cells #[(.int .i64 x5435.1), (.int .i64 x5472.1), (.int .i64 x5435.2.2.1), (.int .i64 x5472.2)] 65 (0, 0)) [] (fun fb g => by kernel_rfl) trivial (fun g5483 w5484 hS5485 => ?_)
                refine ⟨trivial, ?_⟩
                have hS5487 : St NoS w w5484 [rowR enc_Action A_p0_Actions c_p0_Actions p0.Actions] [rowO 65 enc_Tile (some ⟨g5483, 0, none⟩) 1 [(Tile.mk x5435.1 x5472.1 x5435.2.2.1 x5472.2)], blk g3355 (.cells #[(.int .i64 p0.States), (.int .i64 p0.Symbols), (.slice A_p0_Actions p0.Actions.length c_p0_Actions)] 24 (0, 0)), rowO 65 enc_Tile A5262 c5263 l5264, blk g5430 (.cells #[(.int .i64 x5435.1), (.int .i64 x5472.1), (.int .i64 x5435.2.2.1), (.int .i64 x5472.2)] 65 (0, 0))] := hS5485.map1 0 _ (fun h => rowO.ofBlk h rfl (Nat.le_of_ble_eq_true (by kernel_rfl))) (fun _ h => by obtain ⟨_, h1, h2⟩ := h; injection h1 with h1; subst h1; exact h2) [1, 2, 3] (by decide) (by decide)
                obtain ⟨h5488, hx5386⟩ := as_some hx5386
                refine WL.append hS5487 2 (d := 74) (tS := 50) (z := (.agg #[(.int .i64 0), (.int .i64 0), (.int .i64 0), (.int .i64 0)])) (bytes := 32) (c2 := 1) rfl (fun fb => by kernel_rfl) (rowO.rd (hS5487.own 0).1) (by kernel_rfl) (by kernel_rfl) rfl (by decide) h5488 (by decide) [0, 1, 3] (by decide) (by decide) (fun A5489 c5490 w5491 hS5492 => ?_)
                refine ⟨trivial, ?_⟩
                refine seg 5 [] [1, 3, 5, 6] [(1, (.pointer (some ⟨g3355, 0, none⟩))), (3, (.slice A5489 (l5264 ++ [(Tile.mk x5435.1 x5472.1 x5435.2.2.1 x5472.2)]).length c5490)), (5, (.int .i64 x4803)), (6, (.int .i64 x5265))] [] (fun fb => by kernel_rfl) rfl trivial ?_
                refine WL.done rfl ?_
                injection hx5386 with hx5386
                exact WX.blockN (WX.to Kx5385 (l5264 ++ [(Tile.mk x5435.1 x5472.1 x5435.2.2.1 x5472.2)], A5489, c5490) [1, 3, 5, 6] rfl ⟨(hS5492.subR [0]).sub [2, 0] (by decide), hx5386.symm⟩)
              rintro ⟨y5496, A5382, c5383⟩ w5493 ⟨hS5494, hq5495⟩
              subst hq5495
              refine WX.next ?_
              refine WC.region ?_
              refine seg 3 [] [1, 3, 5, 6] [(1, (.pointer (some ⟨g3355, 0, none⟩))), (3, (.slice A5382 x5385.length c5383)), (5, (.int .i64 x4803)), (6, (.int .i64 (w64 (x5265 + 1))))] [] (fun fb => by kernel_rfl) rfl trivial ?_
              refine WL.done rfl ?_
              exact WX.again k5271 (Nat.lt_succ_self _) ((x5385, w64 (x5265 + 1)), A5382, c5383) [1, 3, 5, 6] rfl ⟨(hS5494.subR [0]).sub [0, 1] (by decide), hl5274⟩
            refine WC.condF2 (fun fb => by kernel_rfl) h5275 ?_
            refine WC.exit ?_
            injection hl5274 with hl5274
            exact WX.thenX (WX.thenX (WX.blockHere (WX.to Kx5269 (l5264, A5262, c5263) [1, 3, 5] rfl ⟨(hS5273.subR [0]).sub [0, 1] (by decide), hl5274.symm⟩)))
        rintro ⟨y5500, A5266, c5267⟩ w5497 ⟨hS5498, hq5499⟩
        subst hq5499
        refine WX.blockN (WX.next ?_)
        refine WC.region ?_
        refine seg 3 [] [1, 3, 5] [(1, (.pointer (some ⟨g3355, 0, none⟩))), (3, (.slice A5266 x5269.length c5267)), (5, (.int .i64 (w64 (x4803 + 1))))] [] (fun fb => by kernel_rfl) rfl trivial ?_
        refine WL.done rfl ?_
        exact WX.again k4809 (Nat.lt_succ_self _) ((x5269, w64 (x4803 + 1)), A5266, c5267) [1, 3, 5] rfl ⟨(hS5498.subR [0]).sub [0, 1] (by decide), hl4812⟩
      refine WC.condF2 (fun fb => by kernel_rfl) h4813 ?_
      refine WC.exit ?_
      injection hl4812 with hl4812
      exact WX.thenX (WX.thenX (WX.blockHere (WX.to Kx4807 (l4802, A4800, c4801) [1, 3] rfl ⟨(hS4811.subR [0]).sub [0, 1] (by decide), hl4812.symm⟩)))
  rintro ⟨y5504, A4804, c4805⟩ w5501 ⟨hS5502, hq5503⟩
  subst hq5503
  refine WX.next ?_
  refine WC.seq ?_
  refine WC.seq ?_
  refine WC.region ?_
  refine seg 1 [] [1, 3, 9] [(1, (.pointer (some ⟨g3355, 0, none⟩))), (3, (.slice A4804 x4807.length c4805)), (9, (.int .i64 0))] [] (fun fb => by kernel_rfl) rfl trivial ?_
  refine WL.done rfl ?_
  refine WX.next ?_
  obtain ⟨x5818, hx5819, hf⟩ := bind_some hf
  refine WC.cutN (T := (List Tile) × (Option Addr) × Nat) (fun t => [(3, (.slice t.2.1 t.1.length t.2.2))]) (fun t w1 => St NoS w w1 [rowR enc_Action A_p0_Actions c_p0_Actions p0.Actions] [rowO 65 enc_Tile t.2.1 t.2.2 t.1] ∧ x5818 = t.1) (fun Kx5818 => ?_) ?_
  ·
    refine WC.block ?_
    refine WC.loop (T := ((List Tile) × Int) × (Option Addr) × Nat) (fun t => [(1, (.pointer (some ⟨g3355, 0, none⟩))), (3, (.slice t.2.1 t.1.1.length t.2.2)), (9, (.int .i64 t.1.2))]) (fun n t w1 => St NoS w w1 [rowR enc_Action A_p0_Actions c_p0_Actions p0.Actions] [blk g3355 (.cells #[(.int .i64 p0.States), (.int .i64 p0.Symbols), (.slice A_p0_Actions p0.Actions.length c_p0_Actions)] 24 (0, 0)), rowO 65 enc_Tile t.2.1 t.2.2 t.1.1] ∧ ref08_Tiles.l3 n t.1.1 t.1.2 p0 = some x5818) k ((x4807, 0), A4804, c4805) [1, 3, 9] rfl ⟨(hS5502.subR [0]).sub [0, 1] (by decide), hx5819⟩ ?_
    rintro k5820 ⟨⟨l5813, x5814⟩, A5811, c5812⟩ w5821 ⟨hS5822, hl5823⟩
    cases k5820 with
    | zero => rw [ref08_Tiles.l3] at hl5823; cases hl5823
    | succ k5820 =>
      rw [ref08_Tiles.l3] at hl5823
      refine WC.seq ?_
      refine WC.seq ?_
      refine WC.region ?_
      refine seg 4 [.v (.int .i64 p0.States)] [1, 3, 9, 78] [(1, (.pointer (some ⟨g3355, 0, none⟩))), (3, (.slice A5811 l5813.length c5812)), (9, (.int .i64 x5814)), (78, (.bool (decide (x5814 < p0.States))))] [.cell ⟨g3355, 0, none⟩ (.int .i64 p0.States)] (fun fb => by kernel_rfl) rfl ⟨hS5822.cell 0 rfl 0 rfl, trivial⟩ ?_
      refine WL.done rfl ?_
      refine WX.next ?_
      rcases br_some hl5823 with ⟨h5824, hl5823⟩ | ⟨h5824, hl5823⟩
      · refine WC.condT2 (fun fb => by kernel_rfl) h5824 ?_
        refine WC.skip ?_
        refine WX.next ?_
        refine WC.seq ?_
        refine WC.block ?_
        refine WC.seq ?_
        refine WC.region ?_
        refine seg 1 [] [1, 3, 9, 10] [(1, (.pointer (some ⟨g3355, 0, none⟩))), (3, (.slice A5811 l5813.length c5812)), (9, (.int .i64 x5814)), (10, (.int .i64 0))] [] (fun fb => by kernel_rfl) rfl trivial ?_
        refine WL.done rfl ?_
        refine WX.next ?_
        obtain ⟨x5922, hx5923, hl5823⟩ := bind_some hl5823
        refine WC.cutN (T := (List Tile) × (Option Addr) × Nat) (fun t => [(1, (.pointer (some ⟨g3355, 0, none⟩))), (3, (.slice t.2.1 t.1.length t.2.2)), (9, (.int .i64 x5814))]) (fun t w1 => St NoS w w1 [rowR enc_Action A_p0_Actions c_p0_Actions p0.Actions] [blk g3355 (.cells #[(.int .i64 p0.States), (.int .i64 p0.Symbols), (.slice A_p0_Actions p0.Actions.length c_p0_Actions)] 24 (0, 0)), rowO 65 enc_Tile t.2.1 t.2.2 t.1] ∧ x5922 = t.1) (fun Kx5922 => ?_) ?_
        ·
          refine WC.block ?_
          refine WC.loop (T := ((List Tile) × Int) × (Option Addr) × Nat) (fun t => [(1, (.pointer (some ⟨g3355, 0, none⟩))), (3, (.slice t.2.1 t.1.1.length t.2.2)), (9, (.int .i64 x5814)), (10, (.int .i64 t.1.2))]) (fun n t w1 => St NoS w w1 [rowR enc_Action A_p0_Actions c_p0_Actions p0.Actions] [blk g3355 (.cells #[(.int .i64 p0.States), (.int .i64 p0.Symbols), (.slice A_p0_Actions p0.Actions.length c_p0_Actions)] 24 (0, 0)), rowO 65 enc_Tile t.2.1 t.2.2 t.1.1] ∧ ref08_Tiles.l4 n t.1.1 t.1.2 p0 x5814 = some x5922) k5820 ((l5813, 0), A5811, c5812) [1, 3, 9, 10] rfl ⟨(hS5822.subR [0]).sub [0, 1] (by decide), hx5923⟩ ?_
          rintro k5924 ⟨⟨l5917, x5918⟩, A5915, c5916⟩ w5925 ⟨hS5926, hl5927⟩
          cases k5924 with
          | zero => rw [ref08_Tiles.l4] at hl5927; cases hl5927
          | succ k5924 =>
            rw [ref08_Tiles.l4] at hl5927
            refine WC.seq ?_
            refine WC.seq ?_
            refine WC.region ?_
            refine seg 4 [.v (.int .i64 p0.Symbols)] [1, 3, 9, 10, 84] [(1, (.pointer (some ⟨g3355, 0, none⟩))), (3, (.slice A5915 l5917.length c5916)), (9, (.int .i64 x5814)), (10, (.int .i64 x5918)), (84, (.bool (decide (x5918 < p0.Symbols))))] [.cell ⟨g3355, 1, none⟩ (.int .i64 p0.Symbols)] (fun fb => by kernel_rfl) rfl ⟨hS5926.cell 0 rfl 1 rfl, trivial⟩ ?_
            refine WL.done rfl ?_
            refine WX.next ?_
            rcases br_some hl5927 with ⟨h5928, hl5927⟩ | ⟨h5928, hl5927⟩
            · refine WC.condT2 (fun fb => by kernel_rfl) h5928 ?_
              refine WC.skip ?_
              refine WX.next ?_
              refine WC.seq ?_
              refine WC.block ?_
              refine WC.regionD ([(2, ⟨g3355, 0, none⟩, (.int .i64 p0.States)), (2, ⟨g3355, 1, none⟩, (.int .i64 p0.Symbols)), (2, ⟨g3355, 2, none⟩, (.slice A_p0_Actions p0.Actions.length c_p0_Actions)), (10, ⟨g3355, 0, none⟩, (.int .i64 p0.States)), (10, ⟨g3355, 1, none⟩, (.int .i64 p0.Symbols)), (10, ⟨g3355, 2, none⟩, (.slice A_p0_Actions p0.Actions.length c_p0_Actions)), (15, ⟨g3355, 0, none⟩, (.int .i64 p0.States))], [0, 1, 2, 3, 4, 6, 7, 8, 9, 10, 11, 12, 14, 15, 16, 17, 18, 19, 22], [[], [], [], [], [], [2, 3, 4], [], [6], [1, 2, 3, 4, 5, 6, 7], [], [], [], [], [2, 3, 4, 5, 10, 11, 12], [], [14], [14, 15], [], [14, 15, 16, 17], [2, 3, 4, 5, 9, 10, 11, 12, 13, 14, 15, 16, 17, 18], [1, 2, 3, 4, 5, 6, 7, 8, 9, 10, 11, 12, 13, 14, 15, 16, 17, 18, 19], [0, 1, 2, 3, 4, 5, 6, 7, 8, 9, 10, 11, 12, 13, 14, 15, 16, 17, 18, 19, 20], [0, 1, 2, 3, 4, 5, 6, 7, 8, 9, 10, 11, 12, 13, 14, 15, 16, 17, 18, 19, 20, 21]]) [[0, 1, 2, 3, 4, 6, 7, 9, 10, 11, 12, 14, 15, 16, 17, 18, 5, 8, 13, 19, 20, 21, 22]] (by kernel_rfl) (by kernel_rfl) (NoPanic.block (NoPanic.seq (NoPanic.seq (NoPanic.block (NoPanic.block (NoPanic.seq (NoPanic.seq (NoPanic.block (NoPanic.seq (NoPanic.body)))))))))) ?_
              have hS5950 := hS5926.drew
              revert hS5950
              generalize World.drew w5925 = w5949
              intro hS5950
              refine ⟨⟨hS5950.cell 0 rfl 0 rfl, hS5950.cell 0 rfl 1 rfl, hS5950.cell 0 rfl 2 rfl, hS5950.cell 0 rfl 0 rfl, hS5950.cell 0 rfl 1 rfl, hS5950.cell 0 rfl 2 rfl, hS5950.cell 0 rfl 0 rfl, trivial⟩, forallC ?_ (forallN)⟩
              refine segF 16 [.v (.int .i64 p0.States), .v (.int .i64 p0.Symbols), .v (.slice A_p0_Actions p0.Actions.length c_p0_Actions), .v (.int .i64 p0.States), .v (.int .i64 p0.Symbols), .v (.slice A_p0_Actions p0.Actions.length c_p0_Actions), .v (.int .i64 p0.States)] [1, 9, 10, 87, 88, 89, 90, 91, 94, 96, 97, 98, 99, 105] [(1, (.pointer (some ⟨g3355, 0, none⟩))), (9, (.int .i64 x5814)), (10, (.int .i64 x5918)), (87, (.slice A5915 l5917.length c5916)), (88, (.int .i64 x5918)), (89, (.agg #[(.int .i64 p0.States), (.int .i64 p0.Symbols), (.slice A_p0_Actions p0.Actions.length c_p0_Actions)])), (90, (.int .i64 x5814)), (91, (.int .i64 x5918)), (94, (.int .i64 (w64 (1 + x5814)))), (96, (.int .i64 x5918)), (97, (.agg #[(.int .i64 p0.States), (.int .i64 p0.Symbols), (.slice A_p0_Actions p0.Actions.length c_p0_Actions)])), (98, (.int .i64 x5814)), (99, (.int .i64 x5918)), (105, (.int .i64 (w64 ((w64 (1 + p0.States)) + x5814))))] [] [0, 1, 2, 3, 4, 5, 6] [(2, ⟨g3355, 0, none⟩, (.int .i64 p0.States)), (2, ⟨g3355, 1, none⟩, (.int .i64 p0.Symbols)), (2, ⟨g3355, 2, none⟩, (.slice A_p0_Actions p0.Actions.length c_p0_Actions)), (10, ⟨g3355, 0, none⟩, (.int .i64 p0.States)), (10, ⟨g3355, 1, none⟩, (.int .i64 p0.Symbols)), (10, ⟨g3355, 2, none⟩, (.slice A_p0_Actions p0.Actions.length c_p0_Actions)), (15, ⟨g3355, 0, none⟩, (.int .i64 p0.States))] (fun fb => by kernel_rfl) rfl trivial rfl ?_
              obtain ⟨t5951, ht5952, hl5927⟩ := bind_some hl5927
              refine WL.call (some 92) 55 #[(.agg #[(.int .i64 p0.States), (.int .i64 p0.Symbols), (.slice A_p0_Actions p0.Actions.length c_p0_Actions)]), (.int .i64 x5814), (.int .i64 x5918)] (fun fb => by kernel_rfl) (ref08_both_calls p0 x5814 x5918 A_p0_Actions c_p0_Actions t5951 _ (hS5950.rd 0) ht5952) (fun v w5953 hR5954 => ?_)
              obtain ⟨rfl, hk_⟩ := hR5954
              have hS5955 := hS5950.keepN hk_
              refine ⟨⟨hS5955.cell 0 rfl 0 rfl, hS5955.cell 0 rfl 1 rfl, hS5955.cell 0 rfl 2 rfl, hS5955.cell 0 rfl 0 rfl, trivial⟩, ?_⟩
              refine seg 18 [] [1, 9, 10, 87, 95, 96, 97, 98, 99, 105] [(1, (.pointer (some ⟨g3355, 0, none⟩))), (9, (.int .i64 x5814)), (10, (.int .i64 x5918)), (87, (.slice A5915 l5917.length c5916)), (95, (.agg #[(.int .i64 t5951), (.int .i64 0), (.int .i64 x5918), (.int .i64 (w64 (1 + x5814)))])), (96, (.int .i64 x5918)), (97, (.agg #[(.int .i64 p0.States), (.int .i64 p0.Symbols), (.slice A_p0_Actions p0.Actions.length c_p0_Actions)])), (98, (.int .i64 x5814)), (99, (.int .i64 x5918)), (105, (.int .i64 (w64 ((w64 (1 + p0.States)) + x5814))))] [] (fun fb => by kernel_rfl) rfl trivial ?_
              obtain ⟨t5956, ht5957, hl5927⟩ := bind_some hl5927
              refine WL.call (some 100) 55 #[(.agg #[(.int .i64 p0.States), (.int .i64 p0.Symbols), (.slice A_p0_Actions p0.Actions.length c_p0_Actions)]), (.int .i64 x5814), (.int .i64 x5918)] (fun fb => by kernel_rfl) (ref08_both_calls p0 x5814 x5918 A_p0_Actions c_p0_Actions t5956 _ (hS5955.rd 0) ht5957) (fun v w5958 hR5959 => ?_)
              obtain ⟨rfl, hk_⟩ := hR5959
              have hS5960 := hS5955.keepN hk_
              refine ⟨⟨hS5960.cell 0 rfl 0 rfl, trivial⟩, ?_⟩
              refine seg 20 [] [1, 9, 10, 87, 95, 106] [(1, (.pointer (some ⟨g3355, 0, none⟩))), (9, (.int .i64 x5814)), (10, (.int .i64 x5918)), (87, (.slice A5915 l5917.length c5916)), (95, (.agg #[(.int .i64 t5951), (.int .i64 0), (.int .i64 x5918), (.int .i64 (w64 (1 + x5814)))])), (106, (.agg #[(.int .i64 t5956), (.int .i64 (w64 ((w64 (1 + p0.States)) + x5814))), (.int .i64 x5918), (.int .i64 0)]))] [] (fun fb => by kernel_rfl) rfl trivial ?_
              refine WL.new hS5960 107 [] (fun g => (.slice (some ⟨g, 0, none⟩) 2 2)) (.cells #[(.int .i64 t5951), (.int .i64 0), (.int .i64 x5918), (.int .i64 (w64 (1 + x5814))), (.int .i64 t5956), (.int .i64 (w64 ((w64 (1 + p0.States)) + x5814))), (.int .i64 x5918), (.int .i64 0)] 65 (0, 0)) [] (fun fb g => by kernel_rfl) trivial (fun g5961 w5962 hS5963 => ?_)
              refine ⟨trivial, ?_⟩
              have hS5965 : St NoS w w5962 [rowR enc_Action A_p0_Actions c_p0_Actions p0.Actions] [rowO 65 enc_Tile (some ⟨g5961, 0, none⟩) 2 [(Tile.mk t5951 0 x5918 (w64 (1 + x5814))), (Tile.mk t5956 (w64 ((w64 (1 + p0.States)) + x5814)) x5918 0)], blk g3355 (.cells #[(.int .i64 p0.States), (.int .i64 p0.Symbols), (.slice A_p0_Actions p0.Actions.length c_p0_Actions)] 24 (0, 0)), rowO 65 enc_Tile A5915 c5916 l5917] := hS5963.map1 0 _ (fun h => rowO.ofBlk h rfl (Nat.le_of_ble_eq_true (by kernel_rfl))) (fun _ h => by obtain ⟨_, h1, h2⟩ := h; injection h1 with h1; subst h1; exact h2) [1, 2] (by decide) (by decide)
              obtain ⟨h5966, hl5927⟩ := as_some hl5927
              refine WL.append hS5965 2 (d := 108) (tS := 50) (z := (.agg #[(.int .i64 0), (.int .i64 0), (.int .i64 0), (.int .i64 0)])) (bytes := 32) (c2 := 2) rfl (fun fb => by kernel_rfl) (rowO.rd (hS5965.own 0).1) (by kernel_rfl) (by kernel_rfl) rfl (by decide) h5966 (by decide) [0, 1] (by decide) (by decide) (fun A5967 c5968 w5969 hS5970 => ?_)
              refine ⟨trivial, ?_⟩
              refine seg 23 [] [1, 3, 9, 10] [(1, (.pointer (some ⟨g3355, 0, none⟩))), (3, (.slice A5967 (l5917 ++ [(Tile.mk t5951 0 x5918 (w64 (1 + x5814))), (Tile.mk t5956 (w64 ((w64 (1 + p0.States)) + x5814)) x5918 0)]).length c5968)), (9, (.int .i64 x5814)), (10, (.int .i64 x5918))] [] (fun fb => by kernel_rfl) rfl trivial ?_
              refine WL.done rfl ?_
              refine WX.blockN (WX.next ?_)
              refine WC.region ?_
              refine seg 3 [] [1, 3, 9, 10] [(1, (.pointer (some ⟨g3355, 0, none⟩))), (3, (.slice A5967 (l5917 ++ [(Tile.mk t5951 0 x5918 (w64 (1 + x5814))), (Tile.mk t5956 (w64 ((w64 (1 + p0.States)) + x5814)) x5918 0)]).length c5968)), (9, (.int .i64 x5814)), (10, (.int .i64 (w64 (x5918 + 1))))] [] (fun fb => by kernel_rfl) rfl trivial ?_
              refine WL.done rfl ?_
              exact WX.again k5924 (Nat.lt_succ_self _) ((l5917 ++ [(Tile.mk t5951 0 x5918 (w64 (1 + x5814))), (Tile.mk t5956 (w64 ((w64 (1 + p0.States)) + x5814)) x5918 0)], w64 (x5918 + 1)), A5967, c5968) [1, 3, 9, 10] rfl ⟨(hS5970.subR [0]).sub [2, 0] (by decide), hl5927⟩
            refine WC.condF2 (fun fb => by kernel_rfl) h5928 ?_
            refine WC.exit ?_
            injection hl5927 with hl5927
            exact WX.thenX (WX.thenX (WX.blockHere (WX.to Kx5922 (l5917, A5915, c5916) [1, 3, 9] rfl ⟨(hS5926.subR [0]).sub [0, 1] (by decide), hl5927.symm⟩)))
        rintro ⟨y5974, A5919, c5920⟩ w5971 ⟨hS5972, hq5973⟩
        subst hq5973
        refine WX.blockN (WX.next ?_)
        refine WC.region ?_
        refine seg 3 [] [1, 3, 9] [(1, (.pointer (some ⟨g3355, 0, none⟩))), (3, (.slice A5919 x5922.length c5920)), (9, (.int .i64 (w64 (x5814 + 1))))] [] (fun fb => by kernel_rfl) rfl trivial ?_
        refine WL.done rfl ?_
        exact WX.again k5820 (Nat.lt_succ_self _) ((x5922, w64 (x5814 + 1)), A5919, c5920) [1, 3, 9] rfl ⟨(hS5972.subR [0]).sub [0, 1] (by decide), hl5823⟩
      refine WC.condF2 (fun fb => by kernel_rfl) h5824 ?_
      refine WC.exit ?_
      injection hl5823 with hl5823
      exact WX.thenX (WX.thenX (WX.blockHere (WX.to Kx5818 (l5813, A5811, c5812) [3] rfl ⟨(hS5822.subR [0]).sub [1] (by decide), hl5823.symm⟩)))
  rintro ⟨y5978, A5815, c5816⟩ w5975 ⟨hS5976, hq5977⟩
  subst hq5977
  refine WX.next ?_
  refine WC.seq ?_
  refine WC.region ?_
  refine seg 2 [] [2] [(2, (.slice A5815 x5818.length c5816))] [] (fun fb => by kernel_rfl) rfl trivial ?_
  refine WL.done rfl ?_
  refine WX.next ?_
  refine WC.ret ?_
  injection hf with hf
  subst hf
  exact WX.ret_ [] (.slice A5815 x5818.length c5816) [] (fun fb => by kernel_rfl) trivial ⟨_, rfl, A5815, c5816, rfl, (hS5976.sub [0] (by decide)).noR⟩
theorem ref01_SameSet_calls (k : Nat) (p0 : List Tile) (p1 : List Tile) (A_p0 : Option Addr) (c_p0 : Nat) (A_p1 : Option Addr) (c_p1 : Nat) (r : Bool) (w : World) (hR0 : RO NoS w (rowR enc_Tile A_p0 c_p0 p0)) (hR1 : RO NoS w (rowR enc_Tile A_p1 c_p1 p1)) (hf : ref01_SameSet k p0 p1 = some r) :
    CallsR Try.prog 28 #[(.slice A_p0 p0.length c_p0), (.slice A_p1 p1.length c_p1)] w (fun v w' => v = (.bool r) ∧ Keeps NoS w w') := by
  have hS : St NoS w w [rowR enc_Tile A_p0 c_p0 p0, rowR enc_Tile A_p1 c_p1 p1] [] := St.init (ro_cons hR0 (ro_cons hR1 (ro_nil _ _)))
  refine enter 26 Try.func28 rfl Try.ntmps28 rfl ?_
  unfold ref01_SameSet at hf
  refine WC.seq ?_
  refine WC.region ?_
  refine seg 1 [] [0, 1] [(0, (.slice A_p0 p0.length c_p0)), (1, (.slice A_p1 p1.length c_p1))] [] (fun fb => by kernel_rfl) rfl trivial ?_
  refine WL.done rfl ?_
  refine WX.next ?_
  refine WC.seq ?_
  refine WC.seq ?_
  refine WC.region ?_
  refine seg 5 [] [0, 1, 10] [(0, (.slice A_p0 p0.length c_p0)), (1, (.slice A_p1 p1.length c_p1)), (10, (.bool ((p0.length : Int) != (p1.length : Int))))] [] (fun fb => by kernel_rfl) rfl trivial ?_
  refine WL.done rfl ?_
  refine WX.next ?_
  rcases br_some hf with ⟨h5986, hf⟩ | ⟨h5986, hf⟩
  · refine WC.condT2 (fun fb => by kernel_rfl) h5986 ?_
    refine WC.seq ?_
    refine WC.region ?_
    refine seg 1 [] [4] [(4, (.bool false))] [] (fun fb => by kernel_rfl) rfl trivial ?_
    refine WL.done rfl ?_
    refine WX.next ?_
    refine WC.ret ?_
    injection hf with hf
    subst hf
    exact WX.thenR (WX.ret_ [] (.bool false) [] (fun fb => by kernel_rfl) trivial ⟨_, rfl, rfl, hS.keep⟩)
  refine WC.condF2 (fun fb => by kernel_rfl) h5986 ?_
  refine WC.skip ?_
  refine WX.next ?_
  refine WC.seq ?_
  refine WC.seq ?_
  refine WC.region ?_
  refine seg 1 [] [0, 1, 5] [(0, (.slice A_p0 p0.length c_p0)), (1, (.slice A_p1 p1.length c_p1)), (5, (.int .i64 0))] [] (fun fb => by kernel_rfl) rfl trivial ?_
  refine WL.done rfl ?_
  refine WX.next ?_
  obtain ⟨x6009, hx6010, hf⟩ := bind_some hf
  refine WC.cutN (T := Unit) (fun t => []) (fun t w1 => St NoS w w1 [rowR enc_Tile A_p0 c_p0 p0, rowR enc_Tile A_p1 c_p1 p1] [] ∧ x6009 = .inr t) (fun Kx6009 => ?_) ?_
  ·
    refine WC.block ?_
    refine WC.loop (T := Int) (fun t => [(0, (.slice A_p0 p0.length c_p0)), (1, (.slice A_p1 p1.length c_p1)), (5, (.int .i64 t))]) (fun n t w1 => St NoS w w1 [rowR enc_Tile A_p0 c_p0 p0, rowR enc_Tile A_p1 c_p1 p1] [] ∧ ref01_SameSet.l0 n t p0 p1 = some x6009) k 0 [0, 1, 5] rfl ⟨(hS.subR [0, 1]).sub [] (by decide), hx6010⟩ ?_
    rintro k6011 x6008 w6012 ⟨hS6013, hl6014⟩
    cases k6011 with
    | zero => rw [ref01_SameSet.l0] at hl6014; cases hl6014
    | succ k6011 =>
      rw [ref01_SameSet.l0] at hl6014
      refine WC.seq ?_
      refine WC.seq ?_
      refine WC.region ?_
      refine seg 4 [] [0, 1, 5, 14] [(0, (.slice A_p0 p0.length c_p0)), (1, (.slice A_p1 p1.length c_p1)), (5, (.int .i64 x6008)), (14, (.bool (decide (x6008 < (p0.length : Int)))))] [] (fun fb => by kernel_rfl) rfl trivial ?_
      refine WL.done rfl ?_
      refine WX.next ?_
      rcases br_some hl6014 with ⟨h6015, hl6014⟩ | ⟨h6015, hl6014⟩
      · refine WC.condT2 (fun fb => by kernel_rfl) h6015 ?_
        refine WC.skip ?_
        refine WX.next ?_
        refine WC.seq ?_
        refine WC.block ?_
        refine WC.seq ?_
        obtain ⟨h6022, hl6014⟩ := as_some hl6014
        obtain ⟨h6023, hl6014⟩ := as_some hl6014
        refine WC.regionD ([(3, ((adr A_p0).add ((x6008).toNat * 4)), (.int .i64 ((rdD p0 x6008 z_Tile).N))), (3, (((adr A_p0).add ((x6008).toNat * 4)).add 1), (.int .i64 ((rdD p0 x6008 z_Tile).E))), (3, (((adr A_p0).add ((x6008).toNat * 4)).add 2), (.int .i64 ((rdD p0 x6008 z_Tile).S))), (3, (((adr A_p0).add ((x6008).toNat * 4)).add 3), (.int .i64 ((rdD p0 x6008 z_Tile).W))), (7, ((adr A_p1).add ((x6008).toNat * 4)), (.int .i64 ((rdD p1 x6008 z_Tile).N))), (7, (((adr A_p1).add ((x6008).toNat * 4)).add 1), (.int .i64 ((rdD p1 x6008 z_Tile).E))), (7, (((adr A_p1).add ((x6008).toNat * 4)).add 2), (.int .i64 ((rdD p1 x6008 z_Tile).S))), (7, (((adr A_p1).add ((x6008).toNat * 4)).add 3), (.int .i64 ((rdD p1 x6008 z_Tile).W)))], [0, 1, 2, 3, 4, 5, 6, 7, 8], [[], [], [0, 1], [0, 1, 2], [], [], [4, 5], [4, 5, 6], [0, 1, 2, 3, 4, 5, 6, 7]]) [[0, 1, 2, 3, 4, 5, 6, 7, 8]] (by kernel_rfl) (by kernel_rfl) (NoPanic.seq (NoPanic.block (NoPanic.seq (NoPanic.seq (NoPanic.block (NoPanic.seq (NoPanic.body))))))) ?_
        have hS6019 := hS6013.drew
        revert hS6019
        generalize World.drew w6012 = w6018
        intro hS6019
        refine ⟨⟨rowR.cell (hS6019.rd 0).1 z_Tile h6022.1 h6022.2 0 rfl, rowR.cell (hS6019.rd 0).1 z_Tile h6022.1 h6022.2 1 rfl, rowR.cell (hS6019.rd 0).1 z_Tile h6022.1 h6022.2 2 rfl, rowR.cell (hS6019.rd 0).1 z_Tile h6022.1 h6022.2 3 rfl, rowR.cell (hS6019.rd 1).1 z_Tile h6023.1 h6023.2 0 rfl, rowR.cell (hS6019.rd 1).1 z_Tile h6023.1 h6023.2 1 rfl, rowR.cell (hS6019.rd 1).1 z_Tile h6023.1 h6023.2 2 rfl, rowR.cell (hS6019.rd 1).1 z_Tile h6023.1 h6023.2 3 rfl, trivial⟩, forallC ?_ (forallN)⟩
        refine segF 9 [.v (.int .i64 ((rdD p0 x6008 z_Tile).N)), .v (.int .i64 ((rdD p0 x6008 z_Tile).E)), .v (.int .i64 ((rdD p0 x6008 z_Tile).S)), .v (.int .i64 ((rdD p0 x6008 z_Tile).W)), .v (.int .i64 ((rdD p1 x6008 z_Tile).N)), .v (.int .i64 ((rdD p1 x6008 z_Tile).E)), .v (.int .i64 ((rdD p1 x6008 z_Tile).S)), .v (.int .i64 ((rdD p1 x6008 z_Tile).W))] [0, 1, 5, 25] [(0, (.slice A_p0 p0.length c_p0)), (1, (.slice A_p1 p1.length c_p1)), (5, (.int .i64 x6008)), (25, (.bool (!(((rdD p0 x6008 z_Tile).N) == ((rdD p1 x6008 z_Tile).N) && (((rdD p0 x6008 z_Tile).E) == ((rdD p1 x6008 z_Tile).E) && (((rdD p0 x6008 z_Tile).S) == ((rdD p1 x6008 z_Tile).S) && (((rdD p0 x6008 z_Tile).W) == ((rdD p1 x6008 z_Tile).W))))))))] [.idx A_p0 x6008 p0.length, .idx A_p1 x6008 p1.length] [0, 1, 2, 3, 4, 5, 6, 7] [(3, ((adr A_p0).add ((x6008).toNat * 4)), (.int .i64 ((rdD p0 x6008 z_Tile).N))), (3, (((adr A_p0).add ((x6008).toNat * 4)).add 1), (.int .i64 ((rdD p0 x6008 z_Tile).E))), (3, (((adr A_p0).add ((x6008).toNat * 4)).add 2), (.int .i64 ((rdD p0 x6008 z_Tile).S))), (3, (((adr A_p0).add ((x6008).toNat * 4)).add 3), (.int .i64 ((rdD p0 x6008 z_Tile).W))), (7, ((adr A_p1).add ((x6008).toNat * 4)), (.int .i64 ((rdD p1 x6008 z_Tile).N))), (7, (((adr A_p1).add ((x6008).toNat * 4)).add 1), (.int .i64 ((rdD p1 x6008 z_Tile).E))), (7, (((adr A_p1).add ((x6008).toNat * 4)).add 2), (.int .i64 ((rdD p1 x6008 z_Tile).S))), (7, (((adr A_p1).add ((x6008).toNat * 4)).add 3), (.int .i64 ((rdD p1 x6008 z_Tile).W)))] (fun fb => by kernel_rfl) rfl ⟨rowR.adr (hS6019.rd 0).1 h6022.1 h6022.2, rowR.adr (hS6019.rd 1).1 h6023.1 h6023.2, trivial⟩ rfl ?_
        refine WL.done rfl ?_
        refine WX.next ?_
        rcases br_some hl6014 with ⟨h6024, hl6014⟩ | ⟨h6024, hl6014⟩
        · refine WC.condT2 (fun fb => by kernel_rfl) h6024 ?_
          refine WC.seq ?_
          refine WC.region ?_
          refine seg 1 [] [4] [(4, (.bool false))] [] (fun fb => by kernel_rfl) rfl trivial ?_
          refine WL.done rfl ?_
          refine WX.next ?_
          refine WC.ret ?_
          injection hl6014 with hl6014
          subst hl6014
          injection hf with hf
          subst hf
          exact WX.blockR (WX.thenR (WX.thenR (WX.blockR (WX.thenR (WX.ret_ [] (.bool false) [] (fun fb => by kernel_rfl) trivial ⟨_, rfl, rfl, hS6019.keep⟩)))))
        refine WC.condF2 (fun fb => by kernel_rfl) h6024 ?_
        refine WC.skip ?_
        refine WX.blockN (WX.next ?_)
        refine WC.region ?_
        refine seg 3 [] [0, 1, 5] [(0, (.slice A_p0 p0.length c_p0)), (1, (.slice A_p1 p1.length c_p1)), (5, (.int .i64 (w64 (x6008 + 1))))] [] (fun fb => by kernel_rfl) rfl trivial ?_
        refine WL.done rfl ?_
        exact WX.again k6011 (Nat.lt_succ_self _) (w64 (x6008 + 1)) [0, 1, 5] rfl ⟨(hS6019.subR [0, 1]).sub [] (by decide), hl6014⟩
      refine WC.condF2 (fun fb => by kernel_rfl) h6015 ?_
      refine WC.exit ?_
      injection hl6014 with hl6014
      exact WX.thenX (WX.thenX (WX.blockHere (WX.to Kx6009 () [] rfl ⟨(hS6013.subR [0, 1]).sub [] (by decide), hl6014.symm⟩)))
  rintro y6028 w6025 ⟨hS6026, hq6027⟩
  subst hq6027
  have hf := sum_inr hf
  refine WX.next ?_
  refine WC.seq ?_
  refine WC.region ?_
  refine seg 1 [] [4] [(4, (.bool true))] [] (fun fb => by kernel_rfl) rfl trivial ?_
  refine WL.done rfl ?_
  refine WX.next ?_
  refine WC.ret ?_
  injection hf with hf
  subst hf
  exact WX.ret_ [] (.bool true) [] (fun fb => by kernel_rfl) trivial ⟨_, rfl, rfl, hS6026.keep⟩
end Gp
