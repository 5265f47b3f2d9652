/- A part of the proof that a law returns true: SM6. -/
import Derived.Test.YtobadaonfhlggaaGreatDoorMf
set_option linter.all false
set_option linter.unusedVariables false
set_option linter.unusedSimpArgs false
set_option linter.unnecessarySimpa false
open Go Go.Ev
namespace Go.Proofs.YtobadaonfhlggaaGreatDoor
set_option maxRecDepth 1000000
set_option maxHeartbeats 4000000

theorem rst_all0 : [run (sC.knows ovY3) 100000 (.call 70 [.agg [.str [70], i6 0, i6 10000000, i6 0, i6 0, .list [i6 0, i6 0, i6 0, i6 750000] 2 true, .list [i6 550000, i6 1] 1 true, .list [i6 1, i6 0, i6 0, i6 0, i6 0, i6 0, i6 0, i6 0, i6 0, i6 0, i6 0, i6 0, i6 10000000, .str [], i6 0, i6 0, i6 0, i6 0, i6 0, i6 0, i6 0, .nils, i6 1, i6 0, i6 0, i6 0, i6 0, i6 0, i6 0, i6 0, i6 0, i6 0, i6 0, i6 0, i6 0, .str [], i6 4000000, i6 0, i6 0, i6 0, i6 0, i6 0, i6 0, .nils] 2 true, .nils, .list [.list [i6 10000000] 1 true, .list [i6 10000000] 1 true] 2 true], i6 0, i6 0, i6 0, i6 4294967296] ⟨[], []⟩) some,
  run (sC.knows ovY3) 100000 (.call 70 [.agg [.str [70], i6 0, i6 10000000, i6 0, i6 0, .list [i6 0, i6 0, i6 0, i6 750000] 2 true, .list [i6 550000, i6 1] 1 true, .list [i6 1, i6 0, i6 0, i6 0, i6 0, i6 0, i6 0, i6 0, i6 0, i6 0, i6 0, i6 0, i6 10000000, .str [], i6 0, i6 0, i6 0, i6 0, i6 0, i6 0, i6 0, .nils, i6 1, i6 0, i6 0, i6 0, i6 0, i6 0, i6 0, i6 0, i6 0, i6 0, i6 0, i6 0, i6 0, .str [], i6 0, i6 0, i6 0, i6 0, i6 0, i6 0, i6 0, .nils] 2 true, .nils, .list [.list [i6 10000000] 1 true, .list [i6 10000000] 1 true] 2 true], i6 2, i6 0, i6 0, i6 0] ⟨[], []⟩) some,
  run (sC.knows ovY3) 100000 (.call 70 [.agg [.str [70], i6 0, i6 10000000, i6 0, i6 0, .list [i6 0, i6 0, i6 0, i6 750000] 2 true, .list [i6 550000, i6 1] 1 true, .list [i6 1, i6 0, i6 0, i6 0, i6 0, i6 0, i6 0, i6 0, i6 0, i6 0, i6 0, i6 0, i6 10000000, .str [], i6 0, i6 0, i6 0, i6 0, i6 0, i6 0, i6 0, .nils, i6 1, i6 0, i6 0, i6 0, i6 0, i6 0, i6 0, i6 0, i6 0, i6 0, i6 0, i6 0, i6 0, .str [], i6 0, i6 0, i6 0, i6 0, i6 0, i6 0, i6 0, .nils] 2 true, .nils, .list [.list [i6 10000000] 1 true, .list [i6 10000000] 1 true] 2 true], i6 0, i6 0, i6 0, i6 4294967296] ⟨[], []⟩) some] =
  [some (.out (Outc.ret (AV.tuple [AV.agg [i6 0,  i6 0,  i6 21474836480,  i6 21474836480,  i6 0,  i6 0,  i6 0,  i6 0,  i6 0,  i6 0,  i6 4294967296,  i6 4294967296],  i6 0])) ⟨[], []⟩ .no),
  some (.out (Outc.ret (AV.tuple [AV.agg [i6 0,  i6 0,  i6 0,  i6 0,  i6 0,  i6 0,  i6 0,  i6 0,  i6 0,  i6 0,  i6 0,  i6 0],  i6 2])) ⟨[], []⟩ .no),
  some (.out (Outc.ret (AV.tuple [AV.agg [i6 0,  i6 0,  i6 21474836480,  i6 21474836480,  i6 0,  i6 0,  i6 0,  i6 0,  i6 0,  i6 0,  i6 4294967296,  i6 4294967296],  i6 0])) ⟨[], []⟩ .no)] := by kernel_rfl
theorem rst_all1 : [run (sC.knows ovY3) 100000 (.call 70 [.agg [.str [66], i6 0, i6 2000000, i6 0, i6 0, .list [i6 0, i6 0] 1 true, .list [i6 550000, i6 1] 1 true, .list [i6 1, i6 100000000, i6 0, i6 0, i6 0, i6 0, i6 0, i6 0, i6 0, i6 0, i6 0, i6 0, i6 20000000, .str [66, 65, 76, 76], i6 0, i6 0, i6 0, i6 0, i6 0, i6 0, i6 0, .nils, i6 1, i6 (-100000000), i6 0, i6 0, i6 0, i6 0, i6 0, i6 0, i6 0, i6 0, i6 0, i6 0, i6 5000000, .str [], i6 0, i6 0, i6 0, i6 0, i6 0, i6 0, i6 0, .nils, i6 1, i6 0, i6 0, i6 0, i6 0, i6 0, i6 0, i6 0, i6 0, i6 0, i6 0, i6 0, i6 0, .str [], i6 0, i6 0, i6 0, i6 0, i6 0, i6 0, i6 0, .nils] 3 true, .nils, .list [.list [i6 15000000] 1 true, .list [i6 10000000] 1 true, .list [i6 10000000] 1 true] 3 true], i6 0, i6 0, i6 0, i6 4294967296] ⟨[], []⟩) some,
  run (sC.knows ovY3) 100000 (.call 70 [.agg [.str [66], i6 0, i6 2000000, i6 0, i6 0, .list [i6 0, i6 0] 1 true, .list [i6 550000, i6 1] 1 true, .list [i6 1, i6 100000000, i6 0, i6 0, i6 0, i6 0, i6 0, i6 0, i6 0, i6 0, i6 0, i6 0, i6 20000000, .str [66, 65, 76, 76], i6 0, i6 0, i6 0, i6 0, i6 0, i6 0, i6 0, .nils, i6 1, i6 (-100000000), i6 0, i6 0, i6 0, i6 0, i6 0, i6 0, i6 0, i6 0, i6 0, i6 0, i6 5000000, .str [], i6 0, i6 0, i6 0, i6 0, i6 0, i6 0, i6 0, .nils, i6 1, i6 0, i6 0, i6 0, i6 0, i6 0, i6 0, i6 0, i6 0, i6 0, i6 0, i6 0, i6 0, .str [], i6 0, i6 0, i6 0, i6 0, i6 0, i6 0, i6 0, .nils] 3 true, .nils, .list [.list [i6 15000000] 1 true, .list [i6 10000000] 1 true, .list [i6 10000000] 1 true] 3 true], i6 0, i6 0, i6 0, i6 0] ⟨[], []⟩) some] =
  [some (.out (Outc.ret (AV.tuple [AV.agg [i6 0,  i6 0,  i6 4294967296,  i6 4294967296,  i6 0,  i6 0,  i6 0,  i6 0,  i6 0,  i6 0,  i6 4294967296,  i6 4294967296],  i6 0])) ⟨[], []⟩ .no),
  some (.out (Outc.ret (AV.tuple [AV.agg [i6 0,  i6 0,  i6 0,  i6 0,  i6 0,  i6 0,  i6 0,  i6 0,  i6 0,  i6 0,  i6 4294967296,  i6 4294967296],  i6 0])) ⟨[], []⟩ .no)] := by kernel_rfl
def rst_tab : List (List AV × Outc) := [([.agg [.str [70], i6 0, i6 10000000, i6 0, i6 0, .list [i6 0, i6 0, i6 0, i6 750000] 2 true, .list [i6 550000, i6 1] 1 true, .list [i6 1, i6 0, i6 0, i6 0, i6 0, i6 0, i6 0, i6 0, i6 0, i6 0, i6 0, i6 0, i6 10000000, .str [], i6 0, i6 0, i6 0, i6 0, i6 0, i6 0, i6 0, .nils, i6 1, i6 0, i6 0, i6 0, i6 0, i6 0, i6 0, i6 0, i6 0, i6 0, i6 0, i6 0, i6 0, .str [], i6 4000000, i6 0, i6 0, i6 0, i6 0, i6 0, i6 0, .nils] 2 true, .nils, .list [.list [i6 10000000] 1 true, .list [i6 10000000] 1 true] 2 true], i6 0, i6 0, i6 0, i6 4294967296], (Outc.ret (AV.tuple [AV.agg [i6 0,  i6 0,  i6 21474836480,  i6 21474836480,  i6 0,  i6 0,  i6 0,  i6 0,  i6 0,  i6 0,  i6 4294967296,  i6 4294967296],  i6 0]))),
  ([.agg [.str [70], i6 0, i6 10000000, i6 0, i6 0, .list [i6 0, i6 0, i6 0, i6 750000] 2 true, .list [i6 550000, i6 1] 1 true, .list [i6 1, i6 0, i6 0, i6 0, i6 0, i6 0, i6 0, i6 0, i6 0, i6 0, i6 0, i6 0, i6 10000000, .str [], i6 0, i6 0, i6 0, i6 0, i6 0, i6 0, i6 0, .nils, i6 1, i6 0, i6 0, i6 0, i6 0, i6 0, i6 0, i6 0, i6 0, i6 0, i6 0, i6 0, i6 0, .str [], i6 0, i6 0, i6 0, i6 0, i6 0, i6 0, i6 0, .nils] 2 true, .nils, .list [.list [i6 10000000] 1 true, .list [i6 10000000] 1 true] 2 true], i6 2, i6 0, i6 0, i6 0], (Outc.ret (AV.tuple [AV.agg [i6 0,  i6 0,  i6 0,  i6 0,  i6 0,  i6 0,  i6 0,  i6 0,  i6 0,  i6 0,  i6 0,  i6 0],  i6 2]))),
  ([.agg [.str [70], i6 0, i6 10000000, i6 0, i6 0, .list [i6 0, i6 0, i6 0, i6 750000] 2 true, .list [i6 550000, i6 1] 1 true, .list [i6 1, i6 0, i6 0, i6 0, i6 0, i6 0, i6 0, i6 0, i6 0, i6 0, i6 0, i6 0, i6 10000000, .str [], i6 0, i6 0, i6 0, i6 0, i6 0, i6 0, i6 0, .nils, i6 1, i6 0, i6 0, i6 0, i6 0, i6 0, i6 0, i6 0, i6 0, i6 0, i6 0, i6 0, i6 0, .str [], i6 0, i6 0, i6 0, i6 0, i6 0, i6 0, i6 0, .nils] 2 true, .nils, .list [.list [i6 10000000] 1 true, .list [i6 10000000] 1 true] 2 true], i6 0, i6 0, i6 0, i6 4294967296], (Outc.ret (AV.tuple [AV.agg [i6 0,  i6 0,  i6 21474836480,  i6 21474836480,  i6 0,  i6 0,  i6 0,  i6 0,  i6 0,  i6 0,  i6 4294967296,  i6 4294967296],  i6 0]))),
  ([.agg [.str [66], i6 0, i6 2000000, i6 0, i6 0, .list [i6 0, i6 0] 1 true, .list [i6 550000, i6 1] 1 true, .list [i6 1, i6 100000000, i6 0, i6 0, i6 0, i6 0, i6 0, i6 0, i6 0, i6 0, i6 0, i6 0, i6 20000000, .str [66, 65, 76, 76], i6 0, i6 0, i6 0, i6 0, i6 0, i6 0, i6 0, .nils, i6 1, i6 (-100000000), i6 0, i6 0, i6 0, i6 0, i6 0, i6 0, i6 0, i6 0, i6 0, i6 0, i6 5000000, .str [], i6 0, i6 0, i6 0, i6 0, i6 0, i6 0, i6 0, .nils, i6 1, i6 0, i6 0, i6 0, i6 0, i6 0, i6 0, i6 0, i6 0, i6 0, i6 0, i6 0, i6 0, .str [], i6 0, i6 0, i6 0, i6 0, i6 0, i6 0, i6 0, .nils] 3 true, .nils, .list [.list [i6 15000000] 1 true, .list [i6 10000000] 1 true, .list [i6 10000000] 1 true] 3 true], i6 0, i6 0, i6 0, i6 4294967296], (Outc.ret (AV.tuple [AV.agg [i6 0,  i6 0,  i6 4294967296,  i6 4294967296,  i6 0,  i6 0,  i6 0,  i6 0,  i6 0,  i6 0,  i6 4294967296,  i6 4294967296],  i6 0]))),
  ([.agg [.str [66], i6 0, i6 2000000, i6 0, i6 0, .list [i6 0, i6 0] 1 true, .list [i6 550000, i6 1] 1 true, .list [i6 1, i6 100000000, i6 0, i6 0, i6 0, i6 0, i6 0, i6 0, i6 0, i6 0, i6 0, i6 0, i6 20000000, .str [66, 65, 76, 76], i6 0, i6 0, i6 0, i6 0, i6 0, i6 0, i6 0, .nils, i6 1, i6 (-100000000), i6 0, i6 0, i6 0, i6 0, i6 0, i6 0, i6 0, i6 0, i6 0, i6 0, i6 5000000, .str [], i6 0, i6 0, i6 0, i6 0, i6 0, i6 0, i6 0, .nils, i6 1, i6 0, i6 0, i6 0, i6 0, i6 0, i6 0, i6 0, i6 0, i6 0, i6 0, i6 0, i6 0, .str [], i6 0, i6 0, i6 0, i6 0, i6 0, i6 0, i6 0, .nils] 3 true, .nils, .list [.list [i6 15000000] 1 true, .list [i6 10000000] 1 true, .list [i6 10000000] 1 true] 3 true], i6 0, i6 0, i6 0, i6 0], (Outc.ret (AV.tuple [AV.agg [i6 0,  i6 0,  i6 0,  i6 0,  i6 0,  i6 0,  i6 0,  i6 0,  i6 0,  i6 0,  i6 4294967296,  i6 4294967296],  i6 0])))]
theorem rst_tab_ok : ∀ x ∈ rst_tab, CallSim sC 70 x.1 ⟨[], []⟩ x.2 ⟨[], []⟩ := by
  intro x hx
  have h := rst_all0
  obtain ⟨h0, h⟩ := List.cons.inj h
  obtain ⟨h1, h⟩ := List.cons.inj h
  obtain ⟨h2, h⟩ := List.cons.inj h
  have h := rst_all1
  obtain ⟨h3, h⟩ := List.cons.inj h
  obtain ⟨h4, h⟩ := List.cons.inj h
  simp only [rst_tab, List.mem_cons, List.not_mem_nil, or_false] at hx
  rcases hx with rfl | rfl | rfl | rfl | rfl
  · exact holds_of_run base ovY3_ok h0
  · exact holds_of_run base ovY3_ok h1
  · exact holds_of_run base ovY3_ok h2
  · exact holds_of_run base ovY3_ok h3
  · exact holds_of_run base ovY3_ok h4
theorem rst_tab_holds : Holds sC 70 (memoO rst_tab) := memo_holds rst_tab_ok

end Go.Proofs.YtobadaonfhlggaaGreatDoor

