/- A part of the proof that a law returns true: SM5. -/
import Derived.Test.YtobadaonfhlggaaGreatDoorMb
set_option linter.all false
set_option linter.unusedVariables false
set_option linter.unusedSimpArgs false
set_option linter.unnecessarySimpa false
open Go Go.Ev
namespace Go.Proofs.YtobadaonfhlggaaGreatDoor
set_option maxRecDepth 1000000
set_option maxHeartbeats 4000000

theorem och_all0 : [run (sC.knows ovY2) 100000 (.call 32 [.agg [.str [66], i6 0, i6 2000000, i6 0, i6 0, .list [i6 0, i6 0] 1 true, .list [i6 550000, i6 1] 1 true, .list [i6 1, i6 100000000, i6 0, i6 0, i6 0, i6 0, i6 0, i6 0, i6 0, i6 0, i6 0, i6 0, i6 20000000, .str [66, 65, 76, 76], i6 0, i6 0, i6 0, i6 0, i6 0, i6 0, i6 0, .nils, i6 1, i6 (-100000000), i6 0, i6 0, i6 0, i6 0, i6 0, i6 0, i6 0, i6 0, i6 0, i6 0, i6 5000000, .str [], i6 0, i6 0, i6 0, i6 0, i6 0, i6 0, i6 0, .nils, i6 1, i6 0, i6 0, i6 0, i6 0, i6 0, i6 0, i6 0, i6 0, i6 0, i6 0, i6 0, i6 0, .str [], i6 0, i6 0, i6 0, i6 0, i6 0, i6 0, i6 0, .nils] 3 true, .nils, .list [.list [i6 15000000] 1 true, .list [i6 10000000] 1 true, .list [i6 10000000] 1 true] 3 true]] ⟨[], []⟩) some,
  run (sC.knows ovY2) 100000 (.call 32 [.agg [.str [70], i6 0, i6 10000000, i6 0, i6 0, .list [i6 0, i6 0, i6 0, i6 750000] 2 true, .list [i6 550000, i6 1] 1 true, .list [i6 1, i6 0, i6 0, i6 0, i6 0, i6 0, i6 0, i6 0, i6 0, i6 0, i6 0, i6 0, i6 10000000, .str [], i6 0, i6 0, i6 0, i6 0, i6 0, i6 0, i6 0, .nils, i6 1, i6 0, i6 0, i6 0, i6 0, i6 0, i6 0, i6 0, i6 0, i6 0, i6 0, i6 0, i6 0, .str [], i6 0, i6 0, i6 0, i6 0, i6 0, i6 0, i6 0, .nils] 2 true, .nils, .list [.list [i6 10000000] 1 true, .list [i6 10000000] 1 true] 2 true]] ⟨[], []⟩) some,
  run (sC.knows ovY2) 100000 (.call 32 [.agg [.str [66], i6 0, i6 2000000, i6 0, i6 0, .list [i6 0, i6 0] 1 true, .list [i6 550000, i6 1] 1 true, .list [i6 1, i6 0, i6 0, i6 0, i6 0, i6 0, i6 0, i6 0, i6 0, i6 0, i6 0, i6 0, i6 20000000, .str [66, 65, 76, 76], i6 0, i6 0, i6 0, i6 0, i6 0, i6 0, i6 0, .nils, i6 1, i6 0, i6 0, i6 0, i6 0, i6 0, i6 0, i6 0, i6 0, i6 0, i6 0, i6 0, i6 5000000, .str [], i6 0, i6 0, i6 0, i6 0, i6 0, i6 0, i6 0, .nils, i6 1, i6 0, i6 0, i6 0, i6 0, i6 0, i6 0, i6 0, i6 0, i6 0, i6 0, i6 0, i6 0, .str [], i6 0, i6 0, i6 0, i6 0, i6 0, i6 0, i6 0, .nils] 3 true, .nils, .list [.list [i6 15000000] 1 true, .list [i6 10000000] 1 true, .list [i6 10000000] 1 true] 3 true]] ⟨[], []⟩) some,
  run (sC.knows ovY2) 100000 (.call 32 [.agg [.str [70], i6 0, i6 10000000, i6 0, i6 0, .list [i6 0, i6 0, i6 0, i6 750000] 2 true, .list [i6 550000, i6 1] 1 true, .list [i6 1, i6 0, i6 0, i6 0, i6 0, i6 0, i6 0, i6 0, i6 0, i6 0, i6 0, i6 0, i6 10000000, .str [], i6 0, i6 6000000, i6 0, i6 0, i6 0, i6 0, i6 0, .nils, i6 1, i6 0, i6 0, i6 0, i6 0, i6 0, i6 0, i6 0, i6 0, i6 0, i6 0, i6 0, i6 0, .str [], i6 0, i6 0, i6 0, i6 0, i6 0, i6 0, i6 0, .nils] 2 true, .nils, .list [.list [i6 10000000] 1 true, .list [i6 10000000] 1 true] 2 true]] ⟨[], []⟩) some] =
  [some (.out (Outc.ret (i6 0)) ⟨[], []⟩ .no),
  some (.out (Outc.ret (i6 0)) ⟨[], []⟩ .no),
  some (.out (Outc.ret (i6 0)) ⟨[], []⟩ .no),
  some (.out (Outc.ret (i6 0)) ⟨[], []⟩ .no)] := by kernel_rfl
theorem och_all1 : [run (sC.knows ovY2) 100000 (.call 32 [.agg [.str [70], i6 0, i6 10000000, i6 0, i6 0, .list [i6 0, i6 0, i6 0, i6 750000] 2 true, .list [i6 550000, i6 1] 1 true, .list [i6 1, i6 0, i6 0, i6 0, i6 0, i6 0, i6 0, i6 0, i6 0, i6 0, i6 0, i6 0, i6 10000000, .str [], i6 0, i6 0, i6 0, i6 0, i6 0, i6 0, i6 0, .nils, i6 1, i6 0, i6 0, i6 0, i6 0, i6 0, i6 0, i6 0, i6 0, i6 0, i6 0, i6 0, i6 0, .str [], i6 4000000, i6 0, i6 0, i6 0, i6 0, i6 0, i6 0, .nils] 2 true, .nils, .list [.list [i6 10000000] 1 true, .list [i6 10000000] 1 true] 2 true]] ⟨[], []⟩) some,
  run (sC.knows ovY2) 100000 (.call 32 [.agg [.str [66], i6 0, i6 2000000, i6 0, i6 0, .list [i6 0, i6 0] 1 true, .list [i6 550000, i6 1] 1 true, .list [i6 1, i6 0, i6 0, i6 0, i6 0, i6 0, i6 0, i6 0, i6 0, i6 0, i6 0, i6 0, i6 20000000, .str [66, 65, 76, 76], i6 0, i6 0, i6 0, i6 0, i6 0, i6 0, i6 0, .nils, i6 1, i6 200000000, i6 0, i6 0, i6 0, i6 0, i6 0, i6 0, i6 0, i6 0, i6 0, i6 0, i6 5000000, .str [], i6 0, i6 0, i6 0, i6 0, i6 0, i6 0, i6 0, .nils, i6 1, i6 0, i6 0, i6 0, i6 0, i6 0, i6 0, i6 0, i6 0, i6 0, i6 0, i6 0, i6 0, .str [], i6 0, i6 0, i6 0, i6 0, i6 0, i6 0, i6 0, .nils] 3 true, .nils, .list [.list [i6 15000000] 1 true, .list [i6 10000000] 1 true, .list [i6 10000000] 1 true] 3 true]] ⟨[], []⟩) some,
  run (sC.knows ovY2) 100000 (.call 32 [.agg [.str [70], i6 0, i6 10000000, i6 0, i6 0, .list [i6 0, i6 0, i6 0, i6 750000] 2 true, .list [i6 550000, i6 1] 1 true, .list [i6 1, i6 0, i6 0, i6 0, i6 0, i6 0, i6 0, i6 0, i6 0, i6 0, i6 0, i6 0, i6 10000000, .str [], i6 0, i6 4000000, i6 0, i6 0, i6 0, i6 0, i6 0, .nils, i6 1, i6 0, i6 0, i6 0, i6 0, i6 0, i6 0, i6 0, i6 0, i6 0, i6 0, i6 0, i6 0, .str [], i6 0, i6 0, i6 0, i6 0, i6 0, i6 0, i6 0, .nils] 2 true, .nils, .list [.list [i6 10000000] 1 true, .list [i6 10000000] 1 true] 2 true]] ⟨[], []⟩) some,
  run (sC.knows ovY2) 100000 (.call 32 [.agg [.str [], i6 0, i6 0, i6 0, i6 0, .nils, .nils, .nils, .nils, .nils]] ⟨[], []⟩) some] =
  [some (.out (Outc.ret (i6 0)) ⟨[], []⟩ .no),
  some (.out (Outc.ret (i6 0)) ⟨[], []⟩ .no),
  some (.out (Outc.ret (i6 0)) ⟨[], []⟩ .no),
  some (.out (Outc.ret (i6 130)) ⟨[], []⟩ .no)] := by kernel_rfl
def och_tab : List (List AV × Outc) := [([.agg [.str [66], i6 0, i6 2000000, i6 0, i6 0, .list [i6 0, i6 0] 1 true, .list [i6 550000, i6 1] 1 true, .list [i6 1, i6 100000000, i6 0, i6 0, i6 0, i6 0, i6 0, i6 0, i6 0, i6 0, i6 0, i6 0, i6 20000000, .str [66, 65, 76, 76], i6 0, i6 0, i6 0, i6 0, i6 0, i6 0, i6 0, .nils, i6 1, i6 (-100000000), i6 0, i6 0, i6 0, i6 0, i6 0, i6 0, i6 0, i6 0, i6 0, i6 0, i6 5000000, .str [], i6 0, i6 0, i6 0, i6 0, i6 0, i6 0, i6 0, .nils, i6 1, i6 0, i6 0, i6 0, i6 0, i6 0, i6 0, i6 0, i6 0, i6 0, i6 0, i6 0, i6 0, .str [], i6 0, i6 0, i6 0, i6 0, i6 0, i6 0, i6 0, .nils] 3 true, .nils, .list [.list [i6 15000000] 1 true, .list [i6 10000000] 1 true, .list [i6 10000000] 1 true] 3 true]], (Outc.ret (i6 0))),
  ([.agg [.str [70], i6 0, i6 10000000, i6 0, i6 0, .list [i6 0, i6 0, i6 0, i6 750000] 2 true, .list [i6 550000, i6 1] 1 true, .list [i6 1, i6 0, i6 0, i6 0, i6 0, i6 0, i6 0, i6 0, i6 0, i6 0, i6 0, i6 0, i6 10000000, .str [], i6 0, i6 0, i6 0, i6 0, i6 0, i6 0, i6 0, .nils, i6 1, i6 0, i6 0, i6 0, i6 0, i6 0, i6 0, i6 0, i6 0, i6 0, i6 0, i6 0, i6 0, .str [], i6 0, i6 0, i6 0, i6 0, i6 0, i6 0, i6 0, .nils] 2 true, .nils, .list [.list [i6 10000000] 1 true, .list [i6 10000000] 1 true] 2 true]], (Outc.ret (i6 0))),
  ([.agg [.str [66], i6 0, i6 2000000, i6 0, i6 0, .list [i6 0, i6 0] 1 true, .list [i6 550000, i6 1] 1 true, .list [i6 1, i6 0, i6 0, i6 0, i6 0, i6 0, i6 0, i6 0, i6 0, i6 0, i6 0, i6 0, i6 20000000, .str [66, 65, 76, 76], i6 0, i6 0, i6 0, i6 0, i6 0, i6 0, i6 0, .nils, i6 1, i6 0, i6 0, i6 0, i6 0, i6 0, i6 0, i6 0, i6 0, i6 0, i6 0, i6 0, i6 5000000, .str [], i6 0, i6 0, i6 0, i6 0, i6 0, i6 0, i6 0, .nils, i6 1, i6 0, i6 0, i6 0, i6 0, i6 0, i6 0, i6 0, i6 0, i6 0, i6 0, i6 0, i6 0, .str [], i6 0, i6 0, i6 0, i6 0, i6 0, i6 0, i6 0, .nils] 3 true, .nils, .list [.list [i6 15000000] 1 true, .list [i6 10000000] 1 true, .list [i6 10000000] 1 true] 3 true]], (Outc.ret (i6 0))),
  ([.agg [.str [70], i6 0, i6 10000000, i6 0, i6 0, .list [i6 0, i6 0, i6 0, i6 750000] 2 true, .list [i6 550000, i6 1] 1 true, .list [i6 1, i6 0, i6 0, i6 0, i6 0, i6 0, i6 0, i6 0, i6 0, i6 0, i6 0, i6 0, i6 10000000, .str [], i6 0, i6 6000000, i6 0, i6 0, i6 0, i6 0, i6 0, .nils, i6 1, i6 0, i6 0, i6 0, i6 0, i6 0, i6 0, i6 0, i6 0, i6 0, i6 0, i6 0, i6 0, .str [], i6 0, i6 0, i6 0, i6 0, i6 0, i6 0, i6 0, .nils] 2 true, .nils, .list [.list [i6 10000000] 1 true, .list [i6 10000000] 1 true] 2 true]], (Outc.ret (i6 0))),
  ([.agg [.str [70], i6 0, i6 10000000, i6 0, i6 0, .list [i6 0, i6 0, i6 0, i6 750000] 2 true, .list [i6 550000, i6 1] 1 true, .list [i6 1, i6 0, i6 0, i6 0, i6 0, i6 0, i6 0, i6 0, i6 0, i6 0, i6 0, i6 0, i6 10000000, .str [], i6 0, i6 0, i6 0, i6 0, i6 0, i6 0, i6 0, .nils, i6 1, i6 0, i6 0, i6 0, i6 0, i6 0, i6 0, i6 0, i6 0, i6 0, i6 0, i6 0, i6 0, .str [], i6 4000000, i6 0, i6 0, i6 0, i6 0, i6 0, i6 0, .nils] 2 true, .nils, .list [.list [i6 10000000] 1 true, .list [i6 10000000] 1 true] 2 true]], (Outc.ret (i6 0))),
  ([.agg [.str [66], i6 0, i6 2000000, i6 0, i6 0, .list [i6 0, i6 0] 1 true, .list [i6 550000, i6 1] 1 true, .list [i6 1, i6 0, i6 0, i6 0, i6 0, i6 0, i6 0, i6 0, i6 0, i6 0, i6 0, i6 0, i6 20000000, .str [66, 65, 76, 76], i6 0, i6 0, i6 0, i6 0, i6 0, i6 0, i6 0, .nils, i6 1, i6 200000000, i6 0, i6 0, i6 0, i6 0, i6 0, i6 0, i6 0, i6 0, i6 0, i6 0, i6 5000000, .str [], i6 0, i6 0, i6 0, i6 0, i6 0, i6 0, i6 0, .nils, i6 1, i6 0, i6 0, i6 0, i6 0, i6 0, i6 0, i6 0, i6 0, i6 0, i6 0, i6 0, i6 0, .str [], i6 0, i6 0, i6 0, i6 0, i6 0, i6 0, i6 0, .nils] 3 true, .nils, .list [.list [i6 15000000] 1 true, .list [i6 10000000] 1 true, .list [i6 10000000] 1 true] 3 true]], (Outc.ret (i6 0))),
  ([.agg [.str [70], i6 0, i6 10000000, i6 0, i6 0, .list [i6 0, i6 0, i6 0, i6 750000] 2 true, .list [i6 550000, i6 1] 1 true, .list [i6 1, i6 0, i6 0, i6 0, i6 0, i6 0, i6 0, i6 0, i6 0, i6 0, i6 0, i6 0, i6 10000000, .str [], i6 0, i6 4000000, i6 0, i6 0, i6 0, i6 0, i6 0, .nils, i6 1, i6 0, i6 0, i6 0, i6 0, i6 0, i6 0, i6 0, i6 0, i6 0, i6 0, i6 0, i6 0, .str [], i6 0, i6 0, i6 0, i6 0, i6 0, i6 0, i6 0, .nils] 2 true, .nils, .list [.list [i6 10000000] 1 true, .list [i6 10000000] 1 true] 2 true]], (Outc.ret (i6 0))),
  ([.agg [.str [], i6 0, i6 0, i6 0, i6 0, .nils, .nils, .nils, .nils, .nils]], (Outc.ret (i6 130)))]
theorem och_tab_ok : ∀ x ∈ och_tab, CallSim sC 32 x.1 ⟨[], []⟩ x.2 ⟨[], []⟩ := by
  intro x hx
  have h := och_all0
  obtain ⟨h0, h⟩ := List.cons.inj h
  obtain ⟨h1, h⟩ := List.cons.inj h
  obtain ⟨h2, h⟩ := List.cons.inj h
  obtain ⟨h3, h⟩ := List.cons.inj h
  have h := och_all1
  obtain ⟨h4, h⟩ := List.cons.inj h
  obtain ⟨h5, h⟩ := List.cons.inj h
  obtain ⟨h6, h⟩ := List.cons.inj h
  obtain ⟨h7, h⟩ := List.cons.inj h
  simp only [och_tab, List.mem_cons, List.not_mem_nil, or_false] at hx
  rcases hx with rfl | rfl | rfl | rfl | rfl | rfl | rfl | rfl
  · exact holds_of_run base ovY2_ok h0
  · exact holds_of_run base ovY2_ok h1
  · exact holds_of_run base ovY2_ok h2
  · exact holds_of_run base ovY2_ok h3
  · exact holds_of_run base ovY2_ok h4
  · exact holds_of_run base ovY2_ok h5
  · exact holds_of_run base ovY2_ok h6
  · exact holds_of_run base ovY2_ok h7
theorem och_tab_holds : Holds sC 32 (memoO och_tab) := memo_holds och_tab_ok

end Go.Proofs.YtobadaonfhlggaaGreatDoor

