/- A part of the proof that a law returns true: SM4. -/
import Derived.Test.YtobadaonfhlggaaGreatDoorMb
set_option linter.all false
set_option linter.unusedVariables false
set_option linter.unusedSimpArgs false
set_option linter.unnecessarySimpa false
open Go Go.Ev
namespace Go.Proofs.YtobadaonfhlggaaGreatDoor
set_option maxRecDepth 1000000
set_option maxHeartbeats 4000000

theorem bnd_all0 : [run (sC.knows ovY2) 100000 (.call 18 [.agg [i6 1, i6 0, i6 0, i6 0, i6 0, i6 0, i6 0, i6 0, i6 0, i6 0, i6 0, i6 0, i6 10000000, .str [], i6 0, i6 0, i6 0, i6 0, i6 0, i6 0, i6 0, .nils], i6 10000000, i6 10000000, i6 550000, .agg [i6 0, i6 0, i6 21474836480, i6 21474836480, i6 0, i6 0], .agg [i6 0, i6 0, i6 0, i6 0, i6 4294967296, i6 4294967296]] ⟨[], []⟩) some,
  run (sC.knows ovY2) 100000 (.call 18 [.agg [i6 1, i6 200000000, i6 0, i6 0, i6 0, i6 0, i6 0, i6 0, i6 0, i6 0, i6 0, i6 0, i6 5000000, .str [], i6 0, i6 0, i6 0, i6 0, i6 0, i6 0, i6 0, .nils], i6 15000000, i6 10000000, i6 550000, .agg [i6 0, i6 0, i6 17179869184, i6 17179869184, i6 8589934576, i6 8589934610], .agg [i6 0, i6 0, i6 0, i6 0, i6 4294967294, i6 4294967298]] ⟨[], []⟩) some,
  run (sC.knows ovY2) 100000 (.call 18 [.agg [i6 1, i6 100000000, i6 0, i6 0, i6 0, i6 0, i6 0, i6 0, i6 0, i6 0, i6 0, i6 0, i6 20000000, .str [66, 65, 76, 76], i6 0, i6 0, i6 0, i6 0, i6 0, i6 0, i6 0, .nils], i6 10000000, i6 15000000, i6 550000, .agg [i6 0, i6 0, i6 4294967296, i6 4294967296, i6 215287936, i6 215287938], .agg [i6 0, i6 0, i6 0, i6 0, i6 4294967296, i6 4294967296]] ⟨[], []⟩) some,
  run (sC.knows ovY2) 100000 (.call 18 [.agg [i6 1, i6 100000000, i6 0, i6 0, i6 0, i6 0, i6 0, i6 0, i6 0, i6 0, i6 0, i6 0, i6 20000000, .str [66, 65, 76, 76], i6 0, i6 0, i6 0, i6 0, i6 0, i6 0, i6 0, .nils], i6 10000000, i6 15000000, i6 550000, .agg [i6 0, i6 0, i6 0, i6 0, i6 0, i6 0], .agg [i6 0, i6 0, i6 0, i6 0, i6 4294967296, i6 4294967296]] ⟨[], []⟩) some] =
  [some (.out (Outc.ret (AV.tuple [AV.agg [i6 0,  i6 0,  i6 0,  i6 0,  i6 4294967296,  i6 4294967296],  i6 0,  i6 0])) ⟨[], []⟩ .no),
  some (.out (Outc.ret (AV.tuple [AV.agg [i6 0,  i6 0,  i6 0,  i6 0,  i6 0,  i6 0],  i6 3,  i6 9])) ⟨[], []⟩ .no),
  some (.out (Outc.ret (AV.tuple [AV.agg [i6 0,  i6 0,  i6 (-143645334),  i6 (-143645325),  i6 4292564507,  i6 4292564520],  i6 0,  i6 0])) ⟨[], []⟩ .no),
  some (.out (Outc.ret (AV.tuple [AV.agg [i6 0,  i6 0,  i6 0,  i6 0,  i6 4294967294,  i6 4294967298],  i6 0,  i6 0])) ⟨[], []⟩ .no)] := by kernel_rfl
theorem bnd_all1 : [run (sC.knows ovY2) 100000 (.call 18 [.agg [i6 1, i6 0, i6 0, i6 0, i6 0, i6 0, i6 0, i6 0, i6 0, i6 0, i6 0, i6 0, i6 5000000, .str [], i6 0, i6 0, i6 0, i6 0, i6 0, i6 0, i6 0, .nils], i6 15000000, i6 10000000, i6 550000, .agg [i6 0, i6 0, i6 0, i6 0, i6 0, i6 0], .agg [i6 0, i6 0, i6 0, i6 0, i6 4294967294, i6 4294967298]] ⟨[], []⟩) some,
  run (sC.knows ovY2) 100000 (.call 18 [.agg [i6 1, i6 0, i6 0, i6 0, i6 0, i6 0, i6 0, i6 0, i6 0, i6 0, i6 0, i6 0, i6 20000000, .str [66, 65, 76, 76], i6 0, i6 0, i6 0, i6 0, i6 0, i6 0, i6 0, .nils], i6 10000000, i6 15000000, i6 550000, .agg [i6 0, i6 0, i6 17179869184, i6 17179869184, i6 0, i6 0], .agg [i6 0, i6 0, i6 0, i6 0, i6 4294967296, i6 4294967296]] ⟨[], []⟩) some,
  run (sC.knows ovY2) 100000 (.call 18 [.agg [i6 1, i6 0, i6 0, i6 0, i6 0, i6 0, i6 0, i6 0, i6 0, i6 0, i6 0, i6 0, i6 20000000, .str [66, 65, 76, 76], i6 0, i6 0, i6 0, i6 0, i6 0, i6 0, i6 0, .nils], i6 10000000, i6 15000000, i6 550000, .agg [i6 0, i6 0, i6 0, i6 0, i6 0, i6 0], .agg [i6 0, i6 0, i6 0, i6 0, i6 4294967296, i6 4294967296]] ⟨[], []⟩) some,
  run (sC.knows ovY2) 100000 (.call 18 [.agg [i6 1, i6 0, i6 0, i6 0, i6 0, i6 0, i6 0, i6 0, i6 0, i6 0, i6 0, i6 0, i6 10000000, .str [], i6 0, i6 6000000, i6 0, i6 0, i6 0, i6 0, i6 0, .nils], i6 10000000, i6 10000000, i6 550000, .agg [i6 0, i6 0, i6 21474836480, i6 21474836480, i6 0, i6 0], .agg [i6 0, i6 0, i6 0, i6 0, i6 4294967296, i6 4294967296]] ⟨[], []⟩) some] =
  [some (.out (Outc.ret (AV.tuple [AV.agg [i6 0,  i6 0,  i6 0,  i6 0,  i6 4294967289,  i6 4294967303],  i6 0,  i6 0])) ⟨[], []⟩ .no),
  some (.out (Outc.ret (AV.tuple [AV.agg [i6 0,  i6 0,  i6 0,  i6 0,  i6 4294967294,  i6 4294967298],  i6 0,  i6 0])) ⟨[], []⟩ .no),
  some (.out (Outc.ret (AV.tuple [AV.agg [i6 0,  i6 0,  i6 0,  i6 0,  i6 4294967294,  i6 4294967298],  i6 0,  i6 0])) ⟨[], []⟩ .no),
  some (.out (Outc.ret (AV.tuple [AV.agg [i6 0,  i6 0,  i6 0,  i6 0,  i6 4294967296,  i6 4294967296],  i6 0,  i6 0])) ⟨[], []⟩ .no)] := by kernel_rfl
theorem bnd_all2 : [run (sC.knows ovY2) 100000 (.call 18 [.agg [i6 1, i6 0, i6 0, i6 0, i6 0, i6 0, i6 0, i6 0, i6 0, i6 0, i6 0, i6 0, i6 10000000, .str [], i6 0, i6 4000000, i6 0, i6 0, i6 0, i6 0, i6 0, .nils], i6 10000000, i6 10000000, i6 550000, .agg [i6 0, i6 0, i6 21474836480, i6 21474836480, i6 0, i6 0], .agg [i6 0, i6 0, i6 0, i6 0, i6 4294967296, i6 4294967296]] ⟨[], []⟩) some,
  run (sC.knows ovY2) 100000 (.call 18 [.agg [i6 1, i6 (-100000000), i6 0, i6 0, i6 0, i6 0, i6 0, i6 0, i6 0, i6 0, i6 0, i6 0, i6 5000000, .str [], i6 0, i6 0, i6 0, i6 0, i6 0, i6 0, i6 0, .nils], i6 15000000, i6 10000000, i6 550000, .agg [i6 0, i6 0, i6 1428451958, i6 1428452148, i6 (-23760835), i6 (-23760826)], .agg [i6 0, i6 0, i6 (-143645334), i6 (-143645325), i6 4292564507, i6 4292564520]] ⟨[], []⟩) some,
  run (sC.knows ovY2) 100000 (.call 18 [.agg [i6 1, i6 (-100000000), i6 0, i6 0, i6 0, i6 0, i6 0, i6 0, i6 0, i6 0, i6 0, i6 0, i6 5000000, .str [], i6 0, i6 0, i6 0, i6 0, i6 0, i6 0, i6 0, .nils], i6 15000000, i6 10000000, i6 550000, .agg [i6 0, i6 0, i6 0, i6 0, i6 0, i6 0], .agg [i6 0, i6 0, i6 0, i6 0, i6 4294967294, i6 4294967298]] ⟨[], []⟩) some] =
  [some (.out (Outc.ret (AV.tuple [AV.agg [i6 0,  i6 0,  i6 0,  i6 0,  i6 4294967296,  i6 4294967296],  i6 0,  i6 0])) ⟨[], []⟩ .no),
  some (.out (Outc.ret (AV.tuple [AV.agg [i6 0,  i6 0,  i6 (-287129972),  i6 (-287129900),  i6 4285358816,  i6 4285358884],  i6 0,  i6 0])) ⟨[], []⟩ .no),
  some (.out (Outc.ret (AV.tuple [AV.agg [i6 0,  i6 0,  i6 0,  i6 0,  i6 4294967289,  i6 4294967303],  i6 0,  i6 0])) ⟨[], []⟩ .no)] := by kernel_rfl
def bnd_tab : List (List AV × Outc) := [([.agg [i6 1, i6 0, i6 0, i6 0, i6 0, i6 0, i6 0, i6 0, i6 0, i6 0, i6 0, i6 0, i6 10000000, .str [], i6 0, i6 0, i6 0, i6 0, i6 0, i6 0, i6 0, .nils], i6 10000000, i6 10000000, i6 550000, .agg [i6 0, i6 0, i6 21474836480, i6 21474836480, i6 0, i6 0], .agg [i6 0, i6 0, i6 0, i6 0, i6 4294967296, i6 4294967296]], (Outc.ret (AV.tuple [AV.agg [i6 0,  i6 0,  i6 0,  i6 0,  i6 4294967296,  i6 4294967296],  i6 0,  i6 0]))),
  ([.agg [i6 1, i6 200000000, i6 0, i6 0, i6 0, i6 0, i6 0, i6 0, i6 0, i6 0, i6 0, i6 0, i6 5000000, .str [], i6 0, i6 0, i6 0, i6 0, i6 0, i6 0, i6 0, .nils], i6 15000000, i6 10000000, i6 550000, .agg [i6 0, i6 0, i6 17179869184, i6 17179869184, i6 8589934576, i6 8589934610], .agg [i6 0, i6 0, i6 0, i6 0, i6 4294967294, i6 4294967298]], (Outc.ret (AV.tuple [AV.agg [i6 0,  i6 0,  i6 0,  i6 0,  i6 0,  i6 0],  i6 3,  i6 9]))),
  ([.agg [i6 1, i6 100000000, i6 0, i6 0, i6 0, i6 0, i6 0, i6 0, i6 0, i6 0, i6 0, i6 0, i6 20000000, .str [66, 65, 76, 76], i6 0, i6 0, i6 0, i6 0, i6 0, i6 0, i6 0, .nils], i6 10000000, i6 15000000, i6 550000, .agg [i6 0, i6 0, i6 4294967296, i6 4294967296, i6 215287936, i6 215287938], .agg [i6 0, i6 0, i6 0, i6 0, i6 4294967296, i6 4294967296]], (Outc.ret (AV.tuple [AV.agg [i6 0,  i6 0,  i6 (-143645334),  i6 (-143645325),  i6 4292564507,  i6 4292564520],  i6 0,  i6 0]))),
  ([.agg [i6 1, i6 100000000, i6 0, i6 0, i6 0, i6 0, i6 0, i6 0, i6 0, i6 0, i6 0, i6 0, i6 20000000, .str [66, 65, 76, 76], i6 0, i6 0, i6 0, i6 0, i6 0, i6 0, i6 0, .nils], i6 10000000, i6 15000000, i6 550000, .agg [i6 0, i6 0, i6 0, i6 0, i6 0, i6 0], .agg [i6 0, i6 0, i6 0, i6 0, i6 4294967296, i6 4294967296]], (Outc.ret (AV.tuple [AV.agg [i6 0,  i6 0,  i6 0,  i6 0,  i6 4294967294,  i6 4294967298],  i6 0,  i6 0]))),
  ([.agg [i6 1, i6 0, i6 0, i6 0, i6 0, i6 0, i6 0, i6 0, i6 0, i6 0, i6 0, i6 0, i6 5000000, .str [], i6 0, i6 0, i6 0, i6 0, i6 0, i6 0, i6 0, .nils], i6 15000000, i6 10000000, i6 550000, .agg [i6 0, i6 0, i6 0, i6 0, i6 0, i6 0], .agg [i6 0, i6 0, i6 0, i6 0, i6 4294967294, i6 4294967298]], (Outc.ret (AV.tuple [AV.agg [i6 0,  i6 0,  i6 0,  i6 0,  i6 4294967289,  i6 4294967303],  i6 0,  i6 0]))),
  ([.agg [i6 1, i6 0, i6 0, i6 0, i6 0, i6 0, i6 0, i6 0, i6 0, i6 0, i6 0, i6 0, i6 20000000, .str [66, 65, 76, 76], i6 0, i6 0, i6 0, i6 0, i6 0, i6 0, i6 0, .nils], i6 10000000, i6 15000000, i6 550000, .agg [i6 0, i6 0, i6 17179869184, i6 17179869184, i6 0, i6 0], .agg [i6 0, i6 0, i6 0, i6 0, i6 4294967296, i6 4294967296]], (Outc.ret (AV.tuple [AV.agg [i6 0,  i6 0,  i6 0,  i6 0,  i6 4294967294,  i6 4294967298],  i6 0,  i6 0]))),
  ([.agg [i6 1, i6 0, i6 0, i6 0, i6 0, i6 0, i6 0, i6 0, i6 0, i6 0, i6 0, i6 0, i6 20000000, .str [66, 65, 76, 76], i6 0, i6 0, i6 0, i6 0, i6 0, i6 0, i6 0, .nils], i6 10000000, i6 15000000, i6 550000, .agg [i6 0, i6 0, i6 0, i6 0, i6 0, i6 0], .agg [i6 0, i6 0, i6 0, i6 0, i6 4294967296, i6 4294967296]], (Outc.ret (AV.tuple [AV.agg [i6 0,  i6 0,  i6 0,  i6 0,  i6 4294967294,  i6 4294967298],  i6 0,  i6 0]))),
  ([.agg [i6 1, i6 0, i6 0, i6 0, i6 0, i6 0, i6 0, i6 0, i6 0, i6 0, i6 0, i6 0, i6 10000000, .str [], i6 0, i6 6000000, i6 0, i6 0, i6 0, i6 0, i6 0, .nils], i6 10000000, i6 10000000, i6 550000, .agg [i6 0, i6 0, i6 21474836480, i6 21474836480, i6 0, i6 0], .agg [i6 0, i6 0, i6 0, i6 0, i6 4294967296, i6 4294967296]], (Outc.ret (AV.tuple [AV.agg [i6 0,  i6 0,  i6 0,  i6 0,  i6 4294967296,  i6 4294967296],  i6 0,  i6 0]))),
  ([.agg [i6 1, i6 0, i6 0, i6 0, i6 0, i6 0, i6 0, i6 0, i6 0, i6 0, i6 0, i6 0, i6 10000000, .str [], i6 0, i6 4000000, i6 0, i6 0, i6 0, i6 0, i6 0, .nils], i6 10000000, i6 10000000, i6 550000, .agg [i6 0, i6 0, i6 21474836480, i6 21474836480, i6 0, i6 0], .agg [i6 0, i6 0, i6 0, i6 0, i6 4294967296, i6 4294967296]], (Outc.ret (AV.tuple [AV.agg [i6 0,  i6 0,  i6 0,  i6 0,  i6 4294967296,  i6 4294967296],  i6 0,  i6 0]))),
  ([.agg [i6 1, i6 (-100000000), i6 0, i6 0, i6 0, i6 0, i6 0, i6 0, i6 0, i6 0, i6 0, i6 0, i6 5000000, .str [], i6 0, i6 0, i6 0, i6 0, i6 0, i6 0, i6 0, .nils], i6 15000000, i6 10000000, i6 550000, .agg [i6 0, i6 0, i6 1428451958, i6 1428452148, i6 (-23760835), i6 (-23760826)], .agg [i6 0, i6 0, i6 (-143645334), i6 (-143645325), i6 4292564507, i6 4292564520]], (Outc.ret (AV.tuple [AV.agg [i6 0,  i6 0,  i6 (-287129972),  i6 (-287129900),  i6 4285358816,  i6 4285358884],  i6 0,  i6 0]))),
  ([.agg [i6 1, i6 (-100000000), i6 0, i6 0, i6 0, i6 0, i6 0, i6 0, i6 0, i6 0, i6 0, i6 0, i6 5000000, .str [], i6 0, i6 0, i6 0, i6 0, i6 0, i6 0, i6 0, .nils], i6 15000000, i6 10000000, i6 550000, .agg [i6 0, i6 0, i6 0, i6 0, i6 0, i6 0], .agg [i6 0, i6 0, i6 0, i6 0, i6 4294967294, i6 4294967298]], (Outc.ret (AV.tuple [AV.agg [i6 0,  i6 0,  i6 0,  i6 0,  i6 4294967289,  i6 4294967303],  i6 0,  i6 0])))]
theorem bnd_tab_ok : ∀ x ∈ bnd_tab, CallSim sC 18 x.1 ⟨[], []⟩ x.2 ⟨[], []⟩ := by
  intro x hx
  have h := bnd_all0
  obtain ⟨h0, h⟩ := List.cons.inj h
  obtain ⟨h1, h⟩ := List.cons.inj h
  obtain ⟨h2, h⟩ := List.cons.inj h
  obtain ⟨h3, h⟩ := List.cons.inj h
  have h := bnd_all1
  obtain ⟨h4, h⟩ := List.cons.inj h
  obtain ⟨h5, h⟩ := List.cons.inj h
  obtain ⟨h6, h⟩ := List.cons.inj h
  obtain ⟨h7, h⟩ := List.cons.inj h
  have h := bnd_all2
  obtain ⟨h8, h⟩ := List.cons.inj h
  obtain ⟨h9, h⟩ := List.cons.inj h
  obtain ⟨h10, h⟩ := List.cons.inj h
  simp only [bnd_tab, List.mem_cons, List.not_mem_nil, or_false] at hx
  rcases hx with rfl | rfl | rfl | rfl | rfl | rfl | rfl | rfl | rfl | rfl | rfl
  · exact holds_of_run base ovY2_ok h0
  · exact holds_of_run base ovY2_ok h1
  · exact holds_of_run base ovY2_ok h2
  · exact holds_of_run base ovY2_ok h3
  · exact holds_of_run base ovY2_ok h4
  · exact holds_of_run base ovY2_ok h5
  · exact holds_of_run base ovY2_ok h6
  · exact holds_of_run base ovY2_ok h7
  · exact holds_of_run base ovY2_ok h8
  · exact holds_of_run base ovY2_ok h9
  · exact holds_of_run base ovY2_ok h10
theorem bnd_tab_holds : Holds sC 18 (memoO bnd_tab) := memo_holds bnd_tab_ok

end Go.Proofs.YtobadaonfhlggaaGreatDoor

