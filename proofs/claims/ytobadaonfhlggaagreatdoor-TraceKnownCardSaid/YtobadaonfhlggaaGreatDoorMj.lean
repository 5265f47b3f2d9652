/- A part of the proof that a law returns true: SKnown. -/
import Derived.Test.YtobadaonfhlggaaGreatDoorMi
set_option linter.all false
set_option linter.unusedVariables false
set_option linter.unusedSimpArgs false
set_option linter.unnecessarySimpa false
/- The call of TraceKnown. -/
open Go Go.Ev
namespace Go.Proofs.YtobadaonfhlggaaGreatDoor
set_option maxRecDepth 1000000
set_option maxHeartbeats 4000000
theorem known_run : run (sC.knows ovY5) 100000 (.call 8 [] ⟨[], []⟩) some = some (.out (.ret (.bool true)) ⟨[], []⟩ .no) := by kernel_rfl
theorem known_call : CallSim sC 8 [] ⟨[], []⟩ (.ret (.bool true)) ⟨[], []⟩ := holds_of_run base ovY5_ok known_run
end Go.Proofs.YtobadaonfhlggaaGreatDoor

