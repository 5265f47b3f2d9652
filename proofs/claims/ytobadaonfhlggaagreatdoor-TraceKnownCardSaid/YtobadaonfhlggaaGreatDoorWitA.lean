/- A part of the proof that a law returns true: SWit. -/
import Derived.Test.YtobadaonfhlggaaGreatDoorGlob
import Derived.ProofKit
import Derived.LaidMore
import Derived.OpenShut
import Derived.Stop.Joined
set_option linter.all false
set_option linter.unusedVariables false
set_option linter.unusedSimpArgs false
set_option linter.unnecessarySimpa false
/- A start that meets the conditions of the rows: the door's own run. -/
open Go
namespace Go.Proofs.YtobadaonfhlggaaGreatDoor
set_option maxRecDepth 1000000

theorem own : ownKnob Tryz.prog.godebug = none := by kernel_rfl
theorem wit_run1 (os : Os) (args : Array Value) : laidMet Tryz.prog (laidAll.filter fun x => x.2.handleName?.isNone) ((World.doorLaid Tryz.prog 131 os).forCall (fun _ _ => 0) ⟨#[], args, []⟩).memory := laidMet_of_run' 8 (by kernel_rfl) (by kernel_rfl)
end Go.Proofs.YtobadaonfhlggaaGreatDoor

