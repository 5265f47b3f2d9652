/- A part of the proof that a law returns true: SWit2. -/
import Derived.Test.YtobadaonfhlggaaGreatDoorGlob
import Derived.ProofKit
import Derived.LaidMore
set_option linter.all false
set_option linter.unusedVariables false
set_option linter.unusedSimpArgs false
set_option linter.unnecessarySimpa false
/- .. that the functions stand where the table names them -/
open Go
namespace Go.Proofs.YtobadaonfhlggaaGreatDoor
set_option maxRecDepth 1000000
theorem wit_run2 (os : Os) (args : Array Value) : (laidAll.filter fun x => x.2.handleName?.isSome && x.2.funcsIn?.isNone).all (handleAtB Tryz.prog ((World.doorLaid Tryz.prog 131 os).forCall (fun _ _ => 0) ⟨#[], args, []⟩).memory) = true := by kernel_rfl
theorem wit_run3 (os : Os) (args : Array Value) : funcsRun Tryz.prog ((World.doorLaid Tryz.prog 131 os).forCall (fun _ _ => 0) ⟨#[], args, []⟩).memory 8 ((funcsListed laidAll).map (·.1)) = some ((funcsListed laidAll).map (·.2.funcsOut)) := by kernel_rfl
end Go.Proofs.YtobadaonfhlggaaGreatDoor

