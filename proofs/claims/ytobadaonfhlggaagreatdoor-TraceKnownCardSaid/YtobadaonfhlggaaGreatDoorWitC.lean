/- A part of the proof that a law returns true: SWit3. -/
import Derived.Test.YtobadaonfhlggaaGreatDoorGlob
import Derived.ProofKit
import Derived.LaidMore
set_option linter.all false
set_option linter.unusedVariables false
set_option linter.unusedSimpArgs false
set_option linter.unnecessarySimpa false
/- .. that it is shaped -/
open Go
namespace Go.Proofs.YtobadaonfhlggaaGreatDoor
set_option maxRecDepth 1000000
theorem wit_shaped (os : Os) : ((World.doorLaid Tryz.prog 131 os).forCall (fun _ _ => 0) ⟨#[], #[], []⟩).Shaped Tryz.prog := World.shaped_of_RefB (by kernel_rfl) (by kernel_rfl)
end Go.Proofs.YtobadaonfhlggaaGreatDoor

