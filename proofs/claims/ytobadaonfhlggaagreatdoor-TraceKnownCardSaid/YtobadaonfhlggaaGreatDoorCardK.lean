/- A part of the proof that a law returns true: SCardK. -/
import Derived.Test.YtobadaonfhlggaaGreatDoorCards
import Derived.SevenTiedAt
import Derived.KernelRfl
set_option linter.all false
set_option linter.unusedVariables false
set_option linter.unusedSimpArgs false
set_option linter.unnecessarySimpa false
/- Facts of TraceKnown's card. -/
namespace Go.Proofs.YtobadaonfhlggaaGreatDoor
open Go
set_option maxRecDepth 100000
theorem card_wf : Rows.traceKnownRow.wfByText (OpenSpec.ofChange Rows.traceKnownSpec) = true := by kernel_rfl
end Go.Proofs.YtobadaonfhlggaaGreatDoor

