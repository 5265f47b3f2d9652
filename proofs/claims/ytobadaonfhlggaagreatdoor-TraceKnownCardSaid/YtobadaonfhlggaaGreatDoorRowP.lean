/- A part of the proof that a law returns true: SRowP. -/
import Derived.Test.YtobadaonfhlggaaGreatDoorRows
import Derived.JoinedOf
import Derived.KernelRfl
set_option linter.all false
set_option linter.unusedVariables false
set_option linter.unusedSimpArgs false
set_option linter.unnecessarySimpa false
/- A closed fact of TraceKnown's row. -/
namespace Go.Proofs.YtobadaonfhlggaaGreatDoor
open Go
set_option maxRecDepth 100000
theorem row_p : (Rows.traceKnownRow.inPlace == Tryz.prog.inPlace 8) = true := by kernel_rfl
end Go.Proofs.YtobadaonfhlggaaGreatDoor

