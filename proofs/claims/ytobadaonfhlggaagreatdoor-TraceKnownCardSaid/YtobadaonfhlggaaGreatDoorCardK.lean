/- A part of the proof that a law returns true: SCardK. -/
import Derived.Test.YtobadaonfhlggaaGreatDoorCards
import Derived.SevenTiedAt
import Derived.KernelRfl
/- Facts of TraceKnown's card. -/
namespace Go.Proofs.YtobadaonfhlggaaGreatDoor
open Go
set_option maxRecDepth 100000
theorem card_wf : Rows.traceKnownRow.wfByText (OpenSpec.ofChange Rows.traceKnownSpec) = true := by kernel_rfl
end Go.Proofs.YtobadaonfhlggaaGreatDoor

