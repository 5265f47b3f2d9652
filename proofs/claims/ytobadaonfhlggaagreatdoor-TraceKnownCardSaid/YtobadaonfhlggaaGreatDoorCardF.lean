/- A part of the proof that a law returns true: SCardF. -/
import Derived.Test.YtobadaonfhlggaaGreatDoorCards
import Derived.SevenTiedAt
import Derived.KernelRfl
set_option linter.all false
set_option linter.unusedVariables false
set_option linter.unusedSimpArgs false
set_option linter.unnecessarySimpa false
/- Facts of the cards. -/
namespace Go.Proofs.YtobadaonfhlggaaGreatDoor
open Go
set_option maxRecDepth 100000
theorem card_main : Tryz.pinned.checked.prog.mainIs = some (true, "ad6d1358b9a51cc2841590fbf8d2df64ffd7f1d67128c67a766bd16e8b3f5432".toList) := by kernel_rfl
theorem card_looks : true = Tryz.prog.looks [] := by kernel_rfl
end Go.Proofs.YtobadaonfhlggaaGreatDoor

