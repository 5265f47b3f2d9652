/- A part of the proof that a law returns true: STie. -/
import Derived.Test.YtobadaonfhlggaaGreatDoorRows
import Derived.Test.YtobadaonfhlggaaGreatDoorTieF
import Derived.Test.YtobadaonfhlggaaGreatDoorTieG
import Derived.LaidByTextLater
import Derived.SevenTiedAt
import Derived.LaidSub
import Derived.LaidOnce
set_option linter.all false
set_option linter.unusedVariables false
set_option linter.unusedSimpArgs false
set_option linter.unnecessarySimpa false
/- The rows' tie to the program's text, in parts. -/
namespace Go.Proofs.YtobadaonfhlggaaGreatDoor
open Go
set_option maxRecDepth 100000
theorem tie_a : Tryz.prog.worded (varsWordLater true) = true := by kernel_rfl
theorem tie_b : Tryz.prog.worded (varsWordLater !true) = false := by kernel_rfl
theorem tie_c : Tryz.prog.worded rootWordLater = true := by kernel_rfl
theorem tie_d : seatLaid.map (fun x => Tryz.prog.kindOfLater x.1) = seatKinds.map some := by kernel_rfl
theorem tie_e : (Tryz.prog.funcNamed "gosem.cut.vars").isSome = true := by kernel_rfl
theorem tie_own : Tryz.pinned.checked.prog.headLifts.contains "ownunsafe" = false := by kernel_rfl
theorem tie_all : Tryz.prog.laidByTextLater seatLaid seatKinds true := Program.laidByTextLater_by_one 131 8 65 tie_a tie_b tie_c tie_d tie_e tie_f tie_g
end Go.Proofs.YtobadaonfhlggaaGreatDoor

