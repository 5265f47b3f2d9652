/- A part of the proof that a law returns true: STieG. -/
import Derived.Test.YtobadaonfhlggaaGreatDoorRows
import Derived.LaidByTextLater
import Derived.SevenTiedAt
import Derived.LaidSub
import Derived.LaidOnce
import Derived.Test.YtobadaonfhlggaaGreatDoorTieF
set_option linter.all false
set_option linter.unusedVariables false
set_option linter.unusedSimpArgs false
set_option linter.unnecessarySimpa false
/- The tie, a part. -/
namespace Go.Proofs.YtobadaonfhlggaaGreatDoor
open Go
set_option maxRecDepth 100000


theorem tie_g : ∀ os tape, doorLeaves Tryz.prog 131 8 65 seatLaid os tape = some (seatLaid.filter fun x => x.2.handleName?.isNone, (funcsListed seatLaid).map (·.2.funcsOut)) := fun _ _ => by kernel_rfl
end Go.Proofs.YtobadaonfhlggaaGreatDoor

