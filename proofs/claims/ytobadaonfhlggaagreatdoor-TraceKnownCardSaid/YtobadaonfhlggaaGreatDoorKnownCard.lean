/- The law TraceKnown, which has no arguments, returns true: its call is run by an evaluator that is proved sound against the model; condition: the listed variables start as the program's text lays them (the card ties them). -/
import Derived.Test.YtobadaonfhlggaaGreatDoorCards
import Derived.Test.YtobadaonfhlggaaGreatDoorKnownRow
import Derived.Test.YtobadaonfhlggaaGreatDoorTieA
import Derived.Test.YtobadaonfhlggaaGreatDoorCardF
import Derived.Test.YtobadaonfhlggaaGreatDoorCardK
import Derived.Test.YtobadaonfhlggaaGreatDoorCardG
import Derived.SevenTiedAt
set_option linter.all false
set_option linter.unusedVariables false
set_option linter.unusedSimpArgs false
set_option linter.unnecessarySimpa false
/- TraceKnown's tied card. -/
open Go
namespace Go.Proofs.YtobadaonfhlggaaGreatDoor
set_option maxRecDepth 100000

theorem known_tie : Rows.traceKnownRow.laidByTextAt .later Tryz.pinned seatKinds true := OpenClaim.laidByTextAt_later rfl rfl tie_all tie_own

theorem traceKnownCard_holds : Rows.TraceKnownCardSaid :=
  Claim7.holds_tied_plain_at .later [] seatKinds true (true, "ad6d1358b9a51cc2841590fbf8d2df64ffd7f1d67128c67a766bd16e8b3f5432") true
    known_holds (fun _ h => by cases h) card_wf (fun _ h => by cases h) known_tie rfl ⟨rfl, rfl⟩ card_main rfl
    (fun f fn hf hfn => by
      obtain rfl : f = 8 := Option.some.inj (known_named.symm.trans hf) |>.symm
      obtain rfl : fn = Tryz.f8 := (Option.some.inj (Tryz.func8.symm.trans hfn)).symm
      exact ⟨card_looks, fun j t ht => by
        rw [Tryz.params8] at ht
        simp at ht⟩)
    (card_goes rfl)
end Go.Proofs.YtobadaonfhlggaaGreatDoor

