/- A part of the proof that a law returns true: SCardG. -/
import Derived.Test.YtobadaonfhlggaaGreatDoorCards
import Derived.SevenTiedAt
import Derived.KernelRfl
set_option linter.all false
set_option linter.unusedVariables false
set_option linter.unusedSimpArgs false
set_option linter.unnecessarySimpa false
/- No goroutine is started anywhere. -/
namespace Go.Proofs.YtobadaonfhlggaaGreatDoor
open Go
set_option maxRecDepth 100000
theorem no_goes : Tryz.prog.funcs.any Func.goes = false := by kernel_rfl
theorem goes_false (f : FuncId) : Tryz.prog.goes f = false := by
  have h1 : ∀ g : Nat, (Tryz.prog.funcs[g]?).any Func.goes = false := fun g => by
    cases hg : Tryz.prog.funcs[g]? with
    | none => rfl
    | some fn =>
      have := no_goes
      rw [Array.any_eq_false] at this
      obtain ⟨hi, he⟩ := Array.getElem?_eq_some_iff.1 hg
      have := this g hi
      rw [he] at this
      simpa using this
  unfold Program.goes
  rw [no_goes]
  simp only [Bool.and_false, Bool.or_false]
  rw [List.any_eq_false]
  intro g _
  rw [h1 g]; simp
theorem card_goes {c : OpenClaim} (h : c.start = .entering) : false = c.goesBy Tryz.pinned.checked.prog := by
  unfold OpenClaim.goesBy Program.goesAt Program.goesFrom
  rw [h]
  simp only [Bool.or_false]
  show false = (Tryz.prog.funcNamed c.func).any Tryz.prog.goes
  cases Tryz.prog.funcNamed c.func with
  | none => rfl
  | some f => simp only [Option.any_some, goes_false]
end Go.Proofs.YtobadaonfhlggaaGreatDoor

