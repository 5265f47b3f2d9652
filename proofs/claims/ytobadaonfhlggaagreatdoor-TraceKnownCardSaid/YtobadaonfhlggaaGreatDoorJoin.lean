/- A part of the proof that a law returns true: SJoin. -/
import Derived.Test.YtobadaonfhlggaaGreatDoorWitA
import Derived.Test.YtobadaonfhlggaaGreatDoorWitB
import Derived.Test.YtobadaonfhlggaaGreatDoorWitC
import Derived.ProofKit
import Derived.OpenShut
import Derived.Stop.Joined
import Derived.RowKit
set_option linter.all false
set_option linter.unusedVariables false
set_option linter.unusedSimpArgs false
set_option linter.unnecessarySimpa false
/- From a call that was run to the row's form. -/
open Go Go.Ev
namespace Go.Proofs.YtobadaonfhlggaaGreatDoor
open Go.ChangeShapes Go.WideShapes Go.RowKit
set_option maxRecDepth 1000000

theorem door_met (os : Os) : laidMetH Tryz.prog laidAll ((World.doorLaid Tryz.prog 131 os).forCall (fun _ _ => 0) ⟨#[], #[], []⟩).memory :=
  laidMetH_of_parts3 (fuel := 8) (wit_run1 os #[]) (wit_run2 os #[]) (wit_run3 os #[])

theorem kept_but {w w' : World} {S : MemPlace → Prop} (h : Keep w w' (Own mu0 [])) : w.keptBut w' S := by
  refine ⟨h.os, h.output, fun i hi => ?_⟩
  rw [h.blk i hi own_empty]
  cases w.heap[i]? with
  | none => rfl
  | some o => cases o <;> simp

/-- a call without arguments that hands back true -/
theorem calls_true {f : FuncId} (hc : CallSim sC f [] ⟨[], []⟩ (.ret (.bool true)) ⟨[], []⟩) (he : ∀ w, (callFunc f #[]).run Tryz.prog w = .ok (.enter f #[]) w) {W : World} (hl : laidMetH Tryz.prog laidAll W) :
    Calls Tryz.prog f #[] W fun e W' => e = .returned (.bool true) ∧ Keep W W' (Own mu0 []) := by
  obtain ⟨w', I', μ', cv, p, q, r⟩ := hc.2 W (Ist W) mu0 [] (hr_of_laid hl) (fun _ _ _ => rfl) (.nil _)
  cases q
  rcases r with r | r
  · have := (he W).symm.trans r
    cases this
  · refine r.2.mono fun e W' ⟨h1, h2⟩ => ?_
    subst h2
    exact ⟨h1, p.keep⟩
end Go.Proofs.YtobadaonfhlggaaGreatDoor

