/- A part of the proof that a law returns true: SKnownRow. -/
import Derived.Test.YtobadaonfhlggaaGreatDoorJoin
import Derived.Test.YtobadaonfhlggaaGreatDoorMj
import Derived.Test.YtobadaonfhlggaaGreatDoorRowP
import Derived.Test.YtobadaonfhlggaaGreatDoorRowU
import Derived.Test.YtobadaonfhlggaaGreatDoorRowR
import Derived.Test.YtobadaonfhlggaaGreatDoorRowN
import Derived.Test.YtobadaonfhlggaaGreatDoorRowW
import Derived.Test.YtobadaonfhlggaaGreatDoorRowL
set_option linter.all false
set_option linter.unusedVariables false
set_option linter.unusedSimpArgs false
set_option linter.unnecessarySimpa false
/- TraceKnown: the row's statement. -/
open Go Go.Ev
namespace Go.Proofs.YtobadaonfhlggaaGreatDoor
open Go.ChangeShapes Go.WideShapes Go.RowKit
set_option maxRecDepth 1000000

theorem known_enter (w : World) : (callFunc 8 #[]).run Tryz.prog w = .ok (.enter 8 #[]) w := by kernel_rfl

theorem known_lifted (os : Os) (started : os.Started) (H : Type) (enc : TypeId × Value → H) :
    ReturnsInHanded {} Tryz.checked os 8 .any (fun w args => (Rows.traceKnownSpec.pre enc Tryz.prog Tryz.f8 [] false w args ∧ laidMetH Tryz.prog laidAll w) ∧ sizedMet enc Tryz.prog Tryz.f8 (OpenSpec.ofChange Rows.traceKnownSpec) false w args)
      (Rows.traceKnownSpec.post enc Tryz.prog Tryz.f8 false true false false) := by
  refine returnsInHanded_of_change_and (C := Tryz.checked) (X := fun w _ => laidMetH Tryz.prog laidAll w) (fun _ _ _ hh h => h.of_heap hh) own started (by kernel_rfl) Tryz.func8
    (ChangeSpec.witness_shaped (enc := enc) (C := Tryz.checked) (os := os) (X := fun w _ => laidMetH Tryz.prog laidAll w) false (World.doorLaid Tryz.prog 131 os) #[] 8 rfl (wit_shaped os) (by kernel_rfl) (by kernel_rfl) (by kernel_rfl) (door_met os)) ?_
  intro W base args ds gs before hval0 hW _ _ hL _
  have hW' := hW
  obtain ⟨p, q, hA0, hV, rfl, hfz, hnd⟩ := hW
  have hA : DataW.TrodAll enc Tryz.prog W 0 (fun _ => true) true Tryz.f8.params.toList args.toList ds p := hA0
  rw [Tryz.params8] at hA
  obtain ⟨hargs, rfl, rfl⟩ : args = #[] ∧ ds = [] ∧ p = [] := by
    cases hal : args.toList with
    | nil =>
      rw [hal] at hA
      refine ⟨by rw [← Array.toList_inj]; exact hal, ?_⟩
      cases ds with
      | nil => exact ⟨rfl, hA⟩
      | cons d r => exact absurd hA (by intro h; cases h)
    | cons v r => rw [hal] at hA; exact absurd hA (by intro h; cases ds <;> cases h)
  subst hargs
  obtain ⟨rfl, rfl⟩ := trodVars_none hV
  refine (calls_true known_call known_enter hL).mono fun e W' ⟨he, hk⟩ => ?_
  subst he
  refine ⟨_, rfl, [], [], _, [], [], [], hW', ?_, ?_, ?_, kept_but hk, fun h => by cases h⟩
  · exact trodAll_mk1 (shut_bool Tryz.underlying4 true)
  · rfl
  · rfl

theorem known_closed : joinedFacts Tryz.prog 8 Tryz.f8 Rows.traceKnownSpec Rows.traceKnownRow = true := by
  simp only [joinedFacts, row_p, row_u, row_r, row_n, row_w, row_l, row_m, Bool.true_and, Bool.and_true]
  kernel_rfl
theorem known_named : Tryz.prog.funcNamed Rows.traceKnownRow.func = some 8 := by kernel_rfl
theorem known_inst : Tryz.f8.isInstance Tryz.prog Rows.traceKnownRow.origin Rows.traceKnownRow.targs := of_decide_eq_true (by kernel_rfl)
theorem known_wrap : Tryz.f8.isWrapper Tryz.prog Rows.traceKnownRow.wrapper Rows.traceKnownRow.mainSum := by
  unfold Func.isWrapper; first | (rw [if_pos (by decide +kernel)]; kernel_rfl) | (rw [if_neg (by decide +kernel)]; exact ⟨rfl, rfl⟩)

theorem known_holds : Rows.TraceKnownSaid :=
  OpenClaim.holds_of_wide 8 Tryz.f8 rfl rfl rfl rfl rfl rfl rfl ⟨rfl, rfl, rfl, rfl, rfl⟩ rfl rfl rfl rfl rfl known_named Tryz.func8 known_closed known_inst known_wrap
    (fun os started H enc _ => known_lifted os started H enc)
end Go.Proofs.YtobadaonfhlggaaGreatDoor

