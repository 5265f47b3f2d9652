/- A part of the proof that a law returns true: SOk0 SOk1 SOk2 SOk3 SOk4 SOk5 SOk6 SOk7 SOk8 SOk9 SBase. -/
import Derived.Test.YtobadaonfhlggaaGreatDoorCtx
import GoSem.Claims
set_option linter.all false
set_option linter.unusedVariables false
set_option linter.unusedSimpArgs false
set_option linter.unnecessarySimpa false
/- The code of the functions 0 to 59 is in order. Printed by mkseat.py. -/
open Go Go.Ev
namespace Go.Proofs.YtobadaonfhlggaaGreatDoor
set_option maxRecDepth 1000000
theorem ok0 : (List.range' 0 60).all (fun f => match nF0.look 564 f with | some x => fnOk x | none => true) = true := by kernel_rfl

end Go.Proofs.YtobadaonfhlggaaGreatDoor

/- The code of the functions 60 to 119 is in order. Printed by mkseat.py. -/
open Go Go.Ev
namespace Go.Proofs.YtobadaonfhlggaaGreatDoor
set_option maxRecDepth 1000000
theorem ok1 : (List.range' 60 60).all (fun f => match nF0.look 564 f with | some x => fnOk x | none => true) = true := by kernel_rfl

end Go.Proofs.YtobadaonfhlggaaGreatDoor

/- The code of the functions 120 to 179 is in order. Printed by mkseat.py. -/
open Go Go.Ev
namespace Go.Proofs.YtobadaonfhlggaaGreatDoor
set_option maxRecDepth 1000000
theorem ok2 : (List.range' 120 60).all (fun f => match nF0.look 564 f with | some x => fnOk x | none => true) = true := by kernel_rfl

end Go.Proofs.YtobadaonfhlggaaGreatDoor

/- The code of the functions 180 to 239 is in order. Printed by mkseat.py. -/
open Go Go.Ev
namespace Go.Proofs.YtobadaonfhlggaaGreatDoor
set_option maxRecDepth 1000000
theorem ok3 : (List.range' 180 60).all (fun f => match nF0.look 564 f with | some x => fnOk x | none => true) = true := by kernel_rfl

end Go.Proofs.YtobadaonfhlggaaGreatDoor

/- The code of the functions 240 to 299 is in order. Printed by mkseat.py. -/
open Go Go.Ev
namespace Go.Proofs.YtobadaonfhlggaaGreatDoor
set_option maxRecDepth 1000000
theorem ok4 : (List.range' 240 60).all (fun f => match nF0.look 564 f with | some x => fnOk x | none => true) = true := by kernel_rfl

end Go.Proofs.YtobadaonfhlggaaGreatDoor

/- The code of the functions 300 to 359 is in order. Printed by mkseat.py. -/
open Go Go.Ev
namespace Go.Proofs.YtobadaonfhlggaaGreatDoor
set_option maxRecDepth 1000000
theorem ok5 : (List.range' 300 60).all (fun f => match nF0.look 564 f with | some x => fnOk x | none => true) = true := by kernel_rfl

end Go.Proofs.YtobadaonfhlggaaGreatDoor

/- The code of the functions 360 to 419 is in order. Printed by mkseat.py. -/
open Go Go.Ev
namespace Go.Proofs.YtobadaonfhlggaaGreatDoor
set_option maxRecDepth 1000000
theorem ok6 : (List.range' 360 60).all (fun f => match nF0.look 564 f with | some x => fnOk x | none => true) = true := by kernel_rfl

end Go.Proofs.YtobadaonfhlggaaGreatDoor

/- The code of the functions 420 to 479 is in order. Printed by mkseat.py. -/
open Go Go.Ev
namespace Go.Proofs.YtobadaonfhlggaaGreatDoor
set_option maxRecDepth 1000000
theorem ok7 : (List.range' 420 60).all (fun f => match nF0.look 564 f with | some x => fnOk x | none => true) = true := by kernel_rfl

end Go.Proofs.YtobadaonfhlggaaGreatDoor

/- The code of the functions 480 to 539 is in order. Printed by mkseat.py. -/
open Go Go.Ev
namespace Go.Proofs.YtobadaonfhlggaaGreatDoor
set_option maxRecDepth 1000000
theorem ok8 : (List.range' 480 60).all (fun f => match nF0.look 564 f with | some x => fnOk x | none => true) = true := by kernel_rfl

end Go.Proofs.YtobadaonfhlggaaGreatDoor

/- The code of the functions 540 to 563 is in order. Printed by mkseat.py. -/
open Go Go.Ev
namespace Go.Proofs.YtobadaonfhlggaaGreatDoor
set_option maxRecDepth 1000000
theorem ok9 : (List.range' 540 24).all (fun f => match nF0.look 564 f with | some x => fnOk x | none => true) = true := by kernel_rfl

end Go.Proofs.YtobadaonfhlggaaGreatDoor

/- What is asked of the seat's context. Printed by mkseat.py. -/
open Go Go.Ev
namespace Go.Proofs.YtobadaonfhlggaaGreatDoor
set_option maxRecDepth 1000000
theorem mixed : Tryz.prog.follows .mixedOrders = true := by kernel_rfl
theorem ext_add (a b c : Int) (hc : c.toNat ≤ 1) (w : World) : (callFunc 393 #[.int .u64 a, .int .u64 b, .int .u64 c]).run Tryz.prog w = .ok (.value (.tuple #[.int .u64 (Int.ofNat ((a.toNat + b.toNat + c.toNat) % 2 ^ 64)), .int .u64 (Int.ofNat ((a.toNat + b.toNat + c.toNat) / 2 ^ 64))])) w := by
  have h : (callFunc 393 #[.int .u64 a, .int .u64 b, .int .u64 c]).run Tryz.prog w = (match Extern.MathBitsCarry.rows with
    | (_, g) :: _ => (do let v ← g #[.int .u64 a, .int .u64 b, .int .u64 c]; pure (Next.value v) : Sem Next)
    | [] => pure .skip).run Tryz.prog w := by kernel_rfl
  rw [h]
  exact add64_ok a b c hc
theorem ext_same (x : Value) (w : World) : (callFunc 487 #[x]).run Tryz.prog w = .ok (.value x) w := by kernel_rfl

theorem fn_all (f : Nat) (fn : Func) (h : sC.fn f = some fn) : fnOk fn = true := by
  have hlt : f < 564 := (Tb.at_some h).1
  have key : ∀ a n, a ≤ f → f < a + n → ((List.range' a n).all fun f => match nF0.look 564 f with | some x => fnOk x | none => true) = true → fnOk fn = true := fun a n h1 h2 h3 => by
    have := List.all_eq_true.1 h3 f (by rw [List.mem_range']; exact ⟨f - a, by omega, by omega⟩)
    rw [show nF0.look 564 f = some fn from h] at this
    exact this
  rcases Nat.lt_or_ge f 60 with h0 | h0
  · exact key 0 60 (by omega) (by omega) ok0
  rcases Nat.lt_or_ge f 120 with h0 | h0
  · exact key 60 60 (by omega) (by omega) ok1
  rcases Nat.lt_or_ge f 180 with h0 | h0
  · exact key 120 60 (by omega) (by omega) ok2
  rcases Nat.lt_or_ge f 240 with h0 | h0
  · exact key 180 60 (by omega) (by omega) ok3
  rcases Nat.lt_or_ge f 300 with h0 | h0
  · exact key 240 60 (by omega) (by omega) ok4
  rcases Nat.lt_or_ge f 360 with h0 | h0
  · exact key 300 60 (by omega) (by omega) ok5
  rcases Nat.lt_or_ge f 420 with h0 | h0
  · exact key 360 60 (by omega) (by omega) ok6
  rcases Nat.lt_or_ge f 480 with h0 | h0
  · exact key 420 60 (by omega) (by omega) ok7
  rcases Nat.lt_or_ge f 540 with h0 | h0
  · exact key 480 60 (by omega) (by omega) ok8
  rcases Nat.lt_or_ge f 564 with h0 | h0
  · exact key 540 24 (by omega) (by omega) ok9
  omega

theorem base : BaseOK sC := by
  refine ⟨fun f fn h hb => ?_, fun f fn b h hb => ?_, mixed, fun f g hf args v hv w I μ vargs hvs => ?_⟩
  · have := fn_all f fn h
    unfold fnOk at this
    cases hbd : fn.body with
    | none => rw [hbd] at hb; simp at hb
    | some b =>
      rw [hbd] at this
      simp only [Bool.and_eq_true, Bool.not_eq_true', beq_eq_false_iff_ne] at this
      exact this.2
  · have := fn_all f fn h
    unfold fnOk at this
    rw [hb] at this
    simp only [Bool.and_eq_true] at this
    exact this.1
  · have hf : sExt f = some g := hf
    unfold sExt at hf
    rw [nbeq, nbeq] at hf
    by_cases h1 : f = 393
    · subst h1
      simp at hf
      subst hf
      unfold sAdd64 at hv
      split at hv
      · rename_i a b c
        rw [cond_eq_ite] at hv
        split at hv
        · rename_i hc
          cases hv
          cases hvs with
          | cons _ _ _ _ _ e1 hvs =>
          cases hvs with
          | cons _ _ _ _ _ e2 hvs =>
          cases hvs with
          | cons _ _ _ _ _ e3 hvs =>
          cases hvs
          cases e1; cases e2; cases e3
          rw [← sum_mod, ← sum_div]
          exact ⟨_, ext_add a b c (Nat.le_of_ble_eq_true hc) w, .tuple _ _ _ (.cons _ _ _ _ _ (.int _ _ _) (.cons _ _ _ _ _ (.int _ _ _) (.nil _)))⟩
        · simp at hv
      · simp at hv
    · by_cases h2 : f = 487
      · subst h2
        simp at hf
        subst hf
        unfold sSame at hv
        split at hv
        · cases hv
          cases hvs with
          | cons _ _ x _ _ e1 hvs =>
          cases hvs
          exact ⟨x, ext_same x w, e1⟩
        · simp at hv
      · simp [h1, h2] at hf

end Go.Proofs.YtobadaonfhlggaaGreatDoor

