/- A part of the proof that a law returns true: SY4 SWorks. -/
import Derived.Test.YtobadaonfhlggaaGreatDoorMg
import Derived.Test.YtobadaonfhlggaaGreatDoorMh
set_option linter.all false
set_option linter.unusedVariables false
set_option linter.unusedSimpArgs false
set_option linter.unnecessarySimpa false
/- Contracts: .. and single calls of ray.Start, ray.Enter, optics.Ahead, optics.Behind. -/
open Go Go.Ev
namespace Go.Proofs.YtobadaonfhlggaaGreatDoor
def lY4 : List (Nat × Cv) := (70, memoO rst_tab) :: (14, memoO ren_tab) :: (93, memoO ahd_tab) :: (94, memoO bhd_tab) :: lY3
theorem lY4_ok : ∀ x ∈ lY4, Holds sC x.1 x.2 := fun x hx => by
  rcases List.mem_cons.1 hx with rfl | hx
  · exact rst_tab_holds
  rcases List.mem_cons.1 hx with rfl | hx
  · exact ren_tab_holds
  rcases List.mem_cons.1 hx with rfl | hx
  · exact ahd_tab_holds
  rcases List.mem_cons.1 hx with rfl | hx
  · exact bhd_tab_holds
  · exact lY3_ok x hx
def ovY4 : Ovs := ovOf lY4
theorem ovY4_ok : ∀ f g, ovY4 f = some g → Holds sC f g := ovOf_ok lY4_ok
end Go.Proofs.YtobadaonfhlggaaGreatDoor

/- The chapter's examples: the call of works. -/
open Go Go.Ev
namespace Go.Proofs.YtobadaonfhlggaaGreatDoor
set_option maxRecDepth 1000000
set_option maxHeartbeats 4000000
theorem works_run : run (sC.knows ovY4) 100000 (.call 9 [] ⟨[], []⟩) some = some (.out (.ret (.bool true)) ⟨[], []⟩ .no) := by kernel_rfl
def wrk_tab : List (List AV × Outc) := [([], .ret (.bool true))]
theorem wrk_tab_ok : ∀ x ∈ wrk_tab, CallSim sC 9 x.1 ⟨[], []⟩ x.2 ⟨[], []⟩ := by
  intro x hx
  simp only [wrk_tab, List.mem_cons, List.not_mem_nil, or_false] at hx
  subst hx
  exact holds_of_run base ovY4_ok works_run
def lY5 : List (Nat × Cv) := (9, memoO wrk_tab) :: lY4
theorem lY5_ok : ∀ x ∈ lY5, Holds sC x.1 x.2 := fun x hx => by
  rcases List.mem_cons.1 hx with rfl | hx
  · exact memo_holds wrk_tab_ok
  · exact lY4_ok x hx
def ovY5 : Ovs := ovOf lY5
theorem ovY5_ok : ∀ f g, ovY5 f = some g → Holds sC f g := ovOf_ok lY5_ok
end Go.Proofs.YtobadaonfhlggaaGreatDoor

