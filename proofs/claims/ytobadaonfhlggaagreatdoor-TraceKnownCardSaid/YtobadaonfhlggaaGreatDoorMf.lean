/- A part of the proof that a law returns true: SY3. -/
import Derived.Test.YtobadaonfhlggaaGreatDoorMc
import Derived.Test.YtobadaonfhlggaaGreatDoorMd
import Derived.Test.YtobadaonfhlggaaGreatDoorMe
set_option linter.all false
set_option linter.unusedVariables false
set_option linter.unusedSimpArgs false
set_option linter.unnecessarySimpa false
/- Contracts: .. and single calls of optics.Check, hit.Hit, aper.Inside, bend.Bend. -/
open Go Go.Ev
namespace Go.Proofs.YtobadaonfhlggaaGreatDoor
def lY3 : List (Nat × Cv) := (32, memoO och_tab) :: (15, memoO hit_tab) :: (16, memoO ins_tab) :: (18, memoO bnd_tab) :: lY2
theorem lY3_ok : ∀ x ∈ lY3, Holds sC x.1 x.2 := fun x hx => by
  rcases List.mem_cons.1 hx with rfl | hx
  · exact och_tab_holds
  rcases List.mem_cons.1 hx with rfl | hx
  · exact hit_tab_holds
  rcases List.mem_cons.1 hx with rfl | hx
  · exact ins_tab_holds
  rcases List.mem_cons.1 hx with rfl | hx
  · exact bnd_tab_holds
  · exact lY2_ok x hx
def ovY3 : Ovs := ovOf lY3
theorem ovY3_ok : ∀ f g, ovY3 f = some g → Holds sC f g := ovOf_ok lY3_ok
end Go.Proofs.YtobadaonfhlggaaGreatDoor

