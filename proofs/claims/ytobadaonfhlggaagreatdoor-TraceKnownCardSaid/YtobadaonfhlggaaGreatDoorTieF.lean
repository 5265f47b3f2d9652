/- A part of the proof that a law returns true: STieF. -/
import Derived.Test.YtobadaonfhlggaaGreatDoorRows
import Derived.LaidByTextLater
import Derived.SevenTiedAt
import Derived.LaidSub
import Derived.LaidOnce
set_option linter.all false
set_option linter.unusedVariables false
set_option linter.unusedSimpArgs false
set_option linter.unnecessarySimpa false
/- The tie, a part. -/
namespace Go.Proofs.YtobadaonfhlggaaGreatDoor
open Go
set_option maxRecDepth 100000
def seatLaid : List (String × DataW Unit) := [("math/bits.deBruijn32tab", Rows.laid_math_bits_deBruijn32tab), ("math/bits.deBruijn64tab", Rows.laid_math_bits_deBruijn64tab), ("internal/strconv.uint64pow10", Rows.laid_internal_strconv_uint64pow10), ("strconv.ErrRange", Rows.laid_strconv_ErrRange), ("strconv.ErrSyntax", Rows.laid_strconv_ErrSyntax), ("monocle/surface.one", Rows.laid_monocle_surface_one), ("monocle/surface.places", Rows.laid_monocle_surface_places), ("monocle/aper.units", Rows.laid_monocle_aper_units), ("monocle/paraxial.powers", Rows.laid_monocle_paraxial_powers), ("monocle/hit.widths", Rows.laid_monocle_hit_widths)]
def seatKinds : List LaidKind := [.data, .data, .data, .sentinel, .sentinel, .data, .mappedDeep, .data, .funcs, .data]
theorem tie_f : varsNamedLaterB Tryz.prog (varsId Tryz.prog) seatLaid = true := by kernel_rfl
end Go.Proofs.YtobadaonfhlggaaGreatDoor

