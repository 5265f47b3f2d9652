/-
  NARROWER THAN 'FOR EVERY INPUT', by the rows' own cells (each row's printed sentence says how): TraceFirst: laid · TraceSteps: laid · TraceAxis: laid · TraceMirrors: laid · TraceSames: laid · TraceKnown: laid.
  DERIVED. THE GIVEN ROWS OF THIS SEAT. 6 by the template 'for every input the law returns true; each argument reads behind the call as it read before'; 0 by the template 'total and deterministic' (their statements: YtobadaonfhlggaaGreatDoorTotals.lean).
  GIVEN WITH THE SEED: the statements are not yours to turn. If you find one false, say at which input.
  Laid BY PROGRAM, IN A SANDBOX (cutbox-rows.mjs): the forced cells as the released guide's own fill.sh prints them over the translation 7f9daef6ab51811b… (all of the seat's roots in one cut). By AI agents, Wed Nov 11 2026. No macro, syntax, notation, axiom, sorry.
-/
import Derived.Test.YtobadaonfhlggaaGreatDoorChecked
import GoSem.Claim
import GoSem.ClaimJoined
import GoSem.ClaimMapViews
import Derived.JoinedTies
import Derived.KernelRfl
namespace Go.Proofs.YtobadaonfhlggaaGreatDoor
/- THE CELL 'sum', in the pinned program and in every row, IS THE sha256 OF THE DUMP (.gsa) THAT YtobadaonfhlggaaGreatDoorProg.lean LOADS. Nothing in Lean hashes anything: it is a label: what it is worth is what the hold of that sum in a sandbox is worth. -/
noncomputable def Tryz.pinned : Pinned := { name := "ytobadaonfhlggaagreatdoor", sum := "7f9daef6ab51811b249efed2f8ab36211835ebf0ad9edf2e947e7e53306a6a15", checked := Tryz.checked }
namespace Rows
def none {H : Type} : Left H := { results := [], args := [] }

/- WHAT THE LISTED PACKAGE-LEVEL VARIABLES READ AS WHEN THE CALL BEGINS. Each datum BY PROGRAM (the guide's laid-datum.mjs) off the statement by which the dump's own 'gosem.cut.vars' lays the variable. In a bare row this is a premise. The card (YtobadaonfhlggaaGreatDoorCards.lean) ties it to the program's text. -/
def laid_math_bits_deBruijn32tab {H : Type} : DataW H := .agg [.lit (.int .u8 0), .lit (.int .u8 1), .lit (.int .u8 28), .lit (.int .u8 2), .lit (.int .u8 29), .lit (.int .u8 14), .lit (.int .u8 24), .lit (.int .u8 3), .lit (.int .u8 30), .lit (.int .u8 22), .lit (.int .u8 20), .lit (.int .u8 15), .lit (.int .u8 25), .lit (.int .u8 17), .lit (.int .u8 4), .lit (.int .u8 8), .lit (.int .u8 31), .lit (.int .u8 27), .lit (.int .u8 13), .lit (.int .u8 23), .lit (.int .u8 21), .lit (.int .u8 19), .lit (.int .u8 16), .lit (.int .u8 7), .lit (.int .u8 26), .lit (.int .u8 12), .lit (.int .u8 18), .lit (.int .u8 6), .lit (.int .u8 11), .lit (.int .u8 5), .lit (.int .u8 10), .lit (.int .u8 9)]
def laid_math_bits_deBruijn64tab {H : Type} : DataW H := .agg [.lit (.int .u8 0), .lit (.int .u8 1), .lit (.int .u8 56), .lit (.int .u8 2), .lit (.int .u8 57), .lit (.int .u8 49), .lit (.int .u8 28), .lit (.int .u8 3), .lit (.int .u8 61), .lit (.int .u8 58), .lit (.int .u8 42), .lit (.int .u8 50), .lit (.int .u8 38), .lit (.int .u8 29), .lit (.int .u8 17), .lit (.int .u8 4), .lit (.int .u8 62), .lit (.int .u8 47), .lit (.int .u8 59), .lit (.int .u8 36), .lit (.int .u8 45), .lit (.int .u8 43), .lit (.int .u8 51), .lit (.int .u8 22), .lit (.int .u8 53), .lit (.int .u8 39), .lit (.int .u8 33), .lit (.int .u8 30), .lit (.int .u8 24), .lit (.int .u8 18), .lit (.int .u8 12), .lit (.int .u8 5), .lit (.int .u8 63), .lit (.int .u8 55), .lit (.int .u8 48), .lit (.int .u8 27), .lit (.int .u8 60), .lit (.int .u8 41), .lit (.int .u8 37), .lit (.int .u8 16), .lit (.int .u8 46), .lit (.int .u8 35), .lit (.int .u8 44), .lit (.int .u8 21), .lit (.int .u8 52), .lit (.int .u8 32), .lit (.int .u8 23), .lit (.int .u8 11), .lit (.int .u8 54), .lit (.int .u8 26), .lit (.int .u8 40), .lit (.int .u8 15), .lit (.int .u8 34), .lit (.int .u8 20), .lit (.int .u8 31), .lit (.int .u8 10), .lit (.int .u8 25), .lit (.int .u8 14), .lit (.int .u8 19), .lit (.int .u8 9), .lit (.int .u8 13), .lit (.int .u8 8), .lit (.int .u8 7), .lit (.int .u8 6)]
def laid_internal_strconv_uint64pow10 {H : Type} : DataW H := .agg [.lit (.int .u64 1), .lit (.int .u64 10), .lit (.int .u64 100), .lit (.int .u64 1000), .lit (.int .u64 10000), .lit (.int .u64 100000), .lit (.int .u64 1000000), .lit (.int .u64 10000000), .lit (.int .u64 100000000), .lit (.int .u64 1000000000), .lit (.int .u64 10000000000), .lit (.int .u64 100000000000), .lit (.int .u64 1000000000000), .lit (.int .u64 10000000000000), .lit (.int .u64 100000000000000), .lit (.int .u64 1000000000000000), .lit (.int .u64 10000000000000000), .lit (.int .u64 100000000000000000), .lit (.int .u64 1000000000000000000), .lit (.int .u64 10000000000000000000)]
def laid_strconv_ErrRange {H : Type} : DataW H := .iface "*errors.errorString" (.ptr (.agg [.lit (.string [118, 97, 108, 117, 101, 32, 111, 117, 116, 32, 111, 102, 32, 114, 97, 110, 103, 101])]))
def laid_strconv_ErrSyntax {H : Type} : DataW H := .iface "*errors.errorString" (.ptr (.agg [.lit (.string [105, 110, 118, 97, 108, 105, 100, 32, 115, 121, 110, 116, 97, 120])]))
def laid_monocle_surface_one {H : Type} : DataW H := .agg [.lit (.int .i64 4294967296), .lit (.int .i64 4294967296)]
def laid_monocle_surface_places {H : Type} : DataW H := .map [(.int .i64 1, .slice [.lit (.int .i64 1), .lit (.int .i64 2), .lit (.int .i64 5), .lit (.int .i64 6), .lit (.int .i64 7), .lit (.int .i64 8), .lit (.int .i64 10)] []), (.int .i64 2, .slice [.lit (.int .i64 1), .lit (.int .i64 2), .lit (.int .i64 3), .lit (.int .i64 4), .lit (.int .i64 10)] []), (.int .i64 3, .slice [.lit (.int .i64 11), .lit (.int .i64 12), .lit (.int .i64 13), .lit (.int .i64 14), .lit (.int .i64 15)] []), (.int .i64 4, .slice [.lit (.int .i64 1), .lit (.int .i64 10)] [])]
def laid_monocle_aper_units {H : Type} : DataW H := .agg [.lit (.int .i64 1000000000000), .lit (.int .i64 4294967296)]
def laid_monocle_paraxial_powers {H : Type} : DataW H := .iface "func table" (.map [(.int .i64 1, .iface "func" (.lit (.string [40, 109, 111, 110, 111, 99, 108, 101, 47, 112, 97, 114, 97, 120, 105, 97, 108, 46, 118, 105, 101, 119, 41, 46, 99, 117, 114, 118, 101, 100]))), (.int .i64 2, .iface "func" (.lit (.string [40, 109, 111, 110, 111, 99, 108, 101, 47, 112, 97, 114, 97, 120, 105, 97, 108, 46, 118, 105, 101, 119, 41, 46, 99, 117, 114, 118, 101, 100]))), (.int .i64 3, .iface "func" (.lit (.string [40, 109, 111, 110, 111, 99, 108, 101, 47, 112, 97, 114, 97, 120, 105, 97, 108, 46, 118, 105, 101, 119, 41, 46, 102, 108, 97, 116]))), (.int .i64 4, .iface "func" (.lit (.string [40, 109, 111, 110, 111, 99, 108, 101, 47, 112, 97, 114, 97, 120, 105, 97, 108, 46, 118, 105, 101, 119, 41, 46, 105, 100, 101, 97, 108])))])
def laid_monocle_hit_widths {H : Type} : DataW H := .agg [.lit (.int .i64 1048576), .lit (.int .i64 67108864), .lit (.int .i64 2147483648), .lit (.int .i64 34359738368)]

/-- 'monoclelaw27.TraceFirst': WHATEVER THE INPUT: true; the input reads as it did. -/
def traceFirstSpec : ChangeSpec := { name := "traceFirst", fn := fun _ => fun
  | [d1, d2, d3] => { results := [.lit (.bool true)], args := [d1, d2, d3] }
  | _ => none }
def traceFirstRow : OpenClaim := { program := "ytobadaonfhlggaagreatdoor", sum := "7f9daef6ab51811b249efed2f8ab36211835ebf0ad9edf2e947e7e53306a6a15", func := "monocle/monoclelaw27.TraceFirst", spec := "traceFirst", inPlace := ["internal/abi.NoEscape", "internal/bytealg.MakeNoZero", "math/bits.Add64"], unfollowed := true, recurses := true, named := ["monocle/surface.places", "monocle/paraxial.powers", "internal/strconv.uint64pow10", "math/bits.deBruijn32tab", "math/bits.deBruijn64tab", "strconv.ErrSyntax", "strconv.ErrRange", "math/bits.divideError", "math/bits.overflowError", "monocle/hit.widths", "monocle/surface.one", "monocle/aper.units"], plainKeys := false, apart := false, laid := [("math/bits.deBruijn32tab", laid_math_bits_deBruijn32tab), ("math/bits.deBruijn64tab", laid_math_bits_deBruijn64tab), ("internal/strconv.uint64pow10", laid_internal_strconv_uint64pow10), ("strconv.ErrRange", laid_strconv_ErrRange), ("strconv.ErrSyntax", laid_strconv_ErrSyntax), ("monocle/surface.one", laid_monocle_surface_one), ("monocle/surface.places", laid_monocle_surface_places), ("monocle/aper.units", laid_monocle_aper_units), ("monocle/paraxial.powers", laid_monocle_paraxial_powers), ("monocle/hit.widths", laid_monocle_hit_widths)] }
def TraceFirstSaid : Prop := traceFirstRow.holds Tryz.pinned (OpenSpec.ofChange traceFirstSpec)

/-- ITS FALSE NEIGHBOUR: 'it returns false'. Refute it at one input. -/
def traceFirstWrong : ChangeSpec := { name := "traceFirst", fn := fun _ => fun
  | [d1, d2, d3] => { results := [.lit (.bool false)], args := [d1, d2, d3] }
  | _ => none }
def TraceFirstWrongFalsely : Prop := traceFirstRow.holds Tryz.pinned (OpenSpec.ofChange traceFirstWrong)

/-- 'monoclelaw27.TraceSteps': WHATEVER THE INPUT: true; the input reads as it did. -/
def traceStepsSpec : ChangeSpec := { name := "traceSteps", fn := fun _ => fun
  | [d1, d2, d3] => { results := [.lit (.bool true)], args := [d1, d2, d3] }
  | _ => none }
def traceStepsRow : OpenClaim := { program := "ytobadaonfhlggaagreatdoor", sum := "7f9daef6ab51811b249efed2f8ab36211835ebf0ad9edf2e947e7e53306a6a15", func := "monocle/monoclelaw27.TraceSteps", spec := "traceSteps", inPlace := ["internal/abi.NoEscape", "internal/bytealg.MakeNoZero", "math/bits.Add64"], unfollowed := true, recurses := true, named := ["monocle/surface.places", "monocle/paraxial.powers", "internal/strconv.uint64pow10", "math/bits.deBruijn32tab", "math/bits.deBruijn64tab", "strconv.ErrSyntax", "strconv.ErrRange", "math/bits.divideError", "math/bits.overflowError", "monocle/hit.widths", "monocle/surface.one", "monocle/aper.units"], plainKeys := false, apart := false, laid := [("math/bits.deBruijn32tab", laid_math_bits_deBruijn32tab), ("math/bits.deBruijn64tab", laid_math_bits_deBruijn64tab), ("internal/strconv.uint64pow10", laid_internal_strconv_uint64pow10), ("strconv.ErrRange", laid_strconv_ErrRange), ("strconv.ErrSyntax", laid_strconv_ErrSyntax), ("monocle/surface.one", laid_monocle_surface_one), ("monocle/surface.places", laid_monocle_surface_places), ("monocle/aper.units", laid_monocle_aper_units), ("monocle/paraxial.powers", laid_monocle_paraxial_powers), ("monocle/hit.widths", laid_monocle_hit_widths)] }
def TraceStepsSaid : Prop := traceStepsRow.holds Tryz.pinned (OpenSpec.ofChange traceStepsSpec)

/-- ITS FALSE NEIGHBOUR: 'it returns false'. Refute it at one input. -/
def traceStepsWrong : ChangeSpec := { name := "traceSteps", fn := fun _ => fun
  | [d1, d2, d3] => { results := [.lit (.bool false)], args := [d1, d2, d3] }
  | _ => none }
def TraceStepsWrongFalsely : Prop := traceStepsRow.holds Tryz.pinned (OpenSpec.ofChange traceStepsWrong)

/-- 'monoclelaw27.TraceAxis': WHATEVER THE INPUT: true; the input reads as it did. -/
def traceAxisSpec : ChangeSpec := { name := "traceAxis", fn := fun _ => fun
  | [d1, d2, d3] => { results := [.lit (.bool true)], args := [d1, d2, d3] }
  | _ => none }
def traceAxisRow : OpenClaim := { program := "ytobadaonfhlggaagreatdoor", sum := "7f9daef6ab51811b249efed2f8ab36211835ebf0ad9edf2e947e7e53306a6a15", func := "monocle/monoclelaw27.TraceAxis", spec := "traceAxis", inPlace := ["internal/abi.NoEscape", "internal/bytealg.MakeNoZero", "math/bits.Add64"], unfollowed := true, recurses := true, named := ["monocle/surface.places", "monocle/paraxial.powers", "internal/strconv.uint64pow10", "math/bits.deBruijn32tab", "math/bits.deBruijn64tab", "strconv.ErrSyntax", "strconv.ErrRange", "math/bits.divideError", "math/bits.overflowError", "monocle/hit.widths", "monocle/surface.one", "monocle/aper.units"], plainKeys := false, apart := false, laid := [("math/bits.deBruijn32tab", laid_math_bits_deBruijn32tab), ("math/bits.deBruijn64tab", laid_math_bits_deBruijn64tab), ("internal/strconv.uint64pow10", laid_internal_strconv_uint64pow10), ("strconv.ErrRange", laid_strconv_ErrRange), ("strconv.ErrSyntax", laid_strconv_ErrSyntax), ("monocle/surface.one", laid_monocle_surface_one), ("monocle/surface.places", laid_monocle_surface_places), ("monocle/aper.units", laid_monocle_aper_units), ("monocle/paraxial.powers", laid_monocle_paraxial_powers), ("monocle/hit.widths", laid_monocle_hit_widths)] }
def TraceAxisSaid : Prop := traceAxisRow.holds Tryz.pinned (OpenSpec.ofChange traceAxisSpec)

/-- ITS FALSE NEIGHBOUR: 'it returns false'. Refute it at one input. -/
def traceAxisWrong : ChangeSpec := { name := "traceAxis", fn := fun _ => fun
  | [d1, d2, d3] => { results := [.lit (.bool false)], args := [d1, d2, d3] }
  | _ => none }
def TraceAxisWrongFalsely : Prop := traceAxisRow.holds Tryz.pinned (OpenSpec.ofChange traceAxisWrong)

/-- 'monoclelaw27.TraceMirrors': WHATEVER THE INPUT: true; the input reads as it did. -/
def traceMirrorsSpec : ChangeSpec := { name := "traceMirrors", fn := fun _ => fun
  | [d1, d2, d3, d4] => { results := [.lit (.bool true)], args := [d1, d2, d3, d4] }
  | _ => none }
def traceMirrorsRow : OpenClaim := { program := "ytobadaonfhlggaagreatdoor", sum := "7f9daef6ab51811b249efed2f8ab36211835ebf0ad9edf2e947e7e53306a6a15", func := "monocle/monoclelaw27.TraceMirrors", spec := "traceMirrors", inPlace := ["internal/abi.NoEscape", "internal/bytealg.MakeNoZero", "math/bits.Add64"], unfollowed := true, recurses := true, named := ["monocle/surface.places", "monocle/paraxial.powers", "internal/strconv.uint64pow10", "math/bits.deBruijn32tab", "math/bits.deBruijn64tab", "strconv.ErrSyntax", "strconv.ErrRange", "math/bits.divideError", "math/bits.overflowError", "monocle/hit.widths", "monocle/surface.one", "monocle/aper.units"], plainKeys := false, apart := false, laid := [("math/bits.deBruijn32tab", laid_math_bits_deBruijn32tab), ("math/bits.deBruijn64tab", laid_math_bits_deBruijn64tab), ("internal/strconv.uint64pow10", laid_internal_strconv_uint64pow10), ("strconv.ErrRange", laid_strconv_ErrRange), ("strconv.ErrSyntax", laid_strconv_ErrSyntax), ("monocle/surface.one", laid_monocle_surface_one), ("monocle/surface.places", laid_monocle_surface_places), ("monocle/aper.units", laid_monocle_aper_units), ("monocle/paraxial.powers", laid_monocle_paraxial_powers), ("monocle/hit.widths", laid_monocle_hit_widths)] }
def TraceMirrorsSaid : Prop := traceMirrorsRow.holds Tryz.pinned (OpenSpec.ofChange traceMirrorsSpec)

/-- ITS FALSE NEIGHBOUR: 'it returns false'. Refute it at one input. -/
def traceMirrorsWrong : ChangeSpec := { name := "traceMirrors", fn := fun _ => fun
  | [d1, d2, d3, d4] => { results := [.lit (.bool false)], args := [d1, d2, d3, d4] }
  | _ => none }
def TraceMirrorsWrongFalsely : Prop := traceMirrorsRow.holds Tryz.pinned (OpenSpec.ofChange traceMirrorsWrong)

/-- 'monoclelaw27.TraceSames': WHATEVER THE INPUT: true; the input reads as it did. -/
def traceSamesSpec : ChangeSpec := { name := "traceSames", fn := fun _ => fun
  | [d1, d2, d3, d4] => { results := [.lit (.bool true)], args := [d1, d2, d3, d4] }
  | _ => none }
def traceSamesRow : OpenClaim := { program := "ytobadaonfhlggaagreatdoor", sum := "7f9daef6ab51811b249efed2f8ab36211835ebf0ad9edf2e947e7e53306a6a15", func := "monocle/monoclelaw27.TraceSames", spec := "traceSames", inPlace := ["internal/abi.NoEscape", "internal/bytealg.MakeNoZero", "math/bits.Add64"], unfollowed := true, recurses := true, named := ["monocle/surface.places", "monocle/paraxial.powers", "internal/strconv.uint64pow10", "math/bits.deBruijn32tab", "math/bits.deBruijn64tab", "strconv.ErrSyntax", "strconv.ErrRange", "math/bits.divideError", "math/bits.overflowError", "monocle/hit.widths", "monocle/surface.one", "monocle/aper.units"], plainKeys := false, apart := false, laid := [("math/bits.deBruijn32tab", laid_math_bits_deBruijn32tab), ("math/bits.deBruijn64tab", laid_math_bits_deBruijn64tab), ("internal/strconv.uint64pow10", laid_internal_strconv_uint64pow10), ("strconv.ErrRange", laid_strconv_ErrRange), ("strconv.ErrSyntax", laid_strconv_ErrSyntax), ("monocle/surface.one", laid_monocle_surface_one), ("monocle/surface.places", laid_monocle_surface_places), ("monocle/aper.units", laid_monocle_aper_units), ("monocle/paraxial.powers", laid_monocle_paraxial_powers), ("monocle/hit.widths", laid_monocle_hit_widths)] }
def TraceSamesSaid : Prop := traceSamesRow.holds Tryz.pinned (OpenSpec.ofChange traceSamesSpec)

/-- ITS FALSE NEIGHBOUR: 'it returns false'. Refute it at one input. -/
def traceSamesWrong : ChangeSpec := { name := "traceSames", fn := fun _ => fun
  | [d1, d2, d3, d4] => { results := [.lit (.bool false)], args := [d1, d2, d3, d4] }
  | _ => none }
def TraceSamesWrongFalsely : Prop := traceSamesRow.holds Tryz.pinned (OpenSpec.ofChange traceSamesWrong)

/-- 'monoclelaw27.TraceKnown': WHATEVER THE INPUT: true; the input reads as it did. -/
def traceKnownSpec : ChangeSpec := { name := "traceKnown", fn := fun _ => fun
  | [] => { results := [.lit (.bool true)], args := [] }
  | _ => none }
def traceKnownRow : OpenClaim := { program := "ytobadaonfhlggaagreatdoor", sum := "7f9daef6ab51811b249efed2f8ab36211835ebf0ad9edf2e947e7e53306a6a15", func := "monocle/monoclelaw27.TraceKnown", spec := "traceKnown", inPlace := ["internal/abi.NoEscape", "internal/bytealg.MakeNoZero", "math/bits.Add64"], unfollowed := true, recurses := true, named := ["monocle/surface.places", "monocle/paraxial.powers", "internal/strconv.uint64pow10", "math/bits.deBruijn32tab", "math/bits.deBruijn64tab", "strconv.ErrSyntax", "strconv.ErrRange", "math/bits.divideError", "math/bits.overflowError", "monocle/hit.widths", "monocle/surface.one", "monocle/aper.units"], plainKeys := false, apart := false, laid := [("math/bits.deBruijn32tab", laid_math_bits_deBruijn32tab), ("math/bits.deBruijn64tab", laid_math_bits_deBruijn64tab), ("internal/strconv.uint64pow10", laid_internal_strconv_uint64pow10), ("strconv.ErrRange", laid_strconv_ErrRange), ("strconv.ErrSyntax", laid_strconv_ErrSyntax), ("monocle/surface.one", laid_monocle_surface_one), ("monocle/surface.places", laid_monocle_surface_places), ("monocle/aper.units", laid_monocle_aper_units), ("monocle/paraxial.powers", laid_monocle_paraxial_powers), ("monocle/hit.widths", laid_monocle_hit_widths)] }
def TraceKnownSaid : Prop := traceKnownRow.holds Tryz.pinned (OpenSpec.ofChange traceKnownSpec)

/-- ITS FALSE NEIGHBOUR: 'it returns false'. Refute it at one input. -/
def traceKnownWrong : ChangeSpec := { name := "traceKnown", fn := fun _ => fun
  | [] => { results := [.lit (.bool false)], args := [] }
  | _ => none }
def TraceKnownWrongFalsely : Prop := traceKnownRow.holds Tryz.pinned (OpenSpec.ofChange traceKnownWrong)

/- THE SECOND FORM. 'bulk': how many values and letters a reading holds, each counted each time it is reached (what is shared counts as often as it is met; a slice's spare places count too). A statement '..UptoSaid' is the law's where the arguments, and the package variables that the reading takes, are together of bulk at most 1048576: NARROWER than '..Said'. Prove '..Said' where nothing that the law and all that it calls make is longer than what came in: it says more and counts as full. Else prove '..UptoSaid'. A law counts once. -/
mutual
def uptoBulk {H : Type} : DataW H → Nat
  | .lit (.string bytes) => bytes.length + 1
  | .lit _ => 1
  | .nil => 1
  | .ptr d => uptoBulk d + 1
  | .slice elems spare => uptoBulkAll elems + uptoBulkAll spare + 1
  | .agg parts => uptoBulkAll parts + 1
  | .iface _ d => uptoBulk d + 1
  | .map entries => uptoBulkEntries entries + 1
  | .held _ => 1
def uptoBulkAll {H : Type} : List (DataW H) → Nat
  | [] => 0
  | d :: r => uptoBulk d + uptoBulkAll r
def uptoBulkEntries {H : Type} : List (Lit × DataW H) → Nat
  | [] => 0
  | x :: r => uptoBulkEntry x + uptoBulkEntries r
def uptoBulkEntry {H : Type} : Lit × DataW H → Nat
  | (.string bytes, d) => bytes.length + uptoBulk d + 1
  | (_, d) => uptoBulk d + 1
 end
def uptoSmall : (H : Type) → List (DataW H) → Bool := fun _ ds => decide (uptoBulkAll ds ≤ 1048576)
def OpenSpec.upto (s : _root_.Go.ChangeSpec) : _root_.Go.OpenSpec := { _root_.Go.OpenSpec.ofChange s with cond := some uptoSmall }

/-- 'monoclelaw27.TraceFirst', WHERE WHAT IT READS IS OF BULK AT MOST 1048576: true; the input reads as it did. -/
def traceFirstUptoRow : OpenClaim := { program := "ytobadaonfhlggaagreatdoor", sum := "7f9daef6ab51811b249efed2f8ab36211835ebf0ad9edf2e947e7e53306a6a15", func := "monocle/monoclelaw27.TraceFirst", spec := "traceFirst", inPlace := ["internal/abi.NoEscape", "internal/bytealg.MakeNoZero", "math/bits.Add64"], unfollowed := true, recurses := true, named := ["monocle/surface.places", "monocle/paraxial.powers", "internal/strconv.uint64pow10", "math/bits.deBruijn32tab", "math/bits.deBruijn64tab", "strconv.ErrSyntax", "strconv.ErrRange", "math/bits.divideError", "math/bits.overflowError", "monocle/hit.widths", "monocle/surface.one", "monocle/aper.units"], plainKeys := false, apart := false, laid := [("math/bits.deBruijn32tab", laid_math_bits_deBruijn32tab), ("math/bits.deBruijn64tab", laid_math_bits_deBruijn64tab), ("internal/strconv.uint64pow10", laid_internal_strconv_uint64pow10), ("strconv.ErrRange", laid_strconv_ErrRange), ("strconv.ErrSyntax", laid_strconv_ErrSyntax), ("monocle/surface.one", laid_monocle_surface_one), ("monocle/surface.places", laid_monocle_surface_places), ("monocle/aper.units", laid_monocle_aper_units), ("monocle/paraxial.powers", laid_monocle_paraxial_powers), ("monocle/hit.widths", laid_monocle_hit_widths)], narrowed := true }
def TraceFirstUptoSaid : Prop := traceFirstUptoRow.holds Tryz.pinned (OpenSpec.upto traceFirstSpec)

/-- 'monoclelaw27.TraceSteps', WHERE WHAT IT READS IS OF BULK AT MOST 1048576: true; the input reads as it did. -/
def traceStepsUptoRow : OpenClaim := { program := "ytobadaonfhlggaagreatdoor", sum := "7f9daef6ab51811b249efed2f8ab36211835ebf0ad9edf2e947e7e53306a6a15", func := "monocle/monoclelaw27.TraceSteps", spec := "traceSteps", inPlace := ["internal/abi.NoEscape", "internal/bytealg.MakeNoZero", "math/bits.Add64"], unfollowed := true, recurses := true, named := ["monocle/surface.places", "monocle/paraxial.powers", "internal/strconv.uint64pow10", "math/bits.deBruijn32tab", "math/bits.deBruijn64tab", "strconv.ErrSyntax", "strconv.ErrRange", "math/bits.divideError", "math/bits.overflowError", "monocle/hit.widths", "monocle/surface.one", "monocle/aper.units"], plainKeys := false, apart := false, laid := [("math/bits.deBruijn32tab", laid_math_bits_deBruijn32tab), ("math/bits.deBruijn64tab", laid_math_bits_deBruijn64tab), ("internal/strconv.uint64pow10", laid_internal_strconv_uint64pow10), ("strconv.ErrRange", laid_strconv_ErrRange), ("strconv.ErrSyntax", laid_strconv_ErrSyntax), ("monocle/surface.one", laid_monocle_surface_one), ("monocle/surface.places", laid_monocle_surface_places), ("monocle/aper.units", laid_monocle_aper_units), ("monocle/paraxial.powers", laid_monocle_paraxial_powers), ("monocle/hit.widths", laid_monocle_hit_widths)], narrowed := true }
def TraceStepsUptoSaid : Prop := traceStepsUptoRow.holds Tryz.pinned (OpenSpec.upto traceStepsSpec)

/-- 'monoclelaw27.TraceAxis', WHERE WHAT IT READS IS OF BULK AT MOST 1048576: true; the input reads as it did. -/
def traceAxisUptoRow : OpenClaim := { program := "ytobadaonfhlggaagreatdoor", sum := "7f9daef6ab51811b249efed2f8ab36211835ebf0ad9edf2e947e7e53306a6a15", func := "monocle/monoclelaw27.TraceAxis", spec := "traceAxis", inPlace := ["internal/abi.NoEscape", "internal/bytealg.MakeNoZero", "math/bits.Add64"], unfollowed := true, recurses := true, named := ["monocle/surface.places", "monocle/paraxial.powers", "internal/strconv.uint64pow10", "math/bits.deBruijn32tab", "math/bits.deBruijn64tab", "strconv.ErrSyntax", "strconv.ErrRange", "math/bits.divideError", "math/bits.overflowError", "monocle/hit.widths", "monocle/surface.one", "monocle/aper.units"], plainKeys := false, apart := false, laid := [("math/bits.deBruijn32tab", laid_math_bits_deBruijn32tab), ("math/bits.deBruijn64tab", laid_math_bits_deBruijn64tab), ("internal/strconv.uint64pow10", laid_internal_strconv_uint64pow10), ("strconv.ErrRange", laid_strconv_ErrRange), ("strconv.ErrSyntax", laid_strconv_ErrSyntax), ("monocle/surface.one", laid_monocle_surface_one), ("monocle/surface.places", laid_monocle_surface_places), ("monocle/aper.units", laid_monocle_aper_units), ("monocle/paraxial.powers", laid_monocle_paraxial_powers), ("monocle/hit.widths", laid_monocle_hit_widths)], narrowed := true }
def TraceAxisUptoSaid : Prop := traceAxisUptoRow.holds Tryz.pinned (OpenSpec.upto traceAxisSpec)

/-- 'monoclelaw27.TraceMirrors', WHERE WHAT IT READS IS OF BULK AT MOST 1048576: true; the input reads as it did. -/
def traceMirrorsUptoRow : OpenClaim := { program := "ytobadaonfhlggaagreatdoor", sum := "7f9daef6ab51811b249efed2f8ab36211835ebf0ad9edf2e947e7e53306a6a15", func := "monocle/monoclelaw27.TraceMirrors", spec := "traceMirrors", inPlace := ["internal/abi.NoEscape", "internal/bytealg.MakeNoZero", "math/bits.Add64"], unfollowed := true, recurses := true, named := ["monocle/surface.places", "monocle/paraxial.powers", "internal/strconv.uint64pow10", "math/bits.deBruijn32tab", "math/bits.deBruijn64tab", "strconv.ErrSyntax", "strconv.ErrRange", "math/bits.divideError", "math/bits.overflowError", "monocle/hit.widths", "monocle/surface.one", "monocle/aper.units"], plainKeys := false, apart := false, laid := [("math/bits.deBruijn32tab", laid_math_bits_deBruijn32tab), ("math/bits.deBruijn64tab", laid_math_bits_deBruijn64tab), ("internal/strconv.uint64pow10", laid_internal_strconv_uint64pow10), ("strconv.ErrRange", laid_strconv_ErrRange), ("strconv.ErrSyntax", laid_strconv_ErrSyntax), ("monocle/surface.one", laid_monocle_surface_one), ("monocle/surface.places", laid_monocle_surface_places), ("monocle/aper.units", laid_monocle_aper_units), ("monocle/paraxial.powers", laid_monocle_paraxial_powers), ("monocle/hit.widths", laid_monocle_hit_widths)], narrowed := true }
def TraceMirrorsUptoSaid : Prop := traceMirrorsUptoRow.holds Tryz.pinned (OpenSpec.upto traceMirrorsSpec)

/-- 'monoclelaw27.TraceSames', WHERE WHAT IT READS IS OF BULK AT MOST 1048576: true; the input reads as it did. -/
def traceSamesUptoRow : OpenClaim := { program := "ytobadaonfhlggaagreatdoor", sum := "7f9daef6ab51811b249efed2f8ab36211835ebf0ad9edf2e947e7e53306a6a15", func := "monocle/monoclelaw27.TraceSames", spec := "traceSames", inPlace := ["internal/abi.NoEscape", "internal/bytealg.MakeNoZero", "math/bits.Add64"], unfollowed := true, recurses := true, named := ["monocle/surface.places", "monocle/paraxial.powers", "internal/strconv.uint64pow10", "math/bits.deBruijn32tab", "math/bits.deBruijn64tab", "strconv.ErrSyntax", "strconv.ErrRange", "math/bits.divideError", "math/bits.overflowError", "monocle/hit.widths", "monocle/surface.one", "monocle/aper.units"], plainKeys := false, apart := false, laid := [("math/bits.deBruijn32tab", laid_math_bits_deBruijn32tab), ("math/bits.deBruijn64tab", laid_math_bits_deBruijn64tab), ("internal/strconv.uint64pow10", laid_internal_strconv_uint64pow10), ("strconv.ErrRange", laid_strconv_ErrRange), ("strconv.ErrSyntax", laid_strconv_ErrSyntax), ("monocle/surface.one", laid_monocle_surface_one), ("monocle/surface.places", laid_monocle_surface_places), ("monocle/aper.units", laid_monocle_aper_units), ("monocle/paraxial.powers", laid_monocle_paraxial_powers), ("monocle/hit.widths", laid_monocle_hit_widths)], narrowed := true }
def TraceSamesUptoSaid : Prop := traceSamesUptoRow.holds Tryz.pinned (OpenSpec.upto traceSamesSpec)

/-- 'monoclelaw27.TraceKnown', WHERE WHAT IT READS IS OF BULK AT MOST 1048576: true; the input reads as it did. -/
def traceKnownUptoRow : OpenClaim := { program := "ytobadaonfhlggaagreatdoor", sum := "7f9daef6ab51811b249efed2f8ab36211835ebf0ad9edf2e947e7e53306a6a15", func := "monocle/monoclelaw27.TraceKnown", spec := "traceKnown", inPlace := ["internal/abi.NoEscape", "internal/bytealg.MakeNoZero", "math/bits.Add64"], unfollowed := true, recurses := true, named := ["monocle/surface.places", "monocle/paraxial.powers", "internal/strconv.uint64pow10", "math/bits.deBruijn32tab", "math/bits.deBruijn64tab", "strconv.ErrSyntax", "strconv.ErrRange", "math/bits.divideError", "math/bits.overflowError", "monocle/hit.widths", "monocle/surface.one", "monocle/aper.units"], plainKeys := false, apart := false, laid := [("math/bits.deBruijn32tab", laid_math_bits_deBruijn32tab), ("math/bits.deBruijn64tab", laid_math_bits_deBruijn64tab), ("internal/strconv.uint64pow10", laid_internal_strconv_uint64pow10), ("strconv.ErrRange", laid_strconv_ErrRange), ("strconv.ErrSyntax", laid_strconv_ErrSyntax), ("monocle/surface.one", laid_monocle_surface_one), ("monocle/surface.places", laid_monocle_surface_places), ("monocle/aper.units", laid_monocle_aper_units), ("monocle/paraxial.powers", laid_monocle_paraxial_powers), ("monocle/hit.widths", laid_monocle_hit_widths)], narrowed := true }
def TraceKnownUptoSaid : Prop := traceKnownUptoRow.holds Tryz.pinned (OpenSpec.upto traceKnownSpec)

end Rows
end Go.Proofs.YtobadaonfhlggaaGreatDoor
