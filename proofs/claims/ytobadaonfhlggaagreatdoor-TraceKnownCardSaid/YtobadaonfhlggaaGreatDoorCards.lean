/-
  DERIVED. GIVEN WITH THE SEED: THE CARDS: each row of YtobadaonfhlggaaGreatDoorRows.lean that lists a variable, with what it lists TIED to the program's text (the seventh form; the later family's looks); each row that meets fmt, with fmt's text TOLD by the authors' own Lean function (tested against real Go, not proved from fmt's source: count such statements apart). THE CARD IS WHAT COUNTS. Prove the row's statement (the work); the ties are given (YtobadaonfhlggaaGreatDoorTie.lean); close each card by the builder's one call (the guide's Derived/Test/ToyasCard.lean, 'card_holds'). Laid BY PROGRAM, IN A SANDBOX (cutbox-door.mjs). By AI agents, Wed Nov 11 2026. No macro, syntax, notation, axiom, sorry.
-/
import Derived.Test.YtobadaonfhlggaaGreatDoorRows
import GoSem.ClaimSeven
namespace Go.Proofs.YtobadaonfhlggaaGreatDoor
namespace Rows

/-- THE TIED CARD OF 'monoclelaw27.TraceFirst'. -/
def traceFirstCard : Claim7 := { stood := { row := traceFirstRow, standIns := [], harness := (true, "ad6d1358b9a51cc2841590fbf8d2df64ffd7f1d67128c67a766bd16e8b3f5432"), looks := true }, kinds := [], alts := [], laidByText := true, laidKinds := [.data, .data, .data, .sentinel, .sentinel, .data, .mappedDeep, .data, .funcs, .data], laidTests := true, laidLooks := .later }
def TraceFirstCardSaid : Prop := Claim7.holds Tryz.pinned (.plain (OpenSpec.ofChange traceFirstSpec)) traceFirstCard

/-- THE TIED CARD OF 'monoclelaw27.TraceSteps'. -/
def traceStepsCard : Claim7 := { stood := { row := traceStepsRow, standIns := [], harness := (true, "ad6d1358b9a51cc2841590fbf8d2df64ffd7f1d67128c67a766bd16e8b3f5432"), looks := true }, kinds := [], alts := [], laidByText := true, laidKinds := [.data, .data, .data, .sentinel, .sentinel, .data, .mappedDeep, .data, .funcs, .data], laidTests := true, laidLooks := .later }
def TraceStepsCardSaid : Prop := Claim7.holds Tryz.pinned (.plain (OpenSpec.ofChange traceStepsSpec)) traceStepsCard

/-- THE TIED CARD OF 'monoclelaw27.TraceAxis'. -/
def traceAxisCard : Claim7 := { stood := { row := traceAxisRow, standIns := [], harness := (true, "ad6d1358b9a51cc2841590fbf8d2df64ffd7f1d67128c67a766bd16e8b3f5432"), looks := true }, kinds := [], alts := [], laidByText := true, laidKinds := [.data, .data, .data, .sentinel, .sentinel, .data, .mappedDeep, .data, .funcs, .data], laidTests := true, laidLooks := .later }
def TraceAxisCardSaid : Prop := Claim7.holds Tryz.pinned (.plain (OpenSpec.ofChange traceAxisSpec)) traceAxisCard

/-- THE TIED CARD OF 'monoclelaw27.TraceMirrors'. -/
def traceMirrorsCard : Claim7 := { stood := { row := traceMirrorsRow, standIns := [], harness := (true, "ad6d1358b9a51cc2841590fbf8d2df64ffd7f1d67128c67a766bd16e8b3f5432"), looks := true }, kinds := [], alts := [], laidByText := true, laidKinds := [.data, .data, .data, .sentinel, .sentinel, .data, .mappedDeep, .data, .funcs, .data], laidTests := true, laidLooks := .later }
def TraceMirrorsCardSaid : Prop := Claim7.holds Tryz.pinned (.plain (OpenSpec.ofChange traceMirrorsSpec)) traceMirrorsCard

/-- THE TIED CARD OF 'monoclelaw27.TraceSames'. -/
def traceSamesCard : Claim7 := { stood := { row := traceSamesRow, standIns := [], harness := (true, "ad6d1358b9a51cc2841590fbf8d2df64ffd7f1d67128c67a766bd16e8b3f5432"), looks := true }, kinds := [], alts := [], laidByText := true, laidKinds := [.data, .data, .data, .sentinel, .sentinel, .data, .mappedDeep, .data, .funcs, .data], laidTests := true, laidLooks := .later }
def TraceSamesCardSaid : Prop := Claim7.holds Tryz.pinned (.plain (OpenSpec.ofChange traceSamesSpec)) traceSamesCard

/-- THE TIED CARD OF 'monoclelaw27.TraceKnown'. -/
def traceKnownCard : Claim7 := { stood := { row := traceKnownRow, standIns := [], harness := (true, "ad6d1358b9a51cc2841590fbf8d2df64ffd7f1d67128c67a766bd16e8b3f5432"), looks := true }, kinds := [], alts := [], laidByText := true, laidKinds := [.data, .data, .data, .sentinel, .sentinel, .data, .mappedDeep, .data, .funcs, .data], laidTests := true, laidLooks := .later }
def TraceKnownCardSaid : Prop := Claim7.holds Tryz.pinned (.plain (OpenSpec.ofChange traceKnownSpec)) traceKnownCard

/-- THE SECOND FORM's CARD OF 'monoclelaw27.TraceFirst'. -/
def traceFirstUptoCard : Claim7 := { stood := { row := traceFirstUptoRow, standIns := [], harness := (true, "ad6d1358b9a51cc2841590fbf8d2df64ffd7f1d67128c67a766bd16e8b3f5432"), looks := true }, kinds := [], alts := [], laidByText := true, laidKinds := [.data, .data, .data, .sentinel, .sentinel, .data, .mappedDeep, .data, .funcs, .data], laidTests := true, laidLooks := .later }
def TraceFirstUptoCardSaid : Prop := Claim7.holds Tryz.pinned (.plain (OpenSpec.upto traceFirstSpec)) traceFirstUptoCard

/-- THE SECOND FORM's CARD OF 'monoclelaw27.TraceSteps'. -/
def traceStepsUptoCard : Claim7 := { stood := { row := traceStepsUptoRow, standIns := [], harness := (true, "ad6d1358b9a51cc2841590fbf8d2df64ffd7f1d67128c67a766bd16e8b3f5432"), looks := true }, kinds := [], alts := [], laidByText := true, laidKinds := [.data, .data, .data, .sentinel, .sentinel, .data, .mappedDeep, .data, .funcs, .data], laidTests := true, laidLooks := .later }
def TraceStepsUptoCardSaid : Prop := Claim7.holds Tryz.pinned (.plain (OpenSpec.upto traceStepsSpec)) traceStepsUptoCard

/-- THE SECOND FORM's CARD OF 'monoclelaw27.TraceAxis'. -/
def traceAxisUptoCard : Claim7 := { stood := { row := traceAxisUptoRow, standIns := [], harness := (true, "ad6d1358b9a51cc2841590fbf8d2df64ffd7f1d67128c67a766bd16e8b3f5432"), looks := true }, kinds := [], alts := [], laidByText := true, laidKinds := [.data, .data, .data, .sentinel, .sentinel, .data, .mappedDeep, .data, .funcs, .data], laidTests := true, laidLooks := .later }
def TraceAxisUptoCardSaid : Prop := Claim7.holds Tryz.pinned (.plain (OpenSpec.upto traceAxisSpec)) traceAxisUptoCard

/-- THE SECOND FORM's CARD OF 'monoclelaw27.TraceMirrors'. -/
def traceMirrorsUptoCard : Claim7 := { stood := { row := traceMirrorsUptoRow, standIns := [], harness := (true, "ad6d1358b9a51cc2841590fbf8d2df64ffd7f1d67128c67a766bd16e8b3f5432"), looks := true }, kinds := [], alts := [], laidByText := true, laidKinds := [.data, .data, .data, .sentinel, .sentinel, .data, .mappedDeep, .data, .funcs, .data], laidTests := true, laidLooks := .later }
def TraceMirrorsUptoCardSaid : Prop := Claim7.holds Tryz.pinned (.plain (OpenSpec.upto traceMirrorsSpec)) traceMirrorsUptoCard

/-- THE SECOND FORM's CARD OF 'monoclelaw27.TraceSames'. -/
def traceSamesUptoCard : Claim7 := { stood := { row := traceSamesUptoRow, standIns := [], harness := (true, "ad6d1358b9a51cc2841590fbf8d2df64ffd7f1d67128c67a766bd16e8b3f5432"), looks := true }, kinds := [], alts := [], laidByText := true, laidKinds := [.data, .data, .data, .sentinel, .sentinel, .data, .mappedDeep, .data, .funcs, .data], laidTests := true, laidLooks := .later }
def TraceSamesUptoCardSaid : Prop := Claim7.holds Tryz.pinned (.plain (OpenSpec.upto traceSamesSpec)) traceSamesUptoCard

/-- THE SECOND FORM's CARD OF 'monoclelaw27.TraceKnown'. -/
def traceKnownUptoCard : Claim7 := { stood := { row := traceKnownUptoRow, standIns := [], harness := (true, "ad6d1358b9a51cc2841590fbf8d2df64ffd7f1d67128c67a766bd16e8b3f5432"), looks := true }, kinds := [], alts := [], laidByText := true, laidKinds := [.data, .data, .data, .sentinel, .sentinel, .data, .mappedDeep, .data, .funcs, .data], laidTests := true, laidLooks := .later }
def TraceKnownUptoCardSaid : Prop := Claim7.holds Tryz.pinned (.plain (OpenSpec.upto traceKnownSpec)) traceKnownUptoCard
end Rows
end Go.Proofs.YtobadaonfhlggaaGreatDoor
