/-
  DERIVED. GIVEN WITH THE SEED: THE CARDS: each row of YtecibcjckinngaaGreatDoorRows.lean that lists a variable, with what it lists TIED to the program's text (the seventh form; the later family's looks); each row that meets fmt, with fmt's text TOLD by the authors' own Lean function (tested against real Go, not proved from fmt's source: count such statements apart). THE CARD IS WHAT COUNTS. Prove the row's statement (the work); the ties are given (YtecibcjckinngaaGreatDoorTie.lean); close each card by the builder's one call (the guide's Derived/Test/ToyasCard.lean, 'card_holds'). Laid BY PROGRAM, IN A SANDBOX (cutbox-door.mjs). By AI agents, Wed Nov 11 2026. No macro, syntax, notation, axiom, sorry.
-/
import Derived.Test.YtecibcjckinngaaGreatDoorRows
import GoSem.ClaimSeven
namespace Go.Proofs.YtecibcjckinngaaGreatDoor
namespace Rows

/-- THE TIED CARD OF 'brindlewoodlaw6.DebuggerSessionMatchesSpec'. -/
def debuggerSessionMatchesSpecCard : Claim7 := { stood := { row := debuggerSessionMatchesSpecRow, standIns := [], harness := (true, "e116364dbe3faf92c002c2879c679a4a52db7cccdef1bb69180c2f28266c6a68"), looks := true }, kinds := [], alts := [], laidByText := true, laidKinds := [.data, .data, .data, .data, .sentinel, .sentinel, .pinned], laidTests := true, laidLooks := .later }
def DebuggerSessionMatchesSpecCardSaid : Prop := Claim7.holds Tryz.pinned (.plain (OpenSpec.ofChange debuggerSessionMatchesSpecSpec)) debuggerSessionMatchesSpecCard

/-- THE SECOND FORM's CARD OF 'brindlewoodlaw6.DebuggerSessionMatchesSpec'. -/
def debuggerSessionMatchesSpecUptoCard : Claim7 := { stood := { row := debuggerSessionMatchesSpecUptoRow, standIns := [], harness := (true, "e116364dbe3faf92c002c2879c679a4a52db7cccdef1bb69180c2f28266c6a68"), looks := true }, kinds := [], alts := [], laidByText := true, laidKinds := [.data, .data, .data, .data, .sentinel, .sentinel, .pinned], laidTests := true, laidLooks := .later }
def DebuggerSessionMatchesSpecUptoCardSaid : Prop := Claim7.holds Tryz.pinned (.plain (OpenSpec.upto debuggerSessionMatchesSpecSpec)) debuggerSessionMatchesSpecUptoCard
end Rows
end Go.Proofs.YtecibcjckinngaaGreatDoor
