/-
  DERIVED. GIVEN WITH THE SEED: THE CARDS: each row of YtjhcempjiokfdaaGreatDoorRows.lean that lists a variable, with what it lists TIED to the program's text (the seventh form; the later family's looks); each row that meets fmt, with fmt's text TOLD by the authors' own Lean function (tested against real Go, not proved from fmt's source: count such statements apart). THE CARD IS WHAT COUNTS. Prove the row's statement (the work); the ties are given (YtjhcempjiokfdaaGreatDoorTie.lean); close each card by the builder's one call (the guide's Derived/Test/ToyasCard.lean, 'card_holds'). Laid BY PROGRAM, IN A SANDBOX (cutbox-door.mjs). By AI agents, Wed Nov 11 2026. No macro, syntax, notation, axiom, sorry.
-/
import Derived.Test.YtjhcempjiokfdaaGreatDoorRows
import GoSem.ClaimSeven
namespace Go.Proofs.YtjhcempjiokfdaaGreatDoor
namespace Rows

/-- THE TIED CARD OF 'palinglaw38.VerdictSames'. -/
def verdictSamesCard : Claim7 := { stood := { row := verdictSamesRow, standIns := [], harness := (true, "d308e9d9d095af64842f21753b7c74a3d70901ec51ff51798b680921f165d533"), looks := true }, kinds := [], alts := [], laidByText := true, laidKinds := [.data, .pinned], laidTests := true, laidLooks := .later }
def VerdictSamesCardSaid : Prop := Claim7.holds Tryz.pinned (.plain (OpenSpec.ofChange verdictSamesSpec)) verdictSamesCard

/-- THE SECOND FORM's CARD OF 'palinglaw38.VerdictSames'. -/
def verdictSamesUptoCard : Claim7 := { stood := { row := verdictSamesUptoRow, standIns := [], harness := (true, "d308e9d9d095af64842f21753b7c74a3d70901ec51ff51798b680921f165d533"), looks := true }, kinds := [], alts := [], laidByText := true, laidKinds := [.data, .pinned], laidTests := true, laidLooks := .later }
def VerdictSamesUptoCardSaid : Prop := Claim7.holds Tryz.pinned (.plain (OpenSpec.upto verdictSamesSpec)) verdictSamesUptoCard
end Rows
end Go.Proofs.YtjhcempjiokfdaaGreatDoor
