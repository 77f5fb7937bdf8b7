/-
  DERIVED. GIVEN WITH THE SEED: THE CARDS: each row of YtdkepckkihclgaaGreatDoorRows.lean that lists a variable, with what it lists TIED to the program's text (the seventh form; the later family's looks); each row that meets fmt, with fmt's text TOLD by the authors' own Lean function (tested against real Go, not proved from fmt's source: count such statements apart). THE CARD IS WHAT COUNTS. Prove the row's statement (the work); the ties are given (YtdkepckkihclgaaGreatDoorTie.lean); close each card by the builder's one call (the guide's Derived/Test/ToyasCard.lean, 'card_holds'). Laid BY PROGRAM, IN A SANDBOX (cutbox-door.mjs). By AI agents, Wed Nov 11 2026. No macro, syntax, notation, axiom, sorry.
-/
import Derived.Test.YtdkepckkihclgaaGreatDoorRows
import GoSem.ClaimSeven
namespace Go.Proofs.YtdkepckkihclgaaGreatDoor
namespace Rows

/-- THE TIED CARD OF 'glossarylaw07.NodeChecks'. -/
def nodeChecksCard : Claim7 := { stood := { row := nodeChecksRow, standIns := [], harness := (true, "6a5a3111ce20bb9689b9759a0361641690821aa4100a369a18e1003c19b09521"), looks := false }, kinds := [], alts := [], laidByText := true, laidKinds := [.data, .pinned], laidTests := true, laidLooks := .later }
def NodeChecksCardSaid : Prop := Claim7.holds Tryz.pinned (.plain (OpenSpec.ofChange nodeChecksSpec)) nodeChecksCard

/-- THE SECOND FORM's CARD OF 'glossarylaw07.NodeChecks'. -/
def nodeChecksUptoCard : Claim7 := { stood := { row := nodeChecksUptoRow, standIns := [], harness := (true, "6a5a3111ce20bb9689b9759a0361641690821aa4100a369a18e1003c19b09521"), looks := false }, kinds := [], alts := [], laidByText := true, laidKinds := [.data, .pinned], laidTests := true, laidLooks := .later }
def NodeChecksUptoCardSaid : Prop := Claim7.holds Tryz.pinned (.plain (OpenSpec.upto nodeChecksSpec)) nodeChecksUptoCard
end Rows
end Go.Proofs.YtdkepckkihclgaaGreatDoor
