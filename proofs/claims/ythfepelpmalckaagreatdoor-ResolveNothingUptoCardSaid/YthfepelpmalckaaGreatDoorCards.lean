/-
  DERIVED. GIVEN WITH THE SEED: THE CARDS: each row of YthfepelpmalckaaGreatDoorRows.lean that lists a variable, with what it lists TIED to the program's text (the seventh form; the later family's looks); each row that meets fmt, with fmt's text TOLD by the authors' own Lean function (tested against real Go, not proved from fmt's source: count such statements apart). THE CARD IS WHAT COUNTS. Prove the row's statement (the work); the ties are given (YthfepelpmalckaaGreatDoorTie.lean); close each card by the builder's one call (the guide's Derived/Test/ToyasCard.lean, 'card_holds'). Laid BY PROGRAM, IN A SANDBOX (cutbox-door.mjs). By AI agents, Wed Nov 11 2026. No macro, syntax, notation, axiom, sorry.
-/
import Derived.Test.YthfepelpmalckaaGreatDoorRows
import GoSem.ClaimSeven
namespace Go.Proofs.YthfepelpmalckaaGreatDoor
namespace Rows

/-- THE TIED CARD OF 'cardgamelaw40.ResolveNothing'. -/
def resolveNothingCard : Claim7 := { stood := { row := resolveNothingRow, standIns := [], harness := (true, "8fab4aa709feedbf8d171c1f628b821fd7f4d844ff9b5e2048fe37730bd20356"), looks := false }, kinds := [], alts := [], laidByText := true, laidKinds := [.widerDeep], laidTests := true, laidLooks := .later }
def ResolveNothingCardSaid : Prop := Claim7.holds Tryz.pinned (.plain (OpenSpec.ofChange resolveNothingSpec)) resolveNothingCard

/-- THE SECOND FORM's CARD OF 'cardgamelaw40.ResolveNothing'. -/
def resolveNothingUptoCard : Claim7 := { stood := { row := resolveNothingUptoRow, standIns := [], harness := (true, "8fab4aa709feedbf8d171c1f628b821fd7f4d844ff9b5e2048fe37730bd20356"), looks := false }, kinds := [], alts := [], laidByText := true, laidKinds := [.widerDeep], laidTests := true, laidLooks := .later }
def ResolveNothingUptoCardSaid : Prop := Claim7.holds Tryz.pinned (.plain (OpenSpec.upto resolveNothingSpec)) resolveNothingUptoCard
end Rows
end Go.Proofs.YthfepelpmalckaaGreatDoor
