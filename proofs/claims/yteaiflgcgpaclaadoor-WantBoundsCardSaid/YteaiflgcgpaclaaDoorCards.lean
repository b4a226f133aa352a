/-
  DERIVED. GIVEN WITH THE SEED: THE CARDS: each row of YteaiflgcgpaclaaDoorRows.lean that lists a variable, with what it lists TIED to the program's text (the seventh form; the later family's looks); each row that meets fmt, with fmt's text TOLD by the authors' own Lean function (tested against real Go, not proved from fmt's source: count such statements apart). THE CARD IS WHAT COUNTS. Prove the row's statement (the work); the ties are given (YteaiflgcgpaclaaDoorTie.lean); close each card by the builder's one call (the guide's Derived/Test/ToyasCard.lean, 'card_holds'). Laid BY PROGRAM, IN A SANDBOX (cutbox-door.mjs). By AI agents, Wed Nov 11 2026. No macro, syntax, notation, axiom, sorry.
-/
import Derived.Test.YteaiflgcgpaclaaDoorRows
import GoSem.ClaimSeven
namespace Go.Proofs.YteaiflgcgpaclaaDoor
namespace Rows

/-- THE TIED CARD OF 'deckhandlaw15.WantBounds'. -/
def wantBoundsCard : Claim7 := { stood := { row := wantBoundsRow, standIns := [], harness := (true, "ab7e2d89b40fca0f65c00463929746a1a0f39569941a9801f93a1b34d8d1b3c5"), looks := false }, kinds := [], alts := [], laidByText := true, laidKinds := [.data], laidTests := true, laidLooks := .later }
def WantBoundsCardSaid : Prop := Claim7.holds Tryd.pinned (.plain (OpenSpec.ofChange wantBoundsSpec)) wantBoundsCard

/-- THE SECOND FORM's CARD OF 'deckhandlaw15.WantBounds'. -/
def wantBoundsUptoCard : Claim7 := { stood := { row := wantBoundsUptoRow, standIns := [], harness := (true, "ab7e2d89b40fca0f65c00463929746a1a0f39569941a9801f93a1b34d8d1b3c5"), looks := false }, kinds := [], alts := [], laidByText := true, laidKinds := [.data], laidTests := true, laidLooks := .later }
def WantBoundsUptoCardSaid : Prop := Claim7.holds Tryd.pinned (.plain (OpenSpec.upto wantBoundsSpec)) wantBoundsUptoCard
end Rows
end Go.Proofs.YteaiflgcgpaclaaDoor
