/-
  DERIVED. GIVEN WITH THE SEED: THE CARDS: each row of YteaiflgcgpaclaaGreatDoorRows.lean that lists a variable, with what it lists TIED to the program's text (the seventh form; the later family's looks); each row that meets fmt, with fmt's text TOLD by the authors' own Lean function (tested against real Go, not proved from fmt's source: count such statements apart). THE CARD IS WHAT COUNTS. Prove the row's statement (the work); the ties are given (YteaiflgcgpaclaaGreatDoorTie.lean); close each card by the builder's one call (the guide's Derived/Test/ToyasCard.lean, 'card_holds'). Laid BY PROGRAM, IN A SANDBOX (cutbox-door.mjs). By AI agents, Wed Nov 11 2026. No macro, syntax, notation, axiom, sorry.
-/
import Derived.Test.YteaiflgcgpaclaaGreatDoorRows
import GoSem.ClaimSeven
namespace Go.Proofs.YteaiflgcgpaclaaGreatDoor
namespace Rows

/-- THE TIED CARD OF 'deckhandlaw15.WantChecks'. -/
def wantChecksCard : Claim7 := { stood := { row := wantChecksRow, standIns := [], harness := (true, "4f9251d54ae8b43513ded1dc82fb1ab0b17c30350099c70c9c5fe157696778c4"), looks := false }, kinds := [], alts := [], laidByText := true, laidKinds := [.data], laidTests := true, laidLooks := .later }
def WantChecksCardSaid : Prop := Claim7.holds Tryz.pinned (.plain (OpenSpec.ofChange wantChecksSpec)) wantChecksCard

/-- THE TIED CARD OF 'deckhandlaw15.WantLocks'. -/
def wantLocksCard : Claim7 := { stood := { row := wantLocksRow, standIns := [], harness := (true, "4f9251d54ae8b43513ded1dc82fb1ab0b17c30350099c70c9c5fe157696778c4"), looks := false }, kinds := [], alts := [], laidByText := true, laidKinds := [.data], laidTests := true, laidLooks := .later }
def WantLocksCardSaid : Prop := Claim7.holds Tryz.pinned (.plain (OpenSpec.ofChange wantLocksSpec)) wantLocksCard

/-- THE TIED CARD OF 'deckhandlaw16.ModelNew'. -/
def modelNewCard : Claim7 := { stood := { row := modelNewRow, standIns := [], harness := (true, "4f9251d54ae8b43513ded1dc82fb1ab0b17c30350099c70c9c5fe157696778c4"), looks := false }, kinds := [], alts := [], laidByText := true, laidKinds := [.data], laidTests := true, laidLooks := .later }
def ModelNewCardSaid : Prop := Claim7.holds Tryz.pinned (.plain (OpenSpec.ofChange modelNewSpec)) modelNewCard

/-- THE TIED CARD OF 'deckhandlaw16.ModelDoes'. -/
def modelDoesCard : Claim7 := { stood := { row := modelDoesRow, standIns := [], harness := (true, "4f9251d54ae8b43513ded1dc82fb1ab0b17c30350099c70c9c5fe157696778c4"), looks := false }, kinds := [], alts := [], laidByText := true, laidKinds := [.data], laidTests := true, laidLooks := .later }
def ModelDoesCardSaid : Prop := Claim7.holds Tryz.pinned (.plain (OpenSpec.ofChange modelDoesSpec)) modelDoesCard

/-- THE TIED CARD OF 'deckhandlaw16.ModelStays'. -/
def modelStaysCard : Claim7 := { stood := { row := modelStaysRow, standIns := [], harness := (true, "4f9251d54ae8b43513ded1dc82fb1ab0b17c30350099c70c9c5fe157696778c4"), looks := false }, kinds := [], alts := [], laidByText := true, laidKinds := [.data], laidTests := true, laidLooks := .later }
def ModelStaysCardSaid : Prop := Claim7.holds Tryz.pinned (.plain (OpenSpec.ofChange modelStaysSpec)) modelStaysCard

/-- THE TIED CARD OF 'deckhandlaw16.ModelApart'. -/
def modelApartCard : Claim7 := { stood := { row := modelApartRow, standIns := [], harness := (true, "4f9251d54ae8b43513ded1dc82fb1ab0b17c30350099c70c9c5fe157696778c4"), looks := false }, kinds := [], alts := [], laidByText := true, laidKinds := [.data], laidTests := true, laidLooks := .later }
def ModelApartCardSaid : Prop := Claim7.holds Tryz.pinned (.plain (OpenSpec.ofChange modelApartSpec)) modelApartCard

/-- THE TIED CARD OF 'deckhandlaw16.ModelRuns'. -/
def modelRunsCard : Claim7 := { stood := { row := modelRunsRow, standIns := [], harness := (true, "4f9251d54ae8b43513ded1dc82fb1ab0b17c30350099c70c9c5fe157696778c4"), looks := false }, kinds := [], alts := [], laidByText := true, laidKinds := [.data], laidTests := true, laidLooks := .later }
def ModelRunsCardSaid : Prop := Claim7.holds Tryz.pinned (.plain (OpenSpec.ofChange modelRunsSpec)) modelRunsCard

/-- THE TIED CARD OF 'deckhandlaw28.ReplyWrites'. -/
def replyWritesCard : Claim7 := { stood := { row := replyWritesRow, standIns := [], harness := (true, "4f9251d54ae8b43513ded1dc82fb1ab0b17c30350099c70c9c5fe157696778c4"), looks := false }, kinds := [], alts := [], laidByText := true, laidKinds := [.data], laidTests := true, laidLooks := .later }
def ReplyWritesCardSaid : Prop := Claim7.holds Tryz.pinned (.plain (OpenSpec.ofChange replyWritesSpec)) replyWritesCard

/-- THE TIED CARD OF 'deckhandlaw23.LinTells'. -/
def linTellsCard : Claim7 := { stood := { row := linTellsRow, standIns := [], harness := (true, "4f9251d54ae8b43513ded1dc82fb1ab0b17c30350099c70c9c5fe157696778c4"), looks := false }, kinds := [], alts := [], laidByText := true, laidKinds := [.data], laidTests := true, laidLooks := .later }
def LinTellsCardSaid : Prop := Claim7.holds Tryz.pinned (.plain (OpenSpec.ofChange linTellsSpec)) linTellsCard

/-- THE TIED CARD OF 'deckhandlaw23.LinFinds'. -/
def linFindsCard : Claim7 := { stood := { row := linFindsRow, standIns := [], harness := (true, "4f9251d54ae8b43513ded1dc82fb1ab0b17c30350099c70c9c5fe157696778c4"), looks := false }, kinds := [], alts := [], laidByText := true, laidKinds := [.data], laidTests := true, laidLooks := .later }
def LinFindsCardSaid : Prop := Claim7.holds Tryz.pinned (.plain (OpenSpec.ofChange linFindsSpec)) linFindsCard

/-- THE SECOND FORM's CARD OF 'deckhandlaw15.WantChecks'. -/
def wantChecksUptoCard : Claim7 := { stood := { row := wantChecksUptoRow, standIns := [], harness := (true, "4f9251d54ae8b43513ded1dc82fb1ab0b17c30350099c70c9c5fe157696778c4"), looks := false }, kinds := [], alts := [], laidByText := true, laidKinds := [.data], laidTests := true, laidLooks := .later }
def WantChecksUptoCardSaid : Prop := Claim7.holds Tryz.pinned (.plain (OpenSpec.upto wantChecksSpec)) wantChecksUptoCard

/-- THE SECOND FORM's CARD OF 'deckhandlaw15.WantLocks'. -/
def wantLocksUptoCard : Claim7 := { stood := { row := wantLocksUptoRow, standIns := [], harness := (true, "4f9251d54ae8b43513ded1dc82fb1ab0b17c30350099c70c9c5fe157696778c4"), looks := false }, kinds := [], alts := [], laidByText := true, laidKinds := [.data], laidTests := true, laidLooks := .later }
def WantLocksUptoCardSaid : Prop := Claim7.holds Tryz.pinned (.plain (OpenSpec.upto wantLocksSpec)) wantLocksUptoCard

/-- THE SECOND FORM's CARD OF 'deckhandlaw16.ModelNew'. -/
def modelNewUptoCard : Claim7 := { stood := { row := modelNewUptoRow, standIns := [], harness := (true, "4f9251d54ae8b43513ded1dc82fb1ab0b17c30350099c70c9c5fe157696778c4"), looks := false }, kinds := [], alts := [], laidByText := true, laidKinds := [.data], laidTests := true, laidLooks := .later }
def ModelNewUptoCardSaid : Prop := Claim7.holds Tryz.pinned (.plain (OpenSpec.upto modelNewSpec)) modelNewUptoCard

/-- THE SECOND FORM's CARD OF 'deckhandlaw16.ModelDoes'. -/
def modelDoesUptoCard : Claim7 := { stood := { row := modelDoesUptoRow, standIns := [], harness := (true, "4f9251d54ae8b43513ded1dc82fb1ab0b17c30350099c70c9c5fe157696778c4"), looks := false }, kinds := [], alts := [], laidByText := true, laidKinds := [.data], laidTests := true, laidLooks := .later }
def ModelDoesUptoCardSaid : Prop := Claim7.holds Tryz.pinned (.plain (OpenSpec.upto modelDoesSpec)) modelDoesUptoCard

/-- THE SECOND FORM's CARD OF 'deckhandlaw16.ModelStays'. -/
def modelStaysUptoCard : Claim7 := { stood := { row := modelStaysUptoRow, standIns := [], harness := (true, "4f9251d54ae8b43513ded1dc82fb1ab0b17c30350099c70c9c5fe157696778c4"), looks := false }, kinds := [], alts := [], laidByText := true, laidKinds := [.data], laidTests := true, laidLooks := .later }
def ModelStaysUptoCardSaid : Prop := Claim7.holds Tryz.pinned (.plain (OpenSpec.upto modelStaysSpec)) modelStaysUptoCard

/-- THE SECOND FORM's CARD OF 'deckhandlaw16.ModelApart'. -/
def modelApartUptoCard : Claim7 := { stood := { row := modelApartUptoRow, standIns := [], harness := (true, "4f9251d54ae8b43513ded1dc82fb1ab0b17c30350099c70c9c5fe157696778c4"), looks := false }, kinds := [], alts := [], laidByText := true, laidKinds := [.data], laidTests := true, laidLooks := .later }
def ModelApartUptoCardSaid : Prop := Claim7.holds Tryz.pinned (.plain (OpenSpec.upto modelApartSpec)) modelApartUptoCard

/-- THE SECOND FORM's CARD OF 'deckhandlaw16.ModelRuns'. -/
def modelRunsUptoCard : Claim7 := { stood := { row := modelRunsUptoRow, standIns := [], harness := (true, "4f9251d54ae8b43513ded1dc82fb1ab0b17c30350099c70c9c5fe157696778c4"), looks := false }, kinds := [], alts := [], laidByText := true, laidKinds := [.data], laidTests := true, laidLooks := .later }
def ModelRunsUptoCardSaid : Prop := Claim7.holds Tryz.pinned (.plain (OpenSpec.upto modelRunsSpec)) modelRunsUptoCard

/-- THE SECOND FORM's CARD OF 'deckhandlaw28.ReplyWrites'. -/
def replyWritesUptoCard : Claim7 := { stood := { row := replyWritesUptoRow, standIns := [], harness := (true, "4f9251d54ae8b43513ded1dc82fb1ab0b17c30350099c70c9c5fe157696778c4"), looks := false }, kinds := [], alts := [], laidByText := true, laidKinds := [.data], laidTests := true, laidLooks := .later }
def ReplyWritesUptoCardSaid : Prop := Claim7.holds Tryz.pinned (.plain (OpenSpec.upto replyWritesSpec)) replyWritesUptoCard

/-- THE SECOND FORM's CARD OF 'deckhandlaw23.LinTells'. -/
def linTellsUptoCard : Claim7 := { stood := { row := linTellsUptoRow, standIns := [], harness := (true, "4f9251d54ae8b43513ded1dc82fb1ab0b17c30350099c70c9c5fe157696778c4"), looks := false }, kinds := [], alts := [], laidByText := true, laidKinds := [.data], laidTests := true, laidLooks := .later }
def LinTellsUptoCardSaid : Prop := Claim7.holds Tryz.pinned (.plain (OpenSpec.upto linTellsSpec)) linTellsUptoCard

/-- THE SECOND FORM's CARD OF 'deckhandlaw23.LinFinds'. -/
def linFindsUptoCard : Claim7 := { stood := { row := linFindsUptoRow, standIns := [], harness := (true, "4f9251d54ae8b43513ded1dc82fb1ab0b17c30350099c70c9c5fe157696778c4"), looks := false }, kinds := [], alts := [], laidByText := true, laidKinds := [.data], laidTests := true, laidLooks := .later }
def LinFindsUptoCardSaid : Prop := Claim7.holds Tryz.pinned (.plain (OpenSpec.upto linFindsSpec)) linFindsUptoCard
end Rows
end Go.Proofs.YteaiflgcgpaclaaGreatDoor
