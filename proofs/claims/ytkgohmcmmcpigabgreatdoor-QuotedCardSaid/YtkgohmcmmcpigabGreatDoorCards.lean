/-
  DERIVED. GIVEN WITH THE SEED: THE CARDS: each row of YtkgohmcmmcpigabGreatDoorRows.lean that lists a variable, with what it lists TIED to the program's text (the seventh form; the later family's looks); each row that meets fmt, with fmt's text TOLD by the authors' own Lean function (tested against real Go, not proved from fmt's source: count such statements apart). THE CARD IS WHAT COUNTS. Prove the row's statement (the work); the ties are given (YtkgohmcmmcpigabGreatDoorTie.lean); close each card by the builder's one call (the guide's Derived/Test/ToyasCard.lean, 'card_holds'). Laid BY PROGRAM, IN A SANDBOX (cutbox-door.mjs). By AI agents, Wed Nov 11 2026. No macro, syntax, notation, axiom, sorry.
-/
import Derived.Test.YtkgohmcmmcpigabGreatDoorRows
import GoSem.ClaimSeven
namespace Go.Proofs.YtkgohmcmmcpigabGreatDoor
namespace Rows

/-- THE TIED CARD OF 'posixkeep.Folded'. -/
def foldedCard : Claim7 := { stood := { row := foldedRow, standIns := [], harness := (true, "d583efe4dc461fdc2b899edb6c9a0e731ce8ca12738fbc3df4d28a0f6e554f2f"), looks := true }, kinds := [], alts := [], goes := true, laidByText := true, laidKinds := [.handle, .data], laidTests := true, laidLooks := .later }
def FoldedCardSaid : Prop := Claim7.holds Tryz.pinned (.plain (OpenSpec.ofChange foldedSpec)) foldedCard

/-- THE TIED CARD OF 'posixkeep.Quoted'. -/
def quotedCard : Claim7 := { stood := { row := quotedRow, standIns := [], harness := (true, "d583efe4dc461fdc2b899edb6c9a0e731ce8ca12738fbc3df4d28a0f6e554f2f"), looks := true }, kinds := [], alts := [], goes := true, laidByText := true, laidKinds := [.handle, .data], laidTests := true, laidLooks := .later }
def QuotedCardSaid : Prop := Claim7.holds Tryz.pinned (.plain (OpenSpec.ofChange quotedSpec)) quotedCard

/-- THE TIED CARD OF 'posixlaw.Lists'. -/
def listsCard : Claim7 := { stood := { row := listsRow, standIns := [], harness := (true, "d583efe4dc461fdc2b899edb6c9a0e731ce8ca12738fbc3df4d28a0f6e554f2f"), looks := true }, kinds := [], alts := [], goes := true, laidByText := true, laidKinds := [.handle, .data], laidTests := true, laidLooks := .later }
def ListsCardSaid : Prop := Claim7.holds Tryz.pinned (.plain (OpenSpec.ofChange listsSpec)) listsCard

/-- THE TIED CARD OF 'posixlaw.Ranges'. -/
def rangesCard : Claim7 := { stood := { row := rangesRow, standIns := [], harness := (true, "d583efe4dc461fdc2b899edb6c9a0e731ce8ca12738fbc3df4d28a0f6e554f2f"), looks := true }, kinds := [], alts := [], goes := true, laidByText := true, laidKinds := [.handle, .data], laidTests := true, laidLooks := .later }
def RangesCardSaid : Prop := Claim7.holds Tryz.pinned (.plain (OpenSpec.ofChange rangesSpec)) rangesCard

/-- THE TIED CARD OF 'posixlaw.Puts'. -/
def putsCard : Claim7 := { stood := { row := putsRow, standIns := [], harness := (true, "d583efe4dc461fdc2b899edb6c9a0e731ce8ca12738fbc3df4d28a0f6e554f2f"), looks := true }, kinds := [], alts := [], goes := true, laidByText := true, laidKinds := [.handle, .data], laidTests := true, laidLooks := .later }
def PutsCardSaid : Prop := Claim7.holds Tryz.pinned (.plain (OpenSpec.ofChange putsSpec)) putsCard

/-- THE TIED CARD OF 'posixlaw.Replaces'. -/
def replacesCard : Claim7 := { stood := { row := replacesRow, standIns := [], harness := (true, "d583efe4dc461fdc2b899edb6c9a0e731ce8ca12738fbc3df4d28a0f6e554f2f"), looks := true }, kinds := [], alts := [], goes := true, laidByText := true, laidKinds := [.handle, .data], laidTests := true, laidLooks := .later }
def ReplacesCardSaid : Prop := Claim7.holds Tryz.pinned (.plain (OpenSpec.ofChange replacesSpec)) replacesCard

/-- THE TIED CARD OF 'posixkeep.Joined'. -/
def joinedCard : Claim7 := { stood := { row := joinedRow, standIns := [], harness := (true, "d583efe4dc461fdc2b899edb6c9a0e731ce8ca12738fbc3df4d28a0f6e554f2f"), looks := true }, kinds := [], alts := [], goes := true, laidByText := true, laidKinds := [.handle, .data], laidTests := true, laidLooks := .later }
def JoinedCardSaid : Prop := Claim7.holds Tryz.pinned (.plain (OpenSpec.ofChange joinedSpec)) joinedCard

/-- THE TIED CARD OF 'posixlaw.Manys'. -/
def manysCard : Claim7 := { stood := { row := manysRow, standIns := [], harness := (true, "d583efe4dc461fdc2b899edb6c9a0e731ce8ca12738fbc3df4d28a0f6e554f2f"), looks := true }, kinds := [], alts := [], goes := true, laidByText := true, laidKinds := [.handle, .data], laidTests := true, laidLooks := .later }
def ManysCardSaid : Prop := Claim7.holds Tryz.pinned (.plain (OpenSpec.ofChange manysSpec)) manysCard
end Rows
end Go.Proofs.YtkgohmcmmcpigabGreatDoor
