/-
  DERIVED. GIVEN WITH THE SEED: THE CARDS: each row of YtkgohmcmmcpigaaGreatDoorRows.lean that lists a variable, with what it lists TIED to the program's text (the seventh form; the later family's looks); each row that meets fmt, with fmt's text TOLD by the authors' own Lean function (tested against real Go, not proved from fmt's source: count such statements apart). THE CARD IS WHAT COUNTS. Prove the row's statement (the work); the ties are given (YtkgohmcmmcpigaaGreatDoorTie.lean); close each card by the builder's one call (the guide's Derived/Test/ToyasCard.lean, 'card_holds'). Laid BY PROGRAM, IN A SANDBOX (cutbox-door.mjs). By AI agents, Wed Nov 11 2026. No macro, syntax, notation, axiom, sorry.
-/
import Derived.Test.YtkgohmcmmcpigaaGreatDoorRows
import GoSem.ClaimSeven
namespace Go.Proofs.YtkgohmcmmcpigaaGreatDoor
namespace Rows

/-- THE TIED CARD OF 'posixlaw.Compiles'. -/
def compilesCard : Claim7 := { stood := { row := compilesRow, standIns := [], harness := (true, "a405e6fad21a50082e99e759f5e7d4b2cbf7c58d6408ba3c8bca7f721a6f862c"), looks := true }, kinds := [], alts := [], goes := true, laidByText := true, laidKinds := [.handle, .data], laidTests := true, laidLooks := .later }
def CompilesCardSaid : Prop := Claim7.holds Tryz.pinned (.plain (OpenSpec.ofChange compilesSpec)) compilesCard

/-- THE TIED CARD OF 'posixlaw.Matches'. -/
def matchesCard : Claim7 := { stood := { row := matchesRow, standIns := [], harness := (true, "a405e6fad21a50082e99e759f5e7d4b2cbf7c58d6408ba3c8bca7f721a6f862c"), looks := true }, kinds := [], alts := [], goes := true, laidByText := true, laidKinds := [.handle, .data], laidTests := true, laidLooks := .later }
def MatchesCardSaid : Prop := Claim7.holds Tryz.pinned (.plain (OpenSpec.ofChange matchesSpec)) matchesCard

/-- THE TIED CARD OF 'posixkeep.Copied'. -/
def copiedCard : Claim7 := { stood := { row := copiedRow, standIns := [], harness := (true, "a405e6fad21a50082e99e759f5e7d4b2cbf7c58d6408ba3c8bca7f721a6f862c"), looks := true }, kinds := [], alts := [], goes := true, laidByText := true, laidKinds := [.handle, .data], laidTests := true, laidLooks := .later }
def CopiedCardSaid : Prop := Claim7.holds Tryz.pinned (.plain (OpenSpec.ofChange copiedSpec)) copiedCard

/-- THE TIED CARD OF 'posixkeep.Together'. -/
def togetherCard : Claim7 := { stood := { row := togetherRow, standIns := [], harness := (true, "a405e6fad21a50082e99e759f5e7d4b2cbf7c58d6408ba3c8bca7f721a6f862c"), looks := true }, kinds := [], alts := [], goes := true, laidByText := true, laidKinds := [.handle, .data], laidTests := true, laidLooks := .later }
def TogetherCardSaid : Prop := Claim7.holds Tryz.pinned (.plain (OpenSpec.ofChange togetherSpec)) togetherCard

/-- THE TIED CARD OF 'posixkeep.Known'. -/
def knownCard : Claim7 := { stood := { row := knownRow, standIns := [], harness := (true, "a405e6fad21a50082e99e759f5e7d4b2cbf7c58d6408ba3c8bca7f721a6f862c"), looks := true }, kinds := [], alts := [], goes := true, laidByText := true, laidKinds := [.handle, .data], laidTests := true, laidLooks := .later }
def KnownCardSaid : Prop := Claim7.holds Tryz.pinned (.plain (OpenSpec.ofChange knownSpec)) knownCard

/-- THE TIED CARD OF 'posixlaw.All'. -/
def allCard : Claim7 := { stood := { row := allRow, standIns := [], harness := (true, "a405e6fad21a50082e99e759f5e7d4b2cbf7c58d6408ba3c8bca7f721a6f862c"), looks := true }, kinds := [], alts := [], goes := true, laidByText := true, laidKinds := [.handle, .data], laidTests := true, laidLooks := .later }
def AllCardSaid : Prop := Claim7.holds Tryz.pinned (.plain (OpenSpec.ofChange allSpec)) allCard

/-- THE TIED CARD OF 'posixlaw.Finds'. -/
def findsCard : Claim7 := { stood := { row := findsRow, standIns := [], harness := (true, "a405e6fad21a50082e99e759f5e7d4b2cbf7c58d6408ba3c8bca7f721a6f862c"), looks := true }, kinds := [], alts := [], goes := true, laidByText := true, laidKinds := [.handle, .data], laidTests := true, laidLooks := .later }
def FindsCardSaid : Prop := Claim7.holds Tryz.pinned (.plain (OpenSpec.ofChange findsSpec)) findsCard

/-- THE TIED CARD OF 'posixkeep.Branched'. -/
def branchedCard : Claim7 := { stood := { row := branchedRow, standIns := [], harness := (true, "a405e6fad21a50082e99e759f5e7d4b2cbf7c58d6408ba3c8bca7f721a6f862c"), looks := true }, kinds := [], alts := [], goes := true, laidByText := true, laidKinds := [.handle, .data], laidTests := true, laidLooks := .later }
def BranchedCardSaid : Prop := Claim7.holds Tryz.pinned (.plain (OpenSpec.ofChange branchedSpec)) branchedCard

/-- THE TIED CARD OF 'posixkeep.Longest'. -/
def longestCard : Claim7 := { stood := { row := longestRow, standIns := [], harness := (true, "a405e6fad21a50082e99e759f5e7d4b2cbf7c58d6408ba3c8bca7f721a6f862c"), looks := true }, kinds := [], alts := [], goes := true, laidByText := true, laidKinds := [.handle, .data], laidTests := true, laidLooks := .later }
def LongestCardSaid : Prop := Claim7.holds Tryz.pinned (.plain (OpenSpec.ofChange longestSpec)) longestCard

/-- THE TIED CARD OF 'posixkeep.Within'. -/
def withinCard : Claim7 := { stood := { row := withinRow, standIns := [], harness := (true, "a405e6fad21a50082e99e759f5e7d4b2cbf7c58d6408ba3c8bca7f721a6f862c"), looks := true }, kinds := [], alts := [], goes := true, laidByText := true, laidKinds := [.handle, .data], laidTests := true, laidLooks := .later }
def WithinCardSaid : Prop := Claim7.holds Tryz.pinned (.plain (OpenSpec.ofChange withinSpec)) withinCard

/-- THE SECOND FORM's CARD OF 'posixlaw.Compiles'. -/
def compilesUptoCard : Claim7 := { stood := { row := compilesUptoRow, standIns := [], harness := (true, "a405e6fad21a50082e99e759f5e7d4b2cbf7c58d6408ba3c8bca7f721a6f862c"), looks := true }, kinds := [], alts := [], goes := true, laidByText := true, laidKinds := [.handle, .data], laidTests := true, laidLooks := .later }
def CompilesUptoCardSaid : Prop := Claim7.holds Tryz.pinned (.plain (OpenSpec.upto compilesSpec)) compilesUptoCard
end Rows
end Go.Proofs.YtkgohmcmmcpigaaGreatDoor
