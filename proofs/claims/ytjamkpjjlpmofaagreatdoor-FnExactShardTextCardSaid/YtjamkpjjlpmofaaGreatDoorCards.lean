/-
  DERIVED. GIVEN WITH THE SEED: THE CARDS: each row of YtjamkpjjlpmofaaGreatDoorRows.lean that lists a variable, with what it lists TIED to the program's text (the seventh form; the later family's looks); each row that meets fmt, with fmt's text TOLD by the authors' own Lean function (tested against real Go, not proved from fmt's source: count such statements apart). THE CARD IS WHAT COUNTS. Prove the row's statement (the work); the ties are given (YtjamkpjjlpmofaaGreatDoorTie.lean); close each card by the builder's one call (the guide's Derived/Test/ToyasCard.lean, 'card_holds'). Laid BY PROGRAM, IN A SANDBOX (cutbox-door.mjs). By AI agents, Wed Nov 11 2026. No macro, syntax, notation, axiom, sorry.
-/
import Derived.Test.YtjamkpjjlpmofaaGreatDoorRows
import GoSem.ClaimSeven
namespace Go.Proofs.YtjamkpjjlpmofaaGreatDoor
namespace Rows

/-- THE TIED CARD OF 'laws.FnExactShardText'. -/
def fnExactShardTextCard : Claim7 := { stood := { row := fnExactShardTextRow, standIns := [], harness := (true, "fec7a9893d60c27e5e56b43a565f5fdf54d4927b98b5d33dc698f69e31367ce2"), looks := false }, kinds := [], alts := [], laidByText := true, laidKinds := [.data, .data, .data], laidTests := true, laidLooks := .later }
def FnExactShardTextCardSaid : Prop := Claim7.holds Tryz.pinned (.plain (OpenSpec.ofChange fnExactShardTextSpec)) fnExactShardTextCard

/-- THE TIED CARD OF 'laws.FnVotes'. -/
def fnVotesCard : Claim7 := { stood := { row := fnVotesRow, standIns := [], harness := (true, "fec7a9893d60c27e5e56b43a565f5fdf54d4927b98b5d33dc698f69e31367ce2"), looks := false }, kinds := [], alts := [], laidByText := true, laidKinds := [.data, .data, .data], laidTests := true, laidLooks := .later }
def FnVotesCardSaid : Prop := Claim7.holds Tryz.pinned (.plain (OpenSpec.ofChange fnVotesSpec)) fnVotesCard

/-- THE TIED CARD OF 'laws.FnDecides'. -/
def fnDecidesCard : Claim7 := { stood := { row := fnDecidesRow, standIns := [], harness := (true, "fec7a9893d60c27e5e56b43a565f5fdf54d4927b98b5d33dc698f69e31367ce2"), looks := false }, kinds := [], alts := [], laidByText := true, laidKinds := [.data, .data, .data], laidTests := true, laidLooks := .later }
def FnDecidesCardSaid : Prop := Claim7.holds Tryz.pinned (.plain (OpenSpec.ofChange fnDecidesSpec)) fnDecidesCard

/-- THE SECOND FORM's CARD OF 'laws.FnExactShardText'. -/
def fnExactShardTextUptoCard : Claim7 := { stood := { row := fnExactShardTextUptoRow, standIns := [], harness := (true, "fec7a9893d60c27e5e56b43a565f5fdf54d4927b98b5d33dc698f69e31367ce2"), looks := false }, kinds := [], alts := [], laidByText := true, laidKinds := [.data, .data, .data], laidTests := true, laidLooks := .later }
def FnExactShardTextUptoCardSaid : Prop := Claim7.holds Tryz.pinned (.plain (OpenSpec.upto fnExactShardTextSpec)) fnExactShardTextUptoCard

/-- THE SECOND FORM's CARD OF 'laws.FnVotes'. -/
def fnVotesUptoCard : Claim7 := { stood := { row := fnVotesUptoRow, standIns := [], harness := (true, "fec7a9893d60c27e5e56b43a565f5fdf54d4927b98b5d33dc698f69e31367ce2"), looks := false }, kinds := [], alts := [], laidByText := true, laidKinds := [.data, .data, .data], laidTests := true, laidLooks := .later }
def FnVotesUptoCardSaid : Prop := Claim7.holds Tryz.pinned (.plain (OpenSpec.upto fnVotesSpec)) fnVotesUptoCard

/-- THE SECOND FORM's CARD OF 'laws.FnDecides'. -/
def fnDecidesUptoCard : Claim7 := { stood := { row := fnDecidesUptoRow, standIns := [], harness := (true, "fec7a9893d60c27e5e56b43a565f5fdf54d4927b98b5d33dc698f69e31367ce2"), looks := false }, kinds := [], alts := [], laidByText := true, laidKinds := [.data, .data, .data], laidTests := true, laidLooks := .later }
def FnDecidesUptoCardSaid : Prop := Claim7.holds Tryz.pinned (.plain (OpenSpec.upto fnDecidesSpec)) fnDecidesUptoCard
end Rows
end Go.Proofs.YtjamkpjjlpmofaaGreatDoor
