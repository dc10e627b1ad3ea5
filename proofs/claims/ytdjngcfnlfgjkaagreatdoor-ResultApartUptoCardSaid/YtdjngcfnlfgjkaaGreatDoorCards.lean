/-
  DERIVED. GIVEN WITH THE SEED: THE CARDS: each row of YtdjngcfnlfgjkaaGreatDoorRows.lean that lists a variable, with what it lists TIED to the program's text (the seventh form; the later family's looks); each row that meets fmt, with fmt's text TOLD by the authors' own Lean function (tested against real Go, not proved from fmt's source: count such statements apart). THE CARD IS WHAT COUNTS. Prove the row's statement (the work); the ties are given (YtdjngcfnlfgjkaaGreatDoorTie.lean); close each card by the builder's one call (the guide's Derived/Test/ToyasCard.lean, 'card_holds'). Laid BY PROGRAM, IN A SANDBOX (cutbox-door.mjs). By AI agents, Wed Nov 11 2026. No macro, syntax, notation, axiom, sorry.
-/
import Derived.Test.YtdjngcfnlfgjkaaGreatDoorRows
import GoSem.ClaimSeven
namespace Go.Proofs.YtdjngcfnlfgjkaaGreatDoor
namespace Rows

/-- THE TIED CARD OF 'cruxlaw07.ResultRounds'. -/
def resultRoundsCard : Claim7 := { stood := { row := resultRoundsRow, standIns := [], harness := (true, "2521bb4267ddac6b5b7ca3034e649f505c4748502c7a1db9152ed47de72a9609"), looks := false }, kinds := [], alts := [], laidByText := true, laidKinds := [.data, .data, .data], laidTests := true, laidLooks := .later }
def ResultRoundsCardSaid : Prop := Claim7.holds Tryz.pinned (.plain (OpenSpec.ofChange resultRoundsSpec)) resultRoundsCard

/-- THE TIED CARD OF 'cruxlaw07.ResultDecides'. -/
def resultDecidesCard : Claim7 := { stood := { row := resultDecidesRow, standIns := [], harness := (true, "2521bb4267ddac6b5b7ca3034e649f505c4748502c7a1db9152ed47de72a9609"), looks := false }, kinds := [], alts := [], laidByText := true, laidKinds := [.data, .data, .data], laidTests := true, laidLooks := .later }
def ResultDecidesCardSaid : Prop := Claim7.holds Tryz.pinned (.plain (OpenSpec.ofChange resultDecidesSpec)) resultDecidesCard

/-- THE TIED CARD OF 'cruxlaw07.ResultOpens'. -/
def resultOpensCard : Claim7 := { stood := { row := resultOpensRow, standIns := [], harness := (true, "2521bb4267ddac6b5b7ca3034e649f505c4748502c7a1db9152ed47de72a9609"), looks := false }, kinds := [], alts := [], laidByText := true, laidKinds := [.data, .data, .data], laidTests := true, laidLooks := .later }
def ResultOpensCardSaid : Prop := Claim7.holds Tryz.pinned (.plain (OpenSpec.ofChange resultOpensSpec)) resultOpensCard

/-- THE TIED CARD OF 'cruxlaw07.ResultTitles'. -/
def resultTitlesCard : Claim7 := { stood := { row := resultTitlesRow, standIns := [], harness := (true, "2521bb4267ddac6b5b7ca3034e649f505c4748502c7a1db9152ed47de72a9609"), looks := false }, kinds := [], alts := [], laidByText := true, laidKinds := [.data, .data, .data], laidTests := true, laidLooks := .later }
def ResultTitlesCardSaid : Prop := Claim7.holds Tryz.pinned (.plain (OpenSpec.ofChange resultTitlesSpec)) resultTitlesCard

/-- THE TIED CARD OF 'cruxlaw07.ResultNarrows'. -/
def resultNarrowsCard : Claim7 := { stood := { row := resultNarrowsRow, standIns := [], harness := (true, "2521bb4267ddac6b5b7ca3034e649f505c4748502c7a1db9152ed47de72a9609"), looks := false }, kinds := [], alts := [], laidByText := true, laidKinds := [.data, .data, .data], laidTests := true, laidLooks := .later }
def ResultNarrowsCardSaid : Prop := Claim7.holds Tryz.pinned (.plain (OpenSpec.ofChange resultNarrowsSpec)) resultNarrowsCard

/-- THE TIED CARD OF 'cruxlaw07.ResultCompares'. -/
def resultComparesCard : Claim7 := { stood := { row := resultComparesRow, standIns := [], harness := (true, "2521bb4267ddac6b5b7ca3034e649f505c4748502c7a1db9152ed47de72a9609"), looks := false }, kinds := [], alts := [], laidByText := true, laidKinds := [.data, .data, .data], laidTests := true, laidLooks := .later }
def ResultComparesCardSaid : Prop := Claim7.holds Tryz.pinned (.plain (OpenSpec.ofChange resultComparesSpec)) resultComparesCard

/-- THE TIED CARD OF 'cruxlaw07.ResultOrders'. -/
def resultOrdersCard : Claim7 := { stood := { row := resultOrdersRow, standIns := [], harness := (true, "2521bb4267ddac6b5b7ca3034e649f505c4748502c7a1db9152ed47de72a9609"), looks := false }, kinds := [], alts := [], laidByText := true, laidKinds := [.data, .data, .data], laidTests := true, laidLooks := .later }
def ResultOrdersCardSaid : Prop := Claim7.holds Tryz.pinned (.plain (OpenSpec.ofChange resultOrdersSpec)) resultOrdersCard

/-- THE TIED CARD OF 'cruxlaw07.ResultEliminates'. -/
def resultEliminatesCard : Claim7 := { stood := { row := resultEliminatesRow, standIns := [], harness := (true, "2521bb4267ddac6b5b7ca3034e649f505c4748502c7a1db9152ed47de72a9609"), looks := false }, kinds := [], alts := [], laidByText := true, laidKinds := [.data, .data, .data], laidTests := true, laidLooks := .later }
def ResultEliminatesCardSaid : Prop := Claim7.holds Tryz.pinned (.plain (OpenSpec.ofChange resultEliminatesSpec)) resultEliminatesCard

/-- THE TIED CARD OF 'cruxlaw07.ResultWitnesses'. -/
def resultWitnessesCard : Claim7 := { stood := { row := resultWitnessesRow, standIns := [], harness := (true, "2521bb4267ddac6b5b7ca3034e649f505c4748502c7a1db9152ed47de72a9609"), looks := false }, kinds := [], alts := [], laidByText := true, laidKinds := [.data, .data, .data], laidTests := true, laidLooks := .later }
def ResultWitnessesCardSaid : Prop := Claim7.holds Tryz.pinned (.plain (OpenSpec.ofChange resultWitnessesSpec)) resultWitnessesCard

/-- THE TIED CARD OF 'cruxlaw07.ResultContests'. -/
def resultContestsCard : Claim7 := { stood := { row := resultContestsRow, standIns := [], harness := (true, "2521bb4267ddac6b5b7ca3034e649f505c4748502c7a1db9152ed47de72a9609"), looks := false }, kinds := [], alts := [], laidByText := true, laidKinds := [.data, .data, .data], laidTests := true, laidLooks := .later }
def ResultContestsCardSaid : Prop := Claim7.holds Tryz.pinned (.plain (OpenSpec.ofChange resultContestsSpec)) resultContestsCard

/-- THE TIED CARD OF 'cruxlaw07.ResultApart'. -/
def resultApartCard : Claim7 := { stood := { row := resultApartRow, standIns := [], harness := (true, "2521bb4267ddac6b5b7ca3034e649f505c4748502c7a1db9152ed47de72a9609"), looks := false }, kinds := [], alts := [], laidByText := true, laidKinds := [.data, .data, .data], laidTests := true, laidLooks := .later }
def ResultApartCardSaid : Prop := Claim7.holds Tryz.pinned (.plain (OpenSpec.ofChange resultApartSpec)) resultApartCard

/-- THE TIED CARD OF 'cruxlaw07.ResultEither'. -/
def resultEitherCard : Claim7 := { stood := { row := resultEitherRow, standIns := [], harness := (true, "2521bb4267ddac6b5b7ca3034e649f505c4748502c7a1db9152ed47de72a9609"), looks := false }, kinds := [], alts := [], laidByText := true, laidKinds := [.data, .data, .data], laidTests := true, laidLooks := .later }
def ResultEitherCardSaid : Prop := Claim7.holds Tryz.pinned (.plain (OpenSpec.ofChange resultEitherSpec)) resultEitherCard

/-- THE SECOND FORM's CARD OF 'cruxlaw07.ResultRounds'. -/
def resultRoundsUptoCard : Claim7 := { stood := { row := resultRoundsUptoRow, standIns := [], harness := (true, "2521bb4267ddac6b5b7ca3034e649f505c4748502c7a1db9152ed47de72a9609"), looks := false }, kinds := [], alts := [], laidByText := true, laidKinds := [.data, .data, .data], laidTests := true, laidLooks := .later }
def ResultRoundsUptoCardSaid : Prop := Claim7.holds Tryz.pinned (.plain (OpenSpec.upto resultRoundsSpec)) resultRoundsUptoCard

/-- THE SECOND FORM's CARD OF 'cruxlaw07.ResultDecides'. -/
def resultDecidesUptoCard : Claim7 := { stood := { row := resultDecidesUptoRow, standIns := [], harness := (true, "2521bb4267ddac6b5b7ca3034e649f505c4748502c7a1db9152ed47de72a9609"), looks := false }, kinds := [], alts := [], laidByText := true, laidKinds := [.data, .data, .data], laidTests := true, laidLooks := .later }
def ResultDecidesUptoCardSaid : Prop := Claim7.holds Tryz.pinned (.plain (OpenSpec.upto resultDecidesSpec)) resultDecidesUptoCard

/-- THE SECOND FORM's CARD OF 'cruxlaw07.ResultOpens'. -/
def resultOpensUptoCard : Claim7 := { stood := { row := resultOpensUptoRow, standIns := [], harness := (true, "2521bb4267ddac6b5b7ca3034e649f505c4748502c7a1db9152ed47de72a9609"), looks := false }, kinds := [], alts := [], laidByText := true, laidKinds := [.data, .data, .data], laidTests := true, laidLooks := .later }
def ResultOpensUptoCardSaid : Prop := Claim7.holds Tryz.pinned (.plain (OpenSpec.upto resultOpensSpec)) resultOpensUptoCard

/-- THE SECOND FORM's CARD OF 'cruxlaw07.ResultTitles'. -/
def resultTitlesUptoCard : Claim7 := { stood := { row := resultTitlesUptoRow, standIns := [], harness := (true, "2521bb4267ddac6b5b7ca3034e649f505c4748502c7a1db9152ed47de72a9609"), looks := false }, kinds := [], alts := [], laidByText := true, laidKinds := [.data, .data, .data], laidTests := true, laidLooks := .later }
def ResultTitlesUptoCardSaid : Prop := Claim7.holds Tryz.pinned (.plain (OpenSpec.upto resultTitlesSpec)) resultTitlesUptoCard

/-- THE SECOND FORM's CARD OF 'cruxlaw07.ResultNarrows'. -/
def resultNarrowsUptoCard : Claim7 := { stood := { row := resultNarrowsUptoRow, standIns := [], harness := (true, "2521bb4267ddac6b5b7ca3034e649f505c4748502c7a1db9152ed47de72a9609"), looks := false }, kinds := [], alts := [], laidByText := true, laidKinds := [.data, .data, .data], laidTests := true, laidLooks := .later }
def ResultNarrowsUptoCardSaid : Prop := Claim7.holds Tryz.pinned (.plain (OpenSpec.upto resultNarrowsSpec)) resultNarrowsUptoCard

/-- THE SECOND FORM's CARD OF 'cruxlaw07.ResultCompares'. -/
def resultComparesUptoCard : Claim7 := { stood := { row := resultComparesUptoRow, standIns := [], harness := (true, "2521bb4267ddac6b5b7ca3034e649f505c4748502c7a1db9152ed47de72a9609"), looks := false }, kinds := [], alts := [], laidByText := true, laidKinds := [.data, .data, .data], laidTests := true, laidLooks := .later }
def ResultComparesUptoCardSaid : Prop := Claim7.holds Tryz.pinned (.plain (OpenSpec.upto resultComparesSpec)) resultComparesUptoCard

/-- THE SECOND FORM's CARD OF 'cruxlaw07.ResultOrders'. -/
def resultOrdersUptoCard : Claim7 := { stood := { row := resultOrdersUptoRow, standIns := [], harness := (true, "2521bb4267ddac6b5b7ca3034e649f505c4748502c7a1db9152ed47de72a9609"), looks := false }, kinds := [], alts := [], laidByText := true, laidKinds := [.data, .data, .data], laidTests := true, laidLooks := .later }
def ResultOrdersUptoCardSaid : Prop := Claim7.holds Tryz.pinned (.plain (OpenSpec.upto resultOrdersSpec)) resultOrdersUptoCard

/-- THE SECOND FORM's CARD OF 'cruxlaw07.ResultEliminates'. -/
def resultEliminatesUptoCard : Claim7 := { stood := { row := resultEliminatesUptoRow, standIns := [], harness := (true, "2521bb4267ddac6b5b7ca3034e649f505c4748502c7a1db9152ed47de72a9609"), looks := false }, kinds := [], alts := [], laidByText := true, laidKinds := [.data, .data, .data], laidTests := true, laidLooks := .later }
def ResultEliminatesUptoCardSaid : Prop := Claim7.holds Tryz.pinned (.plain (OpenSpec.upto resultEliminatesSpec)) resultEliminatesUptoCard

/-- THE SECOND FORM's CARD OF 'cruxlaw07.ResultWitnesses'. -/
def resultWitnessesUptoCard : Claim7 := { stood := { row := resultWitnessesUptoRow, standIns := [], harness := (true, "2521bb4267ddac6b5b7ca3034e649f505c4748502c7a1db9152ed47de72a9609"), looks := false }, kinds := [], alts := [], laidByText := true, laidKinds := [.data, .data, .data], laidTests := true, laidLooks := .later }
def ResultWitnessesUptoCardSaid : Prop := Claim7.holds Tryz.pinned (.plain (OpenSpec.upto resultWitnessesSpec)) resultWitnessesUptoCard

/-- THE SECOND FORM's CARD OF 'cruxlaw07.ResultContests'. -/
def resultContestsUptoCard : Claim7 := { stood := { row := resultContestsUptoRow, standIns := [], harness := (true, "2521bb4267ddac6b5b7ca3034e649f505c4748502c7a1db9152ed47de72a9609"), looks := false }, kinds := [], alts := [], laidByText := true, laidKinds := [.data, .data, .data], laidTests := true, laidLooks := .later }
def ResultContestsUptoCardSaid : Prop := Claim7.holds Tryz.pinned (.plain (OpenSpec.upto resultContestsSpec)) resultContestsUptoCard

/-- THE SECOND FORM's CARD OF 'cruxlaw07.ResultApart'. -/
def resultApartUptoCard : Claim7 := { stood := { row := resultApartUptoRow, standIns := [], harness := (true, "2521bb4267ddac6b5b7ca3034e649f505c4748502c7a1db9152ed47de72a9609"), looks := false }, kinds := [], alts := [], laidByText := true, laidKinds := [.data, .data, .data], laidTests := true, laidLooks := .later }
def ResultApartUptoCardSaid : Prop := Claim7.holds Tryz.pinned (.plain (OpenSpec.upto resultApartSpec)) resultApartUptoCard

/-- THE SECOND FORM's CARD OF 'cruxlaw07.ResultEither'. -/
def resultEitherUptoCard : Claim7 := { stood := { row := resultEitherUptoRow, standIns := [], harness := (true, "2521bb4267ddac6b5b7ca3034e649f505c4748502c7a1db9152ed47de72a9609"), looks := false }, kinds := [], alts := [], laidByText := true, laidKinds := [.data, .data, .data], laidTests := true, laidLooks := .later }
def ResultEitherUptoCardSaid : Prop := Claim7.holds Tryz.pinned (.plain (OpenSpec.upto resultEitherSpec)) resultEitherUptoCard
end Rows
end Go.Proofs.YtdjngcfnlfgjkaaGreatDoor
