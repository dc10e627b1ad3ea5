/-
  DERIVED. GIVEN WITH THE SEED: THE CARDS: each row of YtdeaibcebeofiaaGreatDoorRows.lean that lists a variable, with what it lists TIED to the program's text (the seventh form; the later family's looks); each row that meets fmt, with fmt's text TOLD by the authors' own Lean function (tested against real Go, not proved from fmt's source: count such statements apart). THE CARD IS WHAT COUNTS. Prove the row's statement (the work); the ties are given (YtdeaibcebeofiaaGreatDoorTie.lean); close each card by the builder's one call (the guide's Derived/Test/ToyasCard.lean, 'card_holds'). Laid BY PROGRAM, IN A SANDBOX (cutbox-door.mjs). By AI agents, Wed Nov 11 2026. No macro, syntax, notation, axiom, sorry.
-/
import Derived.Test.YtdeaibcebeofiaaGreatDoorRows
import GoSem.ClaimSeven
namespace Go.Proofs.YtdeaibcebeofiaaGreatDoor
namespace Rows

/-- THE TIED CARD OF 'cruxlaw05.ContestReplays'. -/
def contestReplaysCard : Claim7 := { stood := { row := contestReplaysRow, standIns := [], harness := (true, "b80b1fea143ecf50884ee52efdd18576636d82b1da749d355b434fba5f930a91"), looks := false }, kinds := [], alts := [], laidByText := true, laidKinds := [.data, .data, .data], laidTests := true, laidLooks := .later }
def ContestReplaysCardSaid : Prop := Claim7.holds Tryz.pinned (.plain (OpenSpec.ofChange contestReplaysSpec)) contestReplaysCard

/-- THE TIED CARD OF 'cruxlaw05.ContestReconciles'. -/
def contestReconcilesCard : Claim7 := { stood := { row := contestReconcilesRow, standIns := [], harness := (true, "b80b1fea143ecf50884ee52efdd18576636d82b1da749d355b434fba5f930a91"), looks := false }, kinds := [], alts := [], laidByText := true, laidKinds := [.data, .data, .data], laidTests := true, laidLooks := .later }
def ContestReconcilesCardSaid : Prop := Claim7.holds Tryz.pinned (.plain (OpenSpec.ofChange contestReconcilesSpec)) contestReconcilesCard

/-- THE TIED CARD OF 'cruxlaw05.ContestJudges'. -/
def contestJudgesCard : Claim7 := { stood := { row := contestJudgesRow, standIns := [], harness := (true, "b80b1fea143ecf50884ee52efdd18576636d82b1da749d355b434fba5f930a91"), looks := false }, kinds := [], alts := [], laidByText := true, laidKinds := [.data, .data, .data], laidTests := true, laidLooks := .later }
def ContestJudgesCardSaid : Prop := Claim7.holds Tryz.pinned (.plain (OpenSpec.ofChange contestJudgesSpec)) contestJudgesCard

/-- THE TIED CARD OF 'cruxlaw05.ContestTraces'. -/
def contestTracesCard : Claim7 := { stood := { row := contestTracesRow, standIns := [], harness := (true, "b80b1fea143ecf50884ee52efdd18576636d82b1da749d355b434fba5f930a91"), looks := false }, kinds := [], alts := [], laidByText := true, laidKinds := [.data, .data, .data], laidTests := true, laidLooks := .later }
def ContestTracesCardSaid : Prop := Claim7.holds Tryz.pinned (.plain (OpenSpec.ofChange contestTracesSpec)) contestTracesCard

/-- THE TIED CARD OF 'cruxlaw05.ContestMarks'. -/
def contestMarksCard : Claim7 := { stood := { row := contestMarksRow, standIns := [], harness := (true, "b80b1fea143ecf50884ee52efdd18576636d82b1da749d355b434fba5f930a91"), looks := false }, kinds := [], alts := [], laidByText := true, laidKinds := [.data, .data, .data], laidTests := true, laidLooks := .later }
def ContestMarksCardSaid : Prop := Claim7.holds Tryz.pinned (.plain (OpenSpec.ofChange contestMarksSpec)) contestMarksCard

/-- THE TIED CARD OF 'cruxlaw05.ContestRules'. -/
def contestRulesCard : Claim7 := { stood := { row := contestRulesRow, standIns := [], harness := (true, "b80b1fea143ecf50884ee52efdd18576636d82b1da749d355b434fba5f930a91"), looks := false }, kinds := [], alts := [], laidByText := true, laidKinds := [.data, .data, .data], laidTests := true, laidLooks := .later }
def ContestRulesCardSaid : Prop := Claim7.holds Tryz.pinned (.plain (OpenSpec.ofChange contestRulesSpec)) contestRulesCard

/-- THE TIED CARD OF 'cruxlaw05.ContestDone'. -/
def contestDoneCard : Claim7 := { stood := { row := contestDoneRow, standIns := [], harness := (true, "b80b1fea143ecf50884ee52efdd18576636d82b1da749d355b434fba5f930a91"), looks := false }, kinds := [], alts := [], laidByText := true, laidKinds := [.data, .data, .data], laidTests := true, laidLooks := .later }
def ContestDoneCardSaid : Prop := Claim7.holds Tryz.pinned (.plain (OpenSpec.ofChange contestDoneSpec)) contestDoneCard

/-- THE TIED CARD OF 'cruxlaw05.ContestForms'. -/
def contestFormsCard : Claim7 := { stood := { row := contestFormsRow, standIns := [], harness := (true, "b80b1fea143ecf50884ee52efdd18576636d82b1da749d355b434fba5f930a91"), looks := false }, kinds := [], alts := [], laidByText := true, laidKinds := [.data, .data, .data], laidTests := true, laidLooks := .later }
def ContestFormsCardSaid : Prop := Claim7.holds Tryz.pinned (.plain (OpenSpec.ofChange contestFormsSpec)) contestFormsCard

/-- THE TIED CARD OF 'cruxlaw05.ContestSteps'. -/
def contestStepsCard : Claim7 := { stood := { row := contestStepsRow, standIns := [], harness := (true, "b80b1fea143ecf50884ee52efdd18576636d82b1da749d355b434fba5f930a91"), looks := false }, kinds := [], alts := [], laidByText := true, laidKinds := [.data, .data, .data], laidTests := true, laidLooks := .later }
def ContestStepsCardSaid : Prop := Claim7.holds Tryz.pinned (.plain (OpenSpec.ofChange contestStepsSpec)) contestStepsCard

/-- THE TIED CARD OF 'cruxlaw05.ContestSheets'. -/
def contestSheetsCard : Claim7 := { stood := { row := contestSheetsRow, standIns := [], harness := (true, "b80b1fea143ecf50884ee52efdd18576636d82b1da749d355b434fba5f930a91"), looks := false }, kinds := [], alts := [], laidByText := true, laidKinds := [.data, .data, .data], laidTests := true, laidLooks := .later }
def ContestSheetsCardSaid : Prop := Claim7.holds Tryz.pinned (.plain (OpenSpec.ofChange contestSheetsSpec)) contestSheetsCard

/-- THE TIED CARD OF 'cruxlaw05.ContestRulings'. -/
def contestRulingsCard : Claim7 := { stood := { row := contestRulingsRow, standIns := [], harness := (true, "b80b1fea143ecf50884ee52efdd18576636d82b1da749d355b434fba5f930a91"), looks := false }, kinds := [], alts := [], laidByText := true, laidKinds := [.data, .data, .data], laidTests := true, laidLooks := .later }
def ContestRulingsCardSaid : Prop := Claim7.holds Tryz.pinned (.plain (OpenSpec.ofChange contestRulingsSpec)) contestRulingsCard

/-- THE TIED CARD OF 'cruxlaw05.ContestAgrees'. -/
def contestAgreesCard : Claim7 := { stood := { row := contestAgreesRow, standIns := [], harness := (true, "b80b1fea143ecf50884ee52efdd18576636d82b1da749d355b434fba5f930a91"), looks := false }, kinds := [], alts := [], laidByText := true, laidKinds := [.data, .data, .data], laidTests := true, laidLooks := .later }
def ContestAgreesCardSaid : Prop := Claim7.holds Tryz.pinned (.plain (OpenSpec.ofChange contestAgreesSpec)) contestAgreesCard

/-- THE SECOND FORM's CARD OF 'cruxlaw05.ContestReplays'. -/
def contestReplaysUptoCard : Claim7 := { stood := { row := contestReplaysUptoRow, standIns := [], harness := (true, "b80b1fea143ecf50884ee52efdd18576636d82b1da749d355b434fba5f930a91"), looks := false }, kinds := [], alts := [], laidByText := true, laidKinds := [.data, .data, .data], laidTests := true, laidLooks := .later }
def ContestReplaysUptoCardSaid : Prop := Claim7.holds Tryz.pinned (.plain (OpenSpec.upto contestReplaysSpec)) contestReplaysUptoCard

/-- THE SECOND FORM's CARD OF 'cruxlaw05.ContestReconciles'. -/
def contestReconcilesUptoCard : Claim7 := { stood := { row := contestReconcilesUptoRow, standIns := [], harness := (true, "b80b1fea143ecf50884ee52efdd18576636d82b1da749d355b434fba5f930a91"), looks := false }, kinds := [], alts := [], laidByText := true, laidKinds := [.data, .data, .data], laidTests := true, laidLooks := .later }
def ContestReconcilesUptoCardSaid : Prop := Claim7.holds Tryz.pinned (.plain (OpenSpec.upto contestReconcilesSpec)) contestReconcilesUptoCard

/-- THE SECOND FORM's CARD OF 'cruxlaw05.ContestJudges'. -/
def contestJudgesUptoCard : Claim7 := { stood := { row := contestJudgesUptoRow, standIns := [], harness := (true, "b80b1fea143ecf50884ee52efdd18576636d82b1da749d355b434fba5f930a91"), looks := false }, kinds := [], alts := [], laidByText := true, laidKinds := [.data, .data, .data], laidTests := true, laidLooks := .later }
def ContestJudgesUptoCardSaid : Prop := Claim7.holds Tryz.pinned (.plain (OpenSpec.upto contestJudgesSpec)) contestJudgesUptoCard

/-- THE SECOND FORM's CARD OF 'cruxlaw05.ContestTraces'. -/
def contestTracesUptoCard : Claim7 := { stood := { row := contestTracesUptoRow, standIns := [], harness := (true, "b80b1fea143ecf50884ee52efdd18576636d82b1da749d355b434fba5f930a91"), looks := false }, kinds := [], alts := [], laidByText := true, laidKinds := [.data, .data, .data], laidTests := true, laidLooks := .later }
def ContestTracesUptoCardSaid : Prop := Claim7.holds Tryz.pinned (.plain (OpenSpec.upto contestTracesSpec)) contestTracesUptoCard

/-- THE SECOND FORM's CARD OF 'cruxlaw05.ContestMarks'. -/
def contestMarksUptoCard : Claim7 := { stood := { row := contestMarksUptoRow, standIns := [], harness := (true, "b80b1fea143ecf50884ee52efdd18576636d82b1da749d355b434fba5f930a91"), looks := false }, kinds := [], alts := [], laidByText := true, laidKinds := [.data, .data, .data], laidTests := true, laidLooks := .later }
def ContestMarksUptoCardSaid : Prop := Claim7.holds Tryz.pinned (.plain (OpenSpec.upto contestMarksSpec)) contestMarksUptoCard

/-- THE SECOND FORM's CARD OF 'cruxlaw05.ContestRules'. -/
def contestRulesUptoCard : Claim7 := { stood := { row := contestRulesUptoRow, standIns := [], harness := (true, "b80b1fea143ecf50884ee52efdd18576636d82b1da749d355b434fba5f930a91"), looks := false }, kinds := [], alts := [], laidByText := true, laidKinds := [.data, .data, .data], laidTests := true, laidLooks := .later }
def ContestRulesUptoCardSaid : Prop := Claim7.holds Tryz.pinned (.plain (OpenSpec.upto contestRulesSpec)) contestRulesUptoCard

/-- THE SECOND FORM's CARD OF 'cruxlaw05.ContestDone'. -/
def contestDoneUptoCard : Claim7 := { stood := { row := contestDoneUptoRow, standIns := [], harness := (true, "b80b1fea143ecf50884ee52efdd18576636d82b1da749d355b434fba5f930a91"), looks := false }, kinds := [], alts := [], laidByText := true, laidKinds := [.data, .data, .data], laidTests := true, laidLooks := .later }
def ContestDoneUptoCardSaid : Prop := Claim7.holds Tryz.pinned (.plain (OpenSpec.upto contestDoneSpec)) contestDoneUptoCard

/-- THE SECOND FORM's CARD OF 'cruxlaw05.ContestForms'. -/
def contestFormsUptoCard : Claim7 := { stood := { row := contestFormsUptoRow, standIns := [], harness := (true, "b80b1fea143ecf50884ee52efdd18576636d82b1da749d355b434fba5f930a91"), looks := false }, kinds := [], alts := [], laidByText := true, laidKinds := [.data, .data, .data], laidTests := true, laidLooks := .later }
def ContestFormsUptoCardSaid : Prop := Claim7.holds Tryz.pinned (.plain (OpenSpec.upto contestFormsSpec)) contestFormsUptoCard

/-- THE SECOND FORM's CARD OF 'cruxlaw05.ContestSteps'. -/
def contestStepsUptoCard : Claim7 := { stood := { row := contestStepsUptoRow, standIns := [], harness := (true, "b80b1fea143ecf50884ee52efdd18576636d82b1da749d355b434fba5f930a91"), looks := false }, kinds := [], alts := [], laidByText := true, laidKinds := [.data, .data, .data], laidTests := true, laidLooks := .later }
def ContestStepsUptoCardSaid : Prop := Claim7.holds Tryz.pinned (.plain (OpenSpec.upto contestStepsSpec)) contestStepsUptoCard

/-- THE SECOND FORM's CARD OF 'cruxlaw05.ContestSheets'. -/
def contestSheetsUptoCard : Claim7 := { stood := { row := contestSheetsUptoRow, standIns := [], harness := (true, "b80b1fea143ecf50884ee52efdd18576636d82b1da749d355b434fba5f930a91"), looks := false }, kinds := [], alts := [], laidByText := true, laidKinds := [.data, .data, .data], laidTests := true, laidLooks := .later }
def ContestSheetsUptoCardSaid : Prop := Claim7.holds Tryz.pinned (.plain (OpenSpec.upto contestSheetsSpec)) contestSheetsUptoCard

/-- THE SECOND FORM's CARD OF 'cruxlaw05.ContestRulings'. -/
def contestRulingsUptoCard : Claim7 := { stood := { row := contestRulingsUptoRow, standIns := [], harness := (true, "b80b1fea143ecf50884ee52efdd18576636d82b1da749d355b434fba5f930a91"), looks := false }, kinds := [], alts := [], laidByText := true, laidKinds := [.data, .data, .data], laidTests := true, laidLooks := .later }
def ContestRulingsUptoCardSaid : Prop := Claim7.holds Tryz.pinned (.plain (OpenSpec.upto contestRulingsSpec)) contestRulingsUptoCard

/-- THE SECOND FORM's CARD OF 'cruxlaw05.ContestAgrees'. -/
def contestAgreesUptoCard : Claim7 := { stood := { row := contestAgreesUptoRow, standIns := [], harness := (true, "b80b1fea143ecf50884ee52efdd18576636d82b1da749d355b434fba5f930a91"), looks := false }, kinds := [], alts := [], laidByText := true, laidKinds := [.data, .data, .data], laidTests := true, laidLooks := .later }
def ContestAgreesUptoCardSaid : Prop := Claim7.holds Tryz.pinned (.plain (OpenSpec.upto contestAgreesSpec)) contestAgreesUptoCard
end Rows
end Go.Proofs.YtdeaibcebeofiaaGreatDoor
