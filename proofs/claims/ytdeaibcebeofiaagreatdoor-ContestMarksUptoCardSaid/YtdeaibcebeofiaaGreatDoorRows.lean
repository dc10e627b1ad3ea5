/-
  NARROWER THAN 'FOR EVERY INPUT', by the rows' own cells (each row's printed sentence says how): ContestReplays: laid · ContestReconciles: laid · ContestJudges: laid · ContestTraces: laid · ContestMarks: laid · ContestRules: laid · ContestDone: laid · ContestForms: laid · ContestSteps: laid · ContestSheets: laid · ContestRulings: laid · ContestAgrees: laid.
  DERIVED. THE GIVEN ROWS OF THIS SEAT. 12 by the template 'for every input the law returns true; each argument reads behind the call as it read before'; 0 by the template 'total and deterministic' (their statements: YtdeaibcebeofiaaGreatDoorTotals.lean).
  GIVEN WITH THE SEED: the statements are not yours to turn. If you find one false, say at which input.
  Laid BY PROGRAM, IN A SANDBOX (cutbox-rows.mjs): the forced cells as the released guide's own fill.sh prints them over the translation ab0779683e71cc38… (all of the seat's roots in one cut). By AI agents, Wed Nov 11 2026. No macro, syntax, notation, axiom, sorry.
-/
import Derived.Test.YtdeaibcebeofiaaGreatDoorChecked
import GoSem.Claim
import GoSem.ClaimJoined
import GoSem.ClaimMapViews
import Derived.JoinedTies
import Derived.KernelRfl
namespace Go.Proofs.YtdeaibcebeofiaaGreatDoor
/- THE CELL 'sum', in the pinned program and in every row, IS THE sha256 OF THE DUMP (.gsa) THAT YtdeaibcebeofiaaGreatDoorProg.lean LOADS. Nothing in Lean hashes anything: it is a label: what it is worth is what the hold of that sum in a sandbox is worth. -/
noncomputable def Tryz.pinned : Pinned := { name := "ytdeaibcebeofiaagreatdoor", sum := "ab0779683e71cc38de16fc87ad50facf723a8f52ccf046338eeb7ffc62fc60ae", checked := Tryz.checked }
namespace Rows
def none {H : Type} : Left H := { results := [], args := [] }

/- WHAT THE LISTED PACKAGE-LEVEL VARIABLES READ AS WHEN THE CALL BEGINS. Each datum BY PROGRAM (the guide's laid-datum.mjs) off the statement by which the dump's own 'gosem.cut.vars' lays the variable. In a bare row this is a premise. The card (YtdeaibcebeofiaaGreatDoorCards.lean) ties it to the program's text. -/
def laid_math_bits_deBruijn32tab {H : Type} : DataW H := .agg [.lit (.int .u8 0), .lit (.int .u8 1), .lit (.int .u8 28), .lit (.int .u8 2), .lit (.int .u8 29), .lit (.int .u8 14), .lit (.int .u8 24), .lit (.int .u8 3), .lit (.int .u8 30), .lit (.int .u8 22), .lit (.int .u8 20), .lit (.int .u8 15), .lit (.int .u8 25), .lit (.int .u8 17), .lit (.int .u8 4), .lit (.int .u8 8), .lit (.int .u8 31), .lit (.int .u8 27), .lit (.int .u8 13), .lit (.int .u8 23), .lit (.int .u8 21), .lit (.int .u8 19), .lit (.int .u8 16), .lit (.int .u8 7), .lit (.int .u8 26), .lit (.int .u8 12), .lit (.int .u8 18), .lit (.int .u8 6), .lit (.int .u8 11), .lit (.int .u8 5), .lit (.int .u8 10), .lit (.int .u8 9)]
def laid_math_bits_deBruijn64tab {H : Type} : DataW H := .agg [.lit (.int .u8 0), .lit (.int .u8 1), .lit (.int .u8 56), .lit (.int .u8 2), .lit (.int .u8 57), .lit (.int .u8 49), .lit (.int .u8 28), .lit (.int .u8 3), .lit (.int .u8 61), .lit (.int .u8 58), .lit (.int .u8 42), .lit (.int .u8 50), .lit (.int .u8 38), .lit (.int .u8 29), .lit (.int .u8 17), .lit (.int .u8 4), .lit (.int .u8 62), .lit (.int .u8 47), .lit (.int .u8 59), .lit (.int .u8 36), .lit (.int .u8 45), .lit (.int .u8 43), .lit (.int .u8 51), .lit (.int .u8 22), .lit (.int .u8 53), .lit (.int .u8 39), .lit (.int .u8 33), .lit (.int .u8 30), .lit (.int .u8 24), .lit (.int .u8 18), .lit (.int .u8 12), .lit (.int .u8 5), .lit (.int .u8 63), .lit (.int .u8 55), .lit (.int .u8 48), .lit (.int .u8 27), .lit (.int .u8 60), .lit (.int .u8 41), .lit (.int .u8 37), .lit (.int .u8 16), .lit (.int .u8 46), .lit (.int .u8 35), .lit (.int .u8 44), .lit (.int .u8 21), .lit (.int .u8 52), .lit (.int .u8 32), .lit (.int .u8 23), .lit (.int .u8 11), .lit (.int .u8 54), .lit (.int .u8 26), .lit (.int .u8 40), .lit (.int .u8 15), .lit (.int .u8 34), .lit (.int .u8 20), .lit (.int .u8 31), .lit (.int .u8 10), .lit (.int .u8 25), .lit (.int .u8 14), .lit (.int .u8 19), .lit (.int .u8 9), .lit (.int .u8 13), .lit (.int .u8 8), .lit (.int .u8 7), .lit (.int .u8 6)]
def laid_internal_strconv_uint64pow10 {H : Type} : DataW H := .agg [.lit (.int .u64 1), .lit (.int .u64 10), .lit (.int .u64 100), .lit (.int .u64 1000), .lit (.int .u64 10000), .lit (.int .u64 100000), .lit (.int .u64 1000000), .lit (.int .u64 10000000), .lit (.int .u64 100000000), .lit (.int .u64 1000000000), .lit (.int .u64 10000000000), .lit (.int .u64 100000000000), .lit (.int .u64 1000000000000), .lit (.int .u64 10000000000000), .lit (.int .u64 100000000000000), .lit (.int .u64 1000000000000000), .lit (.int .u64 10000000000000000), .lit (.int .u64 100000000000000000), .lit (.int .u64 1000000000000000000), .lit (.int .u64 10000000000000000000)]

/-- 'cruxlaw05.ContestReplays': WHATEVER THE INPUT: true; the input reads as it did. -/
def contestReplaysSpec : ChangeSpec := { name := "contestReplays", fn := fun _ => fun
  | [d1, d2, d3] => { results := [.lit (.bool true)], args := [d1, d2, d3] }
  | _ => none }
def contestReplaysRow : OpenClaim := { program := "ytdeaibcebeofiaagreatdoor", sum := "ab0779683e71cc38de16fc87ad50facf723a8f52ccf046338eeb7ffc62fc60ae", func := "crux/cruxlaw05.ContestReplays", spec := "contestReplays", inPlace := ["internal/abi.NoEscape", "internal/bytealg.MakeNoZero"], unfollowed := true, recurses := true, named := ["internal/strconv.uint64pow10", "math/bits.deBruijn32tab", "math/bits.deBruijn64tab"], apart := false, laid := [("math/bits.deBruijn32tab", laid_math_bits_deBruijn32tab), ("math/bits.deBruijn64tab", laid_math_bits_deBruijn64tab), ("internal/strconv.uint64pow10", laid_internal_strconv_uint64pow10)] }
def ContestReplaysSaid : Prop := contestReplaysRow.holds Tryz.pinned (OpenSpec.ofChange contestReplaysSpec)

/-- ITS FALSE NEIGHBOUR: 'it returns false'. Refute it at one input. -/
def contestReplaysWrong : ChangeSpec := { name := "contestReplays", fn := fun _ => fun
  | [d1, d2, d3] => { results := [.lit (.bool false)], args := [d1, d2, d3] }
  | _ => none }
def ContestReplaysWrongFalsely : Prop := contestReplaysRow.holds Tryz.pinned (OpenSpec.ofChange contestReplaysWrong)

/-- 'cruxlaw05.ContestReconciles': WHATEVER THE INPUT: true; the input reads as it did. -/
def contestReconcilesSpec : ChangeSpec := { name := "contestReconciles", fn := fun _ => fun
  | [d1, d2, d3] => { results := [.lit (.bool true)], args := [d1, d2, d3] }
  | _ => none }
def contestReconcilesRow : OpenClaim := { program := "ytdeaibcebeofiaagreatdoor", sum := "ab0779683e71cc38de16fc87ad50facf723a8f52ccf046338eeb7ffc62fc60ae", func := "crux/cruxlaw05.ContestReconciles", spec := "contestReconciles", inPlace := ["internal/abi.NoEscape", "internal/bytealg.MakeNoZero"], unfollowed := true, recurses := true, named := ["internal/strconv.uint64pow10", "math/bits.deBruijn32tab", "math/bits.deBruijn64tab"], apart := false, laid := [("math/bits.deBruijn32tab", laid_math_bits_deBruijn32tab), ("math/bits.deBruijn64tab", laid_math_bits_deBruijn64tab), ("internal/strconv.uint64pow10", laid_internal_strconv_uint64pow10)] }
def ContestReconcilesSaid : Prop := contestReconcilesRow.holds Tryz.pinned (OpenSpec.ofChange contestReconcilesSpec)

/-- ITS FALSE NEIGHBOUR: 'it returns false'. Refute it at one input. -/
def contestReconcilesWrong : ChangeSpec := { name := "contestReconciles", fn := fun _ => fun
  | [d1, d2, d3] => { results := [.lit (.bool false)], args := [d1, d2, d3] }
  | _ => none }
def ContestReconcilesWrongFalsely : Prop := contestReconcilesRow.holds Tryz.pinned (OpenSpec.ofChange contestReconcilesWrong)

/-- 'cruxlaw05.ContestJudges': WHATEVER THE INPUT: true; the input reads as it did. -/
def contestJudgesSpec : ChangeSpec := { name := "contestJudges", fn := fun _ => fun
  | [d1, d2, d3] => { results := [.lit (.bool true)], args := [d1, d2, d3] }
  | _ => none }
def contestJudgesRow : OpenClaim := { program := "ytdeaibcebeofiaagreatdoor", sum := "ab0779683e71cc38de16fc87ad50facf723a8f52ccf046338eeb7ffc62fc60ae", func := "crux/cruxlaw05.ContestJudges", spec := "contestJudges", inPlace := ["internal/abi.NoEscape", "internal/bytealg.MakeNoZero"], unfollowed := true, recurses := true, named := ["internal/strconv.uint64pow10", "math/bits.deBruijn32tab", "math/bits.deBruijn64tab"], apart := false, laid := [("math/bits.deBruijn32tab", laid_math_bits_deBruijn32tab), ("math/bits.deBruijn64tab", laid_math_bits_deBruijn64tab), ("internal/strconv.uint64pow10", laid_internal_strconv_uint64pow10)] }
def ContestJudgesSaid : Prop := contestJudgesRow.holds Tryz.pinned (OpenSpec.ofChange contestJudgesSpec)

/-- ITS FALSE NEIGHBOUR: 'it returns false'. Refute it at one input. -/
def contestJudgesWrong : ChangeSpec := { name := "contestJudges", fn := fun _ => fun
  | [d1, d2, d3] => { results := [.lit (.bool false)], args := [d1, d2, d3] }
  | _ => none }
def ContestJudgesWrongFalsely : Prop := contestJudgesRow.holds Tryz.pinned (OpenSpec.ofChange contestJudgesWrong)

/-- 'cruxlaw05.ContestTraces': WHATEVER THE INPUT: true; the input reads as it did. -/
def contestTracesSpec : ChangeSpec := { name := "contestTraces", fn := fun _ => fun
  | [d1, d2, d3] => { results := [.lit (.bool true)], args := [d1, d2, d3] }
  | _ => none }
def contestTracesRow : OpenClaim := { program := "ytdeaibcebeofiaagreatdoor", sum := "ab0779683e71cc38de16fc87ad50facf723a8f52ccf046338eeb7ffc62fc60ae", func := "crux/cruxlaw05.ContestTraces", spec := "contestTraces", inPlace := ["internal/abi.NoEscape", "internal/bytealg.MakeNoZero"], unfollowed := true, recurses := true, named := ["internal/strconv.uint64pow10", "math/bits.deBruijn32tab", "math/bits.deBruijn64tab"], apart := false, laid := [("math/bits.deBruijn32tab", laid_math_bits_deBruijn32tab), ("math/bits.deBruijn64tab", laid_math_bits_deBruijn64tab), ("internal/strconv.uint64pow10", laid_internal_strconv_uint64pow10)] }
def ContestTracesSaid : Prop := contestTracesRow.holds Tryz.pinned (OpenSpec.ofChange contestTracesSpec)

/-- ITS FALSE NEIGHBOUR: 'it returns false'. Refute it at one input. -/
def contestTracesWrong : ChangeSpec := { name := "contestTraces", fn := fun _ => fun
  | [d1, d2, d3] => { results := [.lit (.bool false)], args := [d1, d2, d3] }
  | _ => none }
def ContestTracesWrongFalsely : Prop := contestTracesRow.holds Tryz.pinned (OpenSpec.ofChange contestTracesWrong)

/-- 'cruxlaw05.ContestMarks': WHATEVER THE INPUT: true; the input reads as it did. -/
def contestMarksSpec : ChangeSpec := { name := "contestMarks", fn := fun _ => fun
  | [d1, d2] => { results := [.lit (.bool true)], args := [d1, d2] }
  | _ => none }
def contestMarksRow : OpenClaim := { program := "ytdeaibcebeofiaagreatdoor", sum := "ab0779683e71cc38de16fc87ad50facf723a8f52ccf046338eeb7ffc62fc60ae", func := "crux/cruxlaw05.ContestMarks", spec := "contestMarks", inPlace := ["internal/abi.NoEscape", "internal/bytealg.MakeNoZero"], unfollowed := true, recurses := true, named := ["internal/strconv.uint64pow10", "math/bits.deBruijn32tab", "math/bits.deBruijn64tab"], apart := false, laid := [("math/bits.deBruijn32tab", laid_math_bits_deBruijn32tab), ("math/bits.deBruijn64tab", laid_math_bits_deBruijn64tab), ("internal/strconv.uint64pow10", laid_internal_strconv_uint64pow10)] }
def ContestMarksSaid : Prop := contestMarksRow.holds Tryz.pinned (OpenSpec.ofChange contestMarksSpec)

/-- ITS FALSE NEIGHBOUR: 'it returns false'. Refute it at one input. -/
def contestMarksWrong : ChangeSpec := { name := "contestMarks", fn := fun _ => fun
  | [d1, d2] => { results := [.lit (.bool false)], args := [d1, d2] }
  | _ => none }
def ContestMarksWrongFalsely : Prop := contestMarksRow.holds Tryz.pinned (OpenSpec.ofChange contestMarksWrong)

/-- 'cruxlaw05.ContestRules': WHATEVER THE INPUT: true; the input reads as it did. -/
def contestRulesSpec : ChangeSpec := { name := "contestRules", fn := fun _ => fun
  | [d1, d2, d3] => { results := [.lit (.bool true)], args := [d1, d2, d3] }
  | _ => none }
def contestRulesRow : OpenClaim := { program := "ytdeaibcebeofiaagreatdoor", sum := "ab0779683e71cc38de16fc87ad50facf723a8f52ccf046338eeb7ffc62fc60ae", func := "crux/cruxlaw05.ContestRules", spec := "contestRules", inPlace := ["internal/abi.NoEscape", "internal/bytealg.MakeNoZero"], unfollowed := true, recurses := true, named := ["internal/strconv.uint64pow10", "math/bits.deBruijn32tab", "math/bits.deBruijn64tab"], apart := false, laid := [("math/bits.deBruijn32tab", laid_math_bits_deBruijn32tab), ("math/bits.deBruijn64tab", laid_math_bits_deBruijn64tab), ("internal/strconv.uint64pow10", laid_internal_strconv_uint64pow10)] }
def ContestRulesSaid : Prop := contestRulesRow.holds Tryz.pinned (OpenSpec.ofChange contestRulesSpec)

/-- ITS FALSE NEIGHBOUR: 'it returns false'. Refute it at one input. -/
def contestRulesWrong : ChangeSpec := { name := "contestRules", fn := fun _ => fun
  | [d1, d2, d3] => { results := [.lit (.bool false)], args := [d1, d2, d3] }
  | _ => none }
def ContestRulesWrongFalsely : Prop := contestRulesRow.holds Tryz.pinned (OpenSpec.ofChange contestRulesWrong)

/-- 'cruxlaw05.ContestDone': WHATEVER THE INPUT: true; the input reads as it did. -/
def contestDoneSpec : ChangeSpec := { name := "contestDone", fn := fun _ => fun
  | [d1, d2, d3] => { results := [.lit (.bool true)], args := [d1, d2, d3] }
  | _ => none }
def contestDoneRow : OpenClaim := { program := "ytdeaibcebeofiaagreatdoor", sum := "ab0779683e71cc38de16fc87ad50facf723a8f52ccf046338eeb7ffc62fc60ae", func := "crux/cruxlaw05.ContestDone", spec := "contestDone", inPlace := ["internal/abi.NoEscape", "internal/bytealg.MakeNoZero"], unfollowed := true, recurses := true, named := ["internal/strconv.uint64pow10", "math/bits.deBruijn32tab", "math/bits.deBruijn64tab"], apart := false, laid := [("math/bits.deBruijn32tab", laid_math_bits_deBruijn32tab), ("math/bits.deBruijn64tab", laid_math_bits_deBruijn64tab), ("internal/strconv.uint64pow10", laid_internal_strconv_uint64pow10)] }
def ContestDoneSaid : Prop := contestDoneRow.holds Tryz.pinned (OpenSpec.ofChange contestDoneSpec)

/-- ITS FALSE NEIGHBOUR: 'it returns false'. Refute it at one input. -/
def contestDoneWrong : ChangeSpec := { name := "contestDone", fn := fun _ => fun
  | [d1, d2, d3] => { results := [.lit (.bool false)], args := [d1, d2, d3] }
  | _ => none }
def ContestDoneWrongFalsely : Prop := contestDoneRow.holds Tryz.pinned (OpenSpec.ofChange contestDoneWrong)

/-- 'cruxlaw05.ContestForms': WHATEVER THE INPUT: true; the input reads as it did. -/
def contestFormsSpec : ChangeSpec := { name := "contestForms", fn := fun _ => fun
  | [d1, d2, d3] => { results := [.lit (.bool true)], args := [d1, d2, d3] }
  | _ => none }
def contestFormsRow : OpenClaim := { program := "ytdeaibcebeofiaagreatdoor", sum := "ab0779683e71cc38de16fc87ad50facf723a8f52ccf046338eeb7ffc62fc60ae", func := "crux/cruxlaw05.ContestForms", spec := "contestForms", inPlace := ["internal/abi.NoEscape", "internal/bytealg.MakeNoZero"], unfollowed := true, recurses := true, named := ["internal/strconv.uint64pow10", "math/bits.deBruijn32tab", "math/bits.deBruijn64tab"], apart := false, laid := [("math/bits.deBruijn32tab", laid_math_bits_deBruijn32tab), ("math/bits.deBruijn64tab", laid_math_bits_deBruijn64tab), ("internal/strconv.uint64pow10", laid_internal_strconv_uint64pow10)] }
def ContestFormsSaid : Prop := contestFormsRow.holds Tryz.pinned (OpenSpec.ofChange contestFormsSpec)

/-- ITS FALSE NEIGHBOUR: 'it returns false'. Refute it at one input. -/
def contestFormsWrong : ChangeSpec := { name := "contestForms", fn := fun _ => fun
  | [d1, d2, d3] => { results := [.lit (.bool false)], args := [d1, d2, d3] }
  | _ => none }
def ContestFormsWrongFalsely : Prop := contestFormsRow.holds Tryz.pinned (OpenSpec.ofChange contestFormsWrong)

/-- 'cruxlaw05.ContestSteps': WHATEVER THE INPUT: true; the input reads as it did. -/
def contestStepsSpec : ChangeSpec := { name := "contestSteps", fn := fun _ => fun
  | [d1, d2] => { results := [.lit (.bool true)], args := [d1, d2] }
  | _ => none }
def contestStepsRow : OpenClaim := { program := "ytdeaibcebeofiaagreatdoor", sum := "ab0779683e71cc38de16fc87ad50facf723a8f52ccf046338eeb7ffc62fc60ae", func := "crux/cruxlaw05.ContestSteps", spec := "contestSteps", inPlace := ["internal/abi.NoEscape", "internal/bytealg.MakeNoZero"], unfollowed := true, recurses := true, named := ["internal/strconv.uint64pow10", "math/bits.deBruijn32tab", "math/bits.deBruijn64tab"], apart := false, laid := [("math/bits.deBruijn32tab", laid_math_bits_deBruijn32tab), ("math/bits.deBruijn64tab", laid_math_bits_deBruijn64tab), ("internal/strconv.uint64pow10", laid_internal_strconv_uint64pow10)] }
def ContestStepsSaid : Prop := contestStepsRow.holds Tryz.pinned (OpenSpec.ofChange contestStepsSpec)

/-- ITS FALSE NEIGHBOUR: 'it returns false'. Refute it at one input. -/
def contestStepsWrong : ChangeSpec := { name := "contestSteps", fn := fun _ => fun
  | [d1, d2] => { results := [.lit (.bool false)], args := [d1, d2] }
  | _ => none }
def ContestStepsWrongFalsely : Prop := contestStepsRow.holds Tryz.pinned (OpenSpec.ofChange contestStepsWrong)

/-- 'cruxlaw05.ContestSheets': WHATEVER THE INPUT: true; the input reads as it did. -/
def contestSheetsSpec : ChangeSpec := { name := "contestSheets", fn := fun _ => fun
  | [d1, d2, d3] => { results := [.lit (.bool true)], args := [d1, d2, d3] }
  | _ => none }
def contestSheetsRow : OpenClaim := { program := "ytdeaibcebeofiaagreatdoor", sum := "ab0779683e71cc38de16fc87ad50facf723a8f52ccf046338eeb7ffc62fc60ae", func := "crux/cruxlaw05.ContestSheets", spec := "contestSheets", inPlace := ["internal/abi.NoEscape", "internal/bytealg.MakeNoZero"], unfollowed := true, recurses := true, named := ["internal/strconv.uint64pow10", "math/bits.deBruijn32tab", "math/bits.deBruijn64tab"], apart := false, laid := [("math/bits.deBruijn32tab", laid_math_bits_deBruijn32tab), ("math/bits.deBruijn64tab", laid_math_bits_deBruijn64tab), ("internal/strconv.uint64pow10", laid_internal_strconv_uint64pow10)] }
def ContestSheetsSaid : Prop := contestSheetsRow.holds Tryz.pinned (OpenSpec.ofChange contestSheetsSpec)

/-- ITS FALSE NEIGHBOUR: 'it returns false'. Refute it at one input. -/
def contestSheetsWrong : ChangeSpec := { name := "contestSheets", fn := fun _ => fun
  | [d1, d2, d3] => { results := [.lit (.bool false)], args := [d1, d2, d3] }
  | _ => none }
def ContestSheetsWrongFalsely : Prop := contestSheetsRow.holds Tryz.pinned (OpenSpec.ofChange contestSheetsWrong)

/-- 'cruxlaw05.ContestRulings': WHATEVER THE INPUT: true; the input reads as it did. -/
def contestRulingsSpec : ChangeSpec := { name := "contestRulings", fn := fun _ => fun
  | [d1, d2, d3] => { results := [.lit (.bool true)], args := [d1, d2, d3] }
  | _ => none }
def contestRulingsRow : OpenClaim := { program := "ytdeaibcebeofiaagreatdoor", sum := "ab0779683e71cc38de16fc87ad50facf723a8f52ccf046338eeb7ffc62fc60ae", func := "crux/cruxlaw05.ContestRulings", spec := "contestRulings", inPlace := ["internal/abi.NoEscape", "internal/bytealg.MakeNoZero"], unfollowed := true, recurses := true, named := ["internal/strconv.uint64pow10", "math/bits.deBruijn32tab", "math/bits.deBruijn64tab"], apart := false, laid := [("math/bits.deBruijn32tab", laid_math_bits_deBruijn32tab), ("math/bits.deBruijn64tab", laid_math_bits_deBruijn64tab), ("internal/strconv.uint64pow10", laid_internal_strconv_uint64pow10)] }
def ContestRulingsSaid : Prop := contestRulingsRow.holds Tryz.pinned (OpenSpec.ofChange contestRulingsSpec)

/-- ITS FALSE NEIGHBOUR: 'it returns false'. Refute it at one input. -/
def contestRulingsWrong : ChangeSpec := { name := "contestRulings", fn := fun _ => fun
  | [d1, d2, d3] => { results := [.lit (.bool false)], args := [d1, d2, d3] }
  | _ => none }
def ContestRulingsWrongFalsely : Prop := contestRulingsRow.holds Tryz.pinned (OpenSpec.ofChange contestRulingsWrong)

/-- 'cruxlaw05.ContestAgrees': WHATEVER THE INPUT: true; the input reads as it did. -/
def contestAgreesSpec : ChangeSpec := { name := "contestAgrees", fn := fun _ => fun
  | [d1, d2] => { results := [.lit (.bool true)], args := [d1, d2] }
  | _ => none }
def contestAgreesRow : OpenClaim := { program := "ytdeaibcebeofiaagreatdoor", sum := "ab0779683e71cc38de16fc87ad50facf723a8f52ccf046338eeb7ffc62fc60ae", func := "crux/cruxlaw05.ContestAgrees", spec := "contestAgrees", inPlace := ["internal/abi.NoEscape", "internal/bytealg.MakeNoZero"], unfollowed := true, recurses := true, named := ["internal/strconv.uint64pow10", "math/bits.deBruijn32tab", "math/bits.deBruijn64tab"], apart := false, laid := [("math/bits.deBruijn32tab", laid_math_bits_deBruijn32tab), ("math/bits.deBruijn64tab", laid_math_bits_deBruijn64tab), ("internal/strconv.uint64pow10", laid_internal_strconv_uint64pow10)] }
def ContestAgreesSaid : Prop := contestAgreesRow.holds Tryz.pinned (OpenSpec.ofChange contestAgreesSpec)

/-- ITS FALSE NEIGHBOUR: 'it returns false'. Refute it at one input. -/
def contestAgreesWrong : ChangeSpec := { name := "contestAgrees", fn := fun _ => fun
  | [d1, d2] => { results := [.lit (.bool false)], args := [d1, d2] }
  | _ => none }
def ContestAgreesWrongFalsely : Prop := contestAgreesRow.holds Tryz.pinned (OpenSpec.ofChange contestAgreesWrong)

/- THE SECOND FORM. 'bulk': how many values and letters a reading holds, each counted each time it is reached (what is shared counts as often as it is met; a slice's spare places count too). A statement '..UptoSaid' is the law's where the arguments, and the package variables that the reading takes, are together of bulk at most 1048576: NARROWER than '..Said'. Prove '..Said' where nothing that the law and all that it calls make is longer than what came in: it says more and counts as full. Else prove '..UptoSaid'. A law counts once. -/
mutual
def uptoBulk {H : Type} : DataW H → Nat
  | .lit (.string bytes) => bytes.length + 1
  | .lit _ => 1
  | .nil => 1
  | .ptr d => uptoBulk d + 1
  | .slice elems spare => uptoBulkAll elems + uptoBulkAll spare + 1
  | .agg parts => uptoBulkAll parts + 1
  | .iface _ d => uptoBulk d + 1
  | .map entries => uptoBulkEntries entries + 1
  | .held _ => 1
def uptoBulkAll {H : Type} : List (DataW H) → Nat
  | [] => 0
  | d :: r => uptoBulk d + uptoBulkAll r
def uptoBulkEntries {H : Type} : List (Lit × DataW H) → Nat
  | [] => 0
  | x :: r => uptoBulkEntry x + uptoBulkEntries r
def uptoBulkEntry {H : Type} : Lit × DataW H → Nat
  | (.string bytes, d) => bytes.length + uptoBulk d + 1
  | (_, d) => uptoBulk d + 1
 end
def uptoSmall : (H : Type) → List (DataW H) → Bool := fun _ ds => decide (uptoBulkAll ds ≤ 1048576)
def OpenSpec.upto (s : _root_.Go.ChangeSpec) : _root_.Go.OpenSpec := { _root_.Go.OpenSpec.ofChange s with cond := some uptoSmall }

/-- 'cruxlaw05.ContestReplays', WHERE WHAT IT READS IS OF BULK AT MOST 1048576: true; the input reads as it did. -/
def contestReplaysUptoRow : OpenClaim := { program := "ytdeaibcebeofiaagreatdoor", sum := "ab0779683e71cc38de16fc87ad50facf723a8f52ccf046338eeb7ffc62fc60ae", func := "crux/cruxlaw05.ContestReplays", spec := "contestReplays", inPlace := ["internal/abi.NoEscape", "internal/bytealg.MakeNoZero"], unfollowed := true, recurses := true, named := ["internal/strconv.uint64pow10", "math/bits.deBruijn32tab", "math/bits.deBruijn64tab"], apart := false, laid := [("math/bits.deBruijn32tab", laid_math_bits_deBruijn32tab), ("math/bits.deBruijn64tab", laid_math_bits_deBruijn64tab), ("internal/strconv.uint64pow10", laid_internal_strconv_uint64pow10)], narrowed := true }
def ContestReplaysUptoSaid : Prop := contestReplaysUptoRow.holds Tryz.pinned (OpenSpec.upto contestReplaysSpec)

/-- 'cruxlaw05.ContestReconciles', WHERE WHAT IT READS IS OF BULK AT MOST 1048576: true; the input reads as it did. -/
def contestReconcilesUptoRow : OpenClaim := { program := "ytdeaibcebeofiaagreatdoor", sum := "ab0779683e71cc38de16fc87ad50facf723a8f52ccf046338eeb7ffc62fc60ae", func := "crux/cruxlaw05.ContestReconciles", spec := "contestReconciles", inPlace := ["internal/abi.NoEscape", "internal/bytealg.MakeNoZero"], unfollowed := true, recurses := true, named := ["internal/strconv.uint64pow10", "math/bits.deBruijn32tab", "math/bits.deBruijn64tab"], apart := false, laid := [("math/bits.deBruijn32tab", laid_math_bits_deBruijn32tab), ("math/bits.deBruijn64tab", laid_math_bits_deBruijn64tab), ("internal/strconv.uint64pow10", laid_internal_strconv_uint64pow10)], narrowed := true }
def ContestReconcilesUptoSaid : Prop := contestReconcilesUptoRow.holds Tryz.pinned (OpenSpec.upto contestReconcilesSpec)

/-- 'cruxlaw05.ContestJudges', WHERE WHAT IT READS IS OF BULK AT MOST 1048576: true; the input reads as it did. -/
def contestJudgesUptoRow : OpenClaim := { program := "ytdeaibcebeofiaagreatdoor", sum := "ab0779683e71cc38de16fc87ad50facf723a8f52ccf046338eeb7ffc62fc60ae", func := "crux/cruxlaw05.ContestJudges", spec := "contestJudges", inPlace := ["internal/abi.NoEscape", "internal/bytealg.MakeNoZero"], unfollowed := true, recurses := true, named := ["internal/strconv.uint64pow10", "math/bits.deBruijn32tab", "math/bits.deBruijn64tab"], apart := false, laid := [("math/bits.deBruijn32tab", laid_math_bits_deBruijn32tab), ("math/bits.deBruijn64tab", laid_math_bits_deBruijn64tab), ("internal/strconv.uint64pow10", laid_internal_strconv_uint64pow10)], narrowed := true }
def ContestJudgesUptoSaid : Prop := contestJudgesUptoRow.holds Tryz.pinned (OpenSpec.upto contestJudgesSpec)

/-- 'cruxlaw05.ContestTraces', WHERE WHAT IT READS IS OF BULK AT MOST 1048576: true; the input reads as it did. -/
def contestTracesUptoRow : OpenClaim := { program := "ytdeaibcebeofiaagreatdoor", sum := "ab0779683e71cc38de16fc87ad50facf723a8f52ccf046338eeb7ffc62fc60ae", func := "crux/cruxlaw05.ContestTraces", spec := "contestTraces", inPlace := ["internal/abi.NoEscape", "internal/bytealg.MakeNoZero"], unfollowed := true, recurses := true, named := ["internal/strconv.uint64pow10", "math/bits.deBruijn32tab", "math/bits.deBruijn64tab"], apart := false, laid := [("math/bits.deBruijn32tab", laid_math_bits_deBruijn32tab), ("math/bits.deBruijn64tab", laid_math_bits_deBruijn64tab), ("internal/strconv.uint64pow10", laid_internal_strconv_uint64pow10)], narrowed := true }
def ContestTracesUptoSaid : Prop := contestTracesUptoRow.holds Tryz.pinned (OpenSpec.upto contestTracesSpec)

/-- 'cruxlaw05.ContestMarks', WHERE WHAT IT READS IS OF BULK AT MOST 1048576: true; the input reads as it did. -/
def contestMarksUptoRow : OpenClaim := { program := "ytdeaibcebeofiaagreatdoor", sum := "ab0779683e71cc38de16fc87ad50facf723a8f52ccf046338eeb7ffc62fc60ae", func := "crux/cruxlaw05.ContestMarks", spec := "contestMarks", inPlace := ["internal/abi.NoEscape", "internal/bytealg.MakeNoZero"], unfollowed := true, recurses := true, named := ["internal/strconv.uint64pow10", "math/bits.deBruijn32tab", "math/bits.deBruijn64tab"], apart := false, laid := [("math/bits.deBruijn32tab", laid_math_bits_deBruijn32tab), ("math/bits.deBruijn64tab", laid_math_bits_deBruijn64tab), ("internal/strconv.uint64pow10", laid_internal_strconv_uint64pow10)], narrowed := true }
def ContestMarksUptoSaid : Prop := contestMarksUptoRow.holds Tryz.pinned (OpenSpec.upto contestMarksSpec)

/-- 'cruxlaw05.ContestRules', WHERE WHAT IT READS IS OF BULK AT MOST 1048576: true; the input reads as it did. -/
def contestRulesUptoRow : OpenClaim := { program := "ytdeaibcebeofiaagreatdoor", sum := "ab0779683e71cc38de16fc87ad50facf723a8f52ccf046338eeb7ffc62fc60ae", func := "crux/cruxlaw05.ContestRules", spec := "contestRules", inPlace := ["internal/abi.NoEscape", "internal/bytealg.MakeNoZero"], unfollowed := true, recurses := true, named := ["internal/strconv.uint64pow10", "math/bits.deBruijn32tab", "math/bits.deBruijn64tab"], apart := false, laid := [("math/bits.deBruijn32tab", laid_math_bits_deBruijn32tab), ("math/bits.deBruijn64tab", laid_math_bits_deBruijn64tab), ("internal/strconv.uint64pow10", laid_internal_strconv_uint64pow10)], narrowed := true }
def ContestRulesUptoSaid : Prop := contestRulesUptoRow.holds Tryz.pinned (OpenSpec.upto contestRulesSpec)

/-- 'cruxlaw05.ContestDone', WHERE WHAT IT READS IS OF BULK AT MOST 1048576: true; the input reads as it did. -/
def contestDoneUptoRow : OpenClaim := { program := "ytdeaibcebeofiaagreatdoor", sum := "ab0779683e71cc38de16fc87ad50facf723a8f52ccf046338eeb7ffc62fc60ae", func := "crux/cruxlaw05.ContestDone", spec := "contestDone", inPlace := ["internal/abi.NoEscape", "internal/bytealg.MakeNoZero"], unfollowed := true, recurses := true, named := ["internal/strconv.uint64pow10", "math/bits.deBruijn32tab", "math/bits.deBruijn64tab"], apart := false, laid := [("math/bits.deBruijn32tab", laid_math_bits_deBruijn32tab), ("math/bits.deBruijn64tab", laid_math_bits_deBruijn64tab), ("internal/strconv.uint64pow10", laid_internal_strconv_uint64pow10)], narrowed := true }
def ContestDoneUptoSaid : Prop := contestDoneUptoRow.holds Tryz.pinned (OpenSpec.upto contestDoneSpec)

/-- 'cruxlaw05.ContestForms', WHERE WHAT IT READS IS OF BULK AT MOST 1048576: true; the input reads as it did. -/
def contestFormsUptoRow : OpenClaim := { program := "ytdeaibcebeofiaagreatdoor", sum := "ab0779683e71cc38de16fc87ad50facf723a8f52ccf046338eeb7ffc62fc60ae", func := "crux/cruxlaw05.ContestForms", spec := "contestForms", inPlace := ["internal/abi.NoEscape", "internal/bytealg.MakeNoZero"], unfollowed := true, recurses := true, named := ["internal/strconv.uint64pow10", "math/bits.deBruijn32tab", "math/bits.deBruijn64tab"], apart := false, laid := [("math/bits.deBruijn32tab", laid_math_bits_deBruijn32tab), ("math/bits.deBruijn64tab", laid_math_bits_deBruijn64tab), ("internal/strconv.uint64pow10", laid_internal_strconv_uint64pow10)], narrowed := true }
def ContestFormsUptoSaid : Prop := contestFormsUptoRow.holds Tryz.pinned (OpenSpec.upto contestFormsSpec)

/-- 'cruxlaw05.ContestSteps', WHERE WHAT IT READS IS OF BULK AT MOST 1048576: true; the input reads as it did. -/
def contestStepsUptoRow : OpenClaim := { program := "ytdeaibcebeofiaagreatdoor", sum := "ab0779683e71cc38de16fc87ad50facf723a8f52ccf046338eeb7ffc62fc60ae", func := "crux/cruxlaw05.ContestSteps", spec := "contestSteps", inPlace := ["internal/abi.NoEscape", "internal/bytealg.MakeNoZero"], unfollowed := true, recurses := true, named := ["internal/strconv.uint64pow10", "math/bits.deBruijn32tab", "math/bits.deBruijn64tab"], apart := false, laid := [("math/bits.deBruijn32tab", laid_math_bits_deBruijn32tab), ("math/bits.deBruijn64tab", laid_math_bits_deBruijn64tab), ("internal/strconv.uint64pow10", laid_internal_strconv_uint64pow10)], narrowed := true }
def ContestStepsUptoSaid : Prop := contestStepsUptoRow.holds Tryz.pinned (OpenSpec.upto contestStepsSpec)

/-- 'cruxlaw05.ContestSheets', WHERE WHAT IT READS IS OF BULK AT MOST 1048576: true; the input reads as it did. -/
def contestSheetsUptoRow : OpenClaim := { program := "ytdeaibcebeofiaagreatdoor", sum := "ab0779683e71cc38de16fc87ad50facf723a8f52ccf046338eeb7ffc62fc60ae", func := "crux/cruxlaw05.ContestSheets", spec := "contestSheets", inPlace := ["internal/abi.NoEscape", "internal/bytealg.MakeNoZero"], unfollowed := true, recurses := true, named := ["internal/strconv.uint64pow10", "math/bits.deBruijn32tab", "math/bits.deBruijn64tab"], apart := false, laid := [("math/bits.deBruijn32tab", laid_math_bits_deBruijn32tab), ("math/bits.deBruijn64tab", laid_math_bits_deBruijn64tab), ("internal/strconv.uint64pow10", laid_internal_strconv_uint64pow10)], narrowed := true }
def ContestSheetsUptoSaid : Prop := contestSheetsUptoRow.holds Tryz.pinned (OpenSpec.upto contestSheetsSpec)

/-- 'cruxlaw05.ContestRulings', WHERE WHAT IT READS IS OF BULK AT MOST 1048576: true; the input reads as it did. -/
def contestRulingsUptoRow : OpenClaim := { program := "ytdeaibcebeofiaagreatdoor", sum := "ab0779683e71cc38de16fc87ad50facf723a8f52ccf046338eeb7ffc62fc60ae", func := "crux/cruxlaw05.ContestRulings", spec := "contestRulings", inPlace := ["internal/abi.NoEscape", "internal/bytealg.MakeNoZero"], unfollowed := true, recurses := true, named := ["internal/strconv.uint64pow10", "math/bits.deBruijn32tab", "math/bits.deBruijn64tab"], apart := false, laid := [("math/bits.deBruijn32tab", laid_math_bits_deBruijn32tab), ("math/bits.deBruijn64tab", laid_math_bits_deBruijn64tab), ("internal/strconv.uint64pow10", laid_internal_strconv_uint64pow10)], narrowed := true }
def ContestRulingsUptoSaid : Prop := contestRulingsUptoRow.holds Tryz.pinned (OpenSpec.upto contestRulingsSpec)

/-- 'cruxlaw05.ContestAgrees', WHERE WHAT IT READS IS OF BULK AT MOST 1048576: true; the input reads as it did. -/
def contestAgreesUptoRow : OpenClaim := { program := "ytdeaibcebeofiaagreatdoor", sum := "ab0779683e71cc38de16fc87ad50facf723a8f52ccf046338eeb7ffc62fc60ae", func := "crux/cruxlaw05.ContestAgrees", spec := "contestAgrees", inPlace := ["internal/abi.NoEscape", "internal/bytealg.MakeNoZero"], unfollowed := true, recurses := true, named := ["internal/strconv.uint64pow10", "math/bits.deBruijn32tab", "math/bits.deBruijn64tab"], apart := false, laid := [("math/bits.deBruijn32tab", laid_math_bits_deBruijn32tab), ("math/bits.deBruijn64tab", laid_math_bits_deBruijn64tab), ("internal/strconv.uint64pow10", laid_internal_strconv_uint64pow10)], narrowed := true }
def ContestAgreesUptoSaid : Prop := contestAgreesUptoRow.holds Tryz.pinned (OpenSpec.upto contestAgreesSpec)

end Rows
end Go.Proofs.YtdeaibcebeofiaaGreatDoor
