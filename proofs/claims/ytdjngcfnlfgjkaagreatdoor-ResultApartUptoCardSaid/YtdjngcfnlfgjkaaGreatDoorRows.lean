/-
  NARROWER THAN 'FOR EVERY INPUT', by the rows' own cells (each row's printed sentence says how): ResultRounds: laid · ResultDecides: laid · ResultOpens: laid · ResultTitles: laid · ResultNarrows: laid · ResultCompares: laid · ResultOrders: laid · ResultEliminates: laid · ResultWitnesses: laid · ResultContests: laid · ResultApart: laid · ResultEither: laid.
  DERIVED. THE GIVEN ROWS OF THIS SEAT. 12 by the template 'for every input the law returns true; each argument reads behind the call as it read before'; 0 by the template 'total and deterministic' (their statements: YtdjngcfnlfgjkaaGreatDoorTotals.lean).
  GIVEN WITH THE SEED: the statements are not yours to turn. If you find one false, say at which input.
  Laid BY PROGRAM, IN A SANDBOX (cutbox-rows.mjs): the forced cells as the released guide's own fill.sh prints them over the translation c7bc2f7e5d5726f0… (all of the seat's roots in one cut). By AI agents, Wed Nov 11 2026. No macro, syntax, notation, axiom, sorry.
-/
import Derived.Test.YtdjngcfnlfgjkaaGreatDoorChecked
import GoSem.Claim
import GoSem.ClaimJoined
import GoSem.ClaimMapViews
import Derived.JoinedTies
import Derived.KernelRfl
namespace Go.Proofs.YtdjngcfnlfgjkaaGreatDoor
/- THE CELL 'sum', in the pinned program and in every row, IS THE sha256 OF THE DUMP (.gsa) THAT YtdjngcfnlfgjkaaGreatDoorProg.lean LOADS. Nothing in Lean hashes anything: it is a label: what it is worth is what the hold of that sum in a sandbox is worth. -/
noncomputable def Tryz.pinned : Pinned := { name := "ytdjngcfnlfgjkaagreatdoor", sum := "c7bc2f7e5d5726f0e3113b6073973b5394c47567d57d791c76f6b93da3d876ec", checked := Tryz.checked }
namespace Rows
def none {H : Type} : Left H := { results := [], args := [] }

/- WHAT THE LISTED PACKAGE-LEVEL VARIABLES READ AS WHEN THE CALL BEGINS. Each datum BY PROGRAM (the guide's laid-datum.mjs) off the statement by which the dump's own 'gosem.cut.vars' lays the variable. In a bare row this is a premise. The card (YtdjngcfnlfgjkaaGreatDoorCards.lean) ties it to the program's text. -/
def laid_math_bits_deBruijn32tab {H : Type} : DataW H := .agg [.lit (.int .u8 0), .lit (.int .u8 1), .lit (.int .u8 28), .lit (.int .u8 2), .lit (.int .u8 29), .lit (.int .u8 14), .lit (.int .u8 24), .lit (.int .u8 3), .lit (.int .u8 30), .lit (.int .u8 22), .lit (.int .u8 20), .lit (.int .u8 15), .lit (.int .u8 25), .lit (.int .u8 17), .lit (.int .u8 4), .lit (.int .u8 8), .lit (.int .u8 31), .lit (.int .u8 27), .lit (.int .u8 13), .lit (.int .u8 23), .lit (.int .u8 21), .lit (.int .u8 19), .lit (.int .u8 16), .lit (.int .u8 7), .lit (.int .u8 26), .lit (.int .u8 12), .lit (.int .u8 18), .lit (.int .u8 6), .lit (.int .u8 11), .lit (.int .u8 5), .lit (.int .u8 10), .lit (.int .u8 9)]
def laid_math_bits_deBruijn64tab {H : Type} : DataW H := .agg [.lit (.int .u8 0), .lit (.int .u8 1), .lit (.int .u8 56), .lit (.int .u8 2), .lit (.int .u8 57), .lit (.int .u8 49), .lit (.int .u8 28), .lit (.int .u8 3), .lit (.int .u8 61), .lit (.int .u8 58), .lit (.int .u8 42), .lit (.int .u8 50), .lit (.int .u8 38), .lit (.int .u8 29), .lit (.int .u8 17), .lit (.int .u8 4), .lit (.int .u8 62), .lit (.int .u8 47), .lit (.int .u8 59), .lit (.int .u8 36), .lit (.int .u8 45), .lit (.int .u8 43), .lit (.int .u8 51), .lit (.int .u8 22), .lit (.int .u8 53), .lit (.int .u8 39), .lit (.int .u8 33), .lit (.int .u8 30), .lit (.int .u8 24), .lit (.int .u8 18), .lit (.int .u8 12), .lit (.int .u8 5), .lit (.int .u8 63), .lit (.int .u8 55), .lit (.int .u8 48), .lit (.int .u8 27), .lit (.int .u8 60), .lit (.int .u8 41), .lit (.int .u8 37), .lit (.int .u8 16), .lit (.int .u8 46), .lit (.int .u8 35), .lit (.int .u8 44), .lit (.int .u8 21), .lit (.int .u8 52), .lit (.int .u8 32), .lit (.int .u8 23), .lit (.int .u8 11), .lit (.int .u8 54), .lit (.int .u8 26), .lit (.int .u8 40), .lit (.int .u8 15), .lit (.int .u8 34), .lit (.int .u8 20), .lit (.int .u8 31), .lit (.int .u8 10), .lit (.int .u8 25), .lit (.int .u8 14), .lit (.int .u8 19), .lit (.int .u8 9), .lit (.int .u8 13), .lit (.int .u8 8), .lit (.int .u8 7), .lit (.int .u8 6)]
def laid_internal_strconv_uint64pow10 {H : Type} : DataW H := .agg [.lit (.int .u64 1), .lit (.int .u64 10), .lit (.int .u64 100), .lit (.int .u64 1000), .lit (.int .u64 10000), .lit (.int .u64 100000), .lit (.int .u64 1000000), .lit (.int .u64 10000000), .lit (.int .u64 100000000), .lit (.int .u64 1000000000), .lit (.int .u64 10000000000), .lit (.int .u64 100000000000), .lit (.int .u64 1000000000000), .lit (.int .u64 10000000000000), .lit (.int .u64 100000000000000), .lit (.int .u64 1000000000000000), .lit (.int .u64 10000000000000000), .lit (.int .u64 100000000000000000), .lit (.int .u64 1000000000000000000), .lit (.int .u64 10000000000000000000)]

/-- 'cruxlaw07.ResultRounds': WHATEVER THE INPUT: true; the input reads as it did. -/
def resultRoundsSpec : ChangeSpec := { name := "resultRounds", fn := fun _ => fun
  | [d1, d2] => { results := [.lit (.bool true)], args := [d1, d2] }
  | _ => none }
def resultRoundsRow : OpenClaim := { program := "ytdjngcfnlfgjkaagreatdoor", sum := "c7bc2f7e5d5726f0e3113b6073973b5394c47567d57d791c76f6b93da3d876ec", func := "crux/cruxlaw07.ResultRounds", spec := "resultRounds", inPlace := ["math/bits.Add64", "math/bits.Sub64", "internal/abi.NoEscape", "internal/bytealg.MakeNoZero"], unfollowed := true, recurses := true, named := ["math/bits.divideError", "math/bits.overflowError", "internal/strconv.uint64pow10", "math/bits.deBruijn32tab", "math/bits.deBruijn64tab"], apart := false, laid := [("math/bits.deBruijn32tab", laid_math_bits_deBruijn32tab), ("math/bits.deBruijn64tab", laid_math_bits_deBruijn64tab), ("internal/strconv.uint64pow10", laid_internal_strconv_uint64pow10)] }
def ResultRoundsSaid : Prop := resultRoundsRow.holds Tryz.pinned (OpenSpec.ofChange resultRoundsSpec)

/-- ITS FALSE NEIGHBOUR: 'it returns false'. Refute it at one input. -/
def resultRoundsWrong : ChangeSpec := { name := "resultRounds", fn := fun _ => fun
  | [d1, d2] => { results := [.lit (.bool false)], args := [d1, d2] }
  | _ => none }
def ResultRoundsWrongFalsely : Prop := resultRoundsRow.holds Tryz.pinned (OpenSpec.ofChange resultRoundsWrong)

/-- 'cruxlaw07.ResultDecides': WHATEVER THE INPUT: true; the input reads as it did. -/
def resultDecidesSpec : ChangeSpec := { name := "resultDecides", fn := fun _ => fun
  | [d1, d2, d3] => { results := [.lit (.bool true)], args := [d1, d2, d3] }
  | _ => none }
def resultDecidesRow : OpenClaim := { program := "ytdjngcfnlfgjkaagreatdoor", sum := "c7bc2f7e5d5726f0e3113b6073973b5394c47567d57d791c76f6b93da3d876ec", func := "crux/cruxlaw07.ResultDecides", spec := "resultDecides", inPlace := ["math/bits.Add64", "math/bits.Sub64", "internal/abi.NoEscape", "internal/bytealg.MakeNoZero"], unfollowed := true, recurses := true, named := ["math/bits.divideError", "math/bits.overflowError", "internal/strconv.uint64pow10", "math/bits.deBruijn32tab", "math/bits.deBruijn64tab"], apart := false, laid := [("math/bits.deBruijn32tab", laid_math_bits_deBruijn32tab), ("math/bits.deBruijn64tab", laid_math_bits_deBruijn64tab), ("internal/strconv.uint64pow10", laid_internal_strconv_uint64pow10)] }
def ResultDecidesSaid : Prop := resultDecidesRow.holds Tryz.pinned (OpenSpec.ofChange resultDecidesSpec)

/-- ITS FALSE NEIGHBOUR: 'it returns false'. Refute it at one input. -/
def resultDecidesWrong : ChangeSpec := { name := "resultDecides", fn := fun _ => fun
  | [d1, d2, d3] => { results := [.lit (.bool false)], args := [d1, d2, d3] }
  | _ => none }
def ResultDecidesWrongFalsely : Prop := resultDecidesRow.holds Tryz.pinned (OpenSpec.ofChange resultDecidesWrong)

/-- 'cruxlaw07.ResultOpens': WHATEVER THE INPUT: true; the input reads as it did. -/
def resultOpensSpec : ChangeSpec := { name := "resultOpens", fn := fun _ => fun
  | [d1, d2] => { results := [.lit (.bool true)], args := [d1, d2] }
  | _ => none }
def resultOpensRow : OpenClaim := { program := "ytdjngcfnlfgjkaagreatdoor", sum := "c7bc2f7e5d5726f0e3113b6073973b5394c47567d57d791c76f6b93da3d876ec", func := "crux/cruxlaw07.ResultOpens", spec := "resultOpens", inPlace := ["math/bits.Add64", "math/bits.Sub64", "internal/abi.NoEscape", "internal/bytealg.MakeNoZero"], unfollowed := true, recurses := true, named := ["math/bits.divideError", "math/bits.overflowError", "internal/strconv.uint64pow10", "math/bits.deBruijn32tab", "math/bits.deBruijn64tab"], apart := false, laid := [("math/bits.deBruijn32tab", laid_math_bits_deBruijn32tab), ("math/bits.deBruijn64tab", laid_math_bits_deBruijn64tab), ("internal/strconv.uint64pow10", laid_internal_strconv_uint64pow10)] }
def ResultOpensSaid : Prop := resultOpensRow.holds Tryz.pinned (OpenSpec.ofChange resultOpensSpec)

/-- ITS FALSE NEIGHBOUR: 'it returns false'. Refute it at one input. -/
def resultOpensWrong : ChangeSpec := { name := "resultOpens", fn := fun _ => fun
  | [d1, d2] => { results := [.lit (.bool false)], args := [d1, d2] }
  | _ => none }
def ResultOpensWrongFalsely : Prop := resultOpensRow.holds Tryz.pinned (OpenSpec.ofChange resultOpensWrong)

/-- 'cruxlaw07.ResultTitles': WHATEVER THE INPUT: true; the input reads as it did. -/
def resultTitlesSpec : ChangeSpec := { name := "resultTitles", fn := fun _ => fun
  | [d1, d2, d3] => { results := [.lit (.bool true)], args := [d1, d2, d3] }
  | _ => none }
def resultTitlesRow : OpenClaim := { program := "ytdjngcfnlfgjkaagreatdoor", sum := "c7bc2f7e5d5726f0e3113b6073973b5394c47567d57d791c76f6b93da3d876ec", func := "crux/cruxlaw07.ResultTitles", spec := "resultTitles", inPlace := ["math/bits.Add64", "math/bits.Sub64", "internal/abi.NoEscape", "internal/bytealg.MakeNoZero"], unfollowed := true, recurses := true, named := ["math/bits.divideError", "math/bits.overflowError", "internal/strconv.uint64pow10", "math/bits.deBruijn32tab", "math/bits.deBruijn64tab"], apart := false, laid := [("math/bits.deBruijn32tab", laid_math_bits_deBruijn32tab), ("math/bits.deBruijn64tab", laid_math_bits_deBruijn64tab), ("internal/strconv.uint64pow10", laid_internal_strconv_uint64pow10)] }
def ResultTitlesSaid : Prop := resultTitlesRow.holds Tryz.pinned (OpenSpec.ofChange resultTitlesSpec)

/-- ITS FALSE NEIGHBOUR: 'it returns false'. Refute it at one input. -/
def resultTitlesWrong : ChangeSpec := { name := "resultTitles", fn := fun _ => fun
  | [d1, d2, d3] => { results := [.lit (.bool false)], args := [d1, d2, d3] }
  | _ => none }
def ResultTitlesWrongFalsely : Prop := resultTitlesRow.holds Tryz.pinned (OpenSpec.ofChange resultTitlesWrong)

/-- 'cruxlaw07.ResultNarrows': WHATEVER THE INPUT: true; the input reads as it did. -/
def resultNarrowsSpec : ChangeSpec := { name := "resultNarrows", fn := fun _ => fun
  | [d1, d2, d3] => { results := [.lit (.bool true)], args := [d1, d2, d3] }
  | _ => none }
def resultNarrowsRow : OpenClaim := { program := "ytdjngcfnlfgjkaagreatdoor", sum := "c7bc2f7e5d5726f0e3113b6073973b5394c47567d57d791c76f6b93da3d876ec", func := "crux/cruxlaw07.ResultNarrows", spec := "resultNarrows", inPlace := ["math/bits.Add64", "math/bits.Sub64", "internal/abi.NoEscape", "internal/bytealg.MakeNoZero"], unfollowed := true, recurses := true, named := ["math/bits.divideError", "math/bits.overflowError", "internal/strconv.uint64pow10", "math/bits.deBruijn32tab", "math/bits.deBruijn64tab"], apart := false, laid := [("math/bits.deBruijn32tab", laid_math_bits_deBruijn32tab), ("math/bits.deBruijn64tab", laid_math_bits_deBruijn64tab), ("internal/strconv.uint64pow10", laid_internal_strconv_uint64pow10)] }
def ResultNarrowsSaid : Prop := resultNarrowsRow.holds Tryz.pinned (OpenSpec.ofChange resultNarrowsSpec)

/-- ITS FALSE NEIGHBOUR: 'it returns false'. Refute it at one input. -/
def resultNarrowsWrong : ChangeSpec := { name := "resultNarrows", fn := fun _ => fun
  | [d1, d2, d3] => { results := [.lit (.bool false)], args := [d1, d2, d3] }
  | _ => none }
def ResultNarrowsWrongFalsely : Prop := resultNarrowsRow.holds Tryz.pinned (OpenSpec.ofChange resultNarrowsWrong)

/-- 'cruxlaw07.ResultCompares': WHATEVER THE INPUT: true; the input reads as it did. -/
def resultComparesSpec : ChangeSpec := { name := "resultCompares", fn := fun _ => fun
  | [d1, d2] => { results := [.lit (.bool true)], args := [d1, d2] }
  | _ => none }
def resultComparesRow : OpenClaim := { program := "ytdjngcfnlfgjkaagreatdoor", sum := "c7bc2f7e5d5726f0e3113b6073973b5394c47567d57d791c76f6b93da3d876ec", func := "crux/cruxlaw07.ResultCompares", spec := "resultCompares", inPlace := ["math/bits.Add64", "math/bits.Sub64", "internal/abi.NoEscape", "internal/bytealg.MakeNoZero"], unfollowed := true, recurses := true, named := ["math/bits.divideError", "math/bits.overflowError", "internal/strconv.uint64pow10", "math/bits.deBruijn32tab", "math/bits.deBruijn64tab"], apart := false, laid := [("math/bits.deBruijn32tab", laid_math_bits_deBruijn32tab), ("math/bits.deBruijn64tab", laid_math_bits_deBruijn64tab), ("internal/strconv.uint64pow10", laid_internal_strconv_uint64pow10)] }
def ResultComparesSaid : Prop := resultComparesRow.holds Tryz.pinned (OpenSpec.ofChange resultComparesSpec)

/-- ITS FALSE NEIGHBOUR: 'it returns false'. Refute it at one input. -/
def resultComparesWrong : ChangeSpec := { name := "resultCompares", fn := fun _ => fun
  | [d1, d2] => { results := [.lit (.bool false)], args := [d1, d2] }
  | _ => none }
def ResultComparesWrongFalsely : Prop := resultComparesRow.holds Tryz.pinned (OpenSpec.ofChange resultComparesWrong)

/-- 'cruxlaw07.ResultOrders': WHATEVER THE INPUT: true; the input reads as it did. -/
def resultOrdersSpec : ChangeSpec := { name := "resultOrders", fn := fun _ => fun
  | [d1, d2] => { results := [.lit (.bool true)], args := [d1, d2] }
  | _ => none }
def resultOrdersRow : OpenClaim := { program := "ytdjngcfnlfgjkaagreatdoor", sum := "c7bc2f7e5d5726f0e3113b6073973b5394c47567d57d791c76f6b93da3d876ec", func := "crux/cruxlaw07.ResultOrders", spec := "resultOrders", inPlace := ["math/bits.Add64", "math/bits.Sub64", "internal/abi.NoEscape", "internal/bytealg.MakeNoZero"], unfollowed := true, recurses := true, named := ["math/bits.divideError", "math/bits.overflowError", "internal/strconv.uint64pow10", "math/bits.deBruijn32tab", "math/bits.deBruijn64tab"], apart := false, laid := [("math/bits.deBruijn32tab", laid_math_bits_deBruijn32tab), ("math/bits.deBruijn64tab", laid_math_bits_deBruijn64tab), ("internal/strconv.uint64pow10", laid_internal_strconv_uint64pow10)] }
def ResultOrdersSaid : Prop := resultOrdersRow.holds Tryz.pinned (OpenSpec.ofChange resultOrdersSpec)

/-- ITS FALSE NEIGHBOUR: 'it returns false'. Refute it at one input. -/
def resultOrdersWrong : ChangeSpec := { name := "resultOrders", fn := fun _ => fun
  | [d1, d2] => { results := [.lit (.bool false)], args := [d1, d2] }
  | _ => none }
def ResultOrdersWrongFalsely : Prop := resultOrdersRow.holds Tryz.pinned (OpenSpec.ofChange resultOrdersWrong)

/-- 'cruxlaw07.ResultEliminates': WHATEVER THE INPUT: true; the input reads as it did. -/
def resultEliminatesSpec : ChangeSpec := { name := "resultEliminates", fn := fun _ => fun
  | [d1, d2, d3] => { results := [.lit (.bool true)], args := [d1, d2, d3] }
  | _ => none }
def resultEliminatesRow : OpenClaim := { program := "ytdjngcfnlfgjkaagreatdoor", sum := "c7bc2f7e5d5726f0e3113b6073973b5394c47567d57d791c76f6b93da3d876ec", func := "crux/cruxlaw07.ResultEliminates", spec := "resultEliminates", inPlace := ["math/bits.Add64", "math/bits.Sub64", "internal/abi.NoEscape", "internal/bytealg.MakeNoZero"], unfollowed := true, recurses := true, named := ["math/bits.divideError", "math/bits.overflowError", "internal/strconv.uint64pow10", "math/bits.deBruijn32tab", "math/bits.deBruijn64tab"], apart := false, laid := [("math/bits.deBruijn32tab", laid_math_bits_deBruijn32tab), ("math/bits.deBruijn64tab", laid_math_bits_deBruijn64tab), ("internal/strconv.uint64pow10", laid_internal_strconv_uint64pow10)] }
def ResultEliminatesSaid : Prop := resultEliminatesRow.holds Tryz.pinned (OpenSpec.ofChange resultEliminatesSpec)

/-- ITS FALSE NEIGHBOUR: 'it returns false'. Refute it at one input. -/
def resultEliminatesWrong : ChangeSpec := { name := "resultEliminates", fn := fun _ => fun
  | [d1, d2, d3] => { results := [.lit (.bool false)], args := [d1, d2, d3] }
  | _ => none }
def ResultEliminatesWrongFalsely : Prop := resultEliminatesRow.holds Tryz.pinned (OpenSpec.ofChange resultEliminatesWrong)

/-- 'cruxlaw07.ResultWitnesses': WHATEVER THE INPUT: true; the input reads as it did. -/
def resultWitnessesSpec : ChangeSpec := { name := "resultWitnesses", fn := fun _ => fun
  | [d1, d2, d3] => { results := [.lit (.bool true)], args := [d1, d2, d3] }
  | _ => none }
def resultWitnessesRow : OpenClaim := { program := "ytdjngcfnlfgjkaagreatdoor", sum := "c7bc2f7e5d5726f0e3113b6073973b5394c47567d57d791c76f6b93da3d876ec", func := "crux/cruxlaw07.ResultWitnesses", spec := "resultWitnesses", inPlace := ["math/bits.Add64", "math/bits.Sub64", "internal/abi.NoEscape", "internal/bytealg.MakeNoZero"], unfollowed := true, recurses := true, named := ["math/bits.divideError", "math/bits.overflowError", "internal/strconv.uint64pow10", "math/bits.deBruijn32tab", "math/bits.deBruijn64tab"], apart := false, laid := [("math/bits.deBruijn32tab", laid_math_bits_deBruijn32tab), ("math/bits.deBruijn64tab", laid_math_bits_deBruijn64tab), ("internal/strconv.uint64pow10", laid_internal_strconv_uint64pow10)] }
def ResultWitnessesSaid : Prop := resultWitnessesRow.holds Tryz.pinned (OpenSpec.ofChange resultWitnessesSpec)

/-- ITS FALSE NEIGHBOUR: 'it returns false'. Refute it at one input. -/
def resultWitnessesWrong : ChangeSpec := { name := "resultWitnesses", fn := fun _ => fun
  | [d1, d2, d3] => { results := [.lit (.bool false)], args := [d1, d2, d3] }
  | _ => none }
def ResultWitnessesWrongFalsely : Prop := resultWitnessesRow.holds Tryz.pinned (OpenSpec.ofChange resultWitnessesWrong)

/-- 'cruxlaw07.ResultContests': WHATEVER THE INPUT: true; the input reads as it did. -/
def resultContestsSpec : ChangeSpec := { name := "resultContests", fn := fun _ => fun
  | [d] => { results := [.lit (.bool true)], args := [d] }
  | _ => none }
def resultContestsRow : OpenClaim := { program := "ytdjngcfnlfgjkaagreatdoor", sum := "c7bc2f7e5d5726f0e3113b6073973b5394c47567d57d791c76f6b93da3d876ec", func := "crux/cruxlaw07.ResultContests", spec := "resultContests", inPlace := ["math/bits.Add64", "math/bits.Sub64", "internal/abi.NoEscape", "internal/bytealg.MakeNoZero"], unfollowed := true, recurses := true, named := ["math/bits.divideError", "math/bits.overflowError", "internal/strconv.uint64pow10", "math/bits.deBruijn32tab", "math/bits.deBruijn64tab"], apart := false, laid := [("math/bits.deBruijn32tab", laid_math_bits_deBruijn32tab), ("math/bits.deBruijn64tab", laid_math_bits_deBruijn64tab), ("internal/strconv.uint64pow10", laid_internal_strconv_uint64pow10)] }
def ResultContestsSaid : Prop := resultContestsRow.holds Tryz.pinned (OpenSpec.ofChange resultContestsSpec)

/-- ITS FALSE NEIGHBOUR: 'it returns false'. Refute it at one input. -/
def resultContestsWrong : ChangeSpec := { name := "resultContests", fn := fun _ => fun
  | [d] => { results := [.lit (.bool false)], args := [d] }
  | _ => none }
def ResultContestsWrongFalsely : Prop := resultContestsRow.holds Tryz.pinned (OpenSpec.ofChange resultContestsWrong)

/-- 'cruxlaw07.ResultApart': WHATEVER THE INPUT: true; the input reads as it did. -/
def resultApartSpec : ChangeSpec := { name := "resultApart", fn := fun _ => fun
  | [d] => { results := [.lit (.bool true)], args := [d] }
  | _ => none }
def resultApartRow : OpenClaim := { program := "ytdjngcfnlfgjkaagreatdoor", sum := "c7bc2f7e5d5726f0e3113b6073973b5394c47567d57d791c76f6b93da3d876ec", func := "crux/cruxlaw07.ResultApart", spec := "resultApart", inPlace := ["math/bits.Add64", "math/bits.Sub64", "internal/abi.NoEscape", "internal/bytealg.MakeNoZero"], unfollowed := true, recurses := true, named := ["math/bits.divideError", "math/bits.overflowError", "internal/strconv.uint64pow10", "math/bits.deBruijn32tab", "math/bits.deBruijn64tab"], apart := false, laid := [("math/bits.deBruijn32tab", laid_math_bits_deBruijn32tab), ("math/bits.deBruijn64tab", laid_math_bits_deBruijn64tab), ("internal/strconv.uint64pow10", laid_internal_strconv_uint64pow10)] }
def ResultApartSaid : Prop := resultApartRow.holds Tryz.pinned (OpenSpec.ofChange resultApartSpec)

/-- ITS FALSE NEIGHBOUR: 'it returns false'. Refute it at one input. -/
def resultApartWrong : ChangeSpec := { name := "resultApart", fn := fun _ => fun
  | [d] => { results := [.lit (.bool false)], args := [d] }
  | _ => none }
def ResultApartWrongFalsely : Prop := resultApartRow.holds Tryz.pinned (OpenSpec.ofChange resultApartWrong)

/-- 'cruxlaw07.ResultEither': WHATEVER THE INPUT: true; the input reads as it did. -/
def resultEitherSpec : ChangeSpec := { name := "resultEither", fn := fun _ => fun
  | [d1, d2, d3] => { results := [.lit (.bool true)], args := [d1, d2, d3] }
  | _ => none }
def resultEitherRow : OpenClaim := { program := "ytdjngcfnlfgjkaagreatdoor", sum := "c7bc2f7e5d5726f0e3113b6073973b5394c47567d57d791c76f6b93da3d876ec", func := "crux/cruxlaw07.ResultEither", spec := "resultEither", inPlace := ["math/bits.Add64", "math/bits.Sub64", "internal/abi.NoEscape", "internal/bytealg.MakeNoZero"], unfollowed := true, recurses := true, named := ["math/bits.divideError", "math/bits.overflowError", "internal/strconv.uint64pow10", "math/bits.deBruijn32tab", "math/bits.deBruijn64tab"], apart := false, laid := [("math/bits.deBruijn32tab", laid_math_bits_deBruijn32tab), ("math/bits.deBruijn64tab", laid_math_bits_deBruijn64tab), ("internal/strconv.uint64pow10", laid_internal_strconv_uint64pow10)] }
def ResultEitherSaid : Prop := resultEitherRow.holds Tryz.pinned (OpenSpec.ofChange resultEitherSpec)

/-- ITS FALSE NEIGHBOUR: 'it returns false'. Refute it at one input. -/
def resultEitherWrong : ChangeSpec := { name := "resultEither", fn := fun _ => fun
  | [d1, d2, d3] => { results := [.lit (.bool false)], args := [d1, d2, d3] }
  | _ => none }
def ResultEitherWrongFalsely : Prop := resultEitherRow.holds Tryz.pinned (OpenSpec.ofChange resultEitherWrong)

/- THE SECOND FORM. 'bulk': how many values and letters a reading holds, each counted each time it is reached (what is shared counts as often as it is met; a slice's spare places count too). A statement '..UptoSaid' is the law's where the arguments, and the package variables that the reading takes, are together of bulk at most 1048576: NARROWER than '..Said'. Prove '..Said' where nothing that the law and all that it calls make is longer than what came in: it says more and counts as full. Else prove '..UptoSaid'. A law counts once. -/
mutual
def uptoBulk {H : Type} : DataW H → Nat
  | .lit (.string bytes) => bytes.length + 1
  | .lit _ => 1
  | .nil => 1
  | .ptr d => uptoBulk d + 1
  | .slice elems spare => uptoBulkAll elems + uptoBulkAll spare + 1
  | .agg parts => uptoBulkAll parts + 1
  | .iface _ d => uptoBulk d + 1
  | .map entries => uptoBulkEntries entries + 1
  | .held _ => 1
def uptoBulkAll {H : Type} : List (DataW H) → Nat
  | [] => 0
  | d :: r => uptoBulk d + uptoBulkAll r
def uptoBulkEntries {H : Type} : List (Lit × DataW H) → Nat
  | [] => 0
  | x :: r => uptoBulkEntry x + uptoBulkEntries r
def uptoBulkEntry {H : Type} : Lit × DataW H → Nat
  | (.string bytes, d) => bytes.length + uptoBulk d + 1
  | (_, d) => uptoBulk d + 1
 end
def uptoSmall : (H : Type) → List (DataW H) → Bool := fun _ ds => decide (uptoBulkAll ds ≤ 1048576)
def OpenSpec.upto (s : _root_.Go.ChangeSpec) : _root_.Go.OpenSpec := { _root_.Go.OpenSpec.ofChange s with cond := some uptoSmall }

/-- 'cruxlaw07.ResultRounds', WHERE WHAT IT READS IS OF BULK AT MOST 1048576: true; the input reads as it did. -/
def resultRoundsUptoRow : OpenClaim := { program := "ytdjngcfnlfgjkaagreatdoor", sum := "c7bc2f7e5d5726f0e3113b6073973b5394c47567d57d791c76f6b93da3d876ec", func := "crux/cruxlaw07.ResultRounds", spec := "resultRounds", inPlace := ["math/bits.Add64", "math/bits.Sub64", "internal/abi.NoEscape", "internal/bytealg.MakeNoZero"], unfollowed := true, recurses := true, named := ["math/bits.divideError", "math/bits.overflowError", "internal/strconv.uint64pow10", "math/bits.deBruijn32tab", "math/bits.deBruijn64tab"], apart := false, laid := [("math/bits.deBruijn32tab", laid_math_bits_deBruijn32tab), ("math/bits.deBruijn64tab", laid_math_bits_deBruijn64tab), ("internal/strconv.uint64pow10", laid_internal_strconv_uint64pow10)], narrowed := true }
def ResultRoundsUptoSaid : Prop := resultRoundsUptoRow.holds Tryz.pinned (OpenSpec.upto resultRoundsSpec)

/-- 'cruxlaw07.ResultDecides', WHERE WHAT IT READS IS OF BULK AT MOST 1048576: true; the input reads as it did. -/
def resultDecidesUptoRow : OpenClaim := { program := "ytdjngcfnlfgjkaagreatdoor", sum := "c7bc2f7e5d5726f0e3113b6073973b5394c47567d57d791c76f6b93da3d876ec", func := "crux/cruxlaw07.ResultDecides", spec := "resultDecides", inPlace := ["math/bits.Add64", "math/bits.Sub64", "internal/abi.NoEscape", "internal/bytealg.MakeNoZero"], unfollowed := true, recurses := true, named := ["math/bits.divideError", "math/bits.overflowError", "internal/strconv.uint64pow10", "math/bits.deBruijn32tab", "math/bits.deBruijn64tab"], apart := false, laid := [("math/bits.deBruijn32tab", laid_math_bits_deBruijn32tab), ("math/bits.deBruijn64tab", laid_math_bits_deBruijn64tab), ("internal/strconv.uint64pow10", laid_internal_strconv_uint64pow10)], narrowed := true }
def ResultDecidesUptoSaid : Prop := resultDecidesUptoRow.holds Tryz.pinned (OpenSpec.upto resultDecidesSpec)

/-- 'cruxlaw07.ResultOpens', WHERE WHAT IT READS IS OF BULK AT MOST 1048576: true; the input reads as it did. -/
def resultOpensUptoRow : OpenClaim := { program := "ytdjngcfnlfgjkaagreatdoor", sum := "c7bc2f7e5d5726f0e3113b6073973b5394c47567d57d791c76f6b93da3d876ec", func := "crux/cruxlaw07.ResultOpens", spec := "resultOpens", inPlace := ["math/bits.Add64", "math/bits.Sub64", "internal/abi.NoEscape", "internal/bytealg.MakeNoZero"], unfollowed := true, recurses := true, named := ["math/bits.divideError", "math/bits.overflowError", "internal/strconv.uint64pow10", "math/bits.deBruijn32tab", "math/bits.deBruijn64tab"], apart := false, laid := [("math/bits.deBruijn32tab", laid_math_bits_deBruijn32tab), ("math/bits.deBruijn64tab", laid_math_bits_deBruijn64tab), ("internal/strconv.uint64pow10", laid_internal_strconv_uint64pow10)], narrowed := true }
def ResultOpensUptoSaid : Prop := resultOpensUptoRow.holds Tryz.pinned (OpenSpec.upto resultOpensSpec)

/-- 'cruxlaw07.ResultTitles', WHERE WHAT IT READS IS OF BULK AT MOST 1048576: true; the input reads as it did. -/
def resultTitlesUptoRow : OpenClaim := { program := "ytdjngcfnlfgjkaagreatdoor", sum := "c7bc2f7e5d5726f0e3113b6073973b5394c47567d57d791c76f6b93da3d876ec", func := "crux/cruxlaw07.ResultTitles", spec := "resultTitles", inPlace := ["math/bits.Add64", "math/bits.Sub64", "internal/abi.NoEscape", "internal/bytealg.MakeNoZero"], unfollowed := true, recurses := true, named := ["math/bits.divideError", "math/bits.overflowError", "internal/strconv.uint64pow10", "math/bits.deBruijn32tab", "math/bits.deBruijn64tab"], apart := false, laid := [("math/bits.deBruijn32tab", laid_math_bits_deBruijn32tab), ("math/bits.deBruijn64tab", laid_math_bits_deBruijn64tab), ("internal/strconv.uint64pow10", laid_internal_strconv_uint64pow10)], narrowed := true }
def ResultTitlesUptoSaid : Prop := resultTitlesUptoRow.holds Tryz.pinned (OpenSpec.upto resultTitlesSpec)

/-- 'cruxlaw07.ResultNarrows', WHERE WHAT IT READS IS OF BULK AT MOST 1048576: true; the input reads as it did. -/
def resultNarrowsUptoRow : OpenClaim := { program := "ytdjngcfnlfgjkaagreatdoor", sum := "c7bc2f7e5d5726f0e3113b6073973b5394c47567d57d791c76f6b93da3d876ec", func := "crux/cruxlaw07.ResultNarrows", spec := "resultNarrows", inPlace := ["math/bits.Add64", "math/bits.Sub64", "internal/abi.NoEscape", "internal/bytealg.MakeNoZero"], unfollowed := true, recurses := true, named := ["math/bits.divideError", "math/bits.overflowError", "internal/strconv.uint64pow10", "math/bits.deBruijn32tab", "math/bits.deBruijn64tab"], apart := false, laid := [("math/bits.deBruijn32tab", laid_math_bits_deBruijn32tab), ("math/bits.deBruijn64tab", laid_math_bits_deBruijn64tab), ("internal/strconv.uint64pow10", laid_internal_strconv_uint64pow10)], narrowed := true }
def ResultNarrowsUptoSaid : Prop := resultNarrowsUptoRow.holds Tryz.pinned (OpenSpec.upto resultNarrowsSpec)

/-- 'cruxlaw07.ResultCompares', WHERE WHAT IT READS IS OF BULK AT MOST 1048576: true; the input reads as it did. -/
def resultComparesUptoRow : OpenClaim := { program := "ytdjngcfnlfgjkaagreatdoor", sum := "c7bc2f7e5d5726f0e3113b6073973b5394c47567d57d791c76f6b93da3d876ec", func := "crux/cruxlaw07.ResultCompares", spec := "resultCompares", inPlace := ["math/bits.Add64", "math/bits.Sub64", "internal/abi.NoEscape", "internal/bytealg.MakeNoZero"], unfollowed := true, recurses := true, named := ["math/bits.divideError", "math/bits.overflowError", "internal/strconv.uint64pow10", "math/bits.deBruijn32tab", "math/bits.deBruijn64tab"], apart := false, laid := [("math/bits.deBruijn32tab", laid_math_bits_deBruijn32tab), ("math/bits.deBruijn64tab", laid_math_bits_deBruijn64tab), ("internal/strconv.uint64pow10", laid_internal_strconv_uint64pow10)], narrowed := true }
def ResultComparesUptoSaid : Prop := resultComparesUptoRow.holds Tryz.pinned (OpenSpec.upto resultComparesSpec)

/-- 'cruxlaw07.ResultOrders', WHERE WHAT IT READS IS OF BULK AT MOST 1048576: true; the input reads as it did. -/
def resultOrdersUptoRow : OpenClaim := { program := "ytdjngcfnlfgjkaagreatdoor", sum := "c7bc2f7e5d5726f0e3113b6073973b5394c47567d57d791c76f6b93da3d876ec", func := "crux/cruxlaw07.ResultOrders", spec := "resultOrders", inPlace := ["math/bits.Add64", "math/bits.Sub64", "internal/abi.NoEscape", "internal/bytealg.MakeNoZero"], unfollowed := true, recurses := true, named := ["math/bits.divideError", "math/bits.overflowError", "internal/strconv.uint64pow10", "math/bits.deBruijn32tab", "math/bits.deBruijn64tab"], apart := false, laid := [("math/bits.deBruijn32tab", laid_math_bits_deBruijn32tab), ("math/bits.deBruijn64tab", laid_math_bits_deBruijn64tab), ("internal/strconv.uint64pow10", laid_internal_strconv_uint64pow10)], narrowed := true }
def ResultOrdersUptoSaid : Prop := resultOrdersUptoRow.holds Tryz.pinned (OpenSpec.upto resultOrdersSpec)

/-- 'cruxlaw07.ResultEliminates', WHERE WHAT IT READS IS OF BULK AT MOST 1048576: true; the input reads as it did. -/
def resultEliminatesUptoRow : OpenClaim := { program := "ytdjngcfnlfgjkaagreatdoor", sum := "c7bc2f7e5d5726f0e3113b6073973b5394c47567d57d791c76f6b93da3d876ec", func := "crux/cruxlaw07.ResultEliminates", spec := "resultEliminates", inPlace := ["math/bits.Add64", "math/bits.Sub64", "internal/abi.NoEscape", "internal/bytealg.MakeNoZero"], unfollowed := true, recurses := true, named := ["math/bits.divideError", "math/bits.overflowError", "internal/strconv.uint64pow10", "math/bits.deBruijn32tab", "math/bits.deBruijn64tab"], apart := false, laid := [("math/bits.deBruijn32tab", laid_math_bits_deBruijn32tab), ("math/bits.deBruijn64tab", laid_math_bits_deBruijn64tab), ("internal/strconv.uint64pow10", laid_internal_strconv_uint64pow10)], narrowed := true }
def ResultEliminatesUptoSaid : Prop := resultEliminatesUptoRow.holds Tryz.pinned (OpenSpec.upto resultEliminatesSpec)

/-- 'cruxlaw07.ResultWitnesses', WHERE WHAT IT READS IS OF BULK AT MOST 1048576: true; the input reads as it did. -/
def resultWitnessesUptoRow : OpenClaim := { program := "ytdjngcfnlfgjkaagreatdoor", sum := "c7bc2f7e5d5726f0e3113b6073973b5394c47567d57d791c76f6b93da3d876ec", func := "crux/cruxlaw07.ResultWitnesses", spec := "resultWitnesses", inPlace := ["math/bits.Add64", "math/bits.Sub64", "internal/abi.NoEscape", "internal/bytealg.MakeNoZero"], unfollowed := true, recurses := true, named := ["math/bits.divideError", "math/bits.overflowError", "internal/strconv.uint64pow10", "math/bits.deBruijn32tab", "math/bits.deBruijn64tab"], apart := false, laid := [("math/bits.deBruijn32tab", laid_math_bits_deBruijn32tab), ("math/bits.deBruijn64tab", laid_math_bits_deBruijn64tab), ("internal/strconv.uint64pow10", laid_internal_strconv_uint64pow10)], narrowed := true }
def ResultWitnessesUptoSaid : Prop := resultWitnessesUptoRow.holds Tryz.pinned (OpenSpec.upto resultWitnessesSpec)

/-- 'cruxlaw07.ResultContests', WHERE WHAT IT READS IS OF BULK AT MOST 1048576: true; the input reads as it did. -/
def resultContestsUptoRow : OpenClaim := { program := "ytdjngcfnlfgjkaagreatdoor", sum := "c7bc2f7e5d5726f0e3113b6073973b5394c47567d57d791c76f6b93da3d876ec", func := "crux/cruxlaw07.ResultContests", spec := "resultContests", inPlace := ["math/bits.Add64", "math/bits.Sub64", "internal/abi.NoEscape", "internal/bytealg.MakeNoZero"], unfollowed := true, recurses := true, named := ["math/bits.divideError", "math/bits.overflowError", "internal/strconv.uint64pow10", "math/bits.deBruijn32tab", "math/bits.deBruijn64tab"], apart := false, laid := [("math/bits.deBruijn32tab", laid_math_bits_deBruijn32tab), ("math/bits.deBruijn64tab", laid_math_bits_deBruijn64tab), ("internal/strconv.uint64pow10", laid_internal_strconv_uint64pow10)], narrowed := true }
def ResultContestsUptoSaid : Prop := resultContestsUptoRow.holds Tryz.pinned (OpenSpec.upto resultContestsSpec)

/-- 'cruxlaw07.ResultApart', WHERE WHAT IT READS IS OF BULK AT MOST 1048576: true; the input reads as it did. -/
def resultApartUptoRow : OpenClaim := { program := "ytdjngcfnlfgjkaagreatdoor", sum := "c7bc2f7e5d5726f0e3113b6073973b5394c47567d57d791c76f6b93da3d876ec", func := "crux/cruxlaw07.ResultApart", spec := "resultApart", inPlace := ["math/bits.Add64", "math/bits.Sub64", "internal/abi.NoEscape", "internal/bytealg.MakeNoZero"], unfollowed := true, recurses := true, named := ["math/bits.divideError", "math/bits.overflowError", "internal/strconv.uint64pow10", "math/bits.deBruijn32tab", "math/bits.deBruijn64tab"], apart := false, laid := [("math/bits.deBruijn32tab", laid_math_bits_deBruijn32tab), ("math/bits.deBruijn64tab", laid_math_bits_deBruijn64tab), ("internal/strconv.uint64pow10", laid_internal_strconv_uint64pow10)], narrowed := true }
def ResultApartUptoSaid : Prop := resultApartUptoRow.holds Tryz.pinned (OpenSpec.upto resultApartSpec)

/-- 'cruxlaw07.ResultEither', WHERE WHAT IT READS IS OF BULK AT MOST 1048576: true; the input reads as it did. -/
def resultEitherUptoRow : OpenClaim := { program := "ytdjngcfnlfgjkaagreatdoor", sum := "c7bc2f7e5d5726f0e3113b6073973b5394c47567d57d791c76f6b93da3d876ec", func := "crux/cruxlaw07.ResultEither", spec := "resultEither", inPlace := ["math/bits.Add64", "math/bits.Sub64", "internal/abi.NoEscape", "internal/bytealg.MakeNoZero"], unfollowed := true, recurses := true, named := ["math/bits.divideError", "math/bits.overflowError", "internal/strconv.uint64pow10", "math/bits.deBruijn32tab", "math/bits.deBruijn64tab"], apart := false, laid := [("math/bits.deBruijn32tab", laid_math_bits_deBruijn32tab), ("math/bits.deBruijn64tab", laid_math_bits_deBruijn64tab), ("internal/strconv.uint64pow10", laid_internal_strconv_uint64pow10)], narrowed := true }
def ResultEitherUptoSaid : Prop := resultEitherUptoRow.holds Tryz.pinned (OpenSpec.upto resultEitherSpec)

end Rows
end Go.Proofs.YtdjngcfnlfgjkaaGreatDoor
