/-
  ContestRulings holds: the card of the second form (what is read is of bulk at most 2^20): Apply returns what the reference returns, or the first error, for every round, log and rulings.
-/
import Derived.Test.YtdeaibcebeofiaaGreatDoorF2
import Derived.Test.YtdeaibcebeofiaaGreatDoorP3
import Derived.Test.YtdeaibcebeofiaaGreatDoorLaw
import Derived.Test.YtdeaibcebeofiaaGreatDoorTie
set_option linter.unusedVariables false
set_option linter.unusedSimpArgs false
set_option linter.unusedSectionVars false
namespace Go.Proofs.YtdeaibcebeofiaaGreatDoor.C5
open Go Go.Proofs.YtdeaibcebeofiaaGreatDoor.AM Go.Proofs
set_option maxRecDepth 100000
@[simp] def e72_0 : X := (.p (.bin .leq .i64) [(.v 3), (I (256))])
@[simp] def e72_1 : X := (.agg [(I (0)), (.b false), (I (0)), (.s w3), (I (0)), (I (0))])
@[simp] def e72_2 : X := (.p (.mget true) [(.v 1), (.v 3), e72_1])
@[simp] def e72_3 : X := (.p (.fld 1) [e72_2])
@[simp] def e72_4 : X := (.p .not [e72_3])
@[simp] def e72_5 : X := (.p .ite [(.p .mhas [(.v 1), (.v 3)]), e72_4, (.b false)])
@[simp] def e72_6 : X := (.p (.fld 2) [e72_2])
@[simp] def e72_7 : X := (.p (.fld 3) [e72_2])
@[simp] def e72_8 : X := (.p (.fld 4) [e72_2])
@[simp] def e72_9 : X := (.p (.fld 5) [e72_2])
@[simp] def e72_10 : X := (.sl 4 [[e72_6, e72_7, e72_8, e72_9]])
@[simp] def e72_11 : X := (.p (.app 4) [(.v 2), e72_10])
@[simp] def e72_12 : X := (.p .len [e72_11])
@[simp] def e72_13 : X := (.p (.bin .leq .i64) [e72_12, (I (1073741824))])
@[simp] def e72_14 : X := (.p (.bin .leq .i64) [(.v 3), (.p .len [(.v 0)])])
@[simp] def e72_15 : X := (.p .ite [(.p .not [(.p .mhas [(.v 1), (.v 3)])]), e72_14, (.b false)])
@[simp] def e72_16 : X := (.p (.bin .leq .i64) [(I (0)), (.p (.bin .sub .i64) [(.v 3), (I (1))])])
@[simp] def e72_17 : X := (.p (.bin .lss .i64) [(.p (.bin .sub .i64) [(.v 3), (I (1))]), (.p .len [(.v 0)])])
@[simp] def e72_18 : X := (.p .ite [e72_16, e72_17, (.b false)])
@[simp] def e72_19 : X := (.p (.cell 0) [(.v 0), (.p (.bin .sub .i64) [(.v 3), (I (1))])])
@[simp] def e72_20 : X := (.p (.cell 1) [(.v 0), (.p (.bin .sub .i64) [(.v 3), (I (1))])])
@[simp] def e72_21 : X := (.p (.cell 2) [(.v 0), (.p (.bin .sub .i64) [(.v 3), (I (1))])])
@[simp] def e72_22 : X := (.p (.cell 3) [(.v 0), (.p (.bin .sub .i64) [(.v 3), (I (1))])])
@[simp] def e72_23 : X := (.sl 4 [[e72_19, e72_20, e72_21, e72_22]])
@[simp] def e72_24 : X := (.p (.app 4) [(.v 2), e72_23])
@[simp] def e72_25 : X := (.p .len [e72_24])
@[simp] def e72_26 : X := (.p (.bin .leq .i64) [e72_25, (I (1073741824))])
@[simp] def e72_27 : X := (.p (.call 61 0) [(.v 0), (.v 1), (.v 2), (.v 3), (.v 4)])
@[simp] def e72_28 : X := (.p (.okr [.one (.int .i64)]) [e72_27])
@[simp] def e72_29 : X := (.p (.bin .neq .i64) [e72_27, (I (0))])
@[simp] def e72_30 : X := (.p (.call 84 0) [(.v 0), (.v 1), (.v 2), (.v 3), (.v 5)])
@[simp] def e72_31 : X := (.p (.okr [.one (.int .i64)]) [e72_30])
@[simp] def e72_32 : X := (.p .ite [e72_29, (.b true), e72_31])
@[simp] def e72_33 : X := (.p (.bin .neq .i64) [e72_30, (I (0))])
@[simp] def e72_34 : X := (.p (.okr [.one (.im (.int .i64) true [(.int .i64), .bool, (.int .i64), .str, (.int .i64), (.int .i64)])]) [(.p (.call 85 0) [(.v 5)])])
@[simp] def e72_35 : X := (.p .ite [e72_33, (.b true), e72_34])
@[simp] def e72_36 : X := (.p .ite [e72_29, (.b true), e72_35])
@[simp] def e72_37 : X := (.p (.call 100000 7200) [(.v 4), (.p (.call 85 0) [(.v 5)]), .nils, (I (1))])
@[simp] def e72_38 : X := (.p (.proj 0) [e72_37])
@[simp] def e72_39 : X := (.p (.bin .eql .i64) [e72_38, (I (1))])
@[simp] def e72_40 : X := (.p .ite [e72_33, (.b true), e72_39])
@[simp] def e72_41 : X := (.p .ite [e72_29, (.b true), e72_40])
@[simp] def e72_42 : X := (.p (.proj 1) [e72_37])
@[simp] def e72_43 : X := (.p .len [e72_42])
@[simp] def e72_44 : X := (.p (.bin .gtr .i64) [e72_43, (I (256))])
@[simp] def e72_45 : X := (.p (.call 103 0) [e72_44, (I (5))])
@[simp] def e72_46 : X := (.p (.okr [.one (.int .i64)]) [e72_45])
@[simp] def e72_47 : X := (.p .ite [e72_33, (.b true), e72_46])
@[simp] def e72_48 : X := (.p .ite [e72_29, (.b true), e72_47])
@[simp] def e72_49 : X := (.p .ite [e72_33, .nils, e72_42])
@[simp] def e72_50 : X := (.p .ite [e72_29, .nils, e72_49])
@[simp] def e72_51 : X := (.p .ite [e72_33, e72_30, e72_45])
@[simp] def e72_52 : X := (.p .ite [e72_29, e72_27, e72_51])
def B7200 : Te LEnd := .ite e72_0 (
 .ite e72_5 (
 .need e72_13 (
 .ok (.again [(.v 0), (.v 1), e72_11, (.p (.bin .add .i64) [(.v 3), (I (1))])]))) (
 .ite e72_15 (
 .need e72_18 (
 .need e72_26 (
 .ok (.again [(.v 0), (.v 1), e72_24, (.p (.bin .add .i64) [(.v 3), (I (1))])])))) (
 .ok (.again [(.v 0), (.v 1), (.v 2), (.p (.bin .add .i64) [(.v 3), (I (1))])])))) (
 .ok (.out 1 [(.v 2)]))
def d7200 : LoopD := ⟨10, ⟨7200, 4, (J 1 ((.sym (.sl [(.int .i64), .str, (.int .i64), (.int .i64)]) (.v 0)) :: (J 8 ((.sym (.im (.int .i64) true [(.int .i64), .bool, (.int .i64), .str, (.int .i64), (.int .i64)]) (.v 1)) :: ((.sym (.own 1 [(.int .i64), .str, (.int .i64), (.int .i64)]) (.v 2)) :: ((.sym (.int .i64) (.v 3)) :: (J 60 []))))))), ⟨⟨4, [], [[]], none⟩, [(1, .rows [(.int .i64), .str, (.int .i64), (.int .i64)] (.v 2))], []⟩,
 [(.exit 0, 1, (J 11 ((.sym (.own 1 [(.int .i64), .str, (.int .i64), (.int .i64)]) (.v 0)) :: (J 61 []))), ⟨⟨4, [], [[]], none⟩, [(1, .rows [(.int .i64), .str, (.int .i64), (.int .i64)] (.v 0))], []⟩)], [(1, [])]⟩, B7200⟩
@[simp] theorem d7200_id : d7200.L.id = 7200 := rfl
@[simp] theorem d7200_B : d7200.B = B7200 := rfl
def i72 : Inst := ⟨72, 0, [(.agg [(.sym .str (.v 0)), (.sym (.sl [.str]) (.v 1)), (.sym (.int .i64) (.v 2)), (.sym (.int .i64) (.v 3))]), (.sym (.sl [(.int .i64), .str, (.int .i64), (.int .i64)]) (.v 4)), (.sym (.sl [(.int .i64), .bool, (.int .i64), .str, (.int .i64), (.int .i64)]) (.v 5))], [.one (.sl [(.int .i64), .str, (.int .i64), (.int .i64)]), .one (.int .i64)]⟩
def s72 : List Cal := [c61, c84, c85, c103]
@[simp] theorem o72_61 (vs : List AV) : calO s72 61 0 vs = getJ (F61 vs) := by simp [s72, cal_cons, c61, i61, c84, i84, c85, i85, c103, i103]
@[simp] theorem o72_84 (vs : List AV) : calO s72 84 0 vs = getJ (F84 vs) := by simp [s72, cal_cons, c61, i61, c84, i84, c85, i85, c103, i103]
@[simp] theorem o72_85 (vs : List AV) : calO s72 85 0 vs = getJ (F85 vs) := by simp [s72, cal_cons, c61, i61, c84, i84, c85, i85, c103, i103]
@[simp] theorem o72_103 (vs : List AV) : calO s72 103 0 vs = getJ (F103 vs) := by simp [s72, cal_cons, c61, i61, c84, i84, c85, i85, c103, i103]
@[simp] def l72 : List LoopD := [d7200]
def t72 : Te AV := .need e72_28 (
 .need e72_32 (
 .need e72_36 (
 .need e72_41 (
 .need e72_48 (
 .ok (.tuple [(.sym (.sl [(.int .i64), .str, (.int .i64), (.int .i64)]) e72_50), (.sym (.int .i64) e72_52)]))))))
def F72 : List AV → Option AV := unitF (omL KK s72 l72) t72
def c72 : Cal := ⟨i72, F72⟩
theorem u72 : unitChk tab keep s72 l72 40 72 i72.pats t72 = true := by kernel_rfl
theorem q72 : Known Tryz.prog 72 := fn_known tabOf.1 (x := g72) (by kernel_rfl) (by kernel_rfl)
theorem x72 : ExtOk Tryz.prog 72 (extI i72 F72) := unit_ext tabOf.1 tabOf.2 (allX_mem (cs := s72) ⟨x61, x84, x85, x103, trivial⟩) q72 u72
@[simp] def e73_0 : X := (.p (.bin .leq .i64) [(.v 3), (I (256))])
@[simp] def e73_1 : X := (.p (.okr [.one (.int .i64)]) [(.p (.call 87 0) [(.v 1), (.v 3)])])
@[simp] def e73_2 : X := (.p (.bin .geq .i64) [(.p (.call 87 0) [(.v 1), (.v 3)]), (I (0))])
@[simp] def e73_3 : X := (.p (.bin .leq .i64) [(I (0)), (.p (.call 87 0) [(.v 1), (.v 3)])])
@[simp] def e73_4 : X := (.p (.bin .lss .i64) [(.p (.call 87 0) [(.v 1), (.v 3)]), (.p .len [(.v 1)])])
@[simp] def e73_5 : X := (.p .ite [e73_3, e73_4, (.b false)])
@[simp] def e73_6 : X := (.p (.cell 1) [(.v 1), (.p (.call 87 0) [(.v 1), (.v 3)])])
@[simp] def e73_7 : X := (.p .not [e73_6])
@[simp] def e73_8 : X := (.p (.cell 2) [(.v 1), (.p (.call 87 0) [(.v 1), (.v 3)])])
@[simp] def e73_9 : X := (.p (.cell 3) [(.v 1), (.p (.call 87 0) [(.v 1), (.v 3)])])
@[simp] def e73_10 : X := (.p (.cell 4) [(.v 1), (.p (.call 87 0) [(.v 1), (.v 3)])])
@[simp] def e73_11 : X := (.p (.cell 5) [(.v 1), (.p (.call 87 0) [(.v 1), (.v 3)])])
@[simp] def e73_12 : X := (.sl 4 [[e73_8, e73_9, e73_10, e73_11]])
@[simp] def e73_13 : X := (.p (.app 4) [(.v 2), e73_12])
@[simp] def e73_14 : X := (.p .len [e73_13])
@[simp] def e73_15 : X := (.p (.bin .leq .i64) [e73_14, (I (1073741824))])
@[simp] def e73_16 : X := (.p (.bin .leq .i64) [(.v 3), (.p .len [(.v 0)])])
@[simp] def e73_17 : X := (.p (.bin .leq .i64) [(I (0)), (.p (.bin .sub .i64) [(.v 3), (I (1))])])
@[simp] def e73_18 : X := (.p (.bin .lss .i64) [(.p (.bin .sub .i64) [(.v 3), (I (1))]), (.p .len [(.v 0)])])
@[simp] def e73_19 : X := (.p .ite [e73_17, e73_18, (.b false)])
@[simp] def e73_20 : X := (.p (.cell 0) [(.v 0), (.p (.bin .sub .i64) [(.v 3), (I (1))])])
@[simp] def e73_21 : X := (.p (.cell 1) [(.v 0), (.p (.bin .sub .i64) [(.v 3), (I (1))])])
@[simp] def e73_22 : X := (.p (.cell 2) [(.v 0), (.p (.bin .sub .i64) [(.v 3), (I (1))])])
@[simp] def e73_23 : X := (.p (.cell 3) [(.v 0), (.p (.bin .sub .i64) [(.v 3), (I (1))])])
@[simp] def e73_24 : X := (.sl 4 [[e73_20, e73_21, e73_22, e73_23]])
@[simp] def e73_25 : X := (.p (.app 4) [(.v 2), e73_24])
@[simp] def e73_26 : X := (.p .len [e73_25])
@[simp] def e73_27 : X := (.p (.bin .leq .i64) [e73_26, (I (1073741824))])
@[simp] def e73_28 : X := (.p (.call 100000 7300) [(.v 0), (.v 1), .nils, (I (1))])
@[simp] def e73_29 : X := (.p (.proj 0) [e73_28])
@[simp] def e73_30 : X := (.p (.bin .eql .i64) [e73_29, (I (1))])
@[simp] def e73_31 : X := (.p (.proj 1) [e73_28])
def B7300 : Te LEnd := .ite e73_0 (
 .need e73_1 (
 .ite e73_2 (
 .need e73_5 (
 .ite e73_7 (
 .need e73_15 (
 .ok (.again [(.v 0), (.v 1), e73_13, (.p (.bin .add .i64) [(.v 3), (I (1))])]))) (
 .ok (.again [(.v 0), (.v 1), (.v 2), (.p (.bin .add .i64) [(.v 3), (I (1))])])))) (
 .ite e73_16 (
 .need e73_19 (
 .need e73_27 (
 .ok (.again [(.v 0), (.v 1), e73_25, (.p (.bin .add .i64) [(.v 3), (I (1))])])))) (
 .ok (.again [(.v 0), (.v 1), (.v 2), (.p (.bin .add .i64) [(.v 3), (I (1))])]))))) (
 .ok (.out 1 [(.v 2)]))
def d7300 : LoopD := ⟨3, ⟨7300, 4, ((.sym (.sl [(.int .i64), .str, (.int .i64), (.int .i64)]) (.v 0)) :: ((.sym (.sl [(.int .i64), .bool, (.int .i64), .str, (.int .i64), (.int .i64)]) (.v 1)) :: (J 3 ((.sym (.own 0 [(.int .i64), .str, (.int .i64), (.int .i64)]) (.v 2)) :: ((.sym (.int .i64) (.v 3)) :: (J 37 [])))))), ⟨⟨2, [], [[]], none⟩, [(0, .rows [(.int .i64), .str, (.int .i64), (.int .i64)] (.v 2))], []⟩,
 [(.exit 0, 1, (J 5 ((.sym (.own 0 [(.int .i64), .str, (.int .i64), (.int .i64)]) (.v 0)) :: (J 38 []))), ⟨⟨2, [], [[]], none⟩, [(0, .rows [(.int .i64), .str, (.int .i64), (.int .i64)] (.v 0))], []⟩)], [(1, [])]⟩, B7300⟩
@[simp] theorem d7300_id : d7300.L.id = 7300 := rfl
@[simp] theorem d7300_B : d7300.B = B7300 := rfl
def i73 : Inst := ⟨73, 0, [(.sym (.sl [(.int .i64), .str, (.int .i64), (.int .i64)]) (.v 0)), (.sym (.sl [(.int .i64), .bool, (.int .i64), .str, (.int .i64), (.int .i64)]) (.v 1))], [.one (.sl [(.int .i64), .str, (.int .i64), (.int .i64)])]⟩
def s73 : List Cal := [c87]
@[simp] theorem o73_87 (vs : List AV) : calO s73 87 0 vs = getJ (F87 vs) := by simp [s73, cal_cons, c87, i87]
@[simp] def l73 : List LoopD := [d7300]
def t73 : Te AV := .need e73_30 (
 .ok (.sym (.sl [(.int .i64), .str, (.int .i64), (.int .i64)]) e73_31))
def F73 : List AV → Option AV := unitF (omL KK s73 l73) t73
def c73 : Cal := ⟨i73, F73⟩
theorem u73 : unitChk tab keep s73 l73 40 73 i73.pats t73 = true := by kernel_rfl
theorem q73 : Known Tryz.prog 73 := fn_known tabOf.1 (x := g73) (by kernel_rfl) (by kernel_rfl)
theorem x73 : ExtOk Tryz.prog 73 (extI i73 F73) := unit_ext tabOf.1 tabOf.2 (allX_mem (cs := s73) ⟨x87, trivial⟩) q73 u73
end Go.Proofs.YtdeaibcebeofiaaGreatDoor.C5

namespace Go.Proofs.YtdeaibcebeofiaaGreatDoor.C5
open Go Go.Proofs.YtdeaibcebeofiaaGreatDoor.AM Go.Proofs
set_option maxRecDepth 100000
@[simp] def e13_0 : X := (.p (.okr [.one .bool]) [(.p (.call 15 0) [])])
@[simp] def e13_1 : X := (.p (.call 16 0) [(.v 0), (.v 1), (.v 2), (.v 3)])
@[simp] def e13_2 : X := (.p (.okr [.one .bool]) [e13_1])
@[simp] def e13_3 : X := (.p .ite [(.p .not [(.p (.call 15 0) [])]), (.b true), e13_2])
@[simp] def e13_4 : X := (.p .not [e13_1])
@[simp] def e13_5 : X := (.p (.okr [.one (.sl [(.int .i64), .str, (.int .i64), (.int .i64)])]) [(.p (.call 18 0) [(.v 4)])])
@[simp] def e13_6 : X := (.p .ite [e13_4, (.b true), e13_5])
@[simp] def e13_7 : X := (.p .ite [(.p .not [(.p (.call 15 0) [])]), (.b true), e13_6])
@[simp] def e13_8 : X := (.p (.call 17 0) [(.p (.call 18 0) [(.v 4)]), (I (40))])
@[simp] def e13_9 : X := (.p (.okr [.one .bool]) [e13_8])
@[simp] def e13_10 : X := (.p .ite [e13_4, (.b true), e13_9])
@[simp] def e13_11 : X := (.p .ite [(.p .not [(.p (.call 15 0) [])]), (.b true), e13_10])
@[simp] def e13_12 : X := (.p .not [e13_8])
@[simp] def e13_13 : X := (.p (.okr [.one .bool]) [(.p (.call 26 0) [(.v 5)])])
@[simp] def e13_14 : X := (.p .ite [e13_12, (.b true), e13_13])
@[simp] def e13_15 : X := (.p .ite [e13_4, (.b true), e13_14])
@[simp] def e13_16 : X := (.p .ite [(.p .not [(.p (.call 15 0) [])]), (.b true), e13_15])
@[simp] def e13_17 : X := (.p .ite [e13_12, (.b true), (.p .not [(.p (.call 26 0) [(.v 5)])])])
@[simp] def e13_18 : X := (.p .ite [e13_4, (.b true), e13_17])
@[simp] def e13_19 : X := (.p .ite [(.p .not [(.p (.call 15 0) [])]), (.b true), e13_18])
@[simp] def e13_20 : X := (.p (.call 72 0) [(.v 0), (.v 1), (.v 2), (.v 3), (.v 4), (.v 5)])
@[simp] def e13_21 : X := (.p (.okr [.one (.sl [(.int .i64), .str, (.int .i64), (.int .i64)]), .one (.int .i64)]) [e13_20])
@[simp] def e13_22 : X := (.p .ite [e13_19, (.b true), e13_21])
@[simp] def e13_23 : X := (.p .ite [e13_19, (.b true), e13_5])
@[simp] def e13_24 : X := (.p (.call 21 0) [(.v 0), (.v 1), (.v 2), (.v 3), (.p (.call 18 0) [(.v 4)])])
@[simp] def e13_25 : X := (.p (.okr [.one (.int .i64)]) [e13_24])
@[simp] def e13_26 : X := (.p .ite [e13_19, (.b true), e13_25])
@[simp] def e13_27 : X := (.p (.bin .eql .i64) [e13_24, (I (0))])
@[simp] def e13_28 : X := (.p (.okr [.one (.sl [(.int .i64), .bool, (.int .i64), .str, (.int .i64), (.int .i64)])]) [(.p (.call 32 0) [(.v 5)])])
@[simp] def e13_29 : X := (.p .ite [e13_27, e13_28, (.b true)])
@[simp] def e13_30 : X := (.p .ite [e13_19, (.b true), e13_29])
@[simp] def e13_31 : X := (.p (.call 31 0) [(.v 0), (.v 1), (.v 2), (.v 3), (.p (.call 32 0) [(.v 5)])])
@[simp] def e13_32 : X := (.p (.okr [.one (.int .i64)]) [e13_31])
@[simp] def e13_33 : X := (.p .ite [e13_27, e13_32, (.b true)])
@[simp] def e13_34 : X := (.p .ite [e13_19, (.b true), e13_33])
@[simp] def e13_35 : X := (.p .ite [e13_27, e13_31, e13_24])
@[simp] def e13_36 : X := (.p (.bin .neq .i64) [e13_35, (I (0))])
@[simp] def e13_37 : X := (.p (.proj 0) [e13_20])
@[simp] def e13_38 : X := (.p (.proj 1) [e13_20])
@[simp] def e13_39 : X := (.p (.call 29 0) [e13_37, e13_38, e13_35, .nils])
@[simp] def e13_40 : X := (.p (.okr [.one .bool]) [e13_39])
@[simp] def e13_41 : X := (.p .ite [e13_36, e13_40, (.b true)])
@[simp] def e13_42 : X := (.p .ite [e13_19, (.b true), e13_41])
@[simp] def e13_43 : X := (.p .ite [e13_36, (.b true), e13_28])
@[simp] def e13_44 : X := (.p .ite [e13_19, (.b true), e13_43])
@[simp] def e13_45 : X := (.p (.call 73 0) [(.p (.call 18 0) [(.v 4)]), (.p (.call 32 0) [(.v 5)])])
@[simp] def e13_46 : X := (.p (.okr [.one (.sl [(.int .i64), .str, (.int .i64), (.int .i64)])]) [e13_45])
@[simp] def e13_47 : X := (.p .ite [e13_36, (.b true), e13_46])
@[simp] def e13_48 : X := (.p .ite [e13_19, (.b true), e13_47])
@[simp] def e13_49 : X := (.p (.call 29 0) [e13_37, e13_38, (I (0)), e13_45])
@[simp] def e13_50 : X := (.p (.okr [.one .bool]) [e13_49])
@[simp] def e13_51 : X := (.p .ite [e13_36, (.b true), e13_50])
@[simp] def e13_52 : X := (.p .ite [e13_19, (.b true), e13_51])
@[simp] def e13_53 : X := (.p .ite [e13_36, e13_39, e13_49])
@[simp] def e13_54 : X := (.p .ite [e13_19, (.p (.call 15 0) []), e13_53])
def i13 : Inst := ⟨13, 0, [(.agg [(.sym .str (.v 0)), (.sym (.sl [.str]) (.v 1)), (.sym (.int .i64) (.v 2)), (.sym (.int .i64) (.v 3))]), (.sym (.sl [(.int .i64), .str, (.int .i64), (.int .i64)]) (.v 4)), (.sym (.sl [(.int .i64), .bool, (.int .i64), .str, (.int .i64), (.int .i64)]) (.v 5))], [.one .bool]⟩
def s13 : List Cal := [c15, c16, c18, c17, c26, c72, c21, c32, c31, c29, c73]
@[simp] theorem o13_15 (vs : List AV) : calO s13 15 0 vs = getJ (F15 vs) := by simp [s13, cal_cons, c15, i15, c16, i16, c18, i18, c17, i17, c26, i26, c72, i72, c21, i21, c32, i32, c31, i31, c29, i29, c73, i73]
@[simp] theorem o13_16 (vs : List AV) : calO s13 16 0 vs = getJ (F16 vs) := by simp [s13, cal_cons, c15, i15, c16, i16, c18, i18, c17, i17, c26, i26, c72, i72, c21, i21, c32, i32, c31, i31, c29, i29, c73, i73]
@[simp] theorem o13_18 (vs : List AV) : calO s13 18 0 vs = getJ (F18 vs) := by simp [s13, cal_cons, c15, i15, c16, i16, c18, i18, c17, i17, c26, i26, c72, i72, c21, i21, c32, i32, c31, i31, c29, i29, c73, i73]
@[simp] theorem o13_17 (vs : List AV) : calO s13 17 0 vs = getJ (F17 vs) := by simp [s13, cal_cons, c15, i15, c16, i16, c18, i18, c17, i17, c26, i26, c72, i72, c21, i21, c32, i32, c31, i31, c29, i29, c73, i73]
@[simp] theorem o13_26 (vs : List AV) : calO s13 26 0 vs = getJ (F26 vs) := by simp [s13, cal_cons, c15, i15, c16, i16, c18, i18, c17, i17, c26, i26, c72, i72, c21, i21, c32, i32, c31, i31, c29, i29, c73, i73]
@[simp] theorem o13_72 (vs : List AV) : calO s13 72 0 vs = getJ (F72 vs) := by simp [s13, cal_cons, c15, i15, c16, i16, c18, i18, c17, i17, c26, i26, c72, i72, c21, i21, c32, i32, c31, i31, c29, i29, c73, i73]
@[simp] theorem o13_21 (vs : List AV) : calO s13 21 0 vs = getJ (F21 vs) := by simp [s13, cal_cons, c15, i15, c16, i16, c18, i18, c17, i17, c26, i26, c72, i72, c21, i21, c32, i32, c31, i31, c29, i29, c73, i73]
@[simp] theorem o13_32 (vs : List AV) : calO s13 32 0 vs = getJ (F32 vs) := by simp [s13, cal_cons, c15, i15, c16, i16, c18, i18, c17, i17, c26, i26, c72, i72, c21, i21, c32, i32, c31, i31, c29, i29, c73, i73]
@[simp] theorem o13_31 (vs : List AV) : calO s13 31 0 vs = getJ (F31 vs) := by simp [s13, cal_cons, c15, i15, c16, i16, c18, i18, c17, i17, c26, i26, c72, i72, c21, i21, c32, i32, c31, i31, c29, i29, c73, i73]
@[simp] theorem o13_29 (vs : List AV) : calO s13 29 0 vs = getJ (F29 vs) := by simp [s13, cal_cons, c15, i15, c16, i16, c18, i18, c17, i17, c26, i26, c72, i72, c21, i21, c32, i32, c31, i31, c29, i29, c73, i73]
@[simp] theorem o13_73 (vs : List AV) : calO s13 73 0 vs = getJ (F73 vs) := by simp [s13, cal_cons, c15, i15, c16, i16, c18, i18, c17, i17, c26, i26, c72, i72, c21, i21, c32, i32, c31, i31, c29, i29, c73, i73]
@[simp] def l13 : List LoopD := []
def t13 : Te AV := .need e13_0 (
 .need e13_3 (
 .need e13_7 (
 .need e13_11 (
 .need e13_16 (
 .need e13_22 (
 .need e13_23 (
 .need e13_26 (
 .need e13_30 (
 .need e13_34 (
 .need e13_42 (
 .need e13_44 (
 .need e13_48 (
 .need e13_52 (
 .ok (.sym .bool e13_54)))))))))))))))
def F13 : List AV → Option AV := unitF (omL KK s13 l13) t13
def c13 : Cal := ⟨i13, F13⟩
theorem u13 : unitChk tab keep s13 l13 40 13 i13.pats t13 = true := by kernel_rfl
theorem q13 : Known Tryz.prog 13 := fn_known tabOf.1 (x := g13) (by kernel_rfl) (by kernel_rfl)
theorem x13 : ExtOk Tryz.prog 13 (extI i13 F13) := unit_ext tabOf.1 tabOf.2 (allX_mem (cs := s13) ⟨x15, x16, x18, x17, x26, x72, x21, x32, x31, x29, x73, trivial⟩) q13 u13
end Go.Proofs.YtdeaibcebeofiaaGreatDoor.C5

namespace Go.Proofs.YtdeaibcebeofiaaGreatDoor.C5
open Go Go.Proofs.YtdeaibcebeofiaaGreatDoor.AM
set_option maxRecDepth 20000
set_option maxHeartbeats 4000000
def putAt (xs : List Ent) (rs : List Rul) (i : Nat) : List Ent :=
 match rulAt rs rs.length ((i + 1 : Nat) : Int) with
 | some r => if r.2.1 then [] else [r.2.2]
 | none => (xs[i]?).toList
def putN (xs : List Ent) (rs : List Rul) : Nat → List Ent
 | 0 => []
 | i + 1 => putN xs rs i ++ putAt xs rs i
theorem putAt_len (xs : List Ent) (rs : List Rul) (i : Nat) : (putAt xs rs i).length ≤ 1 := by
 unfold putAt
 split
 ·split <;> simp
 ·cases xs[i]? <;> simp
theorem putN_len (xs : List Ent) (rs : List Rul) : ∀ i, (putN xs rs i).length ≤ i
 | 0 => Nat.le_refl _
 | i + 1 => by
   have := putN_len xs rs i
   have := putAt_len xs rs i
   simp only [putN, List.length_append]
   omega
def accP (xs : List Ent) (rs : List Rul) (i : Nat) : AV := mkL 4 ((putN xs rs i).map entR)
theorem accP_nil {xs : List Ent} {rs : List Rul} {i : Nat} (h : putAt xs rs i = []) : accP xs rs (i + 1) = accP xs rs i := by
 simp [accP, putN, h]
theorem accP_one {xs : List Ent} {rs : List Rul} {i : Nat} {e : Ent} (h : putAt xs rs i = [e]) : accP xs rs (i + 1) = .sl 4 ((putN xs rs i).map entR ++ [entR e]) := by
 rw [← mkL_snoc]
 simp [accP, putN, h]
theorem accP_rows (xs : List Ent) (rs : List Rul) (i : Nat) : (accP xs rs i).rowsL = (putN xs rs i).map entR := mkL_rows _ _
theorem accP_len (xs : List Ent) (rs : List Rul) (i : Nat) : (accP xs rs i).lenN = (putN xs rs i).length := by
 rw [accP, (mkL_isL 4 _).len, List.length_map]
theorem G7200 {a : AV} {xs : List Ent} {rs : List Rul} (h : IsL 4 (xs.map entR) a) :
  loopG (calO s72) B7200 KK [a, .im (mapE rs rs.length), .nils, ia 1] = some (.tuple [ia 1, accP xs rs 256]) := by
 refine loopF (fun i => [a, .im (mapE rs rs.length), accP xs rs i, ia ((i + 1 : Nat) : Int)]) 256 _ (by omega) (fun i hi => ?_) ?_
 ·have hw : IntKind.i64.wrap (((i + 1 : Nat) : Int) + 1) = ((i + 1 + 1 : Nat) : Int) := wS (by omega)
  have hw' : IntKind.i64.wrap (i : Int) = (i : Int) := by rw [i64w (by omega) (by omega)]
  have hl := putN_len xs rs i
  have hc : ((i + 1 : Nat) : Int) ≤ 256 := by omega
  have hb : ((putN xs rs i).length : Int) + 1 ≤ 1073741824 := by omega
  have hf := (mapE_of rs rs.length (Nat.le_refl _)).find ((i + 1 : Nat) : Int)
  cases hr : rulAt rs rs.length ((i + 1 : Nat) : Int) with
  | none =>
    rw [hr] at hf
    by_cases h1 : i < xs.length
    ·have ht : putAt xs rs i = [xs[i]] := by simp only [putAt, hr]; simp [h1]
     have hr1 : nth a.rowsL (Int.toNat (i : Int)) = some (entR xs[i]) := h.row h1
     have h2 : (i : Int) + 1 ≤ xs.length := by omega
     simp only [entR, Int.toNat_natCast] at hr1
     rw [accP_one ht]
     push_cast at hw hc hf ⊢
     simp [B7200, h.lenM, hc, hf, hw, hw', h1, h2, hr1, accP_rows, hb, entR]
    ·have ht : putAt xs rs i = [] := by simp only [putAt, hr]; simp [h1]
     have h2 : ¬ (i : Int) + 1 ≤ xs.length := by omega
     rw [accP_nil ht]
     push_cast at hw hc hf ⊢
     simp [B7200, h.lenM, hc, hf, hw, h2]
  | some r =>
    rw [hr] at hf
    cases hv : r.2.1 with
    | true =>
      have ht : putAt xs rs i = [] := by simp only [putAt, hr, hv]; rfl
      rw [accP_nil ht]
      push_cast at hw hc hf ⊢
      simp [B7200, h.lenM, hc, hf, hw, rulR, hv]
    | false =>
      have ht : putAt xs rs i = [r.2.2] := by simp only [putAt, hr, hv]; rfl
      rw [accP_one ht]
      push_cast at hw hc hf ⊢
      simp [B7200, h.lenM, hc, hf, hw, rulR, hv, accP_rows, hb, entR]
 ·simp [B7200]
theorem G7300 {a c : AV} {xs : List Ent} {rs : List Rul} (h : IsL 4 (xs.map entR) a) (h'' : IsL 6 (rs.map rulR) c) (hz : rs.length < 1048577) :
  loopG (calO s73) B7300 KK [a, c, .nils, ia 1] = some (.tuple [ia 1, accP xs rs 256]) := by
 refine loopF (fun i => [a, c, accP xs rs i, ia ((i + 1 : Nat) : Int)]) 256 _ (by omega) (fun i hi => ?_) ?_
 ·have hw : IntKind.i64.wrap (((i + 1 : Nat) : Int) + 1) = ((i + 1 + 1 : Nat) : Int) := wS (by omega)
  have hw' : IntKind.i64.wrap (i : Int) = (i : Int) := by rw [i64w (by omega) (by omega)]
  have hl := putN_len xs rs i
  have hc : ((i + 1 : Nat) : Int) ≤ 256 := by omega
  have hb : ((putN xs rs i).length : Int) + 1 ≤ 1073741824 := by omega
  have hp := p87 h'' hz ((i + 1 : Nat) : Int)
  cases hr : lastI rs rs.length ((i + 1 : Nat) : Int) with
  | none =>
    have hr' : rulAt rs rs.length ((i + 1 : Nat) : Int) = none := by simp only [rulAt, hr]; rfl
    simp only [lastN, hr] at hp
    by_cases h1 : i < xs.length
    ·have ht : putAt xs rs i = [xs[i]] := by simp only [putAt, hr']; simp [h1]
     have hr1 : nth a.rowsL (Int.toNat (i : Int)) = some (entR xs[i]) := h.row h1
     have h2 : (i : Int) + 1 ≤ xs.length := by omega
     simp only [entR, Int.toNat_natCast] at hr1
     rw [accP_one ht]
     push_cast at hp hw hc ⊢
     simp [B7300, h.lenM, h''.lenM, hp, hc, hw, hw', h1, h2, hr1, accP_rows, hb, entR]
    ·have ht : putAt xs rs i = [] := by simp only [putAt, hr']; simp [h1]
     have h2 : ¬ (i : Int) + 1 ≤ xs.length := by omega
     rw [accP_nil ht]
     push_cast at hp hw hc ⊢
     simp [B7300, h.lenM, h''.lenM, hp, hc, hw, h2]
  | some j =>
    have hj := lastI_lt rs _ _ _ hr
    have hr' : rulAt rs rs.length ((i + 1 : Nat) : Int) = some rs[j] := by simp only [rulAt, hr]; simp [hj]
    have hrj : nth c.rowsL (Int.toNat (j : Int)) = some (rulR rs[j]) := h''.row hj
    simp only [rulR, Int.toNat_natCast] at hrj
    simp only [lastN, hr] at hp
    have hj0 : ¬ (j : Int) < 0 := by omega
    have hj1 : (0 : Int) ≤ j := by omega
    cases hv : rs[j].2.1 with
    | true =>
      have ht : putAt xs rs i = [] := by simp only [putAt, hr', hv]; rfl
      rw [accP_nil ht]
      push_cast at hp hw hc ⊢
      simp [B7300, h.lenM, h''.lenM, hp, hc, hw, hrj, hv, hj, hj0, hj1]
    | false =>
      have ht : putAt xs rs i = [rs[j].2.2] := by simp only [putAt, hr', hv]; rfl
      rw [accP_one ht]
      push_cast at hp hw hc ⊢
      simp [B7300, h.lenM, h''.lenM, hp, hc, hw, hrj, hv, hj, hj0, hj1, accP_rows, hb, entR]
 ·simp [B7300]
theorem p73 {a c : AV} {xs : List Ent} {rs : List Rul} (h : IsL 4 (xs.map entR) a) (h'' : IsL 6 (rs.map rulR) c) (hz : rs.length < 1048577) : F73 [a, c] = some (accP xs rs 256) := by
 have hG := G7300 h h'' hz
 simp [F73, unitF_eq, t73, hG]
theorem p72 {r : Rd} {names a c : AV} (hr : RdOk r names) {xs : List Ent} {rs : List Rul} (h : IsL 4 (xs.map entR) a) (hx : xs.length < 1048577) (h'' : IsL 6 (rs.map rulR) c) (hz : rs.length < 1048577) :
  F72 [.str r.f, names, ia r.pl, ia r.ti, a, c] = some (if ckLog r xs ≠ 0 then .tuple [.nils, ia (ckLog r xs)] else if cksR r.ns.length rs ≠ 0 then .tuple [.nils, ia (cksR r.ns.length rs)] else .tuple [accP xs rs 256, ia 0]) := by
 have h1 := p61 hr h hx
 have h2 := p84 (f := .str r.f) (pl := ia r.pl) (ti := ia r.ti) hr.isL.lenM (by have := hr.len; omega) h'' (by omega)
 have h3 := p85 h'' hz
 have h4 : (Sh.im (.int .i64) true [.int .i64, .bool, .int .i64, .str, .int .i64, .int .i64]).ok (.im (mapE rs rs.length)) = true := im_ok (mapE_of rs rs.length (Nat.le_refl _))
 have hG := G7200 (rs := rs) h
 have h5 : ¬ (256 : Int) < (putN xs rs 256).length := by have := putN_len xs rs 256; omega
 have h6 := p103 false 5
 change F84 _ = some (ia (cksR r.ns.length rs)) at h2
 by_cases hc : ckLog r xs = 0
 ·by_cases hc2 : cksR r.ns.length rs = 0
  ·simp [F72, unitF_eq, t72, h1, h2, h3, h4, hG, hc, hc2, accP_len, h5, h6, whenI]
  ·simp [F72, unitF_eq, t72, h1, h2, h3, h4, hc, hc2]
 ·simp [F72, unitF_eq, t72, h1, hc]
theorem p31'' {names f pl ti a : AV} {n : Nat} (hl : names.lenN = n) (hn : n < 2097152) {es : List Rul} (h : IsL 6 (es.map rulR) a) (hes : es.length < 2097152) :
  F31 [f, names, pl, ti, a] = some (ia (cksR n es)) := p31 hl hn h hes
theorem law13 {r : Rd} {names a c : AV} (hr : RdOk r names) {xs : List Ent} {rs : List Rul} (h : IsL 4 (xs.map entR) a) (hx : xs.length < 1048577)
  (h'' : IsL 6 (rs.map rulR) c) (hz : rs.length < 1048577) : F13 [.str r.f, names, ia r.pl, ia r.ti, a, c] = some (.bool true) := by
 have okE : ∀ zs : List Ent, (Sh.sl [.int .i64, .str, .int .i64, .int .i64]).ok (mkL 4 (zs.map entR)) = true := fun zs => (mkL_isL 4 (zs.map entR)).ok rfl (by simp [entR])
 have okR : ∀ zs : List Rul, (Sh.sl [.int .i64, .bool, .int .i64, .str, .int .i64, .int .i64]).ok (mkL 6 (zs.map rulR)) = true := fun zs => (mkL_isL 6 (zs.map rulR)).ok rfl (by simp [rulR])
 have okA : ∀ n, (Sh.sl [.int .i64, .str, .int .i64, .int .i64]).ok (accP xs rs n) = true := fun n => (mkL_isL 4 _).ok rfl (by simp [entR])
 have e1 := p18 h hx
 have i1 := mkL_isL 4 (xs.map entR)
 have i3 := mkL_isL 6 (rs.map rulR)
 obtain ⟨b1, z1⟩ := p16 (pl := ia r.pl) (ti := ia r.ti) (f := r.f) hr.isL hr.len
 obtain ⟨b2, z2⟩ := p17 i1 hx 40
 obtain ⟨b4, z4⟩ := p26 h'' hz
 have f72 := p72 hr h hx h'' hz
 have f21 := p21 hr i1 hx
 have f32 := p32 h'' hz
 have f31 := p31'' (f := .str r.f) (pl := ia r.pl) (ti := ia r.ti) hr.isL.lenM (by have := hr.len; omega) i3 (by omega)
 have f73 := p73 i1 i3 hz
 have f15 : F15 [] = some (.bool true) := rfl
 have o15 : calO s13 15 0 [] = .bool true := by rw [o13_15, f15]; rfl
 have hA : IsL 4 ((putN xs rs 256).map entR) (accP xs rs 256) := mkL_isL _ _
 have lA : (putN xs rs 256).length < 1048577 := by have := putN_len xs rs 256; omega
 have g29 := p29_ok hA hA lA
 by_cases hc1 : ckLog r xs = 0
 ·simp only [ne_eq, hc1, not_true_eq_false, if_false] at f72
  by_cases hc2 : cksR r.ns.length rs = 0
  ·simp only [hc2, not_true_eq_false, if_false] at f72
   cases b1 <;> cases b2 <;> cases b4 <;>
    simp [F13, unitF_eq, t13, e1, z1, z2, z4, okE, okR, okA, f72, f21, f32, f31, f73, o15, hc1, hc2, g29, p29_bad]
  ·simp only [hc2, not_false_eq_true, if_true] at f72
   cases b1 <;> cases b2 <;> cases b4 <;>
    simp [F13, unitF_eq, t13, e1, z1, z2, z4, okE, okR, okA, f72, f21, f32, f31, o15, hc1, hc2, p29_bad]
 ·simp only [ne_eq, hc1, not_false_eq_true, if_true] at f72
  cases b1 <;> cases b2 <;> cases b4 <;>
   simp [F13, unitF_eq, t13, e1, z1, z2, z4, okE, okR, okA, f72, f21, f32, f31, o15, hc1, p29_bad]
end Go.Proofs.YtdeaibcebeofiaaGreatDoor.C5

namespace Go.Proofs.YtdeaibcebeofiaaGreatDoor.C5
open Go Go.Proofs.YtdeaibcebeofiaaGreatDoor.AM Go.Proofs Go.RowKit Go.ChangeShapes Go.WideShapes Go.ChangeAt Go.Proofs.YtdeaibcebeofiaaGreatDoor
set_option maxRecDepth 100000
set_option maxHeartbeats 4000000
theorem rss13 : mapO (rsT tab) Tryz.f13.params.toList = some [rsRound, .one (.sl shE), .one (.sl shR)] := by kernel_rfl
theorem lay13 : Tryz.f13.params.toList.all (layOk tab 20) = true := by kernel_rfl
theorem rec13 : Tryz.f13.params.toList.all (fun t => Tryz.prog.readableRec t && decide (t < Tryz.prog.types.size)) = true := by kernel_rfl
theorem ans13 (xs : List AV) (h : RS.oks [rsRound, .one (.sl shE), .one (.sl shR)] xs = true) (hs : (xs.map AV.szc).sum ≤ 1048576) : extI i13 F13 xs = some (.bool true) := by
 obtain ⟨x1, _, rfl, h1, q0⟩ := RS.oks_inv h
 obtain ⟨x2, _, rfl, h2, q1⟩ := RS.oks_inv q0
 obtain ⟨x3, _, rfl, h3, q2⟩ := RS.oks_inv q1
 obtain rfl := RS.oks_nil_inv q2
 simp only [List.map_cons, List.map_nil, List.sum_cons, List.sum_nil] at hs
 obtain ⟨r, names, rfl, hr, hn⟩ := rd_round h1 (n := 1048576) (by omega) (Nat.le_refl _)
 have ha : (Sh.sl shE).ok x2 = true := h2
 have h2s : x2.sz ≤ 1048576 := by
  rcases Sh.sl_inv ha with rfl | ⟨rows, rfl, _⟩ <;> simp only [AV.szc] at hs <;> omega
 have hc : (Sh.sl shR).ok x3 = true := h3
 have h3s : x3.sz ≤ 1048576 := by
  rcases Sh.sl_inv hc with rfl | ⟨rows, rfl, _⟩ <;> simp only [AV.szc] at hs <;> omega
 obtain ⟨xs, g1, g2⟩ := rd_ents ha (n := 1048576) h2s
 obtain ⟨rs, g5, g6⟩ := rd_ruls hc (n := 1048576) h3s
 have hL := law13 hr g1 (by omega) g5 (by omega)
 simp only [extI, i13, mtVs, mtV, hn, ha, hc, ok_str, ok_int, if_true, List.append_nil, List.nil_append, List.cons_append, List.map_cons, List.map_nil, List.length_cons, List.length_nil]
 rw [if_pos (by decide)]
 exact hL
end Go.Proofs.YtdeaibcebeofiaaGreatDoor.C5

namespace Go.Proofs.YtdeaibcebeofiaaGreatDoor.fnRulings
open Go Go.Proofs.YtdeaibcebeofiaaGreatDoor.AM C5 Go.Proofs Go.RowKit Go.ChangeShapes Go.WideShapes Go.ChangeAt
set_option maxRecDepth 100000
def wargs : Array Value := #[zRound, .slice none 0 0, .slice none 0 0]
theorem reads (os : Os) {H : Type} (enc : TypeId × Value → H) : ∃ places, DataW.whole enc Tryz.prog ((laidWorld os).forCall (fun _ _ => 0) ⟨#[], wargs, []⟩).memory Tryz.f13.params.toList Rows.contestRulingsSpec.vars false wargs.toList 8 = some ([dRound, .nil, .nil], [], places) :=
 ⟨[], by kernel_rfl⟩
theorem liftedUpto (os : Os) (started : os.Started) (H : Type) (enc : TypeId × Value → H) (F : Stop.Interp) :
  ReturnsInHanded {} Tryz.checked os 13 .any ((Rows.OpenSpec.upto Rows.contestRulingsSpec).preRow enc Tryz.prog Tryz.f13 Rows.contestRulingsUptoRow.domain false Rows.contestRulingsUptoRow.laid) (((Rows.OpenSpec.upto Rows.contestRulingsSpec).at F).post enc Tryz.prog Tryz.f13 false true false false) := by
 obtain ⟨places, hx⟩ := reads os enc
 refine returnsInHanded_of_row (C := Tryz.checked) (s := Rows.OpenSpec.upto Rows.contestRulingsSpec) ownT started (by kernel_rfl) Tryz.func13
  (witness_row_at (enc := enc) (C := Tryz.checked) false (laidWorld os) wargs rfl (by kernel_rfl) (by kernel_rfl) (by kernel_rfl)
   (OpenSpec.preRow_of_cond 8 hx (by kernel_rfl) (fun k hk => by cases hk; kernel_rfl) (by kernel_rfl) (laid_met os wargs))) ?_
 intro W base args ds gs before hval hW _ hcond _ hL _ _
 exact contractU (spec := Rows.contestRulingsSpec) (row := Rows.contestRulingsUptoRow) x13 rss13 lay13 rec13 rfl (by kernel_rfl) rfl
  (fun H ds h => by
   obtain ⟨a, b, c, rfl⟩ : ∃ a b c, ds = [a, b, c] := by
    have h3 : ds.length = 3 := h
    match ds, h3 with
    | [a, b, c], _ => exact ⟨a, b, c, rfl⟩
   rfl) ans13 H enc W base args ds gs before hval hW (hcond _ rfl) hL
theorem jPlace : (Rows.contestRulingsUptoRow.inPlace == Tryz.prog.inPlace 13) = true := by kernel_rfl
theorem jUnf : (Rows.contestRulingsUptoRow.unfollowed == Tryz.prog.unfollowed 13) = true := by kernel_rfl
theorem jRec : (Rows.contestRulingsUptoRow.recurses == Tryz.prog.recurses 13) = true := by kernel_rfl
theorem jNamed : (Rows.contestRulingsUptoRow.named == Tryz.prog.varsNamed 13) = true := by kernel_rfl
theorem jName : Tryz.prog.funcNamed "crux/cruxlaw05.ContestRulings" = some 13 := by kernel_rfl
theorem joined : joinedFacts Tryz.prog 13 Tryz.f13 Rows.contestRulingsSpec Rows.contestRulingsUptoRow = true :=
 joined_of (by kernel_rfl) laidOutT jMaps (by kernel_rfl) (by kernel_rfl) rfl jStops rfl jKnobs jPlace jUnf jRec jNamed (by kernel_rfl) (by kernel_rfl) (by kernel_rfl) (by kernel_rfl) (by kernel_rfl) rfl (by kernel_rfl) (by kernel_rfl) (by kernel_rfl)
  jKeys rfl jHeard jEnter jLifted jMake rfl (by kernel_rfl) (by kernel_rfl) (by kernel_rfl)
theorem inst : Tryz.f13.isInstance Tryz.prog Rows.contestRulingsUptoRow.origin Rows.contestRulingsUptoRow.targs := of_decide_eq_true (by kernel_rfl)
theorem wrap : Tryz.f13.isWrapper Tryz.prog Rows.contestRulingsUptoRow.wrapper Rows.contestRulingsUptoRow.mainSum := by
 unfold Func.isWrapper; first | (rw [if_pos (by decide +kernel)]; kernel_rfl) | (rw [if_neg (by decide +kernel)]; exact ⟨rfl, rfl⟩)
theorem saidUpto : Rows.ContestRulingsUptoSaid :=
 OpenClaim.holds_of_cond 13 Tryz.f13 rfl rfl rfl rfl rfl rfl rfl ⟨rfl, rfl, rfl, rfl, rfl⟩ rfl rfl rfl rfl rfl jName Tryz.func13 joined inst wrap
  (fun os started H enc _ F => by rw [OpenClaim.pre_eq_preRow]; exact liftedUpto os started H enc F)
theorem plain (f : FuncId) (fn : Func) (hf : Tryz.pinned.checked.prog.funcNamed "crux/cruxlaw05.ContestRulings" = some f) (hfn : Tryz.pinned.checked.prog.funcs[f]? = some fn) :
  false = Tryz.pinned.checked.prog.looks [] ∧ ∀ (j : Nat) t, fn.params[j]? = some t → Tryz.pinned.checked.prog.wantsStandIn t = false := by
 obtain rfl : f = 13 := Option.some.inj (jName.symm.trans hf) |>.symm
 obtain rfl : fn = Tryz.f13 := (Option.some.inj (Tryz.func13.symm.trans hfn)).symm
 refine ⟨by kernel_rfl, fun j t ht => ?_⟩
 have hall : (Tryz.f13.params.toList.all fun u => !Tryz.prog.wantsStandIn u) = true := by kernel_rfl
 have hm : t ∈ Tryz.f13.params.toList := by simpa using Array.mem_of_getElem? ht
 exact (show Tryz.prog.wantsStandIn t = false by simpa using List.all_eq_true.1 hall t hm)
theorem cardUpto : Rows.ContestRulingsUptoCardSaid :=
 Claim7.holds_tied_plain_at .later [] _ _ _ _ saidUpto (fun _ h => by cases h) (by kernel_rfl) (fun _ h => by cases h) contestRulingsUpto_row_tie rfl ⟨rfl, rfl⟩ (by kernel_rfl) rfl plain (by kernel_rfl)
#print axioms cardUpto
end Go.Proofs.YtdeaibcebeofiaaGreatDoor.fnRulings
