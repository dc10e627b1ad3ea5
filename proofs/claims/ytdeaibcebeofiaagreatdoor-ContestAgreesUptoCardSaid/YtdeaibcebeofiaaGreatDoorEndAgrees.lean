/-
  ContestAgrees holds: the card of the second form (what is read is of bulk at most 2^20): two judges with the same log have no differences and need no ruling; with the log of the one as rulings about each difference the reconciled log is this log, for both orders of the judges; rulings that say what the entries say change nothing.
-/
import Derived.Test.YtdeaibcebeofiaaGreatDoorF2
import Derived.Test.YtdeaibcebeofiaaGreatDoorP3
import Derived.Test.YtdeaibcebeofiaaGreatDoorLaw
import Derived.Test.YtdeaibcebeofiaaGreatDoorTie
set_option linter.unusedVariables false
set_option linter.unusedSimpArgs false
set_option linter.unusedSectionVars false
namespace Go.Proofs.YtdeaibcebeofiaaGreatDoor.C5
open Go Go.Proofs.YtdeaibcebeofiaaGreatDoor.AM Go.Proofs
set_option maxRecDepth 100000
@[simp] def e72_0 : X := (.agg [(I (0)), (.b false), (I (0)), (.s w3), (I (0)), (I (0))])
@[simp] def e72_1 : X := (.p (.mget true) [(.v 1), (.v 3), e72_0])
@[simp] def e72_2 : X := (.p (.fld 1) [e72_1])
@[simp] def e72_3 : X := (.p .not [e72_2])
@[simp] def e72_4 : X := (Q (.p .mhas [(.v 1), (.v 3)]) e72_3 (.b false))
@[simp] def e72_5 : X := (.p (.fld 2) [e72_1])
@[simp] def e72_6 : X := (.p (.fld 3) [e72_1])
@[simp] def e72_7 : X := (.p (.fld 4) [e72_1])
@[simp] def e72_8 : X := (.p (.fld 5) [e72_1])
@[simp] def e72_9 : X := (.sl 4 [[e72_5, e72_6, e72_7, e72_8]])
@[simp] def e72_10 : X := (.p (.app 4) [(.v 2), e72_9])
@[simp] def e72_11 : X := (LN e72_10)
@[simp] def e72_12 : X := (LE e72_11 (I (1073741824)))
@[simp] def e72_13 : X := (Q (.p .not [(.p .mhas [(.v 1), (.v 3)])]) (LE (.v 3) (LN (.v 0))) (.b false))
@[simp] def e72_14 : X := (Q (LE (I (0)) (SB (.v 3) (I (1)))) (LT (SB (.v 3) (I (1))) (LN (.v 0))) (.b false))
@[simp] def e72_15 : X := (.sl 4 [[(C 0 (.v 0) (SB (.v 3) (I (1)))), (C 1 (.v 0) (SB (.v 3) (I (1)))), (C 2 (.v 0) (SB (.v 3) (I (1)))), (C 3 (.v 0) (SB (.v 3) (I (1))))]])
@[simp] def e72_16 : X := (.p (.app 4) [(.v 2), e72_15])
@[simp] def e72_17 : X := (LN e72_16)
@[simp] def e72_18 : X := (LE e72_17 (I (1073741824)))
@[simp] def e72_19 : X := (.p (.call 61 0) [(.v 0), (.v 1), (.v 2), (.v 3), (.v 4)])
@[simp] def e72_20 : X := (.p (.okr [.one (.int .i64)]) [e72_19])
@[simp] def e72_21 : X := (.p (.bin .neq .i64) [e72_19, (I (0))])
@[simp] def e72_22 : X := (.p (.call 84 0) [(.v 0), (.v 1), (.v 2), (.v 3), (.v 5)])
@[simp] def e72_23 : X := (.p (.okr [.one (.int .i64)]) [e72_22])
@[simp] def e72_24 : X := (Q e72_21 (.b true) e72_23)
@[simp] def e72_25 : X := (.p (.bin .neq .i64) [e72_22, (I (0))])
@[simp] def e72_26 : X := (.p (.okr [.one (.im (.int .i64) true [(.int .i64), .bool, (.int .i64), .str, (.int .i64), (.int .i64)])]) [(.p (.call 85 0) [(.v 5)])])
@[simp] def e72_27 : X := (Q e72_25 (.b true) e72_26)
@[simp] def e72_28 : X := (Q e72_21 (.b true) e72_27)
@[simp] def e72_29 : X := (.p (.call 100000 7200) [(.v 4), (.p (.call 85 0) [(.v 5)]), .nils, (I (1))])
@[simp] def e72_30 : X := (PJ 0 e72_29)
@[simp] def e72_31 : X := (EQ e72_30 (I (1)))
@[simp] def e72_32 : X := (Q e72_25 (.b true) e72_31)
@[simp] def e72_33 : X := (Q e72_21 (.b true) e72_32)
@[simp] def e72_34 : X := (PJ 1 e72_29)
@[simp] def e72_35 : X := (LN e72_34)
@[simp] def e72_36 : X := (.p (.bin .gtr .i64) [e72_35, (I (256))])
@[simp] def e72_37 : X := (.p (.call 103 0) [e72_36, (I (5))])
@[simp] def e72_38 : X := (.p (.okr [.one (.int .i64)]) [e72_37])
@[simp] def e72_39 : X := (Q e72_25 (.b true) e72_38)
@[simp] def e72_40 : X := (Q e72_21 (.b true) e72_39)
@[simp] def e72_41 : X := (Q e72_25 .nils e72_34)
@[simp] def e72_42 : X := (Q e72_21 .nils e72_41)
@[simp] def e72_43 : X := (Q e72_25 e72_22 e72_37)
@[simp] def e72_44 : X := (Q e72_21 e72_19 e72_43)
def B7200 : Te LEnd := .ite (LE (.v 3) (I (256))) (
 .ite e72_4 (
 .need e72_12 (
 .ok (.again [(.v 0), (.v 1), e72_10, (AD (.v 3) (I (1)))]))) (
 .ite e72_13 (
 .need e72_14 (
 .need e72_18 (
 .ok (.again [(.v 0), (.v 1), e72_16, (AD (.v 3) (I (1)))])))) (
 .ok (.again [(.v 0), (.v 1), (.v 2), (AD (.v 3) (I (1)))])))) (
 .ok (.out 1 [(.v 2)]))
def d7200 : LoopD := ⟨10, ⟨7200, 4, (J 1 ((.sym (.sl [(.int .i64), .str, (.int .i64), (.int .i64)]) (.v 0)) :: (J 8 ((.sym (.im (.int .i64) true [(.int .i64), .bool, (.int .i64), .str, (.int .i64), (.int .i64)]) (.v 1)) :: ((.sym (.own 1 [(.int .i64), .str, (.int .i64), (.int .i64)]) (.v 2)) :: ((.sym (.int .i64) (.v 3)) :: (J 60 []))))))), ⟨⟨4, [], [[]], none⟩, [(1, .rows [(.int .i64), .str, (.int .i64), (.int .i64)] (.v 2))], []⟩,
 [(.exit 0, 1, (J 11 ((.sym (.own 1 [(.int .i64), .str, (.int .i64), (.int .i64)]) (.v 0)) :: (J 61 []))), ⟨⟨4, [], [[]], none⟩, [(1, .rows [(.int .i64), .str, (.int .i64), (.int .i64)] (.v 0))], []⟩)], [(1, [])]⟩, B7200⟩
@[simp] theorem d7200_id : d7200.L.id = 7200 := rfl
@[simp] theorem d7200_B : d7200.B = B7200 := rfl
def i72 : Inst := ⟨72, 0, [(.agg [(.sym .str (.v 0)), (.sym (.sl [.str]) (.v 1)), (.sym (.int .i64) (.v 2)), (.sym (.int .i64) (.v 3))]), (.sym (.sl [(.int .i64), .str, (.int .i64), (.int .i64)]) (.v 4)), (.sym (.sl [(.int .i64), .bool, (.int .i64), .str, (.int .i64), (.int .i64)]) (.v 5))], [.one (.sl [(.int .i64), .str, (.int .i64), (.int .i64)]), .one (.int .i64)]⟩
def s72 : List Cal := [c61, c84, c85, c103]
@[simp] theorem o72_61 (vs : List AV) : calO s72 61 0 vs = getJ (F61 vs) := oG rfl vs
@[simp] theorem o72_84 (vs : List AV) : calO s72 84 0 vs = getJ (F84 vs) := oG rfl vs
@[simp] theorem o72_85 (vs : List AV) : calO s72 85 0 vs = getJ (F85 vs) := oG rfl vs
@[simp] theorem o72_103 (vs : List AV) : calO s72 103 0 vs = getJ (F103 vs) := oG rfl vs
@[simp] def l72 : List LoopD := [d7200]
def t72 : Te AV := .need e72_20 (
 .need e72_24 (
 .need e72_28 (
 .need e72_33 (
 .need e72_40 (
 .ok (.tuple [(.sym (.sl [(.int .i64), .str, (.int .i64), (.int .i64)]) e72_42), (.sym (.int .i64) e72_44)]))))))
def F72 : List AV → Option AV := unitF (omL KK s72 l72) t72
def c72 : Cal := ⟨i72, F72⟩
theorem x72 : XO i72 F72 := XU (cs := s72) (ds := l72) (t := t72) ⟨x61, x84, x85, x103, trivial⟩ (x := g72) (by kernel_rfl) (by kernel_rfl) (by kernel_rfl)
@[simp] def e73_0 : X := (.p (.okr [.one (.int .i64)]) [(.p (.call 87 0) [(.v 1), (.v 3)])])
@[simp] def e73_1 : X := (.p (.bin .geq .i64) [(.p (.call 87 0) [(.v 1), (.v 3)]), (I (0))])
@[simp] def e73_2 : X := (LE (I (0)) (.p (.call 87 0) [(.v 1), (.v 3)]))
@[simp] def e73_3 : X := (LT (.p (.call 87 0) [(.v 1), (.v 3)]) (LN (.v 1)))
@[simp] def e73_4 : X := (Q e73_2 e73_3 (.b false))
@[simp] def e73_5 : X := (C 1 (.v 1) (.p (.call 87 0) [(.v 1), (.v 3)]))
@[simp] def e73_6 : X := (.p .not [e73_5])
@[simp] def e73_7 : X := (C 2 (.v 1) (.p (.call 87 0) [(.v 1), (.v 3)]))
@[simp] def e73_8 : X := (C 3 (.v 1) (.p (.call 87 0) [(.v 1), (.v 3)]))
@[simp] def e73_9 : X := (C 4 (.v 1) (.p (.call 87 0) [(.v 1), (.v 3)]))
@[simp] def e73_10 : X := (C 5 (.v 1) (.p (.call 87 0) [(.v 1), (.v 3)]))
@[simp] def e73_11 : X := (.sl 4 [[e73_7, e73_8, e73_9, e73_10]])
@[simp] def e73_12 : X := (.p (.app 4) [(.v 2), e73_11])
@[simp] def e73_13 : X := (LN e73_12)
@[simp] def e73_14 : X := (LE e73_13 (I (1073741824)))
@[simp] def e73_15 : X := (Q (LE (I (0)) (SB (.v 3) (I (1)))) (LT (SB (.v 3) (I (1))) (LN (.v 0))) (.b false))
@[simp] def e73_16 : X := (.sl 4 [[(C 0 (.v 0) (SB (.v 3) (I (1)))), (C 1 (.v 0) (SB (.v 3) (I (1)))), (C 2 (.v 0) (SB (.v 3) (I (1)))), (C 3 (.v 0) (SB (.v 3) (I (1))))]])
@[simp] def e73_17 : X := (.p (.app 4) [(.v 2), e73_16])
@[simp] def e73_18 : X := (LN e73_17)
@[simp] def e73_19 : X := (LE e73_18 (I (1073741824)))
@[simp] def e73_20 : X := (.p (.call 100000 7300) [(.v 0), (.v 1), .nils, (I (1))])
@[simp] def e73_21 : X := (PJ 0 e73_20)
@[simp] def e73_22 : X := (EQ e73_21 (I (1)))
@[simp] def e73_23 : X := (PJ 1 e73_20)
def B7300 : Te LEnd := .ite (LE (.v 3) (I (256))) (
 .need e73_0 (
 .ite e73_1 (
 .need e73_4 (
 .ite e73_6 (
 .need e73_14 (
 .ok (.again [(.v 0), (.v 1), e73_12, (AD (.v 3) (I (1)))]))) (
 .ok (.again [(.v 0), (.v 1), (.v 2), (AD (.v 3) (I (1)))])))) (
 .ite (LE (.v 3) (LN (.v 0))) (
 .need e73_15 (
 .need e73_19 (
 .ok (.again [(.v 0), (.v 1), e73_17, (AD (.v 3) (I (1)))])))) (
 .ok (.again [(.v 0), (.v 1), (.v 2), (AD (.v 3) (I (1)))]))))) (
 .ok (.out 1 [(.v 2)]))
def d7300 : LoopD := ⟨3, ⟨7300, 4, ((.sym (.sl [(.int .i64), .str, (.int .i64), (.int .i64)]) (.v 0)) :: ((.sym (.sl [(.int .i64), .bool, (.int .i64), .str, (.int .i64), (.int .i64)]) (.v 1)) :: (J 3 ((.sym (.own 0 [(.int .i64), .str, (.int .i64), (.int .i64)]) (.v 2)) :: ((.sym (.int .i64) (.v 3)) :: (J 37 [])))))), ⟨⟨2, [], [[]], none⟩, [(0, .rows [(.int .i64), .str, (.int .i64), (.int .i64)] (.v 2))], []⟩,
 [(.exit 0, 1, (J 5 ((.sym (.own 0 [(.int .i64), .str, (.int .i64), (.int .i64)]) (.v 0)) :: (J 38 []))), ⟨⟨2, [], [[]], none⟩, [(0, .rows [(.int .i64), .str, (.int .i64), (.int .i64)] (.v 0))], []⟩)], [(1, [])]⟩, B7300⟩
@[simp] theorem d7300_id : d7300.L.id = 7300 := rfl
@[simp] theorem d7300_B : d7300.B = B7300 := rfl
def i73 : Inst := ⟨73, 0, [(.sym (.sl [(.int .i64), .str, (.int .i64), (.int .i64)]) (.v 0)), (.sym (.sl [(.int .i64), .bool, (.int .i64), .str, (.int .i64), (.int .i64)]) (.v 1))], [.one (.sl [(.int .i64), .str, (.int .i64), (.int .i64)])]⟩
def s73 : List Cal := [c87]
@[simp] theorem o73_87 (vs : List AV) : calO s73 87 0 vs = getJ (F87 vs) := oG rfl vs
@[simp] def l73 : List LoopD := [d7300]
def t73 : Te AV := .need e73_22 (
 .ok (.sym (.sl [(.int .i64), .str, (.int .i64), (.int .i64)]) e73_23))
def F73 : List AV → Option AV := unitF (omL KK s73 l73) t73
def c73 : Cal := ⟨i73, F73⟩
theorem x73 : XO i73 F73 := XU (cs := s73) (ds := l73) (t := t73) ⟨x87, trivial⟩ (x := g73) (by kernel_rfl) (by kernel_rfl) (by kernel_rfl)
end Go.Proofs.YtdeaibcebeofiaaGreatDoor.C5

namespace Go.Proofs.YtdeaibcebeofiaaGreatDoor.C5
open Go Go.Proofs.YtdeaibcebeofiaaGreatDoor.AM Go.Proofs
set_option maxRecDepth 100000
@[simp] def e13_0 : X := (.p (.okr [.one .bool]) [(.p (.call 15 0) [])])
@[simp] def e13_1 : X := (.p (.call 16 0) [(.v 0), (.v 1), (.v 2), (.v 3)])
@[simp] def e13_2 : X := (.p (.okr [.one .bool]) [e13_1])
@[simp] def e13_3 : X := (Q (.p .not [(.p (.call 15 0) [])]) (.b true) e13_2)
@[simp] def e13_4 : X := (.p .not [e13_1])
@[simp] def e13_5 : X := (.p (.okr [.one (.sl [(.int .i64), .str, (.int .i64), (.int .i64)])]) [(.p (.call 18 0) [(.v 4)])])
@[simp] def e13_6 : X := (Q e13_4 (.b true) e13_5)
@[simp] def e13_7 : X := (Q (.p .not [(.p (.call 15 0) [])]) (.b true) e13_6)
@[simp] def e13_8 : X := (.p (.call 17 0) [(.p (.call 18 0) [(.v 4)]), (I (40))])
@[simp] def e13_9 : X := (.p (.okr [.one .bool]) [e13_8])
@[simp] def e13_10 : X := (Q e13_4 (.b true) e13_9)
@[simp] def e13_11 : X := (Q (.p .not [(.p (.call 15 0) [])]) (.b true) e13_10)
@[simp] def e13_12 : X := (.p .not [e13_8])
@[simp] def e13_13 : X := (.p (.okr [.one .bool]) [(.p (.call 26 0) [(.v 5)])])
@[simp] def e13_14 : X := (Q e13_12 (.b true) e13_13)
@[simp] def e13_15 : X := (Q e13_4 (.b true) e13_14)
@[simp] def e13_16 : X := (Q (.p .not [(.p (.call 15 0) [])]) (.b true) e13_15)
@[simp] def e13_17 : X := (Q e13_12 (.b true) (.p .not [(.p (.call 26 0) [(.v 5)])]))
@[simp] def e13_18 : X := (Q e13_4 (.b true) e13_17)
@[simp] def e13_19 : X := (Q (.p .not [(.p (.call 15 0) [])]) (.b true) e13_18)
@[simp] def e13_20 : X := (.p (.call 72 0) [(.v 0), (.v 1), (.v 2), (.v 3), (.v 4), (.v 5)])
@[simp] def e13_21 : X := (.p (.okr [.one (.sl [(.int .i64), .str, (.int .i64), (.int .i64)]), .one (.int .i64)]) [e13_20])
@[simp] def e13_22 : X := (Q e13_19 (.b true) e13_21)
@[simp] def e13_23 : X := (Q e13_19 (.b true) e13_5)
@[simp] def e13_24 : X := (.p (.call 21 0) [(.v 0), (.v 1), (.v 2), (.v 3), (.p (.call 18 0) [(.v 4)])])
@[simp] def e13_25 : X := (.p (.okr [.one (.int .i64)]) [e13_24])
@[simp] def e13_26 : X := (Q e13_19 (.b true) e13_25)
@[simp] def e13_27 : X := (EQ e13_24 (I (0)))
@[simp] def e13_28 : X := (.p (.okr [.one (.sl [(.int .i64), .bool, (.int .i64), .str, (.int .i64), (.int .i64)])]) [(.p (.call 32 0) [(.v 5)])])
@[simp] def e13_29 : X := (Q e13_27 e13_28 (.b true))
@[simp] def e13_30 : X := (Q e13_19 (.b true) e13_29)
@[simp] def e13_31 : X := (.p (.call 31 0) [(.v 0), (.v 1), (.v 2), (.v 3), (.p (.call 32 0) [(.v 5)])])
@[simp] def e13_32 : X := (.p (.okr [.one (.int .i64)]) [e13_31])
@[simp] def e13_33 : X := (Q e13_27 e13_32 (.b true))
@[simp] def e13_34 : X := (Q e13_19 (.b true) e13_33)
@[simp] def e13_35 : X := (Q e13_27 e13_31 e13_24)
@[simp] def e13_36 : X := (.p (.bin .neq .i64) [e13_35, (I (0))])
@[simp] def e13_37 : X := (PJ 0 e13_20)
@[simp] def e13_38 : X := (PJ 1 e13_20)
@[simp] def e13_39 : X := (.p (.call 29 0) [e13_37, e13_38, e13_35, .nils])
@[simp] def e13_40 : X := (.p (.okr [.one .bool]) [e13_39])
@[simp] def e13_41 : X := (Q e13_36 e13_40 (.b true))
@[simp] def e13_42 : X := (Q e13_19 (.b true) e13_41)
@[simp] def e13_43 : X := (Q e13_36 (.b true) e13_28)
@[simp] def e13_44 : X := (Q e13_19 (.b true) e13_43)
@[simp] def e13_45 : X := (.p (.call 73 0) [(.p (.call 18 0) [(.v 4)]), (.p (.call 32 0) [(.v 5)])])
@[simp] def e13_46 : X := (.p (.okr [.one (.sl [(.int .i64), .str, (.int .i64), (.int .i64)])]) [e13_45])
@[simp] def e13_47 : X := (Q e13_36 (.b true) e13_46)
@[simp] def e13_48 : X := (Q e13_19 (.b true) e13_47)
@[simp] def e13_49 : X := (.p (.call 29 0) [e13_37, e13_38, (I (0)), e13_45])
@[simp] def e13_50 : X := (.p (.okr [.one .bool]) [e13_49])
@[simp] def e13_51 : X := (Q e13_36 (.b true) e13_50)
@[simp] def e13_52 : X := (Q e13_19 (.b true) e13_51)
@[simp] def e13_53 : X := (Q e13_36 e13_39 e13_49)
@[simp] def e13_54 : X := (Q e13_19 (.p (.call 15 0) []) e13_53)
def i13 : Inst := ⟨13, 0, [(.agg [(.sym .str (.v 0)), (.sym (.sl [.str]) (.v 1)), (.sym (.int .i64) (.v 2)), (.sym (.int .i64) (.v 3))]), (.sym (.sl [(.int .i64), .str, (.int .i64), (.int .i64)]) (.v 4)), (.sym (.sl [(.int .i64), .bool, (.int .i64), .str, (.int .i64), (.int .i64)]) (.v 5))], [.one .bool]⟩
def s13 : List Cal := [c15, c16, c18, c17, c26, c72, c21, c32, c31, c29, c73]
@[simp] theorem o13_15 (vs : List AV) : calO s13 15 0 vs = getJ (F15 vs) := oG rfl vs
@[simp] theorem o13_16 (vs : List AV) : calO s13 16 0 vs = getJ (F16 vs) := oG rfl vs
@[simp] theorem o13_18 (vs : List AV) : calO s13 18 0 vs = getJ (F18 vs) := oG rfl vs
@[simp] theorem o13_17 (vs : List AV) : calO s13 17 0 vs = getJ (F17 vs) := oG rfl vs
@[simp] theorem o13_26 (vs : List AV) : calO s13 26 0 vs = getJ (F26 vs) := oG rfl vs
@[simp] theorem o13_72 (vs : List AV) : calO s13 72 0 vs = getJ (F72 vs) := oG rfl vs
@[simp] theorem o13_21 (vs : List AV) : calO s13 21 0 vs = getJ (F21 vs) := oG rfl vs
@[simp] theorem o13_32 (vs : List AV) : calO s13 32 0 vs = getJ (F32 vs) := oG rfl vs
@[simp] theorem o13_31 (vs : List AV) : calO s13 31 0 vs = getJ (F31 vs) := oG rfl vs
@[simp] theorem o13_29 (vs : List AV) : calO s13 29 0 vs = getJ (F29 vs) := oG rfl vs
@[simp] theorem o13_73 (vs : List AV) : calO s13 73 0 vs = getJ (F73 vs) := oG rfl vs
@[simp] def l13 : List LoopD := []
def t13 : Te AV := .need e13_0 (
 .need e13_3 (
 .need e13_7 (
 .need e13_11 (
 .need e13_16 (
 .need e13_22 (
 .need e13_23 (
 .need e13_26 (
 .need e13_30 (
 .need e13_34 (
 .need e13_42 (
 .need e13_44 (
 .need e13_48 (
 .need e13_52 (
 .ok (.sym .bool e13_54)))))))))))))))
def F13 : List AV → Option AV := unitF (omL KK s13 l13) t13
def c13 : Cal := ⟨i13, F13⟩
theorem x13 : XO i13 F13 := XU (cs := s13) (ds := l13) (t := t13) ⟨x15, x16, x18, x17, x26, x72, x21, x32, x31, x29, x73, trivial⟩ (x := g13) (by kernel_rfl) (by kernel_rfl) (by kernel_rfl)
end Go.Proofs.YtdeaibcebeofiaaGreatDoor.C5

namespace Go.Proofs.YtdeaibcebeofiaaGreatDoor.C5
open Go Go.Proofs.YtdeaibcebeofiaaGreatDoor.AM
set_option maxRecDepth 20000
set_option maxHeartbeats 4000000
def putAt (xs : List Ent) (rs : List Rul) (i : Nat) : List Ent :=
 match rulAt rs rs.length ((i + 1 : Nat) : Int) with
 | some r => if r.2.1 then [] else [r.2.2]
 | none => (xs[i]?).toList
def putN (xs : List Ent) (rs : List Rul) : Nat → List Ent
 | 0 => []
 | i + 1 => putN xs rs i ++ putAt xs rs i
theorem putAt_len (xs : List Ent) (rs : List Rul) (i : Nat) : (putAt xs rs i).length ≤ 1 := by
 unfold putAt
 split
 ·split <;> simp
 ·cases xs[i]? <;> simp
theorem putN_len (xs : List Ent) (rs : List Rul) : ∀ i, (putN xs rs i).length ≤ i
 | 0 => Nat.le_refl _
 | i + 1 => by
   have := putN_len xs rs i
   have := putAt_len xs rs i
   simp only [putN, List.length_append]
   omega
def accP (xs : List Ent) (rs : List Rul) (i : Nat) : AV := mkL 4 ((putN xs rs i).map entR)
theorem accP_nil {xs : List Ent} {rs : List Rul} {i : Nat} (h : putAt xs rs i = []) : accP xs rs (i + 1) = accP xs rs i := by
 simp [accP, putN, h]
theorem accP_one {xs : List Ent} {rs : List Rul} {i : Nat} {e : Ent} (h : putAt xs rs i = [e]) : accP xs rs (i + 1) = .sl 4 ((putN xs rs i).map entR ++ [entR e]) := by
 rw [← mkL_snoc]
 simp [accP, putN, h]
theorem accP_rows (xs : List Ent) (rs : List Rul) (i : Nat) : (accP xs rs i).rowsL = (putN xs rs i).map entR := mkL_rows _ _
theorem accP_len (xs : List Ent) (rs : List Rul) (i : Nat) : (accP xs rs i).lenN = (putN xs rs i).length := by
 rw [accP, (mkL_isL 4 _).len, List.length_map]
theorem G7200 {a : AV} {xs : List Ent} {rs : List Rul} (h : IsL 4 (xs.map entR) a) :
  loopG (calO s72) B7200 KK [a, .im (mapE rs rs.length), .nils, ia 1] = some (.tuple [ia 1, accP xs rs 256]) := by
 refine loopF (fun i => [a, .im (mapE rs rs.length), accP xs rs i, ia ((i + 1 : Nat) : Int)]) 256 _ (by omega) (fun i hi => ?_) ?_
 ·have hw : IntKind.i64.wrap (((i + 1 : Nat) : Int) + 1) = ((i + 1 + 1 : Nat) : Int) := wS (by omega)
  have hw' : IntKind.i64.wrap (i : Int) = (i : Int) := by rw [i64w (by omega) (by omega)]
  have hl := putN_len xs rs i
  have hc : ((i + 1 : Nat) : Int) ≤ 256 := by omega
  have hb : ((putN xs rs i).length : Int) + 1 ≤ 1073741824 := by omega
  have hf := (mapE_of rs rs.length (Nat.le_refl _)).find ((i + 1 : Nat) : Int)
  cases hr : rulAt rs rs.length ((i + 1 : Nat) : Int) with
  | none =>
    rw [hr] at hf
    by_cases h1 : i < xs.length
    ·have ht : putAt xs rs i = [xs[i]] := by simp only [putAt, hr]; simp [h1]
     have hr1 : nth a.rowsL (Int.toNat (i : Int)) = some (entR xs[i]) := h.row h1
     have h2 : (i : Int) + 1 ≤ xs.length := by omega
     simp only [entR, Int.toNat_natCast] at hr1
     rw [accP_one ht]
     push_cast at hw hc hf ⊢
     simp [B7200, h.lenM, hc, hf, hw, hw', h1, h2, hr1, accP_rows, hb, entR]
    ·have ht : putAt xs rs i = [] := by simp only [putAt, hr]; simp [h1]
     have h2 : ¬ (i : Int) + 1 ≤ xs.length := by omega
     rw [accP_nil ht]
     push_cast at hw hc hf ⊢
     simp [B7200, h.lenM, hc, hf, hw, h2]
  | some r =>
    rw [hr] at hf
    cases hv : r.2.1 with
    | true =>
      have ht : putAt xs rs i = [] := by simp only [putAt, hr, hv]; rfl
      rw [accP_nil ht]
      push_cast at hw hc hf ⊢
      simp [B7200, h.lenM, hc, hf, hw, rulR, hv]
    | false =>
      have ht : putAt xs rs i = [r.2.2] := by simp only [putAt, hr, hv]; rfl
      rw [accP_one ht]
      push_cast at hw hc hf ⊢
      simp [B7200, h.lenM, hc, hf, hw, rulR, hv, accP_rows, hb, entR]
 ·simp [B7200]
theorem G7300 {a c : AV} {xs : List Ent} {rs : List Rul} (h : IsL 4 (xs.map entR) a) (h'' : IsL 6 (rs.map rulR) c) (hz : rs.length < 1048577) :
  loopG (calO s73) B7300 KK [a, c, .nils, ia 1] = some (.tuple [ia 1, accP xs rs 256]) := by
 refine loopF (fun i => [a, c, accP xs rs i, ia ((i + 1 : Nat) : Int)]) 256 _ (by omega) (fun i hi => ?_) ?_
 ·have hw : IntKind.i64.wrap (((i + 1 : Nat) : Int) + 1) = ((i + 1 + 1 : Nat) : Int) := wS (by omega)
  have hw' : IntKind.i64.wrap (i : Int) = (i : Int) := by rw [i64w (by omega) (by omega)]
  have hl := putN_len xs rs i
  have hc : ((i + 1 : Nat) : Int) ≤ 256 := by omega
  have hb : ((putN xs rs i).length : Int) + 1 ≤ 1073741824 := by omega
  have hp := p87 h'' hz ((i + 1 : Nat) : Int)
  cases hr : lastI rs rs.length ((i + 1 : Nat) : Int) with
  | none =>
    have hr' : rulAt rs rs.length ((i + 1 : Nat) : Int) = none := by simp only [rulAt, hr]; rfl
    simp only [lastN, hr] at hp
    by_cases h1 : i < xs.length
    ·have ht : putAt xs rs i = [xs[i]] := by simp only [putAt, hr']; simp [h1]
     have hr1 : nth a.rowsL (Int.toNat (i : Int)) = some (entR xs[i]) := h.row h1
     have h2 : (i : Int) + 1 ≤ xs.length := by omega
     simp only [entR, Int.toNat_natCast] at hr1
     rw [accP_one ht]
     push_cast at hp hw hc ⊢
     simp [B7300, h.lenM, h''.lenM, hp, hc, hw, hw', h1, h2, hr1, accP_rows, hb, entR]
    ·have ht : putAt xs rs i = [] := by simp only [putAt, hr']; simp [h1]
     have h2 : ¬ (i : Int) + 1 ≤ xs.length := by omega
     rw [accP_nil ht]
     push_cast at hp hw hc ⊢
     simp [B7300, h.lenM, h''.lenM, hp, hc, hw, h2]
  | some j =>
    have hj := lastI_lt rs _ _ _ hr
    have hr' : rulAt rs rs.length ((i + 1 : Nat) : Int) = some rs[j] := by simp only [rulAt, hr]; simp [hj]
    have hrj : nth c.rowsL (Int.toNat (j : Int)) = some (rulR rs[j]) := h''.row hj
    simp only [rulR, Int.toNat_natCast] at hrj
    simp only [lastN, hr] at hp
    have hj0 : ¬ (j : Int) < 0 := by omega
    have hj1 : (0 : Int) ≤ j := by omega
    cases hv : rs[j].2.1 with
    | true =>
      have ht : putAt xs rs i = [] := by simp only [putAt, hr', hv]; rfl
      rw [accP_nil ht]
      push_cast at hp hw hc ⊢
      simp [B7300, h.lenM, h''.lenM, hp, hc, hw, hrj, hv, hj, hj0, hj1]
    | false =>
      have ht : putAt xs rs i = [rs[j].2.2] := by simp only [putAt, hr', hv]; rfl
      rw [accP_one ht]
      push_cast at hp hw hc ⊢
      simp [B7300, h.lenM, h''.lenM, hp, hc, hw, hrj, hv, hj, hj0, hj1, accP_rows, hb, entR]
 ·simp [B7300]
theorem p73 {a c : AV} {xs : List Ent} {rs : List Rul} (h : IsL 4 (xs.map entR) a) (h'' : IsL 6 (rs.map rulR) c) (hz : rs.length < 1048577) : F73 [a, c] = some (accP xs rs 256) := by
 have hG := G7300 h h'' hz
 simp [F73, unitF_eq, t73, hG]
theorem p72 {r : Rd} {names a c : AV} (hr : RdOk r names) {xs : List Ent} {rs : List Rul} (h : IsL 4 (xs.map entR) a) (hx : xs.length < 1048577) (h'' : IsL 6 (rs.map rulR) c) (hz : rs.length < 1048577) :
  F72 [.str r.f, names, ia r.pl, ia r.ti, a, c] = some (if ckLog r xs ≠ 0 then .tuple [.nils, ia (ckLog r xs)] else if cksR r.ns.length rs ≠ 0 then .tuple [.nils, ia (cksR r.ns.length rs)] else .tuple [accP xs rs 256, ia 0]) := by
 have h1 := p61 hr h hx
 have h2 := p84 (f := .str r.f) (pl := ia r.pl) (ti := ia r.ti) hr.isL.lenM (by have := hr.len; omega) h'' (by omega)
 have h3 := p85 h'' hz
 have h4 : (Sh.im (.int .i64) true [.int .i64, .bool, .int .i64, .str, .int .i64, .int .i64]).ok (.im (mapE rs rs.length)) = true := im_ok (mapE_of rs rs.length (Nat.le_refl _))
 have hG := G7200 (rs := rs) h
 have h5 : ¬ (256 : Int) < (putN xs rs 256).length := by have := putN_len xs rs 256; omega
 have h6 := p103 false 5
 change F84 _ = some (ia (cksR r.ns.length rs)) at h2
 by_cases hc : ckLog r xs = 0
 ·by_cases hc2 : cksR r.ns.length rs = 0
  ·simp [F72, unitF_eq, t72, h1, h2, h3, h4, hG, hc, hc2, accP_len, h5, h6, whenI]
  ·simp [F72, unitF_eq, t72, h1, h2, h3, h4, hc, hc2]
 ·simp [F72, unitF_eq, t72, h1, hc]
theorem p31'' {names f pl ti a : AV} {n : Nat} (hl : names.lenN = n) (hn : n < 2097152) {es : List Rul} (h : IsL 6 (es.map rulR) a) (hes : es.length < 2097152) :
  F31 [f, names, pl, ti, a] = some (ia (cksR n es)) := p31 hl hn h hes
theorem law13 {r : Rd} {names a c : AV} (hr : RdOk r names) {xs : List Ent} {rs : List Rul} (h : IsL 4 (xs.map entR) a) (hx : xs.length < 1048577)
  (h'' : IsL 6 (rs.map rulR) c) (hz : rs.length < 1048577) : F13 [.str r.f, names, ia r.pl, ia r.ti, a, c] = some (.bool true) := by
 have okE : ∀ zs : List Ent, (Sh.sl [.int .i64, .str, .int .i64, .int .i64]).ok (mkL 4 (zs.map entR)) = true := fun zs => (mkL_isL 4 (zs.map entR)).ok rfl (by simp [entR])
 have okR : ∀ zs : List Rul, (Sh.sl [.int .i64, .bool, .int .i64, .str, .int .i64, .int .i64]).ok (mkL 6 (zs.map rulR)) = true := fun zs => (mkL_isL 6 (zs.map rulR)).ok rfl (by simp [rulR])
 have okA : ∀ n, (Sh.sl [.int .i64, .str, .int .i64, .int .i64]).ok (accP xs rs n) = true := fun n => (mkL_isL 4 _).ok rfl (by simp [entR])
 have e1 := p18 h hx
 have i1 := mkL_isL 4 (xs.map entR)
 have i3 := mkL_isL 6 (rs.map rulR)
 obtain ⟨b1, z1⟩ := p16 (pl := ia r.pl) (ti := ia r.ti) (f := r.f) hr.isL hr.len
 obtain ⟨b2, z2⟩ := p17 i1 hx 40
 obtain ⟨b4, z4⟩ := p26 h'' hz
 have f72 := p72 hr h hx h'' hz
 have f21 := p21 hr i1 hx
 have f32 := p32 h'' hz
 have f31 := p31'' (f := .str r.f) (pl := ia r.pl) (ti := ia r.ti) hr.isL.lenM (by have := hr.len; omega) i3 (by omega)
 have f73 := p73 i1 i3 hz
 have f15 : F15 [] = some (.bool true) := rfl
 have o15 : calO s13 15 0 [] = .bool true := by rw [o13_15, f15]; rfl
 have hA : IsL 4 ((putN xs rs 256).map entR) (accP xs rs 256) := mkL_isL _ _
 have lA : (putN xs rs 256).length < 1048577 := by have := putN_len xs rs 256; omega
 have g29 := p29_ok hA hA lA
 by_cases hc1 : ckLog r xs = 0
 ·simp only [ne_eq, hc1, not_true_eq_false, if_false] at f72
  by_cases hc2 : cksR r.ns.length rs = 0
  ·simp only [hc2, not_true_eq_false, if_false] at f72
   cases b1 <;> cases b2 <;> cases b4 <;>
    simp [F13, unitF_eq, t13, e1, z1, z2, z4, okE, okR, okA, f72, f21, f32, f31, f73, o15, hc1, hc2, g29, p29_bad]
  ·simp only [hc2, not_false_eq_true, if_true] at f72
   cases b1 <;> cases b2 <;> cases b4 <;>
    simp [F13, unitF_eq, t13, e1, z1, z2, z4, okE, okR, okA, f72, f21, f32, f31, o15, hc1, hc2, p29_bad]
 ·simp only [ne_eq, hc1, not_false_eq_true, if_true] at f72
  cases b1 <;> cases b2 <;> cases b4 <;>
   simp [F13, unitF_eq, t13, e1, z1, z2, z4, okE, okR, okA, f72, f21, f32, f31, o15, hc1, p29_bad]
end Go.Proofs.YtdeaibcebeofiaaGreatDoor.C5

namespace Go.Proofs.YtdeaibcebeofiaaGreatDoor.C5
open Go Go.Proofs.YtdeaibcebeofiaaGreatDoor.AM Go.Proofs
set_option maxRecDepth 100000
@[simp] def e14_0 : X := (Q (LE (I (0)) (.v 5)) (LT (.v 5) (LN (.v 6))) (.b false))
@[simp] def e14_1 : X := (.sl 6 [[(AD (.v 5) (I (1))), (.b false), (C 0 (.v 6) (.v 5)), (C 1 (.v 6) (.v 5)), (C 2 (.v 6) (.v 5)), (C 3 (.v 6) (.v 5))]])
@[simp] def e14_2 : X := (.p (.app 6) [(.v 3), e14_1])
@[simp] def e14_3 : X := (LN e14_2)
@[simp] def e14_4 : X := (LE e14_3 (I (1073741824)))
@[simp] def e14_5 : X := (Q (LE (I (0)) (.v 5)) (LT (.v 5) (LN (.v 2))) (.b false))
@[simp] def e14_6 : X := (.p (.bin .gtr .i64) [(LN (.v 1)), (LN (.v 0))])
@[simp] def e14_7 : X := (Q e14_6 (LN (.v 1)) (LN (.v 0)))
@[simp] def e14_8 : X := (.p (.bin .gtr .i64) [(C 0 (.v 2) (.v 5)), e14_7])
@[simp] def e14_9 : X := (Q (LT (C 0 (.v 2) (.v 5)) (I (1))) (.b true) e14_8)
@[simp] def e14_10 : X := (LE (I (0)) (SB (C 0 (.v 2) (.v 5)) (I (1))))
@[simp] def e14_11 : X := (LT (SB (C 0 (.v 2) (.v 5)) (I (1))) (LN (.v 6)))
@[simp] def e14_12 : X := (Q e14_10 e14_11 (.b false))
@[simp] def e14_13 : X := (Q (LE (C 0 (.v 2) (.v 5)) (LN (.v 6))) e14_12 (.b true))
@[simp] def e14_14 : X := (Q (LE (C 0 (.v 2) (.v 5)) (LN (.v 6))) (.b false) (.b true))
@[simp] def e14_15 : X := (C 0 (.v 6) (SB (C 0 (.v 2) (.v 5)) (I (1))))
@[simp] def e14_16 : X := (Q (LE (C 0 (.v 2) (.v 5)) (LN (.v 6))) e14_15 (I (0)))
@[simp] def e14_17 : X := (C 1 (.v 6) (SB (C 0 (.v 2) (.v 5)) (I (1))))
@[simp] def e14_18 : X := (Q (LE (C 0 (.v 2) (.v 5)) (LN (.v 6))) e14_17 (.s w3))
@[simp] def e14_19 : X := (C 2 (.v 6) (SB (C 0 (.v 2) (.v 5)) (I (1))))
@[simp] def e14_20 : X := (Q (LE (C 0 (.v 2) (.v 5)) (LN (.v 6))) e14_19 (I (0)))
@[simp] def e14_21 : X := (C 3 (.v 6) (SB (C 0 (.v 2) (.v 5)) (I (1))))
@[simp] def e14_22 : X := (Q (LE (C 0 (.v 2) (.v 5)) (LN (.v 6))) e14_21 (I (0)))
@[simp] def e14_23 : X := (.sl 6 [[(C 0 (.v 2) (.v 5)), e14_14, e14_16, e14_18, e14_20, e14_22]])
@[simp] def e14_24 : X := (.p (.app 6) [(.v 3), e14_23])
@[simp] def e14_25 : X := (LN e14_24)
@[simp] def e14_26 : X := (LE e14_25 (I (1073741824)))
@[simp] def e14_27 : X := (.p (.okr [.one (.sl [(.int .i64), .str, (.int .i64), (.int .i64)])]) [(.p (.call 18 0) [(.v 4)])])
@[simp] def e14_28 : X := (.p (.okr [.one (.sl [(.int .i64), .str, (.int .i64), (.int .i64)])]) [(.p (.call 18 0) [(.v 5)])])
@[simp] def e14_29 : X := (.p (.okr [.one .bool]) [(.p (.call 15 0) [])])
@[simp] def e14_30 : X := (.p (.call 16 0) [(.v 0), (.v 1), (.v 2), (.v 3)])
@[simp] def e14_31 : X := (.p (.okr [.one .bool]) [e14_30])
@[simp] def e14_32 : X := (Q (.p .not [(.p (.call 15 0) [])]) (.b true) e14_31)
@[simp] def e14_33 : X := (.p .not [e14_30])
@[simp] def e14_34 : X := (.p (.bin .gtr .i64) [(LN (.v 4)), (I (20))])
@[simp] def e14_35 : X := (.p (.bin .gtr .i64) [(LN (.v 5)), (I (20))])
@[simp] def e14_36 : X := (.p (.call 17 0) [(.p (.call 18 0) [(.v 4)]), (I (20))])
@[simp] def e14_37 : X := (.p (.okr [.one .bool]) [e14_36])
@[simp] def e14_38 : X := (Q e14_35 (.b true) e14_37)
@[simp] def e14_39 : X := (Q e14_34 (.b true) e14_38)
@[simp] def e14_40 : X := (Q e14_33 (.b true) e14_39)
@[simp] def e14_41 : X := (Q (.p .not [(.p (.call 15 0) [])]) (.b true) e14_40)
@[simp] def e14_42 : X := (.p .not [e14_36])
@[simp] def e14_43 : X := (.p (.call 17 0) [(.p (.call 18 0) [(.v 5)]), (I (20))])
@[simp] def e14_44 : X := (.p (.okr [.one .bool]) [e14_43])
@[simp] def e14_45 : X := (Q e14_42 (.b true) e14_44)
@[simp] def e14_46 : X := (Q e14_35 (.b true) e14_45)
@[simp] def e14_47 : X := (Q e14_34 (.b true) e14_46)
@[simp] def e14_48 : X := (Q e14_33 (.b true) e14_47)
@[simp] def e14_49 : X := (Q (.p .not [(.p (.call 15 0) [])]) (.b true) e14_48)
@[simp] def e14_50 : X := (.p .not [e14_43])
@[simp] def e14_51 : X := (.p (.call 21 0) [(.v 0), (.v 1), (.v 2), (.v 3), (.p (.call 18 0) [(.v 4)])])
@[simp] def e14_52 : X := (.p (.okr [.one (.int .i64)]) [e14_51])
@[simp] def e14_53 : X := (Q e14_50 (.b true) e14_52)
@[simp] def e14_54 : X := (Q e14_42 (.b true) e14_53)
@[simp] def e14_55 : X := (Q e14_35 (.b true) e14_54)
@[simp] def e14_56 : X := (Q e14_34 (.b true) e14_55)
@[simp] def e14_57 : X := (Q e14_33 (.b true) e14_56)
@[simp] def e14_58 : X := (Q (.p .not [(.p (.call 15 0) [])]) (.b true) e14_57)
@[simp] def e14_59 : X := (.p (.bin .neq .i64) [e14_51, (I (0))])
@[simp] def e14_60 : X := (.p (.call 21 0) [(.v 0), (.v 1), (.v 2), (.v 3), (.p (.call 18 0) [(.v 5)])])
@[simp] def e14_61 : X := (.p (.okr [.one (.int .i64)]) [e14_60])
@[simp] def e14_62 : X := (Q e14_59 (.b true) e14_61)
@[simp] def e14_63 : X := (Q e14_50 (.b true) e14_62)
@[simp] def e14_64 : X := (Q e14_42 (.b true) e14_63)
@[simp] def e14_65 : X := (Q e14_35 (.b true) e14_64)
@[simp] def e14_66 : X := (Q e14_34 (.b true) e14_65)
@[simp] def e14_67 : X := (Q e14_33 (.b true) e14_66)
@[simp] def e14_68 : X := (Q (.p .not [(.p (.call 15 0) [])]) (.b true) e14_67)
@[simp] def e14_69 : X := (.p (.bin .neq .i64) [e14_60, (I (0))])
@[simp] def e14_70 : X := (Q e14_59 (.b true) e14_69)
@[simp] def e14_71 : X := (Q e14_50 (.b true) e14_70)
@[simp] def e14_72 : X := (Q e14_42 (.b true) e14_71)
@[simp] def e14_73 : X := (Q e14_35 (.b true) e14_72)
@[simp] def e14_74 : X := (Q e14_34 (.b true) e14_73)
@[simp] def e14_75 : X := (Q e14_33 (.b true) e14_74)
@[simp] def e14_76 : X := (Q (.p .not [(.p (.call 15 0) [])]) (.b true) e14_75)
@[simp] def e14_77 : X := (.p (.call 27 0) [(.v 0), (.v 1), (.v 2), (.v 3), (.v 4), (.v 4)])
@[simp] def e14_78 : X := (.p (.okr [.one (.sl [(.int .i64)]), .one (.int .i64)]) [e14_77])
@[simp] def e14_79 : X := (Q e14_76 (.b true) e14_78)
@[simp] def e14_80 : X := (.p (.call 28 0) [(.v 0), (.v 1), (.v 2), (.v 3), (.v 4), (.v 4), .nils])
@[simp] def e14_81 : X := (.p (.okr [.one (.sl [(.int .i64), .str, (.int .i64), (.int .i64)]), .one (.int .i64)]) [e14_80])
@[simp] def e14_82 : X := (Q e14_76 (.b true) e14_81)
@[simp] def e14_83 : X := (.p (.call 27 0) [(.v 0), (.v 1), (.v 2), (.v 3), (.v 4), (.v 5)])
@[simp] def e14_84 : X := (.p (.okr [.one (.sl [(.int .i64)]), .one (.int .i64)]) [e14_83])
@[simp] def e14_85 : X := (Q e14_76 (.b true) e14_84)
@[simp] def e14_86 : X := (.p (.call 27 0) [(.v 0), (.v 1), (.v 2), (.v 3), (.v 5), (.v 4)])
@[simp] def e14_87 : X := (.p (.okr [.one (.sl [(.int .i64)]), .one (.int .i64)]) [e14_86])
@[simp] def e14_88 : X := (Q e14_76 (.b true) e14_87)
@[simp] def e14_89 : X := (PJ 1 e14_77)
@[simp] def e14_90 : X := (PJ 1 e14_80)
@[simp] def e14_91 : X := (AD e14_89 e14_90)
@[simp] def e14_92 : X := (PJ 1 e14_83)
@[simp] def e14_93 : X := (AD e14_91 e14_92)
@[simp] def e14_94 : X := (PJ 1 e14_86)
@[simp] def e14_95 : X := (AD e14_93 e14_94)
@[simp] def e14_96 : X := (.p (.bin .neq .i64) [e14_95, (I (0))])
@[simp] def e14_97 : X := (PJ 0 e14_77)
@[simp] def e14_98 : X := (LN e14_97)
@[simp] def e14_99 : X := (.p (.bin .neq .i64) [e14_98, (I (0))])
@[simp] def e14_100 : X := (PJ 0 e14_80)
@[simp] def e14_101 : X := (.p (.call 18 0) [e14_100])
@[simp] def e14_102 : X := (.p (.okr [.one (.sl [(.int .i64), .str, (.int .i64), (.int .i64)])]) [e14_101])
@[simp] def e14_103 : X := (Q e14_99 (.b true) e14_102)
@[simp] def e14_104 : X := (Q e14_96 (.b true) e14_103)
@[simp] def e14_105 : X := (Q e14_76 (.b true) e14_104)
@[simp] def e14_106 : X := (.p (.call 74 0) [e14_101, (.p (.call 18 0) [(.v 4)])])
@[simp] def e14_107 : X := (.p (.okr [.one .bool]) [e14_106])
@[simp] def e14_108 : X := (Q e14_99 (.b true) e14_107)
@[simp] def e14_109 : X := (Q e14_96 (.b true) e14_108)
@[simp] def e14_110 : X := (Q e14_76 (.b true) e14_109)
@[simp] def e14_111 : X := (.p .not [e14_106])
@[simp] def e14_112 : X := (PJ 0 e14_83)
@[simp] def e14_113 : X := (PJ 0 e14_86)
@[simp] def e14_114 : X := (.p (.call 75 0) [e14_112, e14_113])
@[simp] def e14_115 : X := (.p (.okr [.one .bool]) [e14_114])
@[simp] def e14_116 : X := (Q e14_111 (.b true) e14_115)
@[simp] def e14_117 : X := (Q e14_99 (.b true) e14_116)
@[simp] def e14_118 : X := (Q e14_96 (.b true) e14_117)
@[simp] def e14_119 : X := (Q e14_76 (.b true) e14_118)
@[simp] def e14_120 : X := (.p .not [e14_114])
@[simp] def e14_121 : X := (LN e14_112)
@[simp] def e14_122 : X := (.p (.bin .gtr .i64) [(LN (.p (.call 18 0) [(.v 5)])), (LN (.p (.call 18 0) [(.v 4)]))])
@[simp] def e14_123 : X := (Q e14_122 (LN (.p (.call 18 0) [(.v 5)])) (LN (.p (.call 18 0) [(.v 4)])))
@[simp] def e14_124 : X := (.p (.bin .gtr .i64) [e14_121, e14_123])
@[simp] def e14_125 : X := (Q e14_120 (.b true) e14_124)
@[simp] def e14_126 : X := (Q e14_111 (.b true) e14_125)
@[simp] def e14_127 : X := (Q e14_99 (.b true) e14_126)
@[simp] def e14_128 : X := (Q e14_96 (.b true) e14_127)
@[simp] def e14_129 : X := (.p (.call 100000 1400) [(.p (.call 18 0) [(.v 4)]), (.p (.call 18 0) [(.v 5)]), e14_112, .nils, e14_121, (I (0)), (.v 4), (.v 5), (.v 0), (.v 1), (.v 2), (.v 3)])
@[simp] def e14_130 : X := (PJ 0 e14_129)
@[simp] def e14_131 : X := (EQ e14_130 (I (1)))
@[simp] def e14_132 : X := (EQ e14_130 (I (2)))
@[simp] def e14_133 : X := (Q e14_131 (.b true) e14_132)
@[simp] def e14_134 : X := (Q e14_128 (.b true) e14_133)
@[simp] def e14_135 : X := (Q e14_76 (.b true) e14_134)
@[simp] def e14_136 : X := (PJ 3 e14_129)
@[simp] def e14_137 : X := (.p (.call 100000 1401) [(.p (.call 18 0) [(.v 4)]), e14_112, e14_136, .nils, (LN (.v 4)), (I (0)), (.v 4), (.v 5), (.v 0), (.v 1), (.v 2), (.v 3)])
@[simp] def e14_138 : X := (PJ 0 e14_137)
@[simp] def e14_139 : X := (EQ e14_138 (I (1)))
@[simp] def e14_140 : X := (Q e14_131 (.b true) e14_139)
@[simp] def e14_141 : X := (Q e14_128 (.b true) e14_140)
@[simp] def e14_142 : X := (Q e14_76 (.b true) e14_141)
@[simp] def e14_143 : X := (.p (.call 28 0) [(.v 0), (.v 1), (.v 2), (.v 3), (.v 4), (.v 5), e14_136])
@[simp] def e14_144 : X := (.p (.okr [.one (.sl [(.int .i64), .str, (.int .i64), (.int .i64)]), .one (.int .i64)]) [e14_143])
@[simp] def e14_145 : X := (Q e14_131 (.b true) e14_144)
@[simp] def e14_146 : X := (Q e14_128 (.b true) e14_145)
@[simp] def e14_147 : X := (Q e14_76 (.b true) e14_146)
@[simp] def e14_148 : X := (.p (.call 28 0) [(.v 0), (.v 1), (.v 2), (.v 3), (.v 5), (.v 4), e14_136])
@[simp] def e14_149 : X := (.p (.okr [.one (.sl [(.int .i64), .str, (.int .i64), (.int .i64)]), .one (.int .i64)]) [e14_148])
@[simp] def e14_150 : X := (Q e14_131 (.b true) e14_149)
@[simp] def e14_151 : X := (Q e14_128 (.b true) e14_150)
@[simp] def e14_152 : X := (Q e14_76 (.b true) e14_151)
@[simp] def e14_153 : X := (PJ 4 e14_137)
@[simp] def e14_154 : X := (.p (.call 72 0) [(.v 0), (.v 1), (.v 2), (.v 3), (.v 4), e14_153])
@[simp] def e14_155 : X := (.p (.okr [.one (.sl [(.int .i64), .str, (.int .i64), (.int .i64)]), .one (.int .i64)]) [e14_154])
@[simp] def e14_156 : X := (Q e14_131 (.b true) e14_155)
@[simp] def e14_157 : X := (Q e14_128 (.b true) e14_156)
@[simp] def e14_158 : X := (Q e14_76 (.b true) e14_157)
@[simp] def e14_159 : X := (.p (.call 28 0) [(.v 0), (.v 1), (.v 2), (.v 3), (.v 4), (.v 5), .nils])
@[simp] def e14_160 : X := (.p (.okr [.one (.sl [(.int .i64), .str, (.int .i64), (.int .i64)]), .one (.int .i64)]) [e14_159])
@[simp] def e14_161 : X := (Q e14_131 (.b true) e14_160)
@[simp] def e14_162 : X := (Q e14_128 (.b true) e14_161)
@[simp] def e14_163 : X := (Q e14_76 (.b true) e14_162)
@[simp] def e14_164 : X := (PJ 1 e14_143)
@[simp] def e14_165 : X := (PJ 1 e14_148)
@[simp] def e14_166 : X := (AD e14_164 e14_165)
@[simp] def e14_167 : X := (PJ 1 e14_154)
@[simp] def e14_168 : X := (AD e14_166 e14_167)
@[simp] def e14_169 : X := (EQ e14_168 (I (0)))
@[simp] def e14_170 : X := (PJ 0 e14_143)
@[simp] def e14_171 : X := (.p (.call 18 0) [e14_170])
@[simp] def e14_172 : X := (.p (.okr [.one (.sl [(.int .i64), .str, (.int .i64), (.int .i64)])]) [e14_171])
@[simp] def e14_173 : X := (Q e14_169 e14_172 (.b true))
@[simp] def e14_174 : X := (Q e14_131 (.b true) e14_173)
@[simp] def e14_175 : X := (Q e14_128 (.b true) e14_174)
@[simp] def e14_176 : X := (Q e14_76 (.b true) e14_175)
@[simp] def e14_177 : X := (.p (.call 74 0) [e14_171, (.p (.call 18 0) [(.v 4)])])
@[simp] def e14_178 : X := (.p (.okr [.one .bool]) [e14_177])
@[simp] def e14_179 : X := (Q e14_169 e14_178 (.b true))
@[simp] def e14_180 : X := (Q e14_131 (.b true) e14_179)
@[simp] def e14_181 : X := (Q e14_128 (.b true) e14_180)
@[simp] def e14_182 : X := (Q e14_76 (.b true) e14_181)
@[simp] def e14_183 : X := (PJ 0 e14_148)
@[simp] def e14_184 : X := (.p (.call 18 0) [e14_183])
@[simp] def e14_185 : X := (.p (.okr [.one (.sl [(.int .i64), .str, (.int .i64), (.int .i64)])]) [e14_184])
@[simp] def e14_186 : X := (Q e14_177 e14_185 (.b true))
@[simp] def e14_187 : X := (Q e14_169 e14_186 (.b true))
@[simp] def e14_188 : X := (Q e14_131 (.b true) e14_187)
@[simp] def e14_189 : X := (Q e14_128 (.b true) e14_188)
@[simp] def e14_190 : X := (Q e14_76 (.b true) e14_189)
@[simp] def e14_191 : X := (.p (.call 74 0) [e14_184, (.p (.call 18 0) [(.v 4)])])
@[simp] def e14_192 : X := (.p (.okr [.one .bool]) [e14_191])
@[simp] def e14_193 : X := (Q e14_177 e14_192 (.b true))
@[simp] def e14_194 : X := (Q e14_169 e14_193 (.b true))
@[simp] def e14_195 : X := (Q e14_131 (.b true) e14_194)
@[simp] def e14_196 : X := (Q e14_128 (.b true) e14_195)
@[simp] def e14_197 : X := (Q e14_76 (.b true) e14_196)
@[simp] def e14_198 : X := (PJ 0 e14_154)
@[simp] def e14_199 : X := (.p (.call 18 0) [e14_198])
@[simp] def e14_200 : X := (.p (.okr [.one (.sl [(.int .i64), .str, (.int .i64), (.int .i64)])]) [e14_199])
@[simp] def e14_201 : X := (Q e14_191 e14_200 (.b true))
@[simp] def e14_202 : X := (Q e14_177 e14_201 (.b true))
@[simp] def e14_203 : X := (Q e14_169 e14_202 (.b true))
@[simp] def e14_204 : X := (Q e14_131 (.b true) e14_203)
@[simp] def e14_205 : X := (Q e14_128 (.b true) e14_204)
@[simp] def e14_206 : X := (Q e14_76 (.b true) e14_205)
@[simp] def e14_207 : X := (.p (.call 74 0) [e14_199, (.p (.call 18 0) [(.v 4)])])
@[simp] def e14_208 : X := (.p (.okr [.one .bool]) [e14_207])
@[simp] def e14_209 : X := (Q e14_191 e14_208 (.b true))
@[simp] def e14_210 : X := (Q e14_177 e14_209 (.b true))
@[simp] def e14_211 : X := (Q e14_169 e14_210 (.b true))
@[simp] def e14_212 : X := (Q e14_131 (.b true) e14_211)
@[simp] def e14_213 : X := (Q e14_128 (.b true) e14_212)
@[simp] def e14_214 : X := (Q e14_76 (.b true) e14_213)
@[simp] def e14_215 : X := (PJ 1 e14_159)
@[simp] def e14_216 : X := (EQ e14_215 (I (0)))
@[simp] def e14_217 : X := (EQ e14_121 (I (0)))
@[simp] def e14_218 : X := (.p .beq [e14_216, e14_217])
@[simp] def e14_219 : X := (Q e14_207 e14_218 (.b false))
@[simp] def e14_220 : X := (Q e14_191 e14_219 (.b false))
@[simp] def e14_221 : X := (Q e14_177 e14_220 (.b false))
@[simp] def e14_222 : X := (Q e14_169 e14_221 (.b false))
@[simp] def e14_223 : X := (Q e14_131 (.b false) e14_222)
@[simp] def e14_224 : X := (Q e14_128 (.b false) e14_223)
@[simp] def e14_225 : X := (Q e14_76 (.p (.call 15 0) []) e14_224)
def B1401 : Te LEnd := .ite (LT (.v 5) (.v 4)) (
 .need e14_0 (
 .need e14_4 (
 .ok (.again [(.v 0), (.v 1), (.v 2), e14_2, (.v 4), (AD (.v 5) (I (1))), (.v 6), (.v 7), (.v 8), (.v 9), (.v 10), (.v 11)])))) (
 .ok (.out 1 [(.v 0), (.v 1), (.v 2), (.v 3), (.v 6), (.v 7), (.v 8), (.v 9), (.v 10), (.v 11)]))
def d1401 : LoopD := ⟨22, ⟨1401, 12, (J 2 ((.ptr 0 0 0) :: ((.ptr 1 0 0) :: (J 2 ((.sym (.sl [(.int .i64), .str, (.int .i64), (.int .i64)]) (.v 0)) :: (J 5 ((.sym (.sl [(.int .i64)]) (.v 1)) :: (J 3 ((.sym (.own 3 [(.int .i64), .bool, (.int .i64), .str, (.int .i64), (.int .i64)]) (.v 2)) :: ((.sym (.own 6 [(.int .i64), .bool, (.int .i64), .str, (.int .i64), (.int .i64)]) (.v 3)) :: (J 172 ((.sym (.int .i64) (.v 4)) :: ((.sym (.int .i64) (.v 5)) :: (J 83 [])))))))))))))), ⟨⟨8, [(1, .cells 2 [[(.sym (.sl [(.int .i64), .str, (.int .i64), (.int .i64)]) (.v 6)), (.sym (.sl [(.int .i64), .str, (.int .i64), (.int .i64)]) (.v 7))]]), (0, .cells 4 [[(.sym .str (.v 8)), (.sym (.sl [.str]) (.v 9)), (.sym (.int .i64) (.v 10)), (.sym (.int .i64) (.v 11))]])], [[]], none⟩, [(6, .rows [(.int .i64), .bool, (.int .i64), .str, (.int .i64), (.int .i64)] (.v 3)), (3, .rows [(.int .i64), .bool, (.int .i64), .str, (.int .i64), (.int .i64)] (.v 2))], []⟩,
 [(.exit 2, 10, (J 2 ((.ptr 0 0 0) :: ((.ptr 1 0 0) :: (J 2 ((.sym (.sl [(.int .i64), .str, (.int .i64), (.int .i64)]) (.v 0)) :: (J 5 ((.sym (.sl [(.int .i64)]) (.v 1)) :: (J 3 ((.sym (.own 3 [(.int .i64), .bool, (.int .i64), .str, (.int .i64), (.int .i64)]) (.v 2)) :: ((.sym (.own 6 [(.int .i64), .bool, (.int .i64), .str, (.int .i64), (.int .i64)]) (.v 3)) :: (J 257 []))))))))))), ⟨⟨8, [(1, .cells 2 [[(.sym (.sl [(.int .i64), .str, (.int .i64), (.int .i64)]) (.v 4)), (.sym (.sl [(.int .i64), .str, (.int .i64), (.int .i64)]) (.v 5))]]), (0, .cells 4 [[(.sym .str (.v 6)), (.sym (.sl [.str]) (.v 7)), (.sym (.int .i64) (.v 8)), (.sym (.int .i64) (.v 9))]])], [[]], none⟩, [(6, .rows [(.int .i64), .bool, (.int .i64), .str, (.int .i64), (.int .i64)] (.v 3)), (3, .rows [(.int .i64), .bool, (.int .i64), .str, (.int .i64), (.int .i64)] (.v 2))], []⟩)], [(1, [(0, 0), (1, 1), (2, 2), (4, 6), (5, 7), (6, 8), (7, 9), (8, 10), (9, 11)])]⟩, B1401⟩
@[simp] theorem d1401_id : d1401.L.id = 1401 := rfl
@[simp] theorem d1401_B : d1401.B = B1401 := rfl
def B1400 : Te LEnd := .ite (LT (.v 5) (.v 4)) (
 .need e14_5 (
 .ite e14_9 (
 .ok (.out 1 [])) (
 .need e14_13 (
 .need e14_26 (
 .ok (.again [(.v 0), (.v 1), (.v 2), e14_24, (.v 4), (AD (.v 5) (I (1))), (.v 6), (.v 7), (.v 8), (.v 9), (.v 10), (.v 11)])))))) (
 .ok (.out 2 [(.v 0), (.v 2), (.v 3), (.v 6), (.v 7), (.v 8), (.v 9), (.v 10), (.v 11)]))
def d1400 : LoopD := ⟨12, ⟨1400, 12, (J 2 ((.ptr 0 0 0) :: ((.ptr 1 0 0) :: (J 2 ((.sym (.sl [(.int .i64), .str, (.int .i64), (.int .i64)]) (.v 0)) :: ((.sym (.sl [(.int .i64), .str, (.int .i64), (.int .i64)]) (.v 1)) :: (J 4 ((.sym (.sl [(.int .i64)]) (.v 2)) :: (J 3 ((.sym (.own 3 [(.int .i64), .bool, (.int .i64), .str, (.int .i64), (.int .i64)]) (.v 3)) :: (.nils :: (J 133 ((.sym (.sl [(.int .i64)]) (.v 2)) :: ((.sym (.int .i64) (.v 4)) :: ((.sym (.int .i64) (.v 5)) :: (J 121 [])))))))))))))))), ⟨⟨6, [(1, .cells 2 [[(.sym (.sl [(.int .i64), .str, (.int .i64), (.int .i64)]) (.v 6)), (.sym (.sl [(.int .i64), .str, (.int .i64), (.int .i64)]) (.v 7))]]), (0, .cells 4 [[(.sym .str (.v 8)), (.sym (.sl [.str]) (.v 9)), (.sym (.int .i64) (.v 10)), (.sym (.int .i64) (.v 11))]])], [[]], none⟩, [(3, .rows [(.int .i64), .bool, (.int .i64), .str, (.int .i64), (.int .i64)] (.v 3))], []⟩,
 [(.ret, 0, (J 4 ((.bool false) :: (J 270 []))), ⟨⟨6, [], [[]], none⟩, [], []⟩),
  (.exit 0, 9, (J 2 ((.ptr 0 0 0) :: ((.ptr 1 0 0) :: (J 2 ((.sym (.sl [(.int .i64), .str, (.int .i64), (.int .i64)]) (.v 0)) :: (J 5 ((.sym (.sl [(.int .i64)]) (.v 1)) :: (J 3 ((.sym (.own 3 [(.int .i64), .bool, (.int .i64), .str, (.int .i64), (.int .i64)]) (.v 2)) :: (.nils :: (J 257 []))))))))))), ⟨⟨6, [(1, .cells 2 [[(.sym (.sl [(.int .i64), .str, (.int .i64), (.int .i64)]) (.v 3)), (.sym (.sl [(.int .i64), .str, (.int .i64), (.int .i64)]) (.v 4))]]), (0, .cells 4 [[(.sym .str (.v 5)), (.sym (.sl [.str]) (.v 6)), (.sym (.int .i64) (.v 7)), (.sym (.int .i64) (.v 8))]])], [[]], none⟩, [(3, .rows [(.int .i64), .bool, (.int .i64), .str, (.int .i64), (.int .i64)] (.v 2))], []⟩)], [(1, []), (2, [(0, 0), (1, 2), (3, 6), (4, 7), (5, 8), (6, 9), (7, 10), (8, 11)])]⟩, B1400⟩
@[simp] theorem d1400_id : d1400.L.id = 1400 := rfl
@[simp] theorem d1400_B : d1400.B = B1400 := rfl
def i14 : Inst := ⟨14, 0, [(.agg [(.sym .str (.v 0)), (.sym (.sl [.str]) (.v 1)), (.sym (.int .i64) (.v 2)), (.sym (.int .i64) (.v 3))]), (.agg [(.sym (.sl [(.int .i64), .str, (.int .i64), (.int .i64)]) (.v 4)), (.sym (.sl [(.int .i64), .str, (.int .i64), (.int .i64)]) (.v 5))])], [.one .bool]⟩
def s14 : List Cal := [c18, c15, c16, c17, c21, c27, c28, c74, c75, c72]
@[simp] theorem o14_18 (vs : List AV) : calO s14 18 0 vs = getJ (F18 vs) := oG rfl vs
@[simp] theorem o14_15 (vs : List AV) : calO s14 15 0 vs = getJ (F15 vs) := oG rfl vs
@[simp] theorem o14_16 (vs : List AV) : calO s14 16 0 vs = getJ (F16 vs) := oG rfl vs
@[simp] theorem o14_17 (vs : List AV) : calO s14 17 0 vs = getJ (F17 vs) := oG rfl vs
@[simp] theorem o14_21 (vs : List AV) : calO s14 21 0 vs = getJ (F21 vs) := oG rfl vs
@[simp] theorem o14_27 (vs : List AV) : calO s14 27 0 vs = getJ (F27 vs) := oG rfl vs
@[simp] theorem o14_28 (vs : List AV) : calO s14 28 0 vs = getJ (F28 vs) := oG rfl vs
@[simp] theorem o14_74 (vs : List AV) : calO s14 74 0 vs = getJ (F74 vs) := oG rfl vs
@[simp] theorem o14_75 (vs : List AV) : calO s14 75 0 vs = getJ (F75 vs) := oG rfl vs
@[simp] theorem o14_72 (vs : List AV) : calO s14 72 0 vs = getJ (F72 vs) := oG rfl vs
@[simp] def l14 : List LoopD := [d1401, d1400]
def t14 : Te AV := .need e14_27 (
 .need e14_28 (
 .need e14_29 (
 .need e14_32 (
 .need e14_41 (
 .need e14_49 (
 .need e14_58 (
 .need e14_68 (
 .need e14_79 (
 .need e14_82 (
 .need e14_85 (
 .need e14_88 (
 .need e14_105 (
 .need e14_110 (
 .need e14_119 (
 .need e14_135 (
 .need e14_142 (
 .need e14_147 (
 .need e14_152 (
 .need e14_158 (
 .need e14_163 (
 .need e14_176 (
 .need e14_182 (
 .need e14_190 (
 .need e14_197 (
 .need e14_206 (
 .need e14_214 (
 .ok (.sym .bool e14_225))))))))))))))))))))))))))))
def F14 : List AV → Option AV := unitF (omL KK s14 l14) t14
def c14 : Cal := ⟨i14, F14⟩
theorem x14 : XO i14 F14 := XU (cs := s14) (ds := l14) (t := t14) ⟨x18, x15, x16, x17, x21, x27, x28, x74, x75, x72, trivial⟩ (x := g14) (by kernel_rfl) (by kernel_rfl) (by kernel_rfl)
end Go.Proofs.YtdeaibcebeofiaaGreatDoor.C5

namespace Go.Proofs.YtdeaibcebeofiaaGreatDoor.C5
open Go Go.Proofs.YtdeaibcebeofiaaGreatDoor.AM
set_option maxRecDepth 20000
set_option maxHeartbeats 4000000
def gr (xs : List Ent) (j : Nat) : Rul := match xs[j]? with
 | some e => (((j + 1 : Nat) : Int), false, e)
 | none => (((j + 1 : Nat) : Int), true, 0, w3, 0, 0)
theorem gr_num (xs : List Ent) (j : Nat) : (gr xs j).1 = ((j + 1 : Nat) : Int) := by
 unfold gr; split <;> rfl
theorem lastI_find (rs : List Rul) (n : Int) : ∀ i, i ≤ rs.length → (lastI rs i n).bind (fun j => rs[j]?) = (rs.take i).reverse.find? (fun r => decide (r.1 = n))
 | 0, _ => by simp [lastI]
 | i + 1, hi => by
   have hq : rs[i]? = some rs[i] := List.getElem?_eq_getElem (by omega)
   rw [List.take_succ_eq_append_getElem (by omega)]
   simp only [lastI, hq, Option.map_some, Option.some.injEq, List.reverse_append, List.reverse_singleton, List.singleton_append, List.find?_cons]
   by_cases hc : rs[i].1 = n
   ·simp [hc]
   ·simp only [hc, if_false, decide_false]
    exact lastI_find rs n i (by omega)
theorem rulAt_gr (xs : List Ent) (l : List Nat) (i : Nat) : rulAt (l.map (gr xs)) (l.map (gr xs)).length ((i + 1 : Nat) : Int) = if i ∈ l then some (gr xs i) else none := by
 unfold rulAt
 rw [lastI_find _ _ _ (Nat.le_refl _), List.take_length, ← List.map_reverse, List.find?_map]
 have : (l.reverse.find? ((fun r => decide (r.1 = ((i + 1 : Nat) : Int))) ∘ gr xs)) = if i ∈ l then some i else none := by
  by_cases hi : i ∈ l
  ·rw [if_pos hi]
   cases hf : l.reverse.find? ((fun r => decide (r.1 = ((i + 1 : Nat) : Int))) ∘ gr xs) with
   | none =>
     have := List.find?_eq_none.1 hf i (by simpa using hi)
     simp [gr_num] at this
   | some j =>
     have := List.find?_some hf
     simp only [Function.comp, gr_num, decide_eq_true_eq] at this
     have : j = i := by omega
     rw [this]
  ·rw [if_neg hi]
   apply List.find?_eq_none.2
   intro j hj
   have hj : j ∈ l := by simpa using hj
   simp only [Function.comp, gr_num, decide_eq_true_eq]
   intro h
   have : j = i := by omega
   exact hi (this ▸ hj)
 rw [this]
 split <;> rfl
theorem same_comm (xs ys : List Ent) (i : Nat) : sameAt xs ys i = sameAt ys xs i := by
 by_cases h : i < xs.length ∧ i < ys.length
 ·rw [sameAt_eq h.1 h.2, sameAt_eq h.2 h.1]
  by_cases g1 : xs[i].1 = ys[i].1 <;> by_cases g2 : xs[i].2.1 = ys[i].2.1 <;> by_cases g3 : xs[i].2.2.1 = ys[i].2.2.1 <;> by_cases g4 : xs[i].2.2.2 = ys[i].2.2.2 <;> simp_all [eq_comm]
 ·rw [sameAt_no h, sameAt_no (fun hh => h ⟨hh.2, hh.1⟩)]
theorem diffs_comm (xs ys : List Ent) (n : Nat) : diffs xs ys n = diffs ys xs n := by
 simp only [diffs]
 congr 1
 funext j
 rw [same_comm]
theorem same_ent {xs ys : List Ent} {i : Nat} (h : sameAt xs ys i = true) : xs[i]? = ys[i]? := by
 obtain ⟨h1, h2⟩ := same_lt h
 rw [sameAt_eq h1 h2] at h
 simp only [Bool.and_eq_true, decide_eq_true_eq] at h
 rw [List.getElem?_eq_getElem h1, List.getElem?_eq_getElem h2]
 congr 1
 obtain ⟨g1, g2, g3, g4⟩ := h
 rcases hx : xs[i] with ⟨a, b, c, d⟩
 rcases hy : ys[i] with ⟨a', b', c', d'⟩
 rw [hx, hy] at g1 g2 g3 g4
 simp only at g1 g2 g3 g4
 rw [g1, g2, g3, g4]
theorem recN_take {us bs xs : List Ent} {rs : List Rul} : ∀ {n : Nat}, (∀ i, i < n → takeAt us bs rs i = some (xs[i]?).toList) → recN us bs rs n = xs.take n
 | 0, _ => rfl
 | n + 1, h => by
   rw [recN, recN_take fun i hi => h i (by omega), h n (by omega), Option.getD_some, List.take_add_one]
theorem recOk_of {us bs xs : List Ent} {rs : List Rul} (h : ∀ i, i < max us.length bs.length → takeAt us bs rs i = some (xs[i]?).toList) : recOk us bs rs = true := by
 unfold recOk
 rw [List.all_eq_true]
 intro i hi
 simp only [List.mem_range'_1] at hi
 rw [h i (by omega)]; rfl
theorem putN_take {xs : List Ent} {rs : List Rul} : ∀ {n : Nat}, (∀ i, i < n → putAt xs rs i = (xs[i]?).toList) → putN xs rs n = xs.take n
 | 0, _ => rfl
 | n + 1, h => by
   rw [putN, putN_take fun i hi => h i (by omega), h n (by omega), List.take_add_one]
def allR (xs ys : List Ent) : List Rul := (diffs xs ys (max xs.length ys.length)).map (gr xs)
def echoR (xs : List Ent) : List Rul := (List.range xs.length).map (gr xs)
theorem gr_take (xs : List Ent) (i : Nat) : (if (gr xs i).2.1 then [] else [(gr xs i).2.2]) = (xs[i]?).toList := by
 unfold gr
 cases xs[i]? <;> rfl
theorem take_all {xs ys : List Ent} {i : Nat} (hi : i < max xs.length ys.length) : takeAt xs ys (allR xs ys) i = some (xs[i]?).toList := by
 unfold takeAt allR
 cases hs : sameAt xs ys i with
 | true => simp
 | false =>
   have hm : i ∈ diffs xs ys (max xs.length ys.length) := by simp only [diffs, List.mem_filter, List.mem_range]; exact ⟨hi, by rw [hs]; rfl⟩
   rw [rulAt_gr, if_pos hm]
   simp only [Bool.false_eq_true, if_false, gr_take]
theorem take_all' {xs ys : List Ent} {i : Nat} (hi : i < max ys.length xs.length) : takeAt ys xs (allR xs ys) i = some (xs[i]?).toList := by
 unfold takeAt allR
 rw [same_comm]
 cases hs : sameAt xs ys i with
 | true => simp only [if_true]; rw [same_ent hs]
 | false =>
   have hm : i ∈ diffs xs ys (max xs.length ys.length) := by simp only [diffs, List.mem_filter, List.mem_range]; exact ⟨by omega, by rw [hs]; rfl⟩
   rw [rulAt_gr, if_pos hm]
   simp only [Bool.false_eq_true, if_false, gr_take]
theorem take_self {xs : List Ent} {i : Nat} (hi : i < max xs.length xs.length) : takeAt xs xs [] i = some (xs[i]?).toList := by
 unfold takeAt
 rw [same_self (by omega)]; rfl
theorem put_echo (xs : List Ent) (i : Nat) : putAt xs (echoR xs) i = (xs[i]?).toList := by
 unfold putAt echoR
 rw [rulAt_gr]
 by_cases hi : i < xs.length
 ·rw [if_pos (List.mem_range.2 hi)]; exact gr_take xs i
 ·rw [if_neg (by simpa using hi)]
theorem recOk_nil (xs ys : List Ent) : recOk xs ys [] = decide ((diffs xs ys (max xs.length ys.length)).length = 0) := by
 unfold recOk diffs
 have h : ∀ i, (takeAt xs ys [] i).isSome = sameAt xs ys i := by
  intro i
  unfold takeAt
  cases sameAt xs ys i <;> rfl
 simp only [h]
 rw [← List.range_eq_range']
 generalize List.range (max xs.length ys.length) = l
 induction l with
 | nil => rfl
 | cons j l ih =>
   rw [List.all_cons, List.filter_cons]
   cases hj : sameAt xs ys j <;> simp_all
theorem nz_zero {l : List Int} (h : ∀ x ∈ l, x = 0) : firstNz l = 0 := by
 unfold firstNz
 rw [List.find?_eq_none.2 (fun x hx => by simp [h x hx])]; rfl
theorem zero_nz {l : List Int} (h : firstNz l = 0) : ∀ x ∈ l, x = 0 := by
 intro x hx
 by_cases h0 : x = 0
 ·exact h0
 ·exfalso
  unfold firstNz at h
  cases hf : l.find? (fun n => decide (n ≠ 0)) with
  | none =>
    have := List.find?_eq_none.1 hf x hx
    simp [h0] at this
  | some y =>
    have := List.find?_some hf
    rw [hf] at h
    simp only [Option.getD_some] at h
    simp [h] at this
theorem gr_ok {n : Int} {xs : List Ent} (hx : ∀ e ∈ xs, ckEnt n e = 0) {j : Nat} (hj : j < 256) : ckRul n (gr xs j) = 0 := by
 have ho : outB ((j + 1 : Nat) : Int) 1 256 = false := by
  simp only [outB, Bool.or_eq_false_iff, decide_eq_false_iff_not]; omega
 push_cast at ho
 unfold gr
 cases h : xs[j]? with
 | none => simp [ckRul, ho, noEnt]
 | some e => simp [ckRul, ho, hx e (List.mem_of_getElem? h)]
theorem log_ok {r : Rd} {xs : List Ent} (h : ckLog r xs = 0) : ∀ e ∈ xs, ckEnt r.ns.length e = 0 := by
 unfold ckLog at h
 split at h
 ·rename_i h1; exact absurd h h1
 ·unfold cks at h
  split at h
  ·cases h
  ·intro e he
   exact zero_nz h _ (List.mem_map_of_mem he)
theorem cks_gr {r : Rd} {xs : List Ent} (h : ckLog r xs = 0) {l : List Nat} (hl : ∀ j ∈ l, j < 256) (hn : l.length ≤ 256) : cksR r.ns.length (l.map (gr xs)) = 0 := by
 unfold cksR
 rw [List.length_map, if_neg (by omega)]
 refine nz_zero fun x hx => ?_
 obtain ⟨_, hy, rfl⟩ := List.mem_map.1 hx
 obtain ⟨j, hj, rfl⟩ := List.mem_map.1 hy
 exact gr_ok (log_ok h) (hl j hj)
theorem G1400 {Ω : Om} {ea eb dv a b f names pl ti : AV} {xs ys : List Ent} {ds : List Nat} (h : IsL 4 (xs.map entR) a) (he : ea.lenN = xs.length) (he' : eb.lenN = ys.length) (hd : IsL 1 (ds.map placeR) dv) (hx : xs.length < 1048577) (hy : ys.length < 1048577)
  (hds : ∀ j ∈ ds, j < max xs.length ys.length) (hn : ds.length < 1048577) :
  loopG Ω B1400 KK [ea, eb, dv, .nils, ia ds.length, ia 0, a, b, f, names, pl, ti] = some (.tuple [ia 2, ea, dv, mkL 6 ((ds.map (gr xs)).map rulR), a, b, f, names, pl, ti]) := by
 refine loopF (fun i => [ea, eb, dv, mkL 6 (((ds.take i).map (gr xs)).map rulR), ia ds.length, ia i, a, b, f, names, pl, ti]) ds.length _ (by omega) (fun i hi => ?_) ?_
 ·have hr : nth dv.rowsL (Int.toNat (i : Int)) = some (placeR ds[i]) := hd.row hi
  have hw := wS (i := i) (by omega)
  have hj := hds ds[i] (List.getElem_mem hi)
  have ht : mkL 6 (((ds.take (i + 1)).map (gr xs)).map rulR) = .sl 6 (((ds.take i).map (gr xs)).map rulR ++ [rulR (gr xs ds[i])]) := by
   rw [← mkL_snoc, take_snoc hi]; simp only [List.map_append, List.map_cons, List.map_nil]
  have hb : ((min i ds.length : Nat) : Int) + 1 ≤ 1073741824 := by omega
  generalize ds[i] = j at hr hj ht
  have hwj : IntKind.i64.wrap (j : Int) = (j : Int) := i64w (by omega) (by omega)
  simp only [placeR, Int.toNat_natCast] at hr
  have c1 : ¬ (j : Int) + 1 < 1 := by omega
  have c2 : ¬ ((if xs.length < ys.length then (ys.length : Int) else xs.length) < (j : Int) + 1) := by rw [maxN]; omega
  rw [ht]
  push_cast at hw hr
  by_cases h1 : j < xs.length
  ·have hr1 : nth a.rowsL (Int.toNat (j : Int)) = some (entR xs[j]) := h.row h1
   have h2 : (j : Int) + 1 ≤ xs.length := by omega
   simp only [entR, Int.toNat_natCast] at hr1
   simp [B1400, h.lenM, hd.lenM, he, he', hr, hi, hw, hwj, c1, c2, h1, h2, hr1, hb, gr, rulR]
  ·have h2 : ¬ (j : Int) + 1 ≤ xs.length := by omega
   have h3 : xs[j]? = none := List.getElem?_eq_none (by omega)
   simp [B1400, h.lenM, hd.lenM, he, he', hr, hi, hw, hwj, c1, c2, h2, h3, hb, gr, rulR]
 ·simp [B1400]
theorem G1401 {Ω : Om} {ea dv al a b f names pl ti : AV} {xs : List Ent} (h : IsL 4 (xs.map entR) a) (hx : xs.length < 1048577) :
  loopG Ω B1401 KK [ea, dv, al, .nils, ia xs.length, ia 0, a, b, f, names, pl, ti] = some (.tuple [ia 1, ea, dv, al, mkL 6 ((echoR xs).map rulR), a, b, f, names, pl, ti]) := by
 refine loopF (fun i => [ea, dv, al, mkL 6 (((List.range i).map (gr xs)).map rulR), ia xs.length, ia i, a, b, f, names, pl, ti]) xs.length _ (by omega) (fun i hi => ?_) ?_
 ·have hr : nth a.rowsL (Int.toNat (i : Int)) = some (entR xs[i]) := h.row hi
  have hw := wS (i := i) (by omega)
  have ht : mkL 6 (((List.range (i + 1)).map (gr xs)).map rulR) = .sl 6 (((List.range i).map (gr xs)).map rulR ++ [rulR (gr xs i)]) := by
   rw [← mkL_snoc, List.range_succ]; simp only [List.map_append, List.map_cons, List.map_nil]
  have hb : (i : Int) + 1 ≤ 1073741824 := by omega
  have hg : xs[i]? = some xs[i] := List.getElem?_eq_getElem hi
  simp only [entR, Int.toNat_natCast] at hr
  rw [ht]
  push_cast at hw
  simp [B1401, h.lenM, hr, hi, hw, hb, gr, rulR]
 ·simp [B1401, echoR]
end Go.Proofs.YtdeaibcebeofiaaGreatDoor.C5

namespace Go.Proofs.YtdeaibcebeofiaaGreatDoor.C5
open Go Go.Proofs.YtdeaibcebeofiaaGreatDoor.AM
set_option maxRecDepth 20000
set_option maxHeartbeats 8000000
theorem accR_list {us bs xs : List Ent} {rs : List Rul} {n : Nat} (h : ∀ i, i < n → takeAt us bs rs i = some (xs[i]?).toList) (hn : xs.length ≤ n) : accR us bs rs n = mkL 4 (xs.map entR) := by
 rw [accR, recN_take h, List.take_of_length_le hn]
theorem law14 {r : Rd} {names a b : AV} (hr : RdOk r names) {xs ys : List Ent} (h : IsL 4 (xs.map entR) a) (hx : xs.length < 1048577) (h' : IsL 4 (ys.map entR) b) (hy : ys.length < 1048577) :
  F14 [.str r.f, names, ia r.pl, ia r.ti, a, b] = some (.bool true) := by
 have okE : ∀ zs : List Ent, (Sh.sl [.int .i64, .str, .int .i64, .int .i64]).ok (mkL 4 (zs.map entR)) = true := fun zs => (mkL_isL 4 (zs.map entR)).ok rfl (by simp [entR])
 have okD : ∀ n, (Sh.sl [.int .i64]).ok (accD xs ys n) = true := fun n => (mkL_isL 1 _).ok rfl (by simp [placeR])
 have e1 := p18 h hx
 have e2 := p18 h' hy
 have i1 := mkL_isL 4 (xs.map entR)
 have i2 := mkL_isL 4 (ys.map entR)
 have e3 := p18 i1 hx
 obtain ⟨b1, z1⟩ := p16 (pl := ia r.pl) (ti := ia r.ti) (f := r.f) hr.isL hr.len
 obtain ⟨b2, z2⟩ := p17 i1 hx 20
 obtain ⟨b3, z3⟩ := p17 i2 hy 20
 have f21 := p21 hr i1 hx
 have f21' := p21 hr i2 hy
 have f15 : F15 [] = some (.bool true) := rfl
 have o15 : calO s14 15 0 [] = .bool true := by rw [o14_15, f15]; rfl
 cases b1
 ·simp [F14, unitF_eq, t14, e1, e2, z1, okE, o15]
 by_cases q1 : (20 : Int) < xs.length
 ·simp [F14, unitF_eq, t14, e1, e2, z1, okE, o15, h.lenM, q1]
 by_cases q2 : (20 : Int) < ys.length
 ·simp [F14, unitF_eq, t14, e1, e2, z1, okE, o15, h.lenM, h'.lenM, q1, q2]
 cases b2
 ·simp [F14, unitF_eq, t14, e1, e2, z1, z2, okE, o15, h.lenM, h'.lenM, q1, q2]
 cases b3
 ·simp [F14, unitF_eq, t14, e1, e2, z1, z2, z3, okE, o15, h.lenM, h'.lenM, q1, q2]
 by_cases hc1 : ¬ ckLog r xs = 0
 ·simp [F14, unitF_eq, t14, e1, e2, z1, z2, z3, okE, o15, h.lenM, h'.lenM, q1, q2, f21, hc1]
 have hc1 : ckLog r xs = 0 := Decidable.not_not.1 hc1
 by_cases hc2 : ¬ ckLog r ys = 0
 ·simp [F14, unitF_eq, t14, e1, e2, z1, z2, z3, okE, o15, h.lenM, h'.lenM, q1, q2, f21, f21', hc1, hc2]
 have hc2 : ckLog r ys = 0 := Decidable.not_not.1 hc2
 have k1 : ckBoth r xs xs = 0 := by rw [← both_eq, if_pos hc1, hc1]
 have k2 : ckBoth r xs ys = 0 := by rw [← both_eq, if_pos hc1, hc2]
 have k3 : ckBoth r ys xs = 0 := by rw [← both_eq, if_pos hc2, hc1]
 have f27a := p27 hr h hx h hx
 have f27 := p27 hr h hx h' hy
 have f27b := p27 hr h' hy h hx
 have m1 : accD ys xs (max ys.length xs.length) = accD xs ys (max xs.length ys.length) := by rw [accD, accD, diffs_comm, Nat.max_comm]
 have m0 : accD xs xs (max xs.length xs.length) = .nils := by rw [Nat.max_self]; simp only [accD, diffs_self]; rfl
 rw [m0] at f27a
 rw [m1] at f27b
 simp only [k1, k2, k3, ne_eq, not_true_eq_false, if_false] at f27a f27 f27b
 have hdl := diffs_len xs ys (max xs.length ys.length)
 have hdm : ∀ j ∈ diffs xs ys (max xs.length ys.length), j < max xs.length ys.length := fun j hj => by
  simp only [diffs, List.mem_filter, List.mem_range] at hj; exact hj.1
 have hD : IsL 1 ((diffs xs ys (max xs.length ys.length)).map placeR) (accD xs ys (max xs.length ys.length)) := mkL_isL _ _
 have hG := fun Ω => G1400 (Ω := Ω) (ea := mkL 4 (xs.map entR)) (eb := mkL 4 (ys.map entR)) (f := .str r.f) (names := names) (pl := ia r.pl) (ti := ia r.ti) (b := b) h i1.lenM i2.lenM hD hx hy hdm (by omega)
 have hG1 := fun Ω => G1401 (Ω := Ω) (ea := mkL 4 (xs.map entR)) (dv := accD xs ys (max xs.length ys.length)) (al := mkL 6 ((allR xs ys).map rulR)) (f := .str r.f) (names := names) (pl := ia r.pl) (ti := ia r.ti) (b := b) h hx
 have iA := mkL_isL 6 ((allR xs ys).map rulR)
 have iC := mkL_isL 6 ((echoR xs).map rulR)
 have lA : (allR xs ys).length ≤ 256 := by simp only [allR, List.length_map]; omega
 have lC : (echoR xs).length ≤ 256 := by simp only [echoR, List.length_map, List.length_range]; omega
 have cA : cksR r.ns.length (allR xs ys) = 0 := cks_gr hc1 (fun j hj => by have := hdm j hj; omega) (by omega)
 have cC : cksR r.ns.length (echoR xs) = 0 := cks_gr hc1 (fun j hj => by have := List.mem_range.1 hj; omega) (by rw [List.length_range]; omega)
 have c0 : cksR r.ns.length [] = 0 := rfl
 have f28a := p28 (c := .nils) (rs := []) hr h hx h hx isL_nils' (by simp)
 have f28n := p28 (c := .nils) (rs := []) hr h hx h' hy isL_nils' (by simp)
 have f28 := p28 hr h hx h' hy iA (by omega)
 have f28b := p28 hr h' hy h hx iA (by omega)
 have f72 := p72 hr h hx iC (by omega)
 rw [accR_list (xs := xs) (fun i hi => take_self hi) (by omega), recOk_of (xs := xs) (fun i hi => take_self hi)] at f28a
 rw [accR_list (xs := xs) (fun i hi => take_all hi) (by omega), recOk_of (xs := xs) (fun i hi => take_all hi)] at f28
 rw [accR_list (xs := xs) (fun i hi => take_all' hi) (by omega), recOk_of (xs := xs) (fun i hi => take_all' hi)] at f28b
 have hP : accP xs (echoR xs) 256 = mkL 4 (xs.map entR) := by rw [accP, putN_take fun i _ => put_echo xs i, List.take_of_length_le (by omega)]
 rw [hP] at f72
 rw [recOk_nil] at f28n
 simp only [k1, k2, k3, hc1, cA, cC, c0, ne_eq, not_true_eq_false, if_false, if_true] at f28a f28 f28b f28n f72
 have f74 := p74 i1 i1 hx
 have f75 := p75 (xs := (diffs xs ys (max xs.length ys.length)).map fun j => ((j + 1 : Nat) : Int)) (a := accD xs ys (max xs.length ys.length)) (b := accD xs ys (max xs.length ys.length)) (by rw [List.map_map]; exact hD) (by rw [List.map_map]; exact hD) (by rw [List.length_map]; omega)
 have lD : (accD xs ys (max xs.length ys.length)).lenN = (diffs xs ys (max xs.length ys.length)).length := hD.lenM
 have nD : ¬ ((if xs.length < ys.length then (ys.length : Int) else xs.length) < ((diffs xs ys (max xs.length ys.length)).length : Int)) := by rw [maxN]; omega
 have w0 : IntKind.i64.wrap 0 = 0 := rfl
 have w24 : IntKind.i64.wrap 24 = 24 := rfl
 have okA : ∀ n, (Sh.sl [.int .i64, .str, .int .i64, .int .i64]).ok (accR xs ys [] n) = true := fun n => (mkL_isL 4 _).ok rfl (by simp [entR])
 have okN : (Sh.sl [.int .i64, .str, .int .i64, .int .i64]).ok AV.nils = true := rfl
 change ∀ Ω, loopG Ω B1400 KK _ = some (.tuple [ia 2, _, _, mkL 6 ((allR xs ys).map rulR), _, _, _, _, _, _]) at hG
 by_cases hz : (diffs xs ys (max xs.length ys.length)).length = 0
 ·simp only [hz, decide_true, if_true] at f28n
  simp only [hz, Int.natCast_zero] at hG nD lD
  simp [F14, unitF_eq, t14, e1, e2, e3, z1, z2, z3, okE, okD, okA, o15, h.lenM, h'.lenM, q1, q2, f21, f21', hc1, hc2, f27a, f27, f27b, f28a, f28, f28b, f28n, f72, f74, f75, hG, hG1, lD, nD, w0, hz, i1.lenM, i2.lenM]
 ·simp only [hz, decide_false, Bool.false_eq_true, if_false] at f28n
  simp [F14, unitF_eq, t14, e1, e2, e3, z1, z2, z3, okE, okD, okA, o15, h.lenM, h'.lenM, q1, q2, f21, f21', hc1, hc2, f27a, f27, f27b, f28a, f28, f28b, f28n, f72, f74, f75, hG, hG1, lD, nD, w0, w24, hz, i1.lenM, i2.lenM]
end Go.Proofs.YtdeaibcebeofiaaGreatDoor.C5

namespace Go.Proofs.YtdeaibcebeofiaaGreatDoor.C5
open Go Go.Proofs.YtdeaibcebeofiaaGreatDoor.AM Go.Proofs Go.RowKit Go.ChangeShapes Go.WideShapes Go.ChangeAt Go.Proofs.YtdeaibcebeofiaaGreatDoor
set_option maxRecDepth 100000
set_option maxHeartbeats 4000000
theorem rss14 : mapO (rsT tab) Tryz.f14.params.toList = some [rsRound, .agg [.sl shE, .sl shE]] := by kernel_rfl
theorem lay14 : Tryz.f14.params.toList.all (layOk tab 20) = true := by kernel_rfl
theorem rec14 : Tryz.f14.params.toList.all (fun t => Tryz.prog.readableRec t && decide (t < Tryz.prog.types.size)) = true := by kernel_rfl
theorem ans14 (xs : List AV) (h : RS.oks [rsRound, .agg [.sl shE, .sl shE]] xs = true) (hs : (xs.map AV.szc).sum ≤ 1048576) : extI i14 F14 xs = some (.bool true) := by
 obtain ⟨x1, _, rfl, h1, q0⟩ := RS.oks_inv h
 obtain ⟨x2, _, rfl, h2, q1⟩ := RS.oks_inv q0
 obtain rfl := RS.oks_nil_inv q1
 simp only [List.map_cons, List.map_nil, List.sum_cons, List.sum_nil] at hs
 obtain ⟨r, names, rfl, hr, hn⟩ := rd_round h1 (n := 1048576) (by omega) (Nat.le_refl _)
 obtain ⟨_, rfl, k0⟩ := RS.agg_inv h2
 obtain ⟨a, _, rfl, ha, k1⟩ := Sh.oks_inv k0
 obtain ⟨b, _, rfl, hb, k2⟩ := Sh.oks_inv k1
 obtain rfl := Sh.oks_nil_inv k2
 simp only [AV.szc, AV.szs] at hs
 obtain ⟨xs, g1, g2⟩ := rd_ents ha (n := 1048576) (by omega)
 obtain ⟨ys, g3, g4⟩ := rd_ents hb (n := 1048576) (by omega)
 have hL := law14 hr g1 (by omega) g3 (by omega)
 simp only [extI, i14, mtVs, mtV, hn, ha, hb, ok_str, ok_int, if_true, List.append_nil, List.nil_append, List.cons_append, List.map_cons, List.map_nil, List.length_cons, List.length_nil]
 rw [if_pos (by decide)]
 exact hL
end Go.Proofs.YtdeaibcebeofiaaGreatDoor.C5

namespace Go.Proofs.YtdeaibcebeofiaaGreatDoor.fnAgrees
open Go Go.Proofs.YtdeaibcebeofiaaGreatDoor.AM C5 Go.Proofs Go.RowKit Go.ChangeShapes Go.WideShapes Go.ChangeAt
set_option maxRecDepth 100000
def wargs : Array Value := #[zRound, .agg #[.slice none 0 0, .slice none 0 0]]
theorem reads (os : Os) {H : Type} (enc : TypeId × Value → H) : ∃ places, DataW.whole enc Tryz.prog ((laidWorld os).forCall (fun _ _ => 0) ⟨#[], wargs, []⟩).memory Tryz.f14.params.toList Rows.contestAgreesSpec.vars false wargs.toList 8 = some ([dRound, .agg [.nil, .nil]], [], places) :=
 ⟨[], by kernel_rfl⟩
theorem liftedUpto (os : Os) (started : os.Started) (H : Type) (enc : TypeId × Value → H) (F : Stop.Interp) :
  ReturnsInHanded {} Tryz.checked os 14 .any ((Rows.OpenSpec.upto Rows.contestAgreesSpec).preRow enc Tryz.prog Tryz.f14 Rows.contestAgreesUptoRow.domain false Rows.contestAgreesUptoRow.laid) (((Rows.OpenSpec.upto Rows.contestAgreesSpec).at F).post enc Tryz.prog Tryz.f14 false true false false) := by
 obtain ⟨places, hx⟩ := reads os enc
 refine returnsInHanded_of_row (C := Tryz.checked) (s := Rows.OpenSpec.upto Rows.contestAgreesSpec) ownT started (by kernel_rfl) Tryz.func14
  (witness_row_at (enc := enc) (C := Tryz.checked) false (laidWorld os) wargs rfl (by kernel_rfl) (by kernel_rfl) (by kernel_rfl)
   (OpenSpec.preRow_of_cond 8 hx (by kernel_rfl) (fun k hk => by cases hk; kernel_rfl) (by kernel_rfl) (laid_met os wargs))) ?_
 intro W base args ds gs before hval hW _ hcond _ hL _ _
 exact contractU (spec := Rows.contestAgreesSpec) (row := Rows.contestAgreesUptoRow) x14 rss14 lay14 rec14 rfl (by kernel_rfl) rfl
  (fun H ds h => by
   obtain ⟨a, b, rfl⟩ : ∃ a b, ds = [a, b] := by
    have h3 : ds.length = 2 := h
    match ds, h3 with
    | [a, b], _ => exact ⟨a, b, rfl⟩
   rfl) ans14 H enc W base args ds gs before hval hW (hcond _ rfl) hL
theorem jPlace : (Rows.contestAgreesUptoRow.inPlace == Tryz.prog.inPlace 14) = true := by kernel_rfl
theorem jUnf : (Rows.contestAgreesUptoRow.unfollowed == Tryz.prog.unfollowed 14) = true := by kernel_rfl
theorem jRec : (Rows.contestAgreesUptoRow.recurses == Tryz.prog.recurses 14) = true := by kernel_rfl
theorem jNamed : (Rows.contestAgreesUptoRow.named == Tryz.prog.varsNamed 14) = true := by kernel_rfl
theorem jName : Tryz.prog.funcNamed "crux/cruxlaw05.ContestAgrees" = some 14 := by kernel_rfl
theorem joined : joinedFacts Tryz.prog 14 Tryz.f14 Rows.contestAgreesSpec Rows.contestAgreesUptoRow = true :=
 joined_of (by kernel_rfl) laidOutT jMaps (by kernel_rfl) (by kernel_rfl) rfl jStops rfl jKnobs jPlace jUnf jRec jNamed (by kernel_rfl) (by kernel_rfl) (by kernel_rfl) (by kernel_rfl) (by kernel_rfl) rfl (by kernel_rfl) (by kernel_rfl) (by kernel_rfl)
  jKeys rfl jHeard jEnter jLifted jMake rfl (by kernel_rfl) (by kernel_rfl) (by kernel_rfl)
theorem inst : Tryz.f14.isInstance Tryz.prog Rows.contestAgreesUptoRow.origin Rows.contestAgreesUptoRow.targs := of_decide_eq_true (by kernel_rfl)
theorem wrap : Tryz.f14.isWrapper Tryz.prog Rows.contestAgreesUptoRow.wrapper Rows.contestAgreesUptoRow.mainSum := by
 unfold Func.isWrapper; first | (rw [if_pos (by decide +kernel)]; kernel_rfl) | (rw [if_neg (by decide +kernel)]; exact ⟨rfl, rfl⟩)
theorem saidUpto : Rows.ContestAgreesUptoSaid :=
 OpenClaim.holds_of_cond 14 Tryz.f14 rfl rfl rfl rfl rfl rfl rfl ⟨rfl, rfl, rfl, rfl, rfl⟩ rfl rfl rfl rfl rfl jName Tryz.func14 joined inst wrap
  (fun os started H enc _ F => by rw [OpenClaim.pre_eq_preRow]; exact liftedUpto os started H enc F)
theorem plain (f : FuncId) (fn : Func) (hf : Tryz.pinned.checked.prog.funcNamed "crux/cruxlaw05.ContestAgrees" = some f) (hfn : Tryz.pinned.checked.prog.funcs[f]? = some fn) :
  false = Tryz.pinned.checked.prog.looks [] ∧ ∀ (j : Nat) t, fn.params[j]? = some t → Tryz.pinned.checked.prog.wantsStandIn t = false := by
 obtain rfl : f = 14 := Option.some.inj (jName.symm.trans hf) |>.symm
 obtain rfl : fn = Tryz.f14 := (Option.some.inj (Tryz.func14.symm.trans hfn)).symm
 refine ⟨by kernel_rfl, fun j t ht => ?_⟩
 have hall : (Tryz.f14.params.toList.all fun u => !Tryz.prog.wantsStandIn u) = true := by kernel_rfl
 have hm : t ∈ Tryz.f14.params.toList := by simpa using Array.mem_of_getElem? ht
 exact (show Tryz.prog.wantsStandIn t = false by simpa using List.all_eq_true.1 hall t hm)
theorem cardUpto : Rows.ContestAgreesUptoCardSaid :=
 Claim7.holds_tied_plain_at .later [] _ _ _ _ saidUpto (fun _ h => by cases h) (by kernel_rfl) (fun _ h => by cases h) contestAgreesUpto_row_tie rfl ⟨rfl, rfl⟩ (by kernel_rfl) rfl plain (by kernel_rfl)
#print axioms cardUpto
end Go.Proofs.YtdeaibcebeofiaaGreatDoor.fnAgrees
