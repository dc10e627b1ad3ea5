/-
  ContestJudges holds: the card of the second form (what is read is of bulk at most 2^20): Judge returns what the reference returns, or the first error, for every round, log and appeals.
-/
import Derived.Test.YtdeaibcebeofiaaGreatDoorF2
import Derived.Test.YtdeaibcebeofiaaGreatDoorP3
import Derived.Test.YtdeaibcebeofiaaGreatDoorLaw
import Derived.Test.YtdeaibcebeofiaaGreatDoorTie
set_option linter.unusedVariables false
set_option linter.unusedSimpArgs false
set_option linter.unusedSectionVars false
namespace Go.Proofs.YtdeaibcebeofiaaGreatDoor.C5
open Go Go.Proofs.YtdeaibcebeofiaaGreatDoor.AM Go.Proofs
set_option maxRecDepth 100000
@[simp] def e88_0 : X := (Q (LE (I (0)) (.v 3)) (LT (.v 3) (LN (.v 1))) (.b false))
@[simp] def e88_1 : X := (.p (.call 89 0) [(C 0 (.v 1) (.v 3)), (I (0)), (SB (LN (.v 5)) (I (1)))])
@[simp] def e88_2 : X := (.p (.okr [.one .bool]) [e88_1])
@[simp] def e88_3 : X := (.p (.call 103 0) [e88_1, (I (10))])
@[simp] def e88_4 : X := (.p (.okr [.one (.int .i64)]) [e88_3])
@[simp] def e88_5 : X := (.p (.call 115 0) [(C 1 (.v 1) (.v 3)), (I (0)), (I (256))])
@[simp] def e88_6 : X := (.p (.okr [.one (.int .i64)]) [e88_5])
@[simp] def e88_7 : X := (.p (.call 133 0) [(.v 4), (.v 5), (.v 6), (.v 7), (C 2 (.v 1) (.v 3)), (C 3 (.v 1) (.v 3)), (C 4 (.v 1) (.v 3)), (C 5 (.v 1) (.v 3)), (C 6 (.v 1) (.v 3)), (C 7 (.v 1) (.v 3))])
@[simp] def e88_8 : X := (.p (.okr [.one (.int .i64)]) [e88_7])
@[simp] def e88_9 : X := (.p (.bin .gtr .i64) [(C 2 (.v 1) (.v 3)), (LN (.v 0))])
@[simp] def e88_10 : X := (.p (.call 103 0) [e88_9, (I (10))])
@[simp] def e88_11 : X := (.p (.okr [.one (.int .i64)]) [e88_10])
@[simp] def e88_12 : X := (.sl 1 [[e88_3], [e88_5], [e88_7], [e88_10]])
@[simp] def e88_13 : X := (.p (.call 102 0) [e88_12])
@[simp] def e88_14 : X := (.p (.okr [.one (.int .i64)]) [e88_13])
@[simp] def e88_15 : X := (.p (.bin .neq .i64) [e88_13, (I (0))])
@[simp] def e88_16 : X := (.p (.bin .gtr .i64) [(LN (.v 5)), (I (256))])
@[simp] def e88_17 : X := (.p (.call 100000 8800) [(.v 4), (.v 5), (LN (.v 5)), (I (0)), (.v 0), (.v 1), (.v 2), (.v 3)])
@[simp] def e88_18 : X := (PJ 0 e88_17)
@[simp] def e88_19 : X := (EQ e88_18 (I (1)))
@[simp] def e88_20 : X := (EQ e88_18 (I (2)))
@[simp] def e88_21 : X := (Q e88_19 (.b true) e88_20)
@[simp] def e88_22 : X := (Q e88_16 (.b true) e88_21)
@[simp] def e88_23 : X := (PJ 1 e88_17)
@[simp] def e88_24 : X := (Q e88_19 e88_23 (I (0)))
@[simp] def e88_25 : X := (Q e88_16 (I (5)) e88_24)
def B8800 : Te LEnd := .ite (LT (.v 3) (.v 2)) (
 .need e88_0 (
 .need e88_2 (
 .need e88_4 (
 .need e88_6 (
 .need e88_8 (
 .need e88_11 (
 .need e88_14 (
 .ite e88_15 (
 .ok (.out 1 [e88_13])) (
 .ok (.again [(.v 0), (.v 1), (.v 2), (AD (.v 3) (I (1))), (.v 4), (.v 5), (.v 6), (.v 7)])))))))))) (
 .ok (.out 2 []))
def d8800 : LoopD := ⟨4, ⟨8800, 8, (J 1 ((.sym (.sl [(.int .i64), .str, (.int .i64), (.int .i64)]) (.v 0)) :: (J 1 ((.ptr 0 0 0) :: (J 9 ((.sym (.sl [(.int .i64), (.int .i64), (.int .i64), .bool, (.int .i64), .str, (.int .i64), (.int .i64), .bool]) (.v 1)) :: ((.sym (.int .i64) (.v 2)) :: ((.sym (.int .i64) (.v 3)) :: (J 31 []))))))))), ⟨⟨3, [(0, .cells 4 [[(.sym .str (.v 4)), (.sym (.sl [.str]) (.v 5)), (.sym (.int .i64) (.v 6)), (.sym (.int .i64) (.v 7))]])], [[]], none⟩, [], []⟩,
 [(.ret, 1, (J 6 ((.sym (.int .i64) (.v 0)) :: (J 40 []))), ⟨⟨5, [], [[]], none⟩, [], []⟩),
  (.exit 0, 0, (J 47 []), ⟨⟨3, [], [[]], none⟩, [], []⟩)], [(1, []), (2, [])]⟩, B8800⟩
@[simp] theorem d8800_id : d8800.L.id = 8800 := rfl
@[simp] theorem d8800_B : d8800.B = B8800 := rfl
def i88 : Inst := ⟨88, 0, [(.agg [(.sym .str (.v 0)), (.sym (.sl [.str]) (.v 1)), (.sym (.int .i64) (.v 2)), (.sym (.int .i64) (.v 3))]), (.sym (.sl [(.int .i64), .str, (.int .i64), (.int .i64)]) (.v 4)), (.sym (.sl [(.int .i64), (.int .i64), (.int .i64), .bool, (.int .i64), .str, (.int .i64), (.int .i64), .bool]) (.v 5))], [.one (.int .i64)]⟩
def s88 : List Cal := [c89, c103, c115, c133, c102]
@[simp] theorem o88_89 (vs : List AV) : calO s88 89 0 vs = getJ (F89 vs) := oG rfl vs
@[simp] theorem o88_103 (vs : List AV) : calO s88 103 0 vs = getJ (F103 vs) := oG rfl vs
@[simp] theorem o88_115 (vs : List AV) : calO s88 115 0 vs = getJ (F115 vs) := oG rfl vs
@[simp] theorem o88_133 (vs : List AV) : calO s88 133 0 vs = getJ (F133 vs) := oG rfl vs
@[simp] theorem o88_102 (vs : List AV) : calO s88 102 0 vs = getJ (F102 vs) := oG rfl vs
@[simp] def l88 : List LoopD := [d8800]
def t88 : Te AV := .need e88_22 (
 .ok (.sym (.int .i64) e88_25))
def F88 : List AV → Option AV := unitF (omL KK s88 l88) t88
def c88 : Cal := ⟨i88, F88⟩
theorem x88 : XO i88 F88 := XU (cs := s88) (ds := l88) (t := t88) ⟨x89, x103, x115, x133, x102, trivial⟩ (x := g88) (by kernel_rfl) (by kernel_rfl) (by kernel_rfl)
@[simp] def e37_0 : X := (Q (LE (I (0)) (.v 2)) (LT (.v 2) (LN (.v 1))) (.b false))
@[simp] def e37_1 : X := (.p (.call 90 0) [(C 0 (.v 1) (.v 2)), (I (0)), (SB (LN (.v 4)) (I (1)))])
@[simp] def e37_2 : X := (.p (.okr [.one .bool]) [e37_1])
@[simp] def e37_3 : X := (.p (.call 90 0) [(C 1 (.v 1) (.v 2)), (I (0)), (I (256))])
@[simp] def e37_4 : X := (.p (.okr [.one .bool]) [e37_3])
@[simp] def e37_5 : X := (.p (.call 86 0) [(.v 3), (.v 4), (.v 5), (.v 6), (C 2 (.v 1) (.v 2)), (C 3 (.v 1) (.v 2)), (C 4 (.v 1) (.v 2)), (C 5 (.v 1) (.v 2)), (C 6 (.v 1) (.v 2)), (C 7 (.v 1) (.v 2))])
@[simp] def e37_6 : X := (.p (.okr [.one (.int .i64)]) [e37_5])
@[simp] def e37_7 : X := (.p (.bin .neq .i64) [e37_5, (I (0))])
@[simp] def e37_8 : X := (.p (.bin .gtr .i64) [(C 2 (.v 1) (.v 2)), (LN (.v 0))])
@[simp] def e37_9 : X := (.p (.bin .gtr .i64) [(LN (.v 5)), (I (256))])
@[simp] def e37_10 : X := (.p (.call 100000 3700) [(.v 4), (.v 5), (I (0)), (.v 0), (.v 1), (.v 2), (.v 3)])
@[simp] def e37_11 : X := (PJ 0 e37_10)
@[simp] def e37_12 : X := (EQ e37_11 (I (1)))
@[simp] def e37_13 : X := (EQ e37_11 (I (2)))
@[simp] def e37_14 : X := (Q e37_12 (.b true) e37_13)
@[simp] def e37_15 : X := (Q e37_9 (.b true) e37_14)
@[simp] def e37_16 : X := (PJ 1 e37_10)
@[simp] def e37_17 : X := (Q e37_12 e37_16 (I (0)))
@[simp] def e37_18 : X := (Q e37_9 (I (5)) e37_17)
def B3700 : Te LEnd := .ite (LT (.v 2) (LN (.v 1))) (
 .need e37_0 (
 .need e37_2 (
 .ite e37_1 (
 .ok (.out 1 [(I (10))])) (
 .need e37_4 (
 .ite e37_3 (
 .ok (.out 1 [(I (3))])) (
 .need e37_6 (
 .ite e37_7 (
 .ok (.out 1 [e37_5])) (
 .ite e37_8 (
 .ok (.out 1 [(I (10))])) (
 .ok (.again [(.v 0), (.v 1), (AD (.v 2) (I (1))), (.v 3), (.v 4), (.v 5), (.v 6)])))))))))) (
 .ok (.out 2 []))
def d3700 : LoopD := ⟨4, ⟨3700, 7, (J 1 ((.sym (.sl [(.int .i64), .str, (.int .i64), (.int .i64)]) (.v 0)) :: ((.sym (.sl [(.int .i64), (.int .i64), (.int .i64), .bool, (.int .i64), .str, (.int .i64), (.int .i64), .bool]) (.v 1)) :: ((.ptr 0 0 0) :: (J 3 ((.sym (.int .i64) (.v 2)) :: (J 38 []))))))), ⟨⟨2, [(0, .cells 4 [[(.sym .str (.v 3)), (.sym (.sl [.str]) (.v 4)), (.sym (.int .i64) (.v 5)), (.sym (.int .i64) (.v 6))]])], [[]], none⟩, [], []⟩,
 [(.ret, 1, (J 6 ((.sym (.int .i64) (.v 0)) :: (J 39 []))), ⟨⟨3, [], [[]], none⟩, [], []⟩),
  (.exit 0, 0, (J 46 []), ⟨⟨2, [], [[]], none⟩, [], []⟩)], [(1, []), (2, [])]⟩, B3700⟩
@[simp] theorem d3700_id : d3700.L.id = 3700 := rfl
@[simp] theorem d3700_B : d3700.B = B3700 := rfl
def i37 : Inst := ⟨37, 0, [(.agg [(.sym .str (.v 0)), (.sym (.sl [.str]) (.v 1)), (.sym (.int .i64) (.v 2)), (.sym (.int .i64) (.v 3))]), (.sym (.sl [(.int .i64), .str, (.int .i64), (.int .i64)]) (.v 4)), (.sym (.sl [(.int .i64), (.int .i64), (.int .i64), .bool, (.int .i64), .str, (.int .i64), (.int .i64), .bool]) (.v 5))], [.one (.int .i64)]⟩
def s37 : List Cal := [c90, c86]
@[simp] theorem o37_90 (vs : List AV) : calO s37 90 0 vs = getJ (F90 vs) := oG rfl vs
@[simp] theorem o37_86 (vs : List AV) : calO s37 86 0 vs = getJ (F86 vs) := oG rfl vs
@[simp] def l37 : List LoopD := [d3700]
def t37 : Te AV := .need e37_15 (
 .ok (.sym (.int .i64) e37_18))
def F37 : List AV → Option AV := unitF (omL KK s37 l37) t37
def c37 : Cal := ⟨i37, F37⟩
theorem x37 : XO i37 F37 := XU (cs := s37) (ds := l37) (t := t37) ⟨x90, x86, trivial⟩ (x := g37) (by kernel_rfl) (by kernel_rfl) (by kernel_rfl)
@[simp] def e36_0 : X := (Q (LE (I (0)) (.v 5)) (LT (.v 5) (LN (.v 3))) (.b false))
@[simp] def e36_1 : X := (LE (I (0)) (SB (C 2 (.v 3) (.v 5)) (I (1))))
@[simp] def e36_2 : X := (LT (SB (C 2 (.v 3) (.v 5)) (I (1))) (LN (.v 0)))
@[simp] def e36_3 : X := (Q e36_1 e36_2 (.b false))
@[simp] def e36_4 : X := (C 0 (.v 0) (SB (C 2 (.v 3) (.v 5)) (I (1))))
@[simp] def e36_5 : X := (.p (.bin .neq .i64) [e36_4, (C 0 (.v 3) (.v 5))])
@[simp] def e36_6 : X := (.p (.call 89 0) [(C 1 (.v 3) (.v 5)), (C 2 (.v 3) (.v 5)), (AD (C 2 (.v 3) (.v 5)) (I (8)))])
@[simp] def e36_7 : X := (.p (.okr [.one .bool]) [e36_6])
@[simp] def e36_8 : X := (Q e36_5 (.b true) e36_7)
@[simp] def e36_9 : X := (.p (.mget false) [(.v 6), (C 2 (.v 3) (.v 5)), (.b false)])
@[simp] def e36_10 : X := (Q e36_6 (.b true) e36_9)
@[simp] def e36_11 : X := (Q e36_5 (.b true) e36_10)
@[simp] def e36_12 : X := (.sl 6 [[(C 2 (.v 3) (.v 5)), (C 3 (.v 3) (.v 5)), (C 4 (.v 3) (.v 5)), (C 5 (.v 3) (.v 5)), (C 6 (.v 3) (.v 5)), (C 7 (.v 3) (.v 5))]])
@[simp] def e36_13 : X := (.p (.app 6) [(.v 1), e36_12])
@[simp] def e36_14 : X := (LN e36_13)
@[simp] def e36_15 : X := (LE e36_14 (I (1073741824)))
@[simp] def e36_16 : X := (.p .mput [(.v 6), (C 2 (.v 3) (.v 5)), (.b true)])
@[simp] def e36_17 : X := (Q (LE (I (0)) (C 0 (.v 3) (.v 5))) (LT (C 0 (.v 3) (.v 5)) (LN (.v 2))) (.b false))
@[simp] def e36_18 : X := (AD (C 0 (.v 2) (C 0 (.v 3) (.v 5))) (I (50)))
@[simp] def e36_19 : X := (.p (.setc 0) [(.v 2), (C 0 (.v 3) (.v 5)), e36_18])
@[simp] def e36_20 : X := (.p (.call 61 0) [(.v 0), (.v 1), (.v 2), (.v 3), (.v 4)])
@[simp] def e36_21 : X := (.p (.okr [.one (.int .i64)]) [e36_20])
@[simp] def e36_22 : X := (.p (.bin .neq .i64) [e36_20, (I (0))])
@[simp] def e36_23 : X := (.p (.call 88 0) [(.v 0), (.v 1), (.v 2), (.v 3), (.v 4), (.v 5)])
@[simp] def e36_24 : X := (.p (.okr [.one (.int .i64)]) [e36_23])
@[simp] def e36_25 : X := (Q e36_22 (.b true) e36_24)
@[simp] def e36_26 : X := (.p (.bin .neq .i64) [e36_23, (I (0))])
@[simp] def e36_27 : X := (Q e36_26 (.b true) (LE (I (0)) (LN (.v 1))))
@[simp] def e36_28 : X := (Q e36_22 (.b true) e36_27)
@[simp] def e36_29 : X := (Q e36_26 (.b true) (LE (LN (.v 1)) (I (1073741824))))
@[simp] def e36_30 : X := (Q e36_22 (.b true) e36_29)
@[simp] def e36_31 : X := (.p (.call 100000 3600) [(.v 4), .nils, (.p (.rep 1) [(LN (.v 1)), (I (0))]), (.v 5), (LN (.v 5)), (I (0)), (.p .mnew [])])
@[simp] def e36_32 : X := (PJ 0 e36_31)
@[simp] def e36_33 : X := (EQ e36_32 (I (1)))
@[simp] def e36_34 : X := (Q e36_26 (.b true) e36_33)
@[simp] def e36_35 : X := (Q e36_22 (.b true) e36_34)
@[simp] def e36_36 : X := (PJ 1 e36_31)
@[simp] def e36_37 : X := (Q e36_26 .nils e36_36)
@[simp] def e36_38 : X := (Q e36_22 .nils e36_37)
@[simp] def e36_39 : X := (PJ 2 e36_31)
@[simp] def e36_40 : X := (Q e36_26 .nils e36_39)
@[simp] def e36_41 : X := (Q e36_22 .nils e36_40)
@[simp] def e36_42 : X := (Q e36_26 e36_23 (I (0)))
@[simp] def e36_43 : X := (Q e36_22 e36_20 e36_42)
def B3600 : Te LEnd := .ite (LT (.v 5) (.v 4)) (
 .need e36_0 (
 .need e36_3 (
 .need e36_8 (
 .ite e36_11 (
 .ok (.again [(.v 0), (.v 1), (.v 2), (.v 3), (.v 4), (AD (.v 5) (I (1))), (.v 6)])) (
 .ite (C 8 (.v 3) (.v 5)) (
 .need e36_15 (
 .ok (.again [(.v 0), e36_13, (.v 2), (.v 3), (.v 4), (AD (.v 5) (I (1))), e36_16]))) (
 .need e36_17 (
 .ok (.again [(.v 0), (.v 1), e36_19, (.v 3), (.v 4), (AD (.v 5) (I (1))), e36_16])))))))) (
 .ok (.out 1 [(.v 1), (.v 2)]))
def d3600 : LoopD := ⟨11, ⟨3600, 7, (J 1 ((.sym (.sl [(.int .i64), .str, (.int .i64), (.int .i64)]) (.v 0)) :: (J 9 ((.sym (.own 4 [(.int .i64), .bool, (.int .i64), .str, (.int .i64), (.int .i64)]) (.v 1)) :: ((.sym (.own 1 [(.int .i64)]) (.v 2)) :: ((.sym (.mown 2 (.int .i64) false [.bool]) (.b true)) :: (J 21 ((.sym (.sl [(.int .i64), (.int .i64), (.int .i64), .bool, (.int .i64), .str, (.int .i64), (.int .i64), .bool]) (.v 3)) :: ((.sym (.int .i64) (.v 4)) :: ((.sym (.int .i64) (.v 5)) :: (J 47 []))))))))))), ⟨⟨6, [], [[]], none⟩, [(4, .rows [(.int .i64), .bool, (.int .i64), .str, (.int .i64), (.int .i64)] (.v 1)), (2, .mp (.int .i64) false [.bool] (.v 6)), (1, .rows [(.int .i64)] (.v 2))], []⟩,
 [(.exit 0, 2, (J 11 ((.sym (.own 4 [(.int .i64), .bool, (.int .i64), .str, (.int .i64), (.int .i64)]) (.v 0)) :: ((.sym (.own 1 [(.int .i64)]) (.v 1)) :: (J 72 [])))), ⟨⟨6, [], [[]], none⟩, [(1, .rows [(.int .i64)] (.v 1)), (4, .rows [(.int .i64), .bool, (.int .i64), .str, (.int .i64), (.int .i64)] (.v 0))], []⟩)], [(1, [])]⟩, B3600⟩
@[simp] theorem d3600_id : d3600.L.id = 3600 := rfl
@[simp] theorem d3600_B : d3600.B = B3600 := rfl
def i36 : Inst := ⟨36, 0, [(.agg [(.sym .str (.v 0)), (.sym (.sl [.str]) (.v 1)), (.sym (.int .i64) (.v 2)), (.sym (.int .i64) (.v 3))]), (.sym (.sl [(.int .i64), .str, (.int .i64), (.int .i64)]) (.v 4)), (.sym (.sl [(.int .i64), (.int .i64), (.int .i64), .bool, (.int .i64), .str, (.int .i64), (.int .i64), .bool]) (.v 5))], [.one (.sl [(.int .i64), .bool, (.int .i64), .str, (.int .i64), (.int .i64)]), .one (.sl [(.int .i64)]), .one (.int .i64)]⟩
def s36 : List Cal := [c61, c88, c89]
@[simp] theorem o36_61 (vs : List AV) : calO s36 61 0 vs = getJ (F61 vs) := oG rfl vs
@[simp] theorem o36_88 (vs : List AV) : calO s36 88 0 vs = getJ (F88 vs) := oG rfl vs
@[simp] theorem o36_89 (vs : List AV) : calO s36 89 0 vs = getJ (F89 vs) := oG rfl vs
@[simp] def l36 : List LoopD := [d3600]
def t36 : Te AV := .need e36_21 (
 .need e36_25 (
 .need e36_28 (
 .need e36_30 (
 .need e36_35 (
 .ok (.tuple [(.sym (.sl [(.int .i64), .bool, (.int .i64), .str, (.int .i64), (.int .i64)]) e36_38), (.sym (.sl [(.int .i64)]) e36_41), (.sym (.int .i64) e36_43)]))))))
def F36 : List AV → Option AV := unitF (omL KK s36 l36) t36
def c36 : Cal := ⟨i36, F36⟩
theorem x36 : XO i36 F36 := XU (cs := s36) (ds := l36) (t := t36) ⟨x61, x88, x89, trivial⟩ (x := g36) (by kernel_rfl) (by kernel_rfl) (by kernel_rfl)
@[simp] def e38_0 : X := (Q (LE (I (0)) (.v 5)) (LT (.v 5) (LN (.v 1))) (.b false))
@[simp] def e38_1 : X := (.p (.call 100000 3801) [(.v 0), (.v 1), (.v 2), (.v 3), (.v 4), (.v 5), (C 2 (.v 1) (.v 5)), (.b false), (I (0)), (C 0 (.v 1) (.v 5)), (C 1 (.v 1) (.v 5)), (C 3 (.v 1) (.v 5)), (C 4 (.v 1) (.v 5)), (C 5 (.v 1) (.v 5)), (C 6 (.v 1) (.v 5)), (C 7 (.v 1) (.v 5)), (C 8 (.v 1) (.v 5))])
@[simp] def e38_2 : X := (PJ 0 e38_1)
@[simp] def e38_3 : X := (EQ e38_2 (I (1)))
@[simp] def e38_4 : X := (LE (I (0)) (SB (C 2 (.v 1) (.v 5)) (I (1))))
@[simp] def e38_5 : X := (LT (SB (C 2 (.v 1) (.v 5)) (I (1))) (LN (.v 0)))
@[simp] def e38_6 : X := (Q e38_4 e38_5 (.b false))
@[simp] def e38_7 : X := (C 0 (.v 0) (SB (C 2 (.v 1) (.v 5)) (I (1))))
@[simp] def e38_8 : X := (.p (.bin .neq .i64) [e38_7, (C 0 (.v 1) (.v 5))])
@[simp] def e38_9 : X := (.p (.call 90 0) [(C 1 (.v 1) (.v 5)), (C 2 (.v 1) (.v 5)), (AD (C 2 (.v 1) (.v 5)) (I (8)))])
@[simp] def e38_10 : X := (.p (.okr [.one .bool]) [e38_9])
@[simp] def e38_11 : X := (Q e38_8 (.b true) e38_10)
@[simp] def e38_12 : X := (PJ 8 e38_1)
@[simp] def e38_13 : X := (Q e38_9 (.b true) e38_12)
@[simp] def e38_14 : X := (Q e38_8 (.b true) e38_13)
@[simp] def e38_15 : X := (.p (.app 1) [(.v 4), (.sl 1 [[(C 2 (.v 1) (.v 5))]])])
@[simp] def e38_16 : X := (LN e38_15)
@[simp] def e38_17 : X := (LE e38_16 (I (1073741824)))
@[simp] def e38_18 : X := (.sl 6 [[(C 2 (.v 1) (.v 5)), (C 3 (.v 1) (.v 5)), (C 4 (.v 1) (.v 5)), (C 5 (.v 1) (.v 5)), (C 6 (.v 1) (.v 5)), (C 7 (.v 1) (.v 5))]])
@[simp] def e38_19 : X := (.p (.app 6) [(.v 2), e38_18])
@[simp] def e38_20 : X := (LN e38_19)
@[simp] def e38_21 : X := (LE e38_20 (I (1073741824)))
@[simp] def e38_22 : X := (Q (LE (I (0)) (C 0 (.v 1) (.v 5))) (LT (C 0 (.v 1) (.v 5)) (LN (.v 3))) (.b false))
@[simp] def e38_23 : X := (AD (C 0 (.v 3) (C 0 (.v 1) (.v 5))) (I (50)))
@[simp] def e38_24 : X := (.p (.setc 0) [(.v 3), (C 0 (.v 1) (.v 5)), e38_23])
@[simp] def e38_25 : X := (Q (LE (I (0)) (.v 8)) (LT (.v 8) (LN (.v 4))) (.b false))
@[simp] def e38_26 : X := (Q (.v 7) (.b true) e38_25)
@[simp] def e38_27 : X := (Q (.v 7) (.b true) (EQ (C 0 (.v 4) (.v 8)) (.v 6)))
@[simp] def e38_28 : X := (.p (.call 100000 3800) [(.v 4), (.v 5), .nils, (.p (.rep 1) [(LN (.v 1)), (I (0))]), .nils, (I (0))])
@[simp] def e38_29 : X := (PJ 0 e38_28)
@[simp] def e38_30 : X := (EQ e38_29 (I (1)))
@[simp] def e38_31 : X := (PJ 1 e38_28)
@[simp] def e38_32 : X := (PJ 2 e38_28)
def B3800 : Te LEnd := .ite (LT (.v 5) (LN (.v 1))) (
 .need e38_0 (
 .need e38_3 (
 .need e38_6 (
 .need e38_11 (
 .ite e38_14 (
 .ok (.again [(.v 0), (.v 1), (.v 2), (.v 3), (.v 4), (AD (.v 5) (I (1)))])) (
 .need e38_17 (
 .ite (C 8 (.v 1) (.v 5)) (
 .need e38_21 (
 .ok (.again [(.v 0), (.v 1), e38_19, (.v 3), e38_15, (AD (.v 5) (I (1)))]))) (
 .need e38_22 (
 .need (.p .not [(.p .isNil [(.v 3)])]) (
 .ok (.again [(.v 0), (.v 1), (.v 2), e38_24, e38_15, (AD (.v 5) (I (1)))]))))))))))) (
 .ok (.out 1 [(.v 2), (.v 3)]))
def d3800 : LoopD := ⟨5, ⟨3800, 6, (J 1 ((.sym (.sl [(.int .i64), .str, (.int .i64), (.int .i64)]) (.v 0)) :: ((.sym (.sl [(.int .i64), (.int .i64), (.int .i64), .bool, (.int .i64), .str, (.int .i64), (.int .i64), .bool]) (.v 1)) :: (J 5 ((.sym (.own 3 [(.int .i64), .bool, (.int .i64), .str, (.int .i64), (.int .i64)]) (.v 2)) :: ((.sym (.own 1 [(.int .i64)]) (.v 3)) :: ((.sym (.own 4 [(.int .i64)]) (.v 4)) :: ((.sym (.int .i64) (.v 5)) :: (J 79 []))))))))), ⟨⟨7, [], [[]], none⟩, [(4, .rows [(.int .i64)] (.v 4)), (3, .rows [(.int .i64), .bool, (.int .i64), .str, (.int .i64), (.int .i64)] (.v 2)), (1, .rows [(.int .i64)] (.v 3))], []⟩,
 [(.exit 0, 2, (J 8 ((.sym (.own 3 [(.int .i64), .bool, (.int .i64), .str, (.int .i64), (.int .i64)]) (.v 0)) :: ((.sym (.own 1 [(.int .i64)]) (.v 1)) :: (J 81 [])))), ⟨⟨7, [], [[]], none⟩, [(1, .rows [(.int .i64)] (.v 1)), (3, .rows [(.int .i64), .bool, (.int .i64), .str, (.int .i64), (.int .i64)] (.v 0))], []⟩)], [(1, [])]⟩, B3800⟩
@[simp] theorem d3800_id : d3800.L.id = 3800 := rfl
@[simp] theorem d3800_B : d3800.B = B3800 := rfl
def B3801 : Te LEnd := .ite (LT (.v 8) (LN (.v 4))) (
 .need e38_26 (
 .ok (.again [(.v 0), (.v 1), (.v 2), (.v 3), (.v 4), (.v 5), (.v 6), e38_27, (AD (.v 8) (I (1))), (.v 9), (.v 10), (.v 11), (.v 12), (.v 13), (.v 14), (.v 15), (.v 16)]))) (
 .ok (.out 1 [(.v 0), (.v 1), (.v 2), (.v 3), (.v 4), (.v 5), (.v 6), (.v 7), (.v 9), (.v 10), (.v 11), (.v 12), (.v 13), (.v 14), (.v 15), (.v 16)]))
def d3801 : LoopD := ⟨11, ⟨3801, 17, (J 1 ((.sym (.sl [(.int .i64), .str, (.int .i64), (.int .i64)]) (.v 0)) :: ((.sym (.sl [(.int .i64), (.int .i64), (.int .i64), .bool, (.int .i64), .str, (.int .i64), (.int .i64), .bool]) (.v 1)) :: (J 5 ((.sym (.own 3 [(.int .i64), .bool, (.int .i64), .str, (.int .i64), (.int .i64)]) (.v 2)) :: ((.sym (.own 1 [(.int .i64)]) (.v 3)) :: ((.sym (.own 4 [(.int .i64)]) (.v 4)) :: ((.sym (.int .i64) (.v 5)) :: ((.ptr 7 0 0) :: ((.sym (.int .i64) (.v 6)) :: ((.sym .bool (.v 7)) :: ((.sym (.int .i64) (.v 8)) :: (J 75 []))))))))))))), ⟨⟨8, [(7, .cells 9 [[(.sym (.int .i64) (.v 9)), (.sym (.int .i64) (.v 10)), (.sym (.int .i64) (.v 6)), (.sym .bool (.v 11)), (.sym (.int .i64) (.v 12)), (.sym .str (.v 13)), (.sym (.int .i64) (.v 14)), (.sym (.int .i64) (.v 15)), (.sym .bool (.v 16))]])], [[]], none⟩, [(4, .rows [(.int .i64)] (.v 4)), (1, .rows [(.int .i64)] (.v 3)), (3, .rows [(.int .i64), .bool, (.int .i64), .str, (.int .i64), (.int .i64)] (.v 2))], []⟩,
 [(.exit 2, 16, (J 1 ((.sym (.sl [(.int .i64), .str, (.int .i64), (.int .i64)]) (.v 0)) :: ((.sym (.sl [(.int .i64), (.int .i64), (.int .i64), .bool, (.int .i64), .str, (.int .i64), (.int .i64), .bool]) (.v 1)) :: (J 5 ((.sym (.own 3 [(.int .i64), .bool, (.int .i64), .str, (.int .i64), (.int .i64)]) (.v 2)) :: ((.sym (.own 1 [(.int .i64)]) (.v 3)) :: ((.sym (.own 4 [(.int .i64)]) (.v 4)) :: ((.sym (.int .i64) (.v 5)) :: ((.ptr 7 0 0) :: ((.sym (.int .i64) (.v 6)) :: ((.sym .bool (.v 7)) :: (J 76 [])))))))))))), ⟨⟨8, [(7, .cells 9 [[(.sym (.int .i64) (.v 8)), (.sym (.int .i64) (.v 9)), (.sym (.int .i64) (.v 6)), (.sym .bool (.v 10)), (.sym (.int .i64) (.v 11)), (.sym .str (.v 12)), (.sym (.int .i64) (.v 13)), (.sym (.int .i64) (.v 14)), (.sym .bool (.v 15))]])], [[]], none⟩, [(4, .rows [(.int .i64)] (.v 4)), (1, .rows [(.int .i64)] (.v 3)), (3, .rows [(.int .i64), .bool, (.int .i64), .str, (.int .i64), (.int .i64)] (.v 2))], []⟩)], [(1, [(0, 0), (1, 1), (2, 2), (3, 3), (4, 4), (5, 5), (6, 6), (8, 9), (9, 10), (10, 11), (11, 12), (12, 13), (13, 14), (14, 15), (15, 16)])]⟩, B3801⟩
@[simp] theorem d3801_id : d3801.L.id = 3801 := rfl
@[simp] theorem d3801_B : d3801.B = B3801 := rfl
def i38 : Inst := ⟨38, 0, [(.agg [(.sym .str (.v 0)), (.sym (.sl [.str]) (.v 1)), (.sym (.int .i64) (.v 2)), (.sym (.int .i64) (.v 3))]), (.sym (.sl [(.int .i64), .str, (.int .i64), (.int .i64)]) (.v 4)), (.sym (.sl [(.int .i64), (.int .i64), (.int .i64), .bool, (.int .i64), .str, (.int .i64), (.int .i64), .bool]) (.v 5))], [.one (.sl [(.int .i64), .bool, (.int .i64), .str, (.int .i64), (.int .i64)]), .one (.sl [(.int .i64)])]⟩
def s38 : List Cal := [c90]
@[simp] theorem o38_90 (vs : List AV) : calO s38 90 0 vs = getJ (F90 vs) := oG rfl vs
@[simp] def l38 : List LoopD := [d3800, d3801]
def t38 : Te AV := .need (LE (I (0)) (LN (.v 1))) (
 .need (LE (LN (.v 1)) (I (1073741824))) (
 .need e38_30 (
 .ok (.tuple [(.sym (.sl [(.int .i64), .bool, (.int .i64), .str, (.int .i64), (.int .i64)]) e38_31), (.sym (.sl [(.int .i64)]) e38_32)]))))
def F38 : List AV → Option AV := unitF (omL KK s38 l38) t38
def c38 : Cal := ⟨i38, F38⟩
theorem x38 : XO i38 F38 := XU (cs := s38) (ds := l38) (t := t38) ⟨x90, trivial⟩ (x := g38) (by kernel_rfl) (by kernel_rfl) (by kernel_rfl)
end Go.Proofs.YtdeaibcebeofiaaGreatDoor.C5

namespace Go.Proofs.YtdeaibcebeofiaaGreatDoor.C5
open Go Go.Proofs.YtdeaibcebeofiaaGreatDoor.AM Go.Proofs
set_option maxRecDepth 100000
@[simp] def e5_0 : X := (Q (LE (I (0)) (.v 5)) (LT (.v 5) (LN (.v 0))) (.b false))
@[simp] def e5_1 : X := (.p (.call 35 0) [(C 0 (.v 0) (.v 5)), (C 1 (.v 0) (.v 5)), (C 2 (.v 0) (.v 5)), (C 3 (.v 0) (.v 5)), (C 4 (.v 0) (.v 5)), (C 5 (.v 0) (.v 5))])
@[simp] def e5_2 : X := (.p (.okr [.agg [(.int .i64), .bool, (.int .i64), .str, (.int .i64), (.int .i64)]]) [e5_1])
@[simp] def e5_3 : X := (Q (LE (I (0)) (.v 5)) (LT (.v 5) (LN (.v 3))) (.b false))
@[simp] def e5_4 : X := (.p (.fld 0) [e5_1])
@[simp] def e5_5 : X := (EQ e5_4 (C 0 (.v 3) (.v 5)))
@[simp] def e5_6 : X := (.p (.fld 1) [e5_1])
@[simp] def e5_7 : X := (.p .beq [e5_6, (C 1 (.v 3) (.v 5))])
@[simp] def e5_8 : X := (.p (.fld 2) [e5_1])
@[simp] def e5_9 : X := (EQ e5_8 (C 2 (.v 3) (.v 5)))
@[simp] def e5_10 : X := (.p (.fld 3) [e5_1])
@[simp] def e5_11 : X := (.p (.sbin .eql) [e5_10, (C 3 (.v 3) (.v 5))])
@[simp] def e5_12 : X := (.p (.fld 4) [e5_1])
@[simp] def e5_13 : X := (EQ e5_12 (C 4 (.v 3) (.v 5)))
@[simp] def e5_14 : X := (.p (.fld 5) [e5_1])
@[simp] def e5_15 : X := (EQ e5_14 (C 5 (.v 3) (.v 5)))
@[simp] def e5_16 : X := (Q e5_13 e5_15 (.b false))
@[simp] def e5_17 : X := (Q e5_11 e5_16 (.b false))
@[simp] def e5_18 : X := (Q e5_9 e5_17 (.b false))
@[simp] def e5_19 : X := (Q e5_7 e5_18 (.b false))
@[simp] def e5_20 : X := (Q e5_5 e5_19 (.b false))
@[simp] def e5_21 : X := (.p .not [e5_20])
@[simp] def e5_22 : X := (Q (LE (I (0)) (.v 3)) (LT (.v 3) (LN (.v 1))) (.b false))
@[simp] def e5_23 : X := (.p (.bin .gtr .i64) [(LN (C 5 (.v 1) (.v 3))), (I (20))])
@[simp] def e5_24 : X := (.p (.call 35 0) [(C 2 (.v 1) (.v 3)), (C 3 (.v 1) (.v 3)), (C 4 (.v 1) (.v 3)), (C 5 (.v 1) (.v 3)), (C 6 (.v 1) (.v 3)), (C 7 (.v 1) (.v 3))])
@[simp] def e5_25 : X := (.p (.okr [.agg [(.int .i64), .bool, (.int .i64), .str, (.int .i64), (.int .i64)]]) [e5_24])
@[simp] def e5_26 : X := (.p (.fld 0) [e5_24])
@[simp] def e5_27 : X := (.p (.fld 1) [e5_24])
@[simp] def e5_28 : X := (.p (.fld 2) [e5_24])
@[simp] def e5_29 : X := (.p (.fld 3) [e5_24])
@[simp] def e5_30 : X := (.p (.fld 4) [e5_24])
@[simp] def e5_31 : X := (.p (.fld 5) [e5_24])
@[simp] def e5_32 : X := (.sl 9 [[(C 0 (.v 1) (.v 3)), (C 1 (.v 1) (.v 3)), e5_26, e5_27, e5_28, e5_29, e5_30, e5_31, (C 8 (.v 1) (.v 3))]])
@[simp] def e5_33 : X := (.p (.app 9) [(.v 2), e5_32])
@[simp] def e5_34 : X := (LN e5_33)
@[simp] def e5_35 : X := (LE e5_34 (I (1073741824)))
@[simp] def e5_36 : X := (.p (.okr [.one .bool]) [(.p (.call 15 0) [])])
@[simp] def e5_37 : X := (.p (.call 16 0) [(.v 0), (.v 1), (.v 2), (.v 3)])
@[simp] def e5_38 : X := (.p (.okr [.one .bool]) [e5_37])
@[simp] def e5_39 : X := (Q (.p .not [(.p (.call 15 0) [])]) (.b true) e5_38)
@[simp] def e5_40 : X := (.p .not [e5_37])
@[simp] def e5_41 : X := (.p (.okr [.one (.sl [(.int .i64), .str, (.int .i64), (.int .i64)])]) [(.p (.call 18 0) [(.v 4)])])
@[simp] def e5_42 : X := (Q e5_40 (.b true) e5_41)
@[simp] def e5_43 : X := (Q (.p .not [(.p (.call 15 0) [])]) (.b true) e5_42)
@[simp] def e5_44 : X := (.p (.call 17 0) [(.p (.call 18 0) [(.v 4)]), (I (40))])
@[simp] def e5_45 : X := (.p (.okr [.one .bool]) [e5_44])
@[simp] def e5_46 : X := (Q e5_40 (.b true) e5_45)
@[simp] def e5_47 : X := (Q (.p .not [(.p (.call 15 0) [])]) (.b true) e5_46)
@[simp] def e5_48 : X := (.p .not [e5_44])
@[simp] def e5_49 : X := (.p (.bin .gtr .i64) [(LN (.v 5)), (I (20))])
@[simp] def e5_50 : X := (.p (.bin .gtr .i64) [(LN (.v 5)), (I (258))])
@[simp] def e5_51 : X := (Q (LE (LN (.v 5)) (I (256))) (.b true) e5_50)
@[simp] def e5_52 : X := (Q e5_49 e5_51 e5_50)
@[simp] def e5_53 : X := (Q e5_48 (.b true) e5_52)
@[simp] def e5_54 : X := (Q e5_40 (.b true) e5_53)
@[simp] def e5_55 : X := (Q (.p .not [(.p (.call 15 0) [])]) (.b true) e5_54)
@[simp] def e5_56 : X := (.p (.call 100000 500) [(.v 4), (.v 5), .nils, (I (0)), (.v 0), (.v 1), (.v 2), (.v 3)])
@[simp] def e5_57 : X := (PJ 0 e5_56)
@[simp] def e5_58 : X := (EQ e5_57 (I (1)))
@[simp] def e5_59 : X := (EQ e5_57 (I (2)))
@[simp] def e5_60 : X := (Q e5_58 (.b true) e5_59)
@[simp] def e5_61 : X := (Q e5_55 (.b true) e5_60)
@[simp] def e5_62 : X := (.p (.call 36 0) [(.v 0), (.v 1), (.v 2), (.v 3), (.v 4), (.v 5)])
@[simp] def e5_63 : X := (.p (.okr [.one (.sl [(.int .i64), .bool, (.int .i64), .str, (.int .i64), (.int .i64)]), .one (.sl [(.int .i64)]), .one (.int .i64)]) [e5_62])
@[simp] def e5_64 : X := (Q e5_58 (.b true) e5_63)
@[simp] def e5_65 : X := (Q e5_55 (.b true) e5_64)
@[simp] def e5_66 : X := (Q e5_58 (.b true) e5_41)
@[simp] def e5_67 : X := (Q e5_55 (.b true) e5_66)
@[simp] def e5_68 : X := (.p (.call 21 0) [(.v 0), (.v 1), (.v 2), (.v 3), (.p (.call 18 0) [(.v 4)])])
@[simp] def e5_69 : X := (.p (.okr [.one (.int .i64)]) [e5_68])
@[simp] def e5_70 : X := (Q e5_58 (.b true) e5_69)
@[simp] def e5_71 : X := (Q e5_55 (.b true) e5_70)
@[simp] def e5_72 : X := (EQ e5_68 (I (0)))
@[simp] def e5_73 : X := (PJ 3 e5_56)
@[simp] def e5_74 : X := (.p (.call 37 0) [(.v 0), (.v 1), (.v 2), (.v 3), (.p (.call 18 0) [(.v 4)]), e5_73])
@[simp] def e5_75 : X := (.p (.okr [.one (.int .i64)]) [e5_74])
@[simp] def e5_76 : X := (Q e5_72 e5_75 (.b true))
@[simp] def e5_77 : X := (Q e5_58 (.b true) e5_76)
@[simp] def e5_78 : X := (Q e5_55 (.b true) e5_77)
@[simp] def e5_79 : X := (Q e5_72 e5_74 e5_68)
@[simp] def e5_80 : X := (.p (.bin .neq .i64) [e5_79, (I (0))])
@[simp] def e5_81 : X := (PJ 0 e5_62)
@[simp] def e5_82 : X := (LN e5_81)
@[simp] def e5_83 : X := (EQ e5_82 (I (0)))
@[simp] def e5_84 : X := (PJ 1 e5_62)
@[simp] def e5_85 : X := (PJ 2 e5_62)
@[simp] def e5_86 : X := (.p (.call 23 0) [e5_84, e5_85, e5_79, .nils])
@[simp] def e5_87 : X := (.p (.okr [.one .bool]) [e5_86])
@[simp] def e5_88 : X := (Q e5_83 e5_87 (.b true))
@[simp] def e5_89 : X := (Q e5_80 e5_88 (.b true))
@[simp] def e5_90 : X := (Q e5_58 (.b true) e5_89)
@[simp] def e5_91 : X := (Q e5_55 (.b true) e5_90)
@[simp] def e5_92 : X := (.p (.call 38 0) [(.v 0), (.v 1), (.v 2), (.v 3), (.p (.call 18 0) [(.v 4)]), e5_73])
@[simp] def e5_93 : X := (.p (.okr [.one (.sl [(.int .i64), .bool, (.int .i64), .str, (.int .i64), (.int .i64)]), .one (.sl [(.int .i64)])]) [e5_92])
@[simp] def e5_94 : X := (Q e5_80 (.b true) e5_93)
@[simp] def e5_95 : X := (Q e5_58 (.b true) e5_94)
@[simp] def e5_96 : X := (Q e5_55 (.b true) e5_95)
@[simp] def e5_97 : X := (PJ 0 e5_92)
@[simp] def e5_98 : X := (LN e5_97)
@[simp] def e5_99 : X := (.p (.bin .neq .i64) [e5_82, e5_98])
@[simp] def e5_100 : X := (PJ 1 e5_92)
@[simp] def e5_101 : X := (.p (.call 100000 501) [e5_81, e5_84, e5_85, e5_97, e5_100, (I (0))])
@[simp] def e5_102 : X := (PJ 0 e5_101)
@[simp] def e5_103 : X := (EQ e5_102 (I (1)))
@[simp] def e5_104 : X := (EQ e5_102 (I (2)))
@[simp] def e5_105 : X := (Q e5_103 (.b true) e5_104)
@[simp] def e5_106 : X := (Q e5_99 (.b true) e5_105)
@[simp] def e5_107 : X := (Q e5_80 (.b true) e5_106)
@[simp] def e5_108 : X := (Q e5_58 (.b true) e5_107)
@[simp] def e5_109 : X := (Q e5_55 (.b true) e5_108)
@[simp] def e5_110 : X := (.p (.call 23 0) [e5_84, e5_85, (I (0)), e5_100])
@[simp] def e5_111 : X := (.p (.okr [.one .bool]) [e5_110])
@[simp] def e5_112 : X := (Q e5_103 (.b true) e5_111)
@[simp] def e5_113 : X := (Q e5_99 (.b true) e5_112)
@[simp] def e5_114 : X := (Q e5_80 (.b true) e5_113)
@[simp] def e5_115 : X := (Q e5_58 (.b true) e5_114)
@[simp] def e5_116 : X := (Q e5_55 (.b true) e5_115)
@[simp] def e5_117 : X := (Q e5_83 e5_86 (.b false))
@[simp] def e5_118 : X := (Q e5_103 (.b false) e5_110)
@[simp] def e5_119 : X := (Q e5_99 (.b false) e5_118)
@[simp] def e5_120 : X := (Q e5_80 e5_117 e5_119)
@[simp] def e5_121 : X := (Q e5_58 (.b true) e5_120)
@[simp] def e5_122 : X := (Q e5_55 (.p (.call 15 0) []) e5_121)
def B501 : Te LEnd := .ite (LT (.v 5) (LN (.v 0))) (
 .need e5_0 (
 .need e5_2 (
 .need e5_3 (
 .ite e5_21 (
 .ok (.out 1 [])) (
 .ok (.again [(.v 0), (.v 1), (.v 2), (.v 3), (.v 4), (AD (.v 5) (I (1)))])))))) (
 .ok (.out 2 [(.v 1), (.v 2), (.v 4)]))
def d501 : LoopD := ⟨21, ⟨501, 6, (J 10 ((.sym (.sl [(.int .i64), .bool, (.int .i64), .str, (.int .i64), (.int .i64)]) (.v 0)) :: ((.sym (.sl [(.int .i64)]) (.v 1)) :: ((.sym (.int .i64) (.v 2)) :: (J 1 ((.sym (.sl [(.int .i64), .bool, (.int .i64), .str, (.int .i64), (.int .i64)]) (.v 3)) :: ((.sym (.sl [(.int .i64)]) (.v 4)) :: ((.sym (.int .i64) (.v 5)) :: (J 133 []))))))))), ⟨⟨4, [], [[]], none⟩, [], []⟩,
 [(.ret, 0, (J 6 ((.bool false) :: (J 143 []))), ⟨⟨4, [], [[]], none⟩, [], []⟩),
  (.exit 2, 3, (J 11 ((.sym (.sl [(.int .i64)]) (.v 0)) :: ((.sym (.int .i64) (.v 1)) :: (J 2 ((.sym (.sl [(.int .i64)]) (.v 2)) :: (J 134 [])))))), ⟨⟨4, [], [[]], none⟩, [], []⟩)], [(1, []), (2, [(0, 1), (1, 2), (2, 4)])]⟩, B501⟩
@[simp] theorem d501_id : d501.L.id = 501 := rfl
@[simp] theorem d501_B : d501.B = B501 := rfl
def B500 : Te LEnd := .ite (LT (.v 3) (LN (.v 1))) (
 .need e5_22 (
 .ite e5_23 (
 .ok (.out 1 [])) (
 .need e5_25 (
 .need e5_35 (
 .ok (.again [(.v 0), (.v 1), e5_33, (AD (.v 3) (I (1))), (.v 4), (.v 5), (.v 6), (.v 7)])))))) (
 .ok (.out 2 [(.v 0), (.v 1), (.v 2), (.v 4), (.v 5), (.v 6), (.v 7)]))
def d500 : LoopD := ⟨6, ⟨500, 8, (J 1 ((.sym (.sl [(.int .i64), .str, (.int .i64), (.int .i64)]) (.v 0)) :: ((.sym (.sl [(.int .i64), (.int .i64), (.int .i64), .bool, (.int .i64), .str, (.int .i64), (.int .i64), .bool]) (.v 1)) :: ((.ptr 0 0 0) :: (J 3 ((.ptr 1 0 0) :: ((.sym (.own 2 [(.int .i64), (.int .i64), (.int .i64), .bool, (.int .i64), .str, (.int .i64), (.int .i64), .bool]) (.v 2)) :: ((.sym (.int .i64) (.v 3)) :: (J 140 []))))))))), ⟨⟨4, [(1, .cells 4 [[(.sym .str (.v 4)), (.sym (.sl [.str]) (.v 5)), (.sym (.int .i64) (.v 6)), (.sym (.int .i64) (.v 7))]]), (0, .cells 4 [[(.sym .str (.v 4)), (.sym (.sl [.str]) (.v 5)), (.sym (.int .i64) (.v 6)), (.sym (.int .i64) (.v 7))]])], [[]], none⟩, [(2, .rows [(.int .i64), (.int .i64), (.int .i64), .bool, (.int .i64), .str, (.int .i64), (.int .i64), .bool] (.v 2))], []⟩,
 [(.ret, 0, (J 6 ((.bool true) :: (J 143 []))), ⟨⟨4, [], [[]], none⟩, [], []⟩),
  (.exit 0, 7, (J 1 ((.sym (.sl [(.int .i64), .str, (.int .i64), (.int .i64)]) (.v 0)) :: ((.sym (.sl [(.int .i64), (.int .i64), (.int .i64), .bool, (.int .i64), .str, (.int .i64), (.int .i64), .bool]) (.v 1)) :: ((.ptr 0 0 0) :: (J 3 ((.ptr 1 0 0) :: ((.sym (.own 2 [(.int .i64), (.int .i64), (.int .i64), .bool, (.int .i64), .str, (.int .i64), (.int .i64), .bool]) (.v 2)) :: (J 141 [])))))))), ⟨⟨4, [(1, .cells 4 [[(.sym .str (.v 3)), (.sym (.sl [.str]) (.v 4)), (.sym (.int .i64) (.v 5)), (.sym (.int .i64) (.v 6))]]), (0, .cells 4 [[(.sym .str (.v 3)), (.sym (.sl [.str]) (.v 4)), (.sym (.int .i64) (.v 5)), (.sym (.int .i64) (.v 6))]])], [[]], none⟩, [(2, .rows [(.int .i64), (.int .i64), (.int .i64), .bool, (.int .i64), .str, (.int .i64), (.int .i64), .bool] (.v 2))], []⟩)], [(1, []), (2, [(0, 0), (1, 1), (3, 4), (4, 5), (5, 6), (6, 7)])]⟩, B500⟩
@[simp] theorem d500_id : d500.L.id = 500 := rfl
@[simp] theorem d500_B : d500.B = B500 := rfl
def i5 : Inst := ⟨5, 0, [(.agg [(.sym .str (.v 0)), (.sym (.sl [.str]) (.v 1)), (.sym (.int .i64) (.v 2)), (.sym (.int .i64) (.v 3))]), (.sym (.sl [(.int .i64), .str, (.int .i64), (.int .i64)]) (.v 4)), (.sym (.sl [(.int .i64), (.int .i64), (.int .i64), .bool, (.int .i64), .str, (.int .i64), (.int .i64), .bool]) (.v 5))], [.one .bool]⟩
def s5 : List Cal := [c15, c16, c18, c17, c36, c21, c37, c23, c38, c35]
@[simp] theorem o5_15 (vs : List AV) : calO s5 15 0 vs = getJ (F15 vs) := oG rfl vs
@[simp] theorem o5_16 (vs : List AV) : calO s5 16 0 vs = getJ (F16 vs) := oG rfl vs
@[simp] theorem o5_18 (vs : List AV) : calO s5 18 0 vs = getJ (F18 vs) := oG rfl vs
@[simp] theorem o5_17 (vs : List AV) : calO s5 17 0 vs = getJ (F17 vs) := oG rfl vs
@[simp] theorem o5_36 (vs : List AV) : calO s5 36 0 vs = getJ (F36 vs) := oG rfl vs
@[simp] theorem o5_21 (vs : List AV) : calO s5 21 0 vs = getJ (F21 vs) := oG rfl vs
@[simp] theorem o5_37 (vs : List AV) : calO s5 37 0 vs = getJ (F37 vs) := oG rfl vs
@[simp] theorem o5_23 (vs : List AV) : calO s5 23 0 vs = getJ (F23 vs) := oG rfl vs
@[simp] theorem o5_38 (vs : List AV) : calO s5 38 0 vs = getJ (F38 vs) := oG rfl vs
@[simp] theorem o5_35 (vs : List AV) : calO s5 35 0 vs = getJ (F35 vs) := oG rfl vs
@[simp] def l5 : List LoopD := [d501, d500]
def t5 : Te AV := .need e5_36 (
 .need e5_39 (
 .need e5_43 (
 .need e5_47 (
 .need e5_61 (
 .need e5_65 (
 .need e5_67 (
 .need e5_71 (
 .need e5_78 (
 .need e5_91 (
 .need e5_96 (
 .need e5_109 (
 .need e5_116 (
 .ok (.sym .bool e5_122))))))))))))))
def F5 : List AV → Option AV := unitF (omL KK s5 l5) t5
def c5 : Cal := ⟨i5, F5⟩
theorem x5 : XO i5 F5 := XU (cs := s5) (ds := l5) (t := t5) ⟨x15, x16, x18, x17, x36, x21, x37, x23, x38, x35, trivial⟩ (x := g5) (by kernel_rfl) (by kernel_rfl) (by kernel_rfl)
end Go.Proofs.YtdeaibcebeofiaaGreatDoor.C5

namespace Go.Proofs.YtdeaibcebeofiaaGreatDoor.C5
open Go Go.Proofs.YtdeaibcebeofiaaGreatDoor.AM
set_option maxRecDepth 20000
set_option maxHeartbeats 4000000
abbrev App := Int × Int × Rul × Bool
def appR (x : App) : List AV := [ia x.1, ia x.2.1, ia x.2.2.1.1, .bool x.2.2.1.2.1, ia x.2.2.1.2.2.1, .str x.2.2.1.2.2.2.1, ia x.2.2.1.2.2.2.2.1, ia x.2.2.1.2.2.2.2.2, .bool x.2.2.2]
def ckApp (n m : Int) (x : App) : Int := firstNz [whenI (outB x.1 0 (n - 1)) 10, whenI (outB x.2.1 0 256) 3, ckRul n x.2.2.1, whenI (decide (x.2.2.1.1 > m)) 10]
theorem p102_4 (a b c d : Int) : F102 [.sl 1 [[ia a], [ia b], [ia c], [ia d]]] = some (ia (firstNz [a, b, c, d])) :=
 p102 (ns := [a, b, c, d]) (.inl rfl) (by simp)
def cksA (n m : Int) (es : List App) : Int := if es.length > 256 then 5 else firstNz (es.map (ckApp n m))
theorem G8800 {names f pl ti a c : AV} {n : Nat} (hl : names.lenN = n) (hn : n < 2097152) {m : Nat} (hm : a.lenN = m) {es : List App} (h : IsL 9 (es.map appR) c) (hes : es.length < 2097152) :
  loopG (calO s88) B8800 KK [a, c, ia es.length, ia 0, f, names, pl, ti] = some (ckOut (es.map (ckApp n m))) := by
 rw [← ckOut_map]
 refine loopL (fun i => [a, c, ia es.length, ia i, f, names, pl, ti]) es _ _ hes (fun i hi => ?_) ?_
 ·have hr : nth c.rowsL (Int.toNat (i : Int)) = some (appR es[i]) := h.row hi
  have hw := wS (Nat.lt_trans hi hes)
  have hw' : IntKind.i64.wrap ((n : Int) - 1) = n - 1 := i64w (by omega) (by omega)
  rcases hx : es[i] with ⟨who, aft, ⟨num, vo, ew, ek, ea, eb⟩, up⟩
  have hp := p133 (f := f) (pl := pl) (ti := ti) hl hn num vo ew ek ea eb
  simp only [appR, hx, Int.toNat_natCast] at hr
  push_cast at hw
  by_cases hc : ckApp n m (who, aft, ⟨num, vo, ew, ek, ea, eb⟩, up) = 0
  ·have hc' := hc
   simp only [ckApp] at hc'
   simp [B8800, h.lenM, hr, hi, hw, hw', hl, hm, p89, p103, p115, hp, p102_4, hc, hc']
  ·have hc' := hc
   simp only [ckApp] at hc'
   simp [B8800, h.lenM, hr, hi, hw', hl, hm, p89, p103, p115, hp, p102_4, hc, hc']
   simp [ckApp]
 ·simp [B8800]
theorem p88 {names f pl ti a c : AV} {n : Nat} (hl : names.lenN = n) (hn : n < 2097152) {m : Nat} (hm : a.lenN = m) {es : List App} (h : IsL 9 (es.map appR) c) (hes : es.length < 2097152) :
  F88 [f, names, pl, ti, a, c] = some (ia (cksA n m es)) := by
 have hG := G8800 (f := f) (pl := pl) (ti := ti) hl hn hm h hes
 unfold cksA
 by_cases hb : 256 < (es.length : Int)
 ·have hb' : 256 < es.length := by omega
  simp [F88, unitF_eq, t88, h.lenM, hb, hb']
 ·have hb' : ¬ 256 < es.length := by omega
  rcases ckOut_cases (es.map (ckApp n m)) with ⟨h1, h2⟩ | ⟨h1, h2⟩ <;> rw [h2] at hG <;> simp [F88, unitF_eq, t88, h.lenM, hb, hb', hG, h1]
theorem G3700 {names f pl ti a c : AV} {n : Nat} (hl : names.lenN = n) (hn : n < 2097152) {m : Nat} (hm : a.lenN = m) {es : List App} (h : IsL 9 (es.map appR) c) (hes : es.length < 2097152) :
  loopG (calO s37) B3700 KK [a, c, ia 0, f, names, pl, ti] = some (ckOut (es.map (ckApp n m))) := by
 rw [← ckOut_map]
 refine loopL (fun i => [a, c, ia i, f, names, pl, ti]) es _ _ hes (fun i hi => ?_) ?_
 ·have hr : nth c.rowsL (Int.toNat (i : Int)) = some (appR es[i]) := h.row hi
  have hw := wS (Nat.lt_trans hi hes)
  have hw' : IntKind.i64.wrap ((n : Int) - 1) = n - 1 := i64w (by omega) (by omega)
  rcases hx : es[i] with ⟨who, aft, ⟨num, vo, ew, ek, ea, eb⟩, up⟩
  have hp := p86 (f := f) (pl := pl) (ti := ti) hl hn num vo ew ek ea eb
  simp only [appR, hx, Int.toNat_natCast] at hr
  push_cast at hw
  cases h1 : outB who 0 (n - 1) <;> cases h2 : outB aft 0 256 <;> by_cases h3 : ckRul n (num, vo, ew, ek, ea, eb) = 0 <;> by_cases h4 : (m : Int) < num <;>
   simp [B3700, h.lenM, hr, hi, hw, hw', hl, hm, p90, hp, ckApp, firstNz, whenI, h1, h2, h3, h4]
 ·simp [B3700, h.lenM]
theorem p37 {names f pl ti a c : AV} {n : Nat} (hl : names.lenN = n) (hn : n < 2097152) {m : Nat} (hm : a.lenN = m) {es : List App} (h : IsL 9 (es.map appR) c) (hes : es.length < 2097152) :
  F37 [f, names, pl, ti, a, c] = some (ia (cksA n m es)) := by
 have hG := G3700 (f := f) (pl := pl) (ti := ti) hl hn hm h hes
 unfold cksA
 by_cases hb : 256 < (es.length : Int)
 ·have hb' : 256 < es.length := by omega
  simp [F37, unitF_eq, t37, h.lenM, hb, hb']
 ·have hb' : ¬ 256 < es.length := by omega
  rcases ckOut_cases (es.map (ckApp n m)) with ⟨h1, h2⟩ | ⟨h1, h2⟩ <;> rw [h2] at hG <;> simp [F37, unitF_eq, t37, h.lenM, hb, hb', hG, h1]
structure JS where
 out : List Rul
 fees : List Int
 adm : List Int
 mp : List (AV × AV)
def deaf (xs : List Ent) (adm : List Int) (x : App) : Bool :=
 decide ((xs[(x.2.2.1.1 - 1).toNat]?).map (·.1) ≠ some x.1) || outB x.2.1 x.2.2.1.1 (x.2.2.1.1 + 8) || decide (x.2.2.1.1 ∈ adm)
def jstep (xs : List Ent) (s : JS) (x : App) : JS :=
 if deaf xs s.adm x then s else
  { out := if x.2.2.2 then s.out ++ [x.2.2.1] else s.out
    fees := if x.2.2.2 then s.fees else s.fees.set x.1.toNat (IntKind.i64.wrap (s.fees.getD x.1.toNat 0 + 50))
    adm := s.adm ++ [x.2.2.1.1]
    mp := match updA (ia x.2.2.1.1) (.bool true) s.mp with | some es => es | none => [] }
def jst (xs : List Ent) (es : List App) (n : Nat) : Nat → JS
 | 0 => ⟨[], List.replicate n 0, [], []⟩
 | i + 1 => match es[i]? with
   | some x => jstep xs (jst xs es n i) x
   | none => jst xs es n i
structure JOk (n i : Nat) (s : JS) : Prop where
 out : s.out.length ≤ i
 fees : s.fees.length = n
 adm : s.adm.length ≤ i
 keys : ∀ e ∈ s.mp, ∃ k : Int, e = (ia k, .bool true)
 find : ∀ k : Int, findA (ia k) s.mp = some (if k ∈ s.adm then some (.bool true) else none)
theorem upd_set (n : Int) : ∀ (es : List (AV × AV)), (∀ e ∈ es, ∃ k : Int, e = (ia k, .bool true)) →
  ∃ es', updA (ia n) (.bool true) es = some es' ∧ (∀ e ∈ es', ∃ k : Int, e = (ia k, .bool true)) ∧ ∀ m : Int, findA (ia m) es' = if m = n then some (some (.bool true)) else findA (ia m) es
 | [], _ => by
   refine ⟨[(ia n, .bool true)], by simp [updA], fun e he => ?_, fun m => by rw [find_ia]⟩
   cases he with
   | head => exact ⟨_, rfl⟩
   | tail _ he => cases he
 | e :: es, hk => by
   obtain ⟨m, rfl⟩ := hk e (.head _)
   obtain ⟨es', h1, h2, h3⟩ := upd_set n es fun e he => hk e (.tail _ he)
   by_cases hm : n = m
   ·refine ⟨(ia m, .bool true) :: es, by rw [upd_ia, if_pos hm], hk, fun k => ?_⟩
    rw [find_ia, hm]
    by_cases hn : k = m <;> simp [hn]
   ·refine ⟨(ia m, .bool true) :: es', by rw [upd_ia, if_neg hm, h1]; rfl, fun e he => ?_, fun k => ?_⟩
    ·cases he with
     | head => exact ⟨m, rfl⟩
     | tail _ he => exact h2 e he
    ·rw [find_ia, find_ia, h3]
     by_cases hn : k = m
     ·subst hn; rw [if_pos rfl, if_neg (fun h => hm h.symm), if_pos rfl]
     ·rw [if_neg hn, if_neg hn]
theorem jst_ok (xs : List Ent) (es : List App) (n : Nat) : ∀ i, JOk n i (jst xs es n i)
 | 0 => ⟨Nat.le_refl _, by simp [jst], Nat.le_refl _, fun e he => (by cases he), fun k => rfl⟩
 | i + 1 => by
   have ih := jst_ok xs es n i
   have base : JOk n (i + 1) (jst xs es n i) := ⟨Nat.le_succ_of_le ih.out, ih.fees, Nat.le_succ_of_le ih.adm, ih.keys, ih.find⟩
   simp only [jst]
   cases hx : es[i]? with
   | none => exact base
   | some x =>
     simp only [jstep]
     cases hd : deaf xs (jst xs es n i).adm x with
     | true => simpa using base
     | false =>
       obtain ⟨es', h1, h2, h3⟩ := upd_set x.2.2.1.1 (jst xs es n i).mp ih.keys
       have := ih.out; have := ih.adm
       refine ⟨?_, ?_, ?_, ?_, ?_⟩
       ·simp only [Bool.false_eq_true, if_false]; split <;> (try simp only [List.length_append, List.length_cons, List.length_nil]) <;> omega
       ·simp only [Bool.false_eq_true, if_false]; split <;> simp [ih.fees]
       ·simp; omega
       ·simpa [h1] using h2
       ·intro k
        simp only [Bool.false_eq_true, if_false, h1, h3, ih.find, List.mem_append, List.mem_singleton]
        by_cases hk : k = x.2.2.1.1 <;> simp [hk]
def outV (s : JS) : AV := mkL 6 (s.out.map rulR)
def feesV (s : JS) : AV := .sl 1 (s.fees.map intR)
theorem s_setc (Ω : Om) (k : Nat) (rows : List (List AV)) (i v : AV) : Pr.sem Ω (.setc 0) [.sl k rows, i, v] = .sl k (put rows i.nI.toNat (setCells (getL (nth rows i.nI.toNat)) 0 [v])) := rfl
theorem s_rep (Ω : Om) (k : Nat) (n z : AV) : Pr.sem Ω (.rep k) [n, z] = .sl k (List.replicate n.nI.toNat [z]) := rfl
theorem s_nil (Ω : Om) (a : AV) : Pr.sem Ω .isNil [a] = .bool a.nilB := rfl
theorem fee_set (s : JS) {n i j : Nat} (h : JOk n i s) (hj : j < n) (v : Int) : AV.sl 1 (put (s.fees.map intR) j (setCells (getL (nth (s.fees.map intR) j)) 0 [ia v])) = .sl 1 ((s.fees.set j v).map intR) := by
 have hlt : j < s.fees.length := by rw [h.fees]; exact hj
 have h1 : nth (s.fees.map intR) j = some [ia s.fees[j]] := by rw [nth_eq, List.getElem?_map, List.getElem?_eq_getElem hlt]; rfl
 rw [h1, put_eq, List.map_set]
 rfl
theorem app_ok {n m : Nat} {x : App} (h : ckApp n m x = 0) : (∃ k : Nat, x.2.2.1.1 = (k : Int) + 1 ∧ k < m) ∧ ∃ j : Nat, x.1 = j ∧ j < n := by
 simp only [ckApp] at h
 cases h1 : outB x.1 0 (n - 1) <;> rw [h1] at h <;> simp [firstNz, whenI] at h
 cases h2 : outB x.2.1 0 256 <;> rw [h2] at h <;> simp at h
 by_cases h3 : ckRul n x.2.2.1 = 0
 ·rw [h3] at h
  simp at h
  have h4 : ¬ (m : Int) < x.2.2.1.1 := by
   intro h5; simp [h5] at h
  simp only [outB, Bool.or_eq_false_iff, decide_eq_false_iff_not] at h1
  have h5 : outB x.2.2.1.1 1 256 = false := by
   cases h6 : outB x.2.2.1.1 1 256 with
   | false => rfl
   | true => simp [ckRul, h6] at h3
  simp only [outB, Bool.or_eq_false_iff, decide_eq_false_iff_not] at h5
  exact ⟨⟨(x.2.2.1.1 - 1).toNat, by omega, by omega⟩, ⟨x.1.toNat, by omega, by omega⟩⟩
 ·simp [h3] at h
theorem ckAll {n m : Int} {es : List App} (h : cksA n m es = 0) : ∀ x ∈ es, ckApp n m x = 0 := by
 unfold cksA at h
 split at h
 ·cases h
 ·intro x hx
  by_cases h0 : ckApp n m x = 0
  ·exact h0
  ·exfalso
   unfold firstNz at h
   cases hf : (es.map (ckApp n m)).find? (fun n => decide (n ≠ 0)) with
   | none =>
     have := List.find?_eq_none.1 hf (ckApp n m x) (List.mem_map_of_mem hx)
     simp [h0] at this
   | some y =>
     have := List.find?_some hf
     rw [hf] at h
     simp only [Option.getD_some] at h
     simp [h] at this
theorem G3600 {a c : AV} {xs : List Ent} {es : List App} {n : Nat} (h : IsL 4 (xs.map entR) a) (hx : xs.length < 1048577) (h9 : IsL 9 (es.map appR) c) (he : es.length < 1048577) (hn : n < 1048577) (hok : ∀ x ∈ es, ckApp n xs.length x = 0) :
  loopG (calO s36) B3600 KK [a, .nils, .sl 1 (List.replicate n [ia 0]), c, ia es.length, ia 0, .im []] = some (.tuple [ia 1, outV (jst xs es n es.length), feesV (jst xs es n es.length)]) := by
 have h0 : feesV (jst xs es n 0) = .sl 1 (List.replicate n [ia 0]) := by simp only [feesV, jst, List.map_replicate]; rfl
 rw [← h0]
 refine loopF (fun i => [a, outV (jst xs es n i), feesV (jst xs es n i), c, ia es.length, ia i, .im (jst xs es n i).mp]) es.length _ (by omega) (fun i hi => ?_) ?_
 ·have hr : nth c.rowsL (Int.toNat (i : Int)) = some (appR es[i]) := h9.row hi
  have hw := wS (i := i) (by omega)
  have hJ := jst_ok xs es n i
  have hxe : es[i]? = some es[i] := List.getElem?_eq_getElem hi
  obtain ⟨⟨k, hk, hkm⟩, j, hj, hjn⟩ := app_ok (hok es[i] (List.getElem_mem hi))
  rcases hx' : es[i] with ⟨who, aft, ⟨num, vo, ew, ek, ea, eb⟩, up⟩
  rw [hx'] at hk hj hr hxe
  simp only at hk hj
  subst hk; subst hj
  have hwk : IntKind.i64.wrap (k : Int) = (k : Int) := i64w (by omega) (by omega)
  have hw8 : IntKind.i64.wrap ((k : Int) + 1 + 8) = (k : Int) + 1 + 8 := i64w (by omega) (by omega)
  have hr1 : nth a.rowsL (Int.toNat (k : Int)) = some (entR xs[k]) := h.row hkm
  have hf := hJ.find ((k : Int) + 1)
  have hol := hJ.out
  have hb : ((jst xs es n i).out.length : Int) + 1 ≤ 1073741824 := by omega
  obtain ⟨es', u1, _, _⟩ := upd_set ((k : Int) + 1) (jst xs es n i).mp hJ.keys
  simp only [appR, Int.toNat_natCast] at hr
  simp only [entR, Int.toNat_natCast] at hr1
  have hfl : j < (jst xs es n i).fees.length := by rw [hJ.fees]; exact hjn
  have hrf : nth ((jst xs es n i).fees.map intR) j = some [ia (jst xs es n i).fees[j]] := by rw [nth_eq, List.getElem?_map, List.getElem?_eq_getElem hfl]; rfl
  have hg : (xs[((k : Int) + 1 - 1).toNat]?).map (·.1) = some xs[k].1 := by
   rw [show ((k : Int) + 1 - 1).toNat = k by omega, List.getElem?_eq_getElem hkm]; rfl
  have hgd : (jst xs es n i).fees.getD j 0 = (jst xs es n i).fees[j] := by simp [List.getD, hfl]
  have hset := fee_set (jst xs es n i) hJ hjn (IntKind.i64.wrap ((jst xs es n i).fees[j] + 50))
  have hstep : jst xs es n (i + 1) = jstep xs (jst xs es n i) ((j : Int), aft, ((k : Int) + 1, vo, ew, ek, ea, eb), up) := by simp only [jst, hxe]
  rw [hrf] at hset
  simp only [getL_some] at hset
  have hdf : deaf xs (jst xs es n i).adm ((j : Int), aft, ((k : Int) + 1, vo, ew, ek, ea, eb), up) = (decide (xs[k].1 ≠ (j : Int)) || outB aft ((k : Int) + 1) ((k : Int) + 1 + 8) || decide ((k : Int) + 1 ∈ (jst xs es n i).adm)) := by
   simp only [deaf, hg]
   simp
  simp only [hstep, jstep, hdf]
  push_cast at hw
  by_cases c1 : xs[k].1 = (j : Int)
  ·cases c2 : outB aft ((k : Int) + 1) ((k : Int) + 1 + 8)
   ·by_cases c3 : (k : Int) + 1 ∈ (jst xs es n i).adm
    ·rw [if_pos c3] at hf
     simp [B3600, h.lenM, h9.lenM, hr, hr1, hi, hw, hwk, hw8, hkm, c1, c2, c3, p89, hf]
    ·rw [if_neg c3] at hf
     cases up
     ·simp [B3600, h.lenM, h9.lenM, hr, hr1, hi, hw, hwk, hw8, hkm, c1, c2, c3, p89, hf, u1, s_mput, feesV, outV, s_setc, hset, hrf, hjn, hJ.fees, hgd]
     ·simp [B3600, h.lenM, h9.lenM, hr, hr1, hi, hw, hwk, hw8, hkm, c1, c2, c3, p89, hf, u1, s_mput, feesV, outV, hb, mkL_snoc, rulR]
   ·simp [B3600, h.lenM, h9.lenM, hr, hr1, hi, hw, hwk, hw8, hkm, c1, c2, p89]
  ·simp [B3600, h.lenM, h9.lenM, hr, hr1, hi, hw, hwk, hw8, hkm, c1]
 ·simp [B3600, outV, feesV]
theorem p36 {r : Rd} {names a c : AV} (hr : RdOk r names) {xs : List Ent} {es : List App} (h : IsL 4 (xs.map entR) a) (hx : xs.length < 1048577) (h9 : IsL 9 (es.map appR) c) (he : es.length < 1048577) :
  F36 [.str r.f, names, ia r.pl, ia r.ti, a, c] = some (if ckLog r xs ≠ 0 then .tuple [.nils, .nils, ia (ckLog r xs)] else if cksA r.ns.length xs.length es ≠ 0 then .tuple [.nils, .nils, ia (cksA r.ns.length xs.length es)]
   else .tuple [outV (jst xs es r.ns.length es.length), feesV (jst xs es r.ns.length es.length), ia 0]) := by
 have h1 := p61 hr h hx
 have hl := hr.len
 have h2 := p88 (f := .str r.f) (pl := ia r.pl) (ti := ia r.ti) hr.isL.lenM (by omega) h.lenM h9 (by omega)
 by_cases hc : ckLog r xs = 0
 ·by_cases hc2 : cksA r.ns.length xs.length es = 0
  ·have hok : ∀ x ∈ es, ckApp r.ns.length xs.length x = 0 := ckAll hc2
   have hG := G3600 (n := r.ns.length) h hx h9 he hl hok
   have h3 : (r.ns.length : Int) ≤ 1073741824 := by omega
   simp [F36, unitF_eq, t36, h1, h2, hc, hc2, hr.isL.lenM, h3, s_rep, s_mnew, hG, h9.lenM]
  ·simp [F36, unitF_eq, t36, h1, h2, hc, hc2]
 ·simp [F36, unitF_eq, t36, h1, hc]
theorem G3801 {Ω : Om} {v0 v1 v2 v3 t : AV} {v5 v9 v10 v11 v12 v13 v14 v15 v16 : AV} {adm : List Int} (ht : IsL 1 (adm.map intR) t) (hn : adm.length < 1048577) (k : Int) :
  loopG Ω B3801 KK [v0, v1, v2, v3, t, v5, ia k, .bool false, ia 0, v9, v10, v11, v12, v13, v14, v15, v16] =
   some (.tuple [ia 1, v0, v1, v2, v3, t, v5, ia k, .bool (decide (k ∈ adm)), v9, v10, v11, v12, v13, v14, v15, v16]) := by
 refine loopF (fun i => [v0, v1, v2, v3, t, v5, ia k, .bool (decide (k ∈ adm.take i)), ia i, v9, v10, v11, v12, v13, v14, v15, v16]) adm.length _ (by omega) (fun i hi => ?_) ?_
 ·have hr : nth t.rowsL (Int.toNat (i : Int)) = some (intR adm[i]) := ht.row hi
  have hw := wS (i := i) (by omega)
  simp only [intR, Int.toNat_natCast] at hr
  push_cast at hw
  have htk : k ∈ adm.take (i + 1) ↔ (k ∈ adm.take i ∨ k = adm[i]) := by rw [take_snoc hi, List.mem_append, List.mem_singleton]
  by_cases c1 : k ∈ adm.take i
  ·simp [B3801, ht.lenM, hr, hi, hw, c1, htk]
  ·by_cases c2 : adm[i] = k
   ·simp [B3801, ht.lenM, hr, hi, hw, c1, c2, htk]
   ·have c3 : ¬ k = adm[i] := fun h => c2 h.symm
    have c4 : (adm[i] == k) = false := by simpa using c2
    simp [B3801, ht.lenM, hr, hi, hw, c1, c3, c4, htk]
 ·simp [B3801, ht.lenM]
def admV (s : JS) : AV := mkL 1 (s.adm.map intR)
theorem G3800 {a c : AV} {xs : List Ent} {es : List App} {n : Nat} (h : IsL 4 (xs.map entR) a) (hx : xs.length < 1048577) (h9 : IsL 9 (es.map appR) c) (he : es.length < 1048577) (hn : n < 1048577) (hok : ∀ x ∈ es, ckApp n xs.length x = 0) :
  loopG (omL KK s38 [d3801]) B3800 KK [a, c, .nils, .sl 1 (List.replicate n [ia 0]), .nils, ia 0] = some (.tuple [ia 1, outV (jst xs es n es.length), feesV (jst xs es n es.length)]) := by
 have h0 : feesV (jst xs es n 0) = .sl 1 (List.replicate n [ia 0]) := by simp only [feesV, jst, List.map_replicate]; rfl
 rw [← h0]
 refine loopF (fun i => [a, c, outV (jst xs es n i), feesV (jst xs es n i), admV (jst xs es n i), ia i]) es.length _ (by omega) (fun i hi => ?_) ?_
 ·have hr : nth c.rowsL (Int.toNat (i : Int)) = some (appR es[i]) := h9.row hi
  have hw := wS (i := i) (by omega)
  have hJ := jst_ok xs es n i
  have hxe : es[i]? = some es[i] := List.getElem?_eq_getElem hi
  obtain ⟨⟨k, hk, hkm⟩, j, hj, hjn⟩ := app_ok (hok es[i] (List.getElem_mem hi))
  rcases hx' : es[i] with ⟨who, aft, ⟨num, vo, ew, ek, ea, eb⟩, up⟩
  rw [hx'] at hk hj hr hxe
  simp only at hk hj
  subst hk; subst hj
  have hwk : IntKind.i64.wrap (k : Int) = (k : Int) := i64w (by omega) (by omega)
  have hw8 : IntKind.i64.wrap ((k : Int) + 1 + 8) = (k : Int) + 1 + 8 := i64w (by omega) (by omega)
  have hr1 : nth a.rowsL (Int.toNat (k : Int)) = some (entR xs[k]) := h.row hkm
  have hol := hJ.out
  have hal := hJ.adm
  have hb : ((jst xs es n i).out.length : Int) + 1 ≤ 1073741824 := by omega
  have hb2 : ((jst xs es n i).adm.length : Int) + 1 ≤ 1073741824 := by omega
  simp only [appR, Int.toNat_natCast] at hr
  simp only [entR, Int.toNat_natCast] at hr1
  have hfl : j < (jst xs es n i).fees.length := by rw [hJ.fees]; exact hjn
  have hrf : nth ((jst xs es n i).fees.map intR) j = some [ia (jst xs es n i).fees[j]] := by rw [nth_eq, List.getElem?_map, List.getElem?_eq_getElem hfl]; rfl
  have hg : (xs[((k : Int) + 1 - 1).toNat]?).map (·.1) = some xs[k].1 := by
   rw [show ((k : Int) + 1 - 1).toNat = k by omega, List.getElem?_eq_getElem hkm]; rfl
  have hgd : (jst xs es n i).fees.getD j 0 = (jst xs es n i).fees[j] := by simp [List.getD, hfl]
  have hset := fee_set (jst xs es n i) hJ hjn (IntKind.i64.wrap ((jst xs es n i).fees[j] + 50))
  have hstep : jst xs es n (i + 1) = jstep xs (jst xs es n i) ((j : Int), aft, ((k : Int) + 1, vo, ew, ek, ea, eb), up) := by simp only [jst, hxe]
  rw [hrf] at hset
  simp only [getL_some] at hset
  have hdf : deaf xs (jst xs es n i).adm ((j : Int), aft, ((k : Int) + 1, vo, ew, ek, ea, eb), up) = (decide (xs[k].1 ≠ (j : Int)) || outB aft ((k : Int) + 1) ((k : Int) + 1 + 8) || decide ((k : Int) + 1 ∈ (jst xs es n i).adm)) := by
   simp only [deaf, hg]
   simp
  have hin := G3801 (Ω := calO s38) (v0 := a) (v1 := c) (v2 := outV (jst xs es n i)) (v3 := feesV (jst xs es n i)) (t := admV (jst xs es n i)) (v5 := ia i) (v9 := ia j) (v10 := ia aft) (v11 := .bool vo) (v12 := ia ew) (v13 := .str ek) (v14 := ia ea) (v15 := ia eb) (v16 := .bool up) (mkL_isL 1 _) (by omega) ((k : Int) + 1)
  simp only [hstep, jstep, hdf]
  push_cast at hw
  by_cases c1 : xs[k].1 = (j : Int)
  ·cases c2 : outB aft ((k : Int) + 1) ((k : Int) + 1 + 8)
   ·by_cases c3 : (k : Int) + 1 ∈ (jst xs es n i).adm
    ·simp [B3800, h.lenM, h9.lenM, hr, hr1, hi, hw, hwk, hw8, hkm, c1, c2, c3, p90, hin]
    ·have hin' := hin
     simp only [outV, feesV, admV] at hin'
     cases up
     ·simp [B3800, h.lenM, h9.lenM, hr, hr1, hi, hw, hwk, hw8, hkm, c1, c2, c3, p90, hin', feesV, outV, admV, s_setc, hset, hrf, hjn, hJ.fees, hgd, hb2, mkL_snoc, s_nil, AV.nilB, intR]
     ·simp [B3800, h.lenM, h9.lenM, hr, hr1, hi, hw, hwk, hw8, hkm, c1, c2, c3, p90, hin', feesV, outV, admV, hb, hb2, mkL_snoc, rulR, intR]
   ·simp [B3800, h.lenM, h9.lenM, hr, hr1, hi, hw, hwk, hw8, hkm, c1, c2, p90, hin]
  ·simp [B3800, h.lenM, h9.lenM, hr, hr1, hi, hw, hwk, hw8, hkm, c1, hin]
 ·simp [B3800, outV, feesV, h9.lenM]
theorem p38 {f names pl ti a c : AV} {xs : List Ent} {es : List App} {n : Nat} (hl : names.lenN = n) (h : IsL 4 (xs.map entR) a) (hx : xs.length < 1048577) (h9 : IsL 9 (es.map appR) c) (he : es.length < 1048577) (hn : n < 1048577) (hc : cksA n xs.length es = 0) :
  F38 [f, names, pl, ti, a, c] = some (.tuple [outV (jst xs es n es.length), feesV (jst xs es n es.length)]) := by
 have hG := G3800 (n := n) h hx h9 he hn (ckAll hc)
 have h3 : (n : Int) ≤ 1073741824 := by omega
 simp [F38, unitF_eq, t38, hl, h3, s_rep, hG]
end Go.Proofs.YtdeaibcebeofiaaGreatDoor.C5

namespace Go.Proofs.YtdeaibcebeofiaaGreatDoor.C5
open Go Go.Proofs.YtdeaibcebeofiaaGreatDoor.AM
set_option maxRecDepth 20000
set_option maxHeartbeats 4000000
def longA (es : List App) : Bool := es.any fun x => decide (20 < x.2.2.1.2.2.2.1.size)
theorem G500 {a c f names pl ti : AV} {es : List App} (h9 : IsL 9 (es.map appR) c) (he : es.length < 1048577) :
  loopG (calO s5) B500 KK [a, c, .nils, ia 0, f, names, pl, ti] = some (if longA es then .tuple [ia 1] else .tuple [ia 2, a, c, mkL 9 (es.map appR), f, names, pl, ti]) := by
 have := loop0 (Ω := calO s5) (B := B500) (fun i => [a, c, mkL 9 ((es.take i).map appR), ia i, f, names, pl, ti]) es.length
  (fun i => if h : i < es.length then (if decide (20 < es[i].2.2.1.2.2.2.1.size) = true then some (AV.tuple [ia 1]) else none) else none) (.tuple [ia 2, a, c, mkL 9 (es.map appR), f, names, pl, ti]) (by omega) (fun i hi => by
   have hr : nth c.rowsL (Int.toNat (i : Int)) = some (appR es[i]) := h9.row hi
   have hw := wS (i := i) (by omega)
   have ht : mkL 9 ((es.take (i + 1)).map appR) = .sl 9 ((es.take i).map appR ++ [appR es[i]]) := by
    rw [← mkL_snoc, take_snoc hi, List.map_append]; rfl
   have hb : ((min i es.length : Nat) : Int) + 1 ≤ 1073741824 := by omega
   simp only [dif_pos hi]
   rw [ht]
   rcases hx' : es[i] with ⟨who, aft, ⟨num, vo, ew, ek, ea, eb⟩, up⟩
   rw [hx'] at hr
   simp only [appR, Int.toNat_natCast] at hr
   push_cast at hw
   by_cases hc : 20 < ek.size
   ·have hc' : (20 : Int) < ek.size := by omega
    simp [B500, h9.lenM, hr, hi, hc, hc', p35]
   ·have hc' : ¬ (20 : Int) < ek.size := by omega
    simp [B500, h9.lenM, hr, hi, hc, hc', hw, p35, hb, appR]) (by simp [B500, h9.lenM])
 have h0 : mkL 9 ((es.take 0).map appR) = .nils := rfl
 simp only [h0] at this
 rw [show (ia ((0 : Nat) : Int)) = ia 0 from rfl] at this
 rw [this, range_find es (fun x => if decide (20 < x.2.2.1.2.2.2.1.size) = true then some (AV.tuple [ia 1]) else none) _ (fun i hi => by rw [dif_pos hi]), any_find]
 unfold longA
 cases (es.any fun x => decide (20 < x.2.2.1.2.2.2.1.size)) <;> rfl
theorem G501 {rs : List Rul} {fees e : AV} (hn : rs.length < 1048577) :
  loopG (omL KK s5 [d500]) B501 KK [mkL 6 (rs.map rulR), fees, e, mkL 6 (rs.map rulR), fees, ia 0] = some (.tuple [ia 2, fees, e, fees]) := by
 have hL := mkL_isL 6 (rs.map rulR)
 refine loopF (fun i => [mkL 6 (rs.map rulR), fees, e, mkL 6 (rs.map rulR), fees, ia i]) rs.length _ (by omega) (fun i hi => ?_) ?_
 ·have hr : nth (mkL 6 (rs.map rulR)).rowsL (Int.toNat (i : Int)) = some (rulR rs[i]) := hL.row hi
  have hw := wS (i := i) (by omega)
  simp only [rulR, Int.toNat_natCast, mkL_rows] at hr
  push_cast at hw
  simp [B501, hr, hi, hw, p35]
 ·simp [B501]
@[simp] theorem okr_three (r s t : RS) (l : List AV) : RS.okr [r, s, t] (.tuple l) = RS.oks [r, s, t] l := rfl
theorem law5 {r : Rd} {names a c : AV} (hr : RdOk r names) {xs : List Ent} {es : List App} (h : IsL 4 (xs.map entR) a) (hx : xs.length < 1048577)
  (h9 : IsL 9 (es.map appR) c) (he : es.length < 1048577) : F5 [.str r.f, names, ia r.pl, ia r.ti, a, c] = some (.bool true) := by
 have okE : ∀ zs : List Ent, (Sh.sl [.int .i64, .str, .int .i64, .int .i64]).ok (mkL 4 (zs.map entR)) = true := fun zs => (mkL_isL 4 (zs.map entR)).ok rfl (by simp [entR])
 have okR : ∀ zs : List Rul, (Sh.sl [.int .i64, .bool, .int .i64, .str, .int .i64, .int .i64]).ok (mkL 6 (zs.map rulR)) = true := fun zs => (mkL_isL 6 (zs.map rulR)).ok rfl (by simp [rulR])
 have okA : (Sh.sl [.int .i64, .int .i64, .int .i64, .bool, .int .i64, .str, .int .i64, .int .i64, .bool]).ok (mkL 9 (es.map appR)) = true := (mkL_isL 9 (es.map appR)).ok rfl (by simp [appR])
 have okF : ∀ s : JS, (Sh.sl [.int .i64]).ok (feesV s) = true := fun s => by simp [feesV, intR]
 have e1 := p18 h hx
 have i1 := mkL_isL 4 (xs.map entR)
 have i9 := mkL_isL 9 (es.map appR)
 have hl := hr.len
 obtain ⟨b1, z1⟩ := p16 (pl := ia r.pl) (ti := ia r.ti) (f := r.f) hr.isL hr.len
 obtain ⟨b2, z2⟩ := p17 i1 hx 40
 have f36 := p36 hr h hx h9 he
 have f21 := p21 hr i1 hx
 have hG := G500 (a := a) (f := .str r.f) (names := names) (pl := ia r.pl) (ti := ia r.ti) h9 he
 have f37 := p37 (f := .str r.f) (pl := ia r.pl) (ti := ia r.ti) (m := xs.length) hr.isL.lenM (by omega) i1.lenM i9 (by omega)
 have f15 : F15 [] = some (.bool true) := rfl
 have o15 : calO s5 15 0 [] = .bool true := by rw [o5_15, f15]; rfl
 have hJ := jst_ok xs es r.ns.length es.length
 have hG1 := G501 (rs := (jst xs es r.ns.length es.length).out) (fees := feesV (jst xs es r.ns.length es.length)) (e := ia 0) (by have := hJ.out; omega)
 have f23 := p23_ok (a := feesV (jst xs es r.ns.length es.length)) (b := feesV (jst xs es r.ns.length es.length)) (xs := (jst xs es r.ns.length es.length).fees) isL_sl isL_sl (by rw [hJ.fees]; exact hl)
 by_cases q1 : (20 : Int) < es.length <;> by_cases q2 : (es.length : Int) ≤ 256 <;> by_cases q3 : (258 : Int) < es.length <;> try omega
 all_goals
  cases hlong : longA es
  ·rw [hlong] at hG
   simp only [Bool.false_eq_true, if_false] at hG
   by_cases hc1 : ckLog r xs = 0
   ·simp only [ne_eq, hc1, not_true_eq_false, if_false] at f36
    by_cases hc2 : cksA r.ns.length xs.length es = 0
    ·simp only [hc2, not_true_eq_false, if_false] at f36
     have f38 := p38 (f := .str r.f) (pl := ia r.pl) (ti := ia r.ti) (n := r.ns.length) hr.isL.lenM i1 hx i9 he hl hc2
     simp only [outV] at f36 f38
     cases b1 <;> cases b2 <;>
      simp [F5, unitF_eq, t5, e1, z1, z2, okE, okR, okA, okF, f36, f21, f37, f38, o15, hG, hG1, f23, hc1, hc2, h9.lenM, q1, q2, q3, p23_bad]
    ·simp only [hc2, not_false_eq_true, if_true] at f36
     cases b1 <;> cases b2 <;>
      simp [F5, unitF_eq, t5, e1, z1, z2, okE, okR, okA, okF, f36, f21, f37, o15, hG, hc1, hc2, h9.lenM, q1, q2, q3, p23_bad]
   ·simp only [ne_eq, hc1, not_false_eq_true, if_true] at f36
    cases b1 <;> cases b2 <;>
     simp [F5, unitF_eq, t5, e1, z1, z2, okE, okR, okA, okF, f36, f21, o15, hG, hc1, h9.lenM, q1, q2, q3, p23_bad]
  ·rw [hlong] at hG
   simp only [if_true] at hG
   cases b1 <;> cases b2 <;>
    simp [F5, unitF_eq, t5, e1, z1, z2, okE, okR, okA, okF, f36, o15, hG, h9.lenM, q1, q2, q3]
end Go.Proofs.YtdeaibcebeofiaaGreatDoor.C5

namespace Go.Proofs.YtdeaibcebeofiaaGreatDoor.C5
open Go Go.Proofs.YtdeaibcebeofiaaGreatDoor.AM Go.Proofs Go.RowKit Go.ChangeShapes Go.WideShapes Go.ChangeAt Go.Proofs.YtdeaibcebeofiaaGreatDoor
set_option maxRecDepth 100000
set_option maxHeartbeats 4000000
abbrev shA : List Sh := [.int .i64, .int .i64, .int .i64, .bool, .int .i64, .str, .int .i64, .int .i64, .bool]
theorem rd_apps {a : AV} {n : Nat} (h : (Sh.sl shA).ok a = true) (hs : a.sz ≤ n) : ∃ xs : List App, IsL 9 (xs.map appR) a ∧ xs.length ≤ n := by
 rcases Sh.sl_inv h with rfl | ⟨rows, rfl, hr⟩
 ·exact ⟨[], isL_nils, Nat.zero_le _⟩
 ·obtain ⟨xs, rfl⟩ := rows_of (f := appR) (fun r hr => by
   obtain ⟨_, _, rfl, h1, q0⟩ := Sh.oks_inv hr
   obtain ⟨x1, rfl⟩ := Sh.int_inv h1
   obtain ⟨_, _, rfl, h2, q1⟩ := Sh.oks_inv q0
   obtain ⟨x2, rfl⟩ := Sh.int_inv h2
   obtain ⟨_, _, rfl, h3, q2⟩ := Sh.oks_inv q1
   obtain ⟨x3, rfl⟩ := Sh.int_inv h3
   obtain ⟨_, _, rfl, h4, q3⟩ := Sh.oks_inv q2
   obtain ⟨x4, rfl⟩ := Sh.bool_inv h4
   obtain ⟨_, _, rfl, h5, q4⟩ := Sh.oks_inv q3
   obtain ⟨x5, rfl⟩ := Sh.int_inv h5
   obtain ⟨_, _, rfl, h6, q5⟩ := Sh.oks_inv q4
   obtain ⟨x6, rfl⟩ := Sh.str_inv h6
   obtain ⟨_, _, rfl, h7, q6⟩ := Sh.oks_inv q5
   obtain ⟨x7, rfl⟩ := Sh.int_inv h7
   obtain ⟨_, _, rfl, h8, q7⟩ := Sh.oks_inv q6
   obtain ⟨x8, rfl⟩ := Sh.int_inv h8
   obtain ⟨_, _, rfl, h9, q8⟩ := Sh.oks_inv q7
   obtain ⟨x9, rfl⟩ := Sh.bool_inv h9
   obtain rfl := Sh.oks_nil_inv q8
   exact ⟨(x1, x2, (x3, x4, x5, x6, x7, x8), x9), rfl⟩) hr
  refine ⟨xs, isL_sl, ?_⟩
  have := rows_len (rows := xs.map appR) (fun r hr => by obtain ⟨x, _, rfl⟩ := List.mem_map.1 hr; simp [appR])
  simp only [AV.sz, List.length_map] at hs this
  omega
theorem rss5 : mapO (rsT tab) Tryz.f5.params.toList = some [rsRound, .one (.sl shE), .one (.sl shA)] := by kernel_rfl
theorem lay5 : Tryz.f5.params.toList.all (layOk tab 20) = true := by kernel_rfl
theorem rec5 : Tryz.f5.params.toList.all (fun t => Tryz.prog.readableRec t && decide (t < Tryz.prog.types.size)) = true := by kernel_rfl
theorem ans5 (xs : List AV) (h : RS.oks [rsRound, .one (.sl shE), .one (.sl shA)] xs = true) (hs : (xs.map AV.szc).sum ≤ 1048576) : extI i5 F5 xs = some (.bool true) := by
 obtain ⟨x1, _, rfl, h1, q0⟩ := RS.oks_inv h
 obtain ⟨x2, _, rfl, h2, q1⟩ := RS.oks_inv q0
 obtain ⟨x3, _, rfl, h3, q2⟩ := RS.oks_inv q1
 obtain rfl := RS.oks_nil_inv q2
 simp only [List.map_cons, List.map_nil, List.sum_cons, List.sum_nil] at hs
 obtain ⟨r, names, rfl, hr, hn⟩ := rd_round h1 (n := 1048576) (by omega) (Nat.le_refl _)
 have ha : (Sh.sl shE).ok x2 = true := h2
 have h2s : x2.sz ≤ 1048576 := by
  rcases Sh.sl_inv ha with rfl | ⟨rows, rfl, _⟩ <;> simp only [AV.szc] at hs <;> omega
 have hc : (Sh.sl shA).ok x3 = true := h3
 have h3s : x3.sz ≤ 1048576 := by
  rcases Sh.sl_inv hc with rfl | ⟨rows, rfl, _⟩ <;> simp only [AV.szc] at hs <;> omega
 obtain ⟨xs, g1, g2⟩ := rd_ents ha (n := 1048576) h2s
 obtain ⟨rs, g5, g6⟩ := rd_apps hc (n := 1048576) h3s
 have hL := law5 hr g1 (by omega) g5 (by omega)
 simp only [extI, i5, mtVs, mtV, hn, ha, hc, ok_str, ok_int, if_true, List.append_nil, List.nil_append, List.cons_append, List.map_cons, List.map_nil, List.length_cons, List.length_nil]
 rw [if_pos (by decide)]
 exact hL
end Go.Proofs.YtdeaibcebeofiaaGreatDoor.C5

namespace Go.Proofs.YtdeaibcebeofiaaGreatDoor.fnJudges
open Go Go.Proofs.YtdeaibcebeofiaaGreatDoor.AM C5 Go.Proofs Go.RowKit Go.ChangeShapes Go.WideShapes Go.ChangeAt
set_option maxRecDepth 100000
def wargs : Array Value := #[zRound, .slice none 0 0, .slice none 0 0]
theorem reads (os : Os) {H : Type} (enc : TypeId × Value → H) : ∃ places, DataW.whole enc Tryz.prog ((laidWorld os).forCall (fun _ _ => 0) ⟨#[], wargs, []⟩).memory Tryz.f5.params.toList Rows.contestJudgesSpec.vars false wargs.toList 8 = some ([dRound, .nil, .nil], [], places) :=
 ⟨[], by kernel_rfl⟩
theorem liftedUpto (os : Os) (started : os.Started) (H : Type) (enc : TypeId × Value → H) (F : Stop.Interp) :
  ReturnsInHanded {} Tryz.checked os 5 .any ((Rows.OpenSpec.upto Rows.contestJudgesSpec).preRow enc Tryz.prog Tryz.f5 Rows.contestJudgesUptoRow.domain false Rows.contestJudgesUptoRow.laid) (((Rows.OpenSpec.upto Rows.contestJudgesSpec).at F).post enc Tryz.prog Tryz.f5 false true false false) := by
 obtain ⟨places, hx⟩ := reads os enc
 refine returnsInHanded_of_row (C := Tryz.checked) (s := Rows.OpenSpec.upto Rows.contestJudgesSpec) ownT started (by kernel_rfl) Tryz.func5
  (witness_row_at (enc := enc) (C := Tryz.checked) false (laidWorld os) wargs rfl (by kernel_rfl) (by kernel_rfl) (by kernel_rfl)
   (OpenSpec.preRow_of_cond 8 hx (by kernel_rfl) (fun k hk => by cases hk; kernel_rfl) (by kernel_rfl) (laid_met os wargs))) ?_
 intro W base args ds gs before hval hW _ hcond _ hL _ _
 exact contractU (spec := Rows.contestJudgesSpec) (row := Rows.contestJudgesUptoRow) x5 rss5 lay5 rec5 rfl (by kernel_rfl) rfl
  (fun H ds h => by
   obtain ⟨a, b, c, rfl⟩ : ∃ a b c, ds = [a, b, c] := by
    have h3 : ds.length = 3 := h
    match ds, h3 with
    | [a, b, c], _ => exact ⟨a, b, c, rfl⟩
   rfl) ans5 H enc W base args ds gs before hval hW (hcond _ rfl) hL
theorem jPlace : (Rows.contestJudgesUptoRow.inPlace == Tryz.prog.inPlace 5) = true := by kernel_rfl
theorem jUnf : (Rows.contestJudgesUptoRow.unfollowed == Tryz.prog.unfollowed 5) = true := by kernel_rfl
theorem jRec : (Rows.contestJudgesUptoRow.recurses == Tryz.prog.recurses 5) = true := by kernel_rfl
theorem jNamed : (Rows.contestJudgesUptoRow.named == Tryz.prog.varsNamed 5) = true := by kernel_rfl
theorem jName : Tryz.prog.funcNamed "crux/cruxlaw05.ContestJudges" = some 5 := by kernel_rfl
theorem joined : joinedFacts Tryz.prog 5 Tryz.f5 Rows.contestJudgesSpec Rows.contestJudgesUptoRow = true :=
 joined_of (by kernel_rfl) laidOutT jMaps (by kernel_rfl) (by kernel_rfl) rfl jStops rfl jKnobs jPlace jUnf jRec jNamed (by kernel_rfl) (by kernel_rfl) (by kernel_rfl) (by kernel_rfl) (by kernel_rfl) rfl (by kernel_rfl) (by kernel_rfl) (by kernel_rfl)
  jKeys rfl jHeard jEnter jLifted jMake rfl (by kernel_rfl) (by kernel_rfl) (by kernel_rfl)
theorem inst : Tryz.f5.isInstance Tryz.prog Rows.contestJudgesUptoRow.origin Rows.contestJudgesUptoRow.targs := of_decide_eq_true (by kernel_rfl)
theorem wrap : Tryz.f5.isWrapper Tryz.prog Rows.contestJudgesUptoRow.wrapper Rows.contestJudgesUptoRow.mainSum := by
 unfold Func.isWrapper; first | (rw [if_pos (by decide +kernel)]; kernel_rfl) | (rw [if_neg (by decide +kernel)]; exact ⟨rfl, rfl⟩)
theorem saidUpto : Rows.ContestJudgesUptoSaid :=
 OpenClaim.holds_of_cond 5 Tryz.f5 rfl rfl rfl rfl rfl rfl rfl ⟨rfl, rfl, rfl, rfl, rfl⟩ rfl rfl rfl rfl rfl jName Tryz.func5 joined inst wrap
  (fun os started H enc _ F => by rw [OpenClaim.pre_eq_preRow]; exact liftedUpto os started H enc F)
theorem plain (f : FuncId) (fn : Func) (hf : Tryz.pinned.checked.prog.funcNamed "crux/cruxlaw05.ContestJudges" = some f) (hfn : Tryz.pinned.checked.prog.funcs[f]? = some fn) :
  false = Tryz.pinned.checked.prog.looks [] ∧ ∀ (j : Nat) t, fn.params[j]? = some t → Tryz.pinned.checked.prog.wantsStandIn t = false := by
 obtain rfl : f = 5 := Option.some.inj (jName.symm.trans hf) |>.symm
 obtain rfl : fn = Tryz.f5 := (Option.some.inj (Tryz.func5.symm.trans hfn)).symm
 refine ⟨by kernel_rfl, fun j t ht => ?_⟩
 have hall : (Tryz.f5.params.toList.all fun u => !Tryz.prog.wantsStandIn u) = true := by kernel_rfl
 have hm : t ∈ Tryz.f5.params.toList := by simpa using Array.mem_of_getElem? ht
 exact (show Tryz.prog.wantsStandIn t = false by simpa using List.all_eq_true.1 hall t hm)
theorem cardUpto : Rows.ContestJudgesUptoCardSaid :=
 Claim7.holds_tied_plain_at .later [] _ _ _ _ saidUpto (fun _ h => by cases h) (by kernel_rfl) (fun _ h => by cases h) contestJudgesUpto_row_tie rfl ⟨rfl, rfl⟩ (by kernel_rfl) rfl plain (by kernel_rfl)
#print axioms cardUpto
end Go.Proofs.YtdeaibcebeofiaaGreatDoor.fnJudges
