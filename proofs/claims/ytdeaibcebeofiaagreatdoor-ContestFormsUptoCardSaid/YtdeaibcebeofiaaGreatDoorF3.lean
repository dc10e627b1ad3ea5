/-
  Functions, as trees.
-/
import Derived.Test.YtdeaibcebeofiaaGreatDoorF2
import Derived.Test.YtdeaibcebeofiaaGreatDoorRowsB
set_option linter.unusedVariables false
set_option linter.unusedSimpArgs false
set_option linter.unusedSectionVars false
namespace Go.Proofs.YtdeaibcebeofiaaGreatDoor.C5
open Go Go.Proofs.YtdeaibcebeofiaaGreatDoor.AM Go.Proofs
set_option maxRecDepth 100000
@[simp] def e127_0 : X := (Q (LE (I (0)) (.v 1)) (LT (.v 1) (LN (.v 12))) (.b false))
@[simp] def e127_1 : X := (.p (.bin .gtr .i64) [(C 0 (.v 12) (.v 1)), (I (0))])
@[simp] def e127_2 : X := (Q (EQ (.v 0) (I (0))) (.b true) (LT (C 0 (.v 12) (.v 1)) (.v 0)))
@[simp] def e127_3 : X := (Q e127_1 e127_2 (.b false))
@[simp] def e127_4 : X := (Q e127_3 (C 0 (.v 12) (.v 1)) (.v 0))
@[simp] def e127_5 : X := (.p (.call 100000 12700) [(I (0)), (I (0)), (.v 0), (.v 1), (.v 2), (.v 3), (.v 4), (.v 5), (.v 6), (.v 7), (.v 8), (.v 9), (.v 10)])
@[simp] def e127_6 : X := (PJ 0 e127_5)
@[simp] def e127_7 : X := (EQ e127_6 (I (1)))
@[simp] def e127_8 : X := (PJ 1 e127_5)
def B12700 : Te LEnd := .ite (LT (.v 1) (LN (.v 12))) (
 .need e127_0 (
 .ok (.again [e127_4, (AD (.v 1) (I (1))), (.v 2), (.v 3), (.v 4), (.v 5), (.v 6), (.v 7), (.v 8), (.v 9), (.v 10), (.v 11), (.v 12)]))) (
 .ok (.out 1 [(.v 0)]))
def d12700 : LoopD := ⟨3, ⟨12700, 13, (J 1 ((.ptr 0 0 0) :: (J 1 ((Si 0) :: ((Si 1) :: (J 32 [])))))), ⟨⟨1, [(0, .cells 11 [[(Ss 2), (Ss 3), (Si 4), (Si 5), (Si 6), (Si 7), (Sb 8), (Sb 9), (Sb 10), (S3 11), (S2 12)]])], [[]], none⟩, [], []⟩,
 [(.exit 0, 1, (J 3 ((Si 0) :: (J 33 []))), ⟨⟨1, [], [[]], none⟩, [], []⟩)], [(1, [])]⟩, B12700⟩
@[simp] theorem d12700_id : d12700.L.id = 12700 := rfl
@[simp] theorem d12700_B : d12700.B = B12700 := rfl
def i127 : Inst := ⟨127, 0, [(.agg [(Ss 0), (Ss 1), (Si 2), (Si 3), (Si 4), (Si 5), (Sb 6), (Sb 7), (Sb 8), (S3 9), (S2 10)])], [.one (.int .i64)]⟩
def s127 : List Cal := []
@[simp] def l127 : List LoopD := [d12700]
def t127 : Te AV := .need e127_7 (
 .ok (.sym (.int .i64) e127_8))
def F127 : List AV → Option AV := unitF (omL KK s127 l127) t127
def c127 : Cal := ⟨i127, F127⟩
theorem x127 : XO i127 F127 := XU (cs := s127) (ds := l127) (t := t127) trivial (x := g127) (by kernel_rfl) (by kernel_rfl) (by kernel_rfl)
@[simp] def e125_0 : X := (.p (.call 127 0) [(.v 0), (.v 1), (.v 2), (.v 3), (.v 4), (.v 5), (.v 6), (.v 7), (.v 8), (.v 9), (.v 10)])
@[simp] def e125_1 : X := (.p (.okr [.one (.int .i64)]) [e125_0])
@[simp] def e125_2 : X := (.p (.bin .gtr .i64) [e125_0, (I (0))])
def i125 : Inst := ⟨125, 0, [(.agg [(Ss 0), (Ss 1), (Si 2), (Si 3), (Si 4), (Si 5), (Sb 6), (Sb 7), (Sb 8), (S3 9), (S2 10)])], [.one .bool]⟩
def s125 : List Cal := [c127]
@[simp] theorem o125_127 : OE s125 127 F127 := oG rfl
@[simp] def l125 : List LoopD := []
def t125 : Te AV := .need e125_1 (
 .ok (.sym .bool e125_2))
def F125 : List AV → Option AV := unitF (omL KK s125 l125) t125
def c125 : Cal := ⟨i125, F125⟩
theorem x125 : XO i125 F125 := XU (cs := s125) (ds := l125) (t := t125) ⟨x127, trivial⟩ (x := g125) (by kernel_rfl) (by kernel_rfl) (by kernel_rfl)
@[simp] def e167_0 : X := (Q (.p (.sbin .eql) [(.v 0), (.s w2)]) (I (2)) (I (0)))
@[simp] def e167_1 : X := (Q (.p (.sbin .eql) [(.v 0), (.s w1)]) (.v 2) e167_0)
def i167 : Inst := ⟨167, 0, [(.agg [(Ss 0), (S1 1), (Si 2), (Si 3)])], [.one (.int .i64)]⟩
def s167 : List Cal := []
@[simp] def l167 : List LoopD := []
def t167 : Te AV := .ok (.sym (.int .i64) e167_1)
def F167 : List AV → Option AV := unitF (omL KK s167 l167) t167
def c167 : Cal := ⟨i167, F167⟩
theorem x167 : XO i167 F167 := XU (cs := s167) (ds := l167) (t := t167) trivial (x := g167) (by kernel_rfl) (by kernel_rfl) (by kernel_rfl)
@[simp] def e168_0 : X := (.p (.call 90 0) [(.v 0), (I (0)), (I (99))])
@[simp] def e168_1 : X := (.p (.okr [.one .bool]) [e168_0])
@[simp] def e168_2 : X := (.p (.call 90 0) [(.v 1), (I (0)), (.v 0)])
@[simp] def e168_3 : X := (.p (.okr [.one .bool]) [e168_2])
@[simp] def e168_4 : X := (Q e168_0 (.b true) e168_3)
@[simp] def e168_5 : X := (.p (.call 90 0) [(.v 2), (I (0)), (.v 0)])
@[simp] def e168_6 : X := (.p (.okr [.one .bool]) [e168_5])
@[simp] def e168_7 : X := (Q e168_2 (.b true) e168_6)
@[simp] def e168_8 : X := (Q e168_0 (.b true) e168_7)
@[simp] def e168_9 : X := (Q e168_2 (.b true) e168_5)
@[simp] def e168_10 : X := (Q e168_0 (.b true) e168_9)
@[simp] def e168_11 : X := (Q (.p (.bin .gtr .i64) [(.v 0), (I (0))]) (.p .not [(.v 3)]) (.b false))
@[simp] def e168_12 : X := (Q (.p (.bin .gtr .i64) [(.v 1), (.v 2)]) (.b true) e168_11)
@[simp] def e168_13 : X := (Q (EQ (.v 1) (I (0))) (.b true) e168_12)
@[simp] def e168_14 : X := (Q (.p (.bin .gtr .i64) [(.v 2), (I (0))]) e168_13 e168_11)
@[simp] def e168_15 : X := (Q e168_14 (I (1)) (I (0)))
@[simp] def e168_16 : X := (Q e168_10 (I (3)) e168_15)
def i168 : Inst := ⟨168, 0, [(.agg [(Si 0), (Si 1), (Si 2), (Sb 3)])], [.one (.int .i64)]⟩
def s168 : List Cal := [c90]
@[simp] theorem o168_90 : OE s168 90 F90 := oG rfl
@[simp] def l168 : List LoopD := []
def t168 : Te AV := .need e168_1 (
 .need e168_4 (
 .need e168_8 (
 .ok (.sym (.int .i64) e168_16))))
def F168 : List AV → Option AV := unitF (omL KK s168 l168) t168
def c168 : Cal := ⟨i168, F168⟩
theorem x168 : XO i168 F168 := XU (cs := s168) (ds := l168) (t := t168) ⟨x90, trivial⟩ (x := g168) (by kernel_rfl) (by kernel_rfl) (by kernel_rfl)
@[simp] def e99_0 : X := (Q (LE (I (0)) (.v 0)) (LT (.v 0) (LN (.v 11))) (.b false))
@[simp] def e99_1 : X := (.p (.call 90 0) [(C 0 (.v 11) (.v 0)), (I (0)), (I (86399999))])
@[simp] def e99_2 : X := (.p (.okr [.one .bool]) [e99_1])
@[simp] def e99_3 : X := (Q (LE (I (0)) (.v 0)) (LT (.v 0) (LN (.v 10))) (.b false))
@[simp] def e99_4 : X := (.p (.call 168 0) [(C 0 (.v 10) (.v 0)), (C 1 (.v 10) (.v 0)), (C 2 (.v 10) (.v 0)), (C 3 (.v 10) (.v 0))])
@[simp] def e99_5 : X := (.p (.okr [.one (.int .i64)]) [e99_4])
@[simp] def e99_6 : X := (.p (.bin .neq .i64) [e99_4, (I (0))])
@[simp] def e99_7 : X := (Q (.p (.sbin .neq) [(.v 6), (.s w22)]) (.p (.sbin .neq) [(.v 6), (.s w23)]) (.b false))
@[simp] def e99_8 : X := (Q (.p (.sbin .neq) [(.v 6), (.s w21)]) e99_7 (.b false))
@[simp] def e99_9 : X := (Q (.p (.sbin .neq) [(.v 6), (.s w3)]) e99_8 (.b false))
@[simp] def e99_10 : X := (Q (.p (.sbin .neq) [(.v 5), (.s w20)]) (.b true) e99_9)
@[simp] def e99_11 : X := (Q (.p (.sbin .neq) [(.v 5), (.s w19)]) e99_10 e99_9)
@[simp] def e99_12 : X := (Q (.p (.sbin .neq) [(.v 5), (.s w18)]) e99_11 e99_9)
@[simp] def e99_13 : X := (Q (.p (.sbin .neq) [(.v 5), (.s w20)]) (.p (.sbin .neq) [(.v 6), (.s w3)]) (.b false))
@[simp] def e99_14 : X := (.p (.call 90 0) [(.v 8), (I (0)), (.v 4)])
@[simp] def e99_15 : X := (.p (.okr [.one .bool]) [e99_14])
@[simp] def e99_16 : X := (Q e99_13 (.b true) e99_15)
@[simp] def e99_17 : X := (Q e99_12 (.b true) e99_16)
@[simp] def e99_18 : X := (.p (.call 90 0) [(.v 9), (I (0)), (.v 3)])
@[simp] def e99_19 : X := (.p (.okr [.one .bool]) [e99_18])
@[simp] def e99_20 : X := (Q e99_14 (.b true) e99_19)
@[simp] def e99_21 : X := (Q e99_13 (.b true) e99_20)
@[simp] def e99_22 : X := (Q e99_12 (.b true) e99_21)
@[simp] def e99_23 : X := (.p (.call 167 0) [(.v 0), (.v 1), (.v 2), (.v 3)])
@[simp] def e99_24 : X := (.p (.okr [.one (.int .i64)]) [e99_23])
@[simp] def e99_25 : X := (Q e99_18 (.b true) e99_24)
@[simp] def e99_26 : X := (Q e99_14 (.b true) e99_25)
@[simp] def e99_27 : X := (Q e99_13 (.b true) e99_26)
@[simp] def e99_28 : X := (Q e99_12 (.b true) e99_27)
@[simp] def e99_29 : X := (.p (.call 90 0) [(.v 7), (I (0)), e99_23])
@[simp] def e99_30 : X := (.p (.okr [.one .bool]) [e99_29])
@[simp] def e99_31 : X := (Q e99_18 (.b true) e99_30)
@[simp] def e99_32 : X := (Q e99_14 (.b true) e99_31)
@[simp] def e99_33 : X := (Q e99_13 (.b true) e99_32)
@[simp] def e99_34 : X := (Q e99_12 (.b true) e99_33)
@[simp] def e99_35 : X := (Q (.p (.sbin .eql) [(.v 0), (.s w0)]) (.v 2) (I (0)))
@[simp] def e99_36 : X := (.p (.call 90 0) [(.v 10), (I (0)), e99_35])
@[simp] def e99_37 : X := (.p (.okr [.one .bool]) [e99_36])
@[simp] def e99_38 : X := (Q e99_29 (.b true) e99_37)
@[simp] def e99_39 : X := (Q e99_18 (.b true) e99_38)
@[simp] def e99_40 : X := (Q e99_14 (.b true) e99_39)
@[simp] def e99_41 : X := (Q e99_13 (.b true) e99_40)
@[simp] def e99_42 : X := (Q e99_12 (.b true) e99_41)
@[simp] def e99_43 : X := (Q e99_29 (.b true) e99_36)
@[simp] def e99_44 : X := (Q e99_18 (.b true) e99_43)
@[simp] def e99_45 : X := (Q e99_14 (.b true) e99_44)
@[simp] def e99_46 : X := (Q (.p (.sbin .eql) [(.v 0), (.s w1)]) (.v 2) (I (0)))
@[simp] def e99_47 : X := (Q (.p (.sbin .eql) [(.v 0), (.s w0)]) (I (0)) e99_46)
@[simp] def e99_48 : X := (.p (.bin .neq .i64) [(LN (.v 14)), e99_47])
@[simp] def e99_49 : X := (Q (.p (.sbin .eql) [(.v 0), (.s w1)]) (I (0)) (.v 2))
@[simp] def e99_50 : X := (Q (.p (.sbin .eql) [(.v 0), (.s w0)]) (I (0)) e99_49)
@[simp] def e99_51 : X := (.p (.bin .gtr .i64) [(LN (.v 15)), e99_50])
@[simp] def e99_52 : X := (Q e99_48 (.b true) e99_51)
@[simp] def e99_53 : X := (.p (.call 100000 9900) [(I (0)), (.v 5), (.v 6), (.v 7), (.v 8), (.v 9), (.v 10), (.v 11), (.v 12), (.v 13), (.v 14), (.v 15), (.v 0), (.v 1), (.v 2), (.v 3)])
@[simp] def e99_54 : X := (PJ 0 e99_53)
@[simp] def e99_55 : X := (EQ e99_54 (I (1)))
@[simp] def e99_56 : X := (EQ e99_54 (I (2)))
@[simp] def e99_57 : X := (Q e99_55 (.b true) e99_56)
@[simp] def e99_58 : X := (Q e99_52 (.b true) e99_57)
@[simp] def e99_59 : X := (Q e99_45 (.b true) e99_58)
@[simp] def e99_60 : X := (Q e99_13 (.b true) e99_59)
@[simp] def e99_61 : X := (Q e99_12 (.b true) e99_60)
@[simp] def e99_62 : X := (.p (.call 100000 9901) [(I (0)), (.v 5), (.v 6), (.v 7), (.v 8), (.v 9), (.v 10), (.v 11), (.v 12), (.v 13), (.v 14), (.v 15), (.v 0), (.v 1), (.v 2), (.v 3)])
@[simp] def e99_63 : X := (PJ 0 e99_62)
@[simp] def e99_64 : X := (EQ e99_63 (I (1)))
@[simp] def e99_65 : X := (EQ e99_63 (I (2)))
@[simp] def e99_66 : X := (Q e99_64 (.b true) e99_65)
@[simp] def e99_67 : X := (Q e99_55 (.b true) e99_66)
@[simp] def e99_68 : X := (Q e99_52 (.b true) e99_67)
@[simp] def e99_69 : X := (Q e99_45 (.b true) e99_68)
@[simp] def e99_70 : X := (Q e99_13 (.b true) e99_69)
@[simp] def e99_71 : X := (Q e99_12 (.b true) e99_70)
@[simp] def e99_72 : X := (Q (.p (.sbin .neq) [(.v 0), (.s w1)]) (.v 13) (.b false))
@[simp] def e99_73 : X := (Q (.v 12) (.b true) e99_72)
@[simp] def e99_74 : X := (Q (.v 11) (.b true) e99_73)
@[simp] def e99_75 : X := (Q (.p (.bin .neq .i64) [(.v 9), (I (0))]) (.b true) e99_74)
@[simp] def e99_76 : X := (Q (.p (.sbin .neq) [(.v 0), (.s w0)]) e99_75 e99_72)
@[simp] def e99_77 : X := (Q (LE (I (0)) (SB (.v 7) (I (1)))) (LT (SB (.v 7) (I (1))) (LN (.v 14))) (.b false))
@[simp] def e99_78 : X := (Q (.p (.sbin .eql) [(.v 0), (.s w1)]) e99_77 (.b true))
@[simp] def e99_79 : X := (Q (EQ (.v 7) (I (0))) (.b true) e99_78)
@[simp] def e99_80 : X := (Q (.p (.sbin .neq) [(.v 0), (.s w0)]) e99_79 (.b true))
@[simp] def e99_81 : X := (Q (.p (.sbin .eql) [(.v 5), (.s w19)]) e99_80 (.b true))
@[simp] def e99_82 : X := (Q e99_76 (.b true) e99_81)
@[simp] def e99_83 : X := (Q e99_64 (.b true) e99_82)
@[simp] def e99_84 : X := (Q e99_55 (.b true) e99_83)
@[simp] def e99_85 : X := (Q e99_52 (.b true) e99_84)
@[simp] def e99_86 : X := (Q e99_45 (.b true) e99_85)
@[simp] def e99_87 : X := (Q e99_13 (.b true) e99_86)
@[simp] def e99_88 : X := (Q e99_12 (.b true) e99_87)
@[simp] def e99_89 : X := (Q (.p (.sbin .neq) [(.v 0), (.s w0)]) (.b true) e99_78)
@[simp] def e99_90 : X := (Q (.p (.sbin .eql) [(.v 5), (.s w19)]) e99_89 (.b true))
@[simp] def e99_91 : X := (Q e99_76 (.b true) e99_90)
@[simp] def e99_92 : X := (Q e99_64 (.b true) e99_91)
@[simp] def e99_93 : X := (Q e99_55 (.b true) e99_92)
@[simp] def e99_94 : X := (Q e99_52 (.b true) e99_93)
@[simp] def e99_95 : X := (Q e99_45 (.b true) e99_94)
@[simp] def e99_96 : X := (Q e99_13 (.b true) e99_95)
@[simp] def e99_97 : X := (Q e99_12 (.b true) e99_96)
@[simp] def e99_98 : X := (.p .not [(C 3 (.v 14) (SB (.v 7) (I (1))))])
@[simp] def e99_99 : X := (.p .not [(.p (.sbin .eql) [(.v 5), (.s w19)])])
@[simp] def e99_100 : X := (Q (.p (.bin .neq .i64) [(.v 7), (I (0))]) (.b true) (.v 13))
@[simp] def e99_101 : X := (Q e99_99 e99_100 (.b false))
@[simp] def e99_102 : X := (Q e99_98 (.b true) e99_101)
@[simp] def e99_103 : X := (Q (.p (.sbin .eql) [(.v 0), (.s w1)]) e99_102 e99_101)
@[simp] def e99_104 : X := (Q (EQ (.v 7) (I (0))) (.b true) e99_103)
@[simp] def e99_105 : X := (Q (.p (.sbin .neq) [(.v 0), (.s w0)]) e99_104 e99_103)
@[simp] def e99_106 : X := (Q (.p (.sbin .eql) [(.v 5), (.s w19)]) e99_105 e99_101)
@[simp] def e99_107 : X := (Q (.v 13) e99_77 (.b true))
@[simp] def e99_108 : X := (Q e99_106 (.b true) e99_107)
@[simp] def e99_109 : X := (Q e99_76 (.b true) e99_108)
@[simp] def e99_110 : X := (Q e99_64 (.b true) e99_109)
@[simp] def e99_111 : X := (Q e99_55 (.b true) e99_110)
@[simp] def e99_112 : X := (Q e99_52 (.b true) e99_111)
@[simp] def e99_113 : X := (Q e99_45 (.b true) e99_112)
@[simp] def e99_114 : X := (Q e99_13 (.b true) e99_113)
@[simp] def e99_115 : X := (Q e99_12 (.b true) e99_114)
@[simp] def e99_116 : X := (EQ (C 0 (.v 14) (SB (.v 7) (I (1)))) (I (0)))
@[simp] def e99_117 : X := (.p (.bin .gtr .i64) [(C 2 (.v 14) (SB (.v 7) (I (1)))), (I (0))])
@[simp] def e99_118 : X := (Q e99_116 (.b true) e99_117)
@[simp] def e99_119 : X := (Q (.v 13) e99_118 (.b false))
@[simp] def e99_120 : X := (.p (.call 125 0) [(.v 5), (.v 6), (.v 7), (.v 8), (.v 9), (.v 10), (.v 11), (.v 12), (.v 13), (.v 14), (.v 15)])
@[simp] def e99_121 : X := (.p (.okr [.one .bool]) [e99_120])
@[simp] def e99_122 : X := (Q (.p (.sbin .eql) [(.v 6), (.s w3)]) e99_121 (.b true))
@[simp] def e99_123 : X := (Q (.p (.sbin .eql) [(.v 5), (.s w20)]) e99_122 (.b true))
@[simp] def e99_124 : X := (Q (EQ (LN (.v 15)) (.v 2)) (.b true) e99_123)
@[simp] def e99_125 : X := (Q (.p (.sbin .neq) [(.v 5), (.s w20)]) e99_124 (.b true))
@[simp] def e99_126 : X := (Q (.p (.sbin .eql) [(.v 0), (.s w2)]) e99_125 (.b true))
@[simp] def e99_127 : X := (Q e99_119 (.b true) e99_126)
@[simp] def e99_128 : X := (Q e99_106 (.b true) e99_127)
@[simp] def e99_129 : X := (Q e99_76 (.b true) e99_128)
@[simp] def e99_130 : X := (Q e99_64 (.b true) e99_129)
@[simp] def e99_131 : X := (Q e99_55 (.b true) e99_130)
@[simp] def e99_132 : X := (Q e99_52 (.b true) e99_131)
@[simp] def e99_133 : X := (Q e99_45 (.b true) e99_132)
@[simp] def e99_134 : X := (Q e99_13 (.b true) e99_133)
@[simp] def e99_135 : X := (Q e99_12 (.b true) e99_134)
@[simp] def e99_136 : X := (Q (.p (.sbin .neq) [(.v 5), (.s w20)]) (.b true) e99_123)
@[simp] def e99_137 : X := (Q (.p (.sbin .eql) [(.v 0), (.s w2)]) e99_136 (.b true))
@[simp] def e99_138 : X := (Q e99_119 (.b true) e99_137)
@[simp] def e99_139 : X := (Q e99_106 (.b true) e99_138)
@[simp] def e99_140 : X := (Q e99_76 (.b true) e99_139)
@[simp] def e99_141 : X := (Q e99_64 (.b true) e99_140)
@[simp] def e99_142 : X := (Q e99_55 (.b true) e99_141)
@[simp] def e99_143 : X := (Q e99_52 (.b true) e99_142)
@[simp] def e99_144 : X := (Q e99_45 (.b true) e99_143)
@[simp] def e99_145 : X := (Q e99_13 (.b true) e99_144)
@[simp] def e99_146 : X := (Q e99_12 (.b true) e99_145)
@[simp] def e99_147 : X := (PJ 1 e99_53)
@[simp] def e99_148 : X := (.p .not [e99_120])
@[simp] def e99_149 : X := (Q (.p (.sbin .eql) [(.v 6), (.s w3)]) e99_148 (.b false))
@[simp] def e99_150 : X := (Q (.p (.sbin .eql) [(.v 5), (.s w20)]) e99_149 (.b false))
@[simp] def e99_151 : X := (Q (EQ (LN (.v 15)) (.v 2)) (.b true) e99_150)
@[simp] def e99_152 : X := (Q (.p (.sbin .neq) [(.v 5), (.s w20)]) e99_151 e99_150)
@[simp] def e99_153 : X := (Q (.p (.sbin .eql) [(.v 0), (.s w2)]) e99_152 (.b false))
@[simp] def e99_154 : X := (Q e99_153 (I (19)) (I (0)))
@[simp] def e99_155 : X := (Q e99_119 (I (19)) e99_154)
@[simp] def e99_156 : X := (Q e99_106 (I (19)) e99_155)
@[simp] def e99_157 : X := (Q e99_76 (I (1)) e99_156)
@[simp] def e99_158 : X := (Q e99_64 (I (3)) e99_157)
@[simp] def e99_159 : X := (Q e99_55 e99_147 e99_158)
@[simp] def e99_160 : X := (Q e99_52 (I (2)) e99_159)
@[simp] def e99_161 : X := (Q e99_45 (I (3)) e99_160)
@[simp] def e99_162 : X := (Q e99_13 (I (19)) e99_161)
@[simp] def e99_163 : X := (Q e99_12 (I (13)) e99_162)
def B9901 : Te LEnd := .ite (LT (.v 0) (LN (.v 11))) (
 .need e99_0 (
 .need e99_2 (
 .ite e99_1 (
 .ok (.out 1 [])) (
 .ok (.again [(AD (.v 0) (I (1))), (.v 1), (.v 2), (.v 3), (.v 4), (.v 5), (.v 6), (.v 7), (.v 8), (.v 9), (.v 10), (.v 11), (.v 12), (.v 13), (.v 14), (.v 15)]))))) (
 .ok (.out 2 [(.v 1), (.v 2), (.v 3), (.v 4), (.v 5), (.v 6), (.v 7), (.v 8), (.v 9), (.v 10), (.v 11), (.v 12), (.v 13), (.v 14), (.v 15)]))
def d9901 : LoopD := ⟨23, ⟨9901, 16, (J 3 ((.ptr 0 0 0) :: (J 1 ((.ptr 1 0 0) :: (J 6 ((Si 0) :: (J 245 []))))))), ⟨⟨2, [(1, .cells 11 [[(Ss 1), (Ss 2), (Si 3), (Si 4), (Si 5), (Si 6), (Sb 7), (Sb 8), (Sb 9), (S3 10), (S2 11)]]), (0, .cells 4 [[(Ss 12), (S1 13), (Si 14), (Si 15)]])], [[]], none⟩, [], []⟩,
 [(.ret, 0, (J 6 ((.int .i64 (3)) :: (J 251 []))), ⟨⟨2, [], [[]], none⟩, [], []⟩),
  (.exit 3, 15, (J 3 ((.ptr 0 0 0) :: (J 1 ((.ptr 1 0 0) :: (J 252 []))))), ⟨⟨2, [(1, .cells 11 [[(Ss 0), (Ss 1), (Si 2), (Si 3), (Si 4), (Si 5), (Sb 6), (Sb 7), (Sb 8), (S3 9), (S2 10)]]), (0, .cells 4 [[(Ss 11), (S1 12), (Si 13), (Si 14)]])], [[]], none⟩, [], []⟩)], [(1, []), (2, [(0, 1), (1, 2), (2, 3), (3, 4), (4, 5), (5, 6), (6, 7), (7, 8), (8, 9), (9, 10), (10, 11), (11, 12), (12, 13), (13, 14), (14, 15)])]⟩, B9901⟩
@[simp] theorem d9901_id : d9901.L.id = 9901 := rfl
@[simp] theorem d9901_B : d9901.B = B9901 := rfl
def B9900 : Te LEnd := .ite (LT (.v 0) (LN (.v 10))) (
 .need e99_3 (
 .need e99_5 (
 .ite e99_6 (
 .ok (.out 1 [e99_4])) (
 .ok (.again [(AD (.v 0) (I (1))), (.v 1), (.v 2), (.v 3), (.v 4), (.v 5), (.v 6), (.v 7), (.v 8), (.v 9), (.v 10), (.v 11), (.v 12), (.v 13), (.v 14), (.v 15)]))))) (
 .ok (.out 2 [(.v 1), (.v 2), (.v 3), (.v 4), (.v 5), (.v 6), (.v 7), (.v 8), (.v 9), (.v 10), (.v 11), (.v 12), (.v 13), (.v 14), (.v 15)]))
def d9900 : LoopD := ⟨17, ⟨9900, 16, (J 3 ((.ptr 0 0 0) :: (J 1 ((.ptr 1 0 0) :: (J 4 ((Si 0) :: (J 247 []))))))), ⟨⟨2, [(1, .cells 11 [[(Ss 1), (Ss 2), (Si 3), (Si 4), (Si 5), (Si 6), (Sb 7), (Sb 8), (Sb 9), (S3 10), (S2 11)]]), (0, .cells 4 [[(Ss 12), (S1 13), (Si 14), (Si 15)]])], [[]], none⟩, [], []⟩,
 [(.ret, 1, (J 6 ((Si 0) :: (J 251 []))), ⟨⟨2, [], [[]], none⟩, [], []⟩),
  (.exit 1, 15, (J 3 ((.ptr 0 0 0) :: (J 1 ((.ptr 1 0 0) :: (J 252 []))))), ⟨⟨2, [(1, .cells 11 [[(Ss 0), (Ss 1), (Si 2), (Si 3), (Si 4), (Si 5), (Sb 6), (Sb 7), (Sb 8), (S3 9), (S2 10)]]), (0, .cells 4 [[(Ss 11), (S1 12), (Si 13), (Si 14)]])], [[]], none⟩, [], []⟩)], [(1, []), (2, [(0, 1), (1, 2), (2, 3), (3, 4), (4, 5), (5, 6), (6, 7), (7, 8), (8, 9), (9, 10), (10, 11), (11, 12), (12, 13), (13, 14), (14, 15)])]⟩, B9900⟩
@[simp] theorem d9900_id : d9900.L.id = 9900 := rfl
@[simp] theorem d9900_B : d9900.B = B9900 := rfl
def i99 : Inst := ⟨99, 0, [(.agg [(Ss 0), (S1 1), (Si 2), (Si 3)]), (Si 4), (.agg [(Ss 5), (Ss 6), (Si 7), (Si 8), (Si 9), (Si 10), (Sb 11), (Sb 12), (Sb 13), (S3 14), (S2 15)])], [.one (.int .i64)]⟩
def s99 : List Cal := [c90, c167, c125, c168]
@[simp] theorem o99_90 : OE s99 90 F90 := oG rfl
@[simp] theorem o99_167 : OE s99 167 F167 := oG rfl
@[simp] theorem o99_125 : OE s99 125 F125 := oG rfl
@[simp] theorem o99_168 : OE s99 168 F168 := oG rfl
@[simp] def l99 : List LoopD := [d9901, d9900]
def t99 : Te AV := .need e99_17 (
 .need e99_22 (
 .need e99_28 (
 .need e99_34 (
 .need e99_42 (
 .need e99_61 (
 .need e99_71 (
 .need e99_88 (
 .need e99_97 (
 .need e99_115 (
 .need e99_135 (
 .need e99_146 (
 .ok (.sym (.int .i64) e99_163)))))))))))))
def F99 : List AV → Option AV := unitF (omL KK s99 l99) t99
def c99 : Cal := ⟨i99, F99⟩
theorem x99 : XO i99 F99 := XU (cs := s99) (ds := l99) (t := t99) ⟨x90, x167, x125, x168, trivial⟩ (x := g99) (by kernel_rfl) (by kernel_rfl) (by kernel_rfl)
@[simp] def e45_0 : X := (Q (LE (I (0)) (.v 0)) (LT (.v 0) (LN (.v 2))) (.b false))
@[simp] def e45_1 : X := (.p (.call 99 0) [(.v 3), (.v 4), (.v 5), (.v 6), (.v 1), (C 0 (.v 2) (.v 0)), (C 1 (.v 2) (.v 0)), (C 2 (.v 2) (.v 0)), (C 3 (.v 2) (.v 0)), (C 4 (.v 2) (.v 0)), (C 5 (.v 2) (.v 0)), (C 6 (.v 2) (.v 0)), (C 7 (.v 2) (.v 0)), (C 8 (.v 2) (.v 0)), (C 9 (.v 2) (.v 0)), (C 10 (.v 2) (.v 0))])
@[simp] def e45_2 : X := (.p (.okr [.one (.int .i64)]) [e45_1])
@[simp] def e45_3 : X := (.p (.bin .neq .i64) [e45_1, (I (0))])
@[simp] def e45_4 : X := (.p (.call 100000 4501) [(.v 0), (I (0)), (C 0 (.v 2) (.v 0)), (C 1 (.v 2) (.v 0)), (C 2 (.v 2) (.v 0)), (C 3 (.v 2) (.v 0)), (C 4 (.v 2) (.v 0)), (C 5 (.v 2) (.v 0)), (C 6 (.v 2) (.v 0)), (C 7 (.v 2) (.v 0)), (C 8 (.v 2) (.v 0)), (C 9 (.v 2) (.v 0)), (C 10 (.v 2) (.v 0)), (.v 1), (.v 2), (.v 3), (.v 4), (.v 5), (.v 6)])
@[simp] def e45_5 : X := (PJ 0 e45_4)
@[simp] def e45_6 : X := (EQ e45_5 (I (1)))
@[simp] def e45_7 : X := (EQ e45_5 (I (2)))
@[simp] def e45_8 : X := (Q (LE (I (0)) (.v 1)) (LT (.v 1) (LN (.v 14))) (.b false))
@[simp] def e45_9 : X := (Q (.p (.sbin .eql) [(.v 2), (.s w19)]) e45_8 (.b true))
@[simp] def e45_10 : X := (.p (.sbin .eql) [(C 0 (.v 14) (.v 1)), (.s w19)])
@[simp] def e45_11 : X := (Q e45_10 (EQ (.v 4) (C 2 (.v 14) (.v 1))) (.b false))
@[simp] def e45_12 : X := (Q (.p (.sbin .eql) [(.v 2), (.s w19)]) e45_11 (.b false))
@[simp] def e45_13 : X := (.p (.call 59 0) [(.v 0), (.v 1), (.v 2), (.v 3)])
@[simp] def e45_14 : X := (.p (.okr [.one (.int .i64)]) [e45_13])
@[simp] def e45_15 : X := (.p (.bin .neq .i64) [e45_13, (I (0))])
@[simp] def e45_16 : X := (.p (.call 90 0) [(.v 4), (I (0)), (I (86399999))])
@[simp] def e45_17 : X := (.p (.okr [.one .bool]) [e45_16])
@[simp] def e45_18 : X := (Q e45_15 (.b true) e45_17)
@[simp] def e45_19 : X := (.p (.bin .neq .i64) [(LN (.v 5)), (LN (.v 1))])
@[simp] def e45_20 : X := (.p (.call 100000 4500) [(I (0)), (.v 4), (.v 5), (.v 0), (.v 1), (.v 2), (.v 3)])
@[simp] def e45_21 : X := (PJ 0 e45_20)
@[simp] def e45_22 : X := (EQ e45_21 (I (1)))
@[simp] def e45_23 : X := (EQ e45_21 (I (2)))
@[simp] def e45_24 : X := (Q e45_22 (.b true) e45_23)
@[simp] def e45_25 : X := (Q e45_19 (.b true) e45_24)
@[simp] def e45_26 : X := (Q e45_16 (.b true) e45_25)
@[simp] def e45_27 : X := (Q e45_15 (.b true) e45_26)
@[simp] def e45_28 : X := (PJ 1 e45_20)
@[simp] def e45_29 : X := (Q e45_22 e45_28 (I (0)))
@[simp] def e45_30 : X := (Q e45_19 (I (2)) e45_29)
@[simp] def e45_31 : X := (Q e45_16 (I (3)) e45_30)
@[simp] def e45_32 : X := (Q e45_15 e45_13 e45_31)
def B4500 : Te LEnd := .ite (LT (.v 0) (LN (.v 2))) (
 .need e45_0 (
 .need e45_2 (
 .ite e45_3 (
 .ok (.out 1 [e45_1])) (
 .ite e45_6 (
 .ok (.out 1 [(I (9))])) (
 .need e45_7 (
 .ok (.again [(AD (.v 0) (I (1))), (.v 1), (.v 2), (.v 3), (.v 4), (.v 5), (.v 6)]))))))) (
 .ok (.out 2 []))
def d4500 : LoopD := ⟨9, ⟨4500, 7, (J 2 ((.ptr 0 0 0) :: ((.ptr 1 0 0) :: (J 2 ((Si 0) :: (J 65 [])))))), ⟨⟨3, [(1, .cells 2 [[(Si 1), (S4 2)]]), (0, .cells 4 [[(Ss 3), (S1 4), (Si 5), (Si 6)]])], [[]], none⟩, [], []⟩,
 [(.ret, 1, (J 4 ((Si 0) :: (J 67 []))), ⟨⟨4, [], [[]], none⟩, [], []⟩),
  (.exit 0, 0, (J 72 []), ⟨⟨3, [], [[]], none⟩, [], []⟩)], [(1, []), (2, [])]⟩, B4500⟩
@[simp] theorem d4500_id : d4500.L.id = 4500 := rfl
@[simp] theorem d4500_B : d4500.B = B4500 := rfl
def B4501 : Te LEnd := .ite (LT (.v 1) (.v 0)) (
 .need e45_9 (
 .ite e45_12 (
 .ok (.out 1 [])) (
 .ok (.again [(.v 0), (AD (.v 1) (I (1))), (.v 2), (.v 3), (.v 4), (.v 5), (.v 6), (.v 7), (.v 8), (.v 9), (.v 10), (.v 11), (.v 12), (.v 13), (.v 14), (.v 15), (.v 16), (.v 17), (.v 18)])))) (
 .ok (.out 2 [(.v 0), (.v 13), (.v 14), (.v 15), (.v 16), (.v 17), (.v 18)]))
def d4501 : LoopD := ⟨16, ⟨4501, 19, (J 2 ((.ptr 0 0 0) :: ((.ptr 1 0 0) :: (J 2 ((Si 0) :: ((.ptr 3 0 0) :: ((Si 1) :: (J 63 [])))))))), ⟨⟨4, [(3, .cells 11 [[(Ss 2), (Ss 3), (Si 4), (Si 5), (Si 6), (Si 7), (Sb 8), (Sb 9), (Sb 10), (S3 11), (S2 12)]]), (1, .cells 2 [[(Si 13), (S4 14)]]), (0, .cells 4 [[(Ss 15), (S1 16), (Si 17), (Si 18)]])], [[]], none⟩, [], []⟩,
 [(.ret, 0, (J 4 ((.int .i64 (9)) :: (J 67 []))), ⟨⟨4, [], [[]], none⟩, [], []⟩),
  (.exit 2, 7, (J 2 ((.ptr 0 0 0) :: ((.ptr 1 0 0) :: (J 2 ((Si 0) :: (J 65 [])))))), ⟨⟨4, [(1, .cells 2 [[(Si 1), (S4 2)]]), (0, .cells 4 [[(Ss 3), (S1 4), (Si 5), (Si 6)]])], [[]], none⟩, [], []⟩)], [(1, []), (2, [(0, 0), (1, 13), (2, 14), (3, 15), (4, 16), (5, 17), (6, 18)])]⟩, B4501⟩
@[simp] theorem d4501_id : d4501.L.id = 4501 := rfl
@[simp] theorem d4501_B : d4501.B = B4501 := rfl
def i45 : Inst := ⟨45, 0, [(.agg [(Ss 0), (S1 1), (Si 2), (Si 3)]), (.agg [(Si 4), (S4 5)])], [.one (.int .i64)]⟩
def s45 : List Cal := [c59, c90, c99]
@[simp] theorem o45_59 : OE s45 59 F59 := oG rfl
@[simp] theorem o45_90 : OE s45 90 F90 := oG rfl
@[simp] theorem o45_99 : OE s45 99 F99 := oG rfl
@[simp] def l45 : List LoopD := [d4500, d4501]
def t45 : Te AV := .need e45_14 (
 .need e45_18 (
 .need e45_27 (
 .ok (.sym (.int .i64) e45_32))))
def F45 : List AV → Option AV := unitF (omL KK s45 l45) t45
def c45 : Cal := ⟨i45, F45⟩
theorem x45 : XO i45 F45 := XU (cs := s45) (ds := l45) (t := t45) ⟨x59, x90, x99, trivial⟩ (x := g45) (by kernel_rfl) (by kernel_rfl) (by kernel_rfl)
@[simp] def e44_0 : X := (Q (LE (I (0)) (.v 0)) (LT (.v 0) (LN (.v 2))) (.b false))
@[simp] def e44_1 : X := (.p (.bin .gtr .i64) [(LN (C 0 (.v 2) (.v 0))), (I (20))])
@[simp] def e44_2 : X := (.p (.bin .gtr .i64) [(LN (C 1 (.v 2) (.v 0))), (I (20))])
@[simp] def e44_3 : X := (.p (.bin .gtr .i64) [(LN (C 9 (.v 2) (.v 0))), (I (12))])
@[simp] def e44_4 : X := (.p (.bin .gtr .i64) [(LN (C 10 (.v 2) (.v 0))), (I (12))])
@[simp] def e44_5 : X := (Q e44_3 (.b true) e44_4)
@[simp] def e44_6 : X := (Q e44_2 (.b true) e44_5)
@[simp] def e44_7 : X := (Q e44_1 (.b true) e44_6)
@[simp] def e44_8 : X := (.p (.bin .gtr .i64) [(LN (.v 1)), (I (14))])
@[simp] def e44_9 : X := (.p (.call 100000 4400) [(I (0)), (.v 0), (.v 1)])
@[simp] def e44_10 : X := (PJ 0 e44_9)
@[simp] def e44_11 : X := (EQ e44_10 (I (1)))
@[simp] def e44_12 : X := (EQ e44_10 (I (2)))
@[simp] def e44_13 : X := (Q e44_11 (.b true) e44_12)
@[simp] def e44_14 : X := (Q e44_8 (.b true) e44_13)
@[simp] def e44_15 : X := (Q e44_11 (.b false) (.b true))
@[simp] def e44_16 : X := (Q e44_8 (.b false) e44_15)
def B4400 : Te LEnd := .ite (LT (.v 0) (LN (.v 2))) (
 .need e44_0 (
 .ite e44_7 (
 .ok (.out 1 [])) (
 .ok (.again [(AD (.v 0) (I (1))), (.v 1), (.v 2)])))) (
 .ok (.out 2 []))
def d4400 : LoopD := ⟨4, ⟨4400, 3, (J 1 ((.ptr 0 0 0) :: (J 1 ((Si 0) :: (J 39 []))))), ⟨⟨2, [(0, .cells 2 [[(Si 1), (S4 2)]])], [[]], none⟩, [], []⟩,
 [(.ret, 0, (J 2 ((.bool false) :: (J 40 []))), ⟨⟨3, [], [[]], none⟩, [], []⟩),
  (.exit 0, 0, (J 43 []), ⟨⟨2, [], [[]], none⟩, [], []⟩)], [(1, []), (2, [])]⟩, B4400⟩
@[simp] theorem d4400_id : d4400.L.id = 4400 := rfl
@[simp] theorem d4400_B : d4400.B = B4400 := rfl
def i44 : Inst := ⟨44, 0, [(.agg [(Si 0), (S4 1)])], [.one .bool]⟩
def s44 : List Cal := []
@[simp] def l44 : List LoopD := [d4400]
def t44 : Te AV := .need e44_14 (
 .ok (.sym .bool e44_16))
def F44 : List AV → Option AV := unitF (omL KK s44 l44) t44
def c44 : Cal := ⟨i44, F44⟩
theorem x44 : XO i44 F44 := XU (cs := s44) (ds := l44) (t := t44) trivial (x := g44) (by kernel_rfl) (by kernel_rfl) (by kernel_rfl)
end Go.Proofs.YtdeaibcebeofiaaGreatDoor.C5

namespace Go.Proofs.YtdeaibcebeofiaaGreatDoor.C5
open Go Go.Proofs.YtdeaibcebeofiaaGreatDoor.AM Go.Proofs
set_option maxRecDepth 100000
@[simp] def e41_0 : X := (Q (LE (I (0)) (.v 0)) (LT (.v 0) (LN (.v 12))) (.b false))
@[simp] def e41_1 : X := (.sl 4 [[(C 0 (.v 12) (.v 0)), (C 1 (.v 12) (.v 0)), (C 2 (.v 12) (.v 0)), (C 3 (.v 12) (.v 0))]])
@[simp] def e41_2 : X := (.p (.app 4) [(.v 10), e41_1])
@[simp] def e41_3 : X := (LN e41_2)
@[simp] def e41_4 : X := (LE e41_3 (I (1073741824)))
@[simp] def e41_5 : X := (.p (.call 100000 4100) [(I (0)), (.v 0), (.v 1), (.v 2), (.v 3), (.v 4), (.v 5), (.v 6), (.v 7), (.v 8), .nils, (.v 10), (.v 9)])
@[simp] def e41_6 : X := (PJ 0 e41_5)
@[simp] def e41_7 : X := (EQ e41_6 (I (1)))
@[simp] def e41_8 : X := (PJ 10 e41_5)
def B4100 : Te LEnd := .ite (LT (.v 0) (LN (.v 12))) (
 .need e41_0 (
 .need e41_4 (
 .ok (.again [(AD (.v 0) (I (1))), (.v 1), (.v 2), (.v 3), (.v 4), (.v 5), (.v 6), (.v 7), (.v 8), (.v 9), e41_2, (.v 11), (.v 12)])))) (
 .ok (.out 1 [(.v 1), (.v 2), (.v 3), (.v 4), (.v 5), (.v 6), (.v 7), (.v 8), (.v 9), (.v 10), (.v 11)]))
def d4100 : LoopD := ⟨3, ⟨4100, 13, (J 1 ((.ptr 0 0 0) :: ((.ptr 1 0 0) :: ((.ptr 2 0 0) :: ((Si 0) :: (J 39 [])))))), ⟨⟨5, [(2, .cells 11 [[(Ss 1), (Ss 2), (Si 3), (Si 4), (Si 5), (Si 6), (Sb 7), (Sb 8), (Sb 9), (.sym (.own 3 [(.int .i64), (.int .i64), (.int .i64), .bool]) (.v 10)), (S2 11)]]), (1, .cells 11 [[(.str w3), (.str w3), (.int .i64 (0)), (.int .i64 (0)), (.int .i64 (0)), (.int .i64 (0)), (.bool false), (.bool false), (.bool false), .nils, .nils]]), (0, .cells 11 [[(Ss 1), (Ss 2), (Si 3), (Si 4), (Si 5), (Si 6), (Sb 7), (Sb 8), (Sb 9), (S3 12), (S2 11)]])], [[]], none⟩, [(3, .rows [(.int .i64), (.int .i64), (.int .i64), .bool] (.v 10))], []⟩,
 [(.exit 0, 11, (J 2 ((.ptr 1 0 0) :: ((.ptr 2 0 0) :: (J 40 [])))), ⟨⟨5, [(2, .cells 11 [[(Ss 0), (Ss 1), (Si 2), (Si 3), (Si 4), (Si 5), (Sb 6), (Sb 7), (Sb 8), (.sym (.own 3 [(.int .i64), (.int .i64), (.int .i64), .bool]) (.v 9)), (S2 10)]]), (1, .cells 11 [[(.str w3), (.str w3), (.int .i64 (0)), (.int .i64 (0)), (.int .i64 (0)), (.int .i64 (0)), (.bool false), (.bool false), (.bool false), .nils, .nils]])], [[]], none⟩, [(3, .rows [(.int .i64), (.int .i64), (.int .i64), .bool] (.v 9))], []⟩)], [(1, [(0, 1), (1, 2), (2, 3), (3, 4), (4, 5), (5, 6), (6, 7), (7, 8), (8, 9), (10, 11)])]⟩, B4100⟩
@[simp] theorem d4100_id : d4100.L.id = 4100 := rfl
@[simp] theorem d4100_B : d4100.B = B4100 := rfl
def i41 : Inst := ⟨41, 0, [(.agg [(Ss 0), (Ss 1), (Si 2), (Si 3), (Si 4), (Si 5), (Sb 6), (Sb 7), (Sb 8), (S3 9), (S2 10)])], [.agg [.str, .str, (.int .i64), (.int .i64), (.int .i64), (.int .i64), .bool, .bool, .bool, (.sl [(.int .i64), (.int .i64), (.int .i64), .bool]), (.sl [(.int .i64)])]]⟩
def s41 : List Cal := []
@[simp] def l41 : List LoopD := [d4100]
def t41 : Te AV := .need e41_7 (
 .ok (.agg [(.sym .str (.v 0)), (.sym .str (.v 1)), (.sym (.int .i64) (.v 2)), (.sym (.int .i64) (.v 3)), (.sym (.int .i64) (.v 4)), (.sym (.int .i64) (.v 5)), (.sym .bool (.v 6)), (.sym .bool (.v 7)), (.sym .bool (.v 8)), (.sym (.sl [(.int .i64), (.int .i64), (.int .i64), .bool]) e41_8), (.sym (.sl [(.int .i64)]) (.v 10))]))
def F41 : List AV → Option AV := unitF (omL KK s41 l41) t41
def c41 : Cal := ⟨i41, F41⟩
theorem x41 : XO i41 F41 := XU (cs := s41) (ds := l41) (t := t41) trivial (x := g41) (by kernel_rfl) (by kernel_rfl) (by kernel_rfl)
@[simp] def e43_0 : X := (Q (LE (I (0)) (.v 0)) (LT (.v 0) (LN (.v 3))) (.b false))
@[simp] def e43_1 : X := (.p (.call 41 0) [(C 0 (.v 3) (.v 0)), (C 1 (.v 3) (.v 0)), (C 2 (.v 3) (.v 0)), (C 3 (.v 3) (.v 0)), (C 4 (.v 3) (.v 0)), (C 5 (.v 3) (.v 0)), (C 6 (.v 3) (.v 0)), (C 7 (.v 3) (.v 0)), (C 8 (.v 3) (.v 0)), (C 9 (.v 3) (.v 0)), (C 10 (.v 3) (.v 0))])
@[simp] def e43_2 : X := (.p (.okr [.agg [.str, .str, (.int .i64), (.int .i64), (.int .i64), (.int .i64), .bool, .bool, .bool, (.sl [(.int .i64), (.int .i64), (.int .i64), .bool]), (.sl [(.int .i64)])]]) [e43_1])
@[simp] def e43_3 : X := (.p (.fld 0) [e43_1])
@[simp] def e43_4 : X := (.p (.fld 1) [e43_1])
@[simp] def e43_5 : X := (.p (.fld 2) [e43_1])
@[simp] def e43_6 : X := (.p (.fld 3) [e43_1])
@[simp] def e43_7 : X := (.p (.fld 4) [e43_1])
@[simp] def e43_8 : X := (.p (.fld 5) [e43_1])
@[simp] def e43_9 : X := (.p (.fld 6) [e43_1])
@[simp] def e43_10 : X := (.p (.fld 7) [e43_1])
@[simp] def e43_11 : X := (.p (.fld 8) [e43_1])
@[simp] def e43_12 : X := (.p (.fld 9) [e43_1])
@[simp] def e43_13 : X := (.p (.fld 10) [e43_1])
@[simp] def e43_14 : X := (.sl 11 [[e43_3, e43_4, e43_5, e43_6, e43_7, e43_8, e43_9, e43_10, e43_11, e43_12, e43_13]])
@[simp] def e43_15 : X := (.p (.app 11) [(.v 2), e43_14])
@[simp] def e43_16 : X := (LN e43_15)
@[simp] def e43_17 : X := (LE e43_16 (I (1073741824)))
@[simp] def e43_18 : X := (.p (.call 100000 4300) [(I (0)), (.v 0), .nils, (.v 1)])
@[simp] def e43_19 : X := (PJ 0 e43_18)
@[simp] def e43_20 : X := (EQ e43_19 (I (1)))
@[simp] def e43_21 : X := (PJ 2 e43_18)
def B4300 : Te LEnd := .ite (LT (.v 0) (LN (.v 3))) (
 .need e43_0 (
 .need e43_2 (
 .need e43_17 (
 .ok (.again [(AD (.v 0) (I (1))), (.v 1), e43_15, (.v 3)]))))) (
 .ok (.out 1 [(.v 1), (.v 2)]))
def d4300 : LoopD := ⟨3, ⟨4300, 4, (J 1 ((.ptr 0 0 0) :: ((.ptr 1 0 0) :: ((.ptr 2 0 0) :: ((Si 0) :: (J 22 [])))))), ⟨⟨5, [(2, .cells 2 [[(Si 1), (.sym (.own 3 [.str, .str, (.int .i64), (.int .i64), (.int .i64), (.int .i64), .bool, .bool, .bool, (.sl [(.int .i64), (.int .i64), (.int .i64), .bool]), (.sl [(.int .i64)])]) (.v 2))]]), (1, .cells 2 [[(.int .i64 (0)), .nils]]), (0, .cells 2 [[(Si 1), (S4 3)]])], [[]], none⟩, [(3, .rows [.str, .str, (.int .i64), (.int .i64), (.int .i64), (.int .i64), .bool, .bool, .bool, (.sl [(.int .i64), (.int .i64), (.int .i64), .bool]), (.sl [(.int .i64)])] (.v 2))], []⟩,
 [(.exit 0, 2, (J 2 ((.ptr 1 0 0) :: ((.ptr 2 0 0) :: (J 23 [])))), ⟨⟨5, [(2, .cells 2 [[(Si 0), (.sym (.own 3 [.str, .str, (.int .i64), (.int .i64), (.int .i64), (.int .i64), .bool, .bool, .bool, (.sl [(.int .i64), (.int .i64), (.int .i64), .bool]), (.sl [(.int .i64)])]) (.v 1))]]), (1, .cells 2 [[(.int .i64 (0)), .nils]])], [[]], none⟩, [(3, .rows [.str, .str, (.int .i64), (.int .i64), (.int .i64), (.int .i64), .bool, .bool, .bool, (.sl [(.int .i64), (.int .i64), (.int .i64), .bool]), (.sl [(.int .i64)])] (.v 1))], []⟩)], [(1, [(0, 1)])]⟩, B4300⟩
@[simp] theorem d4300_id : d4300.L.id = 4300 := rfl
@[simp] theorem d4300_B : d4300.B = B4300 := rfl
def i43 : Inst := ⟨43, 0, [(.agg [(Si 0), (S4 1)])], [.agg [(.int .i64), (.sl [.str, .str, (.int .i64), (.int .i64), (.int .i64), (.int .i64), .bool, .bool, .bool, (.sl [(.int .i64), (.int .i64), (.int .i64), .bool]), (.sl [(.int .i64)])])]]⟩
def s43 : List Cal := [c41]
@[simp] theorem o43_41 : OE s43 41 F41 := oG rfl
@[simp] def l43 : List LoopD := [d4300]
def t43 : Te AV := .need e43_20 (
 .ok (.agg [(.sym (.int .i64) (.v 0)), (.sym (.sl [.str, .str, (.int .i64), (.int .i64), (.int .i64), (.int .i64), .bool, .bool, .bool, (.sl [(.int .i64), (.int .i64), (.int .i64), .bool]), (.sl [(.int .i64)])]) e43_21)]))
def F43 : List AV → Option AV := unitF (omL KK s43 l43) t43
def c43 : Cal := ⟨i43, F43⟩
theorem x43 : XO i43 F43 := XU (cs := s43) (ds := l43) (t := t43) ⟨x41, trivial⟩ (x := g43) (by kernel_rfl) (by kernel_rfl) (by kernel_rfl)
@[simp] def e42_0 : X := (Q (LE (I (0)) (.v 0)) (LT (.v 0) (LN (.v 21))) (.b false))
@[simp] def e42_1 : X := (Q (LE (I (0)) (.v 0)) (LT (.v 0) (LN (.v 10))) (.b false))
@[simp] def e42_2 : X := (EQ (C 0 (.v 21) (.v 0)) (C 0 (.v 10) (.v 0)))
@[simp] def e42_3 : X := (EQ (C 1 (.v 21) (.v 0)) (C 1 (.v 10) (.v 0)))
@[simp] def e42_4 : X := (EQ (C 2 (.v 21) (.v 0)) (C 2 (.v 10) (.v 0)))
@[simp] def e42_5 : X := (.p .beq [(C 3 (.v 21) (.v 0)), (C 3 (.v 10) (.v 0))])
@[simp] def e42_6 : X := (Q e42_4 e42_5 (.b false))
@[simp] def e42_7 : X := (Q e42_3 e42_6 (.b false))
@[simp] def e42_8 : X := (Q e42_2 e42_7 (.b false))
@[simp] def e42_9 : X := (.p .not [e42_8])
@[simp] def e42_10 : X := (.p (.bin .neq .i64) [(LN (.v 9)), (LN (.v 20))])
@[simp] def e42_11 : X := (Q (.p .not [(.p .beq [(.v 8), (.v 19)])]) (.b true) e42_10)
@[simp] def e42_12 : X := (Q (.p .not [(.p .beq [(.v 7), (.v 18)])]) (.b true) e42_11)
@[simp] def e42_13 : X := (Q (.p .not [(.p .beq [(.v 6), (.v 17)])]) (.b true) e42_12)
@[simp] def e42_14 : X := (Q (.p (.bin .neq .i64) [(.v 5), (.v 16)]) (.b true) e42_13)
@[simp] def e42_15 : X := (Q (.p (.bin .neq .i64) [(.v 4), (.v 15)]) (.b true) e42_14)
@[simp] def e42_16 : X := (Q (.p (.bin .neq .i64) [(.v 3), (.v 14)]) (.b true) e42_15)
@[simp] def e42_17 : X := (Q (.p (.bin .neq .i64) [(.v 2), (.v 13)]) (.b true) e42_16)
@[simp] def e42_18 : X := (Q (.p (.sbin .neq) [(.v 1), (.v 12)]) (.b true) e42_17)
@[simp] def e42_19 : X := (Q (.p (.sbin .neq) [(.v 0), (.v 11)]) (.b true) e42_18)
@[simp] def e42_20 : X := (.p (.call 100000 4200) [(I (0)), (.v 11), (.v 12), (.v 13), (.v 14), (.v 15), (.v 16), (.v 17), (.v 18), (.v 19), (.v 20), (.v 21), (.v 0), (.v 1), (.v 2), (.v 3), (.v 4), (.v 5), (.v 6), (.v 7), (.v 8), (.v 9), (.v 10)])
@[simp] def e42_21 : X := (PJ 0 e42_20)
@[simp] def e42_22 : X := (EQ e42_21 (I (1)))
@[simp] def e42_23 : X := (EQ e42_21 (I (2)))
@[simp] def e42_24 : X := (Q e42_22 (.b true) e42_23)
@[simp] def e42_25 : X := (Q e42_19 (.b true) e42_24)
@[simp] def e42_26 : X := (.p (.okr [.one .bool]) [(.p (.call 75 0) [(.v 10), (.v 21)])])
@[simp] def e42_27 : X := (Q e42_22 (.b true) e42_26)
@[simp] def e42_28 : X := (Q e42_19 (.b true) e42_27)
@[simp] def e42_29 : X := (Q e42_22 (.b false) (.p (.call 75 0) [(.v 10), (.v 21)]))
@[simp] def e42_30 : X := (Q e42_19 (.b false) e42_29)
def B4200 : Te LEnd := .ite (LT (.v 0) (LN (.v 21))) (
 .need e42_0 (
 .need e42_1 (
 .ite e42_9 (
 .ok (.out 1 [])) (
 .ok (.again [(AD (.v 0) (I (1))), (.v 1), (.v 2), (.v 3), (.v 4), (.v 5), (.v 6), (.v 7), (.v 8), (.v 9), (.v 10), (.v 11), (.v 12), (.v 13), (.v 14), (.v 15), (.v 16), (.v 17), (.v 18), (.v 19), (.v 20), (.v 21), (.v 22)]))))) (
 .ok (.out 2 [(.v 1), (.v 2), (.v 3), (.v 4), (.v 5), (.v 6), (.v 7), (.v 8), (.v 9), (.v 10), (.v 11), (.v 12), (.v 13), (.v 14), (.v 15), (.v 16), (.v 17), (.v 18), (.v 19), (.v 20), (.v 21), (.v 22)]))
def d4200 : LoopD := ⟨4, ⟨4200, 23, (J 2 ((.ptr 0 0 0) :: ((.ptr 1 0 0) :: (J 1 ((Si 0) :: (J 93 [])))))), ⟨⟨2, [(1, .cells 11 [[(Ss 1), (Ss 2), (Si 3), (Si 4), (Si 5), (Si 6), (Sb 7), (Sb 8), (Sb 9), (S3 10), (S2 11)]]), (0, .cells 11 [[(Ss 12), (Ss 13), (Si 14), (Si 15), (Si 16), (Si 17), (Sb 18), (Sb 19), (Sb 20), (S3 21), (S2 22)]])], [[]], none⟩, [], []⟩,
 [(.ret, 0, (J 4 ((.bool false) :: (J 94 []))), ⟨⟨2, [], [[]], none⟩, [], []⟩),
  (.exit 0, 22, (J 2 ((.ptr 0 0 0) :: ((.ptr 1 0 0) :: (J 95 [])))), ⟨⟨2, [(1, .cells 11 [[(Ss 0), (Ss 1), (Si 2), (Si 3), (Si 4), (Si 5), (Sb 6), (Sb 7), (Sb 8), (S3 9), (S2 10)]]), (0, .cells 11 [[(Ss 11), (Ss 12), (Si 13), (Si 14), (Si 15), (Si 16), (Sb 17), (Sb 18), (Sb 19), (S3 20), (S2 21)]])], [[]], none⟩, [], []⟩)], [(1, []), (2, [(0, 1), (1, 2), (2, 3), (3, 4), (4, 5), (5, 6), (6, 7), (7, 8), (8, 9), (9, 10), (10, 11), (11, 12), (12, 13), (13, 14), (14, 15), (15, 16), (16, 17), (17, 18), (18, 19), (19, 20), (20, 21), (21, 22)])]⟩, B4200⟩
@[simp] theorem d4200_id : d4200.L.id = 4200 := rfl
@[simp] theorem d4200_B : d4200.B = B4200 := rfl
def i42 : Inst := ⟨42, 0, [(.agg [(Ss 0), (Ss 1), (Si 2), (Si 3), (Si 4), (Si 5), (Sb 6), (Sb 7), (Sb 8), (S3 9), (S2 10)]), (.agg [(Ss 11), (Ss 12), (Si 13), (Si 14), (Si 15), (Si 16), (Sb 17), (Sb 18), (Sb 19), (S3 20), (S2 21)])], [.one .bool]⟩
def s42 : List Cal := [c75]
@[simp] theorem o42_75 : OE s42 75 F75 := oG rfl
@[simp] def l42 : List LoopD := [d4200]
def t42 : Te AV := .need e42_25 (
 .need e42_28 (
 .ok (.sym .bool e42_30)))
def F42 : List AV → Option AV := unitF (omL KK s42 l42) t42
def c42 : Cal := ⟨i42, F42⟩
theorem x42 : XO i42 F42 := XU (cs := s42) (ds := l42) (t := t42) ⟨x75, trivial⟩ (x := g42) (by kernel_rfl) (by kernel_rfl) (by kernel_rfl)
@[simp] def e65_0 : X := (Q (LE (I (0)) (.v 0)) (LT (.v 0) (LN (.v 4))) (.b false))
@[simp] def e65_1 : X := (Q (LE (I (0)) (.v 0)) (LT (.v 0) (LN (.v 2))) (.b false))
@[simp] def e65_2 : X := (.p (.call 42 0) [(C 0 (.v 4) (.v 0)), (C 1 (.v 4) (.v 0)), (C 2 (.v 4) (.v 0)), (C 3 (.v 4) (.v 0)), (C 4 (.v 4) (.v 0)), (C 5 (.v 4) (.v 0)), (C 6 (.v 4) (.v 0)), (C 7 (.v 4) (.v 0)), (C 8 (.v 4) (.v 0)), (C 9 (.v 4) (.v 0)), (C 10 (.v 4) (.v 0)), (C 0 (.v 2) (.v 0)), (C 1 (.v 2) (.v 0)), (C 2 (.v 2) (.v 0)), (C 3 (.v 2) (.v 0)), (C 4 (.v 2) (.v 0)), (C 5 (.v 2) (.v 0)), (C 6 (.v 2) (.v 0)), (C 7 (.v 2) (.v 0)), (C 8 (.v 2) (.v 0)), (C 9 (.v 2) (.v 0)), (C 10 (.v 2) (.v 0))])
@[simp] def e65_3 : X := (.p (.okr [.one .bool]) [e65_2])
@[simp] def e65_4 : X := (.p .not [e65_2])
@[simp] def e65_5 : X := (.p (.bin .neq .i64) [(LN (.v 1)), (LN (.v 3))])
@[simp] def e65_6 : X := (Q (.p (.bin .neq .i64) [(.v 0), (.v 2)]) (.b true) e65_5)
@[simp] def e65_7 : X := (.p (.call 100000 6500) [(I (0)), (.v 2), (.v 3), (.v 0), (.v 1)])
@[simp] def e65_8 : X := (PJ 0 e65_7)
@[simp] def e65_9 : X := (EQ e65_8 (I (1)))
@[simp] def e65_10 : X := (EQ e65_8 (I (2)))
@[simp] def e65_11 : X := (Q e65_9 (.b true) e65_10)
@[simp] def e65_12 : X := (Q e65_6 (.b true) e65_11)
@[simp] def e65_13 : X := (Q e65_9 (.b false) (.b true))
@[simp] def e65_14 : X := (Q e65_6 (.b false) e65_13)
def B6500 : Te LEnd := .ite (LT (.v 0) (LN (.v 4))) (
 .need e65_0 (
 .need e65_1 (
 .need e65_3 (
 .ite e65_4 (
 .ok (.out 1 [])) (
 .ok (.again [(AD (.v 0) (I (1))), (.v 1), (.v 2), (.v 3), (.v 4)])))))) (
 .ok (.out 2 []))
def d6500 : LoopD := ⟨4, ⟨6500, 5, (J 2 ((.ptr 0 0 0) :: ((.ptr 1 0 0) :: (J 1 ((Si 0) :: (J 33 [])))))), ⟨⟨2, [(1, .cells 2 [[(Si 1), (S4 2)]]), (0, .cells 2 [[(Si 3), (S4 4)]])], [[]], none⟩, [], []⟩,
 [(.ret, 0, (J 4 ((.bool false) :: (J 34 []))), ⟨⟨2, [], [[]], none⟩, [], []⟩),
  (.exit 0, 0, (J 39 []), ⟨⟨2, [], [[]], none⟩, [], []⟩)], [(1, []), (2, [])]⟩, B6500⟩
@[simp] theorem d6500_id : d6500.L.id = 6500 := rfl
@[simp] theorem d6500_B : d6500.B = B6500 := rfl
def i65 : Inst := ⟨65, 0, [(.agg [(Si 0), (S4 1)]), (.agg [(Si 2), (S4 3)])], [.one .bool]⟩
def s65 : List Cal := [c42]
@[simp] theorem o65_42 : OE s65 42 F42 := oG rfl
@[simp] def l65 : List LoopD := [d6500]
def t65 : Te AV := .need e65_12 (
 .ok (.sym .bool e65_14))
def F65 : List AV → Option AV := unitF (omL KK s65 l65) t65
def c65 : Cal := ⟨i65, F65⟩
theorem x65 : XO i65 F65 := XU (cs := s65) (ds := l65) (t := t65) ⟨x42, trivial⟩ (x := g65) (by kernel_rfl) (by kernel_rfl) (by kernel_rfl)
@[simp] def e22_0 : X := (.p (.okr [.agg [(.int .i64), (.sl [.str, .str, (.int .i64), (.int .i64), (.int .i64), (.int .i64), .bool, .bool, .bool, (.sl [(.int .i64), (.int .i64), (.int .i64), .bool]), (.sl [(.int .i64)])])]]) [(.p (.call 43 0) [(.v 0), (.v 1)])])
@[simp] def e22_1 : X := (Q (EQ (.v 2) (I (0))) e22_0 (.b true))
@[simp] def e22_2 : X := (Q (.p (.bin .neq .i64) [(.v 3), (I (0))]) (.b true) e22_1)
@[simp] def e22_3 : X := (.p (.fld 0) [(.p (.call 43 0) [(.v 0), (.v 1)])])
@[simp] def e22_4 : X := (.p (.fld 1) [(.p (.call 43 0) [(.v 0), (.v 1)])])
@[simp] def e22_5 : X := (.p (.call 65 0) [e22_3, e22_4, (.v 4), (.v 5)])
@[simp] def e22_6 : X := (.p (.okr [.one .bool]) [e22_5])
@[simp] def e22_7 : X := (Q (EQ (.v 2) (I (0))) e22_6 (.b true))
@[simp] def e22_8 : X := (Q (.p (.bin .neq .i64) [(.v 3), (I (0))]) (.b true) e22_7)
@[simp] def e22_9 : X := (Q (EQ (LN (.v 1)) (I (0))) (EQ (.v 2) (.v 3)) (.b false))
@[simp] def e22_10 : X := (Q (EQ (.v 0) (I (0))) e22_9 (.b false))
@[simp] def e22_11 : X := (Q (EQ (.v 2) (I (0))) e22_5 (.b false))
@[simp] def e22_12 : X := (Q (.p (.bin .neq .i64) [(.v 3), (I (0))]) e22_10 e22_11)
def i22 : Inst := ⟨22, 0, [(.agg [(Si 0), (S4 1)]), (Si 2), (Si 3), (.agg [(Si 4), (S4 5)])], [.one .bool]⟩
def s22 : List Cal := [c43, c65]
@[simp] theorem o22_43 : OE s22 43 F43 := oG rfl
@[simp] theorem o22_65 : OE s22 65 F65 := oG rfl
@[simp] def l22 : List LoopD := []
def t22 : Te AV := .need e22_2 (
 .need e22_8 (
 .ok (.sym .bool e22_12)))
def F22 : List AV → Option AV := unitF (omL KK s22 l22) t22
def c22 : Cal := ⟨i22, F22⟩
theorem x22 : XO i22 F22 := XU (cs := s22) (ds := l22) (t := t22) ⟨x43, x65, trivial⟩ (x := g22) (by kernel_rfl) (by kernel_rfl) (by kernel_rfl)
@[simp] def e122_0 : X := (Q (.p (.sbin .eql) [(.v 3), (.s w1)]) (LE (I (0)) (.v 5)) (.b true))
@[simp] def e122_1 : X := (Q (.p (.sbin .eql) [(.v 3), (.s w1)]) (LE (.v 5) (I (1073741824))) (.b true))
@[simp] def e122_2 : X := (.p (.rep 4) [(.v 5), (I (0)), (I (0)), (I (0)), (.b false)])
@[simp] def e122_3 : X := (Q (.p (.sbin .eql) [(.v 3), (.s w1)]) e122_2 .nils)
@[simp] def e122_4 : X := (.sl 11 [[(.s w18), (.s w3), (I (0)), (I (0)), (I (0)), (I (0)), (.b false), (.b false), (.b false), e122_3, .nils]])
@[simp] def e122_5 : X := (.p (.app 11) [(.v 2), e122_4])
@[simp] def e122_6 : X := (LN e122_5)
@[simp] def e122_7 : X := (LE e122_6 (I (1073741824)))
@[simp] def e122_8 : X := (.p (.call 100000 12200) [(LN (.v 1)), (I (0)), .nils, (.v 0), (.v 1), (.v 2), (.v 3)])
@[simp] def e122_9 : X := (PJ 0 e122_8)
@[simp] def e122_10 : X := (EQ e122_9 (I (1)))
@[simp] def e122_11 : X := (PJ 1 e122_8)
def B12200 : Te LEnd := .ite (LT (.v 1) (.v 0)) (
 .need e122_0 (
 .need e122_1 (
 .need e122_7 (
 .ok (.again [(.v 0), (AD (.v 1) (I (1))), e122_5, (.v 3), (.v 4), (.v 5), (.v 6)]))))) (
 .ok (.out 1 [(.v 2)]))
def d12200 : LoopD := ⟨3, ⟨12200, 7, (J 1 ((.ptr 0 0 0) :: ((.ptr 1 0 0) :: ((.ptr 2 0 0) :: (J 3 ((Si 0) :: ((Si 1) :: (J 17 [])))))))), ⟨⟨6, [(2, .cells 2 [[(.int .i64 (0)), (.sym (.own 3 [.str, .str, (.int .i64), (.int .i64), (.int .i64), (.int .i64), .bool, .bool, .bool, (.sl [(.int .i64), (.int .i64), (.int .i64), .bool]), (.sl [(.int .i64)])]) (.v 2))]]), (1, .cells 2 [[(.int .i64 (0)), .nils]]), (0, .cells 4 [[(Ss 3), (S1 4), (Si 5), (Si 6)]])], [[]], none⟩, [(3, .rows [.str, .str, (.int .i64), (.int .i64), (.int .i64), (.int .i64), .bool, .bool, .bool, (.sl [(.int .i64), (.int .i64), (.int .i64), .bool]), (.sl [(.int .i64)])] (.v 2))], []⟩,
 [(.exit 0, 1, (J 2 ((.ptr 1 0 0) :: ((.ptr 2 0 0) :: (J 22 [])))), ⟨⟨6, [(2, .cells 2 [[(.int .i64 (0)), (.sym (.own 3 [.str, .str, (.int .i64), (.int .i64), (.int .i64), (.int .i64), .bool, .bool, .bool, (.sl [(.int .i64), (.int .i64), (.int .i64), .bool]), (.sl [(.int .i64)])]) (.v 0))]]), (1, .cells 2 [[(.int .i64 (0)), .nils]])], [[]], none⟩, [(3, .rows [.str, .str, (.int .i64), (.int .i64), (.int .i64), (.int .i64), .bool, .bool, .bool, (.sl [(.int .i64), (.int .i64), (.int .i64), .bool]), (.sl [(.int .i64)])] (.v 0))], []⟩)], [(1, [])]⟩, B12200⟩
@[simp] theorem d12200_id : d12200.L.id = 12200 := rfl
@[simp] theorem d12200_B : d12200.B = B12200 := rfl
def i122 : Inst := ⟨122, 0, [(.agg [(Ss 0), (S1 1), (Si 2), (Si 3)])], [.agg [(.int .i64), (.sl [.str, .str, (.int .i64), (.int .i64), (.int .i64), (.int .i64), .bool, .bool, .bool, (.sl [(.int .i64), (.int .i64), (.int .i64), .bool]), (.sl [(.int .i64)])])]]⟩
def s122 : List Cal := []
@[simp] def l122 : List LoopD := [d12200]
def t122 : Te AV := .need e122_10 (
 .ok (.agg [(.int .i64 (0)), (.sym (.sl [.str, .str, (.int .i64), (.int .i64), (.int .i64), (.int .i64), .bool, .bool, .bool, (.sl [(.int .i64), (.int .i64), (.int .i64), .bool]), (.sl [(.int .i64)])]) e122_11)]))
def F122 : List AV → Option AV := unitF (omL KK s122 l122) t122
def c122 : Cal := ⟨i122, F122⟩
theorem x122 : XO i122 F122 := XU (cs := s122) (ds := l122) (t := t122) trivial (x := g122) (by kernel_rfl) (by kernel_rfl) (by kernel_rfl)
@[simp] def e63_0 : X := (.p (.call 58 0) [(.v 0), (.v 1), (.v 2), (.v 3)])
@[simp] def e63_1 : X := (.p (.okr [.one (.int .i64)]) [e63_0])
@[simp] def e63_2 : X := (.p (.bin .neq .i64) [e63_0, (I (0))])
@[simp] def e63_3 : X := (.p (.call 122 0) [(.v 0), (.v 1), (.v 2), (.v 3)])
@[simp] def e63_4 : X := (.p (.okr [.agg [(.int .i64), (.sl [.str, .str, (.int .i64), (.int .i64), (.int .i64), (.int .i64), .bool, .bool, .bool, (.sl [(.int .i64), (.int .i64), (.int .i64), .bool]), (.sl [(.int .i64)])])]]) [e63_3])
@[simp] def e63_5 : X := (Q e63_2 (.b true) e63_4)
@[simp] def e63_6 : X := (.p (.fld 0) [e63_3])
@[simp] def e63_7 : X := (Q e63_2 (I (0)) e63_6)
@[simp] def e63_8 : X := (.p (.fld 1) [e63_3])
@[simp] def e63_9 : X := (Q e63_2 .nils e63_8)
@[simp] def e63_10 : X := (Q e63_2 e63_0 (I (0)))
def i63 : Inst := ⟨63, 0, [(.agg [(Ss 0), (S1 1), (Si 2), (Si 3)])], [.agg [(.int .i64), (.sl [.str, .str, (.int .i64), (.int .i64), (.int .i64), (.int .i64), .bool, .bool, .bool, (.sl [(.int .i64), (.int .i64), (.int .i64), .bool]), (.sl [(.int .i64)])])], .one (.int .i64)]⟩
def s63 : List Cal := [c58, c122]
@[simp] theorem o63_58 : OE s63 58 F58 := oG rfl
@[simp] theorem o63_122 : OE s63 122 F122 := oG rfl
@[simp] def l63 : List LoopD := []
def t63 : Te AV := .need e63_1 (
 .need e63_5 (
 .ok (.tuple [(.agg [(.sym (.int .i64) e63_7), (.sym (.sl [.str, .str, (.int .i64), (.int .i64), (.int .i64), (.int .i64), .bool, .bool, .bool, (.sl [(.int .i64), (.int .i64), (.int .i64), .bool]), (.sl [(.int .i64)])]) e63_9)]), (.sym (.int .i64) e63_10)])))
def F63 : List AV → Option AV := unitF (omL KK s63 l63) t63
def c63 : Cal := ⟨i63, F63⟩
theorem x63 : XO i63 F63 := XU (cs := s63) (ds := l63) (t := t63) ⟨x58, x122, trivial⟩ (x := g63) (by kernel_rfl) (by kernel_rfl) (by kernel_rfl)
@[simp] def e64_0 : X := (Q (.p (.sbin .eql) [(.v 2), (.s w1)]) (LE (I (0)) (.v 4)) (.b true))
@[simp] def e64_1 : X := (Q (.p (.sbin .eql) [(.v 2), (.s w1)]) (LE (.v 4) (I (1073741824))) (.b true))
@[simp] def e64_2 : X := (.p (.rep 4) [(.v 4), (I (0)), (I (0)), (I (0)), (.b false)])
@[simp] def e64_3 : X := (Q (.p (.sbin .eql) [(.v 2), (.s w1)]) e64_2 .nils)
@[simp] def e64_4 : X := (.sl 11 [[(.s w18), (.s w3), (I (0)), (I (0)), (I (0)), (I (0)), (.b false), (.b false), (.b false), e64_3, .nils]])
@[simp] def e64_5 : X := (.p (.app 11) [(.v 1), e64_4])
@[simp] def e64_6 : X := (LN e64_5)
@[simp] def e64_7 : X := (LE e64_6 (I (1073741824)))
@[simp] def e64_8 : X := (.p (.call 100000 6400) [(I (0)), .nils, (.v 0), (.v 1), (.v 2), (.v 3)])
@[simp] def e64_9 : X := (PJ 0 e64_8)
@[simp] def e64_10 : X := (EQ e64_9 (I (1)))
@[simp] def e64_11 : X := (PJ 1 e64_8)
def B6400 : Te LEnd := .ite (LT (.v 0) (LN (.v 3))) (
 .need e64_0 (
 .need e64_1 (
 .need e64_7 (
 .ok (.again [(AD (.v 0) (I (1))), e64_5, (.v 2), (.v 3), (.v 4), (.v 5)]))))) (
 .ok (.out 1 [(.v 1)]))
def d6400 : LoopD := ⟨3, ⟨6400, 6, (J 1 ((.ptr 0 0 0) :: ((.ptr 1 0 0) :: ((.ptr 2 0 0) :: ((Si 0) :: (J 23 [])))))), ⟨⟨6, [(2, .cells 2 [[(.int .i64 (0)), (.sym (.own 3 [.str, .str, (.int .i64), (.int .i64), (.int .i64), (.int .i64), .bool, .bool, .bool, (.sl [(.int .i64), (.int .i64), (.int .i64), .bool]), (.sl [(.int .i64)])]) (.v 1))]]), (1, .cells 2 [[(.int .i64 (0)), .nils]]), (0, .cells 4 [[(Ss 2), (S1 3), (Si 4), (Si 5)]])], [[]], none⟩, [(3, .rows [.str, .str, (.int .i64), (.int .i64), (.int .i64), (.int .i64), .bool, .bool, .bool, (.sl [(.int .i64), (.int .i64), (.int .i64), .bool]), (.sl [(.int .i64)])] (.v 1))], []⟩,
 [(.exit 0, 1, (J 2 ((.ptr 1 0 0) :: ((.ptr 2 0 0) :: (J 24 [])))), ⟨⟨6, [(2, .cells 2 [[(.int .i64 (0)), (.sym (.own 3 [.str, .str, (.int .i64), (.int .i64), (.int .i64), (.int .i64), .bool, .bool, .bool, (.sl [(.int .i64), (.int .i64), (.int .i64), .bool]), (.sl [(.int .i64)])]) (.v 0))]]), (1, .cells 2 [[(.int .i64 (0)), .nils]])], [[]], none⟩, [(3, .rows [.str, .str, (.int .i64), (.int .i64), (.int .i64), (.int .i64), .bool, .bool, .bool, (.sl [(.int .i64), (.int .i64), (.int .i64), .bool]), (.sl [(.int .i64)])] (.v 0))], []⟩)], [(1, [])]⟩, B6400⟩
@[simp] theorem d6400_id : d6400.L.id = 6400 := rfl
@[simp] theorem d6400_B : d6400.B = B6400 := rfl
def i64 : Inst := ⟨64, 0, [(.agg [(Ss 0), (S1 1), (Si 2), (Si 3)])], [.agg [(.int .i64), (.sl [.str, .str, (.int .i64), (.int .i64), (.int .i64), (.int .i64), .bool, .bool, .bool, (.sl [(.int .i64), (.int .i64), (.int .i64), .bool]), (.sl [(.int .i64)])])]]⟩
def s64 : List Cal := []
@[simp] def l64 : List LoopD := [d6400]
def t64 : Te AV := .need e64_10 (
 .ok (.agg [(.int .i64 (0)), (.sym (.sl [.str, .str, (.int .i64), (.int .i64), (.int .i64), (.int .i64), .bool, .bool, .bool, (.sl [(.int .i64), (.int .i64), (.int .i64), .bool]), (.sl [(.int .i64)])]) e64_11)]))
def F64 : List AV → Option AV := unitF (omL KK s64 l64) t64
def c64 : Cal := ⟨i64, F64⟩
theorem x64 : XO i64 F64 := XU (cs := s64) (ds := l64) (t := t64) trivial (x := g64) (by kernel_rfl) (by kernel_rfl) (by kernel_rfl)
end Go.Proofs.YtdeaibcebeofiaaGreatDoor.C5

namespace Go.Proofs.YtdeaibcebeofiaaGreatDoor.C5
open Go Go.Proofs.YtdeaibcebeofiaaGreatDoor.AM Go.Proofs
def i15 : Inst := ⟨15, 0, [], [.one .bool]⟩
def F15 : List AV → Option AV := fun _ => some (.bool true)
def c15 : Cal := ⟨i15, F15⟩
theorem x15 : ExtOk Tryz.prog 15 (extI i15 F15) := by
 have E : ExtOk Tryz.prog 15 (extTab [(a119, r119)]) := extOk_tab kn15 (fun e he => by
  simp only [List.mem_singleton] at he; subst he; exact row119)
 refine ⟨E.1, fun args r h B0 nx0 w ρ vargs H hrel hg hfl => E.2 args r h B0 nx0 w ρ vargs H hrel ?_ hfl⟩
 unfold extI at hg
 split at hg
 ·rename_i l hl
  split at hg
  ·cases ha : args.map (frz h 0 12) with
   | nil => rw [← hg]; rfl
   | cons x y => rw [ha] at hl; simp [i15, mtVs] at hl
  ·cases hg
 ·cases hg
end Go.Proofs.YtdeaibcebeofiaaGreatDoor.C5

namespace Go.Proofs.YtdeaibcebeofiaaGreatDoor.C5
open Go Go.Proofs.YtdeaibcebeofiaaGreatDoor.AM Go.Proofs
set_option maxRecDepth 100000
@[simp] def e10_0 : X := (Q (LT (.v 1) (LN (.v 0))) (LT (.v 1) (I (20))) (.b false))
@[simp] def e10_1 : X := (Q (LE (I (0)) (.v 1)) (LT (.v 1) (LN (.v 0))) (.b false))
@[simp] def e10_2 : X := (.p (.call 62 0) [(.v 4), (.v 5), (.v 6), (.v 7), (C 0 (.v 0) (.v 1)), (C 1 (.v 0) (.v 1)), (C 2 (.v 0) (.v 1)), (C 3 (.v 0) (.v 1))])
@[simp] def e10_3 : X := (.p (.okr [.one (.int .i64)]) [e10_2])
@[simp] def e10_4 : X := (.p (.call 54 0) [(.v 4), (.v 5), (.v 6), (.v 7), (C 0 (.v 0) (.v 1)), (C 1 (.v 0) (.v 1)), (C 2 (.v 0) (.v 1)), (C 3 (.v 0) (.v 1))])
@[simp] def e10_5 : X := (.p (.okr [.one (.int .i64)]) [e10_4])
@[simp] def e10_6 : X := (.p (.bin .neq .i64) [e10_2, e10_4])
@[simp] def e10_7 : X := (.p (.okr [.agg [(.int .i64), (.sl [.str, .str, (.int .i64), (.int .i64), (.int .i64), (.int .i64), .bool, .bool, .bool, (.sl [(.int .i64), (.int .i64), (.int .i64), .bool]), (.sl [(.int .i64)])])]]) [(.p (.call 43 0) [(.v 4), (.v 5)])])
@[simp] def e10_8 : X := (.p (.okr [.one .bool]) [(.p (.call 15 0) [])])
@[simp] def e10_9 : X := (.p (.call 16 0) [(.v 0), (.v 1), (.v 2), (.v 3)])
@[simp] def e10_10 : X := (.p (.okr [.one .bool]) [e10_9])
@[simp] def e10_11 : X := (Q (.p .not [(.p (.call 15 0) [])]) (.b true) e10_10)
@[simp] def e10_12 : X := (.p .not [e10_9])
@[simp] def e10_13 : X := (.p (.fld 0) [(.p (.call 43 0) [(.v 4), (.v 5)])])
@[simp] def e10_14 : X := (.p (.fld 1) [(.p (.call 43 0) [(.v 4), (.v 5)])])
@[simp] def e10_15 : X := (.p (.call 44 0) [e10_13, e10_14])
@[simp] def e10_16 : X := (.p (.okr [.one .bool]) [e10_15])
@[simp] def e10_17 : X := (Q e10_12 (.b true) e10_16)
@[simp] def e10_18 : X := (Q (.p .not [(.p (.call 15 0) [])]) (.b true) e10_17)
@[simp] def e10_19 : X := (.p .not [e10_15])
@[simp] def e10_20 : X := (.p (.okr [.one (.sl [(.int .i64), .str, (.int .i64), (.int .i64)])]) [(.p (.call 18 0) [(.v 6)])])
@[simp] def e10_21 : X := (Q e10_19 (.b true) e10_20)
@[simp] def e10_22 : X := (Q e10_12 (.b true) e10_21)
@[simp] def e10_23 : X := (Q (.p .not [(.p (.call 15 0) [])]) (.b true) e10_22)
@[simp] def e10_24 : X := (.p (.call 17 0) [(.p (.call 18 0) [(.v 6)]), (I (20))])
@[simp] def e10_25 : X := (.p (.okr [.one .bool]) [e10_24])
@[simp] def e10_26 : X := (Q e10_19 (.b true) e10_25)
@[simp] def e10_27 : X := (Q e10_12 (.b true) e10_26)
@[simp] def e10_28 : X := (Q (.p .not [(.p (.call 15 0) [])]) (.b true) e10_27)
@[simp] def e10_29 : X := (.p .not [e10_24])
@[simp] def e10_30 : X := (Q e10_19 (.b true) e10_29)
@[simp] def e10_31 : X := (Q e10_12 (.b true) e10_30)
@[simp] def e10_32 : X := (Q (.p .not [(.p (.call 15 0) [])]) (.b true) e10_31)
@[simp] def e10_33 : X := (.p (.call 58 0) [(.v 0), (.v 1), (.v 2), (.v 3)])
@[simp] def e10_34 : X := (.p (.okr [.one (.int .i64)]) [e10_33])
@[simp] def e10_35 : X := (Q e10_32 (.b true) e10_34)
@[simp] def e10_36 : X := (.p (.call 59 0) [(.v 0), (.v 1), (.v 2), (.v 3)])
@[simp] def e10_37 : X := (.p (.okr [.one (.int .i64)]) [e10_36])
@[simp] def e10_38 : X := (Q e10_32 (.b true) e10_37)
@[simp] def e10_39 : X := (.p (.bin .neq .i64) [e10_33, e10_36])
@[simp] def e10_40 : X := (.p (.call 60 0) [(.v 0), (.v 1), (.v 2), (.v 3), (.v 4), (.v 5)])
@[simp] def e10_41 : X := (.p (.okr [.one (.int .i64)]) [e10_40])
@[simp] def e10_42 : X := (Q e10_39 (.b true) e10_41)
@[simp] def e10_43 : X := (Q e10_32 (.b true) e10_42)
@[simp] def e10_44 : X := (.p (.call 45 0) [(.v 0), (.v 1), (.v 2), (.v 3), e10_13, e10_14])
@[simp] def e10_45 : X := (.p (.okr [.one (.int .i64)]) [e10_44])
@[simp] def e10_46 : X := (Q e10_39 (.b true) e10_45)
@[simp] def e10_47 : X := (Q e10_32 (.b true) e10_46)
@[simp] def e10_48 : X := (.p (.bin .neq .i64) [e10_40, e10_44])
@[simp] def e10_49 : X := (.p (.call 61 0) [(.v 0), (.v 1), (.v 2), (.v 3), (.v 6)])
@[simp] def e10_50 : X := (.p (.okr [.one (.int .i64)]) [e10_49])
@[simp] def e10_51 : X := (Q e10_48 (.b true) e10_50)
@[simp] def e10_52 : X := (Q e10_39 (.b true) e10_51)
@[simp] def e10_53 : X := (Q e10_32 (.b true) e10_52)
@[simp] def e10_54 : X := (Q e10_48 (.b true) e10_20)
@[simp] def e10_55 : X := (Q e10_39 (.b true) e10_54)
@[simp] def e10_56 : X := (Q e10_32 (.b true) e10_55)
@[simp] def e10_57 : X := (.p (.call 21 0) [(.v 0), (.v 1), (.v 2), (.v 3), (.p (.call 18 0) [(.v 6)])])
@[simp] def e10_58 : X := (.p (.okr [.one (.int .i64)]) [e10_57])
@[simp] def e10_59 : X := (Q e10_48 (.b true) e10_58)
@[simp] def e10_60 : X := (Q e10_39 (.b true) e10_59)
@[simp] def e10_61 : X := (Q e10_32 (.b true) e10_60)
@[simp] def e10_62 : X := (.p (.bin .neq .i64) [e10_49, e10_57])
@[simp] def e10_63 : X := (Q e10_48 (.b true) e10_62)
@[simp] def e10_64 : X := (Q e10_39 (.b true) e10_63)
@[simp] def e10_65 : X := (.p (.call 100000 1000) [(.v 6), (I (0)), e10_13, e10_14, (.v 0), (.v 1), (.v 2), (.v 3)])
@[simp] def e10_66 : X := (PJ 0 e10_65)
@[simp] def e10_67 : X := (EQ e10_66 (I (1)))
@[simp] def e10_68 : X := (EQ e10_66 (I (2)))
@[simp] def e10_69 : X := (Q e10_67 (.b true) e10_68)
@[simp] def e10_70 : X := (Q e10_64 (.b true) e10_69)
@[simp] def e10_71 : X := (Q e10_32 (.b true) e10_70)
@[simp] def e10_72 : X := (.p (.call 63 0) [(.v 0), (.v 1), (.v 2), (.v 3)])
@[simp] def e10_73 : X := (.p (.okr [.agg [(.int .i64), (.sl [.str, .str, (.int .i64), (.int .i64), (.int .i64), (.int .i64), .bool, .bool, .bool, (.sl [(.int .i64), (.int .i64), (.int .i64), .bool]), (.sl [(.int .i64)])])], .one (.int .i64)]) [e10_72])
@[simp] def e10_74 : X := (Q e10_67 (.b true) e10_73)
@[simp] def e10_75 : X := (Q e10_64 (.b true) e10_74)
@[simp] def e10_76 : X := (Q e10_32 (.b true) e10_75)
@[simp] def e10_77 : X := (.p (.bin .neq .i64) [e10_36, (I (0))])
@[simp] def e10_78 : X := (PJ 0 e10_72)
@[simp] def e10_79 : X := (.p (.fld 0) [e10_78])
@[simp] def e10_80 : X := (.p (.fld 1) [e10_78])
@[simp] def e10_81 : X := (PJ 1 e10_72)
@[simp] def e10_82 : X := (.p (.call 22 0) [e10_79, e10_80, e10_81, e10_36, e10_13, e10_14])
@[simp] def e10_83 : X := (.p (.okr [.one .bool]) [e10_82])
@[simp] def e10_84 : X := (Q e10_77 e10_83 (.b true))
@[simp] def e10_85 : X := (Q e10_67 (.b true) e10_84)
@[simp] def e10_86 : X := (Q e10_64 (.b true) e10_85)
@[simp] def e10_87 : X := (Q e10_32 (.b true) e10_86)
@[simp] def e10_88 : X := (.p (.call 64 0) [(.v 0), (.v 1), (.v 2), (.v 3)])
@[simp] def e10_89 : X := (.p (.okr [.agg [(.int .i64), (.sl [.str, .str, (.int .i64), (.int .i64), (.int .i64), (.int .i64), .bool, .bool, .bool, (.sl [(.int .i64), (.int .i64), (.int .i64), .bool]), (.sl [(.int .i64)])])]]) [e10_88])
@[simp] def e10_90 : X := (Q e10_77 (.b true) e10_89)
@[simp] def e10_91 : X := (Q e10_67 (.b true) e10_90)
@[simp] def e10_92 : X := (Q e10_64 (.b true) e10_91)
@[simp] def e10_93 : X := (Q e10_32 (.b true) e10_92)
@[simp] def e10_94 : X := (.p (.fld 0) [e10_88])
@[simp] def e10_95 : X := (.p (.fld 1) [e10_88])
@[simp] def e10_96 : X := (.p (.call 22 0) [e10_79, e10_80, e10_81, (I (0)), e10_94, e10_95])
@[simp] def e10_97 : X := (.p (.okr [.one .bool]) [e10_96])
@[simp] def e10_98 : X := (Q e10_77 (.b true) e10_97)
@[simp] def e10_99 : X := (Q e10_67 (.b true) e10_98)
@[simp] def e10_100 : X := (Q e10_64 (.b true) e10_99)
@[simp] def e10_101 : X := (Q e10_32 (.b true) e10_100)
@[simp] def e10_102 : X := (Q e10_77 e10_82 e10_96)
@[simp] def e10_103 : X := (Q e10_67 (.b false) e10_102)
@[simp] def e10_104 : X := (Q e10_64 (.b false) e10_103)
@[simp] def e10_105 : X := (Q e10_32 (.p (.call 15 0) []) e10_104)
def B1000 : Te LEnd := .ite e10_0 (
 .need e10_1 (
 .need e10_3 (
 .need e10_5 (
 .ite e10_6 (
 .ok (.out 1 [])) (
 .ok (.again [(.v 0), (AD (.v 1) (I (1))), (.v 2), (.v 3), (.v 4), (.v 5), (.v 6), (.v 7)])))))) (
 .ok (.out 2 [(.v 2), (.v 3), (.v 4), (.v 5), (.v 6), (.v 7)]))
def d1000 : LoopD := ⟨7, ⟨1000, 8, (J 2 ((.sym (.sl [(.int .i64), .str, (.int .i64), (.int .i64)]) (.v 0)) :: ((.ptr 0 0 0) :: (J 3 ((.ptr 2 0 0) :: ((.ptr 3 0 0) :: ((Si 1) :: (J 91 [])))))))), ⟨⟨4, [(3, .cells 2 [[(Si 2), (S4 3)]]), (2, .cells 4 [[(Ss 4), (S1 5), (Si 6), (Si 7)]]), (0, .cells 4 [[(Ss 4), (S1 5), (Si 6), (Si 7)]])], [[]], none⟩, [], []⟩,
 [(.ret, 0, (J 6 ((.bool false) :: (J 94 []))), ⟨⟨4, [], [[]], none⟩, [], []⟩),
  (.exit 0, 6, (J 3 ((.ptr 0 0 0) :: (J 3 ((.ptr 2 0 0) :: ((.ptr 3 0 0) :: (J 92 [])))))), ⟨⟨4, [(3, .cells 2 [[(Si 0), (S4 1)]]), (2, .cells 4 [[(Ss 2), (S1 3), (Si 4), (Si 5)]]), (0, .cells 4 [[(Ss 2), (S1 3), (Si 4), (Si 5)]])], [[]], none⟩, [], []⟩)], [(1, []), (2, [(0, 2), (1, 3), (2, 4), (3, 5), (4, 6), (5, 7)])]⟩, B1000⟩
@[simp] theorem d1000_id : d1000.L.id = 1000 := rfl
@[simp] theorem d1000_B : d1000.B = B1000 := rfl
def i10 : Inst := ⟨10, 0, [(.agg [(.sym .str (.v 0)), (.sym (.sl [.str]) (.v 1)), (.sym (.int .i64) (.v 2)), (.sym (.int .i64) (.v 3))]), (.agg [(.sym (.int .i64) (.v 4)), (.sym (.sl [.str, .str, (.int .i64), (.int .i64), (.int .i64), (.int .i64), .bool, .bool, .bool, (.sl [(.int .i64), (.int .i64), (.int .i64), .bool]), (.sl [(.int .i64)])]) (.v 5))]), (.sym (.sl [(.int .i64), .str, (.int .i64), (.int .i64)]) (.v 6))], [.one .bool]⟩
def s10 : List Cal := [c43, c15, c16, c44, c18, c17, c58, c59, c60, c45, c61, c21, c63, c22, c64, c62, c54]
@[simp] theorem o10_43 : OE s10 43 F43 := oG rfl
@[simp] theorem o10_15 : OE s10 15 F15 := oG rfl
@[simp] theorem o10_16 : OE s10 16 F16 := oG rfl
@[simp] theorem o10_44 : OE s10 44 F44 := oG rfl
@[simp] theorem o10_18 : OE s10 18 F18 := oG rfl
@[simp] theorem o10_17 : OE s10 17 F17 := oG rfl
@[simp] theorem o10_58 : OE s10 58 F58 := oG rfl
@[simp] theorem o10_59 : OE s10 59 F59 := oG rfl
@[simp] theorem o10_60 : OE s10 60 F60 := oG rfl
@[simp] theorem o10_45 : OE s10 45 F45 := oG rfl
@[simp] theorem o10_61 : OE s10 61 F61 := oG rfl
@[simp] theorem o10_21 : OE s10 21 F21 := oG rfl
@[simp] theorem o10_63 : OE s10 63 F63 := oG rfl
@[simp] theorem o10_22 : OE s10 22 F22 := oG rfl
@[simp] theorem o10_64 : OE s10 64 F64 := oG rfl
@[simp] theorem o10_62 : OE s10 62 F62 := oG rfl
@[simp] theorem o10_54 : OE s10 54 F54 := oG rfl
@[simp] def l10 : List LoopD := [d1000]
def t10 : Te AV := .need e10_7 (
 .need e10_8 (
 .need e10_11 (
 .need e10_18 (
 .need e10_23 (
 .need e10_28 (
 .need e10_35 (
 .need e10_38 (
 .need e10_43 (
 .need e10_47 (
 .need e10_53 (
 .need e10_56 (
 .need e10_61 (
 .need e10_71 (
 .need e10_76 (
 .need e10_87 (
 .need e10_93 (
 .need e10_101 (
 .ok (.sym .bool e10_105)))))))))))))))))))
def F10 : List AV → Option AV := unitF (omL KK s10 l10) t10
def c10 : Cal := ⟨i10, F10⟩
theorem x10 : XO i10 F10 := XU (cs := s10) (ds := l10) (t := t10) ⟨x43, x15, x16, x44, x18, x17, x58, x59, x60, x45, x61, x21, x63, x22, x64, x62, x54, trivial⟩ (x := g10) (by kernel_rfl) (by kernel_rfl) (by kernel_rfl)
end Go.Proofs.YtdeaibcebeofiaaGreatDoor.C5
