/-
  Functions, as trees.
-/
import Derived.Test.YtdeaibcebeofiaaGreatDoorF1
import Derived.Test.YtdeaibcebeofiaaGreatDoorRowsB
set_option linter.unusedVariables false
set_option linter.unusedSimpArgs false
set_option linter.unusedSectionVars false
namespace Go.Proofs.YtdeaibcebeofiaaGreatDoor.C5
open Go Go.Proofs.YtdeaibcebeofiaaGreatDoor.AM Go.Proofs
set_option maxRecDepth 100000
@[simp] def e90_0 : X := (Q (LT (.v 0) (.v 1)) (.b true) (.p (.bin .gtr .i64) [(.v 0), (.v 2)]))
def i90 : Inst := ⟨90, 0, [(.sym (.int .i64) (.v 0)), (.sym (.int .i64) (.v 1)), (.sym (.int .i64) (.v 2))], [.one .bool]⟩
def s90 : List Cal := []
@[simp] def l90 : List LoopD := []
def t90 : Te AV := .ok (.sym .bool e90_0)
def F90 : List AV → Option AV := unitF (omL KK s90 l90) t90
def c90 : Cal := ⟨i90, F90⟩
theorem x90 : XO i90 F90 := XU (cs := s90) (ds := l90) (t := t90) trivial (x := g90) (by kernel_rfl) (by kernel_rfl) (by kernel_rfl)
@[simp] def e116_0 : X := (Q (.p (.sbin .eql) [(.v 0), (.s w2)]) (I (8)) (I (0)))
@[simp] def e116_1 : X := (Q (.p (.sbin .eql) [(.v 0), (.s w1)]) (I (8)) e116_0)
@[simp] def e116_2 : X := (Q (.p (.sbin .eql) [(.v 0), (.s w0)]) (I (64)) e116_1)
def i116 : Inst := ⟨116, 0, [(.sym .str (.v 0))], [.one (.int .i64)]⟩
def s116 : List Cal := []
@[simp] def l116 : List LoopD := []
def t116 : Te AV := .ok (.sym (.int .i64) e116_2)
def F116 : List AV → Option AV := unitF (omL KK s116 l116) t116
def c116 : Cal := ⟨i116, F116⟩
theorem x116 : XO i116 F116 := XU (cs := s116) (ds := l116) (t := t116) trivial (x := g116) (by kernel_rfl) (by kernel_rfl) (by kernel_rfl)
@[simp] def e117_0 : X := (Q (LE (I (0)) (.v 1)) (LT (.v 1) (LN (.v 0))) (.b false))
@[simp] def e117_1 : X := (.p (.bin .geq .u8) [(.p .byte [(.v 0), (.v 1)]), (.i .u8 (97))])
@[simp] def e117_2 : X := (.p (.bin .leq .u8) [(.p .byte [(.v 0), (.v 1)]), (.i .u8 (122))])
@[simp] def e117_3 : X := (.p (.bin .geq .u8) [(.p .byte [(.v 0), (.v 1)]), (.i .u8 (65))])
@[simp] def e117_4 : X := (.p (.bin .leq .u8) [(.p .byte [(.v 0), (.v 1)]), (.i .u8 (90))])
@[simp] def e117_5 : X := (Q e117_3 e117_4 (.b false))
@[simp] def e117_6 : X := (Q e117_2 (.b true) e117_5)
@[simp] def e117_7 : X := (Q e117_1 e117_6 e117_5)
@[simp] def e117_8 : X := (.p .not [e117_7])
@[simp] def e117_9 : X := (.p (.bin .geq .u8) [(.p .byte [(.v 0), (.v 1)]), (.i .u8 (48))])
@[simp] def e117_10 : X := (.p (.bin .leq .u8) [(.p .byte [(.v 0), (.v 1)]), (.i .u8 (57))])
@[simp] def e117_11 : X := (.p (.bin .eql .u8) [(.p .byte [(.v 0), (.v 1)]), (.i .u8 (95))])
@[simp] def e117_12 : X := (.p .not [e117_11])
@[simp] def e117_13 : X := (Q e117_10 (.b false) e117_12)
@[simp] def e117_14 : X := (Q e117_9 e117_13 e117_12)
@[simp] def e117_15 : X := (Q (EQ (.v 1) (I (0))) (.b true) e117_14)
@[simp] def e117_16 : X := (Q e117_8 e117_15 (.b false))
@[simp] def e117_17 : X := (.p (.bin .gtr .i64) [(LN (.v 0)), (I (24))])
@[simp] def e117_18 : X := (Q (LT (LN (.v 0)) (I (1))) (.b true) e117_17)
@[simp] def e117_19 : X := (.p (.call 100000 11700) [(.v 0), (I (0))])
@[simp] def e117_20 : X := (PJ 0 e117_19)
@[simp] def e117_21 : X := (EQ e117_20 (I (1)))
@[simp] def e117_22 : X := (EQ e117_20 (I (2)))
@[simp] def e117_23 : X := (Q e117_21 (.b true) e117_22)
@[simp] def e117_24 : X := (Q e117_18 (.b true) e117_23)
@[simp] def e117_25 : X := (Q e117_21 (.b false) (.b true))
@[simp] def e117_26 : X := (Q e117_18 (.b false) e117_25)
def B11700 : Te LEnd := .ite (LT (.v 1) (LN (.v 0))) (
 .need e117_0 (
 .ite e117_16 (
 .ok (.out 1 [])) (
 .ok (.again [(.v 0), (AD (.v 1) (I (1)))])))) (
 .ok (.out 2 []))
def d11700 : LoopD := ⟨4, ⟨11700, 2, ((.sym .str (.v 0)) :: (J 2 ((.sym (.int .i64) (.v 1)) :: (J 52 [])))), ⟨⟨0, [], [[]], none⟩, [], []⟩,
 [(.ret, 0, (J 2 ((.bool false) :: (J 53 []))), ⟨⟨0, [], [[]], none⟩, [], []⟩),
  (.exit 0, 0, (J 56 []), ⟨⟨0, [], [[]], none⟩, [], []⟩)], [(1, []), (2, [])]⟩, B11700⟩
@[simp] theorem d11700_id : d11700.L.id = 11700 := rfl
@[simp] theorem d11700_B : d11700.B = B11700 := rfl
def i117 : Inst := ⟨117, 0, [(.sym .str (.v 0))], [.one .bool]⟩
def s117 : List Cal := []
@[simp] def l117 : List LoopD := [d11700]
def t117 : Te AV := .need e117_24 (
 .ok (.sym .bool e117_26))
def F117 : List AV → Option AV := unitF (omL KK s117 l117) t117
def c117 : Cal := ⟨i117, F117⟩
theorem x117 : XO i117 F117 := XU (cs := s117) (ds := l117) (t := t117) trivial (x := g117) (by kernel_rfl) (by kernel_rfl) (by kernel_rfl)
@[simp] def e182_0 : X := (Q (LE (I (0)) (.v 2)) (LT (.v 2) (LN (.v 0))) (.b false))
@[simp] def e182_1 : X := (.p (.sbin .eql) [(C 0 (.v 0) (.v 2)), (.v 1)])
@[simp] def e182_2 : X := (.p (.call 100000 18200) [(.v 0), (.v 1), (I (0))])
@[simp] def e182_3 : X := (PJ 0 e182_2)
@[simp] def e182_4 : X := (EQ e182_3 (I (1)))
@[simp] def e182_5 : X := (EQ e182_3 (I (2)))
@[simp] def e182_6 : X := (Q e182_4 (.b true) e182_5)
@[simp] def e182_7 : X := (Q e182_4 (.b true) (.b false))
def B18200 : Te LEnd := .ite (LT (.v 2) (LN (.v 0))) (
 .need e182_0 (
 .ite e182_1 (
 .ok (.out 1 [])) (
 .ok (.again [(.v 0), (.v 1), (AD (.v 2) (I (1)))])))) (
 .ok (.out 2 []))
def d18200 : LoopD := ⟨2, ⟨18200, 3, ((.sym (.sl [.str]) (.v 0)) :: ((.sym .str (.v 1)) :: (J 3 ((.sym (.int .i64) (.v 2)) :: (J 12 []))))), ⟨⟨0, [], [[]], none⟩, [], []⟩,
 [(.ret, 0, (J 4 ((.bool true) :: (J 13 []))), ⟨⟨0, [], [[]], none⟩, [], []⟩),
  (.exit 0, 0, (J 18 []), ⟨⟨0, [], [[]], none⟩, [], []⟩)], [(1, []), (2, [])]⟩, B18200⟩
@[simp] theorem d18200_id : d18200.L.id = 18200 := rfl
@[simp] theorem d18200_B : d18200.B = B18200 := rfl
def i182 : Inst := ⟨182, 0, [(.sym (.sl [.str]) (.v 0)), (.sym .str (.v 1))], [.one .bool]⟩
def s182 : List Cal := []
@[simp] def l182 : List LoopD := [d18200]
def t182 : Te AV := .need e182_6 (
 .ok (.sym .bool e182_7))
def F182 : List AV → Option AV := unitF (omL KK s182 l182) t182
def c182 : Cal := ⟨i182, F182⟩
theorem x182 : XO i182 F182 := XU (cs := s182) (ds := l182) (t := t182) trivial (x := g182) (by kernel_rfl) (by kernel_rfl) (by kernel_rfl)
@[simp] def e131_0 : X := (.p (.okr [.one .bool]) [(.p (.call 182 0) [(.v 1), (.v 0)])])
def i131 : Inst := ⟨131, 0, [(.sym .str (.v 0)), (.sym (.sl [.str]) (.v 1))], [.one .bool]⟩
def s131 : List Cal := [c182]
@[simp] theorem o131_182 (vs : List AV) : calO s131 182 0 vs = getJ (F182 vs) := oG rfl vs
@[simp] def l131 : List LoopD := []
def t131 : Te AV := .need e131_0 (
 .ok (.sym .bool (.p (.call 182 0) [(.v 1), (.v 0)])))
def F131 : List AV → Option AV := unitF (omL KK s131 l131) t131
def c131 : Cal := ⟨i131, F131⟩
theorem x131 : XO i131 F131 := XU (cs := s131) (ds := l131) (t := t131) ⟨x182, trivial⟩ (x := g131) (by kernel_rfl) (by kernel_rfl) (by kernel_rfl)
def i132 : Inst := ⟨132, 0, [(.sym .str (.v 0))], [.one (.sl [.str])]⟩
def s132 : List Cal := []
@[simp] def l132 : List LoopD := []
def t132 : Te AV := .ite (.p (.sbin .eql) [(.v 0), (.s w0)]) (
 .ok (.sl 1 [[(.str w4)], [(.str w5)], [(.str w6)], [(.str w9)], [(.str w10)], [(.str w12)], [(.str w15)], [(.str w16)], [(.str w17)]])) (
 .ite (.p (.sbin .eql) [(.v 0), (.s w1)]) (
 .ok (.sl 1 [[(.str w4)], [(.str w7)], [(.str w8)], [(.str w9)], [(.str w10)], [(.str w11)], [(.str w12)], [(.str w15)], [(.str w16)], [(.str w17)]])) (
 .ite (.p (.sbin .eql) [(.v 0), (.s w2)]) (
 .ok (.sl 1 [[(.str w4)], [(.str w13)], [(.str w14)], [(.str w10)], [(.str w15)], [(.str w16)], [(.str w17)]])) (
 .ok (.sl 1 [[(.str w4)], [(.str w5)], [(.str w6)], [(.str w7)], [(.str w8)], [(.str w9)], [(.str w10)], [(.str w11)], [(.str w12)], [(.str w13)], [(.str w14)], [(.str w15)], [(.str w16)], [(.str w17)]]))))
def F132 : List AV → Option AV := unitF (omL KK s132 l132) t132
def c132 : Cal := ⟨i132, F132⟩
theorem x132 : XO i132 F132 := XU (cs := s132) (ds := l132) (t := t132) trivial (x := g132) (by kernel_rfl) (by kernel_rfl) (by kernel_rfl)
@[simp] def e82_0 : X := (.p (.call 90 0) [(.v 4), (I (0)), (SB (LN (.v 1)) (I (1)))])
@[simp] def e82_1 : X := (.p (.okr [.one .bool]) [e82_0])
@[simp] def e82_2 : X := (.p (.okr [.one (.sl [.str])]) [(.p (.call 132 0) [(.s w3)])])
@[simp] def e82_3 : X := (Q e82_0 (.b true) e82_2)
@[simp] def e82_4 : X := (.p (.call 131 0) [(.v 5), (.p (.call 132 0) [(.s w3)])])
@[simp] def e82_5 : X := (.p (.okr [.one .bool]) [e82_4])
@[simp] def e82_6 : X := (Q e82_0 (.b true) e82_5)
@[simp] def e82_7 : X := (.p .not [e82_4])
@[simp] def e82_8 : X := (.p (.call 90 0) [(.v 6), (I (0)), (I (86399999))])
@[simp] def e82_9 : X := (.p (.okr [.one .bool]) [e82_8])
@[simp] def e82_10 : X := (Q e82_7 (.b true) e82_9)
@[simp] def e82_11 : X := (Q e82_0 (.b true) e82_10)
@[simp] def e82_12 : X := (.p (.call 90 0) [(.v 7), (I (0)), (I (86399999))])
@[simp] def e82_13 : X := (.p (.okr [.one .bool]) [e82_12])
@[simp] def e82_14 : X := (Q e82_8 (.b true) e82_13)
@[simp] def e82_15 : X := (Q e82_7 (.b true) e82_14)
@[simp] def e82_16 : X := (Q e82_0 (.b true) e82_15)
@[simp] def e82_17 : X := (Q e82_8 (.b true) e82_12)
@[simp] def e82_18 : X := (.sl 1 [[(.s w4)], [(.s w5)], [(.s w13)]])
@[simp] def e82_19 : X := (.p (.call 131 0) [(.v 5), e82_18])
@[simp] def e82_20 : X := (.p (.okr [.one .bool]) [e82_19])
@[simp] def e82_21 : X := (Q (.p (.bin .neq .i64) [(.v 6), (I (0))]) e82_20 (.b true))
@[simp] def e82_22 : X := (Q e82_17 (.b true) e82_21)
@[simp] def e82_23 : X := (Q e82_7 (.b true) e82_22)
@[simp] def e82_24 : X := (Q e82_0 (.b true) e82_23)
@[simp] def e82_25 : X := (.p .not [e82_19])
@[simp] def e82_26 : X := (Q (.p (.bin .neq .i64) [(.v 6), (I (0))]) e82_25 (.b false))
@[simp] def e82_27 : X := (Q e82_26 (I (1)) (I (0)))
@[simp] def e82_28 : X := (Q e82_17 (I (3)) e82_27)
@[simp] def e82_29 : X := (Q e82_7 (I (13)) e82_28)
@[simp] def e82_30 : X := (Q e82_0 (I (10)) e82_29)
def i82 : Inst := ⟨82, 0, [(.agg [(.sym .str (.v 0)), (.sym (.sl [.str]) (.v 1)), (.sym (.int .i64) (.v 2)), (.sym (.int .i64) (.v 3))]), (.agg [(.sym (.int .i64) (.v 4)), (.sym .str (.v 5)), (.sym (.int .i64) (.v 6)), (.sym (.int .i64) (.v 7))])], [.one (.int .i64)]⟩
def s82 : List Cal := [c90, c132, c131]
@[simp] theorem o82_90 (vs : List AV) : calO s82 90 0 vs = getJ (F90 vs) := oG rfl vs
@[simp] theorem o82_132 (vs : List AV) : calO s82 132 0 vs = getJ (F132 vs) := oG rfl vs
@[simp] theorem o82_131 (vs : List AV) : calO s82 131 0 vs = getJ (F131 vs) := oG rfl vs
@[simp] def l82 : List LoopD := []
def t82 : Te AV := .need e82_1 (
 .need e82_3 (
 .need e82_6 (
 .need e82_11 (
 .need e82_16 (
 .need e82_24 (
 .ok (.sym (.int .i64) e82_30)))))))
def F82 : List AV → Option AV := unitF (omL KK s82 l82) t82
def c82 : Cal := ⟨i82, F82⟩
theorem x82 : XO i82 F82 := XU (cs := s82) (ds := l82) (t := t82) ⟨x90, x132, x131, trivial⟩ (x := g82) (by kernel_rfl) (by kernel_rfl) (by kernel_rfl)
@[simp] def e59_0 : X := (Q (LE (I (0)) (.v 0)) (LT (.v 0) (LN (.v 2))) (.b false))
@[simp] def e59_1 : X := (.p (.okr [.one .bool]) [(.p (.call 117 0) [(C 0 (.v 2) (.v 0))])])
@[simp] def e59_2 : X := (.p .not [(.p (.call 117 0) [(C 0 (.v 2) (.v 0))])])
@[simp] def e59_3 : X := (.p (.call 100000 5901) [(.v 0), (I (0)), (.v 1), (.v 2), (.v 3), (.v 4)])
@[simp] def e59_4 : X := (PJ 0 e59_3)
@[simp] def e59_5 : X := (EQ e59_4 (I (1)))
@[simp] def e59_6 : X := (EQ e59_4 (I (2)))
@[simp] def e59_7 : X := (Q (LE (I (0)) (.v 1)) (LT (.v 1) (LN (.v 3))) (.b false))
@[simp] def e59_8 : X := (Q (LE (I (0)) (.v 0)) (LT (.v 0) (LN (.v 3))) (.b false))
@[simp] def e59_9 : X := (.p (.sbin .eql) [(C 0 (.v 3) (.v 1)), (C 0 (.v 3) (.v 0))])
@[simp] def e59_10 : X := (.p (.okr [.one (.int .i64)]) [(.p (.call 116 0) [(.v 0)])])
@[simp] def e59_11 : X := (.p (.bin .gtr .i64) [(LN (.v 1)), (I (160))])
@[simp] def e59_12 : X := (.p (.call 100000 5900) [(I (0)), (.v 0), (.v 1), (.v 2), (.v 3)])
@[simp] def e59_13 : X := (PJ 0 e59_12)
@[simp] def e59_14 : X := (EQ e59_13 (I (1)))
@[simp] def e59_15 : X := (EQ e59_13 (I (2)))
@[simp] def e59_16 : X := (Q e59_14 (.b true) e59_15)
@[simp] def e59_17 : X := (Q e59_11 (.b true) e59_16)
@[simp] def e59_18 : X := (Q (EQ (LN (.v 1)) (I (0))) (.b true) e59_17)
@[simp] def e59_19 : X := (Q (EQ (.p (.call 116 0) [(.v 0)]) (I (0))) (.b true) e59_18)
@[simp] def e59_20 : X := (.p (.call 90 0) [(.v 2), (I (1)), (.p (.call 116 0) [(.v 0)])])
@[simp] def e59_21 : X := (.p (.okr [.one .bool]) [e59_20])
@[simp] def e59_22 : X := (Q e59_14 (.b true) e59_21)
@[simp] def e59_23 : X := (Q e59_11 (.b true) e59_22)
@[simp] def e59_24 : X := (Q (EQ (LN (.v 1)) (I (0))) (.b true) e59_23)
@[simp] def e59_25 : X := (Q (EQ (.p (.call 116 0) [(.v 0)]) (I (0))) (.b true) e59_24)
@[simp] def e59_26 : X := (.p (.call 90 0) [(.v 3), (I (1)), (I (86399999))])
@[simp] def e59_27 : X := (.p (.okr [.one .bool]) [e59_26])
@[simp] def e59_28 : X := (Q e59_20 (.b true) e59_27)
@[simp] def e59_29 : X := (Q e59_14 (.b true) e59_28)
@[simp] def e59_30 : X := (Q e59_11 (.b true) e59_29)
@[simp] def e59_31 : X := (Q (EQ (LN (.v 1)) (I (0))) (.b true) e59_30)
@[simp] def e59_32 : X := (Q (EQ (.p (.call 116 0) [(.v 0)]) (I (0))) (.b true) e59_31)
@[simp] def e59_33 : X := (PJ 1 e59_12)
@[simp] def e59_34 : X := (Q e59_20 (.b true) e59_26)
@[simp] def e59_35 : X := (Q e59_34 (I (3)) (I (0)))
@[simp] def e59_36 : X := (Q e59_14 e59_33 e59_35)
@[simp] def e59_37 : X := (Q e59_11 (I (5)) e59_36)
@[simp] def e59_38 : X := (Q (EQ (LN (.v 1)) (I (0))) (I (12)) e59_37)
@[simp] def e59_39 : X := (Q (EQ (.p (.call 116 0) [(.v 0)]) (I (0))) (I (13)) e59_38)
def B5900 : Te LEnd := .ite (LT (.v 0) (LN (.v 2))) (
 .need e59_0 (
 .need e59_1 (
 .ite e59_2 (
 .ok (.out 1 [(I (8))])) (
 .ite e59_5 (
 .ok (.out 1 [(I (9))])) (
 .need e59_6 (
 .ok (.again [(AD (.v 0) (I (1))), (.v 1), (.v 2), (.v 3), (.v 4)]))))))) (
 .ok (.out 2 [(.v 1), (.v 2), (.v 3), (.v 4)]))
def d5900 : LoopD := ⟨8, ⟨5900, 5, (J 1 ((.ptr 0 0 0) :: (J 1 ((.sym (.int .i64) (.v 0)) :: (J 54 []))))), ⟨⟨1, [(0, .cells 4 [[(.sym .str (.v 1)), (.sym (.sl [.str]) (.v 2)), (.sym (.int .i64) (.v 3)), (.sym (.int .i64) (.v 4))]])], [[]], none⟩, [], []⟩,
 [(.ret, 1, (J 2 ((.sym (.int .i64) (.v 0)) :: (J 55 []))), ⟨⟨1, [], [[]], none⟩, [], []⟩),
  (.exit 0, 4, (J 1 ((.ptr 0 0 0) :: (J 56 []))), ⟨⟨1, [(0, .cells 4 [[(.sym .str (.v 0)), (.sym (.sl [.str]) (.v 1)), (.sym (.int .i64) (.v 2)), (.sym (.int .i64) (.v 3))]])], [[]], none⟩, [], []⟩)], [(1, []), (2, [(0, 1), (1, 2), (2, 3), (3, 4)])]⟩, B5900⟩
@[simp] theorem d5900_id : d5900.L.id = 5900 := rfl
@[simp] theorem d5900_B : d5900.B = B5900 := rfl
def B5901 : Te LEnd := .ite (LT (.v 1) (.v 0)) (
 .need e59_7 (
 .need e59_8 (
 .ite e59_9 (
 .ok (.out 1 [])) (
 .ok (.again [(.v 0), (AD (.v 1) (I (1))), (.v 2), (.v 3), (.v 4), (.v 5)]))))) (
 .ok (.out 2 [(.v 0), (.v 2), (.v 3), (.v 4), (.v 5)]))
def d5901 : LoopD := ⟨13, ⟨5901, 6, (J 1 ((.ptr 0 0 0) :: (J 1 ((.sym (.int .i64) (.v 0)) :: ((.sym (.int .i64) (.v 1)) :: (J 53 [])))))), ⟨⟨1, [(0, .cells 4 [[(.sym .str (.v 2)), (.sym (.sl [.str]) (.v 3)), (.sym (.int .i64) (.v 4)), (.sym (.int .i64) (.v 5))]])], [[]], none⟩, [], []⟩,
 [(.ret, 0, (J 2 ((.int .i64 (9)) :: (J 55 []))), ⟨⟨1, [], [[]], none⟩, [], []⟩),
  (.exit 2, 5, (J 1 ((.ptr 0 0 0) :: (J 1 ((.sym (.int .i64) (.v 0)) :: (J 54 []))))), ⟨⟨1, [(0, .cells 4 [[(.sym .str (.v 1)), (.sym (.sl [.str]) (.v 2)), (.sym (.int .i64) (.v 3)), (.sym (.int .i64) (.v 4))]])], [[]], none⟩, [], []⟩)], [(1, []), (2, [(0, 0), (1, 2), (2, 3), (3, 4), (4, 5)])]⟩, B5901⟩
@[simp] theorem d5901_id : d5901.L.id = 5901 := rfl
@[simp] theorem d5901_B : d5901.B = B5901 := rfl
def i59 : Inst := ⟨59, 0, [(.agg [(.sym .str (.v 0)), (.sym (.sl [.str]) (.v 1)), (.sym (.int .i64) (.v 2)), (.sym (.int .i64) (.v 3))])], [.one (.int .i64)]⟩
def s59 : List Cal := [c116, c90, c117]
@[simp] theorem o59_116 (vs : List AV) : calO s59 116 0 vs = getJ (F116 vs) := oG rfl vs
@[simp] theorem o59_90 (vs : List AV) : calO s59 90 0 vs = getJ (F90 vs) := oG rfl vs
@[simp] theorem o59_117 (vs : List AV) : calO s59 117 0 vs = getJ (F117 vs) := oG rfl vs
@[simp] def l59 : List LoopD := [d5900, d5901]
def t59 : Te AV := .need e59_10 (
 .need e59_19 (
 .need e59_25 (
 .need e59_32 (
 .ok (.sym (.int .i64) e59_39)))))
def F59 : List AV → Option AV := unitF (omL KK s59 l59) t59
def c59 : Cal := ⟨i59, F59⟩
theorem x59 : XO i59 F59 := XU (cs := s59) (ds := l59) (t := t59) ⟨x116, x90, x117, trivial⟩ (x := g59) (by kernel_rfl) (by kernel_rfl) (by kernel_rfl)
@[simp] def e21_0 : X := (Q (LE (I (0)) (.v 1)) (LT (.v 1) (LN (.v 0))) (.b false))
@[simp] def e21_1 : X := (.p (.call 82 0) [(.v 2), (.v 3), (.v 4), (.v 5), (C 0 (.v 0) (.v 1)), (C 1 (.v 0) (.v 1)), (C 2 (.v 0) (.v 1)), (C 3 (.v 0) (.v 1))])
@[simp] def e21_2 : X := (.p (.okr [.one (.int .i64)]) [e21_1])
@[simp] def e21_3 : X := (.p (.bin .neq .i64) [e21_1, (I (0))])
@[simp] def e21_4 : X := (.p (.call 59 0) [(.v 0), (.v 1), (.v 2), (.v 3)])
@[simp] def e21_5 : X := (.p (.okr [.one (.int .i64)]) [e21_4])
@[simp] def e21_6 : X := (.p (.bin .neq .i64) [e21_4, (I (0))])
@[simp] def e21_7 : X := (.p (.bin .gtr .i64) [(LN (.v 4)), (I (256))])
@[simp] def e21_8 : X := (.p (.call 100000 2100) [(.v 4), (I (0)), (.v 0), (.v 1), (.v 2), (.v 3)])
@[simp] def e21_9 : X := (PJ 0 e21_8)
@[simp] def e21_10 : X := (EQ e21_9 (I (1)))
@[simp] def e21_11 : X := (EQ e21_9 (I (2)))
@[simp] def e21_12 : X := (Q e21_10 (.b true) e21_11)
@[simp] def e21_13 : X := (Q e21_7 (.b true) e21_12)
@[simp] def e21_14 : X := (Q e21_6 (.b true) e21_13)
@[simp] def e21_15 : X := (PJ 1 e21_8)
@[simp] def e21_16 : X := (Q e21_10 e21_15 (I (0)))
@[simp] def e21_17 : X := (Q e21_7 (I (5)) e21_16)
@[simp] def e21_18 : X := (Q e21_6 e21_4 e21_17)
def B2100 : Te LEnd := .ite (LT (.v 1) (LN (.v 0))) (
 .need e21_0 (
 .need e21_2 (
 .ite e21_3 (
 .ok (.out 1 [e21_1])) (
 .ok (.again [(.v 0), (AD (.v 1) (I (1))), (.v 2), (.v 3), (.v 4), (.v 5)]))))) (
 .ok (.out 2 []))
def d2100 : LoopD := ⟨7, ⟨2100, 6, (J 1 ((.sym (.sl [(.int .i64), .str, (.int .i64), (.int .i64)]) (.v 0)) :: ((.ptr 0 0 0) :: (J 3 ((.sym (.int .i64) (.v 1)) :: (J 23 [])))))), ⟨⟨1, [(0, .cells 4 [[(.sym .str (.v 2)), (.sym (.sl [.str]) (.v 3)), (.sym (.int .i64) (.v 4)), (.sym (.int .i64) (.v 5))]])], [[]], none⟩, [], []⟩,
 [(.ret, 1, (J 4 ((.sym (.int .i64) (.v 0)) :: (J 25 []))), ⟨⟨1, [], [[]], none⟩, [], []⟩),
  (.exit 0, 0, (J 30 []), ⟨⟨1, [], [[]], none⟩, [], []⟩)], [(1, []), (2, [])]⟩, B2100⟩
@[simp] theorem d2100_id : d2100.L.id = 2100 := rfl
@[simp] theorem d2100_B : d2100.B = B2100 := rfl
def i21 : Inst := ⟨21, 0, [(.agg [(.sym .str (.v 0)), (.sym (.sl [.str]) (.v 1)), (.sym (.int .i64) (.v 2)), (.sym (.int .i64) (.v 3))]), (.sym (.sl [(.int .i64), .str, (.int .i64), (.int .i64)]) (.v 4))], [.one (.int .i64)]⟩
def s21 : List Cal := [c59, c82]
@[simp] theorem o21_59 (vs : List AV) : calO s21 59 0 vs = getJ (F59 vs) := oG rfl vs
@[simp] theorem o21_82 (vs : List AV) : calO s21 82 0 vs = getJ (F82 vs) := oG rfl vs
@[simp] def l21 : List LoopD := [d2100]
def t21 : Te AV := .need e21_5 (
 .need e21_14 (
 .ok (.sym (.int .i64) e21_18)))
def F21 : List AV → Option AV := unitF (omL KK s21 l21) t21
def c21 : Cal := ⟨i21, F21⟩
theorem x21 : XO i21 F21 := XU (cs := s21) (ds := l21) (t := t21) ⟨x59, x82, trivial⟩ (x := g21) (by kernel_rfl) (by kernel_rfl) (by kernel_rfl)
@[simp] def e86_0 : X := (.p (.call 90 0) [(.v 4), (I (1)), (I (256))])
@[simp] def e86_1 : X := (.p (.okr [.one .bool]) [e86_0])
@[simp] def e86_2 : X := (.p (.call 82 0) [(.v 0), (.v 1), (.v 2), (.v 3), (.v 6), (.v 7), (.v 8), (.v 9)])
@[simp] def e86_3 : X := (.p (.okr [.one (.int .i64)]) [e86_2])
@[simp] def e86_4 : X := (Q (.v 5) (.b true) e86_3)
@[simp] def e86_5 : X := (Q e86_0 (.b true) e86_4)
@[simp] def e86_6 : X := (Q (EQ (.v 8) (I (0))) (EQ (.v 9) (I (0))) (.b false))
@[simp] def e86_7 : X := (Q (.p (.sbin .eql) [(.v 7), (.s w3)]) e86_6 (.b false))
@[simp] def e86_8 : X := (Q (EQ (.v 6) (I (0))) e86_7 (.b false))
@[simp] def e86_9 : X := (.p .not [e86_8])
@[simp] def e86_10 : X := (Q e86_9 (I (1)) (I (0)))
@[simp] def e86_11 : X := (Q (.v 5) e86_10 e86_2)
@[simp] def e86_12 : X := (Q e86_0 (I (3)) e86_11)
def i86 : Inst := ⟨86, 0, [(.agg [(.sym .str (.v 0)), (.sym (.sl [.str]) (.v 1)), (.sym (.int .i64) (.v 2)), (.sym (.int .i64) (.v 3))]), (.agg [(.sym (.int .i64) (.v 4)), (.sym .bool (.v 5)), (.sym (.int .i64) (.v 6)), (.sym .str (.v 7)), (.sym (.int .i64) (.v 8)), (.sym (.int .i64) (.v 9))])], [.one (.int .i64)]⟩
def s86 : List Cal := [c90, c82]
@[simp] theorem o86_90 (vs : List AV) : calO s86 90 0 vs = getJ (F90 vs) := oG rfl vs
@[simp] theorem o86_82 (vs : List AV) : calO s86 82 0 vs = getJ (F82 vs) := oG rfl vs
@[simp] def l86 : List LoopD := []
def t86 : Te AV := .need e86_1 (
 .need e86_5 (
 .ok (.sym (.int .i64) e86_12)))
def F86 : List AV → Option AV := unitF (omL KK s86 l86) t86
def c86 : Cal := ⟨i86, F86⟩
theorem x86 : XO i86 F86 := XU (cs := s86) (ds := l86) (t := t86) ⟨x90, x82, trivial⟩ (x := g86) (by kernel_rfl) (by kernel_rfl) (by kernel_rfl)
@[simp] def e31_0 : X := (Q (LE (I (0)) (.v 1)) (LT (.v 1) (LN (.v 0))) (.b false))
@[simp] def e31_1 : X := (.p (.call 86 0) [(.v 2), (.v 3), (.v 4), (.v 5), (C 0 (.v 0) (.v 1)), (C 1 (.v 0) (.v 1)), (C 2 (.v 0) (.v 1)), (C 3 (.v 0) (.v 1)), (C 4 (.v 0) (.v 1)), (C 5 (.v 0) (.v 1))])
@[simp] def e31_2 : X := (.p (.okr [.one (.int .i64)]) [e31_1])
@[simp] def e31_3 : X := (.p (.bin .neq .i64) [e31_1, (I (0))])
@[simp] def e31_4 : X := (.p (.bin .gtr .i64) [(LN (.v 4)), (I (256))])
@[simp] def e31_5 : X := (.p (.call 100000 3100) [(.v 4), (I (0)), (.v 0), (.v 1), (.v 2), (.v 3)])
@[simp] def e31_6 : X := (PJ 0 e31_5)
@[simp] def e31_7 : X := (EQ e31_6 (I (1)))
@[simp] def e31_8 : X := (EQ e31_6 (I (2)))
@[simp] def e31_9 : X := (Q e31_7 (.b true) e31_8)
@[simp] def e31_10 : X := (Q e31_4 (.b true) e31_9)
@[simp] def e31_11 : X := (PJ 1 e31_5)
@[simp] def e31_12 : X := (Q e31_7 e31_11 (I (0)))
@[simp] def e31_13 : X := (Q e31_4 (I (5)) e31_12)
def B3100 : Te LEnd := .ite (LT (.v 1) (LN (.v 0))) (
 .need e31_0 (
 .need e31_2 (
 .ite e31_3 (
 .ok (.out 1 [e31_1])) (
 .ok (.again [(.v 0), (AD (.v 1) (I (1))), (.v 2), (.v 3), (.v 4), (.v 5)]))))) (
 .ok (.out 2 []))
def d3100 : LoopD := ⟨4, ⟨3100, 6, (J 1 ((.sym (.sl [(.int .i64), .bool, (.int .i64), .str, (.int .i64), (.int .i64)]) (.v 0)) :: ((.ptr 0 0 0) :: (J 2 ((.sym (.int .i64) (.v 1)) :: (J 19 [])))))), ⟨⟨1, [(0, .cells 4 [[(.sym .str (.v 2)), (.sym (.sl [.str]) (.v 3)), (.sym (.int .i64) (.v 4)), (.sym (.int .i64) (.v 5))]])], [[]], none⟩, [], []⟩,
 [(.ret, 1, (J 4 ((.sym (.int .i64) (.v 0)) :: (J 20 []))), ⟨⟨1, [], [[]], none⟩, [], []⟩),
  (.exit 0, 0, (J 25 []), ⟨⟨1, [], [[]], none⟩, [], []⟩)], [(1, []), (2, [])]⟩, B3100⟩
@[simp] theorem d3100_id : d3100.L.id = 3100 := rfl
@[simp] theorem d3100_B : d3100.B = B3100 := rfl
def i31 : Inst := ⟨31, 0, [(.agg [(.sym .str (.v 0)), (.sym (.sl [.str]) (.v 1)), (.sym (.int .i64) (.v 2)), (.sym (.int .i64) (.v 3))]), (.sym (.sl [(.int .i64), .bool, (.int .i64), .str, (.int .i64), (.int .i64)]) (.v 4))], [.one (.int .i64)]⟩
def s31 : List Cal := [c86]
@[simp] theorem o31_86 (vs : List AV) : calO s31 86 0 vs = getJ (F86 vs) := oG rfl vs
@[simp] def l31 : List LoopD := [d3100]
def t31 : Te AV := .need e31_10 (
 .ok (.sym (.int .i64) e31_13))
def F31 : List AV → Option AV := unitF (omL KK s31 l31) t31
def c31 : Cal := ⟨i31, F31⟩
theorem x31 : XO i31 F31 := XU (cs := s31) (ds := l31) (t := t31) ⟨x86, trivial⟩ (x := g31) (by kernel_rfl) (by kernel_rfl) (by kernel_rfl)
@[simp] def e87_0 : X := (Q (LE (I (0)) (.v 2)) (LT (.v 2) (LN (.v 0))) (.b false))
@[simp] def e87_1 : X := (.p (.call 100000 8700) [(.v 0), (.v 1), (SB (LN (.v 0)) (I (1)))])
@[simp] def e87_2 : X := (PJ 0 e87_1)
@[simp] def e87_3 : X := (EQ e87_2 (I (1)))
@[simp] def e87_4 : X := (EQ e87_2 (I (2)))
@[simp] def e87_5 : X := (Q e87_3 (.b true) e87_4)
@[simp] def e87_6 : X := (PJ 1 e87_1)
@[simp] def e87_7 : X := (Q e87_3 e87_6 (I (-1)))
def B8700 : Te LEnd := .ite (.p (.bin .geq .i64) [(.v 2), (I (0))]) (
 .need e87_0 (
 .ite (EQ (C 0 (.v 0) (.v 2)) (.v 1)) (
 .ok (.out 1 [(.v 2)])) (
 .ok (.again [(.v 0), (.v 1), (SB (.v 2) (I (1)))])))) (
 .ok (.out 2 []))
def d8700 : LoopD := ⟨2, ⟨8700, 3, ((.sym (.sl [(.int .i64), .bool, (.int .i64), .str, (.int .i64), (.int .i64)]) (.v 0)) :: ((.sym (.int .i64) (.v 1)) :: (J 3 ((.sym (.int .i64) (.v 2)) :: (J 15 []))))), ⟨⟨0, [], [[]], none⟩, [], []⟩,
 [(.ret, 1, (J 4 ((.sym (.int .i64) (.v 0)) :: (J 16 []))), ⟨⟨0, [], [[]], none⟩, [], []⟩),
  (.exit 0, 0, (J 21 []), ⟨⟨0, [], [[]], none⟩, [], []⟩)], [(1, []), (2, [])]⟩, B8700⟩
@[simp] theorem d8700_id : d8700.L.id = 8700 := rfl
@[simp] theorem d8700_B : d8700.B = B8700 := rfl
def i87 : Inst := ⟨87, 0, [(.sym (.sl [(.int .i64), .bool, (.int .i64), .str, (.int .i64), (.int .i64)]) (.v 0)), (.sym (.int .i64) (.v 1))], [.one (.int .i64)]⟩
def s87 : List Cal := []
@[simp] def l87 : List LoopD := [d8700]
def t87 : Te AV := .need e87_5 (
 .ok (.sym (.int .i64) e87_7))
def F87 : List AV → Option AV := unitF (omL KK s87 l87) t87
def c87 : Cal := ⟨i87, F87⟩
theorem x87 : XO i87 F87 := XU (cs := s87) (ds := l87) (t := t87) trivial (x := g87) (by kernel_rfl) (by kernel_rfl) (by kernel_rfl)
@[simp] def e30_0 : X := (.p (.bin .gtr .i64) [(LN (.v 1)), (LN (.v 0))])
@[simp] def e30_1 : X := (Q e30_0 (LN (.v 1)) (LN (.v 0)))
@[simp] def e30_2 : X := (LE (.v 3) e30_1)
@[simp] def e30_3 : X := (.p (.bin .gtr .i64) [(.v 3), (LN (.v 0))])
@[simp] def e30_4 : X := (.p (.bin .gtr .i64) [(.v 3), (LN (.v 1))])
@[simp] def e30_5 : X := (Q (LE (I (0)) (SB (.v 3) (I (1)))) (LT (SB (.v 3) (I (1))) (LN (.v 0))) (.b false))
@[simp] def e30_6 : X := (Q e30_4 (.b true) e30_5)
@[simp] def e30_7 : X := (Q e30_3 (.b true) e30_6)
@[simp] def e30_8 : X := (Q (LE (I (0)) (SB (.v 3) (I (1)))) (LT (SB (.v 3) (I (1))) (LN (.v 1))) (.b false))
@[simp] def e30_9 : X := (Q e30_4 (.b true) e30_8)
@[simp] def e30_10 : X := (Q e30_3 (.b true) e30_9)
@[simp] def e30_11 : X := (EQ (C 0 (.v 0) (SB (.v 3) (I (1)))) (C 0 (.v 1) (SB (.v 3) (I (1)))))
@[simp] def e30_12 : X := (.p (.sbin .eql) [(C 1 (.v 0) (SB (.v 3) (I (1)))), (C 1 (.v 1) (SB (.v 3) (I (1))))])
@[simp] def e30_13 : X := (EQ (C 2 (.v 0) (SB (.v 3) (I (1)))) (C 2 (.v 1) (SB (.v 3) (I (1)))))
@[simp] def e30_14 : X := (EQ (C 3 (.v 0) (SB (.v 3) (I (1)))) (C 3 (.v 1) (SB (.v 3) (I (1)))))
@[simp] def e30_15 : X := (Q e30_13 e30_14 (.b false))
@[simp] def e30_16 : X := (Q e30_12 e30_15 (.b false))
@[simp] def e30_17 : X := (Q e30_11 e30_16 (.b false))
@[simp] def e30_18 : X := (.p .not [e30_17])
@[simp] def e30_19 : X := (Q e30_4 (.b true) e30_18)
@[simp] def e30_20 : X := (Q e30_3 (.b true) e30_19)
@[simp] def e30_21 : X := (.p (.app 1) [(.v 2), (.sl 1 [[(.v 3)]])])
@[simp] def e30_22 : X := (LN e30_21)
@[simp] def e30_23 : X := (LE e30_22 (I (1073741824)))
@[simp] def e30_24 : X := (.p (.call 100000 3000) [(.v 0), (.v 1), .nils, (I (1))])
@[simp] def e30_25 : X := (PJ 0 e30_24)
@[simp] def e30_26 : X := (EQ e30_25 (I (1)))
@[simp] def e30_27 : X := (PJ 1 e30_24)
def B3000 : Te LEnd := .ite e30_2 (
 .need e30_7 (
 .need e30_10 (
 .ite e30_20 (
 .need e30_23 (
 .ok (.again [(.v 0), (.v 1), e30_21, (AD (.v 3) (I (1)))]))) (
 .ok (.again [(.v 0), (.v 1), (.v 2), (AD (.v 3) (I (1)))]))))) (
 .ok (.out 1 [(.v 2)]))
def d3000 : LoopD := ⟨3, ⟨3000, 4, ((.sym (.sl [(.int .i64), .str, (.int .i64), (.int .i64)]) (.v 0)) :: ((.sym (.sl [(.int .i64), .str, (.int .i64), (.int .i64)]) (.v 1)) :: (J 3 ((.sym (.own 0 [(.int .i64)]) (.v 2)) :: ((.sym (.int .i64) (.v 3)) :: (J 37 [])))))), ⟨⟨2, [], [[]], none⟩, [(0, .rows [(.int .i64)] (.v 2))], []⟩,
 [(.exit 0, 1, (J 5 ((.sym (.own 0 [(.int .i64)]) (.v 0)) :: (J 38 []))), ⟨⟨2, [], [[]], none⟩, [(0, .rows [(.int .i64)] (.v 0))], []⟩)], [(1, [])]⟩, B3000⟩
@[simp] theorem d3000_id : d3000.L.id = 3000 := rfl
@[simp] theorem d3000_B : d3000.B = B3000 := rfl
def i30 : Inst := ⟨30, 0, [(.sym (.sl [(.int .i64), .str, (.int .i64), (.int .i64)]) (.v 0)), (.sym (.sl [(.int .i64), .str, (.int .i64), (.int .i64)]) (.v 1))], [.one (.sl [(.int .i64)])]⟩
def s30 : List Cal := []
@[simp] def l30 : List LoopD := [d3000]
def t30 : Te AV := .need e30_26 (
 .ok (.sym (.sl [(.int .i64)]) e30_27))
def F30 : List AV → Option AV := unitF (omL KK s30 l30) t30
def c30 : Cal := ⟨i30, F30⟩
theorem x30 : XO i30 F30 := XU (cs := s30) (ds := l30) (t := t30) trivial (x := g30) (by kernel_rfl) (by kernel_rfl) (by kernel_rfl)
@[simp] def e33_0 : X := (.p (.bin .gtr .i64) [(LN (.v 1)), (LN (.v 0))])
@[simp] def e33_1 : X := (Q e33_0 (LN (.v 1)) (LN (.v 0)))
@[simp] def e33_2 : X := (LE (.v 4) e33_1)
@[simp] def e33_3 : X := (Q (LE (I (0)) (SB (.v 4) (I (1)))) (LT (SB (.v 4) (I (1))) (LN (.v 0))) (.b false))
@[simp] def e33_4 : X := (Q (LE (.v 4) (LN (.v 1))) e33_3 (.b true))
@[simp] def e33_5 : X := (Q (LE (.v 4) (LN (.v 0))) e33_4 (.b true))
@[simp] def e33_6 : X := (Q (LE (I (0)) (SB (.v 4) (I (1)))) (LT (SB (.v 4) (I (1))) (LN (.v 1))) (.b false))
@[simp] def e33_7 : X := (Q (LE (.v 4) (LN (.v 1))) e33_6 (.b true))
@[simp] def e33_8 : X := (Q (LE (.v 4) (LN (.v 0))) e33_7 (.b true))
@[simp] def e33_9 : X := (EQ (C 0 (.v 0) (SB (.v 4) (I (1)))) (C 0 (.v 1) (SB (.v 4) (I (1)))))
@[simp] def e33_10 : X := (.p (.sbin .eql) [(C 1 (.v 0) (SB (.v 4) (I (1)))), (C 1 (.v 1) (SB (.v 4) (I (1))))])
@[simp] def e33_11 : X := (EQ (C 2 (.v 0) (SB (.v 4) (I (1)))) (C 2 (.v 1) (SB (.v 4) (I (1)))))
@[simp] def e33_12 : X := (EQ (C 3 (.v 0) (SB (.v 4) (I (1)))) (C 3 (.v 1) (SB (.v 4) (I (1)))))
@[simp] def e33_13 : X := (Q e33_11 e33_12 (.b false))
@[simp] def e33_14 : X := (Q e33_10 e33_13 (.b false))
@[simp] def e33_15 : X := (Q e33_9 e33_14 (.b false))
@[simp] def e33_16 : X := (Q (LE (.v 4) (LN (.v 1))) e33_15 (.b false))
@[simp] def e33_17 : X := (Q (LE (.v 4) (LN (.v 0))) e33_16 (.b false))
@[simp] def e33_18 : X := (.sl 4 [[(C 0 (.v 0) (SB (.v 4) (I (1)))), (C 1 (.v 0) (SB (.v 4) (I (1)))), (C 2 (.v 0) (SB (.v 4) (I (1)))), (C 3 (.v 0) (SB (.v 4) (I (1))))]])
@[simp] def e33_19 : X := (.p (.app 4) [(.v 3), e33_18])
@[simp] def e33_20 : X := (LN e33_19)
@[simp] def e33_21 : X := (LE e33_20 (I (1073741824)))
@[simp] def e33_22 : X := (.p (.okr [.one (.int .i64)]) [(.p (.call 87 0) [(.v 2), (.v 4)])])
@[simp] def e33_23 : X := (LT (.p (.call 87 0) [(.v 2), (.v 4)]) (I (0)))
@[simp] def e33_24 : X := (LE (I (0)) (.p (.call 87 0) [(.v 2), (.v 4)]))
@[simp] def e33_25 : X := (LT (.p (.call 87 0) [(.v 2), (.v 4)]) (LN (.v 2)))
@[simp] def e33_26 : X := (Q e33_24 e33_25 (.b false))
@[simp] def e33_27 : X := (C 1 (.v 2) (.p (.call 87 0) [(.v 2), (.v 4)]))
@[simp] def e33_28 : X := (.p .not [e33_27])
@[simp] def e33_29 : X := (C 2 (.v 2) (.p (.call 87 0) [(.v 2), (.v 4)]))
@[simp] def e33_30 : X := (C 3 (.v 2) (.p (.call 87 0) [(.v 2), (.v 4)]))
@[simp] def e33_31 : X := (C 4 (.v 2) (.p (.call 87 0) [(.v 2), (.v 4)]))
@[simp] def e33_32 : X := (C 5 (.v 2) (.p (.call 87 0) [(.v 2), (.v 4)]))
@[simp] def e33_33 : X := (.sl 4 [[e33_29, e33_30, e33_31, e33_32]])
@[simp] def e33_34 : X := (.p (.app 4) [(.v 3), e33_33])
@[simp] def e33_35 : X := (LN e33_34)
@[simp] def e33_36 : X := (LE e33_35 (I (1073741824)))
@[simp] def e33_37 : X := (.p (.call 100000 3300) [(.v 0), (.v 1), (.v 2), .nils, (I (1))])
@[simp] def e33_38 : X := (PJ 0 e33_37)
@[simp] def e33_39 : X := (EQ e33_38 (I (1)))
@[simp] def e33_40 : X := (EQ e33_38 (I (2)))
@[simp] def e33_41 : X := (Q e33_39 (.b true) e33_40)
@[simp] def e33_42 : X := (PJ 1 e33_37)
@[simp] def e33_43 : X := (Q e33_39 .nils e33_42)
@[simp] def e33_44 : X := (Q e33_39 (.b false) (.b true))
def B3300 : Te LEnd := .ite e33_2 (
 .need e33_5 (
 .need e33_8 (
 .ite e33_17 (
 .need e33_3 (
 .need e33_21 (
 .ok (.again [(.v 0), (.v 1), (.v 2), e33_19, (AD (.v 4) (I (1)))])))) (
 .need e33_22 (
 .ite e33_23 (
 .ok (.out 1 [])) (
 .need e33_26 (
 .ite e33_28 (
 .need e33_36 (
 .ok (.again [(.v 0), (.v 1), (.v 2), e33_34, (AD (.v 4) (I (1)))]))) (
 .ok (.again [(.v 0), (.v 1), (.v 2), (.v 3), (AD (.v 4) (I (1)))]))))))))) (
 .ok (.out 2 [(.v 3)]))
def d3300 : LoopD := ⟨3, ⟨3300, 5, ((.sym (.sl [(.int .i64), .str, (.int .i64), (.int .i64)]) (.v 0)) :: ((.sym (.sl [(.int .i64), .str, (.int .i64), (.int .i64)]) (.v 1)) :: ((.sym (.sl [(.int .i64), .bool, (.int .i64), .str, (.int .i64), (.int .i64)]) (.v 2)) :: (J 5 ((.sym (.own 0 [(.int .i64), .str, (.int .i64), (.int .i64)]) (.v 3)) :: ((.sym (.int .i64) (.v 4)) :: (J 61 []))))))), ⟨⟨2, [], [[]], none⟩, [(0, .rows [(.int .i64), .str, (.int .i64), (.int .i64)] (.v 3))], []⟩,
 [(.ret, 0, (J 6 (.nils :: ((.bool false) :: (J 63 [])))), ⟨⟨2, [], [[]], none⟩, [], []⟩),
  (.exit 0, 1, (J 8 ((.sym (.own 0 [(.int .i64), .str, (.int .i64), (.int .i64)]) (.v 0)) :: (J 62 []))), ⟨⟨2, [], [[]], none⟩, [(0, .rows [(.int .i64), .str, (.int .i64), (.int .i64)] (.v 0))], []⟩)], [(1, []), (2, [])]⟩, B3300⟩
@[simp] theorem d3300_id : d3300.L.id = 3300 := rfl
@[simp] theorem d3300_B : d3300.B = B3300 := rfl
def i33 : Inst := ⟨33, 0, [(.sym (.sl [(.int .i64), .str, (.int .i64), (.int .i64)]) (.v 0)), (.sym (.sl [(.int .i64), .str, (.int .i64), (.int .i64)]) (.v 1)), (.sym (.sl [(.int .i64), .bool, (.int .i64), .str, (.int .i64), (.int .i64)]) (.v 2))], [.one (.sl [(.int .i64), .str, (.int .i64), (.int .i64)]), .one .bool]⟩
def s33 : List Cal := [c87]
@[simp] theorem o33_87 (vs : List AV) : calO s33 87 0 vs = getJ (F87 vs) := oG rfl vs
@[simp] def l33 : List LoopD := [d3300]
def t33 : Te AV := .need e33_41 (
 .ok (.tuple [(.sym (.sl [(.int .i64), .str, (.int .i64), (.int .i64)]) e33_43), (.sym .bool e33_44)]))
def F33 : List AV → Option AV := unitF (omL KK s33 l33) t33
def c33 : Cal := ⟨i33, F33⟩
theorem x33 : XO i33 F33 := XU (cs := s33) (ds := l33) (t := t33) ⟨x87, trivial⟩ (x := g33) (by kernel_rfl) (by kernel_rfl) (by kernel_rfl)
@[simp] def e75_0 : X := (Q (LE (I (0)) (.v 2)) (LT (.v 2) (LN (.v 0))) (.b false))
@[simp] def e75_1 : X := (Q (LE (I (0)) (.v 2)) (LT (.v 2) (LN (.v 1))) (.b false))
@[simp] def e75_2 : X := (.p (.bin .neq .i64) [(C 0 (.v 0) (.v 2)), (C 0 (.v 1) (.v 2))])
@[simp] def e75_3 : X := (.p (.bin .neq .i64) [(LN (.v 0)), (LN (.v 1))])
@[simp] def e75_4 : X := (.p (.call 100000 7500) [(.v 0), (.v 1), (I (0))])
@[simp] def e75_5 : X := (PJ 0 e75_4)
@[simp] def e75_6 : X := (EQ e75_5 (I (1)))
@[simp] def e75_7 : X := (EQ e75_5 (I (2)))
@[simp] def e75_8 : X := (Q e75_6 (.b true) e75_7)
@[simp] def e75_9 : X := (Q e75_3 (.b true) e75_8)
@[simp] def e75_10 : X := (Q e75_6 (.b false) (.b true))
@[simp] def e75_11 : X := (Q e75_3 (.b false) e75_10)
def B7500 : Te LEnd := .ite (LT (.v 2) (LN (.v 0))) (
 .need e75_0 (
 .need e75_1 (
 .ite e75_2 (
 .ok (.out 1 [])) (
 .ok (.again [(.v 0), (.v 1), (AD (.v 2) (I (1)))]))))) (
 .ok (.out 2 []))
def d7500 : LoopD := ⟨4, ⟨7500, 3, ((.sym (.sl [(.int .i64)]) (.v 0)) :: ((.sym (.sl [(.int .i64)]) (.v 1)) :: (J 3 ((.sym (.int .i64) (.v 2)) :: (J 20 []))))), ⟨⟨0, [], [[]], none⟩, [], []⟩,
 [(.ret, 0, (J 4 ((.bool false) :: (J 21 []))), ⟨⟨0, [], [[]], none⟩, [], []⟩),
  (.exit 0, 0, (J 26 []), ⟨⟨0, [], [[]], none⟩, [], []⟩)], [(1, []), (2, [])]⟩, B7500⟩
@[simp] theorem d7500_id : d7500.L.id = 7500 := rfl
@[simp] theorem d7500_B : d7500.B = B7500 := rfl
def i75 : Inst := ⟨75, 0, [(.sym (.sl [(.int .i64)]) (.v 0)), (.sym (.sl [(.int .i64)]) (.v 1))], [.one .bool]⟩
def s75 : List Cal := []
@[simp] def l75 : List LoopD := [d7500]
def t75 : Te AV := .need e75_9 (
 .ok (.sym .bool e75_11))
def F75 : List AV → Option AV := unitF (omL KK s75 l75) t75
def c75 : Cal := ⟨i75, F75⟩
theorem x75 : XO i75 F75 := XU (cs := s75) (ds := l75) (t := t75) trivial (x := g75) (by kernel_rfl) (by kernel_rfl) (by kernel_rfl)
@[simp] def e74_0 : X := (.p (.okr [.one (.sl [(.int .i64)])]) [(.p (.call 30 0) [(.v 0), (.v 1)])])
@[simp] def e74_1 : X := (Q (EQ (LN (.v 0)) (LN (.v 1))) e74_0 (.b true))
@[simp] def e74_2 : X := (EQ (LN (.p (.call 30 0) [(.v 0), (.v 1)])) (I (0)))
@[simp] def e74_3 : X := (Q (EQ (LN (.v 0)) (LN (.v 1))) e74_2 (.b false))
def i74 : Inst := ⟨74, 0, [(.sym (.sl [(.int .i64), .str, (.int .i64), (.int .i64)]) (.v 0)), (.sym (.sl [(.int .i64), .str, (.int .i64), (.int .i64)]) (.v 1))], [.one .bool]⟩
def s74 : List Cal := [c30]
@[simp] theorem o74_30 (vs : List AV) : calO s74 30 0 vs = getJ (F30 vs) := oG rfl vs
@[simp] def l74 : List LoopD := []
def t74 : Te AV := .need e74_1 (
 .ok (.sym .bool e74_3))
def F74 : List AV → Option AV := unitF (omL KK s74 l74) t74
def c74 : Cal := ⟨i74, F74⟩
theorem x74 : XO i74 F74 := XU (cs := s74) (ds := l74) (t := t74) ⟨x30, trivial⟩ (x := g74) (by kernel_rfl) (by kernel_rfl) (by kernel_rfl)
end Go.Proofs.YtdeaibcebeofiaaGreatDoor.C5

namespace Go.Proofs.YtdeaibcebeofiaaGreatDoor.C5
open Go Go.Proofs.YtdeaibcebeofiaaGreatDoor.AM Go.Proofs
set_option maxRecDepth 100000
@[simp] def e16_0 : X := (Q (LE (I (0)) (.v 0)) (LT (.v 0) (LN (.v 2))) (.b false))
@[simp] def e16_1 : X := (.p (.bin .gtr .i64) [(LN (C 0 (.v 2) (.v 0))), (I (40))])
@[simp] def e16_2 : X := (.p (.bin .gtr .i64) [(LN (.v 0)), (I (20))])
@[simp] def e16_3 : X := (.p (.bin .gtr .i64) [(LN (.v 1)), (I (12))])
@[simp] def e16_4 : X := (.p (.bin .gtr .i64) [(LN (.v 1)), (I (162))])
@[simp] def e16_5 : X := (Q (LE (LN (.v 1)) (I (160))) (.b true) e16_4)
@[simp] def e16_6 : X := (Q e16_3 e16_5 e16_4)
@[simp] def e16_7 : X := (Q e16_2 (.b true) e16_6)
@[simp] def e16_8 : X := (.p (.call 100000 1600) [(I (0)), (.v 0), (.v 1), (.v 2), (.v 3)])
@[simp] def e16_9 : X := (PJ 0 e16_8)
@[simp] def e16_10 : X := (EQ e16_9 (I (1)))
@[simp] def e16_11 : X := (EQ e16_9 (I (2)))
@[simp] def e16_12 : X := (Q e16_10 (.b true) e16_11)
@[simp] def e16_13 : X := (Q e16_7 (.b true) e16_12)
@[simp] def e16_14 : X := (Q e16_10 (.b false) (.b true))
@[simp] def e16_15 : X := (Q e16_7 (.b false) e16_14)
def B1600 : Te LEnd := .ite (LT (.v 0) (LN (.v 2))) (
 .need e16_0 (
 .ite e16_1 (
 .ok (.out 1 [])) (
 .ok (.again [(AD (.v 0) (I (1))), (.v 1), (.v 2), (.v 3), (.v 4)])))) (
 .ok (.out 2 []))
def d1600 : LoopD := ⟨4, ⟨1600, 5, (J 1 ((.ptr 0 0 0) :: (J 1 ((.sym (.int .i64) (.v 0)) :: (J 36 []))))), ⟨⟨1, [(0, .cells 4 [[(.sym .str (.v 1)), (.sym (.sl [.str]) (.v 2)), (.sym (.int .i64) (.v 3)), (.sym (.int .i64) (.v 4))]])], [[]], none⟩, [], []⟩,
 [(.ret, 0, (J 2 ((.bool false) :: (J 37 []))), ⟨⟨1, [], [[]], none⟩, [], []⟩),
  (.exit 0, 0, (J 40 []), ⟨⟨1, [], [[]], none⟩, [], []⟩)], [(1, []), (2, [])]⟩, B1600⟩
@[simp] theorem d1600_id : d1600.L.id = 1600 := rfl
@[simp] theorem d1600_B : d1600.B = B1600 := rfl
def i16 : Inst := ⟨16, 0, [(.agg [(.sym .str (.v 0)), (.sym (.sl [.str]) (.v 1)), (.sym (.int .i64) (.v 2)), (.sym (.int .i64) (.v 3))])], [.one .bool]⟩
def s16 : List Cal := []
@[simp] def l16 : List LoopD := [d1600]
def t16 : Te AV := .need e16_13 (
 .ok (.sym .bool e16_15))
def F16 : List AV → Option AV := unitF (omL KK s16 l16) t16
def c16 : Cal := ⟨i16, F16⟩
theorem x16 : XO i16 F16 := XU (cs := s16) (ds := l16) (t := t16) trivial (x := g16) (by kernel_rfl) (by kernel_rfl) (by kernel_rfl)
@[simp] def e17_0 : X := (Q (LE (I (0)) (.v 1)) (LT (.v 1) (LN (.v 0))) (.b false))
@[simp] def e17_1 : X := (.p (.bin .gtr .i64) [(LN (C 1 (.v 0) (.v 1))), (I (20))])
@[simp] def e17_2 : X := (.p (.bin .gtr .i64) [(LN (.v 0)), (.v 1)])
@[simp] def e17_3 : X := (.p (.bin .gtr .i64) [(LN (.v 0)), (I (258))])
@[simp] def e17_4 : X := (Q (LE (LN (.v 0)) (I (256))) (.b true) e17_3)
@[simp] def e17_5 : X := (Q e17_2 e17_4 e17_3)
@[simp] def e17_6 : X := (.p (.call 100000 1700) [(.v 0), (I (0))])
@[simp] def e17_7 : X := (PJ 0 e17_6)
@[simp] def e17_8 : X := (EQ e17_7 (I (1)))
@[simp] def e17_9 : X := (EQ e17_7 (I (2)))
@[simp] def e17_10 : X := (Q e17_8 (.b true) e17_9)
@[simp] def e17_11 : X := (Q e17_5 (.b true) e17_10)
@[simp] def e17_12 : X := (Q e17_8 (.b false) (.b true))
@[simp] def e17_13 : X := (Q e17_5 (.b false) e17_12)
def B1700 : Te LEnd := .ite (LT (.v 1) (LN (.v 0))) (
 .need e17_0 (
 .ite e17_1 (
 .ok (.out 1 [])) (
 .ok (.again [(.v 0), (AD (.v 1) (I (1)))])))) (
 .ok (.out 2 []))
def d1700 : LoopD := ⟨4, ⟨1700, 2, ((.sym (.sl [(.int .i64), .str, (.int .i64), (.int .i64)]) (.v 0)) :: (J 4 ((.sym (.int .i64) (.v 1)) :: (J 27 [])))), ⟨⟨0, [], [[]], none⟩, [], []⟩,
 [(.ret, 0, (J 4 ((.bool false) :: (J 28 []))), ⟨⟨0, [], [[]], none⟩, [], []⟩),
  (.exit 0, 0, (J 33 []), ⟨⟨0, [], [[]], none⟩, [], []⟩)], [(1, []), (2, [])]⟩, B1700⟩
@[simp] theorem d1700_id : d1700.L.id = 1700 := rfl
@[simp] theorem d1700_B : d1700.B = B1700 := rfl
def i17 : Inst := ⟨17, 0, [(.sym (.sl [(.int .i64), .str, (.int .i64), (.int .i64)]) (.v 0)), (.sym (.int .i64) (.v 1))], [.one .bool]⟩
def s17 : List Cal := []
@[simp] def l17 : List LoopD := [d1700]
def t17 : Te AV := .need e17_11 (
 .ok (.sym .bool e17_13))
def F17 : List AV → Option AV := unitF (omL KK s17 l17) t17
def c17 : Cal := ⟨i17, F17⟩
theorem x17 : XO i17 F17 := XU (cs := s17) (ds := l17) (t := t17) trivial (x := g17) (by kernel_rfl) (by kernel_rfl) (by kernel_rfl)
@[simp] def e18_0 : X := (Q (LE (I (0)) (.v 2)) (LT (.v 2) (LN (.v 0))) (.b false))
@[simp] def e18_1 : X := (.sl 4 [[(C 0 (.v 0) (.v 2)), (C 1 (.v 0) (.v 2)), (C 2 (.v 0) (.v 2)), (C 3 (.v 0) (.v 2))]])
@[simp] def e18_2 : X := (.p (.app 4) [(.v 1), e18_1])
@[simp] def e18_3 : X := (LN e18_2)
@[simp] def e18_4 : X := (LE e18_3 (I (1073741824)))
@[simp] def e18_5 : X := (.p (.call 100000 1800) [(.v 0), .nils, (I (0))])
@[simp] def e18_6 : X := (PJ 0 e18_5)
@[simp] def e18_7 : X := (EQ e18_6 (I (1)))
@[simp] def e18_8 : X := (PJ 1 e18_5)
def B1800 : Te LEnd := .ite (LT (.v 2) (LN (.v 0))) (
 .need e18_0 (
 .need e18_4 (
 .ok (.again [(.v 0), e18_2, (AD (.v 2) (I (1)))])))) (
 .ok (.out 1 [(.v 1)]))
def d1800 : LoopD := ⟨3, ⟨1800, 3, ((.sym (.sl [(.int .i64), .str, (.int .i64), (.int .i64)]) (.v 0)) :: (J 2 ((.sym (.own 0 [(.int .i64), .str, (.int .i64), (.int .i64)]) (.v 1)) :: ((.sym (.int .i64) (.v 2)) :: (J 14 []))))), ⟨⟨2, [], [[]], none⟩, [(0, .rows [(.int .i64), .str, (.int .i64), (.int .i64)] (.v 1))], []⟩,
 [(.exit 0, 1, (J 3 ((.sym (.own 0 [(.int .i64), .str, (.int .i64), (.int .i64)]) (.v 0)) :: (J 15 []))), ⟨⟨2, [], [[]], none⟩, [(0, .rows [(.int .i64), .str, (.int .i64), (.int .i64)] (.v 0))], []⟩)], [(1, [])]⟩, B1800⟩
@[simp] theorem d1800_id : d1800.L.id = 1800 := rfl
@[simp] theorem d1800_B : d1800.B = B1800 := rfl
def i18 : Inst := ⟨18, 0, [(.sym (.sl [(.int .i64), .str, (.int .i64), (.int .i64)]) (.v 0))], [.one (.sl [(.int .i64), .str, (.int .i64), (.int .i64)])]⟩
def s18 : List Cal := []
@[simp] def l18 : List LoopD := [d1800]
def t18 : Te AV := .need e18_7 (
 .ok (.sym (.sl [(.int .i64), .str, (.int .i64), (.int .i64)]) e18_8))
def F18 : List AV → Option AV := unitF (omL KK s18 l18) t18
def c18 : Cal := ⟨i18, F18⟩
theorem x18 : XO i18 F18 := XU (cs := s18) (ds := l18) (t := t18) trivial (x := g18) (by kernel_rfl) (by kernel_rfl) (by kernel_rfl)
def i34 : Inst := ⟨34, 0, [(.sym .bool (.v 0)), (.sym (.int .i64) (.v 1))], [.one (.int .i64)]⟩
def s34 : List Cal := []
@[simp] def l34 : List LoopD := []
def t34 : Te AV := .ok (.sym (.int .i64) (Q (.v 0) (.v 1) (I (0))))
def F34 : List AV → Option AV := unitF (omL KK s34 l34) t34
def c34 : Cal := ⟨i34, F34⟩
theorem x34 : XO i34 F34 := XU (cs := s34) (ds := l34) (t := t34) trivial (x := g34) (by kernel_rfl) (by kernel_rfl) (by kernel_rfl)
def i35 : Inst := ⟨35, 0, [(.agg [(.sym (.int .i64) (.v 0)), (.sym .bool (.v 1)), (.sym (.int .i64) (.v 2)), (.sym .str (.v 3)), (.sym (.int .i64) (.v 4)), (.sym (.int .i64) (.v 5))])], [.agg [(.int .i64), .bool, (.int .i64), .str, (.int .i64), (.int .i64)]]⟩
def s35 : List Cal := []
@[simp] def l35 : List LoopD := []
def t35 : Te AV := .ok (.agg [(.sym (.int .i64) (.v 0)), (.sym .bool (.v 1)), (.sym (.int .i64) (.v 2)), (.sym .str (.v 3)), (.sym (.int .i64) (.v 4)), (.sym (.int .i64) (.v 5))])
def F35 : List AV → Option AV := unitF (omL KK s35 l35) t35
def c35 : Cal := ⟨i35, F35⟩
theorem x35 : XO i35 F35 := XU (cs := s35) (ds := l35) (t := t35) trivial (x := g35) (by kernel_rfl) (by kernel_rfl) (by kernel_rfl)
@[simp] def e32_0 : X := (Q (LE (I (0)) (.v 2)) (LT (.v 2) (LN (.v 0))) (.b false))
@[simp] def e32_1 : X := (.p (.call 35 0) [(C 0 (.v 0) (.v 2)), (C 1 (.v 0) (.v 2)), (C 2 (.v 0) (.v 2)), (C 3 (.v 0) (.v 2)), (C 4 (.v 0) (.v 2)), (C 5 (.v 0) (.v 2))])
@[simp] def e32_2 : X := (.p (.okr [.agg [(.int .i64), .bool, (.int .i64), .str, (.int .i64), (.int .i64)]]) [e32_1])
@[simp] def e32_3 : X := (.p (.fld 0) [e32_1])
@[simp] def e32_4 : X := (.p (.fld 1) [e32_1])
@[simp] def e32_5 : X := (.p (.fld 2) [e32_1])
@[simp] def e32_6 : X := (.p (.fld 3) [e32_1])
@[simp] def e32_7 : X := (.p (.fld 4) [e32_1])
@[simp] def e32_8 : X := (.p (.fld 5) [e32_1])
@[simp] def e32_9 : X := (.sl 6 [[e32_3, e32_4, e32_5, e32_6, e32_7, e32_8]])
@[simp] def e32_10 : X := (.p (.app 6) [(.v 1), e32_9])
@[simp] def e32_11 : X := (LN e32_10)
@[simp] def e32_12 : X := (LE e32_11 (I (1073741824)))
@[simp] def e32_13 : X := (.p (.call 100000 3200) [(.v 0), .nils, (I (0))])
@[simp] def e32_14 : X := (PJ 0 e32_13)
@[simp] def e32_15 : X := (EQ e32_14 (I (1)))
@[simp] def e32_16 : X := (PJ 1 e32_13)
def B3200 : Te LEnd := .ite (LT (.v 2) (LN (.v 0))) (
 .need e32_0 (
 .need e32_2 (
 .need e32_12 (
 .ok (.again [(.v 0), e32_10, (AD (.v 2) (I (1)))]))))) (
 .ok (.out 1 [(.v 1)]))
def d3200 : LoopD := ⟨3, ⟨3200, 3, ((.sym (.sl [(.int .i64), .bool, (.int .i64), .str, (.int .i64), (.int .i64)]) (.v 0)) :: (J 2 ((.sym (.own 0 [(.int .i64), .bool, (.int .i64), .str, (.int .i64), (.int .i64)]) (.v 1)) :: ((.sym (.int .i64) (.v 2)) :: (J 15 []))))), ⟨⟨2, [], [[]], none⟩, [(0, .rows [(.int .i64), .bool, (.int .i64), .str, (.int .i64), (.int .i64)] (.v 1))], []⟩,
 [(.exit 0, 1, (J 3 ((.sym (.own 0 [(.int .i64), .bool, (.int .i64), .str, (.int .i64), (.int .i64)]) (.v 0)) :: (J 16 []))), ⟨⟨2, [], [[]], none⟩, [(0, .rows [(.int .i64), .bool, (.int .i64), .str, (.int .i64), (.int .i64)] (.v 0))], []⟩)], [(1, [])]⟩, B3200⟩
@[simp] theorem d3200_id : d3200.L.id = 3200 := rfl
@[simp] theorem d3200_B : d3200.B = B3200 := rfl
def i32 : Inst := ⟨32, 0, [(.sym (.sl [(.int .i64), .bool, (.int .i64), .str, (.int .i64), (.int .i64)]) (.v 0))], [.one (.sl [(.int .i64), .bool, (.int .i64), .str, (.int .i64), (.int .i64)])]⟩
def s32 : List Cal := [c35]
@[simp] theorem o32_35 (vs : List AV) : calO s32 35 0 vs = getJ (F35 vs) := oG rfl vs
@[simp] def l32 : List LoopD := [d3200]
def t32 : Te AV := .need e32_15 (
 .ok (.sym (.sl [(.int .i64), .bool, (.int .i64), .str, (.int .i64), (.int .i64)]) e32_16))
def F32 : List AV → Option AV := unitF (omL KK s32 l32) t32
def c32 : Cal := ⟨i32, F32⟩
theorem x32 : XO i32 F32 := XU (cs := s32) (ds := l32) (t := t32) ⟨x35, trivial⟩ (x := g32) (by kernel_rfl) (by kernel_rfl) (by kernel_rfl)
@[simp] def e26_0 : X := (Q (LE (I (0)) (.v 1)) (LT (.v 1) (LN (.v 0))) (.b false))
@[simp] def e26_1 : X := (.p (.bin .gtr .i64) [(LN (C 3 (.v 0) (.v 1))), (I (20))])
@[simp] def e26_2 : X := (.p (.bin .gtr .i64) [(LN (.v 0)), (I (20))])
@[simp] def e26_3 : X := (.p (.bin .gtr .i64) [(LN (.v 0)), (I (258))])
@[simp] def e26_4 : X := (Q (LE (LN (.v 0)) (I (256))) (.b true) e26_3)
@[simp] def e26_5 : X := (Q e26_2 e26_4 e26_3)
@[simp] def e26_6 : X := (.p (.call 100000 2600) [(.v 0), (I (0))])
@[simp] def e26_7 : X := (PJ 0 e26_6)
@[simp] def e26_8 : X := (EQ e26_7 (I (1)))
@[simp] def e26_9 : X := (EQ e26_7 (I (2)))
@[simp] def e26_10 : X := (Q e26_8 (.b true) e26_9)
@[simp] def e26_11 : X := (Q e26_5 (.b true) e26_10)
@[simp] def e26_12 : X := (Q e26_8 (.b false) (.b true))
@[simp] def e26_13 : X := (Q e26_5 (.b false) e26_12)
def B2600 : Te LEnd := .ite (LT (.v 1) (LN (.v 0))) (
 .need e26_0 (
 .ite e26_1 (
 .ok (.out 1 [])) (
 .ok (.again [(.v 0), (AD (.v 1) (I (1)))])))) (
 .ok (.out 2 []))
def d2600 : LoopD := ⟨4, ⟨2600, 2, ((.sym (.sl [(.int .i64), .bool, (.int .i64), .str, (.int .i64), (.int .i64)]) (.v 0)) :: (J 2 ((.sym (.int .i64) (.v 1)) :: (J 27 [])))), ⟨⟨0, [], [[]], none⟩, [], []⟩,
 [(.ret, 0, (J 2 ((.bool false) :: (J 28 []))), ⟨⟨0, [], [[]], none⟩, [], []⟩),
  (.exit 0, 0, (J 31 []), ⟨⟨0, [], [[]], none⟩, [], []⟩)], [(1, []), (2, [])]⟩, B2600⟩
@[simp] theorem d2600_id : d2600.L.id = 2600 := rfl
@[simp] theorem d2600_B : d2600.B = B2600 := rfl
def i26 : Inst := ⟨26, 0, [(.sym (.sl [(.int .i64), .bool, (.int .i64), .str, (.int .i64), (.int .i64)]) (.v 0))], [.one .bool]⟩
def s26 : List Cal := []
@[simp] def l26 : List LoopD := [d2600]
def t26 : Te AV := .need e26_11 (
 .ok (.sym .bool e26_13))
def F26 : List AV → Option AV := unitF (omL KK s26 l26) t26
def c26 : Cal := ⟨i26, F26⟩
theorem x26 : XO i26 F26 := XU (cs := s26) (ds := l26) (t := t26) trivial (x := g26) (by kernel_rfl) (by kernel_rfl) (by kernel_rfl)
@[simp] def e23_0 : X := (.p (.okr [.one .bool]) [(.p (.call 75 0) [(.v 0), (.v 3)])])
@[simp] def e23_1 : X := (Q (EQ (.v 1) (I (0))) e23_0 (.b true))
@[simp] def e23_2 : X := (Q (.p (.bin .neq .i64) [(.v 2), (I (0))]) (.b true) e23_1)
@[simp] def e23_3 : X := (Q (EQ (LN (.v 0)) (I (0))) (EQ (.v 1) (.v 2)) (.b false))
@[simp] def e23_4 : X := (Q (EQ (.v 1) (I (0))) (.p (.call 75 0) [(.v 0), (.v 3)]) (.b false))
@[simp] def e23_5 : X := (Q (.p (.bin .neq .i64) [(.v 2), (I (0))]) e23_3 e23_4)
def i23 : Inst := ⟨23, 0, [(.sym (.sl [(.int .i64)]) (.v 0)), (.sym (.int .i64) (.v 1)), (.sym (.int .i64) (.v 2)), (.sym (.sl [(.int .i64)]) (.v 3))], [.one .bool]⟩
def s23 : List Cal := [c75]
@[simp] theorem o23_75 (vs : List AV) : calO s23 75 0 vs = getJ (F75 vs) := oG rfl vs
@[simp] def l23 : List LoopD := []
def t23 : Te AV := .need e23_2 (
 .ok (.sym .bool e23_5))
def F23 : List AV → Option AV := unitF (omL KK s23 l23) t23
def c23 : Cal := ⟨i23, F23⟩
theorem x23 : XO i23 F23 := XU (cs := s23) (ds := l23) (t := t23) ⟨x75, trivial⟩ (x := g23) (by kernel_rfl) (by kernel_rfl) (by kernel_rfl)
@[simp] def e29_0 : X := (.p (.okr [.one (.sl [(.int .i64), .str, (.int .i64), (.int .i64)])]) [(.p (.call 18 0) [(.v 0)])])
@[simp] def e29_1 : X := (Q (EQ (.v 1) (I (0))) e29_0 (.b true))
@[simp] def e29_2 : X := (Q (.p (.bin .neq .i64) [(.v 2), (I (0))]) (.b true) e29_1)
@[simp] def e29_3 : X := (.p (.call 74 0) [(.p (.call 18 0) [(.v 0)]), (.v 3)])
@[simp] def e29_4 : X := (.p (.okr [.one .bool]) [e29_3])
@[simp] def e29_5 : X := (Q (EQ (.v 1) (I (0))) e29_4 (.b true))
@[simp] def e29_6 : X := (Q (.p (.bin .neq .i64) [(.v 2), (I (0))]) (.b true) e29_5)
@[simp] def e29_7 : X := (Q (EQ (LN (.v 0)) (I (0))) (EQ (.v 1) (.v 2)) (.b false))
@[simp] def e29_8 : X := (Q (EQ (.v 1) (I (0))) e29_3 (.b false))
@[simp] def e29_9 : X := (Q (.p (.bin .neq .i64) [(.v 2), (I (0))]) e29_7 e29_8)
def i29 : Inst := ⟨29, 0, [(.sym (.sl [(.int .i64), .str, (.int .i64), (.int .i64)]) (.v 0)), (.sym (.int .i64) (.v 1)), (.sym (.int .i64) (.v 2)), (.sym (.sl [(.int .i64), .str, (.int .i64), (.int .i64)]) (.v 3))], [.one .bool]⟩
def s29 : List Cal := [c18, c74]
@[simp] theorem o29_18 (vs : List AV) : calO s29 18 0 vs = getJ (F18 vs) := oG rfl vs
@[simp] theorem o29_74 (vs : List AV) : calO s29 74 0 vs = getJ (F74 vs) := oG rfl vs
@[simp] def l29 : List LoopD := []
def t29 : Te AV := .need e29_2 (
 .need e29_6 (
 .ok (.sym .bool e29_9)))
def F29 : List AV → Option AV := unitF (omL KK s29 l29) t29
def c29 : Cal := ⟨i29, F29⟩
theorem x29 : XO i29 F29 := XU (cs := s29) (ds := l29) (t := t29) ⟨x18, x74, trivial⟩ (x := g29) (by kernel_rfl) (by kernel_rfl) (by kernel_rfl)
end Go.Proofs.YtdeaibcebeofiaaGreatDoor.C5

namespace Go.Proofs.YtdeaibcebeofiaaGreatDoor.C5
open Go Go.Proofs.YtdeaibcebeofiaaGreatDoor.AM Go.Proofs
def i15 : Inst := ⟨15, 0, [], [.one .bool]⟩
def F15 : List AV → Option AV := fun _ => some (.bool true)
def c15 : Cal := ⟨i15, F15⟩
theorem x15 : ExtOk Tryz.prog 15 (extI i15 F15) := by
 have E : ExtOk Tryz.prog 15 (extTab [(a119, r119)]) := extOk_tab kn15 (fun e he => by
  simp only [List.mem_singleton] at he; subst he; exact row119)
 refine ⟨E.1, fun args r h B0 nx0 w ρ vargs H hrel hg hfl => E.2 args r h B0 nx0 w ρ vargs H hrel ?_ hfl⟩
 unfold extI at hg
 split at hg
 ·rename_i l hl
  split at hg
  ·cases ha : args.map (frz h 0 12) with
   | nil => rw [← hg]; rfl
   | cons x y => rw [ha] at hl; simp [i15, mtVs] at hl
  ·cases hg
 ·cases hg
end Go.Proofs.YtdeaibcebeofiaaGreatDoor.C5
