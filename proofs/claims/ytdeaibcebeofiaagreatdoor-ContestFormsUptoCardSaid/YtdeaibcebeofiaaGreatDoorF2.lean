/-
  Functions, as trees.
-/
import Derived.Test.YtdeaibcebeofiaaGreatDoorF1
set_option linter.unusedVariables false
set_option linter.unusedSimpArgs false
set_option linter.unusedSectionVars false
namespace Go.Proofs.YtdeaibcebeofiaaGreatDoor.C5
open Go Go.Proofs.YtdeaibcebeofiaaGreatDoor.AM Go.Proofs
set_option maxRecDepth 100000
@[simp] def e90_0 : X := (Q (LT (.v 0) (.v 1)) (.b true) (.p (.bin .gtr .i64) [(.v 0), (.v 2)]))
def i90 : Inst := ⟨90, 0, [(Si 0), (Si 1), (Si 2)], [.one .bool]⟩
def s90 : List Cal := []
@[simp] def l90 : List LoopD := []
def t90 : Te AV := .ok (.sym .bool e90_0)
def F90 : List AV → Option AV := unitF (omL KK s90 l90) t90
def c90 : Cal := ⟨i90, F90⟩
theorem x90 : XO i90 F90 := XU (cs := s90) (ds := l90) (t := t90) trivial (x := g90) (by kernel_rfl) (by kernel_rfl) (by kernel_rfl)
@[simp] def e116_0 : X := (Q (.p (.sbin .eql) [(.v 0), (.s w2)]) (I (8)) (I (0)))
@[simp] def e116_1 : X := (Q (.p (.sbin .eql) [(.v 0), (.s w1)]) (I (8)) e116_0)
@[simp] def e116_2 : X := (Q (.p (.sbin .eql) [(.v 0), (.s w0)]) (I (64)) e116_1)
def i116 : Inst := ⟨116, 0, [(Ss 0)], [.one (.int .i64)]⟩
def s116 : List Cal := []
@[simp] def l116 : List LoopD := []
def t116 : Te AV := .ok (.sym (.int .i64) e116_2)
def F116 : List AV → Option AV := unitF (omL KK s116 l116) t116
def c116 : Cal := ⟨i116, F116⟩
theorem x116 : XO i116 F116 := XU (cs := s116) (ds := l116) (t := t116) trivial (x := g116) (by kernel_rfl) (by kernel_rfl) (by kernel_rfl)
@[simp] def e117_0 : X := (Q (LE (I (0)) (.v 1)) (LT (.v 1) (LN (.v 0))) (.b false))
@[simp] def e117_1 : X := (.p (.bin .geq .u8) [(.p .byte [(.v 0), (.v 1)]), (.i .u8 (97))])
@[simp] def e117_2 : X := (.p (.bin .leq .u8) [(.p .byte [(.v 0), (.v 1)]), (.i .u8 (122))])
@[simp] def e117_3 : X := (.p (.bin .geq .u8) [(.p .byte [(.v 0), (.v 1)]), (.i .u8 (65))])
@[simp] def e117_4 : X := (.p (.bin .leq .u8) [(.p .byte [(.v 0), (.v 1)]), (.i .u8 (90))])
@[simp] def e117_5 : X := (Q e117_3 e117_4 (.b false))
@[simp] def e117_6 : X := (Q e117_2 (.b true) e117_5)
@[simp] def e117_7 : X := (Q e117_1 e117_6 e117_5)
@[simp] def e117_8 : X := (.p .not [e117_7])
@[simp] def e117_9 : X := (.p (.bin .geq .u8) [(.p .byte [(.v 0), (.v 1)]), (.i .u8 (48))])
@[simp] def e117_10 : X := (.p (.bin .leq .u8) [(.p .byte [(.v 0), (.v 1)]), (.i .u8 (57))])
@[simp] def e117_11 : X := (.p (.bin .eql .u8) [(.p .byte [(.v 0), (.v 1)]), (.i .u8 (95))])
@[simp] def e117_12 : X := (.p .not [e117_11])
@[simp] def e117_13 : X := (Q e117_10 (.b false) e117_12)
@[simp] def e117_14 : X := (Q e117_9 e117_13 e117_12)
@[simp] def e117_15 : X := (Q (EQ (.v 1) (I (0))) (.b true) e117_14)
@[simp] def e117_16 : X := (Q e117_8 e117_15 (.b false))
@[simp] def e117_17 : X := (.p (.bin .gtr .i64) [(LN (.v 0)), (I (24))])
@[simp] def e117_18 : X := (Q (LT (LN (.v 0)) (I (1))) (.b true) e117_17)
@[simp] def e117_19 : X := (.p (.call 100000 11700) [(.v 0), (I (0))])
@[simp] def e117_20 : X := (PJ 0 e117_19)
@[simp] def e117_21 : X := (EQ e117_20 (I (1)))
@[simp] def e117_22 : X := (EQ e117_20 (I (2)))
@[simp] def e117_23 : X := (Q e117_21 (.b true) e117_22)
@[simp] def e117_24 : X := (Q e117_18 (.b true) e117_23)
@[simp] def e117_25 : X := (Q e117_21 (.b false) (.b true))
@[simp] def e117_26 : X := (Q e117_18 (.b false) e117_25)
def B11700 : Te LEnd := .ite (LT (.v 1) (LN (.v 0))) (
 .need e117_0 (
 .ite e117_16 (
 .ok (.out 1 [])) (
 .ok (.again [(.v 0), (AD (.v 1) (I (1)))])))) (
 .ok (.out 2 []))
def d11700 : LoopD := ⟨4, ⟨11700, 2, ((Ss 0) :: (J 2 ((Si 1) :: (J 52 [])))), ⟨⟨0, [], [[]], none⟩, [], []⟩,
 [(.ret, 0, (J 2 ((.bool false) :: (J 53 []))), ⟨⟨0, [], [[]], none⟩, [], []⟩),
  (.exit 0, 0, (J 56 []), ⟨⟨0, [], [[]], none⟩, [], []⟩)], [(1, []), (2, [])]⟩, B11700⟩
@[simp] theorem d11700_id : d11700.L.id = 11700 := rfl
@[simp] theorem d11700_B : d11700.B = B11700 := rfl
def i117 : Inst := ⟨117, 0, [(Ss 0)], [.one .bool]⟩
def s117 : List Cal := []
@[simp] def l117 : List LoopD := [d11700]
def t117 : Te AV := .need e117_24 (
 .ok (.sym .bool e117_26))
def F117 : List AV → Option AV := unitF (omL KK s117 l117) t117
def c117 : Cal := ⟨i117, F117⟩
theorem x117 : XO i117 F117 := XU (cs := s117) (ds := l117) (t := t117) trivial (x := g117) (by kernel_rfl) (by kernel_rfl) (by kernel_rfl)
@[simp] def e182_0 : X := (Q (LE (I (0)) (.v 2)) (LT (.v 2) (LN (.v 0))) (.b false))
@[simp] def e182_1 : X := (.p (.sbin .eql) [(C 0 (.v 0) (.v 2)), (.v 1)])
@[simp] def e182_2 : X := (.p (.call 100000 18200) [(.v 0), (.v 1), (I (0))])
@[simp] def e182_3 : X := (PJ 0 e182_2)
@[simp] def e182_4 : X := (EQ e182_3 (I (1)))
@[simp] def e182_5 : X := (EQ e182_3 (I (2)))
@[simp] def e182_6 : X := (Q e182_4 (.b true) e182_5)
@[simp] def e182_7 : X := (Q e182_4 (.b true) (.b false))
def B18200 : Te LEnd := .ite (LT (.v 2) (LN (.v 0))) (
 .need e182_0 (
 .ite e182_1 (
 .ok (.out 1 [])) (
 .ok (.again [(.v 0), (.v 1), (AD (.v 2) (I (1)))])))) (
 .ok (.out 2 []))
def d18200 : LoopD := ⟨2, ⟨18200, 3, ((S1 0) :: ((Ss 1) :: (J 3 ((Si 2) :: (J 12 []))))), ⟨⟨0, [], [[]], none⟩, [], []⟩,
 [(.ret, 0, (J 4 ((.bool true) :: (J 13 []))), ⟨⟨0, [], [[]], none⟩, [], []⟩),
  (.exit 0, 0, (J 18 []), ⟨⟨0, [], [[]], none⟩, [], []⟩)], [(1, []), (2, [])]⟩, B18200⟩
@[simp] theorem d18200_id : d18200.L.id = 18200 := rfl
@[simp] theorem d18200_B : d18200.B = B18200 := rfl
def i182 : Inst := ⟨182, 0, [(S1 0), (Ss 1)], [.one .bool]⟩
def s182 : List Cal := []
@[simp] def l182 : List LoopD := [d18200]
def t182 : Te AV := .need e182_6 (
 .ok (.sym .bool e182_7))
def F182 : List AV → Option AV := unitF (omL KK s182 l182) t182
def c182 : Cal := ⟨i182, F182⟩
theorem x182 : XO i182 F182 := XU (cs := s182) (ds := l182) (t := t182) trivial (x := g182) (by kernel_rfl) (by kernel_rfl) (by kernel_rfl)
@[simp] def e131_0 : X := (.p (.okr [.one .bool]) [(.p (.call 182 0) [(.v 1), (.v 0)])])
def i131 : Inst := ⟨131, 0, [(Ss 0), (S1 1)], [.one .bool]⟩
def s131 : List Cal := [c182]
@[simp] theorem o131_182 : OE s131 182 F182 := oG rfl
@[simp] def l131 : List LoopD := []
def t131 : Te AV := .need e131_0 (
 .ok (.sym .bool (.p (.call 182 0) [(.v 1), (.v 0)])))
def F131 : List AV → Option AV := unitF (omL KK s131 l131) t131
def c131 : Cal := ⟨i131, F131⟩
theorem x131 : XO i131 F131 := XU (cs := s131) (ds := l131) (t := t131) ⟨x182, trivial⟩ (x := g131) (by kernel_rfl) (by kernel_rfl) (by kernel_rfl)
def i132 : Inst := ⟨132, 0, [(Ss 0)], [.one (.sl [.str])]⟩
def s132 : List Cal := []
@[simp] def l132 : List LoopD := []
def t132 : Te AV := .ite (.p (.sbin .eql) [(.v 0), (.s w0)]) (
 .ok (.sl 1 [[(.str w4)], [(.str w5)], [(.str w6)], [(.str w9)], [(.str w10)], [(.str w12)], [(.str w15)], [(.str w16)], [(.str w17)]])) (
 .ite (.p (.sbin .eql) [(.v 0), (.s w1)]) (
 .ok (.sl 1 [[(.str w4)], [(.str w7)], [(.str w8)], [(.str w9)], [(.str w10)], [(.str w11)], [(.str w12)], [(.str w15)], [(.str w16)], [(.str w17)]])) (
 .ite (.p (.sbin .eql) [(.v 0), (.s w2)]) (
 .ok (.sl 1 [[(.str w4)], [(.str w13)], [(.str w14)], [(.str w10)], [(.str w15)], [(.str w16)], [(.str w17)]])) (
 .ok (.sl 1 [[(.str w4)], [(.str w5)], [(.str w6)], [(.str w7)], [(.str w8)], [(.str w9)], [(.str w10)], [(.str w11)], [(.str w12)], [(.str w13)], [(.str w14)], [(.str w15)], [(.str w16)], [(.str w17)]]))))
def F132 : List AV → Option AV := unitF (omL KK s132 l132) t132
def c132 : Cal := ⟨i132, F132⟩
theorem x132 : XO i132 F132 := XU (cs := s132) (ds := l132) (t := t132) trivial (x := g132) (by kernel_rfl) (by kernel_rfl) (by kernel_rfl)
@[simp] def e82_0 : X := (.p (.call 90 0) [(.v 4), (I (0)), (SB (LN (.v 1)) (I (1)))])
@[simp] def e82_1 : X := (.p (.okr [.one .bool]) [e82_0])
@[simp] def e82_2 : X := (.p (.okr [.one (.sl [.str])]) [(.p (.call 132 0) [(.s w3)])])
@[simp] def e82_3 : X := (Q e82_0 (.b true) e82_2)
@[simp] def e82_4 : X := (.p (.call 131 0) [(.v 5), (.p (.call 132 0) [(.s w3)])])
@[simp] def e82_5 : X := (.p (.okr [.one .bool]) [e82_4])
@[simp] def e82_6 : X := (Q e82_0 (.b true) e82_5)
@[simp] def e82_7 : X := (.p .not [e82_4])
@[simp] def e82_8 : X := (.p (.call 90 0) [(.v 6), (I (0)), (I (86399999))])
@[simp] def e82_9 : X := (.p (.okr [.one .bool]) [e82_8])
@[simp] def e82_10 : X := (Q e82_7 (.b true) e82_9)
@[simp] def e82_11 : X := (Q e82_0 (.b true) e82_10)
@[simp] def e82_12 : X := (.p (.call 90 0) [(.v 7), (I (0)), (I (86399999))])
@[simp] def e82_13 : X := (.p (.okr [.one .bool]) [e82_12])
@[simp] def e82_14 : X := (Q e82_8 (.b true) e82_13)
@[simp] def e82_15 : X := (Q e82_7 (.b true) e82_14)
@[simp] def e82_16 : X := (Q e82_0 (.b true) e82_15)
@[simp] def e82_17 : X := (Q e82_8 (.b true) e82_12)
@[simp] def e82_18 : X := (.sl 1 [[(.s w4)], [(.s w5)], [(.s w13)]])
@[simp] def e82_19 : X := (.p (.call 131 0) [(.v 5), e82_18])
@[simp] def e82_20 : X := (.p (.okr [.one .bool]) [e82_19])
@[simp] def e82_21 : X := (Q (.p (.bin .neq .i64) [(.v 6), (I (0))]) e82_20 (.b true))
@[simp] def e82_22 : X := (Q e82_17 (.b true) e82_21)
@[simp] def e82_23 : X := (Q e82_7 (.b true) e82_22)
@[simp] def e82_24 : X := (Q e82_0 (.b true) e82_23)
@[simp] def e82_25 : X := (.p .not [e82_19])
@[simp] def e82_26 : X := (Q (.p (.bin .neq .i64) [(.v 6), (I (0))]) e82_25 (.b false))
@[simp] def e82_27 : X := (Q e82_26 (I (1)) (I (0)))
@[simp] def e82_28 : X := (Q e82_17 (I (3)) e82_27)
@[simp] def e82_29 : X := (Q e82_7 (I (13)) e82_28)
@[simp] def e82_30 : X := (Q e82_0 (I (10)) e82_29)
def i82 : Inst := ⟨82, 0, [(.agg [(Ss 0), (S1 1), (Si 2), (Si 3)]), (.agg [(Si 4), (Ss 5), (Si 6), (Si 7)])], [.one (.int .i64)]⟩
def s82 : List Cal := [c90, c132, c131]
@[simp] theorem o82_90 : OE s82 90 F90 := oG rfl
@[simp] theorem o82_132 : OE s82 132 F132 := oG rfl
@[simp] theorem o82_131 : OE s82 131 F131 := oG rfl
@[simp] def l82 : List LoopD := []
def t82 : Te AV := .need e82_1 (
 .need e82_3 (
 .need e82_6 (
 .need e82_11 (
 .need e82_16 (
 .need e82_24 (
 .ok (.sym (.int .i64) e82_30)))))))
def F82 : List AV → Option AV := unitF (omL KK s82 l82) t82
def c82 : Cal := ⟨i82, F82⟩
theorem x82 : XO i82 F82 := XU (cs := s82) (ds := l82) (t := t82) ⟨x90, x132, x131, trivial⟩ (x := g82) (by kernel_rfl) (by kernel_rfl) (by kernel_rfl)
@[simp] def e59_0 : X := (Q (LE (I (0)) (.v 0)) (LT (.v 0) (LN (.v 2))) (.b false))
@[simp] def e59_1 : X := (.p (.okr [.one .bool]) [(.p (.call 117 0) [(C 0 (.v 2) (.v 0))])])
@[simp] def e59_2 : X := (.p .not [(.p (.call 117 0) [(C 0 (.v 2) (.v 0))])])
@[simp] def e59_3 : X := (.p (.call 100000 5901) [(.v 0), (I (0)), (.v 1), (.v 2), (.v 3), (.v 4)])
@[simp] def e59_4 : X := (PJ 0 e59_3)
@[simp] def e59_5 : X := (EQ e59_4 (I (1)))
@[simp] def e59_6 : X := (EQ e59_4 (I (2)))
@[simp] def e59_7 : X := (Q (LE (I (0)) (.v 1)) (LT (.v 1) (LN (.v 3))) (.b false))
@[simp] def e59_8 : X := (Q (LE (I (0)) (.v 0)) (LT (.v 0) (LN (.v 3))) (.b false))
@[simp] def e59_9 : X := (.p (.sbin .eql) [(C 0 (.v 3) (.v 1)), (C 0 (.v 3) (.v 0))])
@[simp] def e59_10 : X := (.p (.okr [.one (.int .i64)]) [(.p (.call 116 0) [(.v 0)])])
@[simp] def e59_11 : X := (.p (.bin .gtr .i64) [(LN (.v 1)), (I (160))])
@[simp] def e59_12 : X := (.p (.call 100000 5900) [(I (0)), (.v 0), (.v 1), (.v 2), (.v 3)])
@[simp] def e59_13 : X := (PJ 0 e59_12)
@[simp] def e59_14 : X := (EQ e59_13 (I (1)))
@[simp] def e59_15 : X := (EQ e59_13 (I (2)))
@[simp] def e59_16 : X := (Q e59_14 (.b true) e59_15)
@[simp] def e59_17 : X := (Q e59_11 (.b true) e59_16)
@[simp] def e59_18 : X := (Q (EQ (LN (.v 1)) (I (0))) (.b true) e59_17)
@[simp] def e59_19 : X := (Q (EQ (.p (.call 116 0) [(.v 0)]) (I (0))) (.b true) e59_18)
@[simp] def e59_20 : X := (.p (.call 90 0) [(.v 2), (I (1)), (.p (.call 116 0) [(.v 0)])])
@[simp] def e59_21 : X := (.p (.okr [.one .bool]) [e59_20])
@[simp] def e59_22 : X := (Q e59_14 (.b true) e59_21)
@[simp] def e59_23 : X := (Q e59_11 (.b true) e59_22)
@[simp] def e59_24 : X := (Q (EQ (LN (.v 1)) (I (0))) (.b true) e59_23)
@[simp] def e59_25 : X := (Q (EQ (.p (.call 116 0) [(.v 0)]) (I (0))) (.b true) e59_24)
@[simp] def e59_26 : X := (.p (.call 90 0) [(.v 3), (I (1)), (I (86399999))])
@[simp] def e59_27 : X := (.p (.okr [.one .bool]) [e59_26])
@[simp] def e59_28 : X := (Q e59_20 (.b true) e59_27)
@[simp] def e59_29 : X := (Q e59_14 (.b true) e59_28)
@[simp] def e59_30 : X := (Q e59_11 (.b true) e59_29)
@[simp] def e59_31 : X := (Q (EQ (LN (.v 1)) (I (0))) (.b true) e59_30)
@[simp] def e59_32 : X := (Q (EQ (.p (.call 116 0) [(.v 0)]) (I (0))) (.b true) e59_31)
@[simp] def e59_33 : X := (PJ 1 e59_12)
@[simp] def e59_34 : X := (Q e59_20 (.b true) e59_26)
@[simp] def e59_35 : X := (Q e59_34 (I (3)) (I (0)))
@[simp] def e59_36 : X := (Q e59_14 e59_33 e59_35)
@[simp] def e59_37 : X := (Q e59_11 (I (5)) e59_36)
@[simp] def e59_38 : X := (Q (EQ (LN (.v 1)) (I (0))) (I (12)) e59_37)
@[simp] def e59_39 : X := (Q (EQ (.p (.call 116 0) [(.v 0)]) (I (0))) (I (13)) e59_38)
def B5900 : Te LEnd := .ite (LT (.v 0) (LN (.v 2))) (
 .need e59_0 (
 .need e59_1 (
 .ite e59_2 (
 .ok (.out 1 [(I (8))])) (
 .ite e59_5 (
 .ok (.out 1 [(I (9))])) (
 .need e59_6 (
 .ok (.again [(AD (.v 0) (I (1))), (.v 1), (.v 2), (.v 3), (.v 4)]))))))) (
 .ok (.out 2 [(.v 1), (.v 2), (.v 3), (.v 4)]))
def d5900 : LoopD := ⟨8, ⟨5900, 5, (J 1 ((.ptr 0 0 0) :: (J 1 ((Si 0) :: (J 54 []))))), ⟨⟨1, [(0, .cells 4 [[(Ss 1), (S1 2), (Si 3), (Si 4)]])], [[]], none⟩, [], []⟩,
 [(.ret, 1, (J 2 ((Si 0) :: (J 55 []))), ⟨⟨1, [], [[]], none⟩, [], []⟩),
  (.exit 0, 4, (J 1 ((.ptr 0 0 0) :: (J 56 []))), ⟨⟨1, [(0, .cells 4 [[(Ss 0), (S1 1), (Si 2), (Si 3)]])], [[]], none⟩, [], []⟩)], [(1, []), (2, [(0, 1), (1, 2), (2, 3), (3, 4)])]⟩, B5900⟩
@[simp] theorem d5900_id : d5900.L.id = 5900 := rfl
@[simp] theorem d5900_B : d5900.B = B5900 := rfl
def B5901 : Te LEnd := .ite (LT (.v 1) (.v 0)) (
 .need e59_7 (
 .need e59_8 (
 .ite e59_9 (
 .ok (.out 1 [])) (
 .ok (.again [(.v 0), (AD (.v 1) (I (1))), (.v 2), (.v 3), (.v 4), (.v 5)]))))) (
 .ok (.out 2 [(.v 0), (.v 2), (.v 3), (.v 4), (.v 5)]))
def d5901 : LoopD := ⟨13, ⟨5901, 6, (J 1 ((.ptr 0 0 0) :: (J 1 ((Si 0) :: ((Si 1) :: (J 53 [])))))), ⟨⟨1, [(0, .cells 4 [[(Ss 2), (S1 3), (Si 4), (Si 5)]])], [[]], none⟩, [], []⟩,
 [(.ret, 0, (J 2 ((.int .i64 (9)) :: (J 55 []))), ⟨⟨1, [], [[]], none⟩, [], []⟩),
  (.exit 2, 5, (J 1 ((.ptr 0 0 0) :: (J 1 ((Si 0) :: (J 54 []))))), ⟨⟨1, [(0, .cells 4 [[(Ss 1), (S1 2), (Si 3), (Si 4)]])], [[]], none⟩, [], []⟩)], [(1, []), (2, [(0, 0), (1, 2), (2, 3), (3, 4), (4, 5)])]⟩, B5901⟩
@[simp] theorem d5901_id : d5901.L.id = 5901 := rfl
@[simp] theorem d5901_B : d5901.B = B5901 := rfl
def i59 : Inst := ⟨59, 0, [(.agg [(Ss 0), (S1 1), (Si 2), (Si 3)])], [.one (.int .i64)]⟩
def s59 : List Cal := [c116, c90, c117]
@[simp] theorem o59_116 : OE s59 116 F116 := oG rfl
@[simp] theorem o59_90 : OE s59 90 F90 := oG rfl
@[simp] theorem o59_117 : OE s59 117 F117 := oG rfl
@[simp] def l59 : List LoopD := [d5900, d5901]
def t59 : Te AV := .need e59_10 (
 .need e59_19 (
 .need e59_25 (
 .need e59_32 (
 .ok (.sym (.int .i64) e59_39)))))
def F59 : List AV → Option AV := unitF (omL KK s59 l59) t59
def c59 : Cal := ⟨i59, F59⟩
theorem x59 : XO i59 F59 := XU (cs := s59) (ds := l59) (t := t59) ⟨x116, x90, x117, trivial⟩ (x := g59) (by kernel_rfl) (by kernel_rfl) (by kernel_rfl)
@[simp] def e21_0 : X := (Q (LE (I (0)) (.v 1)) (LT (.v 1) (LN (.v 0))) (.b false))
@[simp] def e21_1 : X := (.p (.call 82 0) [(.v 2), (.v 3), (.v 4), (.v 5), (C 0 (.v 0) (.v 1)), (C 1 (.v 0) (.v 1)), (C 2 (.v 0) (.v 1)), (C 3 (.v 0) (.v 1))])
@[simp] def e21_2 : X := (.p (.okr [.one (.int .i64)]) [e21_1])
@[simp] def e21_3 : X := (.p (.bin .neq .i64) [e21_1, (I (0))])
@[simp] def e21_4 : X := (.p (.call 59 0) [(.v 0), (.v 1), (.v 2), (.v 3)])
@[simp] def e21_5 : X := (.p (.okr [.one (.int .i64)]) [e21_4])
@[simp] def e21_6 : X := (.p (.bin .neq .i64) [e21_4, (I (0))])
@[simp] def e21_7 : X := (.p (.bin .gtr .i64) [(LN (.v 4)), (I (256))])
@[simp] def e21_8 : X := (.p (.call 100000 2100) [(.v 4), (I (0)), (.v 0), (.v 1), (.v 2), (.v 3)])
@[simp] def e21_9 : X := (PJ 0 e21_8)
@[simp] def e21_10 : X := (EQ e21_9 (I (1)))
@[simp] def e21_11 : X := (EQ e21_9 (I (2)))
@[simp] def e21_12 : X := (Q e21_10 (.b true) e21_11)
@[simp] def e21_13 : X := (Q e21_7 (.b true) e21_12)
@[simp] def e21_14 : X := (Q e21_6 (.b true) e21_13)
@[simp] def e21_15 : X := (PJ 1 e21_8)
@[simp] def e21_16 : X := (Q e21_10 e21_15 (I (0)))
@[simp] def e21_17 : X := (Q e21_7 (I (5)) e21_16)
@[simp] def e21_18 : X := (Q e21_6 e21_4 e21_17)
def B2100 : Te LEnd := .ite (LT (.v 1) (LN (.v 0))) (
 .need e21_0 (
 .need e21_2 (
 .ite e21_3 (
 .ok (.out 1 [e21_1])) (
 .ok (.again [(.v 0), (AD (.v 1) (I (1))), (.v 2), (.v 3), (.v 4), (.v 5)]))))) (
 .ok (.out 2 []))
def d2100 : LoopD := ⟨7, ⟨2100, 6, (J 1 ((.sym (.sl [(.int .i64), .str, (.int .i64), (.int .i64)]) (.v 0)) :: ((.ptr 0 0 0) :: (J 3 ((Si 1) :: (J 23 [])))))), ⟨⟨1, [(0, .cells 4 [[(Ss 2), (S1 3), (Si 4), (Si 5)]])], [[]], none⟩, [], []⟩,
 [(.ret, 1, (J 4 ((Si 0) :: (J 25 []))), ⟨⟨1, [], [[]], none⟩, [], []⟩),
  (.exit 0, 0, (J 30 []), ⟨⟨1, [], [[]], none⟩, [], []⟩)], [(1, []), (2, [])]⟩, B2100⟩
@[simp] theorem d2100_id : d2100.L.id = 2100 := rfl
@[simp] theorem d2100_B : d2100.B = B2100 := rfl
def i21 : Inst := ⟨21, 0, [(.agg [(Ss 0), (S1 1), (Si 2), (Si 3)]), (.sym (.sl [(.int .i64), .str, (.int .i64), (.int .i64)]) (.v 4))], [.one (.int .i64)]⟩
def s21 : List Cal := [c59, c82]
@[simp] theorem o21_59 : OE s21 59 F59 := oG rfl
@[simp] theorem o21_82 : OE s21 82 F82 := oG rfl
@[simp] def l21 : List LoopD := [d2100]
def t21 : Te AV := .need e21_5 (
 .need e21_14 (
 .ok (.sym (.int .i64) e21_18)))
def F21 : List AV → Option AV := unitF (omL KK s21 l21) t21
def c21 : Cal := ⟨i21, F21⟩
theorem x21 : XO i21 F21 := XU (cs := s21) (ds := l21) (t := t21) ⟨x59, x82, trivial⟩ (x := g21) (by kernel_rfl) (by kernel_rfl) (by kernel_rfl)
@[simp] def e75_0 : X := (Q (LE (I (0)) (.v 2)) (LT (.v 2) (LN (.v 0))) (.b false))
@[simp] def e75_1 : X := (Q (LE (I (0)) (.v 2)) (LT (.v 2) (LN (.v 1))) (.b false))
@[simp] def e75_2 : X := (.p (.bin .neq .i64) [(C 0 (.v 0) (.v 2)), (C 0 (.v 1) (.v 2))])
@[simp] def e75_3 : X := (.p (.bin .neq .i64) [(LN (.v 0)), (LN (.v 1))])
@[simp] def e75_4 : X := (.p (.call 100000 7500) [(.v 0), (.v 1), (I (0))])
@[simp] def e75_5 : X := (PJ 0 e75_4)
@[simp] def e75_6 : X := (EQ e75_5 (I (1)))
@[simp] def e75_7 : X := (EQ e75_5 (I (2)))
@[simp] def e75_8 : X := (Q e75_6 (.b true) e75_7)
@[simp] def e75_9 : X := (Q e75_3 (.b true) e75_8)
@[simp] def e75_10 : X := (Q e75_6 (.b false) (.b true))
@[simp] def e75_11 : X := (Q e75_3 (.b false) e75_10)
def B7500 : Te LEnd := .ite (LT (.v 2) (LN (.v 0))) (
 .need e75_0 (
 .need e75_1 (
 .ite e75_2 (
 .ok (.out 1 [])) (
 .ok (.again [(.v 0), (.v 1), (AD (.v 2) (I (1)))]))))) (
 .ok (.out 2 []))
def d7500 : LoopD := ⟨4, ⟨7500, 3, ((S2 0) :: ((S2 1) :: (J 3 ((Si 2) :: (J 20 []))))), ⟨⟨0, [], [[]], none⟩, [], []⟩,
 [(.ret, 0, (J 4 ((.bool false) :: (J 21 []))), ⟨⟨0, [], [[]], none⟩, [], []⟩),
  (.exit 0, 0, (J 26 []), ⟨⟨0, [], [[]], none⟩, [], []⟩)], [(1, []), (2, [])]⟩, B7500⟩
@[simp] theorem d7500_id : d7500.L.id = 7500 := rfl
@[simp] theorem d7500_B : d7500.B = B7500 := rfl
def i75 : Inst := ⟨75, 0, [(S2 0), (S2 1)], [.one .bool]⟩
def s75 : List Cal := []
@[simp] def l75 : List LoopD := [d7500]
def t75 : Te AV := .need e75_9 (
 .ok (.sym .bool e75_11))
def F75 : List AV → Option AV := unitF (omL KK s75 l75) t75
def c75 : Cal := ⟨i75, F75⟩
theorem x75 : XO i75 F75 := XU (cs := s75) (ds := l75) (t := t75) trivial (x := g75) (by kernel_rfl) (by kernel_rfl) (by kernel_rfl)
@[simp] def e16_0 : X := (Q (LE (I (0)) (.v 0)) (LT (.v 0) (LN (.v 2))) (.b false))
@[simp] def e16_1 : X := (.p (.bin .gtr .i64) [(LN (C 0 (.v 2) (.v 0))), (I (40))])
@[simp] def e16_2 : X := (.p (.bin .gtr .i64) [(LN (.v 0)), (I (20))])
@[simp] def e16_3 : X := (.p (.bin .gtr .i64) [(LN (.v 1)), (I (12))])
@[simp] def e16_4 : X := (.p (.bin .gtr .i64) [(LN (.v 1)), (I (162))])
@[simp] def e16_5 : X := (Q (LE (LN (.v 1)) (I (160))) (.b true) e16_4)
@[simp] def e16_6 : X := (Q e16_3 e16_5 e16_4)
@[simp] def e16_7 : X := (Q e16_2 (.b true) e16_6)
@[simp] def e16_8 : X := (.p (.call 100000 1600) [(I (0)), (.v 0), (.v 1), (.v 2), (.v 3)])
@[simp] def e16_9 : X := (PJ 0 e16_8)
@[simp] def e16_10 : X := (EQ e16_9 (I (1)))
@[simp] def e16_11 : X := (EQ e16_9 (I (2)))
@[simp] def e16_12 : X := (Q e16_10 (.b true) e16_11)
@[simp] def e16_13 : X := (Q e16_7 (.b true) e16_12)
@[simp] def e16_14 : X := (Q e16_10 (.b false) (.b true))
@[simp] def e16_15 : X := (Q e16_7 (.b false) e16_14)
def B1600 : Te LEnd := .ite (LT (.v 0) (LN (.v 2))) (
 .need e16_0 (
 .ite e16_1 (
 .ok (.out 1 [])) (
 .ok (.again [(AD (.v 0) (I (1))), (.v 1), (.v 2), (.v 3), (.v 4)])))) (
 .ok (.out 2 []))
def d1600 : LoopD := ⟨4, ⟨1600, 5, (J 1 ((.ptr 0 0 0) :: (J 1 ((Si 0) :: (J 36 []))))), ⟨⟨1, [(0, .cells 4 [[(Ss 1), (S1 2), (Si 3), (Si 4)]])], [[]], none⟩, [], []⟩,
 [(.ret, 0, (J 2 ((.bool false) :: (J 37 []))), ⟨⟨1, [], [[]], none⟩, [], []⟩),
  (.exit 0, 0, (J 40 []), ⟨⟨1, [], [[]], none⟩, [], []⟩)], [(1, []), (2, [])]⟩, B1600⟩
@[simp] theorem d1600_id : d1600.L.id = 1600 := rfl
@[simp] theorem d1600_B : d1600.B = B1600 := rfl
def i16 : Inst := ⟨16, 0, [(.agg [(Ss 0), (S1 1), (Si 2), (Si 3)])], [.one .bool]⟩
def s16 : List Cal := []
@[simp] def l16 : List LoopD := [d1600]
def t16 : Te AV := .need e16_13 (
 .ok (.sym .bool e16_15))
def F16 : List AV → Option AV := unitF (omL KK s16 l16) t16
def c16 : Cal := ⟨i16, F16⟩
theorem x16 : XO i16 F16 := XU (cs := s16) (ds := l16) (t := t16) trivial (x := g16) (by kernel_rfl) (by kernel_rfl) (by kernel_rfl)
@[simp] def e17_0 : X := (Q (LE (I (0)) (.v 1)) (LT (.v 1) (LN (.v 0))) (.b false))
@[simp] def e17_1 : X := (.p (.bin .gtr .i64) [(LN (C 1 (.v 0) (.v 1))), (I (20))])
@[simp] def e17_2 : X := (.p (.bin .gtr .i64) [(LN (.v 0)), (.v 1)])
@[simp] def e17_3 : X := (.p (.bin .gtr .i64) [(LN (.v 0)), (I (258))])
@[simp] def e17_4 : X := (Q (LE (LN (.v 0)) (I (256))) (.b true) e17_3)
@[simp] def e17_5 : X := (Q e17_2 e17_4 e17_3)
@[simp] def e17_6 : X := (.p (.call 100000 1700) [(.v 0), (I (0))])
@[simp] def e17_7 : X := (PJ 0 e17_6)
@[simp] def e17_8 : X := (EQ e17_7 (I (1)))
@[simp] def e17_9 : X := (EQ e17_7 (I (2)))
@[simp] def e17_10 : X := (Q e17_8 (.b true) e17_9)
@[simp] def e17_11 : X := (Q e17_5 (.b true) e17_10)
@[simp] def e17_12 : X := (Q e17_8 (.b false) (.b true))
@[simp] def e17_13 : X := (Q e17_5 (.b false) e17_12)
def B1700 : Te LEnd := .ite (LT (.v 1) (LN (.v 0))) (
 .need e17_0 (
 .ite e17_1 (
 .ok (.out 1 [])) (
 .ok (.again [(.v 0), (AD (.v 1) (I (1)))])))) (
 .ok (.out 2 []))
def d1700 : LoopD := ⟨4, ⟨1700, 2, ((.sym (.sl [(.int .i64), .str, (.int .i64), (.int .i64)]) (.v 0)) :: (J 4 ((Si 1) :: (J 27 [])))), ⟨⟨0, [], [[]], none⟩, [], []⟩,
 [(.ret, 0, (J 4 ((.bool false) :: (J 28 []))), ⟨⟨0, [], [[]], none⟩, [], []⟩),
  (.exit 0, 0, (J 33 []), ⟨⟨0, [], [[]], none⟩, [], []⟩)], [(1, []), (2, [])]⟩, B1700⟩
@[simp] theorem d1700_id : d1700.L.id = 1700 := rfl
@[simp] theorem d1700_B : d1700.B = B1700 := rfl
def i17 : Inst := ⟨17, 0, [(.sym (.sl [(.int .i64), .str, (.int .i64), (.int .i64)]) (.v 0)), (Si 1)], [.one .bool]⟩
def s17 : List Cal := []
@[simp] def l17 : List LoopD := [d1700]
def t17 : Te AV := .need e17_11 (
 .ok (.sym .bool e17_13))
def F17 : List AV → Option AV := unitF (omL KK s17 l17) t17
def c17 : Cal := ⟨i17, F17⟩
theorem x17 : XO i17 F17 := XU (cs := s17) (ds := l17) (t := t17) trivial (x := g17) (by kernel_rfl) (by kernel_rfl) (by kernel_rfl)
@[simp] def e18_0 : X := (Q (LE (I (0)) (.v 2)) (LT (.v 2) (LN (.v 0))) (.b false))
@[simp] def e18_1 : X := (.sl 4 [[(C 0 (.v 0) (.v 2)), (C 1 (.v 0) (.v 2)), (C 2 (.v 0) (.v 2)), (C 3 (.v 0) (.v 2))]])
@[simp] def e18_2 : X := (.p (.app 4) [(.v 1), e18_1])
@[simp] def e18_3 : X := (LN e18_2)
@[simp] def e18_4 : X := (LE e18_3 (I (1073741824)))
@[simp] def e18_5 : X := (.p (.call 100000 1800) [(.v 0), .nils, (I (0))])
@[simp] def e18_6 : X := (PJ 0 e18_5)
@[simp] def e18_7 : X := (EQ e18_6 (I (1)))
@[simp] def e18_8 : X := (PJ 1 e18_5)
def B1800 : Te LEnd := .ite (LT (.v 2) (LN (.v 0))) (
 .need e18_0 (
 .need e18_4 (
 .ok (.again [(.v 0), e18_2, (AD (.v 2) (I (1)))])))) (
 .ok (.out 1 [(.v 1)]))
def d1800 : LoopD := ⟨3, ⟨1800, 3, ((.sym (.sl [(.int .i64), .str, (.int .i64), (.int .i64)]) (.v 0)) :: (J 2 ((.sym (.own 0 [(.int .i64), .str, (.int .i64), (.int .i64)]) (.v 1)) :: ((Si 2) :: (J 14 []))))), ⟨⟨2, [], [[]], none⟩, [(0, .rows [(.int .i64), .str, (.int .i64), (.int .i64)] (.v 1))], []⟩,
 [(.exit 0, 1, (J 3 ((.sym (.own 0 [(.int .i64), .str, (.int .i64), (.int .i64)]) (.v 0)) :: (J 15 []))), ⟨⟨2, [], [[]], none⟩, [(0, .rows [(.int .i64), .str, (.int .i64), (.int .i64)] (.v 0))], []⟩)], [(1, [])]⟩, B1800⟩
@[simp] theorem d1800_id : d1800.L.id = 1800 := rfl
@[simp] theorem d1800_B : d1800.B = B1800 := rfl
def i18 : Inst := ⟨18, 0, [(.sym (.sl [(.int .i64), .str, (.int .i64), (.int .i64)]) (.v 0))], [.one (.sl [(.int .i64), .str, (.int .i64), (.int .i64)])]⟩
def s18 : List Cal := []
@[simp] def l18 : List LoopD := [d1800]
def t18 : Te AV := .need e18_7 (
 .ok (.sym (.sl [(.int .i64), .str, (.int .i64), (.int .i64)]) e18_8))
def F18 : List AV → Option AV := unitF (omL KK s18 l18) t18
def c18 : Cal := ⟨i18, F18⟩
theorem x18 : XO i18 F18 := XU (cs := s18) (ds := l18) (t := t18) trivial (x := g18) (by kernel_rfl) (by kernel_rfl) (by kernel_rfl)
end Go.Proofs.YtdeaibcebeofiaaGreatDoor.C5

namespace Go.Proofs.YtdeaibcebeofiaaGreatDoor.C5
open Go Go.Proofs.YtdeaibcebeofiaaGreatDoor.AM Go.Proofs
set_option maxRecDepth 100000
@[simp] def e62_0 : X := (.p (.call 58 0) [(.v 0), (.v 1), (.v 2), (.v 3)])
@[simp] def e62_1 : X := (.p (.okr [.one (.int .i64)]) [e62_0])
@[simp] def e62_2 : X := (.p (.bin .neq .i64) [e62_0, (I (0))])
@[simp] def e62_3 : X := (.p (.call 91 0) [(.v 0), (.v 1), (.v 2), (.v 3), (.v 4), (.v 5), (.v 6), (.v 7)])
@[simp] def e62_4 : X := (.p (.okr [.one (.int .i64)]) [e62_3])
@[simp] def e62_5 : X := (Q e62_2 (.b true) e62_4)
@[simp] def e62_6 : X := (Q e62_2 e62_0 e62_3)
def i62 : Inst := ⟨62, 0, [(.agg [(Ss 0), (S1 1), (Si 2), (Si 3)]), (.agg [(Si 4), (Ss 5), (Si 6), (Si 7)])], [.one (.int .i64)]⟩
def s62 : List Cal := [c58, c91]
@[simp] theorem o62_58 : OE s62 58 F58 := oG rfl
@[simp] theorem o62_91 : OE s62 91 F91 := oG rfl
@[simp] def l62 : List LoopD := []
def t62 : Te AV := .need e62_1 (
 .need e62_5 (
 .ok (.sym (.int .i64) e62_6)))
def F62 : List AV → Option AV := unitF (omL KK s62 l62) t62
def c62 : Cal := ⟨i62, F62⟩
theorem x62 : XO i62 F62 := XU (cs := s62) (ds := l62) (t := t62) ⟨x58, x91, trivial⟩ (x := g62) (by kernel_rfl) (by kernel_rfl) (by kernel_rfl)
@[simp] def e54_0 : X := (.p (.call 59 0) [(.v 0), (.v 1), (.v 2), (.v 3)])
@[simp] def e54_1 : X := (.p (.okr [.one (.int .i64)]) [e54_0])
@[simp] def e54_2 : X := (EQ e54_0 (I (0)))
@[simp] def e54_3 : X := (.p (.call 82 0) [(.v 0), (.v 1), (.v 2), (.v 3), (.v 4), (.v 5), (.v 6), (.v 7)])
@[simp] def e54_4 : X := (.p (.okr [.one (.int .i64)]) [e54_3])
@[simp] def e54_5 : X := (Q e54_2 e54_4 (.b true))
@[simp] def e54_6 : X := (Q e54_2 e54_3 e54_0)
def i54 : Inst := ⟨54, 0, [(.agg [(Ss 0), (S1 1), (Si 2), (Si 3)]), (.agg [(Si 4), (Ss 5), (Si 6), (Si 7)])], [.one (.int .i64)]⟩
def s54 : List Cal := [c59, c82]
@[simp] theorem o54_59 : OE s54 59 F59 := oG rfl
@[simp] theorem o54_82 : OE s54 82 F82 := oG rfl
@[simp] def l54 : List LoopD := []
def t54 : Te AV := .need e54_1 (
 .need e54_5 (
 .ok (.sym (.int .i64) e54_6)))
def F54 : List AV → Option AV := unitF (omL KK s54 l54) t54
def c54 : Cal := ⟨i54, F54⟩
theorem x54 : XO i54 F54 := XU (cs := s54) (ds := l54) (t := t54) ⟨x59, x82, trivial⟩ (x := g54) (by kernel_rfl) (by kernel_rfl) (by kernel_rfl)
@[simp] def e95_0 : X := (Q (LE (I (0)) (.v 3)) (LT (.v 3) (LN (.v 1))) (.b false))
@[simp] def e95_1 : X := (.p (.bin .gtr .i64) [(C 0 (.v 1) (.v 3)), (I (0))])
@[simp] def e95_2 : X := (Q (EQ (.v 0) (I (0))) (.b true) (LT (C 0 (.v 1) (.v 3)) (.v 0)))
@[simp] def e95_3 : X := (Q e95_1 e95_2 (.b false))
@[simp] def e95_4 : X := (Q e95_3 (C 0 (.v 1) (.v 3)) (.v 0))
@[simp] def e95_5 : X := (.p (.call 100000 9500) [(I (0)), (.v 0), (LN (.v 0)), (I (0))])
@[simp] def e95_6 : X := (PJ 0 e95_5)
@[simp] def e95_7 : X := (EQ e95_6 (I (1)))
@[simp] def e95_8 : X := (PJ 1 e95_5)
def B9500 : Te LEnd := .ite (LT (.v 3) (.v 2)) (
 .need e95_0 (
 .ok (.again [e95_4, (.v 1), (.v 2), (AD (.v 3) (I (1)))]))) (
 .ok (.out 1 [(.v 0)]))
def d9500 : LoopD := ⟨3, ⟨9500, 4, (J 3 ((Si 0) :: (J 2 ((S2 1) :: ((Si 2) :: ((Si 3) :: (J 17 []))))))), ⟨⟨0, [], [[]], none⟩, [], []⟩,
 [(.exit 0, 1, (J 3 ((Si 0) :: (J 22 []))), ⟨⟨0, [], [[]], none⟩, [], []⟩)], [(1, [])]⟩, B9500⟩
@[simp] theorem d9500_id : d9500.L.id = 9500 := rfl
@[simp] theorem d9500_B : d9500.B = B9500 := rfl
def i95 : Inst := ⟨95, 0, [(S2 0)], [.one (.int .i64)]⟩
def s95 : List Cal := []
@[simp] def l95 : List LoopD := [d9500]
def t95 : Te AV := .need e95_7 (
 .ok (.sym (.int .i64) e95_8))
def F95 : List AV → Option AV := unitF (omL KK s95 l95) t95
def c95 : Cal := ⟨i95, F95⟩
theorem x95 : XO i95 F95 := XU (cs := s95) (ds := l95) (t := t95) trivial (x := g95) (by kernel_rfl) (by kernel_rfl) (by kernel_rfl)
@[simp] def e217_0 : X := (Q (.p .keq [(.v 0), (.s w2)]) (I (2)) (I (0)))
@[simp] def e217_1 : X := (Q (.p .keq [(.v 0), (.s w1)]) (.v 2) e217_0)
def i217 : Inst := ⟨217, 0, [(.agg [(Ss 0), (S1 1), (Si 2), (Si 3)])], [.one (.int .i64)]⟩
def s217 : List Cal := []
@[simp] def l217 : List LoopD := []
def t217 : Te AV := .ok (.sym (.int .i64) e217_1)
def F217 : List AV → Option AV := unitF (omL KK s217 l217) t217
def c217 : Cal := ⟨i217, F217⟩
theorem x217 : XO i217 F217 := XU (cs := s217) (ds := l217) (t := t217) trivial (x := g217) (by kernel_rfl) (by kernel_rfl) (by kernel_rfl)
@[simp] def e218_0 : X := (Q (.p .keq [(.v 0), (.s w0)]) (.v 2) (I (0)))
def i218 : Inst := ⟨218, 0, [(.agg [(Ss 0), (S1 1), (Si 2), (Si 3)])], [.one (.int .i64)]⟩
def s218 : List Cal := []
@[simp] def l218 : List LoopD := []
def t218 : Te AV := .ok (.sym (.int .i64) e218_0)
def F218 : List AV → Option AV := unitF (omL KK s218 l218) t218
def c218 : Cal := ⟨i218, F218⟩
theorem x218 : XO i218 F218 := XU (cs := s218) (ds := l218) (t := t218) trivial (x := g218) (by kernel_rfl) (by kernel_rfl) (by kernel_rfl)
@[simp] def e220_0 : X := (.p (.call 89 0) [(.v 0), (I (0)), (I (86399999))])
@[simp] def e220_1 : X := (.p (.okr [.one .bool]) [e220_0])
def i220 : Inst := ⟨220, 0, [(Si 0)], [.one .bool]⟩
def s220 : List Cal := [c89]
@[simp] theorem o220_89 : OE s220 89 F89 := oG rfl
@[simp] def l220 : List LoopD := []
def t220 : Te AV := .need e220_1 (
 .ok (.sym .bool e220_0))
def F220 : List AV → Option AV := unitF (omL KK s220 l220) t220
def c220 : Cal := ⟨i220, F220⟩
theorem x220 : XO i220 F220 := XU (cs := s220) (ds := l220) (t := t220) ⟨x89, trivial⟩ (x := g220) (by kernel_rfl) (by kernel_rfl) (by kernel_rfl)
@[simp] def e235_0 : X := (Q (LE (I (0)) (.v 2)) (LT (.v 2) (LN (.v 0))) (.b false))
@[simp] def e235_1 : X := (.p (.okr [.one .bool]) [(.p (.call 220 0) [(C 0 (.v 0) (.v 2))])])
@[simp] def e235_2 : X := (.p (.call 100000 23500) [(.v 0), (LN (.v 0)), (I (0))])
@[simp] def e235_3 : X := (PJ 0 e235_2)
@[simp] def e235_4 : X := (EQ e235_3 (I (1)))
@[simp] def e235_5 : X := (EQ e235_3 (I (2)))
@[simp] def e235_6 : X := (Q e235_4 (.b true) e235_5)
@[simp] def e235_7 : X := (PJ 1 e235_2)
@[simp] def e235_8 : X := (Q e235_4 e235_7 (I (-1)))
def B23500 : Te LEnd := .ite (LT (.v 2) (.v 1)) (
 .need e235_0 (
 .need e235_1 (
 .ite (.p (.call 220 0) [(C 0 (.v 0) (.v 2))]) (
 .ok (.out 1 [(.v 2)])) (
 .ok (.again [(.v 0), (.v 1), (AD (.v 2) (I (1)))]))))) (
 .ok (.out 2 []))
def d23500 : LoopD := ⟨2, ⟨23500, 3, ((S2 0) :: ((.func (.func 220) [] []) :: (J 5 ((Si 1) :: ((Si 2) :: (J 10 [])))))), ⟨⟨0, [], [[]], none⟩, [], []⟩,
 [(.ret, 1, (J 4 ((Si 0) :: (J 14 []))), ⟨⟨0, [], [[]], none⟩, [], []⟩),
  (.exit 0, 0, (J 19 []), ⟨⟨0, [], [[]], none⟩, [], []⟩)], [(1, []), (2, [])]⟩, B23500⟩
@[simp] theorem d23500_id : d23500.L.id = 23500 := rfl
@[simp] theorem d23500_B : d23500.B = B23500 := rfl
def i235 : Inst := ⟨235, 0, [(S2 0), (.func (.func 220) [] [])], [.one (.int .i64)]⟩
def s235 : List Cal := [c220]
@[simp] theorem o235_220 : OE s235 220 F220 := oG rfl
@[simp] def l235 : List LoopD := [d23500]
def t235 : Te AV := .need e235_6 (
 .ok (.sym (.int .i64) e235_8))
def F235 : List AV → Option AV := unitF (omL KK s235 l235) t235
def c235 : Cal := ⟨i235, F235⟩
theorem x235 : XO i235 F235 := XU (cs := s235) (ds := l235) (t := t235) ⟨x220, trivial⟩ (x := g235) (by kernel_rfl) (by kernel_rfl) (by kernel_rfl)
@[simp] def e219_0 : X := (.p (.okr [.one (.int .i64)]) [(.p (.call 235 0) [(.v 0)])])
@[simp] def e219_1 : X := (.p (.bin .geq .i64) [(.p (.call 235 0) [(.v 0)]), (I (0))])
def i219 : Inst := ⟨219, 0, [(S2 0), (.func (.func 220) [] [])], [.one .bool]⟩
def s219 : List Cal := [c235]
@[simp] theorem o219_235 : OE s219 235 F235 := oG rfl
@[simp] def l219 : List LoopD := []
def t219 : Te AV := .need e219_0 (
 .ok (.sym .bool e219_1))
def F219 : List AV → Option AV := unitF (omL KK s219 l219) t219
def c219 : Cal := ⟨i219, F219⟩
theorem x219 : XO i219 F219 := XU (cs := s219) (ds := l219) (t := t219) ⟨x235, trivial⟩ (x := g219) (by kernel_rfl) (by kernel_rfl) (by kernel_rfl)
@[simp] def e221_0 : X := (Q (LE (I (0)) (.v 2)) (LT (.v 2) (LN (.v 0))) (.b false))
@[simp] def e221_1 : X := (.p (.call 89 0) [(C 0 (.v 0) (.v 2)), (I (0)), (I (99))])
@[simp] def e221_2 : X := (.p (.okr [.one .bool]) [e221_1])
@[simp] def e221_3 : X := (.p (.call 89 0) [(C 1 (.v 0) (.v 2)), (I (0)), (C 0 (.v 0) (.v 2))])
@[simp] def e221_4 : X := (.p (.okr [.one .bool]) [e221_3])
@[simp] def e221_5 : X := (Q e221_1 (.b true) e221_4)
@[simp] def e221_6 : X := (.p (.call 89 0) [(C 2 (.v 0) (.v 2)), (I (0)), (C 0 (.v 0) (.v 2))])
@[simp] def e221_7 : X := (.p (.okr [.one .bool]) [e221_6])
@[simp] def e221_8 : X := (Q e221_3 (.b true) e221_7)
@[simp] def e221_9 : X := (Q e221_1 (.b true) e221_8)
@[simp] def e221_10 : X := (Q e221_3 (.b true) e221_6)
@[simp] def e221_11 : X := (Q e221_1 (.b true) e221_10)
@[simp] def e221_12 : X := (.p (.call 103 0) [e221_11, (I (3))])
@[simp] def e221_13 : X := (.p (.okr [.one (.int .i64)]) [e221_12])
@[simp] def e221_14 : X := (.p (.bin .gtr .i64) [(C 2 (.v 0) (.v 2)), (I (0))])
@[simp] def e221_15 : X := (.p (.bin .gtr .i64) [(C 1 (.v 0) (.v 2)), (C 2 (.v 0) (.v 2))])
@[simp] def e221_16 : X := (.p (.bin .gtr .i64) [(C 0 (.v 0) (.v 2)), (I (0))])
@[simp] def e221_17 : X := (Q e221_16 (.p .not [(C 3 (.v 0) (.v 2))]) (.b false))
@[simp] def e221_18 : X := (Q e221_15 (.b true) e221_17)
@[simp] def e221_19 : X := (Q (EQ (C 1 (.v 0) (.v 2)) (I (0))) (.b true) e221_18)
@[simp] def e221_20 : X := (Q e221_14 e221_19 e221_17)
@[simp] def e221_21 : X := (.p (.call 103 0) [e221_20, (I (1))])
@[simp] def e221_22 : X := (.p (.okr [.one (.int .i64)]) [e221_21])
@[simp] def e221_23 : X := (.sl 1 [[e221_12], [e221_21]])
@[simp] def e221_24 : X := (.p (.call 102 0) [e221_23])
@[simp] def e221_25 : X := (.p (.okr [.one (.int .i64)]) [e221_24])
@[simp] def e221_26 : X := (.p (.bin .neq .i64) [e221_24, (I (0))])
@[simp] def e221_27 : X := (.p (.call 100000 22100) [(.v 0), (LN (.v 0)), (I (0))])
@[simp] def e221_28 : X := (PJ 0 e221_27)
@[simp] def e221_29 : X := (EQ e221_28 (I (1)))
@[simp] def e221_30 : X := (EQ e221_28 (I (2)))
@[simp] def e221_31 : X := (Q e221_29 (.b true) e221_30)
@[simp] def e221_32 : X := (PJ 1 e221_27)
@[simp] def e221_33 : X := (Q e221_29 e221_32 (I (0)))
def B22100 : Te LEnd := .ite (LT (.v 2) (.v 1)) (
 .need e221_0 (
 .need e221_2 (
 .need e221_5 (
 .need e221_9 (
 .need e221_13 (
 .need e221_22 (
 .need e221_25 (
 .ite e221_26 (
 .ok (.out 1 [e221_24])) (
 .ok (.again [(.v 0), (.v 1), (AD (.v 2) (I (1)))])))))))))) (
 .ok (.out 2 []))
def d22100 : LoopD := ⟨2, ⟨22100, 3, (J 8 ((S3 0) :: ((Si 1) :: ((Si 2) :: (J 55 []))))), ⟨⟨2, [], [[]], none⟩, [], []⟩,
 [(.ret, 1, (J 2 ((Si 0) :: (J 63 []))), ⟨⟨4, [], [[]], none⟩, [], []⟩),
  (.exit 0, 0, (J 66 []), ⟨⟨2, [], [[]], none⟩, [], []⟩)], [(1, []), (2, [])]⟩, B22100⟩
@[simp] theorem d22100_id : d22100.L.id = 22100 := rfl
@[simp] theorem d22100_B : d22100.B = B22100 := rfl
def i221 : Inst := ⟨221, 0, [(S3 0)], [.one (.int .i64)]⟩
def s221 : List Cal := [c89, c103, c102]
@[simp] theorem o221_89 : OE s221 89 F89 := oG rfl
@[simp] theorem o221_103 : OE s221 103 F103 := oG rfl
@[simp] theorem o221_102 : OE s221 102 F102 := oG rfl
@[simp] def l221 : List LoopD := [d22100]
def t221 : Te AV := .need e221_31 (
 .ok (.sym (.int .i64) e221_33))
def F221 : List AV → Option AV := unitF (omL KK s221 l221) t221
def c221 : Cal := ⟨i221, F221⟩
theorem x221 : XO i221 F221 := XU (cs := s221) (ds := l221) (t := t221) ⟨x89, x103, x102, trivial⟩ (x := g221) (by kernel_rfl) (by kernel_rfl) (by kernel_rfl)
@[simp] def e178_0 : X := (.sl 1 [[(.s w18)], [(.s w19)], [(.s w20)]])
@[simp] def e178_1 : X := (.p (.call 114 0) [e178_0, (.v 5)])
@[simp] def e178_2 : X := (.p (.okr [.one .bool]) [e178_1])
@[simp] def e178_3 : X := (.sl 1 [[(.s w3)], [(.s w21)], [(.s w22)], [(.s w23)]])
@[simp] def e178_4 : X := (.p (.call 114 0) [e178_3, (.v 6)])
@[simp] def e178_5 : X := (.p (.okr [.one .bool]) [e178_4])
@[simp] def e178_6 : X := (Q e178_1 e178_5 (.b true))
@[simp] def e178_7 : X := (.p (.call 89 0) [(.v 8), (I (0)), (.v 4)])
@[simp] def e178_8 : X := (.p (.okr [.one .bool]) [e178_7])
@[simp] def e178_9 : X := (.p (.call 89 0) [(.v 9), (I (0)), (.v 3)])
@[simp] def e178_10 : X := (.p (.okr [.one .bool]) [e178_9])
@[simp] def e178_11 : X := (Q e178_7 (.b true) e178_10)
@[simp] def e178_12 : X := (.p (.call 217 0) [(.v 0), (.v 1), (.v 2), (.v 3)])
@[simp] def e178_13 : X := (.p (.okr [.one (.int .i64)]) [e178_12])
@[simp] def e178_14 : X := (Q e178_9 (.b true) e178_13)
@[simp] def e178_15 : X := (Q e178_7 (.b true) e178_14)
@[simp] def e178_16 : X := (.p (.call 89 0) [(.v 7), (I (0)), e178_12])
@[simp] def e178_17 : X := (.p (.okr [.one .bool]) [e178_16])
@[simp] def e178_18 : X := (Q e178_9 (.b true) e178_17)
@[simp] def e178_19 : X := (Q e178_7 (.b true) e178_18)
@[simp] def e178_20 : X := (.p (.call 218 0) [(.v 0), (.v 1), (.v 2), (.v 3)])
@[simp] def e178_21 : X := (.p (.okr [.one (.int .i64)]) [e178_20])
@[simp] def e178_22 : X := (Q e178_16 (.b true) e178_21)
@[simp] def e178_23 : X := (Q e178_9 (.b true) e178_22)
@[simp] def e178_24 : X := (Q e178_7 (.b true) e178_23)
@[simp] def e178_25 : X := (.p (.call 89 0) [(.v 10), (I (0)), e178_20])
@[simp] def e178_26 : X := (.p (.okr [.one .bool]) [e178_25])
@[simp] def e178_27 : X := (Q e178_16 (.b true) e178_26)
@[simp] def e178_28 : X := (Q e178_9 (.b true) e178_27)
@[simp] def e178_29 : X := (Q e178_7 (.b true) e178_28)
@[simp] def e178_30 : X := (.p (.okr [.one .bool]) [(.p (.call 219 0) [(.v 15)])])
@[simp] def e178_31 : X := (Q e178_1 e178_4 (.b false))
@[simp] def e178_32 : X := (.p .not [e178_31])
@[simp] def e178_33 : X := (.p (.call 103 0) [e178_32, (I (13))])
@[simp] def e178_34 : X := (.p (.okr [.one (.int .i64)]) [e178_33])
@[simp] def e178_35 : X := (.p (.call 103 0) [(.p (.sbin .neq) [(.v 6), (.s w3)]), (I (19))])
@[simp] def e178_36 : X := (.p (.okr [.one (.int .i64)]) [e178_35])
@[simp] def e178_37 : X := (Q (.p (.sbin .neq) [(.v 5), (.s w20)]) e178_36 (.b true))
@[simp] def e178_38 : X := (Q e178_16 (.b true) e178_25)
@[simp] def e178_39 : X := (Q e178_9 (.b true) e178_38)
@[simp] def e178_40 : X := (Q e178_7 (.b true) e178_39)
@[simp] def e178_41 : X := (.p (.call 103 0) [e178_40, (I (3))])
@[simp] def e178_42 : X := (.p (.okr [.one (.int .i64)]) [e178_41])
@[simp] def e178_43 : X := (Q (.p (.sbin .neq) [(.v 5), (.s w20)]) e178_42 (.b true))
@[simp] def e178_44 : X := (.p (.bin .neq .i64) [(LN (.v 14)), (.v 2)])
@[simp] def e178_45 : X := (.p (.bin .gtr .i64) [(LN (.v 15)), (.v 2)])
@[simp] def e178_46 : X := (.p (.bin .gtr .i64) [(LN (.v 15)), (I (0))])
@[simp] def e178_47 : X := (Q (.p .keq [(.s w2), (.v 0)]) e178_45 e178_46)
@[simp] def e178_48 : X := (Q e178_44 (.b true) e178_47)
@[simp] def e178_49 : X := (.p (.bin .neq .i64) [(LN (.v 14)), (I (0))])
@[simp] def e178_50 : X := (Q e178_49 (.b true) e178_47)
@[simp] def e178_51 : X := (Q (.p .keq [(.s w1), (.v 0)]) e178_48 e178_50)
@[simp] def e178_52 : X := (.p (.call 103 0) [e178_51, (I (2))])
@[simp] def e178_53 : X := (.p (.okr [.one (.int .i64)]) [e178_52])
@[simp] def e178_54 : X := (Q (.p (.sbin .neq) [(.v 5), (.s w20)]) e178_53 (.b true))
@[simp] def e178_55 : X := (.p (.okr [.one (.int .i64)]) [(.p (.call 221 0) [(.v 14)])])
@[simp] def e178_56 : X := (Q (.p (.sbin .neq) [(.v 5), (.s w20)]) e178_55 (.b true))
@[simp] def e178_57 : X := (.p (.call 103 0) [(.p (.call 219 0) [(.v 15)]), (I (3))])
@[simp] def e178_58 : X := (.p (.okr [.one (.int .i64)]) [e178_57])
@[simp] def e178_59 : X := (Q (.p (.sbin .neq) [(.v 5), (.s w20)]) e178_58 (.b true))
@[simp] def e178_60 : X := (Q (.p (.sbin .neq) [(.v 0), (.s w1)]) (.v 13) (.b false))
@[simp] def e178_61 : X := (Q (.v 12) (.b true) e178_60)
@[simp] def e178_62 : X := (Q (.v 11) (.b true) e178_61)
@[simp] def e178_63 : X := (Q (.p (.bin .neq .i64) [(.v 9), (I (0))]) (.b true) e178_62)
@[simp] def e178_64 : X := (Q (.p (.sbin .neq) [(.v 0), (.s w0)]) e178_63 e178_60)
@[simp] def e178_65 : X := (.p (.call 103 0) [e178_64, (I (1))])
@[simp] def e178_66 : X := (.p (.okr [.one (.int .i64)]) [e178_65])
@[simp] def e178_67 : X := (Q (.p (.sbin .neq) [(.v 5), (.s w20)]) e178_66 (.b true))
@[simp] def e178_68 : X := (.sl 1 [[e178_33], [e178_35], [e178_41], [e178_52], [(.p (.call 221 0) [(.v 14)])], [e178_57], [e178_65]])
@[simp] def e178_69 : X := (.p (.call 102 0) [e178_68])
@[simp] def e178_70 : X := (.p (.okr [.one (.int .i64)]) [e178_69])
@[simp] def e178_71 : X := (Q (.p (.sbin .neq) [(.v 5), (.s w20)]) e178_70 (.b true))
@[simp] def e178_72 : X := (.p (.call 103 0) [(.b false), (I (19))])
@[simp] def e178_73 : X := (.p (.okr [.one (.int .i64)]) [e178_72])
@[simp] def e178_74 : X := (Q (.p (.sbin .neq) [(.v 5), (.s w20)]) (.b true) e178_73)
@[simp] def e178_75 : X := (Q (.p (.sbin .neq) [(.v 5), (.s w20)]) (.b true) e178_42)
@[simp] def e178_76 : X := (Q (.p (.sbin .neq) [(.v 5), (.s w20)]) (.b true) e178_53)
@[simp] def e178_77 : X := (Q (.p (.sbin .neq) [(.v 5), (.s w20)]) (.b true) e178_55)
@[simp] def e178_78 : X := (Q (.p (.sbin .neq) [(.v 5), (.s w20)]) (.b true) e178_58)
@[simp] def e178_79 : X := (Q (.p (.sbin .neq) [(.v 5), (.s w20)]) (.b true) e178_66)
@[simp] def e178_80 : X := (.sl 1 [[e178_33], [e178_72], [e178_41], [e178_52], [(.p (.call 221 0) [(.v 14)])], [e178_57], [e178_65]])
@[simp] def e178_81 : X := (.p (.call 102 0) [e178_80])
@[simp] def e178_82 : X := (.p (.okr [.one (.int .i64)]) [e178_81])
@[simp] def e178_83 : X := (Q (.p (.sbin .neq) [(.v 5), (.s w20)]) (.b true) e178_82)
@[simp] def e178_84 : X := (Q (.p (.sbin .neq) [(.v 5), (.s w20)]) e178_69 e178_81)
def i178 : Inst := ⟨178, 0, [(.agg [(Ss 0), (S1 1), (Si 2), (Si 3)]), (Si 4), (.agg [(Ss 5), (Ss 6), (Si 7), (Si 8), (Si 9), (Si 10), (Sb 11), (Sb 12), (Sb 13), (S3 14), (S2 15)])], [.one (.int .i64)]⟩
def s178 : List Cal := [c114, c89, c217, c218, c219, c103, c221, c102]
@[simp] theorem o178_114 : OE s178 114 F114 := oG rfl
@[simp] theorem o178_89 : OE s178 89 F89 := oG rfl
@[simp] theorem o178_217 : OE s178 217 F217 := oG rfl
@[simp] theorem o178_218 : OE s178 218 F218 := oG rfl
@[simp] theorem o178_219 : OE s178 219 F219 := oG rfl
@[simp] theorem o178_103 : OE s178 103 F103 := oG rfl
@[simp] theorem o178_221 : OE s178 221 F221 := oG rfl
@[simp] theorem o178_102 : OE s178 102 F102 := oG rfl
@[simp] def l178 : List LoopD := []
def t178 : Te AV := .need e178_2 (
 .need e178_6 (
 .need e178_8 (
 .need e178_11 (
 .need e178_15 (
 .need e178_19 (
 .need e178_24 (
 .need e178_29 (
 .need e178_30 (
 .need e178_34 (
 .need e178_37 (
 .need e178_43 (
 .need e178_54 (
 .need e178_56 (
 .need e178_59 (
 .need e178_67 (
 .need e178_71 (
 .need e178_74 (
 .need e178_75 (
 .need e178_76 (
 .need e178_77 (
 .need e178_78 (
 .need e178_79 (
 .need e178_83 (
 .ok (.sym (.int .i64) e178_84)))))))))))))))))))))))))
def F178 : List AV → Option AV := unitF (omL KK s178 l178) t178
def c178 : Cal := ⟨i178, F178⟩
theorem x178 : XO i178 F178 := XU (cs := s178) (ds := l178) (t := t178) ⟨x114, x89, x217, x218, x219, x103, x221, x102, trivial⟩ (x := g178) (by kernel_rfl) (by kernel_rfl) (by kernel_rfl)
@[simp] def e120_0 : X := (.p (.call 178 0) [(.v 0), (.v 1), (.v 2), (.v 3), (.v 4), (.v 5), (.v 6), (.v 7), (.v 8), (.v 9), (.v 10), (.v 11), (.v 12), (.v 13), (.v 14), (.v 15)])
@[simp] def e120_1 : X := (.p (.okr [.one (.int .i64)]) [e120_0])
@[simp] def e120_2 : X := (.p (.bin .neq .i64) [e120_0, (I (0))])
@[simp] def e120_3 : X := (.p (.bin .geq .i64) [(LN (.v 15)), (.v 2)])
@[simp] def e120_4 : X := (.p (.okr [.one (.int .i64)]) [(.p (.call 95 0) [(.v 15)])])
@[simp] def e120_5 : X := (Q (.p (.sbin .eql) [(.v 6), (.s w3)]) e120_4 (.b true))
@[simp] def e120_6 : X := (Q (.p (.sbin .eql) [(.v 5), (.s w20)]) e120_5 (.b true))
@[simp] def e120_7 : X := (Q e120_3 (.b true) e120_6)
@[simp] def e120_8 : X := (Q (.p (.sbin .eql) [(.v 5), (.s w18)]) e120_7 (.b true))
@[simp] def e120_9 : X := (Q (.p (.sbin .neq) [(.v 5), (.s w19)]) e120_8 (.b true))
@[simp] def e120_10 : X := (Q e120_2 (.b true) e120_9)
@[simp] def e120_11 : X := (Q (.p (.sbin .eql) [(.v 5), (.s w18)]) (.b true) e120_6)
@[simp] def e120_12 : X := (Q (.p (.sbin .neq) [(.v 5), (.s w19)]) e120_11 (.b true))
@[simp] def e120_13 : X := (Q e120_2 (.b true) e120_12)
@[simp] def e120_14 : X := (.p (.okr [.one (.int .i64)]) [(.p (.call 103 0) [(.b true), (I (19))])])
@[simp] def e120_15 : X := (Q (.p (.bin .neq .i64) [(.v 7), (I (0))]) e120_14 (.b true))
@[simp] def e120_16 : X := (Q (.p (.sbin .neq) [(.v 5), (.s w19)]) e120_15 (.b true))
@[simp] def e120_17 : X := (Q e120_2 (.b true) e120_16)
@[simp] def e120_18 : X := (Q (.v 13) e120_14 (.b true))
@[simp] def e120_19 : X := (Q (.p (.bin .neq .i64) [(.v 7), (I (0))]) (.b true) e120_18)
@[simp] def e120_20 : X := (Q (.p (.sbin .neq) [(.v 5), (.s w19)]) e120_19 (.b true))
@[simp] def e120_21 : X := (Q e120_2 (.b true) e120_20)
@[simp] def e120_22 : X := (Q (.p (.sbin .eql) [(.v 6), (.s w3)]) (EQ (.p (.call 95 0) [(.v 15)]) (I (0))) (.b false))
@[simp] def e120_23 : X := (Q (.p (.sbin .eql) [(.v 5), (.s w20)]) e120_22 (.b false))
@[simp] def e120_24 : X := (Q e120_3 (.b true) e120_23)
@[simp] def e120_25 : X := (Q (.p (.sbin .eql) [(.v 5), (.s w18)]) e120_24 e120_23)
@[simp] def e120_26 : X := (.p (.call 103 0) [e120_25, (I (19))])
@[simp] def e120_27 : X := (.p (.okr [.one (.int .i64)]) [e120_26])
@[simp] def e120_28 : X := (Q (.p (.sbin .eql) [(.v 0), (.s w2)]) e120_27 (.b true))
@[simp] def e120_29 : X := (Q (.v 13) (.b true) e120_28)
@[simp] def e120_30 : X := (Q (.p (.bin .neq .i64) [(.v 7), (I (0))]) (.b true) e120_29)
@[simp] def e120_31 : X := (Q (.p (.sbin .neq) [(.v 5), (.s w19)]) e120_30 (.b true))
@[simp] def e120_32 : X := (Q e120_2 (.b true) e120_31)
@[simp] def e120_33 : X := (.p (.call 103 0) [(.b false), (I (19))])
@[simp] def e120_34 : X := (.p (.okr [.one (.int .i64)]) [e120_33])
@[simp] def e120_35 : X := (Q (.p (.sbin .eql) [(.v 0), (.s w2)]) (.b true) e120_34)
@[simp] def e120_36 : X := (Q (.v 13) (.b true) e120_35)
@[simp] def e120_37 : X := (Q (.p (.bin .neq .i64) [(.v 7), (I (0))]) (.b true) e120_36)
@[simp] def e120_38 : X := (Q (.p (.sbin .neq) [(.v 5), (.s w19)]) e120_37 (.b true))
@[simp] def e120_39 : X := (Q e120_2 (.b true) e120_38)
@[simp] def e120_40 : X := (.p (.call 103 0) [e120_3, (I (19))])
@[simp] def e120_41 : X := (.p (.okr [.one (.int .i64)]) [e120_40])
@[simp] def e120_42 : X := (Q (.p (.sbin .eql) [(.v 0), (.s w2)]) e120_41 (.b true))
@[simp] def e120_43 : X := (Q (EQ (.v 7) (I (0))) (.b true) e120_42)
@[simp] def e120_44 : X := (Q (.p (.sbin .eql) [(.v 0), (.s w0)]) (.b true) e120_43)
@[simp] def e120_45 : X := (Q (.p (.sbin .neq) [(.v 5), (.s w19)]) (.b true) e120_44)
@[simp] def e120_46 : X := (Q e120_2 (.b true) e120_45)
@[simp] def e120_47 : X := (Q (LE (I (0)) (SB (.v 7) (I (1)))) (LT (SB (.v 7) (I (1))) (LN (.v 14))) (.b false))
@[simp] def e120_48 : X := (Q (.p (.sbin .eql) [(.v 0), (.s w2)]) (.b true) e120_47)
@[simp] def e120_49 : X := (Q (EQ (.v 7) (I (0))) (.b true) e120_48)
@[simp] def e120_50 : X := (Q (.p (.sbin .eql) [(.v 0), (.s w0)]) (.b true) e120_49)
@[simp] def e120_51 : X := (Q (.p (.sbin .neq) [(.v 5), (.s w19)]) (.b true) e120_50)
@[simp] def e120_52 : X := (Q e120_2 (.b true) e120_51)
@[simp] def e120_53 : X := (.p .not [(C 3 (.v 14) (SB (.v 7) (I (1))))])
@[simp] def e120_54 : X := (Q e120_53 e120_14 (.b true))
@[simp] def e120_55 : X := (Q (.p (.sbin .eql) [(.v 0), (.s w2)]) (.b true) e120_54)
@[simp] def e120_56 : X := (Q (EQ (.v 7) (I (0))) (.b true) e120_55)
@[simp] def e120_57 : X := (Q (.p (.sbin .eql) [(.v 0), (.s w0)]) (.b true) e120_56)
@[simp] def e120_58 : X := (Q (.p (.sbin .neq) [(.v 5), (.s w19)]) (.b true) e120_57)
@[simp] def e120_59 : X := (Q e120_2 (.b true) e120_58)
@[simp] def e120_60 : X := (EQ (C 0 (.v 14) (SB (.v 7) (I (1)))) (I (0)))
@[simp] def e120_61 : X := (Q e120_60 e120_14 (.b true))
@[simp] def e120_62 : X := (Q (.v 13) e120_61 (.b true))
@[simp] def e120_63 : X := (Q e120_53 (.b true) e120_62)
@[simp] def e120_64 : X := (Q (.p (.sbin .eql) [(.v 0), (.s w2)]) (.b true) e120_63)
@[simp] def e120_65 : X := (Q (EQ (.v 7) (I (0))) (.b true) e120_64)
@[simp] def e120_66 : X := (Q (.p (.sbin .eql) [(.v 0), (.s w0)]) (.b true) e120_65)
@[simp] def e120_67 : X := (Q (.p (.sbin .neq) [(.v 5), (.s w19)]) (.b true) e120_66)
@[simp] def e120_68 : X := (Q e120_2 (.b true) e120_67)
@[simp] def e120_69 : X := (.p (.bin .gtr .i64) [(C 2 (.v 14) (SB (.v 7) (I (1)))), (I (0))])
@[simp] def e120_70 : X := (.p (.call 103 0) [e120_69, (I (19))])
@[simp] def e120_71 : X := (.p (.okr [.one (.int .i64)]) [e120_70])
@[simp] def e120_72 : X := (Q e120_60 (.b true) e120_71)
@[simp] def e120_73 : X := (Q (.v 13) e120_72 (.b true))
@[simp] def e120_74 : X := (Q e120_53 (.b true) e120_73)
@[simp] def e120_75 : X := (Q (.p (.sbin .eql) [(.v 0), (.s w2)]) (.b true) e120_74)
@[simp] def e120_76 : X := (Q (EQ (.v 7) (I (0))) (.b true) e120_75)
@[simp] def e120_77 : X := (Q (.p (.sbin .eql) [(.v 0), (.s w0)]) (.b true) e120_76)
@[simp] def e120_78 : X := (Q (.p (.sbin .neq) [(.v 5), (.s w19)]) (.b true) e120_77)
@[simp] def e120_79 : X := (Q e120_2 (.b true) e120_78)
@[simp] def e120_80 : X := (Q (.v 13) (.b true) e120_34)
@[simp] def e120_81 : X := (Q e120_53 (.b true) e120_80)
@[simp] def e120_82 : X := (Q (.p (.sbin .eql) [(.v 0), (.s w2)]) (.b true) e120_81)
@[simp] def e120_83 : X := (Q (EQ (.v 7) (I (0))) (.b true) e120_82)
@[simp] def e120_84 : X := (Q (.p (.sbin .eql) [(.v 0), (.s w0)]) (.b true) e120_83)
@[simp] def e120_85 : X := (Q (.p (.sbin .neq) [(.v 5), (.s w19)]) (.b true) e120_84)
@[simp] def e120_86 : X := (Q e120_2 (.b true) e120_85)
@[simp] def e120_87 : X := (Q (.p (.sbin .eql) [(.v 0), (.s w2)]) e120_26 e120_33)
@[simp] def e120_88 : X := (Q (.v 13) (.p (.call 103 0) [(.b true), (I (19))]) e120_87)
@[simp] def e120_89 : X := (Q (.p (.bin .neq .i64) [(.v 7), (I (0))]) (.p (.call 103 0) [(.b true), (I (19))]) e120_88)
@[simp] def e120_90 : X := (Q e120_60 (.p (.call 103 0) [(.b true), (I (19))]) e120_70)
@[simp] def e120_91 : X := (Q (.v 13) e120_90 e120_33)
@[simp] def e120_92 : X := (Q e120_53 (.p (.call 103 0) [(.b true), (I (19))]) e120_91)
@[simp] def e120_93 : X := (Q (.p (.sbin .eql) [(.v 0), (.s w2)]) e120_40 e120_92)
@[simp] def e120_94 : X := (Q (EQ (.v 7) (I (0))) (I (19)) e120_93)
@[simp] def e120_95 : X := (Q (.p (.sbin .eql) [(.v 0), (.s w0)]) (I (0)) e120_94)
@[simp] def e120_96 : X := (Q (.p (.sbin .neq) [(.v 5), (.s w19)]) e120_89 e120_95)
@[simp] def e120_97 : X := (Q e120_2 e120_0 e120_96)
def i120 : Inst := ⟨120, 0, [(.agg [(Ss 0), (S1 1), (Si 2), (Si 3)]), (Si 4), (.agg [(Ss 5), (Ss 6), (Si 7), (Si 8), (Si 9), (Si 10), (Sb 11), (Sb 12), (Sb 13), (S3 14), (S2 15)])], [.one (.int .i64)]⟩
def s120 : List Cal := [c178, c95, c103]
@[simp] theorem o120_178 : OE s120 178 F178 := oG rfl
@[simp] theorem o120_95 : OE s120 95 F95 := oG rfl
@[simp] theorem o120_103 : OE s120 103 F103 := oG rfl
@[simp] def l120 : List LoopD := []
def t120 : Te AV := .need e120_1 (
 .need e120_10 (
 .need e120_13 (
 .need e120_17 (
 .need e120_21 (
 .need e120_32 (
 .need e120_39 (
 .need e120_46 (
 .need e120_52 (
 .need e120_59 (
 .need e120_68 (
 .need e120_79 (
 .need e120_86 (
 .ok (.sym (.int .i64) e120_97))))))))))))))
def F120 : List AV → Option AV := unitF (omL KK s120 l120) t120
def c120 : Cal := ⟨i120, F120⟩
theorem x120 : XO i120 F120 := XU (cs := s120) (ds := l120) (t := t120) ⟨x178, x95, x103, trivial⟩ (x := g120) (by kernel_rfl) (by kernel_rfl) (by kernel_rfl)
@[simp] def e119_0 : X := (Q (.p (.sbin .eql) [(.v 0), (.s w0)]) (.b true) (EQ (.v 6) (.v 15)))
@[simp] def e119_1 : X := (Q (.p (.sbin .eql) [(.v 4), (.s w19)]) e119_0 (.b false))
def i119 : Inst := ⟨119, 0, [(.agg [(Ss 0), (S1 1), (Si 2), (Si 3)]), (.agg [(Ss 4), (Ss 5), (Si 6), (Si 7), (Si 8), (Si 9), (Sb 10), (Sb 11), (Sb 12), (S3 13), (S2 14)]), (Si 15)], [.one .bool]⟩
def s119 : List Cal := []
@[simp] def l119 : List LoopD := []
def t119 : Te AV := .ok (.sym .bool e119_1)
def F119 : List AV → Option AV := unitF (omL KK s119 l119) t119
def c119 : Cal := ⟨i119, F119⟩
theorem x119 : XO i119 F119 := XU (cs := s119) (ds := l119) (t := t119) trivial (x := g119) (by kernel_rfl) (by kernel_rfl) (by kernel_rfl)
@[simp] def e118_0 : X := (.p (.call 119 0) [(.v 11), (.v 12), (.v 13), (.v 14), (.v 0), (.v 1), (.v 2), (.v 3), (.v 4), (.v 5), (.v 6), (.v 7), (.v 8), (.v 9), (.v 10), (.v 17)])
@[simp] def e118_1 : X := (.p (.okr [.one .bool]) [e118_0])
def i118 : Inst := ⟨118, 0, [(.agg [(Ss 0), (Ss 1), (Si 2), (Si 3), (Si 4), (Si 5), (Sb 6), (Sb 7), (Sb 8), (S3 9), (S2 10)]), (.ref [(Ss 11), (S1 12), (Si 13), (Si 14)]), (.ref [(Ss 15), (Ss 16), (Si 17), (Si 18), (Si 19), (Si 20), (Sb 21), (Sb 22), (Sb 23), (S3 24), (S2 25)])], [.one .bool]⟩
def s118 : List Cal := [c119]
@[simp] theorem o118_119 : OE s118 119 F119 := oG rfl
@[simp] def l118 : List LoopD := []
def t118 : Te AV := .need e118_1 (
 .ok (.sym .bool e118_0))
def F118 : List AV → Option AV := unitF (omL KK s118 l118) t118
def c118 : Cal := ⟨i118, F118⟩
theorem x118 : XO i118 F118 := XU (cs := s118) (ds := l118) (t := t118) ⟨x119, trivial⟩ (x := g118) (by kernel_rfl) (by kernel_rfl) (by kernel_rfl)
@[simp] def e169_0 : X := (Q (LE (I (0)) (.v 17)) (LT (.v 17) (LN (.v 0))) (.b false))
@[simp] def e169_1 : X := (.p (.call 118 0) [(C 0 (.v 0) (.v 17)), (C 1 (.v 0) (.v 17)), (C 2 (.v 0) (.v 17)), (C 3 (.v 0) (.v 17)), (C 4 (.v 0) (.v 17)), (C 5 (.v 0) (.v 17)), (C 6 (.v 0) (.v 17)), (C 7 (.v 0) (.v 17)), (C 8 (.v 0) (.v 17)), (C 9 (.v 0) (.v 17)), (C 10 (.v 0) (.v 17)), (.v 1), (.v 2), (.v 3), (.v 4), (.v 5), (.v 6), (.v 7), (.v 8), (.v 9), (.v 10), (.v 11), (.v 12), (.v 13), (.v 14), (.v 15)])
@[simp] def e169_2 : X := (.p (.okr [.one .bool]) [e169_1])
@[simp] def e169_3 : X := (.p (.call 100000 16900) [(.v 0), (.v 1), (.v 2), (.v 3), (.v 4), (.v 5), (.v 6), (.v 7), (.v 8), (.v 9), (.v 10), (.v 11), (.v 12), (.v 13), (.v 14), (.v 15), (LN (.v 0)), (I (0))])
@[simp] def e169_4 : X := (PJ 0 e169_3)
@[simp] def e169_5 : X := (EQ e169_4 (I (1)))
@[simp] def e169_6 : X := (EQ e169_4 (I (2)))
@[simp] def e169_7 : X := (Q e169_5 (.b true) e169_6)
@[simp] def e169_8 : X := (PJ 1 e169_3)
@[simp] def e169_9 : X := (Q e169_5 e169_8 (I (-1)))
def B16900 : Te LEnd := .ite (LT (.v 17) (.v 16)) (
 .need e169_0 (
 .need e169_2 (
 .ite e169_1 (
 .ok (.out 1 [(.v 17)])) (
 .ok (.again [(.v 0), (.v 1), (.v 2), (.v 3), (.v 4), (.v 5), (.v 6), (.v 7), (.v 8), (.v 9), (.v 10), (.v 11), (.v 12), (.v 13), (.v 14), (.v 15), (.v 16), (AD (.v 17) (I (1)))]))))) (
 .ok (.out 2 []))
def d16900 : LoopD := ⟨2, ⟨16900, 18, ((S4 0) :: ((.func (.func 118) [] [(.ref [(Ss 1), (S1 2), (Si 3), (Si 4)]), (.ref [(Ss 5), (Ss 6), (Si 7), (Si 8), (Si 9), (Si 10), (Sb 11), (Sb 12), (Sb 13), (S3 14), (S2 15)])]) :: (J 5 ((Si 16) :: ((Si 17) :: (J 10 [])))))), ⟨⟨0, [], [[]], none⟩, [], []⟩,
 [(.ret, 1, (J 4 ((Si 0) :: (J 14 []))), ⟨⟨0, [], [[]], none⟩, [], []⟩),
  (.exit 0, 0, (J 19 []), ⟨⟨0, [], [[]], none⟩, [], []⟩)], [(1, []), (2, [])]⟩, B16900⟩
@[simp] theorem d16900_id : d16900.L.id = 16900 := rfl
@[simp] theorem d16900_B : d16900.B = B16900 := rfl
def i169 : Inst := ⟨169, 0, [(S4 0), (.func (.func 118) [] [(.ref [(Ss 1), (S1 2), (Si 3), (Si 4)]), (.ref [(Ss 5), (Ss 6), (Si 7), (Si 8), (Si 9), (Si 10), (Sb 11), (Sb 12), (Sb 13), (S3 14), (S2 15)])])], [.one (.int .i64)]⟩
def s169 : List Cal := [c118]
@[simp] theorem o169_118 : OE s169 118 F118 := oG rfl
@[simp] def l169 : List LoopD := [d16900]
def t169 : Te AV := .need e169_7 (
 .ok (.sym (.int .i64) e169_9))
def F169 : List AV → Option AV := unitF (omL KK s169 l169) t169
def c169 : Cal := ⟨i169, F169⟩
theorem x169 : XO i169 F169 := XU (cs := s169) (ds := l169) (t := t169) ⟨x118, trivial⟩ (x := g169) (by kernel_rfl) (by kernel_rfl) (by kernel_rfl)
@[simp] def e100_0 : X := (.p (.call 169 0) [(.v 0), (.v 1), (.v 2), (.v 3), (.v 4), (.v 5), (.v 6), (.v 7), (.v 8), (.v 9), (.v 10), (.v 11), (.v 12), (.v 13), (.v 14), (.v 15)])
@[simp] def e100_1 : X := (.p (.okr [.one (.int .i64)]) [e100_0])
@[simp] def e100_2 : X := (.p (.bin .geq .i64) [e100_0, (I (0))])
def i100 : Inst := ⟨100, 0, [(S4 0), (.func (.func 118) [] [(.ref [(Ss 1), (S1 2), (Si 3), (Si 4)]), (.ref [(Ss 5), (Ss 6), (Si 7), (Si 8), (Si 9), (Si 10), (Sb 11), (Sb 12), (Sb 13), (S3 14), (S2 15)])])], [.one .bool]⟩
def s100 : List Cal := [c169]
@[simp] theorem o100_169 : OE s100 169 F169 := oG rfl
@[simp] def l100 : List LoopD := []
def t100 : Te AV := .need e100_1 (
 .ok (.sym .bool e100_2))
def F100 : List AV → Option AV := unitF (omL KK s100 l100) t100
def c100 : Cal := ⟨i100, F100⟩
theorem x100 : XO i100 F100 := XU (cs := s100) (ds := l100) (t := t100) ⟨x169, trivial⟩ (x := g100) (by kernel_rfl) (by kernel_rfl) (by kernel_rfl)
@[simp] def e60_0 : X := (Q (LE (I (0)) (.v 2)) (LT (.v 2) (LN (.v 0))) (.b false))
@[simp] def e60_1 : X := (.p (.sbin .eql) [(C 0 (.v 0) (.v 2)), (.s w19)])
@[simp] def e60_2 : X := (Q e60_1 (LE (I (0)) (.v 2)) (.b true))
@[simp] def e60_3 : X := (Q e60_1 (LE (.v 2) (LN (.v 0))) (.b true))
@[simp] def e60_4 : X := (.p (.call 100 0) [(.p .slice [(.v 0), (I (0)), (.v 2)]), (.v 4), (.v 5), (.v 6), (.v 7), (C 0 (.v 0) (.v 2)), (C 1 (.v 0) (.v 2)), (C 2 (.v 0) (.v 2)), (C 3 (.v 0) (.v 2)), (C 4 (.v 0) (.v 2)), (C 5 (.v 0) (.v 2)), (C 6 (.v 0) (.v 2)), (C 7 (.v 0) (.v 2)), (C 8 (.v 0) (.v 2)), (C 9 (.v 0) (.v 2)), (C 10 (.v 0) (.v 2))])
@[simp] def e60_5 : X := (.p (.okr [.one .bool]) [e60_4])
@[simp] def e60_6 : X := (Q e60_1 e60_5 (.b true))
@[simp] def e60_7 : X := (.p (.call 120 0) [(.v 4), (.v 5), (.v 6), (.v 7), (.v 3), (C 0 (.v 0) (.v 2)), (C 1 (.v 0) (.v 2)), (C 2 (.v 0) (.v 2)), (C 3 (.v 0) (.v 2)), (C 4 (.v 0) (.v 2)), (C 5 (.v 0) (.v 2)), (C 6 (.v 0) (.v 2)), (C 7 (.v 0) (.v 2)), (C 8 (.v 0) (.v 2)), (C 9 (.v 0) (.v 2)), (C 10 (.v 0) (.v 2))])
@[simp] def e60_8 : X := (.p (.okr [.one (.int .i64)]) [e60_7])
@[simp] def e60_9 : X := (Q e60_1 e60_4 (.b false))
@[simp] def e60_10 : X := (.p (.call 103 0) [e60_9, (I (9))])
@[simp] def e60_11 : X := (.p (.okr [.one (.int .i64)]) [e60_10])
@[simp] def e60_12 : X := (.sl 1 [[e60_7], [e60_10]])
@[simp] def e60_13 : X := (.p (.call 102 0) [e60_12])
@[simp] def e60_14 : X := (.p (.okr [.one (.int .i64)]) [e60_13])
@[simp] def e60_15 : X := (.p (.bin .neq .i64) [e60_13, (I (0))])
@[simp] def e60_16 : X := (.p (.call 58 0) [(.v 0), (.v 1), (.v 2), (.v 3)])
@[simp] def e60_17 : X := (.p (.okr [.one (.int .i64)]) [e60_16])
@[simp] def e60_18 : X := (.p (.call 115 0) [(.v 4), (I (0)), (I (86399999))])
@[simp] def e60_19 : X := (.p (.okr [.one (.int .i64)]) [e60_18])
@[simp] def e60_20 : X := (.p (.bin .neq .i64) [(LN (.v 5)), (LN (.v 1))])
@[simp] def e60_21 : X := (.p (.call 103 0) [e60_20, (I (2))])
@[simp] def e60_22 : X := (.p (.okr [.one (.int .i64)]) [e60_21])
@[simp] def e60_23 : X := (.sl 1 [[e60_16], [e60_18], [e60_21]])
@[simp] def e60_24 : X := (.p (.call 102 0) [e60_23])
@[simp] def e60_25 : X := (.p (.okr [.one (.int .i64)]) [e60_24])
@[simp] def e60_26 : X := (.p (.bin .neq .i64) [e60_24, (I (0))])
@[simp] def e60_27 : X := (.p (.call 100000 6000) [(.v 5), (LN (.v 5)), (I (0)), (.v 4), (.v 0), (.v 1), (.v 2), (.v 3)])
@[simp] def e60_28 : X := (PJ 0 e60_27)
@[simp] def e60_29 : X := (EQ e60_28 (I (1)))
@[simp] def e60_30 : X := (EQ e60_28 (I (2)))
@[simp] def e60_31 : X := (Q e60_29 (.b true) e60_30)
@[simp] def e60_32 : X := (Q e60_26 (.b true) e60_31)
@[simp] def e60_33 : X := (PJ 1 e60_27)
@[simp] def e60_34 : X := (Q e60_29 e60_33 (I (0)))
@[simp] def e60_35 : X := (Q e60_26 e60_24 e60_34)
def B6000 : Te LEnd := .ite (LT (.v 2) (.v 1)) (
 .need e60_0 (
 .need e60_2 (
 .need e60_3 (
 .need e60_6 (
 .need e60_8 (
 .need e60_11 (
 .need e60_14 (
 .ite e60_15 (
 .ok (.out 1 [e60_13])) (
 .ok (.again [(.v 0), (.v 1), (AD (.v 2) (I (1))), (.v 3), (.v 4), (.v 5), (.v 6), (.v 7)])))))))))) (
 .ok (.out 2 []))
def d6000 : LoopD := ⟨5, ⟨6000, 8, (J 2 ((.ptr 0 0 0) :: ((.ptr 1 0 0) :: (J 25 ((S4 0) :: ((Si 1) :: ((Si 2) :: (J 28 [])))))))), ⟨⟨5, [(1, .cells 2 [[(Si 3), (S4 0)]]), (0, .cells 4 [[(Ss 4), (S1 5), (Si 6), (Si 7)]])], [[]], none⟩, [], []⟩,
 [(.ret, 1, (J 4 ((Si 0) :: (J 55 []))), ⟨⟨7, [], [[]], none⟩, [], []⟩),
  (.exit 0, 0, (J 60 []), ⟨⟨5, [], [[]], none⟩, [], []⟩)], [(1, []), (2, [])]⟩, B6000⟩
@[simp] theorem d6000_id : d6000.L.id = 6000 := rfl
@[simp] theorem d6000_B : d6000.B = B6000 := rfl
def i60 : Inst := ⟨60, 0, [(.agg [(Ss 0), (S1 1), (Si 2), (Si 3)]), (.agg [(Si 4), (S4 5)])], [.one (.int .i64)]⟩
def s60 : List Cal := [c58, c115, c103, c102, c100, c120]
@[simp] theorem o60_58 : OE s60 58 F58 := oG rfl
@[simp] theorem o60_115 : OE s60 115 F115 := oG rfl
@[simp] theorem o60_103 : OE s60 103 F103 := oG rfl
@[simp] theorem o60_102 : OE s60 102 F102 := oG rfl
@[simp] theorem o60_100 : OE s60 100 F100 := oG rfl
@[simp] theorem o60_120 : OE s60 120 F120 := oG rfl
@[simp] def l60 : List LoopD := [d6000]
def t60 : Te AV := .need e60_17 (
 .need e60_19 (
 .need e60_22 (
 .need e60_25 (
 .need e60_32 (
 .ok (.sym (.int .i64) e60_35))))))
def F60 : List AV → Option AV := unitF (omL KK s60 l60) t60
def c60 : Cal := ⟨i60, F60⟩
theorem x60 : XO i60 F60 := XU (cs := s60) (ds := l60) (t := t60) ⟨x58, x115, x103, x102, x100, x120, trivial⟩ (x := g60) (by kernel_rfl) (by kernel_rfl) (by kernel_rfl)
end Go.Proofs.YtdeaibcebeofiaaGreatDoor.C5
