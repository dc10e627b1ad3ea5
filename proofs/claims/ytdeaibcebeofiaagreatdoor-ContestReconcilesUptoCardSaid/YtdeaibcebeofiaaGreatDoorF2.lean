/-
  Functions, as trees.
-/
import Derived.Test.YtdeaibcebeofiaaGreatDoorF1
import Derived.Test.YtdeaibcebeofiaaGreatDoorRowsB
set_option linter.unusedVariables false
set_option linter.unusedSimpArgs false
set_option linter.unusedSectionVars false
namespace Go.Proofs.YtdeaibcebeofiaaGreatDoor.C5
open Go Go.Proofs.YtdeaibcebeofiaaGreatDoor.AM Go.Proofs
set_option maxRecDepth 100000
@[simp] def e90_0 : X := (.p .ite [(.p (.bin .lss .i64) [(.v 0), (.v 1)]), (.b true), (.p (.bin .gtr .i64) [(.v 0), (.v 2)])])
def i90 : Inst := ⟨90, 0, [(.sym (.int .i64) (.v 0)), (.sym (.int .i64) (.v 1)), (.sym (.int .i64) (.v 2))], [.one .bool]⟩
def s90 : List Cal := []
@[simp] def l90 : List LoopD := []
def t90 : Te AV := .ok (.sym .bool e90_0)
def F90 : List AV → Option AV := unitF (omL KK s90 l90) t90
def c90 : Cal := ⟨i90, F90⟩
theorem u90 : unitChk tab keep s90 l90 40 90 i90.pats t90 = true := by kernel_rfl
theorem q90 : Known Tryz.prog 90 := fn_known tabOf.1 (x := g90) (by kernel_rfl) (by kernel_rfl)
theorem x90 : ExtOk Tryz.prog 90 (extI i90 F90) := unit_ext tabOf.1 tabOf.2 (allX_mem (cs := s90) trivial) q90 u90
@[simp] def e116_0 : X := (.p .ite [(.p (.sbin .eql) [(.v 0), (.s w2)]), (I (8)), (I (0))])
@[simp] def e116_1 : X := (.p .ite [(.p (.sbin .eql) [(.v 0), (.s w1)]), (I (8)), e116_0])
@[simp] def e116_2 : X := (.p .ite [(.p (.sbin .eql) [(.v 0), (.s w0)]), (I (64)), e116_1])
def i116 : Inst := ⟨116, 0, [(.sym .str (.v 0))], [.one (.int .i64)]⟩
def s116 : List Cal := []
@[simp] def l116 : List LoopD := []
def t116 : Te AV := .ok (.sym (.int .i64) e116_2)
def F116 : List AV → Option AV := unitF (omL KK s116 l116) t116
def c116 : Cal := ⟨i116, F116⟩
theorem u116 : unitChk tab keep s116 l116 40 116 i116.pats t116 = true := by kernel_rfl
theorem q116 : Known Tryz.prog 116 := fn_known tabOf.1 (x := g116) (by kernel_rfl) (by kernel_rfl)
theorem x116 : ExtOk Tryz.prog 116 (extI i116 F116) := unit_ext tabOf.1 tabOf.2 (allX_mem (cs := s116) trivial) q116 u116
@[simp] def e117_0 : X := (.p (.bin .lss .i64) [(.v 1), (.p .len [(.v 0)])])
@[simp] def e117_1 : X := (.p .ite [(.p (.bin .leq .i64) [(I (0)), (.v 1)]), e117_0, (.b false)])
@[simp] def e117_2 : X := (.p (.bin .geq .u8) [(.p .byte [(.v 0), (.v 1)]), (.i .u8 (97))])
@[simp] def e117_3 : X := (.p (.bin .leq .u8) [(.p .byte [(.v 0), (.v 1)]), (.i .u8 (122))])
@[simp] def e117_4 : X := (.p (.bin .geq .u8) [(.p .byte [(.v 0), (.v 1)]), (.i .u8 (65))])
@[simp] def e117_5 : X := (.p (.bin .leq .u8) [(.p .byte [(.v 0), (.v 1)]), (.i .u8 (90))])
@[simp] def e117_6 : X := (.p .ite [e117_4, e117_5, (.b false)])
@[simp] def e117_7 : X := (.p .ite [e117_3, (.b true), e117_6])
@[simp] def e117_8 : X := (.p .ite [e117_2, e117_7, e117_6])
@[simp] def e117_9 : X := (.p .not [e117_8])
@[simp] def e117_10 : X := (.p (.bin .geq .u8) [(.p .byte [(.v 0), (.v 1)]), (.i .u8 (48))])
@[simp] def e117_11 : X := (.p (.bin .leq .u8) [(.p .byte [(.v 0), (.v 1)]), (.i .u8 (57))])
@[simp] def e117_12 : X := (.p (.bin .eql .u8) [(.p .byte [(.v 0), (.v 1)]), (.i .u8 (95))])
@[simp] def e117_13 : X := (.p .not [e117_12])
@[simp] def e117_14 : X := (.p .ite [e117_11, (.b false), e117_13])
@[simp] def e117_15 : X := (.p .ite [e117_10, e117_14, e117_13])
@[simp] def e117_16 : X := (.p .ite [(.p (.bin .eql .i64) [(.v 1), (I (0))]), (.b true), e117_15])
@[simp] def e117_17 : X := (.p .ite [e117_9, e117_16, (.b false)])
@[simp] def e117_18 : X := (.p (.bin .lss .i64) [(.p .len [(.v 0)]), (I (1))])
@[simp] def e117_19 : X := (.p (.bin .gtr .i64) [(.p .len [(.v 0)]), (I (24))])
@[simp] def e117_20 : X := (.p .ite [e117_18, (.b true), e117_19])
@[simp] def e117_21 : X := (.p (.call 100000 11700) [(.v 0), (I (0))])
@[simp] def e117_22 : X := (.p (.proj 0) [e117_21])
@[simp] def e117_23 : X := (.p (.bin .eql .i64) [e117_22, (I (1))])
@[simp] def e117_24 : X := (.p (.bin .eql .i64) [e117_22, (I (2))])
@[simp] def e117_25 : X := (.p .ite [e117_23, (.b true), e117_24])
@[simp] def e117_26 : X := (.p .ite [e117_20, (.b true), e117_25])
@[simp] def e117_27 : X := (.p .ite [e117_23, (.b false), (.b true)])
@[simp] def e117_28 : X := (.p .ite [e117_20, (.b false), e117_27])
def B11700 : Te LEnd := .ite e117_0 (
 .need e117_1 (
 .ite e117_17 (
 .ok (.out 1 [])) (
 .ok (.again [(.v 0), (.p (.bin .add .i64) [(.v 1), (I (1))])])))) (
 .ok (.out 2 []))
def d11700 : LoopD := ⟨4, ⟨11700, 2, ((.sym .str (.v 0)) :: (J 2 ((.sym (.int .i64) (.v 1)) :: (J 52 [])))), ⟨⟨0, [], [[]], none⟩, [], []⟩,
 [(.ret, 0, (J 2 ((.bool false) :: (J 53 []))), ⟨⟨0, [], [[]], none⟩, [], []⟩),
  (.exit 0, 0, (J 56 []), ⟨⟨0, [], [[]], none⟩, [], []⟩)], [(1, []), (2, [])]⟩, B11700⟩
@[simp] theorem d11700_id : d11700.L.id = 11700 := rfl
@[simp] theorem d11700_B : d11700.B = B11700 := rfl
def i117 : Inst := ⟨117, 0, [(.sym .str (.v 0))], [.one .bool]⟩
def s117 : List Cal := []
@[simp] def l117 : List LoopD := [d11700]
def t117 : Te AV := .need e117_26 (
 .ok (.sym .bool e117_28))
def F117 : List AV → Option AV := unitF (omL KK s117 l117) t117
def c117 : Cal := ⟨i117, F117⟩
theorem u117 : unitChk tab keep s117 l117 40 117 i117.pats t117 = true := by kernel_rfl
theorem q117 : Known Tryz.prog 117 := fn_known tabOf.1 (x := g117) (by kernel_rfl) (by kernel_rfl)
theorem x117 : ExtOk Tryz.prog 117 (extI i117 F117) := unit_ext tabOf.1 tabOf.2 (allX_mem (cs := s117) trivial) q117 u117
@[simp] def e182_0 : X := (.p (.bin .lss .i64) [(.v 2), (.p .len [(.v 0)])])
@[simp] def e182_1 : X := (.p .ite [(.p (.bin .leq .i64) [(I (0)), (.v 2)]), e182_0, (.b false)])
@[simp] def e182_2 : X := (.p (.sbin .eql) [(.p (.cell 0) [(.v 0), (.v 2)]), (.v 1)])
@[simp] def e182_3 : X := (.p (.call 100000 18200) [(.v 0), (.v 1), (I (0))])
@[simp] def e182_4 : X := (.p (.proj 0) [e182_3])
@[simp] def e182_5 : X := (.p (.bin .eql .i64) [e182_4, (I (1))])
@[simp] def e182_6 : X := (.p (.bin .eql .i64) [e182_4, (I (2))])
@[simp] def e182_7 : X := (.p .ite [e182_5, (.b true), e182_6])
@[simp] def e182_8 : X := (.p .ite [e182_5, (.b true), (.b false)])
def B18200 : Te LEnd := .ite e182_0 (
 .need e182_1 (
 .ite e182_2 (
 .ok (.out 1 [])) (
 .ok (.again [(.v 0), (.v 1), (.p (.bin .add .i64) [(.v 2), (I (1))])])))) (
 .ok (.out 2 []))
def d18200 : LoopD := ⟨2, ⟨18200, 3, ((.sym (.sl [.str]) (.v 0)) :: ((.sym .str (.v 1)) :: (J 3 ((.sym (.int .i64) (.v 2)) :: (J 12 []))))), ⟨⟨0, [], [[]], none⟩, [], []⟩,
 [(.ret, 0, (J 4 ((.bool true) :: (J 13 []))), ⟨⟨0, [], [[]], none⟩, [], []⟩),
  (.exit 0, 0, (J 18 []), ⟨⟨0, [], [[]], none⟩, [], []⟩)], [(1, []), (2, [])]⟩, B18200⟩
@[simp] theorem d18200_id : d18200.L.id = 18200 := rfl
@[simp] theorem d18200_B : d18200.B = B18200 := rfl
def i182 : Inst := ⟨182, 0, [(.sym (.sl [.str]) (.v 0)), (.sym .str (.v 1))], [.one .bool]⟩
def s182 : List Cal := []
@[simp] def l182 : List LoopD := [d18200]
def t182 : Te AV := .need e182_7 (
 .ok (.sym .bool e182_8))
def F182 : List AV → Option AV := unitF (omL KK s182 l182) t182
def c182 : Cal := ⟨i182, F182⟩
theorem u182 : unitChk tab keep s182 l182 40 182 i182.pats t182 = true := by kernel_rfl
theorem q182 : Known Tryz.prog 182 := fn_known tabOf.1 (x := g182) (by kernel_rfl) (by kernel_rfl)
theorem x182 : ExtOk Tryz.prog 182 (extI i182 F182) := unit_ext tabOf.1 tabOf.2 (allX_mem (cs := s182) trivial) q182 u182
@[simp] def e131_0 : X := (.p (.okr [.one .bool]) [(.p (.call 182 0) [(.v 1), (.v 0)])])
def i131 : Inst := ⟨131, 0, [(.sym .str (.v 0)), (.sym (.sl [.str]) (.v 1))], [.one .bool]⟩
def s131 : List Cal := [c182]
@[simp] theorem o131_182 (vs : List AV) : calO s131 182 0 vs = getJ (F182 vs) := by simp [s131, cal_cons, c182, i182]
@[simp] def l131 : List LoopD := []
def t131 : Te AV := .need e131_0 (
 .ok (.sym .bool (.p (.call 182 0) [(.v 1), (.v 0)])))
def F131 : List AV → Option AV := unitF (omL KK s131 l131) t131
def c131 : Cal := ⟨i131, F131⟩
theorem u131 : unitChk tab keep s131 l131 40 131 i131.pats t131 = true := by kernel_rfl
theorem q131 : Known Tryz.prog 131 := fn_known tabOf.1 (x := g131) (by kernel_rfl) (by kernel_rfl)
theorem x131 : ExtOk Tryz.prog 131 (extI i131 F131) := unit_ext tabOf.1 tabOf.2 (allX_mem (cs := s131) ⟨x182, trivial⟩) q131 u131
def i132 : Inst := ⟨132, 0, [(.sym .str (.v 0))], [.one (.sl [.str])]⟩
def s132 : List Cal := []
@[simp] def l132 : List LoopD := []
def t132 : Te AV := .ite (.p (.sbin .eql) [(.v 0), (.s w0)]) (
 .ok (.sl 1 [[(.str w4)], [(.str w5)], [(.str w6)], [(.str w9)], [(.str w10)], [(.str w12)], [(.str w15)], [(.str w16)], [(.str w17)]])) (
 .ite (.p (.sbin .eql) [(.v 0), (.s w1)]) (
 .ok (.sl 1 [[(.str w4)], [(.str w7)], [(.str w8)], [(.str w9)], [(.str w10)], [(.str w11)], [(.str w12)], [(.str w15)], [(.str w16)], [(.str w17)]])) (
 .ite (.p (.sbin .eql) [(.v 0), (.s w2)]) (
 .ok (.sl 1 [[(.str w4)], [(.str w13)], [(.str w14)], [(.str w10)], [(.str w15)], [(.str w16)], [(.str w17)]])) (
 .ok (.sl 1 [[(.str w4)], [(.str w5)], [(.str w6)], [(.str w7)], [(.str w8)], [(.str w9)], [(.str w10)], [(.str w11)], [(.str w12)], [(.str w13)], [(.str w14)], [(.str w15)], [(.str w16)], [(.str w17)]]))))
def F132 : List AV → Option AV := unitF (omL KK s132 l132) t132
def c132 : Cal := ⟨i132, F132⟩
theorem u132 : unitChk tab keep s132 l132 40 132 i132.pats t132 = true := by kernel_rfl
theorem q132 : Known Tryz.prog 132 := fn_known tabOf.1 (x := g132) (by kernel_rfl) (by kernel_rfl)
theorem x132 : ExtOk Tryz.prog 132 (extI i132 F132) := unit_ext tabOf.1 tabOf.2 (allX_mem (cs := s132) trivial) q132 u132
@[simp] def e82_0 : X := (.p (.bin .sub .i64) [(.p .len [(.v 1)]), (I (1))])
@[simp] def e82_1 : X := (.p (.call 90 0) [(.v 4), (I (0)), e82_0])
@[simp] def e82_2 : X := (.p (.okr [.one .bool]) [e82_1])
@[simp] def e82_3 : X := (.p (.okr [.one (.sl [.str])]) [(.p (.call 132 0) [(.s w3)])])
@[simp] def e82_4 : X := (.p .ite [e82_1, (.b true), e82_3])
@[simp] def e82_5 : X := (.p (.call 131 0) [(.v 5), (.p (.call 132 0) [(.s w3)])])
@[simp] def e82_6 : X := (.p (.okr [.one .bool]) [e82_5])
@[simp] def e82_7 : X := (.p .ite [e82_1, (.b true), e82_6])
@[simp] def e82_8 : X := (.p .not [e82_5])
@[simp] def e82_9 : X := (.p (.call 90 0) [(.v 6), (I (0)), (I (86399999))])
@[simp] def e82_10 : X := (.p (.okr [.one .bool]) [e82_9])
@[simp] def e82_11 : X := (.p .ite [e82_8, (.b true), e82_10])
@[simp] def e82_12 : X := (.p .ite [e82_1, (.b true), e82_11])
@[simp] def e82_13 : X := (.p (.call 90 0) [(.v 7), (I (0)), (I (86399999))])
@[simp] def e82_14 : X := (.p (.okr [.one .bool]) [e82_13])
@[simp] def e82_15 : X := (.p .ite [e82_9, (.b true), e82_14])
@[simp] def e82_16 : X := (.p .ite [e82_8, (.b true), e82_15])
@[simp] def e82_17 : X := (.p .ite [e82_1, (.b true), e82_16])
@[simp] def e82_18 : X := (.p .ite [e82_9, (.b true), e82_13])
@[simp] def e82_19 : X := (.sl 1 [[(.s w4)], [(.s w5)], [(.s w13)]])
@[simp] def e82_20 : X := (.p (.call 131 0) [(.v 5), e82_19])
@[simp] def e82_21 : X := (.p (.okr [.one .bool]) [e82_20])
@[simp] def e82_22 : X := (.p .ite [(.p (.bin .neq .i64) [(.v 6), (I (0))]), e82_21, (.b true)])
@[simp] def e82_23 : X := (.p .ite [e82_18, (.b true), e82_22])
@[simp] def e82_24 : X := (.p .ite [e82_8, (.b true), e82_23])
@[simp] def e82_25 : X := (.p .ite [e82_1, (.b true), e82_24])
@[simp] def e82_26 : X := (.p .not [e82_20])
@[simp] def e82_27 : X := (.p .ite [(.p (.bin .neq .i64) [(.v 6), (I (0))]), e82_26, (.b false)])
@[simp] def e82_28 : X := (.p .ite [e82_27, (I (1)), (I (0))])
@[simp] def e82_29 : X := (.p .ite [e82_18, (I (3)), e82_28])
@[simp] def e82_30 : X := (.p .ite [e82_8, (I (13)), e82_29])
@[simp] def e82_31 : X := (.p .ite [e82_1, (I (10)), e82_30])
def i82 : Inst := ⟨82, 0, [(.agg [(.sym .str (.v 0)), (.sym (.sl [.str]) (.v 1)), (.sym (.int .i64) (.v 2)), (.sym (.int .i64) (.v 3))]), (.agg [(.sym (.int .i64) (.v 4)), (.sym .str (.v 5)), (.sym (.int .i64) (.v 6)), (.sym (.int .i64) (.v 7))])], [.one (.int .i64)]⟩
def s82 : List Cal := [c90, c132, c131]
@[simp] theorem o82_90 (vs : List AV) : calO s82 90 0 vs = getJ (F90 vs) := by simp [s82, cal_cons, c90, i90, c132, i132, c131, i131]
@[simp] theorem o82_132 (vs : List AV) : calO s82 132 0 vs = getJ (F132 vs) := by simp [s82, cal_cons, c90, i90, c132, i132, c131, i131]
@[simp] theorem o82_131 (vs : List AV) : calO s82 131 0 vs = getJ (F131 vs) := by simp [s82, cal_cons, c90, i90, c132, i132, c131, i131]
@[simp] def l82 : List LoopD := []
def t82 : Te AV := .need e82_2 (
 .need e82_4 (
 .need e82_7 (
 .need e82_12 (
 .need e82_17 (
 .need e82_25 (
 .ok (.sym (.int .i64) e82_31)))))))
def F82 : List AV → Option AV := unitF (omL KK s82 l82) t82
def c82 : Cal := ⟨i82, F82⟩
theorem u82 : unitChk tab keep s82 l82 40 82 i82.pats t82 = true := by kernel_rfl
theorem q82 : Known Tryz.prog 82 := fn_known tabOf.1 (x := g82) (by kernel_rfl) (by kernel_rfl)
theorem x82 : ExtOk Tryz.prog 82 (extI i82 F82) := unit_ext tabOf.1 tabOf.2 (allX_mem (cs := s82) ⟨x90, x132, x131, trivial⟩) q82 u82
@[simp] def e59_0 : X := (.p (.bin .lss .i64) [(.v 0), (.p .len [(.v 2)])])
@[simp] def e59_1 : X := (.p .ite [(.p (.bin .leq .i64) [(I (0)), (.v 0)]), e59_0, (.b false)])
@[simp] def e59_2 : X := (.p (.call 117 0) [(.p (.cell 0) [(.v 2), (.v 0)])])
@[simp] def e59_3 : X := (.p (.okr [.one .bool]) [e59_2])
@[simp] def e59_4 : X := (.p .not [e59_2])
@[simp] def e59_5 : X := (.p (.call 100000 5901) [(.v 0), (I (0)), (.v 1), (.v 2), (.v 3), (.v 4)])
@[simp] def e59_6 : X := (.p (.proj 0) [e59_5])
@[simp] def e59_7 : X := (.p (.bin .eql .i64) [e59_6, (I (1))])
@[simp] def e59_8 : X := (.p (.bin .eql .i64) [e59_6, (I (2))])
@[simp] def e59_9 : X := (.p (.bin .lss .i64) [(.v 1), (.p .len [(.v 3)])])
@[simp] def e59_10 : X := (.p .ite [(.p (.bin .leq .i64) [(I (0)), (.v 1)]), e59_9, (.b false)])
@[simp] def e59_11 : X := (.p (.bin .lss .i64) [(.v 0), (.p .len [(.v 3)])])
@[simp] def e59_12 : X := (.p .ite [(.p (.bin .leq .i64) [(I (0)), (.v 0)]), e59_11, (.b false)])
@[simp] def e59_13 : X := (.p (.sbin .eql) [(.p (.cell 0) [(.v 3), (.v 1)]), (.p (.cell 0) [(.v 3), (.v 0)])])
@[simp] def e59_14 : X := (.p (.okr [.one (.int .i64)]) [(.p (.call 116 0) [(.v 0)])])
@[simp] def e59_15 : X := (.p (.bin .eql .i64) [(.p (.call 116 0) [(.v 0)]), (I (0))])
@[simp] def e59_16 : X := (.p (.bin .eql .i64) [(.p .len [(.v 1)]), (I (0))])
@[simp] def e59_17 : X := (.p (.bin .gtr .i64) [(.p .len [(.v 1)]), (I (160))])
@[simp] def e59_18 : X := (.p (.call 100000 5900) [(I (0)), (.v 0), (.v 1), (.v 2), (.v 3)])
@[simp] def e59_19 : X := (.p (.proj 0) [e59_18])
@[simp] def e59_20 : X := (.p (.bin .eql .i64) [e59_19, (I (1))])
@[simp] def e59_21 : X := (.p (.bin .eql .i64) [e59_19, (I (2))])
@[simp] def e59_22 : X := (.p .ite [e59_20, (.b true), e59_21])
@[simp] def e59_23 : X := (.p .ite [e59_17, (.b true), e59_22])
@[simp] def e59_24 : X := (.p .ite [e59_16, (.b true), e59_23])
@[simp] def e59_25 : X := (.p .ite [e59_15, (.b true), e59_24])
@[simp] def e59_26 : X := (.p (.call 90 0) [(.v 2), (I (1)), (.p (.call 116 0) [(.v 0)])])
@[simp] def e59_27 : X := (.p (.okr [.one .bool]) [e59_26])
@[simp] def e59_28 : X := (.p .ite [e59_20, (.b true), e59_27])
@[simp] def e59_29 : X := (.p .ite [e59_17, (.b true), e59_28])
@[simp] def e59_30 : X := (.p .ite [e59_16, (.b true), e59_29])
@[simp] def e59_31 : X := (.p .ite [e59_15, (.b true), e59_30])
@[simp] def e59_32 : X := (.p (.call 90 0) [(.v 3), (I (1)), (I (86399999))])
@[simp] def e59_33 : X := (.p (.okr [.one .bool]) [e59_32])
@[simp] def e59_34 : X := (.p .ite [e59_26, (.b true), e59_33])
@[simp] def e59_35 : X := (.p .ite [e59_20, (.b true), e59_34])
@[simp] def e59_36 : X := (.p .ite [e59_17, (.b true), e59_35])
@[simp] def e59_37 : X := (.p .ite [e59_16, (.b true), e59_36])
@[simp] def e59_38 : X := (.p .ite [e59_15, (.b true), e59_37])
@[simp] def e59_39 : X := (.p (.proj 1) [e59_18])
@[simp] def e59_40 : X := (.p .ite [e59_26, (.b true), e59_32])
@[simp] def e59_41 : X := (.p .ite [e59_40, (I (3)), (I (0))])
@[simp] def e59_42 : X := (.p .ite [e59_20, e59_39, e59_41])
@[simp] def e59_43 : X := (.p .ite [e59_17, (I (5)), e59_42])
@[simp] def e59_44 : X := (.p .ite [e59_16, (I (12)), e59_43])
@[simp] def e59_45 : X := (.p .ite [e59_15, (I (13)), e59_44])
def B5900 : Te LEnd := .ite e59_0 (
 .need e59_1 (
 .need e59_3 (
 .ite e59_4 (
 .ok (.out 1 [(I (8))])) (
 .ite e59_7 (
 .ok (.out 1 [(I (9))])) (
 .need e59_8 (
 .ok (.again [(.p (.bin .add .i64) [(.v 0), (I (1))]), (.v 1), (.v 2), (.v 3), (.v 4)]))))))) (
 .ok (.out 2 [(.v 1), (.v 2), (.v 3), (.v 4)]))
def d5900 : LoopD := ⟨8, ⟨5900, 5, (J 1 ((.ptr 0 0 0) :: (J 1 ((.sym (.int .i64) (.v 0)) :: (J 54 []))))), ⟨⟨1, [(0, .cells 4 [[(.sym .str (.v 1)), (.sym (.sl [.str]) (.v 2)), (.sym (.int .i64) (.v 3)), (.sym (.int .i64) (.v 4))]])], [[]], none⟩, [], []⟩,
 [(.ret, 1, (J 2 ((.sym (.int .i64) (.v 0)) :: (J 55 []))), ⟨⟨1, [], [[]], none⟩, [], []⟩),
  (.exit 0, 4, (J 1 ((.ptr 0 0 0) :: (J 56 []))), ⟨⟨1, [(0, .cells 4 [[(.sym .str (.v 0)), (.sym (.sl [.str]) (.v 1)), (.sym (.int .i64) (.v 2)), (.sym (.int .i64) (.v 3))]])], [[]], none⟩, [], []⟩)], [(1, []), (2, [(0, 1), (1, 2), (2, 3), (3, 4)])]⟩, B5900⟩
@[simp] theorem d5900_id : d5900.L.id = 5900 := rfl
@[simp] theorem d5900_B : d5900.B = B5900 := rfl
def B5901 : Te LEnd := .ite (.p (.bin .lss .i64) [(.v 1), (.v 0)]) (
 .need e59_10 (
 .need e59_12 (
 .ite e59_13 (
 .ok (.out 1 [])) (
 .ok (.again [(.v 0), (.p (.bin .add .i64) [(.v 1), (I (1))]), (.v 2), (.v 3), (.v 4), (.v 5)]))))) (
 .ok (.out 2 [(.v 0), (.v 2), (.v 3), (.v 4), (.v 5)]))
def d5901 : LoopD := ⟨13, ⟨5901, 6, (J 1 ((.ptr 0 0 0) :: (J 1 ((.sym (.int .i64) (.v 0)) :: ((.sym (.int .i64) (.v 1)) :: (J 53 [])))))), ⟨⟨1, [(0, .cells 4 [[(.sym .str (.v 2)), (.sym (.sl [.str]) (.v 3)), (.sym (.int .i64) (.v 4)), (.sym (.int .i64) (.v 5))]])], [[]], none⟩, [], []⟩,
 [(.ret, 0, (J 2 ((.int .i64 (9)) :: (J 55 []))), ⟨⟨1, [], [[]], none⟩, [], []⟩),
  (.exit 2, 5, (J 1 ((.ptr 0 0 0) :: (J 1 ((.sym (.int .i64) (.v 0)) :: (J 54 []))))), ⟨⟨1, [(0, .cells 4 [[(.sym .str (.v 1)), (.sym (.sl [.str]) (.v 2)), (.sym (.int .i64) (.v 3)), (.sym (.int .i64) (.v 4))]])], [[]], none⟩, [], []⟩)], [(1, []), (2, [(0, 0), (1, 2), (2, 3), (3, 4), (4, 5)])]⟩, B5901⟩
@[simp] theorem d5901_id : d5901.L.id = 5901 := rfl
@[simp] theorem d5901_B : d5901.B = B5901 := rfl
def i59 : Inst := ⟨59, 0, [(.agg [(.sym .str (.v 0)), (.sym (.sl [.str]) (.v 1)), (.sym (.int .i64) (.v 2)), (.sym (.int .i64) (.v 3))])], [.one (.int .i64)]⟩
def s59 : List Cal := [c116, c90, c117]
@[simp] theorem o59_116 (vs : List AV) : calO s59 116 0 vs = getJ (F116 vs) := by simp [s59, cal_cons, c116, i116, c90, i90, c117, i117]
@[simp] theorem o59_90 (vs : List AV) : calO s59 90 0 vs = getJ (F90 vs) := by simp [s59, cal_cons, c116, i116, c90, i90, c117, i117]
@[simp] theorem o59_117 (vs : List AV) : calO s59 117 0 vs = getJ (F117 vs) := by simp [s59, cal_cons, c116, i116, c90, i90, c117, i117]
@[simp] def l59 : List LoopD := [d5900, d5901]
def t59 : Te AV := .need e59_14 (
 .need e59_25 (
 .need e59_31 (
 .need e59_38 (
 .ok (.sym (.int .i64) e59_45)))))
def F59 : List AV → Option AV := unitF (omL KK s59 l59) t59
def c59 : Cal := ⟨i59, F59⟩
theorem u59 : unitChk tab keep s59 l59 40 59 i59.pats t59 = true := by kernel_rfl
theorem q59 : Known Tryz.prog 59 := fn_known tabOf.1 (x := g59) (by kernel_rfl) (by kernel_rfl)
theorem x59 : ExtOk Tryz.prog 59 (extI i59 F59) := unit_ext tabOf.1 tabOf.2 (allX_mem (cs := s59) ⟨x116, x90, x117, trivial⟩) q59 u59
@[simp] def e21_0 : X := (.p (.bin .lss .i64) [(.v 1), (.p .len [(.v 0)])])
@[simp] def e21_1 : X := (.p .ite [(.p (.bin .leq .i64) [(I (0)), (.v 1)]), e21_0, (.b false)])
@[simp] def e21_2 : X := (.p (.call 82 0) [(.v 2), (.v 3), (.v 4), (.v 5), (.p (.cell 0) [(.v 0), (.v 1)]), (.p (.cell 1) [(.v 0), (.v 1)]), (.p (.cell 2) [(.v 0), (.v 1)]), (.p (.cell 3) [(.v 0), (.v 1)])])
@[simp] def e21_3 : X := (.p (.okr [.one (.int .i64)]) [e21_2])
@[simp] def e21_4 : X := (.p (.bin .neq .i64) [e21_2, (I (0))])
@[simp] def e21_5 : X := (.p (.call 59 0) [(.v 0), (.v 1), (.v 2), (.v 3)])
@[simp] def e21_6 : X := (.p (.okr [.one (.int .i64)]) [e21_5])
@[simp] def e21_7 : X := (.p (.bin .neq .i64) [e21_5, (I (0))])
@[simp] def e21_8 : X := (.p (.bin .gtr .i64) [(.p .len [(.v 4)]), (I (256))])
@[simp] def e21_9 : X := (.p (.call 100000 2100) [(.v 4), (I (0)), (.v 0), (.v 1), (.v 2), (.v 3)])
@[simp] def e21_10 : X := (.p (.proj 0) [e21_9])
@[simp] def e21_11 : X := (.p (.bin .eql .i64) [e21_10, (I (1))])
@[simp] def e21_12 : X := (.p (.bin .eql .i64) [e21_10, (I (2))])
@[simp] def e21_13 : X := (.p .ite [e21_11, (.b true), e21_12])
@[simp] def e21_14 : X := (.p .ite [e21_8, (.b true), e21_13])
@[simp] def e21_15 : X := (.p .ite [e21_7, (.b true), e21_14])
@[simp] def e21_16 : X := (.p (.proj 1) [e21_9])
@[simp] def e21_17 : X := (.p .ite [e21_11, e21_16, (I (0))])
@[simp] def e21_18 : X := (.p .ite [e21_8, (I (5)), e21_17])
@[simp] def e21_19 : X := (.p .ite [e21_7, e21_5, e21_18])
def B2100 : Te LEnd := .ite e21_0 (
 .need e21_1 (
 .need e21_3 (
 .ite e21_4 (
 .ok (.out 1 [e21_2])) (
 .ok (.again [(.v 0), (.p (.bin .add .i64) [(.v 1), (I (1))]), (.v 2), (.v 3), (.v 4), (.v 5)]))))) (
 .ok (.out 2 []))
def d2100 : LoopD := ⟨7, ⟨2100, 6, (J 1 ((.sym (.sl [(.int .i64), .str, (.int .i64), (.int .i64)]) (.v 0)) :: ((.ptr 0 0 0) :: (J 3 ((.sym (.int .i64) (.v 1)) :: (J 23 [])))))), ⟨⟨1, [(0, .cells 4 [[(.sym .str (.v 2)), (.sym (.sl [.str]) (.v 3)), (.sym (.int .i64) (.v 4)), (.sym (.int .i64) (.v 5))]])], [[]], none⟩, [], []⟩,
 [(.ret, 1, (J 4 ((.sym (.int .i64) (.v 0)) :: (J 25 []))), ⟨⟨1, [], [[]], none⟩, [], []⟩),
  (.exit 0, 0, (J 30 []), ⟨⟨1, [], [[]], none⟩, [], []⟩)], [(1, []), (2, [])]⟩, B2100⟩
@[simp] theorem d2100_id : d2100.L.id = 2100 := rfl
@[simp] theorem d2100_B : d2100.B = B2100 := rfl
def i21 : Inst := ⟨21, 0, [(.agg [(.sym .str (.v 0)), (.sym (.sl [.str]) (.v 1)), (.sym (.int .i64) (.v 2)), (.sym (.int .i64) (.v 3))]), (.sym (.sl [(.int .i64), .str, (.int .i64), (.int .i64)]) (.v 4))], [.one (.int .i64)]⟩
def s21 : List Cal := [c59, c82]
@[simp] theorem o21_59 (vs : List AV) : calO s21 59 0 vs = getJ (F59 vs) := by simp [s21, cal_cons, c59, i59, c82, i82]
@[simp] theorem o21_82 (vs : List AV) : calO s21 82 0 vs = getJ (F82 vs) := by simp [s21, cal_cons, c59, i59, c82, i82]
@[simp] def l21 : List LoopD := [d2100]
def t21 : Te AV := .need e21_6 (
 .need e21_15 (
 .ok (.sym (.int .i64) e21_19)))
def F21 : List AV → Option AV := unitF (omL KK s21 l21) t21
def c21 : Cal := ⟨i21, F21⟩
theorem u21 : unitChk tab keep s21 l21 40 21 i21.pats t21 = true := by kernel_rfl
theorem q21 : Known Tryz.prog 21 := fn_known tabOf.1 (x := g21) (by kernel_rfl) (by kernel_rfl)
theorem x21 : ExtOk Tryz.prog 21 (extI i21 F21) := unit_ext tabOf.1 tabOf.2 (allX_mem (cs := s21) ⟨x59, x82, trivial⟩) q21 u21
@[simp] def e86_0 : X := (.p (.call 90 0) [(.v 4), (I (1)), (I (256))])
@[simp] def e86_1 : X := (.p (.okr [.one .bool]) [e86_0])
@[simp] def e86_2 : X := (.p (.call 82 0) [(.v 0), (.v 1), (.v 2), (.v 3), (.v 6), (.v 7), (.v 8), (.v 9)])
@[simp] def e86_3 : X := (.p (.okr [.one (.int .i64)]) [e86_2])
@[simp] def e86_4 : X := (.p .ite [(.v 5), (.b true), e86_3])
@[simp] def e86_5 : X := (.p .ite [e86_0, (.b true), e86_4])
@[simp] def e86_6 : X := (.p .ite [(.p (.bin .eql .i64) [(.v 8), (I (0))]), (.p (.bin .eql .i64) [(.v 9), (I (0))]), (.b false)])
@[simp] def e86_7 : X := (.p .ite [(.p (.sbin .eql) [(.v 7), (.s w3)]), e86_6, (.b false)])
@[simp] def e86_8 : X := (.p .ite [(.p (.bin .eql .i64) [(.v 6), (I (0))]), e86_7, (.b false)])
@[simp] def e86_9 : X := (.p .not [e86_8])
@[simp] def e86_10 : X := (.p .ite [e86_9, (I (1)), (I (0))])
@[simp] def e86_11 : X := (.p .ite [(.v 5), e86_10, e86_2])
@[simp] def e86_12 : X := (.p .ite [e86_0, (I (3)), e86_11])
def i86 : Inst := ⟨86, 0, [(.agg [(.sym .str (.v 0)), (.sym (.sl [.str]) (.v 1)), (.sym (.int .i64) (.v 2)), (.sym (.int .i64) (.v 3))]), (.agg [(.sym (.int .i64) (.v 4)), (.sym .bool (.v 5)), (.sym (.int .i64) (.v 6)), (.sym .str (.v 7)), (.sym (.int .i64) (.v 8)), (.sym (.int .i64) (.v 9))])], [.one (.int .i64)]⟩
def s86 : List Cal := [c90, c82]
@[simp] theorem o86_90 (vs : List AV) : calO s86 90 0 vs = getJ (F90 vs) := by simp [s86, cal_cons, c90, i90, c82, i82]
@[simp] theorem o86_82 (vs : List AV) : calO s86 82 0 vs = getJ (F82 vs) := by simp [s86, cal_cons, c90, i90, c82, i82]
@[simp] def l86 : List LoopD := []
def t86 : Te AV := .need e86_1 (
 .need e86_5 (
 .ok (.sym (.int .i64) e86_12)))
def F86 : List AV → Option AV := unitF (omL KK s86 l86) t86
def c86 : Cal := ⟨i86, F86⟩
theorem u86 : unitChk tab keep s86 l86 40 86 i86.pats t86 = true := by kernel_rfl
theorem q86 : Known Tryz.prog 86 := fn_known tabOf.1 (x := g86) (by kernel_rfl) (by kernel_rfl)
theorem x86 : ExtOk Tryz.prog 86 (extI i86 F86) := unit_ext tabOf.1 tabOf.2 (allX_mem (cs := s86) ⟨x90, x82, trivial⟩) q86 u86
@[simp] def e31_0 : X := (.p (.bin .lss .i64) [(.v 1), (.p .len [(.v 0)])])
@[simp] def e31_1 : X := (.p .ite [(.p (.bin .leq .i64) [(I (0)), (.v 1)]), e31_0, (.b false)])
@[simp] def e31_2 : X := (.p (.call 86 0) [(.v 2), (.v 3), (.v 4), (.v 5), (.p (.cell 0) [(.v 0), (.v 1)]), (.p (.cell 1) [(.v 0), (.v 1)]), (.p (.cell 2) [(.v 0), (.v 1)]), (.p (.cell 3) [(.v 0), (.v 1)]), (.p (.cell 4) [(.v 0), (.v 1)]), (.p (.cell 5) [(.v 0), (.v 1)])])
@[simp] def e31_3 : X := (.p (.okr [.one (.int .i64)]) [e31_2])
@[simp] def e31_4 : X := (.p (.bin .neq .i64) [e31_2, (I (0))])
@[simp] def e31_5 : X := (.p (.bin .gtr .i64) [(.p .len [(.v 4)]), (I (256))])
@[simp] def e31_6 : X := (.p (.call 100000 3100) [(.v 4), (I (0)), (.v 0), (.v 1), (.v 2), (.v 3)])
@[simp] def e31_7 : X := (.p (.proj 0) [e31_6])
@[simp] def e31_8 : X := (.p (.bin .eql .i64) [e31_7, (I (1))])
@[simp] def e31_9 : X := (.p (.bin .eql .i64) [e31_7, (I (2))])
@[simp] def e31_10 : X := (.p .ite [e31_8, (.b true), e31_9])
@[simp] def e31_11 : X := (.p .ite [e31_5, (.b true), e31_10])
@[simp] def e31_12 : X := (.p (.proj 1) [e31_6])
@[simp] def e31_13 : X := (.p .ite [e31_8, e31_12, (I (0))])
@[simp] def e31_14 : X := (.p .ite [e31_5, (I (5)), e31_13])
def B3100 : Te LEnd := .ite e31_0 (
 .need e31_1 (
 .need e31_3 (
 .ite e31_4 (
 .ok (.out 1 [e31_2])) (
 .ok (.again [(.v 0), (.p (.bin .add .i64) [(.v 1), (I (1))]), (.v 2), (.v 3), (.v 4), (.v 5)]))))) (
 .ok (.out 2 []))
def d3100 : LoopD := ⟨4, ⟨3100, 6, (J 1 ((.sym (.sl [(.int .i64), .bool, (.int .i64), .str, (.int .i64), (.int .i64)]) (.v 0)) :: ((.ptr 0 0 0) :: (J 2 ((.sym (.int .i64) (.v 1)) :: (J 19 [])))))), ⟨⟨1, [(0, .cells 4 [[(.sym .str (.v 2)), (.sym (.sl [.str]) (.v 3)), (.sym (.int .i64) (.v 4)), (.sym (.int .i64) (.v 5))]])], [[]], none⟩, [], []⟩,
 [(.ret, 1, (J 4 ((.sym (.int .i64) (.v 0)) :: (J 20 []))), ⟨⟨1, [], [[]], none⟩, [], []⟩),
  (.exit 0, 0, (J 25 []), ⟨⟨1, [], [[]], none⟩, [], []⟩)], [(1, []), (2, [])]⟩, B3100⟩
@[simp] theorem d3100_id : d3100.L.id = 3100 := rfl
@[simp] theorem d3100_B : d3100.B = B3100 := rfl
def i31 : Inst := ⟨31, 0, [(.agg [(.sym .str (.v 0)), (.sym (.sl [.str]) (.v 1)), (.sym (.int .i64) (.v 2)), (.sym (.int .i64) (.v 3))]), (.sym (.sl [(.int .i64), .bool, (.int .i64), .str, (.int .i64), (.int .i64)]) (.v 4))], [.one (.int .i64)]⟩
def s31 : List Cal := [c86]
@[simp] theorem o31_86 (vs : List AV) : calO s31 86 0 vs = getJ (F86 vs) := by simp [s31, cal_cons, c86, i86]
@[simp] def l31 : List LoopD := [d3100]
def t31 : Te AV := .need e31_11 (
 .ok (.sym (.int .i64) e31_14))
def F31 : List AV → Option AV := unitF (omL KK s31 l31) t31
def c31 : Cal := ⟨i31, F31⟩
theorem u31 : unitChk tab keep s31 l31 40 31 i31.pats t31 = true := by kernel_rfl
theorem q31 : Known Tryz.prog 31 := fn_known tabOf.1 (x := g31) (by kernel_rfl) (by kernel_rfl)
theorem x31 : ExtOk Tryz.prog 31 (extI i31 F31) := unit_ext tabOf.1 tabOf.2 (allX_mem (cs := s31) ⟨x86, trivial⟩) q31 u31
@[simp] def e87_0 : X := (.p (.bin .lss .i64) [(.v 2), (.p .len [(.v 0)])])
@[simp] def e87_1 : X := (.p .ite [(.p (.bin .leq .i64) [(I (0)), (.v 2)]), e87_0, (.b false)])
@[simp] def e87_2 : X := (.p (.bin .eql .i64) [(.p (.cell 0) [(.v 0), (.v 2)]), (.v 1)])
@[simp] def e87_3 : X := (.p (.bin .sub .i64) [(.p .len [(.v 0)]), (I (1))])
@[simp] def e87_4 : X := (.p (.call 100000 8700) [(.v 0), (.v 1), e87_3])
@[simp] def e87_5 : X := (.p (.proj 0) [e87_4])
@[simp] def e87_6 : X := (.p (.bin .eql .i64) [e87_5, (I (1))])
@[simp] def e87_7 : X := (.p (.bin .eql .i64) [e87_5, (I (2))])
@[simp] def e87_8 : X := (.p .ite [e87_6, (.b true), e87_7])
@[simp] def e87_9 : X := (.p (.proj 1) [e87_4])
@[simp] def e87_10 : X := (.p .ite [e87_6, e87_9, (I (-1))])
def B8700 : Te LEnd := .ite (.p (.bin .geq .i64) [(.v 2), (I (0))]) (
 .need e87_1 (
 .ite e87_2 (
 .ok (.out 1 [(.v 2)])) (
 .ok (.again [(.v 0), (.v 1), (.p (.bin .sub .i64) [(.v 2), (I (1))])])))) (
 .ok (.out 2 []))
def d8700 : LoopD := ⟨2, ⟨8700, 3, ((.sym (.sl [(.int .i64), .bool, (.int .i64), .str, (.int .i64), (.int .i64)]) (.v 0)) :: ((.sym (.int .i64) (.v 1)) :: (J 3 ((.sym (.int .i64) (.v 2)) :: (J 15 []))))), ⟨⟨0, [], [[]], none⟩, [], []⟩,
 [(.ret, 1, (J 4 ((.sym (.int .i64) (.v 0)) :: (J 16 []))), ⟨⟨0, [], [[]], none⟩, [], []⟩),
  (.exit 0, 0, (J 21 []), ⟨⟨0, [], [[]], none⟩, [], []⟩)], [(1, []), (2, [])]⟩, B8700⟩
@[simp] theorem d8700_id : d8700.L.id = 8700 := rfl
@[simp] theorem d8700_B : d8700.B = B8700 := rfl
def i87 : Inst := ⟨87, 0, [(.sym (.sl [(.int .i64), .bool, (.int .i64), .str, (.int .i64), (.int .i64)]) (.v 0)), (.sym (.int .i64) (.v 1))], [.one (.int .i64)]⟩
def s87 : List Cal := []
@[simp] def l87 : List LoopD := [d8700]
def t87 : Te AV := .need e87_8 (
 .ok (.sym (.int .i64) e87_10))
def F87 : List AV → Option AV := unitF (omL KK s87 l87) t87
def c87 : Cal := ⟨i87, F87⟩
theorem u87 : unitChk tab keep s87 l87 40 87 i87.pats t87 = true := by kernel_rfl
theorem q87 : Known Tryz.prog 87 := fn_known tabOf.1 (x := g87) (by kernel_rfl) (by kernel_rfl)
theorem x87 : ExtOk Tryz.prog 87 (extI i87 F87) := unit_ext tabOf.1 tabOf.2 (allX_mem (cs := s87) trivial) q87 u87
@[simp] def e30_0 : X := (.p (.bin .gtr .i64) [(.p .len [(.v 1)]), (.p .len [(.v 0)])])
@[simp] def e30_1 : X := (.p .ite [e30_0, (.p .len [(.v 1)]), (.p .len [(.v 0)])])
@[simp] def e30_2 : X := (.p (.bin .leq .i64) [(.v 3), e30_1])
@[simp] def e30_3 : X := (.p (.bin .gtr .i64) [(.v 3), (.p .len [(.v 0)])])
@[simp] def e30_4 : X := (.p (.bin .gtr .i64) [(.v 3), (.p .len [(.v 1)])])
@[simp] def e30_5 : X := (.p (.bin .leq .i64) [(I (0)), (.p (.bin .sub .i64) [(.v 3), (I (1))])])
@[simp] def e30_6 : X := (.p (.bin .lss .i64) [(.p (.bin .sub .i64) [(.v 3), (I (1))]), (.p .len [(.v 0)])])
@[simp] def e30_7 : X := (.p .ite [e30_5, e30_6, (.b false)])
@[simp] def e30_8 : X := (.p .ite [e30_4, (.b true), e30_7])
@[simp] def e30_9 : X := (.p .ite [e30_3, (.b true), e30_8])
@[simp] def e30_10 : X := (.p (.bin .lss .i64) [(.p (.bin .sub .i64) [(.v 3), (I (1))]), (.p .len [(.v 1)])])
@[simp] def e30_11 : X := (.p .ite [e30_5, e30_10, (.b false)])
@[simp] def e30_12 : X := (.p .ite [e30_4, (.b true), e30_11])
@[simp] def e30_13 : X := (.p .ite [e30_3, (.b true), e30_12])
@[simp] def e30_14 : X := (.p (.cell 0) [(.v 0), (.p (.bin .sub .i64) [(.v 3), (I (1))])])
@[simp] def e30_15 : X := (.p (.cell 0) [(.v 1), (.p (.bin .sub .i64) [(.v 3), (I (1))])])
@[simp] def e30_16 : X := (.p (.bin .eql .i64) [e30_14, e30_15])
@[simp] def e30_17 : X := (.p (.cell 1) [(.v 0), (.p (.bin .sub .i64) [(.v 3), (I (1))])])
@[simp] def e30_18 : X := (.p (.cell 1) [(.v 1), (.p (.bin .sub .i64) [(.v 3), (I (1))])])
@[simp] def e30_19 : X := (.p (.sbin .eql) [e30_17, e30_18])
@[simp] def e30_20 : X := (.p (.cell 2) [(.v 0), (.p (.bin .sub .i64) [(.v 3), (I (1))])])
@[simp] def e30_21 : X := (.p (.cell 2) [(.v 1), (.p (.bin .sub .i64) [(.v 3), (I (1))])])
@[simp] def e30_22 : X := (.p (.bin .eql .i64) [e30_20, e30_21])
@[simp] def e30_23 : X := (.p (.cell 3) [(.v 0), (.p (.bin .sub .i64) [(.v 3), (I (1))])])
@[simp] def e30_24 : X := (.p (.cell 3) [(.v 1), (.p (.bin .sub .i64) [(.v 3), (I (1))])])
@[simp] def e30_25 : X := (.p (.bin .eql .i64) [e30_23, e30_24])
@[simp] def e30_26 : X := (.p .ite [e30_22, e30_25, (.b false)])
@[simp] def e30_27 : X := (.p .ite [e30_19, e30_26, (.b false)])
@[simp] def e30_28 : X := (.p .ite [e30_16, e30_27, (.b false)])
@[simp] def e30_29 : X := (.p .not [e30_28])
@[simp] def e30_30 : X := (.p .ite [e30_4, (.b true), e30_29])
@[simp] def e30_31 : X := (.p .ite [e30_3, (.b true), e30_30])
@[simp] def e30_32 : X := (.p (.app 1) [(.v 2), (.sl 1 [[(.v 3)]])])
@[simp] def e30_33 : X := (.p .len [e30_32])
@[simp] def e30_34 : X := (.p (.bin .leq .i64) [e30_33, (I (1073741824))])
@[simp] def e30_35 : X := (.p (.call 100000 3000) [(.v 0), (.v 1), .nils, (I (1))])
@[simp] def e30_36 : X := (.p (.proj 0) [e30_35])
@[simp] def e30_37 : X := (.p (.bin .eql .i64) [e30_36, (I (1))])
@[simp] def e30_38 : X := (.p (.proj 1) [e30_35])
def B3000 : Te LEnd := .ite e30_2 (
 .need e30_9 (
 .need e30_13 (
 .ite e30_31 (
 .need e30_34 (
 .ok (.again [(.v 0), (.v 1), e30_32, (.p (.bin .add .i64) [(.v 3), (I (1))])]))) (
 .ok (.again [(.v 0), (.v 1), (.v 2), (.p (.bin .add .i64) [(.v 3), (I (1))])]))))) (
 .ok (.out 1 [(.v 2)]))
def d3000 : LoopD := ⟨3, ⟨3000, 4, ((.sym (.sl [(.int .i64), .str, (.int .i64), (.int .i64)]) (.v 0)) :: ((.sym (.sl [(.int .i64), .str, (.int .i64), (.int .i64)]) (.v 1)) :: (J 3 ((.sym (.own 0 [(.int .i64)]) (.v 2)) :: ((.sym (.int .i64) (.v 3)) :: (J 37 [])))))), ⟨⟨2, [], [[]], none⟩, [(0, .rows [(.int .i64)] (.v 2))], []⟩,
 [(.exit 0, 1, (J 5 ((.sym (.own 0 [(.int .i64)]) (.v 0)) :: (J 38 []))), ⟨⟨2, [], [[]], none⟩, [(0, .rows [(.int .i64)] (.v 0))], []⟩)], [(1, [])]⟩, B3000⟩
@[simp] theorem d3000_id : d3000.L.id = 3000 := rfl
@[simp] theorem d3000_B : d3000.B = B3000 := rfl
def i30 : Inst := ⟨30, 0, [(.sym (.sl [(.int .i64), .str, (.int .i64), (.int .i64)]) (.v 0)), (.sym (.sl [(.int .i64), .str, (.int .i64), (.int .i64)]) (.v 1))], [.one (.sl [(.int .i64)])]⟩
def s30 : List Cal := []
@[simp] def l30 : List LoopD := [d3000]
def t30 : Te AV := .need e30_37 (
 .ok (.sym (.sl [(.int .i64)]) e30_38))
def F30 : List AV → Option AV := unitF (omL KK s30 l30) t30
def c30 : Cal := ⟨i30, F30⟩
theorem u30 : unitChk tab keep s30 l30 40 30 i30.pats t30 = true := by kernel_rfl
theorem q30 : Known Tryz.prog 30 := fn_known tabOf.1 (x := g30) (by kernel_rfl) (by kernel_rfl)
theorem x30 : ExtOk Tryz.prog 30 (extI i30 F30) := unit_ext tabOf.1 tabOf.2 (allX_mem (cs := s30) trivial) q30 u30
@[simp] def e33_0 : X := (.p (.bin .gtr .i64) [(.p .len [(.v 1)]), (.p .len [(.v 0)])])
@[simp] def e33_1 : X := (.p .ite [e33_0, (.p .len [(.v 1)]), (.p .len [(.v 0)])])
@[simp] def e33_2 : X := (.p (.bin .leq .i64) [(.v 4), e33_1])
@[simp] def e33_3 : X := (.p (.bin .leq .i64) [(.v 4), (.p .len [(.v 0)])])
@[simp] def e33_4 : X := (.p (.bin .leq .i64) [(.v 4), (.p .len [(.v 1)])])
@[simp] def e33_5 : X := (.p (.bin .leq .i64) [(I (0)), (.p (.bin .sub .i64) [(.v 4), (I (1))])])
@[simp] def e33_6 : X := (.p (.bin .lss .i64) [(.p (.bin .sub .i64) [(.v 4), (I (1))]), (.p .len [(.v 0)])])
@[simp] def e33_7 : X := (.p .ite [e33_5, e33_6, (.b false)])
@[simp] def e33_8 : X := (.p .ite [e33_4, e33_7, (.b true)])
@[simp] def e33_9 : X := (.p .ite [e33_3, e33_8, (.b true)])
@[simp] def e33_10 : X := (.p (.bin .lss .i64) [(.p (.bin .sub .i64) [(.v 4), (I (1))]), (.p .len [(.v 1)])])
@[simp] def e33_11 : X := (.p .ite [e33_5, e33_10, (.b false)])
@[simp] def e33_12 : X := (.p .ite [e33_4, e33_11, (.b true)])
@[simp] def e33_13 : X := (.p .ite [e33_3, e33_12, (.b true)])
@[simp] def e33_14 : X := (.p (.cell 0) [(.v 0), (.p (.bin .sub .i64) [(.v 4), (I (1))])])
@[simp] def e33_15 : X := (.p (.cell 0) [(.v 1), (.p (.bin .sub .i64) [(.v 4), (I (1))])])
@[simp] def e33_16 : X := (.p (.bin .eql .i64) [e33_14, e33_15])
@[simp] def e33_17 : X := (.p (.cell 1) [(.v 0), (.p (.bin .sub .i64) [(.v 4), (I (1))])])
@[simp] def e33_18 : X := (.p (.cell 1) [(.v 1), (.p (.bin .sub .i64) [(.v 4), (I (1))])])
@[simp] def e33_19 : X := (.p (.sbin .eql) [e33_17, e33_18])
@[simp] def e33_20 : X := (.p (.cell 2) [(.v 0), (.p (.bin .sub .i64) [(.v 4), (I (1))])])
@[simp] def e33_21 : X := (.p (.cell 2) [(.v 1), (.p (.bin .sub .i64) [(.v 4), (I (1))])])
@[simp] def e33_22 : X := (.p (.bin .eql .i64) [e33_20, e33_21])
@[simp] def e33_23 : X := (.p (.cell 3) [(.v 0), (.p (.bin .sub .i64) [(.v 4), (I (1))])])
@[simp] def e33_24 : X := (.p (.cell 3) [(.v 1), (.p (.bin .sub .i64) [(.v 4), (I (1))])])
@[simp] def e33_25 : X := (.p (.bin .eql .i64) [e33_23, e33_24])
@[simp] def e33_26 : X := (.p .ite [e33_22, e33_25, (.b false)])
@[simp] def e33_27 : X := (.p .ite [e33_19, e33_26, (.b false)])
@[simp] def e33_28 : X := (.p .ite [e33_16, e33_27, (.b false)])
@[simp] def e33_29 : X := (.p .ite [e33_4, e33_28, (.b false)])
@[simp] def e33_30 : X := (.p .ite [e33_3, e33_29, (.b false)])
@[simp] def e33_31 : X := (.sl 4 [[e33_14, e33_17, e33_20, e33_23]])
@[simp] def e33_32 : X := (.p (.app 4) [(.v 3), e33_31])
@[simp] def e33_33 : X := (.p .len [e33_32])
@[simp] def e33_34 : X := (.p (.bin .leq .i64) [e33_33, (I (1073741824))])
@[simp] def e33_35 : X := (.p (.okr [.one (.int .i64)]) [(.p (.call 87 0) [(.v 2), (.v 4)])])
@[simp] def e33_36 : X := (.p (.bin .lss .i64) [(.p (.call 87 0) [(.v 2), (.v 4)]), (I (0))])
@[simp] def e33_37 : X := (.p (.bin .leq .i64) [(I (0)), (.p (.call 87 0) [(.v 2), (.v 4)])])
@[simp] def e33_38 : X := (.p (.bin .lss .i64) [(.p (.call 87 0) [(.v 2), (.v 4)]), (.p .len [(.v 2)])])
@[simp] def e33_39 : X := (.p .ite [e33_37, e33_38, (.b false)])
@[simp] def e33_40 : X := (.p (.cell 1) [(.v 2), (.p (.call 87 0) [(.v 2), (.v 4)])])
@[simp] def e33_41 : X := (.p .not [e33_40])
@[simp] def e33_42 : X := (.p (.cell 2) [(.v 2), (.p (.call 87 0) [(.v 2), (.v 4)])])
@[simp] def e33_43 : X := (.p (.cell 3) [(.v 2), (.p (.call 87 0) [(.v 2), (.v 4)])])
@[simp] def e33_44 : X := (.p (.cell 4) [(.v 2), (.p (.call 87 0) [(.v 2), (.v 4)])])
@[simp] def e33_45 : X := (.p (.cell 5) [(.v 2), (.p (.call 87 0) [(.v 2), (.v 4)])])
@[simp] def e33_46 : X := (.sl 4 [[e33_42, e33_43, e33_44, e33_45]])
@[simp] def e33_47 : X := (.p (.app 4) [(.v 3), e33_46])
@[simp] def e33_48 : X := (.p .len [e33_47])
@[simp] def e33_49 : X := (.p (.bin .leq .i64) [e33_48, (I (1073741824))])
@[simp] def e33_50 : X := (.p (.call 100000 3300) [(.v 0), (.v 1), (.v 2), .nils, (I (1))])
@[simp] def e33_51 : X := (.p (.proj 0) [e33_50])
@[simp] def e33_52 : X := (.p (.bin .eql .i64) [e33_51, (I (1))])
@[simp] def e33_53 : X := (.p (.bin .eql .i64) [e33_51, (I (2))])
@[simp] def e33_54 : X := (.p .ite [e33_52, (.b true), e33_53])
@[simp] def e33_55 : X := (.p (.proj 1) [e33_50])
@[simp] def e33_56 : X := (.p .ite [e33_52, .nils, e33_55])
@[simp] def e33_57 : X := (.p .ite [e33_52, (.b false), (.b true)])
def B3300 : Te LEnd := .ite e33_2 (
 .need e33_9 (
 .need e33_13 (
 .ite e33_30 (
 .need e33_7 (
 .need e33_34 (
 .ok (.again [(.v 0), (.v 1), (.v 2), e33_32, (.p (.bin .add .i64) [(.v 4), (I (1))])])))) (
 .need e33_35 (
 .ite e33_36 (
 .ok (.out 1 [])) (
 .need e33_39 (
 .ite e33_41 (
 .need e33_49 (
 .ok (.again [(.v 0), (.v 1), (.v 2), e33_47, (.p (.bin .add .i64) [(.v 4), (I (1))])]))) (
 .ok (.again [(.v 0), (.v 1), (.v 2), (.v 3), (.p (.bin .add .i64) [(.v 4), (I (1))])]))))))))) (
 .ok (.out 2 [(.v 3)]))
def d3300 : LoopD := ⟨3, ⟨3300, 5, ((.sym (.sl [(.int .i64), .str, (.int .i64), (.int .i64)]) (.v 0)) :: ((.sym (.sl [(.int .i64), .str, (.int .i64), (.int .i64)]) (.v 1)) :: ((.sym (.sl [(.int .i64), .bool, (.int .i64), .str, (.int .i64), (.int .i64)]) (.v 2)) :: (J 5 ((.sym (.own 0 [(.int .i64), .str, (.int .i64), (.int .i64)]) (.v 3)) :: ((.sym (.int .i64) (.v 4)) :: (J 61 []))))))), ⟨⟨2, [], [[]], none⟩, [(0, .rows [(.int .i64), .str, (.int .i64), (.int .i64)] (.v 3))], []⟩,
 [(.ret, 0, (J 6 (.nils :: ((.bool false) :: (J 63 [])))), ⟨⟨2, [], [[]], none⟩, [], []⟩),
  (.exit 0, 1, (J 8 ((.sym (.own 0 [(.int .i64), .str, (.int .i64), (.int .i64)]) (.v 0)) :: (J 62 []))), ⟨⟨2, [], [[]], none⟩, [(0, .rows [(.int .i64), .str, (.int .i64), (.int .i64)] (.v 0))], []⟩)], [(1, []), (2, [])]⟩, B3300⟩
@[simp] theorem d3300_id : d3300.L.id = 3300 := rfl
@[simp] theorem d3300_B : d3300.B = B3300 := rfl
def i33 : Inst := ⟨33, 0, [(.sym (.sl [(.int .i64), .str, (.int .i64), (.int .i64)]) (.v 0)), (.sym (.sl [(.int .i64), .str, (.int .i64), (.int .i64)]) (.v 1)), (.sym (.sl [(.int .i64), .bool, (.int .i64), .str, (.int .i64), (.int .i64)]) (.v 2))], [.one (.sl [(.int .i64), .str, (.int .i64), (.int .i64)]), .one .bool]⟩
def s33 : List Cal := [c87]
@[simp] theorem o33_87 (vs : List AV) : calO s33 87 0 vs = getJ (F87 vs) := by simp [s33, cal_cons, c87, i87]
@[simp] def l33 : List LoopD := [d3300]
def t33 : Te AV := .need e33_54 (
 .ok (.tuple [(.sym (.sl [(.int .i64), .str, (.int .i64), (.int .i64)]) e33_56), (.sym .bool e33_57)]))
def F33 : List AV → Option AV := unitF (omL KK s33 l33) t33
def c33 : Cal := ⟨i33, F33⟩
theorem u33 : unitChk tab keep s33 l33 40 33 i33.pats t33 = true := by kernel_rfl
theorem q33 : Known Tryz.prog 33 := fn_known tabOf.1 (x := g33) (by kernel_rfl) (by kernel_rfl)
theorem x33 : ExtOk Tryz.prog 33 (extI i33 F33) := unit_ext tabOf.1 tabOf.2 (allX_mem (cs := s33) ⟨x87, trivial⟩) q33 u33
@[simp] def e75_0 : X := (.p (.bin .lss .i64) [(.v 2), (.p .len [(.v 0)])])
@[simp] def e75_1 : X := (.p .ite [(.p (.bin .leq .i64) [(I (0)), (.v 2)]), e75_0, (.b false)])
@[simp] def e75_2 : X := (.p (.bin .lss .i64) [(.v 2), (.p .len [(.v 1)])])
@[simp] def e75_3 : X := (.p .ite [(.p (.bin .leq .i64) [(I (0)), (.v 2)]), e75_2, (.b false)])
@[simp] def e75_4 : X := (.p (.bin .neq .i64) [(.p (.cell 0) [(.v 0), (.v 2)]), (.p (.cell 0) [(.v 1), (.v 2)])])
@[simp] def e75_5 : X := (.p (.bin .neq .i64) [(.p .len [(.v 0)]), (.p .len [(.v 1)])])
@[simp] def e75_6 : X := (.p (.call 100000 7500) [(.v 0), (.v 1), (I (0))])
@[simp] def e75_7 : X := (.p (.proj 0) [e75_6])
@[simp] def e75_8 : X := (.p (.bin .eql .i64) [e75_7, (I (1))])
@[simp] def e75_9 : X := (.p (.bin .eql .i64) [e75_7, (I (2))])
@[simp] def e75_10 : X := (.p .ite [e75_8, (.b true), e75_9])
@[simp] def e75_11 : X := (.p .ite [e75_5, (.b true), e75_10])
@[simp] def e75_12 : X := (.p .ite [e75_8, (.b false), (.b true)])
@[simp] def e75_13 : X := (.p .ite [e75_5, (.b false), e75_12])
def B7500 : Te LEnd := .ite e75_0 (
 .need e75_1 (
 .need e75_3 (
 .ite e75_4 (
 .ok (.out 1 [])) (
 .ok (.again [(.v 0), (.v 1), (.p (.bin .add .i64) [(.v 2), (I (1))])]))))) (
 .ok (.out 2 []))
def d7500 : LoopD := ⟨4, ⟨7500, 3, ((.sym (.sl [(.int .i64)]) (.v 0)) :: ((.sym (.sl [(.int .i64)]) (.v 1)) :: (J 3 ((.sym (.int .i64) (.v 2)) :: (J 20 []))))), ⟨⟨0, [], [[]], none⟩, [], []⟩,
 [(.ret, 0, (J 4 ((.bool false) :: (J 21 []))), ⟨⟨0, [], [[]], none⟩, [], []⟩),
  (.exit 0, 0, (J 26 []), ⟨⟨0, [], [[]], none⟩, [], []⟩)], [(1, []), (2, [])]⟩, B7500⟩
@[simp] theorem d7500_id : d7500.L.id = 7500 := rfl
@[simp] theorem d7500_B : d7500.B = B7500 := rfl
def i75 : Inst := ⟨75, 0, [(.sym (.sl [(.int .i64)]) (.v 0)), (.sym (.sl [(.int .i64)]) (.v 1))], [.one .bool]⟩
def s75 : List Cal := []
@[simp] def l75 : List LoopD := [d7500]
def t75 : Te AV := .need e75_11 (
 .ok (.sym .bool e75_13))
def F75 : List AV → Option AV := unitF (omL KK s75 l75) t75
def c75 : Cal := ⟨i75, F75⟩
theorem u75 : unitChk tab keep s75 l75 40 75 i75.pats t75 = true := by kernel_rfl
theorem q75 : Known Tryz.prog 75 := fn_known tabOf.1 (x := g75) (by kernel_rfl) (by kernel_rfl)
theorem x75 : ExtOk Tryz.prog 75 (extI i75 F75) := unit_ext tabOf.1 tabOf.2 (allX_mem (cs := s75) trivial) q75 u75
@[simp] def e74_0 : X := (.p (.bin .eql .i64) [(.p .len [(.v 0)]), (.p .len [(.v 1)])])
@[simp] def e74_1 : X := (.p (.okr [.one (.sl [(.int .i64)])]) [(.p (.call 30 0) [(.v 0), (.v 1)])])
@[simp] def e74_2 : X := (.p .ite [e74_0, e74_1, (.b true)])
@[simp] def e74_3 : X := (.p .len [(.p (.call 30 0) [(.v 0), (.v 1)])])
@[simp] def e74_4 : X := (.p (.bin .eql .i64) [e74_3, (I (0))])
@[simp] def e74_5 : X := (.p .ite [e74_0, e74_4, (.b false)])
def i74 : Inst := ⟨74, 0, [(.sym (.sl [(.int .i64), .str, (.int .i64), (.int .i64)]) (.v 0)), (.sym (.sl [(.int .i64), .str, (.int .i64), (.int .i64)]) (.v 1))], [.one .bool]⟩
def s74 : List Cal := [c30]
@[simp] theorem o74_30 (vs : List AV) : calO s74 30 0 vs = getJ (F30 vs) := by simp [s74, cal_cons, c30, i30]
@[simp] def l74 : List LoopD := []
def t74 : Te AV := .need e74_2 (
 .ok (.sym .bool e74_5))
def F74 : List AV → Option AV := unitF (omL KK s74 l74) t74
def c74 : Cal := ⟨i74, F74⟩
theorem u74 : unitChk tab keep s74 l74 40 74 i74.pats t74 = true := by kernel_rfl
theorem q74 : Known Tryz.prog 74 := fn_known tabOf.1 (x := g74) (by kernel_rfl) (by kernel_rfl)
theorem x74 : ExtOk Tryz.prog 74 (extI i74 F74) := unit_ext tabOf.1 tabOf.2 (allX_mem (cs := s74) ⟨x30, trivial⟩) q74 u74
end Go.Proofs.YtdeaibcebeofiaaGreatDoor.C5

namespace Go.Proofs.YtdeaibcebeofiaaGreatDoor.C5
open Go Go.Proofs.YtdeaibcebeofiaaGreatDoor.AM Go.Proofs
set_option maxRecDepth 100000
@[simp] def e16_0 : X := (.p (.bin .lss .i64) [(.v 0), (.p .len [(.v 2)])])
@[simp] def e16_1 : X := (.p .ite [(.p (.bin .leq .i64) [(I (0)), (.v 0)]), e16_0, (.b false)])
@[simp] def e16_2 : X := (.p .len [(.p (.cell 0) [(.v 2), (.v 0)])])
@[simp] def e16_3 : X := (.p (.bin .gtr .i64) [e16_2, (I (40))])
@[simp] def e16_4 : X := (.p (.bin .gtr .i64) [(.p .len [(.v 0)]), (I (20))])
@[simp] def e16_5 : X := (.p (.bin .gtr .i64) [(.p .len [(.v 1)]), (I (12))])
@[simp] def e16_6 : X := (.p (.bin .leq .i64) [(.p .len [(.v 1)]), (I (160))])
@[simp] def e16_7 : X := (.p (.bin .gtr .i64) [(.p .len [(.v 1)]), (I (162))])
@[simp] def e16_8 : X := (.p .ite [e16_6, (.b true), e16_7])
@[simp] def e16_9 : X := (.p .ite [e16_5, e16_8, e16_7])
@[simp] def e16_10 : X := (.p .ite [e16_4, (.b true), e16_9])
@[simp] def e16_11 : X := (.p (.call 100000 1600) [(I (0)), (.v 0), (.v 1), (.v 2), (.v 3)])
@[simp] def e16_12 : X := (.p (.proj 0) [e16_11])
@[simp] def e16_13 : X := (.p (.bin .eql .i64) [e16_12, (I (1))])
@[simp] def e16_14 : X := (.p (.bin .eql .i64) [e16_12, (I (2))])
@[simp] def e16_15 : X := (.p .ite [e16_13, (.b true), e16_14])
@[simp] def e16_16 : X := (.p .ite [e16_10, (.b true), e16_15])
@[simp] def e16_17 : X := (.p .ite [e16_13, (.b false), (.b true)])
@[simp] def e16_18 : X := (.p .ite [e16_10, (.b false), e16_17])
def B1600 : Te LEnd := .ite e16_0 (
 .need e16_1 (
 .ite e16_3 (
 .ok (.out 1 [])) (
 .ok (.again [(.p (.bin .add .i64) [(.v 0), (I (1))]), (.v 1), (.v 2), (.v 3), (.v 4)])))) (
 .ok (.out 2 []))
def d1600 : LoopD := ⟨4, ⟨1600, 5, (J 1 ((.ptr 0 0 0) :: (J 1 ((.sym (.int .i64) (.v 0)) :: (J 36 []))))), ⟨⟨1, [(0, .cells 4 [[(.sym .str (.v 1)), (.sym (.sl [.str]) (.v 2)), (.sym (.int .i64) (.v 3)), (.sym (.int .i64) (.v 4))]])], [[]], none⟩, [], []⟩,
 [(.ret, 0, (J 2 ((.bool false) :: (J 37 []))), ⟨⟨1, [], [[]], none⟩, [], []⟩),
  (.exit 0, 0, (J 40 []), ⟨⟨1, [], [[]], none⟩, [], []⟩)], [(1, []), (2, [])]⟩, B1600⟩
@[simp] theorem d1600_id : d1600.L.id = 1600 := rfl
@[simp] theorem d1600_B : d1600.B = B1600 := rfl
def i16 : Inst := ⟨16, 0, [(.agg [(.sym .str (.v 0)), (.sym (.sl [.str]) (.v 1)), (.sym (.int .i64) (.v 2)), (.sym (.int .i64) (.v 3))])], [.one .bool]⟩
def s16 : List Cal := []
@[simp] def l16 : List LoopD := [d1600]
def t16 : Te AV := .need e16_16 (
 .ok (.sym .bool e16_18))
def F16 : List AV → Option AV := unitF (omL KK s16 l16) t16
def c16 : Cal := ⟨i16, F16⟩
theorem u16 : unitChk tab keep s16 l16 40 16 i16.pats t16 = true := by kernel_rfl
theorem q16 : Known Tryz.prog 16 := fn_known tabOf.1 (x := g16) (by kernel_rfl) (by kernel_rfl)
theorem x16 : ExtOk Tryz.prog 16 (extI i16 F16) := unit_ext tabOf.1 tabOf.2 (allX_mem (cs := s16) trivial) q16 u16
@[simp] def e17_0 : X := (.p (.bin .lss .i64) [(.v 1), (.p .len [(.v 0)])])
@[simp] def e17_1 : X := (.p .ite [(.p (.bin .leq .i64) [(I (0)), (.v 1)]), e17_0, (.b false)])
@[simp] def e17_2 : X := (.p .len [(.p (.cell 1) [(.v 0), (.v 1)])])
@[simp] def e17_3 : X := (.p (.bin .gtr .i64) [e17_2, (I (20))])
@[simp] def e17_4 : X := (.p (.bin .gtr .i64) [(.p .len [(.v 0)]), (.v 1)])
@[simp] def e17_5 : X := (.p (.bin .leq .i64) [(.p .len [(.v 0)]), (I (256))])
@[simp] def e17_6 : X := (.p (.bin .gtr .i64) [(.p .len [(.v 0)]), (I (258))])
@[simp] def e17_7 : X := (.p .ite [e17_5, (.b true), e17_6])
@[simp] def e17_8 : X := (.p .ite [e17_4, e17_7, e17_6])
@[simp] def e17_9 : X := (.p (.call 100000 1700) [(.v 0), (I (0))])
@[simp] def e17_10 : X := (.p (.proj 0) [e17_9])
@[simp] def e17_11 : X := (.p (.bin .eql .i64) [e17_10, (I (1))])
@[simp] def e17_12 : X := (.p (.bin .eql .i64) [e17_10, (I (2))])
@[simp] def e17_13 : X := (.p .ite [e17_11, (.b true), e17_12])
@[simp] def e17_14 : X := (.p .ite [e17_8, (.b true), e17_13])
@[simp] def e17_15 : X := (.p .ite [e17_11, (.b false), (.b true)])
@[simp] def e17_16 : X := (.p .ite [e17_8, (.b false), e17_15])
def B1700 : Te LEnd := .ite e17_0 (
 .need e17_1 (
 .ite e17_3 (
 .ok (.out 1 [])) (
 .ok (.again [(.v 0), (.p (.bin .add .i64) [(.v 1), (I (1))])])))) (
 .ok (.out 2 []))
def d1700 : LoopD := ⟨4, ⟨1700, 2, ((.sym (.sl [(.int .i64), .str, (.int .i64), (.int .i64)]) (.v 0)) :: (J 4 ((.sym (.int .i64) (.v 1)) :: (J 27 [])))), ⟨⟨0, [], [[]], none⟩, [], []⟩,
 [(.ret, 0, (J 4 ((.bool false) :: (J 28 []))), ⟨⟨0, [], [[]], none⟩, [], []⟩),
  (.exit 0, 0, (J 33 []), ⟨⟨0, [], [[]], none⟩, [], []⟩)], [(1, []), (2, [])]⟩, B1700⟩
@[simp] theorem d1700_id : d1700.L.id = 1700 := rfl
@[simp] theorem d1700_B : d1700.B = B1700 := rfl
def i17 : Inst := ⟨17, 0, [(.sym (.sl [(.int .i64), .str, (.int .i64), (.int .i64)]) (.v 0)), (.sym (.int .i64) (.v 1))], [.one .bool]⟩
def s17 : List Cal := []
@[simp] def l17 : List LoopD := [d1700]
def t17 : Te AV := .need e17_14 (
 .ok (.sym .bool e17_16))
def F17 : List AV → Option AV := unitF (omL KK s17 l17) t17
def c17 : Cal := ⟨i17, F17⟩
theorem u17 : unitChk tab keep s17 l17 40 17 i17.pats t17 = true := by kernel_rfl
theorem q17 : Known Tryz.prog 17 := fn_known tabOf.1 (x := g17) (by kernel_rfl) (by kernel_rfl)
theorem x17 : ExtOk Tryz.prog 17 (extI i17 F17) := unit_ext tabOf.1 tabOf.2 (allX_mem (cs := s17) trivial) q17 u17
@[simp] def e18_0 : X := (.p (.bin .lss .i64) [(.v 2), (.p .len [(.v 0)])])
@[simp] def e18_1 : X := (.p .ite [(.p (.bin .leq .i64) [(I (0)), (.v 2)]), e18_0, (.b false)])
@[simp] def e18_2 : X := (.sl 4 [[(.p (.cell 0) [(.v 0), (.v 2)]), (.p (.cell 1) [(.v 0), (.v 2)]), (.p (.cell 2) [(.v 0), (.v 2)]), (.p (.cell 3) [(.v 0), (.v 2)])]])
@[simp] def e18_3 : X := (.p (.app 4) [(.v 1), e18_2])
@[simp] def e18_4 : X := (.p .len [e18_3])
@[simp] def e18_5 : X := (.p (.bin .leq .i64) [e18_4, (I (1073741824))])
@[simp] def e18_6 : X := (.p (.call 100000 1800) [(.v 0), .nils, (I (0))])
@[simp] def e18_7 : X := (.p (.proj 0) [e18_6])
@[simp] def e18_8 : X := (.p (.bin .eql .i64) [e18_7, (I (1))])
@[simp] def e18_9 : X := (.p (.proj 1) [e18_6])
def B1800 : Te LEnd := .ite e18_0 (
 .need e18_1 (
 .need e18_5 (
 .ok (.again [(.v 0), e18_3, (.p (.bin .add .i64) [(.v 2), (I (1))])])))) (
 .ok (.out 1 [(.v 1)]))
def d1800 : LoopD := ⟨3, ⟨1800, 3, ((.sym (.sl [(.int .i64), .str, (.int .i64), (.int .i64)]) (.v 0)) :: (J 2 ((.sym (.own 0 [(.int .i64), .str, (.int .i64), (.int .i64)]) (.v 1)) :: ((.sym (.int .i64) (.v 2)) :: (J 14 []))))), ⟨⟨2, [], [[]], none⟩, [(0, .rows [(.int .i64), .str, (.int .i64), (.int .i64)] (.v 1))], []⟩,
 [(.exit 0, 1, (J 3 ((.sym (.own 0 [(.int .i64), .str, (.int .i64), (.int .i64)]) (.v 0)) :: (J 15 []))), ⟨⟨2, [], [[]], none⟩, [(0, .rows [(.int .i64), .str, (.int .i64), (.int .i64)] (.v 0))], []⟩)], [(1, [])]⟩, B1800⟩
@[simp] theorem d1800_id : d1800.L.id = 1800 := rfl
@[simp] theorem d1800_B : d1800.B = B1800 := rfl
def i18 : Inst := ⟨18, 0, [(.sym (.sl [(.int .i64), .str, (.int .i64), (.int .i64)]) (.v 0))], [.one (.sl [(.int .i64), .str, (.int .i64), (.int .i64)])]⟩
def s18 : List Cal := []
@[simp] def l18 : List LoopD := [d1800]
def t18 : Te AV := .need e18_8 (
 .ok (.sym (.sl [(.int .i64), .str, (.int .i64), (.int .i64)]) e18_9))
def F18 : List AV → Option AV := unitF (omL KK s18 l18) t18
def c18 : Cal := ⟨i18, F18⟩
theorem u18 : unitChk tab keep s18 l18 40 18 i18.pats t18 = true := by kernel_rfl
theorem q18 : Known Tryz.prog 18 := fn_known tabOf.1 (x := g18) (by kernel_rfl) (by kernel_rfl)
theorem x18 : ExtOk Tryz.prog 18 (extI i18 F18) := unit_ext tabOf.1 tabOf.2 (allX_mem (cs := s18) trivial) q18 u18
def i34 : Inst := ⟨34, 0, [(.sym .bool (.v 0)), (.sym (.int .i64) (.v 1))], [.one (.int .i64)]⟩
def s34 : List Cal := []
@[simp] def l34 : List LoopD := []
def t34 : Te AV := .ok (.sym (.int .i64) (.p .ite [(.v 0), (.v 1), (I (0))]))
def F34 : List AV → Option AV := unitF (omL KK s34 l34) t34
def c34 : Cal := ⟨i34, F34⟩
theorem u34 : unitChk tab keep s34 l34 40 34 i34.pats t34 = true := by kernel_rfl
theorem q34 : Known Tryz.prog 34 := fn_known tabOf.1 (x := g34) (by kernel_rfl) (by kernel_rfl)
theorem x34 : ExtOk Tryz.prog 34 (extI i34 F34) := unit_ext tabOf.1 tabOf.2 (allX_mem (cs := s34) trivial) q34 u34
def i35 : Inst := ⟨35, 0, [(.agg [(.sym (.int .i64) (.v 0)), (.sym .bool (.v 1)), (.sym (.int .i64) (.v 2)), (.sym .str (.v 3)), (.sym (.int .i64) (.v 4)), (.sym (.int .i64) (.v 5))])], [.agg [(.int .i64), .bool, (.int .i64), .str, (.int .i64), (.int .i64)]]⟩
def s35 : List Cal := []
@[simp] def l35 : List LoopD := []
def t35 : Te AV := .ok (.agg [(.sym (.int .i64) (.v 0)), (.sym .bool (.v 1)), (.sym (.int .i64) (.v 2)), (.sym .str (.v 3)), (.sym (.int .i64) (.v 4)), (.sym (.int .i64) (.v 5))])
def F35 : List AV → Option AV := unitF (omL KK s35 l35) t35
def c35 : Cal := ⟨i35, F35⟩
theorem u35 : unitChk tab keep s35 l35 40 35 i35.pats t35 = true := by kernel_rfl
theorem q35 : Known Tryz.prog 35 := fn_known tabOf.1 (x := g35) (by kernel_rfl) (by kernel_rfl)
theorem x35 : ExtOk Tryz.prog 35 (extI i35 F35) := unit_ext tabOf.1 tabOf.2 (allX_mem (cs := s35) trivial) q35 u35
@[simp] def e32_0 : X := (.p (.bin .lss .i64) [(.v 2), (.p .len [(.v 0)])])
@[simp] def e32_1 : X := (.p .ite [(.p (.bin .leq .i64) [(I (0)), (.v 2)]), e32_0, (.b false)])
@[simp] def e32_2 : X := (.p (.call 35 0) [(.p (.cell 0) [(.v 0), (.v 2)]), (.p (.cell 1) [(.v 0), (.v 2)]), (.p (.cell 2) [(.v 0), (.v 2)]), (.p (.cell 3) [(.v 0), (.v 2)]), (.p (.cell 4) [(.v 0), (.v 2)]), (.p (.cell 5) [(.v 0), (.v 2)])])
@[simp] def e32_3 : X := (.p (.okr [.agg [(.int .i64), .bool, (.int .i64), .str, (.int .i64), (.int .i64)]]) [e32_2])
@[simp] def e32_4 : X := (.p (.fld 0) [e32_2])
@[simp] def e32_5 : X := (.p (.fld 1) [e32_2])
@[simp] def e32_6 : X := (.p (.fld 2) [e32_2])
@[simp] def e32_7 : X := (.p (.fld 3) [e32_2])
@[simp] def e32_8 : X := (.p (.fld 4) [e32_2])
@[simp] def e32_9 : X := (.p (.fld 5) [e32_2])
@[simp] def e32_10 : X := (.sl 6 [[e32_4, e32_5, e32_6, e32_7, e32_8, e32_9]])
@[simp] def e32_11 : X := (.p (.app 6) [(.v 1), e32_10])
@[simp] def e32_12 : X := (.p .len [e32_11])
@[simp] def e32_13 : X := (.p (.bin .leq .i64) [e32_12, (I (1073741824))])
@[simp] def e32_14 : X := (.p (.call 100000 3200) [(.v 0), .nils, (I (0))])
@[simp] def e32_15 : X := (.p (.proj 0) [e32_14])
@[simp] def e32_16 : X := (.p (.bin .eql .i64) [e32_15, (I (1))])
@[simp] def e32_17 : X := (.p (.proj 1) [e32_14])
def B3200 : Te LEnd := .ite e32_0 (
 .need e32_1 (
 .need e32_3 (
 .need e32_13 (
 .ok (.again [(.v 0), e32_11, (.p (.bin .add .i64) [(.v 2), (I (1))])]))))) (
 .ok (.out 1 [(.v 1)]))
def d3200 : LoopD := ⟨3, ⟨3200, 3, ((.sym (.sl [(.int .i64), .bool, (.int .i64), .str, (.int .i64), (.int .i64)]) (.v 0)) :: (J 2 ((.sym (.own 0 [(.int .i64), .bool, (.int .i64), .str, (.int .i64), (.int .i64)]) (.v 1)) :: ((.sym (.int .i64) (.v 2)) :: (J 15 []))))), ⟨⟨2, [], [[]], none⟩, [(0, .rows [(.int .i64), .bool, (.int .i64), .str, (.int .i64), (.int .i64)] (.v 1))], []⟩,
 [(.exit 0, 1, (J 3 ((.sym (.own 0 [(.int .i64), .bool, (.int .i64), .str, (.int .i64), (.int .i64)]) (.v 0)) :: (J 16 []))), ⟨⟨2, [], [[]], none⟩, [(0, .rows [(.int .i64), .bool, (.int .i64), .str, (.int .i64), (.int .i64)] (.v 0))], []⟩)], [(1, [])]⟩, B3200⟩
@[simp] theorem d3200_id : d3200.L.id = 3200 := rfl
@[simp] theorem d3200_B : d3200.B = B3200 := rfl
def i32 : Inst := ⟨32, 0, [(.sym (.sl [(.int .i64), .bool, (.int .i64), .str, (.int .i64), (.int .i64)]) (.v 0))], [.one (.sl [(.int .i64), .bool, (.int .i64), .str, (.int .i64), (.int .i64)])]⟩
def s32 : List Cal := [c35]
@[simp] theorem o32_35 (vs : List AV) : calO s32 35 0 vs = getJ (F35 vs) := by simp [s32, cal_cons, c35, i35]
@[simp] def l32 : List LoopD := [d3200]
def t32 : Te AV := .need e32_16 (
 .ok (.sym (.sl [(.int .i64), .bool, (.int .i64), .str, (.int .i64), (.int .i64)]) e32_17))
def F32 : List AV → Option AV := unitF (omL KK s32 l32) t32
def c32 : Cal := ⟨i32, F32⟩
theorem u32 : unitChk tab keep s32 l32 40 32 i32.pats t32 = true := by kernel_rfl
theorem q32 : Known Tryz.prog 32 := fn_known tabOf.1 (x := g32) (by kernel_rfl) (by kernel_rfl)
theorem x32 : ExtOk Tryz.prog 32 (extI i32 F32) := unit_ext tabOf.1 tabOf.2 (allX_mem (cs := s32) ⟨x35, trivial⟩) q32 u32
@[simp] def e26_0 : X := (.p (.bin .lss .i64) [(.v 1), (.p .len [(.v 0)])])
@[simp] def e26_1 : X := (.p .ite [(.p (.bin .leq .i64) [(I (0)), (.v 1)]), e26_0, (.b false)])
@[simp] def e26_2 : X := (.p .len [(.p (.cell 3) [(.v 0), (.v 1)])])
@[simp] def e26_3 : X := (.p (.bin .gtr .i64) [e26_2, (I (20))])
@[simp] def e26_4 : X := (.p (.bin .gtr .i64) [(.p .len [(.v 0)]), (I (20))])
@[simp] def e26_5 : X := (.p (.bin .leq .i64) [(.p .len [(.v 0)]), (I (256))])
@[simp] def e26_6 : X := (.p (.bin .gtr .i64) [(.p .len [(.v 0)]), (I (258))])
@[simp] def e26_7 : X := (.p .ite [e26_5, (.b true), e26_6])
@[simp] def e26_8 : X := (.p .ite [e26_4, e26_7, e26_6])
@[simp] def e26_9 : X := (.p (.call 100000 2600) [(.v 0), (I (0))])
@[simp] def e26_10 : X := (.p (.proj 0) [e26_9])
@[simp] def e26_11 : X := (.p (.bin .eql .i64) [e26_10, (I (1))])
@[simp] def e26_12 : X := (.p (.bin .eql .i64) [e26_10, (I (2))])
@[simp] def e26_13 : X := (.p .ite [e26_11, (.b true), e26_12])
@[simp] def e26_14 : X := (.p .ite [e26_8, (.b true), e26_13])
@[simp] def e26_15 : X := (.p .ite [e26_11, (.b false), (.b true)])
@[simp] def e26_16 : X := (.p .ite [e26_8, (.b false), e26_15])
def B2600 : Te LEnd := .ite e26_0 (
 .need e26_1 (
 .ite e26_3 (
 .ok (.out 1 [])) (
 .ok (.again [(.v 0), (.p (.bin .add .i64) [(.v 1), (I (1))])])))) (
 .ok (.out 2 []))
def d2600 : LoopD := ⟨4, ⟨2600, 2, ((.sym (.sl [(.int .i64), .bool, (.int .i64), .str, (.int .i64), (.int .i64)]) (.v 0)) :: (J 2 ((.sym (.int .i64) (.v 1)) :: (J 27 [])))), ⟨⟨0, [], [[]], none⟩, [], []⟩,
 [(.ret, 0, (J 2 ((.bool false) :: (J 28 []))), ⟨⟨0, [], [[]], none⟩, [], []⟩),
  (.exit 0, 0, (J 31 []), ⟨⟨0, [], [[]], none⟩, [], []⟩)], [(1, []), (2, [])]⟩, B2600⟩
@[simp] theorem d2600_id : d2600.L.id = 2600 := rfl
@[simp] theorem d2600_B : d2600.B = B2600 := rfl
def i26 : Inst := ⟨26, 0, [(.sym (.sl [(.int .i64), .bool, (.int .i64), .str, (.int .i64), (.int .i64)]) (.v 0))], [.one .bool]⟩
def s26 : List Cal := []
@[simp] def l26 : List LoopD := [d2600]
def t26 : Te AV := .need e26_14 (
 .ok (.sym .bool e26_16))
def F26 : List AV → Option AV := unitF (omL KK s26 l26) t26
def c26 : Cal := ⟨i26, F26⟩
theorem u26 : unitChk tab keep s26 l26 40 26 i26.pats t26 = true := by kernel_rfl
theorem q26 : Known Tryz.prog 26 := fn_known tabOf.1 (x := g26) (by kernel_rfl) (by kernel_rfl)
theorem x26 : ExtOk Tryz.prog 26 (extI i26 F26) := unit_ext tabOf.1 tabOf.2 (allX_mem (cs := s26) trivial) q26 u26
@[simp] def e23_0 : X := (.p (.okr [.one .bool]) [(.p (.call 75 0) [(.v 0), (.v 3)])])
@[simp] def e23_1 : X := (.p .ite [(.p (.bin .eql .i64) [(.v 1), (I (0))]), e23_0, (.b true)])
@[simp] def e23_2 : X := (.p .ite [(.p (.bin .neq .i64) [(.v 2), (I (0))]), (.b true), e23_1])
@[simp] def e23_3 : X := (.p (.bin .eql .i64) [(.p .len [(.v 0)]), (I (0))])
@[simp] def e23_4 : X := (.p .ite [e23_3, (.p (.bin .eql .i64) [(.v 1), (.v 2)]), (.b false)])
@[simp] def e23_5 : X := (.p .ite [(.p (.bin .eql .i64) [(.v 1), (I (0))]), (.p (.call 75 0) [(.v 0), (.v 3)]), (.b false)])
@[simp] def e23_6 : X := (.p .ite [(.p (.bin .neq .i64) [(.v 2), (I (0))]), e23_4, e23_5])
def i23 : Inst := ⟨23, 0, [(.sym (.sl [(.int .i64)]) (.v 0)), (.sym (.int .i64) (.v 1)), (.sym (.int .i64) (.v 2)), (.sym (.sl [(.int .i64)]) (.v 3))], [.one .bool]⟩
def s23 : List Cal := [c75]
@[simp] theorem o23_75 (vs : List AV) : calO s23 75 0 vs = getJ (F75 vs) := by simp [s23, cal_cons, c75, i75]
@[simp] def l23 : List LoopD := []
def t23 : Te AV := .need e23_2 (
 .ok (.sym .bool e23_6))
def F23 : List AV → Option AV := unitF (omL KK s23 l23) t23
def c23 : Cal := ⟨i23, F23⟩
theorem u23 : unitChk tab keep s23 l23 40 23 i23.pats t23 = true := by kernel_rfl
theorem q23 : Known Tryz.prog 23 := fn_known tabOf.1 (x := g23) (by kernel_rfl) (by kernel_rfl)
theorem x23 : ExtOk Tryz.prog 23 (extI i23 F23) := unit_ext tabOf.1 tabOf.2 (allX_mem (cs := s23) ⟨x75, trivial⟩) q23 u23
@[simp] def e29_0 : X := (.p (.okr [.one (.sl [(.int .i64), .str, (.int .i64), (.int .i64)])]) [(.p (.call 18 0) [(.v 0)])])
@[simp] def e29_1 : X := (.p .ite [(.p (.bin .eql .i64) [(.v 1), (I (0))]), e29_0, (.b true)])
@[simp] def e29_2 : X := (.p .ite [(.p (.bin .neq .i64) [(.v 2), (I (0))]), (.b true), e29_1])
@[simp] def e29_3 : X := (.p (.call 74 0) [(.p (.call 18 0) [(.v 0)]), (.v 3)])
@[simp] def e29_4 : X := (.p (.okr [.one .bool]) [e29_3])
@[simp] def e29_5 : X := (.p .ite [(.p (.bin .eql .i64) [(.v 1), (I (0))]), e29_4, (.b true)])
@[simp] def e29_6 : X := (.p .ite [(.p (.bin .neq .i64) [(.v 2), (I (0))]), (.b true), e29_5])
@[simp] def e29_7 : X := (.p (.bin .eql .i64) [(.p .len [(.v 0)]), (I (0))])
@[simp] def e29_8 : X := (.p .ite [e29_7, (.p (.bin .eql .i64) [(.v 1), (.v 2)]), (.b false)])
@[simp] def e29_9 : X := (.p .ite [(.p (.bin .eql .i64) [(.v 1), (I (0))]), e29_3, (.b false)])
@[simp] def e29_10 : X := (.p .ite [(.p (.bin .neq .i64) [(.v 2), (I (0))]), e29_8, e29_9])
def i29 : Inst := ⟨29, 0, [(.sym (.sl [(.int .i64), .str, (.int .i64), (.int .i64)]) (.v 0)), (.sym (.int .i64) (.v 1)), (.sym (.int .i64) (.v 2)), (.sym (.sl [(.int .i64), .str, (.int .i64), (.int .i64)]) (.v 3))], [.one .bool]⟩
def s29 : List Cal := [c18, c74]
@[simp] theorem o29_18 (vs : List AV) : calO s29 18 0 vs = getJ (F18 vs) := by simp [s29, cal_cons, c18, i18, c74, i74]
@[simp] theorem o29_74 (vs : List AV) : calO s29 74 0 vs = getJ (F74 vs) := by simp [s29, cal_cons, c18, i18, c74, i74]
@[simp] def l29 : List LoopD := []
def t29 : Te AV := .need e29_2 (
 .need e29_6 (
 .ok (.sym .bool e29_10)))
def F29 : List AV → Option AV := unitF (omL KK s29 l29) t29
def c29 : Cal := ⟨i29, F29⟩
theorem u29 : unitChk tab keep s29 l29 40 29 i29.pats t29 = true := by kernel_rfl
theorem q29 : Known Tryz.prog 29 := fn_known tabOf.1 (x := g29) (by kernel_rfl) (by kernel_rfl)
theorem x29 : ExtOk Tryz.prog 29 (extI i29 F29) := unit_ext tabOf.1 tabOf.2 (allX_mem (cs := s29) ⟨x18, x74, trivial⟩) q29 u29
end Go.Proofs.YtdeaibcebeofiaaGreatDoor.C5

namespace Go.Proofs.YtdeaibcebeofiaaGreatDoor.C5
open Go Go.Proofs.YtdeaibcebeofiaaGreatDoor.AM Go.Proofs
def i15 : Inst := ⟨15, 0, [], [.one .bool]⟩
def F15 : List AV → Option AV := fun _ => some (.bool true)
def c15 : Cal := ⟨i15, F15⟩
theorem x15 : ExtOk Tryz.prog 15 (extI i15 F15) := by
 have E : ExtOk Tryz.prog 15 (extTab [(a119, r119)]) := extOk_tab kn15 (fun e he => by
  simp only [List.mem_singleton] at he; subst he; exact row119)
 refine ⟨E.1, fun args r h B0 nx0 w ρ vargs H hrel hg hfl => E.2 args r h B0 nx0 w ρ vargs H hrel ?_ hfl⟩
 unfold extI at hg
 split at hg
 ·rename_i l hl
  split at hg
  ·cases ha : args.map (frz h 0 12) with
   | nil => rw [← hg]; rfl
   | cons x y => rw [ha] at hl; simp [i15, mtVs] at hl
  ·cases hg
 ·cases hg
end Go.Proofs.YtdeaibcebeofiaaGreatDoor.C5
