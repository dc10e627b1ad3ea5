/-
  Functions, as trees.
-/
import Derived.Test.YtdeaibcebeofiaaGreatDoorF2
import Derived.Test.YtdeaibcebeofiaaGreatDoorRowsB
set_option linter.unusedVariables false
set_option linter.unusedSimpArgs false
set_option linter.unusedSectionVars false
namespace Go.Proofs.YtdeaibcebeofiaaGreatDoor.C5
open Go Go.Proofs.YtdeaibcebeofiaaGreatDoor.AM Go.Proofs
set_option maxRecDepth 100000
abbrev e50_0 := Q (LE (I 0) v2) (LT v2 (LN v0)) (.b false)
abbrev e50_1 := Q (LE (I 0) v2) (LT v2 (LN v1)) (.b false)
abbrev e50_2 := SE (C 0 v0 v2) (C 0 v1 v2)
abbrev e50_3 := EQ (C 1 v0 v2) (C 1 v1 v2)
abbrev e50_4 := BE (C 2 v0 v2) (C 2 v1 v2)
abbrev e50_5 := EQ (C 3 v0 v2) (C 3 v1 v2)
abbrev e50_6 := EQ (C 4 v0 v2) (C 4 v1 v2)
abbrev e50_7 := Q e50_5 e50_6 (.b false)
abbrev e50_8 := Q e50_4 e50_7 (.b false)
abbrev e50_9 := Q e50_3 e50_8 (.b false)
abbrev e50_10 := Q e50_2 e50_9 (.b false)
abbrev e50_11 := NO e50_10
abbrev e50_12 := NE (LN v0) (LN v1)
abbrev e50_13 := LO 5000 [v0,v1,(I 0)]
abbrev e50_14 := PJ 0 e50_13
abbrev e50_15 := EQ e50_14 (I 1)
abbrev e50_16 := EQ e50_14 (I 2)
abbrev e50_17 := Q e50_15 YY e50_16
abbrev e50_18 := Q e50_12 YY e50_17
abbrev e50_19 := Q e50_15 (.b false) YY
abbrev e50_20 := Q e50_12 (.b false) e50_19
def B5000 : Te LEnd := .ite (LT v2 (LN v0)) (
 .need e50_0 (
 .need e50_1 (
 .ite e50_11 (
 .ok (.out 1 [])) (
 .ok (.again [v0,v1,(AD v2 (I 1))]))))) (
 .ok (.out 2 []))
def d5000 : LoopD := ⟨4,⟨5000,3,((.sym (.sl [.str,(.int .i64),.bool,(.int .i64),(.int .i64)]) v0) :: ((.sym (.sl [.str,(.int .i64),.bool,(.int .i64),(.int .i64)]) v1) :: (J 3 ((Si 2) :: (J 20 []))))),⟨⟨0,[],[[]],none⟩,[],[]⟩,
 [(.ret,0,(J 4 ((.bool false) :: (J 21 []))),⟨⟨0,[],[[]],none⟩,[],[]⟩),
  (.exit 0,0,(J 26 []),⟨⟨0,[],[[]],none⟩,[],[]⟩)],[(1,[]),(2,[])]⟩,B5000⟩
@[simp] theorem d5000_id : d5000.L.id = 5000 := rfl
@[simp] theorem d5000_B : d5000.B = B5000 := rfl
def i50 : Inst := ⟨50, 0, [(.sym (.sl [.str, (.int .i64), .bool, (.int .i64), (.int .i64)]) (.v 0)), (.sym (.sl [.str, (.int .i64), .bool, (.int .i64), (.int .i64)]) (.v 1))], [.one .bool]⟩
def s50 : List Cal := []
@[simp] def l50 : List LoopD := [d5000]
def t50 : Te AV := .need e50_18 (
 .ok (.sym .bool e50_20))
def F50 : List AV → Option AV := unitF (omL KK s50 l50) t50
def c50 : Cal := ⟨i50, F50⟩
theorem x50 : XO i50 F50 := XV s50 l50 t50 g50 trivial (by kernel_rfl) (by kernel_rfl) (by kernel_rfl)
abbrev e51_0 := Q (LE (I 0) v2) (LT v2 (LN v0)) (.b false)
abbrev e51_1 : X := .sl 5 [[(C 0 v0 v2),(C 1 v0 v2),(C 2 v0 v2),(C 3 v0 v2),(C 4 v0 v2)]]
abbrev e51_2 : X := .p (.app 5) [v1,e51_1]
abbrev e51_3 := LN e51_2
abbrev e51_4 := LE e51_3 (I 1073741824)
abbrev e51_5 := LO 5100 [v0,.nils,(I 0)]
abbrev e51_6 := PJ 0 e51_5
abbrev e51_7 := EQ e51_6 (I 1)
abbrev e51_8 := PJ 1 e51_5
def B5100 : Te LEnd := .ite (LT v2 (LN v0)) (
 .need e51_0 (
 .need e51_4 (
 .ok (.again [v0,e51_2,(AD v2 (I 1))])))) (
 .ok (.out 1 [v1]))
def d5100 : LoopD := ⟨3,⟨5100,3,((.sym (.sl [.str,(.int .i64),.bool,(.int .i64),(.int .i64)]) v0) :: (J 2 ((.sym (.own 0 [.str,(.int .i64),.bool,(.int .i64),(.int .i64)]) v1) :: ((Si 2) :: (J 14 []))))),⟨⟨2,[],[[]],none⟩,[(0,.rows [.str,(.int .i64),.bool,(.int .i64),(.int .i64)] v1)],[]⟩,
 [(.exit 0,1,(J 3 ((.sym (.own 0 [.str,(.int .i64),.bool,(.int .i64),(.int .i64)]) v0) :: (J 15 []))),⟨⟨2,[],[[]],none⟩,[(0,.rows [.str,(.int .i64),.bool,(.int .i64),(.int .i64)] v0)],[]⟩)],[(1,[])]⟩,B5100⟩
@[simp] theorem d5100_id : d5100.L.id = 5100 := rfl
@[simp] theorem d5100_B : d5100.B = B5100 := rfl
def i51 : Inst := ⟨51, 0, [(.sym (.sl [.str, (.int .i64), .bool, (.int .i64), (.int .i64)]) (.v 0))], [.one (.sl [.str, (.int .i64), .bool, (.int .i64), (.int .i64)])]⟩
def s51 : List Cal := []
@[simp] def l51 : List LoopD := [d5100]
def t51 : Te AV := .need e51_7 (
 .ok (.sym (.sl [.str,(.int .i64),.bool,(.int .i64),(.int .i64)]) e51_8))
def F51 : List AV → Option AV := unitF (omL KK s51 l51) t51
def c51 : Cal := ⟨i51, F51⟩
theorem x51 : XO i51 F51 := XV s51 l51 t51 g51 trivial (by kernel_rfl) (by kernel_rfl) (by kernel_rfl)
abbrev e215_0 := Q (LE (I 0) v1) (LT v1 (LN v0)) (.b false)
abbrev e215_1 : X := .p (.bin .lss .u8) [(.p .byte [v0,v1]),(.i .u8 (48))]
abbrev e215_2 : X := .p (.bin .gtr .u8) [(.p .byte [v0,v1]),(.i .u8 (57))]
abbrev e215_3 := Q e215_1 YY e215_2
abbrev e215_4 := LO 21500 [v0,(I 0)]
abbrev e215_5 := PJ 0 e215_4
abbrev e215_6 := EQ e215_5 (I 1)
abbrev e215_7 := EQ e215_5 (I 2)
abbrev e215_8 := Q e215_6 YY e215_7
abbrev e215_9 := Q e215_6 (.b false) YY
def B21500 : Te LEnd := .ite (LT v1 (LN v0)) (
 .need e215_0 (
 .ite e215_3 (
 .ok (.out 1 [])) (
 .ok (.again [v0,(AD v1 (I 1))])))) (
 .ok (.out 2 []))
def d21500 : LoopD := ⟨2,⟨21500,2,((Ss 0) :: (J 2 ((Si 1) :: (J 16 [])))),⟨⟨0,[],[[]],none⟩,[],[]⟩,
 [(.ret,0,(J 2 ((.bool false) :: (J 17 []))),⟨⟨0,[],[[]],none⟩,[],[]⟩),
  (.exit 0,0,(J 20 []),⟨⟨0,[],[[]],none⟩,[],[]⟩)],[(1,[]),(2,[])]⟩,B21500⟩
@[simp] theorem d21500_id : d21500.L.id = 21500 := rfl
@[simp] theorem d21500_B : d21500.B = B21500 := rfl
def i215 : Inst := ⟨215, 0, [(Ss 0)], [.one .bool]⟩
def s215 : List Cal := []
@[simp] def l215 : List LoopD := [d21500]
def t215 : Te AV := .need e215_8 (
 .ok (.sym .bool e215_9))
def F215 : List AV → Option AV := unitF (omL KK s215 l215) t215
def c215 : Cal := ⟨i215, F215⟩
theorem x215 : XO i215 F215 := XV s215 l215 t215 g215 trivial (by kernel_rfl) (by kernel_rfl) (by kernel_rfl)
abbrev e216_0 := Q (LE (I 0) v2) (LT v2 (LN v0)) (.b false)
abbrev e216_1 : X := .p (.conv .i64) [(.p .byte [v0,v2])]
abbrev e216_2 := AD (MU (I 10) v1) e216_1
abbrev e216_3 := SB e216_2 (I 48)
abbrev e216_4 := LO 21600 [v0,(I 0),(I 0)]
abbrev e216_5 := PJ 0 e216_4
abbrev e216_6 := EQ e216_5 (I 1)
abbrev e216_7 := PJ 1 e216_4
def B21600 : Te LEnd := .ite (LT v2 (LN v0)) (
 .need e216_0 (
 .ok (.again [v0,e216_3,(AD v2 (I 1))]))) (
 .ok (.out 1 [v1]))
def d21600 : LoopD := ⟨3,⟨21600,3,((Ss 0) :: (J 2 ((Si 1) :: ((Si 2) :: (J 15 []))))),⟨⟨0,[],[[]],none⟩,[],[]⟩,
 [(.exit 0,1,(J 3 ((Si 0) :: (J 16 []))),⟨⟨0,[],[[]],none⟩,[],[]⟩)],[(1,[])]⟩,B21600⟩
@[simp] theorem d21600_id : d21600.L.id = 21600 := rfl
@[simp] theorem d21600_B : d21600.B = B21600 := rfl
def i216 : Inst := ⟨216, 0, [(Ss 0)], [.one (.int .i64)]⟩
def s216 : List Cal := []
@[simp] def l216 : List LoopD := [d21600]
def t216 : Te AV := .need e216_6 (
 .ok (.sym (.int .i64) e216_7))
def F216 : List AV → Option AV := unitF (omL KK s216 l216) t216
def c216 : Cal := ⟨i216, F216⟩
theorem x216 : XO i216 F216 := XV s216 l216 t216 g216 trivial (by kernel_rfl) (by kernel_rfl) (by kernel_rfl)
abbrev e171_0 := GT (LN v0) (I 9)
abbrev e171_1 := OB (K 215 [v0])
abbrev e171_2 := Q e171_0 YY e171_1
abbrev e171_3 := Q (EQ (LN v0) (I 0)) YY e171_2
abbrev e171_4 := GT (LN v0) (I 1)
abbrev e171_5 := Q e171_4 (LT (I 0) (LN v0)) YY
abbrev e171_6 := Q (NO (K 215 [v0])) YY e171_5
abbrev e171_7 := Q e171_0 YY e171_6
abbrev e171_8 := Q (EQ (LN v0) (I 0)) YY e171_7
abbrev e171_9 : X := .p (.bin .eql .u8) [(.p .byte [v0,(I 0)]),(.i .u8 (48))]
abbrev e171_10 := Q e171_4 e171_9 (.b false)
abbrev e171_11 := Q (NO (K 215 [v0])) YY e171_10
abbrev e171_12 := Q e171_0 YY e171_11
abbrev e171_13 := Q (EQ (LN v0) (I 0)) YY e171_12
abbrev e171_14 := OI (K 216 [v0])
abbrev e171_15 := Q e171_13 YY e171_14
abbrev e171_16 := Q e171_13 (I 0) (K 216 [v0])
abbrev e171_17 := Q e171_13 (.b false) YY
def i171 : Inst := ⟨171, 0, [(Ss 0)], [.one (.int .i64), .one .bool]⟩
def s171 : List Cal := [c215, c216]
@[simp] theorem o171_215 : OE s171 215 0 F215 := oG rfl
@[simp] theorem o171_216 : OE s171 216 0 F216 := oG rfl
@[simp] def l171 : List LoopD := []
def t171 : Te AV := .need e171_3 (
 .need e171_8 (
 .need e171_15 (
 .ok (.tuple [(.sym (.int .i64) e171_16),(.sym .bool e171_17)]))))
def F171 : List AV → Option AV := unitF (omL KK s171 l171) t171
def c171 : Cal := ⟨i171, F171⟩
theorem x171 : XO i171 F171 := XV s171 l171 t171 g171 ⟨x215, x216, trivial⟩ (by kernel_rfl) (by kernel_rfl) (by kernel_rfl)
abbrev e170_0 := Q (LT (LN v1) (I 2)) YY (LT (I 0) (LN v1))
abbrev e170_1 := Q (SE v1 (.s w11)) YY e170_0
abbrev e170_2 : X := .p (.bin .neq .u8) [(.p .byte [v1,(I 0)]),v0]
abbrev e170_3 := Q (LT (LN v1) (I 2)) YY e170_2
abbrev e170_4 := Q e170_3 YY (LE (I 1) (LN v1))
abbrev e170_5 := Q (SE v1 (.s w11)) YY e170_4
abbrev e170_6 : X := .p .sslice [v1,(I 1),(LN v1)]
abbrev e170_7 := K 171 [e170_6]
abbrev e170_8 : X := .p (.okr [.one (.int .i64),.one .bool]) [e170_7]
abbrev e170_9 := Q e170_3 YY e170_8
abbrev e170_10 := Q (SE v1 (.s w11)) YY e170_9
abbrev e170_11 := PJ 0 e170_7
abbrev e170_12 := Q e170_3 (I 0) e170_11
abbrev e170_13 := Q (SE v1 (.s w11)) (I 0) e170_12
abbrev e170_14 := PJ 1 e170_7
abbrev e170_15 := GT e170_11 (I 0)
abbrev e170_16 := Q e170_14 e170_15 (.b false)
abbrev e170_17 := Q e170_3 (.b false) e170_16
abbrev e170_18 := Q (SE v1 (.s w11)) YY e170_17
def i170 : Inst := ⟨170, 0, [(.sym (.int .u8) (.v 0)), (Ss 1)], [.one (.int .i64), .one .bool]⟩
def s170 : List Cal := [c171]
@[simp] theorem o170_171 : OE s170 171 0 F171 := oG rfl
@[simp] def l170 : List LoopD := []
def t170 : Te AV := .need e170_1 (
 .need e170_5 (
 .need e170_10 (
 .ok (.tuple [(.sym (.int .i64) e170_13),(.sym .bool e170_18)]))))
def F170 : List AV → Option AV := unitF (omL KK s170 l170) t170
def c170 : Cal := ⟨i170, F170⟩
theorem x170 : XO i170 F170 := XV s170 l170 t170 g170 ⟨x171, trivial⟩ (by kernel_rfl) (by kernel_rfl) (by kernel_rfl)
abbrev e105_0 : X := .p .sslice [v0,v4,(AD v4 (LN v1))]
abbrev e105_1 := SE e105_0 v1
abbrev e105_2 : X := .sl 1 [[(.p .sslice [v0,v3,v4])]]
abbrev e105_3 : X := .p (.app 1) [v2,e105_2]
abbrev e105_4 := LN e105_3
abbrev e105_5 := LE e105_4 (I 1073741824)
abbrev e105_6 := LO 10500 [v0,v1,.nils,(I 0),(I 0)]
abbrev e105_7 := PJ 0 e105_6
abbrev e105_8 := EQ e105_7 (I 1)
abbrev e105_9 := PJ 3 e105_6
abbrev e105_10 := LE (I 0) e105_9
abbrev e105_11 := LE e105_9 (LN v0)
abbrev e105_12 := PJ 2 e105_6
abbrev e105_13 : X := .p .sslice [v0,e105_9,(LN v0)]
abbrev e105_14 : X := .sl 1 [[e105_13]]
abbrev e105_15 : X := .p (.app 1) [e105_12,e105_14]
abbrev e105_16 := LN e105_15
abbrev e105_17 := LE e105_16 (I 1073741824)
def B10500 : Te LEnd := .ite (LE (AD v4 (LN v1)) (LN v0)) (
 .need (LE (I 0) v4) (
 .need (LE v4 (AD v4 (LN v1))) (
 .ite e105_1 (
 .need (LE (I 0) v3) (
 .need (LE v3 v4) (
 .need (LE v4 (LN v0)) (
 .need e105_5 (
 .ok (.again [v0,v1,e105_3,(AD v4 (LN v1)),(AD v4 (LN v1))])))))) (
 .ok (.again [v0,v1,v2,v3,(AD v4 (I 1))]))))) (
 .ok (.out 1 [v0,v2,v3]))
def d10500 : LoopD := ⟨4,⟨10500,5,((Ss 0) :: ((Ss 1) :: (J 3 ((.sym (.own 0 [.str]) v2) :: ((Si 3) :: ((Si 4) :: (J 36 []))))))),⟨⟨2,[],[[]],none⟩,[(0,.rows [.str] v2)],[]⟩,
 [(.exit 0,3,((Ss 0) :: (J 4 ((.sym (.own 0 [.str]) v1) :: ((Si 2) :: (J 37 []))))),⟨⟨2,[],[[]],none⟩,[(0,.rows [.str] v1)],[]⟩)],[(1,[(0,0)])]⟩,B10500⟩
@[simp] theorem d10500_id : d10500.L.id = 10500 := rfl
@[simp] theorem d10500_B : d10500.B = B10500 := rfl
def i105 : Inst := ⟨105, 0, [(Ss 0), (Ss 1)], [.one (.sl [.str])]⟩
def s105 : List Cal := []
@[simp] def l105 : List LoopD := [d10500]
def t105 : Te AV := .need e105_8 (
 .need e105_10 (
 .need e105_11 (
 .need e105_17 (
 .ok (.sym (.sl [.str]) e105_15)))))
def F105 : List AV → Option AV := unitF (omL KK s105 l105) t105
def c105 : Cal := ⟨i105, F105⟩
theorem x105 : XO i105 F105 := XV s105 l105 t105 g105 trivial (by kernel_rfl) (by kernel_rfl) (by kernel_rfl)
abbrev e106_0 : X := .p (.okr [.one (.sl [.str])]) [(K 105 [v0,(.s w15)])]
abbrev e106_1 := Q (SE v0 (.s w13)) YY e106_0
abbrev e106_2 := LN (K 105 [v0,(.s w15)])
abbrev e106_3 := EQ e106_2 (I 2)
abbrev e106_4 := LT (I 0) e106_2
abbrev e106_5 := Q e106_3 e106_4 YY
abbrev e106_6 := Q (SE v0 (.s w13)) YY e106_5
abbrev e106_7 := C 0 (K 105 [v0,(.s w15)]) (I 0)
abbrev e106_8 := K 170 [(.i .u8 (84)),e106_7]
abbrev e106_9 : X := .p (.okr [.one (.int .i64),.one .bool]) [e106_8]
abbrev e106_10 := Q e106_3 e106_9 YY
abbrev e106_11 := Q (SE v0 (.s w13)) YY e106_10
abbrev e106_12 := LT (I 1) e106_2
abbrev e106_13 := Q e106_3 e106_12 YY
abbrev e106_14 := Q (SE v0 (.s w13)) YY e106_13
abbrev e106_15 := C 0 (K 105 [v0,(.s w15)]) (I 1)
abbrev e106_16 := K 170 [(.i .u8 (90)),e106_15]
abbrev e106_17 : X := .p (.okr [.one (.int .i64),.one .bool]) [e106_16]
abbrev e106_18 := Q e106_3 e106_17 YY
abbrev e106_19 := Q (SE v0 (.s w13)) YY e106_18
abbrev e106_20 := GT (LN v0) (I 0)
abbrev e106_21 := LT (SB (LN v0) (I 1)) (LN v0)
abbrev e106_22 := Q (LE (I 0) (SB (LN v0) (I 1))) e106_21 (.b false)
abbrev e106_23 := Q e106_20 e106_22 YY
abbrev e106_24 := Q e106_3 YY e106_23
abbrev e106_25 := Q (SE v0 (.s w13)) YY e106_24
abbrev e106_26 : X := .p .byte [v0,(SB (LN v0) (I 1))]
abbrev e106_27 : X := .p (.bin .eql .u8) [e106_26,(.i .u8 (43))]
abbrev e106_28 := Q e106_20 e106_27 (.b false)
abbrev e106_29 := Q e106_28 (LE (I 0) (SB (LN v0) (I 1))) YY
abbrev e106_30 := Q e106_3 YY e106_29
abbrev e106_31 := Q (SE v0 (.s w13)) YY e106_30
abbrev e106_32 := LE (SB (LN v0) (I 1)) (LN v0)
abbrev e106_33 := Q e106_28 e106_32 YY
abbrev e106_34 := Q e106_3 YY e106_33
abbrev e106_35 := Q (SE v0 (.s w13)) YY e106_34
abbrev e106_36 : X := .p .sslice [v0,(I 0),(SB (LN v0) (I 1))]
abbrev e106_37 := Q e106_28 e106_36 v0
abbrev e106_38 := K 171 [e106_37]
abbrev e106_39 : X := .p (.okr [.one (.int .i64),.one .bool]) [e106_38]
abbrev e106_40 := Q e106_3 YY e106_39
abbrev e106_41 := Q (SE v0 (.s w13)) YY e106_40
abbrev e106_42 := Q e106_3 (.s w1) (.s w0)
abbrev e106_43 := Q (SE v0 (.s w13)) (.s w0) e106_42
abbrev e106_44 := PJ 0 e106_38
abbrev e106_45 := Q e106_3 (I 0) e106_44
abbrev e106_46 := Q (SE v0 (.s w13)) (I 0) e106_45
abbrev e106_47 := Q e106_3 (.b false) e106_28
abbrev e106_48 := Q (SE v0 (.s w13)) (.b false) e106_47
abbrev e106_49 := PJ 0 e106_8
abbrev e106_50 := Q e106_3 e106_49 (I 0)
abbrev e106_51 := Q (SE v0 (.s w13)) (I 1) e106_50
abbrev e106_52 := PJ 0 e106_16
abbrev e106_53 := Q e106_3 e106_52 (I 0)
abbrev e106_54 := Q (SE v0 (.s w13)) (I 0) e106_53
abbrev e106_55 := PJ 1 e106_8
abbrev e106_56 := PJ 1 e106_16
abbrev e106_57 := Q e106_55 e106_56 (.b false)
abbrev e106_58 := PJ 1 e106_38
abbrev e106_59 := Q e106_3 e106_57 e106_58
abbrev e106_60 := Q (SE v0 (.s w13)) YY e106_59
def i106 : Inst := ⟨106, 0, [(Ss 0)], [.agg [.str, (.int .i64), .bool, (.int .i64), (.int .i64)], .one .bool]⟩
def s106 : List Cal := [c105, c170, c171]
@[simp] theorem o106_105 : OE s106 105 0 F105 := oG rfl
@[simp] theorem o106_170 : OE s106 170 0 F170 := oG rfl
@[simp] theorem o106_171 : OE s106 171 0 F171 := oG rfl
@[simp] def l106 : List LoopD := []
def t106 : Te AV := .need e106_1 (
 .need e106_6 (
 .need e106_11 (
 .need e106_14 (
 .need e106_19 (
 .need e106_25 (
 .need e106_31 (
 .need e106_35 (
 .need e106_41 (
 .ok (.tuple [(.agg [(.sym .str e106_43),(.sym (.int .i64) e106_46),(.sym .bool e106_48),(.sym (.int .i64) e106_51),(.sym (.int .i64) e106_54)]),(.sym .bool e106_60)]))))))))))
def F106 : List AV → Option AV := unitF (omL KK s106 l106) t106
def c106 : Cal := ⟨i106, F106⟩
theorem x106 : XO i106 F106 := XV s106 l106 t106 g106 ⟨x105, x170, x171, trivial⟩ (by kernel_rfl) (by kernel_rfl) (by kernel_rfl)
abbrev e107_0 := Q (GT v3 (I 1)) YY (NE v4 (I 0))
abbrev e107_1 := Q (LT v3 (I 0)) YY e107_0
abbrev e107_2 := Q (GT v1 (I 64)) YY e107_1
abbrev e107_3 := Q (LT v1 (I 0)) YY e107_2
abbrev e107_4 := Q v2 YY (NE v1 (I 0))
abbrev e107_5 := Q (EQ v3 (I 1)) e107_4 (.b false)
abbrev e107_6 := Q e107_5 (I 1) (I 0)
abbrev e107_7 := Q e107_3 (I 3) e107_6
abbrev e107_8 := Q (LT v4 (I 0)) YY (GT v4 (I 99))
abbrev e107_9 := Q (GT v3 (I 99)) YY e107_8
abbrev e107_10 := Q (LT v3 (I 0)) YY e107_9
abbrev e107_11 := Q (NE v1 (I 0)) YY e107_10
abbrev e107_12 := Q (EQ v4 (I 0)) YY (GT v4 v3)
abbrev e107_13 := Q (GT v3 (I 0)) e107_12 (.b false)
abbrev e107_14 := Q v2 YY e107_13
abbrev e107_15 := Q e107_14 (I 1) (I 0)
abbrev e107_16 := Q e107_11 (I 3) e107_15
abbrev e107_17 := Q (SE v0 (.s w1)) e107_16 (I 13)
abbrev e107_18 := Q (SE v0 (.s w0)) e107_7 e107_17
def i107 : Inst := ⟨107, 0, [(.agg [(Ss 0), (Si 1), (Sb 2), (Si 3), (Si 4)])], [.one (.int .i64)]⟩
def s107 : List Cal := []
@[simp] def l107 : List LoopD := []
def t107 : Te AV := .ok (.sym (.int .i64) e107_18)
def F107 : List AV → Option AV := unitF (omL KK s107 l107) t107
def c107 : Cal := ⟨i107, F107⟩
theorem x107 : XO i107 F107 := XV s107 l107 t107 g107 trivial (by kernel_rfl) (by kernel_rfl) (by kernel_rfl)
abbrev e48_0 := Q (LE (I 0) v2) (LT v2 (LN v0)) (.b false)
abbrev e48_1 : X := .p (.okr [.agg [.str,(.int .i64),.bool,(.int .i64),(.int .i64)],.one .bool]) [(K 106 [(C 0 v0 v2)])]
abbrev e48_2 := PJ 1 (K 106 [(C 0 v0 v2)])
abbrev e48_3 := NO e48_2
abbrev e48_4 := GE v2 (I 256)
abbrev e48_5 := PJ 0 (K 106 [(C 0 v0 v2)])
abbrev e48_6 := FL 0 e48_5
abbrev e48_7 := FL 1 e48_5
abbrev e48_8 := FL 2 e48_5
abbrev e48_9 := FL 3 e48_5
abbrev e48_10 := FL 4 e48_5
abbrev e48_11 := K 107 [e48_6,e48_7,e48_8,e48_9,e48_10]
abbrev e48_12 := OI e48_11
abbrev e48_13 := EQ e48_11 (I 0)
abbrev e48_14 := Q (GT v2 (I 0)) (LT (I 0) (LN v1)) YY
abbrev e48_15 := Q e48_13 e48_14 YY
abbrev e48_16 := Q (GT v2 (I 0)) (NO (.p .isNil [v1])) YY
abbrev e48_17 := Q e48_13 e48_16 YY
abbrev e48_18 := SN e48_6 (C 0 v1 (I 0))
abbrev e48_19 := Q (GT v2 (I 0)) e48_18 (.b false)
abbrev e48_20 := Q e48_13 e48_19 (.b false)
abbrev e48_21 := Q e48_20 (I 13) e48_11
abbrev e48_22 := NE e48_21 (I 0)
abbrev e48_23 : X := .sl 5 [[e48_6,e48_7,e48_8,e48_9,e48_10]]
abbrev e48_24 : X := .p (.app 5) [v1,e48_23]
abbrev e48_25 := LN e48_24
abbrev e48_26 := LE e48_25 (I 1073741824)
abbrev e48_27 := GT (LN v0) (I 4096)
abbrev e48_28 : X := .p (.okr [.one (.sl [.str])]) [(K 105 [v0,(.s w19)])]
abbrev e48_29 := Q (EQ (LN v0) (I 0)) YY e48_28
abbrev e48_30 := Q e48_27 YY e48_29
abbrev e48_31 := LO 4800 [(K 105 [v0,(.s w19)]),.nils,(I 0)]
abbrev e48_32 := PJ 0 e48_31
abbrev e48_33 := EQ e48_32 (I 1)
abbrev e48_34 := EQ e48_32 (I 2)
abbrev e48_35 := Q e48_33 YY e48_34
abbrev e48_36 := Q (EQ (LN v0) (I 0)) YY e48_35
abbrev e48_37 := Q e48_27 YY e48_36
abbrev e48_38 := PJ 1 e48_31
abbrev e48_39 := Q e48_33 .nils e48_38
abbrev e48_40 := Q (EQ (LN v0) (I 0)) .nils e48_39
abbrev e48_41 := Q e48_27 .nils e48_40
abbrev e48_42 := Q e48_33 e48_38 (I 0)
abbrev e48_43 := Q (EQ (LN v0) (I 0)) (I 0) e48_42
abbrev e48_44 := Q e48_27 (I 0) e48_43
abbrev e48_45 := PJ 2 e48_31
abbrev e48_46 := Q e48_33 e48_45 (I 0)
abbrev e48_47 := Q (EQ (LN v0) (I 0)) (I 12) e48_46
abbrev e48_48 := Q e48_27 (I 26) e48_47
def B4800 : Te LEnd := .ite (LT v2 (LN v0)) (
 .need e48_0 (
 .need e48_1 (
 .ite e48_3 (
 .ok (.out 1 [(AD v2 (I 1)),(I 25)])) (
 .ite e48_4 (
 .ok (.out 1 [(AD v2 (I 1)),(I 5)])) (
 .need e48_12 (
 .need e48_15 (
 .need e48_17 (
 .ite e48_22 (
 .ok (.out 1 [(AD v2 (I 1)),e48_21])) (
 .need e48_26 (
 .ok (.again [v0,e48_24,(AD v2 (I 1))]))))))))))) (
 .ok (.out 2 [v1]))
def d4800 : LoopD := ⟨8,⟨4800,3,(J 5 ((S1 0) :: ((.sym (.own 0 [.str,(.int .i64),.bool,(.int .i64),(.int .i64)]) v1) :: ((Si 2) :: (J 60 []))))),⟨⟨3,[],[[]],none⟩,[(0,.rows [.str,(.int .i64),.bool,(.int .i64),(.int .i64)] v1)],[]⟩,
 [(.ret,2,(J 2 (.nils :: ((Si 0) :: ((Si 1) :: (J 63 []))))),⟨⟨4,[],[[]],none⟩,[],[]⟩),
  (.exit 0,1,(J 6 ((.sym (.own 0 [.str,(.int .i64),.bool,(.int .i64),(.int .i64)]) v0) :: (J 61 []))),⟨⟨3,[],[[]],none⟩,[(0,.rows [.str,(.int .i64),.bool,(.int .i64),(.int .i64)] v0)],[]⟩)],[(1,[]),(2,[])]⟩,B4800⟩
@[simp] theorem d4800_id : d4800.L.id = 4800 := rfl
@[simp] theorem d4800_B : d4800.B = B4800 := rfl
def i48 : Inst := ⟨48, 0, [(Ss 0)], [.one (.sl [.str, (.int .i64), .bool, (.int .i64), (.int .i64)]), .one (.int .i64), .one (.int .i64)]⟩
def s48 : List Cal := [c105, c106, c107]
@[simp] theorem o48_105 : OE s48 105 0 F105 := oG rfl
@[simp] theorem o48_106 : OE s48 106 0 F106 := oG rfl
@[simp] theorem o48_107 : OE s48 107 0 F107 := oG rfl
@[simp] def l48 : List LoopD := [d4800]
def t48 : Te AV := .need e48_30 (
 .need e48_37 (
 .ok (.tuple [(.sym (.sl [.str,(.int .i64),.bool,(.int .i64),(.int .i64)]) e48_41),(.sym (.int .i64) e48_44),(.sym (.int .i64) e48_48)])))
def F48 : List AV → Option AV := unitF (omL KK s48 l48) t48
def c48 : Cal := ⟨i48, F48⟩
theorem x48 : XO i48 F48 := XV s48 l48 t48 g48 ⟨x105, x106, x107, trivial⟩ (by kernel_rfl) (by kernel_rfl) (by kernel_rfl)
abbrev e47_0 := Q (LE (I 0) v3) (LT v3 (LN v1)) (.b false)
abbrev e47_1 := GT (C 0 v1 v3) v0
abbrev e47_2 := Q e47_1 (C 0 v1 v3) v0
abbrev e47_3 := LO 4700 [(C 0 v0 (I 0)),v0,(LN v0),(I 0)]
abbrev e47_4 := PJ 0 e47_3
abbrev e47_5 := EQ e47_4 (I 1)
abbrev e47_6 := PJ 1 e47_3
def B4700 : Te LEnd := .ite (LT v3 v2) (
 .need e47_0 (
 .ok (.again [e47_2,v1,v2,(AD v3 (I 1))]))) (
 .ok (.out 1 [v0]))
def d4700 : LoopD := ⟨3,⟨4700,4,(J 3 ((Si 0) :: (J 5 ((S2 1) :: ((Si 2) :: ((Si 3) :: (J 8 []))))))),⟨⟨0,[],[[]],none⟩,[],[]⟩,
 [(.exit 0,1,(J 3 ((Si 0) :: (J 16 []))),⟨⟨0,[],[[]],none⟩,[],[]⟩)],[(1,[])]⟩,B4700⟩
@[simp] theorem d4700_id : d4700.L.id = 4700 := rfl
@[simp] theorem d4700_B : d4700.B = B4700 := rfl
def i47 : Inst := ⟨47, 0, [(S2 0)], [.one (.int .i64)]⟩
def s47 : List Cal := []
@[simp] def l47 : List LoopD := [d4700]
def t47 : Te AV := .need (LT (I 0) (LN v0)) (
 .need e47_5 (
 .ok (.sym (.int .i64) e47_6)))
def F47 : List AV → Option AV := unitF (omL KK s47 l47) t47
def c47 : Cal := ⟨i47, F47⟩
theorem x47 : XO i47 F47 := XV s47 l47 t47 g47 trivial (by kernel_rfl) (by kernel_rfl) (by kernel_rfl)
end Go.Proofs.YtdeaibcebeofiaaGreatDoor.C5

namespace Go.Proofs.YtdeaibcebeofiaaGreatDoor.C5
open Go Go.Proofs.YtdeaibcebeofiaaGreatDoor.AM Go.Proofs
def i15 : Inst := ⟨15, 0, [], [.one .bool]⟩
def F15 : List AV → Option AV := fun _ => some (.bool true)
def c15 : Cal := ⟨i15, F15⟩
theorem x15 : ExtOk Tryz.prog 15 (extI i15 F15) := by
 have E : ExtOk Tryz.prog 15 (extTab [(a119, r119)]) := extOk_tab kn15 (fun e he => by
  simp only [List.mem_singleton] at he; subst he; exact row119)
 refine ⟨E.1, fun args r h B0 nx0 w ρ vargs H hrel hg hfl => E.2 args r h B0 nx0 w ρ vargs H hrel ?_ hfl⟩
 unfold extI at hg
 split at hg
 ·rename_i l hl
  split at hg
  ·cases ha : args.map (frz h 0 12) with
   | nil => rw [← hg]; rfl
   | cons x y => rw [ha] at hl; simp [i15, mtVs] at hl
  ·cases hg
 ·cases hg
end Go.Proofs.YtdeaibcebeofiaaGreatDoor.C5

namespace Go.Proofs.YtdeaibcebeofiaaGreatDoor.C5
open Go Go.Proofs.YtdeaibcebeofiaaGreatDoor.AM Go.Proofs
set_option maxRecDepth 100000
abbrev e7_0 := Q (LE (I 0) v3) (LT v3 (LN v5)) (.b false)
abbrev e7_1 := K 40 [v6,v7,v8,v9,v4,v5,v3]
abbrev e7_2 : X := .p (.okr [.one .str,.one (.int .i64)]) [e7_1]
abbrev e7_3 := PJ 1 e7_1
abbrev e7_4 := NE e7_3 (I 0)
abbrev e7_5 := SE (C 1 v5 v3) (.s w3)
abbrev e7_6 := OI (K 47 [(C 10 v5 v3)])
abbrev e7_7 := Q (EQ (LN (C 10 v5 v3)) (I 0)) YY e7_6
abbrev e7_8 := Q (SE v6 (.s w2)) e7_7 YY
abbrev e7_9 := Q e7_5 e7_8 YY
abbrev e7_10 := Q e7_4 YY e7_9
abbrev e7_11 := PJ 0 e7_1
abbrev e7_12 := SE e7_11 (.s w11)
abbrev e7_13 := BE e7_12 YY
abbrev e7_14 := NO e7_13
abbrev e7_15 := EQ (K 47 [(C 10 v5 v3)]) (I 0)
abbrev e7_16 := BE e7_12 e7_15
abbrev e7_17 := NO e7_16
abbrev e7_18 := Q (EQ (LN (C 10 v5 v3)) (I 0)) e7_14 e7_17
abbrev e7_19 := Q (SE v6 (.s w2)) e7_18 (.b false)
abbrev e7_20 := Q e7_5 e7_19 (.b false)
abbrev e7_21 := Q e7_4 YY e7_20
abbrev e7_22 := Q (SN v6 (.s w2)) e7_5 (.b false)
abbrev e7_23 := K 48 [e7_11]
abbrev e7_24 : X := .p (.okr [.one (.sl [.str,(.int .i64),.bool,(.int .i64),(.int .i64)]),.one (.int .i64),.one (.int .i64)]) [e7_23]
abbrev e7_25 := K 49 [v6,v7,v8,v9,v4,v5,v3]
abbrev e7_26 : X := .p (.okr [.one (.sl [.str,(.int .i64),.bool,(.int .i64),(.int .i64)]),.one (.int .i64)]) [e7_25]
abbrev e7_27 := PJ 2 e7_23
abbrev e7_28 := NE e7_27 (I 0)
abbrev e7_29 := PJ 1 e7_25
abbrev e7_30 := NE e7_29 (I 0)
abbrev e7_31 := PJ 0 e7_25
abbrev e7_32 := K 51 [e7_31]
abbrev e7_33 : X := .p (.okr [.one (.sl [.str,(.int .i64),.bool,(.int .i64),(.int .i64)])]) [e7_32]
abbrev e7_34 := Q e7_30 YY e7_33
abbrev e7_35 := Q e7_28 YY e7_34
abbrev e7_36 := PJ 0 e7_23
abbrev e7_37 := K 50 [e7_36,e7_32]
abbrev e7_38 := OB e7_37
abbrev e7_39 := Q e7_30 YY e7_38
abbrev e7_40 := Q e7_28 YY e7_39
abbrev e7_41 := NO e7_37
abbrev e7_42 := Q e7_30 YY e7_41
abbrev e7_43 := Q e7_28 YY e7_42
abbrev e7_44 := SN (C 1 v5 v3) (.s w3)
abbrev e7_45 := Q (NE v1 (I 0)) YY e7_44
abbrev e7_46 := Q (LE (I 0) v3) (LT v3 (LN v0)) (.b false)
abbrev e7_47 := Q (SE v6 (.s w0)) (EQ (LN (C 2 v0 v3)) (I 2)) (.b false)
abbrev e7_48 := Q (NO (C 7 v5 v3)) (LT (I 0) (LN (C 2 v0 v3))) YY
abbrev e7_49 := MU (I 2) (C 5 v5 v3)
abbrev e7_50 := LT (C 0 (C 2 v0 v3) (I 0)) e7_49
abbrev e7_51 := AD e7_49 (I 1)
abbrev e7_52 := GT (C 0 (C 2 v0 v3) (I 0)) e7_51
abbrev e7_53 := AD (MU (I 2) v8) (I 1)
abbrev e7_54 := LE (C 0 (C 2 v0 v3) (I 0)) e7_53
abbrev e7_55 := Q e7_54 YY (LT (I 1) (LN (C 2 v0 v3)))
abbrev e7_56 := Q (C 7 v5 v3) e7_55 YY
abbrev e7_57 := Q e7_52 YY e7_56
abbrev e7_58 := Q e7_50 YY e7_57
abbrev e7_59 := Q (NO (C 7 v5 v3)) e7_58 YY
abbrev e7_60 := Q (C 7 v5 v3) YY (LT (I 1) (LN (C 2 v0 v3)))
abbrev e7_61 := Q e7_52 YY e7_60
abbrev e7_62 := Q e7_50 YY e7_61
abbrev e7_63 := Q (NO (C 7 v5 v3)) e7_62 YY
abbrev e7_64 := Q (C 7 v5 v3) (LT (I 0) (LN (C 2 v0 v3))) YY
abbrev e7_65 := Q (NO (C 7 v5 v3)) YY e7_64
abbrev e7_66 := Q (NO (C 7 v5 v3)) YY e7_56
abbrev e7_67 := Q (NO (C 7 v5 v3)) YY e7_60
abbrev e7_68 := GT (C 0 (C 2 v0 v3) (I 1)) (I 0)
abbrev e7_69 := Q e7_54 YY e7_68
abbrev e7_70 := Q (C 7 v5 v3) e7_69 e7_68
abbrev e7_71 := Q e7_52 YY e7_70
abbrev e7_72 := Q e7_50 YY e7_71
abbrev e7_73 := Q (NO (C 7 v5 v3)) e7_72 e7_70
abbrev e7_74 := Q (SE v6 (.s w1)) (EQ (LN (C 2 v0 v3)) (I 4)) (.b false)
abbrev e7_75 := LO 701 [v0,v1,(C 2 v0 v3),(I 0),v2,v3,(C 9 v5 v3),(LN (C 9 v5 v3)),(I 0),v4,v5,v6,v7,v8,v9]
abbrev e7_76 := PJ 0 e7_75
abbrev e7_77 := EQ e7_76 (I 1)
abbrev e7_78 := PJ 4 e7_75
abbrev e7_79 := NE (C 0 (C 2 v0 v3) (I 0)) e7_78
abbrev e7_80 := Q e7_79 YY (LT (I 1) (LN (C 2 v0 v3)))
abbrev e7_81 := LT (C 0 (C 2 v0 v3) (I 1)) e7_78
abbrev e7_82 := Q e7_81 YY (LT (I 2) (LN (C 2 v0 v3)))
abbrev e7_83 := Q e7_79 YY e7_82
abbrev e7_84 : X := .p (.neg .i64) [e7_78]
abbrev e7_85 := GT (C 0 (C 2 v0 v3) (I 2)) e7_84
abbrev e7_86 := Q e7_85 YY (LT (I 3) (LN (C 2 v0 v3)))
abbrev e7_87 := Q e7_81 YY e7_86
abbrev e7_88 := Q e7_79 YY e7_87
abbrev e7_89 : X := .p (.neg .i64) [(C 0 (C 2 v0 v3) (I 1))]
abbrev e7_90 := GT (C 0 (C 2 v0 v3) (I 3)) e7_89
abbrev e7_91 := Q e7_85 YY e7_90
abbrev e7_92 := Q e7_81 YY e7_91
abbrev e7_93 := Q e7_79 YY e7_92
abbrev e7_94 := Q (SE v6 (.s w2)) (EQ (LN (C 2 v0 v3)) (I 1)) (.b false)
abbrev e7_95 := LO 702 [v0,v1,(C 2 v0 v3),v2,v3,(C 10 v5 v3),(LN (C 10 v5 v3)),(I 0),v4,v5,v6,v7,v8,v9]
abbrev e7_96 := PJ 0 e7_95
abbrev e7_97 := EQ e7_96 (I 1)
abbrev e7_98 := EQ e7_96 (I 2)
abbrev e7_99 := Q (LE (I 0) v7) (LT v7 (LN v5)) (.b false)
abbrev e7_100 := GT (C 0 v5 v7) (I 0)
abbrev e7_101 := Q e7_100 (LT (I 0) (LN v2)) YY
abbrev e7_102 := GT (.p (.neg .i64) [(C 0 v5 v7)]) (C 0 v2 (I 0))
abbrev e7_103 := Q e7_100 e7_102 (.b false)
abbrev e7_104 := Q (LE (I 0) v8) (LT v8 (LN v6)) (.b false)
abbrev e7_105 := GT (C 2 v6 v8) (I 0)
abbrev e7_106 := Q e7_105 (AD v3 (I 1)) v3
abbrev e7_107 : X := .p (.okr [.agg [(.int .i64),(.sl [.str,.str,(.int .i64),(.int .i64),(.int .i64),(.int .i64),.bool,.bool,.bool,(.sl [(.int .i64),(.int .i64),(.int .i64),.bool]),(.sl [(.int .i64)])])]]) [(K 43 [v4,v5])]
abbrev e7_108 := OB (K 15 [])
abbrev e7_109 := K 16 [v0,v1,v2,v3]
abbrev e7_110 := OB e7_109
abbrev e7_111 := Q (NO (K 15 [])) YY e7_110
abbrev e7_112 := NO e7_109
abbrev e7_113 := FL 0 (K 43 [v4,v5])
abbrev e7_114 := FL 1 (K 43 [v4,v5])
abbrev e7_115 := K 44 [e7_113,e7_114]
abbrev e7_116 := OB e7_115
abbrev e7_117 := Q e7_112 YY e7_116
abbrev e7_118 := Q (NO (K 15 [])) YY e7_117
abbrev e7_119 := NO e7_115
abbrev e7_120 := K 45 [v0,v1,v2,v3,e7_113,e7_114]
abbrev e7_121 := OI e7_120
abbrev e7_122 := Q e7_119 YY e7_121
abbrev e7_123 := Q e7_112 YY e7_122
abbrev e7_124 := Q (NO (K 15 [])) YY e7_123
abbrev e7_125 := NE e7_120 (I 0)
abbrev e7_126 := Q e7_119 YY e7_125
abbrev e7_127 := Q e7_112 YY e7_126
abbrev e7_128 := Q (NO (K 15 [])) YY e7_127
abbrev e7_129 := K 46 [v0,v1,v2,v3,v4,v5]
abbrev e7_130 : X := .p (.okr [.one (.sl [.str,.str,(.sl [(.int .i64)])]),.one (.int .i64)]) [e7_129]
abbrev e7_131 := Q e7_128 YY e7_130
abbrev e7_132 := PJ 1 e7_129
abbrev e7_133 := NE e7_132 (I 0)
abbrev e7_134 := NE e7_132 (I 24)
abbrev e7_135 := EQ e7_132 (I 0)
abbrev e7_136 := PJ 0 e7_129
abbrev e7_137 := LN e7_136
abbrev e7_138 := NE e7_137 (LN v5)
abbrev e7_139 := Q e7_135 e7_138 (.b false)
abbrev e7_140 := Q e7_134 YY e7_139
abbrev e7_141 := Q e7_133 e7_140 e7_139
abbrev e7_142 := LO 700 [e7_136,e7_132,(LN v5),(I 0),v4,v5,v0,v1,v2,v3]
abbrev e7_143 := PJ 0 e7_142
abbrev e7_144 := EQ e7_143 (I 1)
abbrev e7_145 := EQ e7_143 (I 2)
abbrev e7_146 := Q e7_144 YY e7_145
abbrev e7_147 := Q e7_141 YY e7_146
abbrev e7_148 := Q e7_128 YY e7_147
abbrev e7_149 := Q e7_144 (.b false) YY
abbrev e7_150 := Q e7_141 (.b false) e7_149
abbrev e7_151 := Q e7_128 (K 15 []) e7_150
def B700 : Te LEnd := .ite (LT v3 v2) (
 .need e7_0 (
 .need e7_2 (
 .need e7_10 (
 .ite e7_21 (
 .ok (.out 1 [])) (
 .ite e7_22 (
 .need e7_24 (
 .need e7_26 (
 .need e7_35 (
 .need e7_40 (
 .ite e7_43 (
 .ok (.out 1 [])) (
 .ite e7_45 (
 .ok (.again [v0,v1,v2,(AD v3 (I 1)),v4,v5,v6,v7,v8,v9])) (
 .need e7_46 (
 .ite e7_47 (
 .need e7_48 (
 .need e7_59 (
 .need e7_63 (
 .need e7_65 (
 .need e7_66 (
 .need e7_67 (
 .ite e7_73 (
 .ok (.out 1 [])) (
 .ok (.again [v0,v1,v2,(AD v3 (I 1)),v4,v5,v6,v7,v8,v9]))))))))) (
 .ite e7_74 (
 .need e7_77 (
 .need (LT (I 0) (LN (C 2 v0 v3))) (
 .need e7_80 (
 .need e7_83 (
 .need e7_88 (
 .ite e7_93 (
 .ok (.out 1 [])) (
 .ok (.again [v0,v1,v2,(AD v3 (I 1)),v4,v5,v6,v7,v8,v9])))))))) (
 .ite e7_94 (
 .ite e7_97 (
 .ok (.out 1 [])) (
 .need e7_98 (
 .ok (.again [v0,v1,v2,(AD v3 (I 1)),v4,v5,v6,v7,v8,v9])))) (
 .ok (.out 1 [])))))))))))) (
 .ite e7_45 (
 .ok (.again [v0,v1,v2,(AD v3 (I 1)),v4,v5,v6,v7,v8,v9])) (
 .need e7_46 (
 .ite e7_47 (
 .need e7_48 (
 .need e7_59 (
 .need e7_63 (
 .need e7_65 (
 .need e7_66 (
 .need e7_67 (
 .ite e7_73 (
 .ok (.out 1 [])) (
 .ok (.again [v0,v1,v2,(AD v3 (I 1)),v4,v5,v6,v7,v8,v9]))))))))) (
 .ite e7_74 (
 .need e7_77 (
 .need (LT (I 0) (LN (C 2 v0 v3))) (
 .need e7_80 (
 .need e7_83 (
 .need e7_88 (
 .ite e7_93 (
 .ok (.out 1 [])) (
 .ok (.again [v0,v1,v2,(AD v3 (I 1)),v4,v5,v6,v7,v8,v9])))))))) (
 .ite e7_94 (
 .ite e7_97 (
 .ok (.out 1 [])) (
 .need e7_98 (
 .ok (.again [v0,v1,v2,(AD v3 (I 1)),v4,v5,v6,v7,v8,v9])))) (
 .ok (.out 1 [])))))))))))) (
 .ok (.out 2 []))
def d700 : LoopD := ⟨8,⟨700,10,(J 2 ((.ptr 0 0 0) :: ((.ptr 1 0 0) :: (J 3 ((.sym (.sl [.str,.str,(.sl [(.int .i64)])]) v0) :: ((Si 1) :: (J 63 ((Si 2) :: ((Si 3) :: (J 218 [])))))))))),⟨⟨6,[(1,.cells 2 [[(Si 4),(S4 5)]]),(0,.cells 4 [[(Ss 6),(S1 7),(Si 8),(Si 9)]])],[[]],none⟩,[],[]⟩,
 [(.ret,0,(J 4 ((.bool false) :: (J 287 []))),⟨⟨7,[],[[]],none⟩,[],[]⟩),
  (.exit 0,0,(J 292 []),⟨⟨6,[],[[]],none⟩,[],[]⟩)],[(1,[]),(2,[])]⟩,B700⟩
@[simp] theorem d700_id : d700.L.id = 700 := rfl
@[simp] theorem d700_B : d700.B = B700 := rfl
def B702 : Te LEnd := .ite (LT v7 v6) (
 .need e7_99 (
 .need e7_101 (
 .ite e7_103 (
 .ok (.out 1 [])) (
 .ok (.again [v0,v1,v2,v3,v4,v5,v6,(AD v7 (I 1)),v8,v9,v10,v11,v12,v13]))))) (
 .ok (.out 2 [v0,v1,v3,v4,v8,v9,v10,v11,v12,v13]))
def d702 : LoopD := ⟨37,⟨702,14,(J 2 ((.ptr 0 0 0) :: ((.ptr 1 0 0) :: (J 3 ((.sym (.sl [.str,.str,(.sl [(.int .i64)])]) v0) :: ((Si 1) :: (J 9 ((S2 2) :: (J 53 ((Si 3) :: ((Si 4) :: (J 200 ((S2 5) :: ((Si 6) :: ((Si 7) :: (J 15 [])))))))))))))))),⟨⟨7,[(1,.cells 2 [[(Si 8),(S4 9)]]),(0,.cells 4 [[(Ss 10),(S1 11),(Si 12),(Si 13)]])],[[]],none⟩,[],[]⟩,
 [(.ret,0,(J 4 ((.bool false) :: (J 287 []))),⟨⟨7,[],[[]],none⟩,[],[]⟩),
  (.exit 5,10,(J 2 ((.ptr 0 0 0) :: ((.ptr 1 0 0) :: (J 3 ((.sym (.sl [.str,.str,(.sl [(.int .i64)])]) v0) :: ((Si 1) :: (J 63 ((Si 2) :: ((Si 3) :: (J 218 [])))))))))),⟨⟨7,[(1,.cells 2 [[(Si 4),(S4 5)]]),(0,.cells 4 [[(Ss 6),(S1 7),(Si 8),(Si 9)]])],[[]],none⟩,[],[]⟩)],[(1,[]),(2,[(0,0),(1,1),(2,3),(3,4),(4,8),(5,9),(6,10),(7,11),(8,12),(9,13)])]⟩,B702⟩
@[simp] theorem d702_id : d702.L.id = 702 := rfl
@[simp] theorem d702_B : d702.B = B702 := rfl
def B701 : Te LEnd := .ite (LT v8 v7) (
 .need e7_104 (
 .ok (.again [v0,v1,v2,e7_106,v4,v5,v6,v7,(AD v8 (I 1)),v9,v10,v11,v12,v13,v14]))) (
 .ok (.out 1 [v0,v1,v2,v3,v4,v5,v9,v10,v11,v12,v13,v14]))
def d701 : LoopD := ⟨28,⟨701,15,(J 2 ((.ptr 0 0 0) :: ((.ptr 1 0 0) :: (J 3 ((.sym (.sl [.str,.str,(.sl [(.int .i64)])]) v0) :: ((Si 1) :: (J 9 ((S2 2) :: ((Si 3) :: (J 52 ((Si 4) :: ((Si 5) :: (J 148 ((S3 6) :: ((Si 7) :: ((Si 8) :: (J 67 []))))))))))))))))),⟨⟨8,[(1,.cells 2 [[(Si 9),(S4 10)]]),(0,.cells 4 [[(Ss 11),(S1 12),(Si 13),(Si 14)]])],[[]],none⟩,[],[]⟩,
 [(.exit 3,12,(J 2 ((.ptr 0 0 0) :: ((.ptr 1 0 0) :: (J 3 ((.sym (.sl [.str,.str,(.sl [(.int .i64)])]) v0) :: ((Si 1) :: (J 9 ((S2 2) :: ((Si 3) :: (J 52 ((Si 4) :: ((Si 5) :: (J 218 []))))))))))))),⟨⟨8,[(1,.cells 2 [[(Si 6),(S4 7)]]),(0,.cells 4 [[(Ss 8),(S1 9),(Si 10),(Si 11)]])],[[]],none⟩,[],[]⟩)],[(1,[(0,0),(1,1),(2,2),(4,4),(5,5),(6,9),(7,10),(8,11),(9,12),(10,13),(11,14)])]⟩,B701⟩
@[simp] theorem d701_id : d701.L.id = 701 := rfl
@[simp] theorem d701_B : d701.B = B701 := rfl
def i7 : Inst := ⟨7, 0, [(.agg [(.sym .str (.v 0)), (.sym (.sl [.str]) (.v 1)), (.sym (.int .i64) (.v 2)), (.sym (.int .i64) (.v 3))]), (.agg [(.sym (.int .i64) (.v 4)), (.sym (.sl [.str, .str, (.int .i64), (.int .i64), (.int .i64), (.int .i64), .bool, .bool, .bool, (.sl [(.int .i64), (.int .i64), (.int .i64), .bool]), (.sl [(.int .i64)])]) (.v 5))])], [.one .bool]⟩
def s7 : List Cal := [c43, c15, c16, c44, c45, c46, c40, c47, c48, c49, c51, c50]
@[simp] theorem o7_43 : OE s7 43 0 F43 := oG rfl
@[simp] theorem o7_15 : OE s7 15 0 F15 := oG rfl
@[simp] theorem o7_16 : OE s7 16 0 F16 := oG rfl
@[simp] theorem o7_44 : OE s7 44 0 F44 := oG rfl
@[simp] theorem o7_45 : OE s7 45 0 F45 := oG rfl
@[simp] theorem o7_46 : OE s7 46 0 F46 := oG rfl
@[simp] theorem o7_40 : OE s7 40 0 F40 := oG rfl
@[simp] theorem o7_47 : OE s7 47 0 F47 := oG rfl
@[simp] theorem o7_48 : OE s7 48 0 F48 := oG rfl
@[simp] theorem o7_49 : OE s7 49 0 F49 := oG rfl
@[simp] theorem o7_51 : OE s7 51 0 F51 := oG rfl
@[simp] theorem o7_50 : OE s7 50 0 F50 := oG rfl
@[simp] def l7 : List LoopD := [d700, d702, d701]
def t7 : Te AV := .need e7_107 (
 .need e7_108 (
 .need e7_111 (
 .need e7_118 (
 .need e7_124 (
 .need e7_131 (
 .need e7_148 (
 .ok (.sym .bool e7_151))))))))
def F7 : List AV → Option AV := unitF (omL KK s7 l7) t7
def c7 : Cal := ⟨i7, F7⟩
theorem x7 : XO i7 F7 := XV s7 l7 t7 g7 ⟨x43, x15, x16, x44, x45, x46, x40, x47, x48, x49, x51, x50, trivial⟩ (by kernel_rfl) (by kernel_rfl) (by kernel_rfl)
end Go.Proofs.YtdeaibcebeofiaaGreatDoor.C5
