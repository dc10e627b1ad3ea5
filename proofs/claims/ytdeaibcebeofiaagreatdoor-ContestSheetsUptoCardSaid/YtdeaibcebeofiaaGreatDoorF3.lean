/-
  Functions, as trees.
-/
import Derived.Test.YtdeaibcebeofiaaGreatDoorF2
import Derived.Test.YtdeaibcebeofiaaGreatDoorRowsB
set_option linter.unusedVariables false
set_option linter.unusedSimpArgs false
set_option linter.unusedSectionVars false
namespace Go.Proofs.YtdeaibcebeofiaaGreatDoor.C5
open Go Go.Proofs.YtdeaibcebeofiaaGreatDoor.AM Go.Proofs
set_option maxRecDepth 100000
abbrev e223_0 := Q (GT v0 (I 0)) YY (LT (LN v2) v1)
abbrev e223_1 := NE (I 10) (I 0)
abbrev e223_2 := LE (I 0) (RM v0 (I 10))
abbrev e223_3 := AD (RM v0 (I 10)) (I 1)
abbrev e223_4 := LE (RM v0 (I 10)) e223_3
abbrev e223_5 := LE e223_3 (LN (.s w20))
abbrev e223_6 : X := .p .sslice [(.s w20),(RM v0 (I 10)),e223_3]
abbrev e223_7 := CO e223_6 v2
abbrev e223_8 := SA e223_6 v2
abbrev e223_9 := LO 22300 [v0,v1,(.s w3)]
abbrev e223_10 := PJ 0 e223_9
abbrev e223_11 := EQ e223_10 (I 1)
abbrev e223_12 := PJ 1 e223_9
def B22300 : Te LEnd := .ite e223_0 (
 .need e223_1 (
 .need e223_2 (
 .need e223_4 (
 .need e223_5 (
 .need e223_7 (
 .ok (.again [(QU v0 (I 10)),v1,e223_8]))))))) (
 .ok (.out 1 [v2]))
def d22300 : LoopD := ⟨2,⟨22300,3,((Si 0) :: ((Si 1) :: (J 3 ((Ss 2) :: (J 19 []))))),⟨⟨0,[],[[]],none⟩,[],[]⟩,
 [(.exit 0,1,(J 5 ((Ss 0) :: (J 19 []))),⟨⟨0,[],[[]],none⟩,[],[]⟩)],[(1,[])]⟩,B22300⟩
@[simp] theorem d22300_id : d22300.L.id = 22300 := rfl
@[simp] theorem d22300_B : d22300.B = B22300 := rfl
def i223 : Inst := ⟨223, 0, [(Si 0), (Si 1)], [.one .str]⟩
def s223 : List Cal := []
@[simp] def l223 : List LoopD := [d22300]
def t223 : Te AV := .need e223_11 (
 .ok (.sym .str e223_12))
def F223 : List AV → Option AV := unitF (omL KK s223 l223) t223
def c223 : Cal := ⟨i223, F223⟩
theorem x223 : XO i223 F223 := XV s223 l223 t223 g223 trivial (by kernel_rfl) (by kernel_rfl) (by kernel_rfl)
abbrev e180_0 := OS (K 223 [v0,v1])
def i180 : Inst := ⟨180, 0, [(Si 0), (Si 1)], [.one .str]⟩
def s180 : List Cal := [c223]
@[simp] theorem o180_223 : OE s180 223 0 F223 := oG rfl
@[simp] def l180 : List LoopD := []
def t180 : Te AV := .need e180_0 (
 .ok (.sym .str (K 223 [v0,v1])))
def F180 : List AV → Option AV := unitF (omL KK s180 l180) t180
def c180 : Cal := ⟨i180, F180⟩
theorem x180 : XO i180 F180 := XV s180 l180 t180 g180 ⟨x223, trivial⟩ (by kernel_rfl) (by kernel_rfl) (by kernel_rfl)
abbrev e222_0 := OS (K 180 [v1,(I 1)])
abbrev e222_1 := Q (EQ v1 (I 0)) YY e222_0
abbrev e222_2 := CO v0 (K 180 [v1,(I 1)])
abbrev e222_3 := Q (EQ v1 (I 0)) YY e222_2
abbrev e222_4 := SA v0 (K 180 [v1,(I 1)])
abbrev e222_5 := Q (EQ v1 (I 0)) (.s w11) e222_4
def i222 : Inst := ⟨222, 0, [(Ss 0), (Si 1)], [.one .str]⟩
def s222 : List Cal := [c180]
@[simp] theorem o222_180 : OE s222 180 0 F180 := oG rfl
@[simp] def l222 : List LoopD := []
def t222 : Te AV := .need e222_1 (
 .need e222_3 (
 .ok (.sym .str e222_5)))
def F222 : List AV → Option AV := unitF (omL KK s222 l222) t222
def c222 : Cal := ⟨i222, F222⟩
theorem x222 : XO i222 F222 := XV s222 l222 t222 g222 ⟨x180, trivial⟩ (by kernel_rfl) (by kernel_rfl) (by kernel_rfl)
abbrev e179_0 := OS (K 222 [(.s w14),v3])
abbrev e179_1 := Q (SE v0 (.s w1)) e179_0 YY
abbrev e179_2 := CO (K 222 [(.s w14),v3]) (.s w15)
abbrev e179_3 := Q (SE v0 (.s w1)) e179_2 YY
abbrev e179_4 := OS (K 222 [(.s w16),v4])
abbrev e179_5 := Q (SE v0 (.s w1)) e179_4 YY
abbrev e179_6 := SA (K 222 [(.s w14),v3]) (.s w15)
abbrev e179_7 := CO e179_6 (K 222 [(.s w16),v4])
abbrev e179_8 := Q (SE v0 (.s w1)) e179_7 YY
abbrev e179_9 := OS (K 180 [v1,(I 1)])
abbrev e179_10 := Q v2 e179_9 YY
abbrev e179_11 := Q (EQ v3 (I 1)) YY e179_10
abbrev e179_12 := Q (SE v0 (.s w1)) YY e179_11
abbrev e179_13 := CO (K 180 [v1,(I 1)]) (.s w12)
abbrev e179_14 := Q v2 e179_13 YY
abbrev e179_15 := Q (EQ v3 (I 1)) YY e179_14
abbrev e179_16 := Q (SE v0 (.s w1)) YY e179_15
abbrev e179_17 := Q v2 YY e179_9
abbrev e179_18 := Q (EQ v3 (I 1)) YY e179_17
abbrev e179_19 := Q (SE v0 (.s w1)) YY e179_18
abbrev e179_20 := SA e179_6 (K 222 [(.s w16),v4])
abbrev e179_21 := SA (K 180 [v1,(I 1)]) (.s w12)
abbrev e179_22 := Q v2 e179_21 (K 180 [v1,(I 1)])
abbrev e179_23 := Q (EQ v3 (I 1)) (.s w13) e179_22
abbrev e179_24 := Q (SE v0 (.s w1)) e179_20 e179_23
def i179 : Inst := ⟨179, 0, [(.agg [(Ss 0), (Si 1), (Sb 2), (Si 3), (Si 4)])], [.one .str]⟩
def s179 : List Cal := [c222, c180]
@[simp] theorem o179_222 : OE s179 222 0 F222 := oG rfl
@[simp] theorem o179_180 : OE s179 180 0 F180 := oG rfl
@[simp] def l179 : List LoopD := []
def t179 : Te AV := .need e179_1 (
 .need e179_3 (
 .need e179_5 (
 .need e179_8 (
 .need e179_12 (
 .need e179_16 (
 .need e179_19 (
 .ok (.sym .str e179_24))))))))
def F179 : List AV → Option AV := unitF (omL KK s179 l179) t179
def c179 : Cal := ⟨i179, F179⟩
theorem x179 : XO i179 F179 := XV s179 l179 t179 g179 ⟨x222, x180, trivial⟩ (by kernel_rfl) (by kernel_rfl) (by kernel_rfl)
abbrev e124_0 := Q (LE (I 0) v2) (LT v2 (LN v0)) (.b false)
abbrev e124_1 := K 179 [(C 0 v0 v2),(C 1 v0 v2),(C 2 v0 v2),(C 3 v0 v2),(C 4 v0 v2)]
abbrev e124_2 := OS e124_1
abbrev e124_3 := CO (SA v1 (.s w19)) e124_1
abbrev e124_4 := SA (SA v1 (.s w19)) e124_1
abbrev e124_5 := K 179 [(C 0 v0 (I 0)),(C 1 v0 (I 0)),(C 2 v0 (I 0)),(C 3 v0 (I 0)),(C 4 v0 (I 0))]
abbrev e124_6 := OS e124_5
abbrev e124_7 := LO 12400 [v0,e124_5,(I 1)]
abbrev e124_8 := PJ 0 e124_7
abbrev e124_9 := EQ e124_8 (I 1)
abbrev e124_10 := PJ 1 e124_7
def B12400 : Te LEnd := .ite (LT v2 (LN v0)) (
 .need (CO v1 (.s w19)) (
 .need e124_0 (
 .need e124_2 (
 .need e124_3 (
 .ok (.again [v0,e124_4,(AD v2 (I 1))])))))) (
 .ok (.out 1 [v1]))
def d12400 : LoopD := ⟨3,⟨12400,3,((.sym (.sl [.str,(.int .i64),.bool,(.int .i64),(.int .i64)]) v0) :: (J 2 ((Ss 1) :: ((Si 2) :: (J 19 []))))),⟨⟨0,[],[[]],none⟩,[],[]⟩,
 [(.exit 0,1,(J 3 ((Ss 0) :: (J 20 []))),⟨⟨0,[],[[]],none⟩,[],[]⟩)],[(1,[])]⟩,B12400⟩
@[simp] theorem d12400_id : d12400.L.id = 12400 := rfl
@[simp] theorem d12400_B : d12400.B = B12400 := rfl
def i124 : Inst := ⟨124, 0, [(.sym (.sl [.str, (.int .i64), .bool, (.int .i64), (.int .i64)]) (.v 0))], [.one .str]⟩
def s124 : List Cal := [c179]
@[simp] theorem o124_179 : OE s124 179 0 F179 := oG rfl
@[simp] def l124 : List LoopD := [d12400]
def t124 : Te AV := .need (LT (I 0) (LN v0)) (
 .need e124_6 (
 .need e124_9 (
 .ok (.sym .str e124_10))))
def F124 : List AV → Option AV := unitF (omL KK s124 l124) t124
def c124 : Cal := ⟨i124, F124⟩
theorem x124 : XO i124 F124 := XV s124 l124 t124 g124 ⟨x179, trivial⟩ (by kernel_rfl) (by kernel_rfl) (by kernel_rfl)
abbrev e126_0 := NE (I 1000) (I 0)
abbrev e126_1 := RM v0 (I 1000)
abbrev e126_2 := K 180 [e126_1,(I 3)]
abbrev e126_3 := OS e126_2
abbrev e126_4 := CO (.s w17) e126_2
abbrev e126_5 := QU v0 (I 1000)
abbrev e126_6 := LT e126_5 (I 60)
abbrev e126_7 := K 180 [e126_5,(I 1)]
abbrev e126_8 := OS e126_7
abbrev e126_9 := Q e126_6 e126_8 YY
abbrev e126_10 := SA (.s w17) e126_2
abbrev e126_11 := CO e126_7 e126_10
abbrev e126_12 := Q e126_6 e126_11 YY
abbrev e126_13 := LT e126_5 (I 3600)
abbrev e126_14 := NE (I 60) (I 0)
abbrev e126_15 := Q e126_13 e126_14 YY
abbrev e126_16 := Q e126_6 YY e126_15
abbrev e126_17 := QU e126_5 (I 60)
abbrev e126_18 := K 180 [e126_17,(I 1)]
abbrev e126_19 := OS e126_18
abbrev e126_20 := Q e126_13 e126_19 YY
abbrev e126_21 := Q e126_6 YY e126_20
abbrev e126_22 := CO e126_18 (.s w18)
abbrev e126_23 := Q e126_13 e126_22 YY
abbrev e126_24 := Q e126_6 YY e126_23
abbrev e126_25 := RM e126_5 (I 60)
abbrev e126_26 := K 180 [e126_25,(I 2)]
abbrev e126_27 := OS e126_26
abbrev e126_28 := Q e126_13 e126_27 YY
abbrev e126_29 := Q e126_6 YY e126_28
abbrev e126_30 := SA e126_18 (.s w18)
abbrev e126_31 := CO e126_30 e126_26
abbrev e126_32 := Q e126_13 e126_31 YY
abbrev e126_33 := Q e126_6 YY e126_32
abbrev e126_34 := SA e126_30 e126_26
abbrev e126_35 := CO e126_34 e126_10
abbrev e126_36 := Q e126_13 e126_35 YY
abbrev e126_37 := Q e126_6 YY e126_36
abbrev e126_38 := NE (I 3600) (I 0)
abbrev e126_39 := Q e126_13 YY e126_38
abbrev e126_40 := Q e126_6 YY e126_39
abbrev e126_41 := QU e126_5 (I 3600)
abbrev e126_42 := K 180 [e126_41,(I 1)]
abbrev e126_43 := OS e126_42
abbrev e126_44 := Q e126_13 YY e126_43
abbrev e126_45 := Q e126_6 YY e126_44
abbrev e126_46 := CO e126_42 (.s w18)
abbrev e126_47 := Q e126_13 YY e126_46
abbrev e126_48 := Q e126_6 YY e126_47
abbrev e126_49 := Q e126_13 YY e126_14
abbrev e126_50 := Q e126_6 YY e126_49
abbrev e126_51 := RM e126_17 (I 60)
abbrev e126_52 := K 180 [e126_51,(I 2)]
abbrev e126_53 := OS e126_52
abbrev e126_54 := Q e126_13 YY e126_53
abbrev e126_55 := Q e126_6 YY e126_54
abbrev e126_56 := SA e126_42 (.s w18)
abbrev e126_57 := CO e126_56 e126_52
abbrev e126_58 := Q e126_13 YY e126_57
abbrev e126_59 := Q e126_6 YY e126_58
abbrev e126_60 := SA e126_56 e126_52
abbrev e126_61 := CO e126_60 (.s w18)
abbrev e126_62 := Q e126_13 YY e126_61
abbrev e126_63 := Q e126_6 YY e126_62
abbrev e126_64 := Q e126_13 YY e126_27
abbrev e126_65 := Q e126_6 YY e126_64
abbrev e126_66 := SA e126_60 (.s w18)
abbrev e126_67 := CO e126_66 e126_26
abbrev e126_68 := Q e126_13 YY e126_67
abbrev e126_69 := Q e126_6 YY e126_68
abbrev e126_70 := SA e126_66 e126_26
abbrev e126_71 := CO e126_70 e126_10
abbrev e126_72 := Q e126_13 YY e126_71
abbrev e126_73 := Q e126_6 YY e126_72
abbrev e126_74 := SA e126_7 e126_10
abbrev e126_75 := SA e126_34 e126_10
abbrev e126_76 := SA e126_70 e126_10
abbrev e126_77 := Q e126_13 e126_75 e126_76
abbrev e126_78 := Q e126_6 e126_74 e126_77
def i126 : Inst := ⟨126, 0, [(Si 0)], [.one .str]⟩
def s126 : List Cal := [c180]
@[simp] theorem o126_180 : OE s126 180 0 F180 := oG rfl
@[simp] def l126 : List LoopD := []
def t126 : Te AV := .need e126_0 (
 .need e126_3 (
 .need e126_4 (
 .need e126_9 (
 .need e126_12 (
 .need e126_16 (
 .need e126_21 (
 .need e126_24 (
 .need e126_29 (
 .need e126_33 (
 .need e126_37 (
 .need e126_40 (
 .need e126_45 (
 .need e126_48 (
 .need e126_50 (
 .need e126_55 (
 .need e126_59 (
 .need e126_63 (
 .need e126_65 (
 .need e126_69 (
 .need e126_73 (
 .ok (.sym .str e126_78))))))))))))))))))))))
def F126 : List AV → Option AV := unitF (omL KK s126 l126) t126
def c126 : Cal := ⟨i126, F126⟩
theorem x126 : XO i126 F126 := XV s126 l126 t126 g126 ⟨x180, trivial⟩ (by kernel_rfl) (by kernel_rfl) (by kernel_rfl)
abbrev e123_0 := Q (LE (I 0) v0) (LT v0 (LN v14)) (.b false)
abbrev e123_1 := GT (C 2 v14 v0) (I 0)
abbrev e123_2 := Q e123_1 (AD v1 (I 1)) v1
abbrev e123_3 := GT (C 1 v14 v0) (I 0)
abbrev e123_4 := Q e123_3 (AD v2 (I 1)) v2
abbrev e123_5 := AD (MU (I 2) v2) (I 2)
abbrev e123_6 := AD (MU (I 2) v9) (I 1)
abbrev e123_7 := Q v10 e123_6 (MU (I 2) v9)
abbrev e123_8 := Q v11 e123_5 e123_7
abbrev e123_9 := K 127 [v4,v5,v6,v7,v8,v9,v10,v11,v12,v13,v14]
abbrev e123_10 := OI e123_9
abbrev e123_11 := SB (I 0) e123_9
abbrev e123_12 := LO 12300 [(I 0),(I 0),(I 0),(I 0),(I 0),v4,v5,v6,v7,v8,v9,v10,v11,v12,v13,v14]
abbrev e123_13 := PJ 0 e123_12
abbrev e123_14 := EQ e123_13 (I 1)
abbrev e123_15 := PJ 1 e123_12
abbrev e123_16 := PJ 2 e123_12
abbrev e123_17 := PJ 3 e123_12
abbrev e123_18 := PJ 4 e123_12
def B12300 : Te LEnd := .ite (LT v0 (LN v14)) (
 .need e123_0 (
 .ok (.again [(AD v0 (I 1)),e123_2,e123_4,(SB v3 (C 2 v14 v0)),(SB v4 (C 1 v14 v0)),v5,v6,v7,v8,v9,v10,v11,v12,v13,v14,v15]))) (
 .ok (.out 1 [v1,v2,v3,v4]))
def d12300 : LoopD := ⟨13,⟨12300,16,(J 3 ((.ptr 1 0 0) :: (J 2 ((.ms 2 0 4) :: ((Si 0) :: (J 75 [])))))),⟨⟨4,[(2,.cells 1 [[(Si 1)],[(Si 2)],[(Si 3)],[(Si 4)]]),(1,.cells 11 [[(Ss 5),(Ss 6),(Si 7),(Si 8),(Si 9),(Si 10),(Sb 11),(Sb 12),(Sb 13),(S3 14),(S2 15)]])],[[]],none⟩,[],[]⟩,
 [(.exit 1,4,(J 6 ((.ms 2 0 4) :: (J 76 []))),⟨⟨4,[(2,.cells 1 [[(Si 0)],[(Si 1)],[(Si 2)],[(Si 3)]])],[[]],none⟩,[],[]⟩)],[(1,[])]⟩,B12300⟩
@[simp] theorem d12300_id : d12300.L.id = 12300 := rfl
@[simp] theorem d12300_B : d12300.B = B12300 := rfl
def i123 : Inst := ⟨123, 0, [(.agg [(Ss 0), (S1 1), (Si 2), (Si 3)]), (.agg [(Ss 4), (Ss 5), (Si 6), (Si 7), (Si 8), (Si 9), (Sb 10), (Sb 11), (Sb 12), (S3 13), (S2 14)])], [.one (.sl [(.int .i64)])]⟩
def s123 : List Cal := [c127]
@[simp] theorem o123_127 : OE s123 127 0 F127 := oG rfl
@[simp] def l123 : List LoopD := [d12300]
def t123 : Te AV := .ite (SE v0 (.s w0)) (
 .ok (.sl 1 [[(.sym (.int .i64) e123_8)],[(.sym (.int .i64) (SB (I 0) v8))]])) (
 .ite (SE v0 (.s w2)) (
 .need e123_10 (
 .ok (.sl 1 [[(.sym (.int .i64) e123_11)]]))) (
 .need e123_14 (
 .ok (.sl 1 [[(.sym (.int .i64) e123_15)],[(.sym (.int .i64) e123_16)],[(.sym (.int .i64) e123_17)],[(.sym (.int .i64) e123_18)]]))))
def F123 : List AV → Option AV := unitF (omL KK s123 l123) t123
def c123 : Cal := ⟨i123, F123⟩
theorem x123 : XO i123 F123 := XV s123 l123 t123 g123 ⟨x127, trivial⟩ (by kernel_rfl) (by kernel_rfl) (by kernel_rfl)
abbrev e67_0 := Q (LE (I 0) v1) (LT v1 (LN v3)) (.b false)
abbrev e67_1 := SN (C 0 v3 v1) (.s w6)
abbrev e67_2 := Q (LE (I 0) v1) (LT v1 (LN v5)) (.b false)
abbrev e67_3 := SE (C 1 v3 v1) (.s w3)
abbrev e67_4 := K 123 [v4,v5,v6,v7,(C 0 v3 v1),(C 1 v3 v1),(C 2 v3 v1),(C 3 v3 v1),(C 4 v3 v1),(C 5 v3 v1),(C 6 v3 v1),(C 7 v3 v1),(C 8 v3 v1),(C 9 v3 v1),(C 10 v3 v1)]
abbrev e67_5 : X := .p (.okr [.one (.sl [(.int .i64)])]) [e67_4]
abbrev e67_6 := Q e67_3 e67_5 YY
abbrev e67_7 := Q e67_3 e67_4 .nils
abbrev e67_8 : X := .sl 3 [[(C 0 v5 v1),(C 1 v3 v1),e67_7]]
abbrev e67_9 : X := .p (.app 3) [v0,e67_8]
abbrev e67_10 := LN e67_9
abbrev e67_11 := LE e67_10 (I 1073741824)
abbrev e67_12 := LO 6700 [.nils,(I 0),v4,v5,v0,v1,v2,v3]
abbrev e67_13 := PJ 0 e67_12
abbrev e67_14 := EQ e67_13 (I 1)
abbrev e67_15 := EQ e67_13 (I 2)
abbrev e67_16 := Q e67_14 YY e67_15
abbrev e67_17 := PJ 1 e67_12
abbrev e67_18 := Q e67_14 .nils e67_17
abbrev e67_19 := Q e67_14 (.b false) YY
def B6700 : Te LEnd := .ite (LT v1 (LN v3)) (
 .need e67_0 (
 .ite e67_1 (
 .ok (.out 1 [])) (
 .need e67_2 (
 .need e67_6 (
 .need e67_11 (
 .ok (.again [e67_9,(AD v1 (I 1)),v2,v3,v4,v5,v6,v7]))))))) (
 .ok (.out 2 [v0]))
def d6700 : LoopD := ⟨3,⟨6700,8,(J 2 ((.ptr 0 0 0) :: ((.ptr 1 0 0) :: (J 2 ((.sym (.own 2 [.str,.str,(.sl [(.int .i64)])]) v0) :: ((Si 1) :: (J 37 []))))))),⟨⟨6,[(1,.cells 2 [[(Si 2),(S4 3)]]),(0,.cells 4 [[(Ss 4),(S1 5),(Si 6),(Si 7)]])],[[]],none⟩,[(2,.rows [.str,.str,(.sl [(.int .i64)])] v0)],[]⟩,
 [(.ret,0,(J 4 (.nils :: ((.bool false) :: (J 39 [])))),⟨⟨7,[],[[]],none⟩,[],[]⟩),
  (.exit 0,1,(J 6 ((.sym (.own 2 [.str,.str,(.sl [(.int .i64)])]) v0) :: (J 38 []))),⟨⟨6,[],[[]],none⟩,[(2,.rows [.str,.str,(.sl [(.int .i64)])] v0)],[]⟩)],[(1,[]),(2,[])]⟩,B6700⟩
@[simp] theorem d6700_id : d6700.L.id = 6700 := rfl
@[simp] theorem d6700_B : d6700.B = B6700 := rfl
def i67 : Inst := ⟨67, 0, [(.agg [(Ss 0), (S1 1), (Si 2), (Si 3)]), (.agg [(Si 4), (S4 5)])], [.one (.sl [.str, .str, (.sl [(.int .i64)])]), .one .bool]⟩
def s67 : List Cal := [c123]
@[simp] theorem o67_123 : OE s67 123 0 F123 := oG rfl
@[simp] def l67 : List LoopD := [d6700]
def t67 : Te AV := .need e67_16 (
 .ok (.tuple [(.sym (.sl [.str,.str,(.sl [(.int .i64)])]) e67_18),(.sym .bool e67_19)]))
def F67 : List AV → Option AV := unitF (omL KK s67 l67) t67
def c67 : Cal := ⟨i67, F67⟩
theorem x67 : XO i67 F67 := XV s67 l67 t67 g67 ⟨x123, trivial⟩ (by kernel_rfl) (by kernel_rfl) (by kernel_rfl)
abbrev e68_0 := Q (LE (I 0) v2) (LT v2 (LN v0)) (.b false)
abbrev e68_1 := Q (LE (I 0) v2) (LT v2 (LN v1)) (.b false)
abbrev e68_2 := SN (C 0 v0 v2) (C 0 v1 v2)
abbrev e68_3 := SN (C 1 v0 v2) (C 1 v1 v2)
abbrev e68_4 := K 75 [(C 2 v0 v2),(C 2 v1 v2)]
abbrev e68_5 := OB e68_4
abbrev e68_6 := Q e68_3 YY e68_5
abbrev e68_7 := Q e68_2 YY e68_6
abbrev e68_8 := NO e68_4
abbrev e68_9 := Q e68_3 YY e68_8
abbrev e68_10 := Q e68_2 YY e68_9
abbrev e68_11 := NE (LN v0) (LN v1)
abbrev e68_12 := LO 6800 [v0,v1,(I 0)]
abbrev e68_13 := PJ 0 e68_12
abbrev e68_14 := EQ e68_13 (I 1)
abbrev e68_15 := EQ e68_13 (I 2)
abbrev e68_16 := Q e68_14 YY e68_15
abbrev e68_17 := Q e68_11 YY e68_16
abbrev e68_18 := Q e68_14 (.b false) YY
abbrev e68_19 := Q e68_11 (.b false) e68_18
def B6800 : Te LEnd := .ite (LT v2 (LN v0)) (
 .need e68_0 (
 .need e68_1 (
 .need e68_7 (
 .ite e68_10 (
 .ok (.out 1 [])) (
 .ok (.again [v0,v1,(AD v2 (I 1))])))))) (
 .ok (.out 2 []))
def d6800 : LoopD := ⟨4,⟨6800,3,((.sym (.sl [.str,.str,(.sl [(.int .i64)])]) v0) :: ((.sym (.sl [.str,.str,(.sl [(.int .i64)])]) v1) :: (J 3 ((Si 2) :: (J 49 []))))),⟨⟨0,[],[[]],none⟩,[],[]⟩,
 [(.ret,0,(J 4 ((.bool false) :: (J 50 []))),⟨⟨0,[],[[]],none⟩,[],[]⟩),
  (.exit 0,0,(J 55 []),⟨⟨0,[],[[]],none⟩,[],[]⟩)],[(1,[]),(2,[])]⟩,B6800⟩
@[simp] theorem d6800_id : d6800.L.id = 6800 := rfl
@[simp] theorem d6800_B : d6800.B = B6800 := rfl
def i68 : Inst := ⟨68, 0, [(.sym (.sl [.str, .str, (.sl [(.int .i64)])]) (.v 0)), (.sym (.sl [.str, .str, (.sl [(.int .i64)])]) (.v 1))], [.one .bool]⟩
def s68 : List Cal := [c75]
@[simp] theorem o68_75 : OE s68 75 0 F75 := oG rfl
@[simp] def l68 : List LoopD := [d6800]
def t68 : Te AV := .need e68_17 (
 .ok (.sym .bool e68_19))
def F68 : List AV → Option AV := unitF (omL KK s68 l68) t68
def c68 : Cal := ⟨i68, F68⟩
theorem x68 : XO i68 F68 := XV s68 l68 t68 g68 ⟨x75, trivial⟩ (by kernel_rfl) (by kernel_rfl) (by kernel_rfl)
abbrev e69_0 := Q (LE (I 0) v1) (LT v1 (LN v3)) (.b false)
abbrev e69_1 := SN (C 0 v3 v1) (.s w6)
abbrev e69_2 : X := .p (.app 1) [v0,(.sl 1 [[v1]])]
abbrev e69_3 := LN e69_2
abbrev e69_4 := LE e69_3 (I 1073741824)
abbrev e69_5 := LO 6900 [.nils,(I 0),v0,v1]
abbrev e69_6 := PJ 0 e69_5
abbrev e69_7 := EQ e69_6 (I 1)
abbrev e69_8 := PJ 1 e69_5
def B6900 : Te LEnd := .ite (LT v1 (LN v3)) (
 .need e69_0 (
 .ite e69_1 (
 .need e69_4 (
 .ok (.again [e69_2,(AD v1 (I 1)),v2,v3]))) (
 .ok (.again [v0,(AD v1 (I 1)),v2,v3])))) (
 .ok (.out 1 [v0]))
def d6900 : LoopD := ⟨3,⟨6900,4,(J 1 ((.ptr 0 0 0) :: (J 1 ((.sym (.own 1 [(.int .i64)]) v0) :: ((Si 1) :: (J 19 [])))))),⟨⟨3,[(0,.cells 2 [[(Si 2),(S4 3)]])],[[]],none⟩,[(1,.rows [(.int .i64)] v0)],[]⟩,
 [(.exit 0,1,(J 3 ((.sym (.own 1 [(.int .i64)]) v0) :: (J 20 []))),⟨⟨3,[],[[]],none⟩,[(1,.rows [(.int .i64)] v0)],[]⟩)],[(1,[])]⟩,B6900⟩
@[simp] theorem d6900_id : d6900.L.id = 6900 := rfl
@[simp] theorem d6900_B : d6900.B = B6900 := rfl
def i69 : Inst := ⟨69, 0, [(.agg [(Si 0), (S4 1)])], [.one (.sl [(.int .i64)])]⟩
def s69 : List Cal := []
@[simp] def l69 : List LoopD := [d6900]
def t69 : Te AV := .need e69_7 (
 .ok (.sym (.sl [(.int .i64)]) e69_8))
def F69 : List AV → Option AV := unitF (omL KK s69 l69) t69
def c69 : Cal := ⟨i69, F69⟩
theorem x69 : XO i69 F69 := XV s69 l69 t69 g69 trivial (by kernel_rfl) (by kernel_rfl) (by kernel_rfl)
abbrev e71_0 := Q (LE (I 0) v1) (LT v1 (LN v11)) (.b false)
abbrev e71_1 : X := .sl 5 [[(.s w1),(I 0),(.b false),(C 2 v11 v1),(C 1 v11 v1)]]
abbrev e71_2 : X := .p (.app 5) [v0,e71_1]
abbrev e71_3 := LN e71_2
abbrev e71_4 := LE e71_3 (I 1073741824)
abbrev e71_5 := LO 7100 [.nils,(I 0),v4,v5,v6,v7,v8,v9,v10,v11,v12,v13,v14]
abbrev e71_6 := PJ 0 e71_5
abbrev e71_7 := EQ e71_6 (I 1)
abbrev e71_8 := PJ 1 e71_5
def B7100 : Te LEnd := .ite (LT v1 (LN v11)) (
 .need e71_0 (
 .need e71_4 (
 .ok (.again [e71_2,(AD v1 (I 1)),v2,v3,v4,v5,v6,v7,v8,v9,v10,v11,v12])))) (
 .ok (.out 1 [v0]))
def d7100 : LoopD := ⟨7,⟨7100,13,(J 3 ((.ptr 1 0 0) :: (J 1 ((.sym (.own 2 [.str,(.int .i64),.bool,(.int .i64),(.int .i64)]) v0) :: ((Si 1) :: (J 37 [])))))),⟨⟨4,[(1,.cells 11 [[(Ss 2),(Ss 3),(Si 4),(Si 5),(Si 6),(Si 7),(Sb 8),(Sb 9),(Sb 10),(S3 11),(S2 12)]])],[[]],none⟩,[(2,.rows [.str,(.int .i64),.bool,(.int .i64),(.int .i64)] v0)],[]⟩,
 [(.exit 0,1,(J 5 ((.sym (.own 2 [.str,(.int .i64),.bool,(.int .i64),(.int .i64)]) v0) :: (J 38 []))),⟨⟨4,[],[[]],none⟩,[(2,.rows [.str,(.int .i64),.bool,(.int .i64),(.int .i64)] v0)],[]⟩)],[(1,[])]⟩,B7100⟩
@[simp] theorem d7100_id : d7100.L.id = 7100 := rfl
@[simp] theorem d7100_B : d7100.B = B7100 := rfl
def i71 : Inst := ⟨71, 0, [(.agg [(Ss 0), (S1 1), (Si 2), (Si 3)]), (.agg [(Ss 4), (Ss 5), (Si 6), (Si 7), (Si 8), (Si 9), (Sb 10), (Sb 11), (Sb 12), (S3 13), (S2 14)])], [.one (.sl [.str, (.int .i64), .bool, (.int .i64), (.int .i64)])]⟩
def s71 : List Cal := []
@[simp] def l71 : List LoopD := [d7100]
def t71 : Te AV := .ite (SE v0 (.s w0)) (
 .ite v11 (
 .ok (.sl 5 [[(.str w0),(.int .i64 (0)),(.bool false),(.int .i64 (1)),(.int .i64 (0))]])) (
 .ok (.sl 5 [[(.str w0),(.sym (.int .i64) v9),(.sym .bool v10),(.int .i64 (0)),(.int .i64 (0))]]))) (
 .need e71_7 (
 .ok (.sym (.sl [.str,(.int .i64),.bool,(.int .i64),(.int .i64)]) e71_8)))
def F71 : List AV → Option AV := unitF (omL KK s71 l71) t71
def c71 : Cal := ⟨i71, F71⟩
theorem x71 : XO i71 F71 := XV s71 l71 t71 g71 trivial (by kernel_rfl) (by kernel_rfl) (by kernel_rfl)
abbrev e70_0 := Q (SN v5 (.s w3)) (CO v5 (.s w15)) YY
abbrev e70_1 := K 71 [v0,v1,v2,v3,v4,v5,v6,v7,v8,v9,v10,v11,v12,v13,v14]
abbrev e70_2 : X := .p (.okr [.one (.sl [.str,(.int .i64),.bool,(.int .i64),(.int .i64)])]) [e70_1]
abbrev e70_3 := Q (SN v0 (.s w2)) e70_2 YY
abbrev e70_4 := K 124 [e70_1]
abbrev e70_5 := OS e70_4
abbrev e70_6 := Q (SN v0 (.s w2)) e70_5 YY
abbrev e70_7 := Q (SN v5 (.s w3)) (SA v5 (.s w15)) (.s w3)
abbrev e70_8 := CO e70_7 e70_4
abbrev e70_9 := Q (SN v0 (.s w2)) e70_8 YY
abbrev e70_10 := K 125 [v4,v5,v6,v7,v8,v9,v10,v11,v12,v13,v14]
abbrev e70_11 := OB e70_10
abbrev e70_12 := Q (SN v0 (.s w2)) YY e70_11
abbrev e70_13 := NO e70_10
abbrev e70_14 := CO e70_7 (.s w11)
abbrev e70_15 := Q e70_13 e70_14 YY
abbrev e70_16 := Q (SN v0 (.s w2)) YY e70_15
abbrev e70_17 := K 127 [v4,v5,v6,v7,v8,v9,v10,v11,v12,v13,v14]
abbrev e70_18 := OI e70_17
abbrev e70_19 := Q e70_13 YY e70_18
abbrev e70_20 := Q (SN v0 (.s w2)) YY e70_19
abbrev e70_21 := K 126 [e70_17]
abbrev e70_22 := OS e70_21
abbrev e70_23 := Q e70_13 YY e70_22
abbrev e70_24 := Q (SN v0 (.s w2)) YY e70_23
abbrev e70_25 := CO e70_7 e70_21
abbrev e70_26 := Q e70_13 YY e70_25
abbrev e70_27 := Q (SN v0 (.s w2)) YY e70_26
abbrev e70_28 := SA e70_7 e70_4
abbrev e70_29 := SA e70_7 (.s w11)
abbrev e70_30 := SA e70_7 e70_21
abbrev e70_31 := Q e70_13 e70_29 e70_30
abbrev e70_32 := Q (SN v0 (.s w2)) e70_28 e70_31
def i70 : Inst := ⟨70, 0, [(.agg [(Ss 0), (S1 1), (Si 2), (Si 3)]), (.agg [(Ss 4), (Ss 5), (Si 6), (Si 7), (Si 8), (Si 9), (Sb 10), (Sb 11), (Sb 12), (S3 13), (S2 14)])], [.one .str]⟩
def s70 : List Cal := [c71, c124, c125, c127, c126]
@[simp] theorem o70_71 : OE s70 71 0 F71 := oG rfl
@[simp] theorem o70_124 : OE s70 124 0 F124 := oG rfl
@[simp] theorem o70_125 : OE s70 125 0 F125 := oG rfl
@[simp] theorem o70_127 : OE s70 127 0 F127 := oG rfl
@[simp] theorem o70_126 : OE s70 126 0 F126 := oG rfl
@[simp] def l70 : List LoopD := []
def t70 : Te AV := .need e70_0 (
 .need e70_3 (
 .need e70_6 (
 .need e70_9 (
 .need e70_12 (
 .need e70_16 (
 .need e70_20 (
 .need e70_24 (
 .need e70_27 (
 .ok (.sym .str e70_32))))))))))
def F70 : List AV → Option AV := unitF (omL KK s70 l70) t70
def c70 : Cal := ⟨i70, F70⟩
theorem x70 : XO i70 F70 := XV s70 l70 t70 g70 ⟨x71, x124, x125, x127, x126, trivial⟩ (by kernel_rfl) (by kernel_rfl) (by kernel_rfl)
abbrev e51_0 := Q (LE (I 0) v2) (LT v2 (LN v0)) (.b false)
abbrev e51_1 : X := .sl 5 [[(C 0 v0 v2),(C 1 v0 v2),(C 2 v0 v2),(C 3 v0 v2),(C 4 v0 v2)]]
abbrev e51_2 : X := .p (.app 5) [v1,e51_1]
abbrev e51_3 := LN e51_2
abbrev e51_4 := LE e51_3 (I 1073741824)
abbrev e51_5 := LO 5100 [v0,.nils,(I 0)]
abbrev e51_6 := PJ 0 e51_5
abbrev e51_7 := EQ e51_6 (I 1)
abbrev e51_8 := PJ 1 e51_5
def B5100 : Te LEnd := .ite (LT v2 (LN v0)) (
 .need e51_0 (
 .need e51_4 (
 .ok (.again [v0,e51_2,(AD v2 (I 1))])))) (
 .ok (.out 1 [v1]))
def d5100 : LoopD := ⟨3,⟨5100,3,((.sym (.sl [.str,(.int .i64),.bool,(.int .i64),(.int .i64)]) v0) :: (J 2 ((.sym (.own 0 [.str,(.int .i64),.bool,(.int .i64),(.int .i64)]) v1) :: ((Si 2) :: (J 14 []))))),⟨⟨2,[],[[]],none⟩,[(0,.rows [.str,(.int .i64),.bool,(.int .i64),(.int .i64)] v1)],[]⟩,
 [(.exit 0,1,(J 3 ((.sym (.own 0 [.str,(.int .i64),.bool,(.int .i64),(.int .i64)]) v0) :: (J 15 []))),⟨⟨2,[],[[]],none⟩,[(0,.rows [.str,(.int .i64),.bool,(.int .i64),(.int .i64)] v0)],[]⟩)],[(1,[])]⟩,B5100⟩
@[simp] theorem d5100_id : d5100.L.id = 5100 := rfl
@[simp] theorem d5100_B : d5100.B = B5100 := rfl
def i51 : Inst := ⟨51, 0, [(.sym (.sl [.str, (.int .i64), .bool, (.int .i64), (.int .i64)]) (.v 0))], [.one (.sl [.str, (.int .i64), .bool, (.int .i64), (.int .i64)])]⟩
def s51 : List Cal := []
@[simp] def l51 : List LoopD := [d5100]
def t51 : Te AV := .need e51_7 (
 .ok (.sym (.sl [.str,(.int .i64),.bool,(.int .i64),(.int .i64)]) e51_8))
def F51 : List AV → Option AV := unitF (omL KK s51 l51) t51
def c51 : Cal := ⟨i51, F51⟩
theorem x51 : XO i51 F51 := XV s51 l51 t51 g51 trivial (by kernel_rfl) (by kernel_rfl) (by kernel_rfl)
abbrev e50_0 := Q (LE (I 0) v2) (LT v2 (LN v0)) (.b false)
abbrev e50_1 := Q (LE (I 0) v2) (LT v2 (LN v1)) (.b false)
abbrev e50_2 := SE (C 0 v0 v2) (C 0 v1 v2)
abbrev e50_3 := EQ (C 1 v0 v2) (C 1 v1 v2)
abbrev e50_4 := BE (C 2 v0 v2) (C 2 v1 v2)
abbrev e50_5 := EQ (C 3 v0 v2) (C 3 v1 v2)
abbrev e50_6 := EQ (C 4 v0 v2) (C 4 v1 v2)
abbrev e50_7 := Q e50_5 e50_6 (.b false)
abbrev e50_8 := Q e50_4 e50_7 (.b false)
abbrev e50_9 := Q e50_3 e50_8 (.b false)
abbrev e50_10 := Q e50_2 e50_9 (.b false)
abbrev e50_11 := NO e50_10
abbrev e50_12 := NE (LN v0) (LN v1)
abbrev e50_13 := LO 5000 [v0,v1,(I 0)]
abbrev e50_14 := PJ 0 e50_13
abbrev e50_15 := EQ e50_14 (I 1)
abbrev e50_16 := EQ e50_14 (I 2)
abbrev e50_17 := Q e50_15 YY e50_16
abbrev e50_18 := Q e50_12 YY e50_17
abbrev e50_19 := Q e50_15 (.b false) YY
abbrev e50_20 := Q e50_12 (.b false) e50_19
def B5000 : Te LEnd := .ite (LT v2 (LN v0)) (
 .need e50_0 (
 .need e50_1 (
 .ite e50_11 (
 .ok (.out 1 [])) (
 .ok (.again [v0,v1,(AD v2 (I 1))]))))) (
 .ok (.out 2 []))
def d5000 : LoopD := ⟨4,⟨5000,3,((.sym (.sl [.str,(.int .i64),.bool,(.int .i64),(.int .i64)]) v0) :: ((.sym (.sl [.str,(.int .i64),.bool,(.int .i64),(.int .i64)]) v1) :: (J 3 ((Si 2) :: (J 20 []))))),⟨⟨0,[],[[]],none⟩,[],[]⟩,
 [(.ret,0,(J 4 ((.bool false) :: (J 21 []))),⟨⟨0,[],[[]],none⟩,[],[]⟩),
  (.exit 0,0,(J 26 []),⟨⟨0,[],[[]],none⟩,[],[]⟩)],[(1,[]),(2,[])]⟩,B5000⟩
@[simp] theorem d5000_id : d5000.L.id = 5000 := rfl
@[simp] theorem d5000_B : d5000.B = B5000 := rfl
def i50 : Inst := ⟨50, 0, [(.sym (.sl [.str, (.int .i64), .bool, (.int .i64), (.int .i64)]) (.v 0)), (.sym (.sl [.str, (.int .i64), .bool, (.int .i64), (.int .i64)]) (.v 1))], [.one .bool]⟩
def s50 : List Cal := []
@[simp] def l50 : List LoopD := [d5000]
def t50 : Te AV := .need e50_18 (
 .ok (.sym .bool e50_20))
def F50 : List AV → Option AV := unitF (omL KK s50 l50) t50
def c50 : Cal := ⟨i50, F50⟩
theorem x50 : XO i50 F50 := XV s50 l50 t50 g50 trivial (by kernel_rfl) (by kernel_rfl) (by kernel_rfl)
abbrev e23_0 := OB (K 75 [v0,v3])
abbrev e23_1 := Q (EQ v1 (I 0)) e23_0 YY
abbrev e23_2 := Q (NE v2 (I 0)) YY e23_1
abbrev e23_3 := Q (EQ (LN v0) (I 0)) (EQ v1 v2) (.b false)
abbrev e23_4 := Q (EQ v1 (I 0)) (K 75 [v0,v3]) (.b false)
abbrev e23_5 := Q (NE v2 (I 0)) e23_3 e23_4
def i23 : Inst := ⟨23, 0, [(S2 0), (Si 1), (Si 2), (S2 3)], [.one .bool]⟩
def s23 : List Cal := [c75]
@[simp] theorem o23_75 : OE s23 75 0 F75 := oG rfl
@[simp] def l23 : List LoopD := []
def t23 : Te AV := .need e23_2 (
 .ok (.sym .bool e23_5))
def F23 : List AV → Option AV := unitF (omL KK s23 l23) t23
def c23 : Cal := ⟨i23, F23⟩
theorem x23 : XO i23 F23 := XV s23 l23 t23 g23 ⟨x75, trivial⟩ (by kernel_rfl) (by kernel_rfl) (by kernel_rfl)
end Go.Proofs.YtdeaibcebeofiaaGreatDoor.C5

namespace Go.Proofs.YtdeaibcebeofiaaGreatDoor.C5
open Go Go.Proofs.YtdeaibcebeofiaaGreatDoor.AM Go.Proofs
def i15 : Inst := ⟨15, 0, [], [.one .bool]⟩
def F15 : List AV → Option AV := fun _ => some (.bool true)
def c15 : Cal := ⟨i15, F15⟩
theorem x15 : ExtOk Tryz.prog 15 (extI i15 F15) := by
 have E : ExtOk Tryz.prog 15 (extTab [(a119, r119)]) := extOk_tab kn15 (fun e he => by
  simp only [List.mem_singleton] at he; subst he; exact row119)
 refine ⟨E.1, fun args r h B0 nx0 w ρ vargs H hrel hg hfl => E.2 args r h B0 nx0 w ρ vargs H hrel ?_ hfl⟩
 unfold extI at hg
 split at hg
 ·rename_i l hl
  split at hg
  ·cases ha : args.map (frz h 0 12) with
   | nil => rw [← hg]; rfl
   | cons x y => rw [ha] at hl; simp [i15, mtVs] at hl
  ·cases hg
 ·cases hg
end Go.Proofs.YtdeaibcebeofiaaGreatDoor.C5

namespace Go.Proofs.YtdeaibcebeofiaaGreatDoor.C5
open Go Go.Proofs.YtdeaibcebeofiaaGreatDoor.AM Go.Proofs
set_option maxRecDepth 100000
abbrev e12_0 : X := .p (.okr [.agg [(.int .i64),(.sl [.str,.str,(.int .i64),(.int .i64),(.int .i64),(.int .i64),.bool,.bool,.bool,(.sl [(.int .i64),(.int .i64),(.int .i64),.bool]),(.sl [(.int .i64)])])]]) [(K 43 [v4,v5])]
abbrev e12_1 := OB (K 15 [])
abbrev e12_2 := K 16 [v0,v1,v2,v3]
abbrev e12_3 := OB e12_2
abbrev e12_4 := Q (NO (K 15 [])) YY e12_3
abbrev e12_5 := NO e12_2
abbrev e12_6 := FL 0 (K 43 [v4,v5])
abbrev e12_7 := FL 1 (K 43 [v4,v5])
abbrev e12_8 := K 44 [e12_6,e12_7]
abbrev e12_9 := OB e12_8
abbrev e12_10 := Q e12_5 YY e12_9
abbrev e12_11 := Q (NO (K 15 [])) YY e12_10
abbrev e12_12 := NO e12_8
abbrev e12_13 := Q e12_5 YY e12_12
abbrev e12_14 := Q (NO (K 15 [])) YY e12_13
abbrev e12_15 := K 49 [v0,v1,v2,v3,v4,v5,v6]
abbrev e12_16 : X := .p (.okr [.one (.sl [.str,(.int .i64),.bool,(.int .i64),(.int .i64)]),.one (.int .i64)]) [e12_15]
abbrev e12_17 := Q e12_14 YY e12_16
abbrev e12_18 := K 40 [v0,v1,v2,v3,v4,v5,v6]
abbrev e12_19 : X := .p (.okr [.one .str,.one (.int .i64)]) [e12_18]
abbrev e12_20 := Q e12_14 YY e12_19
abbrev e12_21 := K 46 [v0,v1,v2,v3,v4,v5]
abbrev e12_22 : X := .p (.okr [.one (.sl [.str,.str,(.sl [(.int .i64)])]),.one (.int .i64)]) [e12_21]
abbrev e12_23 := Q e12_14 YY e12_22
abbrev e12_24 := K 66 [v0,v1,v2,v3,v4,v5]
abbrev e12_25 : X := .p (.okr [.one (.sl [(.int .i64)]),.one (.int .i64)]) [e12_24]
abbrev e12_26 := Q e12_14 YY e12_25
abbrev e12_27 := K 45 [v0,v1,v2,v3,e12_6,e12_7]
abbrev e12_28 := OI e12_27
abbrev e12_29 := Q e12_14 YY e12_28
abbrev e12_30 := NE e12_27 (I 0)
abbrev e12_31 := PJ 0 e12_15
abbrev e12_32 := LN e12_31
abbrev e12_33 := EQ e12_32 (I 0)
abbrev e12_34 := PJ 0 e12_18
abbrev e12_35 := SE e12_34 (.s w3)
abbrev e12_36 := PJ 0 e12_21
abbrev e12_37 := LN e12_36
abbrev e12_38 := EQ e12_37 (I 0)
abbrev e12_39 := PJ 1 e12_15
abbrev e12_40 := EQ e12_39 e12_27
abbrev e12_41 := PJ 1 e12_18
abbrev e12_42 := EQ e12_41 e12_27
abbrev e12_43 := PJ 1 e12_21
abbrev e12_44 := EQ e12_43 e12_27
abbrev e12_45 := PJ 0 e12_24
abbrev e12_46 := PJ 1 e12_24
abbrev e12_47 := K 23 [e12_45,e12_46,e12_27,.nils]
abbrev e12_48 := OB e12_47
abbrev e12_49 := Q e12_44 e12_48 YY
abbrev e12_50 := Q e12_42 e12_49 YY
abbrev e12_51 := Q e12_40 e12_50 YY
abbrev e12_52 := Q e12_38 e12_51 YY
abbrev e12_53 := Q e12_35 e12_52 YY
abbrev e12_54 := Q e12_33 e12_53 YY
abbrev e12_55 := Q e12_30 e12_54 YY
abbrev e12_56 := Q e12_14 YY e12_55
abbrev e12_57 := K 67 [v0,v1,v2,v3,e12_6,e12_7]
abbrev e12_58 : X := .p (.okr [.one (.sl [.str,.str,(.sl [(.int .i64)])]),.one .bool]) [e12_57]
abbrev e12_59 := Q e12_30 YY e12_58
abbrev e12_60 := Q e12_14 YY e12_59
abbrev e12_61 := PJ 1 e12_57
abbrev e12_62 := NE e12_43 (I 0)
abbrev e12_63 := PJ 0 e12_57
abbrev e12_64 := K 68 [e12_36,e12_63]
abbrev e12_65 := OB e12_64
abbrev e12_66 := Q e12_62 YY e12_65
abbrev e12_67 := Q e12_61 e12_66 YY
abbrev e12_68 := Q e12_30 YY e12_67
abbrev e12_69 := Q e12_14 YY e12_68
abbrev e12_70 := NO e12_64
abbrev e12_71 := NO e12_61
abbrev e12_72 := NE e12_43 (I 24)
abbrev e12_73 := NE e12_37 (I 0)
abbrev e12_74 := K 69 [e12_6,e12_7]
abbrev e12_75 : X := .p (.okr [.one (.sl [(.int .i64)])]) [e12_74]
abbrev e12_76 := Q e12_73 YY e12_75
abbrev e12_77 := Q e12_72 YY e12_76
abbrev e12_78 := Q e12_71 e12_77 YY
abbrev e12_79 := Q e12_70 YY e12_78
abbrev e12_80 := Q e12_62 YY e12_79
abbrev e12_81 := Q e12_61 e12_80 YY
abbrev e12_82 := Q e12_30 YY e12_81
abbrev e12_83 := Q e12_14 YY e12_82
abbrev e12_84 := K 23 [e12_45,e12_46,(I 0),e12_74]
abbrev e12_85 := OB e12_84
abbrev e12_86 := Q e12_73 YY e12_85
abbrev e12_87 := Q e12_72 YY e12_86
abbrev e12_88 := Q e12_71 e12_87 YY
abbrev e12_89 := Q e12_70 YY e12_88
abbrev e12_90 := Q e12_62 YY e12_89
abbrev e12_91 := Q e12_61 e12_90 YY
abbrev e12_92 := Q e12_30 YY e12_91
abbrev e12_93 := Q e12_14 YY e12_92
abbrev e12_94 := Q e12_71 YY e12_75
abbrev e12_95 := Q e12_70 YY e12_94
abbrev e12_96 := Q e12_62 YY e12_95
abbrev e12_97 := Q e12_61 e12_96 YY
abbrev e12_98 := Q e12_30 YY e12_97
abbrev e12_99 := Q e12_14 YY e12_98
abbrev e12_100 := Q e12_71 YY e12_85
abbrev e12_101 := Q e12_70 YY e12_100
abbrev e12_102 := Q e12_62 YY e12_101
abbrev e12_103 := Q e12_61 e12_102 YY
abbrev e12_104 := Q e12_30 YY e12_103
abbrev e12_105 := Q e12_14 YY e12_104
abbrev e12_106 := Q e12_61 YY e12_78
abbrev e12_107 := Q e12_30 YY e12_106
abbrev e12_108 := Q e12_14 YY e12_107
abbrev e12_109 := Q e12_61 YY e12_88
abbrev e12_110 := Q e12_30 YY e12_109
abbrev e12_111 := Q e12_14 YY e12_110
abbrev e12_112 := Q e12_61 YY e12_94
abbrev e12_113 := Q e12_30 YY e12_112
abbrev e12_114 := Q e12_14 YY e12_113
abbrev e12_115 := Q e12_61 YY e12_100
abbrev e12_116 := Q e12_30 YY e12_115
abbrev e12_117 := Q e12_14 YY e12_116
abbrev e12_118 := NO e12_84
abbrev e12_119 := Q e12_73 YY e12_118
abbrev e12_120 := Q e12_72 YY e12_119
abbrev e12_121 := Q e12_71 e12_120 e12_118
abbrev e12_122 := Q e12_70 YY e12_121
abbrev e12_123 := Q e12_62 YY e12_122
abbrev e12_124 := Q e12_61 e12_123 e12_121
abbrev e12_125 := LN e12_7
abbrev e12_126 := GE v6 e12_125
abbrev e12_127 := Q (LT v6 (I 0)) YY e12_126
abbrev e12_128 := LT v6 e12_125
abbrev e12_129 := Q (LE (I 0) v6) e12_128 (.b false)
abbrev e12_130 := Q e12_127 YY e12_129
abbrev e12_131 := Q e12_124 YY e12_130
abbrev e12_132 := Q e12_30 YY e12_131
abbrev e12_133 := Q e12_14 YY e12_132
abbrev e12_134 := NE e12_41 (I 0)
abbrev e12_135 := C 0 e12_7 v6
abbrev e12_136 := C 1 e12_7 v6
abbrev e12_137 := C 2 e12_7 v6
abbrev e12_138 := C 3 e12_7 v6
abbrev e12_139 := C 4 e12_7 v6
abbrev e12_140 := C 5 e12_7 v6
abbrev e12_141 := C 6 e12_7 v6
abbrev e12_142 := C 7 e12_7 v6
abbrev e12_143 := C 8 e12_7 v6
abbrev e12_144 := C 9 e12_7 v6
abbrev e12_145 := C 10 e12_7 v6
abbrev e12_146 := K 70 [v0,v1,v2,v3,e12_135,e12_136,e12_137,e12_138,e12_139,e12_140,e12_141,e12_142,e12_143,e12_144,e12_145]
abbrev e12_147 := OS e12_146
abbrev e12_148 := Q e12_134 YY e12_147
abbrev e12_149 := Q e12_127 YY e12_148
abbrev e12_150 := Q e12_124 YY e12_149
abbrev e12_151 := Q e12_30 YY e12_150
abbrev e12_152 := Q e12_14 YY e12_151
abbrev e12_153 := SN e12_34 e12_146
abbrev e12_154 := Q e12_134 YY e12_153
abbrev e12_155 := EQ e12_39 (I 0)
abbrev e12_156 := K 51 [e12_31]
abbrev e12_157 : X := .p (.okr [.one (.sl [.str,(.int .i64),.bool,(.int .i64),(.int .i64)])]) [e12_156]
abbrev e12_158 := Q e12_155 e12_157 YY
abbrev e12_159 := Q (SE v0 (.s w2)) YY e12_158
abbrev e12_160 := Q e12_154 YY e12_159
abbrev e12_161 := Q e12_127 YY e12_160
abbrev e12_162 := Q e12_124 YY e12_161
abbrev e12_163 := Q e12_30 YY e12_162
abbrev e12_164 := Q e12_14 YY e12_163
abbrev e12_165 := K 71 [v0,v1,v2,v3,e12_135,e12_136,e12_137,e12_138,e12_139,e12_140,e12_141,e12_142,e12_143,e12_144,e12_145]
abbrev e12_166 : X := .p (.okr [.one (.sl [.str,(.int .i64),.bool,(.int .i64),(.int .i64)])]) [e12_165]
abbrev e12_167 := Q e12_155 e12_166 YY
abbrev e12_168 := Q (SE v0 (.s w2)) YY e12_167
abbrev e12_169 := Q e12_154 YY e12_168
abbrev e12_170 := Q e12_127 YY e12_169
abbrev e12_171 := Q e12_124 YY e12_170
abbrev e12_172 := Q e12_30 YY e12_171
abbrev e12_173 := Q e12_14 YY e12_172
abbrev e12_174 := K 50 [e12_156,e12_165]
abbrev e12_175 := OB e12_174
abbrev e12_176 := Q e12_155 e12_175 YY
abbrev e12_177 := Q (SE v0 (.s w2)) YY e12_176
abbrev e12_178 := Q e12_154 YY e12_177
abbrev e12_179 := Q e12_127 YY e12_178
abbrev e12_180 := Q e12_124 YY e12_179
abbrev e12_181 := Q e12_30 YY e12_180
abbrev e12_182 := Q e12_14 YY e12_181
abbrev e12_183 := Q e12_44 e12_47 (.b false)
abbrev e12_184 := Q e12_42 e12_183 (.b false)
abbrev e12_185 := Q e12_40 e12_184 (.b false)
abbrev e12_186 := Q e12_38 e12_185 (.b false)
abbrev e12_187 := Q e12_35 e12_186 (.b false)
abbrev e12_188 := Q e12_33 e12_187 (.b false)
abbrev e12_189 := EQ e12_39 (I 10)
abbrev e12_190 := EQ e12_41 (I 10)
abbrev e12_191 := Q e12_189 e12_190 (.b false)
abbrev e12_192 := Q e12_35 e12_191 (.b false)
abbrev e12_193 := Q e12_33 e12_192 (.b false)
abbrev e12_194 := EQ e12_39 (I 13)
abbrev e12_195 := Q e12_33 e12_194 (.b false)
abbrev e12_196 := Q e12_155 e12_174 (.b false)
abbrev e12_197 := Q (SE v0 (.s w2)) e12_195 e12_196
abbrev e12_198 := Q e12_154 (.b false) e12_197
abbrev e12_199 := Q e12_127 e12_193 e12_198
abbrev e12_200 := Q e12_124 (.b false) e12_199
abbrev e12_201 := Q e12_30 e12_188 e12_200
abbrev e12_202 := Q e12_14 (K 15 []) e12_201
def i12 : Inst := ⟨12, 0, [(.agg [(.sym .str (.v 0)), (.sym (.sl [.str]) (.v 1)), (.sym (.int .i64) (.v 2)), (.sym (.int .i64) (.v 3))]), (.agg [(.sym (.int .i64) (.v 4)), (.sym (.sl [.str, .str, (.int .i64), (.int .i64), (.int .i64), (.int .i64), .bool, .bool, .bool, (.sl [(.int .i64), (.int .i64), (.int .i64), .bool]), (.sl [(.int .i64)])]) (.v 5))]), (.sym (.int .i64) (.v 6))], [.one .bool]⟩
def s12 : List Cal := [c43, c15, c16, c44, c49, c40, c46, c66, c45, c23, c67, c68, c69, c70, c51, c71, c50]
@[simp] theorem o12_43 : OE s12 43 0 F43 := oG rfl
@[simp] theorem o12_15 : OE s12 15 0 F15 := oG rfl
@[simp] theorem o12_16 : OE s12 16 0 F16 := oG rfl
@[simp] theorem o12_44 : OE s12 44 0 F44 := oG rfl
@[simp] theorem o12_49 : OE s12 49 0 F49 := oG rfl
@[simp] theorem o12_40 : OE s12 40 0 F40 := oG rfl
@[simp] theorem o12_46 : OE s12 46 0 F46 := oG rfl
@[simp] theorem o12_66 : OE s12 66 0 F66 := oG rfl
@[simp] theorem o12_45 : OE s12 45 0 F45 := oG rfl
@[simp] theorem o12_23 : OE s12 23 0 F23 := oG rfl
@[simp] theorem o12_67 : OE s12 67 0 F67 := oG rfl
@[simp] theorem o12_68 : OE s12 68 0 F68 := oG rfl
@[simp] theorem o12_69 : OE s12 69 0 F69 := oG rfl
@[simp] theorem o12_70 : OE s12 70 0 F70 := oG rfl
@[simp] theorem o12_51 : OE s12 51 0 F51 := oG rfl
@[simp] theorem o12_71 : OE s12 71 0 F71 := oG rfl
@[simp] theorem o12_50 : OE s12 50 0 F50 := oG rfl
@[simp] def l12 : List LoopD := []
def t12 : Te AV := .need e12_0 (
 .need e12_1 (
 .need e12_4 (
 .need e12_11 (
 .need e12_17 (
 .need e12_20 (
 .need e12_23 (
 .need e12_26 (
 .need e12_29 (
 .need e12_56 (
 .need e12_60 (
 .need e12_69 (
 .need e12_83 (
 .need e12_93 (
 .need e12_99 (
 .need e12_105 (
 .need e12_108 (
 .need e12_111 (
 .need e12_114 (
 .need e12_117 (
 .need e12_133 (
 .need e12_152 (
 .need e12_164 (
 .need e12_173 (
 .need e12_182 (
 .ok (.sym .bool e12_202))))))))))))))))))))))))))
def F12 : List AV → Option AV := unitF (omL KK s12 l12) t12
def c12 : Cal := ⟨i12, F12⟩
theorem x12 : XO i12 F12 := XV s12 l12 t12 g12 ⟨x43, x15, x16, x44, x49, x40, x46, x66, x45, x23, x67, x68, x69, x70, x51, x71, x50, trivial⟩ (by kernel_rfl) (by kernel_rfl) (by kernel_rfl)
end Go.Proofs.YtdeaibcebeofiaaGreatDoor.C5
