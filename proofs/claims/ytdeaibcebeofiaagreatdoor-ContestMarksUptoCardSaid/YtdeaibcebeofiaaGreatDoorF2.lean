/-
  Functions, as trees.
-/
import Derived.Test.YtdeaibcebeofiaaGreatDoorF1
set_option linter.unusedVariables false
set_option linter.unusedSimpArgs false
set_option linter.unusedSectionVars false
namespace Go.Proofs.YtdeaibcebeofiaaGreatDoor.C5
open Go Go.Proofs.YtdeaibcebeofiaaGreatDoor.AM Go.Proofs
set_option maxRecDepth 100000
abbrev e127_0 := Q (LE (I 0) v1) (LT v1 (LN v12)) (.b false)
abbrev e127_1 := GT (C 0 v12 v1) (I 0)
abbrev e127_2 := Q (EQ v0 (I 0)) YY (LT (C 0 v12 v1) v0)
abbrev e127_3 := Q e127_1 e127_2 (.b false)
abbrev e127_4 := Q e127_3 (C 0 v12 v1) v0
abbrev e127_5 := LO 12700 [(I 0),(I 0),v0,v1,v2,v3,v4,v5,v6,v7,v8,v9,v10]
abbrev e127_6 := PJ 0 e127_5
abbrev e127_7 := EQ e127_6 (I 1)
abbrev e127_8 := PJ 1 e127_5
def B12700 : Te LEnd := .ite (LT v1 (LN v12)) (
 .need e127_0 (
 .ok (.again [e127_4,(AD v1 (I 1)),v2,v3,v4,v5,v6,v7,v8,v9,v10,v11,v12]))) (
 .ok (.out 1 [v0]))
def d12700 : LoopD := ⟨3,⟨12700,13,(J 1 ((.ptr 0 0 0) :: (J 1 ((Si 0) :: ((Si 1) :: (J 32 [])))))),⟨⟨1,[(0,.cells 11 [[(Ss 2),(Ss 3),(Si 4),(Si 5),(Si 6),(Si 7),(Sb 8),(Sb 9),(Sb 10),(S3 11),(S2 12)]])],[[]],none⟩,[],[]⟩,
 [(.exit 0,1,(J 3 ((Si 0) :: (J 33 []))),⟨⟨1,[],[[]],none⟩,[],[]⟩)],[(1,[])]⟩,B12700⟩
@[simp] theorem d12700_id : d12700.L.id = 12700 := rfl
@[simp] theorem d12700_B : d12700.B = B12700 := rfl
def i127 : Inst := ⟨127, 0, [(.agg [(Ss 0), (Ss 1), (Si 2), (Si 3), (Si 4), (Si 5), (Sb 6), (Sb 7), (Sb 8), (S3 9), (S2 10)])], [.one (.int .i64)]⟩
def s127 : List Cal := []
@[simp] def l127 : List LoopD := [d12700]
def t127 : Te AV := .need e127_7 (
 .ok (.sym (.int .i64) e127_8))
def F127 : List AV → Option AV := unitF (omL KK s127 l127) t127
def c127 : Cal := ⟨i127, F127⟩
theorem x127 : XO i127 F127 := XV s127 l127 t127 g127 trivial (by kernel_rfl) (by kernel_rfl) (by kernel_rfl)
abbrev e125_0 := K 127 [v0,v1,v2,v3,v4,v5,v6,v7,v8,v9,v10]
abbrev e125_1 := OI e125_0
abbrev e125_2 := GT e125_0 (I 0)
def i125 : Inst := ⟨125, 0, [(.agg [(Ss 0), (Ss 1), (Si 2), (Si 3), (Si 4), (Si 5), (Sb 6), (Sb 7), (Sb 8), (S3 9), (S2 10)])], [.one .bool]⟩
def s125 : List Cal := [c127]
@[simp] theorem o125_127 : OE s125 127 0 F127 := oG rfl
@[simp] def l125 : List LoopD := []
def t125 : Te AV := .need e125_1 (
 .ok (.sym .bool e125_2))
def F125 : List AV → Option AV := unitF (omL KK s125 l125) t125
def c125 : Cal := ⟨i125, F125⟩
theorem x125 : XO i125 F125 := XV s125 l125 t125 g125 ⟨x127, trivial⟩ (by kernel_rfl) (by kernel_rfl) (by kernel_rfl)
abbrev e167_0 := Q (SE v0 (.s w2)) (I 2) (I 0)
abbrev e167_1 := Q (SE v0 (.s w1)) v2 e167_0
def i167 : Inst := ⟨167, 0, [(.agg [(Ss 0), (S1 1), (Si 2), (Si 3)])], [.one (.int .i64)]⟩
def s167 : List Cal := []
@[simp] def l167 : List LoopD := []
def t167 : Te AV := .ok (.sym (.int .i64) e167_1)
def F167 : List AV → Option AV := unitF (omL KK s167 l167) t167
def c167 : Cal := ⟨i167, F167⟩
theorem x167 : XO i167 F167 := XV s167 l167 t167 g167 trivial (by kernel_rfl) (by kernel_rfl) (by kernel_rfl)
abbrev e168_0 := K 90 [v0,(I 0),(I 99)]
abbrev e168_1 := OB e168_0
abbrev e168_2 := K 90 [v1,(I 0),v0]
abbrev e168_3 := OB e168_2
abbrev e168_4 := Q e168_0 YY e168_3
abbrev e168_5 := K 90 [v2,(I 0),v0]
abbrev e168_6 := OB e168_5
abbrev e168_7 := Q e168_2 YY e168_6
abbrev e168_8 := Q e168_0 YY e168_7
abbrev e168_9 := Q e168_2 YY e168_5
abbrev e168_10 := Q e168_0 YY e168_9
abbrev e168_11 := Q (GT v0 (I 0)) (NO v3) (.b false)
abbrev e168_12 := Q (GT v1 v2) YY e168_11
abbrev e168_13 := Q (EQ v1 (I 0)) YY e168_12
abbrev e168_14 := Q (GT v2 (I 0)) e168_13 e168_11
abbrev e168_15 := Q e168_14 (I 1) (I 0)
abbrev e168_16 := Q e168_10 (I 3) e168_15
def i168 : Inst := ⟨168, 0, [(.agg [(Si 0), (Si 1), (Si 2), (Sb 3)])], [.one (.int .i64)]⟩
def s168 : List Cal := [c90]
@[simp] theorem o168_90 : OE s168 90 0 F90 := oG rfl
@[simp] def l168 : List LoopD := []
def t168 : Te AV := .need e168_1 (
 .need e168_4 (
 .need e168_8 (
 .ok (.sym (.int .i64) e168_16))))
def F168 : List AV → Option AV := unitF (omL KK s168 l168) t168
def c168 : Cal := ⟨i168, F168⟩
theorem x168 : XO i168 F168 := XV s168 l168 t168 g168 ⟨x90, trivial⟩ (by kernel_rfl) (by kernel_rfl) (by kernel_rfl)
@[simp] def e99_0 : X := Q (LE (I 0) v0) (LT v0 (LN v11)) (.b false)
@[simp] def e99_1 : X := K 90 [(C 0 v11 v0),(I 0),(I 86399999)]
@[simp] def e99_2 : X := OB e99_1
@[simp] def e99_3 : X := Q (LE (I 0) v0) (LT v0 (LN v10)) (.b false)
@[simp] def e99_4 : X := K 168 [(C 0 v10 v0),(C 1 v10 v0),(C 2 v10 v0),(C 3 v10 v0)]
@[simp] def e99_5 : X := OI e99_4
@[simp] def e99_6 : X := NE e99_4 (I 0)
@[simp] def e99_7 : X := Q (SN v6 (.s w8)) (SN v6 (.s w9)) (.b false)
@[simp] def e99_8 : X := Q (SN v6 (.s w7)) e99_7 (.b false)
@[simp] def e99_9 : X := Q (SN v6 (.s w3)) e99_8 (.b false)
@[simp] def e99_10 : X := Q (SN v5 (.s w6)) YY e99_9
@[simp] def e99_11 : X := Q (SN v5 (.s w5)) e99_10 e99_9
@[simp] def e99_12 : X := Q (SN v5 (.s w4)) e99_11 e99_9
@[simp] def e99_13 : X := Q (SN v5 (.s w6)) (SN v6 (.s w3)) (.b false)
@[simp] def e99_14 : X := K 90 [v8,(I 0),v4]
@[simp] def e99_15 : X := OB e99_14
@[simp] def e99_16 : X := Q e99_13 YY e99_15
@[simp] def e99_17 : X := Q e99_12 YY e99_16
@[simp] def e99_18 : X := K 90 [v9,(I 0),v3]
@[simp] def e99_19 : X := OB e99_18
@[simp] def e99_20 : X := Q e99_14 YY e99_19
@[simp] def e99_21 : X := Q e99_13 YY e99_20
@[simp] def e99_22 : X := Q e99_12 YY e99_21
@[simp] def e99_23 : X := K 167 [v0,v1,v2,v3]
@[simp] def e99_24 : X := OI e99_23
@[simp] def e99_25 : X := Q e99_18 YY e99_24
@[simp] def e99_26 : X := Q e99_14 YY e99_25
@[simp] def e99_27 : X := Q e99_13 YY e99_26
@[simp] def e99_28 : X := Q e99_12 YY e99_27
@[simp] def e99_29 : X := K 90 [v7,(I 0),e99_23]
@[simp] def e99_30 : X := OB e99_29
@[simp] def e99_31 : X := Q e99_18 YY e99_30
@[simp] def e99_32 : X := Q e99_14 YY e99_31
@[simp] def e99_33 : X := Q e99_13 YY e99_32
@[simp] def e99_34 : X := Q e99_12 YY e99_33
@[simp] def e99_35 : X := Q (SE v0 (.s w0)) v2 (I 0)
@[simp] def e99_36 : X := K 90 [v10,(I 0),e99_35]
@[simp] def e99_37 : X := OB e99_36
@[simp] def e99_38 : X := Q e99_29 YY e99_37
@[simp] def e99_39 : X := Q e99_18 YY e99_38
@[simp] def e99_40 : X := Q e99_14 YY e99_39
@[simp] def e99_41 : X := Q e99_13 YY e99_40
@[simp] def e99_42 : X := Q e99_12 YY e99_41
@[simp] def e99_43 : X := Q e99_29 YY e99_36
@[simp] def e99_44 : X := Q e99_18 YY e99_43
@[simp] def e99_45 : X := Q e99_14 YY e99_44
@[simp] def e99_46 : X := Q (SE v0 (.s w1)) v2 (I 0)
@[simp] def e99_47 : X := Q (SE v0 (.s w0)) (I 0) e99_46
@[simp] def e99_48 : X := NE (LN v14) e99_47
@[simp] def e99_49 : X := Q (SE v0 (.s w1)) (I 0) v2
@[simp] def e99_50 : X := Q (SE v0 (.s w0)) (I 0) e99_49
@[simp] def e99_51 : X := GT (LN v15) e99_50
@[simp] def e99_52 : X := Q e99_48 YY e99_51
@[simp] def e99_53 : X := LO 9900 [(I 0),v5,v6,v7,v8,v9,v10,v11,v12,v13,v14,v15,v0,v1,v2,v3]
@[simp] def e99_54 : X := PJ 0 e99_53
@[simp] def e99_55 : X := EQ e99_54 (I 1)
@[simp] def e99_56 : X := EQ e99_54 (I 2)
@[simp] def e99_57 : X := Q e99_55 YY e99_56
@[simp] def e99_58 : X := Q e99_52 YY e99_57
@[simp] def e99_59 : X := Q e99_45 YY e99_58
@[simp] def e99_60 : X := Q e99_13 YY e99_59
@[simp] def e99_61 : X := Q e99_12 YY e99_60
@[simp] def e99_62 : X := LO 9901 [(I 0),v5,v6,v7,v8,v9,v10,v11,v12,v13,v14,v15,v0,v1,v2,v3]
@[simp] def e99_63 : X := PJ 0 e99_62
@[simp] def e99_64 : X := EQ e99_63 (I 1)
@[simp] def e99_65 : X := EQ e99_63 (I 2)
@[simp] def e99_66 : X := Q e99_64 YY e99_65
@[simp] def e99_67 : X := Q e99_55 YY e99_66
@[simp] def e99_68 : X := Q e99_52 YY e99_67
@[simp] def e99_69 : X := Q e99_45 YY e99_68
@[simp] def e99_70 : X := Q e99_13 YY e99_69
@[simp] def e99_71 : X := Q e99_12 YY e99_70
@[simp] def e99_72 : X := Q (SN v0 (.s w1)) v13 (.b false)
@[simp] def e99_73 : X := Q v12 YY e99_72
@[simp] def e99_74 : X := Q v11 YY e99_73
@[simp] def e99_75 : X := Q (NE v9 (I 0)) YY e99_74
@[simp] def e99_76 : X := Q (SN v0 (.s w0)) e99_75 e99_72
@[simp] def e99_77 : X := Q (LE (I 0) (SB v7 (I 1))) (LT (SB v7 (I 1)) (LN v14)) (.b false)
@[simp] def e99_78 : X := Q (SE v0 (.s w1)) e99_77 YY
@[simp] def e99_79 : X := Q (EQ v7 (I 0)) YY e99_78
@[simp] def e99_80 : X := Q (SN v0 (.s w0)) e99_79 YY
@[simp] def e99_81 : X := Q (SE v5 (.s w5)) e99_80 YY
@[simp] def e99_82 : X := Q e99_76 YY e99_81
@[simp] def e99_83 : X := Q e99_64 YY e99_82
@[simp] def e99_84 : X := Q e99_55 YY e99_83
@[simp] def e99_85 : X := Q e99_52 YY e99_84
@[simp] def e99_86 : X := Q e99_45 YY e99_85
@[simp] def e99_87 : X := Q e99_13 YY e99_86
@[simp] def e99_88 : X := Q e99_12 YY e99_87
@[simp] def e99_89 : X := Q (SN v0 (.s w0)) YY e99_78
@[simp] def e99_90 : X := Q (SE v5 (.s w5)) e99_89 YY
@[simp] def e99_91 : X := Q e99_76 YY e99_90
@[simp] def e99_92 : X := Q e99_64 YY e99_91
@[simp] def e99_93 : X := Q e99_55 YY e99_92
@[simp] def e99_94 : X := Q e99_52 YY e99_93
@[simp] def e99_95 : X := Q e99_45 YY e99_94
@[simp] def e99_96 : X := Q e99_13 YY e99_95
@[simp] def e99_97 : X := Q e99_12 YY e99_96
@[simp] def e99_98 : X := NO (C 3 v14 (SB v7 (I 1)))
@[simp] def e99_99 : X := NO (SE v5 (.s w5))
@[simp] def e99_100 : X := Q (NE v7 (I 0)) YY v13
@[simp] def e99_101 : X := Q e99_99 e99_100 (.b false)
@[simp] def e99_102 : X := Q e99_98 YY e99_101
@[simp] def e99_103 : X := Q (SE v0 (.s w1)) e99_102 e99_101
@[simp] def e99_104 : X := Q (EQ v7 (I 0)) YY e99_103
@[simp] def e99_105 : X := Q (SN v0 (.s w0)) e99_104 e99_103
@[simp] def e99_106 : X := Q (SE v5 (.s w5)) e99_105 e99_101
@[simp] def e99_107 : X := Q v13 e99_77 YY
@[simp] def e99_108 : X := Q e99_106 YY e99_107
@[simp] def e99_109 : X := Q e99_76 YY e99_108
@[simp] def e99_110 : X := Q e99_64 YY e99_109
@[simp] def e99_111 : X := Q e99_55 YY e99_110
@[simp] def e99_112 : X := Q e99_52 YY e99_111
@[simp] def e99_113 : X := Q e99_45 YY e99_112
@[simp] def e99_114 : X := Q e99_13 YY e99_113
@[simp] def e99_115 : X := Q e99_12 YY e99_114
@[simp] def e99_116 : X := EQ (C 0 v14 (SB v7 (I 1))) (I 0)
@[simp] def e99_117 : X := GT (C 2 v14 (SB v7 (I 1))) (I 0)
@[simp] def e99_118 : X := Q e99_116 YY e99_117
@[simp] def e99_119 : X := Q v13 e99_118 (.b false)
@[simp] def e99_120 : X := K 125 [v5,v6,v7,v8,v9,v10,v11,v12,v13,v14,v15]
@[simp] def e99_121 : X := OB e99_120
@[simp] def e99_122 : X := Q (SE v6 (.s w3)) e99_121 YY
@[simp] def e99_123 : X := Q (SE v5 (.s w6)) e99_122 YY
@[simp] def e99_124 : X := Q (EQ (LN v15) v2) YY e99_123
@[simp] def e99_125 : X := Q (SN v5 (.s w6)) e99_124 YY
@[simp] def e99_126 : X := Q (SE v0 (.s w2)) e99_125 YY
@[simp] def e99_127 : X := Q e99_119 YY e99_126
@[simp] def e99_128 : X := Q e99_106 YY e99_127
@[simp] def e99_129 : X := Q e99_76 YY e99_128
@[simp] def e99_130 : X := Q e99_64 YY e99_129
@[simp] def e99_131 : X := Q e99_55 YY e99_130
@[simp] def e99_132 : X := Q e99_52 YY e99_131
@[simp] def e99_133 : X := Q e99_45 YY e99_132
@[simp] def e99_134 : X := Q e99_13 YY e99_133
@[simp] def e99_135 : X := Q e99_12 YY e99_134
@[simp] def e99_136 : X := Q (SN v5 (.s w6)) YY e99_123
@[simp] def e99_137 : X := Q (SE v0 (.s w2)) e99_136 YY
@[simp] def e99_138 : X := Q e99_119 YY e99_137
@[simp] def e99_139 : X := Q e99_106 YY e99_138
@[simp] def e99_140 : X := Q e99_76 YY e99_139
@[simp] def e99_141 : X := Q e99_64 YY e99_140
@[simp] def e99_142 : X := Q e99_55 YY e99_141
@[simp] def e99_143 : X := Q e99_52 YY e99_142
@[simp] def e99_144 : X := Q e99_45 YY e99_143
@[simp] def e99_145 : X := Q e99_13 YY e99_144
@[simp] def e99_146 : X := Q e99_12 YY e99_145
@[simp] def e99_147 : X := PJ 1 e99_53
@[simp] def e99_148 : X := NO e99_120
@[simp] def e99_149 : X := Q (SE v6 (.s w3)) e99_148 (.b false)
@[simp] def e99_150 : X := Q (SE v5 (.s w6)) e99_149 (.b false)
@[simp] def e99_151 : X := Q (EQ (LN v15) v2) YY e99_150
@[simp] def e99_152 : X := Q (SN v5 (.s w6)) e99_151 e99_150
@[simp] def e99_153 : X := Q (SE v0 (.s w2)) e99_152 (.b false)
@[simp] def e99_154 : X := Q e99_153 (I 19) (I 0)
@[simp] def e99_155 : X := Q e99_119 (I 19) e99_154
@[simp] def e99_156 : X := Q e99_106 (I 19) e99_155
@[simp] def e99_157 : X := Q e99_76 (I 1) e99_156
@[simp] def e99_158 : X := Q e99_64 (I 3) e99_157
@[simp] def e99_159 : X := Q e99_55 e99_147 e99_158
@[simp] def e99_160 : X := Q e99_52 (I 2) e99_159
@[simp] def e99_161 : X := Q e99_45 (I 3) e99_160
@[simp] def e99_162 : X := Q e99_13 (I 19) e99_161
@[simp] def e99_163 : X := Q e99_12 (I 13) e99_162
def B9901 : Te LEnd := .ite (LT v0 (LN v11)) (
 .need e99_0 (
 .need e99_2 (
 .ite e99_1 (
 .ok (.out 1 [])) (
 .ok (.again [(AD v0 (I 1)),v1,v2,v3,v4,v5,v6,v7,v8,v9,v10,v11,v12,v13,v14,v15]))))) (
 .ok (.out 2 [v1,v2,v3,v4,v5,v6,v7,v8,v9,v10,v11,v12,v13,v14,v15]))
def d9901 : LoopD := ⟨23,⟨9901,16,(J 3 ((.ptr 0 0 0) :: (J 1 ((.ptr 1 0 0) :: (J 6 ((Si 0) :: (J 245 []))))))),⟨⟨2,[(1,.cells 11 [[(Ss 1),(Ss 2),(Si 3),(Si 4),(Si 5),(Si 6),(Sb 7),(Sb 8),(Sb 9),(S3 10),(S2 11)]]),(0,.cells 4 [[(Ss 12),(S1 13),(Si 14),(Si 15)]])],[[]],none⟩,[],[]⟩,
 [(.ret,0,(J 6 ((.int .i64 (3)) :: (J 251 []))),⟨⟨2,[],[[]],none⟩,[],[]⟩),
  (.exit 3,15,(J 3 ((.ptr 0 0 0) :: (J 1 ((.ptr 1 0 0) :: (J 252 []))))),⟨⟨2,[(1,.cells 11 [[(Ss 0),(Ss 1),(Si 2),(Si 3),(Si 4),(Si 5),(Sb 6),(Sb 7),(Sb 8),(S3 9),(S2 10)]]),(0,.cells 4 [[(Ss 11),(S1 12),(Si 13),(Si 14)]])],[[]],none⟩,[],[]⟩)],[(1,[]),(2,[(0,1),(1,2),(2,3),(3,4),(4,5),(5,6),(6,7),(7,8),(8,9),(9,10),(10,11),(11,12),(12,13),(13,14),(14,15)])]⟩,B9901⟩
@[simp] theorem d9901_id : d9901.L.id = 9901 := rfl
@[simp] theorem d9901_B : d9901.B = B9901 := rfl
def B9900 : Te LEnd := .ite (LT v0 (LN v10)) (
 .need e99_3 (
 .need e99_5 (
 .ite e99_6 (
 .ok (.out 1 [e99_4])) (
 .ok (.again [(AD v0 (I 1)),v1,v2,v3,v4,v5,v6,v7,v8,v9,v10,v11,v12,v13,v14,v15]))))) (
 .ok (.out 2 [v1,v2,v3,v4,v5,v6,v7,v8,v9,v10,v11,v12,v13,v14,v15]))
def d9900 : LoopD := ⟨17,⟨9900,16,(J 3 ((.ptr 0 0 0) :: (J 1 ((.ptr 1 0 0) :: (J 4 ((Si 0) :: (J 247 []))))))),⟨⟨2,[(1,.cells 11 [[(Ss 1),(Ss 2),(Si 3),(Si 4),(Si 5),(Si 6),(Sb 7),(Sb 8),(Sb 9),(S3 10),(S2 11)]]),(0,.cells 4 [[(Ss 12),(S1 13),(Si 14),(Si 15)]])],[[]],none⟩,[],[]⟩,
 [(.ret,1,(J 6 ((Si 0) :: (J 251 []))),⟨⟨2,[],[[]],none⟩,[],[]⟩),
  (.exit 1,15,(J 3 ((.ptr 0 0 0) :: (J 1 ((.ptr 1 0 0) :: (J 252 []))))),⟨⟨2,[(1,.cells 11 [[(Ss 0),(Ss 1),(Si 2),(Si 3),(Si 4),(Si 5),(Sb 6),(Sb 7),(Sb 8),(S3 9),(S2 10)]]),(0,.cells 4 [[(Ss 11),(S1 12),(Si 13),(Si 14)]])],[[]],none⟩,[],[]⟩)],[(1,[]),(2,[(0,1),(1,2),(2,3),(3,4),(4,5),(5,6),(6,7),(7,8),(8,9),(9,10),(10,11),(11,12),(12,13),(13,14),(14,15)])]⟩,B9900⟩
@[simp] theorem d9900_id : d9900.L.id = 9900 := rfl
@[simp] theorem d9900_B : d9900.B = B9900 := rfl
def i99 : Inst := ⟨99, 0, [(.agg [(Ss 0), (S1 1), (Si 2), (Si 3)]), (Si 4), (.agg [(Ss 5), (Ss 6), (Si 7), (Si 8), (Si 9), (Si 10), (Sb 11), (Sb 12), (Sb 13), (S3 14), (S2 15)])], [.one (.int .i64)]⟩
def s99 : List Cal := [c90, c167, c125, c168]
@[simp] theorem o99_90 : OE s99 90 0 F90 := oG rfl
@[simp] theorem o99_167 : OE s99 167 0 F167 := oG rfl
@[simp] theorem o99_125 : OE s99 125 0 F125 := oG rfl
@[simp] theorem o99_168 : OE s99 168 0 F168 := oG rfl
@[simp] def l99 : List LoopD := [d9901, d9900]
def t99 : Te AV := .need e99_17 (
 .need e99_22 (
 .need e99_28 (
 .need e99_34 (
 .need e99_42 (
 .need e99_61 (
 .need e99_71 (
 .need e99_88 (
 .need e99_97 (
 .need e99_115 (
 .need e99_135 (
 .need e99_146 (
 .ok (.sym (.int .i64) e99_163)))))))))))))
def F99 : List AV → Option AV := unitF (omL KK s99 l99) t99
def c99 : Cal := ⟨i99, F99⟩
theorem x99 : XO i99 F99 := XV s99 l99 t99 g99 ⟨x90, x167, x125, x168, trivial⟩ (by kernel_rfl) (by kernel_rfl) (by kernel_rfl)
abbrev e45_0 := Q (LE (I 0) v0) (LT v0 (LN v2)) (.b false)
abbrev e45_1 := K 99 [v3,v4,v5,v6,v1,(C 0 v2 v0),(C 1 v2 v0),(C 2 v2 v0),(C 3 v2 v0),(C 4 v2 v0),(C 5 v2 v0),(C 6 v2 v0),(C 7 v2 v0),(C 8 v2 v0),(C 9 v2 v0),(C 10 v2 v0)]
abbrev e45_2 := OI e45_1
abbrev e45_3 := NE e45_1 (I 0)
abbrev e45_4 := LO 4501 [v0,(I 0),(C 0 v2 v0),(C 1 v2 v0),(C 2 v2 v0),(C 3 v2 v0),(C 4 v2 v0),(C 5 v2 v0),(C 6 v2 v0),(C 7 v2 v0),(C 8 v2 v0),(C 9 v2 v0),(C 10 v2 v0),v1,v2,v3,v4,v5,v6]
abbrev e45_5 := PJ 0 e45_4
abbrev e45_6 := EQ e45_5 (I 1)
abbrev e45_7 := EQ e45_5 (I 2)
abbrev e45_8 := Q (LE (I 0) v1) (LT v1 (LN v14)) (.b false)
abbrev e45_9 := Q (SE v2 (.s w5)) e45_8 YY
abbrev e45_10 := SE (C 0 v14 v1) (.s w5)
abbrev e45_11 := Q e45_10 (EQ v4 (C 2 v14 v1)) (.b false)
abbrev e45_12 := Q (SE v2 (.s w5)) e45_11 (.b false)
abbrev e45_13 := K 59 [v0,v1,v2,v3]
abbrev e45_14 := OI e45_13
abbrev e45_15 := NE e45_13 (I 0)
abbrev e45_16 := K 90 [v4,(I 0),(I 86399999)]
abbrev e45_17 := OB e45_16
abbrev e45_18 := Q e45_15 YY e45_17
abbrev e45_19 := NE (LN v5) (LN v1)
abbrev e45_20 := LO 4500 [(I 0),v4,v5,v0,v1,v2,v3]
abbrev e45_21 := PJ 0 e45_20
abbrev e45_22 := EQ e45_21 (I 1)
abbrev e45_23 := EQ e45_21 (I 2)
abbrev e45_24 := Q e45_22 YY e45_23
abbrev e45_25 := Q e45_19 YY e45_24
abbrev e45_26 := Q e45_16 YY e45_25
abbrev e45_27 := Q e45_15 YY e45_26
abbrev e45_28 := PJ 1 e45_20
abbrev e45_29 := Q e45_22 e45_28 (I 0)
abbrev e45_30 := Q e45_19 (I 2) e45_29
abbrev e45_31 := Q e45_16 (I 3) e45_30
abbrev e45_32 := Q e45_15 e45_13 e45_31
def B4500 : Te LEnd := .ite (LT v0 (LN v2)) (
 .need e45_0 (
 .need e45_2 (
 .ite e45_3 (
 .ok (.out 1 [e45_1])) (
 .ite e45_6 (
 .ok (.out 1 [(I 9)])) (
 .need e45_7 (
 .ok (.again [(AD v0 (I 1)),v1,v2,v3,v4,v5,v6]))))))) (
 .ok (.out 2 []))
def d4500 : LoopD := ⟨9,⟨4500,7,(J 2 ((.ptr 0 0 0) :: ((.ptr 1 0 0) :: (J 2 ((Si 0) :: (J 65 [])))))),⟨⟨3,[(1,.cells 2 [[(Si 1),(S4 2)]]),(0,.cells 4 [[(Ss 3),(S1 4),(Si 5),(Si 6)]])],[[]],none⟩,[],[]⟩,
 [(.ret,1,(J 4 ((Si 0) :: (J 67 []))),⟨⟨4,[],[[]],none⟩,[],[]⟩),
  (.exit 0,0,(J 72 []),⟨⟨3,[],[[]],none⟩,[],[]⟩)],[(1,[]),(2,[])]⟩,B4500⟩
@[simp] theorem d4500_id : d4500.L.id = 4500 := rfl
@[simp] theorem d4500_B : d4500.B = B4500 := rfl
def B4501 : Te LEnd := .ite (LT v1 v0) (
 .need e45_9 (
 .ite e45_12 (
 .ok (.out 1 [])) (
 .ok (.again [v0,(AD v1 (I 1)),v2,v3,v4,v5,v6,v7,v8,v9,v10,v11,v12,v13,v14,v15,v16,v17,v18])))) (
 .ok (.out 2 [v0,v13,v14,v15,v16,v17,v18]))
def d4501 : LoopD := ⟨16,⟨4501,19,(J 2 ((.ptr 0 0 0) :: ((.ptr 1 0 0) :: (J 2 ((Si 0) :: ((.ptr 3 0 0) :: ((Si 1) :: (J 63 [])))))))),⟨⟨4,[(3,.cells 11 [[(Ss 2),(Ss 3),(Si 4),(Si 5),(Si 6),(Si 7),(Sb 8),(Sb 9),(Sb 10),(S3 11),(S2 12)]]),(1,.cells 2 [[(Si 13),(S4 14)]]),(0,.cells 4 [[(Ss 15),(S1 16),(Si 17),(Si 18)]])],[[]],none⟩,[],[]⟩,
 [(.ret,0,(J 4 ((.int .i64 (9)) :: (J 67 []))),⟨⟨4,[],[[]],none⟩,[],[]⟩),
  (.exit 2,7,(J 2 ((.ptr 0 0 0) :: ((.ptr 1 0 0) :: (J 2 ((Si 0) :: (J 65 [])))))),⟨⟨4,[(1,.cells 2 [[(Si 1),(S4 2)]]),(0,.cells 4 [[(Ss 3),(S1 4),(Si 5),(Si 6)]])],[[]],none⟩,[],[]⟩)],[(1,[]),(2,[(0,0),(1,13),(2,14),(3,15),(4,16),(5,17),(6,18)])]⟩,B4501⟩
@[simp] theorem d4501_id : d4501.L.id = 4501 := rfl
@[simp] theorem d4501_B : d4501.B = B4501 := rfl
def i45 : Inst := ⟨45, 0, [(.agg [(Ss 0), (S1 1), (Si 2), (Si 3)]), (.agg [(Si 4), (S4 5)])], [.one (.int .i64)]⟩
def s45 : List Cal := [c59, c90, c99]
@[simp] theorem o45_59 : OE s45 59 0 F59 := oG rfl
@[simp] theorem o45_90 : OE s45 90 0 F90 := oG rfl
@[simp] theorem o45_99 : OE s45 99 0 F99 := oG rfl
@[simp] def l45 : List LoopD := [d4500, d4501]
def t45 : Te AV := .need e45_14 (
 .need e45_18 (
 .need e45_27 (
 .ok (.sym (.int .i64) e45_32))))
def F45 : List AV → Option AV := unitF (omL KK s45 l45) t45
def c45 : Cal := ⟨i45, F45⟩
theorem x45 : XO i45 F45 := XV s45 l45 t45 g45 ⟨x59, x90, x99, trivial⟩ (by kernel_rfl) (by kernel_rfl) (by kernel_rfl)
abbrev e44_0 := Q (LE (I 0) v0) (LT v0 (LN v2)) (.b false)
abbrev e44_1 := GT (LN (C 0 v2 v0)) (I 20)
abbrev e44_2 := GT (LN (C 1 v2 v0)) (I 20)
abbrev e44_3 := GT (LN (C 9 v2 v0)) (I 12)
abbrev e44_4 := GT (LN (C 10 v2 v0)) (I 12)
abbrev e44_5 := Q e44_3 YY e44_4
abbrev e44_6 := Q e44_2 YY e44_5
abbrev e44_7 := Q e44_1 YY e44_6
abbrev e44_8 := GT (LN v1) (I 14)
abbrev e44_9 := LO 4400 [(I 0),v0,v1]
abbrev e44_10 := PJ 0 e44_9
abbrev e44_11 := EQ e44_10 (I 1)
abbrev e44_12 := EQ e44_10 (I 2)
abbrev e44_13 := Q e44_11 YY e44_12
abbrev e44_14 := Q e44_8 YY e44_13
abbrev e44_15 := Q e44_11 (.b false) YY
abbrev e44_16 := Q e44_8 (.b false) e44_15
def B4400 : Te LEnd := .ite (LT v0 (LN v2)) (
 .need e44_0 (
 .ite e44_7 (
 .ok (.out 1 [])) (
 .ok (.again [(AD v0 (I 1)),v1,v2])))) (
 .ok (.out 2 []))
def d4400 : LoopD := ⟨4,⟨4400,3,(J 1 ((.ptr 0 0 0) :: (J 1 ((Si 0) :: (J 39 []))))),⟨⟨2,[(0,.cells 2 [[(Si 1),(S4 2)]])],[[]],none⟩,[],[]⟩,
 [(.ret,0,(J 2 ((.bool false) :: (J 40 []))),⟨⟨3,[],[[]],none⟩,[],[]⟩),
  (.exit 0,0,(J 43 []),⟨⟨2,[],[[]],none⟩,[],[]⟩)],[(1,[]),(2,[])]⟩,B4400⟩
@[simp] theorem d4400_id : d4400.L.id = 4400 := rfl
@[simp] theorem d4400_B : d4400.B = B4400 := rfl
def i44 : Inst := ⟨44, 0, [(.agg [(Si 0), (S4 1)])], [.one .bool]⟩
def s44 : List Cal := []
@[simp] def l44 : List LoopD := [d4400]
def t44 : Te AV := .need e44_14 (
 .ok (.sym .bool e44_16))
def F44 : List AV → Option AV := unitF (omL KK s44 l44) t44
def c44 : Cal := ⟨i44, F44⟩
theorem x44 : XO i44 F44 := XV s44 l44 t44 g44 trivial (by kernel_rfl) (by kernel_rfl) (by kernel_rfl)
abbrev e41_0 := Q (LE (I 0) v0) (LT v0 (LN v12)) (.b false)
abbrev e41_1 : X := .sl 4 [[(C 0 v12 v0),(C 1 v12 v0),(C 2 v12 v0),(C 3 v12 v0)]]
abbrev e41_2 : X := .p (.app 4) [v10,e41_1]
abbrev e41_3 := LN e41_2
abbrev e41_4 := LE e41_3 (I 1073741824)
abbrev e41_5 := LO 4100 [(I 0),v0,v1,v2,v3,v4,v5,v6,v7,v8,.nils,v10,v9]
abbrev e41_6 := PJ 0 e41_5
abbrev e41_7 := EQ e41_6 (I 1)
abbrev e41_8 := PJ 10 e41_5
def B4100 : Te LEnd := .ite (LT v0 (LN v12)) (
 .need e41_0 (
 .need e41_4 (
 .ok (.again [(AD v0 (I 1)),v1,v2,v3,v4,v5,v6,v7,v8,v9,e41_2,v11,v12])))) (
 .ok (.out 1 [v1,v2,v3,v4,v5,v6,v7,v8,v9,v10,v11]))
def d4100 : LoopD := ⟨3,⟨4100,13,(J 1 ((.ptr 0 0 0) :: ((.ptr 1 0 0) :: ((.ptr 2 0 0) :: ((Si 0) :: (J 39 [])))))),⟨⟨5,[(2,.cells 11 [[(Ss 1),(Ss 2),(Si 3),(Si 4),(Si 5),(Si 6),(Sb 7),(Sb 8),(Sb 9),(.sym (.own 3 [(.int .i64),(.int .i64),(.int .i64),.bool]) v10),(S2 11)]]),(1,.cells 11 [[(.str w3),(.str w3),(.int .i64 (0)),(.int .i64 (0)),(.int .i64 (0)),(.int .i64 (0)),(.bool false),(.bool false),(.bool false),.nils,.nils]]),(0,.cells 11 [[(Ss 1),(Ss 2),(Si 3),(Si 4),(Si 5),(Si 6),(Sb 7),(Sb 8),(Sb 9),(S3 12),(S2 11)]])],[[]],none⟩,[(3,.rows [(.int .i64),(.int .i64),(.int .i64),.bool] v10)],[]⟩,
 [(.exit 0,11,(J 2 ((.ptr 1 0 0) :: ((.ptr 2 0 0) :: (J 40 [])))),⟨⟨5,[(2,.cells 11 [[(Ss 0),(Ss 1),(Si 2),(Si 3),(Si 4),(Si 5),(Sb 6),(Sb 7),(Sb 8),(.sym (.own 3 [(.int .i64),(.int .i64),(.int .i64),.bool]) v9),(S2 10)]]),(1,.cells 11 [[(.str w3),(.str w3),(.int .i64 (0)),(.int .i64 (0)),(.int .i64 (0)),(.int .i64 (0)),(.bool false),(.bool false),(.bool false),.nils,.nils]])],[[]],none⟩,[(3,.rows [(.int .i64),(.int .i64),(.int .i64),.bool] v9)],[]⟩)],[(1,[(0,1),(1,2),(2,3),(3,4),(4,5),(5,6),(6,7),(7,8),(8,9),(10,11)])]⟩,B4100⟩
@[simp] theorem d4100_id : d4100.L.id = 4100 := rfl
@[simp] theorem d4100_B : d4100.B = B4100 := rfl
def i41 : Inst := ⟨41, 0, [(.agg [(Ss 0), (Ss 1), (Si 2), (Si 3), (Si 4), (Si 5), (Sb 6), (Sb 7), (Sb 8), (S3 9), (S2 10)])], [.agg [.str, .str, (.int .i64), (.int .i64), (.int .i64), (.int .i64), .bool, .bool, .bool, (.sl [(.int .i64), (.int .i64), (.int .i64), .bool]), (.sl [(.int .i64)])]]⟩
def s41 : List Cal := []
@[simp] def l41 : List LoopD := [d4100]
def t41 : Te AV := .need e41_7 (
 .ok (.agg [(.sym .str v0),(.sym .str v1),(.sym (.int .i64) v2),(.sym (.int .i64) v3),(.sym (.int .i64) v4),(.sym (.int .i64) v5),(.sym .bool v6),(.sym .bool v7),(.sym .bool v8),(.sym (.sl [(.int .i64),(.int .i64),(.int .i64),.bool]) e41_8),(.sym (.sl [(.int .i64)]) v10)]))
def F41 : List AV → Option AV := unitF (omL KK s41 l41) t41
def c41 : Cal := ⟨i41, F41⟩
theorem x41 : XO i41 F41 := XV s41 l41 t41 g41 trivial (by kernel_rfl) (by kernel_rfl) (by kernel_rfl)
abbrev e43_0 := Q (LE (I 0) v0) (LT v0 (LN v3)) (.b false)
abbrev e43_1 := K 41 [(C 0 v3 v0),(C 1 v3 v0),(C 2 v3 v0),(C 3 v3 v0),(C 4 v3 v0),(C 5 v3 v0),(C 6 v3 v0),(C 7 v3 v0),(C 8 v3 v0),(C 9 v3 v0),(C 10 v3 v0)]
abbrev e43_2 : X := .p (.okr [.agg [.str,.str,(.int .i64),(.int .i64),(.int .i64),(.int .i64),.bool,.bool,.bool,(.sl [(.int .i64),(.int .i64),(.int .i64),.bool]),(.sl [(.int .i64)])]]) [e43_1]
abbrev e43_3 := FL 0 e43_1
abbrev e43_4 := FL 1 e43_1
abbrev e43_5 := FL 2 e43_1
abbrev e43_6 := FL 3 e43_1
abbrev e43_7 := FL 4 e43_1
abbrev e43_8 := FL 5 e43_1
abbrev e43_9 := FL 6 e43_1
abbrev e43_10 := FL 7 e43_1
abbrev e43_11 := FL 8 e43_1
abbrev e43_12 := FL 9 e43_1
abbrev e43_13 := FL 10 e43_1
abbrev e43_14 : X := .sl 11 [[e43_3,e43_4,e43_5,e43_6,e43_7,e43_8,e43_9,e43_10,e43_11,e43_12,e43_13]]
abbrev e43_15 : X := .p (.app 11) [v2,e43_14]
abbrev e43_16 := LN e43_15
abbrev e43_17 := LE e43_16 (I 1073741824)
abbrev e43_18 := LO 4300 [(I 0),v0,.nils,v1]
abbrev e43_19 := PJ 0 e43_18
abbrev e43_20 := EQ e43_19 (I 1)
abbrev e43_21 := PJ 2 e43_18
def B4300 : Te LEnd := .ite (LT v0 (LN v3)) (
 .need e43_0 (
 .need e43_2 (
 .need e43_17 (
 .ok (.again [(AD v0 (I 1)),v1,e43_15,v3]))))) (
 .ok (.out 1 [v1,v2]))
def d4300 : LoopD := ⟨3,⟨4300,4,(J 1 ((.ptr 0 0 0) :: ((.ptr 1 0 0) :: ((.ptr 2 0 0) :: ((Si 0) :: (J 22 [])))))),⟨⟨5,[(2,.cells 2 [[(Si 1),(.sym (.own 3 [.str,.str,(.int .i64),(.int .i64),(.int .i64),(.int .i64),.bool,.bool,.bool,(.sl [(.int .i64),(.int .i64),(.int .i64),.bool]),(.sl [(.int .i64)])]) v2)]]),(1,.cells 2 [[(.int .i64 (0)),.nils]]),(0,.cells 2 [[(Si 1),(S4 3)]])],[[]],none⟩,[(3,.rows [.str,.str,(.int .i64),(.int .i64),(.int .i64),(.int .i64),.bool,.bool,.bool,(.sl [(.int .i64),(.int .i64),(.int .i64),.bool]),(.sl [(.int .i64)])] v2)],[]⟩,
 [(.exit 0,2,(J 2 ((.ptr 1 0 0) :: ((.ptr 2 0 0) :: (J 23 [])))),⟨⟨5,[(2,.cells 2 [[(Si 0),(.sym (.own 3 [.str,.str,(.int .i64),(.int .i64),(.int .i64),(.int .i64),.bool,.bool,.bool,(.sl [(.int .i64),(.int .i64),(.int .i64),.bool]),(.sl [(.int .i64)])]) v1)]]),(1,.cells 2 [[(.int .i64 (0)),.nils]])],[[]],none⟩,[(3,.rows [.str,.str,(.int .i64),(.int .i64),(.int .i64),(.int .i64),.bool,.bool,.bool,(.sl [(.int .i64),(.int .i64),(.int .i64),.bool]),(.sl [(.int .i64)])] v1)],[]⟩)],[(1,[(0,1)])]⟩,B4300⟩
@[simp] theorem d4300_id : d4300.L.id = 4300 := rfl
@[simp] theorem d4300_B : d4300.B = B4300 := rfl
def i43 : Inst := ⟨43, 0, [(.agg [(Si 0), (S4 1)])], [.agg [(.int .i64), (.sl [.str, .str, (.int .i64), (.int .i64), (.int .i64), (.int .i64), .bool, .bool, .bool, (.sl [(.int .i64), (.int .i64), (.int .i64), .bool]), (.sl [(.int .i64)])])]]⟩
def s43 : List Cal := [c41]
@[simp] theorem o43_41 : OE s43 41 0 F41 := oG rfl
@[simp] def l43 : List LoopD := [d4300]
def t43 : Te AV := .need e43_20 (
 .ok (.agg [(.sym (.int .i64) v0),(.sym (.sl [.str,.str,(.int .i64),(.int .i64),(.int .i64),(.int .i64),.bool,.bool,.bool,(.sl [(.int .i64),(.int .i64),(.int .i64),.bool]),(.sl [(.int .i64)])]) e43_21)]))
def F43 : List AV → Option AV := unitF (omL KK s43 l43) t43
def c43 : Cal := ⟨i43, F43⟩
theorem x43 : XO i43 F43 := XV s43 l43 t43 g43 ⟨x41, trivial⟩ (by kernel_rfl) (by kernel_rfl) (by kernel_rfl)
end Go.Proofs.YtdeaibcebeofiaaGreatDoor.C5

namespace Go.Proofs.YtdeaibcebeofiaaGreatDoor.C5
open Go Go.Proofs.YtdeaibcebeofiaaGreatDoor.AM Go.Proofs
set_option maxRecDepth 100000
abbrev e205_0 := Q (LT v0 (I 0)) YY (GT v0 v1)
def i205 : Inst := ⟨205, 0, [(Si 0), (Si 1)], [.one .bool]⟩
def s205 : List Cal := []
@[simp] def l205 : List LoopD := []
def t205 : Te AV := .ok (.sym .bool e205_0)
def F205 : List AV → Option AV := unitF (omL KK s205 l205) t205
def c205 : Cal := ⟨i205, F205⟩
theorem x205 : XO i205 F205 := XV s205 l205 t205 g205 trivial (by kernel_rfl) (by kernel_rfl) (by kernel_rfl)
abbrev e166_0 := OS (K 213 [v0])
abbrev e166_1 := SB v1 (LN (K 213 [v0]))
abbrev e166_2 := GT e166_1 (I 0)
abbrev e166_3 := Q e166_2 e166_1 (I 0)
abbrev e166_4 := K 214 [(.s w10),e166_3]
abbrev e166_5 := OS e166_4
abbrev e166_6 := CO e166_4 (K 213 [v0])
abbrev e166_7 := SA e166_4 (K 213 [v0])
def i166 : Inst := ⟨166, 0, [(Si 0), (Si 1)], [.one .str]⟩
def s166 : List Cal := [c213, c214]
@[simp] theorem o166_213 : OE s166 213 0 F213 := oG rfl
@[simp] theorem o166_214 : OE s166 214 0 F214 := oG rfl
@[simp] def l166 : List LoopD := []
def t166 : Te AV := .need e166_0 (
 .need e166_5 (
 .need e166_6 (
 .ok (.sym .str e166_7))))
def F166 : List AV → Option AV := unitF (omL KK s166 l166) t166
def c166 : Cal := ⟨i166, F166⟩
theorem x166 : XO i166 F166 := XV s166 l166 t166 g166 ⟨x213, x214, trivial⟩ (by kernel_rfl) (by kernel_rfl) (by kernel_rfl)
abbrev e209_0 := OS (K 166 [v1,(I 1)])
abbrev e209_1 := Q (EQ v1 (I 0)) YY e209_0
abbrev e209_2 := CO v0 (K 166 [v1,(I 1)])
abbrev e209_3 := Q (EQ v1 (I 0)) YY e209_2
abbrev e209_4 := SA v0 (K 166 [v1,(I 1)])
abbrev e209_5 := Q (EQ v1 (I 0)) (.s w11) e209_4
def i209 : Inst := ⟨209, 0, [(Ss 0), (Si 1)], [.one .str]⟩
def s209 : List Cal := [c166]
@[simp] theorem o209_166 : OE s209 166 0 F166 := oG rfl
@[simp] def l209 : List LoopD := []
def t209 : Te AV := .need e209_1 (
 .need e209_3 (
 .ok (.sym .str e209_5)))
def F209 : List AV → Option AV := unitF (omL KK s209 l209) t209
def c209 : Cal := ⟨i209, F209⟩
theorem x209 : XO i209 F209 := XV s209 l209 t209 g209 ⟨x166, trivial⟩ (by kernel_rfl) (by kernel_rfl) (by kernel_rfl)
abbrev e161_0 := Q (LE (I 0) v2) (LT v2 (LN v0)) (.b false)
abbrev e161_1 := NE (C 0 v0 v2) (I 0)
abbrev e161_2 := LO 16100 [v0,(LN v0),(I 0)]
abbrev e161_3 := PJ 0 e161_2
abbrev e161_4 := EQ e161_3 (I 1)
abbrev e161_5 := EQ e161_3 (I 2)
abbrev e161_6 := Q e161_4 YY e161_5
abbrev e161_7 := PJ 1 e161_2
abbrev e161_8 := Q e161_4 e161_7 (I 0)
def B16100 : Te LEnd := .ite (LT v2 v1) (
 .need e161_0 (
 .ite e161_1 (
 .ok (.out 1 [(C 0 v0 v2)])) (
 .ok (.again [v0,v1,(AD v2 (I 1))])))) (
 .ok (.out 2 []))
def d16100 : LoopD := ⟨2,⟨16100,3,(J 5 ((S2 0) :: ((Si 1) :: ((Si 2) :: (J 7 []))))),⟨⟨0,[],[[]],none⟩,[],[]⟩,
 [(.ret,1,(J 2 ((Si 0) :: (J 12 []))),⟨⟨0,[],[[]],none⟩,[],[]⟩),
  (.exit 0,0,(J 15 []),⟨⟨0,[],[[]],none⟩,[],[]⟩)],[(1,[]),(2,[])]⟩,B16100⟩
@[simp] theorem d16100_id : d16100.L.id = 16100 := rfl
@[simp] theorem d16100_B : d16100.B = B16100 := rfl
def i161 : Inst := ⟨161, 0, [(S2 0)], [.one (.int .i64)]⟩
def s161 : List Cal := []
@[simp] def l161 : List LoopD := [d16100]
def t161 : Te AV := .need e161_6 (
 .ok (.sym (.int .i64) e161_8))
def F161 : List AV → Option AV := unitF (omL KK s161 l161) t161
def c161 : Cal := ⟨i161, F161⟩
theorem x161 : XO i161 F161 := XV s161 l161 t161 g161 trivial (by kernel_rfl) (by kernel_rfl) (by kernel_rfl)
def i162 : Inst := ⟨162, 0, [(Sb 0), (Si 1)], [.one (.int .i64)]⟩
def s162 : List Cal := []
@[simp] def l162 : List LoopD := []
def t162 : Te AV := .ok (.sym (.int .i64) (Q v0 v1 (I 0)))
def F162 : List AV → Option AV := unitF (omL KK s162 l162) t162
def c162 : Cal := ⟨i162, F162⟩
theorem x162 : XO i162 F162 := XV s162 l162 t162 g162 trivial (by kernel_rfl) (by kernel_rfl) (by kernel_rfl)
abbrev e204_0 := OB (K 205 [v1,(I 64)])
abbrev e204_1 := OI (K 162 [YY,(I 3)])
abbrev e204_2 := Q (K 205 [v1,(I 64)]) e204_1 YY
abbrev e204_3 := OI (K 162 [YY,(I 1)])
abbrev e204_4 := Q v2 e204_3 YY
abbrev e204_5 := Q (EQ v3 (I 1)) e204_4 YY
abbrev e204_6 := Q (K 205 [v1,(I 64)]) e204_5 YY
abbrev e204_7 : X := .sl 1 [[(K 162 [YY,(I 3)])],[(K 162 [YY,(I 1)])]]
abbrev e204_8 := K 161 [e204_7]
abbrev e204_9 := OI e204_8
abbrev e204_10 := Q v2 e204_9 YY
abbrev e204_11 := Q (EQ v3 (I 1)) e204_10 YY
abbrev e204_12 := Q (K 205 [v1,(I 64)]) e204_11 YY
abbrev e204_13 := K 162 [(NE v1 (I 0)),(I 1)]
abbrev e204_14 := OI e204_13
abbrev e204_15 := Q v2 YY e204_14
abbrev e204_16 := Q (EQ v3 (I 1)) e204_15 YY
abbrev e204_17 := Q (K 205 [v1,(I 64)]) e204_16 YY
abbrev e204_18 : X := .sl 1 [[(K 162 [YY,(I 3)])],[e204_13]]
abbrev e204_19 := K 161 [e204_18]
abbrev e204_20 := OI e204_19
abbrev e204_21 := Q v2 YY e204_20
abbrev e204_22 := Q (EQ v3 (I 1)) e204_21 YY
abbrev e204_23 := Q (K 205 [v1,(I 64)]) e204_22 YY
abbrev e204_24 := OI (K 162 [(.b false),(I 1)])
abbrev e204_25 := Q (EQ v3 (I 1)) YY e204_24
abbrev e204_26 := Q (K 205 [v1,(I 64)]) e204_25 YY
abbrev e204_27 : X := .sl 1 [[(K 162 [YY,(I 3)])],[(K 162 [(.b false),(I 1)])]]
abbrev e204_28 := K 161 [e204_27]
abbrev e204_29 := OI e204_28
abbrev e204_30 := Q (EQ v3 (I 1)) YY e204_29
abbrev e204_31 := Q (K 205 [v1,(I 64)]) e204_30 YY
abbrev e204_32 := OB (K 205 [v3,(I 1)])
abbrev e204_33 := Q (K 205 [v1,(I 64)]) YY e204_32
abbrev e204_34 := Q (K 205 [v3,(I 1)]) e204_1 YY
abbrev e204_35 := Q (K 205 [v1,(I 64)]) YY e204_34
abbrev e204_36 := Q (K 205 [v3,(I 1)]) e204_5 YY
abbrev e204_37 := Q (K 205 [v1,(I 64)]) YY e204_36
abbrev e204_38 := Q (K 205 [v3,(I 1)]) e204_11 YY
abbrev e204_39 := Q (K 205 [v1,(I 64)]) YY e204_38
abbrev e204_40 := Q (K 205 [v3,(I 1)]) e204_16 YY
abbrev e204_41 := Q (K 205 [v1,(I 64)]) YY e204_40
abbrev e204_42 := Q (K 205 [v3,(I 1)]) e204_22 YY
abbrev e204_43 := Q (K 205 [v1,(I 64)]) YY e204_42
abbrev e204_44 := Q (K 205 [v3,(I 1)]) e204_25 YY
abbrev e204_45 := Q (K 205 [v1,(I 64)]) YY e204_44
abbrev e204_46 := Q (K 205 [v3,(I 1)]) e204_30 YY
abbrev e204_47 := Q (K 205 [v1,(I 64)]) YY e204_46
abbrev e204_48 := K 162 [(NE v4 (I 0)),(I 3)]
abbrev e204_49 := OI e204_48
abbrev e204_50 := Q (K 205 [v3,(I 1)]) YY e204_49
abbrev e204_51 := Q (K 205 [v1,(I 64)]) YY e204_50
abbrev e204_52 := Q (K 205 [v3,(I 1)]) YY e204_5
abbrev e204_53 := Q (K 205 [v1,(I 64)]) YY e204_52
abbrev e204_54 : X := .sl 1 [[e204_48],[(K 162 [YY,(I 1)])]]
abbrev e204_55 := K 161 [e204_54]
abbrev e204_56 := OI e204_55
abbrev e204_57 := Q v2 e204_56 YY
abbrev e204_58 := Q (EQ v3 (I 1)) e204_57 YY
abbrev e204_59 := Q (K 205 [v3,(I 1)]) YY e204_58
abbrev e204_60 := Q (K 205 [v1,(I 64)]) YY e204_59
abbrev e204_61 := Q (K 205 [v3,(I 1)]) YY e204_16
abbrev e204_62 := Q (K 205 [v1,(I 64)]) YY e204_61
abbrev e204_63 : X := .sl 1 [[e204_48],[e204_13]]
abbrev e204_64 := K 161 [e204_63]
abbrev e204_65 := OI e204_64
abbrev e204_66 := Q v2 YY e204_65
abbrev e204_67 := Q (EQ v3 (I 1)) e204_66 YY
abbrev e204_68 := Q (K 205 [v3,(I 1)]) YY e204_67
abbrev e204_69 := Q (K 205 [v1,(I 64)]) YY e204_68
abbrev e204_70 := Q (K 205 [v3,(I 1)]) YY e204_25
abbrev e204_71 := Q (K 205 [v1,(I 64)]) YY e204_70
abbrev e204_72 : X := .sl 1 [[e204_48],[(K 162 [(.b false),(I 1)])]]
abbrev e204_73 := K 161 [e204_72]
abbrev e204_74 := OI e204_73
abbrev e204_75 := Q (EQ v3 (I 1)) YY e204_74
abbrev e204_76 := Q (K 205 [v3,(I 1)]) YY e204_75
abbrev e204_77 := Q (K 205 [v1,(I 64)]) YY e204_76
abbrev e204_78 := Q v2 e204_8 e204_19
abbrev e204_79 := Q (EQ v3 (I 1)) e204_78 e204_28
abbrev e204_80 := Q v2 e204_55 e204_64
abbrev e204_81 := Q (EQ v3 (I 1)) e204_80 e204_73
abbrev e204_82 := Q (K 205 [v3,(I 1)]) e204_79 e204_81
abbrev e204_83 := Q (K 205 [v1,(I 64)]) e204_79 e204_82
def i204 : Inst := ⟨204, 0, [(.agg [(Ss 0), (Si 1), (Sb 2), (Si 3), (Si 4)])], [.one (.int .i64)]⟩
def s204 : List Cal := [c205, c162, c161]
@[simp] theorem o204_205 : OE s204 205 0 F205 := oG rfl
@[simp] theorem o204_162 : OE s204 162 0 F162 := oG rfl
@[simp] theorem o204_161 : OE s204 161 0 F161 := oG rfl
@[simp] def l204 : List LoopD := []
def t204 : Te AV := .need e204_0 (
 .need e204_2 (
 .need e204_6 (
 .need e204_12 (
 .need e204_17 (
 .need e204_23 (
 .need e204_26 (
 .need e204_31 (
 .need e204_33 (
 .need e204_35 (
 .need e204_37 (
 .need e204_39 (
 .need e204_41 (
 .need e204_43 (
 .need e204_45 (
 .need e204_47 (
 .need e204_51 (
 .need e204_53 (
 .need e204_60 (
 .need e204_62 (
 .need e204_69 (
 .need e204_71 (
 .need e204_77 (
 .ok (.sym (.int .i64) e204_83))))))))))))))))))))))))
def F204 : List AV → Option AV := unitF (omL KK s204 l204) t204
def c204 : Cal := ⟨i204, F204⟩
theorem x204 : XO i204 F204 := XV s204 l204 t204 g204 ⟨x205, x162, x161, trivial⟩ (by kernel_rfl) (by kernel_rfl) (by kernel_rfl)
abbrev e206_0 := OS (K 166 [v1,(I 1)])
abbrev e206_1 := Q v2 e206_0 YY
abbrev e206_2 := Q (EQ v3 (I 1)) YY e206_1
abbrev e206_3 := CO (K 166 [v1,(I 1)]) (.s w12)
abbrev e206_4 := Q v2 e206_3 YY
abbrev e206_5 := Q (EQ v3 (I 1)) YY e206_4
abbrev e206_6 := Q v2 YY e206_0
abbrev e206_7 := Q (EQ v3 (I 1)) YY e206_6
abbrev e206_8 := SA (K 166 [v1,(I 1)]) (.s w12)
abbrev e206_9 := Q v2 e206_8 (K 166 [v1,(I 1)])
abbrev e206_10 := Q (EQ v3 (I 1)) (.s w13) e206_9
def i206 : Inst := ⟨206, 0, [(.agg [(Ss 0), (Si 1), (Sb 2), (Si 3), (Si 4)])], [.one .str]⟩
def s206 : List Cal := [c166]
@[simp] theorem o206_166 : OE s206 166 0 F166 := oG rfl
@[simp] def l206 : List LoopD := []
def t206 : Te AV := .need e206_2 (
 .need e206_5 (
 .need e206_7 (
 .ok (.sym .str e206_10))))
def F206 : List AV → Option AV := unitF (omL KK s206 l206) t206
def c206 : Cal := ⟨i206, F206⟩
theorem x206 : XO i206 F206 := XV s206 l206 t206 g206 ⟨x166, trivial⟩ (by kernel_rfl) (by kernel_rfl) (by kernel_rfl)
abbrev e207_0 := OI (K 162 [YY,(I 3)])
abbrev e207_1 := Q (NE v1 (I 0)) e207_0 YY
abbrev e207_2 := OI (K 162 [YY,(I 1)])
abbrev e207_3 := Q v2 e207_2 YY
abbrev e207_4 := Q (NE v1 (I 0)) e207_3 YY
abbrev e207_5 : X := .sl 1 [[(K 162 [YY,(I 3)])],[(K 162 [YY,(I 1)])]]
abbrev e207_6 := K 161 [e207_5]
abbrev e207_7 := OI e207_6
abbrev e207_8 := Q v2 e207_7 YY
abbrev e207_9 := Q (NE v1 (I 0)) e207_8 YY
abbrev e207_10 := Q (EQ v4 (I 0)) e207_2 YY
abbrev e207_11 := Q (GT v3 (I 0)) e207_10 YY
abbrev e207_12 := Q v2 YY e207_11
abbrev e207_13 := Q (NE v1 (I 0)) e207_12 YY
abbrev e207_14 := Q (EQ v4 (I 0)) e207_7 YY
abbrev e207_15 := Q (GT v3 (I 0)) e207_14 YY
abbrev e207_16 := Q v2 YY e207_15
abbrev e207_17 := Q (NE v1 (I 0)) e207_16 YY
abbrev e207_18 := K 162 [(GT v4 v3),(I 1)]
abbrev e207_19 := OI e207_18
abbrev e207_20 := Q (EQ v4 (I 0)) YY e207_19
abbrev e207_21 := Q (GT v3 (I 0)) e207_20 YY
abbrev e207_22 := Q v2 YY e207_21
abbrev e207_23 := Q (NE v1 (I 0)) e207_22 YY
abbrev e207_24 : X := .sl 1 [[(K 162 [YY,(I 3)])],[e207_18]]
abbrev e207_25 := K 161 [e207_24]
abbrev e207_26 := OI e207_25
abbrev e207_27 := Q (EQ v4 (I 0)) YY e207_26
abbrev e207_28 := Q (GT v3 (I 0)) e207_27 YY
abbrev e207_29 := Q v2 YY e207_28
abbrev e207_30 := Q (NE v1 (I 0)) e207_29 YY
abbrev e207_31 := OI (K 162 [(.b false),(I 1)])
abbrev e207_32 := Q (GT v3 (I 0)) YY e207_31
abbrev e207_33 := Q v2 YY e207_32
abbrev e207_34 := Q (NE v1 (I 0)) e207_33 YY
abbrev e207_35 : X := .sl 1 [[(K 162 [YY,(I 3)])],[(K 162 [(.b false),(I 1)])]]
abbrev e207_36 := K 161 [e207_35]
abbrev e207_37 := OI e207_36
abbrev e207_38 := Q (GT v3 (I 0)) YY e207_37
abbrev e207_39 := Q v2 YY e207_38
abbrev e207_40 := Q (NE v1 (I 0)) e207_39 YY
abbrev e207_41 := OB (K 205 [v3,(I 99)])
abbrev e207_42 := Q (NE v1 (I 0)) YY e207_41
abbrev e207_43 := Q (K 205 [v3,(I 99)]) e207_0 YY
abbrev e207_44 := Q (NE v1 (I 0)) YY e207_43
abbrev e207_45 := Q (K 205 [v3,(I 99)]) e207_3 YY
abbrev e207_46 := Q (NE v1 (I 0)) YY e207_45
abbrev e207_47 := Q (K 205 [v3,(I 99)]) e207_8 YY
abbrev e207_48 := Q (NE v1 (I 0)) YY e207_47
abbrev e207_49 := Q (K 205 [v3,(I 99)]) e207_12 YY
abbrev e207_50 := Q (NE v1 (I 0)) YY e207_49
abbrev e207_51 := Q (K 205 [v3,(I 99)]) e207_16 YY
abbrev e207_52 := Q (NE v1 (I 0)) YY e207_51
abbrev e207_53 := Q (K 205 [v3,(I 99)]) e207_22 YY
abbrev e207_54 := Q (NE v1 (I 0)) YY e207_53
abbrev e207_55 := Q (K 205 [v3,(I 99)]) e207_29 YY
abbrev e207_56 := Q (NE v1 (I 0)) YY e207_55
abbrev e207_57 := Q (K 205 [v3,(I 99)]) e207_33 YY
abbrev e207_58 := Q (NE v1 (I 0)) YY e207_57
abbrev e207_59 := Q (K 205 [v3,(I 99)]) e207_39 YY
abbrev e207_60 := Q (NE v1 (I 0)) YY e207_59
abbrev e207_61 := OB (K 205 [v4,(I 99)])
abbrev e207_62 := Q (K 205 [v3,(I 99)]) YY e207_61
abbrev e207_63 := Q (NE v1 (I 0)) YY e207_62
abbrev e207_64 := K 162 [(K 205 [v4,(I 99)]),(I 3)]
abbrev e207_65 := OI e207_64
abbrev e207_66 := Q (K 205 [v3,(I 99)]) YY e207_65
abbrev e207_67 := Q (NE v1 (I 0)) YY e207_66
abbrev e207_68 := Q (K 205 [v3,(I 99)]) YY e207_3
abbrev e207_69 := Q (NE v1 (I 0)) YY e207_68
abbrev e207_70 : X := .sl 1 [[e207_64],[(K 162 [YY,(I 1)])]]
abbrev e207_71 := K 161 [e207_70]
abbrev e207_72 := OI e207_71
abbrev e207_73 := Q v2 e207_72 YY
abbrev e207_74 := Q (K 205 [v3,(I 99)]) YY e207_73
abbrev e207_75 := Q (NE v1 (I 0)) YY e207_74
abbrev e207_76 := Q (K 205 [v3,(I 99)]) YY e207_12
abbrev e207_77 := Q (NE v1 (I 0)) YY e207_76
abbrev e207_78 := Q (EQ v4 (I 0)) e207_72 YY
abbrev e207_79 := Q (GT v3 (I 0)) e207_78 YY
abbrev e207_80 := Q v2 YY e207_79
abbrev e207_81 := Q (K 205 [v3,(I 99)]) YY e207_80
abbrev e207_82 := Q (NE v1 (I 0)) YY e207_81
abbrev e207_83 := Q (K 205 [v3,(I 99)]) YY e207_22
abbrev e207_84 := Q (NE v1 (I 0)) YY e207_83
abbrev e207_85 : X := .sl 1 [[e207_64],[e207_18]]
abbrev e207_86 := K 161 [e207_85]
abbrev e207_87 := OI e207_86
abbrev e207_88 := Q (EQ v4 (I 0)) YY e207_87
abbrev e207_89 := Q (GT v3 (I 0)) e207_88 YY
abbrev e207_90 := Q v2 YY e207_89
abbrev e207_91 := Q (K 205 [v3,(I 99)]) YY e207_90
abbrev e207_92 := Q (NE v1 (I 0)) YY e207_91
abbrev e207_93 := Q (K 205 [v3,(I 99)]) YY e207_33
abbrev e207_94 := Q (NE v1 (I 0)) YY e207_93
abbrev e207_95 : X := .sl 1 [[e207_64],[(K 162 [(.b false),(I 1)])]]
abbrev e207_96 := K 161 [e207_95]
abbrev e207_97 := OI e207_96
abbrev e207_98 := Q (GT v3 (I 0)) YY e207_97
abbrev e207_99 := Q v2 YY e207_98
abbrev e207_100 := Q (K 205 [v3,(I 99)]) YY e207_99
abbrev e207_101 := Q (NE v1 (I 0)) YY e207_100
abbrev e207_102 := Q (EQ v4 (I 0)) e207_6 e207_25
abbrev e207_103 := Q (GT v3 (I 0)) e207_102 e207_36
abbrev e207_104 := Q v2 e207_6 e207_103
abbrev e207_105 := Q (EQ v4 (I 0)) e207_71 e207_86
abbrev e207_106 := Q (GT v3 (I 0)) e207_105 e207_96
abbrev e207_107 := Q v2 e207_71 e207_106
abbrev e207_108 := Q (K 205 [v3,(I 99)]) e207_104 e207_107
abbrev e207_109 := Q (NE v1 (I 0)) e207_104 e207_108
def i207 : Inst := ⟨207, 0, [(.agg [(Ss 0), (Si 1), (Sb 2), (Si 3), (Si 4)])], [.one (.int .i64)]⟩
def s207 : List Cal := [c162, c161, c205]
@[simp] theorem o207_162 : OE s207 162 0 F162 := oG rfl
@[simp] theorem o207_161 : OE s207 161 0 F161 := oG rfl
@[simp] theorem o207_205 : OE s207 205 0 F205 := oG rfl
@[simp] def l207 : List LoopD := []
def t207 : Te AV := .need e207_1 (
 .need e207_4 (
 .need e207_9 (
 .need e207_13 (
 .need e207_17 (
 .need e207_23 (
 .need e207_30 (
 .need e207_34 (
 .need e207_40 (
 .need e207_42 (
 .need e207_44 (
 .need e207_46 (
 .need e207_48 (
 .need e207_50 (
 .need e207_52 (
 .need e207_54 (
 .need e207_56 (
 .need e207_58 (
 .need e207_60 (
 .need e207_63 (
 .need e207_67 (
 .need e207_69 (
 .need e207_75 (
 .need e207_77 (
 .need e207_82 (
 .need e207_84 (
 .need e207_92 (
 .need e207_94 (
 .need e207_101 (
 .ok (.sym (.int .i64) e207_109))))))))))))))))))))))))))))))
def F207 : List AV → Option AV := unitF (omL KK s207 l207) t207
def c207 : Cal := ⟨i207, F207⟩
theorem x207 : XO i207 F207 := XV s207 l207 t207 g207 ⟨x162, x161, x205, trivial⟩ (by kernel_rfl) (by kernel_rfl) (by kernel_rfl)
abbrev e208_0 := OS (K 209 [(.s w14),v3])
abbrev e208_1 := CO (K 209 [(.s w14),v3]) (.s w15)
abbrev e208_2 := OS (K 209 [(.s w16),v4])
abbrev e208_3 := SA (K 209 [(.s w14),v3]) (.s w15)
abbrev e208_4 := CO e208_3 (K 209 [(.s w16),v4])
abbrev e208_5 := SA e208_3 (K 209 [(.s w16),v4])
def i208 : Inst := ⟨208, 0, [(.agg [(Ss 0), (Si 1), (Sb 2), (Si 3), (Si 4)])], [.one .str]⟩
def s208 : List Cal := [c209]
@[simp] theorem o208_209 : OE s208 209 0 F209 := oG rfl
@[simp] def l208 : List LoopD := []
def t208 : Te AV := .need e208_0 (
 .need e208_1 (
 .need e208_2 (
 .need e208_4 (
 .ok (.sym .str e208_5)))))
def F208 : List AV → Option AV := unitF (omL KK s208 l208) t208
def c208 : Cal := ⟨i208, F208⟩
theorem x208 : XO i208 F208 := XV s208 l208 t208 g208 ⟨x209, trivial⟩ (by kernel_rfl) (by kernel_rfl) (by kernel_rfl)
abbrev e164_0 := K 204 [v0,v1,v2,v3,v4]
abbrev e164_1 := OI e164_0
abbrev e164_2 := Q (KE v0 (.s w0)) e164_1 YY
abbrev e164_3 := K 207 [v0,v1,v2,v3,v4]
abbrev e164_4 := OI e164_3
abbrev e164_5 := Q (KE v0 (.s w1)) e164_4 YY
abbrev e164_6 := Q (KE v0 (.s w0)) YY e164_5
abbrev e164_7 := Q (KE v0 (.s w1)) e164_3 (I 13)
abbrev e164_8 := Q (KE v0 (.s w0)) e164_0 e164_7
def i164 : Inst := ⟨164, 0, [(.agg [(Ss 0), (Si 1), (Sb 2), (Si 3), (Si 4)])], [.one (.int .i64)]⟩
def s164 : List Cal := [c204, c207]
@[simp] theorem o164_204 : OE s164 204 0 F204 := oG rfl
@[simp] theorem o164_207 : OE s164 207 0 F207 := oG rfl
@[simp] def l164 : List LoopD := []
def t164 : Te AV := .need e164_2 (
 .need e164_6 (
 .ok (.sym (.int .i64) e164_8)))
def F164 : List AV → Option AV := unitF (omL KK s164 l164) t164
def c164 : Cal := ⟨i164, F164⟩
theorem x164 : XO i164 F164 := XV s164 l164 t164 g164 ⟨x204, x207, trivial⟩ (by kernel_rfl) (by kernel_rfl) (by kernel_rfl)
abbrev e98_0 := GT v0 (I 86399999)
abbrev e98_1 := Q (LT v0 (I 0)) YY e98_0
abbrev e98_2 := NE (I 1000) (I 0)
abbrev e98_3 := Q e98_1 YY e98_2
abbrev e98_4 := RM v0 (I 1000)
abbrev e98_5 := K 166 [e98_4,(I 3)]
abbrev e98_6 := OS e98_5
abbrev e98_7 := Q e98_1 YY e98_6
abbrev e98_8 := CO (.s w17) e98_5
abbrev e98_9 := Q e98_1 YY e98_8
abbrev e98_10 := QU v0 (I 1000)
abbrev e98_11 := LT e98_10 (I 60)
abbrev e98_12 := K 166 [e98_10,(I 1)]
abbrev e98_13 := OS e98_12
abbrev e98_14 := Q e98_11 e98_13 YY
abbrev e98_15 := Q e98_1 YY e98_14
abbrev e98_16 := SA (.s w17) e98_5
abbrev e98_17 := CO e98_12 e98_16
abbrev e98_18 := Q e98_11 e98_17 YY
abbrev e98_19 := Q e98_1 YY e98_18
abbrev e98_20 := NE (I 60) (I 0)
abbrev e98_21 := Q e98_11 YY e98_20
abbrev e98_22 := Q e98_1 YY e98_21
abbrev e98_23 := RM e98_10 (I 60)
abbrev e98_24 := K 166 [e98_23,(I 2)]
abbrev e98_25 := OS e98_24
abbrev e98_26 := Q e98_11 YY e98_25
abbrev e98_27 := Q e98_1 YY e98_26
abbrev e98_28 := CO (.s w18) e98_24
abbrev e98_29 := Q e98_11 YY e98_28
abbrev e98_30 := Q e98_1 YY e98_29
abbrev e98_31 := SA (.s w18) e98_24
abbrev e98_32 := CO e98_31 e98_16
abbrev e98_33 := Q e98_11 YY e98_32
abbrev e98_34 := Q e98_1 YY e98_33
abbrev e98_35 := QU e98_10 (I 60)
abbrev e98_36 := LT e98_35 (I 60)
abbrev e98_37 := K 166 [e98_35,(I 1)]
abbrev e98_38 := OS e98_37
abbrev e98_39 := Q e98_36 e98_38 YY
abbrev e98_40 := Q e98_11 YY e98_39
abbrev e98_41 := Q e98_1 YY e98_40
abbrev e98_42 := SA e98_31 e98_16
abbrev e98_43 := CO e98_37 e98_42
abbrev e98_44 := Q e98_36 e98_43 YY
abbrev e98_45 := Q e98_11 YY e98_44
abbrev e98_46 := Q e98_1 YY e98_45
abbrev e98_47 := QU e98_35 (I 60)
abbrev e98_48 := K 166 [e98_47,(I 1)]
abbrev e98_49 := OS e98_48
abbrev e98_50 := Q e98_36 YY e98_49
abbrev e98_51 := Q e98_11 YY e98_50
abbrev e98_52 := Q e98_1 YY e98_51
abbrev e98_53 := CO e98_48 (.s w18)
abbrev e98_54 := Q e98_36 YY e98_53
abbrev e98_55 := Q e98_11 YY e98_54
abbrev e98_56 := Q e98_1 YY e98_55
abbrev e98_57 := RM e98_35 (I 60)
abbrev e98_58 := K 166 [e98_57,(I 2)]
abbrev e98_59 := OS e98_58
abbrev e98_60 := Q e98_36 YY e98_59
abbrev e98_61 := Q e98_11 YY e98_60
abbrev e98_62 := Q e98_1 YY e98_61
abbrev e98_63 := SA e98_48 (.s w18)
abbrev e98_64 := CO e98_63 e98_58
abbrev e98_65 := Q e98_36 YY e98_64
abbrev e98_66 := Q e98_11 YY e98_65
abbrev e98_67 := Q e98_1 YY e98_66
abbrev e98_68 := SA e98_63 e98_58
abbrev e98_69 := CO e98_68 e98_42
abbrev e98_70 := Q e98_36 YY e98_69
abbrev e98_71 := Q e98_11 YY e98_70
abbrev e98_72 := Q e98_1 YY e98_71
abbrev e98_73 := SA e98_12 e98_16
abbrev e98_74 := SA e98_37 e98_42
abbrev e98_75 := SA e98_68 e98_42
abbrev e98_76 := Q e98_36 e98_74 e98_75
abbrev e98_77 := Q e98_11 e98_73 e98_76
abbrev e98_78 := Q e98_1 (.s w3) e98_77
abbrev e98_79 := Q e98_1 (I 3) (I 0)
def i98 : Inst := ⟨98, 0, [(Si 0)], [.one .str, .one (.int .i64)]⟩
def s98 : List Cal := [c166]
@[simp] theorem o98_166 : OE s98 166 0 F166 := oG rfl
@[simp] def l98 : List LoopD := []
def t98 : Te AV := .need e98_3 (
 .need e98_7 (
 .need e98_9 (
 .need e98_15 (
 .need e98_19 (
 .need e98_22 (
 .need e98_27 (
 .need e98_30 (
 .need e98_34 (
 .need e98_41 (
 .need e98_46 (
 .need e98_52 (
 .need e98_56 (
 .need e98_62 (
 .need e98_67 (
 .need e98_72 (
 .ok (.tuple [(.sym .str e98_78),(.sym (.int .i64) e98_79)])))))))))))))))))
def F98 : List AV → Option AV := unitF (omL KK s98 l98) t98
def c98 : Cal := ⟨i98, F98⟩
theorem x98 : XO i98 F98 := XV s98 l98 t98 g98 ⟨x166, trivial⟩ (by kernel_rfl) (by kernel_rfl) (by kernel_rfl)
abbrev e96_0 := Q (LE (I 0) v3) (LT v3 (LN v0)) (.b false)
abbrev e96_1 := K 164 [(C 0 v0 v3),(C 1 v0 v3),(C 2 v0 v3),(C 3 v0 v3),(C 4 v0 v3)]
abbrev e96_2 := OI e96_1
abbrev e96_3 := SN (C 0 v0 v3) (C 0 v0 (I 0))
abbrev e96_4 := K 162 [e96_3,(I 13)]
abbrev e96_5 := OI e96_4
abbrev e96_6 : X := .sl 1 [[e96_1],[e96_4]]
abbrev e96_7 := K 161 [e96_6]
abbrev e96_8 := OI e96_7
abbrev e96_9 := NE e96_7 (I 0)
abbrev e96_10 := K 206 [(C 0 v0 v3),(C 1 v0 v3),(C 2 v0 v3),(C 3 v0 v3),(C 4 v0 v3)]
abbrev e96_11 := OS e96_10
abbrev e96_12 : X := .sl 1 [[e96_10]]
abbrev e96_13 : X := .p (.app 1) [v1,e96_12]
abbrev e96_14 := LN e96_13
abbrev e96_15 := LE e96_14 (I 1073741824)
abbrev e96_16 := K 208 [(C 0 v0 v3),(C 1 v0 v3),(C 2 v0 v3),(C 3 v0 v3),(C 4 v0 v3)]
abbrev e96_17 := OS e96_16
abbrev e96_18 : X := .sl 1 [[e96_16]]
abbrev e96_19 : X := .p (.app 1) [v1,e96_18]
abbrev e96_20 := LN e96_19
abbrev e96_21 := LE e96_20 (I 1073741824)
abbrev e96_22 := K 162 [(EQ (LN v0) (I 0)),(I 12)]
abbrev e96_23 := OI e96_22
abbrev e96_24 := GT (LN v0) (I 256)
abbrev e96_25 := K 162 [e96_24,(I 5)]
abbrev e96_26 := OI e96_25
abbrev e96_27 : X := .sl 1 [[e96_22],[e96_25]]
abbrev e96_28 := K 161 [e96_27]
abbrev e96_29 := OI e96_28
abbrev e96_30 := NE e96_28 (I 0)
abbrev e96_31 := LO 9600 [v0,.nils,(LN v0),(I 0)]
abbrev e96_32 := PJ 0 e96_31
abbrev e96_33 := EQ e96_32 (I 1)
abbrev e96_34 := EQ e96_32 (I 2)
abbrev e96_35 := Q e96_33 YY e96_34
abbrev e96_36 := Q e96_30 YY e96_35
abbrev e96_37 := PJ 1 e96_31
abbrev e96_38 := K 165 [e96_37,(.s w19)]
abbrev e96_39 := OS e96_38
abbrev e96_40 := Q e96_33 YY e96_39
abbrev e96_41 := Q e96_30 YY e96_40
abbrev e96_42 := Q e96_33 (.s w3) e96_38
abbrev e96_43 := Q e96_30 (.s w3) e96_42
abbrev e96_44 := Q e96_33 e96_37 (I 0)
abbrev e96_45 := Q e96_30 e96_28 e96_44
def B9600 : Te LEnd := .ite (LT v3 v2) (
 .need e96_0 (
 .need e96_2 (
 .need (LT (I 0) (LN v0)) (
 .need e96_5 (
 .need e96_8 (
 .ite e96_9 (
 .ok (.out 1 [e96_7])) (
 .ite (KE (C 0 v0 v3) (.s w0)) (
 .need e96_11 (
 .need e96_15 (
 .ok (.again [v0,e96_13,v2,(AD v3 (I 1))])))) (
 .ite (KE (C 0 v0 v3) (.s w1)) (
 .need e96_17 (
 .need e96_21 (
 .ok (.again [v0,e96_19,v2,(AD v3 (I 1))])))) (
 .fail 91))))))))) (
 .ok (.out 2 [v1]))
def d9600 : LoopD := ⟨7,⟨9600,4,((.sym (.sl [.str,(.int .i64),.bool,(.int .i64),(.int .i64)]) v0) :: (J 4 ((.im [((.str w0),(.agg [(.func (.func 204) [] []),(.func (.func 206) [] [])])),((.str w1),(.agg [(.func (.func 207) [] []),(.func (.func 208) [] [])]))]) :: ((.sym (.own 1 [.str]) v1) :: (J 17 ((.sym (.sl [.str,(.int .i64),.bool,(.int .i64),(.int .i64)]) v0) :: ((Si 2) :: ((Si 3) :: (J 31 []))))))))),⟨⟨5,[],[[]],none⟩,[(1,.rows [.str] v1)],[]⟩,
 [(.ret,1,(J 2 ((.str w3) :: ((Si 0) :: (J 54 [])))),⟨⟨7,[],[[]],none⟩,[],[]⟩),
  (.exit 0,1,(J 6 ((.sym (.own 1 [.str]) v0) :: (J 51 []))),⟨⟨5,[],[[]],none⟩,[(1,.rows [.str] v0)],[]⟩)],[(1,[]),(2,[])]⟩,B9600⟩
@[simp] theorem d9600_id : d9600.L.id = 9600 := rfl
@[simp] theorem d9600_B : d9600.B = B9600 := rfl
def i96 : Inst := ⟨96, 0, [(.sym (.sl [.str, (.int .i64), .bool, (.int .i64), (.int .i64)]) (.v 0))], [.one .str, .one (.int .i64)]⟩
def s96 : List Cal := [c162, c161, c165, c164, c206, c208]
@[simp] theorem o96_162 : OE s96 162 0 F162 := oG rfl
@[simp] theorem o96_161 : OE s96 161 0 F161 := oG rfl
@[simp] theorem o96_165 : OE s96 165 0 F165 := oG rfl
@[simp] theorem o96_164 : OE s96 164 0 F164 := oG rfl
@[simp] theorem o96_206 : OE s96 206 0 F206 := oG rfl
@[simp] theorem o96_208 : OE s96 208 0 F208 := oG rfl
@[simp] def l96 : List LoopD := [d9600]
def t96 : Te AV := .need e96_23 (
 .need e96_26 (
 .need e96_29 (
 .need e96_36 (
 .need e96_41 (
 .ok (.tuple [(.sym .str e96_43),(.sym (.int .i64) e96_45)]))))))
def F96 : List AV → Option AV := unitF (omL KK s96 l96) t96
def c96 : Cal := ⟨i96, F96⟩
theorem x96 : XO i96 F96 := XV s96 l96 t96 g96 ⟨x162, x161, x165, x164, x206, x208, trivial⟩ (by kernel_rfl) (by kernel_rfl) (by kernel_rfl)
abbrev e94_0 := K 60 [v0,v1,v2,v3,v4,v5]
abbrev e94_1 := OI e94_0
abbrev e94_2 := K 89 [v6,(I 0),(SB (LN v5) (I 1))]
abbrev e94_3 := OB e94_2
abbrev e94_4 := K 103 [e94_2,(I 10)]
abbrev e94_5 := OI e94_4
abbrev e94_6 : X := .sl 1 [[e94_0],[e94_4]]
abbrev e94_7 := K 102 [e94_6]
abbrev e94_8 := OI e94_7
abbrev e94_9 := NE e94_7 (I 0)
abbrev e94_10 := Q (LE (I 0) v6) (LT v6 (LN v5)) (.b false)
abbrev e94_11 := Q e94_9 YY e94_10
abbrev e94_12 := Q e94_9 (.s w3) (C 0 v5 v6)
abbrev e94_13 := Q e94_9 (.s w3) (C 1 v5 v6)
abbrev e94_14 := Q e94_9 (I 0) (C 2 v5 v6)
abbrev e94_15 := Q e94_9 (I 0) (C 3 v5 v6)
abbrev e94_16 := Q e94_9 (I 0) (C 4 v5 v6)
abbrev e94_17 := Q e94_9 (I 0) (C 5 v5 v6)
abbrev e94_18 := Q e94_9 (.b false) (C 6 v5 v6)
abbrev e94_19 := Q e94_9 (.b false) (C 7 v5 v6)
abbrev e94_20 := Q e94_9 (.b false) (C 8 v5 v6)
abbrev e94_21 := Q e94_9 .nils (C 9 v5 v6)
abbrev e94_22 := Q e94_9 .nils (C 10 v5 v6)
abbrev e94_23 := Q e94_9 e94_7 (I 0)
def i94 : Inst := ⟨94, 0, [(.agg [(Ss 0), (S1 1), (Si 2), (Si 3)]), (.agg [(Si 4), (S4 5)]), (Si 6)], [.agg [.str, .str, (.int .i64), (.int .i64), (.int .i64), (.int .i64), .bool, .bool, .bool, (.sl [(.int .i64), (.int .i64), (.int .i64), .bool]), (.sl [(.int .i64)])], .one (.int .i64)]⟩
def s94 : List Cal := [c60, c89, c103, c102]
@[simp] theorem o94_60 : OE s94 60 0 F60 := oG rfl
@[simp] theorem o94_89 : OE s94 89 0 F89 := oG rfl
@[simp] theorem o94_103 : OE s94 103 0 F103 := oG rfl
@[simp] theorem o94_102 : OE s94 102 0 F102 := oG rfl
@[simp] def l94 : List LoopD := []
def t94 : Te AV := .need e94_1 (
 .need e94_3 (
 .need e94_5 (
 .need e94_8 (
 .need e94_11 (
 .ok (.tuple [(.agg [(.sym .str e94_12),(.sym .str e94_13),(.sym (.int .i64) e94_14),(.sym (.int .i64) e94_15),(.sym (.int .i64) e94_16),(.sym (.int .i64) e94_17),(.sym .bool e94_18),(.sym .bool e94_19),(.sym .bool e94_20),(.sym (.sl [(.int .i64),(.int .i64),(.int .i64),.bool]) e94_21),(.sym (.sl [(.int .i64)]) e94_22)]),(.sym (.int .i64) e94_23)]))))))
def F94 : List AV → Option AV := unitF (omL KK s94 l94) t94
def c94 : Cal := ⟨i94, F94⟩
theorem x94 : XO i94 F94 := XV s94 l94 t94 g94 ⟨x60, x89, x103, x102, trivial⟩ (by kernel_rfl) (by kernel_rfl) (by kernel_rfl)
abbrev e97_0 := Q (LE (I 0) v3) (LT v3 (LN v1)) (.b false)
abbrev e97_1 : X := .sl 5 [[(.s w1),(I 0),(.b false),(C 2 v1 v3),(C 1 v1 v3)]]
abbrev e97_2 : X := .p (.app 5) [v0,e97_1]
abbrev e97_3 := LN e97_2
abbrev e97_4 := LE e97_3 (I 1073741824)
abbrev e97_5 := LO 9700 [.nils,v13,(LN v13),(I 0)]
abbrev e97_6 := PJ 0 e97_5
abbrev e97_7 := EQ e97_6 (I 1)
abbrev e97_8 := PJ 1 e97_5
def B9700 : Te LEnd := .ite (LT v3 v2) (
 .need e97_0 (
 .need e97_4 (
 .ok (.again [e97_2,v1,v2,(AD v3 (I 1))])))) (
 .ok (.out 1 [v0]))
def d9700 : LoopD := ⟨7,⟨9700,4,(J 5 ((.sym (.own 2 [.str,(.int .i64),.bool,(.int .i64),(.int .i64)]) v0) :: (J 16 ((S3 1) :: ((Si 2) :: ((Si 3) :: (J 13 []))))))),⟨⟨5,[],[[]],none⟩,[(2,.rows [.str,(.int .i64),.bool,(.int .i64),(.int .i64)] v0)],[]⟩,
 [(.exit 0,1,(J 5 ((.sym (.own 2 [.str,(.int .i64),.bool,(.int .i64),(.int .i64)]) v0) :: (J 32 []))),⟨⟨5,[],[[]],none⟩,[(2,.rows [.str,(.int .i64),.bool,(.int .i64),(.int .i64)] v0)],[]⟩)],[(1,[])]⟩,B9700⟩
@[simp] theorem d9700_id : d9700.L.id = 9700 := rfl
@[simp] theorem d9700_B : d9700.B = B9700 := rfl
def i97 : Inst := ⟨97, 0, [(.agg [(Ss 0), (S1 1), (Si 2), (Si 3)]), (.agg [(Ss 4), (Ss 5), (Si 6), (Si 7), (Si 8), (Si 9), (Sb 10), (Sb 11), (Sb 12), (S3 13), (S2 14)])], [.one (.sl [.str, (.int .i64), .bool, (.int .i64), (.int .i64)])]⟩
def s97 : List Cal := []
@[simp] def l97 : List LoopD := [d9700]
def t97 : Te AV := .ite (SE v0 (.s w0)) (
 .ite v11 (
 .ok (.sl 5 [[(.str w0),(.int .i64 (0)),(.bool false),(.int .i64 (1)),(.int .i64 (0))]])) (
 .ok (.sl 5 [[(.str w0),(.sym (.int .i64) v9),(.sym .bool v10),(.int .i64 (0)),(.int .i64 (0))]]))) (
 .need e97_7 (
 .ok (.sym (.sl [.str,(.int .i64),.bool,(.int .i64),(.int .i64)]) e97_8)))
def F97 : List AV → Option AV := unitF (omL KK s97 l97) t97
def c97 : Cal := ⟨i97, F97⟩
theorem x97 : XO i97 F97 := XV s97 l97 t97 g97 trivial (by kernel_rfl) (by kernel_rfl) (by kernel_rfl)
abbrev e104_0 := Q (LE (I 0) v2) (LT v2 (LN v0)) (.b false)
abbrev e104_1 := GT (C 2 v0 v2) (I 0)
abbrev e104_2 := Q e104_1 (AD v3 (I 1)) v3
abbrev e104_3 := GT (C 1 v0 v2) (I 0)
abbrev e104_4 := Q e104_3 (AD v4 (I 1)) v4
abbrev e104_5 := OI (K 95 [v14])
abbrev e104_6 : X := .p (.neg .i64) [(K 95 [v14])]
abbrev e104_7 := LO 10400 [v13,(LN v13),(I 0),(I 0),(I 0),(I 0),(I 0)]
abbrev e104_8 := PJ 0 e104_7
abbrev e104_9 := EQ e104_8 (I 1)
abbrev e104_10 := PJ 1 e104_7
abbrev e104_11 := PJ 2 e104_7
abbrev e104_12 := PJ 3 e104_7
abbrev e104_13 := PJ 4 e104_7
abbrev e104_14 := AD (MU (I 2) v2) (I 2)
abbrev e104_15 := AD (MU (I 2) v9) (I 1)
abbrev e104_16 := Q v10 e104_15 (MU (I 2) v9)
def B10400 : Te LEnd := .ite (LT v2 v1) (
 .need e104_0 (
 .ok (.again [v0,v1,(AD v2 (I 1)),e104_2,e104_4,(SB v5 (C 2 v0 v2)),(SB v6 (C 1 v0 v2))]))) (
 .ok (.out 1 [v3,v4,v5,v6]))
def d10400 : LoopD := ⟨8,⟨10400,7,(J 5 ((.ms 2 0 4) :: (J 24 ((S3 0) :: ((Si 1) :: ((Si 2) :: (J 54 []))))))),⟨⟨4,[(2,.cells 1 [[(Si 3)],[(Si 4)],[(Si 5)],[(Si 6)]])],[[]],none⟩,[],[]⟩,
 [(.exit 1,4,(J 5 ((.ms 2 0 4) :: (J 81 []))),⟨⟨4,[(2,.cells 1 [[(Si 0)],[(Si 1)],[(Si 2)],[(Si 3)]])],[[]],none⟩,[],[]⟩)],[(1,[])]⟩,B10400⟩
@[simp] theorem d10400_id : d10400.L.id = 10400 := rfl
@[simp] theorem d10400_B : d10400.B = B10400 := rfl
def i104 : Inst := ⟨104, 0, [(.agg [(Ss 0), (S1 1), (Si 2), (Si 3)]), (.agg [(Ss 4), (Ss 5), (Si 6), (Si 7), (Si 8), (Si 9), (Sb 10), (Sb 11), (Sb 12), (S3 13), (S2 14)])], [.one (.sl [(.int .i64)])]⟩
def s104 : List Cal := [c95]
@[simp] theorem o104_95 : OE s104 95 0 F95 := oG rfl
@[simp] def l104 : List LoopD := [d10400]
def t104 : Te AV := .ite (SN v5 (.s w3)) (
 .ok .nils) (
 .ite (SE v0 (.s w2)) (
 .need e104_5 (
 .ok (.sl 1 [[(.sym (.int .i64) e104_6)]]))) (
 .ite (SE v0 (.s w1)) (
 .need e104_9 (
 .ok (.sl 1 [[(.sym (.int .i64) e104_10)],[(.sym (.int .i64) e104_11)],[(.sym (.int .i64) e104_12)],[(.sym (.int .i64) e104_13)]]))) (
 .ite v11 (
 .ok (.sl 1 [[(.sym (.int .i64) e104_14)],[(.sym (.int .i64) (.p (.neg .i64) [v8]))]])) (
 .ok (.sl 1 [[(.sym (.int .i64) e104_16)],[(.sym (.int .i64) (.p (.neg .i64) [v8]))]])))))
def F104 : List AV → Option AV := unitF (omL KK s104 l104) t104
def c104 : Cal := ⟨i104, F104⟩
theorem x104 : XO i104 F104 := XV s104 l104 t104 g104 ⟨x95, trivial⟩ (by kernel_rfl) (by kernel_rfl) (by kernel_rfl)
abbrev e49_0 := K 94 [v0,v1,v2,v3,v4,v5,v6]
abbrev e49_1 : X := .p (.okr [.agg [.str,.str,(.int .i64),(.int .i64),(.int .i64),(.int .i64),.bool,.bool,.bool,(.sl [(.int .i64),(.int .i64),(.int .i64),.bool]),(.sl [(.int .i64)])],.one (.int .i64)]) [e49_0]
abbrev e49_2 := K 103 [(SE v0 (.s w2)),(I 13)]
abbrev e49_3 := OI e49_2
abbrev e49_4 := PJ 1 e49_0
abbrev e49_5 : X := .sl 1 [[e49_4],[e49_2]]
abbrev e49_6 := K 102 [e49_5]
abbrev e49_7 := OI e49_6
abbrev e49_8 := NE e49_6 (I 0)
abbrev e49_9 := PJ 0 e49_0
abbrev e49_10 := FL 0 e49_9
abbrev e49_11 := FL 1 e49_9
abbrev e49_12 := FL 2 e49_9
abbrev e49_13 := FL 3 e49_9
abbrev e49_14 := FL 4 e49_9
abbrev e49_15 := FL 5 e49_9
abbrev e49_16 := FL 6 e49_9
abbrev e49_17 := FL 7 e49_9
abbrev e49_18 := FL 8 e49_9
abbrev e49_19 := FL 9 e49_9
abbrev e49_20 := FL 10 e49_9
abbrev e49_21 := K 97 [v0,v1,v2,v3,e49_10,e49_11,e49_12,e49_13,e49_14,e49_15,e49_16,e49_17,e49_18,e49_19,e49_20]
abbrev e49_22 : X := .p (.okr [.one (.sl [.str,(.int .i64),.bool,(.int .i64),(.int .i64)])]) [e49_21]
abbrev e49_23 := Q e49_8 YY e49_22
abbrev e49_24 := Q e49_8 .nils e49_21
abbrev e49_25 := Q e49_8 e49_6 (I 0)
def i49 : Inst := ⟨49, 0, [(.agg [(Ss 0), (S1 1), (Si 2), (Si 3)]), (.agg [(Si 4), (S4 5)]), (Si 6)], [.one (.sl [.str, (.int .i64), .bool, (.int .i64), (.int .i64)]), .one (.int .i64)]⟩
def s49 : List Cal := [c94, c103, c102, c97]
@[simp] theorem o49_94 : OE s49 94 0 F94 := oG rfl
@[simp] theorem o49_103 : OE s49 103 0 F103 := oG rfl
@[simp] theorem o49_102 : OE s49 102 0 F102 := oG rfl
@[simp] theorem o49_97 : OE s49 97 0 F97 := oG rfl
@[simp] def l49 : List LoopD := []
def t49 : Te AV := .need e49_1 (
 .need e49_3 (
 .need e49_7 (
 .need e49_23 (
 .ok (.tuple [(.sym (.sl [.str,(.int .i64),.bool,(.int .i64),(.int .i64)]) e49_24),(.sym (.int .i64) e49_25)])))))
def F49 : List AV → Option AV := unitF (omL KK s49 l49) t49
def c49 : Cal := ⟨i49, F49⟩
theorem x49 : XO i49 F49 := XV s49 l49 t49 g49 ⟨x94, x103, x102, x97, trivial⟩ (by kernel_rfl) (by kernel_rfl) (by kernel_rfl)
abbrev e40_0 := K 94 [v0,v1,v2,v3,v4,v5,v6]
abbrev e40_1 : X := .p (.okr [.agg [.str,.str,(.int .i64),(.int .i64),(.int .i64),(.int .i64),.bool,.bool,.bool,(.sl [(.int .i64),(.int .i64),(.int .i64),.bool]),(.sl [(.int .i64)])],.one (.int .i64)]) [e40_0]
abbrev e40_2 := PJ 1 e40_0
abbrev e40_3 := NE e40_2 (I 0)
abbrev e40_4 := PJ 0 e40_0
abbrev e40_5 := FL 10 e40_4
abbrev e40_6 := K 95 [e40_5]
abbrev e40_7 := OI e40_6
abbrev e40_8 := Q e40_3 YY e40_7
abbrev e40_9 := FL 0 e40_4
abbrev e40_10 := FL 1 e40_4
abbrev e40_11 := FL 2 e40_4
abbrev e40_12 := FL 3 e40_4
abbrev e40_13 := FL 4 e40_4
abbrev e40_14 := FL 5 e40_4
abbrev e40_15 := FL 6 e40_4
abbrev e40_16 := FL 7 e40_4
abbrev e40_17 := FL 8 e40_4
abbrev e40_18 := FL 9 e40_4
abbrev e40_19 := K 97 [v0,v1,v2,v3,e40_9,e40_10,e40_11,e40_12,e40_13,e40_14,e40_15,e40_16,e40_17,e40_18,e40_5]
abbrev e40_20 : X := .p (.okr [.one (.sl [.str,(.int .i64),.bool,(.int .i64),(.int .i64)])]) [e40_19]
abbrev e40_21 := Q (SN v0 (.s w2)) e40_20 YY
abbrev e40_22 := Q e40_3 YY e40_21
abbrev e40_23 := K 96 [e40_19]
abbrev e40_24 : X := .p (.okr [.one .str,.one (.int .i64)]) [e40_23]
abbrev e40_25 := Q (SN v0 (.s w2)) e40_24 YY
abbrev e40_26 := Q e40_3 YY e40_25
abbrev e40_27 := GT e40_6 (I 0)
abbrev e40_28 := K 98 [e40_6]
abbrev e40_29 : X := .p (.okr [.one .str,.one (.int .i64)]) [e40_28]
abbrev e40_30 := Q e40_27 e40_29 YY
abbrev e40_31 := Q (SN v0 (.s w2)) YY e40_30
abbrev e40_32 := Q e40_3 YY e40_31
abbrev e40_33 := PJ 1 e40_23
abbrev e40_34 := PJ 1 e40_28
abbrev e40_35 := Q e40_27 e40_34 e40_2
abbrev e40_36 := Q (SN v0 (.s w2)) e40_33 e40_35
abbrev e40_37 := NE e40_36 (I 0)
abbrev e40_38 := SN e40_10 (.s w3)
abbrev e40_39 := CO e40_10 (.s w15)
abbrev e40_40 := Q e40_38 e40_39 YY
abbrev e40_41 := Q e40_37 YY e40_40
abbrev e40_42 := Q e40_3 YY e40_41
abbrev e40_43 := SA e40_10 (.s w15)
abbrev e40_44 := PJ 0 e40_23
abbrev e40_45 := PJ 0 e40_28
abbrev e40_46 := Q e40_27 e40_45 (.s w11)
abbrev e40_47 := Q (SN v0 (.s w2)) e40_44 e40_46
abbrev e40_48 := CO e40_43 e40_47
abbrev e40_49 := Q e40_38 e40_48 YY
abbrev e40_50 := Q e40_37 YY e40_49
abbrev e40_51 := Q e40_3 YY e40_50
abbrev e40_52 := SA e40_43 e40_47
abbrev e40_53 := Q e40_38 e40_52 e40_47
abbrev e40_54 := Q e40_37 (.s w3) e40_53
abbrev e40_55 := Q e40_3 (.s w3) e40_54
abbrev e40_56 := Q e40_37 e40_36 (I 0)
abbrev e40_57 := Q e40_3 e40_2 e40_56
def i40 : Inst := ⟨40, 0, [(.agg [(Ss 0), (S1 1), (Si 2), (Si 3)]), (.agg [(Si 4), (S4 5)]), (Si 6)], [.one .str, .one (.int .i64)]⟩
def s40 : List Cal := [c94, c95, c97, c96, c98]
@[simp] theorem o40_94 : OE s40 94 0 F94 := oG rfl
@[simp] theorem o40_95 : OE s40 95 0 F95 := oG rfl
@[simp] theorem o40_97 : OE s40 97 0 F97 := oG rfl
@[simp] theorem o40_96 : OE s40 96 0 F96 := oG rfl
@[simp] theorem o40_98 : OE s40 98 0 F98 := oG rfl
@[simp] def l40 : List LoopD := []
def t40 : Te AV := .need e40_1 (
 .need e40_8 (
 .need e40_22 (
 .need e40_26 (
 .need e40_32 (
 .need e40_42 (
 .need e40_51 (
 .ok (.tuple [(.sym .str e40_55),(.sym (.int .i64) e40_57)]))))))))
def F40 : List AV → Option AV := unitF (omL KK s40 l40) t40
def c40 : Cal := ⟨i40, F40⟩
theorem x40 : XO i40 F40 := XV s40 l40 t40 g40 ⟨x94, x95, x97, x96, x98, trivial⟩ (by kernel_rfl) (by kernel_rfl) (by kernel_rfl)
abbrev e46_0 := Q (LE (I 0) v3) (LT v3 (LN v1)) (.b false)
abbrev e46_1 := Q (LE (I 0) v3) (LT v3 (LN v5)) (.b false)
abbrev e46_2 := K 104 [v4,v5,v6,v7,(C 0 v1 v3),(C 1 v1 v3),(C 2 v1 v3),(C 3 v1 v3),(C 4 v1 v3),(C 5 v1 v3),(C 6 v1 v3),(C 7 v1 v3),(C 8 v1 v3),(C 9 v1 v3),(C 10 v1 v3)]
abbrev e46_3 : X := .p (.okr [.one (.sl [(.int .i64)])]) [e46_2]
abbrev e46_4 : X := .sl 3 [[(C 0 v5 v3),(C 1 v1 v3),e46_2]]
abbrev e46_5 : X := .p (.app 3) [v0,e46_4]
abbrev e46_6 := LN e46_5
abbrev e46_7 := LE e46_6 (I 1073741824)
abbrev e46_8 := OB (.p (.call 100 1) [v5])
abbrev e46_9 := K 60 [v0,v1,v2,v3,v4,v5]
abbrev e46_10 := OI e46_9
abbrev e46_11 := K 103 [(.p (.call 100 1) [v5]),(I 24)]
abbrev e46_12 := OI e46_11
abbrev e46_13 : X := .sl 1 [[e46_9],[e46_11]]
abbrev e46_14 := K 102 [e46_13]
abbrev e46_15 := OI e46_14
abbrev e46_16 := NE e46_14 (I 0)
abbrev e46_17 := LO 4600 [.nils,v5,(LN v5),(I 0),v0,v1,v2,v3]
abbrev e46_18 := PJ 0 e46_17
abbrev e46_19 := EQ e46_18 (I 1)
abbrev e46_20 := Q e46_16 YY e46_19
abbrev e46_21 := PJ 1 e46_17
abbrev e46_22 := Q e46_16 .nils e46_21
abbrev e46_23 := Q e46_16 e46_14 (I 0)
def B4600 : Te LEnd := .ite (LT v3 v2) (
 .need e46_0 (
 .need e46_1 (
 .need e46_3 (
 .need e46_7 (
 .ok (.again [e46_5,v1,v2,(AD v3 (I 1)),v4,v5,v6,v7])))))) (
 .ok (.out 1 [v0]))
def d4600 : LoopD := ⟨7,⟨4600,8,(J 2 ((.ptr 0 0 0) :: (J 5 ((.sym (.own 3 [.str,.str,(.sl [(.int .i64)])]) v0) :: (J 16 ((S4 1) :: ((Si 2) :: ((Si 3) :: (J 20 []))))))))),⟨⟨6,[(0,.cells 4 [[(Ss 4),(S1 5),(Si 6),(Si 7)]])],[[]],none⟩,[(3,.rows [.str,.str,(.sl [(.int .i64)])] v0)],[]⟩,
 [(.exit 0,1,(J 8 ((.sym (.own 3 [.str,.str,(.sl [(.int .i64)])]) v0) :: (J 39 []))),⟨⟨6,[],[[]],none⟩,[(3,.rows [.str,.str,(.sl [(.int .i64)])] v0)],[]⟩)],[(1,[])]⟩,B4600⟩
@[simp] theorem d4600_id : d4600.L.id = 4600 := rfl
@[simp] theorem d4600_B : d4600.B = B4600 := rfl
def i46 : Inst := ⟨46, 0, [(.agg [(Ss 0), (S1 1), (Si 2), (Si 3)]), (.agg [(Si 4), (S4 5)])], [.one (.sl [.str, .str, (.sl [(.int .i64)])]), .one (.int .i64)]⟩
def s46 : List Cal := [c1100, c60, c103, c102, c104]
@[simp] theorem o46_1100 : OE s46 100 1 F1100 := oG rfl
@[simp] theorem o46_60 : OE s46 60 0 F60 := oG rfl
@[simp] theorem o46_103 : OE s46 103 0 F103 := oG rfl
@[simp] theorem o46_102 : OE s46 102 0 F102 := oG rfl
@[simp] theorem o46_104 : OE s46 104 0 F104 := oG rfl
@[simp] def l46 : List LoopD := [d4600]
def t46 : Te AV := .need e46_8 (
 .need e46_10 (
 .need e46_12 (
 .need e46_15 (
 .need e46_20 (
 .ok (.tuple [(.sym (.sl [.str,.str,(.sl [(.int .i64)])]) e46_22),(.sym (.int .i64) e46_23)]))))))
def F46 : List AV → Option AV := unitF (omL KK s46 l46) t46
def c46 : Cal := ⟨i46, F46⟩
theorem x46 : XO i46 F46 := XV s46 l46 t46 g46 ⟨x1100, x60, x103, x102, x104, trivial⟩ (by kernel_rfl) (by kernel_rfl) (by kernel_rfl)
end Go.Proofs.YtdeaibcebeofiaaGreatDoor.C5
