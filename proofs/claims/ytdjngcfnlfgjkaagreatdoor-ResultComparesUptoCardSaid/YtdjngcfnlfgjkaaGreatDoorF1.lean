/-
  Functions, as trees.
-/
import Derived.Test.YtdjngcfnlfgjkaaGreatDoorTab
import Derived.Test.YtdjngcfnlfgjkaaGreatDoorSm6
import Derived.Test.YtdjngcfnlfgjkaaGreatDoorRows0
set_option linter.unusedVariables false
set_option linter.unusedSimpArgs false
set_option linter.unusedSectionVars false
namespace Go.Proofs.YtdjngcfnlfgjkaaGreatDoor.C5
open Go Go.Proofs.YtdjngcfnlfgjkaaGreatDoor.AM Go.Proofs
def KK : Nat := 2097152
@[reducible] def I (n : Int) : X := .i .i64 n
@[reducible] def Q (c a b : X) : X := .p .ite [c, a, b]
@[reducible] def LE (a b : X) : X := .p (.bin .leq .i64) [a, b]
@[reducible] def LT (a b : X) : X := .p (.bin .lss .i64) [a, b]
@[reducible] def EQ (a b : X) : X := .p (.bin .eql .i64) [a, b]
@[reducible] def AD (a b : X) : X := .p (.bin .add .i64) [a, b]
@[reducible] def SB (a b : X) : X := .p (.bin .sub .i64) [a, b]
@[reducible] def C (k : Nat) (a b : X) : X := .p (.cell k) [a, b]
@[reducible] def LN (a : X) : X := .p .len [a]
@[reducible] def PJ (k : Nat) (a : X) : X := .p (.proj k) [a]
@[reducible] def NE (a b : X) : X := .p (.bin .neq .i64) [a, b]
@[reducible] def GT (a b : X) : X := .p (.bin .gtr .i64) [a, b]
@[reducible] def GE (a b : X) : X := .p (.bin .geq .i64) [a, b]
@[reducible] def RM (a b : X) : X := .p (.bin .rem .i64) [a, b]
@[reducible] def QU (a b : X) : X := .p (.bin .quo .i64) [a, b]
@[reducible] def MU (a b : X) : X := .p (.bin .mul .i64) [a, b]
@[reducible] def SE (a b : X) : X := .p (.sbin .eql) [a, b]
@[reducible] def SN (a b : X) : X := .p (.sbin .neq) [a, b]
@[reducible] def SA (a b : X) : X := .p (.sbin .add) [a, b]
@[reducible] def CO (a b : X) : X := .p .catOk [a, b]
@[reducible] def KE (a b : X) : X := .p .keq [a, b]
@[reducible] def BE (a b : X) : X := .p .beq [a, b]
@[reducible] def NO (a : X) : X := .p .not [a]
@[reducible] def OI (a : X) : X := .p (.okr [.one (.int .i64)]) [a]
@[reducible] def OS (a : X) : X := .p (.okr [.one .str]) [a]
@[reducible] def OB (a : X) : X := .p (.okr [.one .bool]) [a]
@[reducible] def FL (k : Nat) (a : X) : X := .p (.fld k) [a]
@[reducible] def K (f : Nat) (l : List X) : X := .p (.call f 0) l
@[reducible] def LO (n : Nat) (l : List X) : X := .p (.call 100000 n) l
@[reducible] def YY : X := .b true
@[reducible] def v0 : X := .v 0
@[reducible] def v1 : X := .v 1
@[reducible] def v2 : X := .v 2
@[reducible] def v3 : X := .v 3
@[reducible] def v4 : X := .v 4
@[reducible] def v5 : X := .v 5
@[reducible] def v6 : X := .v 6
@[reducible] def v7 : X := .v 7
@[reducible] def v8 : X := .v 8
@[reducible] def v9 : X := .v 9
@[reducible] def v10 : X := .v 10
@[reducible] def v11 : X := .v 11
@[reducible] def v12 : X := .v 12
@[reducible] def v13 : X := .v 13
@[reducible] def v14 : X := .v 14
@[reducible] def v15 : X := .v 15
@[reducible] def v16 : X := .v 16
@[reducible] def v17 : X := .v 17
@[reducible] def v18 : X := .v 18
@[reducible] def v19 : X := .v 19
@[reducible] def v20 : X := .v 20
@[reducible] def v21 : X := .v 21
@[reducible] def v22 : X := .v 22
@[reducible] def v23 : X := .v 23
def Si (n : Nat) : AV := .sym (.int .i64) (.v n)
def Ss (n : Nat) : AV := .sym .str (.v n)
def Sb (n : Nat) : AV := .sym .bool (.v n)
def S1 (n : Nat) : AV := .sym (.sl [.str]) (.v n)
def S2 (n : Nat) : AV := .sym (.sl [.int .i64]) (.v n)
def S3 (n : Nat) : AV := .sym (.sl [.int .i64, .int .i64, .int .i64, .bool]) (.v n)
def S4 (n : Nat) : AV := .sym (.sl [.str, .str, .int .i64, .int .i64, .int .i64, .int .i64, .bool, .bool, .bool, .sl [.int .i64, .int .i64, .int .i64, .bool], .sl [.int .i64]]) (.v n)
def J : Nat → List AV → List AV
 | 0, l => l
 | n + 1, l => .junk :: J n l
def allX (P : Program) : List Cal → Prop
 | [] => True
 | c :: cs => ExtOk P c.I.f (extI c.I c.F) ∧ allX P cs
theorem allX_mem {P : Program} : ∀ {cs : List Cal}, allX P cs → ∀ c ∈ cs, ExtOk P c.I.f (extI c.I c.F)
 | _ :: _, h, _, .head _ => h.1
 | _ :: _, h, _, .tail _ hc => allX_mem h.2 _ hc
def calF : List Cal → Nat → Nat → Option (List AV → Option AV)
 | [], _, _ => none
 | c :: cs, f, n => if c.I.f = f ∧ c.I.n = n then some c.F else calF cs f n
abbrev OE (cs : List Cal) (f n : Nat) (F : List AV → Option AV) : Prop := ∀ vs, calO cs f n vs = getJ (F vs)
theorem oG {f n : Nat} {F : List AV → Option AV} : ∀ {cs : List Cal}, calF cs f n = some F → ∀ vs, calO cs f n vs = getJ (F vs)
 | [], h, _ => by cases h
 | c :: cs, h, vs => by
   simp only [calF] at h
   simp only [calO]
   split at h
   ·rename_i hc; rw [if_pos hc]; injection h with h; rw [h]
   ·rename_i hc; rw [if_neg hc]; exact oG h vs
abbrev XO (i : Inst) (F : List AV → Option AV) := ExtOk Tryz.prog i.f (extI i F)
theorem XU {i : Inst} {cs : List Cal} {ds : List LoopD} {t : Te AV} (h : allX Tryz.prog cs) {x : FnE} (h1 : tab.fn.get i.f = some x) (h2 : x.fn.body.isNone = false) (h3 : unitChk tab keep cs ds 40 i.f i.pats t = true) : XO i (unitF (omL KK cs ds) t) :=
 unit_ext tabOf.1 tabOf.2 (allX_mem h) (fn_known tabOf.1 h1 h2) h3
theorem XV {i : Inst} (cs : List Cal) (ds : List LoopD) (t : Te AV) (x : FnE) (h : allX Tryz.prog cs) (h1 : tab.fn.get i.f = some x) (h2 : x.fn.body.isNone = false) (h3 : unitChk tab keep cs ds 40 i.f i.pats t = true) : XO i (unitF (omL KK cs ds) t) := XU h h1 h2 h3
theorem cal_cons (c : Cal) (cs : List Cal) (f n : Nat) (vs : List AV) : calO (c :: cs) f n vs = if c.I.f = f ∧ c.I.n = n then getJ (c.F vs) else calO cs f n vs := rfl
def w0 : ByteArray := ⟨#[]⟩
def w1 : ByteArray := ⟨#[100, 110, 115]⟩
def w2 : ByteArray := ⟨#[100, 110, 102]⟩
def w3 : ByteArray := ⟨#[100, 115, 113]⟩
set_option maxRecDepth 100000
abbrev e76_0 := Q (LE (I 0) v2) (LT v2 (LN v0)) (.b false)
abbrev e76_1 := NE (C 0 v0 v2) (I 0)
abbrev e76_2 := LO 7600 [v0,(LN v0),(I 0)]
abbrev e76_3 := PJ 0 e76_2
abbrev e76_4 := EQ e76_3 (I 1)
abbrev e76_5 := EQ e76_3 (I 2)
abbrev e76_6 := Q e76_4 YY e76_5
abbrev e76_7 := PJ 1 e76_2
abbrev e76_8 := Q e76_4 e76_7 (I 0)
def B7600 : Te LEnd := .ite (LT v2 v1) (
 .need e76_0 (
 .ite e76_1 (
 .ok (.out 1 [(C 0 v0 v2)])) (
 .ok (.again [v0,v1,(AD v2 (I 1))])))) (
 .ok (.out 2 []))
def d7600 : LoopD := ⟨2,⟨7600,3,(J 5 ((S2 0) :: ((Si 1) :: ((Si 2) :: (J 7 []))))),⟨⟨0,[],[[]],none⟩,[],[]⟩,
 [(.ret,1,(J 2 ((Si 0) :: (J 12 []))),⟨⟨0,[],[[]],none⟩,[],[]⟩),
  (.exit 0,0,(J 15 []),⟨⟨0,[],[[]],none⟩,[],[]⟩)],[(1,[]),(2,[])]⟩,B7600⟩
@[simp] theorem d7600_id : d7600.L.id = 7600 := rfl
@[simp] theorem d7600_B : d7600.B = B7600 := rfl
def i76 : Inst := ⟨76, 0, [(S2 0)], [.one (.int .i64)]⟩
def s76 : List Cal := []
@[simp] def l76 : List LoopD := [d7600]
def t76 : Te AV := .need e76_6 (
 .ok (.sym (.int .i64) e76_8))
def F76 : List AV → Option AV := unitF (omL KK s76 l76) t76
def c76 : Cal := ⟨i76, F76⟩
theorem x76 : XO i76 F76 := XV s76 l76 t76 g76 trivial (by kernel_rfl) (by kernel_rfl) (by kernel_rfl)
def i80 : Inst := ⟨80, 0, [(Sb 0), (Si 1)], [.one (.int .i64)]⟩
def s80 : List Cal := []
@[simp] def l80 : List LoopD := []
def t80 : Te AV := .ok (.sym (.int .i64) (Q v0 v1 (I 0)))
def F80 : List AV → Option AV := unitF (omL KK s80 l80) t80
def c80 : Cal := ⟨i80, F80⟩
theorem x80 : XO i80 F80 := XV s80 l80 t80 g80 trivial (by kernel_rfl) (by kernel_rfl) (by kernel_rfl)
abbrev e84_0 := Q (GT v0 v1) (I 1) (I 0)
abbrev e84_1 := Q (LT v0 v1) (I (-1)) e84_0
def i84 : Inst := ⟨84, 0, [(Si 0), (Si 1)], [.one (.int .i64)]⟩
def s84 : List Cal := []
@[simp] def l84 : List LoopD := []
def t84 : Te AV := .ok (.sym (.int .i64) e84_1)
def F84 : List AV → Option AV := unitF (omL KK s84 l84) t84
def c84 : Cal := ⟨i84, F84⟩
theorem x84 : XO i84 F84 := XV s84 l84 t84 g84 trivial (by kernel_rfl) (by kernel_rfl) (by kernel_rfl)
abbrev e88_0 : X := .p (.bin .geq .i32) [(.p .rune [v1,v2]),(.i .i32 (97))]
abbrev e88_1 : X := .p (.bin .leq .i32) [(.p .rune [v1,v2]),(.i .i32 (122))]
abbrev e88_2 : X := .p (.bin .geq .i32) [(.p .rune [v1,v2]),(.i .i32 (65))]
abbrev e88_3 : X := .p (.bin .leq .i32) [(.p .rune [v1,v2]),(.i .i32 (90))]
abbrev e88_4 := Q e88_2 e88_3 (.b false)
abbrev e88_5 := Q e88_1 YY e88_4
abbrev e88_6 := Q e88_0 e88_5 e88_4
abbrev e88_7 := NO e88_6
abbrev e88_8 : X := .p (.bin .neq .i32) [(.p .rune [v1,v2]),(.i .i32 (95))]
abbrev e88_9 : X := .p (.bin .lss .i32) [(.p .rune [v1,v2]),(.i .i32 (48))]
abbrev e88_10 : X := .p (.bin .gtr .i32) [(.p .rune [v1,v2]),(.i .i32 (57))]
abbrev e88_11 := Q e88_9 YY e88_10
abbrev e88_12 := Q e88_8 e88_11 (.b false)
abbrev e88_13 := Q (EQ v2 (I 0)) YY e88_12
abbrev e88_14 := Q e88_7 e88_13 (.b false)
abbrev e88_15 := LO 8800 [v0,v0,(I 0)]
abbrev e88_16 := PJ 0 e88_15
abbrev e88_17 := EQ e88_16 (I 1)
abbrev e88_18 := EQ e88_16 (I 2)
abbrev e88_19 := Q e88_17 YY e88_18
abbrev e88_20 := Q (SN v0 (.s w0)) (LE (LN v0) (I 24)) (.b false)
abbrev e88_21 := Q e88_17 (.b false) e88_20
def B8800 : Te LEnd := .ite (LT v2 (LN v1)) (
 .ite e88_14 (
 .ok (.out 1 [])) (
 .ok (.again [v0,v1,(.p .adv [v1,v2])]))) (
 .ok (.out 2 [v0]))
def d8800 : LoopD := ⟨2,⟨8800,3,((Ss 0) :: (J 5 ((.sym (.sown 0) YY) :: (J 30 [])))),⟨⟨1,[],[[]],none⟩,[(0,.si v1 v2)],[]⟩,
 [(.ret,0,(J 2 ((.bool false) :: (J 34 []))),⟨⟨1,[],[[]],none⟩,[],[]⟩),
  (.exit 0,1,((Ss 0) :: (J 36 [])),⟨⟨1,[],[[]],none⟩,[],[]⟩)],[(1,[]),(2,[(0,0)])]⟩,B8800⟩
@[simp] theorem d8800_id : d8800.L.id = 8800 := rfl
@[simp] theorem d8800_B : d8800.B = B8800 := rfl
def i88 : Inst := ⟨88, 0, [(Ss 0)], [.one .bool]⟩
def s88 : List Cal := []
@[simp] def l88 : List LoopD := [d8800]
def t88 : Te AV := .need e88_19 (
 .ok (.sym .bool e88_21))
def F88 : List AV → Option AV := unitF (omL KK s88 l88) t88
def c88 : Cal := ⟨i88, F88⟩
theorem x88 : XO i88 F88 := XV s88 l88 t88 g88 trivial (by kernel_rfl) (by kernel_rfl) (by kernel_rfl)
abbrev e89_0 := Q (LE (I 0) v1) (LT v1 (LN v0)) (.b false)
abbrev e89_1 : X := .p (.bin .geq .u8) [(.p .byte [v0,v1]),(.i .u8 (97))]
abbrev e89_2 : X := .p (.bin .leq .u8) [(.p .byte [v0,v1]),(.i .u8 (122))]
abbrev e89_3 : X := .p (.bin .geq .u8) [(.p .byte [v0,v1]),(.i .u8 (65))]
abbrev e89_4 : X := .p (.bin .leq .u8) [(.p .byte [v0,v1]),(.i .u8 (90))]
abbrev e89_5 := Q e89_3 e89_4 (.b false)
abbrev e89_6 := Q e89_2 YY e89_5
abbrev e89_7 := Q e89_1 e89_6 e89_5
abbrev e89_8 := NO e89_7
abbrev e89_9 : X := .p (.bin .geq .u8) [(.p .byte [v0,v1]),(.i .u8 (48))]
abbrev e89_10 : X := .p (.bin .leq .u8) [(.p .byte [v0,v1]),(.i .u8 (57))]
abbrev e89_11 : X := .p (.bin .eql .u8) [(.p .byte [v0,v1]),(.i .u8 (95))]
abbrev e89_12 := NO e89_11
abbrev e89_13 := Q e89_10 (.b false) e89_12
abbrev e89_14 := Q e89_9 e89_13 e89_12
abbrev e89_15 := Q (EQ v1 (I 0)) YY e89_14
abbrev e89_16 := Q e89_8 e89_15 (.b false)
abbrev e89_17 := GT (LN v0) (I 24)
abbrev e89_18 := Q (LT (LN v0) (I 1)) YY e89_17
abbrev e89_19 := LO 8900 [v0,(I 0)]
abbrev e89_20 := PJ 0 e89_19
abbrev e89_21 := EQ e89_20 (I 1)
abbrev e89_22 := EQ e89_20 (I 2)
abbrev e89_23 := Q e89_21 YY e89_22
abbrev e89_24 := Q e89_18 YY e89_23
abbrev e89_25 := Q e89_21 (.b false) YY
abbrev e89_26 := Q e89_18 (.b false) e89_25
def B8900 : Te LEnd := .ite (LT v1 (LN v0)) (
 .need e89_0 (
 .ite e89_16 (
 .ok (.out 1 [])) (
 .ok (.again [v0,(AD v1 (I 1))])))) (
 .ok (.out 2 []))
def d8900 : LoopD := ⟨4,⟨8900,2,((Ss 0) :: (J 2 ((Si 1) :: (J 52 [])))),⟨⟨0,[],[[]],none⟩,[],[]⟩,
 [(.ret,0,(J 2 ((.bool false) :: (J 53 []))),⟨⟨0,[],[[]],none⟩,[],[]⟩),
  (.exit 0,0,(J 56 []),⟨⟨0,[],[[]],none⟩,[],[]⟩)],[(1,[]),(2,[])]⟩,B8900⟩
@[simp] theorem d8900_id : d8900.L.id = 8900 := rfl
@[simp] theorem d8900_B : d8900.B = B8900 := rfl
def i89 : Inst := ⟨89, 0, [(Ss 0)], [.one .bool]⟩
def s89 : List Cal := []
@[simp] def l89 : List LoopD := [d8900]
def t89 : Te AV := .need e89_24 (
 .ok (.sym .bool e89_26))
def F89 : List AV → Option AV := unitF (omL KK s89 l89) t89
def c89 : Cal := ⟨i89, F89⟩
theorem x89 : XO i89 F89 := XV s89 l89 t89 g89 trivial (by kernel_rfl) (by kernel_rfl) (by kernel_rfl)
abbrev e124_0 := Q (LE (I 0) v3) (LT v3 (LN v0)) (.b false)
abbrev e124_1 := SE v1 (C 0 v0 v3)
abbrev e124_2 := LO 12400 [v0,v1,(LN v0),(I 0)]
abbrev e124_3 := PJ 0 e124_2
abbrev e124_4 := EQ e124_3 (I 1)
abbrev e124_5 := EQ e124_3 (I 2)
abbrev e124_6 := Q e124_4 YY e124_5
abbrev e124_7 := PJ 1 e124_2
abbrev e124_8 := Q e124_4 e124_7 (I (-1))
def B12400 : Te LEnd := .ite (LT v3 v2) (
 .need e124_0 (
 .ite e124_1 (
 .ok (.out 1 [v3])) (
 .ok (.again [v0,v1,v2,(AD v3 (I 1))])))) (
 .ok (.out 2 []))
def d12400 : LoopD := ⟨2,⟨12400,4,((S1 0) :: ((Ss 1) :: (J 5 ((Si 2) :: ((Si 3) :: (J 10 [])))))),⟨⟨0,[],[[]],none⟩,[],[]⟩,
 [(.ret,1,(J 4 ((Si 0) :: (J 14 []))),⟨⟨0,[],[[]],none⟩,[],[]⟩),
  (.exit 0,0,(J 19 []),⟨⟨0,[],[[]],none⟩,[],[]⟩)],[(1,[]),(2,[])]⟩,B12400⟩
@[simp] theorem d12400_id : d12400.L.id = 12400 := rfl
@[simp] theorem d12400_B : d12400.B = B12400 := rfl
def i124 : Inst := ⟨124, 0, [(S1 0), (Ss 1)], [.one (.int .i64)]⟩
def s124 : List Cal := []
@[simp] def l124 : List LoopD := [d12400]
def t124 : Te AV := .need e124_6 (
 .ok (.sym (.int .i64) e124_8))
def F124 : List AV → Option AV := unitF (omL KK s124 l124) t124
def c124 : Cal := ⟨i124, F124⟩
theorem x124 : XO i124 F124 := XV s124 l124 t124 g124 trivial (by kernel_rfl) (by kernel_rfl) (by kernel_rfl)
def i125 : Inst := ⟨125, 0, [], [.one (.sl [.str])]⟩
def s125 : List Cal := []
@[simp] def l125 : List LoopD := []
def t125 : Te AV := .ok (.sl 1 [[(.str w0)],[(.str w1)],[(.str w2)],[(.str w3)]])
def F125 : List AV → Option AV := unitF (omL KK s125 l125) t125
def c125 : Cal := ⟨i125, F125⟩
theorem x125 : XO i125 F125 := XV s125 l125 t125 g125 trivial (by kernel_rfl) (by kernel_rfl) (by kernel_rfl)
abbrev e95_0 := OI (K 124 [v0,v1])
abbrev e95_1 := GE (K 124 [v0,v1]) (I 0)
def i95 : Inst := ⟨95, 0, [(S1 0), (Ss 1)], [.one .bool]⟩
def s95 : List Cal := [c124]
@[simp] theorem o95_124 : OE s95 124 0 F124 := oG rfl
@[simp] def l95 : List LoopD := []
def t95 : Te AV := .need e95_0 (
 .ok (.sym .bool e95_1))
def F95 : List AV → Option AV := unitF (omL KK s95 l95) t95
def c95 : Cal := ⟨i95, F95⟩
theorem x95 : XO i95 F95 := XV s95 l95 t95 g95 ⟨x124, trivial⟩ (by kernel_rfl) (by kernel_rfl) (by kernel_rfl)
abbrev e128_0 := GT v0 (I 999999999)
abbrev e128_1 := Q (LT v0 (I (-999999999))) YY e128_0
def i128 : Inst := ⟨128, 0, [(Si 0)], [.one .bool]⟩
def s128 : List Cal := []
@[simp] def l128 : List LoopD := []
def t128 : Te AV := .ok (.sym .bool e128_1)
def F128 : List AV → Option AV := unitF (omL KK s128 l128) t128
def c128 : Cal := ⟨i128, F128⟩
theorem x128 : XO i128 F128 := XV s128 l128 t128 g128 trivial (by kernel_rfl) (by kernel_rfl) (by kernel_rfl)
abbrev e133_0 := Q (LE (I 0) v2) (LT v2 (LN v0)) (.b false)
abbrev e133_1 := OB (K 128 [(C 0 v0 v2)])
abbrev e133_2 := LO 13300 [v0,(LN v0),(I 0)]
abbrev e133_3 := PJ 0 e133_2
abbrev e133_4 := EQ e133_3 (I 1)
abbrev e133_5 := EQ e133_3 (I 2)
abbrev e133_6 := Q e133_4 YY e133_5
abbrev e133_7 := PJ 1 e133_2
abbrev e133_8 := Q e133_4 e133_7 (I (-1))
def B13300 : Te LEnd := .ite (LT v2 v1) (
 .need e133_0 (
 .need e133_1 (
 .ite (K 128 [(C 0 v0 v2)]) (
 .ok (.out 1 [v2])) (
 .ok (.again [v0,v1,(AD v2 (I 1))]))))) (
 .ok (.out 2 []))
def d13300 : LoopD := ⟨2,⟨13300,3,((S2 0) :: ((.func (.func 128) [] []) :: (J 5 ((Si 1) :: ((Si 2) :: (J 10 [])))))),⟨⟨0,[],[[]],none⟩,[],[]⟩,
 [(.ret,1,(J 4 ((Si 0) :: (J 14 []))),⟨⟨0,[],[[]],none⟩,[],[]⟩),
  (.exit 0,0,(J 19 []),⟨⟨0,[],[[]],none⟩,[],[]⟩)],[(1,[]),(2,[])]⟩,B13300⟩
@[simp] theorem d13300_id : d13300.L.id = 13300 := rfl
@[simp] theorem d13300_B : d13300.B = B13300 := rfl
def i133 : Inst := ⟨133, 0, [(S2 0), (.func (.func 128) [] [])], [.one (.int .i64)]⟩
def s133 : List Cal := [c128]
@[simp] theorem o133_128 : OE s133 128 0 F128 := oG rfl
@[simp] def l133 : List LoopD := [d13300]
def t133 : Te AV := .need e133_6 (
 .ok (.sym (.int .i64) e133_8))
def F133 : List AV → Option AV := unitF (omL KK s133 l133) t133
def c133 : Cal := ⟨i133, F133⟩
theorem x133 : XO i133 F133 := XV s133 l133 t133 g133 ⟨x128, trivial⟩ (by kernel_rfl) (by kernel_rfl) (by kernel_rfl)
abbrev e96_0 := OI (K 133 [v0])
abbrev e96_1 := GE (K 133 [v0]) (I 0)
def i96 : Inst := ⟨96, 0, [(S2 0), (.func (.func 128) [] [])], [.one .bool]⟩
def s96 : List Cal := [c133]
@[simp] theorem o96_133 : OE s96 133 0 F133 := oG rfl
@[simp] def l96 : List LoopD := []
def t96 : Te AV := .need e96_0 (
 .ok (.sym .bool e96_1))
def F96 : List AV → Option AV := unitF (omL KK s96 l96) t96
def c96 : Cal := ⟨i96, F96⟩
theorem x96 : XO i96 F96 := XV s96 l96 t96 g96 ⟨x133, trivial⟩ (by kernel_rfl) (by kernel_rfl) (by kernel_rfl)
def i156 : Inst := ⟨156, 0, [(Si 0)], [.one .bool]⟩
def s156 : List Cal := []
@[simp] def l156 : List LoopD := []
def t156 : Te AV := .ok (.sym .bool (NE v0 v0))
def F156 : List AV → Option AV := unitF (omL KK s156 l156) t156
def c156 : Cal := ⟨i156, F156⟩
theorem x156 : XO i156 F156 := XV s156 l156 t156 g156 trivial (by kernel_rfl) (by kernel_rfl) (by kernel_rfl)
abbrev e123_0 := OB (K 156 [v0])
abbrev e123_1 := OB (K 156 [v1])
abbrev e123_2 := Q (K 156 [v1]) (I 0) (I (-1))
abbrev e123_3 := Q (GT v0 v1) (I 1) (I 0)
abbrev e123_4 := Q (LT v0 v1) (I (-1)) e123_3
abbrev e123_5 := Q (K 156 [v1]) (I 1) e123_4
abbrev e123_6 := Q (K 156 [v0]) e123_2 e123_5
def i123 : Inst := ⟨123, 0, [(Si 0), (Si 1)], [.one (.int .i64)]⟩
def s123 : List Cal := [c156]
@[simp] theorem o123_156 : OE s123 156 0 F156 := oG rfl
@[simp] def l123 : List LoopD := []
def t123 : Te AV := .need e123_0 (
 .need e123_1 (
 .ok (.sym (.int .i64) e123_6)))
def F123 : List AV → Option AV := unitF (omL KK s123 l123) t123
def c123 : Cal := ⟨i123, F123⟩
theorem x123 : XO i123 F123 := XV s123 l123 t123 g123 ⟨x156, trivial⟩ (by kernel_rfl) (by kernel_rfl) (by kernel_rfl)
abbrev e103_0 := Q (LE (I 0) v3) (LT v3 (LN v0)) (.b false)
abbrev e103_1 := GE v3 (LN v1)
abbrev e103_2 := Q (LE (I 0) v3) (LT v3 (LN v1)) (.b false)
abbrev e103_3 := K 123 [(C 0 v0 v3),(C 0 v1 v3)]
abbrev e103_4 := OI e103_3
abbrev e103_5 := NE e103_3 (I 0)
abbrev e103_6 := LO 10300 [v0,v1,(LN v0),(I 0)]
abbrev e103_7 := PJ 0 e103_6
abbrev e103_8 := EQ e103_7 (I 1)
abbrev e103_9 := EQ e103_7 (I 2)
abbrev e103_10 := Q e103_8 YY e103_9
abbrev e103_11 := PJ 1 e103_6
abbrev e103_12 := Q (LT (LN v0) (LN v1)) (I (-1)) (I 0)
abbrev e103_13 := Q e103_8 e103_11 e103_12
def B10300 : Te LEnd := .ite (LT v3 v2) (
 .need e103_0 (
 .ite e103_1 (
 .ok (.out 1 [(I 1)])) (
 .need e103_2 (
 .need e103_4 (
 .ite e103_5 (
 .ok (.out 1 [e103_3])) (
 .ok (.again [v0,v1,v2,(AD v3 (I 1))]))))))) (
 .ok (.out 2 [v0,v1]))
def d10300 : LoopD := ⟨2,⟨10300,4,((S2 0) :: ((S2 1) :: (J 7 ((S2 0) :: ((Si 2) :: ((Si 3) :: (J 24 []))))))),⟨⟨0,[],[[]],none⟩,[],[]⟩,
 [(.ret,1,(J 4 ((Si 0) :: (J 31 []))),⟨⟨0,[],[[]],none⟩,[],[]⟩),
  (.exit 0,2,((S2 0) :: ((S2 1) :: (J 34 []))),⟨⟨0,[],[[]],none⟩,[],[]⟩)],[(1,[]),(2,[(0,0),(1,1)])]⟩,B10300⟩
@[simp] theorem d10300_id : d10300.L.id = 10300 := rfl
@[simp] theorem d10300_B : d10300.B = B10300 := rfl
def i103 : Inst := ⟨103, 0, [(S2 0), (S2 1)], [.one (.int .i64)]⟩
def s103 : List Cal := [c123]
@[simp] theorem o103_123 : OE s103 123 0 F123 := oG rfl
@[simp] def l103 : List LoopD := [d10300]
def t103 : Te AV := .need e103_10 (
 .ok (.sym (.int .i64) e103_13))
def F103 : List AV → Option AV := unitF (omL KK s103 l103) t103
def c103 : Cal := ⟨i103, F103⟩
theorem x103 : XO i103 F103 := XV s103 l103 t103 g103 ⟨x123, trivial⟩ (by kernel_rfl) (by kernel_rfl) (by kernel_rfl)
abbrev e75_0 : X := .p (.okr [.one (.sl [.str])]) [(K 125 [])]
abbrev e75_1 := K 124 [(K 125 []),v1]
abbrev e75_2 := OI e75_1
abbrev e75_3 := K 124 [(K 125 []),v4]
abbrev e75_4 := OI e75_3
abbrev e75_5 := K 123 [e75_1,e75_3]
abbrev e75_6 := OI e75_5
abbrev e75_7 := NE e75_5 (I 0)
abbrev e75_8 := OI (K 103 [v5,v2])
abbrev e75_9 := Q e75_7 YY e75_8
abbrev e75_10 := Q e75_7 e75_5 (K 103 [v5,v2])
def i75 : Inst := ⟨75, 0, [(.agg [(Ss 0), (Ss 1), (S2 2)]), (.agg [(Ss 3), (Ss 4), (S2 5)])], [.one (.int .i64)]⟩
def s75 : List Cal := [c125, c124, c123, c103]
@[simp] theorem o75_125 : OE s75 125 0 F125 := oG rfl
@[simp] theorem o75_124 : OE s75 124 0 F124 := oG rfl
@[simp] theorem o75_123 : OE s75 123 0 F123 := oG rfl
@[simp] theorem o75_103 : OE s75 103 0 F103 := oG rfl
@[simp] def l75 : List LoopD := []
def t75 : Te AV := .need e75_0 (
 .need e75_2 (
 .need e75_4 (
 .need e75_6 (
 .need e75_9 (
 .ok (.sym (.int .i64) e75_10))))))
def F75 : List AV → Option AV := unitF (omL KK s75 l75) t75
def c75 : Cal := ⟨i75, F75⟩
theorem x75 : XO i75 F75 := XV s75 l75 t75 g75 ⟨x125, x124, x123, x103, trivial⟩ (by kernel_rfl) (by kernel_rfl) (by kernel_rfl)
abbrev e79_0 := OB (K 96 [v2])
abbrev e79_1 := OB (K 88 [v0])
abbrev e79_2 := K 80 [(NO (K 88 [v0])),(I 8)]
abbrev e79_3 := OI e79_2
abbrev e79_4 : X := .p (.okr [.one (.sl [.str])]) [(K 125 [])]
abbrev e79_5 := K 95 [(K 125 []),v1]
abbrev e79_6 := OB e79_5
abbrev e79_7 := NO e79_5
abbrev e79_8 := K 80 [e79_7,(I 13)]
abbrev e79_9 := OI e79_8
abbrev e79_10 := GT (LN v2) (I 0)
abbrev e79_11 := K 80 [e79_10,(I 1)]
abbrev e79_12 := OI e79_11
abbrev e79_13 := Q (SN v1 (.s w0)) e79_12 YY
abbrev e79_14 := GT (LN v2) (I 8)
abbrev e79_15 := K 80 [e79_14,(I 5)]
abbrev e79_16 := OI e79_15
abbrev e79_17 := Q (SN v1 (.s w0)) e79_16 YY
abbrev e79_18 := K 80 [(K 96 [v2]),(I 3)]
abbrev e79_19 := OI e79_18
abbrev e79_20 := Q (SN v1 (.s w0)) e79_19 YY
abbrev e79_21 : X := .sl 1 [[e79_2],[e79_8],[e79_11],[e79_15],[e79_18]]
abbrev e79_22 := K 76 [e79_21]
abbrev e79_23 := OI e79_22
abbrev e79_24 := Q (SN v1 (.s w0)) e79_23 YY
abbrev e79_25 := OI (K 80 [(.b false),(I 1)])
abbrev e79_26 := Q (SN v1 (.s w0)) YY e79_25
abbrev e79_27 := Q (SN v1 (.s w0)) YY e79_16
abbrev e79_28 := Q (SN v1 (.s w0)) YY e79_19
abbrev e79_29 : X := .sl 1 [[e79_2],[e79_8],[(K 80 [(.b false),(I 1)])],[e79_15],[e79_18]]
abbrev e79_30 := K 76 [e79_29]
abbrev e79_31 := OI e79_30
abbrev e79_32 := Q (SN v1 (.s w0)) YY e79_31
abbrev e79_33 := Q (SN v1 (.s w0)) e79_22 e79_30
def i79 : Inst := ⟨79, 0, [(.agg [(Ss 0), (Ss 1), (S2 2)])], [.one (.int .i64)]⟩
def s79 : List Cal := [c96, c88, c80, c125, c95, c76]
@[simp] theorem o79_96 : OE s79 96 0 F96 := oG rfl
@[simp] theorem o79_88 : OE s79 88 0 F88 := oG rfl
@[simp] theorem o79_80 : OE s79 80 0 F80 := oG rfl
@[simp] theorem o79_125 : OE s79 125 0 F125 := oG rfl
@[simp] theorem o79_95 : OE s79 95 0 F95 := oG rfl
@[simp] theorem o79_76 : OE s79 76 0 F76 := oG rfl
@[simp] def l79 : List LoopD := []
def t79 : Te AV := .need e79_0 (
 .need e79_1 (
 .need e79_3 (
 .need e79_4 (
 .need e79_6 (
 .need e79_9 (
 .need e79_13 (
 .need e79_17 (
 .need e79_20 (
 .need e79_24 (
 .need e79_26 (
 .need e79_27 (
 .need e79_28 (
 .need e79_32 (
 .ok (.sym (.int .i64) e79_33)))))))))))))))
def F79 : List AV → Option AV := unitF (omL KK s79 l79) t79
def c79 : Cal := ⟨i79, F79⟩
theorem x79 : XO i79 F79 := XV s79 l79 t79 g79 ⟨x96, x88, x80, x125, x95, x76, trivial⟩ (by kernel_rfl) (by kernel_rfl) (by kernel_rfl)
abbrev e100_0 := Q (SE v0 (.s w3)) (I 3) (I (-1))
abbrev e100_1 := Q (SE v0 (.s w2)) (I 2) e100_0
abbrev e100_2 := Q (SE v0 (.s w1)) (I 1) e100_1
abbrev e100_3 := Q (SE v0 (.s w0)) (I 0) e100_2
def i100 : Inst := ⟨100, 0, [(Ss 0)], [.one (.int .i64)]⟩
def s100 : List Cal := []
@[simp] def l100 : List LoopD := []
def t100 : Te AV := .ok (.sym (.int .i64) e100_3)
def F100 : List AV → Option AV := unitF (omL KK s100 l100) t100
def c100 : Cal := ⟨i100, F100⟩
theorem x100 : XO i100 F100 := XV s100 l100 t100 g100 trivial (by kernel_rfl) (by kernel_rfl) (by kernel_rfl)
abbrev e49_0 := Q (LE (I 0) v0) (LT v0 (LN v3)) (.b false)
abbrev e49_1 := LT (C 0 v3 v0) (I (-999999999))
abbrev e49_2 := GT (C 0 v3 v0) (I 999999999)
abbrev e49_3 := Q e49_1 YY e49_2
abbrev e49_4 := OB (K 89 [v0])
abbrev e49_5 := OI (K 100 [v1])
abbrev e49_6 := Q (NO (K 89 [v0])) YY e49_5
abbrev e49_7 := GT (LN v2) (I 0)
abbrev e49_8 := Q (SN v1 (.s w0)) e49_7 (.b false)
abbrev e49_9 := GT (LN v2) (I 8)
abbrev e49_10 := LO 4900 [(I 0),v0,v1,v2]
abbrev e49_11 := PJ 0 e49_10
abbrev e49_12 := EQ e49_11 (I 1)
abbrev e49_13 := EQ e49_11 (I 2)
abbrev e49_14 := Q e49_12 YY e49_13
abbrev e49_15 := Q e49_9 YY e49_14
abbrev e49_16 := Q e49_8 YY e49_15
abbrev e49_17 := Q (LT (K 100 [v1]) (I 0)) YY e49_16
abbrev e49_18 := Q (NO (K 89 [v0])) YY e49_17
abbrev e49_19 := Q e49_12 (I 3) (I 0)
abbrev e49_20 := Q e49_9 (I 5) e49_19
abbrev e49_21 := Q e49_8 (I 1) e49_20
abbrev e49_22 := Q (LT (K 100 [v1]) (I 0)) (I 13) e49_21
abbrev e49_23 := Q (NO (K 89 [v0])) (I 8) e49_22
def B4900 : Te LEnd := .ite (LT v0 (LN v3)) (
 .need e49_0 (
 .ite e49_3 (
 .ok (.out 1 [])) (
 .ok (.again [(AD v0 (I 1)),v1,v2,v3])))) (
 .ok (.out 2 []))
def d4900 : LoopD := ⟨10,⟨4900,4,(J 1 ((.ptr 0 0 0) :: (J 1 ((Si 0) :: (J 42 []))))),⟨⟨1,[(0,.cells 3 [[(Ss 1),(Ss 2),(S2 3)]])],[[]],none⟩,[],[]⟩,
 [(.ret,0,(J 2 ((.int .i64 (3)) :: (J 43 []))),⟨⟨1,[],[[]],none⟩,[],[]⟩),
  (.exit 0,0,(J 46 []),⟨⟨1,[],[[]],none⟩,[],[]⟩)],[(1,[]),(2,[])]⟩,B4900⟩
@[simp] theorem d4900_id : d4900.L.id = 4900 := rfl
@[simp] theorem d4900_B : d4900.B = B4900 := rfl
def i49 : Inst := ⟨49, 0, [(.agg [(Ss 0), (Ss 1), (S2 2)])], [.one (.int .i64)]⟩
def s49 : List Cal := [c89, c100]
@[simp] theorem o49_89 : OE s49 89 0 F89 := oG rfl
@[simp] theorem o49_100 : OE s49 100 0 F100 := oG rfl
@[simp] def l49 : List LoopD := [d4900]
def t49 : Te AV := .need e49_4 (
 .need e49_6 (
 .need e49_18 (
 .ok (.sym (.int .i64) e49_23))))
def F49 : List AV → Option AV := unitF (omL KK s49 l49) t49
def c49 : Cal := ⟨i49, F49⟩
theorem x49 : XO i49 F49 := XV s49 l49 t49 g49 ⟨x89, x100, trivial⟩ (by kernel_rfl) (by kernel_rfl) (by kernel_rfl)
abbrev e50_0 := Q (LE (I 0) v0) (LT v0 (LN v6)) (.b false)
abbrev e50_1 := Q (LE (I 0) v0) (LT v0 (LN v3)) (.b false)
abbrev e50_2 := NE (C 0 v6 v0) (C 0 v3 v0)
abbrev e50_3 := K 84 [(C 0 v3 v0),(C 0 v6 v0)]
abbrev e50_4 := OI e50_3
abbrev e50_5 := Q (SN v1 (.s w0)) YY (SN v4 (.s w0))
abbrev e50_6 := OI (K 100 [v1])
abbrev e50_7 := Q e50_5 e50_6 YY
abbrev e50_8 := OI (K 100 [v4])
abbrev e50_9 := Q e50_5 e50_8 YY
abbrev e50_10 := K 84 [(K 100 [v1]),(K 100 [v4])]
abbrev e50_11 := OI e50_10
abbrev e50_12 := Q e50_5 e50_11 YY
abbrev e50_13 := LO 5000 [(I 0),v3,v4,v5,v0,v1,v2]
abbrev e50_14 := PJ 0 e50_13
abbrev e50_15 := EQ e50_14 (I 1)
abbrev e50_16 := EQ e50_14 (I 2)
abbrev e50_17 := Q e50_15 YY e50_16
abbrev e50_18 := Q e50_5 YY e50_17
abbrev e50_19 := PJ 1 e50_13
abbrev e50_20 := Q e50_15 e50_19 (I 0)
abbrev e50_21 := Q e50_5 e50_10 e50_20
def B5000 : Te LEnd := .ite (LT v0 (LN v6)) (
 .need e50_0 (
 .need e50_1 (
 .ite e50_2 (
 .need e50_4 (
 .ok (.out 1 [e50_3]))) (
 .ok (.again [(AD v0 (I 1)),v1,v2,v3,v4,v5,v6]))))) (
 .ok (.out 2 []))
def d5000 : LoopD := ⟨4,⟨5000,7,(J 2 ((.ptr 0 0 0) :: ((.ptr 1 0 0) :: (J 1 ((Si 0) :: (J 44 [])))))),⟨⟨2,[(1,.cells 3 [[(Ss 1),(Ss 2),(S2 3)]]),(0,.cells 3 [[(Ss 4),(Ss 5),(S2 6)]])],[[]],none⟩,[],[]⟩,
 [(.ret,1,(J 4 ((Si 0) :: (J 45 []))),⟨⟨2,[],[[]],none⟩,[],[]⟩),
  (.exit 0,0,(J 50 []),⟨⟨2,[],[[]],none⟩,[],[]⟩)],[(1,[]),(2,[])]⟩,B5000⟩
@[simp] theorem d5000_id : d5000.L.id = 5000 := rfl
@[simp] theorem d5000_B : d5000.B = B5000 := rfl
def i50 : Inst := ⟨50, 0, [(.agg [(Ss 0), (Ss 1), (S2 2)]), (.agg [(Ss 3), (Ss 4), (S2 5)])], [.one (.int .i64)]⟩
def s50 : List Cal := [c100, c84]
@[simp] theorem o50_100 : OE s50 100 0 F100 := oG rfl
@[simp] theorem o50_84 : OE s50 84 0 F84 := oG rfl
@[simp] def l50 : List LoopD := [d5000]
def t50 : Te AV := .need e50_7 (
 .need e50_9 (
 .need e50_12 (
 .need e50_18 (
 .ok (.sym (.int .i64) e50_21)))))
def F50 : List AV → Option AV := unitF (omL KK s50 l50) t50
def c50 : Cal := ⟨i50, F50⟩
theorem x50 : XO i50 F50 := XV s50 l50 t50 g50 ⟨x100, x84, trivial⟩ (by kernel_rfl) (by kernel_rfl) (by kernel_rfl)
abbrev e48_0 := K 79 [v0,v1,v2]
abbrev e48_1 := OI e48_0
abbrev e48_2 := K 79 [v3,v4,v5]
abbrev e48_3 := OI e48_2
abbrev e48_4 := NE (LN v2) (LN v5)
abbrev e48_5 := Q (SE v4 (.s w0)) e48_4 (.b false)
abbrev e48_6 := Q (SE v1 (.s w0)) e48_5 (.b false)
abbrev e48_7 := K 80 [e48_6,(I 2)]
abbrev e48_8 := OI e48_7
abbrev e48_9 : X := .sl 1 [[e48_0],[e48_2],[e48_7]]
abbrev e48_10 := K 76 [e48_9]
abbrev e48_11 := OI e48_10
abbrev e48_12 := NE e48_10 (I 0)
abbrev e48_13 := K 75 [v0,v1,v2,v3,v4,v5]
abbrev e48_14 := OI e48_13
abbrev e48_15 := Q e48_12 YY e48_14
abbrev e48_16 := Q e48_12 (I 0) e48_13
abbrev e48_17 := Q e48_12 e48_10 (I 0)
def i48 : Inst := ⟨48, 0, [(.agg [(Ss 0), (Ss 1), (S2 2)]), (.agg [(Ss 3), (Ss 4), (S2 5)])], [.one (.int .i64), .one (.int .i64)]⟩
def s48 : List Cal := [c79, c80, c76, c75]
@[simp] theorem o48_79 : OE s48 79 0 F79 := oG rfl
@[simp] theorem o48_80 : OE s48 80 0 F80 := oG rfl
@[simp] theorem o48_76 : OE s48 76 0 F76 := oG rfl
@[simp] theorem o48_75 : OE s48 75 0 F75 := oG rfl
@[simp] def l48 : List LoopD := []
def t48 : Te AV := .need e48_1 (
 .need e48_3 (
 .need e48_8 (
 .need e48_11 (
 .need e48_15 (
 .ok (.tuple [(.sym (.int .i64) e48_16),(.sym (.int .i64) e48_17)]))))))
def F48 : List AV → Option AV := unitF (omL KK s48 l48) t48
def c48 : Cal := ⟨i48, F48⟩
theorem x48 : XO i48 F48 := XV s48 l48 t48 g48 ⟨x79, x80, x76, x75, trivial⟩ (by kernel_rfl) (by kernel_rfl) (by kernel_rfl)
abbrev e15_0 := Q (LE (I 0) v1) (LT v1 (LN v0)) (.b false)
abbrev e15_1 := GT (LN (C 0 v0 v1)) (I 40)
abbrev e15_2 := GT (LN (C 1 v0 v1)) (I 40)
abbrev e15_3 := GT (LN (C 2 v0 v1)) (I 10)
abbrev e15_4 := Q e15_2 YY e15_3
abbrev e15_5 := Q e15_1 YY e15_4
abbrev e15_6 := GT (LN v0) v1
abbrev e15_7 := GT (LN v0) (I 162)
abbrev e15_8 := Q (LE (LN v0) (I 160)) YY e15_7
abbrev e15_9 := Q e15_6 e15_8 e15_7
abbrev e15_10 := LO 1500 [v0,(I 0)]
abbrev e15_11 := PJ 0 e15_10
abbrev e15_12 := EQ e15_11 (I 1)
abbrev e15_13 := EQ e15_11 (I 2)
abbrev e15_14 := Q e15_12 YY e15_13
abbrev e15_15 := Q e15_9 YY e15_14
abbrev e15_16 := Q e15_12 (.b false) YY
abbrev e15_17 := Q e15_9 (.b false) e15_16
def B1500 : Te LEnd := .ite (LT v1 (LN v0)) (
 .need e15_0 (
 .ite e15_5 (
 .ok (.out 1 [])) (
 .ok (.again [v0,(AD v1 (I 1))])))) (
 .ok (.out 2 []))
def d1500 : LoopD := ⟨4,⟨1500,2,((.sym (.sl [.str,.str,(.sl [(.int .i64)])]) v0) :: (J 4 ((Si 1) :: (J 45 [])))),⟨⟨0,[],[[]],none⟩,[],[]⟩,
 [(.ret,0,(J 4 ((.bool false) :: (J 46 []))),⟨⟨0,[],[[]],none⟩,[],[]⟩),
  (.exit 0,0,(J 51 []),⟨⟨0,[],[[]],none⟩,[],[]⟩)],[(1,[]),(2,[])]⟩,B1500⟩
@[simp] theorem d1500_id : d1500.L.id = 1500 := rfl
@[simp] theorem d1500_B : d1500.B = B1500 := rfl
def i15 : Inst := ⟨15, 0, [(.sym (.sl [.str, .str, (.sl [(.int .i64)])]) (.v 0)), (Si 1)], [.one .bool]⟩
def s15 : List Cal := []
@[simp] def l15 : List LoopD := [d1500]
def t15 : Te AV := .need e15_15 (
 .ok (.sym .bool e15_17))
def F15 : List AV → Option AV := unitF (omL KK s15 l15) t15
def c15 : Cal := ⟨i15, F15⟩
theorem x15 : XO i15 F15 := XV s15 l15 t15 g15 trivial (by kernel_rfl) (by kernel_rfl) (by kernel_rfl)
def i16 : Inst := ⟨16, 0, [], [.one .bool]⟩
def F16 : List AV → Option AV := fun _ => some (.bool true)
def c16 : Cal := ⟨i16, F16⟩
theorem x16 : ExtOk Tryz.prog 16 (extI i16 F16) := by
 have E : ExtOk Tryz.prog 16 (extTab [(a112, r112)]) := extOk_tab kn16 (fun e he => by
  simp only [List.mem_singleton] at he; subst he; exact row112)
 refine ⟨E.1, fun args r h B0 nx0 w ρ vargs H hrel hg hfl => E.2 args r h B0 nx0 w ρ vargs H hrel ?_ hfl⟩
 unfold extI at hg
 split at hg
 ·rename_i l hl
  split at hg
  ·cases ha : args.map (frz h 0 12) with
   | nil => rw [← hg]; rfl
   | cons x y => rw [ha] at hl; simp [i16, mtVs] at hl
  ·cases hg
 ·cases hg
abbrev e8_0 : X := .sl 3 [[v0,v1,v2],[v3,v4,v5]]
abbrev e8_1 := K 15 [e8_0,(I 2)]
abbrev e8_2 := OB e8_1
abbrev e8_3 := NO e8_1
abbrev e8_4 := OB (K 16 [])
abbrev e8_5 := Q e8_3 e8_4 YY
abbrev e8_6 := K 48 [v0,v1,v2,v3,v4,v5]
abbrev e8_7 : X := .p (.okr [.one (.int .i64),.one (.int .i64)]) [e8_6]
abbrev e8_8 := Q e8_3 YY e8_7
abbrev e8_9 := K 49 [v0,v1,v2]
abbrev e8_10 := OI e8_9
abbrev e8_11 := Q e8_3 YY e8_10
abbrev e8_12 := EQ e8_9 (I 0)
abbrev e8_13 := K 49 [v3,v4,v5]
abbrev e8_14 := OI e8_13
abbrev e8_15 := Q e8_12 e8_14 YY
abbrev e8_16 := Q e8_3 YY e8_15
abbrev e8_17 := Q e8_12 e8_13 e8_9
abbrev e8_18 := EQ e8_17 (I 0)
abbrev e8_19 := NE (LN v2) (LN v5)
abbrev e8_20 := Q (SE v4 (.s w0)) e8_19 (.b false)
abbrev e8_21 := Q (SE v1 (.s w0)) e8_20 (.b false)
abbrev e8_22 := Q e8_18 e8_21 (.b false)
abbrev e8_23 := Q e8_22 (I 2) e8_17
abbrev e8_24 := NE e8_23 (I 0)
abbrev e8_25 := PJ 0 e8_6
abbrev e8_26 := EQ e8_25 (I 0)
abbrev e8_27 := PJ 1 e8_6
abbrev e8_28 := EQ e8_27 e8_23
abbrev e8_29 := Q e8_28 e8_4 YY
abbrev e8_30 := Q e8_26 e8_29 YY
abbrev e8_31 := Q e8_24 e8_30 YY
abbrev e8_32 := Q e8_3 YY e8_31
abbrev e8_33 := EQ e8_27 (I 0)
abbrev e8_34 := K 50 [v0,v1,v2,v3,v4,v5]
abbrev e8_35 := OI e8_34
abbrev e8_36 := Q e8_33 e8_35 YY
abbrev e8_37 := Q e8_24 YY e8_36
abbrev e8_38 := Q e8_3 YY e8_37
abbrev e8_39 := EQ e8_25 e8_34
abbrev e8_40 := Q e8_39 e8_4 YY
abbrev e8_41 := Q e8_33 e8_40 YY
abbrev e8_42 := Q e8_24 YY e8_41
abbrev e8_43 := Q e8_3 YY e8_42
abbrev e8_44 := Q e8_28 (K 16 []) (.b false)
abbrev e8_45 := Q e8_26 e8_44 (.b false)
abbrev e8_46 := Q e8_39 (K 16 []) (.b false)
abbrev e8_47 := Q e8_33 e8_46 (.b false)
abbrev e8_48 := Q e8_24 e8_45 e8_47
abbrev e8_49 := Q e8_3 (K 16 []) e8_48
def i8 : Inst := ⟨8, 0, [(.agg [(.sym .str (.v 0)), (.sym .str (.v 1)), (.sym (.sl [(.int .i64)]) (.v 2))]), (.agg [(.sym .str (.v 3)), (.sym .str (.v 4)), (.sym (.sl [(.int .i64)]) (.v 5))])], [.one .bool]⟩
def s8 : List Cal := [c15, c16, c48, c49, c50]
@[simp] theorem o8_15 : OE s8 15 0 F15 := oG rfl
@[simp] theorem o8_16 : OE s8 16 0 F16 := oG rfl
@[simp] theorem o8_48 : OE s8 48 0 F48 := oG rfl
@[simp] theorem o8_49 : OE s8 49 0 F49 := oG rfl
@[simp] theorem o8_50 : OE s8 50 0 F50 := oG rfl
@[simp] def l8 : List LoopD := []
def t8 : Te AV := .need e8_2 (
 .need e8_5 (
 .need e8_8 (
 .need e8_11 (
 .need e8_16 (
 .need e8_32 (
 .need e8_38 (
 .need e8_43 (
 .ok (.sym .bool e8_49)))))))))
def F8 : List AV → Option AV := unitF (omL KK s8 l8) t8
def c8 : Cal := ⟨i8, F8⟩
theorem x8 : XO i8 F8 := XV s8 l8 t8 g8 ⟨x15, x16, x48, x49, x50, trivial⟩ (by kernel_rfl) (by kernel_rfl) (by kernel_rfl)
end Go.Proofs.YtdjngcfnlfgjkaaGreatDoor.C5
