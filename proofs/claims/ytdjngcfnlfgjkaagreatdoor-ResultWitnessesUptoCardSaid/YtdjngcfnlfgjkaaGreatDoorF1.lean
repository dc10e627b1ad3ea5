/-
  Functions, as trees.
-/
import Derived.Test.YtdjngcfnlfgjkaaGreatDoorTab
import Derived.Test.YtdjngcfnlfgjkaaGreatDoorSm6
import Derived.Test.YtdjngcfnlfgjkaaGreatDoorRows0
set_option linter.unusedVariables false
set_option linter.unusedSimpArgs false
set_option linter.unusedSectionVars false
namespace Go.Proofs.YtdjngcfnlfgjkaaGreatDoor.C5
open Go Go.Proofs.YtdjngcfnlfgjkaaGreatDoor.AM Go.Proofs
def KK : Nat := 2097152
@[reducible] def I (n : Int) : X := .i .i64 n
@[reducible] def Q (c a b : X) : X := .p .ite [c, a, b]
@[reducible] def LE (a b : X) : X := .p (.bin .leq .i64) [a, b]
@[reducible] def LT (a b : X) : X := .p (.bin .lss .i64) [a, b]
@[reducible] def EQ (a b : X) : X := .p (.bin .eql .i64) [a, b]
@[reducible] def AD (a b : X) : X := .p (.bin .add .i64) [a, b]
@[reducible] def SB (a b : X) : X := .p (.bin .sub .i64) [a, b]
@[reducible] def C (k : Nat) (a b : X) : X := .p (.cell k) [a, b]
@[reducible] def LN (a : X) : X := .p .len [a]
@[reducible] def PJ (k : Nat) (a : X) : X := .p (.proj k) [a]
@[reducible] def NE (a b : X) : X := .p (.bin .neq .i64) [a, b]
@[reducible] def GT (a b : X) : X := .p (.bin .gtr .i64) [a, b]
@[reducible] def GE (a b : X) : X := .p (.bin .geq .i64) [a, b]
@[reducible] def RM (a b : X) : X := .p (.bin .rem .i64) [a, b]
@[reducible] def QU (a b : X) : X := .p (.bin .quo .i64) [a, b]
@[reducible] def MU (a b : X) : X := .p (.bin .mul .i64) [a, b]
@[reducible] def SE (a b : X) : X := .p (.sbin .eql) [a, b]
@[reducible] def SN (a b : X) : X := .p (.sbin .neq) [a, b]
@[reducible] def SA (a b : X) : X := .p (.sbin .add) [a, b]
@[reducible] def CO (a b : X) : X := .p .catOk [a, b]
@[reducible] def KE (a b : X) : X := .p .keq [a, b]
@[reducible] def BE (a b : X) : X := .p .beq [a, b]
@[reducible] def NO (a : X) : X := .p .not [a]
@[reducible] def OI (a : X) : X := .p (.okr [.one (.int .i64)]) [a]
@[reducible] def OS (a : X) : X := .p (.okr [.one .str]) [a]
@[reducible] def OB (a : X) : X := .p (.okr [.one .bool]) [a]
@[reducible] def FL (k : Nat) (a : X) : X := .p (.fld k) [a]
@[reducible] def K (f : Nat) (l : List X) : X := .p (.call f 0) l
@[reducible] def LO (n : Nat) (l : List X) : X := .p (.call 100000 n) l
@[reducible] def YY : X := .b true
@[reducible] def v0 : X := .v 0
@[reducible] def v1 : X := .v 1
@[reducible] def v2 : X := .v 2
@[reducible] def v3 : X := .v 3
@[reducible] def v4 : X := .v 4
@[reducible] def v5 : X := .v 5
@[reducible] def v6 : X := .v 6
@[reducible] def v7 : X := .v 7
@[reducible] def v8 : X := .v 8
@[reducible] def v9 : X := .v 9
@[reducible] def v10 : X := .v 10
@[reducible] def v11 : X := .v 11
@[reducible] def v12 : X := .v 12
@[reducible] def v13 : X := .v 13
@[reducible] def v14 : X := .v 14
@[reducible] def v15 : X := .v 15
@[reducible] def v16 : X := .v 16
@[reducible] def v17 : X := .v 17
@[reducible] def v18 : X := .v 18
@[reducible] def v19 : X := .v 19
@[reducible] def v20 : X := .v 20
@[reducible] def v21 : X := .v 21
@[reducible] def v22 : X := .v 22
@[reducible] def v23 : X := .v 23
def Si (n : Nat) : AV := .sym (.int .i64) (.v n)
def Ss (n : Nat) : AV := .sym .str (.v n)
def Sb (n : Nat) : AV := .sym .bool (.v n)
def S1 (n : Nat) : AV := .sym (.sl [.str]) (.v n)
def S2 (n : Nat) : AV := .sym (.sl [.int .i64]) (.v n)
def S3 (n : Nat) : AV := .sym (.sl [.int .i64, .int .i64, .int .i64, .bool]) (.v n)
def S4 (n : Nat) : AV := .sym (.sl [.str, .str, .int .i64, .int .i64, .int .i64, .int .i64, .bool, .bool, .bool, .sl [.int .i64, .int .i64, .int .i64, .bool], .sl [.int .i64]]) (.v n)
def J : Nat → List AV → List AV
 | 0, l => l
 | n + 1, l => .junk :: J n l
def allX (P : Program) : List Cal → Prop
 | [] => True
 | c :: cs => (ExtOk P c.I.f (extI c.I c.F) ∧ ∀ p, tab.ip c.I.f = some p → c.I.pats = [] ∧ ∀ v, c.F [v] = ipFn p [v]) ∧ allX P cs
theorem allX_mem {P : Program} : ∀ {cs : List Cal}, allX P cs → ∀ c ∈ cs, ExtOk P c.I.f (extI c.I c.F) ∧ ∀ p, tab.ip c.I.f = some p → c.I.pats = [] ∧ ∀ v, c.F [v] = ipFn p [v]
 | _ :: _, h, _, .head _ => h.1
 | _ :: _, h, _, .tail _ hc => allX_mem h.2 _ hc
def calF : List Cal → Nat → Nat → Option (List AV → Option AV)
 | [], _, _ => none
 | c :: cs, f, n => if c.I.f = f ∧ c.I.n = n then some c.F else calF cs f n
abbrev OE (cs : List Cal) (f n : Nat) (F : List AV → Option AV) : Prop := ∀ vs, calO cs f n vs = getJ (F vs)
theorem oG {f n : Nat} {F : List AV → Option AV} : ∀ {cs : List Cal}, calF cs f n = some F → ∀ vs, calO cs f n vs = getJ (F vs)
 | [], h, _ => by cases h
 | c :: cs, h, vs => by
   simp only [calF] at h
   simp only [calO]
   split at h
   ·rename_i hc; rw [if_pos hc]; injection h with h; rw [h]
   ·rename_i hc; rw [if_neg hc]; exact oG h vs
abbrev XO (i : Inst) (F : List AV → Option AV) := ExtOk Tryz.prog i.f (extI i F) ∧ ∀ p, tab.ip i.f = some p → i.pats = [] ∧ ∀ v, F [v] = ipFn p [v]
theorem XU {i : Inst} {cs : List Cal} {ds : List LoopD} {t : Te AV} (h : allX Tryz.prog cs) {x : FnE} (h1 : tab.fn.get i.f = some x) (h2 : x.fn.body.isNone = false) (h3 : unitChk tab keep cs ds 40 i.f i.pats t = true) : XO i (unitF (omL KK cs ds) t) :=
 ⟨unit_ext tabOf.1 tabOf.2 (fun c hc => (allX_mem h c hc).1) (fun c hc => (allX_mem h c hc).2) (fn_known tabOf.1 h1 h2) h3, fun p hp => by rw [unit_ip h3] at hp; cases hp⟩
theorem XUL {i : Inst} {cs : List Cal} {ds : List LoopD} {t : Te AV} (h : allX Tryz.prog cs) {x : FnE} (h1 : tab.fn.get i.f = some x) (h2 : x.fn.body.isNone = false) (h3 : unitChk tabL keep cs ds 40 i.f i.pats t = true) : XO i (unitF (omL KK cs ds) t) :=
 ⟨unit_ext tabLOf.1 tabLOf.2 (fun c hc => (allX_mem h c hc).1) (fun c hc => (allX_mem h c hc).2) (fn_known tabOf.1 h1 h2) h3, fun p hp => by rw [show tab.ip i.f = none from unit_ip (T := tabL) h3] at hp; cases hp⟩
theorem XV {i : Inst} (cs : List Cal) (ds : List LoopD) (t : Te AV) (x : FnE) (h : allX Tryz.prog cs) (h1 : tab.fn.get i.f = some x) (h2 : x.fn.body.isNone = false) (h3 : unitChk tab keep cs ds 40 i.f i.pats t = true) : XO i (unitF (omL KK cs ds) t) := XU h h1 h2 h3
theorem cal_cons (c : Cal) (cs : List Cal) (f n : Nat) (vs : List AV) : calO (c :: cs) f n vs = if c.I.f = f ∧ c.I.n = n then getJ (c.F vs) else calO cs f n vs := rfl
def w0 : ByteArray := ⟨#[]⟩
def w1 : ByteArray := ⟨#[100, 110, 115]⟩
def w2 : ByteArray := ⟨#[100, 110, 102]⟩
def w3 : ByteArray := ⟨#[100, 115, 113]⟩
def i142 : Inst := ⟨142, 0, [], [.one (.sl [.int .i64])]⟩
def F142 : List AV → Option AV := ipFn ipSort
def c142 : Cal := ⟨i142, F142⟩
def i143 : Inst := ⟨143, 0, [], [.one (.sl [.int .i64])]⟩
def F143 : List AV → Option AV := ipFn ipComp
def c143 : Cal := ⟨i143, F143⟩
theorem ext_none {i : Inst} {p : IpF} (h : i.pats = []) (args : List AV) : extI i (ipFn p) args = none := by
 unfold extI
 rw [h]
 cases args with
 | nil => rfl
 | cons _ _ => rfl
theorem x142 : XO i142 F142 := ⟨⟨(ipOk 142 _ rfl).1, fun args r h B0 nx0 w ρ vargs _ _ hg _ => by rw [F142, ext_none rfl] at hg; cases hg⟩, fun p hp => by cases hp; exact ⟨rfl, fun _ => rfl⟩⟩
theorem x143 : XO i143 F143 := ⟨⟨(ipOk 143 _ rfl).1, fun args r h B0 nx0 w ρ vargs _ _ hg _ => by rw [F143, ext_none rfl] at hg; cases hg⟩, fun p hp => by cases hp; exact ⟨rfl, fun _ => rfl⟩⟩
set_option maxRecDepth 100000
abbrev e76_0 := Q (LE (I 0) v2) (LT v2 (LN v0)) (.b false)
abbrev e76_1 := NE (C 0 v0 v2) (I 0)
abbrev e76_2 := LO 7600 [v0,(LN v0),(I 0)]
abbrev e76_3 := PJ 0 e76_2
abbrev e76_4 := EQ e76_3 (I 1)
abbrev e76_5 := EQ e76_3 (I 2)
abbrev e76_6 := Q e76_4 YY e76_5
abbrev e76_7 := PJ 1 e76_2
abbrev e76_8 := Q e76_4 e76_7 (I 0)
def B7600 : Te LEnd := .ite (LT v2 v1) (
 .need e76_0 (
 .ite e76_1 (
 .ok (.out 1 [(C 0 v0 v2)])) (
 .ok (.again [v0,v1,(AD v2 (I 1))])))) (
 .ok (.out 2 []))
def d7600 : LoopD := ⟨2,⟨7600,3,(J 5 ((S2 0) :: ((Si 1) :: ((Si 2) :: (J 7 []))))),⟨⟨0,[],[[]],none⟩,[],[]⟩,
 [(.ret,1,(J 2 ((Si 0) :: (J 12 []))),⟨⟨0,[],[[]],none⟩,[],[]⟩),
  (.exit 0,0,(J 15 []),⟨⟨0,[],[[]],none⟩,[],[]⟩)],[(1,[]),(2,[])]⟩,B7600⟩
@[simp] theorem d7600_id : d7600.L.id = 7600 := rfl
@[simp] theorem d7600_B : d7600.B = B7600 := rfl
def i76 : Inst := ⟨76, 0, [(S2 0)], [.one (.int .i64)]⟩
def s76 : List Cal := []
@[simp] def l76 : List LoopD := [d7600]
def t76 : Te AV := .need e76_6 (
 .ok (.sym (.int .i64) e76_8))
def F76 : List AV → Option AV := unitF (omL KK s76 l76) t76
def c76 : Cal := ⟨i76, F76⟩
theorem x76 : XO i76 F76 := XV s76 l76 t76 g76 trivial (by kernel_rfl) (by kernel_rfl) (by kernel_rfl)
def i80 : Inst := ⟨80, 0, [(Sb 0), (Si 1)], [.one (.int .i64)]⟩
def s80 : List Cal := []
@[simp] def l80 : List LoopD := []
def t80 : Te AV := .ok (.sym (.int .i64) (Q v0 v1 (I 0)))
def F80 : List AV → Option AV := unitF (omL KK s80 l80) t80
def c80 : Cal := ⟨i80, F80⟩
theorem x80 : XO i80 F80 := XV s80 l80 t80 g80 trivial (by kernel_rfl) (by kernel_rfl) (by kernel_rfl)
abbrev e88_0 : X := .p (.bin .geq .i32) [(.p .rune [v1,v2]),(.i .i32 (97))]
abbrev e88_1 : X := .p (.bin .leq .i32) [(.p .rune [v1,v2]),(.i .i32 (122))]
abbrev e88_2 : X := .p (.bin .geq .i32) [(.p .rune [v1,v2]),(.i .i32 (65))]
abbrev e88_3 : X := .p (.bin .leq .i32) [(.p .rune [v1,v2]),(.i .i32 (90))]
abbrev e88_4 := Q e88_2 e88_3 (.b false)
abbrev e88_5 := Q e88_1 YY e88_4
abbrev e88_6 := Q e88_0 e88_5 e88_4
abbrev e88_7 := NO e88_6
abbrev e88_8 : X := .p (.bin .neq .i32) [(.p .rune [v1,v2]),(.i .i32 (95))]
abbrev e88_9 : X := .p (.bin .lss .i32) [(.p .rune [v1,v2]),(.i .i32 (48))]
abbrev e88_10 : X := .p (.bin .gtr .i32) [(.p .rune [v1,v2]),(.i .i32 (57))]
abbrev e88_11 := Q e88_9 YY e88_10
abbrev e88_12 := Q e88_8 e88_11 (.b false)
abbrev e88_13 := Q (EQ v2 (I 0)) YY e88_12
abbrev e88_14 := Q e88_7 e88_13 (.b false)
abbrev e88_15 := LO 8800 [v0,v0,(I 0)]
abbrev e88_16 := PJ 0 e88_15
abbrev e88_17 := EQ e88_16 (I 1)
abbrev e88_18 := EQ e88_16 (I 2)
abbrev e88_19 := Q e88_17 YY e88_18
abbrev e88_20 := Q (SN v0 (.s w0)) (LE (LN v0) (I 24)) (.b false)
abbrev e88_21 := Q e88_17 (.b false) e88_20
def B8800 : Te LEnd := .ite (LT v2 (LN v1)) (
 .ite e88_14 (
 .ok (.out 1 [])) (
 .ok (.again [v0,v1,(.p .adv [v1,v2])]))) (
 .ok (.out 2 [v0]))
def d8800 : LoopD := ⟨2,⟨8800,3,((Ss 0) :: (J 5 ((.sym (.sown 0) YY) :: (J 30 [])))),⟨⟨1,[],[[]],none⟩,[(0,.si v1 v2)],[]⟩,
 [(.ret,0,(J 2 ((.bool false) :: (J 34 []))),⟨⟨1,[],[[]],none⟩,[],[]⟩),
  (.exit 0,1,((Ss 0) :: (J 36 [])),⟨⟨1,[],[[]],none⟩,[],[]⟩)],[(1,[]),(2,[(0,0)])]⟩,B8800⟩
@[simp] theorem d8800_id : d8800.L.id = 8800 := rfl
@[simp] theorem d8800_B : d8800.B = B8800 := rfl
def i88 : Inst := ⟨88, 0, [(Ss 0)], [.one .bool]⟩
def s88 : List Cal := []
@[simp] def l88 : List LoopD := [d8800]
def t88 : Te AV := .need e88_19 (
 .ok (.sym .bool e88_21))
def F88 : List AV → Option AV := unitF (omL KK s88 l88) t88
def c88 : Cal := ⟨i88, F88⟩
theorem x88 : XO i88 F88 := XV s88 l88 t88 g88 trivial (by kernel_rfl) (by kernel_rfl) (by kernel_rfl)
abbrev e89_0 := Q (LE (I 0) v1) (LT v1 (LN v0)) (.b false)
abbrev e89_1 : X := .p (.bin .geq .u8) [(.p .byte [v0,v1]),(.i .u8 (97))]
abbrev e89_2 : X := .p (.bin .leq .u8) [(.p .byte [v0,v1]),(.i .u8 (122))]
abbrev e89_3 : X := .p (.bin .geq .u8) [(.p .byte [v0,v1]),(.i .u8 (65))]
abbrev e89_4 : X := .p (.bin .leq .u8) [(.p .byte [v0,v1]),(.i .u8 (90))]
abbrev e89_5 := Q e89_3 e89_4 (.b false)
abbrev e89_6 := Q e89_2 YY e89_5
abbrev e89_7 := Q e89_1 e89_6 e89_5
abbrev e89_8 := NO e89_7
abbrev e89_9 : X := .p (.bin .geq .u8) [(.p .byte [v0,v1]),(.i .u8 (48))]
abbrev e89_10 : X := .p (.bin .leq .u8) [(.p .byte [v0,v1]),(.i .u8 (57))]
abbrev e89_11 : X := .p (.bin .eql .u8) [(.p .byte [v0,v1]),(.i .u8 (95))]
abbrev e89_12 := NO e89_11
abbrev e89_13 := Q e89_10 (.b false) e89_12
abbrev e89_14 := Q e89_9 e89_13 e89_12
abbrev e89_15 := Q (EQ v1 (I 0)) YY e89_14
abbrev e89_16 := Q e89_8 e89_15 (.b false)
abbrev e89_17 := GT (LN v0) (I 24)
abbrev e89_18 := Q (LT (LN v0) (I 1)) YY e89_17
abbrev e89_19 := LO 8900 [v0,(I 0)]
abbrev e89_20 := PJ 0 e89_19
abbrev e89_21 := EQ e89_20 (I 1)
abbrev e89_22 := EQ e89_20 (I 2)
abbrev e89_23 := Q e89_21 YY e89_22
abbrev e89_24 := Q e89_18 YY e89_23
abbrev e89_25 := Q e89_21 (.b false) YY
abbrev e89_26 := Q e89_18 (.b false) e89_25
def B8900 : Te LEnd := .ite (LT v1 (LN v0)) (
 .need e89_0 (
 .ite e89_16 (
 .ok (.out 1 [])) (
 .ok (.again [v0,(AD v1 (I 1))])))) (
 .ok (.out 2 []))
def d8900 : LoopD := ⟨4,⟨8900,2,((Ss 0) :: (J 2 ((Si 1) :: (J 52 [])))),⟨⟨0,[],[[]],none⟩,[],[]⟩,
 [(.ret,0,(J 2 ((.bool false) :: (J 53 []))),⟨⟨0,[],[[]],none⟩,[],[]⟩),
  (.exit 0,0,(J 56 []),⟨⟨0,[],[[]],none⟩,[],[]⟩)],[(1,[]),(2,[])]⟩,B8900⟩
@[simp] theorem d8900_id : d8900.L.id = 8900 := rfl
@[simp] theorem d8900_B : d8900.B = B8900 := rfl
def i89 : Inst := ⟨89, 0, [(Ss 0)], [.one .bool]⟩
def s89 : List Cal := []
@[simp] def l89 : List LoopD := [d8900]
def t89 : Te AV := .need e89_24 (
 .ok (.sym .bool e89_26))
def F89 : List AV → Option AV := unitF (omL KK s89 l89) t89
def c89 : Cal := ⟨i89, F89⟩
theorem x89 : XO i89 F89 := XV s89 l89 t89 g89 trivial (by kernel_rfl) (by kernel_rfl) (by kernel_rfl)
abbrev e77_0 := OI (K 80 [YY,(I 3)])
abbrev e77_1 := Q (LT v0 v1) e77_0 YY
abbrev e77_2 := K 80 [(GT v0 v2),(I 3)]
abbrev e77_3 := OI e77_2
abbrev e77_4 := Q (LT v0 v1) YY e77_3
abbrev e77_5 := Q (LT v0 v1) (K 80 [YY,(I 3)]) e77_2
def i77 : Inst := ⟨77, 0, [(Si 0), (Si 1), (Si 2)], [.one (.int .i64)]⟩
def s77 : List Cal := [c80]
@[simp] theorem o77_80 : OE s77 80 0 F80 := oG rfl
@[simp] def l77 : List LoopD := []
def t77 : Te AV := .need e77_1 (
 .need e77_4 (
 .ok (.sym (.int .i64) e77_5)))
def F77 : List AV → Option AV := unitF (omL KK s77 l77) t77
def c77 : Cal := ⟨i77, F77⟩
theorem x77 : XO i77 F77 := XV s77 l77 t77 g77 ⟨x80, trivial⟩ (by kernel_rfl) (by kernel_rfl) (by kernel_rfl)
abbrev e36_0 := Q (LE (I 0) v2) (LT v2 (LN v0)) (.b false)
abbrev e36_1 := OB (K 88 [(C 0 v0 v2)])
abbrev e36_2 := NO (K 88 [(C 0 v0 v2)])
abbrev e36_3 := K 80 [e36_2,(I 8)]
abbrev e36_4 := OI e36_3
abbrev e36_5 : X := .p (.mget false) [v3,(C 0 v0 v2),(.b false)]
abbrev e36_6 := K 80 [e36_5,(I 9)]
abbrev e36_7 := OI e36_6
abbrev e36_8 := K 77 [(C 1 v0 v2),(I 0),(I 99999)]
abbrev e36_9 := OI e36_8
abbrev e36_10 := K 77 [(C 2 v0 v2),(I 0),(I 99999)]
abbrev e36_11 := OI e36_10
abbrev e36_12 := GT (C 1 v0 v2) (C 2 v0 v2)
abbrev e36_13 := K 80 [e36_12,(I 11)]
abbrev e36_14 := OI e36_13
abbrev e36_15 : X := .sl 1 [[e36_3],[e36_6],[e36_8],[e36_10],[e36_13]]
abbrev e36_16 := K 76 [e36_15]
abbrev e36_17 := OI e36_16
abbrev e36_18 := NE e36_16 (I 0)
abbrev e36_19 : X := .p .mput [v3,(C 0 v0 v2),YY]
abbrev e36_20 := K 80 [(EQ (LN v0) (I 0)),(I 12)]
abbrev e36_21 := OI e36_20
abbrev e36_22 := GT (LN v0) (I 160)
abbrev e36_23 := K 80 [e36_22,(I 5)]
abbrev e36_24 := OI e36_23
abbrev e36_25 : X := .sl 1 [[e36_20],[e36_23]]
abbrev e36_26 := K 76 [e36_25]
abbrev e36_27 := OI e36_26
abbrev e36_28 := NE e36_26 (I 0)
abbrev e36_29 := LO 3600 [v0,(LN v0),(I 0),(.p .mnew [])]
abbrev e36_30 := PJ 0 e36_29
abbrev e36_31 := EQ e36_30 (I 1)
abbrev e36_32 := EQ e36_30 (I 2)
abbrev e36_33 := Q e36_31 YY e36_32
abbrev e36_34 := Q e36_28 YY e36_33
abbrev e36_35 := PJ 1 e36_29
abbrev e36_36 := Q e36_31 e36_35 (I 0)
abbrev e36_37 := Q e36_28 e36_26 e36_36
def B3600 : Te LEnd := .ite (LT v2 v1) (
 .need e36_0 (
 .need e36_1 (
 .need e36_4 (
 .need e36_7 (
 .need e36_9 (
 .need e36_11 (
 .need e36_14 (
 .need e36_17 (
 .ite e36_18 (
 .ok (.out 1 [e36_16])) (
 .ok (.again [v0,v1,(AD v2 (I 1)),e36_19]))))))))))) (
 .ok (.out 2 []))
def d3600 : LoopD := ⟨6,⟨3600,4,(J 4 ((.sym (.mown 1 .str false [.bool]) YY) :: (J 17 ((.sym (.sl [.str,(.int .i64),(.int .i64)]) v0) :: ((Si 1) :: ((Si 2) :: (J 34 []))))))),⟨⟨4,[],[[]],none⟩,[(1,.mp .str false [.bool] v3)],[]⟩,
 [(.ret,1,(J 2 ((Si 0) :: (J 56 []))),⟨⟨6,[],[[]],none⟩,[],[]⟩),
  (.exit 0,0,(J 59 []),⟨⟨4,[],[[]],none⟩,[],[]⟩)],[(1,[]),(2,[])]⟩,B3600⟩
@[simp] theorem d3600_id : d3600.L.id = 3600 := rfl
@[simp] theorem d3600_B : d3600.B = B3600 := rfl
def i36 : Inst := ⟨36, 0, [(.sym (.sl [.str, (.int .i64), (.int .i64)]) (.v 0))], [.one (.int .i64)]⟩
def s36 : List Cal := [c80, c76, c88, c77]
@[simp] theorem o36_80 : OE s36 80 0 F80 := oG rfl
@[simp] theorem o36_76 : OE s36 76 0 F76 := oG rfl
@[simp] theorem o36_88 : OE s36 88 0 F88 := oG rfl
@[simp] theorem o36_77 : OE s36 77 0 F77 := oG rfl
@[simp] def l36 : List LoopD := [d3600]
def t36 : Te AV := .need e36_21 (
 .need e36_24 (
 .need e36_27 (
 .need e36_34 (
 .ok (.sym (.int .i64) e36_37)))))
def F36 : List AV → Option AV := unitF (omL KK s36 l36) t36
def c36 : Cal := ⟨i36, F36⟩
theorem x36 : XO i36 F36 := XV s36 l36 t36 g36 ⟨x80, x76, x88, x77, trivial⟩ (by kernel_rfl) (by kernel_rfl) (by kernel_rfl)
abbrev e86_0 := OI (K 36 [v0])
abbrev e86_1 := OI (K 80 [YY,(I 10)])
abbrev e86_2 := Q (LT v1 (I 0)) e86_1 YY
abbrev e86_3 : X := .sl 1 [[(K 36 [v0])],[(K 80 [YY,(I 10)])]]
abbrev e86_4 := K 76 [e86_3]
abbrev e86_5 := OI e86_4
abbrev e86_6 := Q (LT v1 (I 0)) e86_5 YY
abbrev e86_7 := GE v1 (LN v0)
abbrev e86_8 := K 80 [e86_7,(I 10)]
abbrev e86_9 := OI e86_8
abbrev e86_10 := Q (LT v1 (I 0)) YY e86_9
abbrev e86_11 : X := .sl 1 [[(K 36 [v0])],[e86_8]]
abbrev e86_12 := K 76 [e86_11]
abbrev e86_13 := OI e86_12
abbrev e86_14 := Q (LT v1 (I 0)) YY e86_13
abbrev e86_15 := Q (LT v1 (I 0)) e86_4 e86_12
def i86 : Inst := ⟨86, 0, [(.sym (.sl [.str, (.int .i64), (.int .i64)]) (.v 0)), (Si 1)], [.one (.int .i64)]⟩
def s86 : List Cal := [c36, c80, c76]
@[simp] theorem o86_36 : OE s86 36 0 F36 := oG rfl
@[simp] theorem o86_80 : OE s86 80 0 F80 := oG rfl
@[simp] theorem o86_76 : OE s86 76 0 F76 := oG rfl
@[simp] def l86 : List LoopD := []
def t86 : Te AV := .need e86_0 (
 .need e86_2 (
 .need e86_6 (
 .need e86_10 (
 .need e86_14 (
 .ok (.sym (.int .i64) e86_15))))))
def F86 : List AV → Option AV := unitF (omL KK s86 l86) t86
def c86 : Cal := ⟨i86, F86⟩
theorem x86 : XO i86 F86 := XV s86 l86 t86 g86 ⟨x36, x80, x76, trivial⟩ (by kernel_rfl) (by kernel_rfl) (by kernel_rfl)
abbrev e106_0 := Q (LE (I 0) v6) (LT v6 (LN v4)) (.b false)
abbrev e106_1 := GT (C 1 v4 v6) v1
abbrev e106_2 := Q e106_1 (AD v2 (I 1)) v2
abbrev e106_3 := Q (EQ v6 v0) v2 e106_2
abbrev e106_4 := GT (C 2 v4 v6) v1
abbrev e106_5 := Q e106_4 (AD v3 (I 1)) v3
abbrev e106_6 := Q (EQ v6 v0) v3 e106_5
abbrev e106_7 := LO 10600 [v1,v2,(I 0),(I 0),v0,(LN v0),(I 0)]
abbrev e106_8 := PJ 0 e106_7
abbrev e106_9 := EQ e106_8 (I 1)
abbrev e106_10 := PJ 1 e106_7
abbrev e106_11 := PJ 2 e106_7
def B10600 : Te LEnd := .ite (LT v6 v5) (
 .need e106_0 (
 .ok (.again [v0,v1,e106_3,e106_6,v4,v5,(AD v6 (I 1))]))) (
 .ok (.out 1 [v2,v3]))
def d10600 : LoopD := ⟨3,⟨10600,7,(J 1 ((Si 0) :: ((Si 1) :: (J 5 ((Si 2) :: ((Si 3) :: (J 2 ((.sym (.sl [.str,(.int .i64),(.int .i64)]) v4) :: ((Si 5) :: ((Si 6) :: (J 22 []))))))))))),⟨⟨1,[],[[]],none⟩,[],[]⟩,
 [(.exit 0,2,(J 8 ((Si 0) :: ((Si 1) :: (J 27 [])))),⟨⟨1,[],[[]],none⟩,[],[]⟩)],[(1,[])]⟩,B10600⟩
@[simp] theorem d10600_id : d10600.L.id = 10600 := rfl
@[simp] theorem d10600_B : d10600.B = B10600 := rfl
def i106 : Inst := ⟨106, 0, [(.sym (.sl [.str, (.int .i64), (.int .i64)]) (.v 0)), (Si 1), (Si 2)], [.one (.int .i64), .one (.int .i64)]⟩
def s106 : List Cal := []
@[simp] def l106 : List LoopD := [d10600]
def t106 : Te AV := .need e106_9 (
 .ok (.tuple [(.sym (.int .i64) e106_10),(.sym (.int .i64) e106_11)]))
def F106 : List AV → Option AV := unitF (omL KK s106 l106) t106
def c106 : Cal := ⟨i106, F106⟩
theorem x106 : XO i106 F106 := XV s106 l106 t106 g106 trivial (by kernel_rfl) (by kernel_rfl) (by kernel_rfl)
abbrev e111_0 := Q (LE (I 0) v3) (LT v3 (LN v1)) (.b false)
abbrev e111_1 := GT (C 1 v1 v3) v5
abbrev e111_2 := Q e111_1 (LE (C 1 v1 v3) v6) (.b false)
abbrev e111_3 : X := .p (.app 1) [v0,(.sl 1 [[(C 1 v1 v3)]])]
abbrev e111_4 := LN e111_3
abbrev e111_5 := LE e111_4 (I 1073741824)
abbrev e111_6 := GT (C 2 v1 v3) v5
abbrev e111_7 := Q e111_6 (LE (C 2 v1 v3) v6) (.b false)
abbrev e111_8 : X := .p (.app 1) [e111_3,(.sl 1 [[(C 2 v1 v3)]])]
abbrev e111_9 := LN e111_8
abbrev e111_10 := LE e111_9 (I 1073741824)
abbrev e111_11 : X := .p (.app 1) [v0,(.sl 1 [[(C 2 v1 v3)]])]
abbrev e111_12 := LN e111_11
abbrev e111_13 := LE e111_12 (I 1073741824)
abbrev e111_14 := Q (LE (I 0) v1) (LT v1 (LN v0)) (.b false)
abbrev e111_15 := LO 11100 [(.sl 1 [[(C 1 v0 v1)]]),v0,(LN v0),(I 0),(C 0 v0 v1),(C 1 v0 v1),(C 2 v0 v1)]
abbrev e111_16 := PJ 0 e111_15
abbrev e111_17 := EQ e111_16 (I 1)
abbrev e111_18 := PJ 1 e111_15
abbrev e111_19 : X := .p .isNil [e111_18]
abbrev e111_20 := NO e111_19
abbrev e111_21 := K 142 [e111_18]
abbrev e111_22 : X := .p (.okr [.one (.sl [(.int .i64)])]) [e111_21]
abbrev e111_23 := LN e111_18
abbrev e111_24 := LN e111_21
abbrev e111_25 := EQ e111_23 e111_24
abbrev e111_26 : X := .p .whole [e111_18,e111_21]
abbrev e111_27 : X := .p .isNil [e111_26]
abbrev e111_28 := NO e111_27
abbrev e111_29 := K 143 [e111_26]
abbrev e111_30 : X := .p (.okr [.one (.sl [(.int .i64)])]) [e111_29]
def B11100 : Te LEnd := .ite (LT v3 v2) (
 .need e111_0 (
 .ite e111_2 (
 .need e111_5 (
 .ite e111_7 (
 .need e111_10 (
 .ok (.again [e111_8,v1,v2,(AD v3 (I 1)),v4,v5,v6]))) (
 .ok (.again [e111_3,v1,v2,(AD v3 (I 1)),v4,v5,v6])))) (
 .ite e111_7 (
 .need e111_13 (
 .ok (.again [e111_11,v1,v2,(AD v3 (I 1)),v4,v5,v6]))) (
 .ok (.again [v0,v1,v2,(AD v3 (I 1)),v4,v5,v6]))))) (
 .ok (.out 1 [v0]))
def d11100 : LoopD := ⟨4,⟨11100,7,(J 5 ((.ptr 0 0 0) :: ((.sym (.own 2 [(.int .i64)]) v0) :: (J 11 ((.sym (.sl [.str,(.int .i64),(.int .i64)]) v1) :: ((Si 2) :: ((Si 3) :: (J 33 [])))))))),⟨⟨8,[(1,.dead),(0,.cells 3 [[(Ss 4),(Si 5),(Si 6)]])],[[]],none⟩,[(2,.rows [(.int .i64)] v0)],[]⟩,
 [(.exit 0,1,(J 6 ((.sym (.own 2 [(.int .i64)]) v0) :: (J 47 []))),⟨⟨8,[],[[]],none⟩,[(2,.rows [(.int .i64)] v0)],[]⟩)],[(1,[])]⟩,B11100⟩
@[simp] theorem d11100_id : d11100.L.id = 11100 := rfl
@[simp] theorem d11100_B : d11100.B = B11100 := rfl
def i111 : Inst := ⟨111, 0, [(.sym (.sl [.str, (.int .i64), (.int .i64)]) (.v 0)), (Si 1)], [.one (.sl [(.int .i64)])]⟩
def s111 : List Cal := [c142, c143]
@[simp] theorem o111_142 : OE s111 142 0 F142 := oG rfl
@[simp] theorem o111_143 : OE s111 143 0 F143 := oG rfl
@[simp] def l111 : List LoopD := [d11100]
def t111 : Te AV := .need e111_14 (
 .need e111_17 (
 .need e111_20 (
 .need e111_22 (
 .need e111_25 (
 .need e111_28 (
 .need e111_30 (
 .ok (.sym (.sl [(.int .i64)]) e111_29))))))))
def F111 : List AV → Option AV := unitF (omL KK s111 l111) t111
def c111 : Cal := ⟨i111, F111⟩
theorem x111 : XO i111 F111 := XV s111 l111 t111 g111 ⟨x142, x143, trivial⟩ (by kernel_rfl) (by kernel_rfl) (by kernel_rfl)
abbrev e87_0 := Q (LE (I 0) v5) (LT v5 (LN v3)) (.b false)
abbrev e87_1 := K 106 [v0,v1,(C 0 v3 v5)]
abbrev e87_2 : X := .p (.okr [.one (.int .i64),.one (.int .i64)]) [e87_1]
abbrev e87_3 := PJ 0 e87_1
abbrev e87_4 := LT e87_3 v2
abbrev e87_5 := PJ 1 e87_1
abbrev e87_6 := AD e87_5 (I 1)
abbrev e87_7 := LE v2 e87_6
abbrev e87_8 := Q e87_4 e87_7 (.b false)
abbrev e87_9 : X := .p (.okr [.one (.sl [(.int .i64)])]) [(K 111 [v0,v1])]
abbrev e87_10 := LO 8700 [v0,v1,v2,(K 111 [v0,v1]),(LN (K 111 [v0,v1])),(I 0)]
abbrev e87_11 := PJ 0 e87_10
abbrev e87_12 := EQ e87_11 (I 1)
abbrev e87_13 := EQ e87_11 (I 2)
abbrev e87_14 := Q e87_12 YY e87_13
abbrev e87_15 := PJ 1 e87_10
abbrev e87_16 := Q e87_12 e87_15 (I 0)
abbrev e87_17 := Q e87_12 YY (.b false)
def B8700 : Te LEnd := .ite (LT v5 v4) (
 .need e87_0 (
 .need e87_2 (
 .ite e87_8 (
 .ok (.out 1 [(C 0 v3 v5)])) (
 .ok (.again [v0,v1,v2,v3,v4,(AD v5 (I 1))]))))) (
 .ok (.out 2 []))
def d8700 : LoopD := ⟨2,⟨8700,6,((.sym (.sl [.str,(.int .i64),(.int .i64)]) v0) :: ((Si 1) :: ((Si 2) :: (J 11 ((S2 3) :: ((Si 4) :: ((Si 5) :: (J 21 [])))))))),⟨⟨0,[],[[]],none⟩,[],[]⟩,
 [(.ret,1,(J 6 ((Si 0) :: ((.bool true) :: (J 30 [])))),⟨⟨0,[],[[]],none⟩,[],[]⟩),
  (.exit 0,0,(J 38 []),⟨⟨0,[],[[]],none⟩,[],[]⟩)],[(1,[]),(2,[])]⟩,B8700⟩
@[simp] theorem d8700_id : d8700.L.id = 8700 := rfl
@[simp] theorem d8700_B : d8700.B = B8700 := rfl
def i87 : Inst := ⟨87, 0, [(.sym (.sl [.str, (.int .i64), (.int .i64)]) (.v 0)), (Si 1), (Si 2)], [.one (.int .i64), .one .bool]⟩
def s87 : List Cal := [c111, c106]
@[simp] theorem o87_111 : OE s87 111 0 F111 := oG rfl
@[simp] theorem o87_106 : OE s87 106 0 F106 := oG rfl
@[simp] def l87 : List LoopD := [d8700]
def t87 : Te AV := .need e87_9 (
 .need e87_14 (
 .ok (.tuple [(.sym (.int .i64) e87_16),(.sym .bool e87_17)])))
def F87 : List AV → Option AV := unitF (omL KK s87 l87) t87
def c87 : Cal := ⟨i87, F87⟩
theorem x87 : XO i87 F87 := XV s87 l87 t87 g87 ⟨x111, x106, trivial⟩ (by kernel_rfl) (by kernel_rfl) (by kernel_rfl)
abbrev e107_0 := Q (LE (I 0) v4) (LT v4 (LN v0)) (.b false)
abbrev e107_1 := Q (NE v4 v1) e107_0 YY
abbrev e107_2 := GT (C 1 v0 v4) v2
abbrev e107_3 := Q (NE v4 v1) e107_2 (.b false)
abbrev e107_4 := Q e107_3 (AD v3 (I 1)) v3
abbrev e107_5 := LO 10700 [v0,v1,v2,(I 0),(I 0)]
abbrev e107_6 := PJ 0 e107_5
abbrev e107_7 := EQ e107_6 (I 1)
abbrev e107_8 := PJ 1 e107_5
def B10700 : Te LEnd := .ite (LT v4 (LN v0)) (
 .need e107_1 (
 .ok (.again [v0,v1,v2,e107_4,(AD v4 (I 1))]))) (
 .ok (.out 1 [v3]))
def d10700 : LoopD := ⟨3,⟨10700,5,((.sym (.sl [.str,(.int .i64),(.int .i64)]) v0) :: ((Si 1) :: ((Si 2) :: (J 4 ((Si 3) :: ((Si 4) :: (J 21 []))))))),⟨⟨0,[],[[]],none⟩,[],[]⟩,
 [(.exit 0,1,(J 7 ((Si 0) :: (J 22 []))),⟨⟨0,[],[[]],none⟩,[],[]⟩)],[(1,[])]⟩,B10700⟩
@[simp] theorem d10700_id : d10700.L.id = 10700 := rfl
@[simp] theorem d10700_B : d10700.B = B10700 := rfl
def i107 : Inst := ⟨107, 0, [(.sym (.sl [.str, (.int .i64), (.int .i64)]) (.v 0)), (Si 1), (Si 2)], [.one (.int .i64)]⟩
def s107 : List Cal := []
@[simp] def l107 : List LoopD := [d10700]
def t107 : Te AV := .need e107_7 (
 .ok (.sym (.int .i64) e107_8))
def F107 : List AV → Option AV := unitF (omL KK s107 l107) t107
def c107 : Cal := ⟨i107, F107⟩
theorem x107 : XO i107 F107 := XV s107 l107 t107 g107 trivial (by kernel_rfl) (by kernel_rfl) (by kernel_rfl)
abbrev e108_0 := Q (LE (I 0) v4) (LT v4 (LN v0)) (.b false)
abbrev e108_1 := Q (NE v4 v1) e108_0 YY
abbrev e108_2 := GT (C 2 v0 v4) v2
abbrev e108_3 := Q (NE v4 v1) e108_2 (.b false)
abbrev e108_4 := Q e108_3 (AD v3 (I 1)) v3
abbrev e108_5 := LO 10800 [v0,v1,v2,(I 0),(I 0)]
abbrev e108_6 := PJ 0 e108_5
abbrev e108_7 := EQ e108_6 (I 1)
abbrev e108_8 := PJ 1 e108_5
def B10800 : Te LEnd := .ite (LT v4 (LN v0)) (
 .need e108_1 (
 .ok (.again [v0,v1,v2,e108_4,(AD v4 (I 1))]))) (
 .ok (.out 1 [v3]))
def d10800 : LoopD := ⟨3,⟨10800,5,((.sym (.sl [.str,(.int .i64),(.int .i64)]) v0) :: ((Si 1) :: ((Si 2) :: (J 4 ((Si 3) :: ((Si 4) :: (J 21 []))))))),⟨⟨0,[],[[]],none⟩,[],[]⟩,
 [(.exit 0,1,(J 7 ((Si 0) :: (J 22 []))),⟨⟨0,[],[[]],none⟩,[],[]⟩)],[(1,[])]⟩,B10800⟩
@[simp] theorem d10800_id : d10800.L.id = 10800 := rfl
@[simp] theorem d10800_B : d10800.B = B10800 := rfl
def i108 : Inst := ⟨108, 0, [(.sym (.sl [.str, (.int .i64), (.int .i64)]) (.v 0)), (Si 1), (Si 2)], [.one (.int .i64)]⟩
def s108 : List Cal := []
@[simp] def l108 : List LoopD := [d10800]
def t108 : Te AV := .need e108_7 (
 .ok (.sym (.int .i64) e108_8))
def F108 : List AV → Option AV := unitF (omL KK s108 l108) t108
def c108 : Cal := ⟨i108, F108⟩
theorem x108 : XO i108 F108 := XV s108 l108 t108 g108 trivial (by kernel_rfl) (by kernel_rfl) (by kernel_rfl)
abbrev e57_0 := Q (LE (I 0) v1) (LT v1 (LN v0)) (.b false)
abbrev e57_1 := K 107 [v0,v1,v3]
abbrev e57_2 := OI e57_1
abbrev e57_3 := LT e57_1 v2
abbrev e57_4 := K 108 [v0,v1,v3]
abbrev e57_5 := OI e57_4
abbrev e57_6 := Q e57_3 e57_5 YY
abbrev e57_7 := GE e57_4 (SB v2 (I 1))
abbrev e57_8 := Q e57_3 e57_7 (.b false)
abbrev e57_9 := LO 5700 [v0,v1,v2,(C 1 v0 v1)]
abbrev e57_10 := PJ 0 e57_9
abbrev e57_11 := EQ e57_10 (I 1)
abbrev e57_12 := EQ e57_10 (I 2)
abbrev e57_13 := Q e57_11 YY e57_12
abbrev e57_14 := Q e57_11 YY (.b false)
def B5700 : Te LEnd := .need e57_0 (
 .ite (LE v3 (C 2 v0 v1)) (
 .need e57_2 (
 .need e57_6 (
 .ite e57_8 (
 .ok (.out 1 [])) (
 .ok (.again [v0,v1,v2,(AD v3 (I 1))]))))) (
 .ok (.out 2 [])))
def d5700 : LoopD := ⟨2,⟨5700,4,((.sym (.sl [.str,(.int .i64),(.int .i64)]) v0) :: ((Si 1) :: ((Si 2) :: (J 4 ((Si 3) :: (J 29 [])))))),⟨⟨0,[],[[]],none⟩,[],[]⟩,
 [(.ret,0,(J 6 ((.bool true) :: (J 30 []))),⟨⟨0,[],[[]],none⟩,[],[]⟩),
  (.exit 0,0,(J 37 []),⟨⟨0,[],[[]],none⟩,[],[]⟩)],[(1,[]),(2,[])]⟩,B5700⟩
@[simp] theorem d5700_id : d5700.L.id = 5700 := rfl
@[simp] theorem d5700_B : d5700.B = B5700 := rfl
def i57 : Inst := ⟨57, 0, [(.sym (.sl [.str, (.int .i64), (.int .i64)]) (.v 0)), (Si 1), (Si 2)], [.one .bool]⟩
def s57 : List Cal := [c107, c108]
@[simp] theorem o57_107 : OE s57 107 0 F107 := oG rfl
@[simp] theorem o57_108 : OE s57 108 0 F108 := oG rfl
@[simp] def l57 : List LoopD := [d5700]
def t57 : Te AV := .need e57_0 (
 .need e57_13 (
 .ok (.sym .bool e57_14)))
def F57 : List AV → Option AV := unitF (omL KK s57 l57) t57
def c57 : Cal := ⟨i57, F57⟩
theorem x57 : XO i57 F57 := XV s57 l57 t57 g57 ⟨x107, x108, trivial⟩ (by kernel_rfl) (by kernel_rfl) (by kernel_rfl)
abbrev e37_0 := Q (LE (I 0) v1) (LT v1 (LN v0)) (.b false)
abbrev e37_1 := OB (K 89 [(C 0 v0 v1)])
abbrev e37_2 := NO (K 89 [(C 0 v0 v1)])
abbrev e37_3 := LO 3701 [v0,v1,(I 0),(C 0 v0 v1),(C 1 v0 v1),(C 2 v0 v1)]
abbrev e37_4 := PJ 0 e37_3
abbrev e37_5 := EQ e37_4 (I 1)
abbrev e37_6 := EQ e37_4 (I 2)
abbrev e37_7 := GT (C 1 v0 v1) (I 99999)
abbrev e37_8 := GT (C 2 v0 v1) (I 99999)
abbrev e37_9 := Q (LT (C 2 v0 v1) (I 0)) YY e37_8
abbrev e37_10 := Q e37_7 YY e37_9
abbrev e37_11 := Q (LT (C 1 v0 v1) (I 0)) YY e37_10
abbrev e37_12 := GT (C 1 v0 v1) (C 2 v0 v1)
abbrev e37_13 := Q (LE (I 0) v2) (LT v2 (LN v0)) (.b false)
abbrev e37_14 := SE (C 0 v0 v2) v3
abbrev e37_15 := GT (LN v0) (I 160)
abbrev e37_16 := LO 3700 [v0,(I 0)]
abbrev e37_17 := PJ 0 e37_16
abbrev e37_18 := EQ e37_17 (I 1)
abbrev e37_19 := EQ e37_17 (I 2)
abbrev e37_20 := Q e37_18 YY e37_19
abbrev e37_21 := Q e37_15 YY e37_20
abbrev e37_22 := Q (EQ (LN v0) (I 0)) YY e37_21
abbrev e37_23 := PJ 1 e37_16
abbrev e37_24 := Q e37_18 e37_23 (I 0)
abbrev e37_25 := Q e37_15 (I 5) e37_24
abbrev e37_26 := Q (EQ (LN v0) (I 0)) (I 12) e37_25
def B3700 : Te LEnd := .ite (LT v1 (LN v0)) (
 .need e37_0 (
 .need e37_1 (
 .ite e37_2 (
 .ok (.out 1 [(I 8)])) (
 .ite e37_5 (
 .ok (.out 1 [(I 9)])) (
 .need e37_6 (
 .ite e37_11 (
 .ok (.out 1 [(I 3)])) (
 .ite e37_12 (
 .ok (.out 1 [(I 11)])) (
 .ok (.again [v0,(AD v1 (I 1))]))))))))) (
 .ok (.out 2 []))
def d3700 : LoopD := ⟨6,⟨3700,2,((.sym (.sl [.str,(.int .i64),(.int .i64)]) v0) :: (J 2 ((Si 1) :: (J 58 [])))),⟨⟨1,[],[[]],none⟩,[],[]⟩,
 [(.ret,1,(J 2 ((Si 0) :: (J 59 []))),⟨⟨2,[],[[]],none⟩,[],[]⟩),
  (.exit 0,0,(J 62 []),⟨⟨1,[],[[]],none⟩,[],[]⟩)],[(1,[]),(2,[])]⟩,B3700⟩
@[simp] theorem d3700_id : d3700.L.id = 3700 := rfl
@[simp] theorem d3700_B : d3700.B = B3700 := rfl
def B3701 : Te LEnd := .ite (LT v2 v1) (
 .need e37_13 (
 .ite e37_14 (
 .ok (.out 1 [])) (
 .ok (.again [v0,v1,(AD v2 (I 1)),v3,v4,v5])))) (
 .ok (.out 2 [v0,v1,v3,v4,v5]))
def d3701 : LoopD := ⟨12,⟨3701,6,((.sym (.sl [.str,(.int .i64),(.int .i64)]) v0) :: (J 2 ((Si 1) :: ((.ptr 1 0 0) :: ((Si 2) :: (J 56 [])))))),⟨⟨2,[(1,.cells 3 [[(Ss 3),(Si 4),(Si 5)]])],[[]],none⟩,[],[]⟩,
 [(.ret,0,(J 2 ((.int .i64 (9)) :: (J 59 []))),⟨⟨2,[],[[]],none⟩,[],[]⟩),
  (.exit 2,5,((.sym (.sl [.str,(.int .i64),(.int .i64)]) v0) :: (J 2 ((Si 1) :: ((.ptr 1 0 0) :: (J 57 []))))),⟨⟨2,[(1,.cells 3 [[(Ss 2),(Si 3),(Si 4)]])],[[]],none⟩,[],[]⟩)],[(1,[]),(2,[(0,0),(1,1),(2,3),(3,4),(4,5)])]⟩,B3701⟩
@[simp] theorem d3701_id : d3701.L.id = 3701 := rfl
@[simp] theorem d3701_B : d3701.B = B3701 := rfl
def i37 : Inst := ⟨37, 0, [(.sym (.sl [.str, (.int .i64), (.int .i64)]) (.v 0))], [.one (.int .i64)]⟩
def s37 : List Cal := [c89]
@[simp] theorem o37_89 : OE s37 89 0 F89 := oG rfl
@[simp] def l37 : List LoopD := [d3700, d3701]
def t37 : Te AV := .need e37_22 (
 .ok (.sym (.int .i64) e37_26))
def F37 : List AV → Option AV := unitF (omL KK s37 l37) t37
def c37 : Cal := ⟨i37, F37⟩
theorem x37 : XO i37 F37 := XV s37 l37 t37 g37 ⟨x89, trivial⟩ (by kernel_rfl) (by kernel_rfl) (by kernel_rfl)
abbrev e35_0 := OI (K 37 [v0])
abbrev e35_1 := GE v1 (LN v0)
abbrev e35_2 := Q (LT v1 (I 0)) YY e35_1
abbrev e35_3 := Q (EQ (K 37 [v0]) (I 0)) e35_2 (.b false)
abbrev e35_4 := Q e35_3 (I 10) (K 37 [v0])
abbrev e35_5 := EQ e35_4 (I 0)
abbrev e35_6 := GT v2 (LN v0)
abbrev e35_7 := Q (LT v2 (I 1)) YY e35_6
abbrev e35_8 := Q e35_5 e35_7 (.b false)
abbrev e35_9 := Q e35_8 (I 3) e35_4
def i35 : Inst := ⟨35, 0, [(.sym (.sl [.str, (.int .i64), (.int .i64)]) (.v 0)), (Si 1), (Si 2)], [.one (.int .i64)]⟩
def s35 : List Cal := [c37]
@[simp] theorem o35_37 : OE s35 37 0 F37 := oG rfl
@[simp] def l35 : List LoopD := []
def t35 : Te AV := .need e35_0 (
 .ok (.sym (.int .i64) e35_9))
def F35 : List AV → Option AV := unitF (omL KK s35 l35) t35
def c35 : Cal := ⟨i35, F35⟩
theorem x35 : XO i35 F35 := XV s35 l35 t35 g35 ⟨x37, trivial⟩ (by kernel_rfl) (by kernel_rfl) (by kernel_rfl)
abbrev e34_0 := Q (LE (I 0) v3) (LT v3 (LN v1)) (.b false)
abbrev e34_1 : X := .sl 3 [[(C 0 v1 v3),(C 1 v1 v3),(C 2 v1 v3)]]
abbrev e34_2 : X := .p (.app 3) [v0,e34_1]
abbrev e34_3 := LN e34_2
abbrev e34_4 := LE e34_3 (I 1073741824)
abbrev e34_5 := LO 3400 [.nils,v0,(LN v0),(I 0)]
abbrev e34_6 := PJ 0 e34_5
abbrev e34_7 := EQ e34_6 (I 1)
abbrev e34_8 := PJ 1 e34_5
def B3400 : Te LEnd := .ite (LT v3 v2) (
 .need e34_0 (
 .need e34_4 (
 .ok (.again [e34_2,v1,v2,(AD v3 (I 1))])))) (
 .ok (.out 1 [v0]))
def d3400 : LoopD := ⟨3,⟨3400,4,(J 3 ((.sym (.own 0 [.str,(.int .i64),(.int .i64)]) v0) :: (J 2 ((.sym (.sl [.str,(.int .i64),(.int .i64)]) v1) :: ((Si 2) :: ((Si 3) :: (J 9 []))))))),⟨⟨3,[],[[]],none⟩,[(0,.rows [.str,(.int .i64),(.int .i64)] v0)],[]⟩,
 [(.exit 0,1,(J 3 ((.sym (.own 0 [.str,(.int .i64),(.int .i64)]) v0) :: (J 14 []))),⟨⟨3,[],[[]],none⟩,[(0,.rows [.str,(.int .i64),(.int .i64)] v0)],[]⟩)],[(1,[])]⟩,B3400⟩
@[simp] theorem d3400_id : d3400.L.id = 3400 := rfl
@[simp] theorem d3400_B : d3400.B = B3400 := rfl
def i34 : Inst := ⟨34, 0, [(.sym (.sl [.str, (.int .i64), (.int .i64)]) (.v 0))], [.one (.sl [.str, (.int .i64), (.int .i64)])]⟩
def s34 : List Cal := []
@[simp] def l34 : List LoopD := [d3400]
def t34 : Te AV := .need e34_7 (
 .ok (.sym (.sl [.str,(.int .i64),(.int .i64)]) e34_8))
def F34 : List AV → Option AV := unitF (omL KK s34 l34) t34
def c34 : Cal := ⟨i34, F34⟩
theorem x34 : XO i34 F34 := XV s34 l34 t34 g34 trivial (by kernel_rfl) (by kernel_rfl) (by kernel_rfl)
abbrev e32_0 := Q (LE (I 0) v1) (LT v1 (LN v0)) (.b false)
abbrev e32_1 := GT (LN (C 0 v0 v1)) (I 40)
abbrev e32_2 := GT (C 2 v0 v1) (AD (C 1 v0 v1) (I 100))
abbrev e32_3 := OI (K 37 [v0])
abbrev e32_4 := Q e32_2 e32_3 YY
abbrev e32_5 := Q e32_1 YY e32_4
abbrev e32_6 := Q e32_2 (EQ (K 37 [v0]) (I 0)) (.b false)
abbrev e32_7 := Q e32_1 YY e32_6
abbrev e32_8 := GT (LN v0) v1
abbrev e32_9 := GT (LN v0) (I 162)
abbrev e32_10 := Q (LE (LN v0) (I 160)) YY e32_9
abbrev e32_11 := Q e32_8 e32_10 e32_9
abbrev e32_12 := LO 3200 [v0,(I 0)]
abbrev e32_13 := PJ 0 e32_12
abbrev e32_14 := EQ e32_13 (I 1)
abbrev e32_15 := EQ e32_13 (I 2)
abbrev e32_16 := Q e32_14 YY e32_15
abbrev e32_17 := Q e32_11 YY e32_16
abbrev e32_18 := Q e32_14 (.b false) YY
abbrev e32_19 := Q e32_11 (.b false) e32_18
def B3200 : Te LEnd := .ite (LT v1 (LN v0)) (
 .need e32_0 (
 .need e32_5 (
 .ite e32_7 (
 .ok (.out 1 [])) (
 .ok (.again [v0,(AD v1 (I 1))]))))) (
 .ok (.out 2 []))
def d3200 : LoopD := ⟨4,⟨3200,2,((.sym (.sl [.str,(.int .i64),(.int .i64)]) v0) :: (J 4 ((Si 1) :: (J 46 [])))),⟨⟨0,[],[[]],none⟩,[],[]⟩,
 [(.ret,0,(J 4 ((.bool false) :: (J 47 []))),⟨⟨0,[],[[]],none⟩,[],[]⟩),
  (.exit 0,0,(J 52 []),⟨⟨0,[],[[]],none⟩,[],[]⟩)],[(1,[]),(2,[])]⟩,B3200⟩
@[simp] theorem d3200_id : d3200.L.id = 3200 := rfl
@[simp] theorem d3200_B : d3200.B = B3200 := rfl
def i32 : Inst := ⟨32, 0, [(.sym (.sl [.str, (.int .i64), (.int .i64)]) (.v 0)), (Si 1)], [.one .bool]⟩
def s32 : List Cal := [c37]
@[simp] theorem o32_37 : OE s32 37 0 F37 := oG rfl
@[simp] def l32 : List LoopD := [d3200]
def t32 : Te AV := .need e32_17 (
 .ok (.sym .bool e32_19))
def F32 : List AV → Option AV := unitF (omL KK s32 l32) t32
def c32 : Cal := ⟨i32, F32⟩
theorem x32 : XO i32 F32 := XV s32 l32 t32 g32 ⟨x37, trivial⟩ (by kernel_rfl) (by kernel_rfl) (by kernel_rfl)
def i16 : Inst := ⟨16, 0, [], [.one .bool]⟩
def F16 : List AV → Option AV := fun _ => some (.bool true)
def c16 : Cal := ⟨i16, F16⟩
theorem x16 : XO i16 F16 := by
 refine ⟨?_, fun p hp => by cases hp⟩
 have E : ExtOk Tryz.prog 16 (extTab [(a112, r112)]) := extOk_tab kn16 (fun e he => by
  simp only [List.mem_singleton] at he; subst he; exact row112)
 refine ⟨E.1, fun args r h B0 nx0 w ρ vargs H hrel hg hfl => E.2 args r h B0 nx0 w ρ vargs H hrel ?_ hfl⟩
 unfold extI at hg
 split at hg
 ·rename_i l hl
  split at hg
  ·cases ha : args.map (frz h 0 12) with
   | nil => rw [← hg]; rfl
   | cons x y => rw [ha] at hl; simp [i16, mtVs] at hl
  ·cases hg
 ·cases hg
abbrev e105_0 := OI (K 86 [v0,v1])
abbrev e105_1 := K 77 [v2,(I 1),(LN v0)]
abbrev e105_2 := OI e105_1
abbrev e105_3 : X := .sl 1 [[(K 86 [v0,v1])],[e105_1]]
abbrev e105_4 := K 76 [e105_3]
abbrev e105_5 := OI e105_4
def i105 : Inst := ⟨105, 0, [(.sym (.sl [.str, (.int .i64), (.int .i64)]) (.v 0)), (Si 1), (Si 2)], [.one (.int .i64)]⟩
def s105 : List Cal := [c86, c77, c76]
@[simp] theorem o105_86 : OE s105 86 0 F86 := oG rfl
@[simp] theorem o105_77 : OE s105 77 0 F77 := oG rfl
@[simp] theorem o105_76 : OE s105 76 0 F76 := oG rfl
@[simp] def l105 : List LoopD := []
def t105 : Te AV := .need e105_0 (
 .need e105_2 (
 .need e105_5 (
 .ok (.sym (.int .i64) e105_4))))
def F105 : List AV → Option AV := unitF (omL KK s105 l105) t105
def c105 : Cal := ⟨i105, F105⟩
theorem x105 : XO i105 F105 := XV s105 l105 t105 g105 ⟨x86, x77, x76, trivial⟩ (by kernel_rfl) (by kernel_rfl) (by kernel_rfl)
abbrev e54_0 := Q (LE (I 0) v6) (LT v6 (LN v4)) (.b false)
abbrev e54_1 : X := .p (.app 1) [v3,(.sl 1 [[v1]])]
abbrev e54_2 := LN e54_1
abbrev e54_3 := LE e54_2 (I 1073741824)
abbrev e54_4 := GT (C 2 v4 v6) v1
abbrev e54_5 := Q (LE (C 1 v4 v6) v1) e54_4 (.b false)
abbrev e54_6 := Q (GT v2 (I 0)) e54_5 (.b false)
abbrev e54_7 : X := .p (.app 1) [v3,(.sl 1 [[(C 2 v4 v6)]])]
abbrev e54_8 := LN e54_7
abbrev e54_9 := LE e54_8 (I 1073741824)
abbrev e54_10 : X := .p (.app 1) [v3,(.sl 1 [[(C 1 v4 v6)]])]
abbrev e54_11 := LN e54_10
abbrev e54_12 := LE e54_11 (I 1073741824)
abbrev e54_13 := K 105 [v0,v1,v2]
abbrev e54_14 := OI e54_13
abbrev e54_15 := NE e54_13 (I 0)
abbrev e54_16 := K 87 [v0,v1,v2]
abbrev e54_17 : X := .p (.okr [.one (.int .i64),.one .bool]) [e54_16]
abbrev e54_18 := Q e54_15 YY e54_17
abbrev e54_19 := PJ 1 e54_16
abbrev e54_20 := NO e54_19
abbrev e54_21 := PJ 0 e54_16
abbrev e54_22 := K 106 [v0,v1,e54_21]
abbrev e54_23 : X := .p (.okr [.one (.int .i64),.one (.int .i64)]) [e54_22]
abbrev e54_24 := Q e54_20 YY e54_23
abbrev e54_25 := Q e54_15 YY e54_24
abbrev e54_26 := PJ 0 e54_22
abbrev e54_27 := SB (SB v2 (I 1)) e54_26
abbrev e54_28 := LO 5400 [v1,e54_21,e54_27,.nils,v0,(LN v0),(I 0)]
abbrev e54_29 := PJ 0 e54_28
abbrev e54_30 := EQ e54_29 (I 1)
abbrev e54_31 := Q e54_20 YY e54_30
abbrev e54_32 := Q e54_15 YY e54_31
abbrev e54_33 := PJ 1 e54_28
abbrev e54_34 := Q e54_20 .nils e54_33
abbrev e54_35 := Q e54_15 .nils e54_34
abbrev e54_36 := Q e54_20 (I 23) (I 0)
abbrev e54_37 := Q e54_15 e54_13 e54_36
def B5400 : Te LEnd := .ite (LT v6 v5) (
 .need e54_0 (
 .ite (EQ v6 v0) (
 .need e54_3 (
 .ok (.again [v0,v1,v2,e54_1,v4,v5,(AD v6 (I 1))]))) (
 .ite e54_6 (
 .need e54_9 (
 .ok (.again [v0,v1,(SB v2 (I 1)),e54_7,v4,v5,(AD v6 (I 1))]))) (
 .need e54_12 (
 .ok (.again [v0,v1,v2,e54_10,v4,v5,(AD v6 (I 1))])))))) (
 .ok (.out 1 [v3]))
def d5400 : LoopD := ⟨11,⟨5400,7,(J 1 ((Si 0) :: (J 7 ((Si 1) :: (J 3 ((Si 2) :: ((.sym (.own 0 [(.int .i64)]) v3) :: (J 29 ((.sym (.sl [.str,(.int .i64),(.int .i64)]) v4) :: ((Si 5) :: ((Si 6) :: (J 41 [])))))))))))),⟨⟨3,[],[[]],none⟩,[(0,.rows [(.int .i64)] v3)],[]⟩,
 [(.exit 0,1,(J 14 ((.sym (.own 0 [(.int .i64)]) v0) :: (J 73 []))),⟨⟨3,[],[[]],none⟩,[(0,.rows [(.int .i64)] v0)],[]⟩)],[(1,[])]⟩,B5400⟩
@[simp] theorem d5400_id : d5400.L.id = 5400 := rfl
@[simp] theorem d5400_B : d5400.B = B5400 := rfl
def i54 : Inst := ⟨54, 0, [(.sym (.sl [.str, (.int .i64), (.int .i64)]) (.v 0)), (Si 1), (Si 2)], [.one (.sl [(.int .i64)]), .one (.int .i64)]⟩
def s54 : List Cal := [c105, c87, c106]
@[simp] theorem o54_105 : OE s54 105 0 F105 := oG rfl
@[simp] theorem o54_87 : OE s54 87 0 F87 := oG rfl
@[simp] theorem o54_106 : OE s54 106 0 F106 := oG rfl
@[simp] def l54 : List LoopD := [d5400]
def t54 : Te AV := .need e54_14 (
 .need e54_18 (
 .need e54_25 (
 .need e54_32 (
 .ok (.tuple [(.sym (.sl [(.int .i64)]) e54_35),(.sym (.int .i64) e54_37)])))))
def F54 : List AV → Option AV := unitF (omL KK s54 l54) t54
def c54 : Cal := ⟨i54, F54⟩
theorem x54 : XO i54 F54 := XV s54 l54 t54 g54 ⟨x105, x87, x106, trivial⟩ (by kernel_rfl) (by kernel_rfl) (by kernel_rfl)
abbrev e55_0 := Q (LE (I 0) v6) (LT v6 (LN v3)) (.b false)
abbrev e55_1 := Q (LE (I 0) v6) (LT v6 (LN v0)) (.b false)
abbrev e55_2 := K 77 [(C 0 v3 v6),(C 1 v0 v6),(C 2 v0 v6)]
abbrev e55_3 := OI e55_2
abbrev e55_4 := NE e55_2 (I 0)
abbrev e55_5 := Q (LE (I 0) v1) (LT v1 (LN v3)) (.b false)
abbrev e55_6 := GT (C 0 v3 v6) (C 0 v3 v1)
abbrev e55_7 := Q e55_6 (AD v4 (I 1)) v4
abbrev e55_8 := K 105 [v0,v1,v2]
abbrev e55_9 := OI e55_8
abbrev e55_10 := NE (LN v3) (LN v0)
abbrev e55_11 := K 80 [e55_10,(I 2)]
abbrev e55_12 := OI e55_11
abbrev e55_13 : X := .sl 1 [[e55_8],[e55_11]]
abbrev e55_14 := K 76 [e55_13]
abbrev e55_15 := OI e55_14
abbrev e55_16 := NE e55_14 (I 0)
abbrev e55_17 := LO 5500 [v0,v1,v2,v3,(I 1),(LN v3),(I 0)]
abbrev e55_18 := PJ 0 e55_17
abbrev e55_19 := EQ e55_18 (I 1)
abbrev e55_20 := EQ e55_18 (I 2)
abbrev e55_21 := Q e55_19 YY e55_20
abbrev e55_22 := Q e55_16 YY e55_21
abbrev e55_23 := PJ 2 e55_17
abbrev e55_24 := NE e55_23 v2
abbrev e55_25 := K 80 [e55_24,(I 21)]
abbrev e55_26 := OI e55_25
abbrev e55_27 := Q e55_19 YY e55_26
abbrev e55_28 := Q e55_16 YY e55_27
abbrev e55_29 := PJ 1 e55_17
abbrev e55_30 := Q e55_19 e55_29 e55_25
abbrev e55_31 := Q e55_16 e55_14 e55_30
def B5500 : Te LEnd := .ite (LT v6 v5) (
 .need e55_0 (
 .need e55_1 (
 .need e55_3 (
 .ite e55_4 (
 .ok (.out 1 [e55_2])) (
 .need e55_5 (
 .ok (.again [v0,v1,v2,v3,e55_7,v5,(AD v6 (I 1))]))))))) (
 .ok (.out 2 [v2,v4]))
def d5500 : LoopD := ⟨6,⟨5500,7,((.sym (.sl [.str,(.int .i64),(.int .i64)]) v0) :: ((Si 1) :: ((Si 2) :: ((S2 3) :: (J 6 ((Si 4) :: (J 18 ((S2 3) :: ((Si 5) :: ((Si 6) :: (J 32 []))))))))))),⟨⟨1,[],[[]],none⟩,[],[]⟩,
 [(.ret,1,(J 8 ((Si 0) :: (J 55 []))),⟨⟨1,[],[[]],none⟩,[],[]⟩),
  (.exit 0,2,(J 2 ((Si 0) :: (J 7 ((Si 1) :: (J 53 []))))),⟨⟨1,[],[[]],none⟩,[],[]⟩)],[(1,[]),(2,[(0,2)])]⟩,B5500⟩
@[simp] theorem d5500_id : d5500.L.id = 5500 := rfl
@[simp] theorem d5500_B : d5500.B = B5500 := rfl
def i55 : Inst := ⟨55, 0, [(.sym (.sl [.str, (.int .i64), (.int .i64)]) (.v 0)), (Si 1), (Si 2), (S2 3)], [.one (.int .i64)]⟩
def s55 : List Cal := [c105, c80, c76, c77]
@[simp] theorem o55_105 : OE s55 105 0 F105 := oG rfl
@[simp] theorem o55_80 : OE s55 80 0 F80 := oG rfl
@[simp] theorem o55_76 : OE s55 76 0 F76 := oG rfl
@[simp] theorem o55_77 : OE s55 77 0 F77 := oG rfl
@[simp] def l55 : List LoopD := [d5500]
def t55 : Te AV := .need e55_9 (
 .need e55_12 (
 .need e55_15 (
 .need e55_22 (
 .need e55_28 (
 .ok (.sym (.int .i64) e55_31))))))
def F55 : List AV → Option AV := unitF (omL KK s55 l55) t55
def c55 : Cal := ⟨i55, F55⟩
theorem x55 : XO i55 F55 := XV s55 l55 t55 g55 ⟨x105, x80, x76, x77, trivial⟩ (by kernel_rfl) (by kernel_rfl) (by kernel_rfl)
abbrev e56_0 := Q (LE (I 0) v5) (LT v5 (LN v3)) (.b false)
abbrev e56_1 := Q (LE (I 0) v5) (LT v5 (LN v0)) (.b false)
abbrev e56_2 := LT (C 0 v3 v5) (C 1 v0 v5)
abbrev e56_3 := GT (C 0 v3 v5) (C 2 v0 v5)
abbrev e56_4 := Q e56_2 YY e56_3
abbrev e56_5 := Q (LE (I 0) v1) (LT v1 (LN v3)) (.b false)
abbrev e56_6 := GT (C 0 v3 v5) (C 0 v3 v1)
abbrev e56_7 := Q e56_6 (AD v4 (I 1)) v4
abbrev e56_8 := NE (LN v3) (LN v0)
abbrev e56_9 := LO 5600 [v0,v1,v2,v3,(I 1),(I 0)]
abbrev e56_10 := PJ 0 e56_9
abbrev e56_11 := EQ e56_10 (I 1)
abbrev e56_12 := EQ e56_10 (I 2)
abbrev e56_13 := Q e56_11 YY e56_12
abbrev e56_14 := Q e56_8 YY e56_13
abbrev e56_15 := PJ 2 e56_9
abbrev e56_16 := NE e56_15 v2
abbrev e56_17 := Q e56_16 (I 21) (I 0)
abbrev e56_18 := Q e56_11 (I 3) e56_17
abbrev e56_19 := Q e56_8 (I 2) e56_18
def B5600 : Te LEnd := .ite (LT v5 (LN v0)) (
 .need e56_0 (
 .need e56_1 (
 .ite e56_4 (
 .ok (.out 1 [])) (
 .need e56_5 (
 .ok (.again [v0,v1,v2,v3,e56_7,(AD v5 (I 1))])))))) (
 .ok (.out 2 [v2,v4]))
def d5600 : LoopD := ⟨5,⟨5600,6,((.sym (.sl [.str,(.int .i64),(.int .i64)]) v0) :: ((Si 1) :: ((Si 2) :: ((S2 3) :: (J 5 ((Si 4) :: ((Si 5) :: (J 47 [])))))))),⟨⟨0,[],[[]],none⟩,[],[]⟩,
 [(.ret,0,(J 8 ((.int .i64 (3)) :: (J 49 []))),⟨⟨0,[],[[]],none⟩,[],[]⟩),
  (.exit 0,2,(J 2 ((Si 0) :: (J 6 ((Si 1) :: (J 48 []))))),⟨⟨0,[],[[]],none⟩,[],[]⟩)],[(1,[]),(2,[(0,2)])]⟩,B5600⟩
@[simp] theorem d5600_id : d5600.L.id = 5600 := rfl
@[simp] theorem d5600_B : d5600.B = B5600 := rfl
def i56 : Inst := ⟨56, 0, [(.sym (.sl [.str, (.int .i64), (.int .i64)]) (.v 0)), (Si 1), (Si 2), (S2 3)], [.one (.int .i64)]⟩
def s56 : List Cal := []
@[simp] def l56 : List LoopD := [d5600]
def t56 : Te AV := .need e56_14 (
 .ok (.sym (.int .i64) e56_19))
def F56 : List AV → Option AV := unitF (omL KK s56 l56) t56
def c56 : Cal := ⟨i56, F56⟩
theorem x56 : XO i56 F56 := XV s56 l56 t56 g56 trivial (by kernel_rfl) (by kernel_rfl) (by kernel_rfl)
abbrev e11_0 := OB (K 32 [v0,(I 8)])
abbrev e11_1 := NO (K 32 [v0,(I 8)])
abbrev e11_2 := GT (LN v3) (I 200)
abbrev e11_3 := Q e11_1 YY e11_2
abbrev e11_4 := OB (K 16 [])
abbrev e11_5 := Q e11_3 e11_4 YY
abbrev e11_6 : X := .p (.okr [.one (.sl [.str,(.int .i64),(.int .i64)])]) [(K 34 [v0])]
abbrev e11_7 := Q e11_3 YY e11_6
abbrev e11_8 := K 54 [(K 34 [v0]),v1,v2]
abbrev e11_9 : X := .p (.okr [.one (.sl [(.int .i64)]),.one (.int .i64)]) [e11_8]
abbrev e11_10 := Q e11_3 YY e11_9
abbrev e11_11 := LE (LN (.p (.app 1) [(.sl 1 []),v3])) (I 1073741824)
abbrev e11_12 := Q e11_3 YY e11_11
abbrev e11_13 := K 55 [(K 34 [v0]),v1,v2,(.p (.app 1) [(.sl 1 []),v3])]
abbrev e11_14 := OI e11_13
abbrev e11_15 := Q e11_3 YY e11_14
abbrev e11_16 := K 35 [v0,v1,v2]
abbrev e11_17 := OI e11_16
abbrev e11_18 := Q e11_3 YY e11_17
abbrev e11_19 := NE e11_16 (I 0)
abbrev e11_20 := PJ 0 e11_8
abbrev e11_21 := LN e11_20
abbrev e11_22 := EQ e11_21 (I 0)
abbrev e11_23 := PJ 1 e11_8
abbrev e11_24 := EQ e11_23 e11_16
abbrev e11_25 := EQ e11_13 e11_16
abbrev e11_26 := Q e11_25 e11_4 YY
abbrev e11_27 := Q e11_24 e11_26 YY
abbrev e11_28 := Q e11_22 e11_27 YY
abbrev e11_29 := Q e11_19 e11_28 YY
abbrev e11_30 := Q e11_3 YY e11_29
abbrev e11_31 := K 56 [v0,v1,v2,v3]
abbrev e11_32 := OI e11_31
abbrev e11_33 := Q e11_19 YY e11_32
abbrev e11_34 := Q e11_3 YY e11_33
abbrev e11_35 := NE e11_13 e11_31
abbrev e11_36 := K 57 [v0,v1,v2]
abbrev e11_37 := OB e11_36
abbrev e11_38 := Q e11_35 YY e11_37
abbrev e11_39 := Q e11_19 YY e11_38
abbrev e11_40 := Q e11_3 YY e11_39
abbrev e11_41 := NO e11_36
abbrev e11_42 := EQ e11_23 (I 23)
abbrev e11_43 := Q e11_42 e11_4 YY
abbrev e11_44 := Q e11_22 e11_43 YY
abbrev e11_45 := Q e11_41 e11_44 YY
abbrev e11_46 := Q e11_35 YY e11_45
abbrev e11_47 := Q e11_19 YY e11_46
abbrev e11_48 := Q e11_3 YY e11_47
abbrev e11_49 := EQ e11_23 (I 0)
abbrev e11_50 := K 56 [v0,v1,v2,e11_20]
abbrev e11_51 := OI e11_50
abbrev e11_52 := Q e11_49 e11_51 YY
abbrev e11_53 := Q e11_41 YY e11_52
abbrev e11_54 := Q e11_35 YY e11_53
abbrev e11_55 := Q e11_19 YY e11_54
abbrev e11_56 := Q e11_3 YY e11_55
abbrev e11_57 := EQ e11_50 (I 0)
abbrev e11_58 := Q e11_57 e11_4 YY
abbrev e11_59 := Q e11_49 e11_58 YY
abbrev e11_60 := Q e11_41 YY e11_59
abbrev e11_61 := Q e11_35 YY e11_60
abbrev e11_62 := Q e11_19 YY e11_61
abbrev e11_63 := Q e11_3 YY e11_62
abbrev e11_64 := Q e11_25 (K 16 []) (.b false)
abbrev e11_65 := Q e11_24 e11_64 (.b false)
abbrev e11_66 := Q e11_22 e11_65 (.b false)
abbrev e11_67 := Q e11_42 (K 16 []) (.b false)
abbrev e11_68 := Q e11_22 e11_67 (.b false)
abbrev e11_69 := Q e11_57 (K 16 []) (.b false)
abbrev e11_70 := Q e11_49 e11_69 (.b false)
abbrev e11_71 := Q e11_41 e11_68 e11_70
abbrev e11_72 := Q e11_35 (.b false) e11_71
abbrev e11_73 := Q e11_19 e11_66 e11_72
abbrev e11_74 := Q e11_3 (K 16 []) e11_73
def i11 : Inst := ⟨11, 0, [(.sym (.sl [.str, (.int .i64), (.int .i64)]) (.v 0)), (.agg [(.sym (.int .i64) (.v 1)), (.sym (.int .i64) (.v 2))]), (.sym (.sl [(.int .i64)]) (.v 3))], [.one .bool]⟩
def s11 : List Cal := [c32, c16, c34, c54, c55, c35, c56, c57]
@[simp] theorem o11_32 : OE s11 32 0 F32 := oG rfl
@[simp] theorem o11_16 : OE s11 16 0 F16 := oG rfl
@[simp] theorem o11_34 : OE s11 34 0 F34 := oG rfl
@[simp] theorem o11_54 : OE s11 54 0 F54 := oG rfl
@[simp] theorem o11_55 : OE s11 55 0 F55 := oG rfl
@[simp] theorem o11_35 : OE s11 35 0 F35 := oG rfl
@[simp] theorem o11_56 : OE s11 56 0 F56 := oG rfl
@[simp] theorem o11_57 : OE s11 57 0 F57 := oG rfl
@[simp] def l11 : List LoopD := []
def t11 : Te AV := .need e11_0 (
 .need e11_5 (
 .need e11_7 (
 .need e11_10 (
 .need e11_12 (
 .need e11_15 (
 .need e11_18 (
 .need e11_30 (
 .need e11_34 (
 .need e11_40 (
 .need e11_48 (
 .need e11_56 (
 .need e11_63 (
 .ok (.sym .bool e11_74))))))))))))))
def F11 : List AV → Option AV := unitF (omL KK s11 l11) t11
def c11 : Cal := ⟨i11, F11⟩
theorem x11 : XO i11 F11 := XUL (cs := s11) (ds := l11) (t := t11) ⟨x32, x16, x34, x54, x55, x35, x56, x57, trivial⟩ (x := g11) (by kernel_rfl) (by kernel_rfl) (by kernel_rfl)
end Go.Proofs.YtdjngcfnlfgjkaaGreatDoor.C5
