/-
  Functions, as trees.
-/
import Derived.Test.YtdeaibcebeofiaaGreatDoorBase
import Derived.Test.YtdeaibcebeofiaaGreatDoorSm6
set_option linter.unusedVariables false
set_option linter.unusedSimpArgs false
set_option linter.unusedSectionVars false
namespace Go.Proofs.YtdeaibcebeofiaaGreatDoor.C5
open Go Go.Proofs.YtdeaibcebeofiaaGreatDoor.AM Go.Proofs
def KK : Nat := 2097152
@[reducible] def I (n : Int) : X := .i .i64 n
@[reducible] def Q (c a b : X) : X := .p .ite [c, a, b]
@[reducible] def LE (a b : X) : X := .p (.bin .leq .i64) [a, b]
@[reducible] def LT (a b : X) : X := .p (.bin .lss .i64) [a, b]
@[reducible] def EQ (a b : X) : X := .p (.bin .eql .i64) [a, b]
@[reducible] def AD (a b : X) : X := .p (.bin .add .i64) [a, b]
@[reducible] def SB (a b : X) : X := .p (.bin .sub .i64) [a, b]
@[reducible] def C (k : Nat) (a b : X) : X := .p (.cell k) [a, b]
@[reducible] def LN (a : X) : X := .p .len [a]
@[reducible] def PJ (k : Nat) (a : X) : X := .p (.proj k) [a]
@[reducible] def NE (a b : X) : X := .p (.bin .neq .i64) [a, b]
@[reducible] def GT (a b : X) : X := .p (.bin .gtr .i64) [a, b]
@[reducible] def GE (a b : X) : X := .p (.bin .geq .i64) [a, b]
@[reducible] def RM (a b : X) : X := .p (.bin .rem .i64) [a, b]
@[reducible] def QU (a b : X) : X := .p (.bin .quo .i64) [a, b]
@[reducible] def MU (a b : X) : X := .p (.bin .mul .i64) [a, b]
@[reducible] def SE (a b : X) : X := .p (.sbin .eql) [a, b]
@[reducible] def SN (a b : X) : X := .p (.sbin .neq) [a, b]
@[reducible] def SA (a b : X) : X := .p (.sbin .add) [a, b]
@[reducible] def CO (a b : X) : X := .p .catOk [a, b]
@[reducible] def KE (a b : X) : X := .p .keq [a, b]
@[reducible] def BE (a b : X) : X := .p .beq [a, b]
@[reducible] def NO (a : X) : X := .p .not [a]
@[reducible] def OI (a : X) : X := .p (.okr [.one (.int .i64)]) [a]
@[reducible] def OS (a : X) : X := .p (.okr [.one .str]) [a]
@[reducible] def OB (a : X) : X := .p (.okr [.one .bool]) [a]
@[reducible] def FL (k : Nat) (a : X) : X := .p (.fld k) [a]
@[reducible] def K (f : Nat) (l : List X) : X := .p (.call f 0) l
@[reducible] def LO (n : Nat) (l : List X) : X := .p (.call 100000 n) l
@[reducible] def YY : X := .b true
@[reducible] def v0 : X := .v 0
@[reducible] def v1 : X := .v 1
@[reducible] def v2 : X := .v 2
@[reducible] def v3 : X := .v 3
@[reducible] def v4 : X := .v 4
@[reducible] def v5 : X := .v 5
@[reducible] def v6 : X := .v 6
@[reducible] def v7 : X := .v 7
@[reducible] def v8 : X := .v 8
@[reducible] def v9 : X := .v 9
@[reducible] def v10 : X := .v 10
@[reducible] def v11 : X := .v 11
@[reducible] def v12 : X := .v 12
@[reducible] def v13 : X := .v 13
@[reducible] def v14 : X := .v 14
@[reducible] def v15 : X := .v 15
@[reducible] def v16 : X := .v 16
@[reducible] def v17 : X := .v 17
@[reducible] def v18 : X := .v 18
@[reducible] def v19 : X := .v 19
@[reducible] def v20 : X := .v 20
@[reducible] def v21 : X := .v 21
@[reducible] def v22 : X := .v 22
@[reducible] def v23 : X := .v 23
def Si (n : Nat) : AV := .sym (.int .i64) (.v n)
def Ss (n : Nat) : AV := .sym .str (.v n)
def Sb (n : Nat) : AV := .sym .bool (.v n)
def S1 (n : Nat) : AV := .sym (.sl [.str]) (.v n)
def S2 (n : Nat) : AV := .sym (.sl [.int .i64]) (.v n)
def S3 (n : Nat) : AV := .sym (.sl [.int .i64, .int .i64, .int .i64, .bool]) (.v n)
def S4 (n : Nat) : AV := .sym (.sl [.str, .str, .int .i64, .int .i64, .int .i64, .int .i64, .bool, .bool, .bool, .sl [.int .i64, .int .i64, .int .i64, .bool], .sl [.int .i64]]) (.v n)
def J : Nat → List AV → List AV
 | 0, l => l
 | n + 1, l => .junk :: J n l
def allX (P : Program) : List Cal → Prop
 | [] => True
 | c :: cs => ExtOk P c.I.f (extI c.I c.F) ∧ allX P cs
theorem allX_mem {P : Program} : ∀ {cs : List Cal}, allX P cs → ∀ c ∈ cs, ExtOk P c.I.f (extI c.I c.F)
 | _ :: _, h, _, .head _ => h.1
 | _ :: _, h, _, .tail _ hc => allX_mem h.2 _ hc
def calF : List Cal → Nat → Nat → Option (List AV → Option AV)
 | [], _, _ => none
 | c :: cs, f, n => if c.I.f = f ∧ c.I.n = n then some c.F else calF cs f n
abbrev OE (cs : List Cal) (f n : Nat) (F : List AV → Option AV) : Prop := ∀ vs, calO cs f n vs = getJ (F vs)
theorem oG {f n : Nat} {F : List AV → Option AV} : ∀ {cs : List Cal}, calF cs f n = some F → ∀ vs, calO cs f n vs = getJ (F vs)
 | [], h, _ => by cases h
 | c :: cs, h, vs => by
   simp only [calF] at h
   simp only [calO]
   split at h
   ·rename_i hc; rw [if_pos hc]; injection h with h; rw [h]
   ·rename_i hc; rw [if_neg hc]; exact oG h vs
abbrev XO (i : Inst) (F : List AV → Option AV) := ExtOk Tryz.prog i.f (extI i F)
theorem XU {i : Inst} {cs : List Cal} {ds : List LoopD} {t : Te AV} (h : allX Tryz.prog cs) {x : FnE} (h1 : tab.fn.get i.f = some x) (h2 : x.fn.body.isNone = false) (h3 : unitChk tab keep cs ds 40 i.f i.pats t = true) : XO i (unitF (omL KK cs ds) t) :=
 unit_ext tabOf.1 tabOf.2 (allX_mem h) (fn_known tabOf.1 h1 h2) h3
theorem XV {i : Inst} (cs : List Cal) (ds : List LoopD) (t : Te AV) (x : FnE) (h : allX Tryz.prog cs) (h1 : tab.fn.get i.f = some x) (h2 : x.fn.body.isNone = false) (h3 : unitChk tab keep cs ds 40 i.f i.pats t = true) : XO i (unitF (omL KK cs ds) t) := XU h h1 h2 h3
theorem cal_cons (c : Cal) (cs : List Cal) (f n : Nat) (vs : List AV) : calO (c :: cs) f n vs = if c.I.f = f ∧ c.I.n = n then getJ (c.F vs) else calO cs f n vs := rfl
def w0 : ByteArray := ⟨#[108, 101, 97, 100]⟩
def w1 : ByteArray := ⟨#[98, 111, 117, 108, 100, 101, 114]⟩
def w2 : ByteArray := ⟨#[115, 112, 101, 101, 100]⟩
def w3 : ByteArray := ⟨#[]⟩
def w4 : ByteArray := ⟨#[119, 97, 105, 116, 105, 110, 103]⟩
def w5 : ByteArray := ⟨#[111, 110]⟩
def w6 : ByteArray := ⟨#[100, 111, 110, 101]⟩
def w7 : ByteArray := ⟨#[100, 110, 115]⟩
def w8 : ByteArray := ⟨#[100, 110, 102]⟩
def w9 : ByteArray := ⟨#[100, 115, 113]⟩
def w10 : ByteArray := ⟨#[48]⟩
def w11 : ByteArray := ⟨#[45]⟩
def w12 : ByteArray := ⟨#[43]⟩
def w13 : ByteArray := ⟨#[84, 79, 80]⟩
def w14 : ByteArray := ⟨#[84]⟩
def w15 : ByteArray := ⟨#[32]⟩
def w16 : ByteArray := ⟨#[90]⟩
def w17 : ByteArray := ⟨#[46]⟩
def w18 : ByteArray := ⟨#[58]⟩
def w19 : ByteArray := ⟨#[32, 47, 32]⟩
end Go.Proofs.YtdeaibcebeofiaaGreatDoor.C5

namespace Go.Proofs.YtdeaibcebeofiaaGreatDoor.C5
open Go Go.Proofs.YtdeaibcebeofiaaGreatDoor.AM Go.Proofs
theorem ext_sub {P : Program} {f : FuncId} {g : List AV → Option AV} {i : Inst} {F : List AV → Option AV} (E : ExtOk P f g) (h : ∀ args r, extI i F args = some r → g args = some r) : ExtOk P f (extI i F) :=
 ⟨E.1, fun args r hh B0 nx0 w ρ vargs H hrel hg hfl => E.2 args r hh B0 nx0 w ρ vargs H hrel (h _ _ hg) hfl⟩
theorem ext1 {f : Nat} {s : Sh} {rs : List RS} {F : List AV → Option AV} (args : List AV) (r : AV) (h : extI ⟨f, 0, [.sym s (.v 0)], rs⟩ F args = some r) : F args = some r := by
 rcases args with _ | ⟨a, _ | ⟨b, t⟩⟩
 ·simp [extI, mtVs] at h
 ·by_cases hs : s.ok a = true
  ·simpa [extI, mtVs, mtV, hs, List.range_succ] using h
  ·simp [extI, mtVs, mtV, hs] at h
 ·by_cases hs : s.ok a = true <;> simp [extI, mtVs, mtV, hs] at h
theorem ext2 {f : Nat} {s s' : Sh} {rs : List RS} {F : List AV → Option AV} (args : List AV) (r : AV) (h : extI ⟨f, 0, [.sym s (.v 0), .sym s' (.v 1)], rs⟩ F args = some r) : F args = some r := by
 rcases args with _ | ⟨a, _ | ⟨b, _ | ⟨c, t⟩⟩⟩
 ·simp [extI, mtVs] at h
 ·by_cases hs : s.ok a = true <;> simp [extI, mtVs, mtV, hs] at h
 ·by_cases hs : s.ok a = true <;> by_cases hs' : s'.ok b = true
  ·simpa [extI, mtVs, mtV, hs, hs', List.range_succ] using h
  all_goals simp [extI, mtVs, mtV, hs, hs'] at h
 ·by_cases hs : s.ok a = true <;> by_cases hs' : s'.ok b = true <;> simp [extI, mtVs, mtV, hs, hs'] at h
def i165 : Inst := ⟨165, 0, [.sym (.sl [.str]) (.v 0), .sym .str (.v 1)], [.one .str]⟩
def F165 : List AV → Option AV := baseJoin
def c165 : Cal := ⟨i165, F165⟩
theorem x165 : XO i165 F165 := ext_sub joinOk ext2
def i214 : Inst := ⟨214, 0, [.sym .str (.v 0), .sym (.int .i64) (.v 1)], [.one .str]⟩
def F214 : List AV → Option AV := baseRepeat
def c214 : Cal := ⟨i214, F214⟩
theorem x214 : XO i214 F214 := ext_sub repeatOk ext2
def i213 : Inst := ⟨213, 0, [.sym (.int .i64) (.v 0)], [.one .str]⟩
def F213 : List AV → Option AV := baseItoa
def c213 : Cal := ⟨i213, F213⟩
theorem x213 : XO i213 F213 := ext_sub itoaOk ext1
end Go.Proofs.YtdeaibcebeofiaaGreatDoor.C5

namespace Go.Proofs.YtdeaibcebeofiaaGreatDoor.C5
open Go Go.Proofs.YtdeaibcebeofiaaGreatDoor.AM Go.Proofs
set_option maxRecDepth 100000
abbrev e89_0 := Q (LT v0 v1) YY (GT v0 v2)
def i89 : Inst := ⟨89, 0, [(Si 0), (Si 1), (Si 2)], [.one .bool]⟩
def s89 : List Cal := []
@[simp] def l89 : List LoopD := []
def t89 : Te AV := .ok (.sym .bool e89_0)
def F89 : List AV → Option AV := unitF (omL KK s89 l89) t89
def c89 : Cal := ⟨i89, F89⟩
theorem x89 : XO i89 F89 := XV s89 l89 t89 g89 trivial (by kernel_rfl) (by kernel_rfl) (by kernel_rfl)
def i103 : Inst := ⟨103, 0, [(Sb 0), (Si 1)], [.one (.int .i64)]⟩
def s103 : List Cal := []
@[simp] def l103 : List LoopD := []
def t103 : Te AV := .ok (.sym (.int .i64) (Q v0 v1 (I 0)))
def F103 : List AV → Option AV := unitF (omL KK s103 l103) t103
def c103 : Cal := ⟨i103, F103⟩
theorem x103 : XO i103 F103 := XV s103 l103 t103 g103 trivial (by kernel_rfl) (by kernel_rfl) (by kernel_rfl)
abbrev e177_0 := Q (LE (I 0) v3) (LT v3 (LN v0)) (.b false)
abbrev e177_1 := SE v1 (C 0 v0 v3)
abbrev e177_2 := LO 17700 [v0,v1,(LN v0),(I 0)]
abbrev e177_3 := PJ 0 e177_2
abbrev e177_4 := EQ e177_3 (I 1)
abbrev e177_5 := EQ e177_3 (I 2)
abbrev e177_6 := Q e177_4 YY e177_5
abbrev e177_7 := PJ 1 e177_2
abbrev e177_8 := Q e177_4 e177_7 (I (-1))
def B17700 : Te LEnd := .ite (LT v3 v2) (
 .need e177_0 (
 .ite e177_1 (
 .ok (.out 1 [v3])) (
 .ok (.again [v0,v1,v2,(AD v3 (I 1))])))) (
 .ok (.out 2 []))
def d17700 : LoopD := ⟨2,⟨17700,4,((S1 0) :: ((Ss 1) :: (J 5 ((Si 2) :: ((Si 3) :: (J 10 [])))))),⟨⟨0,[],[[]],none⟩,[],[]⟩,
 [(.ret,1,(J 4 ((Si 0) :: (J 14 []))),⟨⟨0,[],[[]],none⟩,[],[]⟩),
  (.exit 0,0,(J 19 []),⟨⟨0,[],[[]],none⟩,[],[]⟩)],[(1,[]),(2,[])]⟩,B17700⟩
@[simp] theorem d17700_id : d17700.L.id = 17700 := rfl
@[simp] theorem d17700_B : d17700.B = B17700 := rfl
def i177 : Inst := ⟨177, 0, [(S1 0), (Ss 1)], [.one (.int .i64)]⟩
def s177 : List Cal := []
@[simp] def l177 : List LoopD := [d17700]
def t177 : Te AV := .need e177_6 (
 .ok (.sym (.int .i64) e177_8))
def F177 : List AV → Option AV := unitF (omL KK s177 l177) t177
def c177 : Cal := ⟨i177, F177⟩
theorem x177 : XO i177 F177 := XV s177 l177 t177 g177 trivial (by kernel_rfl) (by kernel_rfl) (by kernel_rfl)
abbrev e114_0 := OI (K 177 [v0,v1])
abbrev e114_1 := GE (K 177 [v0,v1]) (I 0)
def i114 : Inst := ⟨114, 0, [(S1 0), (Ss 1)], [.one .bool]⟩
def s114 : List Cal := [c177]
@[simp] theorem o114_177 : OE s114 177 0 F177 := oG rfl
@[simp] def l114 : List LoopD := []
def t114 : Te AV := .need e114_0 (
 .ok (.sym .bool e114_1))
def F114 : List AV → Option AV := unitF (omL KK s114 l114) t114
def c114 : Cal := ⟨i114, F114⟩
theorem x114 : XO i114 F114 := XV s114 l114 t114 g114 ⟨x177, trivial⟩ (by kernel_rfl) (by kernel_rfl) (by kernel_rfl)
abbrev e102_0 := Q (LE (I 0) v2) (LT v2 (LN v0)) (.b false)
abbrev e102_1 := NE (C 0 v0 v2) (I 0)
abbrev e102_2 := LO 10200 [v0,(LN v0),(I 0)]
abbrev e102_3 := PJ 0 e102_2
abbrev e102_4 := EQ e102_3 (I 1)
abbrev e102_5 := EQ e102_3 (I 2)
abbrev e102_6 := Q e102_4 YY e102_5
abbrev e102_7 := PJ 1 e102_2
abbrev e102_8 := Q e102_4 e102_7 (I 0)
def B10200 : Te LEnd := .ite (LT v2 v1) (
 .need e102_0 (
 .ite e102_1 (
 .ok (.out 1 [(C 0 v0 v2)])) (
 .ok (.again [v0,v1,(AD v2 (I 1))])))) (
 .ok (.out 2 []))
def d10200 : LoopD := ⟨2,⟨10200,3,(J 5 ((S2 0) :: ((Si 1) :: ((Si 2) :: (J 7 []))))),⟨⟨0,[],[[]],none⟩,[],[]⟩,
 [(.ret,1,(J 2 ((Si 0) :: (J 12 []))),⟨⟨0,[],[[]],none⟩,[],[]⟩),
  (.exit 0,0,(J 15 []),⟨⟨0,[],[[]],none⟩,[],[]⟩)],[(1,[]),(2,[])]⟩,B10200⟩
@[simp] theorem d10200_id : d10200.L.id = 10200 := rfl
@[simp] theorem d10200_B : d10200.B = B10200 := rfl
def i102 : Inst := ⟨102, 0, [(S2 0)], [.one (.int .i64)]⟩
def s102 : List Cal := []
@[simp] def l102 : List LoopD := [d10200]
def t102 : Te AV := .need e102_6 (
 .ok (.sym (.int .i64) e102_8))
def F102 : List AV → Option AV := unitF (omL KK s102 l102) t102
def c102 : Cal := ⟨i102, F102⟩
theorem x102 : XO i102 F102 := XV s102 l102 t102 g102 trivial (by kernel_rfl) (by kernel_rfl) (by kernel_rfl)
abbrev e112_0 := Q (KE v0 (.s w2)) (I 8) (I 0)
abbrev e112_1 := Q (KE v0 (.s w1)) (I 8) e112_0
abbrev e112_2 := Q (KE v0 (.s w0)) (I 64) e112_1
def i112 : Inst := ⟨112, 0, [(Ss 0)], [.one (.int .i64)]⟩
def s112 : List Cal := []
@[simp] def l112 : List LoopD := []
def t112 : Te AV := .ok (.sym (.int .i64) e112_2)
def F112 : List AV → Option AV := unitF (omL KK s112 l112) t112
def c112 : Cal := ⟨i112, F112⟩
theorem x112 : XO i112 F112 := XV s112 l112 t112 g112 trivial (by kernel_rfl) (by kernel_rfl) (by kernel_rfl)
abbrev e113_0 : X := .p (.bin .geq .i32) [(.p .rune [v1,v2]),(.i .i32 (97))]
abbrev e113_1 : X := .p (.bin .leq .i32) [(.p .rune [v1,v2]),(.i .i32 (122))]
abbrev e113_2 : X := .p (.bin .geq .i32) [(.p .rune [v1,v2]),(.i .i32 (65))]
abbrev e113_3 : X := .p (.bin .leq .i32) [(.p .rune [v1,v2]),(.i .i32 (90))]
abbrev e113_4 := Q e113_2 e113_3 (.b false)
abbrev e113_5 := Q e113_1 YY e113_4
abbrev e113_6 := Q e113_0 e113_5 e113_4
abbrev e113_7 := NO e113_6
abbrev e113_8 : X := .p (.bin .neq .i32) [(.p .rune [v1,v2]),(.i .i32 (95))]
abbrev e113_9 : X := .p (.bin .lss .i32) [(.p .rune [v1,v2]),(.i .i32 (48))]
abbrev e113_10 : X := .p (.bin .gtr .i32) [(.p .rune [v1,v2]),(.i .i32 (57))]
abbrev e113_11 := Q e113_9 YY e113_10
abbrev e113_12 := Q e113_8 e113_11 (.b false)
abbrev e113_13 := Q (EQ v2 (I 0)) YY e113_12
abbrev e113_14 := Q e113_7 e113_13 (.b false)
abbrev e113_15 := LO 11300 [v0,v0,(I 0)]
abbrev e113_16 := PJ 0 e113_15
abbrev e113_17 := EQ e113_16 (I 1)
abbrev e113_18 := EQ e113_16 (I 2)
abbrev e113_19 := Q e113_17 YY e113_18
abbrev e113_20 := Q (SN v0 (.s w3)) (LE (LN v0) (I 24)) (.b false)
abbrev e113_21 := Q e113_17 (.b false) e113_20
def B11300 : Te LEnd := .ite (LT v2 (LN v1)) (
 .ite e113_14 (
 .ok (.out 1 [])) (
 .ok (.again [v0,v1,(.p .adv [v1,v2])]))) (
 .ok (.out 2 [v0]))
def d11300 : LoopD := ⟨2,⟨11300,3,((Ss 0) :: (J 5 ((.sym (.sown 0) YY) :: (J 30 [])))),⟨⟨1,[],[[]],none⟩,[(0,.si v1 v2)],[]⟩,
 [(.ret,0,(J 2 ((.bool false) :: (J 34 []))),⟨⟨1,[],[[]],none⟩,[],[]⟩),
  (.exit 0,1,((Ss 0) :: (J 36 [])),⟨⟨1,[],[[]],none⟩,[],[]⟩)],[(1,[]),(2,[(0,0)])]⟩,B11300⟩
@[simp] theorem d11300_id : d11300.L.id = 11300 := rfl
@[simp] theorem d11300_B : d11300.B = B11300 := rfl
def i113 : Inst := ⟨113, 0, [(Ss 0)], [.one .bool]⟩
def s113 : List Cal := []
@[simp] def l113 : List LoopD := [d11300]
def t113 : Te AV := .need e113_19 (
 .ok (.sym .bool e113_21))
def F113 : List AV → Option AV := unitF (omL KK s113 l113) t113
def c113 : Cal := ⟨i113, F113⟩
theorem x113 : XO i113 F113 := XV s113 l113 t113 g113 trivial (by kernel_rfl) (by kernel_rfl) (by kernel_rfl)
abbrev e115_0 := K 89 [v0,v1,v2]
abbrev e115_1 := OB e115_0
abbrev e115_2 := K 103 [e115_0,(I 3)]
abbrev e115_3 := OI e115_2
def i115 : Inst := ⟨115, 0, [(Si 0), (Si 1), (Si 2)], [.one (.int .i64)]⟩
def s115 : List Cal := [c89, c103]
@[simp] theorem o115_89 : OE s115 89 0 F89 := oG rfl
@[simp] theorem o115_103 : OE s115 103 0 F103 := oG rfl
@[simp] def l115 : List LoopD := []
def t115 : Te AV := .need e115_1 (
 .need e115_3 (
 .ok (.sym (.int .i64) e115_2)))
def F115 : List AV → Option AV := unitF (omL KK s115 l115) t115
def c115 : Cal := ⟨i115, F115⟩
theorem x115 : XO i115 F115 := XV s115 l115 t115 g115 ⟨x89, x103, trivial⟩ (by kernel_rfl) (by kernel_rfl) (by kernel_rfl)
abbrev e58_0 := Q (LE (I 0) v2) (LT v2 (LN v0)) (.b false)
abbrev e58_1 := OB (K 113 [(C 0 v0 v2)])
abbrev e58_2 := NO (K 113 [(C 0 v0 v2)])
abbrev e58_3 := K 103 [e58_2,(I 8)]
abbrev e58_4 := OI e58_3
abbrev e58_5 := K 114 [(.p .slice [v0,(I 0),v2]),(C 0 v0 v2)]
abbrev e58_6 := OB e58_5
abbrev e58_7 := K 103 [e58_5,(I 9)]
abbrev e58_8 := OI e58_7
abbrev e58_9 : X := .sl 1 [[e58_3],[e58_7]]
abbrev e58_10 := K 102 [e58_9]
abbrev e58_11 := OI e58_10
abbrev e58_12 := NE e58_10 (I 0)
abbrev e58_13 := OI (K 112 [v0])
abbrev e58_14 := K 103 [(EQ (K 112 [v0]) (I 0)),(I 13)]
abbrev e58_15 := OI e58_14
abbrev e58_16 := K 103 [(EQ (LN v1) (I 0)),(I 12)]
abbrev e58_17 := OI e58_16
abbrev e58_18 := GT (LN v1) (I 160)
abbrev e58_19 := K 103 [e58_18,(I 5)]
abbrev e58_20 := OI e58_19
abbrev e58_21 : X := .sl 1 [[e58_14],[e58_16],[e58_19]]
abbrev e58_22 := K 102 [e58_21]
abbrev e58_23 := OI e58_22
abbrev e58_24 := NE e58_22 (I 0)
abbrev e58_25 := LO 5800 [v1,(LN v1),(I 0),v0,v2,v3]
abbrev e58_26 := PJ 0 e58_25
abbrev e58_27 := EQ e58_26 (I 1)
abbrev e58_28 := EQ e58_26 (I 2)
abbrev e58_29 := Q e58_27 YY e58_28
abbrev e58_30 := Q e58_24 YY e58_29
abbrev e58_31 := K 115 [v2,(I 1),(K 112 [v0])]
abbrev e58_32 := OI e58_31
abbrev e58_33 := Q e58_27 YY e58_32
abbrev e58_34 := Q e58_24 YY e58_33
abbrev e58_35 := K 115 [v3,(I 1),(I 86399999)]
abbrev e58_36 := OI e58_35
abbrev e58_37 := Q e58_27 YY e58_36
abbrev e58_38 := Q e58_24 YY e58_37
abbrev e58_39 : X := .sl 1 [[e58_31],[e58_35]]
abbrev e58_40 := K 102 [e58_39]
abbrev e58_41 := OI e58_40
abbrev e58_42 := Q e58_27 YY e58_41
abbrev e58_43 := Q e58_24 YY e58_42
abbrev e58_44 := PJ 1 e58_25
abbrev e58_45 := Q e58_27 e58_44 e58_40
abbrev e58_46 := Q e58_24 e58_22 e58_45
def B5800 : Te LEnd := .ite (LT v2 v1) (
 .need e58_0 (
 .need e58_1 (
 .need e58_4 (
 .need (LE (I 0) v2) (
 .need (LE v2 (LN v0)) (
 .need e58_6 (
 .need e58_8 (
 .need e58_11 (
 .ite e58_12 (
 .ok (.out 1 [e58_10])) (
 .ok (.again [v0,v1,(AD v2 (I 1)),v3,v4,v5]))))))))))) (
 .ok (.out 2 [v3,v0,v4,v5]))
def d5800 : LoopD := ⟨5,⟨5800,6,(J 1 ((.ptr 0 0 0) :: (J 26 ((S1 0) :: ((Si 1) :: ((Si 2) :: (J 32 []))))))),⟨⟨3,[(0,.cells 4 [[(Ss 3),(S1 0),(Si 4),(Si 5)]])],[[]],none⟩,[],[]⟩,
 [(.ret,1,(J 2 ((Si 0) :: (J 60 []))),⟨⟨4,[],[[]],none⟩,[],[]⟩),
  (.exit 0,4,(J 1 ((.ptr 0 0 0) :: (J 61 []))),⟨⟨3,[(0,.cells 4 [[(Ss 0),(S1 1),(Si 2),(Si 3)]])],[[]],none⟩,[],[]⟩)],[(1,[]),(2,[(0,3),(1,0),(2,4),(3,5)])]⟩,B5800⟩
@[simp] theorem d5800_id : d5800.L.id = 5800 := rfl
@[simp] theorem d5800_B : d5800.B = B5800 := rfl
def i58 : Inst := ⟨58, 0, [(.agg [(Ss 0), (S1 1), (Si 2), (Si 3)])], [.one (.int .i64)]⟩
def s58 : List Cal := [c112, c103, c102, c115, c113, c114]
@[simp] theorem o58_112 : OE s58 112 0 F112 := oG rfl
@[simp] theorem o58_103 : OE s58 103 0 F103 := oG rfl
@[simp] theorem o58_102 : OE s58 102 0 F102 := oG rfl
@[simp] theorem o58_115 : OE s58 115 0 F115 := oG rfl
@[simp] theorem o58_113 : OE s58 113 0 F113 := oG rfl
@[simp] theorem o58_114 : OE s58 114 0 F114 := oG rfl
@[simp] def l58 : List LoopD := [d5800]
def t58 : Te AV := .need e58_13 (
 .need e58_15 (
 .need e58_17 (
 .need e58_20 (
 .need e58_23 (
 .need e58_30 (
 .need e58_34 (
 .need e58_38 (
 .need e58_43 (
 .ok (.sym (.int .i64) e58_46))))))))))
def F58 : List AV → Option AV := unitF (omL KK s58 l58) t58
def c58 : Cal := ⟨i58, F58⟩
theorem x58 : XO i58 F58 := XV s58 l58 t58 g58 ⟨x112, x103, x102, x115, x113, x114, trivial⟩ (by kernel_rfl) (by kernel_rfl) (by kernel_rfl)
end Go.Proofs.YtdeaibcebeofiaaGreatDoor.C5

namespace Go.Proofs.YtdeaibcebeofiaaGreatDoor.C5
open Go Go.Proofs.YtdeaibcebeofiaaGreatDoor.AM Go.Proofs
set_option maxRecDepth 100000
abbrev e90_0 := Q (LT v0 v1) YY (GT v0 v2)
def i90 : Inst := ⟨90, 0, [(Si 0), (Si 1), (Si 2)], [.one .bool]⟩
def s90 : List Cal := []
@[simp] def l90 : List LoopD := []
def t90 : Te AV := .ok (.sym .bool e90_0)
def F90 : List AV → Option AV := unitF (omL KK s90 l90) t90
def c90 : Cal := ⟨i90, F90⟩
theorem x90 : XO i90 F90 := XV s90 l90 t90 g90 trivial (by kernel_rfl) (by kernel_rfl) (by kernel_rfl)
abbrev e116_0 := Q (SE v0 (.s w2)) (I 8) (I 0)
abbrev e116_1 := Q (SE v0 (.s w1)) (I 8) e116_0
abbrev e116_2 := Q (SE v0 (.s w0)) (I 64) e116_1
def i116 : Inst := ⟨116, 0, [(Ss 0)], [.one (.int .i64)]⟩
def s116 : List Cal := []
@[simp] def l116 : List LoopD := []
def t116 : Te AV := .ok (.sym (.int .i64) e116_2)
def F116 : List AV → Option AV := unitF (omL KK s116 l116) t116
def c116 : Cal := ⟨i116, F116⟩
theorem x116 : XO i116 F116 := XV s116 l116 t116 g116 trivial (by kernel_rfl) (by kernel_rfl) (by kernel_rfl)
abbrev e117_0 := Q (LE (I 0) v1) (LT v1 (LN v0)) (.b false)
abbrev e117_1 : X := .p (.bin .geq .u8) [(.p .byte [v0,v1]),(.i .u8 (97))]
abbrev e117_2 : X := .p (.bin .leq .u8) [(.p .byte [v0,v1]),(.i .u8 (122))]
abbrev e117_3 : X := .p (.bin .geq .u8) [(.p .byte [v0,v1]),(.i .u8 (65))]
abbrev e117_4 : X := .p (.bin .leq .u8) [(.p .byte [v0,v1]),(.i .u8 (90))]
abbrev e117_5 := Q e117_3 e117_4 (.b false)
abbrev e117_6 := Q e117_2 YY e117_5
abbrev e117_7 := Q e117_1 e117_6 e117_5
abbrev e117_8 := NO e117_7
abbrev e117_9 : X := .p (.bin .geq .u8) [(.p .byte [v0,v1]),(.i .u8 (48))]
abbrev e117_10 : X := .p (.bin .leq .u8) [(.p .byte [v0,v1]),(.i .u8 (57))]
abbrev e117_11 : X := .p (.bin .eql .u8) [(.p .byte [v0,v1]),(.i .u8 (95))]
abbrev e117_12 := NO e117_11
abbrev e117_13 := Q e117_10 (.b false) e117_12
abbrev e117_14 := Q e117_9 e117_13 e117_12
abbrev e117_15 := Q (EQ v1 (I 0)) YY e117_14
abbrev e117_16 := Q e117_8 e117_15 (.b false)
abbrev e117_17 := GT (LN v0) (I 24)
abbrev e117_18 := Q (LT (LN v0) (I 1)) YY e117_17
abbrev e117_19 := LO 11700 [v0,(I 0)]
abbrev e117_20 := PJ 0 e117_19
abbrev e117_21 := EQ e117_20 (I 1)
abbrev e117_22 := EQ e117_20 (I 2)
abbrev e117_23 := Q e117_21 YY e117_22
abbrev e117_24 := Q e117_18 YY e117_23
abbrev e117_25 := Q e117_21 (.b false) YY
abbrev e117_26 := Q e117_18 (.b false) e117_25
def B11700 : Te LEnd := .ite (LT v1 (LN v0)) (
 .need e117_0 (
 .ite e117_16 (
 .ok (.out 1 [])) (
 .ok (.again [v0,(AD v1 (I 1))])))) (
 .ok (.out 2 []))
def d11700 : LoopD := ⟨4,⟨11700,2,((Ss 0) :: (J 2 ((Si 1) :: (J 52 [])))),⟨⟨0,[],[[]],none⟩,[],[]⟩,
 [(.ret,0,(J 2 ((.bool false) :: (J 53 []))),⟨⟨0,[],[[]],none⟩,[],[]⟩),
  (.exit 0,0,(J 56 []),⟨⟨0,[],[[]],none⟩,[],[]⟩)],[(1,[]),(2,[])]⟩,B11700⟩
@[simp] theorem d11700_id : d11700.L.id = 11700 := rfl
@[simp] theorem d11700_B : d11700.B = B11700 := rfl
def i117 : Inst := ⟨117, 0, [(Ss 0)], [.one .bool]⟩
def s117 : List Cal := []
@[simp] def l117 : List LoopD := [d11700]
def t117 : Te AV := .need e117_24 (
 .ok (.sym .bool e117_26))
def F117 : List AV → Option AV := unitF (omL KK s117 l117) t117
def c117 : Cal := ⟨i117, F117⟩
theorem x117 : XO i117 F117 := XV s117 l117 t117 g117 trivial (by kernel_rfl) (by kernel_rfl) (by kernel_rfl)
abbrev e59_0 := Q (LE (I 0) v0) (LT v0 (LN v2)) (.b false)
abbrev e59_1 := OB (K 117 [(C 0 v2 v0)])
abbrev e59_2 := NO (K 117 [(C 0 v2 v0)])
abbrev e59_3 := LO 5901 [v0,(I 0),v1,v2,v3,v4]
abbrev e59_4 := PJ 0 e59_3
abbrev e59_5 := EQ e59_4 (I 1)
abbrev e59_6 := EQ e59_4 (I 2)
abbrev e59_7 := Q (LE (I 0) v1) (LT v1 (LN v3)) (.b false)
abbrev e59_8 := Q (LE (I 0) v0) (LT v0 (LN v3)) (.b false)
abbrev e59_9 := SE (C 0 v3 v1) (C 0 v3 v0)
abbrev e59_10 := OI (K 116 [v0])
abbrev e59_11 := GT (LN v1) (I 160)
abbrev e59_12 := LO 5900 [(I 0),v0,v1,v2,v3]
abbrev e59_13 := PJ 0 e59_12
abbrev e59_14 := EQ e59_13 (I 1)
abbrev e59_15 := EQ e59_13 (I 2)
abbrev e59_16 := Q e59_14 YY e59_15
abbrev e59_17 := Q e59_11 YY e59_16
abbrev e59_18 := Q (EQ (LN v1) (I 0)) YY e59_17
abbrev e59_19 := Q (EQ (K 116 [v0]) (I 0)) YY e59_18
abbrev e59_20 := K 90 [v2,(I 1),(K 116 [v0])]
abbrev e59_21 := OB e59_20
abbrev e59_22 := Q e59_14 YY e59_21
abbrev e59_23 := Q e59_11 YY e59_22
abbrev e59_24 := Q (EQ (LN v1) (I 0)) YY e59_23
abbrev e59_25 := Q (EQ (K 116 [v0]) (I 0)) YY e59_24
abbrev e59_26 := K 90 [v3,(I 1),(I 86399999)]
abbrev e59_27 := OB e59_26
abbrev e59_28 := Q e59_20 YY e59_27
abbrev e59_29 := Q e59_14 YY e59_28
abbrev e59_30 := Q e59_11 YY e59_29
abbrev e59_31 := Q (EQ (LN v1) (I 0)) YY e59_30
abbrev e59_32 := Q (EQ (K 116 [v0]) (I 0)) YY e59_31
abbrev e59_33 := PJ 1 e59_12
abbrev e59_34 := Q e59_20 YY e59_26
abbrev e59_35 := Q e59_34 (I 3) (I 0)
abbrev e59_36 := Q e59_14 e59_33 e59_35
abbrev e59_37 := Q e59_11 (I 5) e59_36
abbrev e59_38 := Q (EQ (LN v1) (I 0)) (I 12) e59_37
abbrev e59_39 := Q (EQ (K 116 [v0]) (I 0)) (I 13) e59_38
def B5900 : Te LEnd := .ite (LT v0 (LN v2)) (
 .need e59_0 (
 .need e59_1 (
 .ite e59_2 (
 .ok (.out 1 [(I 8)])) (
 .ite e59_5 (
 .ok (.out 1 [(I 9)])) (
 .need e59_6 (
 .ok (.again [(AD v0 (I 1)),v1,v2,v3,v4]))))))) (
 .ok (.out 2 [v1,v2,v3,v4]))
def d5900 : LoopD := ⟨8,⟨5900,5,(J 1 ((.ptr 0 0 0) :: (J 1 ((Si 0) :: (J 54 []))))),⟨⟨1,[(0,.cells 4 [[(Ss 1),(S1 2),(Si 3),(Si 4)]])],[[]],none⟩,[],[]⟩,
 [(.ret,1,(J 2 ((Si 0) :: (J 55 []))),⟨⟨1,[],[[]],none⟩,[],[]⟩),
  (.exit 0,4,(J 1 ((.ptr 0 0 0) :: (J 56 []))),⟨⟨1,[(0,.cells 4 [[(Ss 0),(S1 1),(Si 2),(Si 3)]])],[[]],none⟩,[],[]⟩)],[(1,[]),(2,[(0,1),(1,2),(2,3),(3,4)])]⟩,B5900⟩
@[simp] theorem d5900_id : d5900.L.id = 5900 := rfl
@[simp] theorem d5900_B : d5900.B = B5900 := rfl
def B5901 : Te LEnd := .ite (LT v1 v0) (
 .need e59_7 (
 .need e59_8 (
 .ite e59_9 (
 .ok (.out 1 [])) (
 .ok (.again [v0,(AD v1 (I 1)),v2,v3,v4,v5]))))) (
 .ok (.out 2 [v0,v2,v3,v4,v5]))
def d5901 : LoopD := ⟨13,⟨5901,6,(J 1 ((.ptr 0 0 0) :: (J 1 ((Si 0) :: ((Si 1) :: (J 53 [])))))),⟨⟨1,[(0,.cells 4 [[(Ss 2),(S1 3),(Si 4),(Si 5)]])],[[]],none⟩,[],[]⟩,
 [(.ret,0,(J 2 ((.int .i64 (9)) :: (J 55 []))),⟨⟨1,[],[[]],none⟩,[],[]⟩),
  (.exit 2,5,(J 1 ((.ptr 0 0 0) :: (J 1 ((Si 0) :: (J 54 []))))),⟨⟨1,[(0,.cells 4 [[(Ss 1),(S1 2),(Si 3),(Si 4)]])],[[]],none⟩,[],[]⟩)],[(1,[]),(2,[(0,0),(1,2),(2,3),(3,4),(4,5)])]⟩,B5901⟩
@[simp] theorem d5901_id : d5901.L.id = 5901 := rfl
@[simp] theorem d5901_B : d5901.B = B5901 := rfl
def i59 : Inst := ⟨59, 0, [(.agg [(Ss 0), (S1 1), (Si 2), (Si 3)])], [.one (.int .i64)]⟩
def s59 : List Cal := [c116, c90, c117]
@[simp] theorem o59_116 : OE s59 116 0 F116 := oG rfl
@[simp] theorem o59_90 : OE s59 90 0 F90 := oG rfl
@[simp] theorem o59_117 : OE s59 117 0 F117 := oG rfl
@[simp] def l59 : List LoopD := [d5900, d5901]
def t59 : Te AV := .need e59_10 (
 .need e59_19 (
 .need e59_25 (
 .need e59_32 (
 .ok (.sym (.int .i64) e59_39)))))
def F59 : List AV → Option AV := unitF (omL KK s59 l59) t59
def c59 : Cal := ⟨i59, F59⟩
theorem x59 : XO i59 F59 := XV s59 l59 t59 g59 ⟨x116, x90, x117, trivial⟩ (by kernel_rfl) (by kernel_rfl) (by kernel_rfl)
abbrev e16_0 := Q (LE (I 0) v0) (LT v0 (LN v2)) (.b false)
abbrev e16_1 := GT (LN (C 0 v2 v0)) (I 40)
abbrev e16_2 := GT (LN v0) (I 20)
abbrev e16_3 := GT (LN v1) (I 12)
abbrev e16_4 := GT (LN v1) (I 162)
abbrev e16_5 := Q (LE (LN v1) (I 160)) YY e16_4
abbrev e16_6 := Q e16_3 e16_5 e16_4
abbrev e16_7 := Q e16_2 YY e16_6
abbrev e16_8 := LO 1600 [(I 0),v0,v1,v2,v3]
abbrev e16_9 := PJ 0 e16_8
abbrev e16_10 := EQ e16_9 (I 1)
abbrev e16_11 := EQ e16_9 (I 2)
abbrev e16_12 := Q e16_10 YY e16_11
abbrev e16_13 := Q e16_7 YY e16_12
abbrev e16_14 := Q e16_10 (.b false) YY
abbrev e16_15 := Q e16_7 (.b false) e16_14
def B1600 : Te LEnd := .ite (LT v0 (LN v2)) (
 .need e16_0 (
 .ite e16_1 (
 .ok (.out 1 [])) (
 .ok (.again [(AD v0 (I 1)),v1,v2,v3,v4])))) (
 .ok (.out 2 []))
def d1600 : LoopD := ⟨4,⟨1600,5,(J 1 ((.ptr 0 0 0) :: (J 1 ((Si 0) :: (J 36 []))))),⟨⟨1,[(0,.cells 4 [[(Ss 1),(S1 2),(Si 3),(Si 4)]])],[[]],none⟩,[],[]⟩,
 [(.ret,0,(J 2 ((.bool false) :: (J 37 []))),⟨⟨1,[],[[]],none⟩,[],[]⟩),
  (.exit 0,0,(J 40 []),⟨⟨1,[],[[]],none⟩,[],[]⟩)],[(1,[]),(2,[])]⟩,B1600⟩
@[simp] theorem d1600_id : d1600.L.id = 1600 := rfl
@[simp] theorem d1600_B : d1600.B = B1600 := rfl
def i16 : Inst := ⟨16, 0, [(.agg [(Ss 0), (S1 1), (Si 2), (Si 3)])], [.one .bool]⟩
def s16 : List Cal := []
@[simp] def l16 : List LoopD := [d1600]
def t16 : Te AV := .need e16_13 (
 .ok (.sym .bool e16_15))
def F16 : List AV → Option AV := unitF (omL KK s16 l16) t16
def c16 : Cal := ⟨i16, F16⟩
theorem x16 : XO i16 F16 := XV s16 l16 t16 g16 trivial (by kernel_rfl) (by kernel_rfl) (by kernel_rfl)
end Go.Proofs.YtdeaibcebeofiaaGreatDoor.C5

namespace Go.Proofs.YtdeaibcebeofiaaGreatDoor.C5
open Go Go.Proofs.YtdeaibcebeofiaaGreatDoor.AM Go.Proofs
set_option maxRecDepth 100000
abbrev e95_0 := Q (LE (I 0) v3) (LT v3 (LN v1)) (.b false)
abbrev e95_1 := GT (C 0 v1 v3) (I 0)
abbrev e95_2 := Q (EQ v0 (I 0)) YY (LT (C 0 v1 v3) v0)
abbrev e95_3 := Q e95_1 e95_2 (.b false)
abbrev e95_4 := Q e95_3 (C 0 v1 v3) v0
abbrev e95_5 := LO 9500 [(I 0),v0,(LN v0),(I 0)]
abbrev e95_6 := PJ 0 e95_5
abbrev e95_7 := EQ e95_6 (I 1)
abbrev e95_8 := PJ 1 e95_5
def B9500 : Te LEnd := .ite (LT v3 v2) (
 .need e95_0 (
 .ok (.again [e95_4,v1,v2,(AD v3 (I 1))]))) (
 .ok (.out 1 [v0]))
def d9500 : LoopD := ⟨3,⟨9500,4,(J 3 ((Si 0) :: (J 2 ((S2 1) :: ((Si 2) :: ((Si 3) :: (J 17 []))))))),⟨⟨0,[],[[]],none⟩,[],[]⟩,
 [(.exit 0,1,(J 3 ((Si 0) :: (J 22 []))),⟨⟨0,[],[[]],none⟩,[],[]⟩)],[(1,[])]⟩,B9500⟩
@[simp] theorem d9500_id : d9500.L.id = 9500 := rfl
@[simp] theorem d9500_B : d9500.B = B9500 := rfl
def i95 : Inst := ⟨95, 0, [(S2 0)], [.one (.int .i64)]⟩
def s95 : List Cal := []
@[simp] def l95 : List LoopD := [d9500]
def t95 : Te AV := .need e95_7 (
 .ok (.sym (.int .i64) e95_8))
def F95 : List AV → Option AV := unitF (omL KK s95 l95) t95
def c95 : Cal := ⟨i95, F95⟩
theorem x95 : XO i95 F95 := XV s95 l95 t95 g95 trivial (by kernel_rfl) (by kernel_rfl) (by kernel_rfl)
abbrev e217_0 := Q (KE v0 (.s w2)) (I 2) (I 0)
abbrev e217_1 := Q (KE v0 (.s w1)) v2 e217_0
def i217 : Inst := ⟨217, 0, [(.agg [(Ss 0), (S1 1), (Si 2), (Si 3)])], [.one (.int .i64)]⟩
def s217 : List Cal := []
@[simp] def l217 : List LoopD := []
def t217 : Te AV := .ok (.sym (.int .i64) e217_1)
def F217 : List AV → Option AV := unitF (omL KK s217 l217) t217
def c217 : Cal := ⟨i217, F217⟩
theorem x217 : XO i217 F217 := XV s217 l217 t217 g217 trivial (by kernel_rfl) (by kernel_rfl) (by kernel_rfl)
abbrev e218_0 := Q (KE v0 (.s w0)) v2 (I 0)
def i218 : Inst := ⟨218, 0, [(.agg [(Ss 0), (S1 1), (Si 2), (Si 3)])], [.one (.int .i64)]⟩
def s218 : List Cal := []
@[simp] def l218 : List LoopD := []
def t218 : Te AV := .ok (.sym (.int .i64) e218_0)
def F218 : List AV → Option AV := unitF (omL KK s218 l218) t218
def c218 : Cal := ⟨i218, F218⟩
theorem x218 : XO i218 F218 := XV s218 l218 t218 g218 trivial (by kernel_rfl) (by kernel_rfl) (by kernel_rfl)
abbrev e220_0 := K 89 [v0,(I 0),(I 86399999)]
abbrev e220_1 := OB e220_0
def i220 : Inst := ⟨220, 0, [(Si 0)], [.one .bool]⟩
def s220 : List Cal := [c89]
@[simp] theorem o220_89 : OE s220 89 0 F89 := oG rfl
@[simp] def l220 : List LoopD := []
def t220 : Te AV := .need e220_1 (
 .ok (.sym .bool e220_0))
def F220 : List AV → Option AV := unitF (omL KK s220 l220) t220
def c220 : Cal := ⟨i220, F220⟩
theorem x220 : XO i220 F220 := XV s220 l220 t220 g220 ⟨x89, trivial⟩ (by kernel_rfl) (by kernel_rfl) (by kernel_rfl)
abbrev e235_0 := Q (LE (I 0) v2) (LT v2 (LN v0)) (.b false)
abbrev e235_1 := OB (K 220 [(C 0 v0 v2)])
abbrev e235_2 := LO 23500 [v0,(LN v0),(I 0)]
abbrev e235_3 := PJ 0 e235_2
abbrev e235_4 := EQ e235_3 (I 1)
abbrev e235_5 := EQ e235_3 (I 2)
abbrev e235_6 := Q e235_4 YY e235_5
abbrev e235_7 := PJ 1 e235_2
abbrev e235_8 := Q e235_4 e235_7 (I (-1))
def B23500 : Te LEnd := .ite (LT v2 v1) (
 .need e235_0 (
 .need e235_1 (
 .ite (K 220 [(C 0 v0 v2)]) (
 .ok (.out 1 [v2])) (
 .ok (.again [v0,v1,(AD v2 (I 1))]))))) (
 .ok (.out 2 []))
def d23500 : LoopD := ⟨2,⟨23500,3,((S2 0) :: ((.func (.func 220) [] []) :: (J 5 ((Si 1) :: ((Si 2) :: (J 10 [])))))),⟨⟨0,[],[[]],none⟩,[],[]⟩,
 [(.ret,1,(J 4 ((Si 0) :: (J 14 []))),⟨⟨0,[],[[]],none⟩,[],[]⟩),
  (.exit 0,0,(J 19 []),⟨⟨0,[],[[]],none⟩,[],[]⟩)],[(1,[]),(2,[])]⟩,B23500⟩
@[simp] theorem d23500_id : d23500.L.id = 23500 := rfl
@[simp] theorem d23500_B : d23500.B = B23500 := rfl
def i235 : Inst := ⟨235, 0, [(S2 0), (.func (.func 220) [] [])], [.one (.int .i64)]⟩
def s235 : List Cal := [c220]
@[simp] theorem o235_220 : OE s235 220 0 F220 := oG rfl
@[simp] def l235 : List LoopD := [d23500]
def t235 : Te AV := .need e235_6 (
 .ok (.sym (.int .i64) e235_8))
def F235 : List AV → Option AV := unitF (omL KK s235 l235) t235
def c235 : Cal := ⟨i235, F235⟩
theorem x235 : XO i235 F235 := XV s235 l235 t235 g235 ⟨x220, trivial⟩ (by kernel_rfl) (by kernel_rfl) (by kernel_rfl)
abbrev e219_0 := OI (K 235 [v0])
abbrev e219_1 := GE (K 235 [v0]) (I 0)
def i219 : Inst := ⟨219, 0, [(S2 0), (.func (.func 220) [] [])], [.one .bool]⟩
def s219 : List Cal := [c235]
@[simp] theorem o219_235 : OE s219 235 0 F235 := oG rfl
@[simp] def l219 : List LoopD := []
def t219 : Te AV := .need e219_0 (
 .ok (.sym .bool e219_1))
def F219 : List AV → Option AV := unitF (omL KK s219 l219) t219
def c219 : Cal := ⟨i219, F219⟩
theorem x219 : XO i219 F219 := XV s219 l219 t219 g219 ⟨x235, trivial⟩ (by kernel_rfl) (by kernel_rfl) (by kernel_rfl)
abbrev e221_0 := Q (LE (I 0) v2) (LT v2 (LN v0)) (.b false)
abbrev e221_1 := K 89 [(C 0 v0 v2),(I 0),(I 99)]
abbrev e221_2 := OB e221_1
abbrev e221_3 := K 89 [(C 1 v0 v2),(I 0),(C 0 v0 v2)]
abbrev e221_4 := OB e221_3
abbrev e221_5 := Q e221_1 YY e221_4
abbrev e221_6 := K 89 [(C 2 v0 v2),(I 0),(C 0 v0 v2)]
abbrev e221_7 := OB e221_6
abbrev e221_8 := Q e221_3 YY e221_7
abbrev e221_9 := Q e221_1 YY e221_8
abbrev e221_10 := Q e221_3 YY e221_6
abbrev e221_11 := Q e221_1 YY e221_10
abbrev e221_12 := K 103 [e221_11,(I 3)]
abbrev e221_13 := OI e221_12
abbrev e221_14 := GT (C 2 v0 v2) (I 0)
abbrev e221_15 := GT (C 1 v0 v2) (C 2 v0 v2)
abbrev e221_16 := GT (C 0 v0 v2) (I 0)
abbrev e221_17 := Q e221_16 (NO (C 3 v0 v2)) (.b false)
abbrev e221_18 := Q e221_15 YY e221_17
abbrev e221_19 := Q (EQ (C 1 v0 v2) (I 0)) YY e221_18
abbrev e221_20 := Q e221_14 e221_19 e221_17
abbrev e221_21 := K 103 [e221_20,(I 1)]
abbrev e221_22 := OI e221_21
abbrev e221_23 : X := .sl 1 [[e221_12],[e221_21]]
abbrev e221_24 := K 102 [e221_23]
abbrev e221_25 := OI e221_24
abbrev e221_26 := NE e221_24 (I 0)
abbrev e221_27 := LO 22100 [v0,(LN v0),(I 0)]
abbrev e221_28 := PJ 0 e221_27
abbrev e221_29 := EQ e221_28 (I 1)
abbrev e221_30 := EQ e221_28 (I 2)
abbrev e221_31 := Q e221_29 YY e221_30
abbrev e221_32 := PJ 1 e221_27
abbrev e221_33 := Q e221_29 e221_32 (I 0)
def B22100 : Te LEnd := .ite (LT v2 v1) (
 .need e221_0 (
 .need e221_2 (
 .need e221_5 (
 .need e221_9 (
 .need e221_13 (
 .need e221_22 (
 .need e221_25 (
 .ite e221_26 (
 .ok (.out 1 [e221_24])) (
 .ok (.again [v0,v1,(AD v2 (I 1))])))))))))) (
 .ok (.out 2 []))
def d22100 : LoopD := ⟨2,⟨22100,3,(J 8 ((S3 0) :: ((Si 1) :: ((Si 2) :: (J 55 []))))),⟨⟨2,[],[[]],none⟩,[],[]⟩,
 [(.ret,1,(J 2 ((Si 0) :: (J 63 []))),⟨⟨4,[],[[]],none⟩,[],[]⟩),
  (.exit 0,0,(J 66 []),⟨⟨2,[],[[]],none⟩,[],[]⟩)],[(1,[]),(2,[])]⟩,B22100⟩
@[simp] theorem d22100_id : d22100.L.id = 22100 := rfl
@[simp] theorem d22100_B : d22100.B = B22100 := rfl
def i221 : Inst := ⟨221, 0, [(S3 0)], [.one (.int .i64)]⟩
def s221 : List Cal := [c89, c103, c102]
@[simp] theorem o221_89 : OE s221 89 0 F89 := oG rfl
@[simp] theorem o221_103 : OE s221 103 0 F103 := oG rfl
@[simp] theorem o221_102 : OE s221 102 0 F102 := oG rfl
@[simp] def l221 : List LoopD := [d22100]
def t221 : Te AV := .need e221_31 (
 .ok (.sym (.int .i64) e221_33))
def F221 : List AV → Option AV := unitF (omL KK s221 l221) t221
def c221 : Cal := ⟨i221, F221⟩
theorem x221 : XO i221 F221 := XV s221 l221 t221 g221 ⟨x89, x103, x102, trivial⟩ (by kernel_rfl) (by kernel_rfl) (by kernel_rfl)
abbrev e178_0 : X := .sl 1 [[(.s w4)],[(.s w5)],[(.s w6)]]
abbrev e178_1 := K 114 [e178_0,v5]
abbrev e178_2 := OB e178_1
abbrev e178_3 : X := .sl 1 [[(.s w3)],[(.s w7)],[(.s w8)],[(.s w9)]]
abbrev e178_4 := K 114 [e178_3,v6]
abbrev e178_5 := OB e178_4
abbrev e178_6 := Q e178_1 e178_5 YY
abbrev e178_7 := K 89 [v8,(I 0),v4]
abbrev e178_8 := OB e178_7
abbrev e178_9 := K 89 [v9,(I 0),v3]
abbrev e178_10 := OB e178_9
abbrev e178_11 := Q e178_7 YY e178_10
abbrev e178_12 := K 217 [v0,v1,v2,v3]
abbrev e178_13 := OI e178_12
abbrev e178_14 := Q e178_9 YY e178_13
abbrev e178_15 := Q e178_7 YY e178_14
abbrev e178_16 := K 89 [v7,(I 0),e178_12]
abbrev e178_17 := OB e178_16
abbrev e178_18 := Q e178_9 YY e178_17
abbrev e178_19 := Q e178_7 YY e178_18
abbrev e178_20 := K 218 [v0,v1,v2,v3]
abbrev e178_21 := OI e178_20
abbrev e178_22 := Q e178_16 YY e178_21
abbrev e178_23 := Q e178_9 YY e178_22
abbrev e178_24 := Q e178_7 YY e178_23
abbrev e178_25 := K 89 [v10,(I 0),e178_20]
abbrev e178_26 := OB e178_25
abbrev e178_27 := Q e178_16 YY e178_26
abbrev e178_28 := Q e178_9 YY e178_27
abbrev e178_29 := Q e178_7 YY e178_28
abbrev e178_30 := OB (K 219 [v15])
abbrev e178_31 := Q e178_1 e178_4 (.b false)
abbrev e178_32 := NO e178_31
abbrev e178_33 := K 103 [e178_32,(I 13)]
abbrev e178_34 := OI e178_33
abbrev e178_35 := K 103 [(SN v6 (.s w3)),(I 19)]
abbrev e178_36 := OI e178_35
abbrev e178_37 := Q (SN v5 (.s w6)) e178_36 YY
abbrev e178_38 := Q e178_16 YY e178_25
abbrev e178_39 := Q e178_9 YY e178_38
abbrev e178_40 := Q e178_7 YY e178_39
abbrev e178_41 := K 103 [e178_40,(I 3)]
abbrev e178_42 := OI e178_41
abbrev e178_43 := Q (SN v5 (.s w6)) e178_42 YY
abbrev e178_44 := NE (LN v14) v2
abbrev e178_45 := GT (LN v15) v2
abbrev e178_46 := GT (LN v15) (I 0)
abbrev e178_47 := Q (KE (.s w2) v0) e178_45 e178_46
abbrev e178_48 := Q e178_44 YY e178_47
abbrev e178_49 := NE (LN v14) (I 0)
abbrev e178_50 := Q e178_49 YY e178_47
abbrev e178_51 := Q (KE (.s w1) v0) e178_48 e178_50
abbrev e178_52 := K 103 [e178_51,(I 2)]
abbrev e178_53 := OI e178_52
abbrev e178_54 := Q (SN v5 (.s w6)) e178_53 YY
abbrev e178_55 := OI (K 221 [v14])
abbrev e178_56 := Q (SN v5 (.s w6)) e178_55 YY
abbrev e178_57 := K 103 [(K 219 [v15]),(I 3)]
abbrev e178_58 := OI e178_57
abbrev e178_59 := Q (SN v5 (.s w6)) e178_58 YY
abbrev e178_60 := Q (SN v0 (.s w1)) v13 (.b false)
abbrev e178_61 := Q v12 YY e178_60
abbrev e178_62 := Q v11 YY e178_61
abbrev e178_63 := Q (NE v9 (I 0)) YY e178_62
abbrev e178_64 := Q (SN v0 (.s w0)) e178_63 e178_60
abbrev e178_65 := K 103 [e178_64,(I 1)]
abbrev e178_66 := OI e178_65
abbrev e178_67 := Q (SN v5 (.s w6)) e178_66 YY
abbrev e178_68 : X := .sl 1 [[e178_33],[e178_35],[e178_41],[e178_52],[(K 221 [v14])],[e178_57],[e178_65]]
abbrev e178_69 := K 102 [e178_68]
abbrev e178_70 := OI e178_69
abbrev e178_71 := Q (SN v5 (.s w6)) e178_70 YY
abbrev e178_72 := K 103 [(.b false),(I 19)]
abbrev e178_73 := OI e178_72
abbrev e178_74 := Q (SN v5 (.s w6)) YY e178_73
abbrev e178_75 := Q (SN v5 (.s w6)) YY e178_42
abbrev e178_76 := Q (SN v5 (.s w6)) YY e178_53
abbrev e178_77 := Q (SN v5 (.s w6)) YY e178_55
abbrev e178_78 := Q (SN v5 (.s w6)) YY e178_58
abbrev e178_79 := Q (SN v5 (.s w6)) YY e178_66
abbrev e178_80 : X := .sl 1 [[e178_33],[e178_72],[e178_41],[e178_52],[(K 221 [v14])],[e178_57],[e178_65]]
abbrev e178_81 := K 102 [e178_80]
abbrev e178_82 := OI e178_81
abbrev e178_83 := Q (SN v5 (.s w6)) YY e178_82
abbrev e178_84 := Q (SN v5 (.s w6)) e178_69 e178_81
def i178 : Inst := ⟨178, 0, [(.agg [(Ss 0), (S1 1), (Si 2), (Si 3)]), (Si 4), (.agg [(Ss 5), (Ss 6), (Si 7), (Si 8), (Si 9), (Si 10), (Sb 11), (Sb 12), (Sb 13), (S3 14), (S2 15)])], [.one (.int .i64)]⟩
def s178 : List Cal := [c114, c89, c217, c218, c219, c103, c221, c102]
@[simp] theorem o178_114 : OE s178 114 0 F114 := oG rfl
@[simp] theorem o178_89 : OE s178 89 0 F89 := oG rfl
@[simp] theorem o178_217 : OE s178 217 0 F217 := oG rfl
@[simp] theorem o178_218 : OE s178 218 0 F218 := oG rfl
@[simp] theorem o178_219 : OE s178 219 0 F219 := oG rfl
@[simp] theorem o178_103 : OE s178 103 0 F103 := oG rfl
@[simp] theorem o178_221 : OE s178 221 0 F221 := oG rfl
@[simp] theorem o178_102 : OE s178 102 0 F102 := oG rfl
@[simp] def l178 : List LoopD := []
def t178 : Te AV := .need e178_2 (
 .need e178_6 (
 .need e178_8 (
 .need e178_11 (
 .need e178_15 (
 .need e178_19 (
 .need e178_24 (
 .need e178_29 (
 .need e178_30 (
 .need e178_34 (
 .need e178_37 (
 .need e178_43 (
 .need e178_54 (
 .need e178_56 (
 .need e178_59 (
 .need e178_67 (
 .need e178_71 (
 .need e178_74 (
 .need e178_75 (
 .need e178_76 (
 .need e178_77 (
 .need e178_78 (
 .need e178_79 (
 .need e178_83 (
 .ok (.sym (.int .i64) e178_84)))))))))))))))))))))))))
def F178 : List AV → Option AV := unitF (omL KK s178 l178) t178
def c178 : Cal := ⟨i178, F178⟩
theorem x178 : XO i178 F178 := XV s178 l178 t178 g178 ⟨x114, x89, x217, x218, x219, x103, x221, x102, trivial⟩ (by kernel_rfl) (by kernel_rfl) (by kernel_rfl)
abbrev e120_0 := K 178 [v0,v1,v2,v3,v4,v5,v6,v7,v8,v9,v10,v11,v12,v13,v14,v15]
abbrev e120_1 := OI e120_0
abbrev e120_2 := NE e120_0 (I 0)
abbrev e120_3 := GE (LN v15) v2
abbrev e120_4 := OI (K 95 [v15])
abbrev e120_5 := Q (SE v6 (.s w3)) e120_4 YY
abbrev e120_6 := Q (SE v5 (.s w6)) e120_5 YY
abbrev e120_7 := Q e120_3 YY e120_6
abbrev e120_8 := Q (SE v5 (.s w4)) e120_7 YY
abbrev e120_9 := Q (SN v5 (.s w5)) e120_8 YY
abbrev e120_10 := Q e120_2 YY e120_9
abbrev e120_11 := Q (SE v5 (.s w4)) YY e120_6
abbrev e120_12 := Q (SN v5 (.s w5)) e120_11 YY
abbrev e120_13 := Q e120_2 YY e120_12
abbrev e120_14 := OI (K 103 [YY,(I 19)])
abbrev e120_15 := Q (NE v7 (I 0)) e120_14 YY
abbrev e120_16 := Q (SN v5 (.s w5)) e120_15 YY
abbrev e120_17 := Q e120_2 YY e120_16
abbrev e120_18 := Q v13 e120_14 YY
abbrev e120_19 := Q (NE v7 (I 0)) YY e120_18
abbrev e120_20 := Q (SN v5 (.s w5)) e120_19 YY
abbrev e120_21 := Q e120_2 YY e120_20
abbrev e120_22 := Q (SE v6 (.s w3)) (EQ (K 95 [v15]) (I 0)) (.b false)
abbrev e120_23 := Q (SE v5 (.s w6)) e120_22 (.b false)
abbrev e120_24 := Q e120_3 YY e120_23
abbrev e120_25 := Q (SE v5 (.s w4)) e120_24 e120_23
abbrev e120_26 := K 103 [e120_25,(I 19)]
abbrev e120_27 := OI e120_26
abbrev e120_28 := Q (SE v0 (.s w2)) e120_27 YY
abbrev e120_29 := Q v13 YY e120_28
abbrev e120_30 := Q (NE v7 (I 0)) YY e120_29
abbrev e120_31 := Q (SN v5 (.s w5)) e120_30 YY
abbrev e120_32 := Q e120_2 YY e120_31
abbrev e120_33 := K 103 [(.b false),(I 19)]
abbrev e120_34 := OI e120_33
abbrev e120_35 := Q (SE v0 (.s w2)) YY e120_34
abbrev e120_36 := Q v13 YY e120_35
abbrev e120_37 := Q (NE v7 (I 0)) YY e120_36
abbrev e120_38 := Q (SN v5 (.s w5)) e120_37 YY
abbrev e120_39 := Q e120_2 YY e120_38
abbrev e120_40 := K 103 [e120_3,(I 19)]
abbrev e120_41 := OI e120_40
abbrev e120_42 := Q (SE v0 (.s w2)) e120_41 YY
abbrev e120_43 := Q (EQ v7 (I 0)) YY e120_42
abbrev e120_44 := Q (SE v0 (.s w0)) YY e120_43
abbrev e120_45 := Q (SN v5 (.s w5)) YY e120_44
abbrev e120_46 := Q e120_2 YY e120_45
abbrev e120_47 := Q (LE (I 0) (SB v7 (I 1))) (LT (SB v7 (I 1)) (LN v14)) (.b false)
abbrev e120_48 := Q (SE v0 (.s w2)) YY e120_47
abbrev e120_49 := Q (EQ v7 (I 0)) YY e120_48
abbrev e120_50 := Q (SE v0 (.s w0)) YY e120_49
abbrev e120_51 := Q (SN v5 (.s w5)) YY e120_50
abbrev e120_52 := Q e120_2 YY e120_51
abbrev e120_53 := NO (C 3 v14 (SB v7 (I 1)))
abbrev e120_54 := Q e120_53 e120_14 YY
abbrev e120_55 := Q (SE v0 (.s w2)) YY e120_54
abbrev e120_56 := Q (EQ v7 (I 0)) YY e120_55
abbrev e120_57 := Q (SE v0 (.s w0)) YY e120_56
abbrev e120_58 := Q (SN v5 (.s w5)) YY e120_57
abbrev e120_59 := Q e120_2 YY e120_58
abbrev e120_60 := EQ (C 0 v14 (SB v7 (I 1))) (I 0)
abbrev e120_61 := Q e120_60 e120_14 YY
abbrev e120_62 := Q v13 e120_61 YY
abbrev e120_63 := Q e120_53 YY e120_62
abbrev e120_64 := Q (SE v0 (.s w2)) YY e120_63
abbrev e120_65 := Q (EQ v7 (I 0)) YY e120_64
abbrev e120_66 := Q (SE v0 (.s w0)) YY e120_65
abbrev e120_67 := Q (SN v5 (.s w5)) YY e120_66
abbrev e120_68 := Q e120_2 YY e120_67
abbrev e120_69 := GT (C 2 v14 (SB v7 (I 1))) (I 0)
abbrev e120_70 := K 103 [e120_69,(I 19)]
abbrev e120_71 := OI e120_70
abbrev e120_72 := Q e120_60 YY e120_71
abbrev e120_73 := Q v13 e120_72 YY
abbrev e120_74 := Q e120_53 YY e120_73
abbrev e120_75 := Q (SE v0 (.s w2)) YY e120_74
abbrev e120_76 := Q (EQ v7 (I 0)) YY e120_75
abbrev e120_77 := Q (SE v0 (.s w0)) YY e120_76
abbrev e120_78 := Q (SN v5 (.s w5)) YY e120_77
abbrev e120_79 := Q e120_2 YY e120_78
abbrev e120_80 := Q v13 YY e120_34
abbrev e120_81 := Q e120_53 YY e120_80
abbrev e120_82 := Q (SE v0 (.s w2)) YY e120_81
abbrev e120_83 := Q (EQ v7 (I 0)) YY e120_82
abbrev e120_84 := Q (SE v0 (.s w0)) YY e120_83
abbrev e120_85 := Q (SN v5 (.s w5)) YY e120_84
abbrev e120_86 := Q e120_2 YY e120_85
abbrev e120_87 := Q (SE v0 (.s w2)) e120_26 e120_33
abbrev e120_88 := Q v13 (K 103 [YY,(I 19)]) e120_87
abbrev e120_89 := Q (NE v7 (I 0)) (K 103 [YY,(I 19)]) e120_88
abbrev e120_90 := Q e120_60 (K 103 [YY,(I 19)]) e120_70
abbrev e120_91 := Q v13 e120_90 e120_33
abbrev e120_92 := Q e120_53 (K 103 [YY,(I 19)]) e120_91
abbrev e120_93 := Q (SE v0 (.s w2)) e120_40 e120_92
abbrev e120_94 := Q (EQ v7 (I 0)) (I 19) e120_93
abbrev e120_95 := Q (SE v0 (.s w0)) (I 0) e120_94
abbrev e120_96 := Q (SN v5 (.s w5)) e120_89 e120_95
abbrev e120_97 := Q e120_2 e120_0 e120_96
def i120 : Inst := ⟨120, 0, [(.agg [(Ss 0), (S1 1), (Si 2), (Si 3)]), (Si 4), (.agg [(Ss 5), (Ss 6), (Si 7), (Si 8), (Si 9), (Si 10), (Sb 11), (Sb 12), (Sb 13), (S3 14), (S2 15)])], [.one (.int .i64)]⟩
def s120 : List Cal := [c178, c95, c103]
@[simp] theorem o120_178 : OE s120 178 0 F178 := oG rfl
@[simp] theorem o120_95 : OE s120 95 0 F95 := oG rfl
@[simp] theorem o120_103 : OE s120 103 0 F103 := oG rfl
@[simp] def l120 : List LoopD := []
def t120 : Te AV := .need e120_1 (
 .need e120_10 (
 .need e120_13 (
 .need e120_17 (
 .need e120_21 (
 .need e120_32 (
 .need e120_39 (
 .need e120_46 (
 .need e120_52 (
 .need e120_59 (
 .need e120_68 (
 .need e120_79 (
 .need e120_86 (
 .ok (.sym (.int .i64) e120_97))))))))))))))
def F120 : List AV → Option AV := unitF (omL KK s120 l120) t120
def c120 : Cal := ⟨i120, F120⟩
theorem x120 : XO i120 F120 := XV s120 l120 t120 g120 ⟨x178, x95, x103, trivial⟩ (by kernel_rfl) (by kernel_rfl) (by kernel_rfl)
abbrev e119_0 := Q (SE v0 (.s w0)) YY (EQ v6 v15)
abbrev e119_1 := Q (SE v4 (.s w5)) e119_0 (.b false)
def i119 : Inst := ⟨119, 0, [(.agg [(Ss 0), (S1 1), (Si 2), (Si 3)]), (.agg [(Ss 4), (Ss 5), (Si 6), (Si 7), (Si 8), (Si 9), (Sb 10), (Sb 11), (Sb 12), (S3 13), (S2 14)]), (Si 15)], [.one .bool]⟩
def s119 : List Cal := []
@[simp] def l119 : List LoopD := []
def t119 : Te AV := .ok (.sym .bool e119_1)
def F119 : List AV → Option AV := unitF (omL KK s119 l119) t119
def c119 : Cal := ⟨i119, F119⟩
theorem x119 : XO i119 F119 := XV s119 l119 t119 g119 trivial (by kernel_rfl) (by kernel_rfl) (by kernel_rfl)
abbrev e118_0 := K 119 [v11,v12,v13,v14,v0,v1,v2,v3,v4,v5,v6,v7,v8,v9,v10,v17]
abbrev e118_1 := OB e118_0
def i118 : Inst := ⟨118, 0, [(.agg [(Ss 0), (Ss 1), (Si 2), (Si 3), (Si 4), (Si 5), (Sb 6), (Sb 7), (Sb 8), (S3 9), (S2 10)]), (.ref [(Ss 11), (S1 12), (Si 13), (Si 14)]), (.ref [(Ss 15), (Ss 16), (Si 17), (Si 18), (Si 19), (Si 20), (Sb 21), (Sb 22), (Sb 23), (S3 24), (S2 25)])], [.one .bool]⟩
def s118 : List Cal := [c119]
@[simp] theorem o118_119 : OE s118 119 0 F119 := oG rfl
@[simp] def l118 : List LoopD := []
def t118 : Te AV := .need e118_1 (
 .ok (.sym .bool e118_0))
def F118 : List AV → Option AV := unitF (omL KK s118 l118) t118
def c118 : Cal := ⟨i118, F118⟩
theorem x118 : XO i118 F118 := XV s118 l118 t118 g118 ⟨x119, trivial⟩ (by kernel_rfl) (by kernel_rfl) (by kernel_rfl)
abbrev e169_0 := Q (LE (I 0) v17) (LT v17 (LN v0)) (.b false)
abbrev e169_1 := K 118 [(C 0 v0 v17),(C 1 v0 v17),(C 2 v0 v17),(C 3 v0 v17),(C 4 v0 v17),(C 5 v0 v17),(C 6 v0 v17),(C 7 v0 v17),(C 8 v0 v17),(C 9 v0 v17),(C 10 v0 v17),v1,v2,v3,v4,v5,v6,v7,v8,v9,v10,v11,v12,v13,v14,v15]
abbrev e169_2 := OB e169_1
abbrev e169_3 := LO 16900 [v0,v1,v2,v3,v4,v5,v6,v7,v8,v9,v10,v11,v12,v13,v14,v15,(LN v0),(I 0)]
abbrev e169_4 := PJ 0 e169_3
abbrev e169_5 := EQ e169_4 (I 1)
abbrev e169_6 := EQ e169_4 (I 2)
abbrev e169_7 := Q e169_5 YY e169_6
abbrev e169_8 := PJ 1 e169_3
abbrev e169_9 := Q e169_5 e169_8 (I (-1))
def B16900 : Te LEnd := .ite (LT v17 v16) (
 .need e169_0 (
 .need e169_2 (
 .ite e169_1 (
 .ok (.out 1 [v17])) (
 .ok (.again [v0,v1,v2,v3,v4,v5,v6,v7,v8,v9,v10,v11,v12,v13,v14,v15,v16,(AD v17 (I 1))]))))) (
 .ok (.out 2 []))
def d16900 : LoopD := ⟨2,⟨16900,18,((S4 0) :: ((.func (.func 118) [] [(.ref [(Ss 1),(S1 2),(Si 3),(Si 4)]),(.ref [(Ss 5),(Ss 6),(Si 7),(Si 8),(Si 9),(Si 10),(Sb 11),(Sb 12),(Sb 13),(S3 14),(S2 15)])]) :: (J 5 ((Si 16) :: ((Si 17) :: (J 10 [])))))),⟨⟨0,[],[[]],none⟩,[],[]⟩,
 [(.ret,1,(J 4 ((Si 0) :: (J 14 []))),⟨⟨0,[],[[]],none⟩,[],[]⟩),
  (.exit 0,0,(J 19 []),⟨⟨0,[],[[]],none⟩,[],[]⟩)],[(1,[]),(2,[])]⟩,B16900⟩
@[simp] theorem d16900_id : d16900.L.id = 16900 := rfl
@[simp] theorem d16900_B : d16900.B = B16900 := rfl
def i169 : Inst := ⟨169, 0, [(S4 0), (.func (.func 118) [] [(.ref [(Ss 1), (S1 2), (Si 3), (Si 4)]), (.ref [(Ss 5), (Ss 6), (Si 7), (Si 8), (Si 9), (Si 10), (Sb 11), (Sb 12), (Sb 13), (S3 14), (S2 15)])])], [.one (.int .i64)]⟩
def s169 : List Cal := [c118]
@[simp] theorem o169_118 : OE s169 118 0 F118 := oG rfl
@[simp] def l169 : List LoopD := [d16900]
def t169 : Te AV := .need e169_7 (
 .ok (.sym (.int .i64) e169_9))
def F169 : List AV → Option AV := unitF (omL KK s169 l169) t169
def c169 : Cal := ⟨i169, F169⟩
theorem x169 : XO i169 F169 := XV s169 l169 t169 g169 ⟨x118, trivial⟩ (by kernel_rfl) (by kernel_rfl) (by kernel_rfl)
abbrev e100_0 := K 169 [v0,v1,v2,v3,v4,v5,v6,v7,v8,v9,v10,v11,v12,v13,v14,v15]
abbrev e100_1 := OI e100_0
abbrev e100_2 := GE e100_0 (I 0)
def i100 : Inst := ⟨100, 0, [(S4 0), (.func (.func 118) [] [(.ref [(Ss 1), (S1 2), (Si 3), (Si 4)]), (.ref [(Ss 5), (Ss 6), (Si 7), (Si 8), (Si 9), (Si 10), (Sb 11), (Sb 12), (Sb 13), (S3 14), (S2 15)])])], [.one .bool]⟩
def s100 : List Cal := [c169]
@[simp] theorem o100_169 : OE s100 169 0 F169 := oG rfl
@[simp] def l100 : List LoopD := []
def t100 : Te AV := .need e100_1 (
 .ok (.sym .bool e100_2))
def F100 : List AV → Option AV := unitF (omL KK s100 l100) t100
def c100 : Cal := ⟨i100, F100⟩
theorem x100 : XO i100 F100 := XV s100 l100 t100 g100 ⟨x169, trivial⟩ (by kernel_rfl) (by kernel_rfl) (by kernel_rfl)
abbrev e60_0 := Q (LE (I 0) v2) (LT v2 (LN v0)) (.b false)
abbrev e60_1 := SE (C 0 v0 v2) (.s w5)
abbrev e60_2 := Q e60_1 (LE (I 0) v2) YY
abbrev e60_3 := Q e60_1 (LE v2 (LN v0)) YY
abbrev e60_4 := K 100 [(.p .slice [v0,(I 0),v2]),v4,v5,v6,v7,(C 0 v0 v2),(C 1 v0 v2),(C 2 v0 v2),(C 3 v0 v2),(C 4 v0 v2),(C 5 v0 v2),(C 6 v0 v2),(C 7 v0 v2),(C 8 v0 v2),(C 9 v0 v2),(C 10 v0 v2)]
abbrev e60_5 := OB e60_4
abbrev e60_6 := Q e60_1 e60_5 YY
abbrev e60_7 := K 120 [v4,v5,v6,v7,v3,(C 0 v0 v2),(C 1 v0 v2),(C 2 v0 v2),(C 3 v0 v2),(C 4 v0 v2),(C 5 v0 v2),(C 6 v0 v2),(C 7 v0 v2),(C 8 v0 v2),(C 9 v0 v2),(C 10 v0 v2)]
abbrev e60_8 := OI e60_7
abbrev e60_9 := Q e60_1 e60_4 (.b false)
abbrev e60_10 := K 103 [e60_9,(I 9)]
abbrev e60_11 := OI e60_10
abbrev e60_12 : X := .sl 1 [[e60_7],[e60_10]]
abbrev e60_13 := K 102 [e60_12]
abbrev e60_14 := OI e60_13
abbrev e60_15 := NE e60_13 (I 0)
abbrev e60_16 := K 58 [v0,v1,v2,v3]
abbrev e60_17 := OI e60_16
abbrev e60_18 := K 115 [v4,(I 0),(I 86399999)]
abbrev e60_19 := OI e60_18
abbrev e60_20 := NE (LN v5) (LN v1)
abbrev e60_21 := K 103 [e60_20,(I 2)]
abbrev e60_22 := OI e60_21
abbrev e60_23 : X := .sl 1 [[e60_16],[e60_18],[e60_21]]
abbrev e60_24 := K 102 [e60_23]
abbrev e60_25 := OI e60_24
abbrev e60_26 := NE e60_24 (I 0)
abbrev e60_27 := LO 6000 [v5,(LN v5),(I 0),v4,v0,v1,v2,v3]
abbrev e60_28 := PJ 0 e60_27
abbrev e60_29 := EQ e60_28 (I 1)
abbrev e60_30 := EQ e60_28 (I 2)
abbrev e60_31 := Q e60_29 YY e60_30
abbrev e60_32 := Q e60_26 YY e60_31
abbrev e60_33 := PJ 1 e60_27
abbrev e60_34 := Q e60_29 e60_33 (I 0)
abbrev e60_35 := Q e60_26 e60_24 e60_34
def B6000 : Te LEnd := .ite (LT v2 v1) (
 .need e60_0 (
 .need e60_2 (
 .need e60_3 (
 .need e60_6 (
 .need e60_8 (
 .need e60_11 (
 .need e60_14 (
 .ite e60_15 (
 .ok (.out 1 [e60_13])) (
 .ok (.again [v0,v1,(AD v2 (I 1)),v3,v4,v5,v6,v7])))))))))) (
 .ok (.out 2 []))
def d6000 : LoopD := ⟨5,⟨6000,8,(J 2 ((.ptr 0 0 0) :: ((.ptr 1 0 0) :: (J 25 ((S4 0) :: ((Si 1) :: ((Si 2) :: (J 28 [])))))))),⟨⟨5,[(1,.cells 2 [[(Si 3),(S4 0)]]),(0,.cells 4 [[(Ss 4),(S1 5),(Si 6),(Si 7)]])],[[]],none⟩,[],[]⟩,
 [(.ret,1,(J 4 ((Si 0) :: (J 55 []))),⟨⟨7,[],[[]],none⟩,[],[]⟩),
  (.exit 0,0,(J 60 []),⟨⟨5,[],[[]],none⟩,[],[]⟩)],[(1,[]),(2,[])]⟩,B6000⟩
@[simp] theorem d6000_id : d6000.L.id = 6000 := rfl
@[simp] theorem d6000_B : d6000.B = B6000 := rfl
def i60 : Inst := ⟨60, 0, [(.agg [(Ss 0), (S1 1), (Si 2), (Si 3)]), (.agg [(Si 4), (S4 5)])], [.one (.int .i64)]⟩
def s60 : List Cal := [c58, c115, c103, c102, c100, c120]
@[simp] theorem o60_58 : OE s60 58 0 F58 := oG rfl
@[simp] theorem o60_115 : OE s60 115 0 F115 := oG rfl
@[simp] theorem o60_103 : OE s60 103 0 F103 := oG rfl
@[simp] theorem o60_102 : OE s60 102 0 F102 := oG rfl
@[simp] theorem o60_100 : OE s60 100 0 F100 := oG rfl
@[simp] theorem o60_120 : OE s60 120 0 F120 := oG rfl
@[simp] def l60 : List LoopD := [d6000]
def t60 : Te AV := .need e60_17 (
 .need e60_19 (
 .need e60_22 (
 .need e60_25 (
 .need e60_32 (
 .ok (.sym (.int .i64) e60_35))))))
def F60 : List AV → Option AV := unitF (omL KK s60 l60) t60
def c60 : Cal := ⟨i60, F60⟩
theorem x60 : XO i60 F60 := XV s60 l60 t60 g60 ⟨x58, x115, x103, x102, x100, x120, trivial⟩ (by kernel_rfl) (by kernel_rfl) (by kernel_rfl)
def i101 : Inst := ⟨101, 0, [(.agg [(Ss 0), (Ss 1), (Si 2), (Si 3), (Si 4), (Si 5), (Sb 6), (Sb 7), (Sb 8), (S3 9), (S2 10)])], [.one .bool]⟩
def s101 : List Cal := []
@[simp] def l101 : List LoopD := []
def t101 : Te AV := .ok (.sym .bool (SN v0 (.s w6)))
def F101 : List AV → Option AV := unitF (omL KK s101 l101) t101
def c101 : Cal := ⟨i101, F101⟩
theorem x101 : XO i101 F101 := XV s101 l101 t101 g101 trivial (by kernel_rfl) (by kernel_rfl) (by kernel_rfl)
abbrev e1169_0 := Q (LE (I 0) v2) (LT v2 (LN v0)) (.b false)
abbrev e1169_1 := K 101 [(C 0 v0 v2),(C 1 v0 v2),(C 2 v0 v2),(C 3 v0 v2),(C 4 v0 v2),(C 5 v0 v2),(C 6 v0 v2),(C 7 v0 v2),(C 8 v0 v2),(C 9 v0 v2),(C 10 v0 v2)]
abbrev e1169_2 := OB e1169_1
abbrev e1169_3 := LO 116900 [v0,(LN v0),(I 0)]
abbrev e1169_4 := PJ 0 e1169_3
abbrev e1169_5 := EQ e1169_4 (I 1)
abbrev e1169_6 := EQ e1169_4 (I 2)
abbrev e1169_7 := Q e1169_5 YY e1169_6
abbrev e1169_8 := PJ 1 e1169_3
abbrev e1169_9 := Q e1169_5 e1169_8 (I (-1))
def B116900 : Te LEnd := .ite (LT v2 v1) (
 .need e1169_0 (
 .need e1169_2 (
 .ite e1169_1 (
 .ok (.out 1 [v2])) (
 .ok (.again [v0,v1,(AD v2 (I 1))]))))) (
 .ok (.out 2 []))
def d116900 : LoopD := ⟨2,⟨116900,3,((S4 0) :: ((.func (.func 101) [] []) :: (J 5 ((Si 1) :: ((Si 2) :: (J 10 [])))))),⟨⟨0,[],[[]],none⟩,[],[]⟩,
 [(.ret,1,(J 4 ((Si 0) :: (J 14 []))),⟨⟨0,[],[[]],none⟩,[],[]⟩),
  (.exit 0,0,(J 19 []),⟨⟨0,[],[[]],none⟩,[],[]⟩)],[(1,[]),(2,[])]⟩,B116900⟩
@[simp] theorem d116900_id : d116900.L.id = 116900 := rfl
@[simp] theorem d116900_B : d116900.B = B116900 := rfl
def i1169 : Inst := ⟨169, 1, [(S4 0), (.func (.func 101) [] [])], [.one (.int .i64)]⟩
def s1169 : List Cal := [c101]
@[simp] theorem o1169_101 : OE s1169 101 0 F101 := oG rfl
@[simp] def l1169 : List LoopD := [d116900]
def t1169 : Te AV := .need e1169_7 (
 .ok (.sym (.int .i64) e1169_9))
def F1169 : List AV → Option AV := unitF (omL KK s1169 l1169) t1169
def c1169 : Cal := ⟨i1169, F1169⟩
theorem x1169 : XO i1169 F1169 := XV s1169 l1169 t1169 g169 ⟨x101, trivial⟩ (by kernel_rfl) (by kernel_rfl) (by kernel_rfl)
abbrev e1100_0 := OI (.p (.call 169 1) [v0])
abbrev e1100_1 := GE (.p (.call 169 1) [v0]) (I 0)
def i1100 : Inst := ⟨100, 1, [(S4 0), (.func (.func 101) [] [])], [.one .bool]⟩
def s1100 : List Cal := [c1169]
@[simp] theorem o1100_1169 : OE s1100 169 1 F1169 := oG rfl
@[simp] def l1100 : List LoopD := []
def t1100 : Te AV := .need e1100_0 (
 .ok (.sym .bool e1100_1))
def F1100 : List AV → Option AV := unitF (omL KK s1100 l1100) t1100
def c1100 : Cal := ⟨i1100, F1100⟩
theorem x1100 : XO i1100 F1100 := XV s1100 l1100 t1100 g100 ⟨x1169, trivial⟩ (by kernel_rfl) (by kernel_rfl) (by kernel_rfl)
end Go.Proofs.YtdeaibcebeofiaaGreatDoor.C5
