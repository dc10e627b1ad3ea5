/-
  Functions, as trees.
-/
import Derived.Test.YtdeaibcebeofiaaGreatDoorBase
import Derived.Test.YtdeaibcebeofiaaGreatDoorSm6
set_option linter.unusedVariables false
set_option linter.unusedSimpArgs false
set_option linter.unusedSectionVars false
namespace Go.Proofs.YtdeaibcebeofiaaGreatDoor.C5
open Go Go.Proofs.YtdeaibcebeofiaaGreatDoor.AM Go.Proofs
def KK : Nat := 2097152
@[reducible] def I (n : Int) : X := .i .i64 n
@[reducible] def Q (c a b : X) : X := .p .ite [c, a, b]
@[reducible] def LE (a b : X) : X := .p (.bin .leq .i64) [a, b]
@[reducible] def LT (a b : X) : X := .p (.bin .lss .i64) [a, b]
@[reducible] def EQ (a b : X) : X := .p (.bin .eql .i64) [a, b]
@[reducible] def AD (a b : X) : X := .p (.bin .add .i64) [a, b]
@[reducible] def SB (a b : X) : X := .p (.bin .sub .i64) [a, b]
@[reducible] def C (k : Nat) (a b : X) : X := .p (.cell k) [a, b]
@[reducible] def LN (a : X) : X := .p .len [a]
@[reducible] def PJ (k : Nat) (a : X) : X := .p (.proj k) [a]
def Si (n : Nat) : AV := .sym (.int .i64) (.v n)
def Ss (n : Nat) : AV := .sym .str (.v n)
def Sb (n : Nat) : AV := .sym .bool (.v n)
def S1 (n : Nat) : AV := .sym (.sl [.str]) (.v n)
def S2 (n : Nat) : AV := .sym (.sl [.int .i64]) (.v n)
def S3 (n : Nat) : AV := .sym (.sl [.int .i64, .int .i64, .int .i64, .bool]) (.v n)
def S4 (n : Nat) : AV := .sym (.sl [.str, .str, .int .i64, .int .i64, .int .i64, .int .i64, .bool, .bool, .bool, .sl [.int .i64, .int .i64, .int .i64, .bool], .sl [.int .i64]]) (.v n)
def J : Nat → List AV → List AV
 | 0, l => l
 | n + 1, l => .junk :: J n l
def allX (P : Program) : List Cal → Prop
 | [] => True
 | c :: cs => ExtOk P c.I.f (extI c.I c.F) ∧ allX P cs
theorem allX_mem {P : Program} : ∀ {cs : List Cal}, allX P cs → ∀ c ∈ cs, ExtOk P c.I.f (extI c.I c.F)
 | _ :: _, h, _, .head _ => h.1
 | _ :: _, h, _, .tail _ hc => allX_mem h.2 _ hc
def calF : List Cal → Nat → Option (List AV → Option AV)
 | [], _ => none
 | c :: cs, f => if c.I.f = f ∧ c.I.n = 0 then some c.F else calF cs f
theorem oG {f : Nat} {F : List AV → Option AV} : ∀ {cs : List Cal}, calF cs f = some F → ∀ vs, calO cs f 0 vs = getJ (F vs)
 | [], h, _ => by cases h
 | c :: cs, h, vs => by
   simp only [calF] at h
   simp only [calO]
   split at h
   ·rename_i hc; rw [if_pos hc]; injection h with h; rw [h]
   ·rename_i hc; rw [if_neg hc]; exact oG h vs
abbrev OE (cs : List Cal) (f : Nat) (F : List AV → Option AV) : Prop := ∀ vs, calO cs f 0 vs = getJ (F vs)
abbrev XO (i : Inst) (F : List AV → Option AV) := ExtOk Tryz.prog i.f (extI i F)
theorem XU {i : Inst} {cs : List Cal} {ds : List LoopD} {t : Te AV} (h : allX Tryz.prog cs) {x : FnE} (h1 : tab.fn.get i.f = some x) (h2 : x.fn.body.isNone = false) (h3 : unitChk tab keep cs ds 40 i.f i.pats t = true) : XO i (unitF (omL KK cs ds) t) :=
 unit_ext tabOf.1 tabOf.2 (allX_mem h) (fn_known tabOf.1 h1 h2) h3
theorem cal_cons (c : Cal) (cs : List Cal) (f n : Nat) (vs : List AV) : calO (c :: cs) f n vs = if c.I.f = f ∧ c.I.n = n then getJ (c.F vs) else calO cs f n vs := rfl
def w0 : ByteArray := ⟨#[108, 101, 97, 100]⟩
def w1 : ByteArray := ⟨#[98, 111, 117, 108, 100, 101, 114]⟩
def w2 : ByteArray := ⟨#[115, 112, 101, 101, 100]⟩
def w3 : ByteArray := ⟨#[]⟩
def w4 : ByteArray := ⟨#[115, 116, 97, 114, 116]⟩
def w5 : ByteArray := ⟨#[104, 111, 108, 100]⟩
def w6 : ByteArray := ⟨#[112, 108, 117, 115]⟩
def w7 : ByteArray := ⟨#[97, 116, 116, 101, 109, 112, 116]⟩
def w8 : ByteArray := ⟨#[122, 111, 110, 101]⟩
def w9 : ByteArray := ⟨#[116, 111, 112]⟩
def w10 : ByteArray := ⟨#[102, 97, 108, 108]⟩
def w11 : ByteArray := ⟨#[108, 101, 97, 118, 101]⟩
def w12 : ByteArray := ⟨#[111, 117, 116]⟩
def w13 : ByteArray := ⟨#[102, 105, 110, 105, 115, 104]⟩
def w14 : ByteArray := ⟨#[102, 97, 108, 115, 101]⟩
def w15 : ByteArray := ⟨#[105, 110, 99, 105, 100, 101, 110, 116]⟩
def w16 : ByteArray := ⟨#[97, 98, 115, 101, 110, 116]⟩
def w17 : ByteArray := ⟨#[98, 97, 114]⟩
def w18 : ByteArray := ⟨#[119, 97, 105, 116, 105, 110, 103]⟩
def w19 : ByteArray := ⟨#[111, 110]⟩
def w20 : ByteArray := ⟨#[100, 111, 110, 101]⟩
def w21 : ByteArray := ⟨#[100, 110, 115]⟩
def w22 : ByteArray := ⟨#[100, 110, 102]⟩
def w23 : ByteArray := ⟨#[100, 115, 113]⟩
end Go.Proofs.YtdeaibcebeofiaaGreatDoor.C5

namespace Go.Proofs.YtdeaibcebeofiaaGreatDoor.C5
open Go Go.Proofs.YtdeaibcebeofiaaGreatDoor.AM Go.Proofs
set_option maxRecDepth 100000
@[simp] def e89_0 : X := (Q (LT (.v 0) (.v 1)) (.b true) (.p (.bin .gtr .i64) [(.v 0), (.v 2)]))
def i89 : Inst := ⟨89, 0, [(Si 0), (Si 1), (Si 2)], [.one .bool]⟩
def s89 : List Cal := []
@[simp] def l89 : List LoopD := []
def t89 : Te AV := .ok (.sym .bool e89_0)
def F89 : List AV → Option AV := unitF (omL KK s89 l89) t89
def c89 : Cal := ⟨i89, F89⟩
theorem x89 : XO i89 F89 := XU (cs := s89) (ds := l89) (t := t89) trivial (x := g89) (by kernel_rfl) (by kernel_rfl) (by kernel_rfl)
def i103 : Inst := ⟨103, 0, [(Sb 0), (Si 1)], [.one (.int .i64)]⟩
def s103 : List Cal := []
@[simp] def l103 : List LoopD := []
def t103 : Te AV := .ok (.sym (.int .i64) (Q (.v 0) (.v 1) (I (0))))
def F103 : List AV → Option AV := unitF (omL KK s103 l103) t103
def c103 : Cal := ⟨i103, F103⟩
theorem x103 : XO i103 F103 := XU (cs := s103) (ds := l103) (t := t103) trivial (x := g103) (by kernel_rfl) (by kernel_rfl) (by kernel_rfl)
@[simp] def e177_0 : X := (Q (LE (I (0)) (.v 3)) (LT (.v 3) (LN (.v 0))) (.b false))
@[simp] def e177_1 : X := (.p (.sbin .eql) [(.v 1), (C 0 (.v 0) (.v 3))])
@[simp] def e177_2 : X := (.p (.call 100000 17700) [(.v 0), (.v 1), (LN (.v 0)), (I (0))])
@[simp] def e177_3 : X := (PJ 0 e177_2)
@[simp] def e177_4 : X := (EQ e177_3 (I (1)))
@[simp] def e177_5 : X := (EQ e177_3 (I (2)))
@[simp] def e177_6 : X := (Q e177_4 (.b true) e177_5)
@[simp] def e177_7 : X := (PJ 1 e177_2)
@[simp] def e177_8 : X := (Q e177_4 e177_7 (I (-1)))
def B17700 : Te LEnd := .ite (LT (.v 3) (.v 2)) (
 .need e177_0 (
 .ite e177_1 (
 .ok (.out 1 [(.v 3)])) (
 .ok (.again [(.v 0), (.v 1), (.v 2), (AD (.v 3) (I (1)))])))) (
 .ok (.out 2 []))
def d17700 : LoopD := ⟨2, ⟨17700, 4, ((S1 0) :: ((Ss 1) :: (J 5 ((Si 2) :: ((Si 3) :: (J 10 [])))))), ⟨⟨0, [], [[]], none⟩, [], []⟩,
 [(.ret, 1, (J 4 ((Si 0) :: (J 14 []))), ⟨⟨0, [], [[]], none⟩, [], []⟩),
  (.exit 0, 0, (J 19 []), ⟨⟨0, [], [[]], none⟩, [], []⟩)], [(1, []), (2, [])]⟩, B17700⟩
@[simp] theorem d17700_id : d17700.L.id = 17700 := rfl
@[simp] theorem d17700_B : d17700.B = B17700 := rfl
def i177 : Inst := ⟨177, 0, [(S1 0), (Ss 1)], [.one (.int .i64)]⟩
def s177 : List Cal := []
@[simp] def l177 : List LoopD := [d17700]
def t177 : Te AV := .need e177_6 (
 .ok (.sym (.int .i64) e177_8))
def F177 : List AV → Option AV := unitF (omL KK s177 l177) t177
def c177 : Cal := ⟨i177, F177⟩
theorem x177 : XO i177 F177 := XU (cs := s177) (ds := l177) (t := t177) trivial (x := g177) (by kernel_rfl) (by kernel_rfl) (by kernel_rfl)
@[simp] def e114_0 : X := (.p (.okr [.one (.int .i64)]) [(.p (.call 177 0) [(.v 0), (.v 1)])])
@[simp] def e114_1 : X := (.p (.bin .geq .i64) [(.p (.call 177 0) [(.v 0), (.v 1)]), (I (0))])
def i114 : Inst := ⟨114, 0, [(S1 0), (Ss 1)], [.one .bool]⟩
def s114 : List Cal := [c177]
@[simp] theorem o114_177 : OE s114 177 F177 := oG rfl
@[simp] def l114 : List LoopD := []
def t114 : Te AV := .need e114_0 (
 .ok (.sym .bool e114_1))
def F114 : List AV → Option AV := unitF (omL KK s114 l114) t114
def c114 : Cal := ⟨i114, F114⟩
theorem x114 : XO i114 F114 := XU (cs := s114) (ds := l114) (t := t114) ⟨x177, trivial⟩ (x := g114) (by kernel_rfl) (by kernel_rfl) (by kernel_rfl)
@[simp] def e102_0 : X := (Q (LE (I (0)) (.v 2)) (LT (.v 2) (LN (.v 0))) (.b false))
@[simp] def e102_1 : X := (.p (.bin .neq .i64) [(C 0 (.v 0) (.v 2)), (I (0))])
@[simp] def e102_2 : X := (.p (.call 100000 10200) [(.v 0), (LN (.v 0)), (I (0))])
@[simp] def e102_3 : X := (PJ 0 e102_2)
@[simp] def e102_4 : X := (EQ e102_3 (I (1)))
@[simp] def e102_5 : X := (EQ e102_3 (I (2)))
@[simp] def e102_6 : X := (Q e102_4 (.b true) e102_5)
@[simp] def e102_7 : X := (PJ 1 e102_2)
@[simp] def e102_8 : X := (Q e102_4 e102_7 (I (0)))
def B10200 : Te LEnd := .ite (LT (.v 2) (.v 1)) (
 .need e102_0 (
 .ite e102_1 (
 .ok (.out 1 [(C 0 (.v 0) (.v 2))])) (
 .ok (.again [(.v 0), (.v 1), (AD (.v 2) (I (1)))])))) (
 .ok (.out 2 []))
def d10200 : LoopD := ⟨2, ⟨10200, 3, (J 5 ((S2 0) :: ((Si 1) :: ((Si 2) :: (J 7 []))))), ⟨⟨0, [], [[]], none⟩, [], []⟩,
 [(.ret, 1, (J 2 ((Si 0) :: (J 12 []))), ⟨⟨0, [], [[]], none⟩, [], []⟩),
  (.exit 0, 0, (J 15 []), ⟨⟨0, [], [[]], none⟩, [], []⟩)], [(1, []), (2, [])]⟩, B10200⟩
@[simp] theorem d10200_id : d10200.L.id = 10200 := rfl
@[simp] theorem d10200_B : d10200.B = B10200 := rfl
def i102 : Inst := ⟨102, 0, [(S2 0)], [.one (.int .i64)]⟩
def s102 : List Cal := []
@[simp] def l102 : List LoopD := [d10200]
def t102 : Te AV := .need e102_6 (
 .ok (.sym (.int .i64) e102_8))
def F102 : List AV → Option AV := unitF (omL KK s102 l102) t102
def c102 : Cal := ⟨i102, F102⟩
theorem x102 : XO i102 F102 := XU (cs := s102) (ds := l102) (t := t102) trivial (x := g102) (by kernel_rfl) (by kernel_rfl) (by kernel_rfl)
@[simp] def e112_0 : X := (Q (.p .keq [(.v 0), (.s w2)]) (I (8)) (I (0)))
@[simp] def e112_1 : X := (Q (.p .keq [(.v 0), (.s w1)]) (I (8)) e112_0)
@[simp] def e112_2 : X := (Q (.p .keq [(.v 0), (.s w0)]) (I (64)) e112_1)
def i112 : Inst := ⟨112, 0, [(Ss 0)], [.one (.int .i64)]⟩
def s112 : List Cal := []
@[simp] def l112 : List LoopD := []
def t112 : Te AV := .ok (.sym (.int .i64) e112_2)
def F112 : List AV → Option AV := unitF (omL KK s112 l112) t112
def c112 : Cal := ⟨i112, F112⟩
theorem x112 : XO i112 F112 := XU (cs := s112) (ds := l112) (t := t112) trivial (x := g112) (by kernel_rfl) (by kernel_rfl) (by kernel_rfl)
@[simp] def e113_0 : X := (.p (.bin .geq .i32) [(.p .rune [(.v 1), (.v 2)]), (.i .i32 (97))])
@[simp] def e113_1 : X := (.p (.bin .leq .i32) [(.p .rune [(.v 1), (.v 2)]), (.i .i32 (122))])
@[simp] def e113_2 : X := (.p (.bin .geq .i32) [(.p .rune [(.v 1), (.v 2)]), (.i .i32 (65))])
@[simp] def e113_3 : X := (.p (.bin .leq .i32) [(.p .rune [(.v 1), (.v 2)]), (.i .i32 (90))])
@[simp] def e113_4 : X := (Q e113_2 e113_3 (.b false))
@[simp] def e113_5 : X := (Q e113_1 (.b true) e113_4)
@[simp] def e113_6 : X := (Q e113_0 e113_5 e113_4)
@[simp] def e113_7 : X := (.p .not [e113_6])
@[simp] def e113_8 : X := (.p (.bin .neq .i32) [(.p .rune [(.v 1), (.v 2)]), (.i .i32 (95))])
@[simp] def e113_9 : X := (.p (.bin .lss .i32) [(.p .rune [(.v 1), (.v 2)]), (.i .i32 (48))])
@[simp] def e113_10 : X := (.p (.bin .gtr .i32) [(.p .rune [(.v 1), (.v 2)]), (.i .i32 (57))])
@[simp] def e113_11 : X := (Q e113_9 (.b true) e113_10)
@[simp] def e113_12 : X := (Q e113_8 e113_11 (.b false))
@[simp] def e113_13 : X := (Q (EQ (.v 2) (I (0))) (.b true) e113_12)
@[simp] def e113_14 : X := (Q e113_7 e113_13 (.b false))
@[simp] def e113_15 : X := (.p (.call 100000 11300) [(.v 0), (.v 0), (I (0))])
@[simp] def e113_16 : X := (PJ 0 e113_15)
@[simp] def e113_17 : X := (EQ e113_16 (I (1)))
@[simp] def e113_18 : X := (EQ e113_16 (I (2)))
@[simp] def e113_19 : X := (Q e113_17 (.b true) e113_18)
@[simp] def e113_20 : X := (Q (.p (.sbin .neq) [(.v 0), (.s w3)]) (LE (LN (.v 0)) (I (24))) (.b false))
@[simp] def e113_21 : X := (Q e113_17 (.b false) e113_20)
def B11300 : Te LEnd := .ite (LT (.v 2) (LN (.v 1))) (
 .ite e113_14 (
 .ok (.out 1 [])) (
 .ok (.again [(.v 0), (.v 1), (.p .adv [(.v 1), (.v 2)])]))) (
 .ok (.out 2 [(.v 0)]))
def d11300 : LoopD := ⟨2, ⟨11300, 3, ((Ss 0) :: (J 5 ((.sym (.sown 0) (.b true)) :: (J 30 [])))), ⟨⟨1, [], [[]], none⟩, [(0, .si (.v 1) (.v 2))], []⟩,
 [(.ret, 0, (J 2 ((.bool false) :: (J 34 []))), ⟨⟨1, [], [[]], none⟩, [], []⟩),
  (.exit 0, 1, ((Ss 0) :: (J 36 [])), ⟨⟨1, [], [[]], none⟩, [], []⟩)], [(1, []), (2, [(0, 0)])]⟩, B11300⟩
@[simp] theorem d11300_id : d11300.L.id = 11300 := rfl
@[simp] theorem d11300_B : d11300.B = B11300 := rfl
def i113 : Inst := ⟨113, 0, [(Ss 0)], [.one .bool]⟩
def s113 : List Cal := []
@[simp] def l113 : List LoopD := [d11300]
def t113 : Te AV := .need e113_19 (
 .ok (.sym .bool e113_21))
def F113 : List AV → Option AV := unitF (omL KK s113 l113) t113
def c113 : Cal := ⟨i113, F113⟩
theorem x113 : XO i113 F113 := XU (cs := s113) (ds := l113) (t := t113) trivial (x := g113) (by kernel_rfl) (by kernel_rfl) (by kernel_rfl)
@[simp] def e115_0 : X := (.p (.call 89 0) [(.v 0), (.v 1), (.v 2)])
@[simp] def e115_1 : X := (.p (.okr [.one .bool]) [e115_0])
@[simp] def e115_2 : X := (.p (.call 103 0) [e115_0, (I (3))])
@[simp] def e115_3 : X := (.p (.okr [.one (.int .i64)]) [e115_2])
def i115 : Inst := ⟨115, 0, [(Si 0), (Si 1), (Si 2)], [.one (.int .i64)]⟩
def s115 : List Cal := [c89, c103]
@[simp] theorem o115_89 : OE s115 89 F89 := oG rfl
@[simp] theorem o115_103 : OE s115 103 F103 := oG rfl
@[simp] def l115 : List LoopD := []
def t115 : Te AV := .need e115_1 (
 .need e115_3 (
 .ok (.sym (.int .i64) e115_2)))
def F115 : List AV → Option AV := unitF (omL KK s115 l115) t115
def c115 : Cal := ⟨i115, F115⟩
theorem x115 : XO i115 F115 := XU (cs := s115) (ds := l115) (t := t115) ⟨x89, x103, trivial⟩ (x := g115) (by kernel_rfl) (by kernel_rfl) (by kernel_rfl)
@[simp] def e91_0 : X := (.p (.call 89 0) [(.v 4), (I (0)), (SB (LN (.v 1)) (I (1)))])
@[simp] def e91_1 : X := (.p (.okr [.one .bool]) [e91_0])
@[simp] def e91_2 : X := (Q (.p .keq [(.v 5), (.s w4)]) e91_1 (.b true))
@[simp] def e91_3 : X := (.p (.call 103 0) [e91_0, (I (10))])
@[simp] def e91_4 : X := (.p (.okr [.one (.int .i64)]) [e91_3])
@[simp] def e91_5 : X := (Q (.p .keq [(.v 5), (.s w4)]) e91_4 (.b true))
@[simp] def e91_6 : X := (.p (.call 103 0) [(.b false), (I (13))])
@[simp] def e91_7 : X := (.p (.okr [.one (.int .i64)]) [e91_6])
@[simp] def e91_8 : X := (Q (.p .keq [(.v 5), (.s w4)]) e91_7 (.b true))
@[simp] def e91_9 : X := (.p (.call 115 0) [(.v 6), (I (0)), (I (86399999))])
@[simp] def e91_10 : X := (.p (.okr [.one (.int .i64)]) [e91_9])
@[simp] def e91_11 : X := (Q (.p .keq [(.v 5), (.s w4)]) e91_10 (.b true))
@[simp] def e91_12 : X := (.p (.call 115 0) [(.v 7), (I (0)), (I (86399999))])
@[simp] def e91_13 : X := (.p (.okr [.one (.int .i64)]) [e91_12])
@[simp] def e91_14 : X := (Q (.p .keq [(.v 5), (.s w4)]) e91_13 (.b true))
@[simp] def e91_15 : X := (.p (.okr [.one (.int .i64)]) [(.p (.call 103 0) [(.b false), (I (1))])])
@[simp] def e91_16 : X := (Q (.p .keq [(.v 5), (.s w4)]) e91_15 (.b true))
@[simp] def e91_17 : X := (.sl 1 [[e91_3], [e91_6], [e91_9], [e91_12], [(.p (.call 103 0) [(.b false), (I (1))])]])
@[simp] def e91_18 : X := (.p (.call 102 0) [e91_17])
@[simp] def e91_19 : X := (.p (.okr [.one (.int .i64)]) [e91_18])
@[simp] def e91_20 : X := (Q (.p .keq [(.v 5), (.s w4)]) e91_19 (.b true))
@[simp] def e91_21 : X := (Q (.p .keq [(.v 5), (.s w5)]) e91_1 (.b true))
@[simp] def e91_22 : X := (Q (.p .keq [(.v 5), (.s w4)]) (.b true) e91_21)
@[simp] def e91_23 : X := (Q (.p .keq [(.v 5), (.s w5)]) e91_4 (.b true))
@[simp] def e91_24 : X := (Q (.p .keq [(.v 5), (.s w4)]) (.b true) e91_23)
@[simp] def e91_25 : X := (Q (.p .keq [(.v 5), (.s w5)]) e91_7 (.b true))
@[simp] def e91_26 : X := (Q (.p .keq [(.v 5), (.s w4)]) (.b true) e91_25)
@[simp] def e91_27 : X := (Q (.p .keq [(.v 5), (.s w5)]) e91_10 (.b true))
@[simp] def e91_28 : X := (Q (.p .keq [(.v 5), (.s w4)]) (.b true) e91_27)
@[simp] def e91_29 : X := (Q (.p .keq [(.v 5), (.s w5)]) e91_13 (.b true))
@[simp] def e91_30 : X := (Q (.p .keq [(.v 5), (.s w4)]) (.b true) e91_29)
@[simp] def e91_31 : X := (Q (.p .keq [(.v 5), (.s w5)]) e91_15 (.b true))
@[simp] def e91_32 : X := (Q (.p .keq [(.v 5), (.s w4)]) (.b true) e91_31)
@[simp] def e91_33 : X := (Q (.p .keq [(.v 5), (.s w5)]) e91_19 (.b true))
@[simp] def e91_34 : X := (Q (.p .keq [(.v 5), (.s w4)]) (.b true) e91_33)
@[simp] def e91_35 : X := (Q (.p .keq [(.v 5), (.s w6)]) e91_1 (.b true))
@[simp] def e91_36 : X := (Q (.p .keq [(.v 5), (.s w5)]) (.b true) e91_35)
@[simp] def e91_37 : X := (Q (.p .keq [(.v 5), (.s w4)]) (.b true) e91_36)
@[simp] def e91_38 : X := (Q (.p .keq [(.v 5), (.s w6)]) e91_4 (.b true))
@[simp] def e91_39 : X := (Q (.p .keq [(.v 5), (.s w5)]) (.b true) e91_38)
@[simp] def e91_40 : X := (Q (.p .keq [(.v 5), (.s w4)]) (.b true) e91_39)
@[simp] def e91_41 : X := (Q (.p .keq [(.v 5), (.s w6)]) e91_7 (.b true))
@[simp] def e91_42 : X := (Q (.p .keq [(.v 5), (.s w5)]) (.b true) e91_41)
@[simp] def e91_43 : X := (Q (.p .keq [(.v 5), (.s w4)]) (.b true) e91_42)
@[simp] def e91_44 : X := (Q (.p .keq [(.v 5), (.s w6)]) e91_10 (.b true))
@[simp] def e91_45 : X := (Q (.p .keq [(.v 5), (.s w5)]) (.b true) e91_44)
@[simp] def e91_46 : X := (Q (.p .keq [(.v 5), (.s w4)]) (.b true) e91_45)
@[simp] def e91_47 : X := (Q (.p .keq [(.v 5), (.s w6)]) e91_13 (.b true))
@[simp] def e91_48 : X := (Q (.p .keq [(.v 5), (.s w5)]) (.b true) e91_47)
@[simp] def e91_49 : X := (Q (.p .keq [(.v 5), (.s w4)]) (.b true) e91_48)
@[simp] def e91_50 : X := (.p (.call 103 0) [(.p (.bin .neq .i64) [(.v 6), (I (0))]), (I (1))])
@[simp] def e91_51 : X := (.p (.okr [.one (.int .i64)]) [e91_50])
@[simp] def e91_52 : X := (Q (.p .keq [(.v 5), (.s w6)]) e91_51 (.b true))
@[simp] def e91_53 : X := (Q (.p .keq [(.v 5), (.s w5)]) (.b true) e91_52)
@[simp] def e91_54 : X := (Q (.p .keq [(.v 5), (.s w4)]) (.b true) e91_53)
@[simp] def e91_55 : X := (.sl 1 [[e91_3], [e91_6], [e91_9], [e91_12], [e91_50]])
@[simp] def e91_56 : X := (.p (.call 102 0) [e91_55])
@[simp] def e91_57 : X := (.p (.okr [.one (.int .i64)]) [e91_56])
@[simp] def e91_58 : X := (Q (.p .keq [(.v 5), (.s w6)]) e91_57 (.b true))
@[simp] def e91_59 : X := (Q (.p .keq [(.v 5), (.s w5)]) (.b true) e91_58)
@[simp] def e91_60 : X := (Q (.p .keq [(.v 5), (.s w4)]) (.b true) e91_59)
@[simp] def e91_61 : X := (Q (.p .keq [(.v 5), (.s w7)]) e91_1 (.b true))
@[simp] def e91_62 : X := (Q (.p .keq [(.v 5), (.s w6)]) (.b true) e91_61)
@[simp] def e91_63 : X := (Q (.p .keq [(.v 5), (.s w5)]) (.b true) e91_62)
@[simp] def e91_64 : X := (Q (.p .keq [(.v 5), (.s w4)]) (.b true) e91_63)
@[simp] def e91_65 : X := (Q (.p .keq [(.v 5), (.s w7)]) e91_4 (.b true))
@[simp] def e91_66 : X := (Q (.p .keq [(.v 5), (.s w6)]) (.b true) e91_65)
@[simp] def e91_67 : X := (Q (.p .keq [(.v 5), (.s w5)]) (.b true) e91_66)
@[simp] def e91_68 : X := (Q (.p .keq [(.v 5), (.s w4)]) (.b true) e91_67)
@[simp] def e91_69 : X := (Q (.p .keq [(.v 5), (.s w7)]) e91_7 (.b true))
@[simp] def e91_70 : X := (Q (.p .keq [(.v 5), (.s w6)]) (.b true) e91_69)
@[simp] def e91_71 : X := (Q (.p .keq [(.v 5), (.s w5)]) (.b true) e91_70)
@[simp] def e91_72 : X := (Q (.p .keq [(.v 5), (.s w4)]) (.b true) e91_71)
@[simp] def e91_73 : X := (Q (.p .keq [(.v 5), (.s w7)]) e91_10 (.b true))
@[simp] def e91_74 : X := (Q (.p .keq [(.v 5), (.s w6)]) (.b true) e91_73)
@[simp] def e91_75 : X := (Q (.p .keq [(.v 5), (.s w5)]) (.b true) e91_74)
@[simp] def e91_76 : X := (Q (.p .keq [(.v 5), (.s w4)]) (.b true) e91_75)
@[simp] def e91_77 : X := (Q (.p .keq [(.v 5), (.s w7)]) e91_13 (.b true))
@[simp] def e91_78 : X := (Q (.p .keq [(.v 5), (.s w6)]) (.b true) e91_77)
@[simp] def e91_79 : X := (Q (.p .keq [(.v 5), (.s w5)]) (.b true) e91_78)
@[simp] def e91_80 : X := (Q (.p .keq [(.v 5), (.s w4)]) (.b true) e91_79)
@[simp] def e91_81 : X := (Q (.p .keq [(.v 5), (.s w7)]) e91_51 (.b true))
@[simp] def e91_82 : X := (Q (.p .keq [(.v 5), (.s w6)]) (.b true) e91_81)
@[simp] def e91_83 : X := (Q (.p .keq [(.v 5), (.s w5)]) (.b true) e91_82)
@[simp] def e91_84 : X := (Q (.p .keq [(.v 5), (.s w4)]) (.b true) e91_83)
@[simp] def e91_85 : X := (Q (.p .keq [(.v 5), (.s w7)]) e91_57 (.b true))
@[simp] def e91_86 : X := (Q (.p .keq [(.v 5), (.s w6)]) (.b true) e91_85)
@[simp] def e91_87 : X := (Q (.p .keq [(.v 5), (.s w5)]) (.b true) e91_86)
@[simp] def e91_88 : X := (Q (.p .keq [(.v 5), (.s w4)]) (.b true) e91_87)
@[simp] def e91_89 : X := (Q (.p .keq [(.v 5), (.s w8)]) e91_1 (.b true))
@[simp] def e91_90 : X := (Q (.p .keq [(.v 5), (.s w7)]) (.b true) e91_89)
@[simp] def e91_91 : X := (Q (.p .keq [(.v 5), (.s w6)]) (.b true) e91_90)
@[simp] def e91_92 : X := (Q (.p .keq [(.v 5), (.s w5)]) (.b true) e91_91)
@[simp] def e91_93 : X := (Q (.p .keq [(.v 5), (.s w4)]) (.b true) e91_92)
@[simp] def e91_94 : X := (Q (.p .keq [(.v 5), (.s w8)]) e91_4 (.b true))
@[simp] def e91_95 : X := (Q (.p .keq [(.v 5), (.s w7)]) (.b true) e91_94)
@[simp] def e91_96 : X := (Q (.p .keq [(.v 5), (.s w6)]) (.b true) e91_95)
@[simp] def e91_97 : X := (Q (.p .keq [(.v 5), (.s w5)]) (.b true) e91_96)
@[simp] def e91_98 : X := (Q (.p .keq [(.v 5), (.s w4)]) (.b true) e91_97)
@[simp] def e91_99 : X := (Q (.p .keq [(.v 5), (.s w8)]) e91_7 (.b true))
@[simp] def e91_100 : X := (Q (.p .keq [(.v 5), (.s w7)]) (.b true) e91_99)
@[simp] def e91_101 : X := (Q (.p .keq [(.v 5), (.s w6)]) (.b true) e91_100)
@[simp] def e91_102 : X := (Q (.p .keq [(.v 5), (.s w5)]) (.b true) e91_101)
@[simp] def e91_103 : X := (Q (.p .keq [(.v 5), (.s w4)]) (.b true) e91_102)
@[simp] def e91_104 : X := (Q (.p .keq [(.v 5), (.s w8)]) e91_10 (.b true))
@[simp] def e91_105 : X := (Q (.p .keq [(.v 5), (.s w7)]) (.b true) e91_104)
@[simp] def e91_106 : X := (Q (.p .keq [(.v 5), (.s w6)]) (.b true) e91_105)
@[simp] def e91_107 : X := (Q (.p .keq [(.v 5), (.s w5)]) (.b true) e91_106)
@[simp] def e91_108 : X := (Q (.p .keq [(.v 5), (.s w4)]) (.b true) e91_107)
@[simp] def e91_109 : X := (Q (.p .keq [(.v 5), (.s w8)]) e91_13 (.b true))
@[simp] def e91_110 : X := (Q (.p .keq [(.v 5), (.s w7)]) (.b true) e91_109)
@[simp] def e91_111 : X := (Q (.p .keq [(.v 5), (.s w6)]) (.b true) e91_110)
@[simp] def e91_112 : X := (Q (.p .keq [(.v 5), (.s w5)]) (.b true) e91_111)
@[simp] def e91_113 : X := (Q (.p .keq [(.v 5), (.s w4)]) (.b true) e91_112)
@[simp] def e91_114 : X := (Q (.p .keq [(.v 5), (.s w8)]) e91_51 (.b true))
@[simp] def e91_115 : X := (Q (.p .keq [(.v 5), (.s w7)]) (.b true) e91_114)
@[simp] def e91_116 : X := (Q (.p .keq [(.v 5), (.s w6)]) (.b true) e91_115)
@[simp] def e91_117 : X := (Q (.p .keq [(.v 5), (.s w5)]) (.b true) e91_116)
@[simp] def e91_118 : X := (Q (.p .keq [(.v 5), (.s w4)]) (.b true) e91_117)
@[simp] def e91_119 : X := (Q (.p .keq [(.v 5), (.s w8)]) e91_57 (.b true))
@[simp] def e91_120 : X := (Q (.p .keq [(.v 5), (.s w7)]) (.b true) e91_119)
@[simp] def e91_121 : X := (Q (.p .keq [(.v 5), (.s w6)]) (.b true) e91_120)
@[simp] def e91_122 : X := (Q (.p .keq [(.v 5), (.s w5)]) (.b true) e91_121)
@[simp] def e91_123 : X := (Q (.p .keq [(.v 5), (.s w4)]) (.b true) e91_122)
@[simp] def e91_124 : X := (Q (.p .keq [(.v 5), (.s w9)]) e91_1 (.b true))
@[simp] def e91_125 : X := (Q (.p .keq [(.v 5), (.s w8)]) (.b true) e91_124)
@[simp] def e91_126 : X := (Q (.p .keq [(.v 5), (.s w7)]) (.b true) e91_125)
@[simp] def e91_127 : X := (Q (.p .keq [(.v 5), (.s w6)]) (.b true) e91_126)
@[simp] def e91_128 : X := (Q (.p .keq [(.v 5), (.s w5)]) (.b true) e91_127)
@[simp] def e91_129 : X := (Q (.p .keq [(.v 5), (.s w4)]) (.b true) e91_128)
@[simp] def e91_130 : X := (Q (.p .keq [(.v 5), (.s w9)]) e91_4 (.b true))
@[simp] def e91_131 : X := (Q (.p .keq [(.v 5), (.s w8)]) (.b true) e91_130)
@[simp] def e91_132 : X := (Q (.p .keq [(.v 5), (.s w7)]) (.b true) e91_131)
@[simp] def e91_133 : X := (Q (.p .keq [(.v 5), (.s w6)]) (.b true) e91_132)
@[simp] def e91_134 : X := (Q (.p .keq [(.v 5), (.s w5)]) (.b true) e91_133)
@[simp] def e91_135 : X := (Q (.p .keq [(.v 5), (.s w4)]) (.b true) e91_134)
@[simp] def e91_136 : X := (Q (.p .keq [(.v 5), (.s w9)]) e91_7 (.b true))
@[simp] def e91_137 : X := (Q (.p .keq [(.v 5), (.s w8)]) (.b true) e91_136)
@[simp] def e91_138 : X := (Q (.p .keq [(.v 5), (.s w7)]) (.b true) e91_137)
@[simp] def e91_139 : X := (Q (.p .keq [(.v 5), (.s w6)]) (.b true) e91_138)
@[simp] def e91_140 : X := (Q (.p .keq [(.v 5), (.s w5)]) (.b true) e91_139)
@[simp] def e91_141 : X := (Q (.p .keq [(.v 5), (.s w4)]) (.b true) e91_140)
@[simp] def e91_142 : X := (Q (.p .keq [(.v 5), (.s w9)]) e91_10 (.b true))
@[simp] def e91_143 : X := (Q (.p .keq [(.v 5), (.s w8)]) (.b true) e91_142)
@[simp] def e91_144 : X := (Q (.p .keq [(.v 5), (.s w7)]) (.b true) e91_143)
@[simp] def e91_145 : X := (Q (.p .keq [(.v 5), (.s w6)]) (.b true) e91_144)
@[simp] def e91_146 : X := (Q (.p .keq [(.v 5), (.s w5)]) (.b true) e91_145)
@[simp] def e91_147 : X := (Q (.p .keq [(.v 5), (.s w4)]) (.b true) e91_146)
@[simp] def e91_148 : X := (Q (.p .keq [(.v 5), (.s w9)]) e91_13 (.b true))
@[simp] def e91_149 : X := (Q (.p .keq [(.v 5), (.s w8)]) (.b true) e91_148)
@[simp] def e91_150 : X := (Q (.p .keq [(.v 5), (.s w7)]) (.b true) e91_149)
@[simp] def e91_151 : X := (Q (.p .keq [(.v 5), (.s w6)]) (.b true) e91_150)
@[simp] def e91_152 : X := (Q (.p .keq [(.v 5), (.s w5)]) (.b true) e91_151)
@[simp] def e91_153 : X := (Q (.p .keq [(.v 5), (.s w4)]) (.b true) e91_152)
@[simp] def e91_154 : X := (Q (.p .keq [(.v 5), (.s w9)]) e91_51 (.b true))
@[simp] def e91_155 : X := (Q (.p .keq [(.v 5), (.s w8)]) (.b true) e91_154)
@[simp] def e91_156 : X := (Q (.p .keq [(.v 5), (.s w7)]) (.b true) e91_155)
@[simp] def e91_157 : X := (Q (.p .keq [(.v 5), (.s w6)]) (.b true) e91_156)
@[simp] def e91_158 : X := (Q (.p .keq [(.v 5), (.s w5)]) (.b true) e91_157)
@[simp] def e91_159 : X := (Q (.p .keq [(.v 5), (.s w4)]) (.b true) e91_158)
@[simp] def e91_160 : X := (Q (.p .keq [(.v 5), (.s w9)]) e91_57 (.b true))
@[simp] def e91_161 : X := (Q (.p .keq [(.v 5), (.s w8)]) (.b true) e91_160)
@[simp] def e91_162 : X := (Q (.p .keq [(.v 5), (.s w7)]) (.b true) e91_161)
@[simp] def e91_163 : X := (Q (.p .keq [(.v 5), (.s w6)]) (.b true) e91_162)
@[simp] def e91_164 : X := (Q (.p .keq [(.v 5), (.s w5)]) (.b true) e91_163)
@[simp] def e91_165 : X := (Q (.p .keq [(.v 5), (.s w4)]) (.b true) e91_164)
@[simp] def e91_166 : X := (Q (.p .keq [(.v 5), (.s w10)]) e91_1 (.b true))
@[simp] def e91_167 : X := (Q (.p .keq [(.v 5), (.s w9)]) (.b true) e91_166)
@[simp] def e91_168 : X := (Q (.p .keq [(.v 5), (.s w8)]) (.b true) e91_167)
@[simp] def e91_169 : X := (Q (.p .keq [(.v 5), (.s w7)]) (.b true) e91_168)
@[simp] def e91_170 : X := (Q (.p .keq [(.v 5), (.s w6)]) (.b true) e91_169)
@[simp] def e91_171 : X := (Q (.p .keq [(.v 5), (.s w5)]) (.b true) e91_170)
@[simp] def e91_172 : X := (Q (.p .keq [(.v 5), (.s w4)]) (.b true) e91_171)
@[simp] def e91_173 : X := (Q (.p .keq [(.v 5), (.s w10)]) e91_4 (.b true))
@[simp] def e91_174 : X := (Q (.p .keq [(.v 5), (.s w9)]) (.b true) e91_173)
@[simp] def e91_175 : X := (Q (.p .keq [(.v 5), (.s w8)]) (.b true) e91_174)
@[simp] def e91_176 : X := (Q (.p .keq [(.v 5), (.s w7)]) (.b true) e91_175)
@[simp] def e91_177 : X := (Q (.p .keq [(.v 5), (.s w6)]) (.b true) e91_176)
@[simp] def e91_178 : X := (Q (.p .keq [(.v 5), (.s w5)]) (.b true) e91_177)
@[simp] def e91_179 : X := (Q (.p .keq [(.v 5), (.s w4)]) (.b true) e91_178)
@[simp] def e91_180 : X := (Q (.p .keq [(.v 5), (.s w10)]) e91_7 (.b true))
@[simp] def e91_181 : X := (Q (.p .keq [(.v 5), (.s w9)]) (.b true) e91_180)
@[simp] def e91_182 : X := (Q (.p .keq [(.v 5), (.s w8)]) (.b true) e91_181)
@[simp] def e91_183 : X := (Q (.p .keq [(.v 5), (.s w7)]) (.b true) e91_182)
@[simp] def e91_184 : X := (Q (.p .keq [(.v 5), (.s w6)]) (.b true) e91_183)
@[simp] def e91_185 : X := (Q (.p .keq [(.v 5), (.s w5)]) (.b true) e91_184)
@[simp] def e91_186 : X := (Q (.p .keq [(.v 5), (.s w4)]) (.b true) e91_185)
@[simp] def e91_187 : X := (Q (.p .keq [(.v 5), (.s w10)]) e91_10 (.b true))
@[simp] def e91_188 : X := (Q (.p .keq [(.v 5), (.s w9)]) (.b true) e91_187)
@[simp] def e91_189 : X := (Q (.p .keq [(.v 5), (.s w8)]) (.b true) e91_188)
@[simp] def e91_190 : X := (Q (.p .keq [(.v 5), (.s w7)]) (.b true) e91_189)
@[simp] def e91_191 : X := (Q (.p .keq [(.v 5), (.s w6)]) (.b true) e91_190)
@[simp] def e91_192 : X := (Q (.p .keq [(.v 5), (.s w5)]) (.b true) e91_191)
@[simp] def e91_193 : X := (Q (.p .keq [(.v 5), (.s w4)]) (.b true) e91_192)
@[simp] def e91_194 : X := (Q (.p .keq [(.v 5), (.s w10)]) e91_13 (.b true))
@[simp] def e91_195 : X := (Q (.p .keq [(.v 5), (.s w9)]) (.b true) e91_194)
@[simp] def e91_196 : X := (Q (.p .keq [(.v 5), (.s w8)]) (.b true) e91_195)
@[simp] def e91_197 : X := (Q (.p .keq [(.v 5), (.s w7)]) (.b true) e91_196)
@[simp] def e91_198 : X := (Q (.p .keq [(.v 5), (.s w6)]) (.b true) e91_197)
@[simp] def e91_199 : X := (Q (.p .keq [(.v 5), (.s w5)]) (.b true) e91_198)
@[simp] def e91_200 : X := (Q (.p .keq [(.v 5), (.s w4)]) (.b true) e91_199)
@[simp] def e91_201 : X := (Q (.p .keq [(.v 5), (.s w10)]) e91_51 (.b true))
@[simp] def e91_202 : X := (Q (.p .keq [(.v 5), (.s w9)]) (.b true) e91_201)
@[simp] def e91_203 : X := (Q (.p .keq [(.v 5), (.s w8)]) (.b true) e91_202)
@[simp] def e91_204 : X := (Q (.p .keq [(.v 5), (.s w7)]) (.b true) e91_203)
@[simp] def e91_205 : X := (Q (.p .keq [(.v 5), (.s w6)]) (.b true) e91_204)
@[simp] def e91_206 : X := (Q (.p .keq [(.v 5), (.s w5)]) (.b true) e91_205)
@[simp] def e91_207 : X := (Q (.p .keq [(.v 5), (.s w4)]) (.b true) e91_206)
@[simp] def e91_208 : X := (Q (.p .keq [(.v 5), (.s w10)]) e91_57 (.b true))
@[simp] def e91_209 : X := (Q (.p .keq [(.v 5), (.s w9)]) (.b true) e91_208)
@[simp] def e91_210 : X := (Q (.p .keq [(.v 5), (.s w8)]) (.b true) e91_209)
@[simp] def e91_211 : X := (Q (.p .keq [(.v 5), (.s w7)]) (.b true) e91_210)
@[simp] def e91_212 : X := (Q (.p .keq [(.v 5), (.s w6)]) (.b true) e91_211)
@[simp] def e91_213 : X := (Q (.p .keq [(.v 5), (.s w5)]) (.b true) e91_212)
@[simp] def e91_214 : X := (Q (.p .keq [(.v 5), (.s w4)]) (.b true) e91_213)
@[simp] def e91_215 : X := (Q (.p .keq [(.v 5), (.s w11)]) e91_1 (.b true))
@[simp] def e91_216 : X := (Q (.p .keq [(.v 5), (.s w10)]) (.b true) e91_215)
@[simp] def e91_217 : X := (Q (.p .keq [(.v 5), (.s w9)]) (.b true) e91_216)
@[simp] def e91_218 : X := (Q (.p .keq [(.v 5), (.s w8)]) (.b true) e91_217)
@[simp] def e91_219 : X := (Q (.p .keq [(.v 5), (.s w7)]) (.b true) e91_218)
@[simp] def e91_220 : X := (Q (.p .keq [(.v 5), (.s w6)]) (.b true) e91_219)
@[simp] def e91_221 : X := (Q (.p .keq [(.v 5), (.s w5)]) (.b true) e91_220)
@[simp] def e91_222 : X := (Q (.p .keq [(.v 5), (.s w4)]) (.b true) e91_221)
@[simp] def e91_223 : X := (Q (.p .keq [(.v 5), (.s w11)]) e91_4 (.b true))
@[simp] def e91_224 : X := (Q (.p .keq [(.v 5), (.s w10)]) (.b true) e91_223)
@[simp] def e91_225 : X := (Q (.p .keq [(.v 5), (.s w9)]) (.b true) e91_224)
@[simp] def e91_226 : X := (Q (.p .keq [(.v 5), (.s w8)]) (.b true) e91_225)
@[simp] def e91_227 : X := (Q (.p .keq [(.v 5), (.s w7)]) (.b true) e91_226)
@[simp] def e91_228 : X := (Q (.p .keq [(.v 5), (.s w6)]) (.b true) e91_227)
@[simp] def e91_229 : X := (Q (.p .keq [(.v 5), (.s w5)]) (.b true) e91_228)
@[simp] def e91_230 : X := (Q (.p .keq [(.v 5), (.s w4)]) (.b true) e91_229)
@[simp] def e91_231 : X := (Q (.p .keq [(.v 5), (.s w11)]) e91_7 (.b true))
@[simp] def e91_232 : X := (Q (.p .keq [(.v 5), (.s w10)]) (.b true) e91_231)
@[simp] def e91_233 : X := (Q (.p .keq [(.v 5), (.s w9)]) (.b true) e91_232)
@[simp] def e91_234 : X := (Q (.p .keq [(.v 5), (.s w8)]) (.b true) e91_233)
@[simp] def e91_235 : X := (Q (.p .keq [(.v 5), (.s w7)]) (.b true) e91_234)
@[simp] def e91_236 : X := (Q (.p .keq [(.v 5), (.s w6)]) (.b true) e91_235)
@[simp] def e91_237 : X := (Q (.p .keq [(.v 5), (.s w5)]) (.b true) e91_236)
@[simp] def e91_238 : X := (Q (.p .keq [(.v 5), (.s w4)]) (.b true) e91_237)
@[simp] def e91_239 : X := (Q (.p .keq [(.v 5), (.s w11)]) e91_10 (.b true))
@[simp] def e91_240 : X := (Q (.p .keq [(.v 5), (.s w10)]) (.b true) e91_239)
@[simp] def e91_241 : X := (Q (.p .keq [(.v 5), (.s w9)]) (.b true) e91_240)
@[simp] def e91_242 : X := (Q (.p .keq [(.v 5), (.s w8)]) (.b true) e91_241)
@[simp] def e91_243 : X := (Q (.p .keq [(.v 5), (.s w7)]) (.b true) e91_242)
@[simp] def e91_244 : X := (Q (.p .keq [(.v 5), (.s w6)]) (.b true) e91_243)
@[simp] def e91_245 : X := (Q (.p .keq [(.v 5), (.s w5)]) (.b true) e91_244)
@[simp] def e91_246 : X := (Q (.p .keq [(.v 5), (.s w4)]) (.b true) e91_245)
@[simp] def e91_247 : X := (Q (.p .keq [(.v 5), (.s w11)]) e91_13 (.b true))
@[simp] def e91_248 : X := (Q (.p .keq [(.v 5), (.s w10)]) (.b true) e91_247)
@[simp] def e91_249 : X := (Q (.p .keq [(.v 5), (.s w9)]) (.b true) e91_248)
@[simp] def e91_250 : X := (Q (.p .keq [(.v 5), (.s w8)]) (.b true) e91_249)
@[simp] def e91_251 : X := (Q (.p .keq [(.v 5), (.s w7)]) (.b true) e91_250)
@[simp] def e91_252 : X := (Q (.p .keq [(.v 5), (.s w6)]) (.b true) e91_251)
@[simp] def e91_253 : X := (Q (.p .keq [(.v 5), (.s w5)]) (.b true) e91_252)
@[simp] def e91_254 : X := (Q (.p .keq [(.v 5), (.s w4)]) (.b true) e91_253)
@[simp] def e91_255 : X := (Q (.p .keq [(.v 5), (.s w11)]) e91_51 (.b true))
@[simp] def e91_256 : X := (Q (.p .keq [(.v 5), (.s w10)]) (.b true) e91_255)
@[simp] def e91_257 : X := (Q (.p .keq [(.v 5), (.s w9)]) (.b true) e91_256)
@[simp] def e91_258 : X := (Q (.p .keq [(.v 5), (.s w8)]) (.b true) e91_257)
@[simp] def e91_259 : X := (Q (.p .keq [(.v 5), (.s w7)]) (.b true) e91_258)
@[simp] def e91_260 : X := (Q (.p .keq [(.v 5), (.s w6)]) (.b true) e91_259)
@[simp] def e91_261 : X := (Q (.p .keq [(.v 5), (.s w5)]) (.b true) e91_260)
@[simp] def e91_262 : X := (Q (.p .keq [(.v 5), (.s w4)]) (.b true) e91_261)
@[simp] def e91_263 : X := (Q (.p .keq [(.v 5), (.s w11)]) e91_57 (.b true))
@[simp] def e91_264 : X := (Q (.p .keq [(.v 5), (.s w10)]) (.b true) e91_263)
@[simp] def e91_265 : X := (Q (.p .keq [(.v 5), (.s w9)]) (.b true) e91_264)
@[simp] def e91_266 : X := (Q (.p .keq [(.v 5), (.s w8)]) (.b true) e91_265)
@[simp] def e91_267 : X := (Q (.p .keq [(.v 5), (.s w7)]) (.b true) e91_266)
@[simp] def e91_268 : X := (Q (.p .keq [(.v 5), (.s w6)]) (.b true) e91_267)
@[simp] def e91_269 : X := (Q (.p .keq [(.v 5), (.s w5)]) (.b true) e91_268)
@[simp] def e91_270 : X := (Q (.p .keq [(.v 5), (.s w4)]) (.b true) e91_269)
@[simp] def e91_271 : X := (Q (.p .keq [(.v 5), (.s w12)]) e91_1 (.b true))
@[simp] def e91_272 : X := (Q (.p .keq [(.v 5), (.s w11)]) (.b true) e91_271)
@[simp] def e91_273 : X := (Q (.p .keq [(.v 5), (.s w10)]) (.b true) e91_272)
@[simp] def e91_274 : X := (Q (.p .keq [(.v 5), (.s w9)]) (.b true) e91_273)
@[simp] def e91_275 : X := (Q (.p .keq [(.v 5), (.s w8)]) (.b true) e91_274)
@[simp] def e91_276 : X := (Q (.p .keq [(.v 5), (.s w7)]) (.b true) e91_275)
@[simp] def e91_277 : X := (Q (.p .keq [(.v 5), (.s w6)]) (.b true) e91_276)
@[simp] def e91_278 : X := (Q (.p .keq [(.v 5), (.s w5)]) (.b true) e91_277)
@[simp] def e91_279 : X := (Q (.p .keq [(.v 5), (.s w4)]) (.b true) e91_278)
@[simp] def e91_280 : X := (Q (.p .keq [(.v 5), (.s w12)]) e91_4 (.b true))
@[simp] def e91_281 : X := (Q (.p .keq [(.v 5), (.s w11)]) (.b true) e91_280)
@[simp] def e91_282 : X := (Q (.p .keq [(.v 5), (.s w10)]) (.b true) e91_281)
@[simp] def e91_283 : X := (Q (.p .keq [(.v 5), (.s w9)]) (.b true) e91_282)
@[simp] def e91_284 : X := (Q (.p .keq [(.v 5), (.s w8)]) (.b true) e91_283)
@[simp] def e91_285 : X := (Q (.p .keq [(.v 5), (.s w7)]) (.b true) e91_284)
@[simp] def e91_286 : X := (Q (.p .keq [(.v 5), (.s w6)]) (.b true) e91_285)
@[simp] def e91_287 : X := (Q (.p .keq [(.v 5), (.s w5)]) (.b true) e91_286)
@[simp] def e91_288 : X := (Q (.p .keq [(.v 5), (.s w4)]) (.b true) e91_287)
@[simp] def e91_289 : X := (Q (.p .keq [(.v 5), (.s w12)]) e91_7 (.b true))
@[simp] def e91_290 : X := (Q (.p .keq [(.v 5), (.s w11)]) (.b true) e91_289)
@[simp] def e91_291 : X := (Q (.p .keq [(.v 5), (.s w10)]) (.b true) e91_290)
@[simp] def e91_292 : X := (Q (.p .keq [(.v 5), (.s w9)]) (.b true) e91_291)
@[simp] def e91_293 : X := (Q (.p .keq [(.v 5), (.s w8)]) (.b true) e91_292)
@[simp] def e91_294 : X := (Q (.p .keq [(.v 5), (.s w7)]) (.b true) e91_293)
@[simp] def e91_295 : X := (Q (.p .keq [(.v 5), (.s w6)]) (.b true) e91_294)
@[simp] def e91_296 : X := (Q (.p .keq [(.v 5), (.s w5)]) (.b true) e91_295)
@[simp] def e91_297 : X := (Q (.p .keq [(.v 5), (.s w4)]) (.b true) e91_296)
@[simp] def e91_298 : X := (Q (.p .keq [(.v 5), (.s w12)]) e91_10 (.b true))
@[simp] def e91_299 : X := (Q (.p .keq [(.v 5), (.s w11)]) (.b true) e91_298)
@[simp] def e91_300 : X := (Q (.p .keq [(.v 5), (.s w10)]) (.b true) e91_299)
@[simp] def e91_301 : X := (Q (.p .keq [(.v 5), (.s w9)]) (.b true) e91_300)
@[simp] def e91_302 : X := (Q (.p .keq [(.v 5), (.s w8)]) (.b true) e91_301)
@[simp] def e91_303 : X := (Q (.p .keq [(.v 5), (.s w7)]) (.b true) e91_302)
@[simp] def e91_304 : X := (Q (.p .keq [(.v 5), (.s w6)]) (.b true) e91_303)
@[simp] def e91_305 : X := (Q (.p .keq [(.v 5), (.s w5)]) (.b true) e91_304)
@[simp] def e91_306 : X := (Q (.p .keq [(.v 5), (.s w4)]) (.b true) e91_305)
@[simp] def e91_307 : X := (Q (.p .keq [(.v 5), (.s w12)]) e91_13 (.b true))
@[simp] def e91_308 : X := (Q (.p .keq [(.v 5), (.s w11)]) (.b true) e91_307)
@[simp] def e91_309 : X := (Q (.p .keq [(.v 5), (.s w10)]) (.b true) e91_308)
@[simp] def e91_310 : X := (Q (.p .keq [(.v 5), (.s w9)]) (.b true) e91_309)
@[simp] def e91_311 : X := (Q (.p .keq [(.v 5), (.s w8)]) (.b true) e91_310)
@[simp] def e91_312 : X := (Q (.p .keq [(.v 5), (.s w7)]) (.b true) e91_311)
@[simp] def e91_313 : X := (Q (.p .keq [(.v 5), (.s w6)]) (.b true) e91_312)
@[simp] def e91_314 : X := (Q (.p .keq [(.v 5), (.s w5)]) (.b true) e91_313)
@[simp] def e91_315 : X := (Q (.p .keq [(.v 5), (.s w4)]) (.b true) e91_314)
@[simp] def e91_316 : X := (Q (.p .keq [(.v 5), (.s w12)]) e91_51 (.b true))
@[simp] def e91_317 : X := (Q (.p .keq [(.v 5), (.s w11)]) (.b true) e91_316)
@[simp] def e91_318 : X := (Q (.p .keq [(.v 5), (.s w10)]) (.b true) e91_317)
@[simp] def e91_319 : X := (Q (.p .keq [(.v 5), (.s w9)]) (.b true) e91_318)
@[simp] def e91_320 : X := (Q (.p .keq [(.v 5), (.s w8)]) (.b true) e91_319)
@[simp] def e91_321 : X := (Q (.p .keq [(.v 5), (.s w7)]) (.b true) e91_320)
@[simp] def e91_322 : X := (Q (.p .keq [(.v 5), (.s w6)]) (.b true) e91_321)
@[simp] def e91_323 : X := (Q (.p .keq [(.v 5), (.s w5)]) (.b true) e91_322)
@[simp] def e91_324 : X := (Q (.p .keq [(.v 5), (.s w4)]) (.b true) e91_323)
@[simp] def e91_325 : X := (Q (.p .keq [(.v 5), (.s w12)]) e91_57 (.b true))
@[simp] def e91_326 : X := (Q (.p .keq [(.v 5), (.s w11)]) (.b true) e91_325)
@[simp] def e91_327 : X := (Q (.p .keq [(.v 5), (.s w10)]) (.b true) e91_326)
@[simp] def e91_328 : X := (Q (.p .keq [(.v 5), (.s w9)]) (.b true) e91_327)
@[simp] def e91_329 : X := (Q (.p .keq [(.v 5), (.s w8)]) (.b true) e91_328)
@[simp] def e91_330 : X := (Q (.p .keq [(.v 5), (.s w7)]) (.b true) e91_329)
@[simp] def e91_331 : X := (Q (.p .keq [(.v 5), (.s w6)]) (.b true) e91_330)
@[simp] def e91_332 : X := (Q (.p .keq [(.v 5), (.s w5)]) (.b true) e91_331)
@[simp] def e91_333 : X := (Q (.p .keq [(.v 5), (.s w4)]) (.b true) e91_332)
@[simp] def e91_334 : X := (Q (.p .keq [(.v 5), (.s w13)]) e91_1 (.b true))
@[simp] def e91_335 : X := (Q (.p .keq [(.v 5), (.s w12)]) (.b true) e91_334)
@[simp] def e91_336 : X := (Q (.p .keq [(.v 5), (.s w11)]) (.b true) e91_335)
@[simp] def e91_337 : X := (Q (.p .keq [(.v 5), (.s w10)]) (.b true) e91_336)
@[simp] def e91_338 : X := (Q (.p .keq [(.v 5), (.s w9)]) (.b true) e91_337)
@[simp] def e91_339 : X := (Q (.p .keq [(.v 5), (.s w8)]) (.b true) e91_338)
@[simp] def e91_340 : X := (Q (.p .keq [(.v 5), (.s w7)]) (.b true) e91_339)
@[simp] def e91_341 : X := (Q (.p .keq [(.v 5), (.s w6)]) (.b true) e91_340)
@[simp] def e91_342 : X := (Q (.p .keq [(.v 5), (.s w5)]) (.b true) e91_341)
@[simp] def e91_343 : X := (Q (.p .keq [(.v 5), (.s w4)]) (.b true) e91_342)
@[simp] def e91_344 : X := (Q (.p .keq [(.v 5), (.s w13)]) e91_4 (.b true))
@[simp] def e91_345 : X := (Q (.p .keq [(.v 5), (.s w12)]) (.b true) e91_344)
@[simp] def e91_346 : X := (Q (.p .keq [(.v 5), (.s w11)]) (.b true) e91_345)
@[simp] def e91_347 : X := (Q (.p .keq [(.v 5), (.s w10)]) (.b true) e91_346)
@[simp] def e91_348 : X := (Q (.p .keq [(.v 5), (.s w9)]) (.b true) e91_347)
@[simp] def e91_349 : X := (Q (.p .keq [(.v 5), (.s w8)]) (.b true) e91_348)
@[simp] def e91_350 : X := (Q (.p .keq [(.v 5), (.s w7)]) (.b true) e91_349)
@[simp] def e91_351 : X := (Q (.p .keq [(.v 5), (.s w6)]) (.b true) e91_350)
@[simp] def e91_352 : X := (Q (.p .keq [(.v 5), (.s w5)]) (.b true) e91_351)
@[simp] def e91_353 : X := (Q (.p .keq [(.v 5), (.s w4)]) (.b true) e91_352)
@[simp] def e91_354 : X := (Q (.p .keq [(.v 5), (.s w13)]) e91_7 (.b true))
@[simp] def e91_355 : X := (Q (.p .keq [(.v 5), (.s w12)]) (.b true) e91_354)
@[simp] def e91_356 : X := (Q (.p .keq [(.v 5), (.s w11)]) (.b true) e91_355)
@[simp] def e91_357 : X := (Q (.p .keq [(.v 5), (.s w10)]) (.b true) e91_356)
@[simp] def e91_358 : X := (Q (.p .keq [(.v 5), (.s w9)]) (.b true) e91_357)
@[simp] def e91_359 : X := (Q (.p .keq [(.v 5), (.s w8)]) (.b true) e91_358)
@[simp] def e91_360 : X := (Q (.p .keq [(.v 5), (.s w7)]) (.b true) e91_359)
@[simp] def e91_361 : X := (Q (.p .keq [(.v 5), (.s w6)]) (.b true) e91_360)
@[simp] def e91_362 : X := (Q (.p .keq [(.v 5), (.s w5)]) (.b true) e91_361)
@[simp] def e91_363 : X := (Q (.p .keq [(.v 5), (.s w4)]) (.b true) e91_362)
@[simp] def e91_364 : X := (Q (.p .keq [(.v 5), (.s w13)]) e91_10 (.b true))
@[simp] def e91_365 : X := (Q (.p .keq [(.v 5), (.s w12)]) (.b true) e91_364)
@[simp] def e91_366 : X := (Q (.p .keq [(.v 5), (.s w11)]) (.b true) e91_365)
@[simp] def e91_367 : X := (Q (.p .keq [(.v 5), (.s w10)]) (.b true) e91_366)
@[simp] def e91_368 : X := (Q (.p .keq [(.v 5), (.s w9)]) (.b true) e91_367)
@[simp] def e91_369 : X := (Q (.p .keq [(.v 5), (.s w8)]) (.b true) e91_368)
@[simp] def e91_370 : X := (Q (.p .keq [(.v 5), (.s w7)]) (.b true) e91_369)
@[simp] def e91_371 : X := (Q (.p .keq [(.v 5), (.s w6)]) (.b true) e91_370)
@[simp] def e91_372 : X := (Q (.p .keq [(.v 5), (.s w5)]) (.b true) e91_371)
@[simp] def e91_373 : X := (Q (.p .keq [(.v 5), (.s w4)]) (.b true) e91_372)
@[simp] def e91_374 : X := (Q (.p .keq [(.v 5), (.s w13)]) e91_13 (.b true))
@[simp] def e91_375 : X := (Q (.p .keq [(.v 5), (.s w12)]) (.b true) e91_374)
@[simp] def e91_376 : X := (Q (.p .keq [(.v 5), (.s w11)]) (.b true) e91_375)
@[simp] def e91_377 : X := (Q (.p .keq [(.v 5), (.s w10)]) (.b true) e91_376)
@[simp] def e91_378 : X := (Q (.p .keq [(.v 5), (.s w9)]) (.b true) e91_377)
@[simp] def e91_379 : X := (Q (.p .keq [(.v 5), (.s w8)]) (.b true) e91_378)
@[simp] def e91_380 : X := (Q (.p .keq [(.v 5), (.s w7)]) (.b true) e91_379)
@[simp] def e91_381 : X := (Q (.p .keq [(.v 5), (.s w6)]) (.b true) e91_380)
@[simp] def e91_382 : X := (Q (.p .keq [(.v 5), (.s w5)]) (.b true) e91_381)
@[simp] def e91_383 : X := (Q (.p .keq [(.v 5), (.s w4)]) (.b true) e91_382)
@[simp] def e91_384 : X := (Q (.p .keq [(.v 5), (.s w13)]) e91_15 (.b true))
@[simp] def e91_385 : X := (Q (.p .keq [(.v 5), (.s w12)]) (.b true) e91_384)
@[simp] def e91_386 : X := (Q (.p .keq [(.v 5), (.s w11)]) (.b true) e91_385)
@[simp] def e91_387 : X := (Q (.p .keq [(.v 5), (.s w10)]) (.b true) e91_386)
@[simp] def e91_388 : X := (Q (.p .keq [(.v 5), (.s w9)]) (.b true) e91_387)
@[simp] def e91_389 : X := (Q (.p .keq [(.v 5), (.s w8)]) (.b true) e91_388)
@[simp] def e91_390 : X := (Q (.p .keq [(.v 5), (.s w7)]) (.b true) e91_389)
@[simp] def e91_391 : X := (Q (.p .keq [(.v 5), (.s w6)]) (.b true) e91_390)
@[simp] def e91_392 : X := (Q (.p .keq [(.v 5), (.s w5)]) (.b true) e91_391)
@[simp] def e91_393 : X := (Q (.p .keq [(.v 5), (.s w4)]) (.b true) e91_392)
@[simp] def e91_394 : X := (Q (.p .keq [(.v 5), (.s w13)]) e91_19 (.b true))
@[simp] def e91_395 : X := (Q (.p .keq [(.v 5), (.s w12)]) (.b true) e91_394)
@[simp] def e91_396 : X := (Q (.p .keq [(.v 5), (.s w11)]) (.b true) e91_395)
@[simp] def e91_397 : X := (Q (.p .keq [(.v 5), (.s w10)]) (.b true) e91_396)
@[simp] def e91_398 : X := (Q (.p .keq [(.v 5), (.s w9)]) (.b true) e91_397)
@[simp] def e91_399 : X := (Q (.p .keq [(.v 5), (.s w8)]) (.b true) e91_398)
@[simp] def e91_400 : X := (Q (.p .keq [(.v 5), (.s w7)]) (.b true) e91_399)
@[simp] def e91_401 : X := (Q (.p .keq [(.v 5), (.s w6)]) (.b true) e91_400)
@[simp] def e91_402 : X := (Q (.p .keq [(.v 5), (.s w5)]) (.b true) e91_401)
@[simp] def e91_403 : X := (Q (.p .keq [(.v 5), (.s w4)]) (.b true) e91_402)
@[simp] def e91_404 : X := (Q (.p .keq [(.v 5), (.s w14)]) e91_1 (.b true))
@[simp] def e91_405 : X := (Q (.p .keq [(.v 5), (.s w13)]) (.b true) e91_404)
@[simp] def e91_406 : X := (Q (.p .keq [(.v 5), (.s w12)]) (.b true) e91_405)
@[simp] def e91_407 : X := (Q (.p .keq [(.v 5), (.s w11)]) (.b true) e91_406)
@[simp] def e91_408 : X := (Q (.p .keq [(.v 5), (.s w10)]) (.b true) e91_407)
@[simp] def e91_409 : X := (Q (.p .keq [(.v 5), (.s w9)]) (.b true) e91_408)
@[simp] def e91_410 : X := (Q (.p .keq [(.v 5), (.s w8)]) (.b true) e91_409)
@[simp] def e91_411 : X := (Q (.p .keq [(.v 5), (.s w7)]) (.b true) e91_410)
@[simp] def e91_412 : X := (Q (.p .keq [(.v 5), (.s w6)]) (.b true) e91_411)
@[simp] def e91_413 : X := (Q (.p .keq [(.v 5), (.s w5)]) (.b true) e91_412)
@[simp] def e91_414 : X := (Q (.p .keq [(.v 5), (.s w4)]) (.b true) e91_413)
@[simp] def e91_415 : X := (Q (.p .keq [(.v 5), (.s w14)]) e91_4 (.b true))
@[simp] def e91_416 : X := (Q (.p .keq [(.v 5), (.s w13)]) (.b true) e91_415)
@[simp] def e91_417 : X := (Q (.p .keq [(.v 5), (.s w12)]) (.b true) e91_416)
@[simp] def e91_418 : X := (Q (.p .keq [(.v 5), (.s w11)]) (.b true) e91_417)
@[simp] def e91_419 : X := (Q (.p .keq [(.v 5), (.s w10)]) (.b true) e91_418)
@[simp] def e91_420 : X := (Q (.p .keq [(.v 5), (.s w9)]) (.b true) e91_419)
@[simp] def e91_421 : X := (Q (.p .keq [(.v 5), (.s w8)]) (.b true) e91_420)
@[simp] def e91_422 : X := (Q (.p .keq [(.v 5), (.s w7)]) (.b true) e91_421)
@[simp] def e91_423 : X := (Q (.p .keq [(.v 5), (.s w6)]) (.b true) e91_422)
@[simp] def e91_424 : X := (Q (.p .keq [(.v 5), (.s w5)]) (.b true) e91_423)
@[simp] def e91_425 : X := (Q (.p .keq [(.v 5), (.s w4)]) (.b true) e91_424)
@[simp] def e91_426 : X := (Q (.p .keq [(.v 5), (.s w14)]) e91_7 (.b true))
@[simp] def e91_427 : X := (Q (.p .keq [(.v 5), (.s w13)]) (.b true) e91_426)
@[simp] def e91_428 : X := (Q (.p .keq [(.v 5), (.s w12)]) (.b true) e91_427)
@[simp] def e91_429 : X := (Q (.p .keq [(.v 5), (.s w11)]) (.b true) e91_428)
@[simp] def e91_430 : X := (Q (.p .keq [(.v 5), (.s w10)]) (.b true) e91_429)
@[simp] def e91_431 : X := (Q (.p .keq [(.v 5), (.s w9)]) (.b true) e91_430)
@[simp] def e91_432 : X := (Q (.p .keq [(.v 5), (.s w8)]) (.b true) e91_431)
@[simp] def e91_433 : X := (Q (.p .keq [(.v 5), (.s w7)]) (.b true) e91_432)
@[simp] def e91_434 : X := (Q (.p .keq [(.v 5), (.s w6)]) (.b true) e91_433)
@[simp] def e91_435 : X := (Q (.p .keq [(.v 5), (.s w5)]) (.b true) e91_434)
@[simp] def e91_436 : X := (Q (.p .keq [(.v 5), (.s w4)]) (.b true) e91_435)
@[simp] def e91_437 : X := (Q (.p .keq [(.v 5), (.s w14)]) e91_10 (.b true))
@[simp] def e91_438 : X := (Q (.p .keq [(.v 5), (.s w13)]) (.b true) e91_437)
@[simp] def e91_439 : X := (Q (.p .keq [(.v 5), (.s w12)]) (.b true) e91_438)
@[simp] def e91_440 : X := (Q (.p .keq [(.v 5), (.s w11)]) (.b true) e91_439)
@[simp] def e91_441 : X := (Q (.p .keq [(.v 5), (.s w10)]) (.b true) e91_440)
@[simp] def e91_442 : X := (Q (.p .keq [(.v 5), (.s w9)]) (.b true) e91_441)
@[simp] def e91_443 : X := (Q (.p .keq [(.v 5), (.s w8)]) (.b true) e91_442)
@[simp] def e91_444 : X := (Q (.p .keq [(.v 5), (.s w7)]) (.b true) e91_443)
@[simp] def e91_445 : X := (Q (.p .keq [(.v 5), (.s w6)]) (.b true) e91_444)
@[simp] def e91_446 : X := (Q (.p .keq [(.v 5), (.s w5)]) (.b true) e91_445)
@[simp] def e91_447 : X := (Q (.p .keq [(.v 5), (.s w4)]) (.b true) e91_446)
@[simp] def e91_448 : X := (Q (.p .keq [(.v 5), (.s w14)]) e91_13 (.b true))
@[simp] def e91_449 : X := (Q (.p .keq [(.v 5), (.s w13)]) (.b true) e91_448)
@[simp] def e91_450 : X := (Q (.p .keq [(.v 5), (.s w12)]) (.b true) e91_449)
@[simp] def e91_451 : X := (Q (.p .keq [(.v 5), (.s w11)]) (.b true) e91_450)
@[simp] def e91_452 : X := (Q (.p .keq [(.v 5), (.s w10)]) (.b true) e91_451)
@[simp] def e91_453 : X := (Q (.p .keq [(.v 5), (.s w9)]) (.b true) e91_452)
@[simp] def e91_454 : X := (Q (.p .keq [(.v 5), (.s w8)]) (.b true) e91_453)
@[simp] def e91_455 : X := (Q (.p .keq [(.v 5), (.s w7)]) (.b true) e91_454)
@[simp] def e91_456 : X := (Q (.p .keq [(.v 5), (.s w6)]) (.b true) e91_455)
@[simp] def e91_457 : X := (Q (.p .keq [(.v 5), (.s w5)]) (.b true) e91_456)
@[simp] def e91_458 : X := (Q (.p .keq [(.v 5), (.s w4)]) (.b true) e91_457)
@[simp] def e91_459 : X := (Q (.p .keq [(.v 5), (.s w14)]) e91_51 (.b true))
@[simp] def e91_460 : X := (Q (.p .keq [(.v 5), (.s w13)]) (.b true) e91_459)
@[simp] def e91_461 : X := (Q (.p .keq [(.v 5), (.s w12)]) (.b true) e91_460)
@[simp] def e91_462 : X := (Q (.p .keq [(.v 5), (.s w11)]) (.b true) e91_461)
@[simp] def e91_463 : X := (Q (.p .keq [(.v 5), (.s w10)]) (.b true) e91_462)
@[simp] def e91_464 : X := (Q (.p .keq [(.v 5), (.s w9)]) (.b true) e91_463)
@[simp] def e91_465 : X := (Q (.p .keq [(.v 5), (.s w8)]) (.b true) e91_464)
@[simp] def e91_466 : X := (Q (.p .keq [(.v 5), (.s w7)]) (.b true) e91_465)
@[simp] def e91_467 : X := (Q (.p .keq [(.v 5), (.s w6)]) (.b true) e91_466)
@[simp] def e91_468 : X := (Q (.p .keq [(.v 5), (.s w5)]) (.b true) e91_467)
@[simp] def e91_469 : X := (Q (.p .keq [(.v 5), (.s w4)]) (.b true) e91_468)
@[simp] def e91_470 : X := (Q (.p .keq [(.v 5), (.s w14)]) e91_57 (.b true))
@[simp] def e91_471 : X := (Q (.p .keq [(.v 5), (.s w13)]) (.b true) e91_470)
@[simp] def e91_472 : X := (Q (.p .keq [(.v 5), (.s w12)]) (.b true) e91_471)
@[simp] def e91_473 : X := (Q (.p .keq [(.v 5), (.s w11)]) (.b true) e91_472)
@[simp] def e91_474 : X := (Q (.p .keq [(.v 5), (.s w10)]) (.b true) e91_473)
@[simp] def e91_475 : X := (Q (.p .keq [(.v 5), (.s w9)]) (.b true) e91_474)
@[simp] def e91_476 : X := (Q (.p .keq [(.v 5), (.s w8)]) (.b true) e91_475)
@[simp] def e91_477 : X := (Q (.p .keq [(.v 5), (.s w7)]) (.b true) e91_476)
@[simp] def e91_478 : X := (Q (.p .keq [(.v 5), (.s w6)]) (.b true) e91_477)
@[simp] def e91_479 : X := (Q (.p .keq [(.v 5), (.s w5)]) (.b true) e91_478)
@[simp] def e91_480 : X := (Q (.p .keq [(.v 5), (.s w4)]) (.b true) e91_479)
@[simp] def e91_481 : X := (Q (.p .keq [(.v 5), (.s w15)]) e91_1 (.b true))
@[simp] def e91_482 : X := (Q (.p .keq [(.v 5), (.s w14)]) (.b true) e91_481)
@[simp] def e91_483 : X := (Q (.p .keq [(.v 5), (.s w13)]) (.b true) e91_482)
@[simp] def e91_484 : X := (Q (.p .keq [(.v 5), (.s w12)]) (.b true) e91_483)
@[simp] def e91_485 : X := (Q (.p .keq [(.v 5), (.s w11)]) (.b true) e91_484)
@[simp] def e91_486 : X := (Q (.p .keq [(.v 5), (.s w10)]) (.b true) e91_485)
@[simp] def e91_487 : X := (Q (.p .keq [(.v 5), (.s w9)]) (.b true) e91_486)
@[simp] def e91_488 : X := (Q (.p .keq [(.v 5), (.s w8)]) (.b true) e91_487)
@[simp] def e91_489 : X := (Q (.p .keq [(.v 5), (.s w7)]) (.b true) e91_488)
@[simp] def e91_490 : X := (Q (.p .keq [(.v 5), (.s w6)]) (.b true) e91_489)
@[simp] def e91_491 : X := (Q (.p .keq [(.v 5), (.s w5)]) (.b true) e91_490)
@[simp] def e91_492 : X := (Q (.p .keq [(.v 5), (.s w4)]) (.b true) e91_491)
@[simp] def e91_493 : X := (Q (.p .keq [(.v 5), (.s w15)]) e91_4 (.b true))
@[simp] def e91_494 : X := (Q (.p .keq [(.v 5), (.s w14)]) (.b true) e91_493)
@[simp] def e91_495 : X := (Q (.p .keq [(.v 5), (.s w13)]) (.b true) e91_494)
@[simp] def e91_496 : X := (Q (.p .keq [(.v 5), (.s w12)]) (.b true) e91_495)
@[simp] def e91_497 : X := (Q (.p .keq [(.v 5), (.s w11)]) (.b true) e91_496)
@[simp] def e91_498 : X := (Q (.p .keq [(.v 5), (.s w10)]) (.b true) e91_497)
@[simp] def e91_499 : X := (Q (.p .keq [(.v 5), (.s w9)]) (.b true) e91_498)
@[simp] def e91_500 : X := (Q (.p .keq [(.v 5), (.s w8)]) (.b true) e91_499)
@[simp] def e91_501 : X := (Q (.p .keq [(.v 5), (.s w7)]) (.b true) e91_500)
@[simp] def e91_502 : X := (Q (.p .keq [(.v 5), (.s w6)]) (.b true) e91_501)
@[simp] def e91_503 : X := (Q (.p .keq [(.v 5), (.s w5)]) (.b true) e91_502)
@[simp] def e91_504 : X := (Q (.p .keq [(.v 5), (.s w4)]) (.b true) e91_503)
@[simp] def e91_505 : X := (Q (.p .keq [(.v 5), (.s w15)]) e91_7 (.b true))
@[simp] def e91_506 : X := (Q (.p .keq [(.v 5), (.s w14)]) (.b true) e91_505)
@[simp] def e91_507 : X := (Q (.p .keq [(.v 5), (.s w13)]) (.b true) e91_506)
@[simp] def e91_508 : X := (Q (.p .keq [(.v 5), (.s w12)]) (.b true) e91_507)
@[simp] def e91_509 : X := (Q (.p .keq [(.v 5), (.s w11)]) (.b true) e91_508)
@[simp] def e91_510 : X := (Q (.p .keq [(.v 5), (.s w10)]) (.b true) e91_509)
@[simp] def e91_511 : X := (Q (.p .keq [(.v 5), (.s w9)]) (.b true) e91_510)
@[simp] def e91_512 : X := (Q (.p .keq [(.v 5), (.s w8)]) (.b true) e91_511)
@[simp] def e91_513 : X := (Q (.p .keq [(.v 5), (.s w7)]) (.b true) e91_512)
@[simp] def e91_514 : X := (Q (.p .keq [(.v 5), (.s w6)]) (.b true) e91_513)
@[simp] def e91_515 : X := (Q (.p .keq [(.v 5), (.s w5)]) (.b true) e91_514)
@[simp] def e91_516 : X := (Q (.p .keq [(.v 5), (.s w4)]) (.b true) e91_515)
@[simp] def e91_517 : X := (Q (.p .keq [(.v 5), (.s w15)]) e91_10 (.b true))
@[simp] def e91_518 : X := (Q (.p .keq [(.v 5), (.s w14)]) (.b true) e91_517)
@[simp] def e91_519 : X := (Q (.p .keq [(.v 5), (.s w13)]) (.b true) e91_518)
@[simp] def e91_520 : X := (Q (.p .keq [(.v 5), (.s w12)]) (.b true) e91_519)
@[simp] def e91_521 : X := (Q (.p .keq [(.v 5), (.s w11)]) (.b true) e91_520)
@[simp] def e91_522 : X := (Q (.p .keq [(.v 5), (.s w10)]) (.b true) e91_521)
@[simp] def e91_523 : X := (Q (.p .keq [(.v 5), (.s w9)]) (.b true) e91_522)
@[simp] def e91_524 : X := (Q (.p .keq [(.v 5), (.s w8)]) (.b true) e91_523)
@[simp] def e91_525 : X := (Q (.p .keq [(.v 5), (.s w7)]) (.b true) e91_524)
@[simp] def e91_526 : X := (Q (.p .keq [(.v 5), (.s w6)]) (.b true) e91_525)
@[simp] def e91_527 : X := (Q (.p .keq [(.v 5), (.s w5)]) (.b true) e91_526)
@[simp] def e91_528 : X := (Q (.p .keq [(.v 5), (.s w4)]) (.b true) e91_527)
@[simp] def e91_529 : X := (Q (.p .keq [(.v 5), (.s w15)]) e91_13 (.b true))
@[simp] def e91_530 : X := (Q (.p .keq [(.v 5), (.s w14)]) (.b true) e91_529)
@[simp] def e91_531 : X := (Q (.p .keq [(.v 5), (.s w13)]) (.b true) e91_530)
@[simp] def e91_532 : X := (Q (.p .keq [(.v 5), (.s w12)]) (.b true) e91_531)
@[simp] def e91_533 : X := (Q (.p .keq [(.v 5), (.s w11)]) (.b true) e91_532)
@[simp] def e91_534 : X := (Q (.p .keq [(.v 5), (.s w10)]) (.b true) e91_533)
@[simp] def e91_535 : X := (Q (.p .keq [(.v 5), (.s w9)]) (.b true) e91_534)
@[simp] def e91_536 : X := (Q (.p .keq [(.v 5), (.s w8)]) (.b true) e91_535)
@[simp] def e91_537 : X := (Q (.p .keq [(.v 5), (.s w7)]) (.b true) e91_536)
@[simp] def e91_538 : X := (Q (.p .keq [(.v 5), (.s w6)]) (.b true) e91_537)
@[simp] def e91_539 : X := (Q (.p .keq [(.v 5), (.s w5)]) (.b true) e91_538)
@[simp] def e91_540 : X := (Q (.p .keq [(.v 5), (.s w4)]) (.b true) e91_539)
@[simp] def e91_541 : X := (Q (.p .keq [(.v 5), (.s w15)]) e91_51 (.b true))
@[simp] def e91_542 : X := (Q (.p .keq [(.v 5), (.s w14)]) (.b true) e91_541)
@[simp] def e91_543 : X := (Q (.p .keq [(.v 5), (.s w13)]) (.b true) e91_542)
@[simp] def e91_544 : X := (Q (.p .keq [(.v 5), (.s w12)]) (.b true) e91_543)
@[simp] def e91_545 : X := (Q (.p .keq [(.v 5), (.s w11)]) (.b true) e91_544)
@[simp] def e91_546 : X := (Q (.p .keq [(.v 5), (.s w10)]) (.b true) e91_545)
@[simp] def e91_547 : X := (Q (.p .keq [(.v 5), (.s w9)]) (.b true) e91_546)
@[simp] def e91_548 : X := (Q (.p .keq [(.v 5), (.s w8)]) (.b true) e91_547)
@[simp] def e91_549 : X := (Q (.p .keq [(.v 5), (.s w7)]) (.b true) e91_548)
@[simp] def e91_550 : X := (Q (.p .keq [(.v 5), (.s w6)]) (.b true) e91_549)
@[simp] def e91_551 : X := (Q (.p .keq [(.v 5), (.s w5)]) (.b true) e91_550)
@[simp] def e91_552 : X := (Q (.p .keq [(.v 5), (.s w4)]) (.b true) e91_551)
@[simp] def e91_553 : X := (Q (.p .keq [(.v 5), (.s w15)]) e91_57 (.b true))
@[simp] def e91_554 : X := (Q (.p .keq [(.v 5), (.s w14)]) (.b true) e91_553)
@[simp] def e91_555 : X := (Q (.p .keq [(.v 5), (.s w13)]) (.b true) e91_554)
@[simp] def e91_556 : X := (Q (.p .keq [(.v 5), (.s w12)]) (.b true) e91_555)
@[simp] def e91_557 : X := (Q (.p .keq [(.v 5), (.s w11)]) (.b true) e91_556)
@[simp] def e91_558 : X := (Q (.p .keq [(.v 5), (.s w10)]) (.b true) e91_557)
@[simp] def e91_559 : X := (Q (.p .keq [(.v 5), (.s w9)]) (.b true) e91_558)
@[simp] def e91_560 : X := (Q (.p .keq [(.v 5), (.s w8)]) (.b true) e91_559)
@[simp] def e91_561 : X := (Q (.p .keq [(.v 5), (.s w7)]) (.b true) e91_560)
@[simp] def e91_562 : X := (Q (.p .keq [(.v 5), (.s w6)]) (.b true) e91_561)
@[simp] def e91_563 : X := (Q (.p .keq [(.v 5), (.s w5)]) (.b true) e91_562)
@[simp] def e91_564 : X := (Q (.p .keq [(.v 5), (.s w4)]) (.b true) e91_563)
@[simp] def e91_565 : X := (Q (.p .keq [(.v 5), (.s w16)]) e91_1 (.b true))
@[simp] def e91_566 : X := (Q (.p .keq [(.v 5), (.s w15)]) (.b true) e91_565)
@[simp] def e91_567 : X := (Q (.p .keq [(.v 5), (.s w14)]) (.b true) e91_566)
@[simp] def e91_568 : X := (Q (.p .keq [(.v 5), (.s w13)]) (.b true) e91_567)
@[simp] def e91_569 : X := (Q (.p .keq [(.v 5), (.s w12)]) (.b true) e91_568)
@[simp] def e91_570 : X := (Q (.p .keq [(.v 5), (.s w11)]) (.b true) e91_569)
@[simp] def e91_571 : X := (Q (.p .keq [(.v 5), (.s w10)]) (.b true) e91_570)
@[simp] def e91_572 : X := (Q (.p .keq [(.v 5), (.s w9)]) (.b true) e91_571)
@[simp] def e91_573 : X := (Q (.p .keq [(.v 5), (.s w8)]) (.b true) e91_572)
@[simp] def e91_574 : X := (Q (.p .keq [(.v 5), (.s w7)]) (.b true) e91_573)
@[simp] def e91_575 : X := (Q (.p .keq [(.v 5), (.s w6)]) (.b true) e91_574)
@[simp] def e91_576 : X := (Q (.p .keq [(.v 5), (.s w5)]) (.b true) e91_575)
@[simp] def e91_577 : X := (Q (.p .keq [(.v 5), (.s w4)]) (.b true) e91_576)
@[simp] def e91_578 : X := (Q (.p .keq [(.v 5), (.s w16)]) e91_4 (.b true))
@[simp] def e91_579 : X := (Q (.p .keq [(.v 5), (.s w15)]) (.b true) e91_578)
@[simp] def e91_580 : X := (Q (.p .keq [(.v 5), (.s w14)]) (.b true) e91_579)
@[simp] def e91_581 : X := (Q (.p .keq [(.v 5), (.s w13)]) (.b true) e91_580)
@[simp] def e91_582 : X := (Q (.p .keq [(.v 5), (.s w12)]) (.b true) e91_581)
@[simp] def e91_583 : X := (Q (.p .keq [(.v 5), (.s w11)]) (.b true) e91_582)
@[simp] def e91_584 : X := (Q (.p .keq [(.v 5), (.s w10)]) (.b true) e91_583)
@[simp] def e91_585 : X := (Q (.p .keq [(.v 5), (.s w9)]) (.b true) e91_584)
@[simp] def e91_586 : X := (Q (.p .keq [(.v 5), (.s w8)]) (.b true) e91_585)
@[simp] def e91_587 : X := (Q (.p .keq [(.v 5), (.s w7)]) (.b true) e91_586)
@[simp] def e91_588 : X := (Q (.p .keq [(.v 5), (.s w6)]) (.b true) e91_587)
@[simp] def e91_589 : X := (Q (.p .keq [(.v 5), (.s w5)]) (.b true) e91_588)
@[simp] def e91_590 : X := (Q (.p .keq [(.v 5), (.s w4)]) (.b true) e91_589)
@[simp] def e91_591 : X := (Q (.p .keq [(.v 5), (.s w16)]) e91_7 (.b true))
@[simp] def e91_592 : X := (Q (.p .keq [(.v 5), (.s w15)]) (.b true) e91_591)
@[simp] def e91_593 : X := (Q (.p .keq [(.v 5), (.s w14)]) (.b true) e91_592)
@[simp] def e91_594 : X := (Q (.p .keq [(.v 5), (.s w13)]) (.b true) e91_593)
@[simp] def e91_595 : X := (Q (.p .keq [(.v 5), (.s w12)]) (.b true) e91_594)
@[simp] def e91_596 : X := (Q (.p .keq [(.v 5), (.s w11)]) (.b true) e91_595)
@[simp] def e91_597 : X := (Q (.p .keq [(.v 5), (.s w10)]) (.b true) e91_596)
@[simp] def e91_598 : X := (Q (.p .keq [(.v 5), (.s w9)]) (.b true) e91_597)
@[simp] def e91_599 : X := (Q (.p .keq [(.v 5), (.s w8)]) (.b true) e91_598)
@[simp] def e91_600 : X := (Q (.p .keq [(.v 5), (.s w7)]) (.b true) e91_599)
@[simp] def e91_601 : X := (Q (.p .keq [(.v 5), (.s w6)]) (.b true) e91_600)
@[simp] def e91_602 : X := (Q (.p .keq [(.v 5), (.s w5)]) (.b true) e91_601)
@[simp] def e91_603 : X := (Q (.p .keq [(.v 5), (.s w4)]) (.b true) e91_602)
@[simp] def e91_604 : X := (Q (.p .keq [(.v 5), (.s w16)]) e91_10 (.b true))
@[simp] def e91_605 : X := (Q (.p .keq [(.v 5), (.s w15)]) (.b true) e91_604)
@[simp] def e91_606 : X := (Q (.p .keq [(.v 5), (.s w14)]) (.b true) e91_605)
@[simp] def e91_607 : X := (Q (.p .keq [(.v 5), (.s w13)]) (.b true) e91_606)
@[simp] def e91_608 : X := (Q (.p .keq [(.v 5), (.s w12)]) (.b true) e91_607)
@[simp] def e91_609 : X := (Q (.p .keq [(.v 5), (.s w11)]) (.b true) e91_608)
@[simp] def e91_610 : X := (Q (.p .keq [(.v 5), (.s w10)]) (.b true) e91_609)
@[simp] def e91_611 : X := (Q (.p .keq [(.v 5), (.s w9)]) (.b true) e91_610)
@[simp] def e91_612 : X := (Q (.p .keq [(.v 5), (.s w8)]) (.b true) e91_611)
@[simp] def e91_613 : X := (Q (.p .keq [(.v 5), (.s w7)]) (.b true) e91_612)
@[simp] def e91_614 : X := (Q (.p .keq [(.v 5), (.s w6)]) (.b true) e91_613)
@[simp] def e91_615 : X := (Q (.p .keq [(.v 5), (.s w5)]) (.b true) e91_614)
@[simp] def e91_616 : X := (Q (.p .keq [(.v 5), (.s w4)]) (.b true) e91_615)
@[simp] def e91_617 : X := (Q (.p .keq [(.v 5), (.s w16)]) e91_13 (.b true))
@[simp] def e91_618 : X := (Q (.p .keq [(.v 5), (.s w15)]) (.b true) e91_617)
@[simp] def e91_619 : X := (Q (.p .keq [(.v 5), (.s w14)]) (.b true) e91_618)
@[simp] def e91_620 : X := (Q (.p .keq [(.v 5), (.s w13)]) (.b true) e91_619)
@[simp] def e91_621 : X := (Q (.p .keq [(.v 5), (.s w12)]) (.b true) e91_620)
@[simp] def e91_622 : X := (Q (.p .keq [(.v 5), (.s w11)]) (.b true) e91_621)
@[simp] def e91_623 : X := (Q (.p .keq [(.v 5), (.s w10)]) (.b true) e91_622)
@[simp] def e91_624 : X := (Q (.p .keq [(.v 5), (.s w9)]) (.b true) e91_623)
@[simp] def e91_625 : X := (Q (.p .keq [(.v 5), (.s w8)]) (.b true) e91_624)
@[simp] def e91_626 : X := (Q (.p .keq [(.v 5), (.s w7)]) (.b true) e91_625)
@[simp] def e91_627 : X := (Q (.p .keq [(.v 5), (.s w6)]) (.b true) e91_626)
@[simp] def e91_628 : X := (Q (.p .keq [(.v 5), (.s w5)]) (.b true) e91_627)
@[simp] def e91_629 : X := (Q (.p .keq [(.v 5), (.s w4)]) (.b true) e91_628)
@[simp] def e91_630 : X := (Q (.p .keq [(.v 5), (.s w16)]) e91_51 (.b true))
@[simp] def e91_631 : X := (Q (.p .keq [(.v 5), (.s w15)]) (.b true) e91_630)
@[simp] def e91_632 : X := (Q (.p .keq [(.v 5), (.s w14)]) (.b true) e91_631)
@[simp] def e91_633 : X := (Q (.p .keq [(.v 5), (.s w13)]) (.b true) e91_632)
@[simp] def e91_634 : X := (Q (.p .keq [(.v 5), (.s w12)]) (.b true) e91_633)
@[simp] def e91_635 : X := (Q (.p .keq [(.v 5), (.s w11)]) (.b true) e91_634)
@[simp] def e91_636 : X := (Q (.p .keq [(.v 5), (.s w10)]) (.b true) e91_635)
@[simp] def e91_637 : X := (Q (.p .keq [(.v 5), (.s w9)]) (.b true) e91_636)
@[simp] def e91_638 : X := (Q (.p .keq [(.v 5), (.s w8)]) (.b true) e91_637)
@[simp] def e91_639 : X := (Q (.p .keq [(.v 5), (.s w7)]) (.b true) e91_638)
@[simp] def e91_640 : X := (Q (.p .keq [(.v 5), (.s w6)]) (.b true) e91_639)
@[simp] def e91_641 : X := (Q (.p .keq [(.v 5), (.s w5)]) (.b true) e91_640)
@[simp] def e91_642 : X := (Q (.p .keq [(.v 5), (.s w4)]) (.b true) e91_641)
@[simp] def e91_643 : X := (Q (.p .keq [(.v 5), (.s w16)]) e91_57 (.b true))
@[simp] def e91_644 : X := (Q (.p .keq [(.v 5), (.s w15)]) (.b true) e91_643)
@[simp] def e91_645 : X := (Q (.p .keq [(.v 5), (.s w14)]) (.b true) e91_644)
@[simp] def e91_646 : X := (Q (.p .keq [(.v 5), (.s w13)]) (.b true) e91_645)
@[simp] def e91_647 : X := (Q (.p .keq [(.v 5), (.s w12)]) (.b true) e91_646)
@[simp] def e91_648 : X := (Q (.p .keq [(.v 5), (.s w11)]) (.b true) e91_647)
@[simp] def e91_649 : X := (Q (.p .keq [(.v 5), (.s w10)]) (.b true) e91_648)
@[simp] def e91_650 : X := (Q (.p .keq [(.v 5), (.s w9)]) (.b true) e91_649)
@[simp] def e91_651 : X := (Q (.p .keq [(.v 5), (.s w8)]) (.b true) e91_650)
@[simp] def e91_652 : X := (Q (.p .keq [(.v 5), (.s w7)]) (.b true) e91_651)
@[simp] def e91_653 : X := (Q (.p .keq [(.v 5), (.s w6)]) (.b true) e91_652)
@[simp] def e91_654 : X := (Q (.p .keq [(.v 5), (.s w5)]) (.b true) e91_653)
@[simp] def e91_655 : X := (Q (.p .keq [(.v 5), (.s w4)]) (.b true) e91_654)
@[simp] def e91_656 : X := (Q (.p .keq [(.v 5), (.s w17)]) e91_1 (.b true))
@[simp] def e91_657 : X := (Q (.p .keq [(.v 5), (.s w16)]) (.b true) e91_656)
@[simp] def e91_658 : X := (Q (.p .keq [(.v 5), (.s w15)]) (.b true) e91_657)
@[simp] def e91_659 : X := (Q (.p .keq [(.v 5), (.s w14)]) (.b true) e91_658)
@[simp] def e91_660 : X := (Q (.p .keq [(.v 5), (.s w13)]) (.b true) e91_659)
@[simp] def e91_661 : X := (Q (.p .keq [(.v 5), (.s w12)]) (.b true) e91_660)
@[simp] def e91_662 : X := (Q (.p .keq [(.v 5), (.s w11)]) (.b true) e91_661)
@[simp] def e91_663 : X := (Q (.p .keq [(.v 5), (.s w10)]) (.b true) e91_662)
@[simp] def e91_664 : X := (Q (.p .keq [(.v 5), (.s w9)]) (.b true) e91_663)
@[simp] def e91_665 : X := (Q (.p .keq [(.v 5), (.s w8)]) (.b true) e91_664)
@[simp] def e91_666 : X := (Q (.p .keq [(.v 5), (.s w7)]) (.b true) e91_665)
@[simp] def e91_667 : X := (Q (.p .keq [(.v 5), (.s w6)]) (.b true) e91_666)
@[simp] def e91_668 : X := (Q (.p .keq [(.v 5), (.s w5)]) (.b true) e91_667)
@[simp] def e91_669 : X := (Q (.p .keq [(.v 5), (.s w4)]) (.b true) e91_668)
@[simp] def e91_670 : X := (Q (.p .keq [(.v 5), (.s w17)]) e91_4 (.b true))
@[simp] def e91_671 : X := (Q (.p .keq [(.v 5), (.s w16)]) (.b true) e91_670)
@[simp] def e91_672 : X := (Q (.p .keq [(.v 5), (.s w15)]) (.b true) e91_671)
@[simp] def e91_673 : X := (Q (.p .keq [(.v 5), (.s w14)]) (.b true) e91_672)
@[simp] def e91_674 : X := (Q (.p .keq [(.v 5), (.s w13)]) (.b true) e91_673)
@[simp] def e91_675 : X := (Q (.p .keq [(.v 5), (.s w12)]) (.b true) e91_674)
@[simp] def e91_676 : X := (Q (.p .keq [(.v 5), (.s w11)]) (.b true) e91_675)
@[simp] def e91_677 : X := (Q (.p .keq [(.v 5), (.s w10)]) (.b true) e91_676)
@[simp] def e91_678 : X := (Q (.p .keq [(.v 5), (.s w9)]) (.b true) e91_677)
@[simp] def e91_679 : X := (Q (.p .keq [(.v 5), (.s w8)]) (.b true) e91_678)
@[simp] def e91_680 : X := (Q (.p .keq [(.v 5), (.s w7)]) (.b true) e91_679)
@[simp] def e91_681 : X := (Q (.p .keq [(.v 5), (.s w6)]) (.b true) e91_680)
@[simp] def e91_682 : X := (Q (.p .keq [(.v 5), (.s w5)]) (.b true) e91_681)
@[simp] def e91_683 : X := (Q (.p .keq [(.v 5), (.s w4)]) (.b true) e91_682)
@[simp] def e91_684 : X := (Q (.p .keq [(.v 5), (.s w17)]) e91_7 (.b true))
@[simp] def e91_685 : X := (Q (.p .keq [(.v 5), (.s w16)]) (.b true) e91_684)
@[simp] def e91_686 : X := (Q (.p .keq [(.v 5), (.s w15)]) (.b true) e91_685)
@[simp] def e91_687 : X := (Q (.p .keq [(.v 5), (.s w14)]) (.b true) e91_686)
@[simp] def e91_688 : X := (Q (.p .keq [(.v 5), (.s w13)]) (.b true) e91_687)
@[simp] def e91_689 : X := (Q (.p .keq [(.v 5), (.s w12)]) (.b true) e91_688)
@[simp] def e91_690 : X := (Q (.p .keq [(.v 5), (.s w11)]) (.b true) e91_689)
@[simp] def e91_691 : X := (Q (.p .keq [(.v 5), (.s w10)]) (.b true) e91_690)
@[simp] def e91_692 : X := (Q (.p .keq [(.v 5), (.s w9)]) (.b true) e91_691)
@[simp] def e91_693 : X := (Q (.p .keq [(.v 5), (.s w8)]) (.b true) e91_692)
@[simp] def e91_694 : X := (Q (.p .keq [(.v 5), (.s w7)]) (.b true) e91_693)
@[simp] def e91_695 : X := (Q (.p .keq [(.v 5), (.s w6)]) (.b true) e91_694)
@[simp] def e91_696 : X := (Q (.p .keq [(.v 5), (.s w5)]) (.b true) e91_695)
@[simp] def e91_697 : X := (Q (.p .keq [(.v 5), (.s w4)]) (.b true) e91_696)
@[simp] def e91_698 : X := (Q (.p .keq [(.v 5), (.s w17)]) e91_10 (.b true))
@[simp] def e91_699 : X := (Q (.p .keq [(.v 5), (.s w16)]) (.b true) e91_698)
@[simp] def e91_700 : X := (Q (.p .keq [(.v 5), (.s w15)]) (.b true) e91_699)
@[simp] def e91_701 : X := (Q (.p .keq [(.v 5), (.s w14)]) (.b true) e91_700)
@[simp] def e91_702 : X := (Q (.p .keq [(.v 5), (.s w13)]) (.b true) e91_701)
@[simp] def e91_703 : X := (Q (.p .keq [(.v 5), (.s w12)]) (.b true) e91_702)
@[simp] def e91_704 : X := (Q (.p .keq [(.v 5), (.s w11)]) (.b true) e91_703)
@[simp] def e91_705 : X := (Q (.p .keq [(.v 5), (.s w10)]) (.b true) e91_704)
@[simp] def e91_706 : X := (Q (.p .keq [(.v 5), (.s w9)]) (.b true) e91_705)
@[simp] def e91_707 : X := (Q (.p .keq [(.v 5), (.s w8)]) (.b true) e91_706)
@[simp] def e91_708 : X := (Q (.p .keq [(.v 5), (.s w7)]) (.b true) e91_707)
@[simp] def e91_709 : X := (Q (.p .keq [(.v 5), (.s w6)]) (.b true) e91_708)
@[simp] def e91_710 : X := (Q (.p .keq [(.v 5), (.s w5)]) (.b true) e91_709)
@[simp] def e91_711 : X := (Q (.p .keq [(.v 5), (.s w4)]) (.b true) e91_710)
@[simp] def e91_712 : X := (Q (.p .keq [(.v 5), (.s w17)]) e91_13 (.b true))
@[simp] def e91_713 : X := (Q (.p .keq [(.v 5), (.s w16)]) (.b true) e91_712)
@[simp] def e91_714 : X := (Q (.p .keq [(.v 5), (.s w15)]) (.b true) e91_713)
@[simp] def e91_715 : X := (Q (.p .keq [(.v 5), (.s w14)]) (.b true) e91_714)
@[simp] def e91_716 : X := (Q (.p .keq [(.v 5), (.s w13)]) (.b true) e91_715)
@[simp] def e91_717 : X := (Q (.p .keq [(.v 5), (.s w12)]) (.b true) e91_716)
@[simp] def e91_718 : X := (Q (.p .keq [(.v 5), (.s w11)]) (.b true) e91_717)
@[simp] def e91_719 : X := (Q (.p .keq [(.v 5), (.s w10)]) (.b true) e91_718)
@[simp] def e91_720 : X := (Q (.p .keq [(.v 5), (.s w9)]) (.b true) e91_719)
@[simp] def e91_721 : X := (Q (.p .keq [(.v 5), (.s w8)]) (.b true) e91_720)
@[simp] def e91_722 : X := (Q (.p .keq [(.v 5), (.s w7)]) (.b true) e91_721)
@[simp] def e91_723 : X := (Q (.p .keq [(.v 5), (.s w6)]) (.b true) e91_722)
@[simp] def e91_724 : X := (Q (.p .keq [(.v 5), (.s w5)]) (.b true) e91_723)
@[simp] def e91_725 : X := (Q (.p .keq [(.v 5), (.s w4)]) (.b true) e91_724)
@[simp] def e91_726 : X := (Q (.p .keq [(.v 5), (.s w17)]) e91_51 (.b true))
@[simp] def e91_727 : X := (Q (.p .keq [(.v 5), (.s w16)]) (.b true) e91_726)
@[simp] def e91_728 : X := (Q (.p .keq [(.v 5), (.s w15)]) (.b true) e91_727)
@[simp] def e91_729 : X := (Q (.p .keq [(.v 5), (.s w14)]) (.b true) e91_728)
@[simp] def e91_730 : X := (Q (.p .keq [(.v 5), (.s w13)]) (.b true) e91_729)
@[simp] def e91_731 : X := (Q (.p .keq [(.v 5), (.s w12)]) (.b true) e91_730)
@[simp] def e91_732 : X := (Q (.p .keq [(.v 5), (.s w11)]) (.b true) e91_731)
@[simp] def e91_733 : X := (Q (.p .keq [(.v 5), (.s w10)]) (.b true) e91_732)
@[simp] def e91_734 : X := (Q (.p .keq [(.v 5), (.s w9)]) (.b true) e91_733)
@[simp] def e91_735 : X := (Q (.p .keq [(.v 5), (.s w8)]) (.b true) e91_734)
@[simp] def e91_736 : X := (Q (.p .keq [(.v 5), (.s w7)]) (.b true) e91_735)
@[simp] def e91_737 : X := (Q (.p .keq [(.v 5), (.s w6)]) (.b true) e91_736)
@[simp] def e91_738 : X := (Q (.p .keq [(.v 5), (.s w5)]) (.b true) e91_737)
@[simp] def e91_739 : X := (Q (.p .keq [(.v 5), (.s w4)]) (.b true) e91_738)
@[simp] def e91_740 : X := (Q (.p .keq [(.v 5), (.s w17)]) e91_57 (.b true))
@[simp] def e91_741 : X := (Q (.p .keq [(.v 5), (.s w16)]) (.b true) e91_740)
@[simp] def e91_742 : X := (Q (.p .keq [(.v 5), (.s w15)]) (.b true) e91_741)
@[simp] def e91_743 : X := (Q (.p .keq [(.v 5), (.s w14)]) (.b true) e91_742)
@[simp] def e91_744 : X := (Q (.p .keq [(.v 5), (.s w13)]) (.b true) e91_743)
@[simp] def e91_745 : X := (Q (.p .keq [(.v 5), (.s w12)]) (.b true) e91_744)
@[simp] def e91_746 : X := (Q (.p .keq [(.v 5), (.s w11)]) (.b true) e91_745)
@[simp] def e91_747 : X := (Q (.p .keq [(.v 5), (.s w10)]) (.b true) e91_746)
@[simp] def e91_748 : X := (Q (.p .keq [(.v 5), (.s w9)]) (.b true) e91_747)
@[simp] def e91_749 : X := (Q (.p .keq [(.v 5), (.s w8)]) (.b true) e91_748)
@[simp] def e91_750 : X := (Q (.p .keq [(.v 5), (.s w7)]) (.b true) e91_749)
@[simp] def e91_751 : X := (Q (.p .keq [(.v 5), (.s w6)]) (.b true) e91_750)
@[simp] def e91_752 : X := (Q (.p .keq [(.v 5), (.s w5)]) (.b true) e91_751)
@[simp] def e91_753 : X := (Q (.p .keq [(.v 5), (.s w4)]) (.b true) e91_752)
@[simp] def e91_754 : X := (Q (.p .keq [(.v 5), (.s w17)]) (.b true) e91_1)
@[simp] def e91_755 : X := (Q (.p .keq [(.v 5), (.s w16)]) (.b true) e91_754)
@[simp] def e91_756 : X := (Q (.p .keq [(.v 5), (.s w15)]) (.b true) e91_755)
@[simp] def e91_757 : X := (Q (.p .keq [(.v 5), (.s w14)]) (.b true) e91_756)
@[simp] def e91_758 : X := (Q (.p .keq [(.v 5), (.s w13)]) (.b true) e91_757)
@[simp] def e91_759 : X := (Q (.p .keq [(.v 5), (.s w12)]) (.b true) e91_758)
@[simp] def e91_760 : X := (Q (.p .keq [(.v 5), (.s w11)]) (.b true) e91_759)
@[simp] def e91_761 : X := (Q (.p .keq [(.v 5), (.s w10)]) (.b true) e91_760)
@[simp] def e91_762 : X := (Q (.p .keq [(.v 5), (.s w9)]) (.b true) e91_761)
@[simp] def e91_763 : X := (Q (.p .keq [(.v 5), (.s w8)]) (.b true) e91_762)
@[simp] def e91_764 : X := (Q (.p .keq [(.v 5), (.s w7)]) (.b true) e91_763)
@[simp] def e91_765 : X := (Q (.p .keq [(.v 5), (.s w6)]) (.b true) e91_764)
@[simp] def e91_766 : X := (Q (.p .keq [(.v 5), (.s w5)]) (.b true) e91_765)
@[simp] def e91_767 : X := (Q (.p .keq [(.v 5), (.s w4)]) (.b true) e91_766)
@[simp] def e91_768 : X := (Q (.p .keq [(.v 5), (.s w17)]) (.b true) e91_4)
@[simp] def e91_769 : X := (Q (.p .keq [(.v 5), (.s w16)]) (.b true) e91_768)
@[simp] def e91_770 : X := (Q (.p .keq [(.v 5), (.s w15)]) (.b true) e91_769)
@[simp] def e91_771 : X := (Q (.p .keq [(.v 5), (.s w14)]) (.b true) e91_770)
@[simp] def e91_772 : X := (Q (.p .keq [(.v 5), (.s w13)]) (.b true) e91_771)
@[simp] def e91_773 : X := (Q (.p .keq [(.v 5), (.s w12)]) (.b true) e91_772)
@[simp] def e91_774 : X := (Q (.p .keq [(.v 5), (.s w11)]) (.b true) e91_773)
@[simp] def e91_775 : X := (Q (.p .keq [(.v 5), (.s w10)]) (.b true) e91_774)
@[simp] def e91_776 : X := (Q (.p .keq [(.v 5), (.s w9)]) (.b true) e91_775)
@[simp] def e91_777 : X := (Q (.p .keq [(.v 5), (.s w8)]) (.b true) e91_776)
@[simp] def e91_778 : X := (Q (.p .keq [(.v 5), (.s w7)]) (.b true) e91_777)
@[simp] def e91_779 : X := (Q (.p .keq [(.v 5), (.s w6)]) (.b true) e91_778)
@[simp] def e91_780 : X := (Q (.p .keq [(.v 5), (.s w5)]) (.b true) e91_779)
@[simp] def e91_781 : X := (Q (.p .keq [(.v 5), (.s w4)]) (.b true) e91_780)
@[simp] def e91_782 : X := (.p (.okr [.one (.int .i64)]) [(.p (.call 103 0) [(.b true), (I (13))])])
@[simp] def e91_783 : X := (Q (.p .keq [(.v 5), (.s w17)]) (.b true) e91_782)
@[simp] def e91_784 : X := (Q (.p .keq [(.v 5), (.s w16)]) (.b true) e91_783)
@[simp] def e91_785 : X := (Q (.p .keq [(.v 5), (.s w15)]) (.b true) e91_784)
@[simp] def e91_786 : X := (Q (.p .keq [(.v 5), (.s w14)]) (.b true) e91_785)
@[simp] def e91_787 : X := (Q (.p .keq [(.v 5), (.s w13)]) (.b true) e91_786)
@[simp] def e91_788 : X := (Q (.p .keq [(.v 5), (.s w12)]) (.b true) e91_787)
@[simp] def e91_789 : X := (Q (.p .keq [(.v 5), (.s w11)]) (.b true) e91_788)
@[simp] def e91_790 : X := (Q (.p .keq [(.v 5), (.s w10)]) (.b true) e91_789)
@[simp] def e91_791 : X := (Q (.p .keq [(.v 5), (.s w9)]) (.b true) e91_790)
@[simp] def e91_792 : X := (Q (.p .keq [(.v 5), (.s w8)]) (.b true) e91_791)
@[simp] def e91_793 : X := (Q (.p .keq [(.v 5), (.s w7)]) (.b true) e91_792)
@[simp] def e91_794 : X := (Q (.p .keq [(.v 5), (.s w6)]) (.b true) e91_793)
@[simp] def e91_795 : X := (Q (.p .keq [(.v 5), (.s w5)]) (.b true) e91_794)
@[simp] def e91_796 : X := (Q (.p .keq [(.v 5), (.s w4)]) (.b true) e91_795)
@[simp] def e91_797 : X := (Q (.p .keq [(.v 5), (.s w17)]) (.b true) e91_10)
@[simp] def e91_798 : X := (Q (.p .keq [(.v 5), (.s w16)]) (.b true) e91_797)
@[simp] def e91_799 : X := (Q (.p .keq [(.v 5), (.s w15)]) (.b true) e91_798)
@[simp] def e91_800 : X := (Q (.p .keq [(.v 5), (.s w14)]) (.b true) e91_799)
@[simp] def e91_801 : X := (Q (.p .keq [(.v 5), (.s w13)]) (.b true) e91_800)
@[simp] def e91_802 : X := (Q (.p .keq [(.v 5), (.s w12)]) (.b true) e91_801)
@[simp] def e91_803 : X := (Q (.p .keq [(.v 5), (.s w11)]) (.b true) e91_802)
@[simp] def e91_804 : X := (Q (.p .keq [(.v 5), (.s w10)]) (.b true) e91_803)
@[simp] def e91_805 : X := (Q (.p .keq [(.v 5), (.s w9)]) (.b true) e91_804)
@[simp] def e91_806 : X := (Q (.p .keq [(.v 5), (.s w8)]) (.b true) e91_805)
@[simp] def e91_807 : X := (Q (.p .keq [(.v 5), (.s w7)]) (.b true) e91_806)
@[simp] def e91_808 : X := (Q (.p .keq [(.v 5), (.s w6)]) (.b true) e91_807)
@[simp] def e91_809 : X := (Q (.p .keq [(.v 5), (.s w5)]) (.b true) e91_808)
@[simp] def e91_810 : X := (Q (.p .keq [(.v 5), (.s w4)]) (.b true) e91_809)
@[simp] def e91_811 : X := (Q (.p .keq [(.v 5), (.s w17)]) (.b true) e91_13)
@[simp] def e91_812 : X := (Q (.p .keq [(.v 5), (.s w16)]) (.b true) e91_811)
@[simp] def e91_813 : X := (Q (.p .keq [(.v 5), (.s w15)]) (.b true) e91_812)
@[simp] def e91_814 : X := (Q (.p .keq [(.v 5), (.s w14)]) (.b true) e91_813)
@[simp] def e91_815 : X := (Q (.p .keq [(.v 5), (.s w13)]) (.b true) e91_814)
@[simp] def e91_816 : X := (Q (.p .keq [(.v 5), (.s w12)]) (.b true) e91_815)
@[simp] def e91_817 : X := (Q (.p .keq [(.v 5), (.s w11)]) (.b true) e91_816)
@[simp] def e91_818 : X := (Q (.p .keq [(.v 5), (.s w10)]) (.b true) e91_817)
@[simp] def e91_819 : X := (Q (.p .keq [(.v 5), (.s w9)]) (.b true) e91_818)
@[simp] def e91_820 : X := (Q (.p .keq [(.v 5), (.s w8)]) (.b true) e91_819)
@[simp] def e91_821 : X := (Q (.p .keq [(.v 5), (.s w7)]) (.b true) e91_820)
@[simp] def e91_822 : X := (Q (.p .keq [(.v 5), (.s w6)]) (.b true) e91_821)
@[simp] def e91_823 : X := (Q (.p .keq [(.v 5), (.s w5)]) (.b true) e91_822)
@[simp] def e91_824 : X := (Q (.p .keq [(.v 5), (.s w4)]) (.b true) e91_823)
@[simp] def e91_825 : X := (Q (.p .keq [(.v 5), (.s w17)]) (.b true) e91_51)
@[simp] def e91_826 : X := (Q (.p .keq [(.v 5), (.s w16)]) (.b true) e91_825)
@[simp] def e91_827 : X := (Q (.p .keq [(.v 5), (.s w15)]) (.b true) e91_826)
@[simp] def e91_828 : X := (Q (.p .keq [(.v 5), (.s w14)]) (.b true) e91_827)
@[simp] def e91_829 : X := (Q (.p .keq [(.v 5), (.s w13)]) (.b true) e91_828)
@[simp] def e91_830 : X := (Q (.p .keq [(.v 5), (.s w12)]) (.b true) e91_829)
@[simp] def e91_831 : X := (Q (.p .keq [(.v 5), (.s w11)]) (.b true) e91_830)
@[simp] def e91_832 : X := (Q (.p .keq [(.v 5), (.s w10)]) (.b true) e91_831)
@[simp] def e91_833 : X := (Q (.p .keq [(.v 5), (.s w9)]) (.b true) e91_832)
@[simp] def e91_834 : X := (Q (.p .keq [(.v 5), (.s w8)]) (.b true) e91_833)
@[simp] def e91_835 : X := (Q (.p .keq [(.v 5), (.s w7)]) (.b true) e91_834)
@[simp] def e91_836 : X := (Q (.p .keq [(.v 5), (.s w6)]) (.b true) e91_835)
@[simp] def e91_837 : X := (Q (.p .keq [(.v 5), (.s w5)]) (.b true) e91_836)
@[simp] def e91_838 : X := (Q (.p .keq [(.v 5), (.s w4)]) (.b true) e91_837)
@[simp] def e91_839 : X := (.sl 1 [[e91_3], [(.p (.call 103 0) [(.b true), (I (13))])], [e91_9], [e91_12], [e91_50]])
@[simp] def e91_840 : X := (.p (.call 102 0) [e91_839])
@[simp] def e91_841 : X := (.p (.okr [.one (.int .i64)]) [e91_840])
@[simp] def e91_842 : X := (Q (.p .keq [(.v 5), (.s w17)]) (.b true) e91_841)
@[simp] def e91_843 : X := (Q (.p .keq [(.v 5), (.s w16)]) (.b true) e91_842)
@[simp] def e91_844 : X := (Q (.p .keq [(.v 5), (.s w15)]) (.b true) e91_843)
@[simp] def e91_845 : X := (Q (.p .keq [(.v 5), (.s w14)]) (.b true) e91_844)
@[simp] def e91_846 : X := (Q (.p .keq [(.v 5), (.s w13)]) (.b true) e91_845)
@[simp] def e91_847 : X := (Q (.p .keq [(.v 5), (.s w12)]) (.b true) e91_846)
@[simp] def e91_848 : X := (Q (.p .keq [(.v 5), (.s w11)]) (.b true) e91_847)
@[simp] def e91_849 : X := (Q (.p .keq [(.v 5), (.s w10)]) (.b true) e91_848)
@[simp] def e91_850 : X := (Q (.p .keq [(.v 5), (.s w9)]) (.b true) e91_849)
@[simp] def e91_851 : X := (Q (.p .keq [(.v 5), (.s w8)]) (.b true) e91_850)
@[simp] def e91_852 : X := (Q (.p .keq [(.v 5), (.s w7)]) (.b true) e91_851)
@[simp] def e91_853 : X := (Q (.p .keq [(.v 5), (.s w6)]) (.b true) e91_852)
@[simp] def e91_854 : X := (Q (.p .keq [(.v 5), (.s w5)]) (.b true) e91_853)
@[simp] def e91_855 : X := (Q (.p .keq [(.v 5), (.s w4)]) (.b true) e91_854)
@[simp] def e91_856 : X := (Q (.p .keq [(.v 5), (.s w17)]) e91_56 e91_840)
@[simp] def e91_857 : X := (Q (.p .keq [(.v 5), (.s w16)]) e91_56 e91_856)
@[simp] def e91_858 : X := (Q (.p .keq [(.v 5), (.s w15)]) e91_56 e91_857)
@[simp] def e91_859 : X := (Q (.p .keq [(.v 5), (.s w14)]) e91_56 e91_858)
@[simp] def e91_860 : X := (Q (.p .keq [(.v 5), (.s w13)]) e91_18 e91_859)
@[simp] def e91_861 : X := (Q (.p .keq [(.v 5), (.s w12)]) e91_56 e91_860)
@[simp] def e91_862 : X := (Q (.p .keq [(.v 5), (.s w11)]) e91_56 e91_861)
@[simp] def e91_863 : X := (Q (.p .keq [(.v 5), (.s w10)]) e91_56 e91_862)
@[simp] def e91_864 : X := (Q (.p .keq [(.v 5), (.s w9)]) e91_56 e91_863)
@[simp] def e91_865 : X := (Q (.p .keq [(.v 5), (.s w8)]) e91_56 e91_864)
@[simp] def e91_866 : X := (Q (.p .keq [(.v 5), (.s w7)]) e91_56 e91_865)
@[simp] def e91_867 : X := (Q (.p .keq [(.v 5), (.s w6)]) e91_56 e91_866)
@[simp] def e91_868 : X := (Q (.p .keq [(.v 5), (.s w5)]) e91_18 e91_867)
@[simp] def e91_869 : X := (Q (.p .keq [(.v 5), (.s w4)]) e91_18 e91_868)
def i91 : Inst := ⟨91, 0, [(.agg [(Ss 0), (S1 1), (Si 2), (Si 3)]), (.agg [(Si 4), (Ss 5), (Si 6), (Si 7)])], [.one (.int .i64)]⟩
def s91 : List Cal := [c89, c103, c115, c102]
@[simp] theorem o91_89 : OE s91 89 F89 := oG rfl
@[simp] theorem o91_103 : OE s91 103 F103 := oG rfl
@[simp] theorem o91_115 : OE s91 115 F115 := oG rfl
@[simp] theorem o91_102 : OE s91 102 F102 := oG rfl
@[simp] def l91 : List LoopD := []
def t91 : Te AV := .need e91_2 (
 .need e91_5 (
 .need e91_8 (
 .need e91_11 (
 .need e91_14 (
 .need e91_16 (
 .need e91_20 (
 .need e91_22 (
 .need e91_24 (
 .need e91_26 (
 .need e91_28 (
 .need e91_30 (
 .need e91_32 (
 .need e91_34 (
 .need e91_37 (
 .need e91_40 (
 .need e91_43 (
 .need e91_46 (
 .need e91_49 (
 .need e91_54 (
 .need e91_60 (
 .need e91_64 (
 .need e91_68 (
 .need e91_72 (
 .need e91_76 (
 .need e91_80 (
 .need e91_84 (
 .need e91_88 (
 .need e91_93 (
 .need e91_98 (
 .need e91_103 (
 .need e91_108 (
 .need e91_113 (
 .need e91_118 (
 .need e91_123 (
 .need e91_129 (
 .need e91_135 (
 .need e91_141 (
 .need e91_147 (
 .need e91_153 (
 .need e91_159 (
 .need e91_165 (
 .need e91_172 (
 .need e91_179 (
 .need e91_186 (
 .need e91_193 (
 .need e91_200 (
 .need e91_207 (
 .need e91_214 (
 .need e91_222 (
 .need e91_230 (
 .need e91_238 (
 .need e91_246 (
 .need e91_254 (
 .need e91_262 (
 .need e91_270 (
 .need e91_279 (
 .need e91_288 (
 .need e91_297 (
 .need e91_306 (
 .need e91_315 (
 .need e91_324 (
 .need e91_333 (
 .need e91_343 (
 .need e91_353 (
 .need e91_363 (
 .need e91_373 (
 .need e91_383 (
 .need e91_393 (
 .need e91_403 (
 .need e91_414 (
 .need e91_425 (
 .need e91_436 (
 .need e91_447 (
 .need e91_458 (
 .need e91_469 (
 .need e91_480 (
 .need e91_492 (
 .need e91_504 (
 .need e91_516 (
 .need e91_528 (
 .need e91_540 (
 .need e91_552 (
 .need e91_564 (
 .need e91_577 (
 .need e91_590 (
 .need e91_603 (
 .need e91_616 (
 .need e91_629 (
 .need e91_642 (
 .need e91_655 (
 .need e91_669 (
 .need e91_683 (
 .need e91_697 (
 .need e91_711 (
 .need e91_725 (
 .need e91_739 (
 .need e91_753 (
 .need e91_767 (
 .need e91_781 (
 .need e91_796 (
 .need e91_810 (
 .need e91_824 (
 .need e91_838 (
 .need e91_855 (
 .ok (.sym (.int .i64) e91_869))))))))))))))))))))))))))))))))))))))))))))))))))))))))))))))))))))))))))))))))))))))))))))))))))))))))))
def F91 : List AV → Option AV := unitF (omL KK s91 l91) t91
def c91 : Cal := ⟨i91, F91⟩
theorem x91 : XO i91 F91 := XU (cs := s91) (ds := l91) (t := t91) ⟨x89, x103, x115, x102, trivial⟩ (x := g91) (by kernel_rfl) (by kernel_rfl) (by kernel_rfl)
@[simp] def e121_0 : X := (Q (LE (I (0)) (.v 2)) (LT (.v 2) (LN (.v 0))) (.b false))
@[simp] def e121_1 : X := (.p (.call 91 0) [(.v 3), (.v 4), (.v 5), (.v 6), (C 0 (.v 0) (.v 2)), (C 1 (.v 0) (.v 2)), (C 2 (.v 0) (.v 2)), (C 3 (.v 0) (.v 2))])
@[simp] def e121_2 : X := (.p (.okr [.one (.int .i64)]) [e121_1])
@[simp] def e121_3 : X := (.p (.bin .neq .i64) [e121_1, (I (0))])
@[simp] def e121_4 : X := (.p (.bin .gtr .i64) [(LN (.v 4)), (I (256))])
@[simp] def e121_5 : X := (.p (.call 100000 12100) [(.v 4), (LN (.v 4)), (I (0)), (.v 0), (.v 1), (.v 2), (.v 3)])
@[simp] def e121_6 : X := (PJ 0 e121_5)
@[simp] def e121_7 : X := (EQ e121_6 (I (1)))
@[simp] def e121_8 : X := (EQ e121_6 (I (2)))
@[simp] def e121_9 : X := (Q e121_7 (.b true) e121_8)
@[simp] def e121_10 : X := (Q e121_4 (.b true) e121_9)
@[simp] def e121_11 : X := (PJ 1 e121_5)
@[simp] def e121_12 : X := (Q e121_7 e121_11 (I (0)))
@[simp] def e121_13 : X := (Q e121_4 (I (5)) e121_12)
def B12100 : Te LEnd := .ite (LT (.v 2) (.v 1)) (
 .need e121_0 (
 .need e121_2 (
 .ite e121_3 (
 .ok (.out 1 [e121_1])) (
 .ok (.again [(.v 0), (.v 1), (AD (.v 2) (I (1))), (.v 3), (.v 4), (.v 5), (.v 6)]))))) (
 .ok (.out 2 []))
def d12100 : LoopD := ⟨4, ⟨12100, 7, (J 2 ((.ptr 0 0 0) :: (J 8 ((.sym (.sl [(.int .i64), .str, (.int .i64), (.int .i64)]) (.v 0)) :: ((Si 1) :: ((Si 2) :: (J 10 []))))))), ⟨⟨2, [(0, .cells 4 [[(Ss 3), (S1 4), (Si 5), (Si 6)]])], [[]], none⟩, [], []⟩,
 [(.ret, 1, (J 4 ((Si 0) :: (J 19 []))), ⟨⟨3, [], [[]], none⟩, [], []⟩),
  (.exit 0, 0, (J 24 []), ⟨⟨2, [], [[]], none⟩, [], []⟩)], [(1, []), (2, [])]⟩, B12100⟩
@[simp] theorem d12100_id : d12100.L.id = 12100 := rfl
@[simp] theorem d12100_B : d12100.B = B12100 := rfl
def i121 : Inst := ⟨121, 0, [(.agg [(Ss 0), (S1 1), (Si 2), (Si 3)]), (.sym (.sl [(.int .i64), .str, (.int .i64), (.int .i64)]) (.v 4))], [.one (.int .i64)]⟩
def s121 : List Cal := [c91]
@[simp] theorem o121_91 : OE s121 91 F91 := oG rfl
@[simp] def l121 : List LoopD := [d12100]
def t121 : Te AV := .need e121_10 (
 .ok (.sym (.int .i64) e121_13))
def F121 : List AV → Option AV := unitF (omL KK s121 l121) t121
def c121 : Cal := ⟨i121, F121⟩
theorem x121 : XO i121 F121 := XU (cs := s121) (ds := l121) (t := t121) ⟨x91, trivial⟩ (x := g121) (by kernel_rfl) (by kernel_rfl) (by kernel_rfl)
@[simp] def e58_0 : X := (Q (LE (I (0)) (.v 2)) (LT (.v 2) (LN (.v 0))) (.b false))
@[simp] def e58_1 : X := (.p (.okr [.one .bool]) [(.p (.call 113 0) [(C 0 (.v 0) (.v 2))])])
@[simp] def e58_2 : X := (.p .not [(.p (.call 113 0) [(C 0 (.v 0) (.v 2))])])
@[simp] def e58_3 : X := (.p (.call 103 0) [e58_2, (I (8))])
@[simp] def e58_4 : X := (.p (.okr [.one (.int .i64)]) [e58_3])
@[simp] def e58_5 : X := (.p (.call 114 0) [(.p .slice [(.v 0), (I (0)), (.v 2)]), (C 0 (.v 0) (.v 2))])
@[simp] def e58_6 : X := (.p (.okr [.one .bool]) [e58_5])
@[simp] def e58_7 : X := (.p (.call 103 0) [e58_5, (I (9))])
@[simp] def e58_8 : X := (.p (.okr [.one (.int .i64)]) [e58_7])
@[simp] def e58_9 : X := (.sl 1 [[e58_3], [e58_7]])
@[simp] def e58_10 : X := (.p (.call 102 0) [e58_9])
@[simp] def e58_11 : X := (.p (.okr [.one (.int .i64)]) [e58_10])
@[simp] def e58_12 : X := (.p (.bin .neq .i64) [e58_10, (I (0))])
@[simp] def e58_13 : X := (.p (.okr [.one (.int .i64)]) [(.p (.call 112 0) [(.v 0)])])
@[simp] def e58_14 : X := (.p (.call 103 0) [(EQ (.p (.call 112 0) [(.v 0)]) (I (0))), (I (13))])
@[simp] def e58_15 : X := (.p (.okr [.one (.int .i64)]) [e58_14])
@[simp] def e58_16 : X := (.p (.call 103 0) [(EQ (LN (.v 1)) (I (0))), (I (12))])
@[simp] def e58_17 : X := (.p (.okr [.one (.int .i64)]) [e58_16])
@[simp] def e58_18 : X := (.p (.bin .gtr .i64) [(LN (.v 1)), (I (160))])
@[simp] def e58_19 : X := (.p (.call 103 0) [e58_18, (I (5))])
@[simp] def e58_20 : X := (.p (.okr [.one (.int .i64)]) [e58_19])
@[simp] def e58_21 : X := (.sl 1 [[e58_14], [e58_16], [e58_19]])
@[simp] def e58_22 : X := (.p (.call 102 0) [e58_21])
@[simp] def e58_23 : X := (.p (.okr [.one (.int .i64)]) [e58_22])
@[simp] def e58_24 : X := (.p (.bin .neq .i64) [e58_22, (I (0))])
@[simp] def e58_25 : X := (.p (.call 100000 5800) [(.v 1), (LN (.v 1)), (I (0)), (.v 0), (.v 2), (.v 3)])
@[simp] def e58_26 : X := (PJ 0 e58_25)
@[simp] def e58_27 : X := (EQ e58_26 (I (1)))
@[simp] def e58_28 : X := (EQ e58_26 (I (2)))
@[simp] def e58_29 : X := (Q e58_27 (.b true) e58_28)
@[simp] def e58_30 : X := (Q e58_24 (.b true) e58_29)
@[simp] def e58_31 : X := (.p (.call 115 0) [(.v 2), (I (1)), (.p (.call 112 0) [(.v 0)])])
@[simp] def e58_32 : X := (.p (.okr [.one (.int .i64)]) [e58_31])
@[simp] def e58_33 : X := (Q e58_27 (.b true) e58_32)
@[simp] def e58_34 : X := (Q e58_24 (.b true) e58_33)
@[simp] def e58_35 : X := (.p (.call 115 0) [(.v 3), (I (1)), (I (86399999))])
@[simp] def e58_36 : X := (.p (.okr [.one (.int .i64)]) [e58_35])
@[simp] def e58_37 : X := (Q e58_27 (.b true) e58_36)
@[simp] def e58_38 : X := (Q e58_24 (.b true) e58_37)
@[simp] def e58_39 : X := (.sl 1 [[e58_31], [e58_35]])
@[simp] def e58_40 : X := (.p (.call 102 0) [e58_39])
@[simp] def e58_41 : X := (.p (.okr [.one (.int .i64)]) [e58_40])
@[simp] def e58_42 : X := (Q e58_27 (.b true) e58_41)
@[simp] def e58_43 : X := (Q e58_24 (.b true) e58_42)
@[simp] def e58_44 : X := (PJ 1 e58_25)
@[simp] def e58_45 : X := (Q e58_27 e58_44 e58_40)
@[simp] def e58_46 : X := (Q e58_24 e58_22 e58_45)
def B5800 : Te LEnd := .ite (LT (.v 2) (.v 1)) (
 .need e58_0 (
 .need e58_1 (
 .need e58_4 (
 .need (LE (I (0)) (.v 2)) (
 .need (LE (.v 2) (LN (.v 0))) (
 .need e58_6 (
 .need e58_8 (
 .need e58_11 (
 .ite e58_12 (
 .ok (.out 1 [e58_10])) (
 .ok (.again [(.v 0), (.v 1), (AD (.v 2) (I (1))), (.v 3), (.v 4), (.v 5)]))))))))))) (
 .ok (.out 2 [(.v 3), (.v 0), (.v 4), (.v 5)]))
def d5800 : LoopD := ⟨5, ⟨5800, 6, (J 1 ((.ptr 0 0 0) :: (J 26 ((S1 0) :: ((Si 1) :: ((Si 2) :: (J 32 []))))))), ⟨⟨3, [(0, .cells 4 [[(Ss 3), (S1 0), (Si 4), (Si 5)]])], [[]], none⟩, [], []⟩,
 [(.ret, 1, (J 2 ((Si 0) :: (J 60 []))), ⟨⟨4, [], [[]], none⟩, [], []⟩),
  (.exit 0, 4, (J 1 ((.ptr 0 0 0) :: (J 61 []))), ⟨⟨3, [(0, .cells 4 [[(Ss 0), (S1 1), (Si 2), (Si 3)]])], [[]], none⟩, [], []⟩)], [(1, []), (2, [(0, 3), (1, 0), (2, 4), (3, 5)])]⟩, B5800⟩
@[simp] theorem d5800_id : d5800.L.id = 5800 := rfl
@[simp] theorem d5800_B : d5800.B = B5800 := rfl
def i58 : Inst := ⟨58, 0, [(.agg [(Ss 0), (S1 1), (Si 2), (Si 3)])], [.one (.int .i64)]⟩
def s58 : List Cal := [c112, c103, c102, c115, c113, c114]
@[simp] theorem o58_112 : OE s58 112 F112 := oG rfl
@[simp] theorem o58_103 : OE s58 103 F103 := oG rfl
@[simp] theorem o58_102 : OE s58 102 F102 := oG rfl
@[simp] theorem o58_115 : OE s58 115 F115 := oG rfl
@[simp] theorem o58_113 : OE s58 113 F113 := oG rfl
@[simp] theorem o58_114 : OE s58 114 F114 := oG rfl
@[simp] def l58 : List LoopD := [d5800]
def t58 : Te AV := .need e58_13 (
 .need e58_15 (
 .need e58_17 (
 .need e58_20 (
 .need e58_23 (
 .need e58_30 (
 .need e58_34 (
 .need e58_38 (
 .need e58_43 (
 .ok (.sym (.int .i64) e58_46))))))))))
def F58 : List AV → Option AV := unitF (omL KK s58 l58) t58
def c58 : Cal := ⟨i58, F58⟩
theorem x58 : XO i58 F58 := XU (cs := s58) (ds := l58) (t := t58) ⟨x112, x103, x102, x115, x113, x114, trivial⟩ (x := g58) (by kernel_rfl) (by kernel_rfl) (by kernel_rfl)
@[simp] def e61_0 : X := (.p (.call 58 0) [(.v 0), (.v 1), (.v 2), (.v 3)])
@[simp] def e61_1 : X := (.p (.okr [.one (.int .i64)]) [e61_0])
@[simp] def e61_2 : X := (.p (.bin .neq .i64) [e61_0, (I (0))])
@[simp] def e61_3 : X := (.p (.call 121 0) [(.v 0), (.v 1), (.v 2), (.v 3), (.v 4)])
@[simp] def e61_4 : X := (.p (.okr [.one (.int .i64)]) [e61_3])
@[simp] def e61_5 : X := (Q e61_2 (.b true) e61_4)
@[simp] def e61_6 : X := (Q e61_2 e61_0 e61_3)
def i61 : Inst := ⟨61, 0, [(.agg [(Ss 0), (S1 1), (Si 2), (Si 3)]), (.sym (.sl [(.int .i64), .str, (.int .i64), (.int .i64)]) (.v 4))], [.one (.int .i64)]⟩
def s61 : List Cal := [c58, c121]
@[simp] theorem o61_58 : OE s61 58 F58 := oG rfl
@[simp] theorem o61_121 : OE s61 121 F121 := oG rfl
@[simp] def l61 : List LoopD := []
def t61 : Te AV := .need e61_1 (
 .need e61_5 (
 .ok (.sym (.int .i64) e61_6)))
def F61 : List AV → Option AV := unitF (omL KK s61 l61) t61
def c61 : Cal := ⟨i61, F61⟩
theorem x61 : XO i61 F61 := XU (cs := s61) (ds := l61) (t := t61) ⟨x58, x121, trivial⟩ (x := g61) (by kernel_rfl) (by kernel_rfl) (by kernel_rfl)
end Go.Proofs.YtdeaibcebeofiaaGreatDoor.C5
