/-
  Functions, as trees.
-/
import Derived.Test.YtdjngcfnlfgjkaaGreatDoorTab
import Derived.Test.YtdjngcfnlfgjkaaGreatDoorSm6
import Derived.Test.YtdjngcfnlfgjkaaGreatDoorRows0
set_option linter.unusedVariables false
set_option linter.unusedSimpArgs false
set_option linter.unusedSectionVars false
namespace Go.Proofs.YtdjngcfnlfgjkaaGreatDoor.C5
open Go Go.Proofs.YtdjngcfnlfgjkaaGreatDoor.AM Go.Proofs
def KK : Nat := 2097152
@[reducible] def I (n : Int) : X := .i .i64 n
@[reducible] def Q (c a b : X) : X := .p .ite [c, a, b]
@[reducible] def LE (a b : X) : X := .p (.bin .leq .i64) [a, b]
@[reducible] def LT (a b : X) : X := .p (.bin .lss .i64) [a, b]
@[reducible] def EQ (a b : X) : X := .p (.bin .eql .i64) [a, b]
@[reducible] def AD (a b : X) : X := .p (.bin .add .i64) [a, b]
@[reducible] def SB (a b : X) : X := .p (.bin .sub .i64) [a, b]
@[reducible] def C (k : Nat) (a b : X) : X := .p (.cell k) [a, b]
@[reducible] def LN (a : X) : X := .p .len [a]
@[reducible] def PJ (k : Nat) (a : X) : X := .p (.proj k) [a]
@[reducible] def NE (a b : X) : X := .p (.bin .neq .i64) [a, b]
@[reducible] def GT (a b : X) : X := .p (.bin .gtr .i64) [a, b]
@[reducible] def GE (a b : X) : X := .p (.bin .geq .i64) [a, b]
@[reducible] def RM (a b : X) : X := .p (.bin .rem .i64) [a, b]
@[reducible] def QU (a b : X) : X := .p (.bin .quo .i64) [a, b]
@[reducible] def MU (a b : X) : X := .p (.bin .mul .i64) [a, b]
@[reducible] def SE (a b : X) : X := .p (.sbin .eql) [a, b]
@[reducible] def SN (a b : X) : X := .p (.sbin .neq) [a, b]
@[reducible] def SA (a b : X) : X := .p (.sbin .add) [a, b]
@[reducible] def CO (a b : X) : X := .p .catOk [a, b]
@[reducible] def KE (a b : X) : X := .p .keq [a, b]
@[reducible] def BE (a b : X) : X := .p .beq [a, b]
@[reducible] def NO (a : X) : X := .p .not [a]
@[reducible] def OI (a : X) : X := .p (.okr [.one (.int .i64)]) [a]
@[reducible] def OS (a : X) : X := .p (.okr [.one .str]) [a]
@[reducible] def OB (a : X) : X := .p (.okr [.one .bool]) [a]
@[reducible] def FL (k : Nat) (a : X) : X := .p (.fld k) [a]
@[reducible] def K (f : Nat) (l : List X) : X := .p (.call f 0) l
@[reducible] def LO (n : Nat) (l : List X) : X := .p (.call 100000 n) l
@[reducible] def YY : X := .b true
@[reducible] def v0 : X := .v 0
@[reducible] def v1 : X := .v 1
@[reducible] def v2 : X := .v 2
@[reducible] def v3 : X := .v 3
@[reducible] def v4 : X := .v 4
@[reducible] def v5 : X := .v 5
@[reducible] def v6 : X := .v 6
@[reducible] def v7 : X := .v 7
@[reducible] def v8 : X := .v 8
@[reducible] def v9 : X := .v 9
@[reducible] def v10 : X := .v 10
@[reducible] def v11 : X := .v 11
@[reducible] def v12 : X := .v 12
@[reducible] def v13 : X := .v 13
@[reducible] def v14 : X := .v 14
@[reducible] def v15 : X := .v 15
@[reducible] def v16 : X := .v 16
@[reducible] def v17 : X := .v 17
@[reducible] def v18 : X := .v 18
@[reducible] def v19 : X := .v 19
@[reducible] def v20 : X := .v 20
@[reducible] def v21 : X := .v 21
@[reducible] def v22 : X := .v 22
@[reducible] def v23 : X := .v 23
def Si (n : Nat) : AV := .sym (.int .i64) (.v n)
def Ss (n : Nat) : AV := .sym .str (.v n)
def Sb (n : Nat) : AV := .sym .bool (.v n)
def S1 (n : Nat) : AV := .sym (.sl [.str]) (.v n)
def S2 (n : Nat) : AV := .sym (.sl [.int .i64]) (.v n)
def S3 (n : Nat) : AV := .sym (.sl [.int .i64, .int .i64, .int .i64, .bool]) (.v n)
def S4 (n : Nat) : AV := .sym (.sl [.str, .str, .int .i64, .int .i64, .int .i64, .int .i64, .bool, .bool, .bool, .sl [.int .i64, .int .i64, .int .i64, .bool], .sl [.int .i64]]) (.v n)
def J : Nat → List AV → List AV
 | 0, l => l
 | n + 1, l => .junk :: J n l
def allX (P : Program) : List Cal → Prop
 | [] => True
 | c :: cs => (ExtOk P c.I.f (extI c.I c.F) ∧ ∀ p, tab.ip c.I.f = some p → c.I.pats = [] ∧ ∀ v, c.F [v] = ipFn p [v]) ∧ allX P cs
theorem allX_mem {P : Program} : ∀ {cs : List Cal}, allX P cs → ∀ c ∈ cs, ExtOk P c.I.f (extI c.I c.F) ∧ ∀ p, tab.ip c.I.f = some p → c.I.pats = [] ∧ ∀ v, c.F [v] = ipFn p [v]
 | _ :: _, h, _, .head _ => h.1
 | _ :: _, h, _, .tail _ hc => allX_mem h.2 _ hc
def calF : List Cal → Nat → Nat → Option (List AV → Option AV)
 | [], _, _ => none
 | c :: cs, f, n => if c.I.f = f ∧ c.I.n = n then some c.F else calF cs f n
abbrev OE (cs : List Cal) (f n : Nat) (F : List AV → Option AV) : Prop := ∀ vs, calO cs f n vs = getJ (F vs)
theorem oG {f n : Nat} {F : List AV → Option AV} : ∀ {cs : List Cal}, calF cs f n = some F → ∀ vs, calO cs f n vs = getJ (F vs)
 | [], h, _ => by cases h
 | c :: cs, h, vs => by
   simp only [calF] at h
   simp only [calO]
   split at h
   ·rename_i hc; rw [if_pos hc]; injection h with h; rw [h]
   ·rename_i hc; rw [if_neg hc]; exact oG h vs
abbrev XO (i : Inst) (F : List AV → Option AV) := ExtOk Tryz.prog i.f (extI i F) ∧ ∀ p, tab.ip i.f = some p → i.pats = [] ∧ ∀ v, F [v] = ipFn p [v]
theorem XU {i : Inst} {cs : List Cal} {ds : List LoopD} {t : Te AV} (h : allX Tryz.prog cs) {x : FnE} (h1 : tab.fn.get i.f = some x) (h2 : x.fn.body.isNone = false) (h3 : unitChk tab keep cs ds 40 i.f i.pats t = true) : XO i (unitF (omL KK cs ds) t) :=
 ⟨unit_ext tabOf.1 tabOf.2 (fun c hc => (allX_mem h c hc).1) (fun c hc => ⟨(allX_mem h c hc).2, fun p hp => by cases hp⟩) (fn_known tabOf.1 h1 h2) h3, fun p hp => by rw [unit_ip h3] at hp; cases hp⟩
theorem XUL {i : Inst} {cs : List Cal} {ds : List LoopD} {t : Te AV} (h : allX Tryz.prog cs) {x : FnE} (h1 : tab.fn.get i.f = some x) (h2 : x.fn.body.isNone = false) (h3 : unitChk tabL keep cs ds 40 i.f i.pats t = true) : XO i (unitF (omL KK cs ds) t) :=
 ⟨unit_ext tabLOf.1 tabLOf.2 (fun c hc => (allX_mem h c hc).1) (fun c hc => ⟨(allX_mem h c hc).2, fun p hp => by cases hp⟩) (fn_known tabOf.1 h1 h2) h3, fun p hp => by rw [show tab.ip i.f = none from unit_ip (T := tabL) h3] at hp; cases hp⟩
theorem XV {i : Inst} (cs : List Cal) (ds : List LoopD) (t : Te AV) (x : FnE) (h : allX Tryz.prog cs) (h1 : tab.fn.get i.f = some x) (h2 : x.fn.body.isNone = false) (h3 : unitChk tab keep cs ds 40 i.f i.pats t = true) : XO i (unitF (omL KK cs ds) t) := XU h h1 h2 h3
theorem cal_cons (c : Cal) (cs : List Cal) (f n : Nat) (vs : List AV) : calO (c :: cs) f n vs = if c.I.f = f ∧ c.I.n = n then getJ (c.F vs) else calO cs f n vs := rfl
def w0 : ByteArray := ⟨#[]⟩
def w1 : ByteArray := ⟨#[100, 110, 115]⟩
def w2 : ByteArray := ⟨#[100, 110, 102]⟩
def w3 : ByteArray := ⟨#[100, 115, 113]⟩
def i142 : Inst := ⟨142, 0, [], [.one (.sl [.int .i64])]⟩
def F142 : List AV → Option AV := ipFn ipSort
def c142 : Cal := ⟨i142, F142⟩
def i143 : Inst := ⟨143, 0, [], [.one (.sl [.int .i64])]⟩
def F143 : List AV → Option AV := ipFn ipComp
def c143 : Cal := ⟨i143, F143⟩
theorem ext_none {i : Inst} {p : IpF} (h : i.pats = []) (args : List AV) : extI i (ipFn p) args = none := by
 unfold extI
 rw [h]
 cases args with
 | nil => rfl
 | cons _ _ => rfl
theorem x142 : XO i142 F142 := ⟨⟨(ipOk 142 _ rfl).1, fun args r h B0 nx0 w ρ vargs _ _ hg _ => by rw [F142, ext_none rfl] at hg; cases hg⟩, fun p hp => by cases hp; exact ⟨rfl, fun _ => rfl⟩⟩
theorem x143 : XO i143 F143 := ⟨⟨(ipOk 143 _ rfl).1, fun args r h B0 nx0 w ρ vargs _ _ hg _ => by rw [F143, ext_none rfl] at hg; cases hg⟩, fun p hp => by cases hp; exact ⟨rfl, fun _ => rfl⟩⟩
def XA (T : Tab) (c : Cal) : Prop := ExtOk Tryz.prog c.I.f (extI c.I c.F) ∧ (∀ p, T.ip c.I.f = some p → c.I.pats = [] ∧ ∀ v, c.F [v] = ipFn p [v]) ∧
 (∀ p, T.gp c.I.f = some p → c.I.pats = [] ∧ c.I.n = p.n ∧ c.F [] = none ∧ (∃ js, patWs p.pats = some js) ∧ ∀ args l, mtVs p.pats args = some l → l.map (·.1) = List.range l.length → p.g args = c.F (l.map (·.2)))
def allA (T : Tab) : List Cal → Prop
 | [] => True
 | c :: cs => XA T c ∧ allA T cs
theorem allA_mem {T : Tab} : ∀ {cs : List Cal}, allA T cs → ∀ c ∈ cs, XA T c
 | _ :: _, h, _, .head _ => h.1
 | _ :: _, h, _, .tail _ hc => allA_mem h.2 _ hc
theorem XO.up {i : Inst} {F : List AV → Option AV} (h : XO i F) {T : Tab} (h1 : T.ip i.f = tab.ip i.f) (h2 : T.gp i.f = none) : XA T ⟨i, F⟩ :=
 ⟨h.1, fun p hp => h.2 p (h1 ▸ hp), fun p hp => by rw [h2] at hp; cases hp⟩
def gpF (F : List AV → Option AV) : List AV → Option AV
 | [] => none
 | l => F l
def gpI (f : Nat) : Inst := ⟨f, 0, [], []⟩
def gpP (f : Nat) (csh : List Sh) (more : List AV) (F : List AV → Option AV) : GpF := ⟨.sym (.sl csh) (.v 0) :: more, 0, csh, extI ⟨f, 0, .sym (.sl csh) (.v 0) :: more, []⟩ F⟩
theorem gp_xa {f : Nat} {csh : List Sh} {more : List AV} {F : List AV → Option AV} {T : Tab} (hk : GpOk Tryz.prog f (gpP f csh more F)) (hip : T.ip f = none) (hgp : T.gp f = some (gpP f csh more F)) (hj : (patWs (.sym (.sl csh) (.v 0) :: more)).isSome = true) : XA T ⟨gpI f, gpF F⟩ := by
 have hno : ∀ args, extI (gpI f) (gpF F) args = none := fun args => by cases args <;> rfl
 refine ⟨⟨hk.1, fun args r h B0 nx0 w ρ vargs _ _ hg _ => by rw [hno] at hg; cases hg⟩, (fun p hp => by rw [show (Cal.mk (gpI f) (gpF F)).I.f = f from rfl, hip] at hp; cases hp), fun p hp => ?_⟩
 rw [show (Cal.mk (gpI f) (gpF F)).I.f = f from rfl, hgp] at hp
 injection hp with hp; subst hp
 refine ⟨rfl, rfl, rfl, Option.isSome_iff_exists.1 hj, fun args l hl hr => ?_⟩
 have hl' : mtVs (.sym (.sl csh) (.v 0) :: more) args = some l := hl
 show extI ⟨f, 0, .sym (.sl csh) (.v 0) :: more, []⟩ F args = gpF F (l.map (·.2))
 unfold extI
 simp only [hl']
 rw [if_pos hr]
 cases l with
 | cons a l => rfl
 | nil =>
   exfalso
   cases args with
   | nil => simp [mtVs] at hl'
   | cons a args => simp only [mtVs, mtV] at hl'; split at hl' <;> simp_all
noncomputable def tabG (f : Nat) (p : GpF) (pu : Nat → Bool) : Tab := { tab with gp := fun g => if g = f then some p else none, pu := pu }
theorem tabG_gp {f : Nat} {p : GpF} {pu : Nat → Bool} (h : GpOk Tryz.prog f p) : ∀ g q, (tabG f p pu).gp g = some q → GpOk Tryz.prog g q := by
 intro g q hq
 have hq : (if g = f then some p else none) = some q := hq
 by_cases e : g = f
 ·rw [if_pos e] at hq; have hq := Option.some.inj hq; rw [← hq, e]; exact h
 ·rw [if_neg e] at hq; exact absurd hq (by simp)
theorem tabG_of {f : Nat} {p : GpF} {pu : Nat → Bool} (h : GpOk Tryz.prog f p) : (tabG f p pu).Of Tryz.prog ∧ (tabG f p pu).Good Tryz.prog :=
 ⟨⟨tabOf.1.info, tabOf.1.under, tabOf.1.eqg, tabOf.1.held, tabOf.1.fn, tabOf.1.names⟩, ⟨tabOf.2.draws, tabOf.2.locs, tabOf.2.ip, tabG_gp h⟩⟩
def hasBody (T : Tab) (f : Nat) : Bool := match T.fn.get f with
 | some e => e.fn.body.isSome && e.fn.results.toList.isEmpty
 | none => false
theorem XUG {T : Tab} (hT : T.Of Tryz.prog ∧ T.Good Tryz.prog) {f : Nat} {csh : List Sh} {more : List AV} {cs : List Cal} {ds : List LoopD} {t : Te AV} (h : allA T cs) (hc : unitChkG T keep cs ds 40 f csh more t = true) (hb : hasBody T f = true) : GpOk Tryz.prog f (gpP f csh more (unitF (omL KK cs ds) t)) :=
 unit_gp hT.1 hT.2 (fun c hc => (allA_mem h c hc).1) (fun c hc => (allA_mem h c hc).2) hc (by
  unfold hasBody at hb
  split at hb
  ·rename_i e he
   simp only [Bool.and_eq_true, List.isEmpty_iff] at hb
   obtain ⟨code, hcode⟩ := Option.isSome_iff_exists.1 hb.1
   exact ⟨e, code, he, hcode, hb.2⟩
  ·cases hb)
theorem XUA {T : Tab} (hT : T.Of Tryz.prog ∧ T.Good Tryz.prog) (hip : T.ip = tab.ip) {i : Inst} {cs : List Cal} {ds : List LoopD} {t : Te AV} (h : allA T cs) {x : FnE} (h1 : T.fn.get i.f = some x) (h2 : x.fn.body.isNone = false) (h3 : unitChk T keep cs ds 40 i.f i.pats t = true) : XO i (unitF (omL KK cs ds) t) :=
 ⟨unit_ext hT.1 hT.2 (fun c hc => (allA_mem h c hc).1) (fun c hc => (allA_mem h c hc).2) (fn_known hT.1 h1 h2) h3, fun p hp => by rw [← hip, unit_ip h3] at hp; cases hp⟩
set_option maxRecDepth 100000
abbrev e76_0 := Q (LE (I 0) v2) (LT v2 (LN v0)) (.b false)
abbrev e76_1 := NE (C 0 v0 v2) (I 0)
abbrev e76_2 := LO 7600 [v0,(LN v0),(I 0)]
abbrev e76_3 := PJ 0 e76_2
abbrev e76_4 := EQ e76_3 (I 1)
abbrev e76_5 := EQ e76_3 (I 2)
abbrev e76_6 := Q e76_4 YY e76_5
abbrev e76_7 := PJ 1 e76_2
abbrev e76_8 := Q e76_4 e76_7 (I 0)
def B7600 : Te LEnd := .ite (LT v2 v1) (
 .need e76_0 (
 .ite e76_1 (
 .ok (.out 1 [(C 0 v0 v2)])) (
 .ok (.again [v0,v1,(AD v2 (I 1))])))) (
 .ok (.out 2 []))
def d7600 : LoopD := ⟨2,⟨7600,3,(J 5 ((S2 0) :: ((Si 1) :: ((Si 2) :: (J 7 []))))),⟨⟨0,[],[[]],none⟩,[],[]⟩,
 [(.ret,1,(J 2 ((Si 0) :: (J 12 []))),⟨⟨0,[],[[]],none⟩,[],[]⟩),
  (.exit 0,0,(J 15 []),⟨⟨0,[],[[]],none⟩,[],[]⟩)],[(1,[]),(2,[])]⟩,B7600⟩
@[simp] theorem d7600_id : d7600.L.id = 7600 := rfl
@[simp] theorem d7600_B : d7600.B = B7600 := rfl
def i76 : Inst := ⟨76, 0, [(S2 0)], [.one (.int .i64)]⟩
def s76 : List Cal := []
@[simp] def l76 : List LoopD := [d7600]
def t76 : Te AV := .need e76_6 (
 .ok (.sym (.int .i64) e76_8))
def F76 : List AV → Option AV := unitF (omL KK s76 l76) t76
def c76 : Cal := ⟨i76, F76⟩
theorem x76 : XO i76 F76 := XV s76 l76 t76 g76 trivial (by kernel_rfl) (by kernel_rfl) (by kernel_rfl)
def i80 : Inst := ⟨80, 0, [(Sb 0), (Si 1)], [.one (.int .i64)]⟩
def s80 : List Cal := []
@[simp] def l80 : List LoopD := []
def t80 : Te AV := .ok (.sym (.int .i64) (Q v0 v1 (I 0)))
def F80 : List AV → Option AV := unitF (omL KK s80 l80) t80
def c80 : Cal := ⟨i80, F80⟩
theorem x80 : XO i80 F80 := XV s80 l80 t80 g80 trivial (by kernel_rfl) (by kernel_rfl) (by kernel_rfl)
abbrev e88_0 : X := .p (.bin .geq .i32) [(.p .rune [v1,v2]),(.i .i32 (97))]
abbrev e88_1 : X := .p (.bin .leq .i32) [(.p .rune [v1,v2]),(.i .i32 (122))]
abbrev e88_2 : X := .p (.bin .geq .i32) [(.p .rune [v1,v2]),(.i .i32 (65))]
abbrev e88_3 : X := .p (.bin .leq .i32) [(.p .rune [v1,v2]),(.i .i32 (90))]
abbrev e88_4 := Q e88_2 e88_3 (.b false)
abbrev e88_5 := Q e88_1 YY e88_4
abbrev e88_6 := Q e88_0 e88_5 e88_4
abbrev e88_7 := NO e88_6
abbrev e88_8 : X := .p (.bin .neq .i32) [(.p .rune [v1,v2]),(.i .i32 (95))]
abbrev e88_9 : X := .p (.bin .lss .i32) [(.p .rune [v1,v2]),(.i .i32 (48))]
abbrev e88_10 : X := .p (.bin .gtr .i32) [(.p .rune [v1,v2]),(.i .i32 (57))]
abbrev e88_11 := Q e88_9 YY e88_10
abbrev e88_12 := Q e88_8 e88_11 (.b false)
abbrev e88_13 := Q (EQ v2 (I 0)) YY e88_12
abbrev e88_14 := Q e88_7 e88_13 (.b false)
abbrev e88_15 := LO 8800 [v0,v0,(I 0)]
abbrev e88_16 := PJ 0 e88_15
abbrev e88_17 := EQ e88_16 (I 1)
abbrev e88_18 := EQ e88_16 (I 2)
abbrev e88_19 := Q e88_17 YY e88_18
abbrev e88_20 := Q (SN v0 (.s w0)) (LE (LN v0) (I 24)) (.b false)
abbrev e88_21 := Q e88_17 (.b false) e88_20
def B8800 : Te LEnd := .ite (LT v2 (LN v1)) (
 .ite e88_14 (
 .ok (.out 1 [])) (
 .ok (.again [v0,v1,(.p .adv [v1,v2])]))) (
 .ok (.out 2 [v0]))
def d8800 : LoopD := ⟨2,⟨8800,3,((Ss 0) :: (J 5 ((.sym (.sown 0) YY) :: (J 30 [])))),⟨⟨1,[],[[]],none⟩,[(0,.si v1 v2)],[]⟩,
 [(.ret,0,(J 2 ((.bool false) :: (J 34 []))),⟨⟨1,[],[[]],none⟩,[],[]⟩),
  (.exit 0,1,((Ss 0) :: (J 36 [])),⟨⟨1,[],[[]],none⟩,[],[]⟩)],[(1,[]),(2,[(0,0)])]⟩,B8800⟩
@[simp] theorem d8800_id : d8800.L.id = 8800 := rfl
@[simp] theorem d8800_B : d8800.B = B8800 := rfl
def i88 : Inst := ⟨88, 0, [(Ss 0)], [.one .bool]⟩
def s88 : List Cal := []
@[simp] def l88 : List LoopD := [d8800]
def t88 : Te AV := .need e88_19 (
 .ok (.sym .bool e88_21))
def F88 : List AV → Option AV := unitF (omL KK s88 l88) t88
def c88 : Cal := ⟨i88, F88⟩
theorem x88 : XO i88 F88 := XV s88 l88 t88 g88 trivial (by kernel_rfl) (by kernel_rfl) (by kernel_rfl)
abbrev e89_0 := Q (LE (I 0) v1) (LT v1 (LN v0)) (.b false)
abbrev e89_1 : X := .p (.bin .geq .u8) [(.p .byte [v0,v1]),(.i .u8 (97))]
abbrev e89_2 : X := .p (.bin .leq .u8) [(.p .byte [v0,v1]),(.i .u8 (122))]
abbrev e89_3 : X := .p (.bin .geq .u8) [(.p .byte [v0,v1]),(.i .u8 (65))]
abbrev e89_4 : X := .p (.bin .leq .u8) [(.p .byte [v0,v1]),(.i .u8 (90))]
abbrev e89_5 := Q e89_3 e89_4 (.b false)
abbrev e89_6 := Q e89_2 YY e89_5
abbrev e89_7 := Q e89_1 e89_6 e89_5
abbrev e89_8 := NO e89_7
abbrev e89_9 : X := .p (.bin .geq .u8) [(.p .byte [v0,v1]),(.i .u8 (48))]
abbrev e89_10 : X := .p (.bin .leq .u8) [(.p .byte [v0,v1]),(.i .u8 (57))]
abbrev e89_11 : X := .p (.bin .eql .u8) [(.p .byte [v0,v1]),(.i .u8 (95))]
abbrev e89_12 := NO e89_11
abbrev e89_13 := Q e89_10 (.b false) e89_12
abbrev e89_14 := Q e89_9 e89_13 e89_12
abbrev e89_15 := Q (EQ v1 (I 0)) YY e89_14
abbrev e89_16 := Q e89_8 e89_15 (.b false)
abbrev e89_17 := GT (LN v0) (I 24)
abbrev e89_18 := Q (LT (LN v0) (I 1)) YY e89_17
abbrev e89_19 := LO 8900 [v0,(I 0)]
abbrev e89_20 := PJ 0 e89_19
abbrev e89_21 := EQ e89_20 (I 1)
abbrev e89_22 := EQ e89_20 (I 2)
abbrev e89_23 := Q e89_21 YY e89_22
abbrev e89_24 := Q e89_18 YY e89_23
abbrev e89_25 := Q e89_21 (.b false) YY
abbrev e89_26 := Q e89_18 (.b false) e89_25
def B8900 : Te LEnd := .ite (LT v1 (LN v0)) (
 .need e89_0 (
 .ite e89_16 (
 .ok (.out 1 [])) (
 .ok (.again [v0,(AD v1 (I 1))])))) (
 .ok (.out 2 []))
def d8900 : LoopD := ⟨4,⟨8900,2,((Ss 0) :: (J 2 ((Si 1) :: (J 52 [])))),⟨⟨0,[],[[]],none⟩,[],[]⟩,
 [(.ret,0,(J 2 ((.bool false) :: (J 53 []))),⟨⟨0,[],[[]],none⟩,[],[]⟩),
  (.exit 0,0,(J 56 []),⟨⟨0,[],[[]],none⟩,[],[]⟩)],[(1,[]),(2,[])]⟩,B8900⟩
@[simp] theorem d8900_id : d8900.L.id = 8900 := rfl
@[simp] theorem d8900_B : d8900.B = B8900 := rfl
def i89 : Inst := ⟨89, 0, [(Ss 0)], [.one .bool]⟩
def s89 : List Cal := []
@[simp] def l89 : List LoopD := [d8900]
def t89 : Te AV := .need e89_24 (
 .ok (.sym .bool e89_26))
def F89 : List AV → Option AV := unitF (omL KK s89 l89) t89
def c89 : Cal := ⟨i89, F89⟩
theorem x89 : XO i89 F89 := XV s89 l89 t89 g89 trivial (by kernel_rfl) (by kernel_rfl) (by kernel_rfl)
abbrev e77_0 := OI (K 80 [YY,(I 3)])
abbrev e77_1 := Q (LT v0 v1) e77_0 YY
abbrev e77_2 := K 80 [(GT v0 v2),(I 3)]
abbrev e77_3 := OI e77_2
abbrev e77_4 := Q (LT v0 v1) YY e77_3
abbrev e77_5 := Q (LT v0 v1) (K 80 [YY,(I 3)]) e77_2
def i77 : Inst := ⟨77, 0, [(Si 0), (Si 1), (Si 2)], [.one (.int .i64)]⟩
def s77 : List Cal := [c80]
@[simp] theorem o77_80 : OE s77 80 0 F80 := oG rfl
@[simp] def l77 : List LoopD := []
def t77 : Te AV := .need e77_1 (
 .need e77_4 (
 .ok (.sym (.int .i64) e77_5)))
def F77 : List AV → Option AV := unitF (omL KK s77 l77) t77
def c77 : Cal := ⟨i77, F77⟩
theorem x77 : XO i77 F77 := XV s77 l77 t77 g77 ⟨x80, trivial⟩ (by kernel_rfl) (by kernel_rfl) (by kernel_rfl)
abbrev e36_0 := Q (LE (I 0) v2) (LT v2 (LN v0)) (.b false)
abbrev e36_1 := OB (K 88 [(C 0 v0 v2)])
abbrev e36_2 := NO (K 88 [(C 0 v0 v2)])
abbrev e36_3 := K 80 [e36_2,(I 8)]
abbrev e36_4 := OI e36_3
abbrev e36_5 : X := .p (.mget false) [v3,(C 0 v0 v2),(.b false)]
abbrev e36_6 := K 80 [e36_5,(I 9)]
abbrev e36_7 := OI e36_6
abbrev e36_8 := K 77 [(C 1 v0 v2),(I 0),(I 99999)]
abbrev e36_9 := OI e36_8
abbrev e36_10 := K 77 [(C 2 v0 v2),(I 0),(I 99999)]
abbrev e36_11 := OI e36_10
abbrev e36_12 := GT (C 1 v0 v2) (C 2 v0 v2)
abbrev e36_13 := K 80 [e36_12,(I 11)]
abbrev e36_14 := OI e36_13
abbrev e36_15 : X := .sl 1 [[e36_3],[e36_6],[e36_8],[e36_10],[e36_13]]
abbrev e36_16 := K 76 [e36_15]
abbrev e36_17 := OI e36_16
abbrev e36_18 := NE e36_16 (I 0)
abbrev e36_19 : X := .p .mput [v3,(C 0 v0 v2),YY]
abbrev e36_20 := K 80 [(EQ (LN v0) (I 0)),(I 12)]
abbrev e36_21 := OI e36_20
abbrev e36_22 := GT (LN v0) (I 160)
abbrev e36_23 := K 80 [e36_22,(I 5)]
abbrev e36_24 := OI e36_23
abbrev e36_25 : X := .sl 1 [[e36_20],[e36_23]]
abbrev e36_26 := K 76 [e36_25]
abbrev e36_27 := OI e36_26
abbrev e36_28 := NE e36_26 (I 0)
abbrev e36_29 := LO 3600 [v0,(LN v0),(I 0),(.p .mnew [])]
abbrev e36_30 := PJ 0 e36_29
abbrev e36_31 := EQ e36_30 (I 1)
abbrev e36_32 := EQ e36_30 (I 2)
abbrev e36_33 := Q e36_31 YY e36_32
abbrev e36_34 := Q e36_28 YY e36_33
abbrev e36_35 := PJ 1 e36_29
abbrev e36_36 := Q e36_31 e36_35 (I 0)
abbrev e36_37 := Q e36_28 e36_26 e36_36
def B3600 : Te LEnd := .ite (LT v2 v1) (
 .need e36_0 (
 .need e36_1 (
 .need e36_4 (
 .need e36_7 (
 .need e36_9 (
 .need e36_11 (
 .need e36_14 (
 .need e36_17 (
 .ite e36_18 (
 .ok (.out 1 [e36_16])) (
 .ok (.again [v0,v1,(AD v2 (I 1)),e36_19]))))))))))) (
 .ok (.out 2 []))
def d3600 : LoopD := ⟨6,⟨3600,4,(J 4 ((.sym (.mown 1 .str false [.bool]) YY) :: (J 17 ((.sym (.sl [.str,(.int .i64),(.int .i64)]) v0) :: ((Si 1) :: ((Si 2) :: (J 34 []))))))),⟨⟨4,[],[[]],none⟩,[(1,.mp .str false [.bool] v3)],[]⟩,
 [(.ret,1,(J 2 ((Si 0) :: (J 56 []))),⟨⟨6,[],[[]],none⟩,[],[]⟩),
  (.exit 0,0,(J 59 []),⟨⟨4,[],[[]],none⟩,[],[]⟩)],[(1,[]),(2,[])]⟩,B3600⟩
@[simp] theorem d3600_id : d3600.L.id = 3600 := rfl
@[simp] theorem d3600_B : d3600.B = B3600 := rfl
def i36 : Inst := ⟨36, 0, [(.sym (.sl [.str, (.int .i64), (.int .i64)]) (.v 0))], [.one (.int .i64)]⟩
def s36 : List Cal := [c80, c76, c88, c77]
@[simp] theorem o36_80 : OE s36 80 0 F80 := oG rfl
@[simp] theorem o36_76 : OE s36 76 0 F76 := oG rfl
@[simp] theorem o36_88 : OE s36 88 0 F88 := oG rfl
@[simp] theorem o36_77 : OE s36 77 0 F77 := oG rfl
@[simp] def l36 : List LoopD := [d3600]
def t36 : Te AV := .need e36_21 (
 .need e36_24 (
 .need e36_27 (
 .need e36_34 (
 .ok (.sym (.int .i64) e36_37)))))
def F36 : List AV → Option AV := unitF (omL KK s36 l36) t36
def c36 : Cal := ⟨i36, F36⟩
theorem x36 : XO i36 F36 := XV s36 l36 t36 g36 ⟨x80, x76, x88, x77, trivial⟩ (by kernel_rfl) (by kernel_rfl) (by kernel_rfl)
abbrev e86_0 := OI (K 36 [v0])
abbrev e86_1 := OI (K 80 [YY,(I 10)])
abbrev e86_2 := Q (LT v1 (I 0)) e86_1 YY
abbrev e86_3 : X := .sl 1 [[(K 36 [v0])],[(K 80 [YY,(I 10)])]]
abbrev e86_4 := K 76 [e86_3]
abbrev e86_5 := OI e86_4
abbrev e86_6 := Q (LT v1 (I 0)) e86_5 YY
abbrev e86_7 := GE v1 (LN v0)
abbrev e86_8 := K 80 [e86_7,(I 10)]
abbrev e86_9 := OI e86_8
abbrev e86_10 := Q (LT v1 (I 0)) YY e86_9
abbrev e86_11 : X := .sl 1 [[(K 36 [v0])],[e86_8]]
abbrev e86_12 := K 76 [e86_11]
abbrev e86_13 := OI e86_12
abbrev e86_14 := Q (LT v1 (I 0)) YY e86_13
abbrev e86_15 := Q (LT v1 (I 0)) e86_4 e86_12
def i86 : Inst := ⟨86, 0, [(.sym (.sl [.str, (.int .i64), (.int .i64)]) (.v 0)), (Si 1)], [.one (.int .i64)]⟩
def s86 : List Cal := [c36, c80, c76]
@[simp] theorem o86_36 : OE s86 36 0 F36 := oG rfl
@[simp] theorem o86_80 : OE s86 80 0 F80 := oG rfl
@[simp] theorem o86_76 : OE s86 76 0 F76 := oG rfl
@[simp] def l86 : List LoopD := []
def t86 : Te AV := .need e86_0 (
 .need e86_2 (
 .need e86_6 (
 .need e86_10 (
 .need e86_14 (
 .ok (.sym (.int .i64) e86_15))))))
def F86 : List AV → Option AV := unitF (omL KK s86 l86) t86
def c86 : Cal := ⟨i86, F86⟩
theorem x86 : XO i86 F86 := XV s86 l86 t86 g86 ⟨x36, x80, x76, trivial⟩ (by kernel_rfl) (by kernel_rfl) (by kernel_rfl)
abbrev e106_0 := Q (LE (I 0) v6) (LT v6 (LN v4)) (.b false)
abbrev e106_1 := GT (C 1 v4 v6) v1
abbrev e106_2 := Q e106_1 (AD v2 (I 1)) v2
abbrev e106_3 := Q (EQ v6 v0) v2 e106_2
abbrev e106_4 := GT (C 2 v4 v6) v1
abbrev e106_5 := Q e106_4 (AD v3 (I 1)) v3
abbrev e106_6 := Q (EQ v6 v0) v3 e106_5
abbrev e106_7 := LO 10600 [v1,v2,(I 0),(I 0),v0,(LN v0),(I 0)]
abbrev e106_8 := PJ 0 e106_7
abbrev e106_9 := EQ e106_8 (I 1)
abbrev e106_10 := PJ 1 e106_7
abbrev e106_11 := PJ 2 e106_7
def B10600 : Te LEnd := .ite (LT v6 v5) (
 .need e106_0 (
 .ok (.again [v0,v1,e106_3,e106_6,v4,v5,(AD v6 (I 1))]))) (
 .ok (.out 1 [v2,v3]))
def d10600 : LoopD := ⟨3,⟨10600,7,(J 1 ((Si 0) :: ((Si 1) :: (J 5 ((Si 2) :: ((Si 3) :: (J 2 ((.sym (.sl [.str,(.int .i64),(.int .i64)]) v4) :: ((Si 5) :: ((Si 6) :: (J 22 []))))))))))),⟨⟨1,[],[[]],none⟩,[],[]⟩,
 [(.exit 0,2,(J 8 ((Si 0) :: ((Si 1) :: (J 27 [])))),⟨⟨1,[],[[]],none⟩,[],[]⟩)],[(1,[])]⟩,B10600⟩
@[simp] theorem d10600_id : d10600.L.id = 10600 := rfl
@[simp] theorem d10600_B : d10600.B = B10600 := rfl
def i106 : Inst := ⟨106, 0, [(.sym (.sl [.str, (.int .i64), (.int .i64)]) (.v 0)), (Si 1), (Si 2)], [.one (.int .i64), .one (.int .i64)]⟩
def s106 : List Cal := []
@[simp] def l106 : List LoopD := [d10600]
def t106 : Te AV := .need e106_9 (
 .ok (.tuple [(.sym (.int .i64) e106_10),(.sym (.int .i64) e106_11)]))
def F106 : List AV → Option AV := unitF (omL KK s106 l106) t106
def c106 : Cal := ⟨i106, F106⟩
theorem x106 : XO i106 F106 := XV s106 l106 t106 g106 trivial (by kernel_rfl) (by kernel_rfl) (by kernel_rfl)
abbrev e111_0 := Q (LE (I 0) v3) (LT v3 (LN v1)) (.b false)
abbrev e111_1 := GT (C 1 v1 v3) v5
abbrev e111_2 := Q e111_1 (LE (C 1 v1 v3) v6) (.b false)
abbrev e111_3 : X := .p (.app 1) [v0,(.sl 1 [[(C 1 v1 v3)]])]
abbrev e111_4 := LN e111_3
abbrev e111_5 := LE e111_4 (I 1073741824)
abbrev e111_6 := GT (C 2 v1 v3) v5
abbrev e111_7 := Q e111_6 (LE (C 2 v1 v3) v6) (.b false)
abbrev e111_8 : X := .p (.app 1) [e111_3,(.sl 1 [[(C 2 v1 v3)]])]
abbrev e111_9 := LN e111_8
abbrev e111_10 := LE e111_9 (I 1073741824)
abbrev e111_11 : X := .p (.app 1) [v0,(.sl 1 [[(C 2 v1 v3)]])]
abbrev e111_12 := LN e111_11
abbrev e111_13 := LE e111_12 (I 1073741824)
abbrev e111_14 := Q (LE (I 0) v1) (LT v1 (LN v0)) (.b false)
abbrev e111_15 := LO 11100 [(.sl 1 [[(C 1 v0 v1)]]),v0,(LN v0),(I 0),(C 0 v0 v1),(C 1 v0 v1),(C 2 v0 v1)]
abbrev e111_16 := PJ 0 e111_15
abbrev e111_17 := EQ e111_16 (I 1)
abbrev e111_18 := PJ 1 e111_15
abbrev e111_19 : X := .p .isNil [e111_18]
abbrev e111_20 := NO e111_19
abbrev e111_21 := K 142 [e111_18]
abbrev e111_22 : X := .p (.okr [.one (.sl [(.int .i64)])]) [e111_21]
abbrev e111_23 := LN e111_18
abbrev e111_24 := LN e111_21
abbrev e111_25 := EQ e111_23 e111_24
abbrev e111_26 : X := .p .whole [e111_18,e111_21]
abbrev e111_27 : X := .p .isNil [e111_26]
abbrev e111_28 := NO e111_27
abbrev e111_29 := K 143 [e111_26]
abbrev e111_30 : X := .p (.okr [.one (.sl [(.int .i64)])]) [e111_29]
def B11100 : Te LEnd := .ite (LT v3 v2) (
 .need e111_0 (
 .ite e111_2 (
 .need e111_5 (
 .ite e111_7 (
 .need e111_10 (
 .ok (.again [e111_8,v1,v2,(AD v3 (I 1)),v4,v5,v6]))) (
 .ok (.again [e111_3,v1,v2,(AD v3 (I 1)),v4,v5,v6])))) (
 .ite e111_7 (
 .need e111_13 (
 .ok (.again [e111_11,v1,v2,(AD v3 (I 1)),v4,v5,v6]))) (
 .ok (.again [v0,v1,v2,(AD v3 (I 1)),v4,v5,v6]))))) (
 .ok (.out 1 [v0]))
def d11100 : LoopD := ⟨4,⟨11100,7,(J 5 ((.ptr 0 0 0) :: ((.sym (.own 2 [(.int .i64)]) v0) :: (J 11 ((.sym (.sl [.str,(.int .i64),(.int .i64)]) v1) :: ((Si 2) :: ((Si 3) :: (J 33 [])))))))),⟨⟨8,[(1,.dead),(0,.cells 3 [[(Ss 4),(Si 5),(Si 6)]])],[[]],none⟩,[(2,.rows [(.int .i64)] v0)],[]⟩,
 [(.exit 0,1,(J 6 ((.sym (.own 2 [(.int .i64)]) v0) :: (J 47 []))),⟨⟨8,[],[[]],none⟩,[(2,.rows [(.int .i64)] v0)],[]⟩)],[(1,[])]⟩,B11100⟩
@[simp] theorem d11100_id : d11100.L.id = 11100 := rfl
@[simp] theorem d11100_B : d11100.B = B11100 := rfl
def i111 : Inst := ⟨111, 0, [(.sym (.sl [.str, (.int .i64), (.int .i64)]) (.v 0)), (Si 1)], [.one (.sl [(.int .i64)])]⟩
def s111 : List Cal := [c142, c143]
@[simp] theorem o111_142 : OE s111 142 0 F142 := oG rfl
@[simp] theorem o111_143 : OE s111 143 0 F143 := oG rfl
@[simp] def l111 : List LoopD := [d11100]
def t111 : Te AV := .need e111_14 (
 .need e111_17 (
 .need e111_20 (
 .need e111_22 (
 .need e111_25 (
 .need e111_28 (
 .need e111_30 (
 .ok (.sym (.sl [(.int .i64)]) e111_29))))))))
def F111 : List AV → Option AV := unitF (omL KK s111 l111) t111
def c111 : Cal := ⟨i111, F111⟩
theorem x111 : XO i111 F111 := XV s111 l111 t111 g111 ⟨x142, x143, trivial⟩ (by kernel_rfl) (by kernel_rfl) (by kernel_rfl)
abbrev e87_0 := Q (LE (I 0) v5) (LT v5 (LN v3)) (.b false)
abbrev e87_1 := K 106 [v0,v1,(C 0 v3 v5)]
abbrev e87_2 : X := .p (.okr [.one (.int .i64),.one (.int .i64)]) [e87_1]
abbrev e87_3 := PJ 0 e87_1
abbrev e87_4 := LT e87_3 v2
abbrev e87_5 := PJ 1 e87_1
abbrev e87_6 := AD e87_5 (I 1)
abbrev e87_7 := LE v2 e87_6
abbrev e87_8 := Q e87_4 e87_7 (.b false)
abbrev e87_9 : X := .p (.okr [.one (.sl [(.int .i64)])]) [(K 111 [v0,v1])]
abbrev e87_10 := LO 8700 [v0,v1,v2,(K 111 [v0,v1]),(LN (K 111 [v0,v1])),(I 0)]
abbrev e87_11 := PJ 0 e87_10
abbrev e87_12 := EQ e87_11 (I 1)
abbrev e87_13 := EQ e87_11 (I 2)
abbrev e87_14 := Q e87_12 YY e87_13
abbrev e87_15 := PJ 1 e87_10
abbrev e87_16 := Q e87_12 e87_15 (I 0)
abbrev e87_17 := Q e87_12 YY (.b false)
def B8700 : Te LEnd := .ite (LT v5 v4) (
 .need e87_0 (
 .need e87_2 (
 .ite e87_8 (
 .ok (.out 1 [(C 0 v3 v5)])) (
 .ok (.again [v0,v1,v2,v3,v4,(AD v5 (I 1))]))))) (
 .ok (.out 2 []))
def d8700 : LoopD := ⟨2,⟨8700,6,((.sym (.sl [.str,(.int .i64),(.int .i64)]) v0) :: ((Si 1) :: ((Si 2) :: (J 11 ((S2 3) :: ((Si 4) :: ((Si 5) :: (J 21 [])))))))),⟨⟨0,[],[[]],none⟩,[],[]⟩,
 [(.ret,1,(J 6 ((Si 0) :: ((.bool true) :: (J 30 [])))),⟨⟨0,[],[[]],none⟩,[],[]⟩),
  (.exit 0,0,(J 38 []),⟨⟨0,[],[[]],none⟩,[],[]⟩)],[(1,[]),(2,[])]⟩,B8700⟩
@[simp] theorem d8700_id : d8700.L.id = 8700 := rfl
@[simp] theorem d8700_B : d8700.B = B8700 := rfl
def i87 : Inst := ⟨87, 0, [(.sym (.sl [.str, (.int .i64), (.int .i64)]) (.v 0)), (Si 1), (Si 2)], [.one (.int .i64), .one .bool]⟩
def s87 : List Cal := [c111, c106]
@[simp] theorem o87_111 : OE s87 111 0 F111 := oG rfl
@[simp] theorem o87_106 : OE s87 106 0 F106 := oG rfl
@[simp] def l87 : List LoopD := [d8700]
def t87 : Te AV := .need e87_9 (
 .need e87_14 (
 .ok (.tuple [(.sym (.int .i64) e87_16),(.sym .bool e87_17)])))
def F87 : List AV → Option AV := unitF (omL KK s87 l87) t87
def c87 : Cal := ⟨i87, F87⟩
theorem x87 : XO i87 F87 := XV s87 l87 t87 g87 ⟨x111, x106, trivial⟩ (by kernel_rfl) (by kernel_rfl) (by kernel_rfl)
abbrev e107_0 := Q (LE (I 0) v4) (LT v4 (LN v0)) (.b false)
abbrev e107_1 := Q (NE v4 v1) e107_0 YY
abbrev e107_2 := GT (C 1 v0 v4) v2
abbrev e107_3 := Q (NE v4 v1) e107_2 (.b false)
abbrev e107_4 := Q e107_3 (AD v3 (I 1)) v3
abbrev e107_5 := LO 10700 [v0,v1,v2,(I 0),(I 0)]
abbrev e107_6 := PJ 0 e107_5
abbrev e107_7 := EQ e107_6 (I 1)
abbrev e107_8 := PJ 1 e107_5
def B10700 : Te LEnd := .ite (LT v4 (LN v0)) (
 .need e107_1 (
 .ok (.again [v0,v1,v2,e107_4,(AD v4 (I 1))]))) (
 .ok (.out 1 [v3]))
def d10700 : LoopD := ⟨3,⟨10700,5,((.sym (.sl [.str,(.int .i64),(.int .i64)]) v0) :: ((Si 1) :: ((Si 2) :: (J 4 ((Si 3) :: ((Si 4) :: (J 21 []))))))),⟨⟨0,[],[[]],none⟩,[],[]⟩,
 [(.exit 0,1,(J 7 ((Si 0) :: (J 22 []))),⟨⟨0,[],[[]],none⟩,[],[]⟩)],[(1,[])]⟩,B10700⟩
@[simp] theorem d10700_id : d10700.L.id = 10700 := rfl
@[simp] theorem d10700_B : d10700.B = B10700 := rfl
def i107 : Inst := ⟨107, 0, [(.sym (.sl [.str, (.int .i64), (.int .i64)]) (.v 0)), (Si 1), (Si 2)], [.one (.int .i64)]⟩
def s107 : List Cal := []
@[simp] def l107 : List LoopD := [d10700]
def t107 : Te AV := .need e107_7 (
 .ok (.sym (.int .i64) e107_8))
def F107 : List AV → Option AV := unitF (omL KK s107 l107) t107
def c107 : Cal := ⟨i107, F107⟩
theorem x107 : XO i107 F107 := XV s107 l107 t107 g107 trivial (by kernel_rfl) (by kernel_rfl) (by kernel_rfl)
abbrev e108_0 := Q (LE (I 0) v4) (LT v4 (LN v0)) (.b false)
abbrev e108_1 := Q (NE v4 v1) e108_0 YY
abbrev e108_2 := GT (C 2 v0 v4) v2
abbrev e108_3 := Q (NE v4 v1) e108_2 (.b false)
abbrev e108_4 := Q e108_3 (AD v3 (I 1)) v3
abbrev e108_5 := LO 10800 [v0,v1,v2,(I 0),(I 0)]
abbrev e108_6 := PJ 0 e108_5
abbrev e108_7 := EQ e108_6 (I 1)
abbrev e108_8 := PJ 1 e108_5
def B10800 : Te LEnd := .ite (LT v4 (LN v0)) (
 .need e108_1 (
 .ok (.again [v0,v1,v2,e108_4,(AD v4 (I 1))]))) (
 .ok (.out 1 [v3]))
def d10800 : LoopD := ⟨3,⟨10800,5,((.sym (.sl [.str,(.int .i64),(.int .i64)]) v0) :: ((Si 1) :: ((Si 2) :: (J 4 ((Si 3) :: ((Si 4) :: (J 21 []))))))),⟨⟨0,[],[[]],none⟩,[],[]⟩,
 [(.exit 0,1,(J 7 ((Si 0) :: (J 22 []))),⟨⟨0,[],[[]],none⟩,[],[]⟩)],[(1,[])]⟩,B10800⟩
@[simp] theorem d10800_id : d10800.L.id = 10800 := rfl
@[simp] theorem d10800_B : d10800.B = B10800 := rfl
def i108 : Inst := ⟨108, 0, [(.sym (.sl [.str, (.int .i64), (.int .i64)]) (.v 0)), (Si 1), (Si 2)], [.one (.int .i64)]⟩
def s108 : List Cal := []
@[simp] def l108 : List LoopD := [d10800]
def t108 : Te AV := .need e108_7 (
 .ok (.sym (.int .i64) e108_8))
def F108 : List AV → Option AV := unitF (omL KK s108 l108) t108
def c108 : Cal := ⟨i108, F108⟩
theorem x108 : XO i108 F108 := XV s108 l108 t108 g108 trivial (by kernel_rfl) (by kernel_rfl) (by kernel_rfl)
abbrev e57_0 := Q (LE (I 0) v1) (LT v1 (LN v0)) (.b false)
abbrev e57_1 := K 107 [v0,v1,v3]
abbrev e57_2 := OI e57_1
abbrev e57_3 := LT e57_1 v2
abbrev e57_4 := K 108 [v0,v1,v3]
abbrev e57_5 := OI e57_4
abbrev e57_6 := Q e57_3 e57_5 YY
abbrev e57_7 := GE e57_4 (SB v2 (I 1))
abbrev e57_8 := Q e57_3 e57_7 (.b false)
abbrev e57_9 := LO 5700 [v0,v1,v2,(C 1 v0 v1)]
abbrev e57_10 := PJ 0 e57_9
abbrev e57_11 := EQ e57_10 (I 1)
abbrev e57_12 := EQ e57_10 (I 2)
abbrev e57_13 := Q e57_11 YY e57_12
abbrev e57_14 := Q e57_11 YY (.b false)
def B5700 : Te LEnd := .need e57_0 (
 .ite (LE v3 (C 2 v0 v1)) (
 .need e57_2 (
 .need e57_6 (
 .ite e57_8 (
 .ok (.out 1 [])) (
 .ok (.again [v0,v1,v2,(AD v3 (I 1))]))))) (
 .ok (.out 2 [])))
def d5700 : LoopD := ⟨2,⟨5700,4,((.sym (.sl [.str,(.int .i64),(.int .i64)]) v0) :: ((Si 1) :: ((Si 2) :: (J 4 ((Si 3) :: (J 29 [])))))),⟨⟨0,[],[[]],none⟩,[],[]⟩,
 [(.ret,0,(J 6 ((.bool true) :: (J 30 []))),⟨⟨0,[],[[]],none⟩,[],[]⟩),
  (.exit 0,0,(J 37 []),⟨⟨0,[],[[]],none⟩,[],[]⟩)],[(1,[]),(2,[])]⟩,B5700⟩
@[simp] theorem d5700_id : d5700.L.id = 5700 := rfl
@[simp] theorem d5700_B : d5700.B = B5700 := rfl
def i57 : Inst := ⟨57, 0, [(.sym (.sl [.str, (.int .i64), (.int .i64)]) (.v 0)), (Si 1), (Si 2)], [.one .bool]⟩
def s57 : List Cal := [c107, c108]
@[simp] theorem o57_107 : OE s57 107 0 F107 := oG rfl
@[simp] theorem o57_108 : OE s57 108 0 F108 := oG rfl
@[simp] def l57 : List LoopD := [d5700]
def t57 : Te AV := .need e57_0 (
 .need e57_13 (
 .ok (.sym .bool e57_14)))
def F57 : List AV → Option AV := unitF (omL KK s57 l57) t57
def c57 : Cal := ⟨i57, F57⟩
theorem x57 : XO i57 F57 := XV s57 l57 t57 g57 ⟨x107, x108, trivial⟩ (by kernel_rfl) (by kernel_rfl) (by kernel_rfl)
abbrev e37_0 := Q (LE (I 0) v1) (LT v1 (LN v0)) (.b false)
abbrev e37_1 := OB (K 89 [(C 0 v0 v1)])
abbrev e37_2 := NO (K 89 [(C 0 v0 v1)])
abbrev e37_3 := LO 3701 [v0,v1,(I 0),(C 0 v0 v1),(C 1 v0 v1),(C 2 v0 v1)]
abbrev e37_4 := PJ 0 e37_3
abbrev e37_5 := EQ e37_4 (I 1)
abbrev e37_6 := EQ e37_4 (I 2)
abbrev e37_7 := GT (C 1 v0 v1) (I 99999)
abbrev e37_8 := GT (C 2 v0 v1) (I 99999)
abbrev e37_9 := Q (LT (C 2 v0 v1) (I 0)) YY e37_8
abbrev e37_10 := Q e37_7 YY e37_9
abbrev e37_11 := Q (LT (C 1 v0 v1) (I 0)) YY e37_10
abbrev e37_12 := GT (C 1 v0 v1) (C 2 v0 v1)
abbrev e37_13 := Q (LE (I 0) v2) (LT v2 (LN v0)) (.b false)
abbrev e37_14 := SE (C 0 v0 v2) v3
abbrev e37_15 := GT (LN v0) (I 160)
abbrev e37_16 := LO 3700 [v0,(I 0)]
abbrev e37_17 := PJ 0 e37_16
abbrev e37_18 := EQ e37_17 (I 1)
abbrev e37_19 := EQ e37_17 (I 2)
abbrev e37_20 := Q e37_18 YY e37_19
abbrev e37_21 := Q e37_15 YY e37_20
abbrev e37_22 := Q (EQ (LN v0) (I 0)) YY e37_21
abbrev e37_23 := PJ 1 e37_16
abbrev e37_24 := Q e37_18 e37_23 (I 0)
abbrev e37_25 := Q e37_15 (I 5) e37_24
abbrev e37_26 := Q (EQ (LN v0) (I 0)) (I 12) e37_25
def B3700 : Te LEnd := .ite (LT v1 (LN v0)) (
 .need e37_0 (
 .need e37_1 (
 .ite e37_2 (
 .ok (.out 1 [(I 8)])) (
 .ite e37_5 (
 .ok (.out 1 [(I 9)])) (
 .need e37_6 (
 .ite e37_11 (
 .ok (.out 1 [(I 3)])) (
 .ite e37_12 (
 .ok (.out 1 [(I 11)])) (
 .ok (.again [v0,(AD v1 (I 1))]))))))))) (
 .ok (.out 2 []))
def d3700 : LoopD := ⟨6,⟨3700,2,((.sym (.sl [.str,(.int .i64),(.int .i64)]) v0) :: (J 2 ((Si 1) :: (J 58 [])))),⟨⟨1,[],[[]],none⟩,[],[]⟩,
 [(.ret,1,(J 2 ((Si 0) :: (J 59 []))),⟨⟨2,[],[[]],none⟩,[],[]⟩),
  (.exit 0,0,(J 62 []),⟨⟨1,[],[[]],none⟩,[],[]⟩)],[(1,[]),(2,[])]⟩,B3700⟩
@[simp] theorem d3700_id : d3700.L.id = 3700 := rfl
@[simp] theorem d3700_B : d3700.B = B3700 := rfl
def B3701 : Te LEnd := .ite (LT v2 v1) (
 .need e37_13 (
 .ite e37_14 (
 .ok (.out 1 [])) (
 .ok (.again [v0,v1,(AD v2 (I 1)),v3,v4,v5])))) (
 .ok (.out 2 [v0,v1,v3,v4,v5]))
def d3701 : LoopD := ⟨12,⟨3701,6,((.sym (.sl [.str,(.int .i64),(.int .i64)]) v0) :: (J 2 ((Si 1) :: ((.ptr 1 0 0) :: ((Si 2) :: (J 56 [])))))),⟨⟨2,[(1,.cells 3 [[(Ss 3),(Si 4),(Si 5)]])],[[]],none⟩,[],[]⟩,
 [(.ret,0,(J 2 ((.int .i64 (9)) :: (J 59 []))),⟨⟨2,[],[[]],none⟩,[],[]⟩),
  (.exit 2,5,((.sym (.sl [.str,(.int .i64),(.int .i64)]) v0) :: (J 2 ((Si 1) :: ((.ptr 1 0 0) :: (J 57 []))))),⟨⟨2,[(1,.cells 3 [[(Ss 2),(Si 3),(Si 4)]])],[[]],none⟩,[],[]⟩)],[(1,[]),(2,[(0,0),(1,1),(2,3),(3,4),(4,5)])]⟩,B3701⟩
@[simp] theorem d3701_id : d3701.L.id = 3701 := rfl
@[simp] theorem d3701_B : d3701.B = B3701 := rfl
def i37 : Inst := ⟨37, 0, [(.sym (.sl [.str, (.int .i64), (.int .i64)]) (.v 0))], [.one (.int .i64)]⟩
def s37 : List Cal := [c89]
@[simp] theorem o37_89 : OE s37 89 0 F89 := oG rfl
@[simp] def l37 : List LoopD := [d3700, d3701]
def t37 : Te AV := .need e37_22 (
 .ok (.sym (.int .i64) e37_26))
def F37 : List AV → Option AV := unitF (omL KK s37 l37) t37
def c37 : Cal := ⟨i37, F37⟩
theorem x37 : XO i37 F37 := XV s37 l37 t37 g37 ⟨x89, trivial⟩ (by kernel_rfl) (by kernel_rfl) (by kernel_rfl)
abbrev e35_0 := OI (K 37 [v0])
abbrev e35_1 := GE v1 (LN v0)
abbrev e35_2 := Q (LT v1 (I 0)) YY e35_1
abbrev e35_3 := Q (EQ (K 37 [v0]) (I 0)) e35_2 (.b false)
abbrev e35_4 := Q e35_3 (I 10) (K 37 [v0])
abbrev e35_5 := EQ e35_4 (I 0)
abbrev e35_6 := GT v2 (LN v0)
abbrev e35_7 := Q (LT v2 (I 1)) YY e35_6
abbrev e35_8 := Q e35_5 e35_7 (.b false)
abbrev e35_9 := Q e35_8 (I 3) e35_4
def i35 : Inst := ⟨35, 0, [(.sym (.sl [.str, (.int .i64), (.int .i64)]) (.v 0)), (Si 1), (Si 2)], [.one (.int .i64)]⟩
def s35 : List Cal := [c37]
@[simp] theorem o35_37 : OE s35 37 0 F37 := oG rfl
@[simp] def l35 : List LoopD := []
def t35 : Te AV := .need e35_0 (
 .ok (.sym (.int .i64) e35_9))
def F35 : List AV → Option AV := unitF (omL KK s35 l35) t35
def c35 : Cal := ⟨i35, F35⟩
theorem x35 : XO i35 F35 := XV s35 l35 t35 g35 ⟨x37, trivial⟩ (by kernel_rfl) (by kernel_rfl) (by kernel_rfl)
abbrev e34_0 := Q (LE (I 0) v3) (LT v3 (LN v1)) (.b false)
abbrev e34_1 : X := .sl 3 [[(C 0 v1 v3),(C 1 v1 v3),(C 2 v1 v3)]]
abbrev e34_2 : X := .p (.app 3) [v0,e34_1]
abbrev e34_3 := LN e34_2
abbrev e34_4 := LE e34_3 (I 1073741824)
abbrev e34_5 := LO 3400 [.nils,v0,(LN v0),(I 0)]
abbrev e34_6 := PJ 0 e34_5
abbrev e34_7 := EQ e34_6 (I 1)
abbrev e34_8 := PJ 1 e34_5
def B3400 : Te LEnd := .ite (LT v3 v2) (
 .need e34_0 (
 .need e34_4 (
 .ok (.again [e34_2,v1,v2,(AD v3 (I 1))])))) (
 .ok (.out 1 [v0]))
def d3400 : LoopD := ⟨3,⟨3400,4,(J 3 ((.sym (.own 0 [.str,(.int .i64),(.int .i64)]) v0) :: (J 2 ((.sym (.sl [.str,(.int .i64),(.int .i64)]) v1) :: ((Si 2) :: ((Si 3) :: (J 9 []))))))),⟨⟨3,[],[[]],none⟩,[(0,.rows [.str,(.int .i64),(.int .i64)] v0)],[]⟩,
 [(.exit 0,1,(J 3 ((.sym (.own 0 [.str,(.int .i64),(.int .i64)]) v0) :: (J 14 []))),⟨⟨3,[],[[]],none⟩,[(0,.rows [.str,(.int .i64),(.int .i64)] v0)],[]⟩)],[(1,[])]⟩,B3400⟩
@[simp] theorem d3400_id : d3400.L.id = 3400 := rfl
@[simp] theorem d3400_B : d3400.B = B3400 := rfl
def i34 : Inst := ⟨34, 0, [(.sym (.sl [.str, (.int .i64), (.int .i64)]) (.v 0))], [.one (.sl [.str, (.int .i64), (.int .i64)])]⟩
def s34 : List Cal := []
@[simp] def l34 : List LoopD := [d3400]
def t34 : Te AV := .need e34_7 (
 .ok (.sym (.sl [.str,(.int .i64),(.int .i64)]) e34_8))
def F34 : List AV → Option AV := unitF (omL KK s34 l34) t34
def c34 : Cal := ⟨i34, F34⟩
theorem x34 : XO i34 F34 := XV s34 l34 t34 g34 trivial (by kernel_rfl) (by kernel_rfl) (by kernel_rfl)
abbrev e32_0 := Q (LE (I 0) v1) (LT v1 (LN v0)) (.b false)
abbrev e32_1 := GT (LN (C 0 v0 v1)) (I 40)
abbrev e32_2 := GT (C 2 v0 v1) (AD (C 1 v0 v1) (I 100))
abbrev e32_3 := OI (K 37 [v0])
abbrev e32_4 := Q e32_2 e32_3 YY
abbrev e32_5 := Q e32_1 YY e32_4
abbrev e32_6 := Q e32_2 (EQ (K 37 [v0]) (I 0)) (.b false)
abbrev e32_7 := Q e32_1 YY e32_6
abbrev e32_8 := GT (LN v0) v1
abbrev e32_9 := GT (LN v0) (I 162)
abbrev e32_10 := Q (LE (LN v0) (I 160)) YY e32_9
abbrev e32_11 := Q e32_8 e32_10 e32_9
abbrev e32_12 := LO 3200 [v0,(I 0)]
abbrev e32_13 := PJ 0 e32_12
abbrev e32_14 := EQ e32_13 (I 1)
abbrev e32_15 := EQ e32_13 (I 2)
abbrev e32_16 := Q e32_14 YY e32_15
abbrev e32_17 := Q e32_11 YY e32_16
abbrev e32_18 := Q e32_14 (.b false) YY
abbrev e32_19 := Q e32_11 (.b false) e32_18
def B3200 : Te LEnd := .ite (LT v1 (LN v0)) (
 .need e32_0 (
 .need e32_5 (
 .ite e32_7 (
 .ok (.out 1 [])) (
 .ok (.again [v0,(AD v1 (I 1))]))))) (
 .ok (.out 2 []))
def d3200 : LoopD := ⟨4,⟨3200,2,((.sym (.sl [.str,(.int .i64),(.int .i64)]) v0) :: (J 4 ((Si 1) :: (J 46 [])))),⟨⟨0,[],[[]],none⟩,[],[]⟩,
 [(.ret,0,(J 4 ((.bool false) :: (J 47 []))),⟨⟨0,[],[[]],none⟩,[],[]⟩),
  (.exit 0,0,(J 52 []),⟨⟨0,[],[[]],none⟩,[],[]⟩)],[(1,[]),(2,[])]⟩,B3200⟩
@[simp] theorem d3200_id : d3200.L.id = 3200 := rfl
@[simp] theorem d3200_B : d3200.B = B3200 := rfl
def i32 : Inst := ⟨32, 0, [(.sym (.sl [.str, (.int .i64), (.int .i64)]) (.v 0)), (Si 1)], [.one .bool]⟩
def s32 : List Cal := [c37]
@[simp] theorem o32_37 : OE s32 37 0 F37 := oG rfl
@[simp] def l32 : List LoopD := [d3200]
def t32 : Te AV := .need e32_17 (
 .ok (.sym .bool e32_19))
def F32 : List AV → Option AV := unitF (omL KK s32 l32) t32
def c32 : Cal := ⟨i32, F32⟩
theorem x32 : XO i32 F32 := XV s32 l32 t32 g32 ⟨x37, trivial⟩ (by kernel_rfl) (by kernel_rfl) (by kernel_rfl)
abbrev e22_0 := Q (LE (I 0) v2) (LT v2 (LN v0)) (.b false)
abbrev e22_1 := Q (LE (I 0) v2) (LT v2 (LN v1)) (.b false)
abbrev e22_2 := NE (C 0 v0 v2) (C 0 v1 v2)
abbrev e22_3 := NE (LN v0) (LN v1)
abbrev e22_4 := LO 2200 [v0,v1,(I 0)]
abbrev e22_5 := PJ 0 e22_4
abbrev e22_6 := EQ e22_5 (I 1)
abbrev e22_7 := EQ e22_5 (I 2)
abbrev e22_8 := Q e22_6 YY e22_7
abbrev e22_9 := Q e22_3 YY e22_8
abbrev e22_10 := Q e22_6 (.b false) YY
abbrev e22_11 := Q e22_3 (.b false) e22_10
def B2200 : Te LEnd := .ite (LT v2 (LN v0)) (
 .need e22_0 (
 .need e22_1 (
 .ite e22_2 (
 .ok (.out 1 [])) (
 .ok (.again [v0,v1,(AD v2 (I 1))]))))) (
 .ok (.out 2 []))
def d2200 : LoopD := ⟨4,⟨2200,3,((S2 0) :: ((S2 1) :: (J 3 ((Si 2) :: (J 20 []))))),⟨⟨0,[],[[]],none⟩,[],[]⟩,
 [(.ret,0,(J 4 ((.bool false) :: (J 21 []))),⟨⟨0,[],[[]],none⟩,[],[]⟩),
  (.exit 0,0,(J 26 []),⟨⟨0,[],[[]],none⟩,[],[]⟩)],[(1,[]),(2,[])]⟩,B2200⟩
@[simp] theorem d2200_id : d2200.L.id = 2200 := rfl
@[simp] theorem d2200_B : d2200.B = B2200 := rfl
def i22 : Inst := ⟨22, 0, [(S2 0), (S2 1)], [.one .bool]⟩
def s22 : List Cal := []
@[simp] def l22 : List LoopD := [d2200]
def t22 : Te AV := .need e22_9 (
 .ok (.sym .bool e22_11))
def F22 : List AV → Option AV := unitF (omL KK s22 l22) t22
def c22 : Cal := ⟨i22, F22⟩
theorem x22 : XO i22 F22 := XV s22 l22 t22 g22 trivial (by kernel_rfl) (by kernel_rfl) (by kernel_rfl)
abbrev e33_0 := K 87 [v0,v1,v3]
abbrev e33_1 : X := .p (.okr [.one (.int .i64),.one .bool]) [e33_0]
abbrev e33_2 := PJ 1 e33_0
abbrev e33_3 : X := .p (.app 1) [v2,(.sl 1 [[v3]])]
abbrev e33_4 := LN e33_3
abbrev e33_5 := LE e33_4 (I 1073741824)
abbrev e33_6 := OI (K 86 [v0,v1])
abbrev e33_7 := NE (K 86 [v0,v1]) (I 0)
abbrev e33_8 := LO 3300 [v0,v1,.nils,(I 1)]
abbrev e33_9 := PJ 0 e33_8
abbrev e33_10 := EQ e33_9 (I 1)
abbrev e33_11 := Q e33_7 YY e33_10
abbrev e33_12 := PJ 1 e33_8
abbrev e33_13 := Q e33_7 .nils e33_12
abbrev e33_14 := Q e33_7 (K 86 [v0,v1]) (I 0)
def B3300 : Te LEnd := .ite (LE v3 (LN v0)) (
 .need e33_1 (
 .ite e33_2 (
 .need e33_5 (
 .ok (.again [v0,v1,e33_3,(AD v3 (I 1))]))) (
 .ok (.again [v0,v1,v2,(AD v3 (I 1))])))) (
 .ok (.out 1 [v2]))
def d3300 : LoopD := ⟨6,⟨3300,4,((.sym (.sl [.str,(.int .i64),(.int .i64)]) v0) :: ((Si 1) :: (J 5 ((.sym (.own 0 [(.int .i64)]) v2) :: ((Si 3) :: (J 27 [])))))),⟨⟨2,[],[[]],none⟩,[(0,.rows [(.int .i64)] v2)],[]⟩,
 [(.exit 0,1,(J 7 ((.sym (.own 0 [(.int .i64)]) v0) :: (J 28 []))),⟨⟨2,[],[[]],none⟩,[(0,.rows [(.int .i64)] v0)],[]⟩)],[(1,[])]⟩,B3300⟩
@[simp] theorem d3300_id : d3300.L.id = 3300 := rfl
@[simp] theorem d3300_B : d3300.B = B3300 := rfl
def i33 : Inst := ⟨33, 0, [(.sym (.sl [.str, (.int .i64), (.int .i64)]) (.v 0)), (Si 1)], [.one (.sl [(.int .i64)]), .one (.int .i64)]⟩
def s33 : List Cal := [c86, c87]
@[simp] theorem o33_86 : OE s33 86 0 F86 := oG rfl
@[simp] theorem o33_87 : OE s33 87 0 F87 := oG rfl
@[simp] def l33 : List LoopD := [d3300]
def t33 : Te AV := .need e33_6 (
 .need e33_11 (
 .ok (.tuple [(.sym (.sl [(.int .i64)]) e33_13),(.sym (.int .i64) e33_14)])))
def F33 : List AV → Option AV := unitF (omL KK s33 l33) t33
def c33 : Cal := ⟨i33, F33⟩
theorem x33 : XO i33 F33 := XV s33 l33 t33 g33 ⟨x86, x87, trivial⟩ (by kernel_rfl) (by kernel_rfl) (by kernel_rfl)
abbrev e124_0 := Q (LE (I 0) v3) (LT v3 (LN v0)) (.b false)
abbrev e124_1 := SE v1 (C 0 v0 v3)
abbrev e124_2 := LO 12400 [v0,v1,(LN v0),(I 0)]
abbrev e124_3 := PJ 0 e124_2
abbrev e124_4 := EQ e124_3 (I 1)
abbrev e124_5 := EQ e124_3 (I 2)
abbrev e124_6 := Q e124_4 YY e124_5
abbrev e124_7 := PJ 1 e124_2
abbrev e124_8 := Q e124_4 e124_7 (I (-1))
def B12400 : Te LEnd := .ite (LT v3 v2) (
 .need e124_0 (
 .ite e124_1 (
 .ok (.out 1 [v3])) (
 .ok (.again [v0,v1,v2,(AD v3 (I 1))])))) (
 .ok (.out 2 []))
def d12400 : LoopD := ⟨2,⟨12400,4,((S1 0) :: ((Ss 1) :: (J 5 ((Si 2) :: ((Si 3) :: (J 10 [])))))),⟨⟨0,[],[[]],none⟩,[],[]⟩,
 [(.ret,1,(J 4 ((Si 0) :: (J 14 []))),⟨⟨0,[],[[]],none⟩,[],[]⟩),
  (.exit 0,0,(J 19 []),⟨⟨0,[],[[]],none⟩,[],[]⟩)],[(1,[]),(2,[])]⟩,B12400⟩
@[simp] theorem d12400_id : d12400.L.id = 12400 := rfl
@[simp] theorem d12400_B : d12400.B = B12400 := rfl
def i124 : Inst := ⟨124, 0, [(S1 0), (Ss 1)], [.one (.int .i64)]⟩
def s124 : List Cal := []
@[simp] def l124 : List LoopD := [d12400]
def t124 : Te AV := .need e124_6 (
 .ok (.sym (.int .i64) e124_8))
def F124 : List AV → Option AV := unitF (omL KK s124 l124) t124
def c124 : Cal := ⟨i124, F124⟩
theorem x124 : XO i124 F124 := XV s124 l124 t124 g124 trivial (by kernel_rfl) (by kernel_rfl) (by kernel_rfl)
def i125 : Inst := ⟨125, 0, [], [.one (.sl [.str])]⟩
def s125 : List Cal := []
@[simp] def l125 : List LoopD := []
def t125 : Te AV := .ok (.sl 1 [[(.str w0)],[(.str w1)],[(.str w2)],[(.str w3)]])
def F125 : List AV → Option AV := unitF (omL KK s125 l125) t125
def c125 : Cal := ⟨i125, F125⟩
theorem x125 : XO i125 F125 := XV s125 l125 t125 g125 trivial (by kernel_rfl) (by kernel_rfl) (by kernel_rfl)
abbrev e95_0 := OI (K 124 [v0,v1])
abbrev e95_1 := GE (K 124 [v0,v1]) (I 0)
def i95 : Inst := ⟨95, 0, [(S1 0), (Ss 1)], [.one .bool]⟩
def s95 : List Cal := [c124]
@[simp] theorem o95_124 : OE s95 124 0 F124 := oG rfl
@[simp] def l95 : List LoopD := []
def t95 : Te AV := .need e95_0 (
 .ok (.sym .bool e95_1))
def F95 : List AV → Option AV := unitF (omL KK s95 l95) t95
def c95 : Cal := ⟨i95, F95⟩
theorem x95 : XO i95 F95 := XV s95 l95 t95 g95 ⟨x124, trivial⟩ (by kernel_rfl) (by kernel_rfl) (by kernel_rfl)
abbrev e128_0 := GT v0 (I 999999999)
abbrev e128_1 := Q (LT v0 (I (-999999999))) YY e128_0
def i128 : Inst := ⟨128, 0, [(Si 0)], [.one .bool]⟩
def s128 : List Cal := []
@[simp] def l128 : List LoopD := []
def t128 : Te AV := .ok (.sym .bool e128_1)
def F128 : List AV → Option AV := unitF (omL KK s128 l128) t128
def c128 : Cal := ⟨i128, F128⟩
theorem x128 : XO i128 F128 := XV s128 l128 t128 g128 trivial (by kernel_rfl) (by kernel_rfl) (by kernel_rfl)
abbrev e133_0 := Q (LE (I 0) v2) (LT v2 (LN v0)) (.b false)
abbrev e133_1 := OB (K 128 [(C 0 v0 v2)])
abbrev e133_2 := LO 13300 [v0,(LN v0),(I 0)]
abbrev e133_3 := PJ 0 e133_2
abbrev e133_4 := EQ e133_3 (I 1)
abbrev e133_5 := EQ e133_3 (I 2)
abbrev e133_6 := Q e133_4 YY e133_5
abbrev e133_7 := PJ 1 e133_2
abbrev e133_8 := Q e133_4 e133_7 (I (-1))
def B13300 : Te LEnd := .ite (LT v2 v1) (
 .need e133_0 (
 .need e133_1 (
 .ite (K 128 [(C 0 v0 v2)]) (
 .ok (.out 1 [v2])) (
 .ok (.again [v0,v1,(AD v2 (I 1))]))))) (
 .ok (.out 2 []))
def d13300 : LoopD := ⟨2,⟨13300,3,((S2 0) :: ((.func (.func 128) [] []) :: (J 5 ((Si 1) :: ((Si 2) :: (J 10 [])))))),⟨⟨0,[],[[]],none⟩,[],[]⟩,
 [(.ret,1,(J 4 ((Si 0) :: (J 14 []))),⟨⟨0,[],[[]],none⟩,[],[]⟩),
  (.exit 0,0,(J 19 []),⟨⟨0,[],[[]],none⟩,[],[]⟩)],[(1,[]),(2,[])]⟩,B13300⟩
@[simp] theorem d13300_id : d13300.L.id = 13300 := rfl
@[simp] theorem d13300_B : d13300.B = B13300 := rfl
def i133 : Inst := ⟨133, 0, [(S2 0), (.func (.func 128) [] [])], [.one (.int .i64)]⟩
def s133 : List Cal := [c128]
@[simp] theorem o133_128 : OE s133 128 0 F128 := oG rfl
@[simp] def l133 : List LoopD := [d13300]
def t133 : Te AV := .need e133_6 (
 .ok (.sym (.int .i64) e133_8))
def F133 : List AV → Option AV := unitF (omL KK s133 l133) t133
def c133 : Cal := ⟨i133, F133⟩
theorem x133 : XO i133 F133 := XV s133 l133 t133 g133 ⟨x128, trivial⟩ (by kernel_rfl) (by kernel_rfl) (by kernel_rfl)
abbrev e96_0 := OI (K 133 [v0])
abbrev e96_1 := GE (K 133 [v0]) (I 0)
def i96 : Inst := ⟨96, 0, [(S2 0), (.func (.func 128) [] [])], [.one .bool]⟩
def s96 : List Cal := [c133]
@[simp] theorem o96_133 : OE s96 133 0 F133 := oG rfl
@[simp] def l96 : List LoopD := []
def t96 : Te AV := .need e96_0 (
 .ok (.sym .bool e96_1))
def F96 : List AV → Option AV := unitF (omL KK s96 l96) t96
def c96 : Cal := ⟨i96, F96⟩
theorem x96 : XO i96 F96 := XV s96 l96 t96 g96 ⟨x133, trivial⟩ (by kernel_rfl) (by kernel_rfl) (by kernel_rfl)
def i156 : Inst := ⟨156, 0, [(Si 0)], [.one .bool]⟩
def s156 : List Cal := []
@[simp] def l156 : List LoopD := []
def t156 : Te AV := .ok (.sym .bool (NE v0 v0))
def F156 : List AV → Option AV := unitF (omL KK s156 l156) t156
def c156 : Cal := ⟨i156, F156⟩
theorem x156 : XO i156 F156 := XV s156 l156 t156 g156 trivial (by kernel_rfl) (by kernel_rfl) (by kernel_rfl)
abbrev e123_0 := OB (K 156 [v0])
abbrev e123_1 := OB (K 156 [v1])
abbrev e123_2 := Q (K 156 [v1]) (I 0) (I (-1))
abbrev e123_3 := Q (GT v0 v1) (I 1) (I 0)
abbrev e123_4 := Q (LT v0 v1) (I (-1)) e123_3
abbrev e123_5 := Q (K 156 [v1]) (I 1) e123_4
abbrev e123_6 := Q (K 156 [v0]) e123_2 e123_5
def i123 : Inst := ⟨123, 0, [(Si 0), (Si 1)], [.one (.int .i64)]⟩
def s123 : List Cal := [c156]
@[simp] theorem o123_156 : OE s123 156 0 F156 := oG rfl
@[simp] def l123 : List LoopD := []
def t123 : Te AV := .need e123_0 (
 .need e123_1 (
 .ok (.sym (.int .i64) e123_6)))
def F123 : List AV → Option AV := unitF (omL KK s123 l123) t123
def c123 : Cal := ⟨i123, F123⟩
theorem x123 : XO i123 F123 := XV s123 l123 t123 g123 ⟨x156, trivial⟩ (by kernel_rfl) (by kernel_rfl) (by kernel_rfl)
abbrev e103_0 := Q (LE (I 0) v3) (LT v3 (LN v0)) (.b false)
abbrev e103_1 := GE v3 (LN v1)
abbrev e103_2 := Q (LE (I 0) v3) (LT v3 (LN v1)) (.b false)
abbrev e103_3 := K 123 [(C 0 v0 v3),(C 0 v1 v3)]
abbrev e103_4 := OI e103_3
abbrev e103_5 := NE e103_3 (I 0)
abbrev e103_6 := LO 10300 [v0,v1,(LN v0),(I 0)]
abbrev e103_7 := PJ 0 e103_6
abbrev e103_8 := EQ e103_7 (I 1)
abbrev e103_9 := EQ e103_7 (I 2)
abbrev e103_10 := Q e103_8 YY e103_9
abbrev e103_11 := PJ 1 e103_6
abbrev e103_12 := Q (LT (LN v0) (LN v1)) (I (-1)) (I 0)
abbrev e103_13 := Q e103_8 e103_11 e103_12
def B10300 : Te LEnd := .ite (LT v3 v2) (
 .need e103_0 (
 .ite e103_1 (
 .ok (.out 1 [(I 1)])) (
 .need e103_2 (
 .need e103_4 (
 .ite e103_5 (
 .ok (.out 1 [e103_3])) (
 .ok (.again [v0,v1,v2,(AD v3 (I 1))]))))))) (
 .ok (.out 2 [v0,v1]))
def d10300 : LoopD := ⟨2,⟨10300,4,((S2 0) :: ((S2 1) :: (J 7 ((S2 0) :: ((Si 2) :: ((Si 3) :: (J 24 []))))))),⟨⟨0,[],[[]],none⟩,[],[]⟩,
 [(.ret,1,(J 4 ((Si 0) :: (J 31 []))),⟨⟨0,[],[[]],none⟩,[],[]⟩),
  (.exit 0,2,((S2 0) :: ((S2 1) :: (J 34 []))),⟨⟨0,[],[[]],none⟩,[],[]⟩)],[(1,[]),(2,[(0,0),(1,1)])]⟩,B10300⟩
@[simp] theorem d10300_id : d10300.L.id = 10300 := rfl
@[simp] theorem d10300_B : d10300.B = B10300 := rfl
def i103 : Inst := ⟨103, 0, [(S2 0), (S2 1)], [.one (.int .i64)]⟩
def s103 : List Cal := [c123]
@[simp] theorem o103_123 : OE s103 123 0 F123 := oG rfl
@[simp] def l103 : List LoopD := [d10300]
def t103 : Te AV := .need e103_10 (
 .ok (.sym (.int .i64) e103_13))
def F103 : List AV → Option AV := unitF (omL KK s103 l103) t103
def c103 : Cal := ⟨i103, F103⟩
theorem x103 : XO i103 F103 := XV s103 l103 t103 g103 ⟨x123, trivial⟩ (by kernel_rfl) (by kernel_rfl) (by kernel_rfl)
abbrev e75_0 : X := .p (.okr [.one (.sl [.str])]) [(K 125 [])]
abbrev e75_1 := K 124 [(K 125 []),v1]
abbrev e75_2 := OI e75_1
abbrev e75_3 := K 124 [(K 125 []),v4]
abbrev e75_4 := OI e75_3
abbrev e75_5 := K 123 [e75_1,e75_3]
abbrev e75_6 := OI e75_5
abbrev e75_7 := NE e75_5 (I 0)
abbrev e75_8 := OI (K 103 [v5,v2])
abbrev e75_9 := Q e75_7 YY e75_8
abbrev e75_10 := Q e75_7 e75_5 (K 103 [v5,v2])
def i75 : Inst := ⟨75, 0, [(.agg [(Ss 0), (Ss 1), (S2 2)]), (.agg [(Ss 3), (Ss 4), (S2 5)])], [.one (.int .i64)]⟩
def s75 : List Cal := [c125, c124, c123, c103]
@[simp] theorem o75_125 : OE s75 125 0 F125 := oG rfl
@[simp] theorem o75_124 : OE s75 124 0 F124 := oG rfl
@[simp] theorem o75_123 : OE s75 123 0 F123 := oG rfl
@[simp] theorem o75_103 : OE s75 103 0 F103 := oG rfl
@[simp] def l75 : List LoopD := []
def t75 : Te AV := .need e75_0 (
 .need e75_2 (
 .need e75_4 (
 .need e75_6 (
 .need e75_9 (
 .ok (.sym (.int .i64) e75_10))))))
def F75 : List AV → Option AV := unitF (omL KK s75 l75) t75
def c75 : Cal := ⟨i75, F75⟩
theorem x75 : XO i75 F75 := XV s75 l75 t75 g75 ⟨x125, x124, x123, x103, trivial⟩ (by kernel_rfl) (by kernel_rfl) (by kernel_rfl)
abbrev e79_0 := OB (K 96 [v2])
abbrev e79_1 := OB (K 88 [v0])
abbrev e79_2 := K 80 [(NO (K 88 [v0])),(I 8)]
abbrev e79_3 := OI e79_2
abbrev e79_4 : X := .p (.okr [.one (.sl [.str])]) [(K 125 [])]
abbrev e79_5 := K 95 [(K 125 []),v1]
abbrev e79_6 := OB e79_5
abbrev e79_7 := NO e79_5
abbrev e79_8 := K 80 [e79_7,(I 13)]
abbrev e79_9 := OI e79_8
abbrev e79_10 := GT (LN v2) (I 0)
abbrev e79_11 := K 80 [e79_10,(I 1)]
abbrev e79_12 := OI e79_11
abbrev e79_13 := Q (SN v1 (.s w0)) e79_12 YY
abbrev e79_14 := GT (LN v2) (I 8)
abbrev e79_15 := K 80 [e79_14,(I 5)]
abbrev e79_16 := OI e79_15
abbrev e79_17 := Q (SN v1 (.s w0)) e79_16 YY
abbrev e79_18 := K 80 [(K 96 [v2]),(I 3)]
abbrev e79_19 := OI e79_18
abbrev e79_20 := Q (SN v1 (.s w0)) e79_19 YY
abbrev e79_21 : X := .sl 1 [[e79_2],[e79_8],[e79_11],[e79_15],[e79_18]]
abbrev e79_22 := K 76 [e79_21]
abbrev e79_23 := OI e79_22
abbrev e79_24 := Q (SN v1 (.s w0)) e79_23 YY
abbrev e79_25 := OI (K 80 [(.b false),(I 1)])
abbrev e79_26 := Q (SN v1 (.s w0)) YY e79_25
abbrev e79_27 := Q (SN v1 (.s w0)) YY e79_16
abbrev e79_28 := Q (SN v1 (.s w0)) YY e79_19
abbrev e79_29 : X := .sl 1 [[e79_2],[e79_8],[(K 80 [(.b false),(I 1)])],[e79_15],[e79_18]]
abbrev e79_30 := K 76 [e79_29]
abbrev e79_31 := OI e79_30
abbrev e79_32 := Q (SN v1 (.s w0)) YY e79_31
abbrev e79_33 := Q (SN v1 (.s w0)) e79_22 e79_30
def i79 : Inst := ⟨79, 0, [(.agg [(Ss 0), (Ss 1), (S2 2)])], [.one (.int .i64)]⟩
def s79 : List Cal := [c96, c88, c80, c125, c95, c76]
@[simp] theorem o79_96 : OE s79 96 0 F96 := oG rfl
@[simp] theorem o79_88 : OE s79 88 0 F88 := oG rfl
@[simp] theorem o79_80 : OE s79 80 0 F80 := oG rfl
@[simp] theorem o79_125 : OE s79 125 0 F125 := oG rfl
@[simp] theorem o79_95 : OE s79 95 0 F95 := oG rfl
@[simp] theorem o79_76 : OE s79 76 0 F76 := oG rfl
@[simp] def l79 : List LoopD := []
def t79 : Te AV := .need e79_0 (
 .need e79_1 (
 .need e79_3 (
 .need e79_4 (
 .need e79_6 (
 .need e79_9 (
 .need e79_13 (
 .need e79_17 (
 .need e79_20 (
 .need e79_24 (
 .need e79_26 (
 .need e79_27 (
 .need e79_28 (
 .need e79_32 (
 .ok (.sym (.int .i64) e79_33)))))))))))))))
def F79 : List AV → Option AV := unitF (omL KK s79 l79) t79
def c79 : Cal := ⟨i79, F79⟩
theorem x79 : XO i79 F79 := XV s79 l79 t79 g79 ⟨x96, x88, x80, x125, x95, x76, trivial⟩ (by kernel_rfl) (by kernel_rfl) (by kernel_rfl)
abbrev e21_0 := Q (LE (I 0) v3) (LT v3 (LN v1)) (.b false)
abbrev e21_1 := K 79 [(C 0 v1 v3),(C 1 v1 v3),(C 2 v1 v3)]
abbrev e21_2 := OI e21_1
abbrev e21_3 : X := .p (.mget false) [v4,(C 0 v1 v3),(.b false)]
abbrev e21_4 := K 80 [e21_3,(I 9)]
abbrev e21_5 := OI e21_4
abbrev e21_6 : X := .sl 1 [[e21_1],[e21_4]]
abbrev e21_7 := K 76 [e21_6]
abbrev e21_8 := OI e21_7
abbrev e21_9 := NE e21_7 (I 0)
abbrev e21_10 := SN (C 1 v1 v3) (.s w0)
abbrev e21_11 : X := .p .mput [v4,(C 0 v1 v3),YY]
abbrev e21_12 := Q (LT v0 (I 0)) (LN (C 2 v1 v3)) v0
abbrev e21_13 := NE (LN (C 2 v1 v3)) e21_12
abbrev e21_14 := GT (LN v0) (I 160)
abbrev e21_15 := LO 2100 [(I (-1)),v0,(LN v0),(I 0),(.p .mnew [])]
abbrev e21_16 := PJ 0 e21_15
abbrev e21_17 := EQ e21_16 (I 1)
abbrev e21_18 := EQ e21_16 (I 2)
abbrev e21_19 := Q e21_17 YY e21_18
abbrev e21_20 := Q e21_14 YY e21_19
abbrev e21_21 := PJ 1 e21_15
abbrev e21_22 := Q e21_17 e21_21 (I 0)
abbrev e21_23 := Q e21_14 (I 5) e21_22
def B2100 : Te LEnd := .ite (LT v3 v2) (
 .need e21_0 (
 .need e21_2 (
 .need e21_5 (
 .need e21_8 (
 .ite e21_9 (
 .ok (.out 1 [e21_7])) (
 .ite e21_10 (
 .ok (.again [v0,v1,v2,(AD v3 (I 1)),e21_11])) (
 .ite e21_13 (
 .ok (.out 1 [(I 2)])) (
 .ok (.again [e21_12,v1,v2,(AD v3 (I 1)),e21_11]))))))))) (
 .ok (.out 2 []))
def d2100 : LoopD := ⟨6,⟨2100,5,(J 3 ((.sym (.mown 0 .str false [.bool]) YY) :: ((Si 0) :: (J 7 ((.sym (.sl [.str,.str,(.sl [(.int .i64)])]) v1) :: ((Si 2) :: ((Si 3) :: (J 32 [])))))))),⟨⟨3,[],[[]],none⟩,[(0,.mp .str false [.bool] v4)],[]⟩,
 [(.ret,1,(J 2 ((Si 0) :: (J 44 []))),⟨⟨5,[],[[]],none⟩,[],[]⟩),
  (.exit 0,0,(J 47 []),⟨⟨3,[],[[]],none⟩,[],[]⟩)],[(1,[]),(2,[])]⟩,B2100⟩
@[simp] theorem d2100_id : d2100.L.id = 2100 := rfl
@[simp] theorem d2100_B : d2100.B = B2100 := rfl
def i21 : Inst := ⟨21, 0, [(.sym (.sl [.str, .str, (.sl [(.int .i64)])]) (.v 0))], [.one (.int .i64)]⟩
def s21 : List Cal := [c79, c80, c76]
@[simp] theorem o21_79 : OE s21 79 0 F79 := oG rfl
@[simp] theorem o21_80 : OE s21 80 0 F80 := oG rfl
@[simp] theorem o21_76 : OE s21 76 0 F76 := oG rfl
@[simp] def l21 : List LoopD := [d2100]
def t21 : Te AV := .need e21_20 (
 .ok (.sym (.int .i64) e21_23))
def F21 : List AV → Option AV := unitF (omL KK s21 l21) t21
def c21 : Cal := ⟨i21, F21⟩
theorem x21 : XO i21 F21 := XV s21 l21 t21 g21 ⟨x79, x80, x76, trivial⟩ (by kernel_rfl) (by kernel_rfl) (by kernel_rfl)
abbrev e74_0 := Q (LE (I 0) v3) (LT v3 (LN v0)) (.b false)
abbrev e74_1 := LO 7401 [v0,v1,(I 1),v2,v3,(LN v0),(I 0),(C 0 v0 v3),(C 1 v0 v3),(C 2 v0 v3)]
abbrev e74_2 := PJ 0 e74_1
abbrev e74_3 := EQ e74_2 (I 1)
abbrev e74_4 := PJ 3 e74_1
abbrev e74_5 : X := .sl 1 [[e74_4]]
abbrev e74_6 : X := .p (.app 1) [v1,e74_5]
abbrev e74_7 := LN e74_6
abbrev e74_8 := LE e74_7 (I 1073741824)
abbrev e74_9 := Q (LE (I 0) v6) (LT v6 (LN v0)) (.b false)
abbrev e74_10 := K 75 [(C 0 v0 v6),(C 1 v0 v6),(C 2 v0 v6),v7,v8,v9]
abbrev e74_11 := OI e74_10
abbrev e74_12 := LT e74_10 (I 0)
abbrev e74_13 := Q e74_12 (AD v2 (I 1)) v2
abbrev e74_14 := LO 7400 [v0,.nils,(LN v0),(I 0)]
abbrev e74_15 := PJ 0 e74_14
abbrev e74_16 := EQ e74_15 (I 1)
abbrev e74_17 := PJ 1 e74_14
def B7400 : Te LEnd := .ite (LT v3 v2) (
 .need e74_0 (
 .need e74_3 (
 .need e74_8 (
 .ok (.again [v0,e74_6,v2,(AD v3 (I 1))]))))) (
 .ok (.out 1 [v1]))
def d7400 : LoopD := ⟨3,⟨7400,4,((.sym (.sl [.str,.str,(.sl [(.int .i64)])]) v0) :: ((.func (.func 75) [] []) :: (J 3 ((.sym (.own 0 [(.int .i64)]) v1) :: (J 5 ((.sym (.sl [.str,.str,(.sl [(.int .i64)])]) v0) :: ((Si 2) :: ((Si 3) :: (J 23 []))))))))),⟨⟨4,[],[[]],none⟩,[(0,.rows [(.int .i64)] v1)],[]⟩,
 [(.exit 0,1,(J 5 ((.sym (.own 0 [(.int .i64)]) v0) :: (J 31 []))),⟨⟨4,[],[[]],none⟩,[(0,.rows [(.int .i64)] v0)],[]⟩)],[(1,[])]⟩,B7400⟩
@[simp] theorem d7400_id : d7400.L.id = 7400 := rfl
@[simp] theorem d7400_B : d7400.B = B7400 := rfl
def B7401 : Te LEnd := .ite (LT v6 v5) (
 .need e74_9 (
 .need e74_11 (
 .ok (.again [v0,v1,e74_13,v3,v4,v5,(AD v6 (I 1)),v7,v8,v9])))) (
 .ok (.out 1 [v0,v1,v2,v3,v4]))
def d7401 : LoopD := ⟨7,⟨7401,10,((.sym (.sl [.str,.str,(.sl [(.int .i64)])]) v0) :: ((.func (.func 75) [] []) :: (J 3 ((.sym (.own 0 [(.int .i64)]) v1) :: (J 1 ((.ptr 4 0 0) :: ((Si 2) :: (J 2 ((.sym (.sl [.str,.str,(.sl [(.int .i64)])]) v0) :: ((Si 3) :: ((Si 4) :: (J 3 ((.sym (.sl [.str,.str,(.sl [(.int .i64)])]) v0) :: ((Si 5) :: ((Si 6) :: (J 17 [])))))))))))))))),⟨⟨6,[(4,.cells 3 [[(Ss 7),(Ss 8),(S2 9)]])],[[]],none⟩,[(0,.rows [(.int .i64)] v1)],[]⟩,
 [(.exit 2,5,((.sym (.sl [.str,.str,(.sl [(.int .i64)])]) v0) :: ((.func (.func 75) [] []) :: (J 3 ((.sym (.own 0 [(.int .i64)]) v1) :: (J 2 ((Si 2) :: (J 2 ((.sym (.sl [.str,.str,(.sl [(.int .i64)])]) v0) :: ((Si 3) :: ((Si 4) :: (J 23 []))))))))))),⟨⟨6,[],[[]],none⟩,[(0,.rows [(.int .i64)] v1)],[]⟩)],[(1,[(0,0),(1,1),(3,3),(4,4)])]⟩,B7401⟩
@[simp] theorem d7401_id : d7401.L.id = 7401 := rfl
@[simp] theorem d7401_B : d7401.B = B7401 := rfl
def i74 : Inst := ⟨74, 0, [(.sym (.sl [.str, .str, (.sl [(.int .i64)])]) (.v 0)), (.func (.func 75) [] [])], [.one (.sl [(.int .i64)])]⟩
def s74 : List Cal := [c75]
@[simp] theorem o74_75 : OE s74 75 0 F75 := oG rfl
@[simp] def l74 : List LoopD := [d7400, d7401]
def t74 : Te AV := .need e74_16 (
 .ok (.sym (.sl [(.int .i64)]) e74_17))
def F74 : List AV → Option AV := unitF (omL KK s74 l74) t74
def c74 : Cal := ⟨i74, F74⟩
theorem x74 : XO i74 F74 := XV s74 l74 t74 g74 ⟨x75, trivial⟩ (by kernel_rfl) (by kernel_rfl) (by kernel_rfl)
abbrev e17_0 := OI (K 21 [v0])
abbrev e17_1 := NE (K 21 [v0]) (I 0)
abbrev e17_2 : X := .p (.okr [.one (.sl [(.int .i64)])]) [(K 74 [v0])]
abbrev e17_3 := Q e17_1 YY e17_2
abbrev e17_4 := Q e17_1 .nils (K 74 [v0])
abbrev e17_5 := Q e17_1 (K 21 [v0]) (I 0)
def i17 : Inst := ⟨17, 0, [(.sym (.sl [.str, .str, (.sl [(.int .i64)])]) (.v 0))], [.one (.sl [(.int .i64)]), .one (.int .i64)]⟩
def s17 : List Cal := [c21, c74]
@[simp] theorem o17_21 : OE s17 21 0 F21 := oG rfl
@[simp] theorem o17_74 : OE s17 74 0 F74 := oG rfl
@[simp] def l17 : List LoopD := []
def t17 : Te AV := .need e17_0 (
 .need e17_3 (
 .ok (.tuple [(.sym (.sl [(.int .i64)]) e17_4),(.sym (.int .i64) e17_5)])))
def F17 : List AV → Option AV := unitF (omL KK s17 l17) t17
def c17 : Cal := ⟨i17, F17⟩
theorem x17 : XO i17 F17 := XV s17 l17 t17 g17 ⟨x21, x74, trivial⟩ (by kernel_rfl) (by kernel_rfl) (by kernel_rfl)
abbrev e24_0 := Q (LE (I 0) v2) (LT v2 (LN v0)) (.b false)
abbrev e24_1 := Q (LE (I 0) v2) (LT v2 (LN v1)) (.b false)
abbrev e24_2 := SN (C 0 v0 v2) (C 0 v1 v2)
abbrev e24_3 := NE (LN v0) (LN v1)
abbrev e24_4 := LO 2400 [v0,v1,(I 0)]
abbrev e24_5 := PJ 0 e24_4
abbrev e24_6 := EQ e24_5 (I 1)
abbrev e24_7 := EQ e24_5 (I 2)
abbrev e24_8 := Q e24_6 YY e24_7
abbrev e24_9 := Q e24_3 YY e24_8
abbrev e24_10 := Q e24_6 (.b false) YY
abbrev e24_11 := Q e24_3 (.b false) e24_10
def B2400 : Te LEnd := .ite (LT v2 (LN v0)) (
 .need e24_0 (
 .need e24_1 (
 .ite e24_2 (
 .ok (.out 1 [])) (
 .ok (.again [v0,v1,(AD v2 (I 1))]))))) (
 .ok (.out 2 []))
def d2400 : LoopD := ⟨4,⟨2400,3,((S1 0) :: ((S1 1) :: (J 3 ((Si 2) :: (J 20 []))))),⟨⟨0,[],[[]],none⟩,[],[]⟩,
 [(.ret,0,(J 4 ((.bool false) :: (J 21 []))),⟨⟨0,[],[[]],none⟩,[],[]⟩),
  (.exit 0,0,(J 26 []),⟨⟨0,[],[[]],none⟩,[],[]⟩)],[(1,[]),(2,[])]⟩,B2400⟩
@[simp] theorem d2400_id : d2400.L.id = 2400 := rfl
@[simp] theorem d2400_B : d2400.B = B2400 := rfl
def i24 : Inst := ⟨24, 0, [(S1 0), (S1 1)], [.one .bool]⟩
def s24 : List Cal := []
@[simp] def l24 : List LoopD := [d2400]
def t24 : Te AV := .need e24_9 (
 .ok (.sym .bool e24_11))
def F24 : List AV → Option AV := unitF (omL KK s24 l24) t24
def c24 : Cal := ⟨i24, F24⟩
theorem x24 : XO i24 F24 := XV s24 l24 t24 g24 trivial (by kernel_rfl) (by kernel_rfl) (by kernel_rfl)
abbrev e100_0 := Q (SE v0 (.s w3)) (I 3) (I (-1))
abbrev e100_1 := Q (SE v0 (.s w2)) (I 2) e100_0
abbrev e100_2 := Q (SE v0 (.s w1)) (I 1) e100_1
abbrev e100_3 := Q (SE v0 (.s w0)) (I 0) e100_2
def i100 : Inst := ⟨100, 0, [(Ss 0)], [.one (.int .i64)]⟩
def s100 : List Cal := []
@[simp] def l100 : List LoopD := []
def t100 : Te AV := .ok (.sym (.int .i64) e100_3)
def F100 : List AV → Option AV := unitF (omL KK s100 l100) t100
def c100 : Cal := ⟨i100, F100⟩
theorem x100 : XO i100 F100 := XV s100 l100 t100 g100 trivial (by kernel_rfl) (by kernel_rfl) (by kernel_rfl)
abbrev e49_0 := Q (LE (I 0) v0) (LT v0 (LN v3)) (.b false)
abbrev e49_1 := LT (C 0 v3 v0) (I (-999999999))
abbrev e49_2 := GT (C 0 v3 v0) (I 999999999)
abbrev e49_3 := Q e49_1 YY e49_2
abbrev e49_4 := OB (K 89 [v0])
abbrev e49_5 := OI (K 100 [v1])
abbrev e49_6 := Q (NO (K 89 [v0])) YY e49_5
abbrev e49_7 := GT (LN v2) (I 0)
abbrev e49_8 := Q (SN v1 (.s w0)) e49_7 (.b false)
abbrev e49_9 := GT (LN v2) (I 8)
abbrev e49_10 := LO 4900 [(I 0),v0,v1,v2]
abbrev e49_11 := PJ 0 e49_10
abbrev e49_12 := EQ e49_11 (I 1)
abbrev e49_13 := EQ e49_11 (I 2)
abbrev e49_14 := Q e49_12 YY e49_13
abbrev e49_15 := Q e49_9 YY e49_14
abbrev e49_16 := Q e49_8 YY e49_15
abbrev e49_17 := Q (LT (K 100 [v1]) (I 0)) YY e49_16
abbrev e49_18 := Q (NO (K 89 [v0])) YY e49_17
abbrev e49_19 := Q e49_12 (I 3) (I 0)
abbrev e49_20 := Q e49_9 (I 5) e49_19
abbrev e49_21 := Q e49_8 (I 1) e49_20
abbrev e49_22 := Q (LT (K 100 [v1]) (I 0)) (I 13) e49_21
abbrev e49_23 := Q (NO (K 89 [v0])) (I 8) e49_22
def B4900 : Te LEnd := .ite (LT v0 (LN v3)) (
 .need e49_0 (
 .ite e49_3 (
 .ok (.out 1 [])) (
 .ok (.again [(AD v0 (I 1)),v1,v2,v3])))) (
 .ok (.out 2 []))
def d4900 : LoopD := ⟨10,⟨4900,4,(J 1 ((.ptr 0 0 0) :: (J 1 ((Si 0) :: (J 42 []))))),⟨⟨1,[(0,.cells 3 [[(Ss 1),(Ss 2),(S2 3)]])],[[]],none⟩,[],[]⟩,
 [(.ret,0,(J 2 ((.int .i64 (3)) :: (J 43 []))),⟨⟨1,[],[[]],none⟩,[],[]⟩),
  (.exit 0,0,(J 46 []),⟨⟨1,[],[[]],none⟩,[],[]⟩)],[(1,[]),(2,[])]⟩,B4900⟩
@[simp] theorem d4900_id : d4900.L.id = 4900 := rfl
@[simp] theorem d4900_B : d4900.B = B4900 := rfl
def i49 : Inst := ⟨49, 0, [(.agg [(Ss 0), (Ss 1), (S2 2)])], [.one (.int .i64)]⟩
def s49 : List Cal := [c89, c100]
@[simp] theorem o49_89 : OE s49 89 0 F89 := oG rfl
@[simp] theorem o49_100 : OE s49 100 0 F100 := oG rfl
@[simp] def l49 : List LoopD := [d4900]
def t49 : Te AV := .need e49_4 (
 .need e49_6 (
 .need e49_18 (
 .ok (.sym (.int .i64) e49_23))))
def F49 : List AV → Option AV := unitF (omL KK s49 l49) t49
def c49 : Cal := ⟨i49, F49⟩
theorem x49 : XO i49 F49 := XV s49 l49 t49 g49 ⟨x89, x100, trivial⟩ (by kernel_rfl) (by kernel_rfl) (by kernel_rfl)
abbrev e84_0 := Q (GT v0 v1) (I 1) (I 0)
abbrev e84_1 := Q (LT v0 v1) (I (-1)) e84_0
def i84 : Inst := ⟨84, 0, [(Si 0), (Si 1)], [.one (.int .i64)]⟩
def s84 : List Cal := []
@[simp] def l84 : List LoopD := []
def t84 : Te AV := .ok (.sym (.int .i64) e84_1)
def F84 : List AV → Option AV := unitF (omL KK s84 l84) t84
def c84 : Cal := ⟨i84, F84⟩
theorem x84 : XO i84 F84 := XV s84 l84 t84 g84 trivial (by kernel_rfl) (by kernel_rfl) (by kernel_rfl)
abbrev e50_0 := Q (LE (I 0) v0) (LT v0 (LN v6)) (.b false)
abbrev e50_1 := Q (LE (I 0) v0) (LT v0 (LN v3)) (.b false)
abbrev e50_2 := NE (C 0 v6 v0) (C 0 v3 v0)
abbrev e50_3 := K 84 [(C 0 v3 v0),(C 0 v6 v0)]
abbrev e50_4 := OI e50_3
abbrev e50_5 := Q (SN v1 (.s w0)) YY (SN v4 (.s w0))
abbrev e50_6 := OI (K 100 [v1])
abbrev e50_7 := Q e50_5 e50_6 YY
abbrev e50_8 := OI (K 100 [v4])
abbrev e50_9 := Q e50_5 e50_8 YY
abbrev e50_10 := K 84 [(K 100 [v1]),(K 100 [v4])]
abbrev e50_11 := OI e50_10
abbrev e50_12 := Q e50_5 e50_11 YY
abbrev e50_13 := LO 5000 [(I 0),v3,v4,v5,v0,v1,v2]
abbrev e50_14 := PJ 0 e50_13
abbrev e50_15 := EQ e50_14 (I 1)
abbrev e50_16 := EQ e50_14 (I 2)
abbrev e50_17 := Q e50_15 YY e50_16
abbrev e50_18 := Q e50_5 YY e50_17
abbrev e50_19 := PJ 1 e50_13
abbrev e50_20 := Q e50_15 e50_19 (I 0)
abbrev e50_21 := Q e50_5 e50_10 e50_20
def B5000 : Te LEnd := .ite (LT v0 (LN v6)) (
 .need e50_0 (
 .need e50_1 (
 .ite e50_2 (
 .need e50_4 (
 .ok (.out 1 [e50_3]))) (
 .ok (.again [(AD v0 (I 1)),v1,v2,v3,v4,v5,v6]))))) (
 .ok (.out 2 []))
def d5000 : LoopD := ⟨4,⟨5000,7,(J 2 ((.ptr 0 0 0) :: ((.ptr 1 0 0) :: (J 1 ((Si 0) :: (J 44 [])))))),⟨⟨2,[(1,.cells 3 [[(Ss 1),(Ss 2),(S2 3)]]),(0,.cells 3 [[(Ss 4),(Ss 5),(S2 6)]])],[[]],none⟩,[],[]⟩,
 [(.ret,1,(J 4 ((Si 0) :: (J 45 []))),⟨⟨2,[],[[]],none⟩,[],[]⟩),
  (.exit 0,0,(J 50 []),⟨⟨2,[],[[]],none⟩,[],[]⟩)],[(1,[]),(2,[])]⟩,B5000⟩
@[simp] theorem d5000_id : d5000.L.id = 5000 := rfl
@[simp] theorem d5000_B : d5000.B = B5000 := rfl
def i50 : Inst := ⟨50, 0, [(.agg [(Ss 0), (Ss 1), (S2 2)]), (.agg [(Ss 3), (Ss 4), (S2 5)])], [.one (.int .i64)]⟩
def s50 : List Cal := [c100, c84]
@[simp] theorem o50_100 : OE s50 100 0 F100 := oG rfl
@[simp] theorem o50_84 : OE s50 84 0 F84 := oG rfl
@[simp] def l50 : List LoopD := [d5000]
def t50 : Te AV := .need e50_7 (
 .need e50_9 (
 .need e50_12 (
 .need e50_18 (
 .ok (.sym (.int .i64) e50_21)))))
def F50 : List AV → Option AV := unitF (omL KK s50 l50) t50
def c50 : Cal := ⟨i50, F50⟩
theorem x50 : XO i50 F50 := XV s50 l50 t50 g50 ⟨x100, x84, trivial⟩ (by kernel_rfl) (by kernel_rfl) (by kernel_rfl)
abbrev e30_0 := Q (LE (I 0) v2) (LT v2 (LN v0)) (.b false)
abbrev e30_1 := SE (C 0 v0 v2) v1
abbrev e30_2 := LO 3000 [v0,v1,(I 0)]
abbrev e30_3 := PJ 0 e30_2
abbrev e30_4 := EQ e30_3 (I 1)
abbrev e30_5 := EQ e30_3 (I 2)
abbrev e30_6 := Q e30_4 YY e30_5
abbrev e30_7 := PJ 1 e30_2
abbrev e30_8 := Q e30_4 e30_7 (I (-1))
def B3000 : Te LEnd := .ite (LT v2 (LN v0)) (
 .need e30_0 (
 .ite e30_1 (
 .ok (.out 1 [v2])) (
 .ok (.again [v0,v1,(AD v2 (I 1))])))) (
 .ok (.out 2 []))
def d3000 : LoopD := ⟨2,⟨3000,3,((.sym (.sl [.str,.str,(.sl [(.int .i64)])]) v0) :: ((Ss 1) :: (J 3 ((Si 2) :: (J 14 []))))),⟨⟨0,[],[[]],none⟩,[],[]⟩,
 [(.ret,1,(J 4 ((Si 0) :: (J 15 []))),⟨⟨0,[],[[]],none⟩,[],[]⟩),
  (.exit 0,0,(J 20 []),⟨⟨0,[],[[]],none⟩,[],[]⟩)],[(1,[]),(2,[])]⟩,B3000⟩
@[simp] theorem d3000_id : d3000.L.id = 3000 := rfl
@[simp] theorem d3000_B : d3000.B = B3000 := rfl
def i30 : Inst := ⟨30, 0, [(.sym (.sl [.str, .str, (.sl [(.int .i64)])]) (.v 0)), (Ss 1)], [.one (.int .i64)]⟩
def s30 : List Cal := []
@[simp] def l30 : List LoopD := [d3000]
def t30 : Te AV := .need e30_6 (
 .ok (.sym (.int .i64) e30_8))
def F30 : List AV → Option AV := unitF (omL KK s30 l30) t30
def c30 : Cal := ⟨i30, F30⟩
theorem x30 : XO i30 F30 := XV s30 l30 t30 g30 trivial (by kernel_rfl) (by kernel_rfl) (by kernel_rfl)
abbrev e20_0 := Q (LE (I 0) v2) (LT v2 (LN v0)) (.b false)
abbrev e20_1 := K 49 [(C 0 v0 v2),(C 1 v0 v2),(C 2 v0 v2)]
abbrev e20_2 := OI e20_1
abbrev e20_3 := NE e20_1 (I 0)
abbrev e20_4 := K 30 [(.p .slice [v0,(I 0),v2]),(C 0 v0 v2)]
abbrev e20_5 := OI e20_4
abbrev e20_6 := GE e20_4 (I 0)
abbrev e20_7 := SN (C 1 v0 v2) (.s w0)
abbrev e20_8 := Q (LT v1 (I 0)) (LN (C 2 v0 v2)) v1
abbrev e20_9 := NE (LN (C 2 v0 v2)) e20_8
abbrev e20_10 := GT (LN v0) (I 160)
abbrev e20_11 := LO 2000 [v0,(I (-1)),(I 0)]
abbrev e20_12 := PJ 0 e20_11
abbrev e20_13 := EQ e20_12 (I 1)
abbrev e20_14 := EQ e20_12 (I 2)
abbrev e20_15 := Q e20_13 YY e20_14
abbrev e20_16 := Q e20_10 YY e20_15
abbrev e20_17 := PJ 1 e20_11
abbrev e20_18 := Q e20_13 e20_17 (I 0)
abbrev e20_19 := Q e20_10 (I 5) e20_18
def B2000 : Te LEnd := .ite (LT v2 (LN v0)) (
 .need e20_0 (
 .need e20_2 (
 .ite e20_3 (
 .ok (.out 1 [e20_1])) (
 .need (LE (I 0) v2) (
 .need (LE v2 (LN v0)) (
 .need e20_5 (
 .ite e20_6 (
 .ok (.out 1 [(I 9)])) (
 .ite e20_7 (
 .ok (.again [v0,v1,(AD v2 (I 1))])) (
 .ite e20_9 (
 .ok (.out 1 [(I 2)])) (
 .ok (.again [v0,e20_8,(AD v2 (I 1))]))))))))))) (
 .ok (.out 2 []))
def d2000 : LoopD := ⟨5,⟨2000,3,((.sym (.sl [.str,.str,(.sl [(.int .i64)])]) v0) :: (J 2 ((Si 1) :: ((Si 2) :: (J 50 []))))),⟨⟨0,[],[[]],none⟩,[],[]⟩,
 [(.ret,1,(J 2 ((Si 0) :: (J 52 []))),⟨⟨0,[],[[]],none⟩,[],[]⟩),
  (.exit 0,0,(J 55 []),⟨⟨0,[],[[]],none⟩,[],[]⟩)],[(1,[]),(2,[])]⟩,B2000⟩
@[simp] theorem d2000_id : d2000.L.id = 2000 := rfl
@[simp] theorem d2000_B : d2000.B = B2000 := rfl
def i20 : Inst := ⟨20, 0, [(.sym (.sl [.str, .str, (.sl [(.int .i64)])]) (.v 0))], [.one (.int .i64)]⟩
def s20 : List Cal := [c49, c30]
@[simp] theorem o20_49 : OE s20 49 0 F49 := oG rfl
@[simp] theorem o20_30 : OE s20 30 0 F30 := oG rfl
@[simp] def l20 : List LoopD := [d2000]
def t20 : Te AV := .need e20_16 (
 .ok (.sym (.int .i64) e20_19))
def F20 : List AV → Option AV := unitF (omL KK s20 l20) t20
def c20 : Cal := ⟨i20, F20⟩
theorem x20 : XO i20 F20 := XV s20 l20 t20 g20 ⟨x49, x30, trivial⟩ (by kernel_rfl) (by kernel_rfl) (by kernel_rfl)
abbrev e23_0 := LO 2301 [v0,v1,v2,(I 1),(I 0)]
abbrev e23_1 := PJ 0 e23_0
abbrev e23_2 := EQ e23_1 (I 1)
abbrev e23_3 := PJ 4 e23_0
abbrev e23_4 : X := .sl 1 [[e23_3]]
abbrev e23_5 : X := .p (.app 1) [v1,e23_4]
abbrev e23_6 := LN e23_5
abbrev e23_7 := LE e23_6 (I 1073741824)
abbrev e23_8 := Q (LE (I 0) v4) (LT v4 (LN v0)) (.b false)
abbrev e23_9 := Q (LE (I 0) v2) (LT v2 (LN v0)) (.b false)
abbrev e23_10 := K 50 [(C 0 v0 v4),(C 1 v0 v4),(C 2 v0 v4),(C 0 v0 v2),(C 1 v0 v2),(C 2 v0 v2)]
abbrev e23_11 := OI e23_10
abbrev e23_12 := LT e23_10 (I 0)
abbrev e23_13 := Q e23_12 (AD v3 (I 1)) v3
abbrev e23_14 := LO 2300 [v0,.nils,(I 0)]
abbrev e23_15 := PJ 0 e23_14
abbrev e23_16 := EQ e23_15 (I 1)
abbrev e23_17 := PJ 1 e23_14
def B2300 : Te LEnd := .ite (LT v2 (LN v0)) (
 .need e23_2 (
 .need e23_7 (
 .ok (.again [v0,e23_5,(AD v2 (I 1))])))) (
 .ok (.out 1 [v1]))
def d2300 : LoopD := ⟨3,⟨2300,3,((.sym (.sl [.str,.str,(.sl [(.int .i64)])]) v0) :: (J 2 ((.sym (.own 0 [(.int .i64)]) v1) :: ((Si 2) :: (J 31 []))))),⟨⟨2,[],[[]],none⟩,[(0,.rows [(.int .i64)] v1)],[]⟩,
 [(.exit 0,1,(J 3 ((.sym (.own 0 [(.int .i64)]) v0) :: (J 32 []))),⟨⟨2,[],[[]],none⟩,[(0,.rows [(.int .i64)] v0)],[]⟩)],[(1,[])]⟩,B2300⟩
@[simp] theorem d2300_id : d2300.L.id = 2300 := rfl
@[simp] theorem d2300_B : d2300.B = B2300 := rfl
def B2301 : Te LEnd := .ite (LT v4 (LN v0)) (
 .need e23_8 (
 .need e23_9 (
 .need e23_11 (
 .ok (.again [v0,v1,v2,e23_13,(AD v4 (I 1))]))))) (
 .ok (.out 1 [v0,v1,v2,v3]))
def d2301 : LoopD := ⟨7,⟨2301,5,((.sym (.sl [.str,.str,(.sl [(.int .i64)])]) v0) :: (J 2 ((.sym (.own 0 [(.int .i64)]) v1) :: ((Si 2) :: ((Si 3) :: ((Si 4) :: (J 29 []))))))),⟨⟨2,[],[[]],none⟩,[(0,.rows [(.int .i64)] v1)],[]⟩,
 [(.exit 2,4,((.sym (.sl [.str,.str,(.sl [(.int .i64)])]) v0) :: (J 2 ((.sym (.own 0 [(.int .i64)]) v1) :: ((Si 2) :: ((Si 3) :: (J 30 [])))))),⟨⟨2,[],[[]],none⟩,[(0,.rows [(.int .i64)] v1)],[]⟩)],[(1,[(0,0),(1,1),(2,2)])]⟩,B2301⟩
@[simp] theorem d2301_id : d2301.L.id = 2301 := rfl
@[simp] theorem d2301_B : d2301.B = B2301 := rfl
def i23 : Inst := ⟨23, 0, [(.sym (.sl [.str, .str, (.sl [(.int .i64)])]) (.v 0))], [.one (.sl [(.int .i64)])]⟩
def s23 : List Cal := [c50]
@[simp] theorem o23_50 : OE s23 50 0 F50 := oG rfl
@[simp] def l23 : List LoopD := [d2300, d2301]
def t23 : Te AV := .need e23_16 (
 .ok (.sym (.sl [(.int .i64)]) e23_17))
def F23 : List AV → Option AV := unitF (omL KK s23 l23) t23
def c23 : Cal := ⟨i23, F23⟩
theorem x23 : XO i23 F23 := XV s23 l23 t23 g23 ⟨x50, trivial⟩ (by kernel_rfl) (by kernel_rfl) (by kernel_rfl)
abbrev e25_0 := Q (LE v4 v1) (LE v4 (LN v0)) (.b false)
abbrev e25_1 := LO 2501 [v0,v1,v2,v3,v4,(I 0)]
abbrev e25_2 := PJ 0 e25_1
abbrev e25_3 := EQ e25_2 (I 1)
abbrev e25_4 := PJ 4 e25_1
abbrev e25_5 := Q (LE (I 0) v5) (LT v5 (LN v2)) (.b false)
abbrev e25_6 := Q (LE (I 0) v5) (LT v5 (LN v0)) (.b false)
abbrev e25_7 := Q (EQ (C 0 v2 v5) v4) e25_6 YY
abbrev e25_8 := SE (C 1 v0 v5) (.s w0)
abbrev e25_9 := Q (EQ (C 0 v2 v5) v4) e25_8 (.b false)
abbrev e25_10 : X := .p (.app 1) [v3,(.sl 1 [[(C 0 v0 v5)]])]
abbrev e25_11 := LN e25_10
abbrev e25_12 := LE e25_11 (I 1073741824)
abbrev e25_13 : X := .p (.okr [.one (.sl [(.int .i64)])]) [(K 23 [v0])]
abbrev e25_14 := LO 2500 [v0,v1,(K 23 [v0]),.nils,(I 1)]
abbrev e25_15 := PJ 0 e25_14
abbrev e25_16 := EQ e25_15 (I 1)
abbrev e25_17 := PJ 1 e25_14
def B2500 : Te LEnd := .ite e25_0 (
 .need e25_3 (
 .ok (.again [v0,v1,v2,e25_4,(AD v4 (I 1))]))) (
 .ok (.out 1 [v3]))
def d2500 : LoopD := ⟨4,⟨2500,5,((.sym (.sl [.str,.str,(.sl [(.int .i64)])]) v0) :: ((Si 1) :: (J 3 ((S2 2) :: ((.sym (.own 0 [.str]) v3) :: ((Si 4) :: (J 43 []))))))),⟨⟨2,[],[[]],none⟩,[(0,.rows [.str] v3)],[]⟩,
 [(.exit 0,1,(J 6 ((.sym (.own 0 [.str]) v0) :: (J 44 []))),⟨⟨2,[],[[]],none⟩,[(0,.rows [.str] v0)],[]⟩)],[(1,[])]⟩,B2500⟩
@[simp] theorem d2500_id : d2500.L.id = 2500 := rfl
@[simp] theorem d2500_B : d2500.B = B2500 := rfl
def B2501 : Te LEnd := .ite (LT v5 (LN v0)) (
 .need e25_5 (
 .need e25_7 (
 .ite e25_9 (
 .need e25_6 (
 .need e25_12 (
 .ok (.again [v0,v1,v2,e25_10,v4,(AD v5 (I 1))])))) (
 .ok (.again [v0,v1,v2,v3,v4,(AD v5 (I 1))]))))) (
 .ok (.out 1 [v0,v1,v2,v3,v4]))
def d2501 : LoopD := ⟨7,⟨2501,6,((.sym (.sl [.str,.str,(.sl [(.int .i64)])]) v0) :: ((Si 1) :: (J 3 ((S2 2) :: ((.sym (.own 0 [.str]) v3) :: ((Si 4) :: ((Si 5) :: (J 42 [])))))))),⟨⟨4,[],[[]],none⟩,[(0,.rows [.str] v3)],[]⟩,
 [(.exit 2,5,((.sym (.sl [.str,.str,(.sl [(.int .i64)])]) v0) :: ((Si 1) :: (J 3 ((S2 2) :: ((.sym (.own 0 [.str]) v3) :: ((Si 4) :: (J 43 []))))))),⟨⟨4,[],[[]],none⟩,[(0,.rows [.str] v3)],[]⟩)],[(1,[(0,0),(1,1),(2,2),(4,4)])]⟩,B2501⟩
@[simp] theorem d2501_id : d2501.L.id = 2501 := rfl
@[simp] theorem d2501_B : d2501.B = B2501 := rfl
def i25 : Inst := ⟨25, 0, [(.sym (.sl [.str, .str, (.sl [(.int .i64)])]) (.v 0)), (Si 1)], [.one (.sl [.str])]⟩
def s25 : List Cal := [c23]
@[simp] theorem o25_23 : OE s25 23 0 F23 := oG rfl
@[simp] def l25 : List LoopD := [d2500, d2501]
def t25 : Te AV := .need e25_13 (
 .need e25_16 (
 .ok (.sym (.sl [.str]) e25_17)))
def F25 : List AV → Option AV := unitF (omL KK s25 l25) t25
def c25 : Cal := ⟨i25, F25⟩
theorem x25 : XO i25 F25 := XV s25 l25 t25 g25 ⟨x23, trivial⟩ (by kernel_rfl) (by kernel_rfl) (by kernel_rfl)
abbrev e18_0 := Q (LE (I 0) v3) (LT v3 (LN v1)) (.b false)
abbrev e18_1 : X := .p (.app 1) [(.sl 1 []),(C 2 v1 v3)]
abbrev e18_2 := LN e18_1
abbrev e18_3 := LE e18_2 (I 1073741824)
abbrev e18_4 : X := .sl 3 [[(C 0 v1 v3),(C 1 v1 v3),e18_1]]
abbrev e18_5 : X := .p (.app 3) [v0,e18_4]
abbrev e18_6 := LN e18_5
abbrev e18_7 := LE e18_6 (I 1073741824)
abbrev e18_8 := LO 1800 [.nils,v0,(LN v0),(I 0)]
abbrev e18_9 := PJ 0 e18_8
abbrev e18_10 := EQ e18_9 (I 1)
abbrev e18_11 := PJ 1 e18_8
def B1800 : Te LEnd := .ite (LT v3 v2) (
 .need e18_0 (
 .need e18_3 (
 .need e18_7 (
 .ok (.again [e18_5,v1,v2,(AD v3 (I 1))]))))) (
 .ok (.out 1 [v0]))
def d1800 : LoopD := ⟨3,⟨1800,4,(J 3 ((.sym (.own 0 [.str,.str,(.sl [(.int .i64)])]) v0) :: (J 2 ((.sym (.sl [.str,.str,(.sl [(.int .i64)])]) v1) :: ((Si 2) :: ((Si 3) :: (J 14 []))))))),⟨⟨5,[],[[]],none⟩,[(0,.rows [.str,.str,(.sl [(.int .i64)])] v0)],[]⟩,
 [(.exit 0,1,(J 3 ((.sym (.own 0 [.str,.str,(.sl [(.int .i64)])]) v0) :: (J 19 []))),⟨⟨5,[],[[]],none⟩,[(0,.rows [.str,.str,(.sl [(.int .i64)])] v0)],[]⟩)],[(1,[])]⟩,B1800⟩
@[simp] theorem d1800_id : d1800.L.id = 1800 := rfl
@[simp] theorem d1800_B : d1800.B = B1800 := rfl
def i18 : Inst := ⟨18, 0, [(.sym (.sl [.str, .str, (.sl [(.int .i64)])]) (.v 0))], [.one (.sl [.str, .str, (.sl [(.int .i64)])])]⟩
def s18 : List Cal := []
@[simp] def l18 : List LoopD := [d1800]
def t18 : Te AV := .need e18_10 (
 .ok (.sym (.sl [.str,.str,(.sl [(.int .i64)])]) e18_11))
def F18 : List AV → Option AV := unitF (omL KK s18 l18) t18
def c18 : Cal := ⟨i18, F18⟩
theorem x18 : XO i18 F18 := XV s18 l18 t18 g18 trivial (by kernel_rfl) (by kernel_rfl) (by kernel_rfl)
abbrev e15_0 := Q (LE (I 0) v1) (LT v1 (LN v0)) (.b false)
abbrev e15_1 := GT (LN (C 0 v0 v1)) (I 40)
abbrev e15_2 := GT (LN (C 1 v0 v1)) (I 40)
abbrev e15_3 := GT (LN (C 2 v0 v1)) (I 10)
abbrev e15_4 := Q e15_2 YY e15_3
abbrev e15_5 := Q e15_1 YY e15_4
abbrev e15_6 := GT (LN v0) v1
abbrev e15_7 := GT (LN v0) (I 162)
abbrev e15_8 := Q (LE (LN v0) (I 160)) YY e15_7
abbrev e15_9 := Q e15_6 e15_8 e15_7
abbrev e15_10 := LO 1500 [v0,(I 0)]
abbrev e15_11 := PJ 0 e15_10
abbrev e15_12 := EQ e15_11 (I 1)
abbrev e15_13 := EQ e15_11 (I 2)
abbrev e15_14 := Q e15_12 YY e15_13
abbrev e15_15 := Q e15_9 YY e15_14
abbrev e15_16 := Q e15_12 (.b false) YY
abbrev e15_17 := Q e15_9 (.b false) e15_16
def B1500 : Te LEnd := .ite (LT v1 (LN v0)) (
 .need e15_0 (
 .ite e15_5 (
 .ok (.out 1 [])) (
 .ok (.again [v0,(AD v1 (I 1))])))) (
 .ok (.out 2 []))
def d1500 : LoopD := ⟨4,⟨1500,2,((.sym (.sl [.str,.str,(.sl [(.int .i64)])]) v0) :: (J 4 ((Si 1) :: (J 45 [])))),⟨⟨0,[],[[]],none⟩,[],[]⟩,
 [(.ret,0,(J 4 ((.bool false) :: (J 46 []))),⟨⟨0,[],[[]],none⟩,[],[]⟩),
  (.exit 0,0,(J 51 []),⟨⟨0,[],[[]],none⟩,[],[]⟩)],[(1,[]),(2,[])]⟩,B1500⟩
@[simp] theorem d1500_id : d1500.L.id = 1500 := rfl
@[simp] theorem d1500_B : d1500.B = B1500 := rfl
def i15 : Inst := ⟨15, 0, [(.sym (.sl [.str, .str, (.sl [(.int .i64)])]) (.v 0)), (Si 1)], [.one .bool]⟩
def s15 : List Cal := []
@[simp] def l15 : List LoopD := [d1500]
def t15 : Te AV := .need e15_15 (
 .ok (.sym .bool e15_17))
def F15 : List AV → Option AV := unitF (omL KK s15 l15) t15
def c15 : Cal := ⟨i15, F15⟩
theorem x15 : XO i15 F15 := XUL (cs := s15) (ds := l15) (t := t15) trivial (x := g15) (by kernel_rfl) (by kernel_rfl) (by kernel_rfl)
abbrev e127_0 := Q (LE (I 0) v0) (LT v0 (LN v2)) (.b false)
abbrev e127_1 := Q (LE (I 0) v1) (LT v1 (LN v2)) (.b false)
abbrev e127_2 := K 123 [(C 0 v2 v0),(C 0 v2 v1)]
abbrev e127_3 := OI e127_2
def i127 : Inst := ⟨127, 0, [(Si 0), (Si 1), (.ref [(S2 2)])], [.one (.int .i64)]⟩
def s127 : List Cal := [c123]
@[simp] theorem o127_123 : OE s127 123 0 F123 := oG rfl
@[simp] def l127 : List LoopD := []
def t127 : Te AV := .need e127_0 (
 .need e127_1 (
 .need e127_3 (
 .ok (.sym (.int .i64) e127_2))))
def F127 : List AV → Option AV := unitF (omL KK s127 l127) t127
def c127 : Cal := ⟨i127, F127⟩
theorem x127 : XO i127 F127 := XV s127 l127 t127 g127 ⟨x123, trivial⟩ (by kernel_rfl) (by kernel_rfl) (by kernel_rfl)
abbrev e201_0 := LO 20101 [v0,v1,v2,v3,v4,v4]
abbrev e201_1 := PJ 0 e201_0
abbrev e201_2 := EQ e201_1 (I 1)
abbrev e201_3 := PJ 1 e201_0
abbrev e201_4 := Q (LE (I 0) v5) (LT v5 (LN v0)) (.b false)
abbrev e201_5 := Q (GT v5 v1) e201_4 YY
abbrev e201_6 := Q (GT v5 v1) (NO (.p .isNil [v0])) YY
abbrev e201_7 := Q (LE (I 0) (SB v5 (I 1))) (LT (SB v5 (I 1)) (LN v0)) (.b false)
abbrev e201_8 := Q (GT v5 v1) e201_7 YY
abbrev e201_9 := K 127 [(C 0 v0 v5),(C 0 v0 (SB v5 (I 1))),v3]
abbrev e201_10 := OI e201_9
abbrev e201_11 := Q (GT v5 v1) e201_10 YY
abbrev e201_12 := LT e201_9 (I 0)
abbrev e201_13 := Q (GT v5 v1) e201_12 (.b false)
abbrev e201_14 : X := .p (.setc 0) [v0,v5,(C 0 v0 (SB v5 (I 1)))]
abbrev e201_15 := LN e201_14
abbrev e201_16 := LT (SB v5 (I 1)) e201_15
abbrev e201_17 := Q (LE (I 0) (SB v5 (I 1))) e201_16 (.b false)
abbrev e201_18 : X := .p (.setc 0) [e201_14,(SB v5 (I 1)),(C 0 v0 v5)]
abbrev e201_19 := LO 20100 [v0,v1,v2,v3,(AD v1 (I 1))]
abbrev e201_20 := PJ 0 e201_19
abbrev e201_21 := EQ e201_20 (I 1)
abbrev e201_22 := PJ 1 e201_19
def B20100 : Te LEnd := .ite (LT v4 v2) (
 .need e201_2 (
 .ok (.again [e201_3,v1,v2,v3,(AD v4 (I 1))]))) (
 .ok (.out 1 [v0]))
def d20100 : LoopD := ⟨1,⟨20100,5,((.sym (.own 0 [(.int .i64)]) v0) :: ((Si 1) :: ((Si 2) :: ((.func (.func 127) [] [(.ref [(S2 3)])]) :: (J 4 ((Si 4) :: (J 44 []))))))),⟨⟨1,[],[[]],none⟩,[(0,.rows [(.int .i64)] v0)],[]⟩,
 [(.exit 0,1,((.sym (.own 0 [(.int .i64)]) v0) :: (J 52 [])),⟨⟨1,[],[[]],none⟩,[(0,.rows [(.int .i64)] v0)],[]⟩)],[(1,[])]⟩,B20100⟩
@[simp] theorem d20100_id : d20100.L.id = 20100 := rfl
@[simp] theorem d20100_B : d20100.B = B20100 := rfl
def B20101 : Te LEnd := .need e201_5 (
 .need e201_6 (
 .need e201_8 (
 .need e201_11 (
 .ite e201_13 (
 .need e201_7 (
 .need (NO (.p .isNil [v0])) (
 .need e201_4 (
 .need e201_17 (
 .ok (.again [e201_18,v1,v2,v3,v4,(SB v5 (I 1))])))))) (
 .ok (.out 1 [v0,v1,v2,v3,v4]))))))
def d20101 : LoopD := ⟨4,⟨20101,6,((.sym (.own 0 [(.int .i64)]) v0) :: ((Si 1) :: ((Si 2) :: ((.func (.func 127) [] [(.ref [(S2 3)])]) :: (J 4 ((Si 4) :: ((Si 5) :: (J 43 [])))))))),⟨⟨1,[],[[]],none⟩,[(0,.rows [(.int .i64)] v0)],[]⟩,
 [(.exit 2,5,((.sym (.own 0 [(.int .i64)]) v0) :: ((Si 1) :: ((Si 2) :: ((.func (.func 127) [] [(.ref [(S2 3)])]) :: (J 4 ((Si 4) :: (J 44 []))))))),⟨⟨1,[],[[]],none⟩,[(0,.rows [(.int .i64)] v0)],[]⟩)],[(1,[(1,1),(2,2),(3,3),(4,4)])]⟩,B20101⟩
@[simp] theorem d20101_id : d20101.L.id = 20101 := rfl
@[simp] theorem d20101_B : d20101.B = B20101 := rfl
def m201 : List AV := [(.sym (.int .i64) v1), (.sym (.int .i64) v2), (.func (.func 127) [] [(.ref [(.sym (.sl [(.int .i64)]) v3)])])]
def s201 : List Cal := [c127]
@[simp] theorem o201_127 : OE s201 127 0 F127 := oG rfl
@[simp] def l201 : List LoopD := [d20100, d20101]
def t201 : Te AV := .need e201_21 (
 .ok (.sym (.sl [(.int .i64)]) e201_22))
def F201 : List AV → Option AV := unitF (omL KK s201 l201) t201
def c201 : Cal := ⟨gpI 201, gpF F201⟩
def p201 : GpF := gpP 201 [(.int .i64)] m201 F201
theorem x201 : GpOk Tryz.prog 201 p201 := XUG (T := tab) tabOf (cs := s201) (ds := l201) (t := t201) ⟨x127.up rfl rfl, trivial⟩ (by kernel_rfl) (by kernel_rfl)
abbrev e157_0 := LO 15702 [v0,v1,v2]
abbrev e157_1 := PJ 0 e157_0
abbrev e157_2 := EQ e157_1 (I 1)
abbrev e157_3 := K 201 [v0,v3,v4,v2]
abbrev e157_4 : X := .p (.okr [.one (.sl [(.int .i64)])]) [e157_3]
abbrev e157_5 := LN e157_3
abbrev e157_6 := EQ (LN v0) e157_5
abbrev e157_7 : X := .p .isNil [e157_3]
abbrev e157_8 := BE (.p .isNil [v0]) e157_7
abbrev e157_9 : X := .p .whole [v0,e157_3]
abbrev e157_10 := LO 15700 [v0,v1,v2,(I 0),(I 20)]
abbrev e157_11 := PJ 0 e157_10
abbrev e157_12 := EQ e157_11 (I 1)
abbrev e157_13 := PJ 1 e157_10
abbrev e157_14 := PJ 4 e157_10
abbrev e157_15 := K 201 [e157_13,e157_14,v1,v2]
abbrev e157_16 : X := .p (.okr [.one (.sl [(.int .i64)])]) [e157_15]
abbrev e157_17 := LN e157_13
abbrev e157_18 := LN e157_15
abbrev e157_19 := EQ e157_17 e157_18
abbrev e157_20 : X := .p .isNil [e157_13]
abbrev e157_21 : X := .p .isNil [e157_15]
abbrev e157_22 := BE e157_20 e157_21
abbrev e157_23 : X := .p .whole [e157_13,e157_15]
abbrev e157_24 := LO 15701 [e157_23,v1,v2]
abbrev e157_25 := PJ 0 e157_24
abbrev e157_26 := EQ e157_25 (I 1)
def B15701 : Te LEnd := .ite (LT (I 20) v1) (
 .need e157_2 (
 .fail 152)) (
 .ok (.out 1 [v0]))
def d15701 : LoopD := ⟨7,⟨15701,3,((.sym (.own 0 [(.int .i64)]) v0) :: ((Si 1) :: ((.func (.func 127) [] [(.ref [(S2 2)])]) :: (J 3 ((.int .i64 (20)) :: (J 56 [])))))),⟨⟨1,[],[[]],none⟩,[(0,.rows [(.int .i64)] v0)],[]⟩,
 [(.exit 2,1,((.sym (.own 0 [(.int .i64)]) v0) :: (J 62 [])),⟨⟨1,[],[[]],none⟩,[(0,.rows [(.int .i64)] v0)],[]⟩)],[(1,[(0,0)])]⟩,B15701⟩
@[simp] theorem d15701_id : d15701.L.id = 15701 := rfl
@[simp] theorem d15701_B : d15701.B = B15701 := rfl
def B15702 : Te LEnd := .ite (LE (I 40) v1) (
 .fail 152) (
 .ok (.out 1 [v0,v1,v2]))
def d15702 : LoopD := ⟨9,⟨15702,3,((.sym (.own 0 [(.int .i64)]) v0) :: ((Si 1) :: ((.func (.func 127) [] [(.ref [(S2 2)])]) :: (J 3 ((.int .i64 (20)) :: ((.int .i64 (0)) :: ((.int .i64 (40)) :: (J 54 [])))))))),⟨⟨1,[],[[]],none⟩,[(0,.rows [(.int .i64)] v0)],[]⟩,
 [(.exit 4,3,((.sym (.own 0 [(.int .i64)]) v0) :: ((Si 1) :: ((.func (.func 127) [] [(.ref [(S2 2)])]) :: (J 3 ((.int .i64 (20)) :: ((.int .i64 (0)) :: (J 55 []))))))),⟨⟨1,[],[[]],none⟩,[(0,.rows [(.int .i64)] v0)],[]⟩)],[(1,[(0,0),(1,1),(2,2)])]⟩,B15702⟩
@[simp] theorem d15702_id : d15702.L.id = 15702 := rfl
@[simp] theorem d15702_B : d15702.B = B15702 := rfl
def B15700 : Te LEnd := .ite (LE v4 v1) (
 .need e157_4 (
 .need e157_6 (
 .need e157_8 (
 .ok (.again [e157_9,v1,v2,v4,(AD v4 (I 20))]))))) (
 .ok (.out 1 [v0,v1,v2,v3]))
def d15700 : LoopD := ⟨2,⟨15700,5,((.sym (.own 0 [(.int .i64)]) v0) :: ((Si 1) :: ((.func (.func 127) [] [(.ref [(S2 2)])]) :: (J 3 ((.int .i64 (20)) :: ((Si 3) :: ((Si 4) :: (J 54 [])))))))),⟨⟨1,[],[[]],none⟩,[(0,.rows [(.int .i64)] v0)],[]⟩,
 [(.exit 0,4,((.sym (.own 0 [(.int .i64)]) v0) :: ((Si 1) :: ((.func (.func 127) [] [(.ref [(S2 2)])]) :: (J 3 ((.int .i64 (20)) :: ((Si 3) :: (J 55 []))))))),⟨⟨1,[],[[]],none⟩,[(0,.rows [(.int .i64)] v0)],[]⟩)],[(1,[(1,1),(2,2)])]⟩,B15700⟩
@[simp] theorem d15700_id : d15700.L.id = 15700 := rfl
@[simp] theorem d15700_B : d15700.B = B15700 := rfl
def m157 : List AV := [(.sym (.int .i64) v1), (.func (.func 127) [] [(.ref [(.sym (.sl [(.int .i64)]) v2)])])]
def s157 : List Cal := [c201]
@[simp] theorem o157_201 : OE s157 201 0 (gpF F201) := oG rfl
@[simp] def l157 : List LoopD := [d15701, d15702, d15700]
def t157 : Te AV := .need e157_12 (
 .need e157_16 (
 .need e157_19 (
 .need e157_22 (
 .need e157_26 (
 .ok (.sym (.sl [(.int .i64)]) e157_23))))))
def F157 : List AV → Option AV := unitF (omL KK s157 l157) t157
def c157 : Cal := ⟨gpI 157, gpF F157⟩
def p157 : GpF := gpP 157 [(.int .i64)] m157 F157
theorem x157 : GpOk Tryz.prog 157 p157 := XUG (T := (tabG 201 p201 (fun f => f == 202))) (tabG_of x201) (cs := s157) (ds := l157) (t := t157) ⟨gp_xa x201 rfl rfl (by kernel_rfl), trivial⟩ (by kernel_rfl) (by kernel_rfl)
abbrev e126_0 := K 157 [v0,(LN v0),v1]
abbrev e126_1 : X := .p (.okr [.one (.sl [(.int .i64)])]) [e126_0]
abbrev e126_2 := LN e126_0
abbrev e126_3 := EQ (LN v0) e126_2
abbrev e126_4 : X := .p .isNil [e126_0]
abbrev e126_5 := BE (.p .isNil [v0]) e126_4
abbrev e126_6 : X := .p .whole [v0,e126_0]
def m126 : List AV := [(.func (.func 127) [] [(.ref [(.sym (.sl [(.int .i64)]) v1)])])]
def s126 : List Cal := [c157]
@[simp] theorem o126_157 : OE s126 157 0 (gpF F157) := oG rfl
@[simp] def l126 : List LoopD := []
def t126 : Te AV := .need e126_1 (
 .need e126_3 (
 .need e126_5 (
 .ok (.sym (.sl [(.int .i64)]) e126_6))))
def F126 : List AV → Option AV := unitF (omL KK s126 l126) t126
def c126 : Cal := ⟨gpI 126, gpF F126⟩
def p126 : GpF := gpP 126 [(.int .i64)] m126 F126
theorem x126 : GpOk Tryz.prog 126 p126 := XUG (T := (tabG 157 p157 (fun _ => false))) (tabG_of x157) (cs := s126) (ds := l126) (t := t126) ⟨gp_xa x157 rfl rfl (by kernel_rfl), trivial⟩ (by kernel_rfl) (by kernel_rfl)
abbrev e78_0 : X := .p (.app 1) [v0,(.sl 1 [[v2]])]
abbrev e78_1 := LN e78_0
abbrev e78_2 := LE e78_1 (I 1073741824)
abbrev e78_3 := LO 7800 [.nils,(LN v0),(I 0),v0]
abbrev e78_4 := PJ 0 e78_3
abbrev e78_5 := EQ e78_4 (I 1)
abbrev e78_6 := PJ 1 e78_3
abbrev e78_7 := K 126 [e78_6,v0]
abbrev e78_8 : X := .p (.okr [.one (.sl [(.int .i64)])]) [e78_7]
abbrev e78_9 := LN e78_6
abbrev e78_10 := LN e78_7
abbrev e78_11 := EQ e78_9 e78_10
abbrev e78_12 : X := .p .isNil [e78_6]
abbrev e78_13 : X := .p .isNil [e78_7]
abbrev e78_14 := BE e78_12 e78_13
abbrev e78_15 : X := .p .whole [e78_6,e78_7]
def B7800 : Te LEnd := .ite (LT v2 v1) (
 .need e78_2 (
 .ok (.again [e78_0,v1,(AD v2 (I 1)),v3]))) (
 .ok (.out 1 [v0,v3]))
def d7800 : LoopD := ⟨3,⟨7800,4,(J 1 ((.ptr 0 0 0) :: (J 1 ((.sym (.own 1 [(.int .i64)]) v0) :: (J 2 ((Si 1) :: ((Si 2) :: (J 11 [])))))))),⟨⟨3,[(0,.cells 1 [[(S2 3)]])],[[]],none⟩,[(1,.rows [(.int .i64)] v0)],[]⟩,
 [(.exit 0,2,(J 1 ((.ptr 0 0 0) :: (J 1 ((.sym (.own 1 [(.int .i64)]) v0) :: (J 15 []))))),⟨⟨3,[(0,.cells 1 [[(S2 1)]])],[[]],none⟩,[(1,.rows [(.int .i64)] v0)],[]⟩)],[(1,[(1,3)])]⟩,B7800⟩
@[simp] theorem d7800_id : d7800.L.id = 7800 := rfl
@[simp] theorem d7800_B : d7800.B = B7800 := rfl
def i78 : Inst := ⟨78, 0, [(S2 0)], [.one (.sl [(.int .i64)])]⟩
def s78 : List Cal := [c126]
@[simp] theorem o78_126 : OE s78 126 0 (gpF F126) := oG rfl
@[simp] def l78 : List LoopD := [d7800]
def t78 : Te AV := .need e78_5 (
 .need e78_8 (
 .need e78_11 (
 .need e78_14 (
 .ok (.sym (.sl [(.int .i64)]) e78_15)))))
def F78 : List AV → Option AV := unitF (omL KK s78 l78) t78
def c78 : Cal := ⟨i78, F78⟩
theorem x78 : XO i78 F78 := XUA (T := (tabG 126 p126 (fun _ => false))) (tabG_of x126) rfl (cs := s78) (ds := l78) (t := t78) ⟨gp_xa x126 rfl rfl (by kernel_rfl), trivial⟩ (x := g78) (by kernel_rfl) (by kernel_rfl) (by kernel_rfl)
abbrev e19_0 := Q (LE (I 0) v6) (LT v6 (LN v4)) (.b false)
abbrev e19_1 := Q (LE (I 0) (C 0 v4 v6)) (LT (C 0 v4 v6) (LN v0)) (.b false)
abbrev e19_2 := SE (C 1 v0 (C 0 v4 v6)) (.s w0)
abbrev e19_3 := Q (LE (I 0) (C 0 v4 v6)) (LT (C 0 v4 v6) (LN v2)) (.b false)
abbrev e19_4 := Q e19_2 e19_3 YY
abbrev e19_5 := LE (C 0 v2 (C 0 v4 v6)) v1
abbrev e19_6 := Q e19_2 e19_5 (.b false)
abbrev e19_7 : X := .sl 1 [[(C 0 v0 (C 0 v4 v6))]]
abbrev e19_8 : X := .p (.app 1) [v3,e19_7]
abbrev e19_9 := LN e19_8
abbrev e19_10 := LE e19_9 (I 1073741824)
abbrev e19_11 := OI (K 21 [v0])
abbrev e19_12 := K 77 [v1,(I 0),(I 160)]
abbrev e19_13 := OI e19_12
abbrev e19_14 : X := .sl 1 [[(K 21 [v0])],[e19_12]]
abbrev e19_15 := K 76 [e19_14]
abbrev e19_16 := OI e19_15
abbrev e19_17 := NE e19_15 (I 0)
abbrev e19_18 : X := .p (.okr [.one (.sl [(.int .i64)])]) [(K 74 [v0])]
abbrev e19_19 := Q e19_17 YY e19_18
abbrev e19_20 := K 78 [(K 74 [v0])]
abbrev e19_21 : X := .p (.okr [.one (.sl [(.int .i64)])]) [e19_20]
abbrev e19_22 := Q e19_17 YY e19_21
abbrev e19_23 := LN e19_20
abbrev e19_24 := LO 1900 [v0,v1,(K 74 [v0]),.nils,e19_20,e19_23,(I 0)]
abbrev e19_25 := PJ 0 e19_24
abbrev e19_26 := EQ e19_25 (I 1)
abbrev e19_27 := Q e19_17 YY e19_26
abbrev e19_28 := PJ 1 e19_24
abbrev e19_29 := Q e19_17 .nils e19_28
abbrev e19_30 := Q e19_17 e19_15 (I 0)
def B1900 : Te LEnd := .ite (LT v6 v5) (
 .need e19_0 (
 .need e19_1 (
 .need e19_4 (
 .ite e19_6 (
 .need e19_10 (
 .ok (.again [v0,v1,v2,e19_8,v4,v5,(AD v6 (I 1))]))) (
 .ok (.again [v0,v1,v2,v3,v4,v5,(AD v6 (I 1))])))))) (
 .ok (.out 1 [v3]))
def d1900 : LoopD := ⟨7,⟨1900,7,((.sym (.sl [.str,.str,(.sl [(.int .i64)])]) v0) :: ((Si 1) :: (J 5 ((S2 2) :: ((.sym (.own 1 [.str]) v3) :: (J 14 ((S2 4) :: ((Si 5) :: ((Si 6) :: (J 27 [])))))))))),⟨⟨3,[],[[]],none⟩,[(1,.rows [.str] v3)],[]⟩,
 [(.exit 0,1,(J 8 ((.sym (.own 1 [.str]) v0) :: (J 44 []))),⟨⟨3,[],[[]],none⟩,[(1,.rows [.str] v0)],[]⟩)],[(1,[])]⟩,B1900⟩
@[simp] theorem d1900_id : d1900.L.id = 1900 := rfl
@[simp] theorem d1900_B : d1900.B = B1900 := rfl
def i19 : Inst := ⟨19, 0, [(.sym (.sl [.str, .str, (.sl [(.int .i64)])]) (.v 0)), (Si 1)], [.one (.sl [.str]), .one (.int .i64)]⟩
def s19 : List Cal := [c21, c77, c76, c74, c78]
@[simp] theorem o19_21 : OE s19 21 0 F21 := oG rfl
@[simp] theorem o19_77 : OE s19 77 0 F77 := oG rfl
@[simp] theorem o19_76 : OE s19 76 0 F76 := oG rfl
@[simp] theorem o19_74 : OE s19 74 0 F74 := oG rfl
@[simp] theorem o19_78 : OE s19 78 0 F78 := oG rfl
@[simp] def l19 : List LoopD := [d1900]
def t19 : Te AV := .need e19_11 (
 .need e19_13 (
 .need e19_16 (
 .need e19_19 (
 .need e19_22 (
 .need e19_27 (
 .ok (.tuple [(.sym (.sl [.str]) e19_29),(.sym (.int .i64) e19_30)])))))))
def F19 : List AV → Option AV := unitF (omL KK s19 l19) t19
def c19 : Cal := ⟨i19, F19⟩
theorem x19 : XO i19 F19 := XV s19 l19 t19 g19 ⟨x21, x77, x76, x74, x78, trivial⟩ (by kernel_rfl) (by kernel_rfl) (by kernel_rfl)
def i16 : Inst := ⟨16, 0, [], [.one .bool]⟩
def F16 : List AV → Option AV := fun _ => some (.bool true)
def c16 : Cal := ⟨i16, F16⟩
theorem x16 : XO i16 F16 := by
 refine ⟨?_, fun p hp => by cases hp⟩
 have E : ExtOk Tryz.prog 16 (extTab [(a112, r112)]) := extOk_tab kn16 (fun e he => by
  simp only [List.mem_singleton] at he; subst he; exact row112)
 refine ⟨E.1, fun args r h B0 nx0 w ρ vargs H hrel hg hfl => E.2 args r h B0 nx0 w ρ vargs H hrel ?_ hfl⟩
 unfold extI at hg
 split at hg
 ·rename_i l hl
  split at hg
  ·cases ha : args.map (frz h 0 12) with
   | nil => rw [← hg]; rfl
   | cons x y => rw [ha] at hl; simp [i16, mtVs] at hl
  ·cases hg
 ·cases hg
abbrev e3_0 := OB (K 15 [v0,(I 10)])
abbrev e3_1 := NO (K 15 [v0,(I 10)])
abbrev e3_2 := OB (K 16 [])
abbrev e3_3 := Q e3_1 e3_2 YY
abbrev e3_4 : X := .p (.okr [.one (.sl [.str,.str,(.sl [(.int .i64)])])]) [(K 18 [v0])]
abbrev e3_5 := Q e3_1 YY e3_4
abbrev e3_6 := K 17 [(K 18 [v0])]
abbrev e3_7 : X := .p (.okr [.one (.sl [(.int .i64)]),.one (.int .i64)]) [e3_6]
abbrev e3_8 := Q e3_1 YY e3_7
abbrev e3_9 := K 19 [(K 18 [v0]),v1]
abbrev e3_10 : X := .p (.okr [.one (.sl [.str]),.one (.int .i64)]) [e3_9]
abbrev e3_11 := Q e3_1 YY e3_10
abbrev e3_12 := OI (K 20 [v0])
abbrev e3_13 := Q e3_1 YY e3_12
abbrev e3_14 := K 21 [(K 18 [v0])]
abbrev e3_15 := OI e3_14
abbrev e3_16 := Q e3_1 YY e3_15
abbrev e3_17 := NE e3_14 (K 20 [v0])
abbrev e3_18 := NE (K 20 [v0]) (I 0)
abbrev e3_19 := PJ 1 e3_6
abbrev e3_20 := EQ e3_19 (K 20 [v0])
abbrev e3_21 := PJ 0 e3_6
abbrev e3_22 := LN e3_21
abbrev e3_23 := EQ e3_22 (I 0)
abbrev e3_24 := PJ 1 e3_9
abbrev e3_25 := EQ e3_24 (K 20 [v0])
abbrev e3_26 := PJ 0 e3_9
abbrev e3_27 := LN e3_26
abbrev e3_28 := EQ e3_27 (I 0)
abbrev e3_29 := Q e3_28 e3_2 YY
abbrev e3_30 := Q e3_25 e3_29 YY
abbrev e3_31 := Q e3_23 e3_30 YY
abbrev e3_32 := Q e3_20 e3_31 YY
abbrev e3_33 := Q e3_18 e3_32 YY
abbrev e3_34 := Q e3_17 YY e3_33
abbrev e3_35 := Q e3_1 YY e3_34
abbrev e3_36 := NE e3_19 (I 0)
abbrev e3_37 : X := .p (.okr [.one (.sl [(.int .i64)])]) [(K 23 [v0])]
abbrev e3_38 := Q e3_36 YY e3_37
abbrev e3_39 := Q e3_18 YY e3_38
abbrev e3_40 := Q e3_17 YY e3_39
abbrev e3_41 := Q e3_1 YY e3_40
abbrev e3_42 := K 22 [e3_21,(K 23 [v0])]
abbrev e3_43 := OB e3_42
abbrev e3_44 := Q e3_36 YY e3_43
abbrev e3_45 := Q e3_18 YY e3_44
abbrev e3_46 := Q e3_17 YY e3_45
abbrev e3_47 := Q e3_1 YY e3_46
abbrev e3_48 := NO e3_42
abbrev e3_49 := Q e3_36 YY e3_48
abbrev e3_50 := GT v1 (I 160)
abbrev e3_51 := Q (LT v1 (I 0)) YY e3_50
abbrev e3_52 := EQ e3_24 (I 3)
abbrev e3_53 := Q e3_52 e3_29 YY
abbrev e3_54 := Q e3_51 e3_53 YY
abbrev e3_55 := Q e3_49 YY e3_54
abbrev e3_56 := Q e3_18 YY e3_55
abbrev e3_57 := Q e3_17 YY e3_56
abbrev e3_58 := Q e3_1 YY e3_57
abbrev e3_59 := EQ e3_24 (I 0)
abbrev e3_60 : X := .p (.okr [.one (.sl [.str])]) [(K 25 [v0,v1])]
abbrev e3_61 := Q e3_59 e3_60 YY
abbrev e3_62 := Q e3_51 YY e3_61
abbrev e3_63 := Q e3_49 YY e3_62
abbrev e3_64 := Q e3_18 YY e3_63
abbrev e3_65 := Q e3_17 YY e3_64
abbrev e3_66 := Q e3_1 YY e3_65
abbrev e3_67 := K 24 [e3_26,(K 25 [v0,v1])]
abbrev e3_68 := OB e3_67
abbrev e3_69 := Q e3_59 e3_68 YY
abbrev e3_70 := Q e3_51 YY e3_69
abbrev e3_71 := Q e3_49 YY e3_70
abbrev e3_72 := Q e3_18 YY e3_71
abbrev e3_73 := Q e3_17 YY e3_72
abbrev e3_74 := Q e3_1 YY e3_73
abbrev e3_75 := Q e3_67 e3_2 YY
abbrev e3_76 := Q e3_59 e3_75 YY
abbrev e3_77 := Q e3_51 YY e3_76
abbrev e3_78 := Q e3_49 YY e3_77
abbrev e3_79 := Q e3_18 YY e3_78
abbrev e3_80 := Q e3_17 YY e3_79
abbrev e3_81 := Q e3_1 YY e3_80
abbrev e3_82 := Q e3_28 (K 16 []) (.b false)
abbrev e3_83 := Q e3_25 e3_82 (.b false)
abbrev e3_84 := Q e3_23 e3_83 (.b false)
abbrev e3_85 := Q e3_20 e3_84 (.b false)
abbrev e3_86 := Q e3_52 e3_82 (.b false)
abbrev e3_87 := Q e3_67 (K 16 []) (.b false)
abbrev e3_88 := Q e3_59 e3_87 (.b false)
abbrev e3_89 := Q e3_51 e3_86 e3_88
abbrev e3_90 := Q e3_49 (.b false) e3_89
abbrev e3_91 := Q e3_18 e3_85 e3_90
abbrev e3_92 := Q e3_17 (.b false) e3_91
abbrev e3_93 := Q e3_1 (K 16 []) e3_92
def i3 : Inst := ⟨3, 0, [(.sym (.sl [.str, .str, (.sl [(.int .i64)])]) (.v 0)), (.sym (.int .i64) (.v 1))], [.one .bool]⟩
def s3 : List Cal := [c15, c16, c18, c17, c19, c20, c21, c23, c22, c25, c24]
@[simp] theorem o3_15 : OE s3 15 0 F15 := oG rfl
@[simp] theorem o3_16 : OE s3 16 0 F16 := oG rfl
@[simp] theorem o3_18 : OE s3 18 0 F18 := oG rfl
@[simp] theorem o3_17 : OE s3 17 0 F17 := oG rfl
@[simp] theorem o3_19 : OE s3 19 0 F19 := oG rfl
@[simp] theorem o3_20 : OE s3 20 0 F20 := oG rfl
@[simp] theorem o3_21 : OE s3 21 0 F21 := oG rfl
@[simp] theorem o3_23 : OE s3 23 0 F23 := oG rfl
@[simp] theorem o3_22 : OE s3 22 0 F22 := oG rfl
@[simp] theorem o3_25 : OE s3 25 0 F25 := oG rfl
@[simp] theorem o3_24 : OE s3 24 0 F24 := oG rfl
@[simp] def l3 : List LoopD := []
def t3 : Te AV := .need e3_0 (
 .need e3_3 (
 .need e3_5 (
 .need e3_8 (
 .need e3_11 (
 .need e3_13 (
 .need e3_16 (
 .need e3_35 (
 .need e3_41 (
 .need e3_47 (
 .need e3_58 (
 .need e3_66 (
 .need e3_74 (
 .need e3_81 (
 .ok (.sym .bool e3_93)))))))))))))))
def F3 : List AV → Option AV := unitF (omL KK s3 l3) t3
def c3 : Cal := ⟨i3, F3⟩
theorem x3 : XO i3 F3 := XUL (cs := s3) (ds := l3) (t := t3) ⟨x15, x16, x18, x17, x19, x20, x21, x23, x22, x25, x24, trivial⟩ (x := g3) (by kernel_rfl) (by kernel_rfl) (by kernel_rfl)
end Go.Proofs.YtdjngcfnlfgjkaaGreatDoor.C5
