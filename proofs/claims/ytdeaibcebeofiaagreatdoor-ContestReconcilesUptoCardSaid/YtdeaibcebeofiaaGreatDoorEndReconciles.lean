/-
  ContestReconciles holds: the card of the second form (what is read is of bulk at most 2^20): Differences and Reconcile return what the reference returns, or the first error, for every round, two logs and rulings.
-/
import Derived.Test.YtdeaibcebeofiaaGreatDoorF2
import Derived.Test.YtdeaibcebeofiaaGreatDoorP3
import Derived.Test.YtdeaibcebeofiaaGreatDoorLaw
import Derived.Test.YtdeaibcebeofiaaGreatDoorTie
set_option linter.unusedVariables false
set_option linter.unusedSimpArgs false
set_option linter.unusedSectionVars false
namespace Go.Proofs.YtdeaibcebeofiaaGreatDoor.C5
open Go Go.Proofs.YtdeaibcebeofiaaGreatDoor.AM Go.Proofs
set_option maxRecDepth 100000
@[simp] def e4_0 : X := (.p (.okr [.one (.sl [(.int .i64), .str, (.int .i64), (.int .i64)])]) [(.p (.call 18 0) [(.v 4)])])
@[simp] def e4_1 : X := (.p (.okr [.one (.sl [(.int .i64), .str, (.int .i64), (.int .i64)])]) [(.p (.call 18 0) [(.v 5)])])
@[simp] def e4_2 : X := (.p (.okr [.one .bool]) [(.p (.call 15 0) [])])
@[simp] def e4_3 : X := (.p (.call 16 0) [(.v 0), (.v 1), (.v 2), (.v 3)])
@[simp] def e4_4 : X := (.p (.okr [.one .bool]) [e4_3])
@[simp] def e4_5 : X := (.p .ite [(.p .not [(.p (.call 15 0) [])]), (.b true), e4_4])
@[simp] def e4_6 : X := (.p .not [e4_3])
@[simp] def e4_7 : X := (.p (.call 17 0) [(.p (.call 18 0) [(.v 4)]), (I (40))])
@[simp] def e4_8 : X := (.p (.okr [.one .bool]) [e4_7])
@[simp] def e4_9 : X := (.p .ite [e4_6, (.b true), e4_8])
@[simp] def e4_10 : X := (.p .ite [(.p .not [(.p (.call 15 0) [])]), (.b true), e4_9])
@[simp] def e4_11 : X := (.p .not [e4_7])
@[simp] def e4_12 : X := (.p (.call 17 0) [(.p (.call 18 0) [(.v 5)]), (I (40))])
@[simp] def e4_13 : X := (.p (.okr [.one .bool]) [e4_12])
@[simp] def e4_14 : X := (.p .ite [e4_11, (.b true), e4_13])
@[simp] def e4_15 : X := (.p .ite [e4_6, (.b true), e4_14])
@[simp] def e4_16 : X := (.p .ite [(.p .not [(.p (.call 15 0) [])]), (.b true), e4_15])
@[simp] def e4_17 : X := (.p .not [e4_12])
@[simp] def e4_18 : X := (.p (.okr [.one .bool]) [(.p (.call 26 0) [(.v 6)])])
@[simp] def e4_19 : X := (.p .ite [e4_17, (.b true), e4_18])
@[simp] def e4_20 : X := (.p .ite [e4_11, (.b true), e4_19])
@[simp] def e4_21 : X := (.p .ite [e4_6, (.b true), e4_20])
@[simp] def e4_22 : X := (.p .ite [(.p .not [(.p (.call 15 0) [])]), (.b true), e4_21])
@[simp] def e4_23 : X := (.p .ite [e4_17, (.b true), (.p .not [(.p (.call 26 0) [(.v 6)])])])
@[simp] def e4_24 : X := (.p .ite [e4_11, (.b true), e4_23])
@[simp] def e4_25 : X := (.p .ite [e4_6, (.b true), e4_24])
@[simp] def e4_26 : X := (.p .ite [(.p .not [(.p (.call 15 0) [])]), (.b true), e4_25])
@[simp] def e4_27 : X := (.p (.call 27 0) [(.v 0), (.v 1), (.v 2), (.v 3), (.v 4), (.v 5)])
@[simp] def e4_28 : X := (.p (.okr [.one (.sl [(.int .i64)]), .one (.int .i64)]) [e4_27])
@[simp] def e4_29 : X := (.p .ite [e4_26, (.b true), e4_28])
@[simp] def e4_30 : X := (.p (.call 28 0) [(.v 0), (.v 1), (.v 2), (.v 3), (.v 4), (.v 5), (.v 6)])
@[simp] def e4_31 : X := (.p (.okr [.one (.sl [(.int .i64), .str, (.int .i64), (.int .i64)]), .one (.int .i64)]) [e4_30])
@[simp] def e4_32 : X := (.p .ite [e4_26, (.b true), e4_31])
@[simp] def e4_33 : X := (.p (.call 21 0) [(.v 0), (.v 1), (.v 2), (.v 3), (.p (.call 18 0) [(.v 4)])])
@[simp] def e4_34 : X := (.p (.okr [.one (.int .i64)]) [e4_33])
@[simp] def e4_35 : X := (.p .ite [e4_26, (.b true), e4_34])
@[simp] def e4_36 : X := (.p (.bin .eql .i64) [e4_33, (I (0))])
@[simp] def e4_37 : X := (.p (.call 21 0) [(.v 0), (.v 1), (.v 2), (.v 3), (.p (.call 18 0) [(.v 5)])])
@[simp] def e4_38 : X := (.p (.okr [.one (.int .i64)]) [e4_37])
@[simp] def e4_39 : X := (.p .ite [e4_36, e4_38, (.b true)])
@[simp] def e4_40 : X := (.p .ite [e4_26, (.b true), e4_39])
@[simp] def e4_41 : X := (.p .ite [e4_36, e4_37, e4_33])
@[simp] def e4_42 : X := (.p (.bin .neq .i64) [e4_41, (I (0))])
@[simp] def e4_43 : X := (.p (.proj 0) [e4_27])
@[simp] def e4_44 : X := (.p (.proj 1) [e4_27])
@[simp] def e4_45 : X := (.p (.call 23 0) [e4_43, e4_44, e4_41, .nils])
@[simp] def e4_46 : X := (.p (.okr [.one .bool]) [e4_45])
@[simp] def e4_47 : X := (.p .ite [e4_42, e4_46, (.b true)])
@[simp] def e4_48 : X := (.p .ite [e4_26, (.b true), e4_47])
@[simp] def e4_49 : X := (.p (.proj 0) [e4_30])
@[simp] def e4_50 : X := (.p (.proj 1) [e4_30])
@[simp] def e4_51 : X := (.p (.call 29 0) [e4_49, e4_50, e4_41, .nils])
@[simp] def e4_52 : X := (.p (.okr [.one .bool]) [e4_51])
@[simp] def e4_53 : X := (.p .ite [e4_45, e4_52, (.b true)])
@[simp] def e4_54 : X := (.p .ite [e4_42, e4_53, (.b true)])
@[simp] def e4_55 : X := (.p .ite [e4_26, (.b true), e4_54])
@[simp] def e4_56 : X := (.p (.call 30 0) [(.p (.call 18 0) [(.v 4)]), (.p (.call 18 0) [(.v 5)])])
@[simp] def e4_57 : X := (.p (.okr [.one (.sl [(.int .i64)])]) [e4_56])
@[simp] def e4_58 : X := (.p .ite [e4_42, (.b true), e4_57])
@[simp] def e4_59 : X := (.p .ite [e4_26, (.b true), e4_58])
@[simp] def e4_60 : X := (.p (.call 23 0) [e4_43, e4_44, (I (0)), e4_56])
@[simp] def e4_61 : X := (.p (.okr [.one .bool]) [e4_60])
@[simp] def e4_62 : X := (.p .ite [e4_42, (.b true), e4_61])
@[simp] def e4_63 : X := (.p .ite [e4_26, (.b true), e4_62])
@[simp] def e4_64 : X := (.p .not [e4_60])
@[simp] def e4_65 : X := (.p (.okr [.one (.sl [(.int .i64), .bool, (.int .i64), .str, (.int .i64), (.int .i64)])]) [(.p (.call 32 0) [(.v 6)])])
@[simp] def e4_66 : X := (.p .ite [e4_64, (.b true), e4_65])
@[simp] def e4_67 : X := (.p .ite [e4_42, (.b true), e4_66])
@[simp] def e4_68 : X := (.p .ite [e4_26, (.b true), e4_67])
@[simp] def e4_69 : X := (.p (.call 31 0) [(.v 0), (.v 1), (.v 2), (.v 3), (.p (.call 32 0) [(.v 6)])])
@[simp] def e4_70 : X := (.p (.okr [.one (.int .i64)]) [e4_69])
@[simp] def e4_71 : X := (.p .ite [e4_64, (.b true), e4_70])
@[simp] def e4_72 : X := (.p .ite [e4_42, (.b true), e4_71])
@[simp] def e4_73 : X := (.p .ite [e4_26, (.b true), e4_72])
@[simp] def e4_74 : X := (.p (.bin .neq .i64) [e4_69, (I (0))])
@[simp] def e4_75 : X := (.p (.call 29 0) [e4_49, e4_50, e4_69, .nils])
@[simp] def e4_76 : X := (.p (.okr [.one .bool]) [e4_75])
@[simp] def e4_77 : X := (.p .ite [e4_74, e4_76, (.b true)])
@[simp] def e4_78 : X := (.p .ite [e4_64, (.b true), e4_77])
@[simp] def e4_79 : X := (.p .ite [e4_42, (.b true), e4_78])
@[simp] def e4_80 : X := (.p .ite [e4_26, (.b true), e4_79])
@[simp] def e4_81 : X := (.p (.call 33 0) [(.p (.call 18 0) [(.v 4)]), (.p (.call 18 0) [(.v 5)]), (.p (.call 32 0) [(.v 6)])])
@[simp] def e4_82 : X := (.p (.okr [.one (.sl [(.int .i64), .str, (.int .i64), (.int .i64)]), .one .bool]) [e4_81])
@[simp] def e4_83 : X := (.p .ite [e4_74, (.b true), e4_82])
@[simp] def e4_84 : X := (.p .ite [e4_64, (.b true), e4_83])
@[simp] def e4_85 : X := (.p .ite [e4_42, (.b true), e4_84])
@[simp] def e4_86 : X := (.p .ite [e4_26, (.b true), e4_85])
@[simp] def e4_87 : X := (.p (.proj 1) [e4_81])
@[simp] def e4_88 : X := (.p .not [e4_87])
@[simp] def e4_89 : X := (.p (.call 34 0) [e4_88, (I (24))])
@[simp] def e4_90 : X := (.p (.okr [.one (.int .i64)]) [e4_89])
@[simp] def e4_91 : X := (.p .ite [e4_74, (.b true), e4_90])
@[simp] def e4_92 : X := (.p .ite [e4_64, (.b true), e4_91])
@[simp] def e4_93 : X := (.p .ite [e4_42, (.b true), e4_92])
@[simp] def e4_94 : X := (.p .ite [e4_26, (.b true), e4_93])
@[simp] def e4_95 : X := (.p (.proj 0) [e4_81])
@[simp] def e4_96 : X := (.p (.call 29 0) [e4_49, e4_50, e4_89, e4_95])
@[simp] def e4_97 : X := (.p (.okr [.one .bool]) [e4_96])
@[simp] def e4_98 : X := (.p .ite [e4_74, (.b true), e4_97])
@[simp] def e4_99 : X := (.p .ite [e4_64, (.b true), e4_98])
@[simp] def e4_100 : X := (.p .ite [e4_42, (.b true), e4_99])
@[simp] def e4_101 : X := (.p .ite [e4_26, (.b true), e4_100])
@[simp] def e4_102 : X := (.p .ite [e4_45, e4_51, (.b false)])
@[simp] def e4_103 : X := (.p .ite [e4_74, e4_75, e4_96])
@[simp] def e4_104 : X := (.p .ite [e4_64, (.b false), e4_103])
@[simp] def e4_105 : X := (.p .ite [e4_42, e4_102, e4_104])
@[simp] def e4_106 : X := (.p .ite [e4_26, (.p (.call 15 0) []), e4_105])
def i4 : Inst := ⟨4, 0, [(.agg [(.sym .str (.v 0)), (.sym (.sl [.str]) (.v 1)), (.sym (.int .i64) (.v 2)), (.sym (.int .i64) (.v 3))]), (.agg [(.sym (.sl [(.int .i64), .str, (.int .i64), (.int .i64)]) (.v 4)), (.sym (.sl [(.int .i64), .str, (.int .i64), (.int .i64)]) (.v 5))]), (.sym (.sl [(.int .i64), .bool, (.int .i64), .str, (.int .i64), (.int .i64)]) (.v 6))], [.one .bool]⟩
def s4 : List Cal := [c18, c15, c16, c17, c26, c27, c28, c21, c23, c29, c30, c32, c31, c33, c34]
@[simp] theorem o4_18 (vs : List AV) : calO s4 18 0 vs = getJ (F18 vs) := by simp [s4, cal_cons, c18, i18, c15, i15, c16, i16, c17, i17, c26, i26, c27, i27, c28, i28, c21, i21, c23, i23, c29, i29, c30, i30, c32, i32, c31, i31, c33, i33, c34, i34]
@[simp] theorem o4_15 (vs : List AV) : calO s4 15 0 vs = getJ (F15 vs) := by simp [s4, cal_cons, c18, i18, c15, i15, c16, i16, c17, i17, c26, i26, c27, i27, c28, i28, c21, i21, c23, i23, c29, i29, c30, i30, c32, i32, c31, i31, c33, i33, c34, i34]
@[simp] theorem o4_16 (vs : List AV) : calO s4 16 0 vs = getJ (F16 vs) := by simp [s4, cal_cons, c18, i18, c15, i15, c16, i16, c17, i17, c26, i26, c27, i27, c28, i28, c21, i21, c23, i23, c29, i29, c30, i30, c32, i32, c31, i31, c33, i33, c34, i34]
@[simp] theorem o4_17 (vs : List AV) : calO s4 17 0 vs = getJ (F17 vs) := by simp [s4, cal_cons, c18, i18, c15, i15, c16, i16, c17, i17, c26, i26, c27, i27, c28, i28, c21, i21, c23, i23, c29, i29, c30, i30, c32, i32, c31, i31, c33, i33, c34, i34]
@[simp] theorem o4_26 (vs : List AV) : calO s4 26 0 vs = getJ (F26 vs) := by simp [s4, cal_cons, c18, i18, c15, i15, c16, i16, c17, i17, c26, i26, c27, i27, c28, i28, c21, i21, c23, i23, c29, i29, c30, i30, c32, i32, c31, i31, c33, i33, c34, i34]
@[simp] theorem o4_27 (vs : List AV) : calO s4 27 0 vs = getJ (F27 vs) := by simp [s4, cal_cons, c18, i18, c15, i15, c16, i16, c17, i17, c26, i26, c27, i27, c28, i28, c21, i21, c23, i23, c29, i29, c30, i30, c32, i32, c31, i31, c33, i33, c34, i34]
@[simp] theorem o4_28 (vs : List AV) : calO s4 28 0 vs = getJ (F28 vs) := by simp [s4, cal_cons, c18, i18, c15, i15, c16, i16, c17, i17, c26, i26, c27, i27, c28, i28, c21, i21, c23, i23, c29, i29, c30, i30, c32, i32, c31, i31, c33, i33, c34, i34]
@[simp] theorem o4_21 (vs : List AV) : calO s4 21 0 vs = getJ (F21 vs) := by simp [s4, cal_cons, c18, i18, c15, i15, c16, i16, c17, i17, c26, i26, c27, i27, c28, i28, c21, i21, c23, i23, c29, i29, c30, i30, c32, i32, c31, i31, c33, i33, c34, i34]
@[simp] theorem o4_23 (vs : List AV) : calO s4 23 0 vs = getJ (F23 vs) := by simp [s4, cal_cons, c18, i18, c15, i15, c16, i16, c17, i17, c26, i26, c27, i27, c28, i28, c21, i21, c23, i23, c29, i29, c30, i30, c32, i32, c31, i31, c33, i33, c34, i34]
@[simp] theorem o4_29 (vs : List AV) : calO s4 29 0 vs = getJ (F29 vs) := by simp [s4, cal_cons, c18, i18, c15, i15, c16, i16, c17, i17, c26, i26, c27, i27, c28, i28, c21, i21, c23, i23, c29, i29, c30, i30, c32, i32, c31, i31, c33, i33, c34, i34]
@[simp] theorem o4_30 (vs : List AV) : calO s4 30 0 vs = getJ (F30 vs) := by simp [s4, cal_cons, c18, i18, c15, i15, c16, i16, c17, i17, c26, i26, c27, i27, c28, i28, c21, i21, c23, i23, c29, i29, c30, i30, c32, i32, c31, i31, c33, i33, c34, i34]
@[simp] theorem o4_32 (vs : List AV) : calO s4 32 0 vs = getJ (F32 vs) := by simp [s4, cal_cons, c18, i18, c15, i15, c16, i16, c17, i17, c26, i26, c27, i27, c28, i28, c21, i21, c23, i23, c29, i29, c30, i30, c32, i32, c31, i31, c33, i33, c34, i34]
@[simp] theorem o4_31 (vs : List AV) : calO s4 31 0 vs = getJ (F31 vs) := by simp [s4, cal_cons, c18, i18, c15, i15, c16, i16, c17, i17, c26, i26, c27, i27, c28, i28, c21, i21, c23, i23, c29, i29, c30, i30, c32, i32, c31, i31, c33, i33, c34, i34]
@[simp] theorem o4_33 (vs : List AV) : calO s4 33 0 vs = getJ (F33 vs) := by simp [s4, cal_cons, c18, i18, c15, i15, c16, i16, c17, i17, c26, i26, c27, i27, c28, i28, c21, i21, c23, i23, c29, i29, c30, i30, c32, i32, c31, i31, c33, i33, c34, i34]
@[simp] theorem o4_34 (vs : List AV) : calO s4 34 0 vs = getJ (F34 vs) := by simp [s4, cal_cons, c18, i18, c15, i15, c16, i16, c17, i17, c26, i26, c27, i27, c28, i28, c21, i21, c23, i23, c29, i29, c30, i30, c32, i32, c31, i31, c33, i33, c34, i34]
@[simp] def l4 : List LoopD := []
def t4 : Te AV := .need e4_0 (
 .need e4_1 (
 .need e4_2 (
 .need e4_5 (
 .need e4_10 (
 .need e4_16 (
 .need e4_22 (
 .need e4_29 (
 .need e4_32 (
 .need e4_35 (
 .need e4_40 (
 .need e4_48 (
 .need e4_55 (
 .need e4_59 (
 .need e4_63 (
 .need e4_68 (
 .need e4_73 (
 .need e4_80 (
 .need e4_86 (
 .need e4_94 (
 .need e4_101 (
 .ok (.sym .bool e4_106))))))))))))))))))))))
def F4 : List AV → Option AV := unitF (omL KK s4 l4) t4
def c4 : Cal := ⟨i4, F4⟩
theorem u4 : unitChk tab keep s4 l4 40 4 i4.pats t4 = true := by kernel_rfl
theorem q4 : Known Tryz.prog 4 := fn_known tabOf.1 (x := g4) (by kernel_rfl) (by kernel_rfl)
theorem x4 : ExtOk Tryz.prog 4 (extI i4 F4) := unit_ext tabOf.1 tabOf.2 (allX_mem (cs := s4) ⟨x18, x15, x16, x17, x26, x27, x28, x21, x23, x29, x30, x32, x31, x33, x34, trivial⟩) q4 u4
end Go.Proofs.YtdeaibcebeofiaaGreatDoor.C5

namespace Go.Proofs.YtdeaibcebeofiaaGreatDoor.C5
open Go Go.Proofs.YtdeaibcebeofiaaGreatDoor.AM
set_option maxRecDepth 20000
set_option maxHeartbeats 4000000
theorem p31' {names f pl ti a : AV} {n : Nat} (hl : names.lenN = n) (hn : n < 2097152) {es : List Rul} (h : IsL 6 (es.map rulR) a) (hes : es.length < 2097152) :
  F31 [f, names, pl, ti, a] = some (ia (cksR n es)) := p31 hl hn h hes
theorem law4 {r : Rd} {names a b c : AV} (hr : RdOk r names) {xs ys : List Ent} {rs : List Rul} (h : IsL 4 (xs.map entR) a) (hx : xs.length < 1048577) (h' : IsL 4 (ys.map entR) b) (hy : ys.length < 1048577)
  (h'' : IsL 6 (rs.map rulR) c) (hz : rs.length < 1048577) : F4 [.str r.f, names, ia r.pl, ia r.ti, a, b, c] = some (.bool true) := by
 have okE : ∀ zs : List Ent, (Sh.sl [.int .i64, .str, .int .i64, .int .i64]).ok (mkL 4 (zs.map entR)) = true := fun zs => (mkL_isL 4 (zs.map entR)).ok rfl (by simp [entR])
 have okR : ∀ zs : List Rul, (Sh.sl [.int .i64, .bool, .int .i64, .str, .int .i64, .int .i64]).ok (mkL 6 (zs.map rulR)) = true := fun zs => (mkL_isL 6 (zs.map rulR)).ok rfl (by simp [rulR])
 have okD : ∀ n, (Sh.sl [.int .i64]).ok (accD xs ys n) = true := fun n => (mkL_isL 1 _).ok rfl (by simp [placeR])
 have okA : ∀ n, (Sh.sl [.int .i64, .str, .int .i64, .int .i64]).ok (accR xs ys rs n) = true := fun n => (mkL_isL 4 _).ok rfl (by simp [entR])
 have e1 := p18 h hx
 have e2 := p18 h' hy
 have i1 := mkL_isL 4 (xs.map entR)
 have i2 := mkL_isL 4 (ys.map entR)
 have i3 := mkL_isL 6 (rs.map rulR)
 obtain ⟨b1, z1⟩ := p16 (pl := ia r.pl) (ti := ia r.ti) (f := r.f) hr.isL hr.len
 obtain ⟨b2, z2⟩ := p17 i1 hx 40
 obtain ⟨b3, z3⟩ := p17 i2 hy 40
 obtain ⟨b4, z4⟩ := p26 h'' hz
 have f27 := p27 hr h hx h' hy
 have f28 := p28 hr h hx h' hy h'' hz
 have f21 := p21 hr i1 hx
 have f21' := p21 hr i2 hy
 have f32 := p32 h'' hz
 have f31 := p31' (f := .str r.f) (pl := ia r.pl) (ti := ia r.ti) hr.isL.lenM (by have := hr.len; omega) i3 (by omega)
 have f33 := p33 i1 i2 hx hy i3 hz
 have f30 := p30 i1 hx i2 hy
 have hb := both_eq r xs ys
 have f15 : F15 [] = some (.bool true) := rfl
 have o15 : calO s4 15 0 [] = .bool true := by rw [o4_15, f15]; rfl
 have hD : IsL 1 ((diffs xs ys (max xs.length ys.length)).map placeR) (accD xs ys (max xs.length ys.length)) := mkL_isL _ _
 have hD' : IsL 1 (((diffs xs ys (max xs.length ys.length)).map fun j => ((j + 1 : Nat) : Int)).map intR) (accD xs ys (max xs.length ys.length)) := by
  rw [List.map_map]; exact hD
 have hA : IsL 4 ((recN xs ys rs (max xs.length ys.length)).map entR) (accR xs ys rs (max xs.length ys.length)) := mkL_isL _ _
 have lD : ((diffs xs ys (max xs.length ys.length)).map fun j => ((j + 1 : Nat) : Int)).length < 1048577 := by
  have := diffs_len xs ys (max xs.length ys.length); rw [List.length_map]; omega
 have lA : (recN xs ys rs (max xs.length ys.length)).length < 1048577 := by have := recN_len xs ys rs (max xs.length ys.length); omega
 have g23 := p23_ok hD' hD' lD
 have g29 := p29_ok hA hA lA
 have n29 := p29_ok (a := .nils) (b := .nils) (xs := []) isL_nils isL_nils (by simp)
 by_cases hc1 : ckLog r xs = 0
 ·rw [if_pos hc1] at hb
  by_cases hc : ckLog r ys = 0
  ·rw [hc] at hb
   rw [← hb] at f27 f28
   simp only [ne_eq, not_true_eq_false, if_false] at f27 f28
   by_cases hc2 : cksR r.ns.length rs = 0
   ·simp only [hc2, not_true_eq_false, if_false] at f28
    cases hk : recOk xs ys rs <;> rw [hk] at f28 f33 <;> simp at f28 f33 <;> cases b1 <;> cases b2 <;> cases b3 <;> cases b4 <;>
     simp [F4, unitF_eq, t4, e1, e2, z1, z2, z3, z4, okE, okR, okD, okA, f27, f28, f21, f21', f32, f31, f33, f30, o15, hc1, hc, hc2, hk, p34, whenI, g23, g29, p29_bad]
   ·simp only [hc2, not_false_eq_true, if_true] at f28
    cases b1 <;> cases b2 <;> cases b3 <;> cases b4 <;>
     simp [F4, unitF_eq, t4, e1, e2, z1, z2, z3, z4, okE, okR, okD, okA, f27, f28, f21, f21', f32, f31, f33, f30, o15, hc1, hc, hc2, p34, whenI, g23, g29, p29_bad]
  ·rw [← hb] at f27 f28
   simp only [ne_eq, hc, not_false_eq_true, if_true] at f27 f28
   cases b1 <;> cases b2 <;> cases b3 <;> cases b4 <;>
    simp [F4, unitF_eq, t4, e1, e2, z1, z2, z3, z4, okE, okR, okD, okA, f27, f28, f21, f21', f32, f31, f33, f30, o15, hc1, hc, p29_bad, p23_bad]
 ·rw [if_neg hc1] at hb
  rw [← hb] at f27 f28
  simp only [ne_eq, hc1, not_false_eq_true, if_true] at f27 f28
  cases b1 <;> cases b2 <;> cases b3 <;> cases b4 <;>
   simp [F4, unitF_eq, t4, e1, e2, z1, z2, z3, z4, okE, okR, okD, okA, f27, f28, f21, f21', f32, f31, f33, f30, o15, hc1, p29_bad, p23_bad]
end Go.Proofs.YtdeaibcebeofiaaGreatDoor.C5

namespace Go.Proofs.YtdeaibcebeofiaaGreatDoor.C5
open Go Go.Proofs.YtdeaibcebeofiaaGreatDoor.AM Go.Proofs Go.RowKit Go.ChangeShapes Go.WideShapes Go.ChangeAt Go.Proofs.YtdeaibcebeofiaaGreatDoor
set_option maxRecDepth 100000
set_option maxHeartbeats 4000000
theorem rss4 : mapO (rsT tab) Tryz.f4.params.toList = some [rsRound, .agg [.sl shE, .sl shE], .one (.sl shR)] := by kernel_rfl
theorem lay4 : Tryz.f4.params.toList.all (layOk tab 20) = true := by kernel_rfl
theorem rec4 : Tryz.f4.params.toList.all (fun t => Tryz.prog.readableRec t && decide (t < Tryz.prog.types.size)) = true := by kernel_rfl
theorem ans4 (xs : List AV) (h : RS.oks [rsRound, .agg [.sl shE, .sl shE], .one (.sl shR)] xs = true) (hs : (xs.map AV.szc).sum ≤ 1048576) : extI i4 F4 xs = some (.bool true) := by
 obtain ⟨x1, _, rfl, h1, q0⟩ := RS.oks_inv h
 obtain ⟨x2, _, rfl, h2, q1⟩ := RS.oks_inv q0
 obtain ⟨x3, _, rfl, h3, q2⟩ := RS.oks_inv q1
 obtain rfl := RS.oks_nil_inv q2
 simp only [List.map_cons, List.map_nil, List.sum_cons, List.sum_nil] at hs
 obtain ⟨r, names, rfl, hr, hn⟩ := rd_round h1 (n := 1048576) (by omega) (Nat.le_refl _)
 obtain ⟨_, rfl, k0⟩ := RS.agg_inv h2
 obtain ⟨a, _, rfl, ha, k1⟩ := Sh.oks_inv k0
 obtain ⟨b, _, rfl, hb, k2⟩ := Sh.oks_inv k1
 obtain rfl := Sh.oks_nil_inv k2
 have hc : (Sh.sl shR).ok x3 = true := h3
 have h3s : x3.sz ≤ 1048576 := by
  rcases Sh.sl_inv hc with rfl | ⟨rows, rfl, _⟩ <;> simp only [AV.szc] at hs <;> omega
 simp only [AV.szc, AV.szs] at hs
 obtain ⟨xs, g1, g2⟩ := rd_ents ha (n := 1048576) (by omega)
 obtain ⟨ys, g3, g4⟩ := rd_ents hb (n := 1048576) (by omega)
 obtain ⟨rs, g5, g6⟩ := rd_ruls hc (n := 1048576) h3s
 have hL := law4 hr g1 (by omega) g3 (by omega) g5 (by omega)
 simp only [extI, i4, mtVs, mtV, hn, ha, hb, hc, ok_str, ok_int, if_true, List.append_nil, List.nil_append, List.cons_append, List.map_cons, List.map_nil, List.length_cons, List.length_nil]
 rw [if_pos (by decide)]
 exact hL
end Go.Proofs.YtdeaibcebeofiaaGreatDoor.C5

namespace Go.Proofs.YtdeaibcebeofiaaGreatDoor.fnReconciles
open Go Go.Proofs.YtdeaibcebeofiaaGreatDoor.AM C5 Go.Proofs Go.RowKit Go.ChangeShapes Go.WideShapes Go.ChangeAt
set_option maxRecDepth 100000
def wargs : Array Value := #[zRound, .agg #[.slice none 0 0, .slice none 0 0], .slice none 0 0]
theorem reads (os : Os) {H : Type} (enc : TypeId × Value → H) : ∃ places, DataW.whole enc Tryz.prog ((laidWorld os).forCall (fun _ _ => 0) ⟨#[], wargs, []⟩).memory Tryz.f4.params.toList Rows.contestReconcilesSpec.vars false wargs.toList 8 = some ([dRound, .agg [.nil, .nil], .nil], [], places) :=
 ⟨[], by kernel_rfl⟩
theorem liftedUpto (os : Os) (started : os.Started) (H : Type) (enc : TypeId × Value → H) (F : Stop.Interp) :
  ReturnsInHanded {} Tryz.checked os 4 .any ((Rows.OpenSpec.upto Rows.contestReconcilesSpec).preRow enc Tryz.prog Tryz.f4 Rows.contestReconcilesUptoRow.domain false Rows.contestReconcilesUptoRow.laid) (((Rows.OpenSpec.upto Rows.contestReconcilesSpec).at F).post enc Tryz.prog Tryz.f4 false true false false) := by
 obtain ⟨places, hx⟩ := reads os enc
 refine returnsInHanded_of_row (C := Tryz.checked) (s := Rows.OpenSpec.upto Rows.contestReconcilesSpec) ownT started (by kernel_rfl) Tryz.func4
  (witness_row_at (enc := enc) (C := Tryz.checked) false (laidWorld os) wargs rfl (by kernel_rfl) (by kernel_rfl) (by kernel_rfl)
   (OpenSpec.preRow_of_cond 8 hx (by kernel_rfl) (fun k hk => by cases hk; kernel_rfl) (by kernel_rfl) (laid_met os wargs))) ?_
 intro W base args ds gs before hval hW _ hcond _ hL _ _
 exact contractU (spec := Rows.contestReconcilesSpec) (row := Rows.contestReconcilesUptoRow) x4 rss4 lay4 rec4 rfl (by kernel_rfl) rfl
  (fun H ds h => by
   obtain ⟨a, b, c, rfl⟩ : ∃ a b c, ds = [a, b, c] := by
    have h3 : ds.length = 3 := h
    match ds, h3 with
    | [a, b, c], _ => exact ⟨a, b, c, rfl⟩
   rfl) ans4 H enc W base args ds gs before hval hW (hcond _ rfl) hL
theorem jPlace : (Rows.contestReconcilesUptoRow.inPlace == Tryz.prog.inPlace 4) = true := by kernel_rfl
theorem jUnf : (Rows.contestReconcilesUptoRow.unfollowed == Tryz.prog.unfollowed 4) = true := by kernel_rfl
theorem jRec : (Rows.contestReconcilesUptoRow.recurses == Tryz.prog.recurses 4) = true := by kernel_rfl
theorem jNamed : (Rows.contestReconcilesUptoRow.named == Tryz.prog.varsNamed 4) = true := by kernel_rfl
theorem jName : Tryz.prog.funcNamed "crux/cruxlaw05.ContestReconciles" = some 4 := by kernel_rfl
theorem joined : joinedFacts Tryz.prog 4 Tryz.f4 Rows.contestReconcilesSpec Rows.contestReconcilesUptoRow = true :=
 joined_of (by kernel_rfl) laidOutT jMaps (by kernel_rfl) (by kernel_rfl) rfl jStops rfl jKnobs jPlace jUnf jRec jNamed (by kernel_rfl) (by kernel_rfl) (by kernel_rfl) (by kernel_rfl) (by kernel_rfl) rfl (by kernel_rfl) (by kernel_rfl) (by kernel_rfl)
  jKeys rfl jHeard jEnter jLifted jMake rfl (by kernel_rfl) (by kernel_rfl) (by kernel_rfl)
theorem inst : Tryz.f4.isInstance Tryz.prog Rows.contestReconcilesUptoRow.origin Rows.contestReconcilesUptoRow.targs := of_decide_eq_true (by kernel_rfl)
theorem wrap : Tryz.f4.isWrapper Tryz.prog Rows.contestReconcilesUptoRow.wrapper Rows.contestReconcilesUptoRow.mainSum := by
 unfold Func.isWrapper; first | (rw [if_pos (by decide +kernel)]; kernel_rfl) | (rw [if_neg (by decide +kernel)]; exact ⟨rfl, rfl⟩)
theorem saidUpto : Rows.ContestReconcilesUptoSaid :=
 OpenClaim.holds_of_cond 4 Tryz.f4 rfl rfl rfl rfl rfl rfl rfl ⟨rfl, rfl, rfl, rfl, rfl⟩ rfl rfl rfl rfl rfl jName Tryz.func4 joined inst wrap
  (fun os started H enc _ F => by rw [OpenClaim.pre_eq_preRow]; exact liftedUpto os started H enc F)
theorem plain (f : FuncId) (fn : Func) (hf : Tryz.pinned.checked.prog.funcNamed "crux/cruxlaw05.ContestReconciles" = some f) (hfn : Tryz.pinned.checked.prog.funcs[f]? = some fn) :
  false = Tryz.pinned.checked.prog.looks [] ∧ ∀ (j : Nat) t, fn.params[j]? = some t → Tryz.pinned.checked.prog.wantsStandIn t = false := by
 obtain rfl : f = 4 := Option.some.inj (jName.symm.trans hf) |>.symm
 obtain rfl : fn = Tryz.f4 := (Option.some.inj (Tryz.func4.symm.trans hfn)).symm
 refine ⟨by kernel_rfl, fun j t ht => ?_⟩
 have hall : (Tryz.f4.params.toList.all fun u => !Tryz.prog.wantsStandIn u) = true := by kernel_rfl
 have hm : t ∈ Tryz.f4.params.toList := by simpa using Array.mem_of_getElem? ht
 exact (show Tryz.prog.wantsStandIn t = false by simpa using List.all_eq_true.1 hall t hm)
theorem cardUpto : Rows.ContestReconcilesUptoCardSaid :=
 Claim7.holds_tied_plain_at .later [] _ _ _ _ saidUpto (fun _ h => by cases h) (by kernel_rfl) (fun _ h => by cases h) contestReconcilesUpto_row_tie rfl ⟨rfl, rfl⟩ (by kernel_rfl) rfl plain (by kernel_rfl)
#print axioms cardUpto
end Go.Proofs.YtdeaibcebeofiaaGreatDoor.fnReconciles
