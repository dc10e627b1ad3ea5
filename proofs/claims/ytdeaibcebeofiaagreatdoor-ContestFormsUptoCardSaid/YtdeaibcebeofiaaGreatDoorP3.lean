/-
  Plain lemmas (third part).
-/
import Derived.Test.YtdeaibcebeofiaaGreatDoorP2
import Derived.Test.YtdeaibcebeofiaaGreatDoorF3
set_option linter.unusedVariables false
set_option linter.unusedSimpArgs false
set_option linter.unusedSectionVars false
namespace Go.Proofs.YtdeaibcebeofiaaGreatDoor.C5
open Go Go.Proofs.YtdeaibcebeofiaaGreatDoor.AM
set_option maxRecDepth 20000
set_option maxHeartbeats 4000000
theorem n01 : ¬ w0 = w1 := by decide
theorem n02 : ¬ w0 = w2 := by decide
theorem n10 : ¬ w1 = w0 := by decide
theorem n12 : ¬ w1 = w2 := by decide
theorem n20 : ¬ w2 = w0 := by decide
theorem n21 : ¬ w2 = w1 := by decide
theorem G9900 {Ω : Om} (hΩ : ∀ vs, Ω 168 0 vs = getJ (F168 vs)) {a v1 v2 v3 v4 v5 v6 v7 v8 v9 v11 v12 v13 v14 v15 : AV} {ts : List Tri} (h : IsL 4 (ts.map triR) a) (hn : ts.length < 1048577) :
  loopG Ω B9900 KK [ia 0, v1, v2, v3, v4, v5, v6, v7, v8, v9, a, v11, v12, v13, v14, v15] = some (if trysC ts = 0 then .tuple [ia 2, v1, v2, v3, v4, v5, v6, v7, v8, v9, a, v11, v12, v13, v14, v15] else .tuple [ia 1, ia (trysC ts)]) := by
 have hG := loopL (Ω := Ω) (B := B9900) (fun i => [ia i, v1, v2, v3, v4, v5, v6, v7, v8, v9, a, v11, v12, v13, v14, v15]) ts (fun t => if tryC t = 0 then none else some (.tuple [ia 1, ia (tryC t)])) (.tuple [ia 2, v1, v2, v3, v4, v5, v6, v7, v8, v9, a, v11, v12, v13, v14, v15]) (by omega) (fun i hi => by
  have hr : nth a.rowsL (Int.toNat (i : Int)) = some (triR ts[i]) := h.row hi
  have hw := wS (i := i) (by omega)
  have hp := p168 ts[i]
  simp only [triR, Int.toNat_natCast] at hr hp
  push_cast at hw
  by_cases hc : tryC ts[i] = 0 <;> simp [B9900, h.lenM, hr, hi, hw, hp, hc, hΩ]) (by simp [B9900, h.lenM])
 refine Eq.trans hG ?_
 rw [find_map]
 rcases find_cases (ts.map tryC) with ⟨g1, g2⟩ | ⟨g1, g2⟩ <;> rw [g2] <;> simp [trysC, g1]
theorem G9901 {Ω : Om} (hΩ : ∀ vs, Ω 90 0 vs = getJ (F90 vs)) {a v1 v2 v3 v4 v5 v6 v7 v8 v9 v10 v12 v13 v14 v15 : AV} {rs : List Int} (h : IsL 1 (rs.map intR) a) (hn : rs.length < 1048577) :
  loopG Ω B9901 KK [ia 0, v1, v2, v3, v4, v5, v6, v7, v8, v9, v10, a, v12, v13, v14, v15] = some (if runsB rs then .tuple [ia 1] else .tuple [ia 2, v1, v2, v3, v4, v5, v6, v7, v8, v9, v10, a, v12, v13, v14, v15]) := by
 have hG := loopL (Ω := Ω) (B := B9901) (fun i => [ia i, v1, v2, v3, v4, v5, v6, v7, v8, v9, v10, a, v12, v13, v14, v15]) rs (fun n => if outB n 0 86399999 then some (.tuple [ia 1]) else none) (.tuple [ia 2, v1, v2, v3, v4, v5, v6, v7, v8, v9, v10, a, v12, v13, v14, v15]) (by omega) (fun i hi => by
  have hr : nth a.rowsL (Int.toNat (i : Int)) = some [ia rs[i]] := h.row hi
  have hw := wS (i := i) (by omega)
  have hp := p90 rs[i] 0 86399999
  simp only [Int.toNat_natCast] at hr
  push_cast at hw
  cases hc : outB rs[i] 0 86399999 <;> rw [hc] at hp <;> simp [B9901, h.lenM, hr, hi, hw, hp, hΩ]) (by simp [B9901, h.lenM])
 refine Eq.trans hG ?_
 rw [any_find]
 unfold runsB
 cases (rs.any fun n => outB n 0 86399999) <;> rfl
def vs99 (f : ByteArray) (names : AV) (n ti time : Int) (c : Clb) : List AV := [.str f, names, ia n, ia ti, ia time, .str c.ph, .str c.st, ia c.pl, ia c.be, ia c.us, ia c.ho, .bool c.pb, .bool c.tb, .bool c.ob, c.tr, c.ru]
def om99 : Om := omL KK s99 l99
theorem om99_90 (vs : List AV) : om99 90 0 vs = getJ (F90 vs) := by simp [om99]
theorem om99_167 (vs : List AV) : om99 167 0 vs = getJ (F167 vs) := by simp [om99]
theorem om99_125 (vs : List AV) : om99 125 0 vs = getJ (F125 vs) := by simp [om99]
theorem om99_9900 (vs : List AV) : om99 100000 9900 vs = getJ (loopG (calO s99) B9900 KK vs) := by simp [om99]
theorem om99_9901 (vs : List AV) : om99 100000 9901 vs = getJ (loopG (omL KK s99 [d9900]) B9901 KK vs) := by simp [om99]
section
variable {f : ByteArray} {names : AV} {n ti time : Int} {c : Clb}
theorem ph4 (s : ByteArray) : (s = w18 ∧ ¬ s = w19 ∧ ¬ s = w20) ∨ (¬ s = w18 ∧ s = w19 ∧ ¬ s = w20) ∨ (¬ s = w18 ∧ ¬ s = w19 ∧ s = w20) ∨ (¬ s = w18 ∧ ¬ s = w19 ∧ ¬ s = w20) := by
 by_cases h1 : s = w18
 ·subst h1; left; exact ⟨rfl, by decide, by decide⟩
 by_cases h2 : s = w19
 ·subst h2; right; left; exact ⟨by decide, rfl, by decide⟩
 by_cases h3 : s = w20
 ·subst h3; right; right; left; exact ⟨by decide, by decide, rfl⟩
 ·right; right; right; exact ⟨h1, h2, h3⟩
theorem nv : nth (vs99 f names n ti time c) 0 = some (.str f) ∧ nth (vs99 f names n ti time c) 2 = some (ia n) ∧ nth (vs99 f names n ti time c) 5 = some (.str c.ph) ∧ nth (vs99 f names n ti time c) 6 = some (.str c.st) ∧ nth (vs99 f names n ti time c) 7 = some (ia c.pl) ∧ nth (vs99 f names n ti time c) 13 = some (.bool c.ob) ∧ nth (vs99 f names n ti time c) 14 = some c.tr ∧ nth (vs99 f names n ti time c) 15 = some c.ru := ⟨rfl, rfl, rfl, rfl, rfl, rfl, rfl, rfl⟩
theorem k12 : X.den om99 (vs99 f names n ti time c) e99_12 = .bool (!knownB c) := by
 have hm : memB c.st stsL = (decide (c.st = w3) || (decide (c.st = w21) || (decide (c.st = w22) || decide (c.st = w23)))) := by simp [memB, stsL]
 have hp : memB c.ph phsL = (decide (c.ph = w18) || (decide (c.ph = w19) || decide (c.ph = w20))) := by simp [memB, phsL]
 unfold knownB
 rw [hm, hp]
 generalize ha : decide (c.st = w3) = a
 generalize hb : decide (c.st = w21) = b
 generalize hd : decide (c.st = w22) = d
 generalize he : decide (c.st = w23) = e
 generalize hx : decide (c.ph = w18) = x
 generalize hy : decide (c.ph = w19) = y
 generalize hz : decide (c.ph = w20) = z
 simp only [e99_12, e99_11, e99_10, e99_9, e99_8, e99_7, vs99, d_p, ds_cons, ds_nil, d_v, d_s, d_b, nth_zero, nth_succ, nth_lit, getJ_some, s_ite', s_sneq, sS_str, bB_bool, bool_cond, tl_beq, ha, hb, hd, he, hx, hy, hz]
 cases a <;> cases b <;> cases d <;> cases e <;> cases x <;> cases y <;> cases z <;> rfl
theorem k13 : X.den om99 (vs99 f names n ti time c) e99_13 = .bool (stateB c) := by
 simp [-s_ite, s_ite', bB_cond, bool_cond, tl_beq, vs99, stateB]
theorem k45 : X.den om99 (vs99 f names n ti time c) e99_45 = .bool (farB f n ti time c) := by
 have h : (cond (decide (f = w0)) (ia n) (AV.int .i64 0)) = ia (holdsI f n) := by
  unfold holdsI
  by_cases h : f = w0 <;> simp [h]
 simp [-s_ite, s_ite', bB_cond, bool_cond, tl_beq, vs99, om99_90, om99_167, p167, p90, h, farB]
theorem kok : X.den om99 (vs99 f names n ti time c) e99_15 = .bool true ∧ X.den om99 (vs99 f names n ti time c) e99_20 = .bool true ∧ X.den om99 (vs99 f names n ti time c) e99_26 = .bool true ∧ X.den om99 (vs99 f names n ti time c) e99_32 = .bool true ∧ X.den om99 (vs99 f names n ti time c) e99_40 = .bool true := by
 have h : (cond (decide (f = w0)) (ia n) (AV.int .i64 0)) = ia (holdsI f n) := by
  unfold holdsI
  by_cases h : f = w0 <;> simp [h]
 simp [-s_ite, s_ite', bB_cond, bool_cond, tl_beq, vs99, om99_90, om99_167, p167, p90, h]
theorem k52 (hc : ClbOk c) (hf : f = w0 ∨ f = w1 ∨ f = w2) : X.den om99 (vs99 f names n ti time c) e99_52 = .bool (shapeB f n c) := by
 have h5 : c.tr.lenN = c.ts.length := hc.t.lenM
 have h6 : c.ru.lenN = c.rs.length := hc.r.lenM
 rcases hf with rfl | rfl | rfl <;>
  simp [-s_ite, s_ite', bB_cond, nI_cond, bool_cond, int_cond, tl_beq, ne_b, vs99, h5, h6, shapeB, triesI, runsI, n01, n02, n10, n12, n20, n21]
theorem k55 (hc : ClbOk c) : X.den om99 (vs99 f names n ti time c) e99_53 = if trysC c.ts = 0 then .tuple [ia 2, .str c.ph, .str c.st, ia c.pl, ia c.be, ia c.us, ia c.ho, .bool c.pb, .bool c.tb, .bool c.ob, c.tr, c.ru, .str f, names, ia n, ia ti] else .tuple [ia 1, ia (trysC c.ts)] := by
 have h1 := @G9900 (calO s99) (fun vs => o99_168 vs) c.tr (.str c.ph) (.str c.st) (ia c.pl) (ia c.be) (ia c.us) (ia c.ho) (.bool c.pb) (.bool c.tb) (.bool c.ob) c.ru (.str f) names (ia n) (ia ti) c.ts hc.t hc.tl
 simp only [e99_53, vs99, d_p, ds_cons, ds_nil, d_v, d_i, nth_zero, nth_succ, nth_lit, getJ_some, s_call, om99_9900, h1]
theorem k64 (hc : ClbOk c) : X.den om99 (vs99 f names n ti time c) e99_62 = if runsB c.rs then .tuple [ia 1] else .tuple [ia 2, .str c.ph, .str c.st, ia c.pl, ia c.be, ia c.us, ia c.ho, .bool c.pb, .bool c.tb, .bool c.ob, c.tr, c.ru, .str f, names, ia n, ia ti] := by
 have h2 := @G9901 (omL KK s99 [d9900]) (fun vs => o99_90 vs) c.ru (.str c.ph) (.str c.st) (ia c.pl) (ia c.be) (ia c.us) (ia c.ho) (.bool c.pb) (.bool c.tb) (.bool c.ob) c.tr (.str f) names (ia n) (ia ti) c.rs hc.r hc.rl
 simp only [e99_62, vs99, d_p, ds_cons, ds_nil, d_v, d_i, nth_zero, nth_succ, nth_lit, getJ_some, s_call, om99_9901, h2]
theorem k76 : X.den om99 (vs99 f names n ti time c) e99_76 = .bool (foreignB f c) := by
 simp [-s_ite, s_ite', bB_cond, bool_cond, tl_beq, ne_b, vs99, foreignB]
 rcases tf_or (f = w0) with e | e <;> rcases tf_or (f = w1) with e1 | e1 <;> simp [e, e1, Bool.or_assoc]
theorem k120 (hc : ClbOk c) : X.den om99 (vs99 f names n ti time c) e99_120 = .bool (decide (bestI c.rs > 0)) := by
 have h3 := p125 (v2 := .str c.ph) (v3 := .str c.st) (v4 := ia c.pl) (v5 := ia c.be) (v6 := ia c.us) (v7 := ia c.ho) (v8 := .bool c.pb) (v9 := .bool c.tb) (v10 := .bool c.ob) (v11 := c.tr) hc.r hc.rl
 simp only [e99_120, vs99, d_p, ds_cons, ds_nil, d_v, d_i, nth_zero, nth_succ, nth_lit, getJ_some, s_call, om99_125, h3]
theorem k_out {a : Int} (h : ckForm f n ti time c = a) (ha : a ≠ 0) : ckClimb f n ti time c = a := by
 unfold ckClimb
 rw [if_neg (by rw [h]; exact ha), h]
end
theorem p99 {f : ByteArray} {names : AV} {n ti time : Int} {c : Clb} (hc : ClbOk c) (hf : f = w0 ∨ f = w1 ∨ f = w2) :
  F99 (.str f :: names :: ia n :: ia ti :: ia time :: c.row) = some (ia (ckClimb f n ti time c)) := by
 have q12 := @k12 f names n ti time c
 have q13 := @k13 f names n ti time c
 have q45 := @k45 f names n ti time c
 have q52 := @k52 f names n ti time c hc hf
 have q53 := @k55 f names n ti time c hc
 have q62 := @k64 f names n ti time c hc
 have q76 := @k76 f names n ti time c
 obtain ⟨q15, q20, q26, q32, q40⟩ := @kok f names n ti time c
 have q120 := @k120 f names n ti time c hc
 show unitF om99 t99 (vs99 f names n ti time c) = _
 rw [unitF_eq]
 cases hK : knownB c
 ·rw [k_out (a := 13) (by simp [ckForm, fz_cons, whenI, hK]) (by decide)]
  simp [-s_ite, s_ite', -e99_12, -e99_13, -e99_45, -e99_52, -e99_53, -e99_62, -e99_76, -e99_15, -e99_20, -e99_26, -e99_32, -e99_40, q15, q20, q26, q32, q40, t99, q12, hK]
 cases hS : stateB c
 rotate_left
 ·rw [k_out (a := 19) (by simp [ckForm, fz_cons, whenI, hK, hS]) (by decide)]
  simp [-s_ite, s_ite', -e99_12, -e99_13, -e99_45, -e99_52, -e99_53, -e99_62, -e99_76, -e99_15, -e99_20, -e99_26, -e99_32, -e99_40, q15, q20, q26, q32, q40, t99, q12, q13, hK, hS]
 cases hB : farB f n ti time c
 rotate_left
 ·rw [k_out (a := 3) (by simp [ckForm, fz_cons, whenI, hK, hS, hB]) (by decide)]
  simp [-s_ite, s_ite', -e99_12, -e99_13, -e99_45, -e99_52, -e99_53, -e99_62, -e99_76, -e99_15, -e99_20, -e99_26, -e99_32, -e99_40, q15, q20, q26, q32, q40, t99, q12, q13, q45, q52, q53, q62, q76, hK, hS, hB]
 cases hH : shapeB f n c
 rotate_left
 ·rw [k_out (a := 2) (by simp [ckForm, fz_cons, whenI, hK, hS, hB, hH]) (by decide)]
  simp [-s_ite, s_ite', -e99_12, -e99_13, -e99_45, -e99_52, -e99_53, -e99_62, -e99_76, -e99_15, -e99_20, -e99_26, -e99_32, -e99_40, q15, q20, q26, q32, q40, t99, q12, q13, q45, q52, q53, q62, q76, hK, hS, hB, hH]
 by_cases hT : trysC c.ts = 0
 rotate_left
 ·rw [k_out (a := trysC c.ts) (by simp [ckForm, fz_cons, whenI, hK, hS, hB, hH, hT]) hT]
  simp [-s_ite, s_ite', -e99_12, -e99_13, -e99_45, -e99_52, -e99_53, -e99_62, -e99_76, -e99_15, -e99_20, -e99_26, -e99_32, -e99_40, q15, q20, q26, q32, q40, t99, q12, q13, q45, q52, q53, q62, q76, hK, hS, hB, hH, hT]
 cases hR : runsB c.rs
 rotate_left
 ·rw [k_out (a := 3) (by simp [ckForm, fz_cons, whenI, hK, hS, hB, hH, hT, hR]) (by decide)]
  simp [-s_ite, s_ite', -e99_12, -e99_13, -e99_45, -e99_52, -e99_53, -e99_62, -e99_76, -e99_15, -e99_20, -e99_26, -e99_32, -e99_40, q15, q20, q26, q32, q40, t99, q12, q13, q45, q52, q53, q62, q76, hK, hS, hB, hH, hT, hR]
 cases hO : foreignB f c
 rotate_left
 ·rw [k_out (a := 1) (by simp [ckForm, fz_cons, whenI, hK, hS, hB, hH, hT, hR, hO]) (by decide)]
  simp [-s_ite, s_ite', -e99_12, -e99_13, -e99_45, -e99_52, -e99_53, -e99_62, -e99_76, -e99_15, -e99_20, -e99_26, -e99_32, -e99_40, q15, q20, q26, q32, q40, t99, q12, q13, q45, q52, q53, q62, q76, hK, hS, hB, hH, hT, hR, hO]
 have hF : ckForm f n ti time c = 0 := by simp [ckForm, fz_cons, fz_nil, whenI, hK, hS, hB, hH, hT, hR, hO]
 have hC : ckClimb f n ti time c = whenI (stB f n c) 19 := by unfold ckClimb; rw [if_pos hF]
 rw [hC]
 have h5 : c.tr.lenN = c.ts.length := hc.t.lenM
 have h6 : c.ru.lenN = c.rs.length := hc.r.lenM
 have hob : c.ob = true → f = w1 := by
  intro ho
  simp [foreignB, ho] at hO
  exact hO.2
 have hbn := best_nn c.rs
 have hlen : f = w2 → (c.rs.length : Int) ≤ n := by
  intro h
  simp only [shapeB, Bool.or_eq_false_iff, decide_eq_false_iff_not] at hH
  have e1 : runsI f n = n := if_pos h
  rw [e1] at hH
  omega
 obtain ⟨v0, v2, v5, v6, v7, v13, v14, v15⟩ := @nv f names n ti time c
 have Q := And.intro q15 (And.intro q20 (And.intro q26 (And.intro q32 (And.intro q40 (And.intro q12 (And.intro q13 (And.intro q45 (And.intro q52 (And.intro q53 (And.intro q62 (And.intro q76 (And.intro q120 (And.intro hK (And.intro hS (And.intro hB (And.intro hH (And.intro hT (And.intro hR (And.intro hO (And.intro v0 (And.intro v2 (And.intro v5 (And.intro v6 (And.intro v7 (And.intro v13 (And.intro v14 (And.intro v15 (And.intro h5 (h6)))))))))))))))))))))))))))))
 rcases tf_or (c.ph = w19) with e1 | e1
 ·have e9 : ¬ w19 = w20 := by decide
  have e8 : ¬ c.ph = w20 := by rw [of_eq_true e1]; exact e9
  rcases hf with rfl | rfl | rfl
  ·have ho : c.ob = false := Bool.eq_false_iff.2 (fun ho => n01 (hob ho))
   simp [-s_ite, sB, -e99_12, -e99_13, -e99_45, -e99_52, -e99_53, -e99_62, -e99_76, -e99_120, -e99_15, -e99_20, -e99_26, -e99_32, -e99_40, Q, t99, stB, e1, ho, n01, n02, whenI]
  ·rcases tf_or (c.pl = 0) with e3 | e3
   ·cases ho : c.ob <;> simp [-s_ite, sB, -e99_12, -e99_13, -e99_45, -e99_52, -e99_53, -e99_62, -e99_76, -e99_120, -e99_15, -e99_20, -e99_26, -e99_32, -e99_40, Q, t99, stB, e1, e3, ho, n10, n12, whenI]
   ·obtain ⟨_, g1, g2, _⟩ := placed hF n10 n12 (of_eq_false e3)
    obtain ⟨g3, g4⟩ := tri_row hc g1 g2
    have g5 : (0 : Int) ≤ c.pl - 1 := by omega
    have g6 : c.pl - 1 < c.ts.length := by omega
    simp only [triR] at g4
    rw [show (c.pl - 1).toNat = c.pl.toNat - 1 by omega] at g4
    cases hv : (triAt c).2.2.2 <;> cases ho : c.ob <;> rcases tf_or ((triAt c).1 = 0) with e5 | e5 <;>
     simp [-s_ite, sB, -e99_12, -e99_13, -e99_45, -e99_52, -e99_53, -e99_62, -e99_76, -e99_120, -e99_15, -e99_20, -e99_26, -e99_32, -e99_40, Q, t99, stB, e1, e3, e5, e9, g1, g3, g4, g5, g6, hv, ho, n10, n12, badTri, whenI]
  ·have ho : c.ob = false := Bool.eq_false_iff.2 (fun ho => n21 (hob ho))
   have hl := hlen rfl
   rcases tf_or (c.pl = 0) with e3 | e3
   ·simp [-s_ite, sB, -e99_12, -e99_13, -e99_45, -e99_52, -e99_53, -e99_62, -e99_76, -e99_120, -e99_15, -e99_20, -e99_26, -e99_32, -e99_40, Q, t99, stB, e1, e3, ho, n20, n21, whenI]
   ·by_cases hq : (c.rs.length : Int) = n
    ·have hq' : n ≤ (c.rs.length : Int) := by omega
     simp [-s_ite, sB, -e99_12, -e99_13, -e99_45, -e99_52, -e99_53, -e99_62, -e99_76, -e99_120, -e99_15, -e99_20, -e99_26, -e99_32, -e99_40, Q, t99, stB, e1, e3, e8, ho, n20, n21, hq, hq', whenI]
    ·have hq' : ¬ n ≤ (c.rs.length : Int) := by omega
     simp [-s_ite, sB, -e99_12, -e99_13, -e99_45, -e99_52, -e99_53, -e99_62, -e99_76, -e99_120, -e99_15, -e99_20, -e99_26, -e99_32, -e99_40, Q, t99, stB, e1, e3, e8, ho, n20, n21, hq, hq', whenI]
 ·rcases hf with rfl | rfl | rfl
  ·have ho : c.ob = false := Bool.eq_false_iff.2 (fun ho => n01 (hob ho))
   rcases tf_or (c.pl = 0) with e3 | e3 <;> simp [-s_ite, sB, -e99_12, -e99_13, -e99_45, -e99_52, -e99_53, -e99_62, -e99_76, -e99_120, -e99_15, -e99_20, -e99_26, -e99_32, -e99_40, Q, t99, stB, e1, e3, ho, n01, n02, whenI]
  ·rcases tf_or (c.pl = 0) with e3 | e3 <;> cases ho : c.ob <;> simp [-s_ite, sB, -e99_12, -e99_13, -e99_45, -e99_52, -e99_53, -e99_62, -e99_76, -e99_120, -e99_15, -e99_20, -e99_26, -e99_32, -e99_40, Q, t99, stB, e1, e3, ho, n10, n12, whenI]
  ·have ho : c.ob = false := Bool.eq_false_iff.2 (fun ho => n21 (hob ho))
   have hl := hlen rfl
   rcases tf_or (c.pl = 0) with e3 | e3
   ·rcases ph4 c.ph with ⟨a1, a2, a3⟩ | ⟨a1, a2, a3⟩ | ⟨a1, a2, a3⟩ | ⟨a1, a2, a3⟩
    ·by_cases hq : (c.rs.length : Int) = n
     ·have hq' : n ≤ (c.rs.length : Int) := by omega
      simp [-s_ite, sB, -e99_12, -e99_13, -e99_45, -e99_52, -e99_53, -e99_62, -e99_76, -e99_120, -e99_15, -e99_20, -e99_26, -e99_32, -e99_40, Q, t99, stB, lateB, a1, a2, a3, e3, ho, n20, n21, hq, hq', whenI, show ¬ w18 = w19 by decide, show ¬ w18 = w20 by decide]
     ·have hq' : ¬ n ≤ (c.rs.length : Int) := by omega
      simp [-s_ite, sB, -e99_12, -e99_13, -e99_45, -e99_52, -e99_53, -e99_62, -e99_76, -e99_120, -e99_15, -e99_20, -e99_26, -e99_32, -e99_40, Q, t99, stB, lateB, a1, a2, a3, e3, ho, n20, n21, hq, hq', whenI, show ¬ w18 = w19 by decide, show ¬ w18 = w20 by decide]
    ·exact absurd a2 (of_eq_false e1)
    ·by_cases hq : bestI c.rs = 0
     ·rcases tf_or (c.st = w3) with e4 | e4 <;> simp [-s_ite, sB, -e99_12, -e99_13, -e99_45, -e99_52, -e99_53, -e99_62, -e99_76, -e99_120, -e99_15, -e99_20, -e99_26, -e99_32, -e99_40, Q, t99, stB, lateB, a1, a2, a3, e3, e4, ho, n20, n21, hq, whenI, show ¬ w20 = w19 by decide, show ¬ w20 = w18 by decide]
     ·have hq' : 0 < bestI c.rs := by omega
      rcases tf_or (c.st = w3) with e4 | e4 <;> simp [-s_ite, sB, -e99_12, -e99_13, -e99_45, -e99_52, -e99_53, -e99_62, -e99_76, -e99_120, -e99_15, -e99_20, -e99_26, -e99_32, -e99_40, Q, t99, stB, lateB, a1, a2, a3, e3, e4, ho, n20, n21, hq, hq', whenI, show ¬ w20 = w19 by decide, show ¬ w20 = w18 by decide]
    ·exfalso
     simp [knownB, memB, phsL, a1, a2, a3] at hK
   ·simp [-s_ite, sB, -e99_12, -e99_13, -e99_45, -e99_52, -e99_53, -e99_62, -e99_76, -e99_120, -e99_15, -e99_20, -e99_26, -e99_32, -e99_40, Q, t99, stB, e1, e3, ho, n20, n21, whenI]
end Go.Proofs.YtdeaibcebeofiaaGreatDoor.C5

namespace Go.Proofs.YtdeaibcebeofiaaGreatDoor.C5
open Go Go.Proofs.YtdeaibcebeofiaaGreatDoor.AM
set_option maxRecDepth 20000
set_option maxHeartbeats 4000000
def c0 : Clb := ⟨w3, w3, 0, 0, 0, 0, false, false, false, .nils, .nils, [], []⟩
def metB (f : ByteArray) (p : Int) (x : Clb) : Bool := decide (x.ph = w19) && (decide (f = w0) || decide (x.pl = p))
def samB (p : Int) (x : Clb) : Bool := decide (x.ph = w19) && decide (p = x.pl)
theorem isL_sliceG {α : Type} {g : α → List AV} {k : Nat} {a : AV} {l : List α} (h : IsL k (l.map g) a) (Ω : Om) (i : Nat) : IsL k ((l.take i).map g) (Pr.sem Ω .slice [a, ia 0, ia i]) := by
 rcases h with rfl | ⟨rfl, h⟩
 ·left
  show AV.sl k ((List.drop 0 (l.map g)).take _) = _
  simp [List.map_take]
 ·right
  have : l = [] := by simpa using h
  subst this
  exact ⟨rfl, by simp⟩
theorem p118 {f : ByteArray} {names : AV} {n ti : Int} {x : Clb} (c : Clb) :
  F118 (x.row ++ (.str f :: names :: ia n :: ia ti :: c.row)) = some (.bool (metB f c.pl x)) := by
 have h : F119 (.str f :: names :: ia n :: ia ti :: (x.row ++ [ia c.pl])) = some (.bool (metB f c.pl x)) := by
  simp [-s_ite, s_ite', bB_cond, bool_cond, tl_beq, eq_b, F119, unitF_eq, t119, Clb.row, metB]
 simp only [Clb.row, List.cons_append, List.nil_append] at h ⊢
 simp [F118, unitF_eq, t118, h]
theorem G16900 {f : ByteArray} {names a : AV} {n ti : Int} {xs : List Clb} (c : Clb) (h : IsL 11 (xs.map Clb.row) a) (hn : xs.length < 1048577) :
  ∃ r, loopG (calO s169) B16900 KK (a :: .str f :: names :: ia n :: ia ti :: (c.row ++ [ia xs.length, ia 0])) = some r ∧ ((xs.any (metB f c.pl) = true ∧ ∃ i : Nat, r = .tuple [ia 1, ia i]) ∨ (xs.any (metB f c.pl) = false ∧ r = .tuple [ia 2])) := by
 have hG := loop0 (Ω := calO s169) (B := B16900) (fun i => a :: .str f :: names :: ia n :: ia ti :: (c.row ++ [ia xs.length, ia i])) xs.length (fun i => if metB f c.pl (xs.getD i c0) then some (.tuple [ia 1, ia i]) else none) (.tuple [ia 2]) (by omega) (fun i hi => by
  have hr : nth a.rowsL (Int.toNat (i : Int)) = some (xs[i].row) := h.row hi
  have hw := wS (i := i) (by omega)
  have hg : xs.getD i c0 = xs[i] := by simp [hi]
  have hp := p118 (f := f) (names := names) (n := n) (ti := ti) (x := xs[i]) c
  simp only [Int.toNat_natCast, Clb.row, List.cons_append, List.nil_append] at hr hp
  push_cast at hw
  rw [hg]
  cases hc : metB f c.pl xs[i] <;> rw [hc] at hp <;> simp [B16900, Clb.row, h.lenM, hr, hi, hw, hp]) (by simp [B16900, Clb.row])
 refine ⟨_, hG, ?_⟩
 cases hb : xs.any (metB f c.pl)
 ·right
  refine ⟨rfl, ?_⟩
  rw [List.findSome?_eq_none_iff.2 (fun i hi => ?_)]
  ·rfl
  ·have hl : i < xs.length := by simp only [List.mem_range'_1] at hi; omega
   have : metB f c.pl xs[i] = false := by
    have := List.any_eq_false.1 hb xs[i] (List.getElem_mem hl)
    simpa using this
   simp [hl, this]
 ·left
  refine ⟨rfl, ?_⟩
  cases hf : (List.range' 0 xs.length).findSome? fun i => if metB f c.pl (xs.getD i c0) then some (AV.tuple [ia 1, ia i]) else none with
  | none =>
    exfalso
    obtain ⟨x, hx, hy⟩ := List.any_eq_true.1 hb
    obtain ⟨i, hi, rfl⟩ := List.getElem_of_mem hx
    have := List.findSome?_eq_none_iff.1 hf i (by simp only [List.mem_range'_1]; omega)
    simp [hi, hy] at this
  | some r =>
    obtain ⟨i, hi, hr⟩ := List.exists_of_findSome?_eq_some hf
    refine ⟨i, ?_⟩
    split at hr
    ·injection hr with hr; rw [← hr]; rfl
    ·cases hr
theorem p100 {f : ByteArray} {names a : AV} {n ti : Int} {xs : List Clb} (c : Clb) (h : IsL 11 (xs.map Clb.row) a) (hn : xs.length < 1048577) :
  F100 (a :: .str f :: names :: ia n :: ia ti :: c.row) = some (.bool (xs.any (metB f c.pl))) := by
 obtain ⟨r, hG, hr⟩ := G16900 (f := f) (names := names) (n := n) (ti := ti) c h hn
 have h1 : ∃ j : Int, F169 (a :: .str f :: names :: ia n :: ia ti :: c.row) = some (ia j) ∧ (decide (j ≥ 0) = xs.any (metB f c.pl)) := by
  simp only [Clb.row, List.cons_append, List.nil_append] at hG ⊢
  rcases hr with ⟨h1, i, rfl⟩ | ⟨h1, rfl⟩
  ·exact ⟨i, by simp [F169, unitF_eq, t169, h.lenM, hG], by simp [h1]⟩
  ·exact ⟨-1, by simp [F169, unitF_eq, t169, h.lenM, hG], by simp [h1]⟩
 obtain ⟨j, h1, h2⟩ := h1
 simp only [Clb.row] at h1 ⊢
 simp [F100, unitF_eq, t100, h1, ← h2]
def twA (f : ByteArray) (cs : List Clb) (i : Nat) : Bool := decide ((cs.getD i c0).ph = w19) && (cs.take i).any (metB f (cs.getD i c0).pl)
def twB (cs : List Clb) (i : Nat) : Bool := decide ((cs.getD i c0).ph = w19) && (cs.take i).any (samB (cs.getD i c0).pl)
def cdA (f : ByteArray) (n ti time : Int) (cs : List Clb) (i : Nat) : Int := if ckClimb f n ti time (cs.getD i c0) = 0 then whenI (twA f cs i) 9 else ckClimb f n ti time (cs.getD i c0)
def cdB (f : ByteArray) (n ti time : Int) (cs : List Clb) (i : Nat) : Int := if ckClimb f n ti time (cs.getD i c0) = 0 then whenI (twB cs i) 9 else ckClimb f n ti time (cs.getD i c0)
theorem G6000 {f : ByteArray} {names a : AV} {n ti time : Int} {cs : List Clb} (h : IsL 11 (cs.map Clb.row) a) (hn : cs.length < 1048577) (hc : ∀ c ∈ cs, ClbOk c) :
  loopG (calO s60) B6000 KK [a, ia cs.length, ia 0, ia time, .str f, names, ia n, ia ti] = some (ckOut ((List.range' 0 cs.length).map (cdA f n ti time cs))) := by
 rw [← ckOut_map]
 refine loop0 (fun i => [a, ia cs.length, ia i, ia time, .str f, names, ia n, ia ti]) cs.length (fun i => if cdA f n ti time cs i = 0 then none else some (.tuple [ia 1, ia (cdA f n ti time cs i)])) (.tuple [ia 2]) (by omega) (fun i hi => ?_) ?_
 ·have hr : nth a.rowsL (Int.toNat (i : Int)) = some (cs[i].row) := h.row hi
  have hw := wS (i := i) (by omega)
  have hg : cs.getD i c0 = cs[i] := by simp [hi]
  have h1 := p120 (f := f) (names := names) (n := n) (ti := ti) (time := time) (hc cs[i] (List.getElem_mem hi))
  have h2 := p100 (f := f) (names := names) (n := n) (ti := ti) cs[i] (isL_sliceG h (calO s60) i) (by rw [List.length_take]; omega)
  have hi' : i ≤ cs.length := by omega
  simp only [Int.toNat_natCast, Clb.row] at hr h1 h2
  push_cast at hw
  simp only [cdA, twA, hg]
  rcases tf_or (cs[i].ph = w19) with e1 | e1 <;> rcases tf_or (ckClimb f n ti time cs[i] = 0) with e2 | e2 <;> cases e3 : (cs.take i).any (metB f cs[i].pl) <;> rw [e3] at h2 <;>
   simp [B6000, h.lenM, hr, hi, hi', hw, h1, h2, p103, p102_2, fz2, whenI, e1, e2]
 ·simp [B6000]
end Go.Proofs.YtdeaibcebeofiaaGreatDoor.C5

namespace Go.Proofs.YtdeaibcebeofiaaGreatDoor.C5
open Go Go.Proofs.YtdeaibcebeofiaaGreatDoor.AM
set_option maxRecDepth 20000
set_option maxHeartbeats 4000000
theorem disc {f : ByteArray} {ns : List ByteArray} {n ti : Int} (h : ckRound f ns n ti = 0) : f = w0 ∨ f = w1 ∨ f = w2 := by
 by_cases h0 : f = w0
 ·exact .inl h0
 by_cases h1 : f = w1
 ·exact .inr (.inl h1)
 by_cases h2 : f = w2
 ·exact .inr (.inr h2)
 ·simp [ckRound, mostI, h0, h1, h2] at h
def ckStA (f : ByteArray) (ns : List ByteArray) (n ti time : Int) (cs : List Clb) : Int :=
 if ckRound f ns n ti ≠ 0 then ckRound f ns n ti else if outB time 0 86399999 then 3 else if cs.length ≠ ns.length then 2 else firstNz ((List.range' 0 cs.length).map (cdA f n ti time cs))
def ckStB (f : ByteArray) (ns : List ByteArray) (n ti time : Int) (cs : List Clb) : Int :=
 if ckRound f ns n ti ≠ 0 then ckRound f ns n ti else if outB time 0 86399999 then 3 else if cs.length ≠ ns.length then 2 else firstNz ((List.range' 0 cs.length).map (cdB f n ti time cs))
theorem p60 {f : ByteArray} {ns : List ByteArray} {names a : AV} {n ti time : Int} {cs : List Clb} (hr : IsL 1 (ns.map strR) names) (hn : ns.length < 1048577) (hz : ∀ s ∈ ns, s.size < 2097152)
  (h : IsL 11 (cs.map Clb.row) a) (hl : cs.length < 1048577) (hc : ∀ c ∈ cs, ClbOk c) :
  F60 [.str f, names, ia n, ia ti, ia time, a] = some (ia (ckStA f ns n ti time cs)) := by
 have h1 := p58 (f := f) hr (by omega) hz n ti
 have hG := G6000 (f := f) (names := names) (n := n) (ti := ti) (time := time) h hl hc
 have h2 : names.lenN = ns.length := hr.lenM
 have h3 : a.lenN = cs.length := h.lenM
 unfold ckStA
 by_cases e1 : ckRound f ns n ti = 0
 ·cases e2 : outB time 0 86399999
  ·by_cases e3 : cs.length = ns.length
   ·rcases ckOut_cases ((List.range' 0 cs.length).map (cdA f n ti time cs)) with ⟨g1, g2⟩ | ⟨g1, g2⟩ <;> rw [g2] at hG <;>
     simp [F60, unitF_eq, t60, h1, h2, h3, p115, p103, p102_3, fz3, whenI, e1, e2, e3.symm, hG, g1]
   ·have e3' : ¬ (cs.length : Int) = ns.length := by omega
    simp [F60, unitF_eq, t60, h1, h2, h3, p115, p103, p102_3, fz3, whenI, e1, e2, e3, e3']
  ·simp [F60, unitF_eq, t60, h1, h2, h3, p115, p103, p102_3, fz3, whenI, e1, e2]
 ·simp [F60, unitF_eq, t60, h1, h2, h3, p115, p103, p102_3, fz3, whenI, e1]
theorem and_any {α : Type} (b : Bool) (p : α → Bool) (l : List α) : (l.any fun x => b && p x) = (b && l.any p) := by
 cases b <;> simp
theorem G4501 {Ω : Om} {f : ByteArray} {names a : AV} {n ti time : Int} {cs : List Clb} (h : IsL 11 (cs.map Clb.row) a) (hn : cs.length < 1048577) (j : Nat) (hj : j < cs.length) :
  loopG Ω B4501 KK (ia j :: ia 0 :: (cs[j].row ++ [ia time, a, .str f, names, ia n, ia ti])) = some (if twB cs j then .tuple [ia 1] else .tuple [ia 2, ia j, ia time, a, .str f, names, ia n, ia ti]) := by
 have hgj : cs.getD j c0 = cs[j] := by simp [hj]
 have h0 := loopL (Ω := Ω) (B := B4501) (fun i => ia j :: ia i :: (cs[j].row ++ [ia time, a, .str f, names, ia n, ia ti])) (cs.take j) (fun x => if (decide (cs[j].ph = w19) && samB cs[j].pl x) then some (.tuple [ia 1]) else none) (.tuple [ia 2, ia j, ia time, a, .str f, names, ia n, ia ti]) (by rw [List.length_take]; omega) (fun i hi => by
  rw [List.length_take] at hi
  have hi1 : i < j := by omega
  have hi2 : i < cs.length := by omega
  have hr : nth a.rowsL (Int.toNat (i : Int)) = some cs[i].row := h.row hi2
  have hw := wS (i := i) (by omega)
  have hg : (cs.take j)[i]'(by rw [List.length_take]; exact hi) = cs[i] := by simp
  rw [hg]
  simp only [Int.toNat_natCast, Clb.row] at hr
  push_cast at hw
  simp only [samB]
  rcases tf_or (cs[j].ph = w19) with e1 | e1 <;> rcases tf_or (cs[i].ph = w19) with e2 | e2 <;> rcases tf_or (cs[j].pl = cs[i].pl) with e3 | e3 <;>
   simp [B4501, Clb.row, h.lenM, hr, hi1, hi2, hw, e1, e2, e3]) (by
  have : (cs.take j).length = j := by rw [List.length_take]; omega
  simp [B4501, Clb.row, this])
 refine Eq.trans h0 ?_
 rw [any_find, and_any]
 unfold twB
 rw [hgj]
 split <;> rfl
theorem G4500 {f : ByteArray} {names a : AV} {n ti time : Int} {cs : List Clb} (h : IsL 11 (cs.map Clb.row) a) (hn : cs.length < 1048577) (hc : ∀ c ∈ cs, ClbOk c) (hf : f = w0 ∨ f = w1 ∨ f = w2) :
  loopG (omL KK s45 [d4501]) B4500 KK [ia 0, ia time, a, .str f, names, ia n, ia ti] = some (ckOut ((List.range' 0 cs.length).map (cdB f n ti time cs))) := by
 rw [← ckOut_map]
 refine loop0 (fun i => [ia i, ia time, a, .str f, names, ia n, ia ti]) cs.length (fun i => if cdB f n ti time cs i = 0 then none else some (.tuple [ia 1, ia (cdB f n ti time cs i)])) (.tuple [ia 2]) (by omega) (fun i hi => ?_) ?_
 ·have hr : nth a.rowsL (Int.toNat (i : Int)) = some (cs[i].row) := h.row hi
  have hw := wS (i := i) (by omega)
  have hg : cs.getD i c0 = cs[i] := by simp [hi]
  have h1 := p99 (f := f) (names := names) (n := n) (ti := ti) (time := time) (hc cs[i] (List.getElem_mem hi)) hf
  have hG := G4501 (Ω := calO s45) (f := f) (names := names) (n := n) (ti := ti) (time := time) h hn i hi
  simp only [Int.toNat_natCast, Clb.row, List.cons_append, List.nil_append] at hr h1 hG
  push_cast at hw
  simp only [cdB, hg]
  rcases tf_or (ckClimb f n ti time cs[i] = 0) with e2 | e2 <;> cases e3 : twB cs i <;> rw [e3] at hG <;>
   simp [B4500, h.lenM, hr, hi, hw, h1, hG, whenI, e2]
 ·simp [B4500, h.lenM]
theorem p45 {f : ByteArray} {ns : List ByteArray} {names a : AV} {n ti time : Int} {cs : List Clb} (hr : IsL 1 (ns.map strR) names) (hn : ns.length < 1048577) (hz : ∀ s ∈ ns, s.size < 2097152)
  (h : IsL 11 (cs.map Clb.row) a) (hl : cs.length < 1048577) (hc : ∀ c ∈ cs, ClbOk c) :
  F45 [.str f, names, ia n, ia ti, ia time, a] = some (ia (ckStB f ns n ti time cs)) := by
 have h1 := p59 (f := f) hr (by omega) hz n ti
 have h2 : names.lenN = ns.length := hr.lenM
 have h3 : a.lenN = cs.length := h.lenM
 unfold ckStB
 by_cases e1 : ckRound f ns n ti = 0
 ·have hG := G4500 (f := f) (names := names) (n := n) (ti := ti) (time := time) h hl hc (disc e1)
  cases e2 : outB time 0 86399999
  ·by_cases e3 : cs.length = ns.length
   ·rcases ckOut_cases ((List.range' 0 cs.length).map (cdB f n ti time cs)) with ⟨g1, g2⟩ | ⟨g1, g2⟩ <;> rw [g2] at hG <;>
     simp [F45, unitF_eq, t45, h1, h2, h3, p90, e1, e2, e3.symm, hG, g1]
   ·have e3' : ¬ (cs.length : Int) = ns.length := by omega
    simp [F45, unitF_eq, t45, h1, h2, h3, p90, e1, e2, e3, e3']
  ·simp [F45, unitF_eq, t45, h1, h2, h3, p90, e1, e2]
 ·simp [F45, unitF_eq, t45, h1, h2, h3, p90, e1]
theorem climb0 {f : ByteArray} {n ti time : Int} {c : Clb} (h : ckClimb f n ti time c = 0) : ckForm f n ti time c = 0 := by
 unfold ckClimb at h
 split at h
 ·assumption
 ·exact h
theorem tw_eq {f : ByteArray} {n ti time : Int} {cs : List Clb} {i : Nat} (hi : i < cs.length) (h : ∀ k, k ≤ i → ckClimb f n ti time (cs.getD k c0) = 0) : twA f cs i = twB cs i := by
 have hpl : f = w0 → ∀ k, k ≤ i → (cs.getD k c0).pl = 0 := by
  intro hf k hk
  obtain ⟨_, _, g1, _⟩ := form0 (climb0 (h k hk))
  have e1 : placesI f n = 0 := by rw [hf]; simp [placesI, n01, n02]
  simp only [farB, outB, e1, Bool.or_eq_false_iff, decide_eq_false_iff_not] at g1
  omega
 unfold twA twB
 congr 1
 have : ∀ x ∈ cs.take i, metB f (cs.getD i c0).pl x = samB (cs.getD i c0).pl x := by
  intro x hx
  unfold metB samB
  by_cases hf : f = w0
  ·obtain ⟨k, hk, rfl⟩ := List.getElem_of_mem hx
   rw [List.length_take] at hk
   have e1 := hpl hf k (by omega)
   have e2 := hpl hf i (Nat.le_refl i)
   have hg : cs.getD k c0 = (cs.take i)[k] := by
    have : k < cs.length := by omega
    simp [this]
   rw [hg] at e1
   rw [e2, e1]
   simp [hf]
  ·have : decide (x.pl = (cs.getD i c0).pl) = decide ((cs.getD i c0).pl = x.pl) := by
    by_cases h : x.pl = (cs.getD i c0).pl
    ·simp [h]
    ·rw [decide_eq_false h, decide_eq_false (fun g => h g.symm)]
   rw [this, decide_eq_false hf, Bool.false_or]
 generalize cs.take i = l at this
 induction l with
 | nil => rfl
 | cons x l ih =>
   rw [List.any_cons, List.any_cons, this x (.head _), ih (fun y hy => this y (.tail _ hy))]
theorem cd_eq {f : ByteArray} {n ti time : Int} {cs : List Clb} : ∀ (j i : Nat), i + j = cs.length → (∀ k, k < i → ckClimb f n ti time (cs.getD k c0) = 0) →
  firstNz ((List.range' i j).map (cdA f n ti time cs)) = firstNz ((List.range' i j).map (cdB f n ti time cs))
 | 0, _, _, _ => rfl
 | j + 1, i, hi, h => by
   rw [List.range'_succ, List.map_cons, List.map_cons, fz_cons, fz_cons]
   by_cases hc : ckClimb f n ti time (cs.getD i c0) = 0
   ·have h' : ∀ k, k < i + 1 → ckClimb f n ti time (cs.getD k c0) = 0 := by
     intro k hk
     by_cases hk' : k = i
     ·rw [hk']; exact hc
     ·exact h k (by omega)
    have e : cdA f n ti time cs i = cdB f n ti time cs i := by
     unfold cdA cdB
     rw [tw_eq (by omega) (fun k hk => h' k (by omega))]
    rw [e, cd_eq j (i + 1) (by omega) h']
   ·have e1 : cdA f n ti time cs i = ckClimb f n ti time (cs.getD i c0) := if_neg hc
    have e2 : cdB f n ti time cs i = ckClimb f n ti time (cs.getD i c0) := if_neg hc
    rw [e1, e2, if_neg hc, if_neg hc]
theorem st_eq (f : ByteArray) (ns : List ByteArray) (n ti time : Int) (cs : List Clb) : ckStA f ns n ti time cs = ckStB f ns n ti time cs := by
 unfold ckStA ckStB
 rw [cd_eq cs.length 0 (by omega) (fun k hk => by omega)]
end Go.Proofs.YtdeaibcebeofiaaGreatDoor.C5

namespace Go.Proofs.YtdeaibcebeofiaaGreatDoor.C5
open Go Go.Proofs.YtdeaibcebeofiaaGreatDoor.AM
set_option maxRecDepth 20000
set_option maxHeartbeats 4000000
def Clb.own (c : Clb) : Clb := { c with tr := mkL 4 (c.ts.map triR) }
theorem own_ok {c : Clb} (h : ClbOk c) : ClbOk c.own := ⟨mkL_isL 4 _, h.r, h.tl, h.rl⟩
theorem G4100 {Ω : Om} {a v1 v2 v3 v4 v5 v6 v7 v8 v9 v11 : AV} {ts : List Tri} (h : IsL 4 (ts.map triR) a) (hn : ts.length < 1048577) :
  loopG Ω B4100 KK [ia 0, v1, v2, v3, v4, v5, v6, v7, v8, v9, .nils, v11, a] = some (.tuple [ia 1, v1, v2, v3, v4, v5, v6, v7, v8, v9, mkL 4 (ts.map triR), v11]) := by
 refine loopF (fun i => [ia i, v1, v2, v3, v4, v5, v6, v7, v8, v9, mkL 4 ((ts.take i).map triR), v11, a]) ts.length _ (by omega) (fun i hi => ?_) ?_
 ·have hr : nth a.rowsL (Int.toNat (i : Int)) = some (triR ts[i]) := h.row hi
  have hw := wS (i := i) (by omega)
  have ht : mkL 4 ((ts.take (i + 1)).map triR) = .sl 4 ((ts.take i).map triR ++ [triR ts[i]]) := by
   rw [← mkL_snoc, take_snoc hi, List.map_append]; rfl
  have hb : ((min i ts.length : Nat) : Int) + 1 ≤ 1073741824 := by omega
  simp only [triR, Int.toNat_natCast] at hr
  rw [ht]
  push_cast at hw ⊢
  simp [B4100, h.lenM, hr, hi, hw, hb, triR]
 ·simp [B4100, h.lenM]
theorem p41 {c : Clb} (hc : ClbOk c) : F41 c.row = some (.agg c.own.row) := by
 have hG := @G4100 (calO s41) c.tr (.str c.ph) (.str c.st) (ia c.pl) (ia c.be) (ia c.us) (ia c.ho) (.bool c.pb) (.bool c.tb) (.bool c.ob) c.ru c.ts hc.t hc.tl
 simp only [Clb.row, Clb.own]
 simp [F41, unitF_eq, t41, hG]
theorem G4300 {a : AV} {time : AV} {cs : List Clb} (h : IsL 11 (cs.map Clb.row) a) (hn : cs.length < 1048577) (hc : ∀ c ∈ cs, ClbOk c) :
  loopG (calO s43) B4300 KK [ia 0, time, .nils, a] = some (.tuple [ia 1, time, mkL 11 ((cs.map Clb.own).map Clb.row)]) := by
 refine loopF (fun i => [ia i, time, mkL 11 (((cs.take i).map Clb.own).map Clb.row), a]) cs.length _ (by omega) (fun i hi => ?_) ?_
 ·have hr : nth a.rowsL (Int.toNat (i : Int)) = some (cs[i].row) := h.row hi
  have hw := wS (i := i) (by omega)
  have hp := p41 (hc cs[i] (List.getElem_mem hi))
  have ht : mkL 11 (((cs.take (i + 1)).map Clb.own).map Clb.row) = .sl 11 (((cs.take i).map Clb.own).map Clb.row ++ [cs[i].own.row]) := by
   rw [← mkL_snoc, take_snoc hi, List.map_append, List.map_append]; rfl
  have hb : ((min i cs.length : Nat) : Int) + 1 ≤ 1073741824 := by omega
  simp only [Clb.row, Int.toNat_natCast] at hr hp
  have hok : (Sh.sl [.int .i64, .int .i64, .int .i64, .bool]).ok cs[i].own.tr = true := (own_ok (hc cs[i] (List.getElem_mem hi))).t.ok rfl (by simp [triR])
  have hok2 : (Sh.sl [.int .i64]).ok cs[i].own.ru = true := (own_ok (hc cs[i] (List.getElem_mem hi))).r.ok rfl (by simp [intR])
  rw [ht]
  push_cast at hw ⊢
  simp [B4300, h.lenM, hr, hi, hw, hb, hp, Clb.row, hok, hok2]
 ·simp [B4300, h.lenM]
theorem p43 {a : AV} {time : Int} {cs : List Clb} (h : IsL 11 (cs.map Clb.row) a) (hn : cs.length < 1048577) (hc : ∀ c ∈ cs, ClbOk c) :
  F43 [ia time, a] = some (.agg [ia time, mkL 11 ((cs.map Clb.own).map Clb.row)]) := by
 have hG := G4300 (time := ia time) h hn hc
 simp only [List.map_map] at hG ⊢
 simp [F43, unitF_eq, t43, hG]
theorem cd_own (f : ByteArray) (n ti time : Int) (cs : List Clb) (i : Nat) : cdB f n ti time (cs.map Clb.own) i = cdB f n ti time cs i := by
 have e : (cs.map Clb.own).getD i c0 = (cs.getD i c0).own := by
  by_cases hi : i < cs.length
  ·simp [hi]
  ·have : cs.length ≤ i := by omega
   simp only [List.getD_eq_getElem?_getD, List.getElem?_map, List.getElem?_eq_none this]
   rfl
 have e2 : twB (cs.map Clb.own) i = twB cs i := by
  unfold twB
  rw [e, ← List.map_take, List.any_map]
  rfl
 unfold cdB
 rw [e, e2]
 rfl
theorem st_own (f : ByteArray) (ns : List ByteArray) (n ti time : Int) (cs : List Clb) : ckStB f ns n ti time (cs.map Clb.own) = ckStB f ns n ti time cs := by
 unfold ckStB
 rw [List.length_map, List.map_congr_left (fun i _ => cd_own f n ti time cs i)]
theorem own_all {cs : List Clb} (h : ∀ c ∈ cs, ClbOk c) : ∀ c ∈ cs.map Clb.own, ClbOk c := by
 intro c hc
 obtain ⟨x, hx, rfl⟩ := List.mem_map.1 hc
 exact own_ok (h x hx)
theorem G4400 {Ω : Om} {a : AV} {time : AV} {cs : List Clb} (h : IsL 11 (cs.map Clb.row) a) (hn : cs.length < 1048577) :
  ∃ b : Bool, loopG Ω B4400 KK [ia 0, time, a] = some (if b then .tuple [ia 1] else .tuple [ia 2]) := by
 have := loopL (Ω := Ω) (B := B4400) (fun i => [ia i, time, a]) cs (fun c => if (decide (20 < c.ph.size) || (decide (20 < c.st.size) || (decide (12 < c.tr.lenN) || decide (12 < c.ru.lenN)))) then some (AV.tuple [ia 1]) else none) (.tuple [ia 2]) (by omega) (fun i hi => by
  have hr : nth a.rowsL (Int.toNat (i : Int)) = some (cs[i].row) := h.row hi
  have hw := wS (i := i) (by omega)
  simp only [Clb.row, Int.toNat_natCast] at hr
  push_cast at hw
  have z : ∀ k : Nat, decide ((20 : Int) < k) = decide (20 < k) := fun k => by
   by_cases h : 20 < k
   ·rw [decide_eq_true h, decide_eq_true (by omega)]
   ·rw [decide_eq_false h, decide_eq_false (by omega)]
  have z' : ∀ k : Nat, decide ((12 : Int) < k) = decide (12 < k) := fun k => by
   by_cases h : 12 < k
   ·rw [decide_eq_true h, decide_eq_true (by omega)]
   ·rw [decide_eq_false h, decide_eq_false (by omega)]
  rcases tf_or (20 < cs[i].ph.size) with e1 | e1 <;> rcases tf_or (20 < cs[i].st.size) with e2 | e2 <;> rcases tf_or (12 < cs[i].tr.lenN) with e3 | e3 <;> rcases tf_or (12 < cs[i].ru.lenN) with e4 | e4 <;>
   simp [-s_ite, s_ite', bB_cond, bool_cond, B4400, h.lenM, hr, hi, hw, z, z', e1, e2, e3, e4]) (by simp [B4400, h.lenM])
 rw [any_find] at this
 refine ⟨cs.any fun c => decide (20 < c.ph.size) || (decide (20 < c.st.size) || (decide (12 < c.tr.lenN) || decide (12 < c.ru.lenN))), this.trans ?_⟩
 split <;> rfl
theorem p44 {a : AV} {time : Int} {cs : List Clb} (h : IsL 11 (cs.map Clb.row) a) (hn : cs.length < 1048577) :
  ∃ b, F44 [ia time, a] = some (.bool b) := by
 obtain ⟨b, hG⟩ := G4400 (Ω := calO s44) (time := ia time) h hn
 by_cases h1 : (14 : Int) < cs.length <;> cases b <;> simp at hG <;> simp [F44, unitF_eq, t44, h.lenM, h1, hG]
end Go.Proofs.YtdeaibcebeofiaaGreatDoor.C5

namespace Go.Proofs.YtdeaibcebeofiaaGreatDoor.C5
open Go Go.Proofs.YtdeaibcebeofiaaGreatDoor.AM
set_option maxRecDepth 20000
set_option maxHeartbeats 4000000
theorem v_int' (V : X → AV) (σ : Nat → Nat) (k : IntKind) (n : Int) : AV.den V σ (.int k n) = .int k n := rfl
def tri0 : Tri := (0, 0, 0, false)
def startC (f : ByteArray) (n : Int) : Clb := if f = w1 then ⟨w18, w3, 0, 0, 0, 0, false, false, false, .sl 4 ((List.replicate n.toNat tri0).map triR), .nils, List.replicate n.toNat tri0, []⟩ else ⟨w18, w3, 0, 0, 0, 0, false, false, false, .nils, .nils, [], []⟩
theorem start_ok {f : ByteArray} {n : Int} (h : n ≤ 64) : ClbOk (startC f n) := by
 unfold startC
 split
 ·exact ⟨.inl rfl, .inr ⟨rfl, rfl⟩, by simp; omega, by simp⟩
 ·exact ⟨.inr ⟨rfl, rfl⟩, .inr ⟨rfl, rfl⟩, by simp, by simp⟩
theorem s_rep4 (Ω : Om) (n a b c d : AV) : Pr.sem Ω (.rep 4) [n, a, b, c, d] = .sl 4 (List.replicate n.nI.toNat [a, b, c, d]) := rfl
theorem rep_map (n : Nat) : List.replicate n [AV.int .i64 0, AV.int .i64 0, AV.int .i64 0, AV.bool false] = (List.replicate n tri0).map triR := by simp [triR, tri0]
def startL (f : ByteArray) (n : Int) (k : Nat) : List Clb := List.replicate k (startC f n)
theorem rep_snoc {α : Type} (k : Nat) (x : α) : List.replicate (k + 1) x = List.replicate k x ++ [x] := by
 rw [List.replicate_succ']
theorem G12200 {Ω : Om} {f : ByteArray} {names : AV} {n ti : Int} {m : Nat} (hm : m < 1048577) (h1 : 0 ≤ n) (h2 : n ≤ 64) :
  loopG Ω B12200 KK [ia m, ia 0, .nils, .str f, names, ia n, ia ti] = some (.tuple [ia 1, mkL 11 ((startL f n m).map Clb.row)]) := by
 refine loopF (fun i => [ia m, ia i, mkL 11 ((startL f n i).map Clb.row), .str f, names, ia n, ia ti]) m _ (by omega) (fun i hi => ?_) ?_
 ·have hw := wS (i := i) (by omega)
  have ht : mkL 11 ((startL f n (i + 1)).map Clb.row) = .sl 11 ((startL f n i).map Clb.row ++ [(startC f n).row]) := by
   rw [← mkL_snoc, startL, rep_snoc, List.map_append]; rfl
  have hb : (i : Int) + 1 ≤ 1073741824 := by omega
  have hl : ∀ g, (startL g n i).length = i := by intro g; simp [startL]
  have h3 : n ≤ 1073741824 := by omega
  rw [ht]
  push_cast at hw ⊢
  by_cases e : f = w1
  ·simp [B12200, hi, hw, hb, hl, h1, h3, e, startC, Clb.row, s_rep4, rep_map]
  ·simp [B12200, hi, hw, hb, hl, h1, h3, e, startC, Clb.row, s_rep4, rep_map]
 ·simp [B12200]
theorem G6400 {Ω : Om} {f : ByteArray} {ns : List ByteArray} {names : AV} {n ti : Int} (hr : IsL 1 (ns.map strR) names) (hm : ns.length < 1048577) (h1 : 0 ≤ n) (h2 : n ≤ 64) :
  loopG Ω B6400 KK [ia 0, .nils, .str f, names, ia n, ia ti] = some (.tuple [ia 1, mkL 11 ((startL f n ns.length).map Clb.row)]) := by
 refine loopF (fun i => [ia i, mkL 11 ((startL f n i).map Clb.row), .str f, names, ia n, ia ti]) ns.length _ (by omega) (fun i hi => ?_) ?_
 ·have hw := wS (i := i) (by omega)
  have ht : mkL 11 ((startL f n (i + 1)).map Clb.row) = .sl 11 ((startL f n i).map Clb.row ++ [(startC f n).row]) := by
   rw [← mkL_snoc, startL, rep_snoc, List.map_append]; rfl
  have hb : (i : Int) + 1 ≤ 1073741824 := by omega
  have hl : ∀ g, (startL g n i).length = i := by intro g; simp [startL]
  have h3 : n ≤ 1073741824 := by omega
  rw [ht]
  push_cast at hw ⊢
  by_cases e : f = w1
  ·simp [B6400, hr.lenM, hi, hw, hb, hl, h1, h3, e, startC, Clb.row, s_rep4, rep_map]
  ·simp [B6400, hr.lenM, hi, hw, hb, hl, h1, h3, e, startC, Clb.row, s_rep4, rep_map]
 ·simp [B6400, hr.lenM]
theorem p122 {f : ByteArray} {ns : List ByteArray} {names : AV} {n ti : Int} (hr : IsL 1 (ns.map strR) names) (hm : ns.length < 1048577) (h1 : 0 ≤ n) (h2 : n ≤ 64) :
  F122 [.str f, names, ia n, ia ti] = some (.agg [ia 0, mkL 11 ((startL f n ns.length).map Clb.row)]) := by
 have hG := G12200 (Ω := calO s122) (f := f) (names := names) (ti := ti) hm h1 h2
 simp [F122, unitF_eq, t122, hr.lenM, hG, v_int']
theorem p64 {f : ByteArray} {ns : List ByteArray} {names : AV} {n ti : Int} (hr : IsL 1 (ns.map strR) names) (hm : ns.length < 1048577) (h1 : 0 ≤ n) (h2 : n ≤ 64) :
  F64 [.str f, names, ia n, ia ti] = some (.agg [ia 0, mkL 11 ((startL f n ns.length).map Clb.row)]) := by
 have hG := G6400 (Ω := calO s64) (f := f) (ti := ti) hr hm h1 h2
 simp [F64, unitF_eq, t64, hG, v_int']
theorem G4200 {Ω : Om} {a b : AV} {u1 u2 u3 u4 u5 u6 u7 u8 u9 u11 v1 v2 v3 v4 v5 v6 v7 v8 v9 v11 : AV} {ts : List Tri} (h : IsL 4 (ts.map triR) a) (h' : IsL 4 (ts.map triR) b) (hn : ts.length < 1048577) :
  loopG Ω B4200 KK [ia 0, u1, u2, u3, u4, u5, u6, u7, u8, u9, b, u11, v1, v2, v3, v4, v5, v6, v7, v8, v9, a, v11] = some (.tuple [ia 2, u1, u2, u3, u4, u5, u6, u7, u8, u9, b, u11, v1, v2, v3, v4, v5, v6, v7, v8, v9, a, v11]) := by
 refine loopF (fun i => [ia i, u1, u2, u3, u4, u5, u6, u7, u8, u9, b, u11, v1, v2, v3, v4, v5, v6, v7, v8, v9, a, v11]) ts.length _ (by omega) (fun i hi => ?_) ?_
 ·have hr : nth a.rowsL (Int.toNat (i : Int)) = some (triR ts[i]) := h.row hi
  have hr' : nth b.rowsL (Int.toNat (i : Int)) = some (triR ts[i]) := h'.row hi
  have hw := wS (i := i) (by omega)
  simp only [triR, Int.toNat_natCast] at hr hr'
  push_cast at hw ⊢
  simp [B4200, h.lenM, h'.lenM, hr, hr', hi, hw]
 ·simp [B4200, h.lenM]
theorem p42 {c : Clb} (hc : ClbOk c) : F42 (c.own.row ++ c.row) = some (.bool true) := by
 have hG := @G4200 (calO s42) c.own.tr c.tr (.str c.ph) (.str c.st) (ia c.pl) (ia c.be) (ia c.us) (ia c.ho) (.bool c.pb) (.bool c.tb) (.bool c.ob) c.ru (.str c.ph) (.str c.st) (ia c.pl) (ia c.be) (ia c.us) (ia c.ho) (.bool c.pb) (.bool c.tb) (.bool c.ob) c.ru c.ts (own_ok hc).t hc.t hc.tl
 have h1 := p75 hc.r hc.r hc.rl
 have h2 : c.own.tr.lenN = c.ts.length := (own_ok hc).t.lenM
 have h3 : c.tr.lenN = c.ts.length := hc.t.lenM
 have e : c.own.row = [.str c.ph, .str c.st, ia c.pl, ia c.be, ia c.us, ia c.ho, .bool c.pb, .bool c.tb, .bool c.ob, c.own.tr, c.ru] := rfl
 rw [e]
 simp only [Clb.row, List.cons_append, List.nil_append]
 simp [F42, unitF_eq, t42, hG, h1, h2, h3]
theorem G6500 {a b : AV} {time time' : AV} {cs : List Clb} (h : IsL 11 ((cs.map Clb.own).map Clb.row) a) (h' : IsL 11 (cs.map Clb.row) b) (hn : cs.length < 1048577) (hc : ∀ c ∈ cs, ClbOk c) :
  loopG (calO s65) B6500 KK [ia 0, time', b, time, a] = some (.tuple [ia 2]) := by
 refine loopF (fun i => [ia i, time', b, time, a]) cs.length _ (by omega) (fun i hi => ?_) ?_
 ·have hr : nth a.rowsL (Int.toNat (i : Int)) = some (cs[i].own.row) := by
   have := h.row (i := i) (by rw [List.length_map]; exact hi)
   rw [this]; simp
  have hr' : nth b.rowsL (Int.toNat (i : Int)) = some (cs[i].row) := h'.row hi
  have hw := wS (i := i) (by omega)
  have hp := p42 (hc cs[i] (List.getElem_mem hi))
  have hl : a.lenN = cs.length := by rw [h.lenM, List.length_map]
  simp only [Clb.row, List.cons_append, List.nil_append, Int.toNat_natCast] at hr hr' hp
  push_cast at hw ⊢
  simp [B6500, hl, h'.lenM, hr, hr', hi, hw, hp]
 ·have hl : a.lenN = cs.length := by rw [h.lenM, List.length_map]
  simp [B6500, hl]
theorem p65 {a b : AV} {time : Int} {cs : List Clb} (h : IsL 11 ((cs.map Clb.own).map Clb.row) a) (h' : IsL 11 (cs.map Clb.row) b) (hn : cs.length < 1048577) (hc : ∀ c ∈ cs, ClbOk c) :
  F65 [ia time, a, ia time, b] = some (.bool true) := by
 have hG := G6500 (time := ia time) (time' := ia time) h h' hn hc
 have hl : a.lenN = cs.length := by rw [h.lenM, List.length_map]
 simp [F65, unitF_eq, t65, hG, hl, h'.lenM]
abbrev clbS : List Sh := [.str, .str, .int .i64, .int .i64, .int .i64, .int .i64, .bool, .bool, .bool, .sl [.int .i64, .int .i64, .int .i64, .bool], .sl [.int .i64]]
theorem sh_ok {a : AV} {cs : List Clb} (h : IsL 11 (cs.map Clb.row) a) (hc : ∀ c ∈ cs, ClbOk c) : (Sh.sl clbS).ok a = true := by
 refine h.ok rfl ?_
 rw [List.all_map, List.all_eq_true]
 intro c hm
 have h1 : (Sh.sl [.int .i64, .int .i64, .int .i64, .bool]).ok c.tr = true := (hc c hm).t.ok rfl (by simp [triR])
 have h2 : (Sh.sl [.int .i64]).ok c.ru = true := (hc c hm).r.ok rfl (by simp [intR])
 simp [clbS, Clb.row, h1, h2]
theorem p22_ok {a : AV} {time : Int} {cs : List Clb} (h : IsL 11 (cs.map Clb.row) a) (hn : cs.length < 1048577) (hc : ∀ c ∈ cs, ClbOk c) :
  F22 [ia time, a, ia 0, ia 0, ia time, a] = some (.bool true) := by
 have h1 := p43 (time := time) h hn hc
 have h2 := p65 (time := time) (mkL_isL 11 _) h hn hc
 simp only [List.map_map] at h1 h2
 have h3 := sh_ok (mkL_isL 11 ((cs.map Clb.own).map Clb.row)) (own_all hc)
 simp only [List.map_map] at h3
 simp [F22, unitF_eq, t22, h1, h2, h3]
theorem p22_no {b e : Int} {t a : AV} (he : e ≠ 0) : F22 [ia 0, .nils, ia e, ia e, t, a] = some (.bool true) := by
 simp [F22, unitF_eq, t22, he]
end Go.Proofs.YtdeaibcebeofiaaGreatDoor.C5

namespace Go.Proofs.YtdeaibcebeofiaaGreatDoor.C5
open Go Go.Proofs.YtdeaibcebeofiaaGreatDoor.AM
set_option maxRecDepth 20000
set_option maxHeartbeats 4000000
@[simp] theorem rok_agg (cs : List Sh) (vs : List AV) : (RS.agg cs).ok (.agg vs) = Sh.oks cs vs := rfl
theorem p62 {r : Rd} {names : AV} (hr : RdOk r names) (e : Ent) : F62 [.str r.f, names, ia r.pl, ia r.ti, ia e.1, .str e.2.1, ia e.2.2.1, ia e.2.2.2] = some (ia (if r.ck = 0 then ckEnt r.ns.length e else r.ck)) := by
 have h1 : F58 [.str r.f, names, ia r.pl, ia r.ti] = some (ia r.ck) := p58 (f := r.f) hr.isL (by have := hr.len; omega) hr.sz r.pl r.ti
 have h2 := p91 (f := .str r.f) (pl := ia r.pl) (ti := ia r.ti) hr.isL.lenM (by have := hr.len; omega) e.1 e.2.1 e.2.2.1 e.2.2.2
 by_cases hc : r.ck = 0 <;> simp [F62, unitF_eq, t62, h1, h2, hc, ckEnt]
theorem p54 {r : Rd} {names : AV} (hr : RdOk r names) (e : Ent) : F54 [.str r.f, names, ia r.pl, ia r.ti, ia e.1, .str e.2.1, ia e.2.2.1, ia e.2.2.2] = some (ia (if r.ck = 0 then ckEnt r.ns.length e else r.ck)) := by
 have h1 : F59 [.str r.f, names, ia r.pl, ia r.ti] = some (ia r.ck) := p59 (f := r.f) hr.isL (by have := hr.len; omega) hr.sz r.pl r.ti
 have h2 := p82 (f := .str r.f) (pl := ia r.pl) (ti := ia r.ti) hr.isL.lenM (by have := hr.len; omega) e.1 e.2.1 e.2.2.1 e.2.2.2
 by_cases hc : r.ck = 0 <;> simp [F54, unitF_eq, t54, h1, h2, hc, ckEnt]
theorem G1000 {r : Rd} {names b t a : AV} (hr : RdOk r names) {xs : List Ent} (h : IsL 4 (xs.map entR) b) (hx : xs.length < 1048577) :
  loopG (calO s10) B1000 KK [b, ia 0, t, a, .str r.f, names, ia r.pl, ia r.ti] = some (.tuple [ia 2, t, a, .str r.f, names, ia r.pl, ia r.ti]) := by
 refine loopF (fun i => [b, ia i, t, a, .str r.f, names, ia r.pl, ia r.ti]) (min xs.length 20) _ (by omega) (fun i hi => ?_) ?_
 ·have hi1 : i < xs.length := by omega
  have hi2 : (i : Int) < 20 := by omega
  have hr1 : nth b.rowsL (Int.toNat (i : Int)) = some (entR xs[i]) := h.row hi1
  have hw := wS (i := i) (by omega)
  have h1 := p62 hr xs[i]
  have h2 := p54 hr xs[i]
  simp only [entR, Int.toNat_natCast] at hr1
  push_cast at hw ⊢
  simp [B1000, h.lenM, hr1, hi1, hi2, hw, h1, h2]
 ·by_cases hq : xs.length ≤ 20
  ·have e : min xs.length 20 = xs.length := by omega
   rw [e]
   simp [B1000, h.lenM]
  ·have e : min xs.length 20 = 20 := by omega
   rw [e]
   have h1 : (20 : Int) < xs.length := by omega
   simp [B1000, h.lenM, h1]
theorem most_le (f : ByteArray) : mostI f ≤ 64 := by
 unfold mostI
 split
 ·omega
 ·split
  ·omega
  ·split <;> omega
theorem pl_of {r : Rd} (h : r.ck = 0) : 0 ≤ r.pl ∧ r.pl ≤ 64 := by
 unfold Rd.ck ckRound at h
 have hm := most_le r.f
 split at h
 ·cases h
 ·split at h
  ·cases h
  ·split at h
   ·cases h
   ·split at h
    ·contradiction
    ·split at h
     ·cases h
     ·rename_i hq
      simp only [outB, Bool.or_eq_true, decide_eq_true_eq, not_or] at hq
      omega
theorem law10 {r : Rd} {names a b : AV} (hr : RdOk r names) (hns : (Sh.sl [.str]).ok names = true) {time : Int} {cs : List Clb} (h : IsL 11 (cs.map Clb.row) a) (hl : cs.length < 1048577) (hc : ∀ c ∈ cs, ClbOk c) {xs : List Ent} (h' : IsL 4 (xs.map entR) b) (hx : xs.length < 1048577) :
  F10 [.str r.f, names, ia r.pl, ia r.ti, ia time, a, b] = some (.bool true) := by
 have hn := hr.len
 have f43 := p43 (time := time) h hl hc
 have iA : IsL 11 ((cs.map Clb.own).map Clb.row) (mkL 11 ((cs.map Clb.own).map Clb.row)) := mkL_isL 11 _
 have okA := sh_ok iA (own_all hc)
 have hlA : (cs.map Clb.own).length < 1048577 := by rw [List.length_map]; exact hl
 obtain ⟨b1, f16⟩ := p16 (f := r.f) (pl := ia r.pl) (ti := ia r.ti) hr.isL hn
 obtain ⟨b2, f44⟩ := p44 (time := time) iA hlA
 have f18 := p18 h' hx
 have i1 : IsL 4 (xs.map entR) (mkL 4 (xs.map entR)) := mkL_isL _ _
 have okE : (Sh.sl [.int .i64, .str, .int .i64, .int .i64]).ok (mkL 4 (xs.map entR)) = true := i1.ok rfl (by simp [entR])
 obtain ⟨b3, f17⟩ := p17 i1 hx 20
 have f58 : F58 [.str r.f, names, ia r.pl, ia r.ti] = some (ia r.ck) := p58 (f := r.f) hr.isL (by omega) hr.sz r.pl r.ti
 have f59 : F59 [.str r.f, names, ia r.pl, ia r.ti] = some (ia r.ck) := p59 (f := r.f) hr.isL (by omega) hr.sz r.pl r.ti
 have f60 := p60 (f := r.f) (n := r.pl) (ti := r.ti) (time := time) hr.isL hn hr.sz h hl hc
 have f45 := p45 (f := r.f) (n := r.pl) (ti := r.ti) (time := time) hr.isL hn hr.sz iA hlA (own_all hc)
 rw [st_own, ← st_eq] at f45
 have f61 := p61 hr h' hx
 have f21 := p21 hr i1 hx
 have f15 : F15 [] = some (.bool true) := rfl
 have o15 : calO s10 15 0 [] = .bool true := by rw [o10_15, f15]; rfl
 have hG := G1000 (t := ia time) (a := mkL 11 ((cs.map Clb.own).map Clb.row)) hr h' hx
 generalize mkL 11 ((cs.map Clb.own).map Clb.row) = A at *
 generalize mkL 4 (xs.map entR) = E at *
 generalize ckStA r.f r.ns r.pl r.ti time cs = k at *
 by_cases hk : r.ck = 0
 ·obtain ⟨q1, q2⟩ := pl_of hk
  have f122 := p122 (f := r.f) (ti := r.ti) hr.isL hn q1 q2
  have f64 := p64 (f := r.f) (ti := r.ti) hr.isL hn q1 q2
  have iS : IsL 11 ((startL r.f r.pl r.ns.length).map Clb.row) (mkL 11 ((startL r.f r.pl r.ns.length).map Clb.row)) := mkL_isL 11 _
  have hS : ∀ c ∈ startL r.f r.pl r.ns.length, ClbOk c := fun c hm => by
   rw [List.eq_of_mem_replicate hm]; exact start_ok q2
  have okS := sh_ok iS hS
  have f22 := p22_ok (time := 0) iS (by simp only [startL, List.length_replicate]; exact hn) hS
  generalize mkL 11 ((startL r.f r.pl r.ns.length).map Clb.row) = S at *
  have f63 : F63 [.str r.f, names, ia r.pl, ia r.ti] = some (.tuple [.agg [ia 0, S], ia 0]) := by
   simp [F63, unitF_eq, t63, f58, hk, f122, okS]
  cases b1 <;> cases b2 <;> cases b3 <;>
   simp [F10, unitF_eq, t10, f15, o15, f16, f17, f18, f21, f22, f43, f44, f45, f58, f59, f60, f61, f63, f64, hG, hk, okA, okE, okS]
 ·have f63 : F63 [.str r.f, names, ia r.pl, ia r.ti] = some (.tuple [.agg [ia 0, .nils], ia r.ck]) := by
   simp [F63, unitF_eq, t63, f58, hk]
  have f22 := @p22_no (b := 0) (e := r.ck) (ia time) A hk
  cases b1 <;> cases b2 <;> cases b3 <;>
   simp [F10, unitF_eq, t10, f15, o15, f16, f17, f18, f21, f22, f43, f44, f45, f58, f59, f60, f61, f63, hG, hk, okA, okE]
end Go.Proofs.YtdeaibcebeofiaaGreatDoor.C5
