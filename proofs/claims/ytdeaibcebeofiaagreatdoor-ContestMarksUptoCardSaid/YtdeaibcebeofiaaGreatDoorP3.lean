/-
  Plain lemmas (third part).
-/
import Derived.Test.YtdeaibcebeofiaaGreatDoorP2
import Derived.Test.YtdeaibcebeofiaaGreatDoorF3
set_option linter.unusedVariables false
set_option linter.unusedSimpArgs false
set_option linter.unusedSectionVars false
namespace Go.Proofs.YtdeaibcebeofiaaGreatDoor.C5
open Go Go.Proofs.YtdeaibcebeofiaaGreatDoor.AM
set_option maxRecDepth 20000
set_option maxHeartbeats 4000000
theorem n01 : ¬ w0 = w1 := by decide
theorem n02 : ¬ w0 = w2 := by decide
theorem n10 : ¬ w1 = w0 := by decide
theorem n12 : ¬ w1 = w2 := by decide
theorem n20 : ¬ w2 = w0 := by decide
theorem n21 : ¬ w2 = w1 := by decide
theorem G9900 {Ω : Om} (hΩ : ∀ vs, Ω 168 0 vs = getJ (F168 vs)) {a v1 v2 v3 v4 v5 v6 v7 v8 v9 v11 v12 v13 v14 v15 : AV} {ts : List Tri} (h : IsL 4 (ts.map triR) a) (hn : ts.length < 1048577) :
  loopG Ω B9900 KK [ia 0, v1, v2, v3, v4, v5, v6, v7, v8, v9, a, v11, v12, v13, v14, v15] = some (if trysC ts = 0 then .tuple [ia 2, v1, v2, v3, v4, v5, v6, v7, v8, v9, a, v11, v12, v13, v14, v15] else .tuple [ia 1, ia (trysC ts)]) := by
 have hG := loopL (Ω := Ω) (B := B9900) (fun i => [ia i, v1, v2, v3, v4, v5, v6, v7, v8, v9, a, v11, v12, v13, v14, v15]) ts (fun t => if tryC t = 0 then none else some (.tuple [ia 1, ia (tryC t)])) (.tuple [ia 2, v1, v2, v3, v4, v5, v6, v7, v8, v9, a, v11, v12, v13, v14, v15]) (by omega) (fun i hi => by
  have hr : nth a.rowsL (Int.toNat (i : Int)) = some (triR ts[i]) := h.row hi
  have hw := wS (i := i) (by omega)
  have hp := p168 ts[i]
  simp only [triR, Int.toNat_natCast] at hr hp
  push_cast at hw
  by_cases hc : tryC ts[i] = 0 <;> simp [B9900, h.lenM, hr, hi, hw, hp, hc, hΩ]) (by simp [B9900, h.lenM])
 refine Eq.trans hG ?_
 rw [find_map]
 rcases find_cases (ts.map tryC) with ⟨g1, g2⟩ | ⟨g1, g2⟩ <;> rw [g2] <;> simp [trysC, g1]
theorem G9901 {Ω : Om} (hΩ : ∀ vs, Ω 90 0 vs = getJ (F90 vs)) {a v1 v2 v3 v4 v5 v6 v7 v8 v9 v10 v12 v13 v14 v15 : AV} {rs : List Int} (h : IsL 1 (rs.map intR) a) (hn : rs.length < 1048577) :
  loopG Ω B9901 KK [ia 0, v1, v2, v3, v4, v5, v6, v7, v8, v9, v10, a, v12, v13, v14, v15] = some (if runsB rs then .tuple [ia 1] else .tuple [ia 2, v1, v2, v3, v4, v5, v6, v7, v8, v9, v10, a, v12, v13, v14, v15]) := by
 have hG := loopL (Ω := Ω) (B := B9901) (fun i => [ia i, v1, v2, v3, v4, v5, v6, v7, v8, v9, v10, a, v12, v13, v14, v15]) rs (fun n => if outB n 0 86399999 then some (.tuple [ia 1]) else none) (.tuple [ia 2, v1, v2, v3, v4, v5, v6, v7, v8, v9, v10, a, v12, v13, v14, v15]) (by omega) (fun i hi => by
  have hr : nth a.rowsL (Int.toNat (i : Int)) = some [ia rs[i]] := h.row hi
  have hw := wS (i := i) (by omega)
  have hp := p90 rs[i] 0 86399999
  simp only [Int.toNat_natCast] at hr
  push_cast at hw
  cases hc : outB rs[i] 0 86399999 <;> rw [hc] at hp <;> simp [B9901, h.lenM, hr, hi, hw, hp, hΩ]) (by simp [B9901, h.lenM])
 refine Eq.trans hG ?_
 rw [any_find]
 unfold runsB
 cases (rs.any fun n => outB n 0 86399999) <;> rfl
def vs99 (f : ByteArray) (names : AV) (n ti time : Int) (c : Clb) : List AV := [.str f, names, ia n, ia ti, ia time, .str c.ph, .str c.st, ia c.pl, ia c.be, ia c.us, ia c.ho, .bool c.pb, .bool c.tb, .bool c.ob, c.tr, c.ru]
def om99 : Om := omL KK s99 l99
theorem om99_90 (vs : List AV) : om99 90 0 vs = getJ (F90 vs) := by simp [om99]
theorem om99_167 (vs : List AV) : om99 167 0 vs = getJ (F167 vs) := by simp [om99]
theorem om99_125 (vs : List AV) : om99 125 0 vs = getJ (F125 vs) := by simp [om99]
theorem om99_9900 (vs : List AV) : om99 100000 9900 vs = getJ (loopG (calO s99) B9900 KK vs) := by simp [om99]
theorem om99_9901 (vs : List AV) : om99 100000 9901 vs = getJ (loopG (omL KK s99 [d9900]) B9901 KK vs) := by simp [om99]
section
variable {f : ByteArray} {names : AV} {n ti time : Int} {c : Clb}
theorem ph4 (s : ByteArray) : (s = w4 ∧ ¬ s = w5 ∧ ¬ s = w6) ∨ (¬ s = w4 ∧ s = w5 ∧ ¬ s = w6) ∨ (¬ s = w4 ∧ ¬ s = w5 ∧ s = w6) ∨ (¬ s = w4 ∧ ¬ s = w5 ∧ ¬ s = w6) := by
 by_cases h1 : s = w4
 ·subst h1; left; exact ⟨rfl, by decide, by decide⟩
 by_cases h2 : s = w5
 ·subst h2; right; left; exact ⟨by decide, rfl, by decide⟩
 by_cases h3 : s = w6
 ·subst h3; right; right; left; exact ⟨by decide, by decide, rfl⟩
 ·right; right; right; exact ⟨h1, h2, h3⟩
theorem nv : nth (vs99 f names n ti time c) 0 = some (.str f) ∧ nth (vs99 f names n ti time c) 2 = some (ia n) ∧ nth (vs99 f names n ti time c) 5 = some (.str c.ph) ∧ nth (vs99 f names n ti time c) 6 = some (.str c.st) ∧ nth (vs99 f names n ti time c) 7 = some (ia c.pl) ∧ nth (vs99 f names n ti time c) 13 = some (.bool c.ob) ∧ nth (vs99 f names n ti time c) 14 = some c.tr ∧ nth (vs99 f names n ti time c) 15 = some c.ru := ⟨rfl, rfl, rfl, rfl, rfl, rfl, rfl, rfl⟩
theorem k12 : X.den om99 (vs99 f names n ti time c) e99_12 = .bool (!knownB c) := by
 have hm : memB c.st stsL = (decide (c.st = w3) || (decide (c.st = w7) || (decide (c.st = w8) || decide (c.st = w9)))) := by simp [memB, stsL]
 have hp : memB c.ph phsL = (decide (c.ph = w4) || (decide (c.ph = w5) || decide (c.ph = w6))) := by simp [memB, phsL]
 unfold knownB
 rw [hm, hp]
 generalize ha : decide (c.st = w3) = a
 generalize hb : decide (c.st = w7) = b
 generalize hd : decide (c.st = w8) = d
 generalize he : decide (c.st = w9) = e
 generalize hx : decide (c.ph = w4) = x
 generalize hy : decide (c.ph = w5) = y
 generalize hz : decide (c.ph = w6) = z
 simp only [e99_12, e99_11, e99_10, e99_9, e99_8, e99_7, vs99, d_p, ds_cons, ds_nil, d_v, d_s, d_b, nth_zero, nth_succ, nth_lit, getJ_some, s_ite', s_sneq, sS_str, bB_bool, bool_cond, tl_beq, ha, hb, hd, he, hx, hy, hz]
 cases a <;> cases b <;> cases d <;> cases e <;> cases x <;> cases y <;> cases z <;> rfl
theorem k13 : X.den om99 (vs99 f names n ti time c) e99_13 = .bool (stateB c) := by
 simp [-s_ite, s_ite', bB_cond, bool_cond, tl_beq, vs99, stateB]
theorem k45 : X.den om99 (vs99 f names n ti time c) e99_45 = .bool (farB f n ti time c) := by
 have h : (cond (decide (f = w0)) (ia n) (AV.int .i64 0)) = ia (holdsI f n) := by
  unfold holdsI
  by_cases h : f = w0 <;> simp [h]
 simp [-s_ite, s_ite', bB_cond, bool_cond, tl_beq, vs99, om99_90, om99_167, p167, p90, h, farB]
theorem kok : X.den om99 (vs99 f names n ti time c) e99_15 = .bool true ∧ X.den om99 (vs99 f names n ti time c) e99_20 = .bool true ∧ X.den om99 (vs99 f names n ti time c) e99_26 = .bool true ∧ X.den om99 (vs99 f names n ti time c) e99_32 = .bool true ∧ X.den om99 (vs99 f names n ti time c) e99_40 = .bool true := by
 have h : (cond (decide (f = w0)) (ia n) (AV.int .i64 0)) = ia (holdsI f n) := by
  unfold holdsI
  by_cases h : f = w0 <;> simp [h]
 simp [-s_ite, s_ite', bB_cond, bool_cond, tl_beq, vs99, om99_90, om99_167, p167, p90, h]
theorem k52 (hc : ClbOk c) (hf : f = w0 ∨ f = w1 ∨ f = w2) : X.den om99 (vs99 f names n ti time c) e99_52 = .bool (shapeB f n c) := by
 have h5 : c.tr.lenN = c.ts.length := hc.t.lenM
 have h6 : c.ru.lenN = c.rs.length := hc.r.lenM
 rcases hf with rfl | rfl | rfl <;>
  simp [-s_ite, s_ite', bB_cond, nI_cond, bool_cond, int_cond, tl_beq, ne_b, vs99, h5, h6, shapeB, triesI, runsI, n01, n02, n10, n12, n20, n21]
theorem k55 (hc : ClbOk c) : X.den om99 (vs99 f names n ti time c) e99_53 = if trysC c.ts = 0 then .tuple [ia 2, .str c.ph, .str c.st, ia c.pl, ia c.be, ia c.us, ia c.ho, .bool c.pb, .bool c.tb, .bool c.ob, c.tr, c.ru, .str f, names, ia n, ia ti] else .tuple [ia 1, ia (trysC c.ts)] := by
 have h1 := @G9900 (calO s99) (fun vs => o99_168 vs) c.tr (.str c.ph) (.str c.st) (ia c.pl) (ia c.be) (ia c.us) (ia c.ho) (.bool c.pb) (.bool c.tb) (.bool c.ob) c.ru (.str f) names (ia n) (ia ti) c.ts hc.t hc.tl
 simp only [e99_53, vs99, d_p, ds_cons, ds_nil, d_v, d_i, nth_zero, nth_succ, nth_lit, getJ_some, s_call, om99_9900, h1]
theorem k64 (hc : ClbOk c) : X.den om99 (vs99 f names n ti time c) e99_62 = if runsB c.rs then .tuple [ia 1] else .tuple [ia 2, .str c.ph, .str c.st, ia c.pl, ia c.be, ia c.us, ia c.ho, .bool c.pb, .bool c.tb, .bool c.ob, c.tr, c.ru, .str f, names, ia n, ia ti] := by
 have h2 := @G9901 (omL KK s99 [d9900]) (fun vs => o99_90 vs) c.ru (.str c.ph) (.str c.st) (ia c.pl) (ia c.be) (ia c.us) (ia c.ho) (.bool c.pb) (.bool c.tb) (.bool c.ob) c.tr (.str f) names (ia n) (ia ti) c.rs hc.r hc.rl
 simp only [e99_62, vs99, d_p, ds_cons, ds_nil, d_v, d_i, nth_zero, nth_succ, nth_lit, getJ_some, s_call, om99_9901, h2]
theorem k76 : X.den om99 (vs99 f names n ti time c) e99_76 = .bool (foreignB f c) := by
 simp [-s_ite, s_ite', bB_cond, bool_cond, tl_beq, ne_b, vs99, foreignB]
 rcases tf_or (f = w0) with e | e <;> rcases tf_or (f = w1) with e1 | e1 <;> simp [e, e1, Bool.or_assoc]
theorem k120 (hc : ClbOk c) : X.den om99 (vs99 f names n ti time c) e99_120 = .bool (decide (bestI c.rs > 0)) := by
 have h3 := p125 (v2 := .str c.ph) (v3 := .str c.st) (v4 := ia c.pl) (v5 := ia c.be) (v6 := ia c.us) (v7 := ia c.ho) (v8 := .bool c.pb) (v9 := .bool c.tb) (v10 := .bool c.ob) (v11 := c.tr) hc.r hc.rl
 simp only [e99_120, vs99, d_p, ds_cons, ds_nil, d_v, d_i, nth_zero, nth_succ, nth_lit, getJ_some, s_call, om99_125, h3]
theorem k_out {a : Int} (h : ckForm f n ti time c = a) (ha : a ≠ 0) : ckClimb f n ti time c = a := by
 unfold ckClimb
 rw [if_neg (by rw [h]; exact ha), h]
end
theorem p99 {f : ByteArray} {names : AV} {n ti time : Int} {c : Clb} (hc : ClbOk c) (hf : f = w0 ∨ f = w1 ∨ f = w2) :
  F99 (.str f :: names :: ia n :: ia ti :: ia time :: c.row) = some (ia (ckClimb f n ti time c)) := by
 have q12 := @k12 f names n ti time c
 have q13 := @k13 f names n ti time c
 have q45 := @k45 f names n ti time c
 have q52 := @k52 f names n ti time c hc hf
 have q53 := @k55 f names n ti time c hc
 have q62 := @k64 f names n ti time c hc
 have q76 := @k76 f names n ti time c
 obtain ⟨q15, q20, q26, q32, q40⟩ := @kok f names n ti time c
 have q120 := @k120 f names n ti time c hc
 show unitF om99 t99 (vs99 f names n ti time c) = _
 rw [unitF_eq]
 cases hK : knownB c
 ·rw [k_out (a := 13) (by simp [ckForm, fz_cons, whenI, hK]) (by decide)]
  simp [-s_ite, s_ite', -e99_12, -e99_13, -e99_45, -e99_52, -e99_53, -e99_62, -e99_76, -e99_15, -e99_20, -e99_26, -e99_32, -e99_40, q15, q20, q26, q32, q40, t99, q12, hK]
 cases hS : stateB c
 rotate_left
 ·rw [k_out (a := 19) (by simp [ckForm, fz_cons, whenI, hK, hS]) (by decide)]
  simp [-s_ite, s_ite', -e99_12, -e99_13, -e99_45, -e99_52, -e99_53, -e99_62, -e99_76, -e99_15, -e99_20, -e99_26, -e99_32, -e99_40, q15, q20, q26, q32, q40, t99, q12, q13, hK, hS]
 cases hB : farB f n ti time c
 rotate_left
 ·rw [k_out (a := 3) (by simp [ckForm, fz_cons, whenI, hK, hS, hB]) (by decide)]
  simp [-s_ite, s_ite', -e99_12, -e99_13, -e99_45, -e99_52, -e99_53, -e99_62, -e99_76, -e99_15, -e99_20, -e99_26, -e99_32, -e99_40, q15, q20, q26, q32, q40, t99, q12, q13, q45, q52, q53, q62, q76, hK, hS, hB]
 cases hH : shapeB f n c
 rotate_left
 ·rw [k_out (a := 2) (by simp [ckForm, fz_cons, whenI, hK, hS, hB, hH]) (by decide)]
  simp [-s_ite, s_ite', -e99_12, -e99_13, -e99_45, -e99_52, -e99_53, -e99_62, -e99_76, -e99_15, -e99_20, -e99_26, -e99_32, -e99_40, q15, q20, q26, q32, q40, t99, q12, q13, q45, q52, q53, q62, q76, hK, hS, hB, hH]
 by_cases hT : trysC c.ts = 0
 rotate_left
 ·rw [k_out (a := trysC c.ts) (by simp [ckForm, fz_cons, whenI, hK, hS, hB, hH, hT]) hT]
  simp [-s_ite, s_ite', -e99_12, -e99_13, -e99_45, -e99_52, -e99_53, -e99_62, -e99_76, -e99_15, -e99_20, -e99_26, -e99_32, -e99_40, q15, q20, q26, q32, q40, t99, q12, q13, q45, q52, q53, q62, q76, hK, hS, hB, hH, hT]
 cases hR : runsB c.rs
 rotate_left
 ·rw [k_out (a := 3) (by simp [ckForm, fz_cons, whenI, hK, hS, hB, hH, hT, hR]) (by decide)]
  simp [-s_ite, s_ite', -e99_12, -e99_13, -e99_45, -e99_52, -e99_53, -e99_62, -e99_76, -e99_15, -e99_20, -e99_26, -e99_32, -e99_40, q15, q20, q26, q32, q40, t99, q12, q13, q45, q52, q53, q62, q76, hK, hS, hB, hH, hT, hR]
 cases hO : foreignB f c
 rotate_left
 ·rw [k_out (a := 1) (by simp [ckForm, fz_cons, whenI, hK, hS, hB, hH, hT, hR, hO]) (by decide)]
  simp [-s_ite, s_ite', -e99_12, -e99_13, -e99_45, -e99_52, -e99_53, -e99_62, -e99_76, -e99_15, -e99_20, -e99_26, -e99_32, -e99_40, q15, q20, q26, q32, q40, t99, q12, q13, q45, q52, q53, q62, q76, hK, hS, hB, hH, hT, hR, hO]
 have hF : ckForm f n ti time c = 0 := by simp [ckForm, fz_cons, fz_nil, whenI, hK, hS, hB, hH, hT, hR, hO]
 have hC : ckClimb f n ti time c = whenI (stB f n c) 19 := by unfold ckClimb; rw [if_pos hF]
 rw [hC]
 have h5 : c.tr.lenN = c.ts.length := hc.t.lenM
 have h6 : c.ru.lenN = c.rs.length := hc.r.lenM
 have hob : c.ob = true → f = w1 := by
  intro ho
  simp [foreignB, ho] at hO
  exact hO.2
 have hbn := best_nn c.rs
 have hlen : f = w2 → (c.rs.length : Int) ≤ n := by
  intro h
  simp only [shapeB, Bool.or_eq_false_iff, decide_eq_false_iff_not] at hH
  have e1 : runsI f n = n := if_pos h
  rw [e1] at hH
  omega
 obtain ⟨v0, v2, v5, v6, v7, v13, v14, v15⟩ := @nv f names n ti time c
 have Q := And.intro q15 (And.intro q20 (And.intro q26 (And.intro q32 (And.intro q40 (And.intro q12 (And.intro q13 (And.intro q45 (And.intro q52 (And.intro q53 (And.intro q62 (And.intro q76 (And.intro q120 (And.intro hK (And.intro hS (And.intro hB (And.intro hH (And.intro hT (And.intro hR (And.intro hO (And.intro v0 (And.intro v2 (And.intro v5 (And.intro v6 (And.intro v7 (And.intro v13 (And.intro v14 (And.intro v15 (And.intro h5 (h6)))))))))))))))))))))))))))))
 rcases tf_or (c.ph = w5) with e1 | e1
 ·have e9 : ¬ w5 = w6 := by decide
  have e8 : ¬ c.ph = w6 := by rw [of_eq_true e1]; exact e9
  rcases hf with rfl | rfl | rfl
  ·have ho : c.ob = false := Bool.eq_false_iff.2 (fun ho => n01 (hob ho))
   simp [-s_ite, sB, -e99_12, -e99_13, -e99_45, -e99_52, -e99_53, -e99_62, -e99_76, -e99_120, -e99_15, -e99_20, -e99_26, -e99_32, -e99_40, Q, t99, stB, e1, ho, n01, n02, whenI]
  ·rcases tf_or (c.pl = 0) with e3 | e3
   ·cases ho : c.ob <;> simp [-s_ite, sB, -e99_12, -e99_13, -e99_45, -e99_52, -e99_53, -e99_62, -e99_76, -e99_120, -e99_15, -e99_20, -e99_26, -e99_32, -e99_40, Q, t99, stB, e1, e3, ho, n10, n12, whenI]
   ·obtain ⟨_, g1, g2, _⟩ := placed hF n10 n12 (of_eq_false e3)
    obtain ⟨g3, g4⟩ := tri_row hc g1 g2
    have g5 : (0 : Int) ≤ c.pl - 1 := by omega
    have g6 : c.pl - 1 < c.ts.length := by omega
    simp only [triR] at g4
    rw [show (c.pl - 1).toNat = c.pl.toNat - 1 by omega] at g4
    cases hv : (triAt c).2.2.2 <;> cases ho : c.ob <;> rcases tf_or ((triAt c).1 = 0) with e5 | e5 <;>
     simp [-s_ite, sB, -e99_12, -e99_13, -e99_45, -e99_52, -e99_53, -e99_62, -e99_76, -e99_120, -e99_15, -e99_20, -e99_26, -e99_32, -e99_40, Q, t99, stB, e1, e3, e5, e9, g1, g3, g4, g5, g6, hv, ho, n10, n12, badTri, whenI]
  ·have ho : c.ob = false := Bool.eq_false_iff.2 (fun ho => n21 (hob ho))
   have hl := hlen rfl
   rcases tf_or (c.pl = 0) with e3 | e3
   ·simp [-s_ite, sB, -e99_12, -e99_13, -e99_45, -e99_52, -e99_53, -e99_62, -e99_76, -e99_120, -e99_15, -e99_20, -e99_26, -e99_32, -e99_40, Q, t99, stB, e1, e3, ho, n20, n21, whenI]
   ·by_cases hq : (c.rs.length : Int) = n
    ·have hq' : n ≤ (c.rs.length : Int) := by omega
     simp [-s_ite, sB, -e99_12, -e99_13, -e99_45, -e99_52, -e99_53, -e99_62, -e99_76, -e99_120, -e99_15, -e99_20, -e99_26, -e99_32, -e99_40, Q, t99, stB, e1, e3, e8, ho, n20, n21, hq, hq', whenI]
    ·have hq' : ¬ n ≤ (c.rs.length : Int) := by omega
     simp [-s_ite, sB, -e99_12, -e99_13, -e99_45, -e99_52, -e99_53, -e99_62, -e99_76, -e99_120, -e99_15, -e99_20, -e99_26, -e99_32, -e99_40, Q, t99, stB, e1, e3, e8, ho, n20, n21, hq, hq', whenI]
 ·rcases hf with rfl | rfl | rfl
  ·have ho : c.ob = false := Bool.eq_false_iff.2 (fun ho => n01 (hob ho))
   rcases tf_or (c.pl = 0) with e3 | e3 <;> simp [-s_ite, sB, -e99_12, -e99_13, -e99_45, -e99_52, -e99_53, -e99_62, -e99_76, -e99_120, -e99_15, -e99_20, -e99_26, -e99_32, -e99_40, Q, t99, stB, e1, e3, ho, n01, n02, whenI]
  ·rcases tf_or (c.pl = 0) with e3 | e3 <;> cases ho : c.ob <;> simp [-s_ite, sB, -e99_12, -e99_13, -e99_45, -e99_52, -e99_53, -e99_62, -e99_76, -e99_120, -e99_15, -e99_20, -e99_26, -e99_32, -e99_40, Q, t99, stB, e1, e3, ho, n10, n12, whenI]
  ·have ho : c.ob = false := Bool.eq_false_iff.2 (fun ho => n21 (hob ho))
   have hl := hlen rfl
   rcases tf_or (c.pl = 0) with e3 | e3
   ·rcases ph4 c.ph with ⟨a1, a2, a3⟩ | ⟨a1, a2, a3⟩ | ⟨a1, a2, a3⟩ | ⟨a1, a2, a3⟩
    ·by_cases hq : (c.rs.length : Int) = n
     ·have hq' : n ≤ (c.rs.length : Int) := by omega
      simp [-s_ite, sB, -e99_12, -e99_13, -e99_45, -e99_52, -e99_53, -e99_62, -e99_76, -e99_120, -e99_15, -e99_20, -e99_26, -e99_32, -e99_40, Q, t99, stB, lateB, a1, a2, a3, e3, ho, n20, n21, hq, hq', whenI, show ¬ w4 = w5 by decide, show ¬ w4 = w6 by decide]
     ·have hq' : ¬ n ≤ (c.rs.length : Int) := by omega
      simp [-s_ite, sB, -e99_12, -e99_13, -e99_45, -e99_52, -e99_53, -e99_62, -e99_76, -e99_120, -e99_15, -e99_20, -e99_26, -e99_32, -e99_40, Q, t99, stB, lateB, a1, a2, a3, e3, ho, n20, n21, hq, hq', whenI, show ¬ w4 = w5 by decide, show ¬ w4 = w6 by decide]
    ·exact absurd a2 (of_eq_false e1)
    ·by_cases hq : bestI c.rs = 0
     ·rcases tf_or (c.st = w3) with e4 | e4 <;> simp [-s_ite, sB, -e99_12, -e99_13, -e99_45, -e99_52, -e99_53, -e99_62, -e99_76, -e99_120, -e99_15, -e99_20, -e99_26, -e99_32, -e99_40, Q, t99, stB, lateB, a1, a2, a3, e3, e4, ho, n20, n21, hq, whenI, show ¬ w6 = w5 by decide, show ¬ w6 = w4 by decide]
     ·have hq' : 0 < bestI c.rs := by omega
      rcases tf_or (c.st = w3) with e4 | e4 <;> simp [-s_ite, sB, -e99_12, -e99_13, -e99_45, -e99_52, -e99_53, -e99_62, -e99_76, -e99_120, -e99_15, -e99_20, -e99_26, -e99_32, -e99_40, Q, t99, stB, lateB, a1, a2, a3, e3, e4, ho, n20, n21, hq, hq', whenI, show ¬ w6 = w5 by decide, show ¬ w6 = w4 by decide]
    ·exfalso
     simp [knownB, memB, phsL, a1, a2, a3] at hK
   ·simp [-s_ite, sB, -e99_12, -e99_13, -e99_45, -e99_52, -e99_53, -e99_62, -e99_76, -e99_120, -e99_15, -e99_20, -e99_26, -e99_32, -e99_40, Q, t99, stB, e1, e3, ho, n20, n21, whenI]
end Go.Proofs.YtdeaibcebeofiaaGreatDoor.C5

namespace Go.Proofs.YtdeaibcebeofiaaGreatDoor.C5
open Go Go.Proofs.YtdeaibcebeofiaaGreatDoor.AM
set_option maxRecDepth 20000
set_option maxHeartbeats 4000000
def c0 : Clb := ⟨w3, w3, 0, 0, 0, 0, false, false, false, .nils, .nils, [], []⟩
def metB (f : ByteArray) (p : Int) (x : Clb) : Bool := decide (x.ph = w5) && (decide (f = w0) || decide (x.pl = p))
def samB (p : Int) (x : Clb) : Bool := decide (x.ph = w5) && decide (p = x.pl)
theorem isL_sliceG {α : Type} {g : α → List AV} {k : Nat} {a : AV} {l : List α} (h : IsL k (l.map g) a) (Ω : Om) (i : Nat) : IsL k ((l.take i).map g) (Pr.sem Ω .slice [a, ia 0, ia i]) := by
 rcases h with rfl | ⟨rfl, h⟩
 ·left
  show AV.sl k ((List.drop 0 (l.map g)).take _) = _
  simp [List.map_take]
 ·right
  have : l = [] := by simpa using h
  subst this
  exact ⟨rfl, by simp⟩
theorem p118 {f : ByteArray} {names : AV} {n ti : Int} {x : Clb} (c : Clb) :
  F118 (x.row ++ (.str f :: names :: ia n :: ia ti :: c.row)) = some (.bool (metB f c.pl x)) := by
 have h : F119 (.str f :: names :: ia n :: ia ti :: (x.row ++ [ia c.pl])) = some (.bool (metB f c.pl x)) := by
  simp [-s_ite, s_ite', bB_cond, bool_cond, tl_beq, eq_b, F119, unitF_eq, t119, Clb.row, metB]
 simp only [Clb.row, List.cons_append, List.nil_append] at h ⊢
 simp [F118, unitF_eq, t118, h]
theorem G16900 {f : ByteArray} {names a : AV} {n ti : Int} {xs : List Clb} (c : Clb) (h : IsL 11 (xs.map Clb.row) a) (hn : xs.length < 1048577) :
  ∃ r, loopG (calO s169) B16900 KK (a :: .str f :: names :: ia n :: ia ti :: (c.row ++ [ia xs.length, ia 0])) = some r ∧ ((xs.any (metB f c.pl) = true ∧ ∃ i : Nat, r = .tuple [ia 1, ia i]) ∨ (xs.any (metB f c.pl) = false ∧ r = .tuple [ia 2])) := by
 have hG := loop0 (Ω := calO s169) (B := B16900) (fun i => a :: .str f :: names :: ia n :: ia ti :: (c.row ++ [ia xs.length, ia i])) xs.length (fun i => if metB f c.pl (xs.getD i c0) then some (.tuple [ia 1, ia i]) else none) (.tuple [ia 2]) (by omega) (fun i hi => by
  have hr : nth a.rowsL (Int.toNat (i : Int)) = some (xs[i].row) := h.row hi
  have hw := wS (i := i) (by omega)
  have hg : xs.getD i c0 = xs[i] := by simp [hi]
  have hp := p118 (f := f) (names := names) (n := n) (ti := ti) (x := xs[i]) c
  simp only [Int.toNat_natCast, Clb.row, List.cons_append, List.nil_append] at hr hp
  push_cast at hw
  rw [hg]
  cases hc : metB f c.pl xs[i] <;> rw [hc] at hp <;> simp [B16900, Clb.row, h.lenM, hr, hi, hw, hp]) (by simp [B16900, Clb.row])
 refine ⟨_, hG, ?_⟩
 cases hb : xs.any (metB f c.pl)
 ·right
  refine ⟨rfl, ?_⟩
  rw [List.findSome?_eq_none_iff.2 (fun i hi => ?_)]
  ·rfl
  ·have hl : i < xs.length := by simp only [List.mem_range'_1] at hi; omega
   have : metB f c.pl xs[i] = false := by
    have := List.any_eq_false.1 hb xs[i] (List.getElem_mem hl)
    simpa using this
   simp [hl, this]
 ·left
  refine ⟨rfl, ?_⟩
  cases hf : (List.range' 0 xs.length).findSome? fun i => if metB f c.pl (xs.getD i c0) then some (AV.tuple [ia 1, ia i]) else none with
  | none =>
    exfalso
    obtain ⟨x, hx, hy⟩ := List.any_eq_true.1 hb
    obtain ⟨i, hi, rfl⟩ := List.getElem_of_mem hx
    have := List.findSome?_eq_none_iff.1 hf i (by simp only [List.mem_range'_1]; omega)
    simp [hi, hy] at this
  | some r =>
    obtain ⟨i, hi, hr⟩ := List.exists_of_findSome?_eq_some hf
    refine ⟨i, ?_⟩
    split at hr
    ·injection hr with hr; rw [← hr]; rfl
    ·cases hr
theorem p100 {f : ByteArray} {names a : AV} {n ti : Int} {xs : List Clb} (c : Clb) (h : IsL 11 (xs.map Clb.row) a) (hn : xs.length < 1048577) :
  F100 (a :: .str f :: names :: ia n :: ia ti :: c.row) = some (.bool (xs.any (metB f c.pl))) := by
 obtain ⟨r, hG, hr⟩ := G16900 (f := f) (names := names) (n := n) (ti := ti) c h hn
 have h1 : ∃ j : Int, F169 (a :: .str f :: names :: ia n :: ia ti :: c.row) = some (ia j) ∧ (decide (j ≥ 0) = xs.any (metB f c.pl)) := by
  simp only [Clb.row, List.cons_append, List.nil_append] at hG ⊢
  rcases hr with ⟨h1, i, rfl⟩ | ⟨h1, rfl⟩
  ·exact ⟨i, by simp [F169, unitF_eq, t169, h.lenM, hG], by simp [h1]⟩
  ·exact ⟨-1, by simp [F169, unitF_eq, t169, h.lenM, hG], by simp [h1]⟩
 obtain ⟨j, h1, h2⟩ := h1
 simp only [Clb.row] at h1 ⊢
 simp [F100, unitF_eq, t100, h1, ← h2]
def twA (f : ByteArray) (cs : List Clb) (i : Nat) : Bool := decide ((cs.getD i c0).ph = w5) && (cs.take i).any (metB f (cs.getD i c0).pl)
def twB (cs : List Clb) (i : Nat) : Bool := decide ((cs.getD i c0).ph = w5) && (cs.take i).any (samB (cs.getD i c0).pl)
def cdA (f : ByteArray) (n ti time : Int) (cs : List Clb) (i : Nat) : Int := if ckClimb f n ti time (cs.getD i c0) = 0 then whenI (twA f cs i) 9 else ckClimb f n ti time (cs.getD i c0)
def cdB (f : ByteArray) (n ti time : Int) (cs : List Clb) (i : Nat) : Int := if ckClimb f n ti time (cs.getD i c0) = 0 then whenI (twB cs i) 9 else ckClimb f n ti time (cs.getD i c0)
theorem G6000 {f : ByteArray} {names a : AV} {n ti time : Int} {cs : List Clb} (h : IsL 11 (cs.map Clb.row) a) (hn : cs.length < 1048577) (hc : ∀ c ∈ cs, ClbOk c) :
  loopG (calO s60) B6000 KK [a, ia cs.length, ia 0, ia time, .str f, names, ia n, ia ti] = some (ckOut ((List.range' 0 cs.length).map (cdA f n ti time cs))) := by
 rw [← ckOut_map]
 refine loop0 (fun i => [a, ia cs.length, ia i, ia time, .str f, names, ia n, ia ti]) cs.length (fun i => if cdA f n ti time cs i = 0 then none else some (.tuple [ia 1, ia (cdA f n ti time cs i)])) (.tuple [ia 2]) (by omega) (fun i hi => ?_) ?_
 ·have hr : nth a.rowsL (Int.toNat (i : Int)) = some (cs[i].row) := h.row hi
  have hw := wS (i := i) (by omega)
  have hg : cs.getD i c0 = cs[i] := by simp [hi]
  have h1 := p120 (f := f) (names := names) (n := n) (ti := ti) (time := time) (hc cs[i] (List.getElem_mem hi))
  have h2 := p100 (f := f) (names := names) (n := n) (ti := ti) cs[i] (isL_sliceG h (calO s60) i) (by rw [List.length_take]; omega)
  have hi' : i ≤ cs.length := by omega
  simp only [Int.toNat_natCast, Clb.row] at hr h1 h2
  push_cast at hw
  simp only [cdA, twA, hg]
  rcases tf_or (cs[i].ph = w5) with e1 | e1 <;> rcases tf_or (ckClimb f n ti time cs[i] = 0) with e2 | e2 <;> cases e3 : (cs.take i).any (metB f cs[i].pl) <;> rw [e3] at h2 <;>
   simp [B6000, h.lenM, hr, hi, hi', hw, h1, h2, p103, p102_2, fz2, whenI, e1, e2]
 ·simp [B6000]
end Go.Proofs.YtdeaibcebeofiaaGreatDoor.C5

namespace Go.Proofs.YtdeaibcebeofiaaGreatDoor.C5
open Go Go.Proofs.YtdeaibcebeofiaaGreatDoor.AM
set_option maxRecDepth 20000
set_option maxHeartbeats 4000000
theorem disc {f : ByteArray} {ns : List ByteArray} {n ti : Int} (h : ckRound f ns n ti = 0) : f = w0 ∨ f = w1 ∨ f = w2 := by
 by_cases h0 : f = w0
 ·exact .inl h0
 by_cases h1 : f = w1
 ·exact .inr (.inl h1)
 by_cases h2 : f = w2
 ·exact .inr (.inr h2)
 ·simp [ckRound, mostI, h0, h1, h2] at h
def ckStA (f : ByteArray) (ns : List ByteArray) (n ti time : Int) (cs : List Clb) : Int :=
 if ckRound f ns n ti ≠ 0 then ckRound f ns n ti else if outB time 0 86399999 then 3 else if cs.length ≠ ns.length then 2 else firstNz ((List.range' 0 cs.length).map (cdA f n ti time cs))
def ckStB (f : ByteArray) (ns : List ByteArray) (n ti time : Int) (cs : List Clb) : Int :=
 if ckRound f ns n ti ≠ 0 then ckRound f ns n ti else if outB time 0 86399999 then 3 else if cs.length ≠ ns.length then 2 else firstNz ((List.range' 0 cs.length).map (cdB f n ti time cs))
theorem p60 {f : ByteArray} {ns : List ByteArray} {names a : AV} {n ti time : Int} {cs : List Clb} (hr : IsL 1 (ns.map strR) names) (hn : ns.length < 1048577) (hz : ∀ s ∈ ns, s.size < 2097152)
  (h : IsL 11 (cs.map Clb.row) a) (hl : cs.length < 1048577) (hc : ∀ c ∈ cs, ClbOk c) :
  F60 [.str f, names, ia n, ia ti, ia time, a] = some (ia (ckStA f ns n ti time cs)) := by
 have h1 := p58 (f := f) hr (by omega) hz n ti
 have hG := G6000 (f := f) (names := names) (n := n) (ti := ti) (time := time) h hl hc
 have h2 : names.lenN = ns.length := hr.lenM
 have h3 : a.lenN = cs.length := h.lenM
 unfold ckStA
 by_cases e1 : ckRound f ns n ti = 0
 ·cases e2 : outB time 0 86399999
  ·by_cases e3 : cs.length = ns.length
   ·rcases ckOut_cases ((List.range' 0 cs.length).map (cdA f n ti time cs)) with ⟨g1, g2⟩ | ⟨g1, g2⟩ <;> rw [g2] at hG <;>
     simp [F60, unitF_eq, t60, h1, h2, h3, p115, p103, p102_3, fz3, whenI, e1, e2, e3.symm, hG, g1]
   ·have e3' : ¬ (cs.length : Int) = ns.length := by omega
    simp [F60, unitF_eq, t60, h1, h2, h3, p115, p103, p102_3, fz3, whenI, e1, e2, e3, e3']
  ·simp [F60, unitF_eq, t60, h1, h2, h3, p115, p103, p102_3, fz3, whenI, e1, e2]
 ·simp [F60, unitF_eq, t60, h1, h2, h3, p115, p103, p102_3, fz3, whenI, e1]
theorem and_any {α : Type} (b : Bool) (p : α → Bool) (l : List α) : (l.any fun x => b && p x) = (b && l.any p) := by
 cases b <;> simp
theorem G4501 {Ω : Om} {f : ByteArray} {names a : AV} {n ti time : Int} {cs : List Clb} (h : IsL 11 (cs.map Clb.row) a) (hn : cs.length < 1048577) (j : Nat) (hj : j < cs.length) :
  loopG Ω B4501 KK (ia j :: ia 0 :: (cs[j].row ++ [ia time, a, .str f, names, ia n, ia ti])) = some (if twB cs j then .tuple [ia 1] else .tuple [ia 2, ia j, ia time, a, .str f, names, ia n, ia ti]) := by
 have hgj : cs.getD j c0 = cs[j] := by simp [hj]
 have h0 := loopL (Ω := Ω) (B := B4501) (fun i => ia j :: ia i :: (cs[j].row ++ [ia time, a, .str f, names, ia n, ia ti])) (cs.take j) (fun x => if (decide (cs[j].ph = w5) && samB cs[j].pl x) then some (.tuple [ia 1]) else none) (.tuple [ia 2, ia j, ia time, a, .str f, names, ia n, ia ti]) (by rw [List.length_take]; omega) (fun i hi => by
  rw [List.length_take] at hi
  have hi1 : i < j := by omega
  have hi2 : i < cs.length := by omega
  have hr : nth a.rowsL (Int.toNat (i : Int)) = some cs[i].row := h.row hi2
  have hw := wS (i := i) (by omega)
  have hg : (cs.take j)[i]'(by rw [List.length_take]; exact hi) = cs[i] := by simp
  rw [hg]
  simp only [Int.toNat_natCast, Clb.row] at hr
  push_cast at hw
  simp only [samB]
  rcases tf_or (cs[j].ph = w5) with e1 | e1 <;> rcases tf_or (cs[i].ph = w5) with e2 | e2 <;> rcases tf_or (cs[j].pl = cs[i].pl) with e3 | e3 <;>
   simp [B4501, Clb.row, h.lenM, hr, hi1, hi2, hw, e1, e2, e3]) (by
  have : (cs.take j).length = j := by rw [List.length_take]; omega
  simp [B4501, Clb.row, this])
 refine Eq.trans h0 ?_
 rw [any_find, and_any]
 unfold twB
 rw [hgj]
 split <;> rfl
theorem G4500 {f : ByteArray} {names a : AV} {n ti time : Int} {cs : List Clb} (h : IsL 11 (cs.map Clb.row) a) (hn : cs.length < 1048577) (hc : ∀ c ∈ cs, ClbOk c) (hf : f = w0 ∨ f = w1 ∨ f = w2) :
  loopG (omL KK s45 [d4501]) B4500 KK [ia 0, ia time, a, .str f, names, ia n, ia ti] = some (ckOut ((List.range' 0 cs.length).map (cdB f n ti time cs))) := by
 rw [← ckOut_map]
 refine loop0 (fun i => [ia i, ia time, a, .str f, names, ia n, ia ti]) cs.length (fun i => if cdB f n ti time cs i = 0 then none else some (.tuple [ia 1, ia (cdB f n ti time cs i)])) (.tuple [ia 2]) (by omega) (fun i hi => ?_) ?_
 ·have hr : nth a.rowsL (Int.toNat (i : Int)) = some (cs[i].row) := h.row hi
  have hw := wS (i := i) (by omega)
  have hg : cs.getD i c0 = cs[i] := by simp [hi]
  have h1 := p99 (f := f) (names := names) (n := n) (ti := ti) (time := time) (hc cs[i] (List.getElem_mem hi)) hf
  have hG := G4501 (Ω := calO s45) (f := f) (names := names) (n := n) (ti := ti) (time := time) h hn i hi
  simp only [Int.toNat_natCast, Clb.row, List.cons_append, List.nil_append] at hr h1 hG
  push_cast at hw
  simp only [cdB, hg]
  rcases tf_or (ckClimb f n ti time cs[i] = 0) with e2 | e2 <;> cases e3 : twB cs i <;> rw [e3] at hG <;>
   simp [B4500, h.lenM, hr, hi, hw, h1, hG, whenI, e2]
 ·simp [B4500, h.lenM]
theorem p45 {f : ByteArray} {ns : List ByteArray} {names a : AV} {n ti time : Int} {cs : List Clb} (hr : IsL 1 (ns.map strR) names) (hn : ns.length < 1048577) (hz : ∀ s ∈ ns, s.size < 2097152)
  (h : IsL 11 (cs.map Clb.row) a) (hl : cs.length < 1048577) (hc : ∀ c ∈ cs, ClbOk c) :
  F45 [.str f, names, ia n, ia ti, ia time, a] = some (ia (ckStB f ns n ti time cs)) := by
 have h1 := p59 (f := f) hr (by omega) hz n ti
 have h2 : names.lenN = ns.length := hr.lenM
 have h3 : a.lenN = cs.length := h.lenM
 unfold ckStB
 by_cases e1 : ckRound f ns n ti = 0
 ·have hG := G4500 (f := f) (names := names) (n := n) (ti := ti) (time := time) h hl hc (disc e1)
  cases e2 : outB time 0 86399999
  ·by_cases e3 : cs.length = ns.length
   ·rcases ckOut_cases ((List.range' 0 cs.length).map (cdB f n ti time cs)) with ⟨g1, g2⟩ | ⟨g1, g2⟩ <;> rw [g2] at hG <;>
     simp [F45, unitF_eq, t45, h1, h2, h3, p90, e1, e2, e3.symm, hG, g1]
   ·have e3' : ¬ (cs.length : Int) = ns.length := by omega
    simp [F45, unitF_eq, t45, h1, h2, h3, p90, e1, e2, e3, e3']
  ·simp [F45, unitF_eq, t45, h1, h2, h3, p90, e1, e2]
 ·simp [F45, unitF_eq, t45, h1, h2, h3, p90, e1]
theorem climb0 {f : ByteArray} {n ti time : Int} {c : Clb} (h : ckClimb f n ti time c = 0) : ckForm f n ti time c = 0 := by
 unfold ckClimb at h
 split at h
 ·assumption
 ·exact h
theorem tw_eq {f : ByteArray} {n ti time : Int} {cs : List Clb} {i : Nat} (hi : i < cs.length) (h : ∀ k, k ≤ i → ckClimb f n ti time (cs.getD k c0) = 0) : twA f cs i = twB cs i := by
 have hpl : f = w0 → ∀ k, k ≤ i → (cs.getD k c0).pl = 0 := by
  intro hf k hk
  obtain ⟨_, _, g1, _⟩ := form0 (climb0 (h k hk))
  have e1 : placesI f n = 0 := by rw [hf]; simp [placesI, n01, n02]
  simp only [farB, outB, e1, Bool.or_eq_false_iff, decide_eq_false_iff_not] at g1
  omega
 unfold twA twB
 congr 1
 have : ∀ x ∈ cs.take i, metB f (cs.getD i c0).pl x = samB (cs.getD i c0).pl x := by
  intro x hx
  unfold metB samB
  by_cases hf : f = w0
  ·obtain ⟨k, hk, rfl⟩ := List.getElem_of_mem hx
   rw [List.length_take] at hk
   have e1 := hpl hf k (by omega)
   have e2 := hpl hf i (Nat.le_refl i)
   have hg : cs.getD k c0 = (cs.take i)[k] := by
    have : k < cs.length := by omega
    simp [this]
   rw [hg] at e1
   rw [e2, e1]
   simp [hf]
  ·have : decide (x.pl = (cs.getD i c0).pl) = decide ((cs.getD i c0).pl = x.pl) := by
    by_cases h : x.pl = (cs.getD i c0).pl
    ·simp [h]
    ·rw [decide_eq_false h, decide_eq_false (fun g => h g.symm)]
   rw [this, decide_eq_false hf, Bool.false_or]
 generalize cs.take i = l at this
 induction l with
 | nil => rfl
 | cons x l ih =>
   rw [List.any_cons, List.any_cons, this x (.head _), ih (fun y hy => this y (.tail _ hy))]
theorem cd_eq {f : ByteArray} {n ti time : Int} {cs : List Clb} : ∀ (j i : Nat), i + j = cs.length → (∀ k, k < i → ckClimb f n ti time (cs.getD k c0) = 0) →
  firstNz ((List.range' i j).map (cdA f n ti time cs)) = firstNz ((List.range' i j).map (cdB f n ti time cs))
 | 0, _, _, _ => rfl
 | j + 1, i, hi, h => by
   rw [List.range'_succ, List.map_cons, List.map_cons, fz_cons, fz_cons]
   by_cases hc : ckClimb f n ti time (cs.getD i c0) = 0
   ·have h' : ∀ k, k < i + 1 → ckClimb f n ti time (cs.getD k c0) = 0 := by
     intro k hk
     by_cases hk' : k = i
     ·rw [hk']; exact hc
     ·exact h k (by omega)
    have e : cdA f n ti time cs i = cdB f n ti time cs i := by
     unfold cdA cdB
     rw [tw_eq (by omega) (fun k hk => h' k (by omega))]
    rw [e, cd_eq j (i + 1) (by omega) h']
   ·have e1 : cdA f n ti time cs i = ckClimb f n ti time (cs.getD i c0) := if_neg hc
    have e2 : cdB f n ti time cs i = ckClimb f n ti time (cs.getD i c0) := if_neg hc
    rw [e1, e2, if_neg hc, if_neg hc]
theorem st_eq (f : ByteArray) (ns : List ByteArray) (n ti time : Int) (cs : List Clb) : ckStA f ns n ti time cs = ckStB f ns n ti time cs := by
 unfold ckStA ckStB
 rw [cd_eq cs.length 0 (by omega) (fun k hk => by omega)]
end Go.Proofs.YtdeaibcebeofiaaGreatDoor.C5

namespace Go.Proofs.YtdeaibcebeofiaaGreatDoor.C5
open Go Go.Proofs.YtdeaibcebeofiaaGreatDoor.AM
set_option maxRecDepth 20000
set_option maxHeartbeats 4000000
def Clb.own (c : Clb) : Clb := { c with tr := mkL 4 (c.ts.map triR) }
theorem own_ok {c : Clb} (h : ClbOk c) : ClbOk c.own := ⟨mkL_isL 4 _, h.r, h.tl, h.rl⟩
theorem G4100 {Ω : Om} {a v1 v2 v3 v4 v5 v6 v7 v8 v9 v11 : AV} {ts : List Tri} (h : IsL 4 (ts.map triR) a) (hn : ts.length < 1048577) :
  loopG Ω B4100 KK [ia 0, v1, v2, v3, v4, v5, v6, v7, v8, v9, .nils, v11, a] = some (.tuple [ia 1, v1, v2, v3, v4, v5, v6, v7, v8, v9, mkL 4 (ts.map triR), v11]) := by
 refine loopF (fun i => [ia i, v1, v2, v3, v4, v5, v6, v7, v8, v9, mkL 4 ((ts.take i).map triR), v11, a]) ts.length _ (by omega) (fun i hi => ?_) ?_
 ·have hr : nth a.rowsL (Int.toNat (i : Int)) = some (triR ts[i]) := h.row hi
  have hw := wS (i := i) (by omega)
  have ht : mkL 4 ((ts.take (i + 1)).map triR) = .sl 4 ((ts.take i).map triR ++ [triR ts[i]]) := by
   rw [← mkL_snoc, take_snoc hi, List.map_append]; rfl
  have hb : ((min i ts.length : Nat) : Int) + 1 ≤ 1073741824 := by omega
  simp only [triR, Int.toNat_natCast] at hr
  rw [ht]
  push_cast at hw ⊢
  simp [B4100, h.lenM, hr, hi, hw, hb, triR]
 ·simp [B4100, h.lenM]
theorem p41 {c : Clb} (hc : ClbOk c) : F41 c.row = some (.agg c.own.row) := by
 have hG := @G4100 (calO s41) c.tr (.str c.ph) (.str c.st) (ia c.pl) (ia c.be) (ia c.us) (ia c.ho) (.bool c.pb) (.bool c.tb) (.bool c.ob) c.ru c.ts hc.t hc.tl
 simp only [Clb.row, Clb.own]
 simp [F41, unitF_eq, t41, hG]
theorem G4300 {a : AV} {time : AV} {cs : List Clb} (h : IsL 11 (cs.map Clb.row) a) (hn : cs.length < 1048577) (hc : ∀ c ∈ cs, ClbOk c) :
  loopG (calO s43) B4300 KK [ia 0, time, .nils, a] = some (.tuple [ia 1, time, mkL 11 ((cs.map Clb.own).map Clb.row)]) := by
 refine loopF (fun i => [ia i, time, mkL 11 (((cs.take i).map Clb.own).map Clb.row), a]) cs.length _ (by omega) (fun i hi => ?_) ?_
 ·have hr : nth a.rowsL (Int.toNat (i : Int)) = some (cs[i].row) := h.row hi
  have hw := wS (i := i) (by omega)
  have hp := p41 (hc cs[i] (List.getElem_mem hi))
  have ht : mkL 11 (((cs.take (i + 1)).map Clb.own).map Clb.row) = .sl 11 (((cs.take i).map Clb.own).map Clb.row ++ [cs[i].own.row]) := by
   rw [← mkL_snoc, take_snoc hi, List.map_append, List.map_append]; rfl
  have hb : ((min i cs.length : Nat) : Int) + 1 ≤ 1073741824 := by omega
  simp only [Clb.row, Int.toNat_natCast] at hr hp
  have hok : (Sh.sl [.int .i64, .int .i64, .int .i64, .bool]).ok cs[i].own.tr = true := (own_ok (hc cs[i] (List.getElem_mem hi))).t.ok rfl (by simp [triR])
  have hok2 : (Sh.sl [.int .i64]).ok cs[i].own.ru = true := (own_ok (hc cs[i] (List.getElem_mem hi))).r.ok rfl (by simp [intR])
  rw [ht]
  push_cast at hw ⊢
  simp [B4300, h.lenM, hr, hi, hw, hb, hp, Clb.row, hok, hok2]
 ·simp [B4300, h.lenM]
theorem p43 {a : AV} {time : Int} {cs : List Clb} (h : IsL 11 (cs.map Clb.row) a) (hn : cs.length < 1048577) (hc : ∀ c ∈ cs, ClbOk c) :
  F43 [ia time, a] = some (.agg [ia time, mkL 11 ((cs.map Clb.own).map Clb.row)]) := by
 have hG := G4300 (time := ia time) h hn hc
 simp only [List.map_map] at hG ⊢
 simp [F43, unitF_eq, t43, hG]
theorem cd_own (f : ByteArray) (n ti time : Int) (cs : List Clb) (i : Nat) : cdB f n ti time (cs.map Clb.own) i = cdB f n ti time cs i := by
 have e : (cs.map Clb.own).getD i c0 = (cs.getD i c0).own := by
  by_cases hi : i < cs.length
  ·simp [hi]
  ·have : cs.length ≤ i := by omega
   simp only [List.getD_eq_getElem?_getD, List.getElem?_map, List.getElem?_eq_none this]
   rfl
 have e2 : twB (cs.map Clb.own) i = twB cs i := by
  unfold twB
  rw [e, ← List.map_take, List.any_map]
  rfl
 unfold cdB
 rw [e, e2]
 rfl
theorem st_own (f : ByteArray) (ns : List ByteArray) (n ti time : Int) (cs : List Clb) : ckStB f ns n ti time (cs.map Clb.own) = ckStB f ns n ti time cs := by
 unfold ckStB
 rw [List.length_map, List.map_congr_left (fun i _ => cd_own f n ti time cs i)]
theorem own_all {cs : List Clb} (h : ∀ c ∈ cs, ClbOk c) : ∀ c ∈ cs.map Clb.own, ClbOk c := by
 intro c hc
 obtain ⟨x, hx, rfl⟩ := List.mem_map.1 hc
 exact own_ok (h x hx)
theorem G4400 {Ω : Om} {a : AV} {time : AV} {cs : List Clb} (h : IsL 11 (cs.map Clb.row) a) (hn : cs.length < 1048577) :
  ∃ b : Bool, loopG Ω B4400 KK [ia 0, time, a] = some (if b then .tuple [ia 1] else .tuple [ia 2]) := by
 have := loopL (Ω := Ω) (B := B4400) (fun i => [ia i, time, a]) cs (fun c => if (decide (20 < c.ph.size) || (decide (20 < c.st.size) || (decide (12 < c.tr.lenN) || decide (12 < c.ru.lenN)))) then some (AV.tuple [ia 1]) else none) (.tuple [ia 2]) (by omega) (fun i hi => by
  have hr : nth a.rowsL (Int.toNat (i : Int)) = some (cs[i].row) := h.row hi
  have hw := wS (i := i) (by omega)
  simp only [Clb.row, Int.toNat_natCast] at hr
  push_cast at hw
  have z : ∀ k : Nat, decide ((20 : Int) < k) = decide (20 < k) := fun k => by
   by_cases h : 20 < k
   ·rw [decide_eq_true h, decide_eq_true (by omega)]
   ·rw [decide_eq_false h, decide_eq_false (by omega)]
  have z' : ∀ k : Nat, decide ((12 : Int) < k) = decide (12 < k) := fun k => by
   by_cases h : 12 < k
   ·rw [decide_eq_true h, decide_eq_true (by omega)]
   ·rw [decide_eq_false h, decide_eq_false (by omega)]
  rcases tf_or (20 < cs[i].ph.size) with e1 | e1 <;> rcases tf_or (20 < cs[i].st.size) with e2 | e2 <;> rcases tf_or (12 < cs[i].tr.lenN) with e3 | e3 <;> rcases tf_or (12 < cs[i].ru.lenN) with e4 | e4 <;>
   simp [-s_ite, s_ite', bB_cond, bool_cond, B4400, h.lenM, hr, hi, hw, z, z', e1, e2, e3, e4]) (by simp [B4400, h.lenM])
 rw [any_find] at this
 refine ⟨cs.any fun c => decide (20 < c.ph.size) || (decide (20 < c.st.size) || (decide (12 < c.tr.lenN) || decide (12 < c.ru.lenN))), this.trans ?_⟩
 split <;> rfl
theorem p44 {a : AV} {time : Int} {cs : List Clb} (h : IsL 11 (cs.map Clb.row) a) (hn : cs.length < 1048577) :
  ∃ b, F44 [ia time, a] = some (.bool b) := by
 obtain ⟨b, hG⟩ := G4400 (Ω := calO s44) (time := ia time) h hn
 by_cases h1 : (14 : Int) < cs.length <;> cases b <;> simp at hG <;> simp [F44, unitF_eq, t44, h.lenM, h1, hG]
end Go.Proofs.YtdeaibcebeofiaaGreatDoor.C5

namespace Go.Proofs.YtdeaibcebeofiaaGreatDoor.C5
open Go Go.Proofs.YtdeaibcebeofiaaGreatDoor.AM
set_option maxRecDepth 20000
set_option maxHeartbeats 4000000
section
variable (Ω : Om)
theorem s_catOk {a b : ByteArray} (h : a.size + b.size ≤ 1000000) : Pr.sem Ω .catOk [.str a, .str b] = .bool true := by
 show AV.bool (decide (a.size + b.size ≤ 1099511627776)) = _
 rw [decide_eq_true (by omega)]
theorem s_cat {a b : ByteArray} (h : a.size + b.size ≤ 1000000) : Pr.sem Ω (.sbin .add) [.str a, .str b] = .str (a ++ b) := by
 show getJ (if a.size + b.size ≤ 1099511627776 then some (AV.str (a ++ b)) else none) = _
 rw [if_pos (by omega)]; rfl
theorem s_quo {n k : Int} (h0 : 0 ≤ n) (h1 : n ≤ 86399999) (hk : 0 < k) : Pr.sem Ω (.bin .quo .i64) [ia n, ia k] = ia (n / k) := by
 show getJ (if k = 0 then none else some (AV.int .i64 (IntKind.i64.wrap (n.tdiv k)))) = _
 have h2 : n / k ≤ n := Int.ediv_le_self _ h0
 have h3 : 0 ≤ n / k := Int.ediv_nonneg h0 (by omega)
 rw [if_neg (by omega), Int.tdiv_eq_ediv_of_nonneg h0, i64w (by omega) (by omega)]; rfl
theorem s_rem {n k : Int} (h0 : 0 ≤ n) (hk : 0 < k) : Pr.sem Ω (.bin .rem .i64) [ia n, ia k] = ia (n % k) := by
 show getJ (if k = 0 then none else some (AV.int .i64 (n.tmod k))) = _
 rw [if_neg (by omega), Int.tmod_eq_emod_of_nonneg h0]; rfl
theorem s_neg (n : Int) : Pr.sem Ω (.neg .i64) [ia n] = ia (IntKind.i64.wrap (0 - n)) := rfl
theorem s_mul (a b : Int) : Pr.sem Ω (.bin .mul .i64) [ia a, ia b] = ia (IntKind.i64.wrap (a * b)) := rfl
end
def gD : Nat → Nat → List UInt8
 | 0, _ => []
 | k + 1, n => gD k (n / 10) ++ [UInt8.ofNat (48 + n % 10)]
theorem gD_len : ∀ (k n : Nat), (gD k n).length = k
 | 0, _ => rfl
 | k + 1, n => by simp [gD, gD_len k]
theorem gD_zero : ∀ (k : Nat), gD k 0 = List.replicate k 48
 | 0 => rfl
 | k + 1 => by rw [gD, Nat.zero_div, gD_zero k, List.replicate_succ']; rfl
theorem gD_dec (n : Nat) : gD (Lib.nDigits n) n = Lib.decDigits n := by
 induction n using Nat.strongRecOn with
 | _ n ih =>
   by_cases h : n < 10
   ·rw [Lib.nDigits_small h, Lib.decDigits, dif_pos h]
    simp [gD, Nat.mod_eq_of_lt h]
   ·rw [Lib.nDigits_big h, Lib.decDigits, dif_neg h, gD, ih (n / 10) (by omega)]
theorem gD_pad (j n : Nat) : gD (j + Lib.nDigits n) n = List.replicate j 48 ++ Lib.decDigits n := by
 rw [← gD_dec]
 have : ∀ (j k n : Nat), n < 10 ^ k → gD (j + k) n = List.replicate j 48 ++ gD k n := by
  intro j k
  induction k with
  | zero => intro n h; simp only [Nat.pow_zero, Nat.lt_one_iff] at h; subst h; simp [gD_zero, gD]
  | succ k ih =>
    intro n h
    rw [Nat.pow_succ] at h
    rw [← Nat.add_assoc, gD, ih (n / 10) (by omega), gD, List.append_assoc]
 exact this j _ n (Lib.lt_pow_nDigits n)
theorem nd_le' : ∀ (k n : Nat), n < 10 ^ (k + 1) → Lib.nDigits n ≤ k + 1
 | 0, n, h => by rw [Lib.nDigits_small (by simpa using h)]; omega
 | k + 1, n, h => by
   by_cases h1 : n < 10
   ·rw [Lib.nDigits_small h1]; omega
   ·rw [Nat.pow_succ] at h
    have := nd_le' k (n / 10) (by omega)
    rw [Lib.nDigits_big h1]; omega
theorem nd_le {n : Nat} (h : n ≤ 86399999) : Lib.nDigits n ≤ 20 := Nat.le_trans (nd_le' 7 n (by omega)) (by omega)
def padB (n : Int) (d : Nat) : ByteArray := ⟨(gD (max d (Lib.nDigits n.toNat)) n.toNat).toArray⟩
theorem padB_sz {n : Int} {d : Nat} (h : n ≤ 86399999) (hd : d ≤ 3) : (padB n d).size ≤ 20 := by
 have := nd_le (n := n.toNat) (by omega)
 show (gD _ _).toArray.size ≤ 20
 rw [List.size_toArray, gD_len]; omega
theorem rep_48 (k : Nat) : Lib.repeatL [48] k = List.replicate k 48 := by
 have := Lib.repeatL_replicate 48 1 k
 simpa using this
theorem ba_app (l l' : List UInt8) : (⟨l.toArray⟩ : ByteArray) ++ ⟨l'.toArray⟩ = ⟨(l ++ l').toArray⟩ := by
 rw [ByteArray.ext_iff]
 simp
theorem p166 {n : Int} {d : Nat} (h0 : 0 ≤ n) (hn : n ≤ 86399999) (h2 : d ≤ 3) : F166 [ia n, ia d] = some (.str (padB n d)) := by
 obtain ⟨m, rfl⟩ := Int.eq_ofNat_of_zero_le h0
 have hk := nd_le (n := m) (by omega)
 have a1 : F213 [ia m] = some (.str ⟨(Lib.decDigits m).toArray⟩) := by
  show baseItoa [ia m] = _
  rw [baseItoa, if_pos (by omega), Lib.itoa_nonneg]
 have a2 : (⟨(Lib.decDigits m).toArray⟩ : ByteArray).size = Lib.nDigits m := by
  show (Lib.decDigits m).toArray.size = _
  rw [List.size_toArray, Lib.decDigits_length]
 have a3 : ∀ j : Nat, j ≤ 3 → F214 [.str w10, ia j] = some (.str ⟨(List.replicate j 48).toArray⟩) := by
  intro j hj
  show baseRepeat [.str w10, ia j] = _
  have : w10.size = 1 := rfl
  rw [baseRepeat, if_pos (by rw [this]; omega)]
  rw [show w10.data.toList = [48] from rfl, Int.toNat_natCast, rep_48]
 have a4 : ∀ j : Nat, (⟨(List.replicate j 48).toArray⟩ : ByteArray).size = j := by
  intro j
  show (List.replicate j (48 : UInt8)).toArray.size = _
  simp
 have e : padB m d = ⟨(List.replicate (d - Lib.nDigits m) 48).toArray⟩ ++ ⟨(Lib.decDigits m).toArray⟩ := by
  rw [ba_app, ← gD_pad, padB, Int.toNat_natCast]
  congr 3
  omega
 have a5 := a3 (d - Lib.nDigits m) (by omega)
 have a6 := a4 (d - Lib.nDigits m)
 rw [e]
 have hw : IntKind.i64.wrap ((d : Int) - (Lib.nDigits m : Nat)) = (d : Int) - (Lib.nDigits m : Nat) := i64w (by omega) (by omega)
 generalize (⟨(Lib.decDigits m).toArray⟩ : ByteArray) = D at *
 generalize (⟨(List.replicate (d - Lib.nDigits m) 48).toArray⟩ : ByteArray) = R at *
 have r5 : ∀ Ω, Pr.sem Ω .catOk [.str R, .str D] = .bool true := fun Ω => s_catOk Ω (by omega)
 have r6 : ∀ Ω, Pr.sem Ω (.sbin .add) [.str R, .str D] = .str (R ++ D) := fun Ω => s_cat Ω (by omega)
 by_cases hc : Lib.nDigits m < d
 ·rw [show ((d - Lib.nDigits m : Nat) : Int) = (d : Int) - (Lib.nDigits m : Nat) by omega] at a5
  simp [F166, unitF_eq, t166, a1, a2, hw, hc, a5, r5, r6]
 ·rw [show ((d - Lib.nDigits m : Nat) : Int) = 0 by omega] at a5
  simp [F166, unitF_eq, t166, a1, a2, hw, hc, a5, r5, r6]
end Go.Proofs.YtdeaibcebeofiaaGreatDoor.C5

namespace Go.Proofs.YtdeaibcebeofiaaGreatDoor.C5
open Go Go.Proofs.YtdeaibcebeofiaaGreatDoor.AM
set_option maxRecDepth 20000
set_option maxHeartbeats 4000000
def clockB (n : Int) : ByteArray :=
 if n / 1000 < 60 then padB (n / 1000) 1 ++ (w17 ++ padB (n % 1000) 3)
 else if n / 1000 / 60 < 60 then padB (n / 1000 / 60) 1 ++ (w18 ++ (padB (n / 1000 % 60) 2 ++ (w17 ++ padB (n % 1000) 3)))
 else padB (n / 1000 / 60 / 60) 1 ++ (w18 ++ (padB (n / 1000 / 60 % 60) 2 ++ (w18 ++ (padB (n / 1000 % 60) 2 ++ (w17 ++ padB (n % 1000) 3)))))
theorem sz17 : w17.size = 1 := rfl
theorem sz18 : w18.size = 1 := rfl
theorem parts {n : Int} (h0 : 0 ≤ n) (h1 : n ≤ 86399999) : 0 ≤ n / 1000 ∧ n / 1000 ≤ 86399 ∧ 0 ≤ n % 1000 ∧ n % 1000 ≤ 999 ∧ 0 ≤ n / 1000 / 60 ∧ n / 1000 / 60 ≤ 1439 ∧ 0 ≤ n / 1000 % 60 ∧ n / 1000 % 60 ≤ 59 ∧ 0 ≤ n / 1000 / 60 / 60 ∧ n / 1000 / 60 / 60 ≤ 23 ∧ 0 ≤ n / 1000 / 60 % 60 ∧ n / 1000 / 60 % 60 ≤ 59 ∧ n / 1000 / 3600 = n / 1000 / 60 / 60 ∧ (n / 1000 < 3600 ↔ n / 1000 / 60 < 60) := by
 omega
theorem p98 {n : Int} (h0 : 0 ≤ n) (h1 : n ≤ 86399999) : F98 [ia n] = some (.tuple [.str (clockB n), ia 0]) := by
 have q1 : ∀ Ω, Pr.sem Ω (.bin .quo .i64) [ia n, ia 1000] = ia (n / 1000) := fun Ω => s_quo Ω h0 h1 (by omega)
 have q2 : ∀ Ω, Pr.sem Ω (.bin .rem .i64) [ia n, ia 1000] = ia (n % 1000) := fun Ω => s_rem Ω h0 (by omega)
 have n0 : ¬ n < 0 := by omega
 have n1 : ¬ (86399999 : Int) < n := by omega
 obtain ⟨a0, a1, m0, m1, b0, b1, r0, r1, p0, p1, s0, s1, _⟩ := parts h0 h1
 unfold clockB
 generalize n / 1000 = a at *
 generalize n % 1000 = m at *
 have q3 : ∀ Ω, Pr.sem Ω (.bin .quo .i64) [ia a, ia 60] = ia (a / 60) := fun Ω => s_quo Ω a0 (by omega) (by omega)
 have q4 : ∀ Ω, Pr.sem Ω (.bin .rem .i64) [ia a, ia 60] = ia (a % 60) := fun Ω => s_rem Ω a0 (by omega)
 have c1 : F166 [ia m, ia 3] = _ := p166 (d := 3) m0 (by omega) (by omega)
 have c2 : F166 [ia a, ia 1] = _ := p166 (d := 1) a0 (by omega) (by omega)
 have y1 := padB_sz (n := m) (d := 3) (by omega) (by omega)
 have y2 := padB_sz (n := a) (d := 1) (by omega) (by omega)
 generalize a / 60 = q at *
 generalize a % 60 = r at *
 have q5 : ∀ Ω, Pr.sem Ω (.bin .quo .i64) [ia q, ia 60] = ia (q / 60) := fun Ω => s_quo Ω b0 (by omega) (by omega)
 have q6 : ∀ Ω, Pr.sem Ω (.bin .rem .i64) [ia q, ia 60] = ia (q % 60) := fun Ω => s_rem Ω b0 (by omega)
 have c3 : F166 [ia q, ia 1] = _ := p166 (d := 1) b0 (by omega) (by omega)
 have c4 : F166 [ia r, ia 2] = _ := p166 (d := 2) r0 (by omega) (by omega)
 have y3 := padB_sz (n := q) (d := 1) (by omega) (by omega)
 have y4 := padB_sz (n := r) (d := 2) (by omega) (by omega)
 generalize q / 60 = p at *
 generalize q % 60 = s at *
 have c5 : F166 [ia p, ia 1] = _ := p166 (d := 1) p0 (by omega) (by omega)
 have c6 : F166 [ia s, ia 2] = _ := p166 (d := 2) s0 (by omega) (by omega)
 have y5 := padB_sz (n := p) (d := 1) (by omega) (by omega)
 have y6 := padB_sz (n := s) (d := 2) (by omega) (by omega)
 have k1 := sz17
 have k2 := sz18
 generalize padB m 3 = M at *
 generalize padB a 1 = A at *
 generalize padB q 1 = Q at *
 generalize padB r 2 = R at *
 generalize padB p 1 = P at *
 generalize padB s 2 = S at *
 by_cases hc : a < 60 <;> by_cases hc3 : q < 60 <;>
  simp (disch := (try simp only [ByteArray.size_append]) <;> omega) [F98, unitF_eq, t98, q1, q2, q3, q4, q5, q6, c1, c2, c3, c4, c5, c6, n0, n1, hc, hc3, s_catOk, s_cat, ByteArray.append_assoc]
abbrev Tk := ByteArray × Int × Bool × Int × Int
def tkR (t : Tk) : List AV := [.str t.1, ia t.2.1, .bool t.2.2.1, ia t.2.2.2.1, ia t.2.2.2.2]
def attB (l : ByteArray) (n : Int) : ByteArray := if n = 0 then w11 else l ++ padB n 1
theorem p209 {l : ByteArray} {n : Int} (hl : l.size = 1) (h0 : 0 ≤ n) (h1 : n ≤ 99) : F209 [.str l, ia n] = some (.str (attB l n)) := by
 have c1 : F166 [ia n, ia 1] = _ := p166 (d := 1) h0 (by omega) (by omega)
 have y1 := padB_sz (n := n) (d := 1) (by omega) (by omega)
 unfold attB
 by_cases hc : n = 0
 ·simp [F209, unitF_eq, t209, hc]
 ·simp (disch := omega) [F209, unitF_eq, t209, hc, c1, s_catOk, s_cat]
theorem att_sz {l : ByteArray} {n : Int} (hl : l.size = 1) (h1 : n ≤ 99) : (attB l n).size ≤ 30 := by
 have y1 := padB_sz (n := n) (d := 1) (by omega) (by omega)
 unfold attB
 split
 ·decide
 ·rw [ByteArray.size_append]; omega
def TkOk (t : Tk) : Prop := (t.1 = w0 ∧ 0 ≤ t.2.1 ∧ t.2.1 ≤ 64 ∧ (t.2.2.2.1 = 0 ∨ (t.2.2.2.1 = 1 ∧ t.2.1 = 0 ∧ t.2.2.1 = false)) ∧ t.2.2.2.2 = 0) ∨
 (t.1 = w1 ∧ t.2.1 = 0 ∧ t.2.2.1 = false ∧ 0 ≤ t.2.2.2.1 ∧ t.2.2.2.1 ≤ 99 ∧ 0 ≤ t.2.2.2.2 ∧ t.2.2.2.2 ≤ 99 ∧ (t.2.2.2.1 > 0 → t.2.2.2.2 ≠ 0 ∧ t.2.2.2.2 ≤ t.2.2.2.1))
def leadB (t : Tk) : ByteArray := if t.2.2.2.1 = 1 then w13 else if t.2.2.1 then padB t.2.1 1 ++ w12 else padB t.2.1 1
def boulB (t : Tk) : ByteArray := attB w14 t.2.2.2.1 ++ (w15 ++ attB w16 t.2.2.2.2)
def tkB (t : Tk) : ByteArray := if t.1 = w1 then boulB t else leadB t
theorem tkB_sz {t : Tk} (h : TkOk t) : (tkB t).size ≤ 100 := by
 obtain ⟨d, ho, pl, top, zo⟩ := t
 rcases h with ⟨rfl, g1, g2, g3, g4⟩ | ⟨rfl, g1, g2, g3, g4, g5, g6, g7⟩ <;> simp only at *
 ·have y1 := padB_sz (n := ho) (d := 1) (by omega) (by omega)
  rw [tkB, if_neg n01, leadB]
  have k1 : w12.size = 1 := rfl
  have k2 : w13.size = 3 := rfl
  by_cases hc : top = 1 <;> cases pl <;> simp [hc] <;> omega
 ·rw [tkB, if_pos rfl, boulB]
  have y1 := att_sz (l := w14) (n := top) rfl g4
  have y2 := att_sz (l := w16) (n := zo) rfl g6
  have k1 : w15.size = 1 := rfl
  simp only [ByteArray.size_append]
  omega
theorem p206 {t : Tk} (h : TkOk t) (e : t.1 = w0) : F206 (tkR t) = some (.str (leadB t)) := by
 obtain ⟨d, ho, pl, top, zo⟩ := t
 rcases h with ⟨_, g1, g2, g3, g4⟩ | ⟨e1, _⟩ <;> simp only at *
 ·have c1 : F166 [ia ho, ia 1] = _ := p166 (d := 1) g1 (by omega) (by omega)
  have y1 := padB_sz (n := ho) (d := 1) (by omega) (by omega)
  have k1 : w12.size = 1 := rfl
  by_cases hc : top = 1 <;> cases pl <;> simp (disch := omega) [tkR, leadB, F206, unitF_eq, t206, c1, hc, s_catOk, s_cat]
 ·rw [e] at e1; exact absurd e1 n01
theorem p208 {t : Tk} (h : TkOk t) (e : t.1 = w1) : F208 (tkR t) = some (.str (boulB t)) := by
 obtain ⟨d, ho, pl, top, zo⟩ := t
 rcases h with ⟨e1, _⟩ | ⟨_, g1, g2, g3, g4, g5, g6, g7⟩ <;> simp only at *
 ·rw [e] at e1; exact absurd e1 n10
 ·have c1 := p209 (l := w14) rfl g3 g4
  have c2 := p209 (l := w16) rfl g5 g6
  have y1 := att_sz (l := w14) (n := top) rfl g4
  have y2 := att_sz (l := w16) (n := zo) rfl g6
  have k1 : w15.size = 1 := rfl
  simp (disch := (try simp only [ByteArray.size_append]) <;> omega) [tkR, boulB, F208, unitF_eq, t208, c1, c2, s_catOk, s_cat, ByteArray.append_assoc]
end Go.Proofs.YtdeaibcebeofiaaGreatDoor.C5

namespace Go.Proofs.YtdeaibcebeofiaaGreatDoor.C5
open Go Go.Proofs.YtdeaibcebeofiaaGreatDoor.AM
set_option maxRecDepth 20000
set_option maxHeartbeats 4000000
theorem p205 (a m : Int) : F205 [ia a, ia m] = some (.bool (outB a 0 m)) := by
 by_cases h : a < 0 <;> simp [F205, unitF_eq, t205, outB, h]
theorem p162 (b : Bool) (n : Int) : F162 [.bool b, ia n] = some (ia (whenI b n)) := by
 cases b <;> simp [F162, unitF_eq, t162, whenI]
theorem G16100 {Ω : Om} : loopG Ω B16100 KK [.sl 1 [[ia 0], [ia 0]], ia 2, ia 0] = some (.tuple [ia 2]) := by
 refine loopF (fun i => [.sl 1 [[ia 0], [ia 0]], ia 2, ia i]) 2 _ (by omega) (fun i hi => ?_) ?_
 ·have hw := wS (i := i) (by omega)
  have : i = 0 ∨ i = 1 := by omega
  rcases this with rfl | rfl
  ·have : IntKind.i64.wrap 1 = 1 := hw
   simp [B16100, this]
  ·have : IntKind.i64.wrap 2 = 2 := hw
   simp [B16100, this]
 ·simp [B16100]
theorem p161 : F161 [.sl 1 [[ia 0], [ia 0]]] = some (ia 0) := by
 have hG := G16100 (Ω := calO s161)
 simp [F161, unitF_eq, t161, hG]
theorem p164 {t : Tk} (h : TkOk t) : F164 (tkR t) = some (ia 0) := by
 obtain ⟨d, ho, pl, top, zo⟩ := t
 have k1 := p161
 have w0' : whenI false 1 = 0 := rfl
 have w3' : whenI false 3 = 0 := rfl
 rcases h with ⟨rfl, g1, g2, g3, rfl⟩ | ⟨rfl, rfl, rfl, g3, g4, g5, g6, g7⟩ <;> simp only at *
 ·have a1 : outB ho 0 64 = false := by simp [outB]; omega
  have c : F204 (tkR (w0, ho, pl, top, 0)) = some (ia 0) := by
   rcases g3 with rfl | ⟨rfl, rfl, rfl⟩
   ·have a2 : outB 0 0 1 = false := rfl
    simp [tkR, F204, unitF_eq, t204, p205, p162, a1, a2, w0', w3', k1]
   ·have a2 : outB 1 0 1 = false := rfl
    have a3 : outB 0 0 64 = false := rfl
    simp [tkR, F204, unitF_eq, t204, p205, p162, a2, a3, w0', w3', k1]
  simp only [tkR] at c ⊢
  simp [F164, unitF_eq, t164, keyEq, c]
 ·have a1 : outB top 0 99 = false := by simp [outB]; omega
  have a2 : outB zo 0 99 = false := by simp [outB]; omega
  have c : F207 (tkR (w1, 0, false, top, zo)) = some (ia 0) := by
   by_cases ht : top > 0
   ·have h1 := (g7 ht).1
    have h2 : ¬ top < zo := by have := (g7 ht).2; omega
    have h2' : decide (top < zo) = false := decide_eq_false h2
    simp [tkR, F207, unitF_eq, t207, p205, p162, a1, a2, w0', w3', k1, ht, h1, h2]
   ·simp [tkR, F207, unitF_eq, t207, p205, p162, a1, a2, w0', w3', k1, ht]
  simp only [tkR] at c ⊢
  simp [F164, unitF_eq, t164, keyEq, n10, c]
def joinS (xs : List ByteArray) : ByteArray := ⟨(joinB xs w19).toArray⟩
theorem ba_eta (x : ByteArray) : (⟨x.data.toList.toArray⟩ : ByteArray) = x := by
 rcases x with ⟨a⟩; simp
theorem joinS_one (x : ByteArray) : joinS [x] = x := by
 rw [joinS, joinB, List.map_cons, List.map_nil, Lib.join_one, ba_eta]
theorem joinS_snoc {xs : List ByteArray} (x : ByteArray) (h : xs ≠ []) : joinS (xs ++ [x]) = joinS xs ++ (w19 ++ x) := by
 obtain ⟨y, ys, rfl⟩ := List.exists_cons_of_ne_nil h
 rw [← ba_eta w19, ← ba_eta x, ba_app, joinS, joinS, ba_app, joinB, joinB]
 simp only [List.cons_append, List.map_cons, List.map_append, List.map_nil, Lib.join_cons, Lib.joinTail, List.flatten_append, List.append_assoc]
 simp
theorem joinS_sz : ∀ {n : Nat} {xs : List ByteArray}, xs.length = n + 1 → (∀ x ∈ xs, x.size ≤ 100) → (joinS xs).size ≤ 103 * xs.length
 | 0, xs, hl, h => by
   match xs, hl with
   | [x], _ => rw [joinS_one]; have := h x (.head _); simp; omega
 | n + 1, xs, hl, h => by
   have hne : xs ≠ [] := fun e => by rw [e] at hl; cases hl
   have e := List.dropLast_concat_getLast hne
   have h1 : xs.dropLast.length = n + 1 := by rw [List.length_dropLast, hl]; rfl
   have h2 := joinS_sz h1 (fun x hx => h x (List.dropLast_subset _ hx))
   have h3 := h _ (List.getLast_mem hne)
   have h4 : w19.size = 3 := rfl
   rw [← e, joinS_snoc _ (fun e => by rw [e] at h1; cases h1), ByteArray.size_append, ByteArray.size_append, List.length_append, h1, List.length_singleton]
   omega
theorem strsOf_map : ∀ xs : List ByteArray, strsOf (xs.map strR) = some xs
 | [] => rfl
 | x :: xs => by rw [List.map_cons, strR, strsOf, strsOf_map xs]; rfl
theorem p165 {n : Nat} {xs : List ByteArray} (h : xs.length = n + 1) (hn : n < 100) (hs : ∀ x ∈ xs, x.size ≤ 100) : F165 [mkL 1 (xs.map strR), .str w19] = some (.str (joinS xs)) := by
 have h1 := joinS_sz h hs
 have h2 : (joinS xs).size = (joinB xs w19).length := by show (joinB xs w19).toArray.size = _; rw [List.size_toArray]
 have h3 : mkL 1 (xs.map strR) = .sl 1 (xs.map strR) := by
  cases xs with
  | nil => cases h
  | cons x xs => rfl
 show baseJoin [mkL 1 (xs.map strR), .str w19] = _
 rw [h3, baseJoin]
 simp only [strsOf_map]
 rw [if_pos (by omega)]
 rfl
structure TksOk (ts : List Tk) (d : ByteArray) (n : Nat) : Prop where
 ok : ∀ t ∈ ts, TkOk t ∧ t.1 = d
 len : ts.length = n + 1
 le : n < 8
theorem TksOk.sz {ts : List Tk} {d : ByteArray} {n : Nat} (h : TksOk ts d n) : ∀ x ∈ ts.map tkB, x.size ≤ 100 := by
 intro x hx
 obtain ⟨t, ht, rfl⟩ := List.mem_map.1 hx
 exact tkB_sz (h.ok t ht).1
theorem G9600 {a : AV} {ts : List Tk} {d : ByteArray} {n : Nat} (h : IsL 5 (ts.map tkR) a) (hk : TksOk ts d n) :
  loopG (calO s96) B9600 KK [a, .nils, ia ts.length, ia 0] = some (.tuple [ia 2, mkL 1 ((ts.map tkB).map strR)]) := by
 have hl := hk.len
 have hle := hk.le
 have h0 : nth a.rowsL (Int.toNat ((0 : Nat) : Int)) = some (tkR ts[0]) := h.row (by omega)
 have d0 := (hk.ok ts[0] (List.getElem_mem (by omega))).2
 refine loopF (fun i => [a, mkL 1 (((ts.take i).map tkB).map strR), ia ts.length, ia i]) ts.length _ (by omega) (fun i hi => ?_) ?_
 ·have hr : nth a.rowsL (Int.toNat (i : Int)) = some (tkR ts[i]) := h.row hi
  obtain ⟨o, di⟩ := hk.ok ts[i] (List.getElem_mem hi)
  have hw := wS (i := i) (by omega)
  have c1 := p164 o
  have c2 := @p206 ts[i] o
  have c3 := @p208 ts[i] o
  have ht : mkL 1 (((ts.take (i + 1)).map tkB).map strR) = .sl 1 (((ts.take i).map tkB).map strR ++ [[.str (tkB ts[i])]]) := by
   rw [← mkL_snoc, take_snoc hi, List.map_append, List.map_append]; rfl
  have hb : ((min i ts.length : Nat) : Int) + 1 ≤ 1073741824 := by omega
  have hp : (0 : Int) < ts.length := by omega
  have k1 := p161
  have w0' : whenI false 13 = 0 := rfl
  rw [ht]
  generalize ts[0] = t0 at *
  generalize ts[i] = t at *
  obtain ⟨x1, x2, x3, x4, x5⟩ := t
  obtain ⟨y1, y2, y3, y4, y5⟩ := t0
  simp only at d0 di
  subst d0 di
  have h0' : nth a.rowsL 0 = _ := h0
  simp only [tkR, Int.toNat_natCast] at hr h0' c1 c2 c3
  have hts : 0 < ts.length := by omega
  push_cast at hw ⊢
  have hd : x1 = w0 ∨ x1 = w1 := by
   rcases o with ⟨e, _⟩ | ⟨e, _⟩
   ·exact .inl e
   ·exact .inr e
  rcases hd with rfl | rfl
  ·have c2' := c2 rfl
   simp [B9600, h.lenM, hr, h0', hi, hp, hts, hw, hb, c1, c2', p162, w0', k1, keyEq, tkB, n01]
  ·have c3' := c3 rfl
   simp [B9600, h.lenM, hr, h0', hi, hp, hts, hw, hb, c1, c3', p162, w0', k1, keyEq, tkB, n10]
 ·simp [B9600]
theorem p96 {a : AV} {ts : List Tk} {d : ByteArray} {n : Nat} (h : IsL 5 (ts.map tkR) a) (hk : TksOk ts d n) : F96 [a] = some (.tuple [.str (joinS (ts.map tkB)), ia 0]) := by
 have hG := G9600 h hk
 have hl := hk.len
 have hle := hk.le
 have c := p165 (n := n) (xs := ts.map tkB) (by rw [List.length_map, hl]) (by omega) hk.sz
 have k1 := p161
 have w1' : whenI false 12 = 0 := rfl
 have w2' : whenI false 5 = 0 := rfl
 have z1 : ¬ (256 : Int) < ts.length := by omega
 have z2 : ¬ ts = [] := fun e => by rw [e] at hl; cases hl
 have z3 : ((ts.length : Int) == 0) = false := by simp [z2]
 generalize mkL 1 ((ts.map tkB).map strR) = J at *
 simp [F96, unitF_eq, t96, h.lenM, p162, w1', w2', k1, z1, z2, z3, hG, c]
end Go.Proofs.YtdeaibcebeofiaaGreatDoor.C5
