/-
  Plain lemmas (fourth part).
-/
import Derived.Test.YtdeaibcebeofiaaGreatDoorP3
import Derived.Test.YtdeaibcebeofiaaGreatDoorF3
set_option linter.unusedVariables false
set_option linter.unusedSimpArgs false
set_option linter.unusedSectionVars false
namespace Go.Proofs.YtdeaibcebeofiaaGreatDoor.C5
open Go Go.Proofs.YtdeaibcebeofiaaGreatDoor.AM
set_option maxRecDepth 20000
set_option maxHeartbeats 4000000
theorem v_sl (V : X → AV) (σ : Nat → Nat) (k : Nat) (r : List (List AV)) : AV.den V σ (.sl k r) = .sl k (AV.denss V σ r) := rfl
theorem v_lit : (∀ (V : X → AV) (σ : Nat → Nat), AV.denss V σ [] = []) ∧ (∀ (V : X → AV) (σ : Nat → Nat) (a : List AV) (r : List (List AV)), AV.denss V σ (a :: r) = AV.dens V σ a :: AV.denss V σ r) ∧ (∀ (V : X → AV) (σ : Nat → Nat) (b : Bool), AV.den V σ (.bool b) = .bool b) ∧ (∀ (V : X → AV) (σ : Nat → Nat) (k : IntKind) (n : Int), AV.den V σ (.int k n) = .int k n) ∧ (∀ (V : X → AV) (σ : Nat → Nat) (s : ByteArray), AV.den V σ (.str s) = .str s) ∧ (∀ (V : X → AV) (σ : Nat → Nat), AV.den V σ .nils = .nils) := ⟨fun _ _ => rfl, fun _ _ _ _ => rfl, fun _ _ _ => rfl, fun _ _ _ _ => rfl, fun _ _ _ => rfl, fun _ _ => rfl⟩
def tkT (t : Tri) : Tk := (w1, 0, false, t.2.2.1, t.2.1)
def tksL (f : ByteArray) (c : Clb) : List Tk := if f = w0 then [if c.tb then (w0, 0, false, 1, 0) else (w0, c.ho, c.pb, 0, 0)] else c.ts.map tkT
theorem G9700 {Ω : Om} {a : AV} {ts : List Tri} (h : IsL 4 (ts.map triR) a) (hn : ts.length < 1048577) :
  loopG Ω B9700 KK [.nils, a, ia ts.length, ia 0] = some (.tuple [ia 1, mkL 5 ((ts.map tkT).map tkR)]) := by
 refine loopF (fun i => [mkL 5 (((ts.take i).map tkT).map tkR), a, ia ts.length, ia i]) ts.length _ (by omega) (fun i hi => ?_) ?_
 ·have hr : nth a.rowsL (Int.toNat (i : Int)) = some (triR ts[i]) := h.row hi
  have hw := wS (i := i) (by omega)
  have ht : mkL 5 (((ts.take (i + 1)).map tkT).map tkR) = .sl 5 (((ts.take i).map tkT).map tkR ++ [tkR (tkT ts[i])]) := by
   rw [← mkL_snoc, take_snoc hi, List.map_append, List.map_append]; rfl
  have hb : ((min i ts.length : Nat) : Int) + 1 ≤ 1073741824 := by omega
  rw [ht]
  generalize ts[i] = t at *
  simp only [triR, Int.toNat_natCast] at hr
  push_cast at hw ⊢
  simp [B9700, h.lenM, hr, hi, hw, hb, tkR, tkT]
 ·simp [B9700]
theorem p97 {f : ByteArray} {r1 r2 r3 : AV} {c : Clb} (hc : ClbOk c) : F97 (.str f :: r1 :: r2 :: r3 :: c.row) = some (mkL 5 ((tksL f c).map tkR)) := by
 have hG := G9700 (Ω := calO s97) hc.t hc.tl
 unfold tksL
 rcases tf_or (f = w0) with e | e
 ·cases e1 : c.tb <;> simp [F97, unitF_eq, t97, Clb.row, e, e1, tkR, mkL, v_sl, v_lit]
 ·simp [F97, unitF_eq, t97, Clb.row, e, hc.t.lenM, hG]
theorem G5100 {Ω : Om} {a : AV} {ts : List Tk} (h : IsL 5 (ts.map tkR) a) (hn : ts.length < 1048577) :
  loopG Ω B5100 KK [a, .nils, ia 0] = some (.tuple [ia 1, mkL 5 (ts.map tkR)]) := by
 refine loopF (fun i => [a, mkL 5 ((ts.take i).map tkR), ia i]) ts.length _ (by omega) (fun i hi => ?_) ?_
 ·have hr : nth a.rowsL (Int.toNat (i : Int)) = some (tkR ts[i]) := h.row hi
  have hw := wS (i := i) (by omega)
  have ht : mkL 5 ((ts.take (i + 1)).map tkR) = .sl 5 ((ts.take i).map tkR ++ [tkR ts[i]]) := by
   rw [← mkL_snoc, take_snoc hi, List.map_append]; rfl
  have hb : ((min i ts.length : Nat) : Int) + 1 ≤ 1073741824 := by omega
  rw [ht]
  generalize ts[i] = t at *
  simp only [tkR, Int.toNat_natCast] at hr
  push_cast at hw ⊢
  simp [B5100, h.lenM, hr, hi, hw, hb, tkR]
 ·simp [B5100, h.lenM]
theorem p51 {a : AV} {ts : List Tk} (h : IsL 5 (ts.map tkR) a) (hn : ts.length < 1048577) : F51 [a] = some (mkL 5 (ts.map tkR)) := by
 have hG := G5100 (Ω := calO s51) h hn
 simp [F51, unitF_eq, t51, hG]
theorem G5000 {Ω : Om} {a b : AV} {ts : List Tk} (h : IsL 5 (ts.map tkR) a) (h' : IsL 5 (ts.map tkR) b) (hn : ts.length < 1048577) :
  loopG Ω B5000 KK [a, b, ia 0] = some (.tuple [ia 2]) := by
 refine loopF (fun i => [a, b, ia i]) ts.length _ (by omega) (fun i hi => ?_) ?_
 ·have hr : nth a.rowsL (Int.toNat (i : Int)) = some (tkR ts[i]) := h.row hi
  have hr' : nth b.rowsL (Int.toNat (i : Int)) = some (tkR ts[i]) := h'.row hi
  have hw := wS (i := i) (by omega)
  generalize ts[i] = t at *
  simp only [tkR, Int.toNat_natCast] at hr hr'
  push_cast at hw ⊢
  simp [B5000, h.lenM, h'.lenM, hr, hr', hi, hw]
 ·simp [B5000, h.lenM]
theorem p50 {a b : AV} {ts : List Tk} (h : IsL 5 (ts.map tkR) a) (h' : IsL 5 (ts.map tkR) b) (hn : ts.length < 1048577) : F50 [a, b] = some (.bool true) := by
 have hG := G5000 (Ω := calO s50) h h' hn
 simp [F50, unitF_eq, t50, h.lenM, h'.lenM, hG]
structure ClbV (f : ByteArray) (n : Int) (c : Clb) : Prop where
 n1 : 1 ≤ n
 n2 : n ≤ 64
 n3 : f = w1 → n ≤ 8
 us : 0 ≤ c.us ∧ c.us ≤ 86399999
 ho : 0 ≤ c.ho ∧ c.ho ≤ 64
 st : c.st.size ≤ 3
 ts : f = w1 → (c.ts.length : Int) = n
 tz : c.ts.length ≤ 8
 tv : ∀ t ∈ c.ts, 0 ≤ t.2.1 ∧ t.2.1 ≤ 99 ∧ 0 ≤ t.2.2.1 ∧ t.2.2.1 ≤ 99 ∧ (t.2.2.1 > 0 → t.2.1 ≠ 0 ∧ t.2.1 ≤ t.2.2.1)
 rs : ∀ x ∈ c.rs, 0 ≤ x ∧ x ≤ 86399999
theorem fz_all : ∀ {l : List Int}, firstNz l = 0 → ∀ x ∈ l, x = 0
 | a :: l, h, x, hx => by
   obtain ⟨h1, h2⟩ := fz_cons0.1 h
   rcases List.mem_cons.1 hx with rfl | hx
   ·exact h1
   ·exact fz_all h2 x hx
theorem clbV {f : ByteArray} {ns : List ByteArray} {n ti time : Int} {c : Clb} (h0 : ckRound f ns n ti = 0) (h : ckClimb f n ti time c = 0) : ClbV f n c := by
 have hd := disc h0
 have hm : (f = w1 → mostI f = 8) ∧ mostI f ≤ 64 := by
  rcases hd with rfl | rfl | rfl <;> decide
 have hn : 1 ≤ n ∧ n ≤ mostI f ∧ 1 ≤ ti ∧ ti ≤ 86399999 := by
  unfold ckRound at h0
  split at h0
  ·cases h0
  ·split at h0
   ·cases h0
   ·split at h0
    ·cases h0
    ·split at h0
     ·contradiction
     ·split at h0
      ·cases h0
      ·rename_i hq
       simp only [outB, Bool.or_eq_true, decide_eq_true_eq, not_or] at hq
       omega
 obtain ⟨k1, _, k2, k3, k4, k5, _⟩ := form0 (climb0 h)
 simp only [farB, outB, Bool.or_eq_false_iff, decide_eq_false_iff_not] at k2
 simp only [shapeB, Bool.or_eq_false_iff, decide_eq_false_iff_not] at k3
 have hh : holdsI f n ≤ 64 := by unfold holdsI; split <;> omega
 have ht : triesI f n ≤ 8 := by
  unfold triesI
  split
  ·rename_i e; have := hm.1 e; omega
  ·omega
 refine ⟨hn.1, by omega, fun e => by have := hm.1 e; omega, by omega, by omega, ?_, fun e => ?_, by omega, fun t htm => ?_, fun x hx => ?_⟩
 ·simp only [knownB, Bool.and_eq_true] at k1
  have := memB_iff.1 k1.2
  simp only [stsL, List.mem_cons, List.not_mem_nil, or_false] at this
  rcases this with e | e | e | e <;> rw [e] <;> decide
 ·have e2 : triesI f n = n := if_pos e
  omega
 ·have := fz_all k4 (tryC t) (List.mem_map_of_mem htm)
  unfold tryC at this
  split at this
  ·cases this
  ·rename_i q1
   split at this
   ·cases this
   ·rename_i q2
    simp only [farT, outB, Bool.or_eq_true, decide_eq_true_eq, not_or] at q1
    simp only [wrongT, Bool.or_eq_true, Bool.and_eq_true, decide_eq_true_eq, not_or, not_and] at q2
    refine ⟨by omega, by omega, by omega, by omega, fun hp => ?_⟩
    have := q2.1 hp
    omega
 ·have := List.any_eq_false.1 k5 x hx
  simp only [outB, Bool.or_eq_true, decide_eq_true_eq, not_or] at this
  omega
theorem tksOk {f : ByteArray} {n : Int} {c : Clb} (v : ClbV f n c) (hf : f = w0 ∨ f = w1) : ∃ k, TksOk (tksL f c) f k := by
 have h1 := v.ho
 rcases hf with rfl | rfl
 ·refine ⟨0, fun t ht => ?_, by simp [tksL], by omega⟩
  simp only [tksL, if_true, List.mem_singleton] at ht
  subst ht
  cases c.tb
  ·exact ⟨.inl ⟨rfl, h1.1, h1.2, .inl rfl, rfl⟩, rfl⟩
  ·exact ⟨.inl ⟨rfl, Int.le_refl _, (by decide : (0 : Int) ≤ 64), .inr ⟨rfl, rfl, rfl⟩, rfl⟩, rfl⟩
 ·have h2 := v.ts rfl
  have h3 := v.n1
  have h4 := v.tz
  refine ⟨c.ts.length - 1, fun t ht => ?_, by simp only [tksL, if_neg n10, List.length_map]; omega, by omega⟩
  simp only [tksL, if_neg n10] at ht
  obtain ⟨x, hx, rfl⟩ := List.mem_map.1 ht
  obtain ⟨g1, g2, g3, g4, g5⟩ := v.tv x hx
  exact ⟨.inr ⟨rfl, rfl, rfl, g3, g4, g1, g2, g5⟩, rfl⟩
theorem best_le {n : Int} {rs : List Int} (h : ∀ x ∈ rs, 0 ≤ x ∧ x ≤ 86399999) : 0 ≤ bestI rs ∧ bestI rs ≤ 86399999 := by
 refine ⟨best_nn rs, ?_⟩
 have : ∀ (l : List Int) (o : Int), (∀ x ∈ l, 0 ≤ x ∧ x ≤ 86399999) → o ≤ 86399999 → l.foldl bestS o ≤ 86399999 := by
  intro l
  induction l with
  | nil => intro o _ h; exact h
  | cons n l ih =>
    intro o hl h
    rw [List.foldl_cons]
    refine ih _ (fun x hx => hl x (.tail _ hx)) ?_
    have := hl n (.head _)
    unfold bestS
    split <;> omega
 exact this rs 0 h (by omega)
end Go.Proofs.YtdeaibcebeofiaaGreatDoor.C5

namespace Go.Proofs.YtdeaibcebeofiaaGreatDoor.C5
open Go Go.Proofs.YtdeaibcebeofiaaGreatDoor.AM
set_option maxRecDepth 20000
set_option maxHeartbeats 4000000
def smI (g : Tri → Int) (l : List Tri) : Int := (l.map g).sum
def gT (t : Tri) : Int := if t.2.2.1 > 0 then 1 else 0
def gZ (t : Tri) : Int := if t.2.1 > 0 then 1 else 0
def valI (f : ByteArray) (n : Int) (c : Clb) : List Int :=
 if f = w2 then [- bestI c.rs] else if f = w1 then [smI gT c.ts, smI gZ c.ts, - smI (·.2.2.1) c.ts, - smI (·.2.1) c.ts]
 else [if c.tb then 2 * n + 2 else if c.pb then 2 * c.ho + 1 else 2 * c.ho, - c.us]
theorem smI_take (g : Tri → Int) {l : List Tri} {i : Nat} (hi : i < l.length) : smI g (l.take (i + 1)) = smI g (l.take i) + g l[i] := by
 rw [take_snoc hi, smI, List.map_append, List.sum_append]; simp [smI]
theorem smI_le {g : Tri → Int} : ∀ {l : List Tri}, (∀ t ∈ l, 0 ≤ g t ∧ g t ≤ 99) → 0 ≤ smI g l ∧ smI g l ≤ 99 * l.length
 | [], _ => ⟨Int.le_refl _, Int.le_refl _⟩
 | t :: l, h => by
   have h1 := h t (.head _)
   have h2 := smI_le (l := l) (fun x hx => h x (.tail _ hx))
   have e : smI g (t :: l) = g t + smI g l := rfl
   rw [e, List.length_cons]
   push_cast
   omega
theorem stepV {ts : List Tri} (hv : ∀ t ∈ ts, 0 ≤ t.2.1 ∧ t.2.1 ≤ 99 ∧ 0 ≤ t.2.2.1 ∧ t.2.2.1 ≤ 99 ∧ (t.2.2.1 > 0 → t.2.1 ≠ 0 ∧ t.2.1 ≤ t.2.2.1)) (hl : ts.length ≤ 8) {i : Nat} (hi : i < ts.length) :
  ∃ a b p q a' b' : Int, smI gT (ts.take i) = a ∧ smI gZ (ts.take i) = b ∧ smI (·.2.2.1) (ts.take i) = p ∧ smI (·.2.1) (ts.take i) = q ∧
    smI gT (ts.take (i + 1)) = a' ∧ smI gZ (ts.take (i + 1)) = b' ∧ smI (·.2.2.1) (ts.take (i + 1)) = p + ts[i].2.2.1 ∧ smI (·.2.1) (ts.take (i + 1)) = q + ts[i].2.1 ∧
    (if ts[i].2.2.1 > 0 then IntKind.i64.wrap (a + 1) else a) = a' ∧ (if ts[i].2.1 > 0 then IntKind.i64.wrap (b + 1) else b) = b' ∧
    IntKind.i64.wrap (- p - ts[i].2.2.1) = - (p + ts[i].2.2.1) ∧ IntKind.i64.wrap (- q - ts[i].2.1) = - (q + ts[i].2.1) := by
 have hm := hv ts[i] (List.getElem_mem hi)
 have hs : ∀ t ∈ ts.take i, t ∈ ts := fun t h => List.take_subset _ _ h
 have l1 : (ts.take i).length ≤ 8 := by rw [List.length_take]; omega
 have b1 := smI_le (g := gT) (l := ts.take i) (fun t h => by unfold gT; split <;> omega)
 have b2 := smI_le (g := gZ) (l := ts.take i) (fun t h => by unfold gZ; split <;> omega)
 have b3 := smI_le (g := (·.2.2.1)) (l := ts.take i) (fun t h => by have := hv t (hs t h); omega)
 have b4 := smI_le (g := (·.2.1)) (l := ts.take i) (fun t h => by have := hv t (hs t h); omega)
 refine ⟨_, _, _, _, _, _, rfl, rfl, rfl, rfl, rfl, rfl, smI_take _ hi, smI_take _ hi, ?_, ?_, by rw [i64w (by omega) (by omega)]; omega, by rw [i64w (by omega) (by omega)]; omega⟩
 ·rw [smI_take _ hi, gT]; split
  ·exact i64w (by omega) (by omega)
  ·omega
 ·rw [smI_take _ hi, gZ]; split
  ·exact i64w (by omega) (by omega)
  ·omega
theorem G10400 {Ω : Om} {a : AV} {ts : List Tri} (h : IsL 4 (ts.map triR) a) (hl : ts.length ≤ 8) (hv : ∀ t ∈ ts, 0 ≤ t.2.1 ∧ t.2.1 ≤ 99 ∧ 0 ≤ t.2.2.1 ∧ t.2.2.1 ≤ 99 ∧ (t.2.2.1 > 0 → t.2.1 ≠ 0 ∧ t.2.1 ≤ t.2.2.1)) :
  loopG Ω B10400 KK [a, ia ts.length, ia 0, ia 0, ia 0, ia 0, ia 0] = some (.tuple [ia 1, ia (smI gT ts), ia (smI gZ ts), ia (- smI (·.2.2.1) ts), ia (- smI (·.2.1) ts)]) := by
 refine loopF (fun i => [a, ia ts.length, ia i, ia (smI gT (ts.take i)), ia (smI gZ (ts.take i)), ia (- smI (·.2.2.1) (ts.take i)), ia (- smI (·.2.1) (ts.take i))]) ts.length _ (by omega) (fun i hi => ?_) ?_
 ·have hr : nth a.rowsL (Int.toNat (i : Int)) = some (triR ts[i]) := h.row hi
  have hw := wS (i := i) (by omega)
  obtain ⟨x, y, p, q, x', y', e1, e2, e3, e4, e5, e6, e7, e8, e9, e10, e11, e12⟩ := stepV hv hl hi
  rw [e1, e2, e3, e4, e5, e6, e7, e8]
  generalize ts[i] = t at *
  obtain ⟨t1, t2, t3, t4⟩ := t
  simp only [triR, Int.toNat_natCast] at hr
  simp only at e9 e10 e11 e12
  push_cast at hw
  simp [B10400, h.lenM, hr, hi, hw, e9, e10, e11, e12]
 ·simp [B10400]
theorem p104 {f : ByteArray} {r1 r3 : AV} {n : Int} {c : Clb} (hc : ClbOk c) (v : ClbV f n c) (hf : f = w0 ∨ f = w1 ∨ f = w2) :
  F104 (.str f :: r1 :: ia n :: r3 :: c.row) = some (if c.st = w3 then mkL 1 ((valI f n c).map intR) else .nils) := by
 have hG := G10400 (Ω := calO s104) hc.t v.tz v.tv
 have h1 := p95 hc.r hc.rl
 have hb := best_le (n := n) v.rs
 have u := v.us
 have o := v.ho
 have m1 := v.n1
 have m2 := v.n2
 have y1 : IntKind.i64.wrap (- bestI c.rs) = - bestI c.rs := i64w (by omega) (by omega)
 have y2 : IntKind.i64.wrap (- c.us) = - c.us := i64w (by omega) (by omega)
 have y3 : IntKind.i64.wrap (2 * c.ho) = 2 * c.ho := i64w (by omega) (by omega)
 have y4 : IntKind.i64.wrap (2 * c.ho + 1) = 2 * c.ho + 1 := i64w (by omega) (by omega)
 have y5 : IntKind.i64.wrap (2 * n) = 2 * n := i64w (by omega) (by omega)
 have y6 : IntKind.i64.wrap (2 * n + 2) = 2 * n + 2 := i64w (by omega) (by omega)
 unfold valI
 rcases tf_or (c.st = w3) with e | e
 ·rcases hf with rfl | rfl | rfl
  ·cases e1 : c.tb <;> cases e2 : c.pb <;> simp [F104, unitF_eq, t104, Clb.row, e, e1, e2, n01, n02, intR, mkL, v_sl, v_lit, s_neg, s_mul, y2, y3, y4, y5, y6]
  ·simp [F104, unitF_eq, t104, Clb.row, e, n12, intR, mkL, v_sl, v_lit, hc.t.lenM, hG]
  ·simp [F104, unitF_eq, t104, Clb.row, e, intR, mkL, v_sl, v_lit, s_neg, y1, h1]
 ·simp [F104, unitF_eq, t104, Clb.row, e, v_lit]
def ck2 (k : Int) (cs : List Clb) (w : Int) : Int := if k ≠ 0 then k else whenI (outB w 0 (cs.length - 1)) 10
def clbAt (cs : List Clb) (w : Int) : Clb := cs.getD w.toNat c0
theorem p94 {f : ByteArray} {ns : List ByteArray} {names a : AV} {n ti time : Int} {cs : List Clb} (hr : IsL 1 (ns.map strR) names) (hn : ns.length < 1048577) (hz : ∀ s ∈ ns, s.size < 2097152)
  (h : IsL 11 (cs.map Clb.row) a) (hl : cs.length < 1048577) (hc : ∀ c ∈ cs, ClbOk c) (w : Int) :
  F94 [.str f, names, ia n, ia ti, ia time, a, ia w] = some (.tuple [.agg (if ck2 (ckStA f ns n ti time cs) cs w = 0 then clbAt cs w else c0).row, ia (ck2 (ckStA f ns n ti time cs) cs w)]) := by
 have h1 := p60 (f := f) (n := n) (ti := ti) (time := time) hr hn hz h hl hc
 have hw' : IntKind.i64.wrap ((cs.length : Int) - 1) = cs.length - 1 := i64w (by omega) (by omega)
 generalize ckStA f ns n ti time cs = k at *
 unfold ck2
 by_cases e : k = 0
 ·cases e2 : outB w 0 (cs.length - 1)
  ·have e3 := e2
   simp only [outB, Bool.or_eq_false_iff, decide_eq_false_iff_not] at e3
   have hi : w.toNat < cs.length := by omega
   have hrow : nth a.rowsL (Int.toNat ((w.toNat : Nat) : Int)) = some (cs[w.toNat].row) := h.row hi
   have hg : clbAt cs w = cs[w.toNat] := by simp [clbAt, hi]
   have g1 : (0 : Int) ≤ w := by omega
   have g2 : w < cs.length := by omega
   rw [hg]
   simp only [Clb.row, Int.toNat_natCast] at hrow
   simp [F94, unitF_eq, t94, h.lenM, h1, hw', p89, p103, p102_2, fz2, whenI, e, e2, hrow, g1, g2, Clb.row]
  ·simp [F94, unitF_eq, t94, h.lenM, h1, hw', p89, p103, p102_2, fz2, whenI, e, e2, c0, Clb.row]
 ·simp [F94, unitF_eq, t94, h.lenM, h1, hw', p89, p103, p102_2, fz2, whenI, e, c0, Clb.row]
end Go.Proofs.YtdeaibcebeofiaaGreatDoor.C5

namespace Go.Proofs.YtdeaibcebeofiaaGreatDoor.C5
open Go Go.Proofs.YtdeaibcebeofiaaGreatDoor.AM
set_option maxRecDepth 20000
set_option maxHeartbeats 4000000
@[simp] theorem rok_agg (cs : List Sh) (vs : List AV) : (RS.agg cs).ok (.agg vs) = Sh.oks cs vs := rfl
theorem Clb.ok {c : Clb} (hc : ClbOk c) : (Sh.sl [.int .i64, .int .i64, .int .i64, .bool]).ok c.tr = true ∧ (Sh.sl [.int .i64]).ok c.ru = true :=
 ⟨hc.t.ok rfl (by simp [triR]), hc.r.ok rfl (by simp [intR])⟩
def textB (f : ByteArray) (c : Clb) : ByteArray := if f = w2 then (if bestI c.rs > 0 then clockB (bestI c.rs) else w11) else joinS ((tksL f c).map tkB)
def sheetB (f : ByteArray) (c : Clb) : ByteArray := if c.st = w3 then textB f c else c.st ++ (w15 ++ textB f c)
theorem clock_sz {n : Int} (h0 : 0 ≤ n) (h1 : n ≤ 86399999) : (clockB n).size ≤ 200 := by
 obtain ⟨a0, a1, m0, m1, b0, b1, r0, r1, p0, p1, s0, s1, _⟩ := parts h0 h1
 have y1 := padB_sz (n := n % 1000) (d := 3) (by omega) (by omega)
 have y2 := padB_sz (n := n / 1000) (d := 1) (by omega) (by omega)
 have y3 := padB_sz (n := n / 1000 / 60) (d := 1) (by omega) (by omega)
 have y4 := padB_sz (n := n / 1000 % 60) (d := 2) (by omega) (by omega)
 have y5 := padB_sz (n := n / 1000 / 60 / 60) (d := 1) (by omega) (by omega)
 have y6 := padB_sz (n := n / 1000 / 60 % 60) (d := 2) (by omega) (by omega)
 have k1 := sz17
 have k2 := sz18
 unfold clockB
 split
 ·simp only [ByteArray.size_append]; omega
 ·split <;> simp only [ByteArray.size_append] <;> omega
theorem tks_ok (ts : List Tk) : (Sh.sl [.str, .int .i64, .bool, .int .i64, .int .i64]).ok (mkL 5 (ts.map tkR)) = true := (mkL_isL 5 _).ok rfl (by simp [tkR])
theorem p40 {f : ByteArray} {r1 r2 r3 r4 r5 r6 : AV} {n : Int} {c : Clb} (hc : ClbOk c) (v : ClbV f n c) (hf : f = w0 ∨ f = w1 ∨ f = w2) (h94 : F94 [.str f, r1, r2, r3, r4, r5, r6] = some (.tuple [.agg c.row, ia 0])) :
  F40 [.str f, r1, r2, r3, r4, r5, r6] = some (.tuple [.str (sheetB f c), ia 0]) := by
 have h1 := p97 (f := f) (r1 := r1) (r2 := r2) (r3 := r3) hc
 have h2 := p95 hc.r hc.rl
 have hs := v.st
 have k15 : w15.size = 1 := rfl
 have k11 : w11.size = 1 := rfl
 obtain ⟨o1, o2⟩ := Clb.ok hc
 unfold sheetB textB
 rcases tf_or (f = w2) with e | e
 ·obtain ⟨b0, b1⟩ := best_le (n := n) v.rs
  have h4 := p98 b0 b1
  have h5 := clock_sz b0 b1
  generalize clockB (bestI c.rs) = T at *
  rcases tf_or (c.st = w3) with e1 | e1 <;> by_cases e2 : bestI c.rs > 0 <;>
   simp (disch := (try simp only [ByteArray.size_append]) <;> omega) [F40, unitF_eq, t40, h94, o1, o2, Clb.row, e, e1, e2, h2, h4, s_catOk, s_cat, ByteArray.append_assoc]
 ·have hf' : f = w0 ∨ f = w1 := by
   rcases hf with g | g | g
   ·exact .inl g
   ·exact .inr g
   ·exact absurd g (of_eq_false e)
  obtain ⟨k, hk⟩ := tksOk v hf'
  have h4 := p96 (mkL_isL 5 _) hk
  have hok := tks_ok (tksL f c)
  have h5 := joinS_sz (n := k) (xs := (tksL f c).map tkB) (by rw [List.length_map, hk.len]) hk.sz
  rw [List.length_map, hk.len] at h5
  have h6 := hk.le
  generalize joinS ((tksL f c).map tkB) = T at *
  simp only [Clb.row] at h1 h94 ⊢
  generalize mkL 5 ((tksL f c).map tkR) = M at *
  rcases tf_or (c.st = w3) with e1 | e1 <;>
   simp (disch := (try simp only [ByteArray.size_append]) <;> omega) [F40, unitF_eq, t40, h94, o1, o2, e, e1, h1, h2, hok, h4, s_catOk, s_cat, ByteArray.append_assoc]
theorem p49 {f : ByteArray} {r1 r2 r3 r4 r5 r6 : AV} {c : Clb} {e : Int} (hc : ClbOk c) (h94 : F94 [.str f, r1, r2, r3, r4, r5, r6] = some (.tuple [.agg c.row, ia e])) :
  F49 [.str f, r1, r2, r3, r4, r5, r6] = some (.tuple [if e = 0 ∧ ¬ f = w2 then mkL 5 ((tksL f c).map tkR) else .nils, ia (if e = 0 then whenI (decide (f = w2)) 13 else e)]) := by
 have h1 := p97 (f := f) (r1 := r1) (r2 := r2) (r3 := r3) hc
 have hok := tks_ok (tksL f c)
 obtain ⟨o1, o2⟩ := Clb.ok hc
 simp only [Clb.row] at h1 h94
 generalize mkL 5 ((tksL f c).map tkR) = M at *
 rcases tf_or (f = w2) with e1 | e1 <;> by_cases e2 : e = 0 <;>
  simp [F49, unitF_eq, t49, h94, o1, o2, e1, e2, h1, hok, p103, p102_2, fz2, whenI]
abbrev Res := ByteArray × ByteArray × List Int
def resR (x : Res) : List AV := [.str x.1, .str x.2.1, mkL 1 (x.2.2.map intR)]
def resAt (f : ByteArray) (n : Int) (ns : List ByteArray) (cs : List Clb) (i : Nat) : Res :=
 (ns.getD i w3, (cs.getD i c0).st, if (cs.getD i c0).st = w3 then valI f n (cs.getD i c0) else [])
def opB (cs : List Clb) : Bool := cs.any fun c => !decide (c.ph = w6)
theorem p101 (c : Clb) : F101 c.row = some (.bool (!decide (c.ph = w6))) := by
 rcases tf_or (c.ph = w6) with e | e <;> simp [F101, unitF_eq, t101, Clb.row, e]
theorem G116900 {a : AV} {cs : List Clb} (h : IsL 11 (cs.map Clb.row) a) (hn : cs.length < 1048577) :
  ∃ r, loopG (calO s1169) B116900 KK [a, ia cs.length, ia 0] = some r ∧ ((opB cs = true ∧ ∃ i : Nat, r = .tuple [ia 1, ia i]) ∨ (opB cs = false ∧ r = .tuple [ia 2])) := by
 have hG := loop0 (Ω := calO s1169) (B := B116900) (fun i => [a, ia cs.length, ia i]) cs.length (fun i => if (!decide ((cs.getD i c0).ph = w6)) = true then some (.tuple [ia 1, ia i]) else none) (.tuple [ia 2]) (by omega) (fun i hi => by
  have hr : nth a.rowsL (Int.toNat (i : Int)) = some (cs[i].row) := h.row hi
  have hw := wS (i := i) (by omega)
  have hg : cs.getD i c0 = cs[i] := by simp [hi]
  have hp := p101 cs[i]
  rw [hg]
  generalize cs[i] = c at *
  simp only [Clb.row, Int.toNat_natCast] at hr hp
  push_cast at hw
  rcases tf_or (c.ph = w6) with e | e <;> simp only [e] at hp <;> simp [B116900, h.lenM, hr, hi, hw, hp, e]) (by simp [B116900])
 refine ⟨_, hG, ?_⟩
 cases hb : opB cs
 ·right
  refine ⟨rfl, ?_⟩
  rw [List.findSome?_eq_none_iff.2 (fun i hi => ?_)]
  ·rfl
  ·have hl : i < cs.length := by simp only [List.mem_range'_1] at hi; omega
   have := List.any_eq_false.1 hb cs[i] (List.getElem_mem hl)
   simp at this
   simp [hl, this]
 ·left
  refine ⟨rfl, ?_⟩
  cases hf : (List.range' 0 cs.length).findSome? fun i => if (!decide ((cs.getD i c0).ph = w6)) = true then some (AV.tuple [ia 1, ia i]) else none with
  | none =>
    exfalso
    obtain ⟨x, hx, hy⟩ := List.any_eq_true.1 hb
    obtain ⟨i, hi, rfl⟩ := List.getElem_of_mem hx
    have := List.findSome?_eq_none_iff.1 hf i (by simp only [List.mem_range'_1]; omega)
    simp at hy
    simp [hi, hy] at this
  | some r =>
    obtain ⟨i, hi, hr⟩ := List.exists_of_findSome?_eq_some hf
    refine ⟨i, ?_⟩
    split at hr
    ·injection hr with hr; rw [← hr]; rfl
    ·cases hr
theorem p1100 {a : AV} {cs : List Clb} (h : IsL 11 (cs.map Clb.row) a) (hn : cs.length < 1048577) : F1100 [a] = some (.bool (opB cs)) := by
 obtain ⟨r, hG, hr⟩ := G116900 h hn
 have h1 : ∃ j : Int, F1169 [a] = some (ia j) ∧ (decide (j ≥ 0) = opB cs) := by
  rcases hr with ⟨h1, i, rfl⟩ | ⟨h1, rfl⟩
  ·exact ⟨i, by simp [F1169, unitF_eq, t1169, h.lenM, hG], by simp [h1]⟩
  ·exact ⟨-1, by simp [F1169, unitF_eq, t1169, h.lenM, hG], by simp [h1]⟩
 obtain ⟨j, h1, h2⟩ := h1
 simp [F1100, unitF_eq, t1100, h1, ← h2]
end Go.Proofs.YtdeaibcebeofiaaGreatDoor.C5

namespace Go.Proofs.YtdeaibcebeofiaaGreatDoor.C5
open Go Go.Proofs.YtdeaibcebeofiaaGreatDoor.AM
set_option maxRecDepth 20000
set_option maxHeartbeats 4000000
def resL (f : ByteArray) (n : Int) (ns : List ByteArray) (cs : List Clb) (i : Nat) : List Res := (List.range i).map (resAt f n ns cs)
theorem resL_succ (f : ByteArray) (n : Int) (ns : List ByteArray) (cs : List Clb) (i : Nat) : mkL 3 ((resL f n ns cs (i + 1)).map resR) = .sl 3 ((resL f n ns cs i).map resR ++ [resR (resAt f n ns cs i)]) := by
 rw [← mkL_snoc, resL, List.range_succ, List.map_append, List.map_append]; rfl
theorem resL_len (f : ByteArray) (n : Int) (ns : List ByteArray) (cs : List Clb) (i : Nat) : (resL f n ns cs i).length = i := by simp [resL]
theorem resL_ok (l : List Res) : (Sh.sl [.str, .str, .sl [.int .i64]]).ok (mkL 3 (l.map resR)) = true := by
 refine (mkL_isL 3 _).ok rfl ?_
 rw [List.all_map, List.all_eq_true]
 intro x _
 have : (Sh.sl [.int .i64]).ok (mkL 1 (x.2.2.map intR)) = true := (mkL_isL 1 _).ok rfl (by simp [intR])
 simp [resR, this]
theorem val_ok (l : List Int) : (Sh.sl [.int .i64]).ok (mkL 1 (l.map intR)) = true := (mkL_isL 1 _).ok rfl (by simp [intR])
theorem val_ite (p : Prop) [Decidable p] (l : List Int) : (if p then mkL 1 (l.map intR) else .nils) = mkL 1 ((if p then l else []).map intR) := by
 split <;> rfl
section
variable {f : ByteArray} {ns : List ByteArray} {names a : AV} {n ti : Int} {cs : List Clb}
theorem G4600 (hr : IsL 1 (ns.map strR) names) (hln : ns.length = cs.length) (h : IsL 11 (cs.map Clb.row) a) (hn : cs.length < 1048577) (hc : ∀ c ∈ cs, ClbOk c ∧ ClbV f n c) (hf : f = w0 ∨ f = w1 ∨ f = w2) :
  loopG (calO s46) B4600 KK [.nils, a, ia cs.length, ia 0, .str f, names, ia n, ia ti] = some (.tuple [ia 1, mkL 3 ((resL f n ns cs cs.length).map resR)]) := by
 refine loopF (fun i => [mkL 3 ((resL f n ns cs i).map resR), a, ia cs.length, ia i, .str f, names, ia n, ia ti]) cs.length _ (by omega) (fun i hi => ?_) ?_
 ·have hr1 : nth a.rowsL (Int.toNat (i : Int)) = some (cs[i].row) := h.row hi
  have hr2 : nth names.rowsL (Int.toNat (i : Int)) = some [.str ns[i]] := hr.row (by omega)
  have hw := wS (i := i) (by omega)
  obtain ⟨o, v⟩ := hc cs[i] (List.getElem_mem hi)
  have hp := p104 (r1 := names) (r3 := ia ti) o v hf
  rw [val_ite] at hp
  have hi2 : i < ns.length := by omega
  have e : resAt f n ns cs i = (ns[i], cs[i].st, if cs[i].st = w3 then valI f n cs[i] else []) := by simp [resAt, hi, hi2]
  have hb : (i : Int) + 1 ≤ 1073741824 := by omega
  have hll := resL_len f n ns cs i
  rw [resL_succ, e]
  have hv := val_ok (if cs[i].st = w3 then valI f n cs[i] else [])
  simp only [resR]
  generalize mkL 1 ((if cs[i].st = w3 then valI f n cs[i] else []).map intR) = V at *
  generalize resL f n ns cs i = L at *
  generalize cs[i] = c at *
  generalize ns[i] = nm at *
  simp only [Clb.row, Int.toNat_natCast] at hr1 hr2 hp
  push_cast at hw ⊢
  simp [B4600, h.lenM, hr.lenM, hr1, hr2, hi, hi2, hw, hb, hp, hv, hll]
 ·simp [B4600]
theorem p46 {time : AV} (hr : IsL 1 (ns.map strR) names) (hln : ns.length = cs.length) (h : IsL 11 (cs.map Clb.row) a) (hn : cs.length < 1048577) (hc : ∀ c ∈ cs, ClbOk c ∧ ClbV f n c) (hf : f = w0 ∨ f = w1 ∨ f = w2)
  (h60 : F60 [.str f, names, ia n, ia ti, time, a] = some (ia 0)) :
  F46 [.str f, names, ia n, ia ti, time, a] = some (.tuple [if opB cs then .nils else mkL 3 ((resL f n ns cs cs.length).map resR), ia (if opB cs then 24 else 0)]) := by
 have hG := G4600 (ti := ti) hr hln h hn hc hf
 have h1 := p1100 h hn
 generalize mkL 3 ((resL f n ns cs cs.length).map resR) = L at *
 cases e : opB cs <;> rw [e] at h1 <;> simp [F46, unitF_eq, t46, h.lenM, h60, h1, p103, p102_2, fz2, whenI, hG]
end
end Go.Proofs.YtdeaibcebeofiaaGreatDoor.C5

namespace Go.Proofs.YtdeaibcebeofiaaGreatDoor.C5
open Go Go.Proofs.YtdeaibcebeofiaaGreatDoor.AM
set_option maxRecDepth 20000
set_option maxHeartbeats 4000000
def digB (n : Nat) : ByteArray := if n < 10 then ⟨#[UInt8.ofNat (48 + n)]⟩ else ⟨#[UInt8.ofNat (48 + n / 10), UInt8.ofNat (48 + n % 10)]⟩
theorem pad_dig {n : Nat} (h : n < 100) : padB n 1 = digB n := by
 unfold padB digB
 rw [Int.toNat_natCast]
 by_cases h1 : n < 10
 ·rw [Lib.nDigits_small h1, if_pos h1]
  simp [gD, Nat.mod_eq_of_lt h1]
 ·rw [Lib.nDigits_big h1, Lib.nDigits_small (by omega), if_neg h1]
  simp [gD, Nat.mod_eq_of_lt (show n / 10 < 10 by omega)]
def okI (r : Option AV) (n : Nat) : Bool := match r with | some (.tuple [.int .i64 m, .bool true]) => decide (m = n) | _ => false
theorem okI_eq {r : Option AV} {n : Nat} (h : okI r n = true) : r = some (.tuple [ia n, .bool true]) := by
 unfold okI at h
 split at h
 ·rw [of_decide_eq_true h]
 ·cases h
theorem all_100 {p : Nat → Bool} (h : (List.range 100).all p = true) {n : Nat} (hn : n < 100) : p n = true := List.all_eq_true.1 h n (List.mem_range.2 hn)
theorem int_all : ((List.range 100).all fun n => okI (F171 [.str (digB n)]) n) = true := by kernel_rfl
def attD (l : UInt8) (n : Nat) : ByteArray := if n = 0 then ⟨#[45]⟩ else ⟨#[l] ++ (digB n).data⟩
theorem attT_all : ((List.range 100).all fun n => okI (F170 [.int .u8 84, .str (attD 84 n)]) n) = true := by kernel_rfl
theorem attZ_all : ((List.range 100).all fun n => okI (F170 [.int .u8 90, .str (attD 90 n)]) n) = true := by kernel_rfl
theorem p171 {n : Int} (h0 : 0 ≤ n) (h : n ≤ 99) : F171 [.str (padB n 1)] = some (.tuple [ia n, .bool true]) := by
 obtain ⟨m, rfl⟩ := Int.eq_ofNat_of_zero_le h0
 rw [pad_dig (by omega)]
 exact okI_eq (all_100 int_all (by omega))
theorem att_dig {l : UInt8} {n : Nat} (hn : n < 100) : attB ⟨#[l]⟩ n = attD l n := by
 unfold attB attD
 by_cases h : n = 0
 ·subst h; rfl
 ·rw [if_neg (by omega), if_neg h, pad_dig hn, ByteArray.ext_iff]; simp
theorem p170T {n : Int} (h0 : 0 ≤ n) (h : n ≤ 99) : F170 [.int .u8 84, .str (attB w14 n)] = some (.tuple [ia n, .bool true]) := by
 obtain ⟨m, rfl⟩ := Int.eq_ofNat_of_zero_le h0
 rw [show attB w14 (m : Int) = attD 84 m from att_dig (by omega)]
 exact okI_eq (all_100 attT_all (by omega))
theorem p170Z {n : Int} (h0 : 0 ≤ n) (h : n ≤ 99) : F170 [.int .u8 90, .str (attB w16 n)] = some (.tuple [ia n, .bool true]) := by
 obtain ⟨m, rfl⟩ := Int.eq_ofNat_of_zero_le h0
 rw [show attB w16 (m : Int) = attD 90 m from att_dig (by omega)]
 exact okI_eq (all_100 attZ_all (by omega))
theorem dig_bytes : ((List.range 100).all fun n => (digB n).data.toList.all (fun b => decide (48 ≤ b) && decide (b ≤ 57)) && decide (0 < (digB n).size)) = true := by kernel_rfl
theorem attT_bytes : ((List.range 100).all fun n => (attD 84 n).data.toList.all fun b => decide (b ≠ 32) && decide (b ≠ 47)) = true := by kernel_rfl
theorem attZ_bytes : ((List.range 100).all fun n => (attD 90 n).data.toList.all fun b => decide (b ≠ 32) && decide (b ≠ 47)) = true := by kernel_rfl
theorem pad_bytes {n : Int} (h0 : 0 ≤ n) (h : n ≤ 99) : (∀ b ∈ (padB n 1).data.toList, 48 ≤ b ∧ b ≤ 57) ∧ 0 < (padB n 1).size := by
 obtain ⟨m, rfl⟩ := Int.eq_ofNat_of_zero_le h0
 rw [pad_dig (by omega)]
 have := all_100 dig_bytes (n := m) (by omega)
 simp only [Bool.and_eq_true, decide_eq_true_eq] at this
 refine ⟨fun b hb => ?_, this.2⟩
 have := List.all_eq_true.1 this.1 b hb
 simpa using this
theorem attT_b {n : Int} (h0 : 0 ≤ n) (h : n ≤ 99) : ∀ b ∈ (attB w14 n).data.toList, b ≠ 32 ∧ b ≠ 47 := by
 obtain ⟨m, rfl⟩ := Int.eq_ofNat_of_zero_le h0
 rw [show attB w14 (m : Int) = attD 84 m from att_dig (by omega)]
 intro b hb
 have := List.all_eq_true.1 (all_100 attT_bytes (n := m) (by omega)) b hb
 simpa using this
theorem attZ_b {n : Int} (h0 : 0 ≤ n) (h : n ≤ 99) : ∀ b ∈ (attB w16 n).data.toList, b ≠ 32 ∧ b ≠ 47 := by
 obtain ⟨m, rfl⟩ := Int.eq_ofNat_of_zero_le h0
 rw [show attB w16 (m : Int) = attD 90 m from att_dig (by omega)]
 intro b hb
 have := List.all_eq_true.1 (all_100 attZ_bytes (n := m) (by omega)) b hb
 simpa using this
end Go.Proofs.YtdeaibcebeofiaaGreatDoor.C5

namespace Go.Proofs.YtdeaibcebeofiaaGreatDoor.C5
open Go Go.Proofs.YtdeaibcebeofiaaGreatDoor.AM
set_option maxRecDepth 20000
set_option maxHeartbeats 4000000
def spk (y : List UInt8) : Nat → List UInt8 → List UInt8 → List (List UInt8)
 | _, cur, [] => [cur]
 | k + 1, cur, _ :: l => spk y k cur l
 | 0, cur, c :: l => if (c :: l).length < y.length then [cur ++ c :: l] else if (c :: l).take y.length = y then cur :: spk y (y.length - 1) [] l else spk y 0 (cur ++ [c]) l
abbrev spl (y : List UInt8) (cur l : List UInt8) := spk y 0 cur l
theorem spk_skip (y : List UInt8) : ∀ (k : Nat) (cur l : List UInt8), spk y k cur l = spk y 0 cur (l.drop k)
 | 0, _, _ => rfl
 | k + 1, cur, [] => rfl
 | k + 1, cur, c :: l => by rw [spk, spk_skip y k]; rfl
theorem spl_short {y : List UInt8} (cur l : List UInt8) (h : l.length < y.length) : spl y cur l = [cur ++ l] := by
 cases l with
 | nil => simp [spl, spk]
 | cons c l => rw [spl, spk, if_pos h]
theorem spl_hit {y : List UInt8} (hy : y ≠ []) (cur l : List UInt8) (h : l.take y.length = y) : spl y cur l = cur :: spl y [] (l.drop y.length) := by
 have hl : y.length ≤ l.length := by rw [← h, List.length_take]; omega
 have : 0 < y.length := List.length_pos_iff.2 hy
 cases l with
 | nil => simp at hl; exact absurd hl hy
 | cons c l =>
   rw [spl, spk, if_neg (by omega), if_pos h, spk_skip]
   obtain ⟨n, hn⟩ : ∃ n, y.length = n + 1 := ⟨y.length - 1, by omega⟩
   rw [hn]; rfl
theorem spl_miss {y : List UInt8} (cur : List UInt8) (c : UInt8) (l : List UInt8) (h1 : y.length ≤ (c :: l).length) (h : ¬ (c :: l).take y.length = y) : spl y cur (c :: l) = spl y (cur ++ [c]) l := by
 rw [spl, spk, if_neg (by omega), if_neg h]
def psR (p : List UInt8) : List AV := [.str ⟨p.toArray⟩]
theorem ba_ext {s : ByteArray} (a b : Nat) : s.extract a b = ⟨((s.data.toList.take b).drop a).toArray⟩ := by
 rw [ByteArray.ext_iff]
 apply Array.ext'
 simp [List.drop_take]
theorem sp_sl (Ω : Om) (s : ByteArray) (a b : Nat) : Pr.sem Ω .sslice [.str s, ia a, ia b] = .str ⟨((s.data.toList.take b).drop a).toArray⟩ := by
 show AV.str (s.extract a b) = _
 rw [ba_ext]
theorem seg_snoc {l : List UInt8} {a i : Nat} (h : a ≤ i) (hi : i < l.length) : (l.take (i + 1)).drop a = (l.take i).drop a ++ [l[i]] := by
 rw [List.take_succ_eq_append_getElem hi, List.drop_append_of_le_length (by rw [List.length_take]; omega)]
theorem G10500 {Ω : Om} {s y : ByteArray} (hy : y.data.toList ≠ []) (hs : s.size < 1000000) (hys : y.size < 100) : ∀ (k i a K : Nat) (acc : List (List UInt8)), i + k = s.size → a ≤ i → k < K → acc.length ≤ i →
  ∃ (acc' : List (List UInt8)) (a' : Nat), loopG Ω B10500 K [.str s, .str y, mkL 1 (acc.map psR), ia a, ia i] = some (.tuple [ia 1, .str s, mkL 1 (acc'.map psR), ia a']) ∧ a' ≤ s.size ∧ acc'.length ≤ s.size ∧
    acc' ++ [s.data.toList.drop a'] = acc ++ spl y.data.toList ((s.data.toList.take i).drop a) (s.data.toList.drop i) := by
 intro k
 induction k using Nat.strongRecOn with
 | _ k ih =>
   intro i a K acc hik hai hk hacc
   obtain ⟨K, rfl⟩ : ∃ m, K = m + 1 := ⟨K - 1, by omega⟩
   have hl : s.data.toList.length = s.size := by show _ = s.data.size; simp
   have hly : y.data.toList.length = y.size := by show _ = y.data.size; simp
   have hy0 : 0 < y.size := by rw [← hly]; exact List.length_pos_iff.2 hy
   have w1 : IntKind.i64.wrap ((i : Int) + y.size) = ((i + y.size : Nat) : Int) := by rw [i64w (n := (i : Int) + y.size) (by omega) (by omega)]; omega
   have w2 : IntKind.i64.wrap ((i : Int) + 1) = ((i + 1 : Nat) : Int) := wS (by omega)
   have hi0 : ((s.data.toList.take i).drop a) ++ s.data.toList.drop i = s.data.toList.drop a := by
    have hal : a ≤ (s.data.toList.take i).length := by rw [List.length_take]; omega
    rw [← List.drop_append_of_le_length hal, List.take_append_drop]
   by_cases h1 : i + y.size ≤ s.size
   ·have e1 : ∀ Ω, Pr.sem Ω .sslice [.str s, ia i, ia ((i + y.size : Nat) : Int)] = .str ⟨((s.data.toList.drop i).take y.size).toArray⟩ := fun Ω => by
     rw [sp_sl, List.drop_take, Nat.add_sub_cancel_left]
    have e2 : ∀ Ω, Pr.sem Ω .sslice [.str s, ia a, ia i] = .str ⟨((s.data.toList.take i).drop a).toArray⟩ := fun Ω => sp_sl Ω s a i
    by_cases h2 : (s.data.toList.drop i).take y.size = y.data.toList
    ·obtain ⟨acc', a', g1, g2, g3, g4⟩ := ih (k - y.size) (by omega) (i + y.size) (i + y.size) K (acc ++ [(s.data.toList.take i).drop a]) (by omega) (Nat.le_refl _) (by omega) (by simp; omega)
     refine ⟨acc', a', ?_, g2, g3, ?_⟩
     ·rw [← g1]
      refine loopG_again ?_
      have e3 : mkL 1 ((acc ++ [(s.data.toList.take i).drop a]).map psR) = .sl 1 (acc.map psR ++ [[.str ⟨((s.data.toList.take i).drop a).toArray⟩]]) := by
       rw [List.map_append]; exact mkL_snoc 1 _ _
      have e4 : (⟨((s.data.toList.drop i).take y.size).toArray⟩ : ByteArray) = y := by rw [h2, ba_eta]
      rw [e4] at e1
      rw [e3]
      have b1 : (i : Int) ≤ ((i + y.size : Nat) : Int) := by omega
      have b2 : ((i + y.size : Nat) : Int) ≤ s.size := by omega
      have b3 : (acc.length : Int) + 1 ≤ 1073741824 := by omega
      have b4 : (i : Int) ≤ s.size := by omega
      have b5 : (a : Int) ≤ i := by omega
      generalize (⟨((s.data.toList.take i).drop a).toArray⟩ : ByteArray) = pc at *
      generalize i + y.size = j at *
      simp only [B10500, stepG, e105_0, e105_1, e105_2, e105_3, e105_4, e105_5]
      simp [w1, e1, e2, b1, b2, b3, b4, b5, hai]
     ·have h2' : (s.data.toList.drop i).take y.data.toList.length = y.data.toList := by rw [hly]; exact h2
      rw [g4, spl_hit hy _ _ h2', List.append_assoc, List.drop_drop, hly]
      simp [List.drop_take]
    ·have hi : i < s.data.toList.length := by omega
     obtain ⟨acc', a', g1, g2, g3, g4⟩ := ih (k - 1) (by omega) (i + 1) a K acc (by omega) (by omega) (by omega) (by omega)
     refine ⟨acc', a', ?_, g2, g3, ?_⟩
     ·rw [← g1]
      refine loopG_again ?_
      have e4 : ¬ (⟨((s.data.toList.drop i).take y.size).toArray⟩ : ByteArray) = y := by
       intro e
       apply h2
       have := congrArg (fun b : ByteArray => b.data.toList) e
       simpa using this
      have b1 : (i : Int) ≤ ((i + y.size : Nat) : Int) := by omega
      have b2 : ((i + y.size : Nat) : Int) ≤ s.size := by omega
      generalize (⟨((s.data.toList.drop i).take y.size).toArray⟩ : ByteArray) = pc at *
      generalize i + y.size = j at *
      push_cast at w2
      simp only [B10500, stepG, e105_0, e105_1, e105_2, e105_3, e105_4, e105_5]
      simp [w1, w2, e1, e4, b1, b2]
     ·rw [g4, seg_snoc hai hi, List.drop_eq_getElem_cons hi]
      rw [spl_miss _ _ _ (by rw [← List.drop_eq_getElem_cons hi, List.length_drop]; omega) (by rw [← List.drop_eq_getElem_cons hi, hly]; exact h2)]
   ·refine ⟨acc, a, ?_, by omega, by omega, ?_⟩
    ·refine loopG_out ?_
     generalize i + y.size = j at *
     have b1 : ¬ ((j : Nat) : Int) ≤ s.size := by omega
     simp [B10500, w1, b1]
    ·rw [spl_short _ _ (by rw [List.length_drop, hly]; omega), hi0]
theorem p105 {s y : ByteArray} (hy : y.data.toList ≠ []) (hs : s.size < 1000000) (hys : y.size < 100) :
  F105 [.str s, .str y] = some (.sl 1 ((spl y.data.toList [] s.data.toList).map psR)) := by
 obtain ⟨acc, a, g1, g2, g3, g4⟩ := G10500 (Ω := calO s105) hy hs hys s.size 0 0 KK [] (by omega) (Nat.le_refl _) (by rw [KK_eq]; omega) (Nat.le_refl _)
 simp only [List.take_zero, List.drop_nil, List.drop_zero, List.nil_append] at g4
 rw [← g4, List.map_append]
 have e : ∀ Ω, Pr.sem Ω .sslice [.str s, ia a, ia s.size] = .str ⟨(s.data.toList.drop a).toArray⟩ := fun Ω => by
  have hl : s.data.toList.length = s.size := by show _ = s.data.size; simp
  rw [sp_sl, List.take_of_length_le (by omega)]
 have g1' : loopG (calO s105) B10500 KK [.str s, .str y, .nils, ia 0, ia 0] = some (.tuple [ia 1, .str s, mkL 1 (acc.map psR), ia a]) := g1
 have b2 : (a : Int) ≤ s.size := by omega
 have b3 : (acc.length : Int) + 1 ≤ 1073741824 := by omega
 have b4 : (0 : Int) ≤ a := by omega
 simp only [F105, unitF_eq, t105, valT, e105_6, e105_7, e105_8, e105_9, e105_10, e105_11, e105_12, e105_13, e105_14, e105_15, e105_16, e105_17]
 simp [g1', e, b2, b3, b4, psR, v_sl, v_lit]
def Free (y p : List UInt8) : Prop := ∀ a c b, p = a ++ c :: b → ∀ r, (r = [] ∨ ∃ r', r = y ++ r') → ¬ (c :: (b ++ r)).take y.length = y
theorem spl_piece {y : List UInt8} (hy : y ≠ []) {r : List UInt8} (hr : r = [] ∨ ∃ r', r = y ++ r') : ∀ (p cur : List UInt8), (∀ a c b, p = a ++ c :: b → ¬ (c :: (b ++ r)).take y.length = y) → spl y cur (p ++ r) = spl y (cur ++ p) r
 | [], cur, _ => by simp
 | c :: p, cur, h => by
   by_cases h1 : y.length ≤ ((c :: p) ++ r).length
   ·show spl y cur (c :: (p ++ r)) = _
    rw [spl_miss cur c (p ++ r) h1 (h [] c p rfl), spl_piece hy hr p (cur ++ [c]) (fun a d b e => h (c :: a) d b (by rw [e]; rfl))]
    simp
   ·rcases hr with rfl | ⟨r', rfl⟩
    ·rw [spl_short _ _ (by omega), spl_short _ [] (by simp; exact List.length_pos_iff.2 hy)]
     simp
    ·exfalso
     simp only [List.length_append, List.length_cons] at h1
     omega
theorem spl_join {y : List UInt8} (hy : y ≠ []) : ∀ (x : List UInt8) (xs : List (List UInt8)), (∀ p ∈ x :: xs, Free y p) → spl y [] (Lib.join (x :: xs) y) = x :: xs
 | x, [], h => by
   rw [Lib.join_one]
   have := spl_piece hy (.inl rfl) x [] (fun a c b e => h x (.head _) a c b e [] (.inl rfl))
   rw [List.append_nil] at this
   rw [this, spl_short _ [] (by simp; exact List.length_pos_iff.2 hy)]
   simp
 | x, z :: xs, h => by
   have e : Lib.join (x :: z :: xs) y = x ++ (y ++ Lib.join (z :: xs) y) := by
    rw [Lib.join_cons, Lib.join_cons]
    simp [Lib.joinTail]
   rw [e, spl_piece hy (.inr ⟨_, rfl⟩) x [] (fun a c b e => h x (.head _) a c b e _ (.inr ⟨_, rfl⟩)), spl_hit hy _ _ (by simp), List.drop_left, spl_join hy z xs (fun p hp => h p (.tail _ hp))]
   simp
end Go.Proofs.YtdeaibcebeofiaaGreatDoor.C5

namespace Go.Proofs.YtdeaibcebeofiaaGreatDoor.C5
open Go Go.Proofs.YtdeaibcebeofiaaGreatDoor.AM
set_option maxRecDepth 20000
set_option maxHeartbeats 4000000
theorem free1 {p : List UInt8} (h : ∀ b ∈ p, b ≠ 32) : Free [32] p := by
 intro a c b e r _ ht
 have hc : c ∈ p := by rw [e]; simp
 simp at ht
 exact h c hc ht
theorem free3 {p : List UInt8} (h : ∀ b ∈ p, b ≠ 47) : Free [32, 47, 32] p := by
 intro a c b e r hr ht
 have h2 : (b ++ r)[0]? = some 47 := by
  cases hb : b ++ r with
  | nil => rw [hb] at ht; simp at ht
  | cons d l => rw [hb] at ht; simp at ht; simp [ht.2.1]
 cases b with
 | nil =>
   rcases hr with rfl | ⟨r', rfl⟩
   ·simp at h2
   ·simp at h2
 | cons d b =>
   simp at h2
   exact h d (by rw [e]; simp) h2
theorem s_isNil (Ω : Om) (a : AV) : Pr.sem Ω .isNil [a] = .bool a.nilB := rfl
theorem byte_at (Ω : Om) (s : ByteArray) (i : Nat) : Pr.sem Ω .byte [.str s, ia i] = .int .u8 (match s.data.toList[i]? with | some b => b.toNat | none => 0) := by
 show AV.int .u8 (match s[i]? with | some b => b.toNat | none => 0) = _
 have : s[i]? = s.data.toList[i]? := by
  rcases s with ⟨d⟩
  by_cases h : i < d.size
  ·have h' : i < (ByteArray.mk d).size := h
   rw [getElem?_pos (ByteArray.mk d) i h']
   simp [h]; rfl
  ·have h' : ¬ i < (ByteArray.mk d).size := h
   rw [getElem?_neg (ByteArray.mk d) i h']
   simp [h]
 rw [this]
theorem app_bytes (a b : ByteArray) : (a ++ b).data.toList = a.data.toList ++ b.data.toList := by simp
theorem one_piece {s : ByteArray} (hs : s.size < 1000000) (h : ∀ b ∈ s.data.toList, b ≠ 32) : F105 [.str s, .str w15] = some (.sl 1 [[.str s]]) := by
 have := p105 (s := s) (y := w15) (by decide) hs (by decide)
 rw [this]
 have e := spl_join (y := w15.data.toList) (by decide) s.data.toList [] (fun p hp => by
  rcases List.mem_cons.1 hp with rfl | hp
  ·exact free1 h
  ·cases hp)
 rw [Lib.join_one] at e
 rw [e]
 simp [psR, ba_eta]
theorem two_pieces {s a b : ByteArray} (e0 : s = a ++ (w15 ++ b)) (hs : s.size < 1000000) (ha : ∀ x ∈ a.data.toList, x ≠ 32) (hb : ∀ x ∈ b.data.toList, x ≠ 32) : F105 [.str s, .str w15] = some (.sl 1 [[.str a], [.str b]]) := by
 have := p105 (s := s) (y := w15) (by decide) hs (by decide)
 rw [this]
 have e := spl_join (y := w15.data.toList) (by decide) a.data.toList [b.data.toList] (fun p hp => by
  rcases List.mem_cons.1 hp with rfl | hp
  ·exact free1 ha
  ·rcases List.mem_cons.1 hp with rfl | hp
   ·exact free1 hb
   ·cases hp)
 have e1 : s.data.toList = Lib.join [a.data.toList, b.data.toList] w15.data.toList := by
  rw [e0, app_bytes, app_bytes, Lib.join_cons]
  simp [Lib.joinTail]
 rw [e1, e]
 simp [psR, ba_eta]
theorem p106 {t : Tk} (h : TkOk t) : F106 [.str (tkB t)] = some (.tuple [.agg (tkR t), .bool true]) := by
 have hz := tkB_sz h
 obtain ⟨d, ho, pl, top, zo⟩ := t
 rcases h with ⟨rfl, g1, g2, g3, g4⟩ | ⟨rfl, g1, g2, g3, g4, g5, g6, g7⟩ <;> simp only at *
 ·rcases g3 with rfl | ⟨rfl, rfl, rfl⟩
  ·subst g4
   obtain ⟨b1, b2⟩ := pad_bytes g1 (by omega)
   have c1 := p171 g1 (by omega)
   have e0 : tkB (w0, ho, pl, 0, 0) = if pl then padB ho 1 ++ w12 else padB ho 1 := by
    rw [tkB, if_neg n01, leadB]; rfl
   rw [e0] at hz ⊢
   have hl : (padB ho 1).data.toList.length = (padB ho 1).size := by show _ = (padB ho 1).data.size; simp
   generalize padB ho 1 = P at *
   have k1 : w12.size = 1 := rfl
   cases pl
   ·have m1 : ¬ P = w13 := fun e => by
     have := (b1 84 (by rw [e]; decide)).2
     exact absurd this (by decide)
    have m2 := one_piece (s := P) (by simp at hz; omega) (fun b hb e => by
     have := (b1 b hb).1
     rw [e] at this
     exact absurd this (by decide))
    have m3 : IntKind.i64.wrap ((P.size : Int) - 1) = ((P.size - 1 : Nat) : Int) := by
     rw [i64w (n := (P.size : Int) - 1) (by simp at hz; omega) (by simp at hz; omega)]; omega
    have m4 := fun Ω => byte_at Ω P (P.size - 1)
    have m5 : P.data.toList[P.size - 1]? = some (P.data.toList[P.size - 1]'(by omega)) := List.getElem?_eq_getElem _
    have m6 := (b1 _ (List.getElem_mem (l := P.data.toList) (n := P.size - 1) (by omega))).1
    rw [m5] at m4
    generalize P.data.toList[P.size - 1]'(by omega) = lb at *
    have m7 : ¬ ((lb.toNat : Nat) : Int) = 43 := by
     have : (48 : UInt8).toNat ≤ lb.toNat := m6
     have : (48 : UInt8).toNat = 48 := rfl
     omega
    have m8 : ((P.size - 1 : Nat) : Int) < P.size := by omega
    have m9 : (0 : Int) ≤ ((P.size - 1 : Nat) : Int) := by omega
    have m10 : (0 : Int) < P.size := by omega
    simp only at m4
    generalize P.size - 1 = q at *
    simp [F106, unitF_eq, t106, tkR, m1, m2, m3, m4, m7, m8, m10, b2, c1]
   ·have m1 : ¬ P ++ w12 = w13 := fun e => by
     have : (43 : UInt8) ∈ (P ++ w12).data.toList := by rw [app_bytes]; exact List.mem_append_right _ (by decide)
     rw [e] at this
     exact absurd this (by decide)
    simp only [if_true] at hz ⊢
    have m2 := one_piece (s := P ++ w12) (by omega) (fun b hb e => by
     rw [app_bytes] at hb
     rcases List.mem_append.1 hb with hb | hb
     ·have := (b1 b hb).1
      rw [e] at this
      exact absurd this (by decide)
     ·rw [e] at hb; exact absurd hb (by decide))
    have m0 : (P ++ w12).size = P.size + 1 := by rw [ByteArray.size_append]; rfl
    have m3 : IntKind.i64.wrap (P.size : Int) = P.size := i64w (by omega) (by omega)
    have m4 := fun Ω => byte_at Ω (P ++ w12) P.size
    have m5 : (P ++ w12).data.toList[P.size]? = some 43 := by
     rw [app_bytes, List.getElem?_append_right (by omega), hl, Nat.sub_self]; rfl
    rw [m5] at m4
    have m6 : ∀ Ω, Pr.sem Ω .sslice [.str (P ++ w12), ia 0, ia P.size] = .str P := fun Ω => by
     have := sp_sl Ω (P ++ w12) 0 P.size
     rw [app_bytes, ← hl, List.take_left, List.drop_zero, hl, ba_eta] at this
     exact this
    have m7 : (UInt8.toNat 43 : Int) = 43 := rfl
    have m10 : (0 : Int) < ((P.size + 1 : Nat) : Int) := by omega
    simp only [m7] at m4
    generalize P ++ w12 = S at *
    push_cast at m10
    have m11 : (P.size : Int) < P.size + 1 := by omega
    have m12 : (P.size : Int) ≤ P.size + 1 := by omega
    simp [F106, unitF_eq, t106, tkR, m0, m1, m2, m3, m4, m6, m11, m12, c1]
  ·subst g4
   have e0 : tkB (w0, 0, false, 1, 0) = w13 := rfl
   rw [e0]
   simp [F106, unitF_eq, t106, tkR]
 ·subst g1; subst g2
  have e0 : tkB (w1, 0, false, top, zo) = attB w14 top ++ (w15 ++ attB w16 zo) := by
   rw [tkB, if_pos rfl]; rfl
  have c1 := p170T g3 g4
  have c2 := p170Z g5 g6
  have m2 := two_pieces (s := tkB (w1, 0, false, top, zo)) e0 (by omega) (fun b hb => (attT_b g3 g4 b hb).1) (fun b hb => (attZ_b g5 g6 b hb).1)
  have m1 : ¬ tkB (w1, 0, false, top, zo) = w13 := fun e => by
   have : (32 : UInt8) ∈ (tkB (w1, 0, false, top, zo)).data.toList := by
    rw [e0, app_bytes, app_bytes]
    exact List.mem_append_right _ (List.mem_append_left _ (by decide))
   rw [e] at this
   exact absurd this (by decide)
  generalize tkB (w1, 0, false, top, zo) = S at *
  generalize attB w14 top = A at *
  generalize attB w16 zo = Z at *
  simp [F106, unitF_eq, t106, tkR, m1, m2, c1, c2]
theorem p107 {t : Tk} (h : TkOk t) : F107 (tkR t) = some (ia 0) := by
 obtain ⟨d, ho, pl, top, zo⟩ := t
 rcases h with ⟨rfl, g1, g2, g3, rfl⟩ | ⟨rfl, rfl, rfl, g3, g4, g5, g6, g7⟩ <;> simp only at *
 ·have a1 : ¬ ho < 0 := by omega
  have a2 : ¬ 64 < ho := by omega
  rcases g3 with rfl | ⟨rfl, rfl, rfl⟩ <;> simp [F107, unitF_eq, t107, tkR, a1, a2]
 ·have a1 : ¬ top < 0 := by omega
  have a2 : ¬ 99 < top := by omega
  have a3 : ¬ zo < 0 := by omega
  have a4 : ¬ 99 < zo := by omega
  by_cases ht : top > 0
  ·have h1 := (g7 ht).1
   have h2 : ¬ top < zo := by have := (g7 ht).2; omega
   simp [F107, unitF_eq, t107, tkR, n10, a1, a2, a3, a4, ht, h1, h2]
  ·have ht' : ¬ 0 < top := ht
   simp [F107, unitF_eq, t107, tkR, n10, a1, a2, a3, a4, ht']
theorem tk_free {t : Tk} (h : TkOk t) : Free [32, 47, 32] (tkB t).data.toList := by
 refine free3 fun b hb e => ?_
 obtain ⟨d, ho, pl, top, zo⟩ := t
 rcases h with ⟨rfl, g1, g2, g3, g4⟩ | ⟨rfl, g1, g2, g3, g4, g5, g6, g7⟩ <;> simp only at *
 ·obtain ⟨b1, b2⟩ := pad_bytes g1 (by omega)
  rw [tkB, if_neg n01, leadB] at hb
  have hd : ∀ x ∈ (padB ho 1).data.toList, ¬ x = 47 := fun x hx e => by
   have := (b1 x hx).1
   rw [e] at this
   exact absurd this (by decide)
  subst e
  split at hb
  ·exact absurd hb (by decide)
  ·split at hb
   ·rw [app_bytes] at hb
    rcases List.mem_append.1 hb with hb | hb
    ·exact hd _ hb rfl
    ·exact absurd hb (by decide)
   ·exact hd _ hb rfl
 ·rw [tkB, if_pos rfl, boulB, app_bytes, app_bytes] at hb
  subst e
  rcases List.mem_append.1 hb with hb | hb
  ·exact (attT_b g3 g4 _ hb).2 rfl
  ·rcases List.mem_append.1 hb with hb | hb
   ·exact absurd hb (by decide)
   ·exact (attZ_b g5 g6 _ hb).2 rfl
theorem G4800 {ts : List Tk} {d : ByteArray} {n : Nat} (hk : TksOk ts d n) :
  loopG (calO s48) B4800 KK [.sl 1 ((ts.map tkB).map strR), .nils, ia 0] = some (.tuple [ia 2, mkL 5 (ts.map tkR)]) := by
 have hl := hk.len
 have hle := hk.le
 have h : IsL 1 ((ts.map tkB).map strR) (.sl 1 ((ts.map tkB).map strR)) := .inl rfl
 generalize AV.sl 1 ((ts.map tkB).map strR) = a at *
 have hlen : a.lenN = ts.length := by rw [h.lenM, List.length_map]
 refine loopF (fun i => [a, mkL 5 ((ts.take i).map tkR), ia i]) ts.length _ (by omega) (fun i hi => ?_) ?_
 ·have hr : nth a.rowsL (Int.toNat (i : Int)) = some [.str (tkB ts[i])] := by
   have := h.row (i := i) (by rw [List.length_map]; exact hi)
   rw [this]; simp [strR]
  have hw := wS (i := i) (by omega)
  obtain ⟨o, di⟩ := hk.ok ts[i] (List.getElem_mem hi)
  have d0 := (hk.ok ts[0] (List.getElem_mem (by omega))).2
  have c1 := p106 o
  have c2 := p107 o
  have ht : mkL 5 ((ts.take (i + 1)).map tkR) = .sl 5 ((ts.take i).map tkR ++ [tkR ts[i]]) := by
   rw [← mkL_snoc, take_snoc hi, List.map_append]; rfl
  have hb : (i : Int) + 1 ≤ 1073741824 := by omega
  have hb2 : ¬ (256 : Int) ≤ i := by omega
  have hll : (ts.take i).length = i := by rw [List.length_take]; omega
  have hrow0 : 0 < i → nth ((ts.take i).map tkR) 0 = some (tkR ts[0]) ∧ (mkL 5 ((ts.take i).map tkR)).nilB = false := fun hp => by
   obtain ⟨t, tl, rfl⟩ := List.exists_cons_of_length_eq_add_one hl
   obtain ⟨j, rfl⟩ : ∃ j, i = j + 1 := ⟨i - 1, by omega⟩
   exact ⟨rfl, rfl⟩
  rw [ht]
  generalize ts[0] = t0 at *
  generalize ts[i] = t at *
  generalize htk : ts.take i = tk at *
  obtain ⟨x1, x2, x3, x4, x5⟩ := t
  obtain ⟨y1, y2, y3, y4, y5⟩ := t0
  simp only at d0 di
  subst d0 di
  simp only [tkR, Int.toNat_natCast] at hr c1 c2 hrow0
  push_cast at hw ⊢
  by_cases hp : 0 < i
  ·obtain ⟨r0, r1⟩ := hrow0 hp
   have hp' : (0 : Int) < i := by omega
   simp [B4800, hlen, hr, hi, hw, hb, hb2, c1, c2, hll, hp, r0, r1, s_isNil, tkR]
  ·simp [B4800, hlen, hr, hi, hw, hb, hb2, c1, c2, hll, hp, tkR]
 ·simp [B4800, hlen]
theorem p48 {ts : List Tk} {d : ByteArray} {n : Nat} (hk : TksOk ts d n) : F48 [.str (joinS (ts.map tkB))] = some (.tuple [mkL 5 (ts.map tkR), ia 0, ia 0]) := by
 have hG := G4800 hk
 have hl := hk.len
 have hle := hk.le
 have hz := joinS_sz (n := n) (xs := ts.map tkB) (by rw [List.length_map, hl]) hk.sz
 rw [List.length_map, hl] at hz
 have hpos : 0 < (joinS (ts.map tkB)).size := by
  obtain ⟨t, tl, rfl⟩ := List.exists_cons_of_length_eq_add_one hl
  have h0 : 0 < (tkB t).size := by
   obtain ⟨o, _⟩ := hk.ok t (.head _)
   obtain ⟨d, ho, pl, top, zo⟩ := t
   rcases o with ⟨rfl, g1, g2, g3, g4⟩ | ⟨rfl, g1, g2, g3, g4, g5, g6, g7⟩ <;> simp only at *
   ·have b2 := (pad_bytes g1 (by omega)).2
    rw [tkB, if_neg n01, leadB]
    split
    ·decide
    ·split
     ·rw [ByteArray.size_append]; exact Nat.lt_of_lt_of_le b2 (Nat.le_add_right _ _)
     ·exact b2
   ·rw [tkB, if_pos rfl, boulB, ByteArray.size_append, ByteArray.size_append]
    have : w15.size = 1 := rfl
    omega
  cases tl with
  | nil => rw [List.map_cons, List.map_nil, joinS_one]; exact h0
  | cons t' tl =>
    have e : (joinS ((t :: t' :: tl).map tkB)).data.toList = (tkB t).data.toList ++ Lib.joinTail w19.data.toList (((t' :: tl).map tkB).map (·.data.toList)) := by
     rw [joinS, joinB]
     simp only [List.map_cons]
     rw [Lib.join_cons]
    have hl2 : (tkB t).data.toList.length = (tkB t).size := by show _ = (tkB t).data.size; simp
    have hl3 : (joinS ((t :: t' :: tl).map tkB)).data.toList.length = (joinS ((t :: t' :: tl).map tkB)).size := by show _ = (joinS ((t :: t' :: tl).map tkB)).data.size; simp
    rw [← hl3, e, List.length_append]
    omega
 have c : F105 [.str (joinS (ts.map tkB)), .str w19] = some (.sl 1 ((ts.map tkB).map strR)) := by
  have := p105 (s := joinS (ts.map tkB)) (y := w19) (by decide) (by omega) (by decide)
  rw [this]
  obtain ⟨t, tl, rfl⟩ := List.exists_cons_of_length_eq_add_one hl
  have e := spl_join (y := w19.data.toList) (by decide) (tkB t).data.toList ((tl.map tkB).map (·.data.toList)) (fun p hp => by
   rcases List.mem_cons.1 hp with rfl | hp
   ·exact tk_free (hk.ok t (.head _)).1
   ·obtain ⟨x, hx, rfl⟩ := List.mem_map.1 hp
    obtain ⟨y, hy, rfl⟩ := List.mem_map.1 hx
    exact tk_free (hk.ok y (.tail _ hy)).1)
  have e1 : (joinS ((t :: tl).map tkB)).data.toList = Lib.join ((tkB t).data.toList :: (tl.map tkB).map (·.data.toList)) w19.data.toList := rfl
  rw [e1, e]
  simp [psR, ba_eta, strR]
 have hok := tks_ok ts
 have hp : (Sh.sl [.str]).ok (.sl 1 ((ts.map tkB).map strR)) = true := by simp [strR]
 generalize joinS (ts.map tkB) = S at *
 generalize AV.sl 1 ((ts.map tkB).map strR) = a at *
 generalize mkL 5 (ts.map tkR) = M at *
 have z1 : ¬ (4096 : Int) < S.size := by omega
 have z2 : ¬ (S.size : Int) = 0 := by omega
 have z3 : ¬ S.size = 0 := by omega
 simp [F48, unitF_eq, t48, z1, z3, c, hp, hG]
def mxS (o n : Int) : Int := if n > o then n else o
theorem G4700 {Ω : Om} {a : AV} {rs : List Int} (o : Int) (h : IsL 1 (rs.map intR) a) (hn : rs.length < 1048577) :
  loopG Ω B4700 KK [ia o, a, ia rs.length, ia 0] = some (.tuple [ia 1, ia (rs.foldl mxS o)]) := by
 have e : rs.foldl mxS o = (rs.take rs.length).foldl mxS o := by rw [List.take_length]
 rw [e]
 refine loopF (fun i => [ia ((rs.take i).foldl mxS o), a, ia rs.length, ia i]) rs.length _ (by omega) (fun i hi => ?_) ?_
 ·have hr : nth a.rowsL (Int.toNat (i : Int)) = some [ia rs[i]] := h.row hi
  have hw := wS (i := i) (by omega)
  have hb : (rs.take (i + 1)).foldl mxS o = mxS ((rs.take i).foldl mxS o) rs[i] := by rw [take_snoc hi, List.foldl_append]; rfl
  simp only [Int.toNat_natCast] at hr
  push_cast at hw
  rw [hb]
  generalize (rs.take i).foldl mxS o = p
  generalize rs[i] = n at hr ⊢
  by_cases h1 : n > p <;> simp [B4700, h.lenM, hr, hi, hw, mxS, h1]
 ·simp [B4700]
theorem p47 {a : AV} {rs : List Int} (h : IsL 1 (rs.map intR) a) (hn : rs.length < 1048577) (hp : 0 < rs.length) (hv : ∀ x ∈ rs, 0 ≤ x ∧ x ≤ 86399999) : ∃ g : Int, F47 [a] = some (ia g) ∧ (g = 0 ↔ bestI rs = 0) := by
 have hr : nth a.rowsL (Int.toNat ((0 : Nat) : Int)) = some [ia rs[0]] := h.row hp
 have hr' : nth a.rowsL 0 = some [ia rs[0]] := hr
 have hG := G4700 (Ω := calO s47) rs[0] h hn
 have h0 : rs[0] ∈ rs := List.getElem_mem hp
 refine ⟨rs.foldl mxS rs[0], ?_, ?_⟩
 ·have hp' : ¬ rs = [] := fun e => by rw [e] at hp; cases hp
  generalize rs[0] = z at *
  simp [F47, unitF_eq, t47, h.lenM, hp, hr', hG]
 ·have m1 : ∀ (l : List Int) (o : Int), 0 ≤ o → (∀ x ∈ l, 0 ≤ x ∧ x ≤ 86399999) → (l.foldl mxS o = 0 ↔ o = 0 ∧ ∀ x ∈ l, ¬ x > 0) := by
   intro l
   induction l with
   | nil => intro o _ _; simp
   | cons n l ih =>
     intro o ho hl
     have hn := hl n (.head _)
     have : 0 ≤ mxS o n := by unfold mxS; split <;> omega
     rw [List.foldl_cons, ih _ this (fun x hx => hl x (.tail _ hx))]
     have e : mxS o n = 0 ↔ o = 0 ∧ ¬ n > 0 := by unfold mxS; split <;> omega
     rw [e]
     simp [and_assoc]
  have m2 : ∀ (l : List Int) (o : Int), 0 ≤ o → (∀ x ∈ l, 0 ≤ x ∧ x ≤ 86399999) → (l.foldl bestS o = 0 ↔ o = 0 ∧ ∀ x ∈ l, ¬ x > 0) := by
   intro l
   induction l with
   | nil => intro o _ _; simp
   | cons n l ih =>
     intro o ho hl
     have hn := hl n (.head _)
     have : 0 ≤ bestS o n := by unfold bestS; split <;> omega
     rw [List.foldl_cons, ih _ this (fun x hx => hl x (.tail _ hx))]
     have e : bestS o n = 0 ↔ o = 0 ∧ ¬ n > 0 := by unfold bestS; split <;> omega
     rw [e]
     simp [and_assoc]
  rw [m1 rs rs[0] (hv _ h0).1 hv, bestI, m2 rs 0 (Int.le_refl _) hv]
  constructor
  ·exact fun h => ⟨rfl, h.2⟩
  ·exact fun h => ⟨by have := h.2 _ h0; have := (hv _ h0).1; omega, h.2⟩
end Go.Proofs.YtdeaibcebeofiaaGreatDoor.C5

namespace Go.Proofs.YtdeaibcebeofiaaGreatDoor.C5
open Go Go.Proofs.YtdeaibcebeofiaaGreatDoor.AM
set_option maxRecDepth 20000
set_option maxHeartbeats 8000000
abbrev clbS : List Sh := [.str, .str, .int .i64, .int .i64, .int .i64, .int .i64, .bool, .bool, .bool, .sl [.int .i64, .int .i64, .int .i64, .bool], .sl [.int .i64]]
theorem sh_ok {a : AV} {cs : List Clb} (h : IsL 11 (cs.map Clb.row) a) (hc : ∀ c ∈ cs, ClbOk c) : (Sh.sl clbS).ok a = true := by
 refine h.ok rfl ?_
 rw [List.all_map, List.all_eq_true]
 intro c hm
 obtain ⟨h1, h2⟩ := Clb.ok (hc c hm)
 simp [clbS, Clb.row, h1, h2]
theorem ck_all {f : ByteArray} {ns : List ByteArray} {n ti time : Int} {cs : List Clb} (h : ckStA f ns n ti time cs = 0) : ckRound f ns n ti = 0 ∧ cs.length = ns.length ∧ ∀ c ∈ cs, ckClimb f n ti time c = 0 := by
 unfold ckStA at h
 split at h
 ·contradiction
 ·rename_i h1
  split at h
  ·cases h
  ·split at h
   ·cases h
   ·rename_i h2
    refine ⟨Decidable.not_not.1 h1, Decidable.not_not.1 h2, fun c hm => ?_⟩
    obtain ⟨i, hi, rfl⟩ := List.getElem_of_mem hm
    have := fz_all h (cdA f n ti time cs i) (List.mem_map_of_mem (by simp only [List.mem_range'_1]; omega))
    unfold cdA at this
    have hg : cs.getD i c0 = cs[i] := by simp [hi]
    rw [hg] at this
    split at this
    ·assumption
    ·exact this
@[simp] theorem okr3 (r s t : RS) (l : List AV) : RS.okr [r, s, t] (.tuple l) = RS.oks [r, s, t] l := rfl
theorem G701 {Ω : Om} {v0 v1 v2 v4 v5 a v9 v10 v11 v12 v13 v14 : AV} {ts : List Tri} (h : IsL 4 (ts.map triR) a) (hl : ts.length ≤ 8) :
  loopG Ω B701 KK [v0, v1, v2, ia 0, v4, v5, a, ia ts.length, ia 0, v9, v10, v11, v12, v13, v14] = some (.tuple [ia 1, v0, v1, v2, ia (smI gT ts), v4, v5, v9, v10, v11, v12, v13, v14]) := by
 refine loopF (fun i => [v0, v1, v2, ia (smI gT (ts.take i)), v4, v5, a, ia ts.length, ia i, v9, v10, v11, v12, v13, v14]) ts.length _ (by omega) (fun i hi => ?_) ?_
 ·have hr : nth a.rowsL (Int.toNat (i : Int)) = some (triR ts[i]) := h.row hi
  have hw := wS (i := i) (by omega)
  have l1 : (ts.take i).length ≤ 8 := by rw [List.length_take]; omega
  have b1 := smI_le (g := gT) (l := ts.take i) (fun t h => by unfold gT; split <;> omega)
  rw [smI_take gT hi]
  generalize smI gT (ts.take i) = x at *
  generalize ts[i] = t at *
  have y1 : IntKind.i64.wrap (x + 1) = x + 1 := i64w (by omega) (by omega)
  obtain ⟨t1, t2, t3, t4⟩ := t
  simp only [triR, Int.toNat_natCast] at hr
  push_cast at hw
  by_cases e : t3 > 0 <;> simp [B701, h.lenM, hr, hi, hw, gT, e, y1]
 ·simp [B701]
theorem G702 {Ω : Om} {v0 v1 v3 v4 a v8 v9 v10 v11 v12 v13 : AV} {rs : List Int} (h : IsL 1 (rs.map intR) a) (hn : rs.length < 1048577) (hv : ∀ x ∈ rs, 0 ≤ x ∧ x ≤ 86399999) :
  loopG Ω B702 KK [v0, v1, .sl 1 [[ia (- bestI rs)]], v3, v4, a, ia rs.length, ia 0, v8, v9, v10, v11, v12, v13] = some (.tuple [ia 2, v0, v1, v3, v4, v8, v9, v10, v11, v12, v13]) := by
 have hm : ∀ (l : List Int) (o : Int), 0 ≤ o → (∀ x ∈ l, 0 ≤ x) → (0 < o → l.foldl bestS o ≤ o) ∧ ∀ x ∈ l, x > 0 → l.foldl bestS o ≤ x := by
  intro l
  induction l with
  | nil => intro o _ _; exact ⟨fun _ => Int.le_refl _, by simp⟩
  | cons n l ih =>
    intro o ho hl
    have h0 := hl n (.head _)
    have hb : 0 ≤ bestS o n := by unfold bestS; split <;> omega
    obtain ⟨g1, g2⟩ := ih (bestS o n) hb (fun x hx => hl x (.tail _ hx))
    rw [List.foldl_cons]
    refine ⟨fun hp => ?_, fun x hx hx0 => ?_⟩
    ·have e : 0 < bestS o n ∧ bestS o n ≤ o := by unfold bestS; split <;> omega
     have := g1 e.1
     omega
    ·rcases List.mem_cons.1 hx with rfl | hx
     ·have e : 0 < bestS o x ∧ bestS o x ≤ x := by unfold bestS; split <;> omega
      have := g1 e.1
      omega
     ·exact g2 x hx hx0
 refine loopF (fun i => [v0, v1, .sl 1 [[ia (- bestI rs)]], v3, v4, a, ia rs.length, ia i, v8, v9, v10, v11, v12, v13]) rs.length _ (by omega) (fun i hi => ?_) ?_
 ·have hr : nth a.rowsL (Int.toNat (i : Int)) = some [ia rs[i]] := h.row hi
  have hw := wS (i := i) (by omega)
  have hx := hv rs[i] (List.getElem_mem hi)
  have hb := (hm rs 0 (Int.le_refl _) (fun x hx => (hv x hx).1)).2 rs[i] (List.getElem_mem hi)
  have e : rs.foldl bestS 0 = bestI rs := rfl
  rw [e] at hb
  generalize bestI rs = b at *
  generalize rs[i] = n at *
  have y1 : IntKind.i64.wrap (- n) = - n := i64w (by omega) (by omega)
  simp only [Int.toNat_natCast] at hr
  push_cast at hw
  by_cases e : n > 0
  ·have hb' : ¬ - b < - n := by have := hb e; omega
   have hb2 : ¬ n < b := by have := hb e; omega
   simp [B702, h.lenM, hr, hi, hw, e, y1, s_neg, hb2]
  ·simp [B702, h.lenM, hr, hi, hw, e, y1, s_neg]
 ·simp [B702]
theorem smI_mono {g g' : Tri → Int} : ∀ {l : List Tri}, (∀ t ∈ l, g t ≤ g' t) → smI g l ≤ smI g' l
 | [], _ => Int.le_refl _
 | t :: l, h => by
   have h1 := h t (.head _)
   have h2 := smI_mono (l := l) (fun x hx => h x (.tail _ hx))
   have e1 : smI g (t :: l) = g t + smI g l := rfl
   have e2 : smI g' (t :: l) = g' t + smI g' l := rfl
   omega
theorem clock_not {n : Int} : ¬ clockB n = w11 := fun e => by
 have h : 1 < (clockB n).size := by
  have k1 := sz17
  have k2 := sz18
  have hp : ∀ (m : Int) (d : Nat), 1 ≤ d → 1 ≤ (padB m d).size := fun m d hd => by
   show 1 ≤ (gD _ _).toArray.size
   rw [List.size_toArray, gD_len]; omega
  have a1 := hp (n / 1000) 1 (by omega)
  have a2 := hp (n / 1000 / 60) 1 (by omega)
  have a3 := hp (n / 1000 / 60 / 60) 1 (by omega)
  unfold clockB
  split
  ·simp only [ByteArray.size_append]; omega
  ·split <;> simp only [ByteArray.size_append] <;> omega
 rw [e] at h
 exact absurd h (by decide)
def valR (f : ByteArray) (n : Int) (c : Clb) : AV := mkL 1 ((if c.st = w3 then valI f n c else []).map intR)
theorem G700s {R names a nm : AV} {e1 : Int} {f : ByteArray} {n ti time : Int} {c : Clb} {i m : Nat} (hm : m < 1048577) (hi : i < m) (hla : a.lenN = m) (hc : ClbOk c) (v : ClbV f n c) (hf : f = w0 ∨ f = w1 ∨ f = w2)
  (hrow : nth a.rowsL i = some c.row) (he : e1 = 0 ∨ e1 = 24) (hlR : e1 = 0 → R.lenN = m) (hR : e1 = 0 → nth R.rowsL i = some [nm, .str c.st, valR f n c])
  (h94 : F94 [.str f, names, ia n, ia ti, ia time, a, ia i] = some (.tuple [.agg c.row, ia 0])) :
  stepG (omL KK s7 [d702, d701]) [R, ia e1, ia m, ia i, ia time, a, .str f, names, ia n, ia ti] B700 = some (.inl [R, ia e1, ia m, ia ((i + 1 : Nat) : Int), ia time, a, .str f, names, ia n, ia ti]) := by
 have h40 := p40 hc v hf h94
 have h49 := p49 hc h94
 have hw := wS (i := i) (by omega)
 have hru : c.ru.lenN = c.rs.length := hc.r.lenM
 have htr : c.tr.lenN = c.ts.length := hc.t.lenM
 simp only [Clb.row] at hrow
 push_cast at hw
 have u := v.us
 have o := v.ho
 have q1 := v.n1
 have q2 := v.n2
 rcases tf_or (c.st = w3) with e2 | e2
 ·have es : sheetB f c = textB f c := by unfold sheetB; rw [if_pos (of_eq_true e2)]
  rw [es] at h40
  unfold textB at h40
  have eR : valR f n c = mkL 1 ((valI f n c).map intR) := by unfold valR; rw [if_pos (of_eq_true e2)]
  rcases hf with rfl | rfl | rfl
  ·
   obtain ⟨k, hk⟩ := tksOk v (.inl rfl)
   have h48 := p48 hk
   have tl : (tksL w0 c).length < 1048577 := by rw [hk.len]; have := hk.le; omega
   have h51 := p51 (mkL_isL 5 _) tl
   have h50 := p50 (mkL_isL 5 _) (mkL_isL 5 _) tl
   have okT := tks_ok (tksL w0 c)
   simp only [n02, if_false, if_true, not_false_eq_true, and_self, decide_false] at h40 h49
   generalize joinS ((tksL w0 c).map tkB) = S at *
   generalize mkL 5 ((tksL w0 c).map tkR) = M at *
   rcases he with rfl | rfl
   ·have r1 := hR rfl
    have r2 := hlR rfl
    rw [eR] at r1
    have y1 : IntKind.i64.wrap (2 * c.ho) = 2 * c.ho := i64w (by omega) (by omega)
    have y2 : IntKind.i64.wrap (2 * c.ho + 1) = 2 * c.ho + 1 := i64w (by omega) (by omega)
    have y3 : IntKind.i64.wrap (2 * n) = 2 * n := i64w (by omega) (by omega)
    have y4 : IntKind.i64.wrap (2 * n + 1) = 2 * n + 1 := i64w (by omega) (by omega)
    have y5 : ¬ (0 : Int) < - c.us := by omega
    have y6 : ¬ c.us < 0 := by omega
    have y7 : ¬ 2 * n + 2 ≤ 2 * n + 1 := by omega
    have y8 : 2 * c.ho ≤ 2 * c.ho + 1 := by omega
    have y9 : ¬ 2 * c.ho + 1 < 2 * c.ho := by omega
    cases e3 : c.tb <;> cases e4 : c.pb <;> simp [valI, n01, n02, e3, e4, intR, mkL] at r1 <;>
     simp [B700, hla, hi, hrow, h40, h48, h49, h51, h50, okT, r1, r2, e2, e3, e4, n01, n02, hw, whenI, s_mul, y1, y2, y3, y4, y6, y8, y9]
   ·simp [B700, hla, hi, hrow, h40, h48, h49, h51, h50, okT, e2, n01, n02, hw, whenI]
  ·
   obtain ⟨k, hk⟩ := tksOk v (.inr rfl)
   have h48 := p48 hk
   have tl : (tksL w1 c).length < 1048577 := by rw [hk.len]; have := hk.le; omega
   have h51 := p51 (mkL_isL 5 _) tl
   have h50 := p50 (mkL_isL 5 _) (mkL_isL 5 _) tl
   have okT := tks_ok (tksL w1 c)
   simp only [n12, if_false, if_true, not_false_eq_true, and_self, decide_false] at h40 h49
   generalize joinS ((tksL w1 c).map tkB) = S at *
   generalize mkL 5 ((tksL w1 c).map tkR) = M at *
   rcases he with rfl | rfl
   ·have r1 := hR rfl
    have r2 := hlR rfl
    rw [eR] at r1
    have b1 := smI_le (g := gT) (l := c.ts) (fun t h => by unfold gT; split <;> omega)
    have b2 := smI_le (g := gZ) (l := c.ts) (fun t h => by unfold gZ; split <;> omega)
    have b3 : smI gT c.ts ≤ smI gZ c.ts := smI_mono fun t ht => by
     obtain ⟨k1, k2, k3, k4, k5⟩ := v.tv t ht
     unfold gT gZ
     split
     ·rename_i hp
      have := k5 hp
      rw [if_pos (by omega)]; omega
     ·split <;> omega
    have b4 : smI gT c.ts ≤ smI (·.2.2.1) c.ts := smI_mono fun t ht => by
     obtain ⟨k1, k2, k3, k4, k5⟩ := v.tv t ht
     unfold gT
     split <;> omega
    have b5 : smI gZ c.ts ≤ smI (·.2.1) c.ts := smI_mono fun t ht => by
     obtain ⟨k1, k2, k3, k4, k5⟩ := v.tv t ht
     unfold gZ
     split <;> omega
    have hG := @G701 (calO s7) R (ia 0) (mkL 1 ((valI w1 n c).map intR)) (ia m) (ia i) c.tr (ia time) a (.str w1) names (ia n) (ia ti) c.ts hc.t v.tz
    have eV : valI w1 n c = [smI gT c.ts, smI gZ c.ts, - smI (·.2.2.1) c.ts, - smI (·.2.1) c.ts] := by simp [valI, n12]
    have hts := v.tz
    rw [eV] at r1 hG
    generalize smI gT c.ts = x1 at *
    generalize smI gZ c.ts = x2 at *
    generalize smI (fun t => t.2.2.1) c.ts = x3 at *
    generalize smI (fun t => t.2.1) c.ts = x4 at *
    have y1 : IntKind.i64.wrap (- x1) = - x1 := i64w (by omega) (by omega)
    have y2 : IntKind.i64.wrap (- x2) = - x2 := i64w (by omega) (by omega)
    have y3 : ¬ x2 < x1 := by omega
    have y4 : ¬ x3 < x1 := by omega
    have y5 : ¬ x4 < x2 := by omega
    simp [intR, mkL] at r1 hG
    simp [B700, hla, hi, hrow, h40, h48, h49, h51, h50, okT, r1, r2, e2, n10, n12, hw, whenI, htr, hG, s_neg, y1, y2, y3, y4, y5]
   ·simp [B700, hla, hi, hrow, h40, h48, h49, h51, h50, okT, e2, n10, n12, hw, whenI]
  ·
   simp only [if_true] at h40
   simp at h49
   have ht : ((if bestI c.rs > 0 then clockB (bestI c.rs) else w11) = w11) ↔ bestI c.rs = 0 := by
    have := best_nn c.rs
    split
    ·exact ⟨fun h => absurd h clock_not, fun h => by omega⟩
    ·exact ⟨fun _ => by omega, fun _ => rfl⟩
   generalize (if bestI c.rs > 0 then clockB (bestI c.rs) else w11) = S at *
   have hG := @G702 (omL KK s7 [d701]) R (ia e1) (ia m) (ia i) c.ru (ia time) a (.str w2) names (ia n) (ia ti) c.rs hc.r hc.rl v.rs
   have hrun : (c.rs = [] ∧ S = w11) ∨ (¬ c.rs = [] ∧ ∃ g : Int, F47 [c.ru] = some (ia g) ∧ (S = w11 ↔ g = 0)) := by
    by_cases h0 : c.rs = []
    ·left
     exact ⟨h0, ht.2 (by rw [h0]; rfl)⟩
    ·right
     obtain ⟨g, g1, g2⟩ := p47 hc.r hc.rl (List.length_pos_iff.2 h0) v.rs
     exact ⟨h0, g, g1, ht.trans g2.symm⟩
   rcases he with rfl | rfl
   ·have r1 := hR rfl
    have r2 := hlR rfl
    rw [eR] at r1
    simp [valI, intR, mkL] at r1
    rcases hrun with ⟨h0, h1⟩ | ⟨h0, g, h1, h2⟩
    ·rw [h0] at hG r1
     simp [B700, hla, hi, hrow, h40, r1, r2, e2, n20, n21, hw, hru, h0, h1]
     simp at hG
     simp [hG]
    ·rcases tf_or (g = 0) with e5 | e5
     ·have h3 := h2.2 (of_eq_true e5)
      simp [B700, hla, hi, hrow, h40, r1, r2, e2, n20, n21, hw, hru, h0, h1, h3, e5, hG]
     ·have h3 : ¬ S = w11 := fun h => (of_eq_false e5) (h2.1 h)
      have h5 : (S.toList == w11.toList) = false := by rw [tl_beq, decide_eq_false h3]
      have h6 : (g == 0) = false := by rw [eq_b, decide_eq_false (of_eq_false e5)]
      simp [B700, hla, hi, hrow, h40, r1, r2, e2, n20, n21, hw, hru, h0, h1, h5, h6, hG]
   ·rcases hrun with ⟨h0, h1⟩ | ⟨h0, g, h1, h2⟩
    ·simp [B700, hla, hi, hrow, h40, e2, n20, n21, hw, hru, h0, h1]
    ·rcases tf_or (g = 0) with e5 | e5
     ·have h3 := h2.2 (of_eq_true e5)
      simp [B700, hla, hi, hrow, h40, e2, n20, n21, hw, hru, h0, h1, h3, e5]
     ·have h3 : ¬ S = w11 := fun h => (of_eq_false e5) (h2.1 h)
      have h5 : (S.toList == w11.toList) = false := by rw [tl_beq, decide_eq_false h3]
      have h6 : (g == 0) = false := by rw [eq_b, decide_eq_false (of_eq_false e5)]
      simp [B700, hla, hi, hrow, h40, e2, n20, n21, hw, hru, h0, h1, h5, h6]
 ·simp [B700, hla, hi, hrow, h40, e2, hw]
end Go.Proofs.YtdeaibcebeofiaaGreatDoor.C5

namespace Go.Proofs.YtdeaibcebeofiaaGreatDoor.C5
open Go Go.Proofs.YtdeaibcebeofiaaGreatDoor.AM
set_option maxRecDepth 20000
set_option maxHeartbeats 8000000
theorem law7 {r : Rd} {names a : AV} (hr : RdOk r names) (hns : (Sh.sl [.str]).ok names = true) {time : Int} {cs : List Clb} (h : IsL 11 (cs.map Clb.row) a) (hl : cs.length < 1048577) (hc : ∀ c ∈ cs, ClbOk c) :
  F7 [.str r.f, names, ia r.pl, ia r.ti, ia time, a] = some (.bool true) := by
 have hn := hr.len
 have f43 := p43 (time := time) h hl hc
 have iA : IsL 11 ((cs.map Clb.own).map Clb.row) (mkL 11 ((cs.map Clb.own).map Clb.row)) := mkL_isL 11 _
 have okA := sh_ok iA (own_all hc)
 have hlA : (cs.map Clb.own).length < 1048577 := by rw [List.length_map]; exact hl
 obtain ⟨b1, f16⟩ := p16 (f := r.f) (pl := ia r.pl) (ti := ia r.ti) hr.isL hn
 obtain ⟨b2, f44⟩ := p44 (time := time) iA hlA
 have f60 := p60 (f := r.f) (n := r.pl) (ti := r.ti) (time := time) hr.isL hn hr.sz h hl hc
 have f45 := p45 (f := r.f) (n := r.pl) (ti := r.ti) (time := time) hr.isL hn hr.sz iA hlA (own_all hc)
 rw [st_own, ← st_eq] at f45
 have f15 : F15 [] = some (.bool true) := rfl
 have o15 : calO s7 15 0 [] = .bool true := by rw [o7_15, f15]; rfl
 generalize mkL 11 ((cs.map Clb.own).map Clb.row) = A at *
 by_cases hk : ckStA r.f r.ns r.pl r.ti time cs = 0
 ·obtain ⟨d1, d2, d3⟩ := ck_all hk
  have hf := disc d1
  have hv : ∀ c ∈ cs, ClbOk c ∧ ClbV r.f r.pl c := fun c hm => ⟨hc c hm, clbV d1 (d3 c hm)⟩
  have f94 : ∀ i (hi : i < cs.length), F94 [.str r.f, names, ia r.pl, ia r.ti, ia time, a, ia i] = some (.tuple [.agg cs[i].row, ia 0]) := fun i hi => by
   have f94 := p94 (f := r.f) (n := r.pl) (ti := r.ti) (time := time) hr.isL hn hr.sz h hl hc (i : Int)
   have e2 : ck2 (ckStA r.f r.ns r.pl r.ti time cs) cs (i : Int) = 0 := by
    unfold ck2
    rw [hk]
    have : outB (i : Int) 0 (cs.length - 1) = false := by simp only [outB, Bool.or_eq_false_iff, decide_eq_false_iff_not]; omega
    rw [this]; rfl
   rw [e2] at f94
   simp only [if_true] at f94
   have hg : clbAt cs (i : Int) = cs[i] := by simp [clbAt, hi]
   rw [hg] at f94
   exact f94
  rw [hk] at f60 f45
  have f46 := p46 (time := ia time) hr.isL d2.symm h hl hv hf f60
  have okR := resL_ok (resL r.f r.pl r.ns cs cs.length)
  have lR : (mkL 3 ((resL r.f r.pl r.ns cs cs.length).map resR)).lenN = cs.length := by rw [(mkL_isL 3 _).lenM, resL_len]
  have rR : ∀ i (hi : i < cs.length), nth (mkL 3 ((resL r.f r.pl r.ns cs cs.length).map resR)).rowsL i = some [.str (r.ns.getD i w3), .str cs[i].st, valR r.f r.pl cs[i]] := fun i hi => by
   have hh := (mkL_isL 3 ((resL r.f r.pl r.ns cs cs.length).map resR)).row (i := i) (by rw [resL_len]; exact hi)
   rw [Int.toNat_natCast] at hh
   rw [hh]
   have hg : cs.getD i c0 = cs[i] := by simp [hi]
   simp only [resL, List.getElem_map, List.getElem_range, resAt, resR, hg, valR]
  generalize mkL 3 ((resL r.f r.pl r.ns cs cs.length).map resR) = R at *
  have hG : ∀ (R' : AV) (e1 : Int), (e1 = 0 ∧ R' = R) ∨ e1 = 24 → loopG (omL KK s7 [d702, d701]) B700 KK [R', ia e1, ia cs.length, ia 0, ia time, a, .str r.f, names, ia r.pl, ia r.ti] = some (.tuple [ia 2]) := by
   intro R' e1 he
   refine loopF (fun i => [R', ia e1, ia cs.length, ia i, ia time, a, .str r.f, names, ia r.pl, ia r.ti]) cs.length _ (by omega) (fun i hi => ?_) ?_
   ·obtain ⟨v1, v2⟩ := hv _ (List.getElem_mem hi)
    have hrow : nth a.rowsL (Int.toNat (i : Int)) = some (cs[i].row) := h.row hi
    rw [Int.toNat_natCast] at hrow
    exact G700s (m := cs.length) (nm := .str (r.ns.getD i w3)) hl hi h.lenM v1 v2 hf hrow (by rcases he with ⟨e, _⟩ | e; exact .inl e; exact .inr e)
     (fun e => by rcases he with ⟨_, e'⟩ | e'
                  ·rw [e']; exact lR
                  ·rw [e'] at e; cases e)
     (fun e => by rcases he with ⟨_, e'⟩ | e'
                  ·rw [e']; exact rR i hi
                  ·rw [e'] at e; cases e) (f94 i hi)
   ·simp [B700]
  have hl2 := h.lenM
  cases e3 : opB cs
  ·rw [e3] at f46
   simp only [Bool.false_eq_true, if_false] at f46
   have hG' := hG R 0 (.inl ⟨rfl, rfl⟩)
   cases b1 <;> cases b2 <;> simp [F7, unitF_eq, t7, o15, f15, f16, f44, f43, f45, f46, okA, okR, lR, hl2, hG']
  ·rw [e3] at f46
   simp only [if_true] at f46
   have hG' := hG .nils 24 (.inr rfl)
   cases b1 <;> cases b2 <;> simp [F7, unitF_eq, t7, o15, f15, f16, f44, f43, f45, f46, okA, hl2, hG']
 ·cases b1 <;> cases b2 <;> simp [F7, unitF_eq, t7, o15, f15, f16, f44, f43, f45, okA, hk]
end Go.Proofs.YtdeaibcebeofiaaGreatDoor.C5
