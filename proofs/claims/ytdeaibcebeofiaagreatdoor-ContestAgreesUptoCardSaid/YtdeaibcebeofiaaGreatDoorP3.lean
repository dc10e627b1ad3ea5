/-
  Plain lemmas (third part).
-/
import Derived.Test.YtdeaibcebeofiaaGreatDoorP2
set_option linter.unusedVariables false
set_option linter.unusedSimpArgs false
set_option linter.unusedSectionVars false
namespace Go.Proofs.YtdeaibcebeofiaaGreatDoor.C5
open Go Go.Proofs.YtdeaibcebeofiaaGreatDoor.AM
set_option maxRecDepth 20000
set_option maxHeartbeats 2000000
def takeAt (xs ys : List Ent) (rs : List Rul) (i : Nat) : Option (List Ent) :=
 if sameAt xs ys i then some ((xs[i]?).toList)
 else match rulAt rs rs.length ((i + 1 : Nat) : Int) with
  | none => none
  | some r => some (if r.2.1 then [] else [r.2.2])
def recN (xs ys : List Ent) (rs : List Rul) : Nat → List Ent
 | 0 => []
 | i + 1 => recN xs ys rs i ++ (takeAt xs ys rs i).getD []
theorem recN_len (xs ys : List Ent) (rs : List Rul) : ∀ i, (recN xs ys rs i).length ≤ i
 | 0 => Nat.le_refl _
 | i + 1 => by
   have := recN_len xs ys rs i
   have h : ((takeAt xs ys rs i).getD []).length ≤ 1 := by
    unfold takeAt
    split
    ·cases xs[i]? <;> simp
    ·split
     ·simp
     ·simp; split <;> simp
   simp only [recN, List.length_append]
   omega
def accR (xs ys : List Ent) (rs : List Rul) (i : Nat) : AV := mkL 4 ((recN xs ys rs i).map entR)
theorem accR_nil {xs ys : List Ent} {rs : List Rul} {i : Nat} (h : takeAt xs ys rs i = some []) : accR xs ys rs (i + 1) = accR xs ys rs i := by
 simp [accR, recN, h]
theorem accR_one {xs ys : List Ent} {rs : List Rul} {i : Nat} {e : Ent} (h : takeAt xs ys rs i = some [e]) : accR xs ys rs (i + 1) = .sl 4 ((recN xs ys rs i).map entR ++ [entR e]) := by
 rw [← mkL_snoc]
 simp [accR, recN, h]
def recOut (xs ys : List Ent) (rs : List Rul) : AV :=
 ((List.range' 0 (max xs.length ys.length)).findSome? fun i => match takeAt xs ys rs i with | none => some (AV.tuple [ia 1]) | some _ => none).getD (.tuple [ia 2, accR xs ys rs (max xs.length ys.length)])
@[simp] theorem s_mhas (Ω : Om) (es : List (AV × AV)) (k : AV) : Pr.sem Ω .mhas [.im es, k] = .bool (match findA k es with | some (some _) => true | _ => false) := rfl
@[simp] theorem s_mget (Ω : Om) (b : Bool) (es : List (AV × AV)) (k z : AV) : Pr.sem Ω (.mget b) [.im es, k, z] = (match findA k es with | some (some v) => v | _ => z) := rfl
theorem G2800 {a b : AV} {xs ys : List Ent} {rs : List Rul} (h : IsL 4 (xs.map entR) a) (h' : IsL 4 (ys.map entR) b) (hx : xs.length < 1048577) (hy : ys.length < 1048577) :
  loopG (calO s28) B2800 KK [a, b, .im (mapE rs rs.length), .nils, ia 1] = some (recOut xs ys rs) := by
 refine loop0 (fun i => [a, b, .im (mapE rs rs.length), accR xs ys rs i, ia ((i + 1 : Nat) : Int)]) (max xs.length ys.length) _ _ (by omega) (fun i hi => ?_) ?_
 ·have hp := p83 h h' hx hy i (by omega)
  have hw : IntKind.i64.wrap (((i + 1 : Nat) : Int) + 1) = ((i + 1 + 1 : Nat) : Int) := wS (by omega)
  have hw' : IntKind.i64.wrap (i : Int) = (i : Int) := by rw [i64w (by omega) (by omega)]
  have hl := recN_len xs ys rs i
  have hc : ((i + 1 : Nat) : Int) ≤ (if xs.length < ys.length then (ys.length : Int) else xs.length) := by rw [maxN]; omega
  have hb : ((recN xs ys rs i).length : Int) + 1 ≤ 1073741824 := by omega
  have hf := (mapE_of rs rs.length (Nat.le_refl _)).find ((i + 1 : Nat) : Int)
  cases hs : sameAt xs ys i
  ·rw [hs] at hp
   cases hr : rulAt rs rs.length ((i + 1 : Nat) : Int) with
   | none =>
     have ht : takeAt xs ys rs i = none := by simp only [takeAt, hs, hr]; rfl
     rw [hr] at hf
     simp only [ht]
     push_cast at hp hw hc hf ⊢
     simp [B2800, h.lenM, h'.lenM, hp, hc, hf]
   | some r =>
     rw [hr] at hf
     cases hv : r.2.1 with
     | true =>
       have ht : takeAt xs ys rs i = some [] := by simp only [takeAt, hs, hr, hv]; rfl
       rw [accR_nil ht]
       simp only [ht]
       push_cast at hp hw hc hf ⊢
       simp [B2800, h.lenM, h'.lenM, hp, hc, hf, hw, rulR, hv]
     | false =>
       have ht : takeAt xs ys rs i = some [r.2.2] := by simp only [takeAt, hs, hr, hv]; rfl
       rw [accR_one ht]
       simp only [ht]
       push_cast at hp hw hc hf ⊢
       simp [B2800, h.lenM, h'.lenM, hp, hc, hf, hw, rulR, hv, accR, hb, entR]
  ·rw [hs] at hp
   have h1 : i < xs.length := by
    by_cases h1 : i < xs.length
    ·exact h1
    ·rw [sameAt_no (fun hh => h1 hh.1)] at hs; cases hs
   have ht : takeAt xs ys rs i = some [xs[i]] := by simp [takeAt, hs, h1]
   have hr1 : nth a.rowsL (Int.toNat (i : Int)) = some (entR xs[i]) := h.row h1
   simp only [entR, Int.toNat_natCast] at hr1
   rw [accR_one ht]
   simp only [ht]
   push_cast at hp hw hc ⊢
   simp [B2800, h.lenM, h'.lenM, hp, hc, hw, hw', h1, hr1, accR, hb, entR]
 ·have hc : ¬ (((max xs.length ys.length + 1 : Nat) : Int) ≤ (if xs.length < ys.length then (ys.length : Int) else xs.length)) := by rw [maxN]; omega
  push_cast at hc ⊢
  simp [B2800, h.lenM, h'.lenM, hc]
def recOk (xs ys : List Ent) (rs : List Rul) : Bool := (List.range' 0 (max xs.length ys.length)).all fun i => (takeAt xs ys rs i).isSome
theorem recOut_eq (xs ys : List Ent) (rs : List Rul) : recOut xs ys rs = if recOk xs ys rs then .tuple [ia 2, accR xs ys rs (max xs.length ys.length)] else .tuple [ia 1] := by
 unfold recOut recOk
 generalize List.range' 0 (max xs.length ys.length) = l
 induction l with
 | nil => rfl
 | cons i l ih =>
   rw [List.findSome?_cons, List.all_cons]
   cases h : takeAt xs ys rs i with
   | none => rfl
   | some v => simpa using ih
def cksR (n : Int) (es : List Rul) : Int := if es.length > 256 then 5 else firstNz (es.map (ckRul n))
theorem p28 {r : Rd} {names a b c : AV} (hr : RdOk r names) {xs ys : List Ent} {rs : List Rul} (h : IsL 4 (xs.map entR) a) (hx : xs.length < 1048577) (h' : IsL 4 (ys.map entR) b) (hy : ys.length < 1048577)
  (h'' : IsL 6 (rs.map rulR) c) (hz : rs.length < 1048577) :
  F28 [.str r.f, names, ia r.pl, ia r.ti, a, b, c] = some (if ckBoth r xs ys ≠ 0 then .tuple [.nils, ia (ckBoth r xs ys)] else if cksR r.ns.length rs ≠ 0 then .tuple [.nils, ia (cksR r.ns.length rs)]
   else if recOk xs ys rs then .tuple [accR xs ys rs (max xs.length ys.length), ia 0] else .tuple [.nils, ia 24]) := by
 have h1 := p80 hr h hx h' hy
 have h2 := p84 (f := .str r.f) (pl := ia r.pl) (ti := ia r.ti) hr.isL.lenM (by have := hr.len; omega) h'' (by omega)
 have h3 := p85 h'' hz
 have h4 : (Sh.im (.int .i64) true [.int .i64, .bool, .int .i64, .str, .int .i64, .int .i64]).ok (.im (mapE rs rs.length)) = true := im_ok (mapE_of rs rs.length (Nat.le_refl _))
 have hG := G2800 (rs := rs) h h' hx hy
 rw [recOut_eq] at hG
 change F84 _ = some (ia (cksR r.ns.length rs)) at h2
 by_cases hc : ckBoth r xs ys = 0
 ·by_cases hc2 : cksR r.ns.length rs = 0
  ·cases hk : recOk xs ys rs <;> rw [hk] at hG <;> simp at hG <;> simp [F28, unitF_eq, t28, h1, h2, h3, h4, hG, hc, hc2, hk]
  ·simp [F28, unitF_eq, t28, h1, h2, h3, h4, hc, hc2]
 ·simp [F28, unitF_eq, t28, h1, hc]
theorem lastI_lt (rs : List Rul) (n : Int) : ∀ (i j : Nat), lastI rs i n = some j → j < i
 | 0, j, h => by cases h
 | i + 1, j, h => by
   simp only [lastI] at h
   split at h
   ·injection h with h; omega
   ·have := lastI_lt rs n i j h; omega
section
variable {a b c : AV} {xs ys : List Ent} {rs : List Rul} (Ω : Om) (v : AV)
theorem same_lt {i : Nat} (hs : sameAt xs ys i = true) : i < xs.length ∧ i < ys.length := by
 by_cases h : i < xs.length ∧ i < ys.length
 ·exact h
 ·rw [sameAt_no h] at hs; cases hs
theorem cnd33 (h : IsL 4 (xs.map entR) a) (h' : IsL 4 (ys.map entR) b) (hx : xs.length < 1048577) (hy : ys.length < 1048577) (i : Nat) (hi : i < 1048577) :
  X.den Ω [a, b, c, v, ia ((i : Int) + 1)] e33_5 = .bool true ∧ X.den Ω [a, b, c, v, ia ((i : Int) + 1)] e33_8 = .bool true ∧ X.den Ω [a, b, c, v, ia ((i : Int) + 1)] e33_17 = .bool (sameAt xs ys i) := by
 have hw' : IntKind.i64.wrap (i : Int) = (i : Int) := by rw [i64w (by omega) (by omega)]
 by_cases h1 : i < xs.length
 ·by_cases h2 : i < ys.length
  ·have hr1 : nth a.rowsL (Int.toNat (i : Int)) = some (entR xs[i]) := h.row h1
   have hr2 : nth b.rowsL (Int.toNat (i : Int)) = some (entR ys[i]) := h'.row h2
   simp only [entR, Int.toNat_natCast] at hr1 hr2
   have h3 : (i : Int) + 1 ≤ xs.length := by omega
   have h4 : (i : Int) + 1 ≤ ys.length := by omega
   rw [sameAt_eq h1 h2]
   by_cases g1 : xs[i].1 = ys[i].1 <;> by_cases g2 : xs[i].2.1 = ys[i].2.1 <;> by_cases g3 : xs[i].2.2.1 = ys[i].2.2.1 <;> by_cases g4 : xs[i].2.2.2 = ys[i].2.2.2 <;>
    simp [h.lenM, h'.lenM, hw', h1, h2, h3, h4, hr1, hr2, g1, g2, g3, g4]
  ·have h4 : ¬ (i : Int) + 1 ≤ ys.length := by omega
   have h3 : (i : Int) + 1 ≤ xs.length := by omega
   rw [sameAt_no (fun hh => h2 hh.2)]
   simp [h.lenM, h'.lenM, h3, h4]
 ·have h3 : ¬ (i : Int) + 1 ≤ xs.length := by omega
  rw [sameAt_no (fun hh => h1 hh.1)]
  simp [h.lenM, h'.lenM, h3]
end
theorem accR_rows (xs ys : List Ent) (rs : List Rul) (i : Nat) : (accR xs ys rs i).rowsL = (recN xs ys rs i).map entR := mkL_rows _ _
theorem G3300 {a b c : AV} {xs ys : List Ent} {rs : List Rul} (h : IsL 4 (xs.map entR) a) (h' : IsL 4 (ys.map entR) b) (hx : xs.length < 1048577) (hy : ys.length < 1048577) (h'' : IsL 6 (rs.map rulR) c) (hz : rs.length < 1048577) :
  loopG (calO s33) B3300 KK [a, b, c, .nils, ia 1] = some (recOut xs ys rs) := by
 refine loop0 (fun i => [a, b, c, accR xs ys rs i, ia ((i + 1 : Nat) : Int)]) (max xs.length ys.length) _ _ (by omega) (fun i hi => ?_) ?_
 ·have hw : IntKind.i64.wrap (((i + 1 : Nat) : Int) + 1) = ((i + 1 + 1 : Nat) : Int) := wS (by omega)
  have hw' : IntKind.i64.wrap (i : Int) = (i : Int) := by rw [i64w (by omega) (by omega)]
  have hl := recN_len xs ys rs i
  have hc : ((i + 1 : Nat) : Int) ≤ (if xs.length < ys.length then (ys.length : Int) else xs.length) := by rw [maxN]; omega
  have hb : ((recN xs ys rs i).length : Int) + 1 ≤ 1073741824 := by omega
  have hp := p87 h'' hz ((i + 1 : Nat) : Int)
  obtain ⟨q1, q2, q3⟩ := cnd33 (c := c) (calO s33) (accR xs ys rs i) h h' hx hy i (by omega)
  cases hs : sameAt xs ys i
  ·rw [hs] at q3
   cases hr : lastI rs rs.length ((i + 1 : Nat) : Int) with
   | none =>
     have hr' : rulAt rs rs.length ((i + 1 : Nat) : Int) = none := by simp only [rulAt, hr]; rfl
     have ht : takeAt xs ys rs i = none := by simp only [takeAt, hs, hr']; rfl
     simp only [lastN, hr] at hp
     simp only [ht]
     push_cast at hp hw hc ⊢
     simp [B3300, -e33_5, -e33_8, -e33_17, q1, q2, q3, h.lenM, h'.lenM, hp, hc]
   | some j =>
     have hj := lastI_lt rs _ _ _ hr
     have hr' : rulAt rs rs.length ((i + 1 : Nat) : Int) = some rs[j] := by simp only [rulAt, hr]; simp [hj]
     have hrj : nth c.rowsL (Int.toNat (j : Int)) = some (rulR rs[j]) := h''.row hj
     simp only [rulR, Int.toNat_natCast] at hrj
     simp only [lastN, hr] at hp
     have hj0 : ¬ (j : Int) < 0 := by omega
     cases hv : rs[j].2.1 with
     | true =>
       have ht : takeAt xs ys rs i = some [] := by simp only [takeAt, hs, hr', hv]; rfl
       rw [accR_nil ht]
       simp only [ht]
       push_cast at hp hw hc ⊢
       simp [B3300, -e33_5, -e33_8, -e33_17, q1, q2, q3, h.lenM, h'.lenM, h''.lenM, hp, hc, hw, hrj, hv, hj, hj0]
     | false =>
       have ht : takeAt xs ys rs i = some [rs[j].2.2] := by simp only [takeAt, hs, hr', hv]; rfl
       rw [accR_one ht]
       simp only [ht]
       push_cast at hp hw hc ⊢
       simp [B3300, -e33_5, -e33_8, -e33_17, q1, q2, q3, h.lenM, h'.lenM, h''.lenM, hp, hc, hw, hrj, hv, hj, hj0, accR_rows, hb, entR]
  ·rw [hs] at q3
   have h1 := (same_lt hs).1
   have ht : takeAt xs ys rs i = some [xs[i]] := by simp [takeAt, hs, h1]
   have hr1 : nth a.rowsL (Int.toNat (i : Int)) = some (entR xs[i]) := h.row h1
   simp only [entR, Int.toNat_natCast] at hr1
   rw [accR_one ht]
   simp only [ht]
   push_cast at hw hc ⊢
   simp [B3300, -e33_5, -e33_8, -e33_17, q1, q2, q3, h.lenM, h'.lenM, hc, hw, hw', h1, hr1, accR_rows, hb, entR]
 ·have hc : ¬ (((max xs.length ys.length + 1 : Nat) : Int) ≤ (if xs.length < ys.length then (ys.length : Int) else xs.length)) := by rw [maxN]; omega
  push_cast at hc ⊢
  simp [B3300, h.lenM, h'.lenM, hc]
end Go.Proofs.YtdeaibcebeofiaaGreatDoor.C5

namespace Go.Proofs.YtdeaibcebeofiaaGreatDoor.C5
open Go Go.Proofs.YtdeaibcebeofiaaGreatDoor.AM
set_option maxRecDepth 20000
set_option maxHeartbeats 2000000
@[simp] theorem okr_agg (cs : List Sh) (vs : List AV) : RS.okr [.agg cs] (.agg vs) = Sh.oks cs vs := rfl
theorem p33 {a b c : AV} {xs ys : List Ent} {rs : List Rul} (h : IsL 4 (xs.map entR) a) (h' : IsL 4 (ys.map entR) b) (hx : xs.length < 1048577) (hy : ys.length < 1048577) (h'' : IsL 6 (rs.map rulR) c) (hz : rs.length < 1048577) :
  F33 [a, b, c] = some (if recOk xs ys rs then .tuple [accR xs ys rs (max xs.length ys.length), .bool true] else .tuple [.nils, .bool false]) := by
 have hG := G3300 h h' hx hy h'' hz
 rw [recOut_eq] at hG
 cases hk : recOk xs ys rs <;> rw [hk] at hG <;> simp at hG <;> simp [F33, unitF_eq, t33, hG]
theorem p34 (b : Bool) (n : Int) : F34 [.bool b, ia n] = some (ia (whenI b n)) := by
 cases b <;> simp [F34, unitF_eq, t34, whenI]
theorem p35 (a : Int) (b : Bool) (c : Int) (d : ByteArray) (e f : Int) : F35 [ia a, .bool b, ia c, .str d, ia e, ia f] = some (.agg [ia a, .bool b, ia c, .str d, ia e, ia f]) := by
 simp [F35, unitF_eq, t35]
theorem take_snoc {α : Type} {l : List α} {i : Nat} (hi : i < l.length) : l.take (i + 1) = l.take i ++ [l[i]] := by
 rw [List.take_succ_eq_append_getElem hi]
theorem G1800 {Ω : Om} {a : AV} {xs : List Ent} (h : IsL 4 (xs.map entR) a) (hx : xs.length < 1048577) :
  loopG Ω B1800 KK [a, .nils, ia 0] = some (.tuple [ia 1, mkL 4 (xs.map entR)]) := by
 refine loopF (fun i => [a, mkL 4 ((xs.take i).map entR), ia i]) xs.length _ (by omega) (fun i hi => ?_) ?_
 ·have hr : nth a.rowsL (Int.toNat (i : Int)) = some (entR xs[i]) := h.row hi
  have hw := wS (i := i) (by omega)
  have ht : mkL 4 ((xs.take (i + 1)).map entR) = .sl 4 ((xs.take i).map entR ++ [entR xs[i]]) := by
   rw [← mkL_snoc, take_snoc hi, List.map_append]; rfl
  have hb : ((min i xs.length : Nat) : Int) + 1 ≤ 1073741824 := by omega
  simp only [entR, Int.toNat_natCast] at hr
  rw [ht]
  push_cast at hw ⊢
  simp [B1800, h.lenM, hr, hi, hw, hb, entR]
 ·simp [B1800, h.lenM]
theorem p18 {a : AV} {xs : List Ent} (h : IsL 4 (xs.map entR) a) (hx : xs.length < 1048577) : F18 [a] = some (mkL 4 (xs.map entR)) := by
 have hG := G1800 (Ω := calO s18) h hx
 simp [F18, unitF_eq, t18, hG]
theorem G3200 {a : AV} {xs : List Rul} (h : IsL 6 (xs.map rulR) a) (hx : xs.length < 1048577) :
  loopG (calO s32) B3200 KK [a, .nils, ia 0] = some (.tuple [ia 1, mkL 6 (xs.map rulR)]) := by
 refine loopF (fun i => [a, mkL 6 ((xs.take i).map rulR), ia i]) xs.length _ (by omega) (fun i hi => ?_) ?_
 ·have hr : nth a.rowsL (Int.toNat (i : Int)) = some (rulR xs[i]) := h.row hi
  have hw := wS (i := i) (by omega)
  have ht : mkL 6 ((xs.take (i + 1)).map rulR) = .sl 6 ((xs.take i).map rulR ++ [rulR xs[i]]) := by
   rw [← mkL_snoc, take_snoc hi, List.map_append]; rfl
  have hb : ((min i xs.length : Nat) : Int) + 1 ≤ 1073741824 := by omega
  simp only [rulR, Int.toNat_natCast] at hr
  rw [ht]
  push_cast at hw ⊢
  simp [B3200, h.lenM, hr, hi, hw, hb, rulR, p35]
 ·simp [B3200, h.lenM]
theorem p32 {a : AV} {xs : List Rul} (h : IsL 6 (xs.map rulR) a) (hx : xs.length < 1048577) : F32 [a] = some (mkL 6 (xs.map rulR)) := by
 have hG := G3200 h hx
 simp [F32, unitF_eq, t32, hG]
theorem any_find {α : Type} (p : α → Bool) (l : List α) : (l.findSome? fun e => if p e then some (AV.tuple [ia 1]) else none) = if l.any p then some (.tuple [ia 1]) else none := by
 induction l with
 | nil => rfl
 | cons e l ih =>
   rw [List.findSome?_cons, List.any_cons]
   cases h : p e
   ·simpa using ih
   ·rfl
def shRound (f : ByteArray) (ns : List ByteArray) : Bool :=
 !(decide (20 < f.size) || ((decide (12 < ns.length) && (decide (ns.length ≤ 160) || decide (162 < ns.length))) || decide (162 < ns.length))) && !(ns.any fun s => decide (40 < s.size))
theorem G1600 {Ω : Om} {names f pl ti : AV} {ns : List ByteArray} (h : IsL 1 (ns.map strR) names) (hn : ns.length < 1048577) :
  loopG Ω B1600 KK [ia 0, f, names, pl, ti] = some (if (ns.any fun s => decide (40 < s.size)) then .tuple [ia 1] else .tuple [ia 2]) := by
 have := loopL (Ω := Ω) (B := B1600) (fun i => [ia i, f, names, pl, ti]) ns (fun s => if decide (40 < s.size) = true then some (AV.tuple [ia 1]) else none) (.tuple [ia 2]) (by omega) (fun i hi => by
  have hr : nth names.rowsL (Int.toNat (i : Int)) = some [.str ns[i]] := h.row hi
  have hw := wS (i := i) (by omega)
  simp only [Int.toNat_natCast] at hr
  by_cases hc : 40 < ns[i].size
  ·have hc' : (40 : Int) < ns[i].size := by omega
   simp [B1600, h.lenM, hr, hi, hc, hc']
  ·have hc' : ¬ (40 : Int) < ns[i].size := by omega
   push_cast at hw
   simp [B1600, h.lenM, hr, hi, hc, hc', hw]) (by simp [B1600, h.lenM])
 refine Eq.trans this ?_
 rw [any_find]
 cases (ns.any fun s => decide (40 < s.size)) <;> rfl
theorem p16 {names pl ti : AV} {f : ByteArray} {ns : List ByteArray} (h : IsL 1 (ns.map strR) names) (hn : ns.length < 1048577) :
  ∃ b, F16 [.str f, names, pl, ti] = some (.bool b) := by
 have hG := G1600 (Ω := calO s16) (f := .str f) (pl := pl) (ti := ti) h hn
 by_cases h1 : (20 : Int) < f.size <;> by_cases h2 : (12 : Int) < ns.length <;> by_cases h3 : (ns.length : Int) ≤ 160 <;> by_cases h4 : (162 : Int) < ns.length <;>
  cases hk : (ns.any fun s => decide (40 < s.size)) <;> rw [hk] at hG <;> simp at hG <;>
  simp [F16, unitF_eq, t16, h.lenM, h1, h2, h3, h4, hG]
end Go.Proofs.YtdeaibcebeofiaaGreatDoor.C5

namespace Go.Proofs.YtdeaibcebeofiaaGreatDoor.C5
open Go Go.Proofs.YtdeaibcebeofiaaGreatDoor.AM
set_option maxRecDepth 20000
set_option maxHeartbeats 2000000
theorem G1700 {Ω : Om} {a : AV} {xs : List Ent} (h : IsL 4 (xs.map entR) a) (hn : xs.length < 1048577) :
  loopG Ω B1700 KK [a, ia 0] = some (if (xs.any fun e => decide (20 < e.2.1.size)) then .tuple [ia 1] else .tuple [ia 2]) := by
 have := loopL (Ω := Ω) (B := B1700) (fun i => [a, ia i]) xs (fun e => if decide (20 < e.2.1.size) = true then some (AV.tuple [ia 1]) else none) (.tuple [ia 2]) (by omega) (fun i hi => by
  have hr : nth a.rowsL (Int.toNat (i : Int)) = some (entR xs[i]) := h.row hi
  have hw := wS (i := i) (by omega)
  simp only [entR, Int.toNat_natCast] at hr
  by_cases hc : 20 < xs[i].2.1.size
  ·have hc' : (20 : Int) < xs[i].2.1.size := by omega
   simp [B1700, h.lenM, hr, hi, hc, hc']
  ·have hc' : ¬ (20 : Int) < xs[i].2.1.size := by omega
   push_cast at hw
   simp [B1700, h.lenM, hr, hi, hc, hc', hw]) (by simp [B1700, h.lenM])
 refine Eq.trans this ?_
 rw [any_find]
 cases (xs.any fun e => decide (20 < e.2.1.size)) <;> rfl
theorem p17 {a : AV} {xs : List Ent} (h : IsL 4 (xs.map entR) a) (hn : xs.length < 1048577) (m : Int) :
  ∃ b, F17 [a, ia m] = some (.bool b) := by
 have hG := G1700 (Ω := calO s17) h hn
 by_cases h2 : m < xs.length <;> by_cases h3 : (xs.length : Int) ≤ 256 <;> by_cases h4 : (258 : Int) < xs.length <;>
  cases hk : (xs.any fun e => decide (20 < e.2.1.size)) <;> rw [hk] at hG <;> simp at hG <;>
  simp [F17, unitF_eq, t17, h.lenM, h2, h3, h4, hG]
theorem G2600 {Ω : Om} {a : AV} {xs : List Rul} (h : IsL 6 (xs.map rulR) a) (hn : xs.length < 1048577) :
  loopG Ω B2600 KK [a, ia 0] = some (if (xs.any fun e => decide (20 < e.2.2.2.1.size)) then .tuple [ia 1] else .tuple [ia 2]) := by
 have := loopL (Ω := Ω) (B := B2600) (fun i => [a, ia i]) xs (fun e => if decide (20 < e.2.2.2.1.size) = true then some (AV.tuple [ia 1]) else none) (.tuple [ia 2]) (by omega) (fun i hi => by
  have hr : nth a.rowsL (Int.toNat (i : Int)) = some (rulR xs[i]) := h.row hi
  have hw := wS (i := i) (by omega)
  simp only [rulR, Int.toNat_natCast] at hr
  by_cases hc : 20 < xs[i].2.2.2.1.size
  ·have hc' : (20 : Int) < xs[i].2.2.2.1.size := by omega
   simp [B2600, h.lenM, hr, hi, hc, hc']
  ·have hc' : ¬ (20 : Int) < xs[i].2.2.2.1.size := by omega
   push_cast at hw
   simp [B2600, h.lenM, hr, hi, hc, hc', hw]) (by simp [B2600, h.lenM])
 refine Eq.trans this ?_
 rw [any_find]
 cases (xs.any fun e => decide (20 < e.2.2.2.1.size)) <;> rfl
theorem p26 {a : AV} {xs : List Rul} (h : IsL 6 (xs.map rulR) a) (hn : xs.length < 1048577) :
  ∃ b, F26 [a] = some (.bool b) := by
 have hG := G2600 (Ω := calO s26) h hn
 by_cases h2 : (20 : Int) < xs.length <;> by_cases h3 : (xs.length : Int) ≤ 256 <;> by_cases h4 : (258 : Int) < xs.length <;>
  cases hk : (xs.any fun e => decide (20 < e.2.2.2.1.size)) <;> rw [hk] at hG <;> simp at hG <;>
  simp [F26, unitF_eq, t26, h.lenM, h2, h3, h4, hG]
theorem G7500 {Ω : Om} {a b : AV} {xs : List Int} (h : IsL 1 (xs.map intR) a) (h' : IsL 1 (xs.map intR) b) (hn : xs.length < 1048577) :
  loopG Ω B7500 KK [a, b, ia 0] = some (.tuple [ia 2]) := by
 refine loopF (fun i => [a, b, ia i]) xs.length _ (by omega) (fun i hi => ?_) ?_
 ·have hr : nth a.rowsL (Int.toNat (i : Int)) = some [ia xs[i]] := h.row hi
  have hr' : nth b.rowsL (Int.toNat (i : Int)) = some [ia xs[i]] := h'.row hi
  have hw := wS (i := i) (by omega)
  simp only [Int.toNat_natCast] at hr hr'
  push_cast at hw ⊢
  simp [B7500, h.lenM, h'.lenM, hr, hr', hi, hw]
 ·simp [B7500, h.lenM]
theorem p75 {a b : AV} {xs : List Int} (h : IsL 1 (xs.map intR) a) (h' : IsL 1 (xs.map intR) b) (hn : xs.length < 1048577) : F75 [a, b] = some (.bool true) := by
 have hG := G7500 (Ω := calO s75) h h' hn
 simp [F75, unitF_eq, t75, h.lenM, h'.lenM, hG]
end Go.Proofs.YtdeaibcebeofiaaGreatDoor.C5

namespace Go.Proofs.YtdeaibcebeofiaaGreatDoor.C5
open Go Go.Proofs.YtdeaibcebeofiaaGreatDoor.AM
set_option maxRecDepth 20000
set_option maxHeartbeats 2000000
theorem same_self {xs : List Ent} {i : Nat} (hi : i < xs.length) : sameAt xs xs i = true := by
 simp [sameAt, hi]
theorem diffs_self (xs : List Ent) : diffs xs xs xs.length = [] := by
 simp only [diffs, List.filter_eq_nil_iff, List.mem_range]
 intro i hi
 simp [same_self hi]
theorem p74 {a b : AV} {xs : List Ent} (h : IsL 4 (xs.map entR) a) (h' : IsL 4 (xs.map entR) b) (hx : xs.length < 1048577) : F74 [a, b] = some (.bool true) := by
 have h1 := p30 h hx h' hx
 rw [Nat.max_self] at h1
 have h2 : accD xs xs xs.length = .nils := by simp only [accD, diffs_self]; rfl
 rw [h2] at h1
 simp [F74, unitF_eq, t74, h.lenM, h'.lenM, h1]
theorem p23_bad {want : AV} {c : Int} (hc : c ≠ 0) : F23 [.nils, ia c, ia c, want] = some (.bool true) := by
 simp [F23, unitF_eq, t23, hc]
theorem p23_ok {a b : AV} {xs : List Int} (h : IsL 1 (xs.map intR) a) (h' : IsL 1 (xs.map intR) b) (hn : xs.length < 1048577) : F23 [a, ia 0, ia 0, b] = some (.bool true) := by
 simp [F23, unitF_eq, t23, p75 h h' hn]
theorem p29_bad {want : AV} {c : Int} (hc : c ≠ 0) : F29 [.nils, ia c, ia c, want] = some (.bool true) := by
 simp [F29, unitF_eq, t29, hc]
theorem p29_ok {a b : AV} {xs : List Ent} (h : IsL 4 (xs.map entR) a) (h' : IsL 4 (xs.map entR) b) (hn : xs.length < 1048577) : F29 [a, ia 0, ia 0, b] = some (.bool true) := by
 have h1 := p18 h hn
 have h2 : (Sh.sl [.int .i64, .str, .int .i64, .int .i64]).ok (mkL 4 (xs.map entR)) = true := (mkL_isL 4 (xs.map entR)).ok rfl (by simp [entR])
 simp [F29, unitF_eq, t29, h1, h2, p74 (mkL_isL 4 (xs.map entR)) h' hn]
theorem both_eq (r : Rd) (xs ys : List Ent) : (if ckLog r xs = 0 then ckLog r ys else ckLog r xs) = ckBoth r xs ys := by
 unfold ckBoth ckLog
 by_cases h : r.ck = 0 <;> by_cases h2 : cks r.ns.length xs = 0 <;> simp [h, h2]
end Go.Proofs.YtdeaibcebeofiaaGreatDoor.C5
