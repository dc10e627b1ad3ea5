/-
  Plain lemmas (second part).
-/
import Derived.Test.YtdeaibcebeofiaaGreatDoorP1
set_option linter.unusedVariables false
set_option linter.unusedSimpArgs false
set_option linter.unusedSectionVars false
namespace Go.Proofs.YtdeaibcebeofiaaGreatDoor.C5
open Go Go.Proofs.YtdeaibcebeofiaaGreatDoor.AM
set_option maxRecDepth 20000
set_option maxHeartbeats 2000000
theorem size0 {s : ByteArray} : s = w3 ↔ s.size = 0 := by
 constructor
 ·rintro rfl; rfl
 ·intro h
  rcases s with ⟨a⟩
  have : a.size = 0 := h
  rw [w3, Array.size_eq_zero_iff.1 this]
def isName (s : ByteArray) : Bool := decide (1 ≤ s.size) && (decide (s.size ≤ 24) && ((List.range' 0 s.size).findSome? (badO s)).isNone)
theorem bad_cases (s : ByteArray) : ((List.range' 0 s.size).findSome? (badO s) = none) ∨ ((List.range' 0 s.size).findSome? (badO s) = some (.tuple [ia 1])) := by
 cases h : (List.range' 0 s.size).findSome? (badO s) with
 | none => exact .inl rfl
 | some r =>
   right
   obtain ⟨i, _, hr⟩ := List.exists_of_findSome?_eq_some h
   unfold badO at hr
   split at hr
   ·cases hr
   ·injection hr with hr; rw [← hr]
theorem p117 {s : ByteArray} (hs : s.size < 2097152) : F117 [.str s] = some (.bool (isName s)) := by
 have hG := @G11700 (calO s117) s hs
 by_cases h1 : (s.size : Int) < 1 <;> by_cases h2 : (24 : Int) < s.size <;> rcases bad_cases s with h | h <;> rw [h] at hG <;>
  first
   | (exfalso; omega)
   | (have h3 : 1 ≤ s.size := by omega
      have h4 : s.size ≤ 24 := by omega
      simp [F117, unitF_eq, t117, h1, h2, hG, isName, h, h3, h4]
      done)
   | (have h3 : ¬ 1 ≤ s.size := by omega
      simp [F117, unitF_eq, t117, h1, h2, isName, h3]
      done)
   | (have h3 : ¬ s.size ≤ 24 := by omega
      simp [F117, unitF_eq, t117, h1, h2, isName, h3]
      done)
theorem p113 {s : ByteArray} (hs : s.size < 2097152) : F113 [.str s] = some (.bool (isName s)) := by
 have hG := @G11300 (calO s113) s s hs
 by_cases h1 : s.size = 0 <;> by_cases h2 : (s.size : Int) ≤ 24 <;> rcases bad_cases s with h | h <;> rw [h] at hG <;>
  first
   | (exfalso; omega)
   | (have h3 : 1 ≤ s.size := by omega
      have h4 : s.size ≤ 24 := by omega
      simp [F113, unitF_eq, t113, h1, h2, hG, isName, h, h3, h4, size0]
      done)
   | (have h3 : ¬ 1 ≤ s.size := by omega
      simp [F113, unitF_eq, t113, h1, h2, hG, isName, h3, size0]
      done)
   | (have h3 : ¬ s.size ≤ 24 := by omega
      simp [F113, unitF_eq, t113, h1, h2, hG, isName, h3, size0]
      done)
end Go.Proofs.YtdeaibcebeofiaaGreatDoor.C5

namespace Go.Proofs.YtdeaibcebeofiaaGreatDoor.C5
open Go Go.Proofs.YtdeaibcebeofiaaGreatDoor.AM
set_option maxRecDepth 20000
set_option maxHeartbeats 2000000
theorem find_cases (l : List Int) : (firstNz l = 0 ∧ (l.findSome? fun c => if c = 0 then none else some (AV.tuple [ia 1, ia c])) = none) ∨ (firstNz l ≠ 0 ∧ (l.findSome? fun c => if c = 0 then none else some (AV.tuple [ia 1, ia c])) = some (.tuple [ia 1, ia (firstNz l)])) := by
 unfold firstNz
 induction l with
 | nil => left; exact ⟨rfl, rfl⟩
 | cons c l ih =>
   by_cases hc : c = 0
   ·simpa [hc] using ih
   ·right; simp [hc]
theorem find_map {α : Type} (f : α → Int) (l : List α) : (l.findSome? fun e => if f e = 0 then none else some (AV.tuple [ia 1, ia (f e)])) = (l.map f).findSome? fun c => if c = 0 then none else some (.tuple [ia 1, ia c]) := by
 induction l with
 | nil => rfl
 | cons e l ih => simp only [List.map_cons, List.findSome?_cons]; split <;> simp_all
def nameC (ns : List ByteArray) (i : Nat) : Int := if !isName (ns.getD i w3) then 8 else if memB (ns.getD i w3) (ns.take i) then 9 else 0
theorem isL_slice {a : AV} {ns : List ByteArray} (h : IsL 1 (ns.map strR) a) (Ω : Om) (i : Nat) : IsL 1 ((ns.take i).map strR) (Pr.sem Ω .slice [a, ia 0, ia i]) := by
 rcases h with rfl | ⟨rfl, h⟩
 ·left
  show AV.sl 1 ((List.drop 0 (ns.map strR)).take _) = _
  simp [List.map_take]
 ·right
  have : ns = [] := by simpa using h
  subst this
  exact ⟨rfl, by simp⟩
theorem G5800 {names f pl ti : AV} {ns : List ByteArray} (h : IsL 1 (ns.map strR) names) (hn : ns.length < 2097152) (hz : ∀ s ∈ ns, s.size < 2097152) :
  loopG (calO s58) B5800 KK [names, ia ns.length, ia 0, f, pl, ti] = some ((((List.range' 0 ns.length).map (nameC ns)).findSome? fun c => if c = 0 then none else some (.tuple [ia 1, ia c])).getD (.tuple [ia 2, f, names, pl, ti])) := by
 rw [← find_map]
 refine loop0 (fun i => [names, ia ns.length, ia i, f, pl, ti]) ns.length _ _ hn (fun i hi => ?_) ?_
 ·have hr : nth names.rowsL (Int.toNat (i : Int)) = some [.str ns[i]] := h.row hi
  have hw := wS (Nat.lt_trans hi hn)
  have hp := p113 (hz ns[i] (List.getElem_mem hi))
  have hc := p114 (isL_slice h (calO s58) i) (by rw [List.length_take]; omega) ns[i]
  have hg : ns.getD i w3 = ns[i] := by simp [hi]
  simp only [nameC, hg]
  have hi' : i ≤ ns.length := by omega
  cases h1 : isName ns[i] <;> cases h2 : memB ns[i] (ns.take i) <;> simp_all [B5800, h.lenM, p103, p102_2, whenI, firstNz]
 ·simp [B5800]
theorem fz3 (a b c : Int) : firstNz [a, b, c] = if a ≠ 0 then a else if b ≠ 0 then b else c := by
 unfold firstNz; by_cases ha : a = 0 <;> by_cases hb : b = 0 <;> by_cases hc : c = 0 <;> simp [ha, hb, hc]
theorem fz2 (a b : Int) : firstNz [a, b] = if a ≠ 0 then a else b := by
 unfold firstNz; by_cases ha : a = 0 <;> by_cases hb : b = 0 <;> simp [ha, hb]
def namesC (ns : List ByteArray) : Int := firstNz ((List.range' 0 ns.length).map (nameC ns))
def ckRound (f : ByteArray) (ns : List ByteArray) (pl ti : Int) : Int :=
 if mostI f = 0 then 13 else if ns.length = 0 then 12 else if 160 < ns.length then 5 else if namesC ns ≠ 0 then namesC ns else if outB pl 1 (mostI f) || outB ti 1 86399999 then 3 else 0
theorem p58 {names : AV} {f : ByteArray} {ns : List ByteArray} (h : IsL 1 (ns.map strR) names) (hn : ns.length < 2097152) (hz : ∀ s ∈ ns, s.size < 2097152) (pl ti : Int) :
  F58 [.str f, names, ia pl, ia ti] = some (ia (ckRound f ns pl ti)) := by
 have hG := G5800 (f := .str f) (pl := ia pl) (ti := ia ti) h hn hz
 have hl : names.lenN = ns.length := h.lenM
 by_cases h1 : mostI f = 0
 ·simp [F58, unitF_eq, t58, p112, p103, p102_3, p102_2, p115, hl, h1, whenI, fz3, fz2, ckRound]
 ·by_cases h2 : ns.length = 0
  ·simp [F58, unitF_eq, t58, p112, p103, p102_3, p102_2, p115, hl, h1, h2, whenI, fz3, fz2, ckRound]
  ·by_cases h3 : (160 : Int) < ns.length
   ·have h3' : 160 < ns.length := by omega
    simp [F58, unitF_eq, t58, p112, p103, p102_3, p102_2, p115, hl, h1, h2, h3, h3', whenI, fz3, fz2, ckRound]
   ·have h3' : ¬ 160 < ns.length := by omega
    rcases find_cases ((List.range' 0 ns.length).map (nameC ns)) with ⟨h4, h5⟩ | ⟨h4, h5⟩ <;> rw [h5] at hG
    ·cases h6 : outB pl 1 (mostI f) <;> cases h7 : outB ti 1 86399999 <;>
      simp [F58, unitF_eq, t58, p112, p103, p102_3, p102_2, p115, hl, h1, h2, h3, h3', hG, h6, h7, whenI, fz3, fz2, ckRound, namesC, h4]
    ·simp [F58, unitF_eq, t58, p112, p103, p102_3, p102_2, p115, hl, h1, h2, h3, h3', hG, whenI, ckRound, namesC, h4, fz3, fz2]
theorem G5901 {names f pl ti : AV} {ns : List ByteArray} (h : IsL 1 (ns.map strR) names) (hn : ns.length < 2097152) (Ω : Om) (j : Nat) (hj : j < ns.length) :
  loopG Ω B5901 KK [ia j, ia 0, f, names, pl, ti] = some (if memB ns[j] (ns.take j) then .tuple [ia 1] else .tuple [ia 2, ia j, f, names, pl, ti]) := by
 have hrj : nth names.rowsL (Int.toNat (j : Int)) = some [.str ns[j]] := h.row hj
 have h0 := loopL (Ω := Ω) (B := B5901) (fun i => [ia j, ia i, f, names, pl, ti]) (ns.take j) (fun x => if x = ns[j] then some (.tuple [ia 1]) else none) (.tuple [ia 2, ia j, f, names, pl, ti]) (by rw [List.length_take]; omega) (fun i hi => by
  rw [List.length_take] at hi
  have hi1 : i < j := by omega
  have hi2 : i < ns.length := by omega
  have hr : nth names.rowsL (Int.toNat (i : Int)) = some [.str ns[i]] := h.row hi2
  have hw := wS (Nat.lt_trans hi2 hn)
  have hg : (ns.take j)[i]'(by rw [List.length_take]; exact hi) = ns[i] := by simp
  rw [hg]
  by_cases hc : ns[i] = ns[j] <;> simp_all [B5901, h.lenM]) (by
  have : (ns.take j).length = j := by rw [List.length_take]; omega
  simp [B5901, this])
 refine Eq.trans h0 ?_
 congr 1
 unfold memB
 generalize ns[j] = s
 generalize ns.take j = l
 induction l with
 | nil => rfl
 | cons x l ih =>
   rw [List.findSome?_cons, List.any_cons]
   by_cases hc : x = s
   ·subst hc; simp
   ·rw [if_neg hc, decide_eq_false (fun h => hc h.symm), Bool.false_or]; exact ih
theorem G5900 {names f pl ti : AV} {ns : List ByteArray} (h : IsL 1 (ns.map strR) names) (hn : ns.length < 2097152) (hz : ∀ s ∈ ns, s.size < 2097152) :
  loopG (omL KK s59 [d5901]) B5900 KK [ia 0, f, names, pl, ti] = some ((((List.range' 0 ns.length).map (nameC ns)).findSome? fun c => if c = 0 then none else some (.tuple [ia 1, ia c])).getD (.tuple [ia 2, f, names, pl, ti])) := by
 rw [← find_map]
 refine loop0 (fun i => [ia i, f, names, pl, ti]) ns.length _ _ hn (fun i hi => ?_) ?_
 ·have hr : nth names.rowsL (Int.toNat (i : Int)) = some [.str ns[i]] := h.row hi
  have hw := wS (Nat.lt_trans hi hn)
  have hp := p117 (hz ns[i] (List.getElem_mem hi))
  have hG := G5901 (f := f) (pl := pl) (ti := ti) h hn (calO s59) i hi
  have hg : ns.getD i w3 = ns[i] := by simp [hi]
  simp only [nameC, hg]
  cases h1 : isName ns[i] <;> cases h2 : memB ns[i] (ns.take i) <;> simp_all [B5900, h.lenM]
 ·simp [B5900, h.lenM]
theorem p59 {names : AV} {f : ByteArray} {ns : List ByteArray} (h : IsL 1 (ns.map strR) names) (hn : ns.length < 2097152) (hz : ∀ s ∈ ns, s.size < 2097152) (pl ti : Int) :
  F59 [.str f, names, ia pl, ia ti] = some (ia (ckRound f ns pl ti)) := by
 have hG := G5900 (f := .str f) (pl := ia pl) (ti := ia ti) h hn hz
 have hl : names.lenN = ns.length := h.lenM
 by_cases h1 : mostI f = 0
 ·simp [F59, unitF_eq, t59, p116, p90, hl, h1, ckRound]
 ·by_cases h2 : ns.length = 0
  ·simp [F59, unitF_eq, t59, p116, p90, hl, h1, h2, ckRound]
  ·by_cases h3 : (160 : Int) < ns.length
   ·have h3' : 160 < ns.length := by omega
    simp [F59, unitF_eq, t59, p116, p90, hl, h1, h2, h3, h3', ckRound]
   ·have h3' : ¬ 160 < ns.length := by omega
    rcases find_cases ((List.range' 0 ns.length).map (nameC ns)) with ⟨h4, h5⟩ | ⟨h4, h5⟩ <;> rw [h5] at hG
    ·cases h6 : outB pl 1 (mostI f) <;> cases h7 : outB ti 1 86399999 <;>
      simp [F59, unitF_eq, t59, p116, p90, hl, h1, h2, h3, h3', hG, h6, h7, ckRound, namesC, h4]
    ·simp [F59, unitF_eq, t59, p116, p90, hl, h1, h2, h3, h3', hG, ckRound, namesC, h4]
end Go.Proofs.YtdeaibcebeofiaaGreatDoor.C5

namespace Go.Proofs.YtdeaibcebeofiaaGreatDoor.C5
open Go Go.Proofs.YtdeaibcebeofiaaGreatDoor.AM
set_option maxRecDepth 20000
set_option maxHeartbeats 2000000
structure Rd where
 f : ByteArray
 ns : List ByteArray
 pl : Int
 ti : Int
structure RdOk (r : Rd) (names : AV) : Prop where
 isL : IsL 1 (r.ns.map strR) names
 len : r.ns.length < 1048577
 sz : ∀ s ∈ r.ns, s.size < 2097152
def Rd.ck (r : Rd) : Int := ckRound r.f r.ns r.pl r.ti
def cks (n : Int) (es : List Ent) : Int := if es.length > 256 then 5 else firstNz (es.map (ckEnt n))
def ckLog (r : Rd) (es : List Ent) : Int := if r.ck ≠ 0 then r.ck else cks r.ns.length es
theorem p61 {r : Rd} {names a : AV} (hr : RdOk r names) {es : List Ent} (h : IsL 4 (es.map entR) a) (hes : es.length < 1048577) :
  F61 [.str r.f, names, ia r.pl, ia r.ti, a] = some (ia (ckLog r es)) := by
 have h1 := p58 (f := r.f) hr.isL (by have := hr.len; omega) hr.sz r.pl r.ti
 have h2 := p121 (f := .str r.f) (pl := ia r.pl) (ti := ia r.ti) hr.isL.lenM (by have := hr.len; omega) h (by omega)
 have h3 : ckRound r.f r.ns r.pl r.ti = r.ck := rfl
 rw [h3] at h1
 by_cases hc : r.ck = 0 <;> simp [F61, unitF_eq, t61, h1, h2, hc, ckLog, cks]
theorem p21 {r : Rd} {names a : AV} (hr : RdOk r names) {es : List Ent} (h : IsL 4 (es.map entR) a) (hes : es.length < 1048577) :
  F21 [.str r.f, names, ia r.pl, ia r.ti, a] = some (ia (ckLog r es)) := by
 have h1 := p59 (f := r.f) hr.isL (by have := hr.len; omega) hr.sz r.pl r.ti
 have hG := G2100 (f := .str r.f) (pl := ia r.pl) (ti := ia r.ti) hr.isL.lenM (by have := hr.len; omega) h (by omega)
 have h3 : ckRound r.f r.ns r.pl r.ti = r.ck := rfl
 rw [h3] at h1
 by_cases hc : r.ck = 0
 ·by_cases hb : 256 < (es.length : Int)
  ·have hb' : 256 < es.length := by omega
   simp [F21, unitF_eq, t21, h1, hc, ckLog, cks, h.lenM, hb, hb']
  ·have hb' : ¬ 256 < es.length := by omega
   rcases ckOut_cases (es.map (ckEnt r.ns.length)) with ⟨g1, g2⟩ | ⟨g1, g2⟩ <;> rw [g2] at hG <;> simp [F21, unitF_eq, t21, h1, hc, ckLog, cks, h.lenM, hb, hb', hG, g1]
 ·simp [F21, unitF_eq, t21, h1, hc, ckLog]
def ckBoth (r : Rd) (a b : List Ent) : Int := if ckLog r a ≠ 0 then ckLog r a else cks r.ns.length b
theorem p80 {r : Rd} {names a b : AV} (hr : RdOk r names) {xs ys : List Ent} (h : IsL 4 (xs.map entR) a) (hx : xs.length < 1048577) (h' : IsL 4 (ys.map entR) b) (hy : ys.length < 1048577) :
  F80 [.str r.f, names, ia r.pl, ia r.ti, a, b] = some (ia (ckBoth r xs ys)) := by
 have h1 := p61 hr h hx
 have h2 := p121 (f := .str r.f) (pl := ia r.pl) (ti := ia r.ti) hr.isL.lenM (by have := hr.len; omega) h' (by omega)
 by_cases hc : ckLog r xs = 0 <;> simp [F80, unitF_eq, t80, h1, h2, hc, ckBoth, cks]
def sameAt (a b : List Ent) (i : Nat) : Bool :=
 match a[i]?, b[i]? with
 | some x, some y => decide (x = y)
 | _, _ => false
theorem p83 {a b : AV} {xs ys : List Ent} (h : IsL 4 (xs.map entR) a) (h' : IsL 4 (ys.map entR) b) (hx : xs.length < 1048577) (hy : ys.length < 1048577) (i : Nat) (hi : i < 2097152) :
  F83 [a, b, ia ((i + 1 : Nat) : Int)] = some (.bool (sameAt xs ys i)) := by
 have hw : IntKind.i64.wrap (((i + 1 : Nat) : Int) - 1) = (i : Int) := by rw [i64w (by omega) (by omega)]; omega
 have hw' : IntKind.i64.wrap ((i : Int) + 1 - 1) = (i : Int) := by rw [i64w (by omega) (by omega)]; omega
 by_cases h1 : i < xs.length
 ·by_cases h2 : i < ys.length
  ·have hr1 : nth a.rowsL (Int.toNat (i : Int)) = some (entR xs[i]) := h.row h1
   have hr2 : nth b.rowsL (Int.toNat (i : Int)) = some (entR ys[i]) := h'.row h2
   simp only [entR] at hr1 hr2
   have h3 : (i : Int) + 1 ≤ xs.length := by omega
   have h4 : (i : Int) + 1 ≤ ys.length := by omega
   have h5 : sameAt xs ys i = (decide (xs[i].1 = ys[i].1) && (decide (xs[i].2.1 = ys[i].2.1) && (decide (xs[i].2.2.1 = ys[i].2.2.1) && decide (xs[i].2.2.2 = ys[i].2.2.2)))) := by
    simp only [sameAt, List.getElem?_eq_getElem h1, List.getElem?_eq_getElem h2]
    rw [Bool.eq_iff_iff]
    simp [Prod.ext_iff]
   rw [h5]
   by_cases g1 : xs[i].1 = ys[i].1 <;> by_cases g2 : xs[i].2.1 = ys[i].2.1 <;> by_cases g3 : xs[i].2.2.1 = ys[i].2.2.1 <;> by_cases g4 : xs[i].2.2.2 = ys[i].2.2.2 <;>
    simp_all [F83, unitF_eq, t83, h.lenM, h'.lenM]
  ·have h4 : ¬ (i : Int) + 1 ≤ ys.length := by omega
   have h5 : sameAt xs ys i = false := by
    simp only [sameAt, List.getElem?_eq_none (by omega : ys.length ≤ i)]
    split <;> simp_all
   have h3 : (i : Int) + 1 ≤ xs.length := by omega
   simp [F83, unitF_eq, t83, h.lenM, h'.lenM, h3, h4, h5]
 ·have h3 : ¬ (i : Int) + 1 ≤ xs.length := by omega
  have h5 : sameAt xs ys i = false := by
   simp only [sameAt, List.getElem?_eq_none (by omega : xs.length ≤ i)]
  simp [F83, unitF_eq, t83, h.lenM, h'.lenM, h3, h5]
end Go.Proofs.YtdeaibcebeofiaaGreatDoor.C5

namespace Go.Proofs.YtdeaibcebeofiaaGreatDoor.C5
open Go Go.Proofs.YtdeaibcebeofiaaGreatDoor.AM
set_option maxRecDepth 20000
set_option maxHeartbeats 2000000
def mkL (k : Nat) : List (List AV) → AV
 | [] => .nils
 | r :: rs => .sl k (r :: rs)
theorem mkL_isL (k : Nat) (r : List (List AV)) : IsL k r (mkL k r) := by
 cases r
 ·exact .inr ⟨rfl, rfl⟩
 ·exact .inl rfl
@[simp] theorem mkL_rows (k : Nat) (r : List (List AV)) : (mkL k r).rowsL = r := (mkL_isL k r).rows
@[simp] theorem mkL_len (k : Nat) (r : List (List AV)) : (mkL k r).lenN = r.length := (mkL_isL k r).len
theorem mkL_snoc (k : Nat) (r : List (List AV)) (x : List AV) : mkL k (r ++ [x]) = .sl k (r ++ [x]) := by
 cases r <;> rfl
def diffs (xs ys : List Ent) (n : Nat) : List Nat := (List.range n).filter fun j => !sameAt xs ys j
def placeR (j : Nat) : List AV := [ia ((j + 1 : Nat) : Int)]
def accD (xs ys : List Ent) (i : Nat) : AV := mkL 1 ((diffs xs ys i).map placeR)
theorem diffs_len (xs ys : List Ent) (n : Nat) : (diffs xs ys n).length ≤ n := by
 have := List.length_filter_le (fun j => !sameAt xs ys j) (List.range n)
 simpa [diffs] using this
theorem accD_same {xs ys : List Ent} {i : Nat} (h : sameAt xs ys i = true) : accD xs ys (i + 1) = accD xs ys i := by
 simp [accD, diffs, List.range_succ, h]
theorem accD_diff {xs ys : List Ent} {i : Nat} (h : sameAt xs ys i = false) : accD xs ys (i + 1) = .sl 1 ((diffs xs ys i).map placeR ++ [placeR i]) := by
 rw [← mkL_snoc]
 simp [accD, diffs, List.range_succ, h]
theorem maxN (xs ys : List Ent) : (if xs.length < ys.length then (ys.length : Int) else xs.length) = ((max xs.length ys.length : Nat) : Int) := by
 split <;> omega
theorem G2700 {a b : AV} {xs ys : List Ent} (h : IsL 4 (xs.map entR) a) (h' : IsL 4 (ys.map entR) b) (hx : xs.length < 1048577) (hy : ys.length < 1048577) :
  loopG (calO s27) B2700 KK [a, b, .nils, ia 1] = some (.tuple [ia 1, accD xs ys (max xs.length ys.length)]) := by
 refine loopF (fun i => [a, b, accD xs ys i, ia ((i + 1 : Nat) : Int)]) (max xs.length ys.length) _ (by omega) (fun i hi => ?_) ?_
 ·have hp := p83 h h' hx hy i (by omega)
  have hw : IntKind.i64.wrap (((i + 1 : Nat) : Int) + 1) = ((i + 1 + 1 : Nat) : Int) := wS (by omega)
  have hl := diffs_len xs ys i
  have hc : ((i + 1 : Nat) : Int) ≤ (if xs.length < ys.length then (ys.length : Int) else xs.length) := by rw [maxN]; omega
  cases hs : sameAt xs ys i
  ·rw [hs] at hp
   rw [accD_diff hs]
   have hb : ((diffs xs ys i).length : Int) + 1 ≤ 1073741824 := by omega
   push_cast at hp hw hc ⊢
   simp [B2700, h.lenM, h'.lenM, hp, hw, hc, accD, hb, placeR]
  ·rw [hs] at hp
   rw [accD_same hs]
   push_cast at hp hw hc ⊢
   simp [B2700, h.lenM, h'.lenM, hp, hw, hc]
 ·have hc : ¬ (((max xs.length ys.length + 1 : Nat) : Int) ≤ (if xs.length < ys.length then (ys.length : Int) else xs.length)) := by rw [maxN]; omega
  push_cast at hc ⊢
  simp [B2700, h.lenM, h'.lenM, hc]
theorem p27 {r : Rd} {names a b : AV} (hr : RdOk r names) {xs ys : List Ent} (h : IsL 4 (xs.map entR) a) (hx : xs.length < 1048577) (h' : IsL 4 (ys.map entR) b) (hy : ys.length < 1048577) :
  F27 [.str r.f, names, ia r.pl, ia r.ti, a, b] = some (.tuple [if ckBoth r xs ys ≠ 0 then .nils else accD xs ys (max xs.length ys.length), ia (ckBoth r xs ys)]) := by
 have h1 := p80 hr h hx h' hy
 have hG := G2700 h h' hx hy
 by_cases hc : ckBoth r xs ys = 0 <;> simp [F27, unitF_eq, t27, h1, hG, hc]
theorem sameAt_eq {xs ys : List Ent} {i : Nat} (h1 : i < xs.length) (h2 : i < ys.length) : sameAt xs ys i = (decide (xs[i].1 = ys[i].1) && (decide (xs[i].2.1 = ys[i].2.1) && (decide (xs[i].2.2.1 = ys[i].2.2.1) && decide (xs[i].2.2.2 = ys[i].2.2.2)))) := by
 simp only [sameAt, List.getElem?_eq_getElem h1, List.getElem?_eq_getElem h2]
 rw [Bool.eq_iff_iff]
 simp [Prod.ext_iff]
theorem sameAt_no {xs ys : List Ent} {i : Nat} (h : ¬ (i < xs.length ∧ i < ys.length)) : sameAt xs ys i = false := by
 simp only [sameAt]
 by_cases h1 : i < xs.length
 ·have h2 : ys.length ≤ i := by omega
  rw [List.getElem?_eq_none h2]
  split <;> simp_all
 ·rw [List.getElem?_eq_none (by omega : xs.length ≤ i)]
theorem G3000 {Ω : Om} {a b : AV} {xs ys : List Ent} (h : IsL 4 (xs.map entR) a) (h' : IsL 4 (ys.map entR) b) (hx : xs.length < 1048577) (hy : ys.length < 1048577) :
  loopG Ω B3000 KK [a, b, .nils, ia 1] = some (.tuple [ia 1, accD xs ys (max xs.length ys.length)]) := by
 refine loopF (fun i => [a, b, accD xs ys i, ia ((i + 1 : Nat) : Int)]) (max xs.length ys.length) _ (by omega) (fun i hi => ?_) ?_
 ·have hw : IntKind.i64.wrap (((i + 1 : Nat) : Int) + 1) = ((i + 1 + 1 : Nat) : Int) := wS (by omega)
  have hw' : IntKind.i64.wrap (i : Int) = (i : Int) := by rw [i64w (by omega) (by omega)]
  have hl := diffs_len xs ys i
  have hc : ((i + 1 : Nat) : Int) ≤ (if xs.length < ys.length then (ys.length : Int) else xs.length) := by rw [maxN]; omega
  have hb : ((diffs xs ys i).length : Int) + 1 ≤ 1073741824 := by omega
  by_cases h1 : i < xs.length
  ·by_cases h2 : i < ys.length
   ·have hr1 : nth a.rowsL (Int.toNat (i : Int)) = some (entR xs[i]) := h.row h1
    have hr2 : nth b.rowsL (Int.toNat (i : Int)) = some (entR ys[i]) := h'.row h2
    simp only [entR, Int.toNat_natCast] at hr1 hr2
    have h3 : ¬ (xs.length : Int) < i + 1 := by omega
    have h4 : ¬ (ys.length : Int) < i + 1 := by omega
    have hs := sameAt_eq h1 h2
    by_cases g1 : xs[i].1 = ys[i].1 <;> by_cases g2 : xs[i].2.1 = ys[i].2.1 <;> by_cases g3 : xs[i].2.2.1 = ys[i].2.2.1 <;> by_cases g4 : xs[i].2.2.2 = ys[i].2.2.2 <;>
     simp only [g1, g2, g3, g4, decide_true, decide_false, Bool.and_true, Bool.and_false, Bool.true_and, Bool.false_and] at hs <;>
     first
      | (rw [accD_same hs]
         push_cast at hw hc ⊢
         simp [B3000, h.lenM, h'.lenM, hw, hw', hc, h1, h2, h3, h4, hr1, hr2, g1, g2, g3, g4]
         done)
      | (rw [accD_diff hs]
         push_cast at hw hc ⊢
         simp [B3000, h.lenM, h'.lenM, hw, hw', hc, h1, h2, h3, h4, hr1, hr2, g1, g2, g3, g4, accD, hb, placeR]
         done)
   ·rw [accD_diff (sameAt_no (fun hh => h2 hh.2))]
    have h4 : (ys.length : Int) < i + 1 := by omega
    have h3 : ¬ (xs.length : Int) < i + 1 := by omega
    push_cast at hw hc ⊢
    simp [B3000, h.lenM, h'.lenM, hw, hc, h3, h4, accD, hb, placeR]
  ·rw [accD_diff (sameAt_no (fun hh => h1 hh.1))]
   have h3 : (xs.length : Int) < i + 1 := by omega
   push_cast at hw hc ⊢
   simp [B3000, h.lenM, h'.lenM, hw, hc, h3, accD, hb, placeR]
 ·have hc : ¬ (((max xs.length ys.length + 1 : Nat) : Int) ≤ (if xs.length < ys.length then (ys.length : Int) else xs.length)) := by rw [maxN]; omega
  push_cast at hc ⊢
  simp [B3000, h.lenM, h'.lenM, hc]
theorem p30 {a b : AV} {xs ys : List Ent} (h : IsL 4 (xs.map entR) a) (hx : xs.length < 1048577) (h' : IsL 4 (ys.map entR) b) (hy : ys.length < 1048577) :
  F30 [a, b] = some (accD xs ys (max xs.length ys.length)) := by
 have hG := G3000 (Ω := calO s30) h h' hx hy
 simp [F30, unitF_eq, t30, hG]
end Go.Proofs.YtdeaibcebeofiaaGreatDoor.C5

namespace Go.Proofs.YtdeaibcebeofiaaGreatDoor.C5
open Go Go.Proofs.YtdeaibcebeofiaaGreatDoor.AM
set_option maxRecDepth 20000
set_option maxHeartbeats 2000000
abbrev rulCs : List Sh := [.int .i64, .bool, .int .i64, .str, .int .i64, .int .i64]
structure MapOf (es : List (AV × AV)) (g : Int → Option Rul) : Prop where
 keys : ∀ e ∈ es, ∃ (n : Int) (r : Rul), e = (ia n, .agg (rulR r))
 find : ∀ n, findA (ia n) es = some ((g n).map fun r => .agg (rulR r))
theorem find_ia (n m : Int) (v : AV) (es : List (AV × AV)) : findA (ia n) ((ia m, v) :: es) = if n = m then some (some v) else findA (ia n) es := by
 by_cases h : n = m
 ·subst h; simp [findA, keyEq]
 ·have h' : (n == m) = false := by simpa using h
  simp only [findA, keyEq, if_true, h', if_neg h]
theorem upd_ia (n m : Int) (u v : AV) (es : List (AV × AV)) : updA (ia n) u ((ia m, v) :: es) = if n = m then some ((ia m, u) :: es) else (updA (ia n) u es).map ((ia m, v) :: ·) := by
 by_cases h : n = m
 ·subst h; simp [updA, keyEq]
 ·have h' : (n == m) = false := by simpa using h
  simp only [updA, keyEq, if_true, h', if_neg h]
theorem upd_map {es : List (AV × AV)} {g : Int → Option Rul} (h : MapOf es g) (r : Rul) :
  ∃ es', updA (ia r.1) (.agg (rulR r)) es = some es' ∧ MapOf es' (fun n => if n = r.1 then some r else g n) := by
 have key : ∀ (es : List (AV × AV)), (∀ e ∈ es, ∃ (n : Int) (r : Rul), e = (ia n, .agg (rulR r))) →
   ∃ es', updA (ia r.1) (.agg (rulR r)) es = some es' ∧ (∀ e ∈ es', ∃ (n : Int) (r : Rul), e = (ia n, .agg (rulR r))) ∧
     ∀ n, findA (ia n) es' = if n = r.1 then some (some (.agg (rulR r))) else findA (ia n) es := by
  intro es
  induction es with
  | nil =>
    intro _
    refine ⟨[(ia r.1, .agg (rulR r))], by simp [updA], fun e he => (by
     cases he with
     | head => exact ⟨_, _, rfl⟩
     | tail _ he => cases he), fun n => ?_⟩
    rw [find_ia]
  | cons e es ih =>
    intro hk
    obtain ⟨m, r', rfl⟩ := hk e (.head _)
    obtain ⟨es', h1, h2, h3⟩ := ih fun e he => hk e (.tail _ he)
    by_cases hm : r.1 = m
    ·refine ⟨(ia m, .agg (rulR r)) :: es, by rw [upd_ia, if_pos hm], fun e he => ?_, fun n => ?_⟩
     ·cases he with
      | head => exact ⟨m, r, rfl⟩
      | tail _ he => exact hk e (.tail _ he)
     ·rw [find_ia, find_ia, hm]
      by_cases hn : n = m <;> simp [hn]
    ·refine ⟨(ia m, .agg (rulR r')) :: es', by rw [upd_ia, if_neg hm, h1]; rfl, fun e he => ?_, fun n => ?_⟩
     ·cases he with
      | head => exact ⟨m, r', rfl⟩
      | tail _ he => exact h2 e he
     ·rw [find_ia, find_ia, h3]
      by_cases hn : n = m
      ·subst hn; rw [if_pos rfl, if_neg (fun h => hm h.symm), if_pos rfl]
      ·rw [if_neg hn, if_neg hn]
 obtain ⟨es', h1, h2, h3⟩ := key es h.keys
 refine ⟨es', h1, h2, fun n => ?_⟩
 rw [h3]
 by_cases hn : n = r.1
 ·simp [hn]
 ·rw [if_neg hn, if_neg hn, h.find]
def lastI (rs : List Rul) : Nat → Int → Option Nat
 | 0, _ => none
 | i + 1, n => if (rs[i]?).map (·.1) = some n then some i else lastI rs i n
def rulAt (rs : List Rul) (i : Nat) (n : Int) : Option Rul := (lastI rs i n).bind fun j => rs[j]?
def mapE (rs : List Rul) : Nat → List (AV × AV)
 | 0 => []
 | i + 1 => match rs[i]? with
   | some r => (match updA (ia r.1) (.agg (rulR r)) (mapE rs i) with | some es => es | none => [])
   | none => []
theorem mapE_of (rs : List Rul) : ∀ i, i ≤ rs.length → MapOf (mapE rs i) (rulAt rs i)
 | 0, _ => ⟨fun e he => (by cases he), fun n => rfl⟩
 | i + 1, hi => by
   have ih := mapE_of rs i (by omega)
   have hr : rs[i]? = some rs[i] := List.getElem?_eq_getElem (by omega)
   obtain ⟨es', h1, h2⟩ := upd_map ih rs[i]
   have h3 : mapE rs (i + 1) = es' := by simp only [mapE, hr, h1]
   rw [h3]
   refine ⟨h2.keys, fun n => ?_⟩
   rw [h2.find]
   by_cases hn : n = rs[i].1
   ·subst hn
    simp [rulAt, lastI, hr]
   ·have : ¬ rs[i].1 = n := fun h => hn h.symm
    simp [rulAt, lastI, hr, hn, this]
theorem mapE_step {rs : List Rul} {i : Nat} (hi : i < rs.length) : updA (ia rs[i].1) (.agg (rulR rs[i])) (mapE rs i) = some (mapE rs (i + 1)) := by
 obtain ⟨es', h1, h2⟩ := upd_map (mapE_of rs i (by omega)) rs[i]
 have hr : rs[i]? = some rs[i] := List.getElem?_eq_getElem (by omega)
 rw [h1]
 simp only [mapE, hr, h1]
@[simp] theorem entsL_im (es : List (AV × AV)) : AV.entsL (.im es) = es := rfl
theorem s_mput (Ω : Om) (es : List (AV × AV)) (k v : AV) : Pr.sem Ω .mput [.im es, k, v] = (match updA k v es with | some es => .im es | none => .junk) := rfl
theorem s_mnew (Ω : Om) : Pr.sem Ω .mnew [] = .im [] := rfl
theorem im_ok {es : List (AV × AV)} {g : Int → Option Rul} (h : MapOf es g) : (Sh.im (.int .i64) true rulCs).ok (.im es) = true := by
 simp only [Sh.ok, List.all_eq_true]
 intro e he
 obtain ⟨n, r, rfl⟩ := h.keys e he
 simp [rulR]
theorem G8500 {Ω : Om} {a : AV} {rs : List Rul} (h : IsL 6 (rs.map rulR) a) (hn : rs.length < 1048577) :
  loopG Ω B8500 KK [a, ia rs.length, ia 0, .im []] = some (.tuple [ia 1, .im (mapE rs rs.length)]) := by
 refine loopF (fun i => [a, ia rs.length, ia i, .im (mapE rs i)]) rs.length _ (by omega) (fun i hi => ?_) ?_
 ·have hr : nth a.rowsL (Int.toNat (i : Int)) = some (rulR rs[i]) := h.row hi
  have hw := wS (i := i) (by omega)
  have hm := mapE_step hi
  simp only [rulR, Int.toNat_natCast] at hr hm
  simp [B8500, h.lenM, hr, hi, s_mput, hm, hw]
 ·simp [B8500]
theorem p85 {a : AV} {rs : List Rul} (h : IsL 6 (rs.map rulR) a) (hn : rs.length < 1048577) : F85 [a] = some (.im (mapE rs rs.length)) := by
 have hG := G8500 (Ω := calO s85) h hn
 simp [F85, unitF_eq, t85, h.lenM, s_mnew, hG]
theorem G8700 {Ω : Om} {a : AV} {rs : List Rul} (h : IsL 6 (rs.map rulR) a) (hn : rs.length < 1048577) (n : Int) : ∀ (i K : Nat), i ≤ rs.length → i < K →
  loopG Ω B8700 K [a, ia n, ia ((i : Int) - 1)] = some (match lastI rs i n with | some j => .tuple [ia 1, ia j] | none => .tuple [ia 2])
 | 0, K, _, hK => by
   obtain ⟨K, rfl⟩ : ∃ m, K = m + 1 := ⟨K - 1, by omega⟩
   exact loopG_out (by simp [B8700, lastI])
 | i + 1, K, hi, hK => by
   obtain ⟨K, rfl⟩ : ∃ m, K = m + 1 := ⟨K - 1, by omega⟩
   have hi' : i < rs.length := by omega
   have hr : nth a.rowsL (Int.toNat (i : Int)) = some (rulR rs[i]) := h.row hi'
   have hq : rs[i]? = some rs[i] := List.getElem?_eq_getElem hi'
   have hw : IntKind.i64.wrap ((i : Int) - 1) = (i : Int) - 1 := i64w (by omega) (by omega)
   have hz : ((i + 1 : Nat) : Int) - 1 = (i : Int) := by omega
   simp only [rulR, Int.toNat_natCast] at hr
   rw [hz]
   by_cases hc : rs[i].1 = n
   ·rw [loopG_out (r := .tuple [ia 1, ia i]) (by simp [B8700, hr, hi', hc, h.lenM])]
    simp [lastI, hq, hc]
   ·rw [loopG_again (vs' := [a, ia n, ia ((i : Int) - 1)]) (by simp [B8700, hr, hi', hc, h.lenM, hw]), G8700 h hn n i K (by omega) (by omega)]
    simp [lastI, hq, hc]
def lastN (rs : List Rul) (n : Int) : Int := match lastI rs rs.length n with | some j => j | none => -1
theorem p87 {a : AV} {rs : List Rul} (h : IsL 6 (rs.map rulR) a) (hn : rs.length < 1048577) (n : Int) : F87 [a, ia n] = some (ia (lastN rs n)) := by
 have hG := G8700 (Ω := calO s87) h hn n rs.length KK (by omega) (by rw [KK_eq]; omega)
 have hw : IntKind.i64.wrap ((rs.length : Int) - 1) = (rs.length : Int) - 1 := i64w (by omega) (by omega)
 unfold lastN
 cases hl : lastI rs rs.length n <;> rw [hl] at hG <;> simp [F87, unitF_eq, t87, h.lenM, hw, hG]
end Go.Proofs.YtdeaibcebeofiaaGreatDoor.C5
