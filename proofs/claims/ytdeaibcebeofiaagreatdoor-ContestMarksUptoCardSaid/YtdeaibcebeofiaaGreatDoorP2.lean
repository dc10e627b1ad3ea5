/-
  Plain lemmas (second part).
-/
import Derived.Test.YtdeaibcebeofiaaGreatDoorP1
import Derived.Test.YtdeaibcebeofiaaGreatDoorF2
set_option linter.unusedVariables false
set_option linter.unusedSimpArgs false
set_option linter.unusedSectionVars false
namespace Go.Proofs.YtdeaibcebeofiaaGreatDoor.C5
open Go Go.Proofs.YtdeaibcebeofiaaGreatDoor.AM
set_option maxRecDepth 20000
set_option maxHeartbeats 2000000
theorem size0 {s : ByteArray} : s = w3 ↔ s.size = 0 := by
 constructor
 ·rintro rfl; rfl
 ·intro h
  rcases s with ⟨a⟩
  have : a.size = 0 := h
  rw [w3, Array.size_eq_zero_iff.1 this]
def isName (s : ByteArray) : Bool := decide (1 ≤ s.size) && (decide (s.size ≤ 24) && ((List.range' 0 s.size).findSome? (badO s)).isNone)
theorem bad_cases (s : ByteArray) : ((List.range' 0 s.size).findSome? (badO s) = none) ∨ ((List.range' 0 s.size).findSome? (badO s) = some (.tuple [ia 1])) := by
 cases h : (List.range' 0 s.size).findSome? (badO s) with
 | none => exact .inl rfl
 | some r =>
   right
   obtain ⟨i, _, hr⟩ := List.exists_of_findSome?_eq_some h
   unfold badO at hr
   split at hr
   ·cases hr
   ·injection hr with hr; rw [← hr]
theorem p117 {s : ByteArray} (hs : s.size < 2097152) : F117 [.str s] = some (.bool (isName s)) := by
 have hG := @G11700 (calO s117) s hs
 by_cases h1 : (s.size : Int) < 1 <;> by_cases h2 : (24 : Int) < s.size <;> rcases bad_cases s with h | h <;> rw [h] at hG <;>
  first
   | (exfalso; omega)
   | (have h3 : 1 ≤ s.size := by omega
      have h4 : s.size ≤ 24 := by omega
      simp [F117, unitF_eq, t117, h1, h2, hG, isName, h, h3, h4]
      done)
   | (have h3 : ¬ 1 ≤ s.size := by omega
      simp [F117, unitF_eq, t117, h1, h2, isName, h3]
      done)
   | (have h3 : ¬ s.size ≤ 24 := by omega
      simp [F117, unitF_eq, t117, h1, h2, isName, h3]
      done)
theorem p113 {s : ByteArray} (hs : s.size < 2097152) : F113 [.str s] = some (.bool (isName s)) := by
 have hG := @G11300 (calO s113) s s hs
 by_cases h1 : s.size = 0 <;> by_cases h2 : (s.size : Int) ≤ 24 <;> rcases bad_cases s with h | h <;> rw [h] at hG <;>
  first
   | (exfalso; omega)
   | (have h3 : 1 ≤ s.size := by omega
      have h4 : s.size ≤ 24 := by omega
      simp [F113, unitF_eq, t113, h1, h2, hG, isName, h, h3, h4, size0]
      done)
   | (have h3 : ¬ 1 ≤ s.size := by omega
      simp [F113, unitF_eq, t113, h1, h2, hG, isName, h3, size0]
      done)
   | (have h3 : ¬ s.size ≤ 24 := by omega
      simp [F113, unitF_eq, t113, h1, h2, hG, isName, h3, size0]
      done)
end Go.Proofs.YtdeaibcebeofiaaGreatDoor.C5

namespace Go.Proofs.YtdeaibcebeofiaaGreatDoor.C5
open Go Go.Proofs.YtdeaibcebeofiaaGreatDoor.AM
set_option maxRecDepth 20000
set_option maxHeartbeats 2000000
theorem find_cases (l : List Int) : (firstNz l = 0 ∧ (l.findSome? fun c => if c = 0 then none else some (AV.tuple [ia 1, ia c])) = none) ∨ (firstNz l ≠ 0 ∧ (l.findSome? fun c => if c = 0 then none else some (AV.tuple [ia 1, ia c])) = some (.tuple [ia 1, ia (firstNz l)])) := by
 unfold firstNz
 induction l with
 | nil => left; exact ⟨rfl, rfl⟩
 | cons c l ih =>
   by_cases hc : c = 0
   ·simpa [hc] using ih
   ·right; simp [hc]
theorem find_map {α : Type} (f : α → Int) (l : List α) : (l.findSome? fun e => if f e = 0 then none else some (AV.tuple [ia 1, ia (f e)])) = (l.map f).findSome? fun c => if c = 0 then none else some (.tuple [ia 1, ia c]) := by
 induction l with
 | nil => rfl
 | cons e l ih => simp only [List.map_cons, List.findSome?_cons]; split <;> simp_all
def nameC (ns : List ByteArray) (i : Nat) : Int := if !isName (ns.getD i w3) then 8 else if memB (ns.getD i w3) (ns.take i) then 9 else 0
theorem isL_slice {a : AV} {ns : List ByteArray} (h : IsL 1 (ns.map strR) a) (Ω : Om) (i : Nat) : IsL 1 ((ns.take i).map strR) (Pr.sem Ω .slice [a, ia 0, ia i]) := by
 rcases h with rfl | ⟨rfl, h⟩
 ·left
  show AV.sl 1 ((List.drop 0 (ns.map strR)).take _) = _
  simp [List.map_take]
 ·right
  have : ns = [] := by simpa using h
  subst this
  exact ⟨rfl, by simp⟩
theorem G5800 {names f pl ti : AV} {ns : List ByteArray} (h : IsL 1 (ns.map strR) names) (hn : ns.length < 2097152) (hz : ∀ s ∈ ns, s.size < 2097152) :
  loopG (calO s58) B5800 KK [names, ia ns.length, ia 0, f, pl, ti] = some ((((List.range' 0 ns.length).map (nameC ns)).findSome? fun c => if c = 0 then none else some (.tuple [ia 1, ia c])).getD (.tuple [ia 2, f, names, pl, ti])) := by
 rw [← find_map]
 refine loop0 (fun i => [names, ia ns.length, ia i, f, pl, ti]) ns.length _ _ hn (fun i hi => ?_) ?_
 ·have hr : nth names.rowsL (Int.toNat (i : Int)) = some [.str ns[i]] := h.row hi
  have hw := wS (Nat.lt_trans hi hn)
  have hp := p113 (hz ns[i] (List.getElem_mem hi))
  have hc := p114 (isL_slice h (calO s58) i) (by rw [List.length_take]; omega) ns[i]
  have hg : ns.getD i w3 = ns[i] := by simp [hi]
  simp only [nameC, hg]
  have hi' : i ≤ ns.length := by omega
  cases h1 : isName ns[i] <;> cases h2 : memB ns[i] (ns.take i) <;> simp_all [B5800, h.lenM, p103, p102_2, whenI, firstNz]
 ·simp [B5800]
theorem fz3 (a b c : Int) : firstNz [a, b, c] = if a ≠ 0 then a else if b ≠ 0 then b else c := by
 unfold firstNz; by_cases ha : a = 0 <;> by_cases hb : b = 0 <;> by_cases hc : c = 0 <;> simp [ha, hb, hc]
theorem fz2 (a b : Int) : firstNz [a, b] = if a ≠ 0 then a else b := by
 unfold firstNz; by_cases ha : a = 0 <;> by_cases hb : b = 0 <;> simp [ha, hb]
def namesC (ns : List ByteArray) : Int := firstNz ((List.range' 0 ns.length).map (nameC ns))
def ckRound (f : ByteArray) (ns : List ByteArray) (pl ti : Int) : Int :=
 if mostI f = 0 then 13 else if ns.length = 0 then 12 else if 160 < ns.length then 5 else if namesC ns ≠ 0 then namesC ns else if outB pl 1 (mostI f) || outB ti 1 86399999 then 3 else 0
theorem p58 {names : AV} {f : ByteArray} {ns : List ByteArray} (h : IsL 1 (ns.map strR) names) (hn : ns.length < 2097152) (hz : ∀ s ∈ ns, s.size < 2097152) (pl ti : Int) :
  F58 [.str f, names, ia pl, ia ti] = some (ia (ckRound f ns pl ti)) := by
 have hG := G5800 (f := .str f) (pl := ia pl) (ti := ia ti) h hn hz
 have hl : names.lenN = ns.length := h.lenM
 by_cases h1 : mostI f = 0
 ·simp [F58, unitF_eq, t58, p112, p103, p102_3, p102_2, p115, hl, h1, whenI, fz3, fz2, ckRound]
 ·by_cases h2 : ns.length = 0
  ·simp [F58, unitF_eq, t58, p112, p103, p102_3, p102_2, p115, hl, h1, h2, whenI, fz3, fz2, ckRound]
  ·by_cases h3 : (160 : Int) < ns.length
   ·have h3' : 160 < ns.length := by omega
    simp [F58, unitF_eq, t58, p112, p103, p102_3, p102_2, p115, hl, h1, h2, h3, h3', whenI, fz3, fz2, ckRound]
   ·have h3' : ¬ 160 < ns.length := by omega
    rcases find_cases ((List.range' 0 ns.length).map (nameC ns)) with ⟨h4, h5⟩ | ⟨h4, h5⟩ <;> rw [h5] at hG
    ·cases h6 : outB pl 1 (mostI f) <;> cases h7 : outB ti 1 86399999 <;>
      simp [F58, unitF_eq, t58, p112, p103, p102_3, p102_2, p115, hl, h1, h2, h3, h3', hG, h6, h7, whenI, fz3, fz2, ckRound, namesC, h4]
    ·simp [F58, unitF_eq, t58, p112, p103, p102_3, p102_2, p115, hl, h1, h2, h3, h3', hG, whenI, ckRound, namesC, h4, fz3, fz2]
theorem G5901 {names f pl ti : AV} {ns : List ByteArray} (h : IsL 1 (ns.map strR) names) (hn : ns.length < 2097152) (Ω : Om) (j : Nat) (hj : j < ns.length) :
  loopG Ω B5901 KK [ia j, ia 0, f, names, pl, ti] = some (if memB ns[j] (ns.take j) then .tuple [ia 1] else .tuple [ia 2, ia j, f, names, pl, ti]) := by
 have hrj : nth names.rowsL (Int.toNat (j : Int)) = some [.str ns[j]] := h.row hj
 have h0 := loopL (Ω := Ω) (B := B5901) (fun i => [ia j, ia i, f, names, pl, ti]) (ns.take j) (fun x => if x = ns[j] then some (.tuple [ia 1]) else none) (.tuple [ia 2, ia j, f, names, pl, ti]) (by rw [List.length_take]; omega) (fun i hi => by
  rw [List.length_take] at hi
  have hi1 : i < j := by omega
  have hi2 : i < ns.length := by omega
  have hr : nth names.rowsL (Int.toNat (i : Int)) = some [.str ns[i]] := h.row hi2
  have hw := wS (Nat.lt_trans hi2 hn)
  have hg : (ns.take j)[i]'(by rw [List.length_take]; exact hi) = ns[i] := by simp
  rw [hg]
  by_cases hc : ns[i] = ns[j] <;> simp_all [B5901, h.lenM]) (by
  have : (ns.take j).length = j := by rw [List.length_take]; omega
  simp [B5901, this])
 refine Eq.trans h0 ?_
 congr 1
 unfold memB
 generalize ns[j] = s
 generalize ns.take j = l
 induction l with
 | nil => rfl
 | cons x l ih =>
   rw [List.findSome?_cons, List.any_cons]
   by_cases hc : x = s
   ·subst hc; simp
   ·rw [if_neg hc, decide_eq_false (fun h => hc h.symm), Bool.false_or]; exact ih
theorem G5900 {names f pl ti : AV} {ns : List ByteArray} (h : IsL 1 (ns.map strR) names) (hn : ns.length < 2097152) (hz : ∀ s ∈ ns, s.size < 2097152) :
  loopG (omL KK s59 [d5901]) B5900 KK [ia 0, f, names, pl, ti] = some ((((List.range' 0 ns.length).map (nameC ns)).findSome? fun c => if c = 0 then none else some (.tuple [ia 1, ia c])).getD (.tuple [ia 2, f, names, pl, ti])) := by
 rw [← find_map]
 refine loop0 (fun i => [ia i, f, names, pl, ti]) ns.length _ _ hn (fun i hi => ?_) ?_
 ·have hr : nth names.rowsL (Int.toNat (i : Int)) = some [.str ns[i]] := h.row hi
  have hw := wS (Nat.lt_trans hi hn)
  have hp := p117 (hz ns[i] (List.getElem_mem hi))
  have hG := G5901 (f := f) (pl := pl) (ti := ti) h hn (calO s59) i hi
  have hg : ns.getD i w3 = ns[i] := by simp [hi]
  simp only [nameC, hg]
  cases h1 : isName ns[i] <;> cases h2 : memB ns[i] (ns.take i) <;> simp_all [B5900, h.lenM]
 ·simp [B5900, h.lenM]
theorem p59 {names : AV} {f : ByteArray} {ns : List ByteArray} (h : IsL 1 (ns.map strR) names) (hn : ns.length < 2097152) (hz : ∀ s ∈ ns, s.size < 2097152) (pl ti : Int) :
  F59 [.str f, names, ia pl, ia ti] = some (ia (ckRound f ns pl ti)) := by
 have hG := G5900 (f := .str f) (pl := ia pl) (ti := ia ti) h hn hz
 have hl : names.lenN = ns.length := h.lenM
 by_cases h1 : mostI f = 0
 ·simp [F59, unitF_eq, t59, p116, p90, hl, h1, ckRound]
 ·by_cases h2 : ns.length = 0
  ·simp [F59, unitF_eq, t59, p116, p90, hl, h1, h2, ckRound]
  ·by_cases h3 : (160 : Int) < ns.length
   ·have h3' : 160 < ns.length := by omega
    simp [F59, unitF_eq, t59, p116, p90, hl, h1, h2, h3, h3', ckRound]
   ·have h3' : ¬ 160 < ns.length := by omega
    rcases find_cases ((List.range' 0 ns.length).map (nameC ns)) with ⟨h4, h5⟩ | ⟨h4, h5⟩ <;> rw [h5] at hG
    ·cases h6 : outB pl 1 (mostI f) <;> cases h7 : outB ti 1 86399999 <;>
      simp [F59, unitF_eq, t59, p116, p90, hl, h1, h2, h3, h3', hG, h6, h7, ckRound, namesC, h4]
    ·simp [F59, unitF_eq, t59, p116, p90, hl, h1, h2, h3, h3', hG, ckRound, namesC, h4]
end Go.Proofs.YtdeaibcebeofiaaGreatDoor.C5

namespace Go.Proofs.YtdeaibcebeofiaaGreatDoor.C5
open Go Go.Proofs.YtdeaibcebeofiaaGreatDoor.AM
set_option maxRecDepth 20000
set_option maxHeartbeats 2000000
structure Rd where
 f : ByteArray
 ns : List ByteArray
 pl : Int
 ti : Int
structure RdOk (r : Rd) (names : AV) : Prop where
 isL : IsL 1 (r.ns.map strR) names
 len : r.ns.length < 1048577
 sz : ∀ s ∈ r.ns, s.size < 2097152
def Rd.ck (r : Rd) : Int := ckRound r.f r.ns r.pl r.ti
end Go.Proofs.YtdeaibcebeofiaaGreatDoor.C5

namespace Go.Proofs.YtdeaibcebeofiaaGreatDoor.C5
open Go Go.Proofs.YtdeaibcebeofiaaGreatDoor.AM
set_option maxRecDepth 20000
set_option maxHeartbeats 2000000
def mkL (k : Nat) : List (List AV) → AV
 | [] => .nils
 | r :: rs => .sl k (r :: rs)
theorem mkL_isL (k : Nat) (r : List (List AV)) : IsL k r (mkL k r) := by
 cases r
 ·exact .inr ⟨rfl, rfl⟩
 ·exact .inl rfl
@[simp] theorem mkL_rows (k : Nat) (r : List (List AV)) : (mkL k r).rowsL = r := (mkL_isL k r).rows
@[simp] theorem mkL_len (k : Nat) (r : List (List AV)) : (mkL k r).lenN = r.length := (mkL_isL k r).len
theorem mkL_snoc (k : Nat) (r : List (List AV)) (x : List AV) : mkL k (r ++ [x]) = .sl k (r ++ [x]) := by
 cases r <;> rfl
@[simp] theorem okr_agg (cs : List Sh) (vs : List AV) : RS.okr [.agg cs] (.agg vs) = Sh.oks cs vs := rfl
theorem take_snoc {α : Type} {l : List α} {i : Nat} (hi : i < l.length) : l.take (i + 1) = l.take i ++ [l[i]] := by
 rw [List.take_succ_eq_append_getElem hi]
theorem any_find {α : Type} (p : α → Bool) (l : List α) : (l.findSome? fun e => if p e then some (AV.tuple [ia 1]) else none) = if l.any p then some (.tuple [ia 1]) else none := by
 induction l with
 | nil => rfl
 | cons e l ih =>
   rw [List.findSome?_cons, List.any_cons]
   cases h : p e
   ·simpa using ih
   ·rfl
def shRound (f : ByteArray) (ns : List ByteArray) : Bool :=
 !(decide (20 < f.size) || ((decide (12 < ns.length) && (decide (ns.length ≤ 160) || decide (162 < ns.length))) || decide (162 < ns.length))) && !(ns.any fun s => decide (40 < s.size))
theorem G1600 {Ω : Om} {names f pl ti : AV} {ns : List ByteArray} (h : IsL 1 (ns.map strR) names) (hn : ns.length < 1048577) :
  loopG Ω B1600 KK [ia 0, f, names, pl, ti] = some (if (ns.any fun s => decide (40 < s.size)) then .tuple [ia 1] else .tuple [ia 2]) := by
 have := loopL (Ω := Ω) (B := B1600) (fun i => [ia i, f, names, pl, ti]) ns (fun s => if decide (40 < s.size) = true then some (AV.tuple [ia 1]) else none) (.tuple [ia 2]) (by omega) (fun i hi => by
  have hr : nth names.rowsL (Int.toNat (i : Int)) = some [.str ns[i]] := h.row hi
  have hw := wS (i := i) (by omega)
  simp only [Int.toNat_natCast] at hr
  by_cases hc : 40 < ns[i].size
  ·have hc' : (40 : Int) < ns[i].size := by omega
   simp [B1600, h.lenM, hr, hi, hc, hc']
  ·have hc' : ¬ (40 : Int) < ns[i].size := by omega
   push_cast at hw
   simp [B1600, h.lenM, hr, hi, hc, hc', hw]) (by simp [B1600, h.lenM])
 refine Eq.trans this ?_
 rw [any_find]
 cases (ns.any fun s => decide (40 < s.size)) <;> rfl
theorem p16 {names pl ti : AV} {f : ByteArray} {ns : List ByteArray} (h : IsL 1 (ns.map strR) names) (hn : ns.length < 1048577) :
  ∃ b, F16 [.str f, names, pl, ti] = some (.bool b) := by
 have hG := G1600 (Ω := calO s16) (f := .str f) (pl := pl) (ti := ti) h hn
 by_cases h1 : (20 : Int) < f.size <;> by_cases h2 : (12 : Int) < ns.length <;> by_cases h3 : (ns.length : Int) ≤ 160 <;> by_cases h4 : (162 : Int) < ns.length <;>
  cases hk : (ns.any fun s => decide (40 < s.size)) <;> rw [hk] at hG <;> simp at hG <;>
  simp [F16, unitF_eq, t16, h.lenM, h1, h2, h3, h4, hG]
end Go.Proofs.YtdeaibcebeofiaaGreatDoor.C5

namespace Go.Proofs.YtdeaibcebeofiaaGreatDoor.C5
open Go Go.Proofs.YtdeaibcebeofiaaGreatDoor.AM
set_option maxRecDepth 20000
set_option maxHeartbeats 2000000
abbrev Tri := Int × Int × Int × Bool
def triR (t : Tri) : List AV := [ia t.1, ia t.2.1, ia t.2.2.1, .bool t.2.2.2]
def farT (t : Tri) : Bool := outB t.1 0 99 || (outB t.2.1 0 t.1 || outB t.2.2.1 0 t.1)
def wrongT (t : Tri) : Bool := (decide (t.2.2.1 > 0) && (decide (t.2.1 = 0) || decide (t.2.1 > t.2.2.1))) || (decide (t.1 > 0) && !t.2.2.2)
def tryC (t : Tri) : Int := if farT t then 3 else if wrongT t then 1 else 0
def trysC (ts : List Tri) : Int := firstNz (ts.map tryC)
theorem p168 (t : Tri) : F168 (triR t) = some (ia (tryC t)) := by
 obtain ⟨a, z, p, v⟩ := t
 simp only [triR, F168, unitF_eq]
 cases h1 : outB a 0 99 <;> cases h2 : outB z 0 a <;> cases h3 : outB p 0 a <;> cases v <;> by_cases h4 : p > 0 <;> by_cases h6 : z > p <;> by_cases h7 : a > 0 <;> by_cases h5 : z = 0 <;> (try subst h5) <;>
  simp [t168, p90, tryC, farT, wrongT, *]
theorem G22100 {a : AV} {ts : List Tri} (h : IsL 4 (ts.map triR) a) (hn : ts.length < 1048577) :
  loopG (calO s221) B22100 KK [a, ia ts.length, ia 0] = some (ckOut (ts.map tryC)) := by
 rw [← ckOut_map]
 refine loopL (fun i => [a, ia ts.length, ia i]) ts _ _ (by omega) (fun i hi => ?_) ?_
 ·have hr : nth a.rowsL (Int.toNat (i : Int)) = some (triR ts[i]) := h.row hi
  have hw := wS (i := i) (by omega)
  simp only [triR, Int.toNat_natCast] at hr
  generalize ts[i] = t at hr ⊢
  obtain ⟨x, z, p, v⟩ := t
  push_cast at hw
  simp only [B22100]
  cases h1 : outB x 0 99 <;> cases h2 : outB z 0 x <;> cases h3 : outB p 0 x <;> cases v <;> by_cases h4 : p > 0 <;> by_cases h6 : z > p <;> by_cases h7 : x > 0 <;> by_cases h5 : z = 0 <;> (try subst h5) <;>
   simp [h.lenM, hr, hi, hw, p89, p103, p102_2, fz2, whenI, tryC, farT, wrongT, *]
 ·simp [B22100]
theorem p221 {a : AV} {ts : List Tri} (h : IsL 4 (ts.map triR) a) (hn : ts.length < 1048577) : F221 [a] = some (ia (trysC ts)) := by
 have hG := G22100 h hn
 rcases ckOut_cases (ts.map tryC) with ⟨h1, h2⟩ | ⟨h1, h2⟩ <;> rw [h2] at hG <;> simp [F221, unitF_eq, t221, h.lenM, hG, h1, trysC]
def runsB (rs : List Int) : Bool := rs.any fun n => outB n 0 86399999
theorem G23500 {a : AV} {rs : List Int} (h : IsL 1 (rs.map intR) a) (hn : rs.length < 1048577) :
  ∃ r, loopG (calO s235) B23500 KK [a, ia rs.length, ia 0] = some r ∧ ((runsB rs = true ∧ ∃ i : Nat, r = .tuple [ia 1, ia i]) ∨ (runsB rs = false ∧ r = .tuple [ia 2])) := by
 have hG := loop0 (Ω := calO s235) (B := B23500) (fun i => [a, ia rs.length, ia i]) rs.length (fun i => if outB (rs.getD i 0) 0 86399999 then some (.tuple [ia 1, ia i]) else none) (.tuple [ia 2]) (by omega) (fun i hi => by
  have hr : nth a.rowsL (Int.toNat (i : Int)) = some [ia rs[i]] := h.row hi
  have hw := wS (i := i) (by omega)
  have hg : rs.getD i 0 = rs[i] := by simp [hi]
  have hp : F220 [ia rs[i]] = some (.bool (outB rs[i] 0 86399999)) := by simp [F220, unitF_eq, t220, p89]
  simp only [Int.toNat_natCast] at hr
  push_cast at hw
  rw [hg]
  cases hc : outB rs[i] 0 86399999 <;> rw [hc] at hp <;> simp [B23500, h.lenM, hr, hi, hw, hp]) (by simp [B23500])
 refine ⟨_, hG, ?_⟩
 cases hb : runsB rs
 ·right
  refine ⟨rfl, ?_⟩
  rw [List.findSome?_eq_none_iff.2 (fun i hi => ?_)]
  ·rfl
  ·have hl : i < rs.length := by simp only [List.mem_range'_1] at hi; omega
   have : outB rs[i] 0 86399999 = false := by
    have := List.any_eq_false.1 hb rs[i] (List.getElem_mem hl)
    simpa using this
   simp [hl, this]
 ·left
  refine ⟨rfl, ?_⟩
  cases hf : (List.range' 0 rs.length).findSome? fun i => if outB (rs.getD i 0) 0 86399999 then some (AV.tuple [ia 1, ia i]) else none with
  | none =>
    exfalso
    obtain ⟨x, hx, hy⟩ := List.any_eq_true.1 hb
    obtain ⟨i, hi, rfl⟩ := List.getElem_of_mem hx
    have := List.findSome?_eq_none_iff.1 hf i (by simp only [List.mem_range'_1]; omega)
    simp [hi, hy] at this
  | some r =>
    obtain ⟨i, hi, hr⟩ := List.exists_of_findSome?_eq_some hf
    refine ⟨i, ?_⟩
    split at hr
    ·injection hr with hr; rw [← hr]; rfl
    ·cases hr
theorem p219 {a : AV} {rs : List Int} (h : IsL 1 (rs.map intR) a) (hn : rs.length < 1048577) : F219 [a] = some (.bool (runsB rs)) := by
 obtain ⟨r, hG, hr⟩ := G23500 h hn
 have h1 : ∃ j : Int, F235 [a] = some (ia j) ∧ (decide (j ≥ 0) = runsB rs) := by
  rcases hr with ⟨h1, i, rfl⟩ | ⟨h1, rfl⟩
  ·exact ⟨i, by simp [F235, unitF_eq, t235, h.lenM, hG], by simp [h1]⟩
  ·exact ⟨-1, by simp [F235, unitF_eq, t235, h.lenM, hG], by simp [h1]⟩
 obtain ⟨j, h1, h2⟩ := h1
 simp [F219, unitF_eq, t219, h1, ← h2]
def bestS (o n : Int) : Int := if n > 0 ∧ (o = 0 ∨ n < o) then n else o
def bestI (rs : List Int) : Int := rs.foldl bestS 0
theorem G9500 {Ω : Om} {a : AV} {rs : List Int} (h : IsL 1 (rs.map intR) a) (hn : rs.length < 1048577) :
  loopG Ω B9500 KK [ia 0, a, ia rs.length, ia 0] = some (.tuple [ia 1, ia (bestI rs)]) := by
 refine loopF (fun i => [ia (bestI (rs.take i)), a, ia rs.length, ia i]) rs.length _ (by omega) (fun i hi => ?_) ?_
 ·have hr : nth a.rowsL (Int.toNat (i : Int)) = some [ia rs[i]] := h.row hi
  have hw := wS (i := i) (by omega)
  have hb : bestI (rs.take (i + 1)) = bestS (bestI (rs.take i)) rs[i] := by rw [take_snoc hi, bestI, List.foldl_append]; rfl
  simp only [Int.toNat_natCast] at hr
  push_cast at hw
  rw [hb]
  generalize bestI (rs.take i) = o
  generalize rs[i] = n at hr ⊢
  by_cases h1 : n > 0 <;> by_cases h2 : o = 0 <;> by_cases h3 : n < o <;> simp [B9500, h.lenM, hr, hi, hw, bestS, h1, h2, h3]
 ·simp [B9500]
theorem p95 {a : AV} {rs : List Int} (h : IsL 1 (rs.map intR) a) (hn : rs.length < 1048577) : F95 [a] = some (ia (bestI rs)) := by
 have hG := G9500 (Ω := calO s95) h hn
 simp [F95, unitF_eq, t95, h.lenM, hG]
theorem G12700 {Ω : Om} {v2 v3 v4 v5 v6 v7 v8 v9 v10 v11 a : AV} {rs : List Int} (h : IsL 1 (rs.map intR) a) (hn : rs.length < 1048577) :
  loopG Ω B12700 KK [ia 0, ia 0, v2, v3, v4, v5, v6, v7, v8, v9, v10, v11, a] = some (.tuple [ia 1, ia (bestI rs)]) := by
 refine loopF (fun i => [ia (bestI (rs.take i)), ia i, v2, v3, v4, v5, v6, v7, v8, v9, v10, v11, a]) rs.length _ (by omega) (fun i hi => ?_) ?_
 ·have hr : nth a.rowsL (Int.toNat (i : Int)) = some [ia rs[i]] := h.row hi
  have hw := wS (i := i) (by omega)
  have hb : bestI (rs.take (i + 1)) = bestS (bestI (rs.take i)) rs[i] := by rw [take_snoc hi, bestI, List.foldl_append]; rfl
  simp only [Int.toNat_natCast] at hr
  push_cast at hw
  rw [hb]
  generalize bestI (rs.take i) = o
  generalize rs[i] = n at hr ⊢
  by_cases h1 : n > 0 <;> by_cases h2 : o = 0 <;> by_cases h3 : n < o <;> simp [B12700, h.lenM, hr, hi, hw, bestS, h1, h2, h3]
 ·simp [B12700, h.lenM]
theorem p125 {v2 v3 v4 v5 v6 v7 v8 v9 v10 v11 a : AV} {rs : List Int} (h : IsL 1 (rs.map intR) a) (hn : rs.length < 1048577) :
  F125 [v2, v3, v4, v5, v6, v7, v8, v9, v10, v11, a] = some (.bool (decide (bestI rs > 0))) := by
 have hG := G12700 (Ω := calO s127) (v2 := v2) (v3 := v3) (v4 := v4) (v5 := v5) (v6 := v6) (v7 := v7) (v8 := v8) (v9 := v9) (v10 := v10) (v11 := v11) h hn
 have h1 : F127 [v2, v3, v4, v5, v6, v7, v8, v9, v10, v11, a] = some (ia (bestI rs)) := by simp [F127, unitF_eq, t127, hG]
 simp [F125, unitF_eq, t125, h1]
theorem best_nn (rs : List Int) : 0 ≤ bestI rs := by
 have : ∀ (l : List Int) (o : Int), 0 ≤ o → 0 ≤ l.foldl bestS o := by
  intro l
  induction l with
  | nil => intro o h; exact h
  | cons n l ih =>
    intro o h
    rw [List.foldl_cons]
    refine ih _ ?_
    unfold bestS
    split <;> omega
 exact this rs 0 (by omega)
end Go.Proofs.YtdeaibcebeofiaaGreatDoor.C5

namespace Go.Proofs.YtdeaibcebeofiaaGreatDoor.C5
open Go Go.Proofs.YtdeaibcebeofiaaGreatDoor.AM
set_option maxRecDepth 20000
set_option maxHeartbeats 4000000
structure Clb where
 ph : ByteArray
 st : ByteArray
 pl : Int
 be : Int
 us : Int
 ho : Int
 pb : Bool
 tb : Bool
 ob : Bool
 tr : AV
 ru : AV
 ts : List Tri
 rs : List Int
def Clb.row (c : Clb) : List AV := [.str c.ph, .str c.st, ia c.pl, ia c.be, ia c.us, ia c.ho, .bool c.pb, .bool c.tb, .bool c.ob, c.tr, c.ru]
structure ClbOk (c : Clb) : Prop where
 t : IsL 4 (c.ts.map triR) c.tr
 r : IsL 1 (c.rs.map intR) c.ru
 tl : c.ts.length < 1048577
 rl : c.rs.length < 1048577
def phsL : List ByteArray := [w4, w5, w6]
def stsL : List ByteArray := [w3, w7, w8, w9]
def placesI (f : ByteArray) (n : Int) : Int := if f = w1 then n else if f = w2 then 2 else 0
def holdsI (f : ByteArray) (n : Int) : Int := if f = w0 then n else 0
def triesI (f : ByteArray) (n : Int) : Int := if f = w1 then n else 0
def runsI (f : ByteArray) (n : Int) : Int := if f = w2 then n else 0
def knownB (c : Clb) : Bool := memB c.ph phsL && memB c.st stsL
def stateB (c : Clb) : Bool := decide (c.ph ≠ w6) && decide (c.st ≠ w3)
def farB (f : ByteArray) (n ti time : Int) (c : Clb) : Bool := outB c.be 0 time || (outB c.us 0 ti || (outB c.pl 0 (placesI f n) || outB c.ho 0 (holdsI f n)))
def shapeB (f : ByteArray) (n : Int) (c : Clb) : Bool := decide ((c.ts.length : Int) ≠ triesI f n) || decide ((c.rs.length : Int) > runsI f n)
def foreignB (f : ByteArray) (c : Clb) : Bool := (decide (f ≠ w0) && (decide (c.us ≠ 0) || (c.pb || c.tb))) || (decide (f ≠ w1) && c.ob)
def ckForm (f : ByteArray) (n ti time : Int) (c : Clb) : Int :=
 firstNz [whenI (!knownB c) 13, whenI (stateB c) 19, whenI (farB f n ti time c) 3, whenI (shapeB f n c) 2, trysC c.ts, whenI (runsB c.rs) 3, whenI (foreignB f c) 1]
theorem p217 (f : ByteArray) (names : AV) (n ti : Int) : F217 [.str f, names, ia n, ia ti] = some (ia (placesI f n)) := by
 simp [F217, unitF_eq, t217, placesI, keyEq]
theorem p218 (f : ByteArray) (names : AV) (n ti : Int) : F218 [.str f, names, ia n, ia ti] = some (ia (holdsI f n)) := by
 simp [F218, unitF_eq, t218, holdsI, keyEq]
theorem p167 (f : ByteArray) (names : AV) (n ti : Int) : F167 [.str f, names, ia n, ia ti] = some (ia (placesI f n)) := by
 simp [F167, unitF_eq, t167, placesI]
theorem p102_7 (a b c d e f g : Int) : F102 [.sl 1 [[ia a], [ia b], [ia c], [ia d], [ia e], [ia f], [ia g]]] = some (ia (firstNz [a, b, c, d, e, f, g])) :=
 p102 (ns := [a, b, c, d, e, f, g]) (.inl rfl) (by simp)
theorem s_ite' (Ω : Om) (a b c : AV) : Pr.sem Ω .ite [c, a, b] = cond c.bB a b := by
 show (match c.bB with | true => a | false => b) = _
 cases c.bB <;> rfl
theorem bB_cond (p : Bool) (a b : AV) : (cond p a b).bB = cond p a.bB b.bB := by cases p <;> rfl
theorem nI_cond (p : Bool) (a b : AV) : (cond p a b).nI = cond p a.nI b.nI := by cases p <;> rfl
theorem int_cond (p : Bool) (k : IntKind) (a b : Int) : cond p (AV.int k a) (AV.int k b) = AV.int k (cond p a b) := by cases p <;> rfl
theorem bool_cond (p : Bool) (a b : Bool) : cond p (AV.bool a) (AV.bool b) = AV.bool (cond p a b) := by cases p <;> rfl
theorem tl_beq (a b : ByteArray) : (a.toList == b.toList) = decide (a = b) := by
 rw [Bool.eq_iff_iff]; simp
theorem ne_b (a b : Int) : (a != b) = !decide (a = b) := by
 by_cases h : a = b <;> simp [h]
theorem eq_b (a b : Int) : (a == b) = decide (a = b) := by
 by_cases h : a = b <;> simp [h]
theorem sB : (∀ (Ω : Om) (a b c : AV), Pr.sem Ω .ite [c, a, b] = cond c.bB a b) ∧ (∀ (p : Bool) (a b : AV), (cond p a b).bB = cond p a.bB b.bB) ∧ (∀ (p : Bool) (a b : AV), (cond p a b).nI = cond p a.nI b.nI) ∧ (∀ (p : Bool) (k : IntKind) (a b : Int), cond p (AV.int k a) (AV.int k b) = AV.int k (cond p a b)) ∧ (∀ p a b : Bool, cond p (AV.bool a) (AV.bool b) = AV.bool (cond p a b)) ∧ (∀ a b : ByteArray, (a.toList == b.toList) = decide (a = b)) ∧ (∀ a b : Int, (a != b) = !decide (a = b)) ∧ ∀ a b : Int, (a == b) = decide (a = b) := ⟨s_ite', bB_cond, nI_cond, int_cond, bool_cond, tl_beq, ne_b, eq_b⟩
theorem tf_or (p : Prop) [Decidable p] : p = True ∨ p = False := by
 by_cases h : p
 ·exact .inl (eq_true h)
 ·exact .inr (eq_false h)
theorem p178 {f : ByteArray} {names : AV} {n ti time : Int} {c : Clb} (hc : ClbOk c) :
  F178 (.str f :: names :: ia n :: ia ti :: ia time :: c.row) = some (ia (ckForm f n ti time c)) := by
 have h1 : F114 [.sl 1 [[.str w4], [.str w5], [.str w6]], .str c.ph] = some (.bool (memB c.ph phsL)) := p114 (ns := phsL) (.inl rfl) (by decide) c.ph
 have h2 : F114 [.sl 1 [[.str w3], [.str w7], [.str w8], [.str w9]], .str c.st] = some (.bool (memB c.st stsL)) := p114 (ns := stsL) (.inl rfl) (by decide) c.st
 have h3 := p219 hc.r hc.rl
 have h4 := p221 hc.t hc.tl
 have h5 : c.tr.lenN = c.ts.length := hc.t.lenM
 have h6 : c.ru.lenN = c.rs.length := hc.r.lenM
 rcases tf_or (c.ph = w6) with e | e <;> rcases tf_or (f = w1) with e1 | e1 <;> rcases tf_or (f = w2) with e2 | e2 <;> rcases tf_or (f = w0) with e0 | e0 <;>
  simp [-s_ite, sB, Bool.or_assoc, eq_comm (a := w0), eq_comm (a := w1), eq_comm (a := w2), F178, unitF_eq, t178, Clb.row, p89, p217, p218, p103, p102_7, h1, h2, h3, h4, h5, h6, keyEq, e, e0, e1, e2, ckForm, knownB, stateB, farB, shapeB, foreignB, triesI, runsI]
end Go.Proofs.YtdeaibcebeofiaaGreatDoor.C5

namespace Go.Proofs.YtdeaibcebeofiaaGreatDoor.C5
open Go Go.Proofs.YtdeaibcebeofiaaGreatDoor.AM
set_option maxRecDepth 20000
set_option maxHeartbeats 4000000
theorem fz_nil : firstNz [] = 0 := rfl
theorem fz_cons (a : Int) (l : List Int) : firstNz (a :: l) = if a = 0 then firstNz l else a := by
 unfold firstNz
 by_cases h : a = 0 <;> simp [h]
theorem fz_cons0 {a : Int} {l : List Int} : firstNz (a :: l) = 0 ↔ a = 0 ∧ firstNz l = 0 := by
 rw [fz_cons]
 by_cases h : a = 0 <;> simp [h]
theorem whenI0 {b : Bool} {n : Int} (h : n ≠ 0) : whenI b n = 0 ↔ b = false := by
 cases b <;> simp [whenI, h]
theorem form0 {f : ByteArray} {n ti time : Int} {c : Clb} (h : ckForm f n ti time c = 0) :
  knownB c = true ∧ stateB c = false ∧ farB f n ti time c = false ∧ shapeB f n c = false ∧ trysC c.ts = 0 ∧ runsB c.rs = false ∧ foreignB f c = false := by
 unfold ckForm at h
 simp only [fz_cons0] at h
 obtain ⟨h1, h2, h3, h4, h5, h6, h7, _⟩ := h
 rw [whenI0 (by decide)] at h1 h2 h3 h4 h6 h7
 exact ⟨by simpa using h1, h2, h3, h4, h5, h6, h7⟩
def lateB (n : Int) (c : Clb) : Bool := (decide (c.ph = w4) && decide ((c.rs.length : Int) ≥ n)) || (decide (c.ph = w6) && (decide (c.st = w3) && decide (bestI c.rs = 0)))
def triAt (c : Clb) : Tri := c.ts.getD (c.pl - 1).toNat (0, 0, 0, false)
def badTri (c : Clb) : Bool := !(triAt c).2.2.2 || (c.ob && (decide ((triAt c).1 = 0) || decide ((triAt c).2.2.1 > 0)))
def stB (f : ByteArray) (n : Int) (c : Clb) : Bool :=
 if c.ph = w5 then (if f = w0 then false else if c.pl = 0 then true else if f = w2 then decide ((c.rs.length : Int) ≥ n) else badTri c)
 else decide (c.pl ≠ 0) || (c.ob || (decide (f = w2) && lateB n c))
def ckClimb (f : ByteArray) (n ti time : Int) (c : Clb) : Int :=
 if ckForm f n ti time c = 0 then whenI (stB f n c) 19 else ckForm f n ti time c
theorem placed {f : ByteArray} {n ti time : Int} {c : Clb} (h : ckForm f n ti time c = 0) (h1 : f ≠ w0) (h2 : f ≠ w2) (h3 : c.pl ≠ 0) :
  f = w1 ∧ 1 ≤ c.pl ∧ c.pl ≤ c.ts.length ∧ (c.ts.length : Int) = n := by
 obtain ⟨_, _, g1, g2, _⟩ := form0 h
 simp only [farB, outB, Bool.or_eq_false_iff, decide_eq_false_iff_not] at g1
 simp only [shapeB, Bool.or_eq_false_iff, decide_eq_false_iff_not] at g2
 by_cases hf : f = w1
 ·have e1 : placesI f n = n := if_pos hf
  have e2 : triesI f n = n := if_pos hf
  rw [e1] at g1
  rw [e2] at g2
  refine ⟨hf, ?_, ?_, ?_⟩ <;> omega
 ·have e1 : placesI f n = 0 := by unfold placesI; rw [if_neg hf, if_neg h2]
  rw [e1] at g1
  omega
theorem tri_row {c : Clb} (hc : ClbOk c) (h1 : 1 ≤ c.pl) (h2 : c.pl ≤ c.ts.length) :
  IntKind.i64.wrap (c.pl - 1) = c.pl - 1 ∧ nth c.tr.rowsL (c.pl - 1).toNat = some (triR (triAt c)) := by
 have := hc.tl
 refine ⟨i64w (by omega) (by omega), ?_⟩
 have hl : (c.pl - 1).toNat < c.ts.length := by omega
 have := hc.t.row hl
 rw [Int.toNat_natCast] at this
 rw [this]
 unfold triAt
 rw [List.getD_eq_getElem?_getD, List.getElem?_eq_getElem hl]; rfl
theorem p120 {f : ByteArray} {names : AV} {n ti time : Int} {c : Clb} (hc : ClbOk c) :
  F120 (.str f :: names :: ia n :: ia ti :: ia time :: c.row) = some (ia (ckClimb f n ti time c)) := by
 have h1 := p178 (f := f) (names := names) (n := n) (ti := ti) (time := time) hc
 have h2 := p95 hc.r hc.rl
 have h5 : c.tr.lenN = c.ts.length := hc.t.lenM
 have h6 : c.ru.lenN = c.rs.length := hc.r.lenM
 simp only [Clb.row] at h1 ⊢
 rcases tf_or (ckForm f n ti time c = 0) with e | e
 ·rcases tf_or (c.ph = w5) with e1 | e1
  ·rcases tf_or (f = w0) with e2 | e2
   ·simp [-s_ite, sB, Bool.or_assoc, F120, unitF_eq, t120, h1, h2, h5, h6, p103, e, e1, e2, ckClimb, stB, whenI]
   ·rcases tf_or (c.pl = 0) with e3 | e3
    ·simp [-s_ite, sB, Bool.or_assoc, F120, unitF_eq, t120, h1, h2, h5, h6, p103, e, e1, e2, e3, ckClimb, stB, whenI]
    ·rcases tf_or (f = w2) with e4 | e4
     ·simp [-s_ite, sB, Bool.or_assoc, F120, unitF_eq, t120, h1, h2, h5, h6, p103, e, e1, e2, e3, e4, ckClimb, stB]
     ·obtain ⟨_, g1, g2, _⟩ := placed (of_eq_true e) (of_eq_false e2) (of_eq_false e4) (of_eq_false e3)
      obtain ⟨g3, g4⟩ := tri_row hc g1 g2
      have g5 : (0 : Int) ≤ c.pl - 1 := by omega
      have g6 : c.pl - 1 < c.ts.length := by omega
      simp only [triR] at g4
      rw [show (c.pl - 1).toNat = c.pl.toNat - 1 by omega] at g4
      cases hv : (triAt c).2.2.2 <;> cases ho : c.ob <;> rcases tf_or ((triAt c).1 = 0) with e5 | e5 <;> rw [ho] at h1 <;>
       simp [-s_ite, sB, Bool.or_assoc, F120, unitF_eq, t120, h1, h2, h5, h6, p103, e, e1, e2, e3, e4, e5, g1, g3, g4, g5, g6, hv, ho, ckClimb, stB, badTri]
  ·rcases tf_or (c.pl = 0) with e3 | e3 <;> cases ho : c.ob <;> rcases tf_or (f = w2) with e4 | e4 <;> rcases tf_or (c.ph = w4) with e7 | e7 <;> rw [ho] at h1 <;>
    simp [e7, -s_ite, sB, Bool.or_assoc, F120, unitF_eq, t120, h1, h2, h5, h6, p103, e, e1, e3, e4, ho, ckClimb, stB, lateB]
 ·simp [-s_ite, sB, Bool.or_assoc, F120, unitF_eq, t120, h1, h2, h5, h6, p103, e, ckClimb]
end Go.Proofs.YtdeaibcebeofiaaGreatDoor.C5
