/-
  Plain lemmas (fourth part).
-/
import Derived.Test.YtdeaibcebeofiaaGreatDoorP3
import Derived.Test.YtdeaibcebeofiaaGreatDoorF3
set_option linter.unusedVariables false
set_option linter.unusedSimpArgs false
set_option linter.unusedSectionVars false
namespace Go.Proofs.YtdeaibcebeofiaaGreatDoor.C5
open Go Go.Proofs.YtdeaibcebeofiaaGreatDoor.AM
set_option maxRecDepth 20000
set_option maxHeartbeats 4000000
theorem p205 (a m : Int) : F205 [ia a, ia m] = some (.bool (outB a 0 m)) := by
 by_cases h : a < 0 <;> simp [F205, unitF_eq, t205, outB, h]
theorem p162 (b : Bool) (n : Int) : F162 [.bool b, ia n] = some (ia (whenI b n)) := by
 cases b <;> simp [F162, unitF_eq, t162, whenI]
theorem G16100 {Ω : Om} : loopG Ω B16100 KK [.sl 1 [[ia 0], [ia 0]], ia 2, ia 0] = some (.tuple [ia 2]) := by
 refine loopF (fun i => [.sl 1 [[ia 0], [ia 0]], ia 2, ia i]) 2 _ (by omega) (fun i hi => ?_) ?_
 ·have hw := wS (i := i) (by omega)
  have : i = 0 ∨ i = 1 := by omega
  rcases this with rfl | rfl
  ·have : IntKind.i64.wrap 1 = 1 := hw
   simp [B16100, this]
  ·have : IntKind.i64.wrap 2 = 2 := hw
   simp [B16100, this]
 ·simp [B16100]
theorem p161 : F161 [.sl 1 [[ia 0], [ia 0]]] = some (ia 0) := by
 have hG := G16100 (Ω := calO s161)
 simp [F161, unitF_eq, t161, hG]
theorem p164 {t : Tk} (h : TkOk t) : F164 (tkR t) = some (ia 0) := by
 obtain ⟨d, ho, pl, top, zo⟩ := t
 have k1 := p161
 have w0' : whenI false 1 = 0 := rfl
 have w3' : whenI false 3 = 0 := rfl
 rcases h with ⟨rfl, g1, g2, g3, rfl⟩ | ⟨rfl, rfl, rfl, g3, g4, g5, g6, g7⟩ <;> simp only at *
 ·have a1 : outB ho 0 64 = false := by simp [outB]; omega
  have c : F204 (tkR (w0, ho, pl, top, 0)) = some (ia 0) := by
   rcases g3 with rfl | ⟨rfl, rfl, rfl⟩
   ·have a2 : outB 0 0 1 = false := rfl
    simp [tkR, F204, unitF_eq, t204, p205, p162, a1, a2, w0', w3', k1]
   ·have a2 : outB 1 0 1 = false := rfl
    have a3 : outB 0 0 64 = false := rfl
    simp [tkR, F204, unitF_eq, t204, p205, p162, a2, a3, w0', w3', k1]
  simp only [tkR] at c ⊢
  simp [F164, unitF_eq, t164, keyEq, c]
 ·have a1 : outB top 0 99 = false := by simp [outB]; omega
  have a2 : outB zo 0 99 = false := by simp [outB]; omega
  have c : F207 (tkR (w1, 0, false, top, zo)) = some (ia 0) := by
   by_cases ht : top > 0
   ·have h1 := (g7 ht).1
    have h2 : ¬ top < zo := by have := (g7 ht).2; omega
    have h2' : decide (top < zo) = false := decide_eq_false h2
    simp [tkR, F207, unitF_eq, t207, p205, p162, a1, a2, w0', w3', k1, ht, h1, h2]
   ·simp [tkR, F207, unitF_eq, t207, p205, p162, a1, a2, w0', w3', k1, ht]
  simp only [tkR] at c ⊢
  simp [F164, unitF_eq, t164, keyEq, n10, c]
def joinS (xs : List ByteArray) : ByteArray := ⟨(joinB xs w19).toArray⟩
theorem ba_eta (x : ByteArray) : (⟨x.data.toList.toArray⟩ : ByteArray) = x := by
 rcases x with ⟨a⟩; simp
theorem joinS_one (x : ByteArray) : joinS [x] = x := by
 rw [joinS, joinB, List.map_cons, List.map_nil, Lib.join_one, ba_eta]
theorem joinS_snoc {xs : List ByteArray} (x : ByteArray) (h : xs ≠ []) : joinS (xs ++ [x]) = joinS xs ++ (w19 ++ x) := by
 obtain ⟨y, ys, rfl⟩ := List.exists_cons_of_ne_nil h
 rw [← ba_eta w19, ← ba_eta x, ba_app, joinS, joinS, ba_app, joinB, joinB]
 simp only [List.cons_append, List.map_cons, List.map_append, List.map_nil, Lib.join_cons, Lib.joinTail, List.flatten_append, List.append_assoc]
 simp
theorem joinS_sz : ∀ {n : Nat} {xs : List ByteArray}, xs.length = n + 1 → (∀ x ∈ xs, x.size ≤ 100) → (joinS xs).size ≤ 103 * xs.length
 | 0, xs, hl, h => by
   match xs, hl with
   | [x], _ => rw [joinS_one]; have := h x (.head _); simp; omega
 | n + 1, xs, hl, h => by
   have hne : xs ≠ [] := fun e => by rw [e] at hl; cases hl
   have e := List.dropLast_concat_getLast hne
   have h1 : xs.dropLast.length = n + 1 := by rw [List.length_dropLast, hl]; rfl
   have h2 := joinS_sz h1 (fun x hx => h x (List.dropLast_subset _ hx))
   have h3 := h _ (List.getLast_mem hne)
   have h4 : w19.size = 3 := rfl
   rw [← e, joinS_snoc _ (fun e => by rw [e] at h1; cases h1), ByteArray.size_append, ByteArray.size_append, List.length_append, h1, List.length_singleton]
   omega
theorem strsOf_map : ∀ xs : List ByteArray, strsOf (xs.map strR) = some xs
 | [] => rfl
 | x :: xs => by rw [List.map_cons, strR, strsOf, strsOf_map xs]; rfl
theorem p165 {n : Nat} {xs : List ByteArray} (h : xs.length = n + 1) (hn : n < 100) (hs : ∀ x ∈ xs, x.size ≤ 100) : F165 [mkL 1 (xs.map strR), .str w19] = some (.str (joinS xs)) := by
 have h1 := joinS_sz h hs
 have h2 : (joinS xs).size = (joinB xs w19).length := by show (joinB xs w19).toArray.size = _; rw [List.size_toArray]
 have h3 : mkL 1 (xs.map strR) = .sl 1 (xs.map strR) := by
  cases xs with
  | nil => cases h
  | cons x xs => rfl
 show baseJoin [mkL 1 (xs.map strR), .str w19] = _
 rw [h3, baseJoin]
 simp only [strsOf_map]
 rw [if_pos (by omega)]
 rfl
structure TksOk (ts : List Tk) (d : ByteArray) (n : Nat) : Prop where
 ok : ∀ t ∈ ts, TkOk t ∧ t.1 = d
 len : ts.length = n + 1
 le : n < 8
theorem TksOk.sz {ts : List Tk} {d : ByteArray} {n : Nat} (h : TksOk ts d n) : ∀ x ∈ ts.map tkB, x.size ≤ 100 := by
 intro x hx
 obtain ⟨t, ht, rfl⟩ := List.mem_map.1 hx
 exact tkB_sz (h.ok t ht).1
theorem G9600 {a : AV} {ts : List Tk} {d : ByteArray} {n : Nat} (h : IsL 5 (ts.map tkR) a) (hk : TksOk ts d n) :
  loopG (calO s96) B9600 KK [a, .nils, ia ts.length, ia 0] = some (.tuple [ia 2, mkL 1 ((ts.map tkB).map strR)]) := by
 have hl := hk.len
 have hle := hk.le
 have h0 : nth a.rowsL (Int.toNat ((0 : Nat) : Int)) = some (tkR ts[0]) := h.row (by omega)
 have d0 := (hk.ok ts[0] (List.getElem_mem (by omega))).2
 refine loopF (fun i => [a, mkL 1 (((ts.take i).map tkB).map strR), ia ts.length, ia i]) ts.length _ (by omega) (fun i hi => ?_) ?_
 ·have hr : nth a.rowsL (Int.toNat (i : Int)) = some (tkR ts[i]) := h.row hi
  obtain ⟨o, di⟩ := hk.ok ts[i] (List.getElem_mem hi)
  have hw := wS (i := i) (by omega)
  have c1 := p164 o
  have c2 := @p206 ts[i] o
  have c3 := @p208 ts[i] o
  have ht : mkL 1 (((ts.take (i + 1)).map tkB).map strR) = .sl 1 (((ts.take i).map tkB).map strR ++ [[.str (tkB ts[i])]]) := by
   rw [← mkL_snoc, take_snoc hi, List.map_append, List.map_append]; rfl
  have hb : ((min i ts.length : Nat) : Int) + 1 ≤ 1073741824 := by omega
  have hp : (0 : Int) < ts.length := by omega
  have k1 := p161
  have w0' : whenI false 13 = 0 := rfl
  rw [ht]
  generalize ts[0] = t0 at *
  generalize ts[i] = t at *
  obtain ⟨x1, x2, x3, x4, x5⟩ := t
  obtain ⟨y1, y2, y3, y4, y5⟩ := t0
  simp only at d0 di
  subst d0 di
  have h0' : nth a.rowsL 0 = _ := h0
  simp only [tkR, Int.toNat_natCast] at hr h0' c1 c2 c3
  have hts : 0 < ts.length := by omega
  push_cast at hw ⊢
  have hd : x1 = w0 ∨ x1 = w1 := by
   rcases o with ⟨e, _⟩ | ⟨e, _⟩
   ·exact .inl e
   ·exact .inr e
  rcases hd with rfl | rfl
  ·have c2' := c2 rfl
   simp [B9600, h.lenM, hr, h0', hi, hp, hts, hw, hb, c1, c2', p162, w0', k1, keyEq, tkB, n01]
  ·have c3' := c3 rfl
   simp [B9600, h.lenM, hr, h0', hi, hp, hts, hw, hb, c1, c3', p162, w0', k1, keyEq, tkB, n10]
 ·simp [B9600]
theorem p96 {a : AV} {ts : List Tk} {d : ByteArray} {n : Nat} (h : IsL 5 (ts.map tkR) a) (hk : TksOk ts d n) : F96 [a] = some (.tuple [.str (joinS (ts.map tkB)), ia 0]) := by
 have hG := G9600 h hk
 have hl := hk.len
 have hle := hk.le
 have c := p165 (n := n) (xs := ts.map tkB) (by rw [List.length_map, hl]) (by omega) hk.sz
 have k1 := p161
 have w1' : whenI false 12 = 0 := rfl
 have w2' : whenI false 5 = 0 := rfl
 have z1 : ¬ (256 : Int) < ts.length := by omega
 have z2 : ¬ ts = [] := fun e => by rw [e] at hl; cases hl
 have z3 : ((ts.length : Int) == 0) = false := by simp [z2]
 generalize mkL 1 ((ts.map tkB).map strR) = J at *
 simp [F96, unitF_eq, t96, h.lenM, p162, w1', w2', k1, z1, z2, z3, hG, c]
def stJ (a : AV) (ts : List Tk) (i : Nat) : List AV := [a, .str (joinS ((ts.take (i + 1)).map tkB)), ia ((i + 1 : Nat) : Int)]
theorem G12400 {a : AV} {ts : List Tk} {d : ByteArray} {n : Nat} (h : IsL 5 (ts.map tkR) a) (hk : TksOk ts d n) :
  loopG (calO s124) B12400 KK (stJ a ts 0) = some (.tuple [ia 1, .str (joinS (ts.map tkB))]) := by
 have hl := hk.len
 have hle := hk.le
 refine loopF (stJ a ts) n _ (by omega) (fun i hi => ?_) ?_
 ·have hr : nth a.rowsL (Int.toNat ((i + 1 : Nat) : Int)) = some (tkR ts[i + 1]) := h.row (by omega)
  obtain ⟨o, _⟩ := hk.ok ts[i + 1] (List.getElem_mem (by omega))
  have hw := wS (i := i + 1) (by omega)
  have c1 := p179 o
  have hsz := tkB_sz o
  have hlen : ((ts.take (i + 1)).map tkB).length = i + 1 := by rw [List.length_map, List.length_take]; omega
  have js := joinS_sz hlen (fun x hx => hk.sz x (by
   obtain ⟨t, ht, rfl⟩ := List.mem_map.1 hx
   exact List.mem_map_of_mem (List.take_subset _ _ ht)))
  have hj : joinS ((ts.take (i + 1 + 1)).map tkB) = joinS ((ts.take (i + 1)).map tkB) ++ (w19 ++ tkB ts[i + 1]) := by
   rw [take_snoc (by omega), List.map_append]
   exact joinS_snoc _ (fun e => by rw [e] at hlen; cases hlen)
  have k1 : w19.size = 3 := rfl
  rw [hlen] at js
  unfold stJ
  rw [hj]
  generalize joinS ((ts.take (i + 1)).map tkB) = A at *
  generalize hB : tkB ts[i + 1] = B at *
  have h1 : ((i + 1 : Nat) : Int) < ts.length := by omega
  have h2 : (0 : Int) ≤ ((i + 1 : Nat) : Int) := by omega
  have r1 : ∀ Ω, Pr.sem Ω .catOk [.str A, .str w19] = .bool true := fun Ω => s_catOk Ω (by omega)
  have r2 : ∀ Ω, Pr.sem Ω (.sbin .add) [.str A, .str w19] = .str (A ++ w19) := fun Ω => s_cat Ω (by omega)
  have r3 : ∀ Ω, Pr.sem Ω .catOk [.str (A ++ w19), .str B] = .bool true := fun Ω => s_catOk Ω (by rw [ByteArray.size_append]; omega)
  have r4 : ∀ Ω, Pr.sem Ω (.sbin .add) [.str (A ++ w19), .str B] = .str (A ++ (w19 ++ B)) := fun Ω => by
   rw [s_cat Ω (by rw [ByteArray.size_append]; omega), ByteArray.append_assoc]
  have h1' : i + 1 < ts.length := by omega
  have h3 : (0 : Int) ≤ (i : Int) + 1 := by omega
  simp only [tkR, Int.toNat_natCast] at hr c1
  push_cast at hw h1 ⊢
  simp [B12400, h.lenM, hr, c1, h1, h1', h3, hw, r1, r2, r3, r4]
 ·have e : ts.take (n + 1) = ts := List.take_of_length_le (by omega)
  unfold stJ
  rw [e]
  simp [B12400, h.lenM, hl]
theorem p124 {a : AV} {ts : List Tk} {d : ByteArray} {n : Nat} (h : IsL 5 (ts.map tkR) a) (hk : TksOk ts d n) : F124 [a] = some (.str (joinS (ts.map tkB))) := by
 have hG := G12400 h hk
 have hl := hk.len
 have h0 : nth a.rowsL (Int.toNat ((0 : Nat) : Int)) = some (tkR ts[0]) := h.row (by omega)
 obtain ⟨o, _⟩ := hk.ok ts[0] (List.getElem_mem (by omega))
 have c1 := p179 o
 have hp : (0 : Int) < ts.length := by omega
 have e : joinS ((ts.take 1).map tkB) = tkB ts[0] := by
  obtain ⟨t, tl, rfl⟩ := List.exists_cons_of_length_eq_add_one hl
  exact joinS_one _
 unfold stJ at hG
 simp only [Nat.zero_add] at hG
 rw [e] at hG
 generalize tkB ts[0] = B at *
 simp only [tkR] at h0 c1
 have hG' : loopG (calO s124) B12400 KK [a, .str B, ia 1] = some (.tuple [ia 1, .str (joinS (ts.map tkB))]) := hG
 have h0' : nth a.rowsL 0 = _ := h0
 have z2 : ¬ ts = [] := fun e => by rw [e] at hl; cases hl
 simp [F124, unitF_eq, t124, h.lenM, hp, z2, h0', c1, hG']
end Go.Proofs.YtdeaibcebeofiaaGreatDoor.C5

namespace Go.Proofs.YtdeaibcebeofiaaGreatDoor.C5
open Go Go.Proofs.YtdeaibcebeofiaaGreatDoor.AM
set_option maxRecDepth 20000
set_option maxHeartbeats 4000000
theorem v_sl (V : X → AV) (σ : Nat → Nat) (k : Nat) (r : List (List AV)) : AV.den V σ (.sl k r) = .sl k (AV.denss V σ r) := rfl
theorem v_lit : (∀ (V : X → AV) (σ : Nat → Nat), AV.denss V σ [] = []) ∧ (∀ (V : X → AV) (σ : Nat → Nat) (a : List AV) (r : List (List AV)), AV.denss V σ (a :: r) = AV.dens V σ a :: AV.denss V σ r) ∧ (∀ (V : X → AV) (σ : Nat → Nat) (b : Bool), AV.den V σ (.bool b) = .bool b) ∧ (∀ (V : X → AV) (σ : Nat → Nat) (k : IntKind) (n : Int), AV.den V σ (.int k n) = .int k n) ∧ (∀ (V : X → AV) (σ : Nat → Nat) (s : ByteArray), AV.den V σ (.str s) = .str s) ∧ (∀ (V : X → AV) (σ : Nat → Nat), AV.den V σ .nils = .nils) := ⟨fun _ _ => rfl, fun _ _ _ _ => rfl, fun _ _ _ => rfl, fun _ _ _ _ => rfl, fun _ _ _ => rfl, fun _ _ => rfl⟩
def tkT (t : Tri) : Tk := (w1, 0, false, t.2.2.1, t.2.1)
def tksL (f : ByteArray) (c : Clb) : List Tk := if f = w0 then [if c.tb then (w0, 0, false, 1, 0) else (w0, c.ho, c.pb, 0, 0)] else c.ts.map tkT
theorem G9700 {Ω : Om} {a : AV} {ts : List Tri} (h : IsL 4 (ts.map triR) a) (hn : ts.length < 1048577) :
  loopG Ω B9700 KK [.nils, a, ia ts.length, ia 0] = some (.tuple [ia 1, mkL 5 ((ts.map tkT).map tkR)]) := by
 refine loopF (fun i => [mkL 5 (((ts.take i).map tkT).map tkR), a, ia ts.length, ia i]) ts.length _ (by omega) (fun i hi => ?_) ?_
 ·have hr : nth a.rowsL (Int.toNat (i : Int)) = some (triR ts[i]) := h.row hi
  have hw := wS (i := i) (by omega)
  have ht : mkL 5 (((ts.take (i + 1)).map tkT).map tkR) = .sl 5 (((ts.take i).map tkT).map tkR ++ [tkR (tkT ts[i])]) := by
   rw [← mkL_snoc, take_snoc hi, List.map_append, List.map_append]; rfl
  have hb : ((min i ts.length : Nat) : Int) + 1 ≤ 1073741824 := by omega
  rw [ht]
  generalize ts[i] = t at *
  simp only [triR, Int.toNat_natCast] at hr
  push_cast at hw ⊢
  simp [B9700, h.lenM, hr, hi, hw, hb, tkR, tkT]
 ·simp [B9700]
theorem p97 {f : ByteArray} {r1 r2 r3 : AV} {c : Clb} (hc : ClbOk c) : F97 (.str f :: r1 :: r2 :: r3 :: c.row) = some (mkL 5 ((tksL f c).map tkR)) := by
 have hG := G9700 (Ω := calO s97) hc.t hc.tl
 unfold tksL
 rcases tf_or (f = w0) with e | e
 ·cases e1 : c.tb <;> simp [F97, unitF_eq, t97, Clb.row, e, e1, tkR, mkL, v_sl, v_lit]
 ·simp [F97, unitF_eq, t97, Clb.row, e, hc.t.lenM, hG]
theorem G7100 {Ω : Om} {a v2 v3 v4 v5 v6 v7 v8 v9 v10 v12 : AV} {ts : List Tri} (h : IsL 4 (ts.map triR) a) (hn : ts.length < 1048577) :
  loopG Ω B7100 KK [.nils, ia 0, v2, v3, v4, v5, v6, v7, v8, v9, v10, a, v12] = some (.tuple [ia 1, mkL 5 ((ts.map tkT).map tkR)]) := by
 refine loopF (fun i => [mkL 5 (((ts.take i).map tkT).map tkR), ia i, v2, v3, v4, v5, v6, v7, v8, v9, v10, a, v12]) ts.length _ (by omega) (fun i hi => ?_) ?_
 ·have hr : nth a.rowsL (Int.toNat (i : Int)) = some (triR ts[i]) := h.row hi
  have hw := wS (i := i) (by omega)
  have ht : mkL 5 (((ts.take (i + 1)).map tkT).map tkR) = .sl 5 (((ts.take i).map tkT).map tkR ++ [tkR (tkT ts[i])]) := by
   rw [← mkL_snoc, take_snoc hi, List.map_append, List.map_append]; rfl
  have hb : ((min i ts.length : Nat) : Int) + 1 ≤ 1073741824 := by omega
  rw [ht]
  generalize ts[i] = t at *
  simp only [triR, Int.toNat_natCast] at hr
  push_cast at hw ⊢
  simp [B7100, h.lenM, hr, hi, hw, hb, tkR, tkT]
 ·simp [B7100, h.lenM]
theorem p71 {f : ByteArray} {r1 r2 r3 : AV} {c : Clb} (hc : ClbOk c) : F71 (.str f :: r1 :: r2 :: r3 :: c.row) = some (mkL 5 ((tksL f c).map tkR)) := by
 have hG := @G7100 (calO s71) c.tr (.str c.ph) (.str c.st) (ia c.pl) (ia c.be) (ia c.us) (ia c.ho) (.bool c.pb) (.bool c.tb) (.bool c.ob) c.ru c.ts hc.t hc.tl
 unfold tksL
 rcases tf_or (f = w0) with e | e
 ·cases e1 : c.tb <;> simp [F71, unitF_eq, t71, Clb.row, e, e1, tkR, mkL, v_sl, v_lit]
 ·simp [F71, unitF_eq, t71, Clb.row, e, hG]
theorem G5100 {Ω : Om} {a : AV} {ts : List Tk} (h : IsL 5 (ts.map tkR) a) (hn : ts.length < 1048577) :
  loopG Ω B5100 KK [a, .nils, ia 0] = some (.tuple [ia 1, mkL 5 (ts.map tkR)]) := by
 refine loopF (fun i => [a, mkL 5 ((ts.take i).map tkR), ia i]) ts.length _ (by omega) (fun i hi => ?_) ?_
 ·have hr : nth a.rowsL (Int.toNat (i : Int)) = some (tkR ts[i]) := h.row hi
  have hw := wS (i := i) (by omega)
  have ht : mkL 5 ((ts.take (i + 1)).map tkR) = .sl 5 ((ts.take i).map tkR ++ [tkR ts[i]]) := by
   rw [← mkL_snoc, take_snoc hi, List.map_append]; rfl
  have hb : ((min i ts.length : Nat) : Int) + 1 ≤ 1073741824 := by omega
  rw [ht]
  generalize ts[i] = t at *
  simp only [tkR, Int.toNat_natCast] at hr
  push_cast at hw ⊢
  simp [B5100, h.lenM, hr, hi, hw, hb, tkR]
 ·simp [B5100, h.lenM]
theorem p51 {a : AV} {ts : List Tk} (h : IsL 5 (ts.map tkR) a) (hn : ts.length < 1048577) : F51 [a] = some (mkL 5 (ts.map tkR)) := by
 have hG := G5100 (Ω := calO s51) h hn
 simp [F51, unitF_eq, t51, hG]
theorem G5000 {Ω : Om} {a b : AV} {ts : List Tk} (h : IsL 5 (ts.map tkR) a) (h' : IsL 5 (ts.map tkR) b) (hn : ts.length < 1048577) :
  loopG Ω B5000 KK [a, b, ia 0] = some (.tuple [ia 2]) := by
 refine loopF (fun i => [a, b, ia i]) ts.length _ (by omega) (fun i hi => ?_) ?_
 ·have hr : nth a.rowsL (Int.toNat (i : Int)) = some (tkR ts[i]) := h.row hi
  have hr' : nth b.rowsL (Int.toNat (i : Int)) = some (tkR ts[i]) := h'.row hi
  have hw := wS (i := i) (by omega)
  generalize ts[i] = t at *
  simp only [tkR, Int.toNat_natCast] at hr hr'
  push_cast at hw ⊢
  simp [B5000, h.lenM, h'.lenM, hr, hr', hi, hw]
 ·simp [B5000, h.lenM]
theorem p50 {a b : AV} {ts : List Tk} (h : IsL 5 (ts.map tkR) a) (h' : IsL 5 (ts.map tkR) b) (hn : ts.length < 1048577) : F50 [a, b] = some (.bool true) := by
 have hG := G5000 (Ω := calO s50) h h' hn
 simp [F50, unitF_eq, t50, h.lenM, h'.lenM, hG]
structure ClbV (f : ByteArray) (n : Int) (c : Clb) : Prop where
 n1 : 1 ≤ n
 n2 : n ≤ 64
 n3 : f = w1 → n ≤ 8
 us : 0 ≤ c.us ∧ c.us ≤ 86399999
 ho : 0 ≤ c.ho ∧ c.ho ≤ 64
 st : c.st.size ≤ 3
 ts : f = w1 → (c.ts.length : Int) = n
 tz : c.ts.length ≤ 8
 tv : ∀ t ∈ c.ts, 0 ≤ t.2.1 ∧ t.2.1 ≤ 99 ∧ 0 ≤ t.2.2.1 ∧ t.2.2.1 ≤ 99 ∧ (t.2.2.1 > 0 → t.2.1 ≠ 0 ∧ t.2.1 ≤ t.2.2.1)
 rs : ∀ x ∈ c.rs, 0 ≤ x ∧ x ≤ 86399999
theorem fz_all : ∀ {l : List Int}, firstNz l = 0 → ∀ x ∈ l, x = 0
 | a :: l, h, x, hx => by
   obtain ⟨h1, h2⟩ := fz_cons0.1 h
   rcases List.mem_cons.1 hx with rfl | hx
   ·exact h1
   ·exact fz_all h2 x hx
theorem clbV {f : ByteArray} {ns : List ByteArray} {n ti time : Int} {c : Clb} (h0 : ckRound f ns n ti = 0) (h : ckClimb f n ti time c = 0) : ClbV f n c := by
 have hd := disc h0
 have hm : (f = w1 → mostI f = 8) ∧ mostI f ≤ 64 := by
  rcases hd with rfl | rfl | rfl <;> decide
 have hn : 1 ≤ n ∧ n ≤ mostI f ∧ 1 ≤ ti ∧ ti ≤ 86399999 := by
  unfold ckRound at h0
  split at h0
  ·cases h0
  ·split at h0
   ·cases h0
   ·split at h0
    ·cases h0
    ·split at h0
     ·contradiction
     ·split at h0
      ·cases h0
      ·rename_i hq
       simp only [outB, Bool.or_eq_true, decide_eq_true_eq, not_or] at hq
       omega
 obtain ⟨k1, _, k2, k3, k4, k5, _⟩ := form0 (climb0 h)
 simp only [farB, outB, Bool.or_eq_false_iff, decide_eq_false_iff_not] at k2
 simp only [shapeB, Bool.or_eq_false_iff, decide_eq_false_iff_not] at k3
 have hh : holdsI f n ≤ 64 := by unfold holdsI; split <;> omega
 have ht : triesI f n ≤ 8 := by
  unfold triesI
  split
  ·rename_i e; have := hm.1 e; omega
  ·omega
 refine ⟨hn.1, by omega, fun e => by have := hm.1 e; omega, by omega, by omega, ?_, fun e => ?_, by omega, fun t htm => ?_, fun x hx => ?_⟩
 ·simp only [knownB, Bool.and_eq_true] at k1
  have := memB_iff.1 k1.2
  simp only [stsL, List.mem_cons, List.not_mem_nil, or_false] at this
  rcases this with e | e | e | e <;> rw [e] <;> decide
 ·have e2 : triesI f n = n := if_pos e
  omega
 ·have := fz_all k4 (tryC t) (List.mem_map_of_mem htm)
  unfold tryC at this
  split at this
  ·cases this
  ·rename_i q1
   split at this
   ·cases this
   ·rename_i q2
    simp only [farT, outB, Bool.or_eq_true, decide_eq_true_eq, not_or] at q1
    simp only [wrongT, Bool.or_eq_true, Bool.and_eq_true, decide_eq_true_eq, not_or, not_and] at q2
    refine ⟨by omega, by omega, by omega, by omega, fun hp => ?_⟩
    have := q2.1 hp
    omega
 ·have := List.any_eq_false.1 k5 x hx
  simp only [outB, Bool.or_eq_true, decide_eq_true_eq, not_or] at this
  omega
theorem tksOk {f : ByteArray} {n : Int} {c : Clb} (v : ClbV f n c) (hf : f = w0 ∨ f = w1) : ∃ k, TksOk (tksL f c) f k := by
 have h1 := v.ho
 rcases hf with rfl | rfl
 ·refine ⟨0, fun t ht => ?_, by simp [tksL], by omega⟩
  simp only [tksL, if_true, List.mem_singleton] at ht
  subst ht
  cases c.tb
  ·exact ⟨.inl ⟨rfl, h1.1, h1.2, .inl rfl, rfl⟩, rfl⟩
  ·exact ⟨.inl ⟨rfl, Int.le_refl _, (by decide : (0 : Int) ≤ 64), .inr ⟨rfl, rfl, rfl⟩, rfl⟩, rfl⟩
 ·have h2 := v.ts rfl
  have h3 := v.n1
  have h4 := v.tz
  refine ⟨c.ts.length - 1, fun t ht => ?_, by simp only [tksL, if_neg n10, List.length_map]; omega, by omega⟩
  simp only [tksL, if_neg n10] at ht
  obtain ⟨x, hx, rfl⟩ := List.mem_map.1 ht
  obtain ⟨g1, g2, g3, g4, g5⟩ := v.tv x hx
  exact ⟨.inr ⟨rfl, rfl, rfl, g3, g4, g1, g2, g5⟩, rfl⟩
theorem best_le {n : Int} {rs : List Int} (h : ∀ x ∈ rs, 0 ≤ x ∧ x ≤ 86399999) : 0 ≤ bestI rs ∧ bestI rs ≤ 86399999 := by
 refine ⟨best_nn rs, ?_⟩
 have : ∀ (l : List Int) (o : Int), (∀ x ∈ l, 0 ≤ x ∧ x ≤ 86399999) → o ≤ 86399999 → l.foldl bestS o ≤ 86399999 := by
  intro l
  induction l with
  | nil => intro o _ h; exact h
  | cons n l ih =>
    intro o hl h
    rw [List.foldl_cons]
    refine ih _ (fun x hx => hl x (.tail _ hx)) ?_
    have := hl n (.head _)
    unfold bestS
    split <;> omega
 exact this rs 0 h (by omega)
end Go.Proofs.YtdeaibcebeofiaaGreatDoor.C5

namespace Go.Proofs.YtdeaibcebeofiaaGreatDoor.C5
open Go Go.Proofs.YtdeaibcebeofiaaGreatDoor.AM
set_option maxRecDepth 20000
set_option maxHeartbeats 4000000
def smI (g : Tri → Int) (l : List Tri) : Int := (l.map g).sum
def gT (t : Tri) : Int := if t.2.2.1 > 0 then 1 else 0
def gZ (t : Tri) : Int := if t.2.1 > 0 then 1 else 0
def valI (f : ByteArray) (n : Int) (c : Clb) : List Int :=
 if f = w2 then [- bestI c.rs] else if f = w1 then [smI gT c.ts, smI gZ c.ts, - smI (·.2.2.1) c.ts, - smI (·.2.1) c.ts]
 else [if c.tb then 2 * n + 2 else if c.pb then 2 * c.ho + 1 else 2 * c.ho, - c.us]
theorem smI_take (g : Tri → Int) {l : List Tri} {i : Nat} (hi : i < l.length) : smI g (l.take (i + 1)) = smI g (l.take i) + g l[i] := by
 rw [take_snoc hi, smI, List.map_append, List.sum_append]; simp [smI]
theorem smI_le {g : Tri → Int} : ∀ {l : List Tri}, (∀ t ∈ l, 0 ≤ g t ∧ g t ≤ 99) → 0 ≤ smI g l ∧ smI g l ≤ 99 * l.length
 | [], _ => ⟨Int.le_refl _, Int.le_refl _⟩
 | t :: l, h => by
   have h1 := h t (.head _)
   have h2 := smI_le (l := l) (fun x hx => h x (.tail _ hx))
   have e : smI g (t :: l) = g t + smI g l := rfl
   rw [e, List.length_cons]
   push_cast
   omega
theorem stepV {ts : List Tri} (hv : ∀ t ∈ ts, 0 ≤ t.2.1 ∧ t.2.1 ≤ 99 ∧ 0 ≤ t.2.2.1 ∧ t.2.2.1 ≤ 99 ∧ (t.2.2.1 > 0 → t.2.1 ≠ 0 ∧ t.2.1 ≤ t.2.2.1)) (hl : ts.length ≤ 8) {i : Nat} (hi : i < ts.length) :
  ∃ a b p q a' b' : Int, smI gT (ts.take i) = a ∧ smI gZ (ts.take i) = b ∧ smI (·.2.2.1) (ts.take i) = p ∧ smI (·.2.1) (ts.take i) = q ∧
    smI gT (ts.take (i + 1)) = a' ∧ smI gZ (ts.take (i + 1)) = b' ∧ smI (·.2.2.1) (ts.take (i + 1)) = p + ts[i].2.2.1 ∧ smI (·.2.1) (ts.take (i + 1)) = q + ts[i].2.1 ∧
    (if ts[i].2.2.1 > 0 then IntKind.i64.wrap (a + 1) else a) = a' ∧ (if ts[i].2.1 > 0 then IntKind.i64.wrap (b + 1) else b) = b' ∧
    IntKind.i64.wrap (- p - ts[i].2.2.1) = - (p + ts[i].2.2.1) ∧ IntKind.i64.wrap (- q - ts[i].2.1) = - (q + ts[i].2.1) := by
 have hm := hv ts[i] (List.getElem_mem hi)
 have hs : ∀ t ∈ ts.take i, t ∈ ts := fun t h => List.take_subset _ _ h
 have l1 : (ts.take i).length ≤ 8 := by rw [List.length_take]; omega
 have b1 := smI_le (g := gT) (l := ts.take i) (fun t h => by unfold gT; split <;> omega)
 have b2 := smI_le (g := gZ) (l := ts.take i) (fun t h => by unfold gZ; split <;> omega)
 have b3 := smI_le (g := (·.2.2.1)) (l := ts.take i) (fun t h => by have := hv t (hs t h); omega)
 have b4 := smI_le (g := (·.2.1)) (l := ts.take i) (fun t h => by have := hv t (hs t h); omega)
 refine ⟨_, _, _, _, _, _, rfl, rfl, rfl, rfl, rfl, rfl, smI_take _ hi, smI_take _ hi, ?_, ?_, by rw [i64w (by omega) (by omega)]; omega, by rw [i64w (by omega) (by omega)]; omega⟩
 ·rw [smI_take _ hi, gT]; split
  ·exact i64w (by omega) (by omega)
  ·omega
 ·rw [smI_take _ hi, gZ]; split
  ·exact i64w (by omega) (by omega)
  ·omega
theorem G10400 {Ω : Om} {a : AV} {ts : List Tri} (h : IsL 4 (ts.map triR) a) (hl : ts.length ≤ 8) (hv : ∀ t ∈ ts, 0 ≤ t.2.1 ∧ t.2.1 ≤ 99 ∧ 0 ≤ t.2.2.1 ∧ t.2.2.1 ≤ 99 ∧ (t.2.2.1 > 0 → t.2.1 ≠ 0 ∧ t.2.1 ≤ t.2.2.1)) :
  loopG Ω B10400 KK [a, ia ts.length, ia 0, ia 0, ia 0, ia 0, ia 0] = some (.tuple [ia 1, ia (smI gT ts), ia (smI gZ ts), ia (- smI (·.2.2.1) ts), ia (- smI (·.2.1) ts)]) := by
 refine loopF (fun i => [a, ia ts.length, ia i, ia (smI gT (ts.take i)), ia (smI gZ (ts.take i)), ia (- smI (·.2.2.1) (ts.take i)), ia (- smI (·.2.1) (ts.take i))]) ts.length _ (by omega) (fun i hi => ?_) ?_
 ·have hr : nth a.rowsL (Int.toNat (i : Int)) = some (triR ts[i]) := h.row hi
  have hw := wS (i := i) (by omega)
  obtain ⟨x, y, p, q, x', y', e1, e2, e3, e4, e5, e6, e7, e8, e9, e10, e11, e12⟩ := stepV hv hl hi
  rw [e1, e2, e3, e4, e5, e6, e7, e8]
  generalize ts[i] = t at *
  obtain ⟨t1, t2, t3, t4⟩ := t
  simp only [triR, Int.toNat_natCast] at hr
  simp only at e9 e10 e11 e12
  push_cast at hw
  simp [B10400, h.lenM, hr, hi, hw, e9, e10, e11, e12]
 ·simp [B10400]
theorem p104 {f : ByteArray} {r1 r3 : AV} {n : Int} {c : Clb} (hc : ClbOk c) (v : ClbV f n c) (hf : f = w0 ∨ f = w1 ∨ f = w2) :
  F104 (.str f :: r1 :: ia n :: r3 :: c.row) = some (if c.st = w3 then mkL 1 ((valI f n c).map intR) else .nils) := by
 have hG := G10400 (Ω := calO s104) hc.t v.tz v.tv
 have h1 := p95 hc.r hc.rl
 have hb := best_le (n := n) v.rs
 have u := v.us
 have o := v.ho
 have m1 := v.n1
 have m2 := v.n2
 have y1 : IntKind.i64.wrap (- bestI c.rs) = - bestI c.rs := i64w (by omega) (by omega)
 have y2 : IntKind.i64.wrap (- c.us) = - c.us := i64w (by omega) (by omega)
 have y3 : IntKind.i64.wrap (2 * c.ho) = 2 * c.ho := i64w (by omega) (by omega)
 have y4 : IntKind.i64.wrap (2 * c.ho + 1) = 2 * c.ho + 1 := i64w (by omega) (by omega)
 have y5 : IntKind.i64.wrap (2 * n) = 2 * n := i64w (by omega) (by omega)
 have y6 : IntKind.i64.wrap (2 * n + 2) = 2 * n + 2 := i64w (by omega) (by omega)
 unfold valI
 rcases tf_or (c.st = w3) with e | e
 ·rcases hf with rfl | rfl | rfl
  ·cases e1 : c.tb <;> cases e2 : c.pb <;> simp [F104, unitF_eq, t104, Clb.row, e, e1, e2, n01, n02, intR, mkL, v_sl, v_lit, s_neg, s_mul, y2, y3, y4, y5, y6]
  ·simp [F104, unitF_eq, t104, Clb.row, e, n12, intR, mkL, v_sl, v_lit, hc.t.lenM, hG]
  ·simp [F104, unitF_eq, t104, Clb.row, e, intR, mkL, v_sl, v_lit, s_neg, y1, h1]
 ·simp [F104, unitF_eq, t104, Clb.row, e, v_lit]
theorem p127 {v2 v3 v4 v5 v6 v7 v8 v9 v10 v11 a : AV} {rs : List Int} (h : IsL 1 (rs.map intR) a) (hn : rs.length < 1048577) :
  F127 [v2, v3, v4, v5, v6, v7, v8, v9, v10, v11, a] = some (ia (bestI rs)) := by
 have hG := G12700 (Ω := calO s127) (v2 := v2) (v3 := v3) (v4 := v4) (v5 := v5) (v6 := v6) (v7 := v7) (v8 := v8) (v9 := v9) (v10 := v10) (v11 := v11) h hn
 simp [F127, unitF_eq, t127, hG]
theorem G12300 {Ω : Om} {a v5 v6 v7 v8 v9 v10 v11 v12 v13 v15 : AV} {ts : List Tri} (h : IsL 4 (ts.map triR) a) (hl : ts.length ≤ 8) (hv : ∀ t ∈ ts, 0 ≤ t.2.1 ∧ t.2.1 ≤ 99 ∧ 0 ≤ t.2.2.1 ∧ t.2.2.1 ≤ 99 ∧ (t.2.2.1 > 0 → t.2.1 ≠ 0 ∧ t.2.1 ≤ t.2.2.1)) :
  loopG Ω B12300 KK [ia 0, ia 0, ia 0, ia 0, ia 0, v5, v6, v7, v8, v9, v10, v11, v12, v13, a, v15] = some (.tuple [ia 1, ia (smI gT ts), ia (smI gZ ts), ia (- smI (·.2.2.1) ts), ia (- smI (·.2.1) ts)]) := by
 refine loopF (fun i => [ia i, ia (smI gT (ts.take i)), ia (smI gZ (ts.take i)), ia (- smI (·.2.2.1) (ts.take i)), ia (- smI (·.2.1) (ts.take i)), v5, v6, v7, v8, v9, v10, v11, v12, v13, a, v15]) ts.length _ (by omega) (fun i hi => ?_) ?_
 ·have hr : nth a.rowsL (Int.toNat (i : Int)) = some (triR ts[i]) := h.row hi
  have hw := wS (i := i) (by omega)
  obtain ⟨x, y, p, q, x', y', e1, e2, e3, e4, e5, e6, e7, e8, e9, e10, e11, e12⟩ := stepV hv hl hi
  rw [e1, e2, e3, e4, e5, e6, e7, e8]
  generalize ts[i] = t at *
  obtain ⟨t1, t2, t3, t4⟩ := t
  simp only [triR, Int.toNat_natCast] at hr
  simp only at e9 e10 e11 e12
  push_cast at hw
  simp [B12300, h.lenM, hr, hi, hw, e9, e10, e11, e12]
 ·simp [B12300, h.lenM]
theorem p123 {f : ByteArray} {r1 r3 : AV} {n : Int} {c : Clb} (hc : ClbOk c) (v : ClbV f n c) (hf : f = w0 ∨ f = w1 ∨ f = w2) :
  F123 (.str f :: r1 :: ia n :: r3 :: c.row) = some (mkL 1 ((valI f n c).map intR)) := by
 have hG := @G12300 (calO s123) c.tr (.str c.ph) (.str c.st) (ia c.pl) (ia c.be) (ia c.us) (ia c.ho) (.bool c.pb) (.bool c.tb) (.bool c.ob) c.ru c.ts hc.t v.tz v.tv
 have h1 := p127 (v2 := .str c.ph) (v3 := .str c.st) (v4 := ia c.pl) (v5 := ia c.be) (v6 := ia c.us) (v7 := ia c.ho) (v8 := .bool c.pb) (v9 := .bool c.tb) (v10 := .bool c.ob) (v11 := c.tr) hc.r hc.rl
 have hb := best_le (n := n) v.rs
 have u := v.us
 have o := v.ho
 have m1 := v.n1
 have m2 := v.n2
 have y1 : IntKind.i64.wrap (- bestI c.rs) = - bestI c.rs := i64w (by omega) (by omega)
 have y2 : IntKind.i64.wrap (- c.us) = - c.us := i64w (by omega) (by omega)
 have y3 : IntKind.i64.wrap (2 * c.ho) = 2 * c.ho := i64w (by omega) (by omega)
 have y4 : IntKind.i64.wrap (2 * c.ho + 1) = 2 * c.ho + 1 := i64w (by omega) (by omega)
 have y5 : IntKind.i64.wrap (2 * n) = 2 * n := i64w (by omega) (by omega)
 have y6 : IntKind.i64.wrap (2 * n + 2) = 2 * n + 2 := i64w (by omega) (by omega)
 unfold valI
 rcases hf with rfl | rfl | rfl
 ·cases e1 : c.tb <;> cases e2 : c.pb <;> simp [F123, unitF_eq, t123, Clb.row, e1, e2, n01, n02, intR, mkL, v_sl, v_lit, s_mul, y2, y3, y4, y5, y6]
 ·simp [F123, unitF_eq, t123, Clb.row, n10, n12, intR, mkL, v_sl, v_lit, hG]
 ·simp [F123, unitF_eq, t123, Clb.row, n20, intR, mkL, v_sl, v_lit, y1, h1]
def ck2 (k : Int) (cs : List Clb) (w : Int) : Int := if k ≠ 0 then k else whenI (outB w 0 (cs.length - 1)) 10
def clbAt (cs : List Clb) (w : Int) : Clb := cs.getD w.toNat c0
theorem p94 {f : ByteArray} {ns : List ByteArray} {names a : AV} {n ti time : Int} {cs : List Clb} (hr : IsL 1 (ns.map strR) names) (hn : ns.length < 1048577) (hz : ∀ s ∈ ns, s.size < 2097152)
  (h : IsL 11 (cs.map Clb.row) a) (hl : cs.length < 1048577) (hc : ∀ c ∈ cs, ClbOk c) (w : Int) :
  F94 [.str f, names, ia n, ia ti, ia time, a, ia w] = some (.tuple [.agg (if ck2 (ckStA f ns n ti time cs) cs w = 0 then clbAt cs w else c0).row, ia (ck2 (ckStA f ns n ti time cs) cs w)]) := by
 have h1 := p60 (f := f) (n := n) (ti := ti) (time := time) hr hn hz h hl hc
 have hw' : IntKind.i64.wrap ((cs.length : Int) - 1) = cs.length - 1 := i64w (by omega) (by omega)
 generalize ckStA f ns n ti time cs = k at *
 unfold ck2
 by_cases e : k = 0
 ·cases e2 : outB w 0 (cs.length - 1)
  ·have e3 := e2
   simp only [outB, Bool.or_eq_false_iff, decide_eq_false_iff_not] at e3
   have hi : w.toNat < cs.length := by omega
   have hrow : nth a.rowsL (Int.toNat ((w.toNat : Nat) : Int)) = some (cs[w.toNat].row) := h.row hi
   have hg : clbAt cs w = cs[w.toNat] := by simp [clbAt, hi]
   have g1 : (0 : Int) ≤ w := by omega
   have g2 : w < cs.length := by omega
   rw [hg]
   simp only [Clb.row, Int.toNat_natCast] at hrow
   simp [F94, unitF_eq, t94, h.lenM, h1, hw', p89, p103, p102_2, fz2, whenI, e, e2, hrow, g1, g2, Clb.row]
  ·simp [F94, unitF_eq, t94, h.lenM, h1, hw', p89, p103, p102_2, fz2, whenI, e, e2, c0, Clb.row]
 ·simp [F94, unitF_eq, t94, h.lenM, h1, hw', p89, p103, p102_2, fz2, whenI, e, c0, Clb.row]
end Go.Proofs.YtdeaibcebeofiaaGreatDoor.C5

namespace Go.Proofs.YtdeaibcebeofiaaGreatDoor.C5
open Go Go.Proofs.YtdeaibcebeofiaaGreatDoor.AM
set_option maxRecDepth 20000
set_option maxHeartbeats 4000000
@[simp] theorem rok_agg (cs : List Sh) (vs : List AV) : (RS.agg cs).ok (.agg vs) = Sh.oks cs vs := rfl
theorem Clb.ok {c : Clb} (hc : ClbOk c) : (Sh.sl [.int .i64, .int .i64, .int .i64, .bool]).ok c.tr = true ∧ (Sh.sl [.int .i64]).ok c.ru = true :=
 ⟨hc.t.ok rfl (by simp [triR]), hc.r.ok rfl (by simp [intR])⟩
def textB (f : ByteArray) (c : Clb) : ByteArray := if f = w2 then (if bestI c.rs > 0 then clockB (bestI c.rs) else w11) else joinS ((tksL f c).map tkB)
def sheetB (f : ByteArray) (c : Clb) : ByteArray := if c.st = w3 then textB f c else c.st ++ (w15 ++ textB f c)
theorem clock_sz {n : Int} (h0 : 0 ≤ n) (h1 : n ≤ 86399999) : (clockB n).size ≤ 200 := by
 obtain ⟨a0, a1, m0, m1, b0, b1, r0, r1, p0, p1, s0, s1, _⟩ := parts h0 h1
 have y1 := padB_sz (n := n % 1000) (d := 3) (by omega) (by omega)
 have y2 := padB_sz (n := n / 1000) (d := 1) (by omega) (by omega)
 have y3 := padB_sz (n := n / 1000 / 60) (d := 1) (by omega) (by omega)
 have y4 := padB_sz (n := n / 1000 % 60) (d := 2) (by omega) (by omega)
 have y5 := padB_sz (n := n / 1000 / 60 / 60) (d := 1) (by omega) (by omega)
 have y6 := padB_sz (n := n / 1000 / 60 % 60) (d := 2) (by omega) (by omega)
 have k1 := sz17
 have k2 := sz18
 unfold clockB
 split
 ·simp only [ByteArray.size_append]; omega
 ·split <;> simp only [ByteArray.size_append] <;> omega
theorem w3_app (x : ByteArray) : w3 ++ x = x := by
 rw [ByteArray.ext_iff]; simp [w3]
theorem tks_ok (ts : List Tk) : (Sh.sl [.str, .int .i64, .bool, .int .i64, .int .i64]).ok (mkL 5 (ts.map tkR)) = true := (mkL_isL 5 _).ok rfl (by simp [tkR])
theorem p70 {f : ByteArray} {r1 r2 r3 : AV} {n : Int} {c : Clb} (hc : ClbOk c) (v : ClbV f n c) (hf : f = w0 ∨ f = w1 ∨ f = w2) :
  F70 (.str f :: r1 :: r2 :: r3 :: c.row) = some (.str (sheetB f c)) := by
 have h1 := p71 (f := f) (r1 := r1) (r2 := r2) (r3 := r3) hc
 have h2 := p127 (v2 := .str c.ph) (v3 := .str c.st) (v4 := ia c.pl) (v5 := ia c.be) (v6 := ia c.us) (v7 := ia c.ho) (v8 := .bool c.pb) (v9 := .bool c.tb) (v10 := .bool c.ob) (v11 := c.tr) hc.r hc.rl
 have h3 := p125 (v2 := .str c.ph) (v3 := .str c.st) (v4 := ia c.pl) (v5 := ia c.be) (v6 := ia c.us) (v7 := ia c.ho) (v8 := .bool c.pb) (v9 := .bool c.tb) (v10 := .bool c.ob) (v11 := c.tr) hc.r hc.rl
 have hs := v.st
 have k3 : w3.size = 0 := rfl
 have k15 : w15.size = 1 := rfl
 have k11 : w11.size = 1 := rfl
 unfold sheetB textB
 rcases tf_or (f = w2) with e | e
 ·obtain ⟨b0, b1⟩ := best_le (n := n) v.rs
  have h4 := p126 b0 b1
  have h5 := clock_sz b0 b1
  generalize clockB (bestI c.rs) = T at *
  rcases tf_or (c.st = w3) with e1 | e1 <;> by_cases e2 : bestI c.rs > 0 <;>
   simp (disch := (try simp only [ByteArray.size_append]) <;> omega) [F70, unitF_eq, t70, Clb.row, e, e1, e2, h2, h3, h4, s_catOk, s_cat, w3_app, ByteArray.append_assoc]
 ·have hf' : f = w0 ∨ f = w1 := by
   rcases hf with g | g | g
   ·exact .inl g
   ·exact .inr g
   ·exact absurd g (of_eq_false e)
  obtain ⟨k, hk⟩ := tksOk v hf'
  have h4 := p124 (mkL_isL 5 _) hk
  have hok := tks_ok (tksL f c)
  have h5 := joinS_sz (n := k) (xs := (tksL f c).map tkB) (by rw [List.length_map, hk.len]) hk.sz
  rw [List.length_map, hk.len] at h5
  have h6 := hk.le
  generalize joinS ((tksL f c).map tkB) = T at *
  simp only [Clb.row] at h1 ⊢
  generalize mkL 5 ((tksL f c).map tkR) = M at *
  rcases tf_or (c.st = w3) with e1 | e1 <;>
   simp (disch := (try simp only [ByteArray.size_append]) <;> omega) [F70, unitF_eq, t70, e, e1, h1, hok, h4, s_catOk, s_cat, w3_app, ByteArray.append_assoc]
theorem p40 {f : ByteArray} {r1 r2 r3 r4 r5 r6 : AV} {n : Int} {c : Clb} (hc : ClbOk c) (v : ClbV f n c) (hf : f = w0 ∨ f = w1 ∨ f = w2) (h94 : F94 [.str f, r1, r2, r3, r4, r5, r6] = some (.tuple [.agg c.row, ia 0])) :
  F40 [.str f, r1, r2, r3, r4, r5, r6] = some (.tuple [.str (sheetB f c), ia 0]) := by
 have h1 := p97 (f := f) (r1 := r1) (r2 := r2) (r3 := r3) hc
 have h2 := p95 hc.r hc.rl
 have hs := v.st
 have k15 : w15.size = 1 := rfl
 have k11 : w11.size = 1 := rfl
 obtain ⟨o1, o2⟩ := Clb.ok hc
 unfold sheetB textB
 rcases tf_or (f = w2) with e | e
 ·obtain ⟨b0, b1⟩ := best_le (n := n) v.rs
  have h4 := p98 b0 b1
  have h5 := clock_sz b0 b1
  generalize clockB (bestI c.rs) = T at *
  rcases tf_or (c.st = w3) with e1 | e1 <;> by_cases e2 : bestI c.rs > 0 <;>
   simp (disch := (try simp only [ByteArray.size_append]) <;> omega) [F40, unitF_eq, t40, h94, o1, o2, Clb.row, e, e1, e2, h2, h4, s_catOk, s_cat, ByteArray.append_assoc]
 ·have hf' : f = w0 ∨ f = w1 := by
   rcases hf with g | g | g
   ·exact .inl g
   ·exact .inr g
   ·exact absurd g (of_eq_false e)
  obtain ⟨k, hk⟩ := tksOk v hf'
  have h4 := p96 (mkL_isL 5 _) hk
  have hok := tks_ok (tksL f c)
  have h5 := joinS_sz (n := k) (xs := (tksL f c).map tkB) (by rw [List.length_map, hk.len]) hk.sz
  rw [List.length_map, hk.len] at h5
  have h6 := hk.le
  generalize joinS ((tksL f c).map tkB) = T at *
  simp only [Clb.row] at h1 h94 ⊢
  generalize mkL 5 ((tksL f c).map tkR) = M at *
  rcases tf_or (c.st = w3) with e1 | e1 <;>
   simp (disch := (try simp only [ByteArray.size_append]) <;> omega) [F40, unitF_eq, t40, h94, o1, o2, e, e1, h1, h2, hok, h4, s_catOk, s_cat, ByteArray.append_assoc]
theorem p40e {f : ByteArray} {r1 r2 r3 r4 r5 r6 : AV} {c : Clb} {e : Int} (hc : ClbOk c) (he : e ≠ 0) (h94 : F94 [.str f, r1, r2, r3, r4, r5, r6] = some (.tuple [.agg c.row, ia e])) :
  F40 [.str f, r1, r2, r3, r4, r5, r6] = some (.tuple [.str w3, ia e]) := by
 obtain ⟨o1, o2⟩ := Clb.ok hc
 simp [F40, unitF_eq, t40, h94, o1, o2, Clb.row, he]
theorem p49 {f : ByteArray} {r1 r2 r3 r4 r5 r6 : AV} {c : Clb} {e : Int} (hc : ClbOk c) (h94 : F94 [.str f, r1, r2, r3, r4, r5, r6] = some (.tuple [.agg c.row, ia e])) :
  F49 [.str f, r1, r2, r3, r4, r5, r6] = some (.tuple [if e = 0 ∧ ¬ f = w2 then mkL 5 ((tksL f c).map tkR) else .nils, ia (if e = 0 then whenI (decide (f = w2)) 13 else e)]) := by
 have h1 := p97 (f := f) (r1 := r1) (r2 := r2) (r3 := r3) hc
 have hok := tks_ok (tksL f c)
 obtain ⟨o1, o2⟩ := Clb.ok hc
 simp only [Clb.row] at h1 h94
 generalize mkL 5 ((tksL f c).map tkR) = M at *
 rcases tf_or (f = w2) with e1 | e1 <;> by_cases e2 : e = 0 <;>
  simp [F49, unitF_eq, t49, h94, o1, o2, e1, e2, h1, hok, p103, p102_2, fz2, whenI]
abbrev Res := ByteArray × ByteArray × List Int
def resR (x : Res) : List AV := [.str x.1, .str x.2.1, mkL 1 (x.2.2.map intR)]
def resAt (f : ByteArray) (n : Int) (ns : List ByteArray) (cs : List Clb) (i : Nat) : Res :=
 (ns.getD i w3, (cs.getD i c0).st, if (cs.getD i c0).st = w3 then valI f n (cs.getD i c0) else [])
def opB (cs : List Clb) : Bool := cs.any fun c => !decide (c.ph = w6)
theorem p101 (c : Clb) : F101 c.row = some (.bool (!decide (c.ph = w6))) := by
 rcases tf_or (c.ph = w6) with e | e <;> simp [F101, unitF_eq, t101, Clb.row, e]
theorem G116900 {a : AV} {cs : List Clb} (h : IsL 11 (cs.map Clb.row) a) (hn : cs.length < 1048577) :
  ∃ r, loopG (calO s1169) B116900 KK [a, ia cs.length, ia 0] = some r ∧ ((opB cs = true ∧ ∃ i : Nat, r = .tuple [ia 1, ia i]) ∨ (opB cs = false ∧ r = .tuple [ia 2])) := by
 have hG := loop0 (Ω := calO s1169) (B := B116900) (fun i => [a, ia cs.length, ia i]) cs.length (fun i => if (!decide ((cs.getD i c0).ph = w6)) = true then some (.tuple [ia 1, ia i]) else none) (.tuple [ia 2]) (by omega) (fun i hi => by
  have hr : nth a.rowsL (Int.toNat (i : Int)) = some (cs[i].row) := h.row hi
  have hw := wS (i := i) (by omega)
  have hg : cs.getD i c0 = cs[i] := by simp [hi]
  have hp := p101 cs[i]
  rw [hg]
  generalize cs[i] = c at *
  simp only [Clb.row, Int.toNat_natCast] at hr hp
  push_cast at hw
  rcases tf_or (c.ph = w6) with e | e <;> simp only [e] at hp <;> simp [B116900, h.lenM, hr, hi, hw, hp, e]) (by simp [B116900])
 refine ⟨_, hG, ?_⟩
 cases hb : opB cs
 ·right
  refine ⟨rfl, ?_⟩
  rw [List.findSome?_eq_none_iff.2 (fun i hi => ?_)]
  ·rfl
  ·have hl : i < cs.length := by simp only [List.mem_range'_1] at hi; omega
   have := List.any_eq_false.1 hb cs[i] (List.getElem_mem hl)
   simp at this
   simp [hl, this]
 ·left
  refine ⟨rfl, ?_⟩
  cases hf : (List.range' 0 cs.length).findSome? fun i => if (!decide ((cs.getD i c0).ph = w6)) = true then some (AV.tuple [ia 1, ia i]) else none with
  | none =>
    exfalso
    obtain ⟨x, hx, hy⟩ := List.any_eq_true.1 hb
    obtain ⟨i, hi, rfl⟩ := List.getElem_of_mem hx
    have := List.findSome?_eq_none_iff.1 hf i (by simp only [List.mem_range'_1]; omega)
    simp at hy
    simp [hi, hy] at this
  | some r =>
    obtain ⟨i, hi, hr⟩ := List.exists_of_findSome?_eq_some hf
    refine ⟨i, ?_⟩
    split at hr
    ·injection hr with hr; rw [← hr]; rfl
    ·cases hr
theorem p1100 {a : AV} {cs : List Clb} (h : IsL 11 (cs.map Clb.row) a) (hn : cs.length < 1048577) : F1100 [a] = some (.bool (opB cs)) := by
 obtain ⟨r, hG, hr⟩ := G116900 h hn
 have h1 : ∃ j : Int, F1169 [a] = some (ia j) ∧ (decide (j ≥ 0) = opB cs) := by
  rcases hr with ⟨h1, i, rfl⟩ | ⟨h1, rfl⟩
  ·exact ⟨i, by simp [F1169, unitF_eq, t1169, h.lenM, hG], by simp [h1]⟩
  ·exact ⟨-1, by simp [F1169, unitF_eq, t1169, h.lenM, hG], by simp [h1]⟩
 obtain ⟨j, h1, h2⟩ := h1
 simp [F1100, unitF_eq, t1100, h1, ← h2]
end Go.Proofs.YtdeaibcebeofiaaGreatDoor.C5

namespace Go.Proofs.YtdeaibcebeofiaaGreatDoor.C5
open Go Go.Proofs.YtdeaibcebeofiaaGreatDoor.AM
set_option maxRecDepth 20000
set_option maxHeartbeats 4000000
def resL (f : ByteArray) (n : Int) (ns : List ByteArray) (cs : List Clb) (i : Nat) : List Res := (List.range i).map (resAt f n ns cs)
theorem resL_succ (f : ByteArray) (n : Int) (ns : List ByteArray) (cs : List Clb) (i : Nat) : mkL 3 ((resL f n ns cs (i + 1)).map resR) = .sl 3 ((resL f n ns cs i).map resR ++ [resR (resAt f n ns cs i)]) := by
 rw [← mkL_snoc, resL, List.range_succ, List.map_append, List.map_append]; rfl
theorem resL_len (f : ByteArray) (n : Int) (ns : List ByteArray) (cs : List Clb) (i : Nat) : (resL f n ns cs i).length = i := by simp [resL]
theorem resL_ok (l : List Res) : (Sh.sl [.str, .str, .sl [.int .i64]]).ok (mkL 3 (l.map resR)) = true := by
 refine (mkL_isL 3 _).ok rfl ?_
 rw [List.all_map, List.all_eq_true]
 intro x _
 have : (Sh.sl [.int .i64]).ok (mkL 1 (x.2.2.map intR)) = true := (mkL_isL 1 _).ok rfl (by simp [intR])
 simp [resR, this]
theorem val_ok (l : List Int) : (Sh.sl [.int .i64]).ok (mkL 1 (l.map intR)) = true := (mkL_isL 1 _).ok rfl (by simp [intR])
theorem val_ite (p : Prop) [Decidable p] (l : List Int) : (if p then mkL 1 (l.map intR) else .nils) = mkL 1 ((if p then l else []).map intR) := by
 split <;> rfl
section
variable {f : ByteArray} {ns : List ByteArray} {names a : AV} {n ti : Int} {cs : List Clb}
theorem G4600 (hr : IsL 1 (ns.map strR) names) (hln : ns.length = cs.length) (h : IsL 11 (cs.map Clb.row) a) (hn : cs.length < 1048577) (hc : ∀ c ∈ cs, ClbOk c ∧ ClbV f n c) (hf : f = w0 ∨ f = w1 ∨ f = w2) :
  loopG (calO s46) B4600 KK [.nils, a, ia cs.length, ia 0, .str f, names, ia n, ia ti] = some (.tuple [ia 1, mkL 3 ((resL f n ns cs cs.length).map resR)]) := by
 refine loopF (fun i => [mkL 3 ((resL f n ns cs i).map resR), a, ia cs.length, ia i, .str f, names, ia n, ia ti]) cs.length _ (by omega) (fun i hi => ?_) ?_
 ·have hr1 : nth a.rowsL (Int.toNat (i : Int)) = some (cs[i].row) := h.row hi
  have hr2 : nth names.rowsL (Int.toNat (i : Int)) = some [.str ns[i]] := hr.row (by omega)
  have hw := wS (i := i) (by omega)
  obtain ⟨o, v⟩ := hc cs[i] (List.getElem_mem hi)
  have hp := p104 (r1 := names) (r3 := ia ti) o v hf
  rw [val_ite] at hp
  have hi2 : i < ns.length := by omega
  have e : resAt f n ns cs i = (ns[i], cs[i].st, if cs[i].st = w3 then valI f n cs[i] else []) := by simp [resAt, hi, hi2]
  have hb : (i : Int) + 1 ≤ 1073741824 := by omega
  have hll := resL_len f n ns cs i
  rw [resL_succ, e]
  have hv := val_ok (if cs[i].st = w3 then valI f n cs[i] else [])
  simp only [resR]
  generalize mkL 1 ((if cs[i].st = w3 then valI f n cs[i] else []).map intR) = V at *
  generalize resL f n ns cs i = L at *
  generalize cs[i] = c at *
  generalize ns[i] = nm at *
  simp only [Clb.row, Int.toNat_natCast] at hr1 hr2 hp
  push_cast at hw ⊢
  simp [B4600, h.lenM, hr.lenM, hr1, hr2, hi, hi2, hw, hb, hp, hv, hll]
 ·simp [B4600]
theorem p46 {time : AV} (hr : IsL 1 (ns.map strR) names) (hln : ns.length = cs.length) (h : IsL 11 (cs.map Clb.row) a) (hn : cs.length < 1048577) (hc : ∀ c ∈ cs, ClbOk c ∧ ClbV f n c) (hf : f = w0 ∨ f = w1 ∨ f = w2)
  (h60 : F60 [.str f, names, ia n, ia ti, time, a] = some (ia 0)) :
  F46 [.str f, names, ia n, ia ti, time, a] = some (.tuple [if opB cs then .nils else mkL 3 ((resL f n ns cs cs.length).map resR), ia (if opB cs then 24 else 0)]) := by
 have hG := G4600 (ti := ti) hr hln h hn hc hf
 have h1 := p1100 h hn
 generalize mkL 3 ((resL f n ns cs cs.length).map resR) = L at *
 cases e : opB cs <;> rw [e] at h1 <;> simp [F46, unitF_eq, t46, h.lenM, h60, h1, p103, p102_2, fz2, whenI, hG]
theorem p46e {k : Int} {time : AV} (h : IsL 11 (cs.map Clb.row) a) (hn : cs.length < 1048577) (hk : k ≠ 0) (h60 : F60 [.str f, names, ia n, ia ti, time, a] = some (ia k)) :
  F46 [.str f, names, ia n, ia ti, time, a] = some (.tuple [.nils, ia k]) := by
 have h1 := p1100 h hn
 simp [F46, unitF_eq, t46, h.lenM, h60, h1, p103, p102_2, fz2, hk]
theorem G6700 {time : AV} (hr : IsL 1 (ns.map strR) names) (hln : ns.length = cs.length) (h : IsL 11 (cs.map Clb.row) a) (hn : cs.length < 1048577) (hc : ∀ c ∈ cs, ClbOk c ∧ ClbV f n c) (hf : f = w0 ∨ f = w1 ∨ f = w2) :
  loopG (calO s67) B6700 KK [.nils, ia 0, time, a, .str f, names, ia n, ia ti] = some (if opB cs then .tuple [ia 1] else .tuple [ia 2, mkL 3 ((resL f n ns cs cs.length).map resR)]) := by
 have := loopL (Ω := calO s67) (B := B6700) (fun i => [mkL 3 ((resL f n ns cs i).map resR), ia i, time, a, .str f, names, ia n, ia ti]) cs (fun c => if (!decide (c.ph = w6)) = true then some (.tuple [ia 1]) else none) (.tuple [ia 2, mkL 3 ((resL f n ns cs cs.length).map resR)]) (by omega) (fun i hi => by
  have hr1 : nth a.rowsL (Int.toNat (i : Int)) = some (cs[i].row) := h.row hi
  have hr2 : nth names.rowsL (Int.toNat (i : Int)) = some [.str ns[i]] := hr.row (by omega)
  have hw := wS (i := i) (by omega)
  obtain ⟨o, v⟩ := hc cs[i] (List.getElem_mem hi)
  have hp := p123 (r1 := names) (r3 := ia ti) o v hf
  have hi2 : i < ns.length := by omega
  have e : resAt f n ns cs i = (ns[i], cs[i].st, if cs[i].st = w3 then valI f n cs[i] else []) := by simp [resAt, hi, hi2]
  have hb : (i : Int) + 1 ≤ 1073741824 := by omega
  have hll := resL_len f n ns cs i
  rw [resL_succ, e]
  have hv := val_ok (valI f n cs[i])
  simp only [resR, ← val_ite]
  generalize mkL 1 ((valI f n cs[i]).map intR) = V at *
  generalize resL f n ns cs i = L at *
  generalize cs[i] = c at *
  generalize ns[i] = nm at *
  simp only [Clb.row, Int.toNat_natCast] at hr1 hr2 hp
  push_cast at hw ⊢
  rcases tf_or (c.ph = w6) with e1 | e1 <;> rcases tf_or (c.st = w3) with e2 | e2 <;>
   simp [B6700, h.lenM, hr.lenM, hr1, hr2, hi, hi2, hw, hb, hp, hv, hll, e1, e2]) (by simp [B6700, h.lenM])
 refine Eq.trans this ?_
 rw [any_find]
 unfold opB
 split <;> rfl
theorem p67 {time : AV} (hr : IsL 1 (ns.map strR) names) (hln : ns.length = cs.length) (h : IsL 11 (cs.map Clb.row) a) (hn : cs.length < 1048577) (hc : ∀ c ∈ cs, ClbOk c ∧ ClbV f n c) (hf : f = w0 ∨ f = w1 ∨ f = w2) :
  F67 [.str f, names, ia n, ia ti, time, a] = some (.tuple [if opB cs then .nils else mkL 3 ((resL f n ns cs cs.length).map resR), .bool (!opB cs)]) := by
 have hG := G6700 (ti := ti) (time := time) hr hln h hn hc hf
 generalize mkL 3 ((resL f n ns cs cs.length).map resR) = L at *
 cases e : opB cs <;> rw [e] at hG <;> simp at hG <;> simp [F67, unitF_eq, t67, hG]
def wtL (cs : List Clb) (i : Nat) : List Int := ((List.range i).filter fun k => !decide ((cs.getD k c0).ph = w6)).map Int.ofNat
theorem wtL_succ (cs : List Clb) (i : Nat) : wtL cs (i + 1) = if (cs.getD i c0).ph = w6 then wtL cs i else wtL cs i ++ [(i : Int)] := by
 unfold wtL
 rw [List.range_succ, List.filter_append, List.map_append]
 by_cases e : (cs.getD i c0).ph = w6
 ·simp only [List.filter_cons, List.filter_nil, e]; simp
 ·simp only [List.filter_cons, List.filter_nil, decide_eq_false e, if_neg e]; simp
theorem wtL_len (cs : List Clb) (i : Nat) : (wtL cs i).length ≤ i := by
 unfold wtL
 rw [List.length_map]
 exact Nat.le_trans (List.length_filter_le _ _) (by simp)
theorem wt_snoc (l : List Int) (x : Int) : mkL 1 ((l ++ [x]).map intR) = .sl 1 (l.map intR ++ [[ia x]]) := by
 rw [← mkL_snoc, List.map_append]; rfl
theorem G6600 {Ω : Om} (h : IsL 11 (cs.map Clb.row) a) (hn : cs.length < 1048577) :
  loopG Ω B6600 KK [.nils, a, ia cs.length, ia 0] = some (.tuple [ia 1, mkL 1 ((wtL cs cs.length).map intR)]) := by
 refine loopF (fun i => [mkL 1 ((wtL cs i).map intR), a, ia cs.length, ia i]) cs.length _ (by omega) (fun i hi => ?_) ?_
 ·have hr : nth a.rowsL (Int.toNat (i : Int)) = some (cs[i].row) := h.row hi
  have hw := wS (i := i) (by omega)
  have hg : cs.getD i c0 = cs[i] := by simp [hi]
  have hb : ((wtL cs i).length : Int) + 1 ≤ 1073741824 := by have := wtL_len cs i; omega
  rw [wtL_succ, hg]
  generalize cs[i] = c at *
  simp only [Clb.row, Int.toNat_natCast] at hr
  push_cast at hw ⊢
  rcases tf_or (c.ph = w6) with e | e <;> simp only [e, if_true, if_false, wt_snoc] <;> simp [B6600, h.lenM, hr, hi, hw, hb, e]
 ·simp [B6600]
theorem p66 {f r1 r2 r3 time : AV} {k : Int} (h : IsL 11 (cs.map Clb.row) a) (hn : cs.length < 1048577) (h60 : F60 [f, r1, r2, r3, time, a] = some (ia k)) :
  F66 [f, r1, r2, r3, time, a] = some (.tuple [if k = 0 then mkL 1 ((wtL cs cs.length).map intR) else .nils, ia k]) := by
 have hG := G6600 (Ω := calO s66) h hn
 generalize mkL 1 ((wtL cs cs.length).map intR) = L at *
 by_cases e : k = 0 <;> simp [F66, unitF_eq, t66, h.lenM, h60, hG, e]
theorem G6900 {Ω : Om} {time : AV} (h : IsL 11 (cs.map Clb.row) a) (hn : cs.length < 1048577) :
  loopG Ω B6900 KK [.nils, ia 0, time, a] = some (.tuple [ia 1, mkL 1 ((wtL cs cs.length).map intR)]) := by
 refine loopF (fun i => [mkL 1 ((wtL cs i).map intR), ia i, time, a]) cs.length _ (by omega) (fun i hi => ?_) ?_
 ·have hr : nth a.rowsL (Int.toNat (i : Int)) = some (cs[i].row) := h.row hi
  have hw := wS (i := i) (by omega)
  have hg : cs.getD i c0 = cs[i] := by simp [hi]
  have hb : ((wtL cs i).length : Int) + 1 ≤ 1073741824 := by have := wtL_len cs i; omega
  rw [wtL_succ, hg]
  generalize cs[i] = c at *
  simp only [Clb.row, Int.toNat_natCast] at hr
  push_cast at hw ⊢
  rcases tf_or (c.ph = w6) with e | e <;> simp only [e, if_true, if_false, wt_snoc] <;> simp [B6900, h.lenM, hr, hi, hw, hb, e]
 ·simp [B6900, h.lenM]
theorem p69 {time : AV} (h : IsL 11 (cs.map Clb.row) a) (hn : cs.length < 1048577) :
  F69 [time, a] = some (mkL 1 ((wtL cs cs.length).map intR)) := by
 have hG := G6900 (Ω := calO s69) (time := time) h hn
 simp [F69, unitF_eq, t69, hG]
end
theorem G6800 {l : List Res} (hl : l.length < 1048577) (hv : ∀ x ∈ l, x.2.2.length < 1048577) :
  loopG (calO s68) B6800 KK [mkL 3 (l.map resR), mkL 3 (l.map resR), ia 0] = some (.tuple [ia 2]) := by
 have h := mkL_isL 3 (l.map resR)
 generalize mkL 3 (l.map resR) = a at *
 refine loopF (fun i => [a, a, ia i]) l.length _ (by omega) (fun i hi => ?_) ?_
 ·have hr : nth a.rowsL (Int.toNat (i : Int)) = some (resR l[i]) := h.row hi
  have hw := wS (i := i) (by omega)
  have hp := p75 (mkL_isL 1 (l[i].2.2.map intR)) (mkL_isL 1 _) (hv l[i] (List.getElem_mem hi))
  simp only [resR, Int.toNat_natCast] at hr
  generalize mkL 1 (l[i].2.2.map intR) = V at *
  push_cast at hw ⊢
  simp [B6800, h.lenM, hr, hi, hw, hp]
 ·simp [B6800, h.lenM]
theorem p68 {l : List Res} (hl : l.length < 1048577) (hv : ∀ x ∈ l, x.2.2.length < 1048577) : F68 [mkL 3 (l.map resR), mkL 3 (l.map resR)] = some (.bool true) := by
 have hG := G6800 hl hv
 simp [F68, unitF_eq, t68, hG]
theorem val_len (f : ByteArray) (n : Int) (c : Clb) : (valI f n c).length < 1048577 := by
 unfold valI; split
 ·simp
 ·split <;> simp
theorem resL_small (f : ByteArray) (n : Int) (ns : List ByteArray) (cs : List Clb) (i : Nat) : ∀ x ∈ resL f n ns cs i, x.2.2.length < 1048577 := by
 intro x hx
 obtain ⟨k, _, rfl⟩ := List.mem_map.1 hx
 unfold resAt
 simp only
 split
 ·exact val_len _ _ _
 ·simp
theorem p23e (k : Int) (hk : k ≠ 0) : F23 [.nils, ia k, ia k, .nils] = some (.bool true) := by
 simp [F23, unitF_eq, t23, hk]
theorem p23 {xs : List Int} (h : xs.length < 1048577) : F23 [mkL 1 (xs.map intR), ia 0, ia 0, mkL 1 (xs.map intR)] = some (.bool true) := by
 have hp := p75 (mkL_isL 1 (xs.map intR)) (mkL_isL 1 _) h
 simp [F23, unitF_eq, t23, hp]
end Go.Proofs.YtdeaibcebeofiaaGreatDoor.C5

namespace Go.Proofs.YtdeaibcebeofiaaGreatDoor.C5
open Go Go.Proofs.YtdeaibcebeofiaaGreatDoor.AM
set_option maxRecDepth 20000
set_option maxHeartbeats 8000000
abbrev clbS : List Sh := [.str, .str, .int .i64, .int .i64, .int .i64, .int .i64, .bool, .bool, .bool, .sl [.int .i64, .int .i64, .int .i64, .bool], .sl [.int .i64]]
theorem sh_ok {a : AV} {cs : List Clb} (h : IsL 11 (cs.map Clb.row) a) (hc : ∀ c ∈ cs, ClbOk c) : (Sh.sl clbS).ok a = true := by
 refine h.ok rfl ?_
 rw [List.all_map, List.all_eq_true]
 intro c hm
 obtain ⟨h1, h2⟩ := Clb.ok (hc c hm)
 simp [clbS, Clb.row, h1, h2]
theorem opB_own (cs : List Clb) : opB (cs.map Clb.own) = opB cs := by
 unfold opB; rw [List.any_map]; rfl
theorem own_getD (cs : List Clb) (i : Nat) : (cs.map Clb.own).getD i c0 = (cs.getD i c0).own ∨ (cs.map Clb.own).getD i c0 = cs.getD i c0 := by
 by_cases hi : i < cs.length
 ·left; simp [hi]
 ·right
  have : cs.length ≤ i := by omega
  simp only [List.getD_eq_getElem?_getD, List.getElem?_map, List.getElem?_eq_none this]
  rfl
theorem resL_own (f : ByteArray) (n : Int) (ns : List ByteArray) (cs : List Clb) (i : Nat) : resL f n ns (cs.map Clb.own) i = resL f n ns cs i := by
 unfold resL
 refine List.map_congr_left fun k _ => ?_
 unfold resAt
 rcases own_getD cs k with e | e <;> rw [e] <;> rfl
theorem wtL_own (cs : List Clb) (i : Nat) : wtL (cs.map Clb.own) i = wtL cs i := by
 unfold wtL
 congr 2
 funext k
 rcases own_getD cs k with e | e <;> rw [e] <;> rfl
theorem ck_all {f : ByteArray} {ns : List ByteArray} {n ti time : Int} {cs : List Clb} (h : ckStA f ns n ti time cs = 0) : ckRound f ns n ti = 0 ∧ cs.length = ns.length ∧ ∀ c ∈ cs, ckClimb f n ti time c = 0 := by
 unfold ckStA at h
 split at h
 ·contradiction
 ·rename_i h1
  split at h
  ·cases h
  ·split at h
   ·cases h
   ·rename_i h2
    refine ⟨Decidable.not_not.1 h1, Decidable.not_not.1 h2, fun c hm => ?_⟩
    obtain ⟨i, hi, rfl⟩ := List.getElem_of_mem hm
    have := fz_all h (cdA f n ti time cs i) (List.mem_map_of_mem (by simp only [List.mem_range'_1]; omega))
    unfold cdA at this
    have hg : cs.getD i c0 = cs[i] := by simp [hi]
    rw [hg] at this
    split at this
    ·assumption
    ·exact this
theorem law12 {r : Rd} {names a : AV} (hr : RdOk r names) (hns : (Sh.sl [.str]).ok names = true) {time : Int} {cs : List Clb} (h : IsL 11 (cs.map Clb.row) a) (hl : cs.length < 1048577) (hc : ∀ c ∈ cs, ClbOk c) (w : Int) :
  F12 [.str r.f, names, ia r.pl, ia r.ti, ia time, a, ia w] = some (.bool true) := by
 have hn := hr.len
 have f43 := p43 (time := time) h hl hc
 have iA : IsL 11 ((cs.map Clb.own).map Clb.row) (mkL 11 ((cs.map Clb.own).map Clb.row)) := mkL_isL 11 _
 have okA := sh_ok iA (own_all hc)
 have hlA : (cs.map Clb.own).length < 1048577 := by rw [List.length_map]; exact hl
 obtain ⟨b1, f16⟩ := p16 (f := r.f) (pl := ia r.pl) (ti := ia r.ti) hr.isL hn
 obtain ⟨b2, f44⟩ := p44 (time := time) iA hlA
 have f60 := p60 (f := r.f) (n := r.pl) (ti := r.ti) (time := time) hr.isL hn hr.sz h hl hc
 have f45 := p45 (f := r.f) (n := r.pl) (ti := r.ti) (time := time) hr.isL hn hr.sz iA hlA (own_all hc)
 rw [st_own, ← st_eq] at f45
 have f94 := p94 (f := r.f) (n := r.pl) (ti := r.ti) (time := time) hr.isL hn hr.sz h hl hc w
 have f15 : F15 [] = some (.bool true) := rfl
 have o15 : calO s12 15 0 [] = .bool true := by rw [o12_15, f15]; rfl
 have f69 := p69 (time := ia time) iA hlA
 have f66 := p66 h hl f60
 rw [wtL_own, List.length_map] at f69
 have hwl : (wtL cs cs.length).length < 1048577 := by have := wtL_len cs cs.length; omega
 have f23 := p23 hwl
 have okW := val_ok (wtL cs cs.length)
 have lA : (mkL 11 ((cs.map Clb.own).map Clb.row)).lenN = cs.length := by rw [iA.lenM, List.length_map]
 generalize mkL 1 ((wtL cs cs.length).map intR) = W at *
 by_cases hk : ckStA r.f r.ns r.pl r.ti time cs = 0
 ·obtain ⟨d1, d2, d3⟩ := ck_all hk
  have hf := disc d1
  have hv : ∀ c ∈ cs, ClbOk c ∧ ClbV r.f r.pl c := fun c hm => ⟨hc c hm, clbV d1 (d3 c hm)⟩
  have hv' : ∀ c ∈ cs.map Clb.own, ClbOk c ∧ ClbV r.f r.pl c := fun c hm => by
   obtain ⟨x, hx, rfl⟩ := List.mem_map.1 hm
   obtain ⟨v1, v2⟩ := hv x hx
   exact ⟨own_ok v1, ⟨v2.n1, v2.n2, v2.n3, v2.us, v2.ho, v2.st, v2.ts, v2.tz, v2.tv, v2.rs⟩⟩
  rw [hk] at f60 f45 f66
  have f46 := p46 (time := ia time) hr.isL d2.symm h hl hv hf f60
  have f67 := p67 (ti := r.ti) (time := ia time) hr.isL (d2.symm.trans (List.length_map _).symm) iA hlA hv' hf
  rw [opB_own, resL_own, List.length_map] at f67
  have f68 := p68 (l := resL r.f r.pl r.ns cs cs.length) (by rw [resL_len]; omega) (resL_small _ _ _ _ _)
  have okR := resL_ok (resL r.f r.pl r.ns cs cs.length)
  generalize mkL 3 ((resL r.f r.pl r.ns cs cs.length).map resR) = R at *
  simp only [if_true] at f66
  by_cases hw : w < 0 ∨ w ≥ cs.length
  ·have e2 : ck2 (ckStA r.f r.ns r.pl r.ti time cs) cs w = 10 := by
    unfold ck2
    rw [hk]
    have : outB w 0 (cs.length - 1) = true := by simp only [outB, Bool.or_eq_true, decide_eq_true_eq]; omega
    rw [this]; rfl
   rw [e2] at f94
   simp only [show ¬ (10 : Int) = 0 by decide, if_false] at f94
   have c0k : ClbOk c0 := ⟨.inr ⟨rfl, rfl⟩, .inr ⟨rfl, rfl⟩, by decide, by decide⟩
   have f49 := p49 c0k f94
   have f40 := p40e c0k (by decide) f94
   simp at f49
   generalize mkL 11 ((cs.map Clb.own).map Clb.row) = A at *
   have hw' : (w < 0) = True ∨ ((w < 0) = False ∧ (w ≥ (cs.length : Int)) = True) := by
    by_cases g : w < 0
    ·exact .inl (eq_true g)
    ·exact .inr ⟨eq_false g, eq_true (by omega)⟩
   have hw2 : ∀ x y : AV, True := fun _ _ => trivial
   cases b1 <;> cases b2 <;> cases e3 : opB cs <;> rw [e3] at f46 f67 <;> simp only [if_true, if_false, Bool.not_true, Bool.not_false, Bool.false_eq_true] at f46 f67 <;>
    rcases hw' with g | ⟨g, g'⟩ <;>
    simp [F12, unitF_eq, t12, o15, f15, f16, f44, f43, f45, f49, f40, f46, f66, f23, f67, f68, f69, okA, okR, okW, lA, g]
   all_goals simp_all
  ·have g1 : 0 ≤ w := by omega
   have g2 : w < cs.length := by omega
   have e2 : ck2 (ckStA r.f r.ns r.pl r.ti time cs) cs w = 0 := by
    unfold ck2
    rw [hk]
    have : outB w 0 (cs.length - 1) = false := by simp only [outB, Bool.or_eq_false_iff, decide_eq_false_iff_not]; omega
    rw [this]; rfl
   rw [e2] at f94
   simp only [if_true] at f94
   have hi : w.toNat < cs.length := by omega
   have hg : clbAt cs w = cs[w.toNat] := by simp [clbAt, hi]
   rw [hg] at f94
   obtain ⟨v1, v2⟩ := hv _ (List.getElem_mem hi)
   obtain ⟨v3, v4⟩ := hv' _ (List.mem_map_of_mem (f := Clb.own) (List.getElem_mem hi))
   have hrow : nth (mkL 11 ((cs.map Clb.own).map Clb.row)).rowsL (Int.toNat ((w.toNat : Nat) : Int)) = some (cs[w.toNat].own.row) := by
    have := iA.row (i := w.toNat) (by rw [List.length_map]; exact hi)
    rw [this]; simp
   have f49 := p49 v1 f94
   have f40 := p40 v1 v2 hf f94
   have f70 := p70 (r1 := names) (r2 := ia r.pl) (r3 := ia r.ti) v3 v4 hf
   have f71 := p71 (f := r.f) (r1 := names) (r2 := ia r.pl) (r3 := ia r.ti) v3
   have es : sheetB r.f cs[w.toNat].own = sheetB r.f cs[w.toNat] := rfl
   have et : tksL r.f cs[w.toNat].own = tksL r.f cs[w.toNat] := rfl
   rw [es] at f70
   rw [et] at f71
   have tl : (tksL r.f cs[w.toNat]).length < 1048577 := by
    have := v1.tl
    unfold tksL
    split
    ·simp
    ·rw [List.length_map]; exact this
   have f51 := p51 (mkL_isL 5 _) tl
   have f50 := p50 (mkL_isL 5 _) (mkL_isL 5 _) tl
   have okT := tks_ok (tksL r.f cs[w.toNat])
   generalize mkL 5 ((tksL r.f cs[w.toNat]).map tkR) = T at *
   generalize mkL 11 ((cs.map Clb.own).map Clb.row) = A at *
   generalize sheetB r.f cs[w.toNat] = S at *
   generalize cs[w.toNat].own = c at *
   simp only [Clb.row, Int.toNat_natCast] at hrow f70 f71
   have g3 : ¬ w < 0 := by omega
   have g4 : ¬ (cs.length : Int) ≤ w := by omega
   rcases tf_or (r.f = w2) with e4 | e4 <;> simp [e4] at f49 <;>
   cases b1 <;> cases b2 <;> cases e3 : opB cs <;> rw [e3] at f46 f67 <;> simp only [if_true, if_false, Bool.not_true, Bool.not_false, Bool.false_eq_true] at f46 f67 <;>
    simp [F12, unitF_eq, t12, o15, f15, f16, f44, f43, f45, f49, f40, f46, f66, f23, f67, f68, f69, f70, f71, f51, f50, okA, okR, okW, okT, lA, g1, g2, g3, g4, hrow, whenI, e4]
 ·have e2 : ck2 (ckStA r.f r.ns r.pl r.ti time cs) cs w = ckStA r.f r.ns r.pl r.ti time cs := if_pos hk
  rw [e2, if_neg hk] at f94
  have c0k : ClbOk c0 := ⟨.inr ⟨rfl, rfl⟩, .inr ⟨rfl, rfl⟩, by decide, by decide⟩
  have f49 := p49 c0k f94
  have f40 := p40e c0k hk f94
  have f46 := p46e h hl hk f60
  have f23 := p23e _ hk
  simp only [hk, if_false, false_and] at f49 f66
  generalize ckStA r.f r.ns r.pl r.ti time cs = k at *
  generalize mkL 11 ((cs.map Clb.own).map Clb.row) = A at *
  cases b1 <;> cases b2 <;>
   simp [F12, unitF_eq, t12, o15, f15, f16, f44, f43, f45, f49, f40, f46, f66, f23, okA, hk]
end Go.Proofs.YtdeaibcebeofiaaGreatDoor.C5
