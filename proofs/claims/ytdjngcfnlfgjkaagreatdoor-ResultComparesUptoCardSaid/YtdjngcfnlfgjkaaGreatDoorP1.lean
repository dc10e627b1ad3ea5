/-
  Plain lemmas.
-/
import Derived.Test.YtdjngcfnlfgjkaaGreatDoorF1
import Derived.Lib.DecodeN
set_option linter.unusedVariables false
set_option linter.unusedSimpArgs false
set_option linter.unusedSectionVars false
namespace Go.Proofs.YtdjngcfnlfgjkaaGreatDoor.C5
open Go Go.Proofs.YtdjngcfnlfgjkaaGreatDoor.AM
def stepG (Ω : Om) (vs : List AV) : Te LEnd → Option (List AV ⊕ AV)
 | .ok (.again ys) => some (.inl (X.dens Ω vs ys))
 | .ok (.out tag zs) => some (.inr (.tuple (.int .i64 tag :: X.dens Ω vs zs)))
 | .fail _ => none
 | .need p t => if (X.den Ω vs p).bB = true then stepG Ω vs t else none
 | .ite c a b => if (X.den Ω vs c).bB = true then stepG Ω vs a else stepG Ω vs b
theorem stepG_eq (Ω : Om) (vs : List AV) : ∀ (B : Te LEnd), stepG Ω vs B = (match B.sel (X.den Ω vs) with
  | some (.again ys) => some (.inl (ys.map (X.den Ω vs)))
  | some (.out tag zs) => some (.inr (.tuple (.int .i64 tag :: zs.map (X.den Ω vs))))
  | none => none)
 | .ok (.again ys) => by simp only [stepG, Te.sel, X.dens_map]
 | .ok (.out tag zs) => by simp only [stepG, Te.sel, X.dens_map]
 | .fail _ => rfl
 | .need p t => by
   simp only [stepG, Te.sel]
   cases (X.den Ω vs p).bB with
   | true => simpa using stepG_eq Ω vs t
   | false => rfl
 | .ite c a b => by
   simp only [stepG, Te.sel]
   cases (X.den Ω vs c).bB with
   | true => simpa using stepG_eq Ω vs a
   | false => simpa using stepG_eq Ω vs b
theorem loopG_again {Ω : Om} {B : Te LEnd} {vs vs' : List AV} {K : Nat} (h : stepG Ω vs B = some (.inl vs')) : loopG Ω B (K + 1) vs = loopG Ω B K vs' := by
 rw [stepG_eq] at h
 simp only [loopG]
 split at h <;> simp_all
theorem loopG_out {Ω : Om} {B : Te LEnd} {vs : List AV} {r : AV} {K : Nat} (h : stepG Ω vs B = some (.inr r)) : loopG Ω B (K + 1) vs = some r := by
 rw [stepG_eq] at h
 simp only [loopG]
 split at h <;> simp_all
def valT (Ω : Om) (vs : List AV) : Te AV → Option AV
 | .ok a => some (AV.den (X.den Ω vs) id a)
 | .fail _ => none
 | .need p t => if (X.den Ω vs p).bB = true then valT Ω vs t else none
 | .ite c a b => if (X.den Ω vs c).bB = true then valT Ω vs a else valT Ω vs b
theorem unitF_eq (Ω : Om) (vs : List AV) : ∀ (t : Te AV), unitF Ω t vs = valT Ω vs t
 | .ok a => rfl
 | .fail _ => rfl
 | .need p t => by
   have := unitF_eq Ω vs t
   simp only [unitF, valT, Te.sel] at *
   cases (X.den Ω vs p).bB with
   | true => simpa using this
   | false => rfl
 | .ite c a b => by
   have h1 := unitF_eq Ω vs a
   have h2 := unitF_eq Ω vs b
   simp only [unitF, valT, Te.sel] at *
   cases (X.den Ω vs c).bB with
   | true => simpa using h1
   | false => simpa using h2
theorem loop_scan {Ω : Om} {B : Te LEnd} {st : Nat → List AV} {n : Nat} {res : Nat → Option AV} {fin : AV}
  (hs : ∀ i, i < n → stepG Ω (st i) B = some (match res i with | some r => .inr r | none => .inl (st (i + 1))))
  (hf : stepG Ω (st n) B = some (.inr fin)) : ∀ (j i K : Nat), i + j = n → j < K → loopG Ω B K (st i) = some (((List.range' i j).findSome? res).getD fin)
 | 0, i, K, hi, hK => by
   obtain ⟨K, rfl⟩ : ∃ m, K = m + 1 := ⟨K - 1, by omega⟩
   have : i = n := by omega
   subst this
   rw [loopG_out hf]; rfl
 | j + 1, i, K, hi, hK => by
   obtain ⟨K, rfl⟩ : ∃ m, K = m + 1 := ⟨K - 1, by omega⟩
   have h1 := hs i (by omega)
   cases hr : res i with
   | some r =>
     rw [hr] at h1
     rw [loopG_out h1]
     simp [List.range'_succ, hr]
   | none =>
     rw [hr] at h1
     rw [loopG_again h1, loop_scan hs hf j (i + 1) K (by omega) (by omega)]
     simp [List.range'_succ, hr]
theorem range_find {α β : Type} (l : List α) (g : α → Option β) (d : Nat → Option β) (h : ∀ i (hi : i < l.length), d i = g l[i]) : (List.range' 0 l.length).findSome? d = l.findSome? g := by
 have : ∀ (l : List α) (i : Nat), (∀ j (hj : j < l.length), d (i + j) = g l[j]) → (List.range' i l.length).findSome? d = l.findSome? g := by
  intro l
  induction l with
  | nil => intro i _; rfl
  | cons a l ih =>
    intro i h
    have h0 := h 0 (by simp)
    simp at h0
    rw [List.length_cons, List.range'_succ, List.findSome?_cons, List.findSome?_cons, h0, ih (i + 1) (fun j hj => by
     have := h (j + 1) (by simp; omega)
     rw [show i + 1 + j = i + (j + 1) by omega, this]; rfl)]
 exact this l 0 (fun j hj => by rw [Nat.zero_add]; exact h j hj)
def IsL (k : Nat) (rows : List (List AV)) (a : AV) : Prop := a = .sl k rows ∨ (a = .nils ∧ rows = [])
theorem IsL.rows {k : Nat} {rows : List (List AV)} {a : AV} (h : IsL k rows a) : a.rowsL = rows := by
 rcases h with rfl | ⟨rfl, rfl⟩ <;> rfl
theorem IsL.len {k : Nat} {rows : List (List AV)} {a : AV} (h : IsL k rows a) : a.lenN = rows.length := by
 rcases h with rfl | ⟨rfl, rfl⟩ <;> rfl
theorem IsL.ok {k : Nat} {rows : List (List AV)} {a : AV} {cs : List Sh} (h : IsL k rows a) (hk : k = cs.length) (hr : rows.all (Sh.oks cs) = true) : (Sh.sl cs).ok a = true := by
 rcases h with rfl | ⟨rfl, rfl⟩
 ·simp only [Sh.ok, hk, beq_self_eq_true, hr, Bool.and_self]
 ·rfl
theorem i64w {n : Int} (h1 : -9223372036854775808 ≤ n) (h2 : n ≤ 9223372036854775807) : IntKind.i64.wrap n = n := by
 rw [IntKind.wrap_i64]; omega
section
variable (Ω : Om) (a b c : AV)
@[simp] theorem s_add (k : IntKind) : Pr.sem Ω (.bin .add k) [a, b] = .int k (k.wrap (a.nI + b.nI)) := rfl
@[simp] theorem s_sub (k : IntKind) : Pr.sem Ω (.bin .sub k) [a, b] = .int k (k.wrap (a.nI - b.nI)) := rfl
@[simp] theorem s_eql (k : IntKind) : Pr.sem Ω (.bin .eql k) [a, b] = .bool (a.nI == b.nI) := rfl
@[simp] theorem s_neq (k : IntKind) : Pr.sem Ω (.bin .neq k) [a, b] = .bool (a.nI != b.nI) := rfl
@[simp] theorem s_lss (k : IntKind) : Pr.sem Ω (.bin .lss k) [a, b] = .bool (decide (a.nI < b.nI)) := rfl
@[simp] theorem s_leq (k : IntKind) : Pr.sem Ω (.bin .leq k) [a, b] = .bool (decide (a.nI ≤ b.nI)) := rfl
@[simp] theorem s_gtr (k : IntKind) : Pr.sem Ω (.bin .gtr k) [a, b] = .bool (decide (a.nI > b.nI)) := rfl
@[simp] theorem s_geq (k : IntKind) : Pr.sem Ω (.bin .geq k) [a, b] = .bool (decide (a.nI ≥ b.nI)) := rfl
@[simp] theorem s_seql : Pr.sem Ω (.sbin .eql) [a, b] = .bool (a.sS.toList == b.sS.toList) := rfl
@[simp] theorem s_sneq : Pr.sem Ω (.sbin .neq) [a, b] = .bool (!(a.sS.toList == b.sS.toList)) := rfl
@[simp] theorem s_not : Pr.sem Ω .not [a] = .bool (!a.bB) := rfl
@[simp] theorem s_beq : Pr.sem Ω .beq [a, b] = .bool (a.bB == b.bB) := rfl
@[simp] theorem s_ite : Pr.sem Ω .ite [c, a, b] = if c.bB = true then a else b := by
  show (match c.bB with | true => a | false => b) = _
  cases c.bB <;> rfl
@[simp] theorem s_len : Pr.sem Ω .len [a] = .int .i64 a.lenN := rfl
@[simp] theorem s_cell (o : Nat) : Pr.sem Ω (.cell o) [a, b] = getJ (nth (getL (nth a.rowsL b.nI.toNat)) o) := rfl
@[simp] theorem s_proj (i : Nat) : Pr.sem Ω (.proj i) [a] = getJ (nth a.tupL i) := rfl
@[simp] theorem s_fld (i : Nat) : Pr.sem Ω (.fld i) [a] = getJ (nth a.aggL i) := rfl
@[simp] theorem s_call (f n : Nat) (xs : List AV) : Pr.sem Ω (.call f n) xs = Ω f n xs := rfl
@[simp] theorem s_okr (rs : List RS) : Pr.sem Ω (.okr rs) [a] = .bool (RS.okr rs a) := rfl
@[simp] theorem s_keq : Pr.sem Ω .keq [a, b] = .bool (match keyEq a b with | some c => c | none => false) := rfl
@[simp] theorem s_app (k : Nat) : Pr.sem Ω (.app k) [a, b] = (match b.rowsL with | [] => a | r :: rs => .sl k (a.rowsL ++ (r :: rs))) := rfl
end
section
variable (a b c : AV) (xs ys : List AV) (n : Int) (k : IntKind)
@[simp] theorem nI_int : AV.nI (.int k n) = n := rfl
@[simp] theorem bB_bool (b : Bool) : AV.bB (.bool b) = b := rfl
@[simp] theorem sS_str (s : ByteArray) : AV.sS (.str s) = s := rfl
@[simp] theorem tupL_tup : AV.tupL (.tuple xs) = xs := rfl
@[simp] theorem aggL_agg : AV.aggL (.agg xs) = xs := rfl
@[simp] theorem lenN_str (s : ByteArray) : AV.lenN (.str s) = s.size := rfl
@[simp] theorem lenN_sl (j : Nat) (r : List (List AV)) : AV.lenN (.sl j r) = r.length := rfl
@[simp] theorem lenN_nils : AV.lenN .nils = 0 := rfl
@[simp] theorem rowsL_sl (j : Nat) (r : List (List AV)) : AV.rowsL (.sl j r) = r := rfl
@[simp] theorem rowsL_nils : AV.rowsL .nils = [] := rfl
@[simp] theorem getJ_some : getJ (some a) = a := rfl
@[simp] theorem getL_some {α : Type} (l : List α) : getL (some l) = l := rfl
@[simp] theorem nth_nil {α : Type} (n : Nat) : nth ([] : List α) n = none := rfl
@[simp] theorem nth_zero {α : Type} (a : α) (l : List α) : nth (a :: l) 0 = some a := rfl
@[simp] theorem nth_succ {α : Type} (a : α) (l : List α) (n : Nat) : nth (a :: l) (n + 1) = nth l n := rfl
@[simp] theorem nth_lit {α : Type} (a : α) (l : List α) (n : Nat) : nth (a :: l) (OfNat.ofNat (n + 1)) = nth l n := rfl
end
section
variable (Ω : Om) (ρ : List AV)
@[simp] theorem d_v (n : Nat) : X.den Ω ρ (.v n) = getJ (nth ρ n) := rfl
@[simp] theorem d_b (b : Bool) : X.den Ω ρ (.b b) = .bool b := rfl
@[simp] theorem d_i (k : IntKind) (n : Int) : X.den Ω ρ (.i k n) = .int k n := rfl
@[simp] theorem d_s (s : ByteArray) : X.den Ω ρ (.s s) = .str s := rfl
@[simp] theorem d_nils : X.den Ω ρ .nils = .nils := rfl
@[simp] theorem d_sl (k : Nat) (r : List (List X)) : X.den Ω ρ (.sl k r) = .sl k (X.denss Ω ρ r) := rfl
@[simp] theorem d_agg (l : List X) : X.den Ω ρ (.agg l) = .agg (X.dens Ω ρ l) := rfl
@[simp] theorem d_p (o : Pr) (l : List X) : X.den Ω ρ (.p o l) = o.sem Ω (X.dens Ω ρ l) := rfl
@[simp] theorem ds_nil : X.dens Ω ρ [] = [] := rfl
@[simp] theorem ds_cons (e : X) (l : List X) : X.dens Ω ρ (e :: l) = X.den Ω ρ e :: X.dens Ω ρ l := rfl
@[simp] theorem dss_nil : X.denss Ω ρ [] = [] := rfl
@[simp] theorem dss_cons (e : List X) (l : List (List X)) : X.denss Ω ρ (e :: l) = X.dens Ω ρ e :: X.denss Ω ρ l := rfl
variable {α : Type} (V : X → AV)
@[simp] theorem bB_ite (p : Prop) [Decidable p] (a b : AV) : (if p then a else b).bB = if p then a.bB else b.bB := by split <;> rfl
@[simp] theorem nI_ite (p : Prop) [Decidable p] (a b : AV) : (if p then a else b).nI = if p then a.nI else b.nI := by split <;> rfl
attribute [simp] stepG valT
@[simp] theorem int_ite (p : Prop) [Decidable p] (k : IntKind) (a b : Int) : (if p then AV.int k a else AV.int k b) = AV.int k (if p then a else b) := by split <;> rfl
@[simp] theorem bool_ite (p : Prop) [Decidable p] (a b : Bool) : (if p then AV.bool a else AV.bool b) = AV.bool (if p then a else b) := by split <;> rfl
@[simp] theorem beqB (a b : ByteArray) : (a == b) = decide (a = b) := by
  rcases a with ⟨a⟩
  rcases b with ⟨b⟩
  show (a == b) = decide (ByteArray.mk a = ByteArray.mk b)
  rw [Bool.eq_iff_iff]
  simp
@[simp] theorem v_sym_bool (σ : Nat → Nat) (e : X) : AV.den V σ (.sym .bool e) = V e := rfl
@[simp] theorem v_sym_int (σ : Nat → Nat) (k : IntKind) (e : X) : AV.den V σ (.sym (.int k) e) = V e := rfl
@[simp] theorem v_sym_str (σ : Nat → Nat) (e : X) : AV.den V σ (.sym .str e) = V e := rfl
@[simp] theorem v_sym_sl (σ : Nat → Nat) (cs : List Sh) (e : X) : AV.den V σ (.sym (.sl cs) e) = V e := rfl
@[simp] theorem v_sym_im (σ : Nat → Nat) (k : Sh) (ag : Bool) (cs : List Sh) (e : X) : AV.den V σ (.sym (.im k ag cs) e) = V e := rfl
@[simp] theorem v_tuple (σ : Nat → Nat) (l : List AV) : AV.den V σ (.tuple l) = .tuple (AV.dens V σ l) := rfl
@[simp] theorem v_agg (σ : Nat → Nat) (l : List AV) : AV.den V σ (.agg l) = .agg (AV.dens V σ l) := rfl
@[simp] theorem vs_nil (σ : Nat → Nat) : AV.dens V σ [] = [] := rfl
@[simp] theorem vs_cons (σ : Nat → Nat) (a : AV) (l : List AV) : AV.dens V σ (a :: l) = AV.den V σ a :: AV.dens V σ l := rfl
@[simp] theorem om_nil (K : Nat) (cs : List Cal) : omL K cs [] = calO cs := rfl
@[simp] theorem om_cons (K : Nat) (cs : List Cal) (d : LoopD) (ds : List LoopD) (f n : Nat) (vs : List AV) : omL K cs (d :: ds) f n vs = if f = loopId ∧ n = d.L.id then getJ (loopG (omL K cs ds) d.B K vs) else omL K cs ds f n vs := rfl
@[simp] theorem okr_one (s : Sh) (a : AV) : RS.okr [.one s] a = s.ok a := rfl
@[simp] theorem okr_two (r s : RS) (l : List AV) : RS.okr [r, s] (.tuple l) = RS.oks [r, s] l := rfl
@[simp] theorem oks_cons (r : RS) (rs : List RS) (a : AV) (l : List AV) : RS.oks (r :: rs) (a :: l) = (r.ok a && RS.oks rs l) := rfl
@[simp] theorem oks_nil : RS.oks [] [] = true := rfl
@[simp] theorem rok_one (s : Sh) (a : AV) : (RS.one s).ok a = s.ok a := rfl
@[simp] theorem ok_bool (b : Bool) : Sh.bool.ok (.bool b) = true := rfl
@[simp] theorem ok_int (k : IntKind) (n : Int) : (Sh.int k).ok (.int k n) = true := by simp [Sh.ok]
@[simp] theorem ok_str (s : ByteArray) : Sh.str.ok (.str s) = true := rfl
@[simp] theorem soks_nil : Sh.oks [] [] = true := rfl
@[simp] theorem soks_cons (s : Sh) (ss : List Sh) (a : AV) (l : List AV) : Sh.oks (s :: ss) (a :: l) = (s.ok a && Sh.oks ss l) := rfl
@[simp] theorem ok_nils (cs : List Sh) : (Sh.sl cs).ok .nils = true := rfl
@[simp] theorem ok_sl (cs : List Sh) (k : Nat) (r : List (List AV)) : (Sh.sl cs).ok (.sl k r) = (k == cs.length && r.all (Sh.oks cs)) := rfl
end
theorem toList_inj' {a b : ByteArray} : a.toList = b.toList ↔ a = b := by
 constructor
 ·intro h
  simp only [ByteArray.toList_eq] at h
  rcases a with ⟨a⟩; rcases b with ⟨b⟩
  simp only at h
  rw [Array.toList_inj.1 h]
 ·rintro rfl; rfl
attribute [simp] loopId toList_inj'
@[reducible] def ia (n : Int) : AV := .int .i64 n
theorem IsL.row {α : Type} {k i : Nat} {f : α → List AV} {l : List α} {a : AV} (h : IsL k (l.map f) a) (hi : i < l.length) : nth a.rowsL (Int.toNat (i : Int)) = some (f l[i]) := by
 rw [h.rows, nth_eq, Int.toNat_natCast, List.getElem?_map, List.getElem?_eq_getElem hi]; rfl
theorem IsL.lenM {α : Type} {k : Nat} {f : α → List AV} {l : List α} {a : AV} (h : IsL k (l.map f) a) : a.lenN = l.length := by
 rw [h.len, List.length_map]
theorem isL_sl {k : Nat} {r : List (List AV)} : IsL k r (.sl k r) := .inl rfl
theorem isL_nils {k : Nat} : IsL k [] .nils := .inr ⟨rfl, rfl⟩
theorem isL_nils' {α : Type} {f : α → List AV} {k : Nat} : IsL k (([] : List α).map f) .nils := .inr ⟨rfl, rfl⟩
theorem KK_eq : KK = 2097152 := rfl
theorem wS {i : Nat} (h : i < 2097152) : IntKind.i64.wrap ((i : Int) + 1) = ((i + 1 : Nat) : Int) := by
 rw [i64w (by omega) (by omega)]; omega
theorem loop0 {Ω : Om} {B : Te LEnd} (st : Nat → List AV) (n : Nat) (res : Nat → Option AV) (fin : AV) (hn : n < 2097152)
  (hs : ∀ i, i < n → stepG Ω (st i) B = some (match res i with | some r => .inr r | none => .inl (st (i + 1))))
  (hf : stepG Ω (st n) B = some (.inr fin)) : loopG Ω B KK (st 0) = some (((List.range' 0 n).findSome? res).getD fin) :=
 loop_scan hs hf n 0 KK (by omega) (by rw [KK_eq]; omega)
def strR (s : ByteArray) : List AV := [.str s]
theorem loopL {α : Type} {Ω : Om} {B : Te LEnd} (st : Nat → List AV) (l : List α) (g : α → Option AV) (fin : AV) (hn : l.length < 2097152)
  (hs : ∀ i (hi : i < l.length), stepG Ω (st i) B = some (match g l[i] with | some r => .inr r | none => .inl (st (i + 1))))
  (hf : stepG Ω (st l.length) B = some (.inr fin)) : loopG Ω B KK (st 0) = some ((l.findSome? g).getD fin) := by
 rw [loop0 st l.length (fun i => if h : i < l.length then g l[i] else none) fin hn (fun i hi => by rw [hs i hi, dif_pos hi]) hf,
  range_find l g _ (fun i hi => by rw [dif_pos hi])]
theorem loopF {Ω : Om} {B : Te LEnd} (st : Nat → List AV) (n : Nat) (fin : AV) (hn : n < 2097152)
  (hs : ∀ i, i < n → stepG Ω (st i) B = some (.inl (st (i + 1)))) (hf : stepG Ω (st n) B = some (.inr fin)) : loopG Ω B KK (st 0) = some fin := by
 rw [loop0 st n (fun _ => none) fin hn (fun i hi => hs i hi) hf, List.findSome?_eq_none_iff.2 (fun _ _ => rfl)]
 rfl
def outB (v lo hi : Int) : Bool := decide (v < lo) || decide (v > hi)
def whenI (b : Bool) (n : Int) : Int := if b then n else 0
theorem p80 (b : Bool) (n : Int) : F80 [.bool b, ia n] = some (ia (whenI b n)) := by
 cases b <;> simp [F80, unitF_eq, t80, whenI]
theorem G12400 {Ω : Om} {a : AV} {ns : List ByteArray} (h : IsL 1 (ns.map strR) a) (hn : ns.length < 2097152) (s : ByteArray) :
  loopG Ω B12400 KK [a, .str s, ia ns.length, ia 0] = some (((List.range' 0 ns.length).findSome? fun i => if s = ns.getD i s then some (.tuple [ia 1, ia i]) else none).getD (.tuple [ia 2])) := by
 refine loop0 (fun i => [a, .str s, ia ns.length, ia i]) ns.length _ _ hn (fun i hi => ?_) ?_
 ·have hr : nth a.rowsL (Int.toNat (i : Int)) = some [.str ns[i]] := h.row hi
  have hw := wS (Nat.lt_trans hi hn)
  have hg : ns.getD i s = ns[i] := by simp [hi]
  simp only [hg]
  by_cases hc : s = ns[i] <;> simp_all [B12400, h.lenM]
 ·simp [B12400]
theorem p124 {a : AV} {ns : List ByteArray} (h : IsL 1 (ns.map strR) a) (hn : ns.length < 2097152) (s : ByteArray) :
  ∃ j : Int, F124 [a, .str s] = some (ia j) ∧ (0 ≤ j ↔ s ∈ ns) := by
 have hG := @G12400 (calO s124) _ _ h hn s
 cases hf : (List.range' 0 ns.length).findSome? fun i => if s = ns.getD i s then some (AV.tuple [ia 1, ia i]) else none with
 | none =>
   rw [hf] at hG
   refine ⟨-1, by simp_all [F124, unitF_eq, t124, h.lenM], ?_⟩
   simp only [List.findSome?_eq_none_iff, List.mem_range'_1] at hf
   refine ⟨fun h => by omega, fun hm => ?_⟩
   obtain ⟨i, hi, rfl⟩ := List.getElem_of_mem hm
   have := hf i (by omega)
   simp [hi] at this
 | some r =>
   rw [hf] at hG
   obtain ⟨i, hi, hr⟩ := List.exists_of_findSome?_eq_some hf
   split at hr
   ·rename_i he
    injection hr with hr; subst hr
    simp only [List.mem_range'_1] at hi
    have hl : i < ns.length := by omega
    refine ⟨i, by simp_all [F124, unitF_eq, t124, h.lenM], ?_⟩
    refine ⟨fun _ => ?_, fun _ => by omega⟩
    simp only [List.getD_eq_getElem?_getD, List.getElem?_eq_getElem hl, Option.getD_some] at he
    rw [he]; exact List.getElem_mem hl
   ·cases hr
def memB (s : ByteArray) (ns : List ByteArray) : Bool := ns.any fun x => decide (s = x)
theorem memB_iff {s : ByteArray} {ns : List ByteArray} : memB s ns = true ↔ s ∈ ns := by simp [memB]
theorem p95 {a : AV} {ns : List ByteArray} (h : IsL 1 (ns.map strR) a) (hn : ns.length < 2097152) (s : ByteArray) :
  F95 [a, .str s] = some (.bool (memB s ns)) := by
 obtain ⟨j, h1, h2⟩ := p124 h hn s
 simp [F95, unitF_eq, t95, h1]
 rw [Bool.eq_iff_iff]
 simp [h2, memB_iff]
def intR (n : Int) : List AV := [ia n]
def firstNz (l : List Int) : Int := (l.find? fun n => decide (n ≠ 0)).getD 0
theorem G7600 {Ω : Om} {a : AV} {ns : List Int} (h : IsL 1 (ns.map intR) a) (hn : ns.length < 2097152) :
  loopG Ω B7600 KK [a, ia ns.length, ia 0] = some ((ns.findSome? fun n => if n = 0 then none else some (.tuple [ia 1, ia n])).getD (.tuple [ia 2])) := by
 refine loopL (fun i => [a, ia ns.length, ia i]) ns _ _ hn (fun i hi => ?_) ?_
 ·have hr : nth a.rowsL (Int.toNat (i : Int)) = some [ia ns[i]] := h.row hi
  have hw := wS (Nat.lt_trans hi hn)
  by_cases hc : ns[i] = 0 <;> simp_all [B7600, h.lenM]
 ·simp [B7600]
theorem p76 {a : AV} {ns : List Int} (h : IsL 1 (ns.map intR) a) (hn : ns.length < 2097152) : F76 [a] = some (ia (firstNz ns)) := by
 have hG := @G7600 (calO s76) _ _ h hn
 have : (ns.findSome? fun n => if n = 0 then none else some (AV.tuple [ia 1, ia n])) = (ns.find? fun n => decide (n ≠ 0)).map fun n => AV.tuple [ia 1, ia n] := by
  clear h hn hG
  induction ns with
  | nil => rfl
  | cons n ns ih => by_cases hc : n = 0 <;> simp_all
 rw [this] at hG
 unfold firstNz
 cases hf : ns.find? fun n => decide (n ≠ 0) <;> rw [hf] at hG <;> simp_all [F76, unitF_eq, t76, h.lenM]
set_option maxRecDepth 20000
set_option maxHeartbeats 2000000
def letB (b : Nat) : Bool := (decide (97 ≤ b) && decide (b ≤ 122)) || (decide (65 ≤ b) && decide (b ≤ 90))
def goodB (i b : Nat) : Bool := letB b || (decide (i ≠ 0) && (decide (b = 95) || (decide (48 ≤ b) && decide (b ≤ 57))))
theorem goodB_lt {i b : Nat} (h : goodB i b = true) : b < 128 := by
 simp [goodB, letB] at h
 omega
theorem goodB_eq (i b : Nat) : goodB i b = decide (((97 ≤ b ∧ b ≤ 122) ∨ (65 ≤ b ∧ b ≤ 90)) ∨ (i ≠ 0 ∧ (b = 95 ∨ (48 ≤ b ∧ b ≤ 57)))) := by
 simp [goodB, letB, Bool.decide_or, Bool.decide_and]
theorem s_byte (Ω : Om) (s : ByteArray) (i : Nat) (hi : i < s.size) : Pr.sem Ω .byte [.str s, ia i] = .int .u8 (s[i].toNat : Int) := by
 show AV.int .u8 (match (AV.str s).sS[(ia i).nI.toNat]? with | some b => b.toNat | none => 0) = _
 simp [hi]
theorem s_rune (Ω : Om) (s : ByteArray) (i : Nat) : Pr.sem Ω .rune [.str s, ia i] = .int .i32 (Utf8.decode s i).1 := rfl
theorem s_adv (Ω : Om) (s : ByteArray) (i : Nat) : Pr.sem Ω .adv [.str s, ia i] = .int .i64 (i + (Utf8.decode s i).2) := rfl
theorem get_eq {s : ByteArray} {i : Nat} (hi : i < s.size) : s.get! i = s[i] := by
 rcases s with ⟨a⟩
 have hi' : i < a.size := hi
 show a[i]! = a[i]
 rw [getElem!_pos a i hi']
theorem dec_lo {s : ByteArray} {i : Nat} (hi : i < s.size) (h : s[i].toNat < 128) : Utf8.decode s i = (s[i].toNat, 1) := by
 rw [Lib.decode_at, get_eq hi]
 unfold Lib.decodeN
 rw [if_pos h]
theorem decN_hi (n b0 b1 b2 b3 : Nat) (h : ¬ b0 < 128) : 128 ≤ (Lib.decodeN n b0 b1 b2 b3).1 := by
 unfold Lib.decodeN
 rw [if_neg h]
 repeat' split
 all_goals first | (simp only; omega)
theorem dec_hi {s : ByteArray} {i : Nat} (hi : i < s.size) (h : ¬ s[i].toNat < 128) : 128 ≤ (Utf8.decode s i).1 := by
 rw [Lib.decode_at, get_eq hi]
 exact decN_hi _ _ _ _ _ h
def badO (s : ByteArray) (i : Nat) : Option AV := if goodB i (s[i]?.getD 0).toNat then none else some (.tuple [ia 1])
theorem G8900 {Ω : Om} {s : ByteArray} (hs : s.size < 2097152) :
  loopG Ω B8900 KK [.str s, ia 0] = some (((List.range' 0 s.size).findSome? (badO s)).getD (.tuple [ia 2])) := by
 refine loop0 (fun i => [.str s, ia i]) s.size _ _ hs (fun i hi => ?_) ?_
 ·have hw := wS (Nat.lt_trans hi hs)
  have hb : badO s i = if goodB i s[i].toNat then none else some (.tuple [ia 1]) := by simp [badO, hi]
  rw [hb]
  generalize hc : s[i].toNat = b
  have hsb := s_byte Ω s i hi
  rw [hc] at hsb
  have hw0 : IntKind.i64.wrap 1 = 1 := i64w (by omega) (by omega)
  by_cases h1 : (97 : Int) ≤ b <;> by_cases h2 : (b : Int) ≤ 122 <;> by_cases h3 : (65 : Int) ≤ b <;> by_cases h4 : (b : Int) ≤ 90 <;> by_cases h5 : (48 : Int) ≤ b <;> by_cases h6 : (b : Int) ≤ 57 <;> by_cases h7 : (b : Int) = 95 <;> by_cases h8 : i = 0 <;>
   first
    | (exfalso; omega)
    | (have hg : goodB i b = true := by rw [goodB_eq, decide_eq_true_eq]; omega
       simp [B8900, hsb, hi, hw, hg, h1, h2, h3, h4, h5, h6, h7, h8]
       done)
    | (have hg : goodB i b = true := by rw [goodB_eq, decide_eq_true_eq]; omega
       subst h8
       have hsb0 : Pr.sem Ω .byte [.str s, ia 0] = .int .u8 b := hsb
       simp [B8900, hsb0, hi, hw0, hg, h1, h2, h3, h4, h5, h6, h7]
       done)
    | (have hg : goodB i b = false := by rw [goodB_eq, decide_eq_false_iff_not]; omega
       simp [B8900, hsb, hi, hw, hg, h1, h2, h3, h4, h5, h6, h7, h8]
       done)
    | (have hg : goodB i b = false := by rw [goodB_eq, decide_eq_false_iff_not]; omega
       subst h8
       have hsb0 : Pr.sem Ω .byte [.str s, ia 0] = .int .u8 b := hsb
       simp [B8900, hsb0, hi, hw0, hg, h1, h2, h3, h4, h5, h6, h7]
       done)
 ·simp [B8900]
theorem G8800 {Ω : Om} {s v : ByteArray} (hs : s.size < 2097152) :
  loopG Ω B8800 KK [.str v, .str s, ia 0] = some (((List.range' 0 s.size).findSome? (badO s)).getD (.tuple [ia 2, .str v])) := by
 refine loop0 (fun i => [.str v, .str s, ia i]) s.size _ _ hs (fun i hi => ?_) ?_
 ·have hb : badO s i = if goodB i s[i].toNat then none else some (.tuple [ia 1]) := by simp [badO, hi]
  rw [hb]
  obtain ⟨r, k, hrk⟩ : ∃ r k, Utf8.decode s i = (r, k) := ⟨_, _, rfl⟩
  have hsr : Pr.sem Ω .rune [.str s, ia i] = .int .i32 (r : Int) := by rw [s_rune, hrk]
  have hsa : Pr.sem Ω .adv [.str s, ia i] = .int .i64 ((i : Int) + k) := by rw [s_adv, hrk]
  have hm : goodB i s[i].toNat = goodB i r := by
   by_cases hl : s[i].toNat < 128
   ·have := dec_lo hi hl
    rw [hrk] at this
    injection this with h1 h2
    rw [h1]
   ·have h1 := dec_hi hi hl
    rw [hrk] at h1
    have h2 : goodB i s[i].toNat = false := by
     cases h : goodB i s[i].toNat with
     | false => rfl
     | true => exact absurd (goodB_lt h) hl
    have h3 : goodB i r = false := by
     cases h : goodB i r with
     | false => rfl
     | true => have := goodB_lt h; simp only at h1; omega
    rw [h2, h3]
  have hk : goodB i r = true → k = 1 := by
   intro h
   rw [← hm] at h
   have := dec_lo hi (goodB_lt h)
   rw [hrk] at this
   injection this
  have hw0 : IntKind.i64.wrap 1 = 1 := i64w (by omega) (by omega)
  by_cases h1 : (97 : Int) ≤ r <;> by_cases h2 : (r : Int) ≤ 122 <;> by_cases h3 : (65 : Int) ≤ r <;> by_cases h4 : (r : Int) ≤ 90 <;> by_cases h5 : (r : Int) < 48 <;> by_cases h6 : (57 : Int) < r <;> by_cases h7 : (r : Int) = 95 <;> by_cases h8 : i = 0 <;>
   first
    | (exfalso; omega)
    | (have hg : goodB i r = true := by rw [goodB_eq, decide_eq_true_eq]; omega
       have hk1 := hk hg
       subst hk1
       rw [show ((1 : Nat) : Int) = 1 from rfl] at hsa
       simp [B8800, hsr, hsa, hi, hg, hm, h1, h2, h3, h4, h5, h6, h7, h8]
       done)
    | (have hg : goodB i r = true := by rw [goodB_eq, decide_eq_true_eq]; omega
       have hk1 := hk hg
       subst hk1
       subst h8
       have hsr0 : Pr.sem Ω .rune [.str s, ia 0] = .int .i32 r := hsr
       have hsa0 : Pr.sem Ω .adv [.str s, ia 0] = .int .i64 1 := hsa
       simp [B8800, hsr0, hsa0, hi, hg, hm, h1, h2, h3, h4, h5, h6, h7]
       done)
    | (have hg : goodB i r = false := by rw [goodB_eq, decide_eq_false_iff_not]; omega
       simp [B8800, hsr, hi, hg, hm, h1, h2, h3, h4, h5, h6, h7, h8]
       done)
    | (have hg : goodB i r = false := by rw [goodB_eq, decide_eq_false_iff_not]; omega
       subst h8
       have hsr0 : Pr.sem Ω .rune [.str s, ia 0] = .int .i32 r := hsr
       simp [B8800, hsr0, hi, hg, hm, h1, h2, h3, h4, h5, h6, h7]
       done)
 ·simp [B8800]
theorem size0 {s : ByteArray} : s = w0 ↔ s.size = 0 := by
 constructor
 ·rintro rfl; rfl
 ·intro h
  rcases s with ⟨a⟩
  have : a.size = 0 := h
  rw [w0, Array.size_eq_zero_iff.1 this]
def isName (s : ByteArray) : Bool := decide (1 ≤ s.size) && (decide (s.size ≤ 24) && ((List.range' 0 s.size).findSome? (badO s)).isNone)
theorem bad_cases (s : ByteArray) : ((List.range' 0 s.size).findSome? (badO s) = none) ∨ ((List.range' 0 s.size).findSome? (badO s) = some (.tuple [ia 1])) := by
 cases h : (List.range' 0 s.size).findSome? (badO s) with
 | none => exact .inl rfl
 | some r =>
   right
   obtain ⟨i, _, hr⟩ := List.exists_of_findSome?_eq_some h
   unfold badO at hr
   split at hr
   ·cases hr
   ·injection hr with hr; rw [← hr]
theorem p89 {s : ByteArray} (hs : s.size < 2097152) : F89 [.str s] = some (.bool (isName s)) := by
 have hG := @G8900 (calO s89) s hs
 by_cases h1 : (s.size : Int) < 1 <;> by_cases h2 : (24 : Int) < s.size <;> rcases bad_cases s with h | h <;> rw [h] at hG <;>
  first
   | (exfalso; omega)
   | (have h3 : 1 ≤ s.size := by omega
      have h4 : s.size ≤ 24 := by omega
      simp [F89, unitF_eq, t89, h1, h2, hG, isName, h, h3, h4]
      done)
   | (have h3 : ¬ 1 ≤ s.size := by omega
      simp [F89, unitF_eq, t89, h1, h2, isName, h3]
      done)
   | (have h3 : ¬ s.size ≤ 24 := by omega
      simp [F89, unitF_eq, t89, h1, h2, isName, h3]
      done)
theorem p88 {s : ByteArray} (hs : s.size < 2097152) : F88 [.str s] = some (.bool (isName s)) := by
 have hG := @G8800 (calO s88) s s hs
 by_cases h1 : s.size = 0 <;> by_cases h2 : (s.size : Int) ≤ 24 <;> rcases bad_cases s with h | h <;> rw [h] at hG <;>
  first
   | (exfalso; omega)
   | (have h3 : 1 ≤ s.size := by omega
      have h4 : s.size ≤ 24 := by omega
      simp [F88, unitF_eq, t88, h1, h2, hG, isName, h, h3, h4, size0]
      done)
   | (have h3 : ¬ 1 ≤ s.size := by omega
      simp [F88, unitF_eq, t88, h1, h2, hG, isName, h3, size0]
      done)
   | (have h3 : ¬ s.size ≤ 24 := by omega
      simp [F88, unitF_eq, t88, h1, h2, hG, isName, h3, size0]
      done)
set_option maxHeartbeats 4000000
theorem fz5 (a b c d e : Int) : F76 [.sl 1 [[ia a], [ia b], [ia c], [ia d], [ia e]]] = some (ia (firstNz [a, b, c, d, e])) :=
 p76 (ns := [a, b, c, d, e]) (.inl rfl) (by simp)
theorem fz3' (a b c : Int) : F76 [.sl 1 [[ia a], [ia b], [ia c]]] = some (ia (firstNz [a, b, c])) :=
 p76 (ns := [a, b, c]) (.inl rfl) (by simp)
theorem take_snoc {α : Type} {l : List α} {i : Nat} (hi : i < l.length) : l.take (i + 1) = l.take i ++ [l[i]] := by
 rw [List.take_succ_eq_append_getElem hi]
theorem tf_or (p : Prop) [Decidable p] : p = True ∨ p = False := by
 by_cases h : p
 ·exact .inl (eq_true h)
 ·exact .inr (eq_false h)
theorem any_find {α : Type} (p : α → Bool) (l : List α) : (l.findSome? fun e => if p e then some (AV.tuple [ia 1]) else none) = if l.any p then some (.tuple [ia 1]) else none := by
 induction l with
 | nil => rfl
 | cons e l ih =>
   rw [List.findSome?_cons, List.any_cons]
   cases h : p e
   ·simpa using ih
   ·rfl
def stsL : List ByteArray := [w0, w1, w2, w3]
def gradeI (s : ByteArray) : Int := if s = w0 then 0 else if s = w1 then 1 else if s = w2 then 2 else if s = w3 then 3 else -1
abbrev stA : AV := .sl 1 [[.str w0], [.str w1], [.str w2], [.str w3]]
theorem p125 : F125 [] = some stA := by simp [F125, unitF_eq, t125]; rfl
theorem p100 (s : ByteArray) : F100 [.str s] = some (ia (gradeI s)) := by
 simp [F100, unitF_eq, t100, gradeI]
theorem p124g (s : ByteArray) : F124 [stA, .str s] = some (ia (gradeI s)) := by
 have hG := @G12400 (calO s124) stA stsL (.inl rfl) (by decide) s
 have e : List.range' 0 stsL.length = [0, 1, 2, 3] := rfl
 rw [e] at hG
 have hl : (stsL.length : Int) = 4 := rfl
 rw [hl] at hG
 unfold gradeI
 rcases tf_or (s = w0) with h0 | h0 <;> rcases tf_or (s = w1) with h1 | h1 <;> rcases tf_or (s = w2) with h2 | h2 <;> rcases tf_or (s = w3) with h3 | h3 <;>
  simp [stsL, h0, h1, h2, h3] at hG <;> simp [F124, unitF_eq, t124, hG, h0, h1, h2, h3]
theorem p95g (s : ByteArray) : F95 [stA, .str s] = some (.bool (decide (gradeI s ≥ 0))) := by
 simp [F95, unitF_eq, t95, p124g]
def cmpI (a b : Int) : Int := if a < b then -1 else if a > b then 1 else 0
theorem p84 (a b : Int) : F84 [ia a, ia b] = some (ia (cmpI a b)) := by
 by_cases h : a < b <;> simp [F84, unitF_eq, t84, cmpI, h]
theorem p156 (a : Int) : F156 [ia a] = some (.bool false) := by
 simp [F156, unitF_eq, t156]
theorem p123 (a b : Int) : F123 [ia a, ia b] = some (ia (cmpI a b)) := by
 by_cases h : a < b <;> simp [F123, unitF_eq, t123, p156, cmpI, h]
def outM (n : Int) : Bool := decide (n < -999999999) || decide (n > 999999999)
theorem p128 (n : Int) : F128 [ia n] = some (.bool (outM n)) := by
 by_cases h : n < -999999999 <;> simp [F128, unitF_eq, t128, outM, h]
def farV (rs : List Int) : Bool := rs.any outM
theorem G13300 {a : AV} {rs : List Int} (h : IsL 1 (rs.map intR) a) (hn : rs.length < 1048577) :
  ∃ r, loopG (calO s133) B13300 KK [a, ia rs.length, ia 0] = some r ∧ ((farV rs = true ∧ ∃ i : Nat, r = .tuple [ia 1, ia i]) ∨ (farV rs = false ∧ r = .tuple [ia 2])) := by
 have hG := loop0 (Ω := calO s133) (B := B13300) (fun i => [a, ia rs.length, ia i]) rs.length (fun i => if outM (rs.getD i 0) then some (.tuple [ia 1, ia i]) else none) (.tuple [ia 2]) (by omega) (fun i hi => by
  have hr : nth a.rowsL (Int.toNat (i : Int)) = some [ia rs[i]] := h.row hi
  have hw := wS (i := i) (by omega)
  have hg : rs.getD i 0 = rs[i] := by simp [hi]
  have hp := p128 rs[i]
  simp only [Int.toNat_natCast] at hr
  push_cast at hw
  rw [hg]
  cases hc : outM rs[i] <;> rw [hc] at hp <;> simp [B13300, h.lenM, hr, hi, hw, hp]) (by simp [B13300])
 refine ⟨_, hG, ?_⟩
 cases hb : farV rs
 ·right
  refine ⟨rfl, ?_⟩
  rw [List.findSome?_eq_none_iff.2 (fun i hi => ?_)]
  ·rfl
  ·have hl : i < rs.length := by simp only [List.mem_range'_1] at hi; omega
   have : outM rs[i] = false := by
    have := List.any_eq_false.1 hb rs[i] (List.getElem_mem hl)
    simpa using this
   simp [hl, this]
 ·left
  refine ⟨rfl, ?_⟩
  cases hf : (List.range' 0 rs.length).findSome? fun i => if outM (rs.getD i 0) then some (AV.tuple [ia 1, ia i]) else none with
  | none =>
    exfalso
    obtain ⟨x, hx, hy⟩ := List.any_eq_true.1 hb
    obtain ⟨i, hi, rfl⟩ := List.getElem_of_mem hx
    have := List.findSome?_eq_none_iff.1 hf i (by simp only [List.mem_range'_1]; omega)
    simp [hi, hy] at this
  | some r =>
    obtain ⟨i, hi, hr⟩ := List.exists_of_findSome?_eq_some hf
    refine ⟨i, ?_⟩
    split at hr
    ·injection hr with hr; rw [← hr]; rfl
    ·cases hr
theorem p96 {a : AV} {rs : List Int} (h : IsL 1 (rs.map intR) a) (hn : rs.length < 1048577) : F96 [a] = some (.bool (farV rs)) := by
 obtain ⟨r, hG, hr⟩ := G13300 h hn
 have h1 : ∃ j : Int, F133 [a] = some (ia j) ∧ (decide (j ≥ 0) = farV rs) := by
  rcases hr with ⟨h1, i, rfl⟩ | ⟨h1, rfl⟩
  ·exact ⟨i, by simp [F133, unitF_eq, t133, h.lenM, hG], by simp [h1]⟩
  ·exact ⟨-1, by simp [F133, unitF_eq, t133, h.lenM, hG], by simp [h1]⟩
 obtain ⟨j, h1, h2⟩ := h1
 simp [F96, unitF_eq, t96, h1, ← h2]
structure Rs where
 nm : ByteArray
 st : ByteArray
 va : AV
 xs : List Int
def Rs.row (r : Rs) : List AV := [.str r.nm, .str r.st, r.va]
structure RsOk (r : Rs) : Prop where
 l : IsL 1 (r.xs.map intR) r.va
 n : r.xs.length < 1048577
 z : r.nm.size < 1048577
def ckRes (r : Rs) : Int := if !isName r.nm then 8 else if gradeI r.st < 0 then 13 else if r.st ≠ w0 ∧ r.xs.length > 0 then 1 else if r.xs.length > 8 then 5 else if farV r.xs then 3 else 0
theorem fz_cons (a : Int) (l : List Int) : firstNz (a :: l) = if a = 0 then firstNz l else a := by
 unfold firstNz
 by_cases h : a = 0 <;> simp [h]
theorem fz_nil : firstNz [] = 0 := rfl
theorem p79 {r : Rs} (h : RsOk r) : F79 r.row = some (ia (ckRes r)) := by
 have h1 := p88 (s := r.nm) (by have := h.z; omega)
 have h2 := p96 h.l h.n
 have h3 : r.va.lenN = r.xs.length := h.l.lenM
 unfold ckRes
 generalize r.xs.length = m at *
 generalize farV r.xs = fv at *
 have q1 : ((8 : Int) < m) = (8 < m) := propext (by omega)
 have q4 : ((m : Int) ≤ 8) = ¬ (8 < m) := propext (by omega)
 have q2 : ((0 : Int) < m) = (0 < m) := by simp
 have q3 : (0 ≤ gradeI r.st) = ¬ gradeI r.st < 0 := by simp
 rcases tf_or (8 < m) with e5 | e5 <;> rcases tf_or (0 < m) with e4 | e4 <;> cases e1 : isName r.nm <;> rcases tf_or (r.st = w0) with e2 | e2 <;> rcases tf_or (gradeI r.st < 0) with e3 | e3 <;> cases fv <;>
  simp [F79, unitF_eq, t79, Rs.row, h1, h2, h3, p125, p95g, p80, fz5, whenI, fz_cons, fz_nil, e1, e2, e3, e4, e5, q1, q3, q4]
theorem G4900 {Ω : Om} {nm st a : AV} {rs : List Int} (h : IsL 1 (rs.map intR) a) (hn : rs.length < 1048577) :
  loopG Ω B4900 KK [ia 0, nm, st, a] = some (if farV rs then .tuple [ia 1] else .tuple [ia 2]) := by
 have := loopL (Ω := Ω) (B := B4900) (fun i => [ia i, nm, st, a]) rs (fun n => if outM n = true then some (.tuple [ia 1]) else none) (.tuple [ia 2]) (by omega) (fun i hi => by
  have hr : nth a.rowsL (Int.toNat (i : Int)) = some [ia rs[i]] := h.row hi
  have hw := wS (i := i) (by omega)
  generalize rs[i] = n at *
  simp only [Int.toNat_natCast] at hr
  push_cast at hw
  unfold outM
  rcases tf_or (n < -999999999) with e | e <;> rcases tf_or (n > 999999999) with e' | e' <;> simp [B4900, h.lenM, hr, hi, hw, e, e']) (by simp [B4900, h.lenM])
 refine Eq.trans this ?_
 rw [any_find]
 unfold farV
 split <;> rfl
theorem p49 {r : Rs} (h : RsOk r) : F49 r.row = some (ia (ckRes r)) := by
 have h1 := p89 (s := r.nm) (by have := h.z; omega)
 have hG := G4900 (Ω := calO s49) (nm := .str r.nm) (st := .str r.st) h.l h.n
 have h3 : r.va.lenN = r.xs.length := h.l.lenM
 unfold ckRes
 generalize r.xs.length = m at *
 generalize farV r.xs = fv at *
 have q1 : ((8 : Int) < m) = (8 < m) := propext (by omega)
 have q2 : ((0 : Int) < m) = (0 < m) := propext (by omega)
 rcases tf_or (8 < m) with e5 | e5 <;> rcases tf_or (0 < m) with e4 | e4 <;> cases e1 : isName r.nm <;> rcases tf_or (r.st = w0) with e2 | e2 <;> rcases tf_or (gradeI r.st < 0) with e3 | e3 <;> cases fv <;>
  simp at hG <;> simp [F49, unitF_eq, t49, Rs.row, h1, h3, p100, hG, e1, e2, e3, e4, e5, q1, q2]
def cmpL : List Int → List Int → Int
 | x :: xs, y :: ys => if x = y then cmpL xs ys else cmpI x y
 | _, _ => 0
theorem cmpI_ne {x y : Int} (h : x ≠ y) : cmpI x y ≠ 0 := by
 unfold cmpI; split
 ·omega
 ·split <;> omega
theorem cmp_find : ∀ {xs ys : List Int}, xs.length = ys.length → ((List.range' 0 xs.length).findSome? fun i => if xs.getD i 0 = ys.getD i 0 then none else some (AV.tuple [ia 1, ia (cmpI (xs.getD i 0) (ys.getD i 0))])) = if cmpL xs ys = 0 then none else some (.tuple [ia 1, ia (cmpL xs ys)])
 | [], [], _ => rfl
 | x :: xs, y :: ys, h => by
   have ih := cmp_find (xs := xs) (ys := ys) (by simpa using h)
   rw [List.length_cons, List.range'_succ, List.findSome?_cons]
   by_cases e : x = y
   ·subst e
    simp only [List.getD_cons_zero, if_true, cmpL]
    rw [← ih]
    have : ∀ (f : Nat → Option AV) (n k : Nat), (List.range' (k + 1) n).findSome? f = (List.range' k n).findSome? fun i => f (i + 1) := by
     intro f n
     induction n with
     | zero => intro k; rfl
     | succ n ih => intro k; rw [List.range'_succ, List.range'_succ, List.findSome?_cons, List.findSome?_cons, ih (k + 1)]
    rw [show (0 + 1 : Nat) = 0 + 1 from rfl, this]
    rfl
   ·have e1 := cmpI_ne e
    simp [cmpL, e, e1]
theorem G10300 {a b : AV} {xs ys : List Int} (h : IsL 1 (xs.map intR) a) (h' : IsL 1 (ys.map intR) b) (hl : xs.length = ys.length) (hn : xs.length < 1048577) :
  loopG (calO s103) B10300 KK [a, b, ia xs.length, ia 0] = some (if cmpL xs ys = 0 then .tuple [ia 2, a, b] else .tuple [ia 1, ia (cmpL xs ys)]) := by
 have hG := loop0 (Ω := calO s103) (B := B10300) (fun i => [a, b, ia xs.length, ia i]) xs.length (fun i => if xs.getD i 0 = ys.getD i 0 then none else some (.tuple [ia 1, ia (cmpI (xs.getD i 0) (ys.getD i 0))])) (.tuple [ia 2, a, b]) (by omega) (fun i hi => by
  have hi' : i < ys.length := by omega
  have hr : nth a.rowsL (Int.toNat (i : Int)) = some [ia xs[i]] := h.row hi
  have hr' : nth b.rowsL (Int.toNat (i : Int)) = some [ia ys[i]] := h'.row hi'
  have hw := wS (i := i) (by omega)
  have hg : xs.getD i 0 = xs[i] := by simp [hi]
  have hg' : ys.getD i 0 = ys[i] := by simp [hi']
  rw [hg, hg']
  have hb : b.lenN = xs.length := by rw [h'.lenM, hl]
  generalize xs[i] = x at *
  generalize ys[i] = y at *
  have c := p123 x y
  have hi2 : ¬ xs.length ≤ i := by omega
  simp only [Int.toNat_natCast] at hr hr'
  push_cast at hw
  by_cases e : x = y
  ·subst e
   have e0 : cmpI x x = 0 := by simp [cmpI]
   simp [B10300, h.lenM, hb, hr, hr', hi, hi2, hw, c, e0]
  ·have e1 := cmpI_ne e
   simp [B10300, h.lenM, hb, hr, hr', hi, hi2, hw, c, e, e1]) (by simp [B10300])
 rw [cmp_find hl] at hG
 refine Eq.trans hG ?_
 split <;> rfl
theorem p103 {a b : AV} {xs ys : List Int} (h : IsL 1 (xs.map intR) a) (h' : IsL 1 (ys.map intR) b) (hl : xs.length = ys.length) (hn : xs.length < 1048577) : F103 [a, b] = some (ia (cmpL xs ys)) := by
 have hG := G10300 h h' hl hn
 have h1 : a.lenN = xs.length := h.lenM
 have h2 : b.lenN = xs.length := by rw [h'.lenM, hl]
 by_cases e : cmpL xs ys = 0 <;> simp [e] at hG <;> simp [F103, unitF_eq, t103, h1, h2, hG, e]
theorem G5000 {v1 v2 v4 v5 a b : AV} {xs ys : List Int} (h : IsL 1 (xs.map intR) a) (h' : IsL 1 (ys.map intR) b) (hl : xs.length = ys.length) (hn : xs.length < 1048577) :
  loopG (calO s50) B5000 KK [ia 0, v1, v2, a, v4, v5, b] = some (if cmpL xs ys = 0 then .tuple [ia 2] else .tuple [ia 1, ia (cmpL xs ys)]) := by
 have hG := loop0 (Ω := calO s50) (B := B5000) (fun i => [ia i, v1, v2, a, v4, v5, b]) xs.length (fun i => if xs.getD i 0 = ys.getD i 0 then none else some (.tuple [ia 1, ia (cmpI (xs.getD i 0) (ys.getD i 0))])) (.tuple [ia 2]) (by omega) (fun i hi => by
  have hi' : i < ys.length := by omega
  have hr : nth a.rowsL (Int.toNat (i : Int)) = some [ia xs[i]] := h.row hi
  have hr' : nth b.rowsL (Int.toNat (i : Int)) = some [ia ys[i]] := h'.row hi'
  have hw := wS (i := i) (by omega)
  have hg : xs.getD i 0 = xs[i] := by simp [hi]
  have hg' : ys.getD i 0 = ys[i] := by simp [hi']
  rw [hg, hg']
  have hb : b.lenN = xs.length := by rw [h'.lenM, hl]
  generalize xs[i] = x at *
  generalize ys[i] = y at *
  have c := p84 x y
  simp only [Int.toNat_natCast] at hr hr'
  push_cast at hw
  by_cases e : x = y
  ·subst e
   simp [B5000, h.lenM, hb, hr, hr', hi, hw]
  ·have e' : ¬ y = x := fun q => e q.symm
   simp [B5000, h.lenM, hb, hr, hr', hi, hw, c, e, e']) (by
  have hb : b.lenN = xs.length := by rw [h'.lenM, hl]
  simp [B5000, hb])
 rw [cmp_find hl] at hG
 refine Eq.trans hG ?_
 split <;> rfl
def cmpR (a b : Rs) : Int := if cmpI (gradeI a.st) (gradeI b.st) ≠ 0 then cmpI (gradeI a.st) (gradeI b.st) else cmpL b.xs a.xs
theorem grade_inj {s t : ByteArray} (h0 : ¬ gradeI s < 0) (h : gradeI s = gradeI t) : s = t := by
 unfold gradeI at *
 split at h
 ·rename_i e; split at h
  ·rename_i e'; rw [e, e']
  ·split at h
   ·omega
   ·split at h
    ·omega
    ·split at h <;> omega
 ·split at h
  ·rename_i e; split at h
   ·omega
   ·split at h
    ·rename_i e'; rw [e, e']
    ·split at h
     ·omega
     ·split at h <;> omega
  ·split at h
   ·rename_i e; split at h
    ·omega
    ·split at h
     ·omega
     ·split at h
      ·rename_i e'; rw [e, e']
      ·split at h <;> omega
   ·split at h
    ·rename_i e; split at h
     ·omega
     ·split at h
      ·omega
      ·split at h
       ·omega
       ·split at h
        ·rename_i e'; rw [e, e']
        ·omega
    ·rename_i n0 n1 n2 n3
     rw [if_neg n0, if_neg n1, if_neg n2, if_neg n3] at h0
     omega
theorem grade0 {s : ByteArray} : gradeI s = 0 ↔ s = w0 := by
 unfold gradeI
 split
 ·rename_i e; simp [e]
 ·rename_i e
  simp only [e, iff_false]
  split
  ·omega
  ·split
   ·omega
   ·split <;> omega
theorem ck0 {r : Rs} (h : ckRes r = 0) : ¬ gradeI r.st < 0 ∧ (r.st ≠ w0 → r.xs = []) := by
 unfold ckRes at h
 split at h
 ·cases h
 ·split at h
  ·cases h
  ·rename_i h1
   split at h
   ·cases h
   ·rename_i h2
    refine ⟨h1, fun h3 => ?_⟩
    have : ¬ 0 < r.xs.length := fun h4 => h2 ⟨h3, h4⟩
    exact List.length_eq_zero_iff.1 (by omega)
theorem len_eq {a b : Rs} (ha : ckRes a = 0) (hb : ckRes b = 0) (hu : ¬ (a.st = w0 ∧ b.st = w0 ∧ a.xs.length ≠ b.xs.length)) (hg : gradeI a.st = gradeI b.st) : b.xs.length = a.xs.length := by
 obtain ⟨a1, a2⟩ := ck0 ha
 obtain ⟨b1, b2⟩ := ck0 hb
 have he := grade_inj a1 hg
 by_cases e : a.st = w0
 ·have e' : b.st = w0 := by rw [← he, e]
  exact Decidable.not_not.1 fun h => hu ⟨e, e', fun q => h q.symm⟩
 ·rw [a2 e, b2 (fun q => e (by rw [he, q]))]
theorem cmpI_0 {x y : Int} : cmpI x y = 0 ↔ x = y := by
 constructor
 ·intro h
  exact Decidable.not_not.1 fun q => cmpI_ne q h
 ·rintro rfl; simp [cmpI]
theorem p75 {a b : Rs} (ha : RsOk a) (hb : RsOk b) (hl : gradeI a.st = gradeI b.st → b.xs.length = a.xs.length) : F75 (a.row ++ b.row) = some (ia (cmpR a b)) := by
 have c := p123 (gradeI a.st) (gradeI b.st)
 unfold cmpR
 by_cases e : cmpI (gradeI a.st) (gradeI b.st) = 0
 ·have d := p103 hb.l ha.l (hl (cmpI_0.1 e)) hb.n
  simp [F75, unitF_eq, t75, Rs.row, p125, p124g, c, d, e]
 ·simp [F75, unitF_eq, t75, Rs.row, p125, p124g, c, e]
theorem p50 {a b : Rs} (ha : RsOk a) (hb : RsOk b) (va : ckRes a = 0) (vb : ckRes b = 0) (hl : gradeI a.st = gradeI b.st → b.xs.length = a.xs.length) : F50 (a.row ++ b.row) = some (ia (cmpR a b)) := by
 have c := p84 (gradeI a.st) (gradeI b.st)
 obtain ⟨a1, a2⟩ := ck0 va
 obtain ⟨b1, b2⟩ := ck0 vb
 unfold cmpR
 rcases tf_or (a.st = w0) with e1 | e1 <;> rcases tf_or (b.st = w0) with e2 | e2
 ·have g1 : gradeI a.st = 0 := grade0.2 (of_eq_true e1)
  have g2 : gradeI b.st = 0 := grade0.2 (of_eq_true e2)
  have hl' := hl (by rw [g1, g2])
  have hG := G5000 (v1 := .str b.nm) (v2 := .str b.st) (v4 := .str a.nm) (v5 := .str a.st) hb.l ha.l hl' hb.n
  rw [g1, g2]
  have e0 : cmpI 0 0 = 0 := rfl
  by_cases e : cmpL b.xs a.xs = 0 <;> simp [e] at hG <;> simp [F50, unitF_eq, t50, Rs.row, hG, e, e0, e1, e2]
 ·have g1 : gradeI a.st = 0 := grade0.2 (of_eq_true e1)
  have g2 : ¬ gradeI a.st = gradeI b.st := fun q => (of_eq_false e2) (by rw [← grade_inj a1 q]; exact of_eq_true e1)
  have g3 := cmpI_ne g2
  simp [F50, unitF_eq, t50, Rs.row, p100, c, g3, e1, e2]
 ·have g2 : ¬ gradeI a.st = gradeI b.st := fun q => (of_eq_false e1) (by rw [grade_inj a1 q]; exact of_eq_true e2)
  have g3 := cmpI_ne g2
  simp [F50, unitF_eq, t50, Rs.row, p100, c, g3, e1, e2]
 ·have x1 := a2 (of_eq_false e1)
  have x2 := b2 (of_eq_false e2)
  have e0 : cmpL b.xs a.xs = 0 := by rw [x1, x2]; rfl
  by_cases e : cmpI (gradeI a.st) (gradeI b.st) = 0 <;> simp [F50, unitF_eq, t50, Rs.row, p100, c, e, e0, e1, e2]
def unB (a b : Rs) : Bool := decide (a.st = w0) && (decide (b.st = w0) && !decide (a.xs.length = b.xs.length))
theorem len_ne (m n : Nat) : ((m : Int) != (n : Int)) = !decide (m = n) := by
 by_cases h : m = n
 ·simp [h]
 ·have : ¬ (m : Int) = n := by omega
  simp [h, this]
theorem p48 {a b : Rs} (ha : RsOk a) (hb : RsOk b) : F48 (a.row ++ b.row) = some (.tuple [ia (if firstNz [ckRes a, ckRes b, whenI (unB a b) 2] = 0 then cmpR a b else 0), ia (firstNz [ckRes a, ckRes b, whenI (unB a b) 2])]) := by
 have h1 := p79 ha
 have h2 := p79 hb
 have la : a.va.lenN = a.xs.length := ha.l.lenM
 have lb : b.va.lenN = b.xs.length := hb.l.lenM
 have hu : ∀ c : Bool, whenI c 2 = 0 → c = false := fun c h => by cases c <;> simp [whenI] at h ⊢
 have h3 : firstNz [ckRes a, ckRes b, whenI (unB a b) 2] = 0 → F75 (a.row ++ b.row) = some (ia (cmpR a b)) := fun h => by
  rw [fz_cons] at h
  split at h
  ·rename_i v1
   rw [fz_cons] at h
   split at h
   ·rename_i v2
    rw [fz_cons] at h
    split at h
    ·rename_i v3
     refine p75 ha hb (len_eq v1 v2 fun q => ?_)
     have := hu _ v3
     simp [unB, q.1, q.2.1, q.2.2] at this
    ·rename_i v3; exact absurd h v3
   ·rename_i v2; exact absurd h v2
  ·rename_i v1; exact absurd h v1
 have hq : firstNz [ckRes a, ckRes b, whenI (unB a b) 2] = firstNz [ckRes a, ckRes b, whenI (decide (a.st = w0) && (decide (b.st = w0) && !decide (a.xs.length = b.xs.length))) 2] := rfl
 simp only [Rs.row, List.cons_append, List.nil_append] at h1 h2 h3 ⊢
 by_cases e : firstNz [ckRes a, ckRes b, whenI (unB a b) 2] = 0
 ·have h3' := h3 e
  have e' := e
  unfold unB at e'
  rcases tf_or (a.st = w0) with e1 | e1 <;> rcases tf_or (b.st = w0) with e2 | e2 <;> rcases tf_or (a.xs.length = b.xs.length) with e3 | e3 <;> simp [e1, e2, e3] at e' <;>
   simp [F48, unitF_eq, t48, h1, h2, h3', la, lb, len_ne, p80, fz3', unB, e1, e2, e3, e']
 ·have e' := e
  unfold unB at e'
  rcases tf_or (a.st = w0) with e1 | e1 <;> rcases tf_or (b.st = w0) with e2 | e2 <;> rcases tf_or (a.xs.length = b.xs.length) with e3 | e3 <;> simp [e1, e2, e3] at e' <;>
   simp [F48, unitF_eq, t48, h1, h2, la, lb, len_ne, p80, fz3', unB, e1, e2, e3, e']
theorem p15 (a b : Rs) (n : Int) : ∃ c, F15 [.sl 3 [a.row, b.row], ia n] = some (.bool c) := by
 have hG : ∃ c : Bool, loopG (calO s15) B1500 KK [.sl 3 [a.row, b.row], ia 0] = some (if c then .tuple [ia 1] else .tuple [ia 2]) := by
  have := loopL (Ω := calO s15) (B := B1500) (fun i => [.sl 3 [a.row, b.row], ia i]) [a, b] (fun r => if (decide (40 < r.nm.size) || (decide (40 < r.st.size) || decide (10 < r.va.lenN))) = true then some (.tuple [ia 1]) else none) (.tuple [ia 2]) (by simp) (fun i hi => by
   have hi' : i = 0 ∨ i = 1 := by simp at hi; omega
   have z : ∀ (m k : Nat), decide ((m : Int) < k) = decide (m < k) := fun m k => by
    by_cases h : m < k
    ·rw [decide_eq_true h, decide_eq_true (by omega)]
    ·rw [decide_eq_false h, decide_eq_false (by omega)]
   have z1 := z 40
   have z2 := z 10
   have y1 : IntKind.i64.wrap 1 = 1 := i64w (by omega) (by omega)
   have y2 : IntKind.i64.wrap 2 = 2 := i64w (by omega) (by omega)
   rcases hi' with rfl | rfl
   ·rcases tf_or (40 < a.nm.size) with e1 | e1 <;> rcases tf_or (40 < a.st.size) with e2 | e2 <;> rcases tf_or (10 < a.va.lenN) with e3 | e3 <;>
     simp at z1 z2 <;> simp [B1500, Rs.row, y1, z1, z2, e1, e2, e3]
   ·rcases tf_or (40 < b.nm.size) with e1 | e1 <;> rcases tf_or (40 < b.st.size) with e2 | e2 <;> rcases tf_or (10 < b.va.lenN) with e3 | e3 <;>
     simp at z1 z2 <;> simp [B1500, Rs.row, y2, z1, z2, e1, e2, e3]) (by simp [B1500])
  rw [any_find] at this
  refine ⟨[a, b].any fun r => decide (40 < r.nm.size) || (decide (40 < r.st.size) || decide (10 < r.va.lenN)), Eq.trans this ?_⟩
  split <;> rfl
 obtain ⟨c, hG⟩ := hG
 by_cases h : (n < 2) <;> cases c <;> simp at hG <;> simp [F15, unitF_eq, t15, hG, h]
theorem law8 {a b : Rs} (ha : RsOk a) (hb : RsOk b) (oa : (Sh.sl [.int .i64]).ok a.va = true) (ob : (Sh.sl [.int .i64]).ok b.va = true) : F8 (a.row ++ b.row) = some (.bool true) := by
 obtain ⟨c, f15⟩ := p15 a b 2
 have f16 : F16 [] = some (.bool true) := rfl
 have o16 : calO s8 16 0 [] = .bool true := by rw [o8_16, f16]; rfl
 have f48 := p48 ha hb
 have f49a := p49 ha
 have f49b := p49 hb
 have la : a.va.lenN = a.xs.length := ha.l.lenM
 have lb : b.va.lenN = b.xs.length := hb.l.lenM
 have f50 : ckRes a = 0 → ckRes b = 0 → unB a b = false → F50 (a.row ++ b.row) = some (ia (cmpR a b)) := fun v1 v2 v3 => p50 ha hb v1 v2 (len_eq v1 v2 fun q => by simp [unB, q.1, q.2.1, q.2.2] at v3)
 simp only [Rs.row, List.cons_append, List.nil_append] at f15 f48 f49a f49b f50 ⊢
 rw [fz_cons, fz_cons, fz_cons, fz_nil] at f48
 cases c
 ·simp [F8, unitF_eq, t8, f15, o16]
 ·by_cases v1 : ckRes a = 0
  ·by_cases v2 : ckRes b = 0
   ·cases v3 : unB a b
    ·have f50' := f50 v1 v2 v3
     simp [v1, v2, v3, whenI] at f48
     have v3' := v3
     unfold unB at v3'
     rcases tf_or (a.st = w0) with e1 | e1 <;> rcases tf_or (b.st = w0) with e2 | e2 <;> rcases tf_or (a.xs.length = b.xs.length) with e3 | e3 <;> simp [e1, e2, e3] at v3' <;>
      simp [F8, unitF_eq, t8, f15, o16, f48, f49a, f49b, f50', la, lb, len_ne, v1, v2, e1, e2, e3]
    ·simp [v1, v2, v3, whenI] at f48
     have v3' := v3
     unfold unB at v3'
     simp at v3'
     have e1 := eq_true v3'.1
     have e2 := eq_true v3'.2.1
     have e3 := eq_false v3'.2.2
     simp [F8, unitF_eq, t8, f15, o16, f48, f49a, f49b, la, lb, len_ne, v1, v2, e1, e2, e3]
   ·simp [v1, v2] at f48
    simp [F8, unitF_eq, t8, f15, o16, f48, f49a, f49b, la, lb, len_ne, v1, v2]
  ·simp [v1] at f48
   simp [F8, unitF_eq, t8, f15, o16, f48, f49a, la, lb, len_ne, v1]
end Go.Proofs.YtdjngcfnlfgjkaaGreatDoor.C5
