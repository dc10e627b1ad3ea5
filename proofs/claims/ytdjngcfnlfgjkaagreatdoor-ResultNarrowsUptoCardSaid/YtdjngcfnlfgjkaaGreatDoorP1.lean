/-
  Plain lemmas.
-/
import Derived.Test.YtdjngcfnlfgjkaaGreatDoorF1
import Derived.Lib.DecodeN
set_option linter.unusedVariables false
set_option linter.unusedSimpArgs false
set_option linter.unusedSectionVars false
namespace Go.Proofs.YtdjngcfnlfgjkaaGreatDoor.C5
open Go Go.Proofs.YtdjngcfnlfgjkaaGreatDoor.AM
def stepG (Ω : Om) (vs : List AV) : Te LEnd → Option (List AV ⊕ AV)
 | .ok (.again ys) => some (.inl (X.dens Ω vs ys))
 | .ok (.out tag zs) => some (.inr (.tuple (.int .i64 tag :: X.dens Ω vs zs)))
 | .fail _ => none
 | .need p t => if (X.den Ω vs p).bB = true then stepG Ω vs t else none
 | .ite c a b => if (X.den Ω vs c).bB = true then stepG Ω vs a else stepG Ω vs b
theorem stepG_eq (Ω : Om) (vs : List AV) : ∀ (B : Te LEnd), stepG Ω vs B = (match B.sel (X.den Ω vs) with
  | some (.again ys) => some (.inl (ys.map (X.den Ω vs)))
  | some (.out tag zs) => some (.inr (.tuple (.int .i64 tag :: zs.map (X.den Ω vs))))
  | none => none)
 | .ok (.again ys) => by simp only [stepG, Te.sel, X.dens_map]
 | .ok (.out tag zs) => by simp only [stepG, Te.sel, X.dens_map]
 | .fail _ => rfl
 | .need p t => by
   simp only [stepG, Te.sel]
   cases (X.den Ω vs p).bB with
   | true => simpa using stepG_eq Ω vs t
   | false => rfl
 | .ite c a b => by
   simp only [stepG, Te.sel]
   cases (X.den Ω vs c).bB with
   | true => simpa using stepG_eq Ω vs a
   | false => simpa using stepG_eq Ω vs b
theorem loopG_again {Ω : Om} {B : Te LEnd} {vs vs' : List AV} {K : Nat} (h : stepG Ω vs B = some (.inl vs')) : loopG Ω B (K + 1) vs = loopG Ω B K vs' := by
 rw [stepG_eq] at h
 simp only [loopG]
 split at h <;> simp_all
theorem loopG_out {Ω : Om} {B : Te LEnd} {vs : List AV} {r : AV} {K : Nat} (h : stepG Ω vs B = some (.inr r)) : loopG Ω B (K + 1) vs = some r := by
 rw [stepG_eq] at h
 simp only [loopG]
 split at h <;> simp_all
def valT (Ω : Om) (vs : List AV) : Te AV → Option AV
 | .ok a => some (AV.den (X.den Ω vs) id a)
 | .fail _ => none
 | .need p t => if (X.den Ω vs p).bB = true then valT Ω vs t else none
 | .ite c a b => if (X.den Ω vs c).bB = true then valT Ω vs a else valT Ω vs b
theorem unitF_eq (Ω : Om) (vs : List AV) : ∀ (t : Te AV), unitF Ω t vs = valT Ω vs t
 | .ok a => rfl
 | .fail _ => rfl
 | .need p t => by
   have := unitF_eq Ω vs t
   simp only [unitF, valT, Te.sel] at *
   cases (X.den Ω vs p).bB with
   | true => simpa using this
   | false => rfl
 | .ite c a b => by
   have h1 := unitF_eq Ω vs a
   have h2 := unitF_eq Ω vs b
   simp only [unitF, valT, Te.sel] at *
   cases (X.den Ω vs c).bB with
   | true => simpa using h1
   | false => simpa using h2
theorem loop_scan {Ω : Om} {B : Te LEnd} {st : Nat → List AV} {n : Nat} {res : Nat → Option AV} {fin : AV}
  (hs : ∀ i, i < n → stepG Ω (st i) B = some (match res i with | some r => .inr r | none => .inl (st (i + 1))))
  (hf : stepG Ω (st n) B = some (.inr fin)) : ∀ (j i K : Nat), i + j = n → j < K → loopG Ω B K (st i) = some (((List.range' i j).findSome? res).getD fin)
 | 0, i, K, hi, hK => by
   obtain ⟨K, rfl⟩ : ∃ m, K = m + 1 := ⟨K - 1, by omega⟩
   have : i = n := by omega
   subst this
   rw [loopG_out hf]; rfl
 | j + 1, i, K, hi, hK => by
   obtain ⟨K, rfl⟩ : ∃ m, K = m + 1 := ⟨K - 1, by omega⟩
   have h1 := hs i (by omega)
   cases hr : res i with
   | some r =>
     rw [hr] at h1
     rw [loopG_out h1]
     simp [List.range'_succ, hr]
   | none =>
     rw [hr] at h1
     rw [loopG_again h1, loop_scan hs hf j (i + 1) K (by omega) (by omega)]
     simp [List.range'_succ, hr]
theorem range_find {α β : Type} (l : List α) (g : α → Option β) (d : Nat → Option β) (h : ∀ i (hi : i < l.length), d i = g l[i]) : (List.range' 0 l.length).findSome? d = l.findSome? g := by
 have : ∀ (l : List α) (i : Nat), (∀ j (hj : j < l.length), d (i + j) = g l[j]) → (List.range' i l.length).findSome? d = l.findSome? g := by
  intro l
  induction l with
  | nil => intro i _; rfl
  | cons a l ih =>
    intro i h
    have h0 := h 0 (by simp)
    simp at h0
    rw [List.length_cons, List.range'_succ, List.findSome?_cons, List.findSome?_cons, h0, ih (i + 1) (fun j hj => by
     have := h (j + 1) (by simp; omega)
     rw [show i + 1 + j = i + (j + 1) by omega, this]; rfl)]
 exact this l 0 (fun j hj => by rw [Nat.zero_add]; exact h j hj)
def IsL (k : Nat) (rows : List (List AV)) (a : AV) : Prop := a = .sl k rows ∨ (a = .nils ∧ rows = [])
theorem IsL.rows {k : Nat} {rows : List (List AV)} {a : AV} (h : IsL k rows a) : a.rowsL = rows := by
 rcases h with rfl | ⟨rfl, rfl⟩ <;> rfl
theorem IsL.len {k : Nat} {rows : List (List AV)} {a : AV} (h : IsL k rows a) : a.lenN = rows.length := by
 rcases h with rfl | ⟨rfl, rfl⟩ <;> rfl
theorem IsL.ok {k : Nat} {rows : List (List AV)} {a : AV} {cs : List Sh} (h : IsL k rows a) (hk : k = cs.length) (hr : rows.all (Sh.oks cs) = true) : (Sh.sl cs).ok a = true := by
 rcases h with rfl | ⟨rfl, rfl⟩
 ·simp only [Sh.ok, hk, beq_self_eq_true, hr, Bool.and_self]
 ·rfl
theorem i64w {n : Int} (h1 : -9223372036854775808 ≤ n) (h2 : n ≤ 9223372036854775807) : IntKind.i64.wrap n = n := by
 rw [IntKind.wrap_i64]; omega
section
variable (Ω : Om) (a b c : AV)
@[simp] theorem s_add (k : IntKind) : Pr.sem Ω (.bin .add k) [a, b] = .int k (k.wrap (a.nI + b.nI)) := rfl
@[simp] theorem s_sub (k : IntKind) : Pr.sem Ω (.bin .sub k) [a, b] = .int k (k.wrap (a.nI - b.nI)) := rfl
@[simp] theorem s_eql (k : IntKind) : Pr.sem Ω (.bin .eql k) [a, b] = .bool (a.nI == b.nI) := rfl
@[simp] theorem s_neq (k : IntKind) : Pr.sem Ω (.bin .neq k) [a, b] = .bool (a.nI != b.nI) := rfl
@[simp] theorem s_lss (k : IntKind) : Pr.sem Ω (.bin .lss k) [a, b] = .bool (decide (a.nI < b.nI)) := rfl
@[simp] theorem s_leq (k : IntKind) : Pr.sem Ω (.bin .leq k) [a, b] = .bool (decide (a.nI ≤ b.nI)) := rfl
@[simp] theorem s_gtr (k : IntKind) : Pr.sem Ω (.bin .gtr k) [a, b] = .bool (decide (a.nI > b.nI)) := rfl
@[simp] theorem s_geq (k : IntKind) : Pr.sem Ω (.bin .geq k) [a, b] = .bool (decide (a.nI ≥ b.nI)) := rfl
@[simp] theorem s_seql : Pr.sem Ω (.sbin .eql) [a, b] = .bool (a.sS.toList == b.sS.toList) := rfl
@[simp] theorem s_sneq : Pr.sem Ω (.sbin .neq) [a, b] = .bool (!(a.sS.toList == b.sS.toList)) := rfl
@[simp] theorem s_not : Pr.sem Ω .not [a] = .bool (!a.bB) := rfl
@[simp] theorem s_beq : Pr.sem Ω .beq [a, b] = .bool (a.bB == b.bB) := rfl
@[simp] theorem s_ite : Pr.sem Ω .ite [c, a, b] = if c.bB = true then a else b := by
  show (match c.bB with | true => a | false => b) = _
  cases c.bB <;> rfl
@[simp] theorem s_len : Pr.sem Ω .len [a] = .int .i64 a.lenN := rfl
@[simp] theorem s_cell (o : Nat) : Pr.sem Ω (.cell o) [a, b] = getJ (nth (getL (nth a.rowsL b.nI.toNat)) o) := rfl
@[simp] theorem s_proj (i : Nat) : Pr.sem Ω (.proj i) [a] = getJ (nth a.tupL i) := rfl
@[simp] theorem s_fld (i : Nat) : Pr.sem Ω (.fld i) [a] = getJ (nth a.aggL i) := rfl
@[simp] theorem s_call (f n : Nat) (xs : List AV) : Pr.sem Ω (.call f n) xs = Ω f n xs := rfl
@[simp] theorem s_okr (rs : List RS) : Pr.sem Ω (.okr rs) [a] = .bool (RS.okr rs a) := rfl
@[simp] theorem s_keq : Pr.sem Ω .keq [a, b] = .bool (match keyEq a b with | some c => c | none => false) := rfl
@[simp] theorem s_app (k : Nat) : Pr.sem Ω (.app k) [a, b] = (match b.rowsL with | [] => a | r :: rs => .sl k (a.rowsL ++ (r :: rs))) := rfl
end
section
variable (a b c : AV) (xs ys : List AV) (n : Int) (k : IntKind)
@[simp] theorem nI_int : AV.nI (.int k n) = n := rfl
@[simp] theorem bB_bool (b : Bool) : AV.bB (.bool b) = b := rfl
@[simp] theorem sS_str (s : ByteArray) : AV.sS (.str s) = s := rfl
@[simp] theorem tupL_tup : AV.tupL (.tuple xs) = xs := rfl
@[simp] theorem aggL_agg : AV.aggL (.agg xs) = xs := rfl
@[simp] theorem lenN_str (s : ByteArray) : AV.lenN (.str s) = s.size := rfl
@[simp] theorem lenN_sl (j : Nat) (r : List (List AV)) : AV.lenN (.sl j r) = r.length := rfl
@[simp] theorem lenN_nils : AV.lenN .nils = 0 := rfl
@[simp] theorem rowsL_sl (j : Nat) (r : List (List AV)) : AV.rowsL (.sl j r) = r := rfl
@[simp] theorem rowsL_nils : AV.rowsL .nils = [] := rfl
@[simp] theorem getJ_some : getJ (some a) = a := rfl
@[simp] theorem getL_some {α : Type} (l : List α) : getL (some l) = l := rfl
@[simp] theorem nth_nil {α : Type} (n : Nat) : nth ([] : List α) n = none := rfl
@[simp] theorem nth_zero {α : Type} (a : α) (l : List α) : nth (a :: l) 0 = some a := rfl
@[simp] theorem nth_succ {α : Type} (a : α) (l : List α) (n : Nat) : nth (a :: l) (n + 1) = nth l n := rfl
@[simp] theorem nth_lit {α : Type} (a : α) (l : List α) (n : Nat) : nth (a :: l) (OfNat.ofNat (n + 1)) = nth l n := rfl
end
section
variable (Ω : Om) (ρ : List AV)
@[simp] theorem d_v (n : Nat) : X.den Ω ρ (.v n) = getJ (nth ρ n) := rfl
@[simp] theorem d_b (b : Bool) : X.den Ω ρ (.b b) = .bool b := rfl
@[simp] theorem d_i (k : IntKind) (n : Int) : X.den Ω ρ (.i k n) = .int k n := rfl
@[simp] theorem d_s (s : ByteArray) : X.den Ω ρ (.s s) = .str s := rfl
@[simp] theorem d_nils : X.den Ω ρ .nils = .nils := rfl
@[simp] theorem d_sl (k : Nat) (r : List (List X)) : X.den Ω ρ (.sl k r) = .sl k (X.denss Ω ρ r) := rfl
@[simp] theorem d_agg (l : List X) : X.den Ω ρ (.agg l) = .agg (X.dens Ω ρ l) := rfl
@[simp] theorem d_p (o : Pr) (l : List X) : X.den Ω ρ (.p o l) = o.sem Ω (X.dens Ω ρ l) := rfl
@[simp] theorem ds_nil : X.dens Ω ρ [] = [] := rfl
@[simp] theorem ds_cons (e : X) (l : List X) : X.dens Ω ρ (e :: l) = X.den Ω ρ e :: X.dens Ω ρ l := rfl
@[simp] theorem dss_nil : X.denss Ω ρ [] = [] := rfl
@[simp] theorem dss_cons (e : List X) (l : List (List X)) : X.denss Ω ρ (e :: l) = X.dens Ω ρ e :: X.denss Ω ρ l := rfl
variable {α : Type} (V : X → AV)
@[simp] theorem bB_ite (p : Prop) [Decidable p] (a b : AV) : (if p then a else b).bB = if p then a.bB else b.bB := by split <;> rfl
@[simp] theorem nI_ite (p : Prop) [Decidable p] (a b : AV) : (if p then a else b).nI = if p then a.nI else b.nI := by split <;> rfl
attribute [simp] stepG valT
@[simp] theorem int_ite (p : Prop) [Decidable p] (k : IntKind) (a b : Int) : (if p then AV.int k a else AV.int k b) = AV.int k (if p then a else b) := by split <;> rfl
@[simp] theorem bool_ite (p : Prop) [Decidable p] (a b : Bool) : (if p then AV.bool a else AV.bool b) = AV.bool (if p then a else b) := by split <;> rfl
@[simp] theorem beqB (a b : ByteArray) : (a == b) = decide (a = b) := by
  rcases a with ⟨a⟩
  rcases b with ⟨b⟩
  show (a == b) = decide (ByteArray.mk a = ByteArray.mk b)
  rw [Bool.eq_iff_iff]
  simp
@[simp] theorem v_sym_bool (σ : Nat → Nat) (e : X) : AV.den V σ (.sym .bool e) = V e := rfl
@[simp] theorem v_sym_int (σ : Nat → Nat) (k : IntKind) (e : X) : AV.den V σ (.sym (.int k) e) = V e := rfl
@[simp] theorem v_sym_str (σ : Nat → Nat) (e : X) : AV.den V σ (.sym .str e) = V e := rfl
@[simp] theorem v_sym_sl (σ : Nat → Nat) (cs : List Sh) (e : X) : AV.den V σ (.sym (.sl cs) e) = V e := rfl
@[simp] theorem v_sym_im (σ : Nat → Nat) (k : Sh) (ag : Bool) (cs : List Sh) (e : X) : AV.den V σ (.sym (.im k ag cs) e) = V e := rfl
@[simp] theorem v_tuple (σ : Nat → Nat) (l : List AV) : AV.den V σ (.tuple l) = .tuple (AV.dens V σ l) := rfl
@[simp] theorem v_agg (σ : Nat → Nat) (l : List AV) : AV.den V σ (.agg l) = .agg (AV.dens V σ l) := rfl
@[simp] theorem vs_nil (σ : Nat → Nat) : AV.dens V σ [] = [] := rfl
@[simp] theorem vs_cons (σ : Nat → Nat) (a : AV) (l : List AV) : AV.dens V σ (a :: l) = AV.den V σ a :: AV.dens V σ l := rfl
@[simp] theorem om_nil (K : Nat) (cs : List Cal) : omL K cs [] = calO cs := rfl
@[simp] theorem om_cons (K : Nat) (cs : List Cal) (d : LoopD) (ds : List LoopD) (f n : Nat) (vs : List AV) : omL K cs (d :: ds) f n vs = if f = loopId ∧ n = d.L.id then getJ (loopG (omL K cs ds) d.B K vs) else omL K cs ds f n vs := rfl
@[simp] theorem okr_one (s : Sh) (a : AV) : RS.okr [.one s] a = s.ok a := rfl
@[simp] theorem okr_two (r s : RS) (l : List AV) : RS.okr [r, s] (.tuple l) = RS.oks [r, s] l := rfl
@[simp] theorem oks_cons (r : RS) (rs : List RS) (a : AV) (l : List AV) : RS.oks (r :: rs) (a :: l) = (r.ok a && RS.oks rs l) := rfl
@[simp] theorem oks_nil : RS.oks [] [] = true := rfl
@[simp] theorem rok_one (s : Sh) (a : AV) : (RS.one s).ok a = s.ok a := rfl
@[simp] theorem ok_bool (b : Bool) : Sh.bool.ok (.bool b) = true := rfl
@[simp] theorem ok_int (k : IntKind) (n : Int) : (Sh.int k).ok (.int k n) = true := by simp [Sh.ok]
@[simp] theorem ok_str (s : ByteArray) : Sh.str.ok (.str s) = true := rfl
@[simp] theorem soks_nil : Sh.oks [] [] = true := rfl
@[simp] theorem soks_cons (s : Sh) (ss : List Sh) (a : AV) (l : List AV) : Sh.oks (s :: ss) (a :: l) = (s.ok a && Sh.oks ss l) := rfl
@[simp] theorem ok_nils (cs : List Sh) : (Sh.sl cs).ok .nils = true := rfl
@[simp] theorem ok_sl (cs : List Sh) (k : Nat) (r : List (List AV)) : (Sh.sl cs).ok (.sl k r) = (k == cs.length && r.all (Sh.oks cs)) := rfl
end
theorem toList_inj' {a b : ByteArray} : a.toList = b.toList ↔ a = b := by
 constructor
 ·intro h
  simp only [ByteArray.toList_eq] at h
  rcases a with ⟨a⟩; rcases b with ⟨b⟩
  simp only at h
  rw [Array.toList_inj.1 h]
 ·rintro rfl; rfl
attribute [simp] loopId toList_inj'
@[reducible] def ia (n : Int) : AV := .int .i64 n
theorem IsL.row {α : Type} {k i : Nat} {f : α → List AV} {l : List α} {a : AV} (h : IsL k (l.map f) a) (hi : i < l.length) : nth a.rowsL (Int.toNat (i : Int)) = some (f l[i]) := by
 rw [h.rows, nth_eq, Int.toNat_natCast, List.getElem?_map, List.getElem?_eq_getElem hi]; rfl
theorem IsL.lenM {α : Type} {k : Nat} {f : α → List AV} {l : List α} {a : AV} (h : IsL k (l.map f) a) : a.lenN = l.length := by
 rw [h.len, List.length_map]
theorem isL_sl {k : Nat} {r : List (List AV)} : IsL k r (.sl k r) := .inl rfl
theorem isL_nils {k : Nat} : IsL k [] .nils := .inr ⟨rfl, rfl⟩
theorem isL_nils' {α : Type} {f : α → List AV} {k : Nat} : IsL k (([] : List α).map f) .nils := .inr ⟨rfl, rfl⟩
theorem KK_eq : KK = 2097152 := rfl
theorem wS {i : Nat} (h : i < 2097152) : IntKind.i64.wrap ((i : Int) + 1) = ((i + 1 : Nat) : Int) := by
 rw [i64w (by omega) (by omega)]; omega
theorem loop0 {Ω : Om} {B : Te LEnd} (st : Nat → List AV) (n : Nat) (res : Nat → Option AV) (fin : AV) (hn : n < 2097152)
  (hs : ∀ i, i < n → stepG Ω (st i) B = some (match res i with | some r => .inr r | none => .inl (st (i + 1))))
  (hf : stepG Ω (st n) B = some (.inr fin)) : loopG Ω B KK (st 0) = some (((List.range' 0 n).findSome? res).getD fin) :=
 loop_scan hs hf n 0 KK (by omega) (by rw [KK_eq]; omega)
def strR (s : ByteArray) : List AV := [.str s]
theorem loopL {α : Type} {Ω : Om} {B : Te LEnd} (st : Nat → List AV) (l : List α) (g : α → Option AV) (fin : AV) (hn : l.length < 2097152)
  (hs : ∀ i (hi : i < l.length), stepG Ω (st i) B = some (match g l[i] with | some r => .inr r | none => .inl (st (i + 1))))
  (hf : stepG Ω (st l.length) B = some (.inr fin)) : loopG Ω B KK (st 0) = some ((l.findSome? g).getD fin) := by
 rw [loop0 st l.length (fun i => if h : i < l.length then g l[i] else none) fin hn (fun i hi => by rw [hs i hi, dif_pos hi]) hf,
  range_find l g _ (fun i hi => by rw [dif_pos hi])]
theorem loopF {Ω : Om} {B : Te LEnd} (st : Nat → List AV) (n : Nat) (fin : AV) (hn : n < 2097152)
  (hs : ∀ i, i < n → stepG Ω (st i) B = some (.inl (st (i + 1)))) (hf : stepG Ω (st n) B = some (.inr fin)) : loopG Ω B KK (st 0) = some fin := by
 rw [loop0 st n (fun _ => none) fin hn (fun i hi => hs i hi) hf, List.findSome?_eq_none_iff.2 (fun _ _ => rfl)]
 rfl
def outB (v lo hi : Int) : Bool := decide (v < lo) || decide (v > hi)
def whenI (b : Bool) (n : Int) : Int := if b then n else 0
theorem p80 (b : Bool) (n : Int) : F80 [.bool b, ia n] = some (ia (whenI b n)) := by
 cases b <;> simp [F80, unitF_eq, t80, whenI]
def memB (s : ByteArray) (ns : List ByteArray) : Bool := ns.any fun x => decide (s = x)
theorem memB_iff {s : ByteArray} {ns : List ByteArray} : memB s ns = true ↔ s ∈ ns := by simp [memB]
def intR (n : Int) : List AV := [ia n]
def firstNz (l : List Int) : Int := (l.find? fun n => decide (n ≠ 0)).getD 0
theorem G7600 {Ω : Om} {a : AV} {ns : List Int} (h : IsL 1 (ns.map intR) a) (hn : ns.length < 2097152) :
  loopG Ω B7600 KK [a, ia ns.length, ia 0] = some ((ns.findSome? fun n => if n = 0 then none else some (.tuple [ia 1, ia n])).getD (.tuple [ia 2])) := by
 refine loopL (fun i => [a, ia ns.length, ia i]) ns _ _ hn (fun i hi => ?_) ?_
 ·have hr : nth a.rowsL (Int.toNat (i : Int)) = some [ia ns[i]] := h.row hi
  have hw := wS (Nat.lt_trans hi hn)
  by_cases hc : ns[i] = 0 <;> simp_all [B7600, h.lenM]
 ·simp [B7600]
theorem p76 {a : AV} {ns : List Int} (h : IsL 1 (ns.map intR) a) (hn : ns.length < 2097152) : F76 [a] = some (ia (firstNz ns)) := by
 have hG := @G7600 (calO s76) _ _ h hn
 have : (ns.findSome? fun n => if n = 0 then none else some (AV.tuple [ia 1, ia n])) = (ns.find? fun n => decide (n ≠ 0)).map fun n => AV.tuple [ia 1, ia n] := by
  clear h hn hG
  induction ns with
  | nil => rfl
  | cons n ns ih => by_cases hc : n = 0 <;> simp_all
 rw [this] at hG
 unfold firstNz
 cases hf : ns.find? fun n => decide (n ≠ 0) <;> rw [hf] at hG <;> simp_all [F76, unitF_eq, t76, h.lenM]
set_option maxRecDepth 20000
set_option maxHeartbeats 2000000
def letB (b : Nat) : Bool := (decide (97 ≤ b) && decide (b ≤ 122)) || (decide (65 ≤ b) && decide (b ≤ 90))
def goodB (i b : Nat) : Bool := letB b || (decide (i ≠ 0) && (decide (b = 95) || (decide (48 ≤ b) && decide (b ≤ 57))))
theorem goodB_lt {i b : Nat} (h : goodB i b = true) : b < 128 := by
 simp [goodB, letB] at h
 omega
theorem goodB_eq (i b : Nat) : goodB i b = decide (((97 ≤ b ∧ b ≤ 122) ∨ (65 ≤ b ∧ b ≤ 90)) ∨ (i ≠ 0 ∧ (b = 95 ∨ (48 ≤ b ∧ b ≤ 57)))) := by
 simp [goodB, letB, Bool.decide_or, Bool.decide_and]
theorem s_byte (Ω : Om) (s : ByteArray) (i : Nat) (hi : i < s.size) : Pr.sem Ω .byte [.str s, ia i] = .int .u8 (s[i].toNat : Int) := by
 show AV.int .u8 (match (AV.str s).sS[(ia i).nI.toNat]? with | some b => b.toNat | none => 0) = _
 simp [hi]
theorem s_rune (Ω : Om) (s : ByteArray) (i : Nat) : Pr.sem Ω .rune [.str s, ia i] = .int .i32 (Utf8.decode s i).1 := rfl
theorem s_adv (Ω : Om) (s : ByteArray) (i : Nat) : Pr.sem Ω .adv [.str s, ia i] = .int .i64 (i + (Utf8.decode s i).2) := rfl
theorem get_eq {s : ByteArray} {i : Nat} (hi : i < s.size) : s.get! i = s[i] := by
 rcases s with ⟨a⟩
 have hi' : i < a.size := hi
 show a[i]! = a[i]
 rw [getElem!_pos a i hi']
theorem dec_lo {s : ByteArray} {i : Nat} (hi : i < s.size) (h : s[i].toNat < 128) : Utf8.decode s i = (s[i].toNat, 1) := by
 rw [Lib.decode_at, get_eq hi]
 unfold Lib.decodeN
 rw [if_pos h]
theorem decN_hi (n b0 b1 b2 b3 : Nat) (h : ¬ b0 < 128) : 128 ≤ (Lib.decodeN n b0 b1 b2 b3).1 := by
 unfold Lib.decodeN
 rw [if_neg h]
 repeat' split
 all_goals first | (simp only; omega)
theorem dec_hi {s : ByteArray} {i : Nat} (hi : i < s.size) (h : ¬ s[i].toNat < 128) : 128 ≤ (Utf8.decode s i).1 := by
 rw [Lib.decode_at, get_eq hi]
 exact decN_hi _ _ _ _ _ h
def badO (s : ByteArray) (i : Nat) : Option AV := if goodB i (s[i]?.getD 0).toNat then none else some (.tuple [ia 1])
theorem G8900 {Ω : Om} {s : ByteArray} (hs : s.size < 2097152) :
  loopG Ω B8900 KK [.str s, ia 0] = some (((List.range' 0 s.size).findSome? (badO s)).getD (.tuple [ia 2])) := by
 refine loop0 (fun i => [.str s, ia i]) s.size _ _ hs (fun i hi => ?_) ?_
 ·have hw := wS (Nat.lt_trans hi hs)
  have hb : badO s i = if goodB i s[i].toNat then none else some (.tuple [ia 1]) := by simp [badO, hi]
  rw [hb]
  generalize hc : s[i].toNat = b
  have hsb := s_byte Ω s i hi
  rw [hc] at hsb
  have hw0 : IntKind.i64.wrap 1 = 1 := i64w (by omega) (by omega)
  by_cases h1 : (97 : Int) ≤ b <;> by_cases h2 : (b : Int) ≤ 122 <;> by_cases h3 : (65 : Int) ≤ b <;> by_cases h4 : (b : Int) ≤ 90 <;> by_cases h5 : (48 : Int) ≤ b <;> by_cases h6 : (b : Int) ≤ 57 <;> by_cases h7 : (b : Int) = 95 <;> by_cases h8 : i = 0 <;>
   first
    | (exfalso; omega)
    | (have hg : goodB i b = true := by rw [goodB_eq, decide_eq_true_eq]; omega
       simp [B8900, hsb, hi, hw, hg, h1, h2, h3, h4, h5, h6, h7, h8]
       done)
    | (have hg : goodB i b = true := by rw [goodB_eq, decide_eq_true_eq]; omega
       subst h8
       have hsb0 : Pr.sem Ω .byte [.str s, ia 0] = .int .u8 b := hsb
       simp [B8900, hsb0, hi, hw0, hg, h1, h2, h3, h4, h5, h6, h7]
       done)
    | (have hg : goodB i b = false := by rw [goodB_eq, decide_eq_false_iff_not]; omega
       simp [B8900, hsb, hi, hw, hg, h1, h2, h3, h4, h5, h6, h7, h8]
       done)
    | (have hg : goodB i b = false := by rw [goodB_eq, decide_eq_false_iff_not]; omega
       subst h8
       have hsb0 : Pr.sem Ω .byte [.str s, ia 0] = .int .u8 b := hsb
       simp [B8900, hsb0, hi, hw0, hg, h1, h2, h3, h4, h5, h6, h7]
       done)
 ·simp [B8900]
theorem G8800 {Ω : Om} {s v : ByteArray} (hs : s.size < 2097152) :
  loopG Ω B8800 KK [.str v, .str s, ia 0] = some (((List.range' 0 s.size).findSome? (badO s)).getD (.tuple [ia 2, .str v])) := by
 refine loop0 (fun i => [.str v, .str s, ia i]) s.size _ _ hs (fun i hi => ?_) ?_
 ·have hb : badO s i = if goodB i s[i].toNat then none else some (.tuple [ia 1]) := by simp [badO, hi]
  rw [hb]
  obtain ⟨r, k, hrk⟩ : ∃ r k, Utf8.decode s i = (r, k) := ⟨_, _, rfl⟩
  have hsr : Pr.sem Ω .rune [.str s, ia i] = .int .i32 (r : Int) := by rw [s_rune, hrk]
  have hsa : Pr.sem Ω .adv [.str s, ia i] = .int .i64 ((i : Int) + k) := by rw [s_adv, hrk]
  have hm : goodB i s[i].toNat = goodB i r := by
   by_cases hl : s[i].toNat < 128
   ·have := dec_lo hi hl
    rw [hrk] at this
    injection this with h1 h2
    rw [h1]
   ·have h1 := dec_hi hi hl
    rw [hrk] at h1
    have h2 : goodB i s[i].toNat = false := by
     cases h : goodB i s[i].toNat with
     | false => rfl
     | true => exact absurd (goodB_lt h) hl
    have h3 : goodB i r = false := by
     cases h : goodB i r with
     | false => rfl
     | true => have := goodB_lt h; simp only at h1; omega
    rw [h2, h3]
  have hk : goodB i r = true → k = 1 := by
   intro h
   rw [← hm] at h
   have := dec_lo hi (goodB_lt h)
   rw [hrk] at this
   injection this
  have hw0 : IntKind.i64.wrap 1 = 1 := i64w (by omega) (by omega)
  by_cases h1 : (97 : Int) ≤ r <;> by_cases h2 : (r : Int) ≤ 122 <;> by_cases h3 : (65 : Int) ≤ r <;> by_cases h4 : (r : Int) ≤ 90 <;> by_cases h5 : (r : Int) < 48 <;> by_cases h6 : (57 : Int) < r <;> by_cases h7 : (r : Int) = 95 <;> by_cases h8 : i = 0 <;>
   first
    | (exfalso; omega)
    | (have hg : goodB i r = true := by rw [goodB_eq, decide_eq_true_eq]; omega
       have hk1 := hk hg
       subst hk1
       rw [show ((1 : Nat) : Int) = 1 from rfl] at hsa
       simp [B8800, hsr, hsa, hi, hg, hm, h1, h2, h3, h4, h5, h6, h7, h8]
       done)
    | (have hg : goodB i r = true := by rw [goodB_eq, decide_eq_true_eq]; omega
       have hk1 := hk hg
       subst hk1
       subst h8
       have hsr0 : Pr.sem Ω .rune [.str s, ia 0] = .int .i32 r := hsr
       have hsa0 : Pr.sem Ω .adv [.str s, ia 0] = .int .i64 1 := hsa
       simp [B8800, hsr0, hsa0, hi, hg, hm, h1, h2, h3, h4, h5, h6, h7]
       done)
    | (have hg : goodB i r = false := by rw [goodB_eq, decide_eq_false_iff_not]; omega
       simp [B8800, hsr, hi, hg, hm, h1, h2, h3, h4, h5, h6, h7, h8]
       done)
    | (have hg : goodB i r = false := by rw [goodB_eq, decide_eq_false_iff_not]; omega
       subst h8
       have hsr0 : Pr.sem Ω .rune [.str s, ia 0] = .int .i32 r := hsr
       simp [B8800, hsr0, hi, hg, hm, h1, h2, h3, h4, h5, h6, h7]
       done)
 ·simp [B8800]
theorem size0 {s : ByteArray} : s = w0 ↔ s.size = 0 := by
 constructor
 ·rintro rfl; rfl
 ·intro h
  rcases s with ⟨a⟩
  have : a.size = 0 := h
  rw [w0, Array.size_eq_zero_iff.1 this]
def isName (s : ByteArray) : Bool := decide (1 ≤ s.size) && (decide (s.size ≤ 24) && ((List.range' 0 s.size).findSome? (badO s)).isNone)
theorem bad_cases (s : ByteArray) : ((List.range' 0 s.size).findSome? (badO s) = none) ∨ ((List.range' 0 s.size).findSome? (badO s) = some (.tuple [ia 1])) := by
 cases h : (List.range' 0 s.size).findSome? (badO s) with
 | none => exact .inl rfl
 | some r =>
   right
   obtain ⟨i, _, hr⟩ := List.exists_of_findSome?_eq_some h
   unfold badO at hr
   split at hr
   ·cases hr
   ·injection hr with hr; rw [← hr]
theorem p89 {s : ByteArray} (hs : s.size < 2097152) : F89 [.str s] = some (.bool (isName s)) := by
 have hG := @G8900 (calO s89) s hs
 by_cases h1 : (s.size : Int) < 1 <;> by_cases h2 : (24 : Int) < s.size <;> rcases bad_cases s with h | h <;> rw [h] at hG <;>
  first
   | (exfalso; omega)
   | (have h3 : 1 ≤ s.size := by omega
      have h4 : s.size ≤ 24 := by omega
      simp [F89, unitF_eq, t89, h1, h2, hG, isName, h, h3, h4]
      done)
   | (have h3 : ¬ 1 ≤ s.size := by omega
      simp [F89, unitF_eq, t89, h1, h2, isName, h3]
      done)
   | (have h3 : ¬ s.size ≤ 24 := by omega
      simp [F89, unitF_eq, t89, h1, h2, isName, h3]
      done)
theorem p88 {s : ByteArray} (hs : s.size < 2097152) : F88 [.str s] = some (.bool (isName s)) := by
 have hG := @G8800 (calO s88) s s hs
 by_cases h1 : s.size = 0 <;> by_cases h2 : (s.size : Int) ≤ 24 <;> rcases bad_cases s with h | h <;> rw [h] at hG <;>
  first
   | (exfalso; omega)
   | (have h3 : 1 ≤ s.size := by omega
      have h4 : s.size ≤ 24 := by omega
      simp [F88, unitF_eq, t88, h1, h2, hG, isName, h, h3, h4, size0]
      done)
   | (have h3 : ¬ 1 ≤ s.size := by omega
      simp [F88, unitF_eq, t88, h1, h2, hG, isName, h3, size0]
      done)
   | (have h3 : ¬ s.size ≤ 24 := by omega
      simp [F88, unitF_eq, t88, h1, h2, hG, isName, h3, size0]
      done)
set_option maxHeartbeats 4000000
@[simp] theorem s_isNil (Ω : Om) (a : AV) : Pr.sem Ω .isNil [a] = .bool a.nilB := rfl
theorem tf_or (p : Prop) [Decidable p] : p = True ∨ p = False := by
 by_cases h : p
 ·exact .inl (eq_true h)
 ·exact .inr (eq_false h)
theorem fz_cons (a : Int) (l : List Int) : firstNz (a :: l) = if a = 0 then firstNz l else a := by
 by_cases h : a = 0 <;> simp [firstNz, h]
theorem fz_nil : firstNz [] = 0 := rfl
theorem IsL.rowN {α : Type} {k i : Nat} {f : α → List AV} {l : List α} {a : AV} (h : IsL k (l.map f) a) (hi : i < l.length) : nth a.rowsL i = some (f l[i]) := by
 have := h.row hi
 rwa [Int.toNat_natCast] at this
structure Op where
 nm : ByteArray
 lo : Int
 hi : Int
 deriving Inhabited
def Op.row (o : Op) : List AV := [.str o.nm, ia o.lo, ia o.hi]
def cnt (f : Op → Int) (l : List Op) (c v : Int) : Nat → Int
 | 0 => 0
 | i + 1 => cnt f l c v i + (if (i : Int) ≠ c ∧ f (l.getD i default) > v then 1 else 0)
theorem cnt_le (f : Op → Int) (l : List Op) (c v : Int) : ∀ i : Nat, 0 ≤ cnt f l c v i ∧ cnt f l c v i ≤ i
 | 0 => by simp [cnt]
 | i + 1 => by
   have := cnt_le f l c v i
   simp only [cnt]
   split <;> omega
structure OpsOk (a : AV) (l : List Op) : Prop where
 is : IsL 3 (l.map Op.row) a
 n : l.length < 1048577
 sz : ∀ o ∈ l, o.nm.size < 2097152
theorem G10600 {Ω : Om} {a : AV} {l : List Op} (h : OpsOk a l) (c v : Int) :
  loopG Ω B10600 KK [ia c, ia v, ia 0, ia 0, a, ia l.length, ia 0] = some (.tuple [ia 1, ia (cnt Op.lo l c v l.length), ia (cnt Op.hi l c v l.length)]) := by
 have hn := h.n
 refine loopF (fun i => [ia c, ia v, ia (cnt Op.lo l c v i), ia (cnt Op.hi l c v i), a, ia l.length, ia i]) l.length _ (by omega) (fun i hi => ?_) ?_
 ·have hr : nth a.rowsL i = some (Op.row l[i]) := h.is.rowN hi
  have hw := wS (show i < 2097152 by omega)
  have hg : l.getD i default = l[i] := by simp [hi]
  have b1 := cnt_le Op.lo l c v i
  have b2 := cnt_le Op.hi l c v i
  have w1 : IntKind.i64.wrap (cnt Op.lo l c v i + 1) = cnt Op.lo l c v i + 1 := i64w (by omega) (by omega)
  have w2 : IntKind.i64.wrap (cnt Op.hi l c v i + 1) = cnt Op.hi l c v i + 1 := i64w (by omega) (by omega)
  simp only [cnt, hg]
  rcases tf_or ((i : Int) = c) with e1 | e1 <;> rcases tf_or (v < l[i].lo) with e2 | e2 <;> rcases tf_or (v < l[i].hi) with e3 | e3 <;>
   simp [B10600, h.is.lenM, hr, Op.row, hi, hw, w1, w2, e1, e2, e3]
 ·simp [B10600]
theorem p106 {a : AV} {l : List Op} (h : OpsOk a l) (c v : Int) : F106 [a, ia c, ia v] = some (.tuple [ia (cnt Op.lo l c v l.length), ia (cnt Op.hi l c v l.length)]) := by
 simp [F106, unitF_eq, t106, G10600 h, h.is.lenM]
theorem G10700 {Ω : Om} {a : AV} {l : List Op} (h : OpsOk a l) (c v : Int) :
  loopG Ω B10700 KK [a, ia c, ia v, ia 0, ia 0] = some (.tuple [ia 1, ia (cnt Op.lo l c v l.length)]) := by
 have hn := h.n
 refine loopF (fun i => [a, ia c, ia v, ia (cnt Op.lo l c v i), ia i]) l.length _ (by omega) (fun i hi => ?_) ?_
 ·have hr : nth a.rowsL i = some (Op.row l[i]) := h.is.rowN hi
  have hw := wS (show i < 2097152 by omega)
  have hg : l.getD i default = l[i] := by simp [hi]
  have b1 := cnt_le Op.lo l c v i
  have w1 : IntKind.i64.wrap (cnt Op.lo l c v i + 1) = cnt Op.lo l c v i + 1 := i64w (by omega) (by omega)
  simp only [cnt, hg]
  rcases tf_or ((i : Int) = c) with e1 | e1 <;> rcases tf_or (v < l[i].lo) with e2 | e2 <;>
   simp [B10700, h.is.lenM, hr, Op.row, hi, hw, w1, e1, e2]
 ·simp [B10700, h.is.lenM]
theorem p107 {a : AV} {l : List Op} (h : OpsOk a l) (c v : Int) : F107 [a, ia c, ia v] = some (ia (cnt Op.lo l c v l.length)) := by
 simp [F107, unitF_eq, t107, G10700 h, h.is.lenM]
theorem G10800 {Ω : Om} {a : AV} {l : List Op} (h : OpsOk a l) (c v : Int) :
  loopG Ω B10800 KK [a, ia c, ia v, ia 0, ia 0] = some (.tuple [ia 1, ia (cnt Op.hi l c v l.length)]) := by
 have hn := h.n
 refine loopF (fun i => [a, ia c, ia v, ia (cnt Op.hi l c v i), ia i]) l.length _ (by omega) (fun i hi => ?_) ?_
 ·have hr : nth a.rowsL i = some (Op.row l[i]) := h.is.rowN hi
  have hw := wS (show i < 2097152 by omega)
  have hg : l.getD i default = l[i] := by simp [hi]
  have b1 := cnt_le Op.hi l c v i
  have w1 : IntKind.i64.wrap (cnt Op.hi l c v i + 1) = cnt Op.hi l c v i + 1 := i64w (by omega) (by omega)
  simp only [cnt, hg]
  rcases tf_or ((i : Int) = c) with e1 | e1 <;> rcases tf_or (v < l[i].hi) with e2 | e2 <;>
   simp [B10800, h.is.lenM, hr, Op.row, hi, hw, w1, e1, e2]
 ·simp [B10800, h.is.lenM]
theorem p108 {a : AV} {l : List Op} (h : OpsOk a l) (c v : Int) : F108 [a, ia c, ia v] = some (ia (cnt Op.hi l c v l.length)) := by
 simp [F108, unitF_eq, t108, G10800 h, h.is.lenM]
theorem p77 (n lo hi : Int) : F77 [ia n, ia lo, ia hi] = some (ia (whenI (outB n lo hi) 3)) := by
 rcases tf_or (n < lo) with e1 | e1 <;> rcases tf_or (hi < n) with e2 | e2 <;> simp [F77, unitF_eq, t77, p80, outB, e1, e2]
@[simp] theorem nilB_sl (k : Nat) (r : List (List AV)) : AV.nilB (.sl k r) = false := rfl
@[simp] theorem s_whole (Ω : Om) (k k' : Nat) (r r' : List (List AV)) : Pr.sem Ω .whole [.sl k r, .sl k' r'] = if r.length = r'.length then .sl k' r' else .sl k r := rfl
theorem ints_map : ∀ zs : List Int, intsOf (zs.map intR) = some zs
 | [] => rfl
 | z :: zs => by simp only [List.map_cons, intR, intsOf, ints_map zs]
theorem ok_ints (zs : List Int) : (Sh.sl [.int .i64]).ok (.sl 1 (zs.map intR)) = true := by
 simp [intR]
theorem p142 {zs : List Int} (h : zs.length < 1099511627776) : F142 [.sl 1 (zs.map intR)] = some (.sl 1 ((isort zs).map intR)) := by
 simp only [F142, ipFn, ints_map, ipSort, if_pos h]; rfl
theorem p143 {zs : List Int} (h : zs.length < 1099511627776) : F143 [.sl 1 (zs.map intR)] = some (.sl 1 ((uniqs zs).map intR)) := by
 simp only [F143, ipFn, ints_map, ipComp, if_pos h]; rfl
def pk (own : Op) (l : List Op) : Nat → List Int
 | 0 => [own.lo]
 | i + 1 => (pk own l i ++ (if own.lo < (l.getD i default).lo ∧ (l.getD i default).lo ≤ own.hi then [(l.getD i default).lo] else [])) ++ (if own.lo < (l.getD i default).hi ∧ (l.getD i default).hi ≤ own.hi then [(l.getD i default).hi] else [])
theorem pk_len (own : Op) (l : List Op) : ∀ i, (pk own l i).length ≤ 1 + 2 * i
 | 0 => by simp [pk]
 | i + 1 => by
   have := pk_len own l i
   simp only [pk, List.length_append]
   split <;> split <;> simp <;> omega
theorem G11100 {Ω : Om} {a : AV} {l : List Op} (h : OpsOk a l) (own : Op) :
  loopG Ω B11100 KK [.sl 1 [[ia own.lo]], a, ia l.length, ia 0, .str own.nm, ia own.lo, ia own.hi] = some (.tuple [ia 1, .sl 1 ((pk own l l.length).map intR)]) := by
 have hn := h.n
 refine loopF (fun i => [.sl 1 ((pk own l i).map intR), a, ia l.length, ia i, .str own.nm, ia own.lo, ia own.hi]) l.length _ (by omega) (fun i hi => ?_) ?_
 ·have hr : nth a.rowsL i = some (Op.row l[i]) := h.is.rowN hi
  have hw := wS (show i < 2097152 by omega)
  have hg : l.getD i default = l[i] := by simp [hi]
  have b1 := pk_len own l i
  have c1 : ((pk own l i).length : Int) + 1 ≤ 1073741824 := by omega
  have c2 : ((pk own l i).length : Int) + 2 ≤ 1073741824 := by omega
  have c3 : ((pk own l i).length : Int) + 1 + 1 ≤ 1073741824 := by omega
  simp only [pk, hg]
  rcases tf_or (own.lo < l[i].lo) with e1 | e1 <;> rcases tf_or (l[i].lo ≤ own.hi) with e2 | e2 <;> rcases tf_or (own.lo < l[i].hi) with e3 | e3 <;> rcases tf_or (l[i].hi ≤ own.hi) with e4 | e4 <;>
   simp [B11100, h.is.lenM, hr, Op.row, hi, hw, e1, e2, e3, e4, intR, c1, c2, c3]
 ·simp [B11100]
def zs (own : Op) (l : List Op) : List Int := uniqs (isort (pk own l l.length))
theorem p111 {a : AV} {l : List Op} (h : OpsOk a l) {c : Nat} (hc : c < l.length) : F111 [a, ia c] = some (.sl 1 ((zs l[c] l).map intR)) := by
 have hr : nth a.rowsL c = some (Op.row l[c]) := h.is.rowN hc
 have hn := h.n
 have b1 := pk_len l[c] l l.length
 have q1 := p142 (zs := pk l[c] l l.length) (by omega)
 have q2 := p143 (zs := isort (pk l[c] l l.length)) (by rw [isort_length]; omega)
 have k1 := ok_ints (isort (pk l[c] l l.length))
 have k2 := ok_ints (uniqs (isort (pk l[c] l l.length)))
 have G := @G11100 (calO s111) _ _ h l[c]
 simp only [Op.row] at hr
 simp [F111, unitF_eq, t111, h.is.lenM, hr, hc, G, q1, q2, isort_length, zs, intR]
theorem zs_len {own : Op} {l : List Op} : (zs own l).length ≤ 1 + 2 * l.length := by
 have h1 : ∀ (l : List Int) (y : Int), (uniq y l).length ≤ l.length := by
  intro l
  induction l with
  | nil => intro y; exact Nat.le_refl _
  | cons z l ih =>
    intro y
    have := ih z
    simp only [uniq]
    split <;> simp <;> omega
 have h2 : ∀ l : List Int, (uniqs l).length ≤ l.length := by
  intro l
  cases l with
  | nil => exact Nat.le_refl _
  | cons z l => have := h1 l z; simp [uniqs]; omega
 have := h2 (isort (pk own l l.length))
 rw [isort_length] at this
 exact Nat.le_trans this (pk_len own l l.length)
def okV (l : List Op) (c r v : Int) : Bool := decide (cnt Op.lo l c v l.length < r) && decide (r ≤ cnt Op.hi l c v l.length + 1)
theorem G8700 {a b : AV} {l : List Op} (h : OpsOk a l) {c r : Int} {ns : List Int} (hb : IsL 1 (ns.map intR) b) (hns : ns.length < 2097152) :
  loopG (calO s87) B8700 KK [a, ia c, ia r, b, ia ns.length, ia 0] = some ((ns.findSome? fun v => if okV l c r v then some (.tuple [ia 1, ia v]) else none).getD (.tuple [ia 2])) := by
 refine loopL (fun i => [a, ia c, ia r, b, ia ns.length, ia i]) ns _ _ hns (fun i hi => ?_) ?_
 ·have hr : nth b.rowsL i = some (intR ns[i]) := hb.rowN hi
  have hw := wS (show i < 2097152 by omega)
  have hn := h.n
  have b1 := cnt_le Op.lo l c ns[i] l.length
  have b2 := cnt_le Op.hi l c ns[i] l.length
  have w2 : IntKind.i64.wrap (cnt Op.hi l c ns[i] l.length + 1) = cnt Op.hi l c ns[i] l.length + 1 := i64w (by omega) (by omega)
  rcases tf_or (cnt Op.lo l c ns[i] l.length < r) with e1 | e1 <;> rcases tf_or (r ≤ cnt Op.hi l c ns[i] l.length + 1) with e2 | e2 <;>
   simp [B8700, hb.lenM, hr, intR, hi, hw, p106 h, w2, e1, e2, okV]
 ·simp [B8700]
theorem any_some (p : Int → Bool) (ns : List Int) : (∃ v, (ns.findSome? fun v => if p v then some (AV.tuple [ia 1, ia v]) else none) = some (.tuple [ia 1, ia v]) ∧ ns.any p = true) ∨
  ((ns.findSome? fun v => if p v then some (AV.tuple [ia 1, ia v]) else none) = none ∧ ns.any p = false) := by
 induction ns with
 | nil => exact .inr ⟨rfl, rfl⟩
 | cons n ns ih =>
   simp only [List.findSome?_cons, List.any_cons]
   cases hp : p n
   ·simpa using ih
   ·exact .inl ⟨n, by simp, rfl⟩
theorem p87 {a : AV} {l : List Op} (h : OpsOk a l) (hl : l.length ≤ 160) {c : Nat} (hc : c < l.length) (r : Int) : ∃ u, F87 [a, ia c, ia r] = some (.tuple [ia u, .bool ((zs l[c] l).any (okV l c r))]) := by
 have hn := h.n
 have hz := @zs_len l[c] l
 have f := p111 h hc
 have G := G8700 (c := (c : Int)) (r := r) h (b := .sl 1 ((zs l[c] l).map intR)) (ns := zs l[c] l) (.inl rfl) (by omega)
 have k := ok_ints (zs l[c] l)
 rcases any_some (okV l c r) (zs l[c] l) with ⟨v, h1, h2⟩ | ⟨h1, h2⟩
 ·rw [h1] at G
  refine ⟨v, ?_⟩
  simp at G k
  simp [F87, unitF_eq, t87, f, G, h2]
  exact k
 ·rw [h1] at G
  refine ⟨0, ?_⟩
  simp at G k
  simp [F87, unitF_eq, t87, f, G, h2]
  exact k
def wid (own : Op) : Nat := (own.hi - own.lo + 1).toNat
def posB (l : List Op) (own : Op) (c r : Int) : Bool := (List.range' 0 (wid own)).any fun i => okV l c r (own.lo + i)
theorem find_any {α : Type} (d : α → Bool) (t : AV) (s : List α) : (s.findSome? fun i => if d i then some t else none) = if s.any d then some t else none := by
 induction s with
 | nil => rfl
 | cons i s ih =>
   simp only [List.findSome?_cons, List.any_cons]
   rcases Bool.eq_false_or_eq_true (d i) with hd | hd
   ·simp [hd]
   ·simpa [hd] using ih
structure InR (own : Op) : Prop where
 lo : 0 ≤ own.lo
 le : own.lo ≤ own.hi
 hi : own.hi ≤ 99999
theorem G5700 {a : AV} {l : List Op} (h : OpsOk a l) (hl : l.length ≤ 160) {c : Nat} (hc : c < l.length) (hi : InR l[c]) {r : Int} (r1 : 1 ≤ r) (r2 : r ≤ 200) :
  loopG (calO s57) B5700 KK [a, ia c, ia r, ia l[c].lo] = some (if posB l l[c] c r then .tuple [ia 1] else .tuple [ia 2]) := by
 obtain ⟨i1, i2, i3⟩ := hi
 have hw0 : (wid l[c] : Int) = l[c].hi - l[c].lo + 1 := by unfold wid; omega
 have hr : nth a.rowsL c = some (Op.row l[c]) := h.is.rowN hc
 have wr : IntKind.i64.wrap (r - 1) = r - 1 := i64w (by omega) (by omega)
 have := loop0 (Ω := calO s57) (B := B5700) (fun i => [a, ia c, ia r, ia (l[c].lo + i)]) (wid l[c]) (fun i => if okV l c r (l[c].lo + i) then some (.tuple [ia 1]) else none) (.tuple [ia 2]) (by omega) (fun i hi => by
  have b1 := cnt_le Op.lo l c (l[c].lo + i) l.length
  have b2 := cnt_le Op.hi l c (l[c].lo + i) l.length
  have w2 : IntKind.i64.wrap (l[c].lo + i + 1) = l[c].lo + (i + 1) := by rw [i64w (by omega) (by omega)]; omega
  have hle : l[c].lo + i ≤ l[c].hi := by omega
  have z1 : (r ≤ cnt Op.hi l c (l[c].lo + i) l.length + 1) = (r - 1 ≤ cnt Op.hi l c (l[c].lo + i) l.length) := by rw [eq_iff_iff]; omega
  simp only [okV, z1]
  rcases tf_or (cnt Op.lo l c (l[c].lo + i) l.length < r) with e1 | e1 <;> rcases tf_or (r - 1 ≤ cnt Op.hi l c (l[c].lo + i) l.length) with e2 | e2 <;>
   simp [B5700, h.is.lenM, hr, Op.row, hc, hle, p107 h, p108 h, wr, w2, e1, e2]) (by
  have hle : ¬ (l[c].lo + (wid l[c] : Int) ≤ l[c].hi) := by omega
  simp [B5700, h.is.lenM, hr, Op.row, hc, hle])
 rw [find_any] at this
 simp only [Int.natCast_zero, Int.add_zero, show ((0 : Nat) : Int) = 0 from rfl] at this
 refine Eq.trans this ?_
 unfold posB
 split <;> rfl
theorem p57 {a : AV} {l : List Op} (h : OpsOk a l) (hl : l.length ≤ 160) {c : Nat} (hc : c < l.length) (hi : InR l[c]) {r : Int} (r1 : 1 ≤ r) (r2 : r ≤ 200) :
  F57 [a, ia c, ia r] = some (.bool (posB l l[c] c r)) := by
 have G := G5700 h hl hc hi r1 r2
 have hr : nth a.rowsL c = some (Op.row l[c]) := h.is.rowN hc
 simp only [Op.row] at hr
 cases hp : posB l l[c] c r <;> rw [hp] at G <;> simp at G <;> simp [F57, unitF_eq, t57, h.is.lenM, hr, hc, G]
theorem mem_pk {own : Op} {l : List Op} {x : Int} : ∀ {n : Nat}, x ∈ pk own l n ↔ x = own.lo ∨ ∃ i, i < n ∧ (x = (l.getD i default).lo ∨ x = (l.getD i default).hi) ∧ own.lo < x ∧ x ≤ own.hi
 | 0 => by simp [pk]
 | n + 1 => by
   have ih := mem_pk (own := own) (l := l) (x := x) (n := n)
   simp only [pk, List.mem_append, ih]
   constructor
   ·rintro (((h | ⟨i, h1, h2⟩) | h) | h)
    ·exact .inl h
    ·exact .inr ⟨i, by omega, h2⟩
    ·split at h
     ·rename_i hc; simp at h; subst h; exact .inr ⟨n, by omega, .inl rfl, hc⟩
     ·cases h
    ·split at h
     ·rename_i hc; simp at h; subst h; exact .inr ⟨n, by omega, .inr rfl, hc⟩
     ·cases h
   ·rintro (h | ⟨i, h1, h2, h3⟩)
    ·exact .inl (.inl (.inl h))
    ·by_cases hi : i < n
     ·exact .inl (.inl (.inr ⟨i, hi, h2, h3⟩))
     ·obtain rfl : i = n := by omega
      rcases h2 with h2 | h2
      ·rw [h2] at h3; exact .inl (.inr (by rw [if_pos h3]; simp [h2]))
      ·rw [h2] at h3; exact .inr (by rw [if_pos h3]; simp [h2])
theorem mem_zs {own : Op} {l : List Op} {x : Int} : x ∈ zs own l ↔ x ∈ pk own l l.length := by rw [zs, mem_uniqs, mem_isort]
theorem top_le : ∀ (s : List Int) (v : Int), (∃ x ∈ s, x ≤ v) → ∃ u ∈ s, u ≤ v ∧ ∀ x ∈ s, x ≤ v → x ≤ u
 | [], v, h => by obtain ⟨x, hx, _⟩ := h; cases hx
 | y :: s, v, h => by
   by_cases hs : ∃ x ∈ s, x ≤ v
   ·obtain ⟨u, h1, h2, h3⟩ := top_le s v hs
    by_cases hy : y ≤ v ∧ u < y
    ·refine ⟨y, .head _, hy.1, fun x hx hxv => ?_⟩
     rcases List.mem_cons.1 hx with rfl | hx
     ·exact Int.le_refl _
     ·have := h3 x hx hxv; omega
    ·refine ⟨u, .tail _ h1, h2, fun x hx hxv => ?_⟩
     rcases List.mem_cons.1 hx with rfl | hx
     ·omega
     ·exact h3 x hx hxv
   ·obtain ⟨x, hx, hxv⟩ := h
    rcases List.mem_cons.1 hx with rfl | hx
    ·refine ⟨x, .head _, hxv, fun z hz hzv => ?_⟩
     rcases List.mem_cons.1 hz with rfl | hz
     ·exact Int.le_refl _
     ·exact (hs ⟨z, hz, hzv⟩).elim
    ·exact (hs ⟨x, hx, hxv⟩).elim
theorem cnt_congr {f : Op → Int} {l : List Op} {c u v : Int} : ∀ (n : Nat), (∀ i, i < n → (f (l.getD i default) > v ↔ f (l.getD i default) > u)) → cnt f l c v n = cnt f l c u n
 | 0, _ => rfl
 | n + 1, h => by
   have := cnt_congr (c := c) n fun i hi => h i (by omega)
   have h1 := h n (by omega)
   simp only [cnt, this, h1]
theorem any_eq {l : List Op} {own : Op} {c r : Int} (hi : InR own) : (zs own l).any (okV l c r) = posB l own c r := by
 obtain ⟨i1, i2, i3⟩ := hi
 rw [Bool.eq_iff_iff]
 unfold posB
 simp only [List.any_eq_true, List.mem_range'_1, Nat.zero_le, true_and, Nat.zero_add]
 constructor
 ·rintro ⟨v, hv, hok⟩
  have hb : own.lo ≤ v ∧ v ≤ own.hi := by
   rcases mem_pk.1 (mem_zs.1 hv) with rfl | ⟨i, _, _, h1, h2⟩ <;> omega
  refine ⟨(v - own.lo).toNat, by unfold wid; omega, ?_⟩
  rw [show own.lo + ((v - own.lo).toNat : Int) = v by omega]
  exact hok
 ·rintro ⟨i, hi, hok⟩
  have hi' : own.lo + (i : Int) ≤ own.hi := by unfold wid at hi; omega
  obtain ⟨u, h1, h2, h3⟩ := top_le (pk own l l.length) (own.lo + i) ⟨own.lo, mem_pk.2 (.inl rfl), by omega⟩
  refine ⟨u, mem_zs.2 h1, ?_⟩
  have hu : own.lo ≤ u := by
   rcases mem_pk.1 h1 with rfl | ⟨_, _, _, h4, _⟩ <;> omega
  have key : ∀ (j : Nat) (x : Int), j < l.length → (x = (l.getD j default).lo ∨ x = (l.getD j default).hi) → (x > own.lo + i ↔ x > u) := by
   intro j x hj hx
   constructor
   ·intro h; omega
   ·intro h
    rcases Int.lt_or_le (own.lo + i) x with h4 | h4
    ·exact h4
    ·have := h3 x (mem_pk.2 (.inr ⟨j, hj, hx, by omega, by omega⟩)) h4
     omega
  have e1 : cnt Op.lo l c (own.lo + i) l.length = cnt Op.lo l c u l.length := cnt_congr _ fun j hj => key j _ hj (.inl rfl)
  have e2 : cnt Op.hi l c (own.lo + i) l.length = cnt Op.hi l c u l.length := cnt_congr _ fun j hj => key j _ hj (.inr rfl)
  unfold okV at hok ⊢
  rwa [e1, e2] at hok
def mkI (zs : List Int) : AV := match zs with | [] => .nils | _ => .sl 1 (zs.map intR)
theorem mkI_isL (zs : List Int) : IsL 1 (zs.map intR) (mkI zs) := by
 cases zs with
 | nil => exact .inr ⟨rfl, rfl⟩
 | cons z zs => exact .inl rfl
theorem mkI_rows (zs : List Int) : (mkI zs).rowsL = zs.map intR := (mkI_isL zs).rows
theorem mkI_snoc (zs : List Int) (z : Int) : AV.sl 1 (zs.map intR ++ [[ia z]]) = mkI (zs ++ [z]) := by
 cases zs <;> simp [mkI, intR]
theorem mkI_ok (zs : List Int) : (Sh.sl [.int .i64]).ok (mkI zs) = true := (mkI_isL zs).ok rfl (by simp [intR])
theorem mkI_len (zs : List Int) : (mkI zs).lenN = zs.length := (mkI_isL zs).lenM
def rks (p : Int → Bool) : Nat → List Int
 | 0 => []
 | i + 1 => rks p i ++ (if p (1 + i) then [1 + (i : Int)] else [])
theorem rks_len (p : Int → Bool) : ∀ i, (rks p i).length ≤ i
 | 0 => Nat.le_refl _
 | i + 1 => by
   have := rks_len p i
   simp only [rks, List.length_append]
   split <;> simp <;> omega
set_option maxHeartbeats 8000000
@[simp] theorem s_mget (Ω : Om) (b : Bool) (es : List (AV × AV)) (k z : AV) : Pr.sem Ω (.mget b) [.im es, k, z] = (match findA k es with | some (some v) => v | _ => z) := rfl
theorem s_mput (Ω : Om) (es : List (AV × AV)) (k v : AV) : Pr.sem Ω .mput [.im es, k, v] = (match updA k v es with | some es => .im es | none => .junk) := rfl
@[simp] theorem s_mnew (Ω : Om) : Pr.sem Ω .mnew [] = .im [] := rfl
theorem fz5 (a b c d e : Int) : F76 [.sl 1 [[ia a], [ia b], [ia c], [ia d], [ia e]]] = some (ia (firstNz [a, b, c, d, e])) :=
 p76 (ns := [a, b, c, d, e]) (.inl rfl) (by simp)
theorem fz2 (a b : Int) : F76 [.sl 1 [[ia a], [ia b]]] = some (ia (firstNz [a, b])) :=
 p76 (ns := [a, b]) (.inl rfl) (by simp)
def seen (l : List Op) (i : Nat) (s : ByteArray) : Bool := (List.range' 0 i).any fun k => decide ((l.getD k default).nm = s)
theorem seen_succ (l : List Op) (i : Nat) (s : ByteArray) : seen l (i + 1) s = (seen l i s || decide ((l.getD i default).nm = s)) := by
 unfold seen
 rw [List.range'_1_concat, List.any_append]
 simp
def errO (l : List Op) (i : Nat) : Int :=
 if isName (l.getD i default).nm = false then 8 else if seen l i (l.getD i default).nm then 9 else if outB (l.getD i default).lo 0 99999 then 3 else if outB (l.getD i default).hi 0 99999 then 3 else if (l.getD i default).lo > (l.getD i default).hi then 11 else 0
def errs (l : List Op) : Option Int := (List.range' 0 l.length).findSome? fun i => if errO l i = 0 then none else some (errO l i)
def endE : Option Int → AV
 | some e => .tuple [ia 1, ia e]
 | none => .tuple [ia 2]
theorem errs_end (l : List Op) : ((List.range' 0 l.length).findSome? fun i => if errO l i = 0 then none else some (AV.tuple [ia 1, ia (errO l i)])).getD (.tuple [ia 2]) = endE (errs l) := by
 unfold errs
 generalize List.range' 0 l.length = s
 induction s with
 | nil => rfl
 | cons i s ih =>
   simp only [List.findSome?_cons]
   by_cases h : errO l i = 0
   ·rw [if_pos h, if_pos h]; exact ih
   ·rw [if_neg h, if_neg h]; rfl
theorem find_str (n m : ByteArray) (v : AV) (es : List (AV × AV)) : findA (.str n) ((.str m, v) :: es) = if n = m then some (some v) else findA (.str n) es := by
 by_cases h : n = m
 ·subst h; simp [findA, keyEq]
 ·simp [findA, keyEq, h]
theorem upd_str (n m : ByteArray) (u v : AV) (es : List (AV × AV)) : updA (.str n) u ((.str m, v) :: es) = if n = m then some ((.str m, u) :: es) else (updA (.str n) u es).map ((.str m, v) :: ·) := by
 by_cases h : n = m
 ·subst h; simp [updA, keyEq]
 ·simp [updA, keyEq, h]
theorem upd_set (n : ByteArray) : ∀ (es : List (AV × AV)), (∀ e ∈ es, ∃ k, e = (.str k, .bool true)) →
  ∃ es', updA (.str n) (.bool true) es = some es' ∧ (∀ e ∈ es', ∃ k, e = (.str k, .bool true)) ∧ ∀ m, findA (.str m) es' = if m = n then some (some (.bool true)) else findA (.str m) es
 | [], _ => by
   refine ⟨[(.str n, .bool true)], by simp [updA], fun e he => ?_, fun m => by rw [find_str]⟩
   cases he with
   | head => exact ⟨_, rfl⟩
   | tail _ he => cases he
 | e :: es, hk => by
   obtain ⟨m, rfl⟩ := hk e (.head _)
   obtain ⟨es', h1, h2, h3⟩ := upd_set n es fun e he => hk e (.tail _ he)
   by_cases hm : n = m
   ·refine ⟨(.str m, .bool true) :: es, by rw [upd_str, if_pos hm], hk, fun k => ?_⟩
    rw [find_str, hm]
    by_cases hn : k = m <;> simp [hn]
   ·refine ⟨(.str m, .bool true) :: es', by rw [upd_str, if_neg hm, h1]; rfl, fun e he => ?_, fun k => ?_⟩
    ·cases he with
     | head => exact ⟨m, rfl⟩
     | tail _ he => exact h2 e he
    ·rw [find_str, find_str, h3]
     by_cases hn : k = m
     ·subst hn; rw [if_pos rfl, if_neg (fun h => hm h.symm), if_pos rfl]
     ·rw [if_neg hn, if_neg hn]
def mapS (l : List Op) : Nat → List (AV × AV)
 | 0 => []
 | i + 1 => match updA (.str (l.getD i default).nm) (.bool true) (mapS l i) with
   | some es => es
   | none => []
theorem mapS_ok (l : List Op) : ∀ i, (∀ e ∈ mapS l i, ∃ k, e = (.str k, .bool true)) ∧ (∀ s, findA (.str s) (mapS l i) = some (if seen l i s then some (.bool true) else none)) ∧
  updA (.str (l.getD i default).nm) (.bool true) (mapS l i) = some (mapS l (i + 1))
 | 0 => by
   refine ⟨fun e he => (by cases he), fun s => rfl, ?_⟩
   simp only [mapS, updA]
 | i + 1 => by
   obtain ⟨h1, h2, h3⟩ := mapS_ok l i
   obtain ⟨es', g1, g2, g3⟩ := upd_set (l.getD i default).nm (mapS l i) h1
   have e : mapS l (i + 1) = es' := by rw [g1] at h3; injection h3 with h3; exact h3.symm
   rw [e]
   refine ⟨g2, fun s => ?_, ?_⟩
   ·rw [g3, h2, seen_succ]
    by_cases hs : s = (l.getD i default).nm
    ·rw [if_pos hs, decide_eq_true hs.symm, Bool.or_true, if_pos rfl]
    ·rw [if_neg hs, decide_eq_false (fun h => hs h.symm), Bool.or_false]
   ·obtain ⟨es'', k1, _, _⟩ := upd_set (l.getD (i + 1) default).nm es' g2
    rw [k1]
    simp only [mapS] at e ⊢
    rw [e, k1]
theorem G3600 {a : AV} {l : List Op} (h : OpsOk a l) : loopG (calO s36) B3600 KK [a, ia l.length, ia 0, .im []] = some (endE (errs l)) := by
 have hn := h.n
 rw [← errs_end]
 refine loop0 (fun i => [a, ia l.length, ia i, .im (mapS l i)]) l.length _ _ (by omega) (fun i hi => ?_) ?_
 ·have hr : nth a.rowsL i = some (Op.row l[i]) := h.is.rowN hi
  have hw := wS (show i < 2097152 by omega)
  have hg : l.getD i default = l[i] := by simp [hi]
  obtain ⟨_, m2, m3⟩ := mapS_ok l i
  have m2 := m2 l[i].nm
  rw [hg] at m3
  have f := p88 (h.sz _ (List.getElem_mem hi))
  unfold errO
  rw [hg]
  rcases Bool.eq_false_or_eq_true (isName l[i].nm) with e1 | e1 <;> rw [e1] at f <;> rcases Bool.eq_false_or_eq_true (seen l i l[i].nm) with e2 | e2 <;> rw [e2] at m2 <;> simp only [if_true, if_false, Bool.false_eq_true] at m2 <;>
   rcases Bool.eq_false_or_eq_true (outB l[i].lo 0 99999) with e3 | e3 <;> rcases Bool.eq_false_or_eq_true (outB l[i].hi 0 99999) with e4 | e4 <;> rcases tf_or (l[i].hi < l[i].lo) with e5 | e5 <;>
    simp [B3600, h.is.lenM, hr, Op.row, hi, hw, f, m2, m3, s_mput, p80, p77, fz5, whenI, fz_cons, fz_nil, e1, e2, e3, e4, e5]
 ·simp [B3600]
def ckOpen (l : List Op) : Int := if l.length = 0 then 12 else if l.length > 160 then 5 else (errs l).getD 0
theorem errs_ne {l : List Op} {e : Int} (h : errs l = some e) : e ≠ 0 := by
 obtain ⟨i, _, h2⟩ := List.exists_of_findSome?_eq_some h
 split at h2
 ·cases h2
 ·rename_i hne; injection h2 with h2; rw [← h2]; exact hne
theorem p36 {a : AV} {l : List Op} (h : OpsOk a l) : F36 [a] = some (ia (ckOpen l)) := by
 have G := G3600 h
 have lN := h.is.lenM
 rcases tf_or (l.length = 0) with e1 | e1
 ·have e1 := of_eq_true e1
  simp [F36, unitF_eq, t36, lN, p80, fz2, whenI, fz_cons, fz_nil, ckOpen, e1]
 ·have e1 := of_eq_false e1
  rcases tf_or (160 < l.length) with e2 | e2
  ·have e2 := of_eq_true e2
   have e3 : (160 : Int) < l.length := by omega
   simp [F36, unitF_eq, t36, lN, p80, fz2, whenI, fz_cons, fz_nil, ckOpen, e1, e2, e3]
  ·have e2 := of_eq_false e2
   have e3 : ¬ ((160 : Int) < l.length) := by omega
   cases he : errs l with
   | none => rw [he] at G; simp [endE] at G; simp [F36, unitF_eq, t36, lN, p80, fz2, whenI, fz_cons, fz_nil, ckOpen, e1, e2, e3, G, he]
   | some e => rw [he] at G; simp [endE] at G; simp [F36, unitF_eq, t36, lN, p80, fz2, whenI, fz_cons, fz_nil, ckOpen, e1, e2, e3, G, he]
theorem G3701 {Ω : Om} {a : AV} {l : List Op} (h : OpsOk a l) {i : Nat} (hi : i < l.length) (s : ByteArray) (x y : Int) :
  loopG Ω B3701 KK [a, ia i, ia 0, .str s, ia x, ia y] = some (if seen l i s then .tuple [ia 1] else .tuple [ia 2, a, ia i, .str s, ia x, ia y]) := by
 have hn := h.n
 have := loop0 (Ω := Ω) (B := B3701) (fun k => [a, ia i, ia k, .str s, ia x, ia y]) i (fun k => if decide ((l.getD k default).nm = s) then some (.tuple [ia 1]) else none) (.tuple [ia 2, a, ia i, .str s, ia x, ia y]) (by omega) (fun k hk => by
  have hr : nth a.rowsL k = some (Op.row l[k]) := h.is.rowN (by omega)
  have hw := wS (show k < 2097152 by omega)
  have hg : l.getD k default = l[k] := by simp [show k < l.length by omega]
  rw [hg]
  rcases tf_or (l[k].nm = s) with e1 | e1 <;> simp [B3701, h.is.lenM, hr, Op.row, hk, show k < l.length by omega, hw, e1]) (by simp [B3701])
 rw [find_any] at this
 refine Eq.trans this ?_
 unfold seen
 split <;> rfl
theorem G3700 {a : AV} {l : List Op} (h : OpsOk a l) : loopG (omL KK s37 [d3701]) B3700 KK [a, ia 0] = some (endE (errs l)) := by
 have hn := h.n
 rw [← errs_end]
 refine loop0 (fun i => [a, ia i]) l.length _ _ (by omega) (fun i hi => ?_) ?_
 ·have hr : nth a.rowsL i = some (Op.row l[i]) := h.is.rowN hi
  have hw := wS (show i < 2097152 by omega)
  have hg : l.getD i default = l[i] := by simp [hi]
  have f := p89 (h.sz _ (List.getElem_mem hi))
  have G := G3701 (Ω := calO s37) h hi l[i].nm l[i].lo l[i].hi
  unfold errO
  rw [hg]
  rcases Bool.eq_false_or_eq_true (isName l[i].nm) with e1 | e1 <;> rw [e1] at f <;> rcases Bool.eq_false_or_eq_true (seen l i l[i].nm) with e2 | e2 <;> rw [e2] at G <;> simp only [if_true, if_false, Bool.false_eq_true] at G <;>
   rcases tf_or (l[i].lo < 0) with e3 | e3 <;> rcases tf_or (99999 < l[i].lo) with e4 | e4 <;> rcases tf_or (l[i].hi < 0) with e5 | e5 <;> rcases tf_or (99999 < l[i].hi) with e6 | e6 <;> rcases tf_or (l[i].hi < l[i].lo) with e7 | e7 <;>
    simp [B3700, h.is.lenM, hr, Op.row, hi, hw, f, G, outB, e1, e2, e3, e4, e5, e6, e7]
 ·simp [B3700, h.is.lenM]
theorem p37 {a : AV} {l : List Op} (h : OpsOk a l) : F37 [a] = some (ia (ckOpen l)) := by
 have G := G3700 h
 have lN := h.is.lenM
 rcases tf_or (l.length = 0) with e1 | e1
 ·have e1 := of_eq_true e1
  simp [F37, unitF_eq, t37, lN, ckOpen, e1]
 ·have e1 := of_eq_false e1
  rcases tf_or (160 < l.length) with e2 | e2
  ·have e2 := of_eq_true e2
   have e3 : (160 : Int) < l.length := by omega
   simp [F37, unitF_eq, t37, lN, ckOpen, e1, e2, e3]
  ·have e2 := of_eq_false e2
   have e3 : ¬ ((160 : Int) < l.length) := by omega
   cases he : errs l with
   | none => rw [he] at G; simp [endE] at G; simp [F37, unitF_eq, t37, lN, ckOpen, e1, e2, e3, G, he]
   | some e => rw [he] at G; simp [endE] at G; simp [F37, unitF_eq, t37, lN, ckOpen, e1, e2, e3, G, he]
def bad (l : List Op) (c : Int) : Int := if ckOpen l ≠ 0 then ckOpen l else if c < 0 ∨ c ≥ l.length then 10 else 0
theorem ck0 {l : List Op} (h : ckOpen l = 0) : 1 ≤ l.length ∧ l.length ≤ 160 ∧ ∀ i (hi : i < l.length), InR l[i] := by
 unfold ckOpen at h
 split at h
 ·cases h
 rename_i h1
 split at h
 ·cases h
 rename_i h2
 refine ⟨by omega, by omega, fun i hi => ?_⟩
 cases he : errs l with
 | some e => rw [he] at h; exact (errs_ne he h).elim
 | none =>
   have h3 := List.findSome?_eq_none_iff.1 he i (by simp only [List.mem_range'_1]; omega)
   split at h3
   case isFalse => cases h3
   rename_i h4
   unfold errO at h4
   rw [show l.getD i default = l[i] by simp [hi]] at h4
   by_cases e1 : isName l[i].nm = false
   ·rw [if_pos e1] at h4; cases h4
   rw [if_neg e1] at h4
   by_cases e2 : seen l i l[i].nm = true
   ·rw [if_pos e2] at h4; cases h4
   rw [if_neg e2] at h4
   by_cases e3 : outB l[i].lo 0 99999 = true
   ·rw [if_pos e3] at h4; cases h4
   rw [if_neg e3] at h4
   by_cases e4 : outB l[i].hi 0 99999 = true
   ·rw [if_pos e4] at h4; cases h4
   rw [if_neg e4] at h4
   by_cases e5 : l[i].lo > l[i].hi
   ·rw [if_pos e5] at h4; cases h4
   simp [outB] at e3 e4
   exact ⟨by omega, by omega, by omega⟩
theorem p35 {a : AV} {l : List Op} (h : OpsOk a l) (c : Int) : F35 [a, ia c, ia 1] = some (ia (bad l c)) := by
 have lN := h.is.lenM
 unfold bad
 rcases tf_or (ckOpen l = 0) with e1 | e1
 ·have e1' := of_eq_true e1
  have hl := (ck0 e1').1
  have e4 : ¬ ((l.length : Int) < 1) := by omega
  rcases tf_or (c < 0) with e2 | e2 <;> rcases tf_or ((l.length : Int) ≤ c) with e3 | e3 <;> simp [F35, unitF_eq, t35, p37 h, lN, e1', e2, e3, e4]
 ·simp [F35, unitF_eq, t35, p37 h, lN, e1]
theorem p86 {a : AV} {l : List Op} (h : OpsOk a l) (c : Int) : F86 [a, ia c] = some (ia (bad l c)) := by
 have lN := h.is.lenM
 unfold bad
 rcases tf_or (ckOpen l = 0) with e1 | e1 <;> rcases tf_or (c < 0) with e2 | e2 <;> rcases tf_or ((l.length : Int) ≤ c) with e3 | e3 <;>
  simp [F86, unitF_eq, t86, p36 h, p80, fz2, whenI, fz_cons, fz_nil, lN, e1, e2, e3]
theorem bad0 {l : List Op} {c : Int} (h : bad l c = 0) : ∃ k : Nat, c = k ∧ k < l.length ∧ ckOpen l = 0 := by
 unfold bad at h
 split at h
 ·rename_i h1; exact (h1 h).elim
 ·rename_i h1
  split at h
  ·cases h
  ·exact ⟨c.toNat, by omega, by omega, by simpa using h1⟩
def mkO (l : List Op) : AV := match l with | [] => .nils | _ => .sl 3 (l.map Op.row)
theorem mkO_isL (l : List Op) : IsL 3 (l.map Op.row) (mkO l) := by
 cases l with
 | nil => exact .inr ⟨rfl, rfl⟩
 | cons z zs => exact .inl rfl
theorem mkO_rows (l : List Op) : (mkO l).rowsL = l.map Op.row := (mkO_isL l).rows
theorem mkO_snoc (l : List Op) (z : Op) : AV.sl 3 (l.map Op.row ++ [[.str z.nm, ia z.lo, ia z.hi]]) = mkO (l ++ [z]) := by
 cases l <;> simp [mkO, Op.row]
theorem mkO_ok (l : List Op) : (Sh.sl [.str, .int .i64, .int .i64]).ok (mkO l) = true := (mkO_isL l).ok rfl (by simp [Op.row])
theorem take_snoc {α : Type} {l : List α} {i : Nat} (hi : i < l.length) : l.take (i + 1) = l.take i ++ [l[i]] := by
 rw [List.take_add_one, List.getElem?_eq_getElem hi]; rfl
theorem G3400 {Ω : Om} {a : AV} {l : List Op} (h : OpsOk a l) : loopG Ω B3400 KK [.nils, a, ia l.length, ia 0] = some (.tuple [ia 1, mkO l]) := by
 have hn := h.n
 have := loopF (Ω := Ω) (B := B3400) (fun i => [mkO (l.take i), a, ia l.length, ia i]) l.length (.tuple [ia 1, mkO (l.take l.length)]) (by omega) (fun i hi => by
  have hr : nth a.rowsL i = some (Op.row l[i]) := h.is.rowN hi
  have hw := wS (show i < 2097152 by omega)
  have b2 : ((i : Int) + 1) ≤ 1073741824 := by omega
  rw [take_snoc hi, ← mkO_snoc]
  have hm : min i l.length = i := by omega
  simp [B3400, h.is.lenM, hr, Op.row, hi, hw, mkO_rows, b2, hm]) (by simp [B3400])
 rw [List.take_length] at this
 exact this
theorem p34 {a : AV} {l : List Op} (h : OpsOk a l) : F34 [a] = some (mkO l) := by
 simp [F34, unitF_eq, t34, G3400 h, h.is.lenM]
theorem mkO_OpsOk {a : AV} {l : List Op} (h : OpsOk a l) : OpsOk (mkO l) l := ⟨mkO_isL l, h.n, h.sz⟩
theorem p32 {a : AV} {l : List Op} (h : OpsOk a l) : ∃ b, F32 [a, ia 8] = some (.bool b) := by
 have hn := h.n
 have lN := h.is.lenM
 have f := p37 h
 have hG : ∃ b : Bool, loopG (calO s32) B3200 KK [a, ia 0] = some (if b then .tuple [ia 1] else .tuple [ia 2]) := by
  have := loop0 (Ω := calO s32) (B := B3200) (fun i => [a, ia i]) l.length
   (fun i => if (decide (40 < (l.getD i default).nm.size) || (decide (IntKind.i64.wrap ((l.getD i default).lo + 100) < (l.getD i default).hi) && decide (ckOpen l = 0))) then some (.tuple [ia 1]) else none) (.tuple [ia 2]) (by omega) (fun i hi => by
    have hr : nth a.rowsL i = some (Op.row l[i]) := h.is.rowN hi
    have hw := wS (show i < 2097152 by omega)
    have hg : l.getD i default = l[i] := by simp [hi]
    rw [hg]
    have z1 : ((40 : Int) < (l[i].nm.size : Int)) = (40 < l[i].nm.size) := by rw [eq_iff_iff]; omega
    rcases tf_or (40 < l[i].nm.size) with e1 | e1 <;> rcases tf_or (IntKind.i64.wrap (l[i].lo + 100) < l[i].hi) with e2 | e2 <;> rcases tf_or (ckOpen l = 0) with e3 | e3 <;>
     simp [B3200, lN, hr, Op.row, hi, hw, f, z1, e1, e2, e3]) (by simp [B3200, lN])
  rw [find_any] at this
  refine ⟨(List.range' 0 l.length).any fun i => (decide (40 < (l.getD i default).nm.size) || (decide (IntKind.i64.wrap ((l.getD i default).lo + 100) < (l.getD i default).hi) && decide (ckOpen l = 0))), Eq.trans this ?_⟩
  split <;> rfl
 obtain ⟨b, G⟩ := hG
 rcases tf_or ((8 : Int) < l.length) with e1 | e1 <;> rcases tf_or ((l.length : Int) ≤ 160) with e2 | e2 <;> rcases tf_or ((162 : Int) < l.length) with e3 | e3 <;> cases b <;> simp at G <;>
  simp [F32, unitF_eq, t32, lN, G, e1, e2, e3]
theorem rks_len' (p : Int → Bool) (n : Nat) (h : n ≤ 160) : (rks p n).length < 2097152 := by
 have := rks_len p n
 omega
theorem G2200 {Ω : Om} {a b : AV} {ns : List Int} (h : IsL 1 (ns.map intR) a) (h' : IsL 1 (ns.map intR) b) (hn : ns.length < 2097152) :
  loopG Ω B2200 KK [a, b, ia 0] = some (.tuple [ia 2]) := by
 refine loopF (fun i => [a, b, ia i]) ns.length _ hn (fun i hi => ?_) ?_
 ·have hr : nth a.rowsL i = some (intR ns[i]) := h.rowN hi
  have hr' : nth b.rowsL i = some (intR ns[i]) := h'.rowN hi
  have hw := wS (show i < 2097152 by omega)
  simp [B2200, h.lenM, h'.lenM, hr, hr', intR, hi, hw]
 ·simp [B2200, h.lenM]
theorem p22 {a b : AV} {ns : List Int} (h : IsL 1 (ns.map intR) a) (h' : IsL 1 (ns.map intR) b) (hn : ns.length < 2097152) : F22 [a, b] = some (.bool true) := by
 simp [F22, unitF_eq, t22, G2200 h h' hn, h.lenM, h'.lenM]
theorem G3300 {a : AV} {l : List Op} (h : OpsOk a l) (hl : l.length ≤ 160) {c : Nat} (hc : c < l.length) (hi : InR l[c]) :
  loopG (calO s33) B3300 KK [a, ia c, .nils, ia 1] = some (.tuple [ia 1, mkI (rks (posB l l[c] c) l.length)]) := by
 refine loopF (fun i => [a, ia c, mkI (rks (posB l l[c] c) i), ia (1 + i)]) l.length _ (by omega) (fun i hi' => ?_) ?_
 ·have w1 : IntKind.i64.wrap (1 + (i : Int) + 1) = 1 + (i + 1) := by rw [i64w (by omega) (by omega)]; omega
  obtain ⟨u, hp⟩ := p87 h hl hc (1 + i)
  rw [any_eq hi] at hp
  have hle : 1 + (i : Int) ≤ l.length := by omega
  have b1 := rks_len (posB l l[c] c) i
  have b2 : ((rks (posB l l[c] c) i).length : Int) + 1 ≤ 1073741824 := by omega
  simp only [rks]
  cases hq : posB l l[c] c (1 + i) <;> rw [hq] at hp <;> simp [B3300, h.is.lenM, hle, hp, w1, mkI_rows, mkI_snoc, mkI_len, b2]
 ·have hle : ¬ (1 + (l.length : Int) ≤ l.length) := by omega
  simp [B3300, h.is.lenM, hle]
theorem p33 {a : AV} {l : List Op} (h : OpsOk a l) {c : Nat} (hb : bad l c = 0) (hc : c < l.length) : F33 [a, ia c] = some (.tuple [mkI (rks (posB l l[c] c) l.length), ia 0]) := by
 obtain ⟨k, hk, _, hck⟩ := bad0 hb
 obtain ⟨_, h2, h3⟩ := ck0 hck
 have f := p86 h c
 rw [hb] at f
 simp [F33, unitF_eq, t33, f, G3300 h h2 hc (h3 c hc)]
theorem p33' {a : AV} {l : List Op} (h : OpsOk a l) {c : Int} (hb : bad l c ≠ 0) : F33 [a, ia c] = some (.tuple [.nils, ia (bad l c)]) := by
 have f := p86 h c
 simp [F33, unitF_eq, t33, f, hb]
set_option maxHeartbeats 4000000
theorem fz3' (a b c : Int) : F76 [.sl 1 [[ia a], [ia b], [ia c]]] = some (ia (firstNz [a, b, c])) :=
 p76 (ns := [a, b, c]) (.inl rfl) (by simp)
theorem any_find {α : Type} (p : α → Bool) (l : List α) : (l.findSome? fun e => if p e then some (AV.tuple [ia 1]) else none) = if l.any p then some (.tuple [ia 1]) else none := by
 induction l with
 | nil => rfl
 | cons e l ih =>
   rw [List.findSome?_cons, List.any_cons]
   cases h : p e
   ·simpa using ih
   ·rfl
theorem G12400 {Ω : Om} {a : AV} {ns : List ByteArray} (h : IsL 1 (ns.map strR) a) (hn : ns.length < 2097152) (s : ByteArray) :
  loopG Ω B12400 KK [a, .str s, ia ns.length, ia 0] = some (((List.range' 0 ns.length).findSome? fun i => if s = ns.getD i s then some (.tuple [ia 1, ia i]) else none).getD (.tuple [ia 2])) := by
 refine loop0 (fun i => [a, .str s, ia ns.length, ia i]) ns.length _ _ hn (fun i hi => ?_) ?_
 ·have hr : nth a.rowsL (Int.toNat (i : Int)) = some [.str ns[i]] := h.row hi
  have hw := wS (Nat.lt_trans hi hn)
  have hg : ns.getD i s = ns[i] := by simp [hi]
  simp only [hg]
  by_cases hc : s = ns[i] <;> simp_all [B12400, h.lenM]
 ·simp [B12400]
def stsL : List ByteArray := [w0, w1, w2, w3]
def gradeI (s : ByteArray) : Int := if s = w0 then 0 else if s = w1 then 1 else if s = w2 then 2 else if s = w3 then 3 else -1
abbrev stA : AV := .sl 1 [[.str w0], [.str w1], [.str w2], [.str w3]]
theorem p125 : F125 [] = some stA := by simp [F125, unitF_eq, t125]; rfl
theorem p124g (s : ByteArray) : F124 [stA, .str s] = some (ia (gradeI s)) := by
 have hG := @G12400 (calO s124) stA stsL (.inl rfl) (by decide) s
 have e : List.range' 0 stsL.length = [0, 1, 2, 3] := rfl
 rw [e] at hG
 have hl : (stsL.length : Int) = 4 := rfl
 rw [hl] at hG
 unfold gradeI
 rcases tf_or (s = w0) with h0 | h0 <;> rcases tf_or (s = w1) with h1 | h1 <;> rcases tf_or (s = w2) with h2 | h2 <;> rcases tf_or (s = w3) with h3 | h3 <;>
  simp [stsL, h0, h1, h2, h3] at hG <;> simp [F124, unitF_eq, t124, hG, h0, h1, h2, h3]
theorem p95g (s : ByteArray) : F95 [stA, .str s] = some (.bool (decide (gradeI s ≥ 0))) := by
 simp [F95, unitF_eq, t95, p124g]
def cmpI (a b : Int) : Int := if a < b then -1 else if a > b then 1 else 0
theorem p156 (a : Int) : F156 [ia a] = some (.bool false) := by
 simp [F156, unitF_eq, t156]
theorem p123 (a b : Int) : F123 [ia a, ia b] = some (ia (cmpI a b)) := by
 by_cases h : a < b <;> simp [F123, unitF_eq, t123, p156, cmpI, h]
def outM (n : Int) : Bool := decide (n < -999999999) || decide (n > 999999999)
theorem p128 (n : Int) : F128 [ia n] = some (.bool (outM n)) := by
 by_cases h : n < -999999999 <;> simp [F128, unitF_eq, t128, outM, h]
def farV (rs : List Int) : Bool := rs.any outM
theorem G13300 {a : AV} {rs : List Int} (h : IsL 1 (rs.map intR) a) (hn : rs.length < 1048577) :
  ∃ r, loopG (calO s133) B13300 KK [a, ia rs.length, ia 0] = some r ∧ ((farV rs = true ∧ ∃ i : Nat, r = .tuple [ia 1, ia i]) ∨ (farV rs = false ∧ r = .tuple [ia 2])) := by
 have hG := loop0 (Ω := calO s133) (B := B13300) (fun i => [a, ia rs.length, ia i]) rs.length (fun i => if outM (rs.getD i 0) then some (.tuple [ia 1, ia i]) else none) (.tuple [ia 2]) (by omega) (fun i hi => by
  have hr : nth a.rowsL (Int.toNat (i : Int)) = some [ia rs[i]] := h.row hi
  have hw := wS (i := i) (by omega)
  have hg : rs.getD i 0 = rs[i] := by simp [hi]
  have hp := p128 rs[i]
  simp only [Int.toNat_natCast] at hr
  push_cast at hw
  rw [hg]
  cases hc : outM rs[i] <;> rw [hc] at hp <;> simp [B13300, h.lenM, hr, hi, hw, hp]) (by simp [B13300])
 refine ⟨_, hG, ?_⟩
 cases hb : farV rs
 ·right
  refine ⟨rfl, ?_⟩
  rw [List.findSome?_eq_none_iff.2 (fun i hi => ?_)]
  ·rfl
  ·have hl : i < rs.length := by simp only [List.mem_range'_1] at hi; omega
   have : outM rs[i] = false := by
    have := List.any_eq_false.1 hb rs[i] (List.getElem_mem hl)
    simpa using this
   simp [hl, this]
 ·left
  refine ⟨rfl, ?_⟩
  cases hf : (List.range' 0 rs.length).findSome? fun i => if outM (rs.getD i 0) then some (AV.tuple [ia 1, ia i]) else none with
  | none =>
    exfalso
    obtain ⟨x, hx, hy⟩ := List.any_eq_true.1 hb
    obtain ⟨i, hi, rfl⟩ := List.getElem_of_mem hx
    have := List.findSome?_eq_none_iff.1 hf i (by simp only [List.mem_range'_1]; omega)
    simp [hi, hy] at this
  | some r =>
    obtain ⟨i, hi, hr⟩ := List.exists_of_findSome?_eq_some hf
    refine ⟨i, ?_⟩
    split at hr
    ·injection hr with hr; rw [← hr]; rfl
    ·cases hr
theorem p96 {a : AV} {rs : List Int} (h : IsL 1 (rs.map intR) a) (hn : rs.length < 1048577) : F96 [a] = some (.bool (farV rs)) := by
 obtain ⟨r, hG, hr⟩ := G13300 h hn
 have h1 : ∃ j : Int, F133 [a] = some (ia j) ∧ (decide (j ≥ 0) = farV rs) := by
  rcases hr with ⟨h1, i, rfl⟩ | ⟨h1, rfl⟩
  ·exact ⟨i, by simp [F133, unitF_eq, t133, h.lenM, hG], by simp [h1]⟩
  ·exact ⟨-1, by simp [F133, unitF_eq, t133, h.lenM, hG], by simp [h1]⟩
 obtain ⟨j, h1, h2⟩ := h1
 simp [F96, unitF_eq, t96, h1, ← h2]
structure Rs where
 nm : ByteArray
 st : ByteArray
 va : AV
 xs : List Int
 deriving Inhabited
def Rs.row (r : Rs) : List AV := [.str r.nm, .str r.st, r.va]
structure RsOk (r : Rs) : Prop where
 l : IsL 1 (r.xs.map intR) r.va
 n : r.xs.length < 1048577
 z : r.nm.size < 1048577
def ckRes (r : Rs) : Int := if !isName r.nm then 8 else if gradeI r.st < 0 then 13 else if r.st ≠ w0 ∧ r.xs.length > 0 then 1 else if r.xs.length > 8 then 5 else if farV r.xs then 3 else 0
theorem p79 {r : Rs} (h : RsOk r) : F79 r.row = some (ia (ckRes r)) := by
 have h1 := p88 (s := r.nm) (by have := h.z; omega)
 have h2 := p96 h.l h.n
 have h3 : r.va.lenN = r.xs.length := h.l.lenM
 unfold ckRes
 generalize r.xs.length = m at *
 generalize farV r.xs = fv at *
 have q1 : ((8 : Int) < m) = (8 < m) := propext (by omega)
 have q4 : ((m : Int) ≤ 8) = ¬ (8 < m) := propext (by omega)
 have q2 : ((0 : Int) < m) = (0 < m) := by simp
 have q3 : (0 ≤ gradeI r.st) = ¬ gradeI r.st < 0 := by simp
 rcases tf_or (8 < m) with e5 | e5 <;> rcases tf_or (0 < m) with e4 | e4 <;> cases e1 : isName r.nm <;> rcases tf_or (r.st = w0) with e2 | e2 <;> rcases tf_or (gradeI r.st < 0) with e3 | e3 <;> cases fv <;>
  simp [F79, unitF_eq, t79, Rs.row, h1, h2, h3, p125, p95g, p80, fz5, whenI, fz_cons, fz_nil, e1, e2, e3, e4, e5, q1, q3, q4]
def cmpL : List Int → List Int → Int
 | x :: xs, y :: ys => if x = y then cmpL xs ys else cmpI x y
 | _, _ => 0
theorem cmpI_ne {x y : Int} (h : x ≠ y) : cmpI x y ≠ 0 := by
 unfold cmpI; split
 ·omega
 ·split <;> omega
theorem cmp_find : ∀ {xs ys : List Int}, xs.length = ys.length → ((List.range' 0 xs.length).findSome? fun i => if xs.getD i 0 = ys.getD i 0 then none else some (AV.tuple [ia 1, ia (cmpI (xs.getD i 0) (ys.getD i 0))])) = if cmpL xs ys = 0 then none else some (.tuple [ia 1, ia (cmpL xs ys)])
 | [], [], _ => rfl
 | x :: xs, y :: ys, h => by
   have ih := cmp_find (xs := xs) (ys := ys) (by simpa using h)
   rw [List.length_cons, List.range'_succ, List.findSome?_cons]
   by_cases e : x = y
   ·subst e
    simp only [List.getD_cons_zero, if_true, cmpL]
    rw [← ih]
    have : ∀ (f : Nat → Option AV) (n k : Nat), (List.range' (k + 1) n).findSome? f = (List.range' k n).findSome? fun i => f (i + 1) := by
     intro f n
     induction n with
     | zero => intro k; rfl
     | succ n ih => intro k; rw [List.range'_succ, List.range'_succ, List.findSome?_cons, List.findSome?_cons, ih (k + 1)]
    rw [show (0 + 1 : Nat) = 0 + 1 from rfl, this]
    rfl
   ·have e1 := cmpI_ne e
    simp [cmpL, e, e1]
theorem G10300 {a b : AV} {xs ys : List Int} (h : IsL 1 (xs.map intR) a) (h' : IsL 1 (ys.map intR) b) (hl : xs.length = ys.length) (hn : xs.length < 1048577) :
  loopG (calO s103) B10300 KK [a, b, ia xs.length, ia 0] = some (if cmpL xs ys = 0 then .tuple [ia 2, a, b] else .tuple [ia 1, ia (cmpL xs ys)]) := by
 have hG := loop0 (Ω := calO s103) (B := B10300) (fun i => [a, b, ia xs.length, ia i]) xs.length (fun i => if xs.getD i 0 = ys.getD i 0 then none else some (.tuple [ia 1, ia (cmpI (xs.getD i 0) (ys.getD i 0))])) (.tuple [ia 2, a, b]) (by omega) (fun i hi => by
  have hi' : i < ys.length := by omega
  have hr : nth a.rowsL (Int.toNat (i : Int)) = some [ia xs[i]] := h.row hi
  have hr' : nth b.rowsL (Int.toNat (i : Int)) = some [ia ys[i]] := h'.row hi'
  have hw := wS (i := i) (by omega)
  have hg : xs.getD i 0 = xs[i] := by simp [hi]
  have hg' : ys.getD i 0 = ys[i] := by simp [hi']
  rw [hg, hg']
  have hb : b.lenN = xs.length := by rw [h'.lenM, hl]
  generalize xs[i] = x at *
  generalize ys[i] = y at *
  have c := p123 x y
  have hi2 : ¬ xs.length ≤ i := by omega
  simp only [Int.toNat_natCast] at hr hr'
  push_cast at hw
  by_cases e : x = y
  ·subst e
   have e0 : cmpI x x = 0 := by simp [cmpI]
   simp [B10300, h.lenM, hb, hr, hr', hi, hi2, hw, c, e0]
  ·have e1 := cmpI_ne e
   simp [B10300, h.lenM, hb, hr, hr', hi, hi2, hw, c, e, e1]) (by simp [B10300])
 rw [cmp_find hl] at hG
 refine Eq.trans hG ?_
 split <;> rfl
theorem p103 {a b : AV} {xs ys : List Int} (h : IsL 1 (xs.map intR) a) (h' : IsL 1 (ys.map intR) b) (hl : xs.length = ys.length) (hn : xs.length < 1048577) : F103 [a, b] = some (ia (cmpL xs ys)) := by
 have hG := G10300 h h' hl hn
 have h1 : a.lenN = xs.length := h.lenM
 have h2 : b.lenN = xs.length := by rw [h'.lenM, hl]
 by_cases e : cmpL xs ys = 0 <;> simp [e] at hG <;> simp [F103, unitF_eq, t103, h1, h2, hG, e]
def cmpR (a b : Rs) : Int := if cmpI (gradeI a.st) (gradeI b.st) ≠ 0 then cmpI (gradeI a.st) (gradeI b.st) else cmpL b.xs a.xs
theorem cmpI_0 {x y : Int} : cmpI x y = 0 ↔ x = y := by
 constructor
 ·intro h
  exact Decidable.not_not.1 fun q => cmpI_ne q h
 ·rintro rfl; simp [cmpI]
theorem p75 {a b : Rs} (ha : RsOk a) (hb : RsOk b) (hl : gradeI a.st = gradeI b.st → b.xs.length = a.xs.length) : F75 (a.row ++ b.row) = some (ia (cmpR a b)) := by
 have c := p123 (gradeI a.st) (gradeI b.st)
 unfold cmpR
 by_cases e : cmpI (gradeI a.st) (gradeI b.st) = 0
 ·have d := p103 hb.l ha.l (hl (cmpI_0.1 e)) hb.n
  simp [F75, unitF_eq, t75, Rs.row, p125, p124g, c, d, e]
 ·simp [F75, unitF_eq, t75, Rs.row, p125, p124g, c, e]
set_option maxHeartbeats 8000000
structure RssOk (a : AV) (l : List Rs) : Prop where
 is : IsL 3 (l.map Rs.row) a
 n : l.length < 1048577
 ok : ∀ r ∈ l, RsOk r
def nmO (l : List Rs) : List Op := l.map fun r => ⟨r.nm, 0, 0⟩
theorem nmO_get {l : List Rs} {i : Nat} (hi : i < l.length) : ((nmO l).getD i default).nm = l[i].nm := by simp [nmO, hi]
def cn (l : List Rs) : Nat → Int
 | 0 => -1
 | i + 1 => if (l.getD i default).st = w0 then (if cn l i < 0 then ((l.getD i default).xs.length : Int) else cn l i) else cn l i
def errR (l : List Rs) (i : Nat) : Int :=
 if ckRes (l.getD i default) ≠ 0 then ckRes (l.getD i default) else if seen (nmO l) i (l.getD i default).nm then 9
 else if (l.getD i default).st = w0 ∧ ((l.getD i default).xs.length : Int) ≠ (if cn l i < 0 then ((l.getD i default).xs.length : Int) else cn l i) then 2 else 0
def errsR (l : List Rs) : Option Int := (List.range' 0 l.length).findSome? fun i => if errR l i = 0 then none else some (errR l i)
theorem errsR_end (l : List Rs) : ((List.range' 0 l.length).findSome? fun i => if errR l i = 0 then none else some (AV.tuple [ia 1, ia (errR l i)])).getD (.tuple [ia 2]) = endE (errsR l) := by
 unfold errsR
 generalize List.range' 0 l.length = s
 induction s with
 | nil => rfl
 | cons i s ih =>
   simp only [List.findSome?_cons]
   by_cases h : errR l i = 0
   ·rw [if_pos h, if_pos h]; exact ih
   ·rw [if_neg h, if_neg h]; rfl
theorem G2100 {a : AV} {l : List Rs} (h : RssOk a l) : loopG (calO s21) B2100 KK [ia (-1), a, ia l.length, ia 0, .im []] = some (endE (errsR l)) := by
 have hn := h.n
 rw [← errsR_end]
 refine loop0 (fun i => [ia (cn l i), a, ia l.length, ia i, .im (mapS (nmO l) i)]) l.length _ _ (by omega) (fun i hi => ?_) ?_
 ·have hr : nth a.rowsL i = some (Rs.row l[i]) := h.is.rowN hi
  have hw := wS (show i < 2097152 by omega)
  have hg : l.getD i default = l[i] := by simp [hi]
  obtain ⟨_, m2, m3⟩ := mapS_ok (nmO l) i
  have m2 := m2 l[i].nm
  rw [nmO_get hi] at m3
  have hok := h.ok _ (List.getElem_mem hi)
  have f := p79 hok
  have hl : l[i].va.lenN = l[i].xs.length := hok.l.lenM
  simp only [Rs.row] at f hr
  unfold errR
  simp only [cn, hg]
  generalize ckRes l[i] = e at *
  rcases tf_or (e = 0) with e1 | e1 <;> rcases Bool.eq_false_or_eq_true (seen (nmO l) i l[i].nm) with e2 | e2 <;> rw [e2] at m2 <;> simp only [if_true, if_false, Bool.false_eq_true] at m2 <;>
   rcases tf_or (l[i].st = w0) with e3 | e3 <;> rcases tf_or (cn l i < 0) with e4 | e4 <;> rcases tf_or ((l[i].xs.length : Int) = cn l i) with e5 | e5 <;>
    simp [B2100, h.is.lenM, hr, hi, hw, f, hl, m2, m3, s_mput, p80, fz2, whenI, fz_cons, fz_nil, e1, e2, e3, e4, e5]
 ·simp [B2100]
def ckRound (l : List Rs) : Int := if l.length > 160 then 5 else (errsR l).getD 0
theorem p21 {a : AV} {l : List Rs} (h : RssOk a l) : F21 [a] = some (ia (ckRound l)) := by
 have G := G2100 h
 have lN := h.is.lenM
 unfold ckRound
 rcases tf_or (160 < l.length) with e2 | e2
 ·have e2 := of_eq_true e2
  have e3 : (160 : Int) < l.length := by omega
  simp [F21, unitF_eq, t21, lN, e2, e3]
 ·have e2 := of_eq_false e2
  have e3 : ¬ ((160 : Int) < l.length) := by omega
  cases he : errsR l with
  | none => rw [he] at G; simp [endE] at G; simp [F21, unitF_eq, t21, lN, e2, e3, G]
  | some e => rw [he] at G; simp [endE] at G; simp [F21, unitF_eq, t21, lN, e2, e3, G]
structure RoundOk (l : List Rs) : Prop where
 n : l.length ≤ 160
 res : ∀ i (hi : i < l.length), ckRes l[i] = 0
 nms : ∀ i (hi : i < l.length), seen (nmO l) i l[i].nm = false
 len : ∀ i (hi : i < l.length) k (hk : k < l.length), l[i].st = w0 → l[k].st = w0 → l[i].xs.length = l[k].xs.length
theorem ckRes0 {r : Rs} (h : ckRes r = 0) : ¬ gradeI r.st < 0 ∧ (r.st ≠ w0 → r.xs = []) := by
 unfold ckRes at h
 split at h
 ·cases h
 split at h
 ·cases h
 rename_i h2
 split at h
 ·cases h
 rename_i h3
 refine ⟨h2, fun hne => ?_⟩
 have : ¬ r.xs.length > 0 := fun hp => h3 ⟨hne, hp⟩
 exact List.length_eq_zero_iff.1 (by omega)
theorem errsR_ne {l : List Rs} {e : Int} (h : errsR l = some e) : e ≠ 0 := by
 obtain ⟨i, _, h2⟩ := List.exists_of_findSome?_eq_some h
 split at h2
 ·cases h2
 ·rename_i hne; injection h2 with h2; rw [← h2]; exact hne
theorem ckRound0 {l : List Rs} (h : ckRound l = 0) : RoundOk l := by
 unfold ckRound at h
 split at h
 ·cases h
 rename_i h1
 cases he : errsR l with
 | some e => rw [he] at h; exact (errsR_ne he h).elim
 | none =>
   have hz : ∀ i (hi : i < l.length), errR l i = 0 := fun i hi => by
    have h3 := List.findSome?_eq_none_iff.1 he i (by simp only [List.mem_range'_1]; omega)
    split at h3
    ·rename_i h4; exact h4
    ·cases h3
   have hg : ∀ i (hi : i < l.length), l.getD i default = l[i] := fun i hi => by simp [hi]
   have hall : ∀ i (hi : i < l.length), ckRes l[i] = 0 ∧ seen (nmO l) i l[i].nm = false ∧ (l[i].st = w0 → ((l[i].xs.length : Int) = (if cn l i < 0 then (l[i].xs.length : Int) else cn l i))) := fun i hi => by
    have h4 := hz i hi
    unfold errR at h4
    rw [hg i hi] at h4
    by_cases e1 : ckRes l[i] = 0
    ·simp only [e1, ne_eq, not_true_eq_false, if_false] at h4
     cases e2 : seen (nmO l) i l[i].nm
     ·simp only [e2, Bool.false_eq_true, if_false] at h4
      refine ⟨e1, rfl, fun hst => ?_⟩
      by_cases e3 : (l[i].xs.length : Int) = (if cn l i < 0 then (l[i].xs.length : Int) else cn l i)
      ·exact e3
      ·rw [if_pos ⟨hst, e3⟩] at h4; cases h4
     ·rw [e2] at h4; simp at h4
    ·rw [if_pos e1] at h4; exact (e1 h4).elim
   have inv : ∀ n, n ≤ l.length → (cn l n < 0 → ∀ i (hi : i < l.length), i < n → l[i].st ≠ w0) ∧ (∀ i (hi : i < l.length), i < n → l[i].st = w0 → (l[i].xs.length : Int) = cn l n) := by
    intro n
    induction n with
    | zero => exact fun _ => ⟨fun _ _ _ h => by omega, fun _ _ h => by omega⟩
    | succ n ih =>
      intro hn
      obtain ⟨i1, i2⟩ := ih (by omega)
      obtain ⟨_, _, a3⟩ := hall n (by omega)
      simp only [cn, hg n (by omega)]
      by_cases hst : l[n].st = w0
      ·have a3 := a3 hst
       rw [if_pos hst]
       by_cases hc : cn l n < 0
       ·rw [if_pos hc]
        refine ⟨fun h => by omega, fun i hi hin hs => ?_⟩
        by_cases e : i < n
        ·exact ((i1 hc i hi e) hs).elim
        ·have : i = n := by omega
         subst this; rfl
       ·rw [if_neg hc] at a3 ⊢
        refine ⟨fun h => (hc h).elim, fun i hi hin hs => ?_⟩
        by_cases e : i < n
        ·exact i2 i hi e hs
        ·have : i = n := by omega
         subst this; exact a3
      ·rw [if_neg hst]
       refine ⟨fun h i hi hin => ?_, fun i hi hin hs => ?_⟩
       ·by_cases e : i < n
        ·exact i1 h i hi e
        ·have : i = n := by omega
         subst this; exact hst
       ·by_cases e : i < n
        ·exact i2 i hi e hs
        ·have : i = n := by omega
         subst this; exact (hst hs).elim
   refine ⟨by omega, fun i hi => (hall i hi).1, fun i hi => (hall i hi).2.1, fun i hi k hk s1 s2 => ?_⟩
   have q1 := (inv l.length (Nat.le_refl _)).2 i hi hi s1
   have q2 := (inv l.length (Nat.le_refl _)).2 k hk hk s2
   omega
theorem grade_w0 {s : ByteArray} (h : gradeI s = 0) : s = w0 := by
 unfold gradeI at h
 split at h
 ·assumption
 ·split at h
  ·cases h
  ·split at h
   ·cases h
   ·split at h <;> cases h
theorem RoundOk.lens {l : List Rs} (h : RoundOk l) {i k : Nat} (hi : i < l.length) (hk : k < l.length) (hg : gradeI l[k].st = gradeI l[i].st) : l[i].xs.length = l[k].xs.length := by
 by_cases e : l[i].st = w0
 ·have : gradeI l[k].st = 0 := by rw [hg, e]; rfl
  exact h.len i hi k hk e (grade_w0 this)
 ·have e2 : l[k].st ≠ w0 := fun q => e (grade_w0 (by rw [← hg, q]; rfl))
  rw [(ckRes0 (h.res i hi)).2 e, (ckRes0 (h.res k hk)).2 e2]
def rkc (l : List Rs) (r : Rs) : Nat → Int
 | 0 => 1
 | k + 1 => rkc l r k + (if cmpR (l.getD k default) r < 0 then 1 else 0)
theorem rkc_le (l : List Rs) (r : Rs) : ∀ k, 1 ≤ rkc l r k ∧ rkc l r k ≤ 1 + k
 | 0 => by simp [rkc]
 | k + 1 => by
   have := rkc_le l r k
   simp only [rkc]
   split <;> omega
def rkl (l : List Rs) : Nat → List Int
 | 0 => []
 | i + 1 => rkl l i ++ [rkc l (l.getD i default) l.length]
theorem rkl_len (l : List Rs) : ∀ i, (rkl l i).length = i
 | 0 => rfl
 | i + 1 => by simp [rkl, rkl_len l i]
theorem rkl_get (l : List Rs) : ∀ n i, i < n → (rkl l n).getD i 0 = rkc l (l.getD i default) l.length
 | 0, _, h => by omega
 | n + 1, i, h => by
   have := rkl_len l n
   simp only [rkl, List.getD_eq_getElem?_getD]
   by_cases hi : i < n
   ·rw [List.getElem?_append_left (by omega), ← List.getD_eq_getElem?_getD]
    exact rkl_get l n i hi
   ·obtain rfl : i = n := by omega
    rw [List.getElem?_append_right (by omega), this]; simp
theorem G7401 {a o : AV} {l : List Rs} (h : RssOk a l) (hr : RoundOk l) {i : Nat} (hi : i < l.length) :
  loopG (calO s74) B7401 KK [a, o, ia 1, ia l.length, ia i, ia l.length, ia 0, .str l[i].nm, .str l[i].st, l[i].va] = some (.tuple [ia 1, a, o, ia (rkc l l[i] l.length), ia l.length, ia i]) := by
 have hn := h.n
 refine loopF (fun k => [a, o, ia (rkc l l[i] k), ia l.length, ia i, ia l.length, ia k, .str l[i].nm, .str l[i].st, l[i].va]) l.length _ (by omega) (fun k hk => ?_) ?_
 ·have hrow : nth a.rowsL k = some (Rs.row l[k]) := h.is.rowN hk
  have hw := wS (show k < 2097152 by omega)
  have hg : l.getD k default = l[k] := by simp [hk]
  have b1 := rkc_le l l[i] k
  have w1 : IntKind.i64.wrap (rkc l l[i] k + 1) = rkc l l[i] k + 1 := i64w (by omega) (by omega)
  have f := p75 (h.ok _ (List.getElem_mem hk)) (h.ok _ (List.getElem_mem hi)) (hr.lens hi hk)
  simp only [Rs.row, List.cons_append, List.nil_append] at f hrow
  simp only [rkc, hg]
  rcases tf_or (cmpR l[k] l[i] < 0) with e1 | e1 <;> simp [B7401, h.is.lenM, hrow, hk, hw, w1, f, e1]
 ·simp [B7401]
theorem G7400 {a : AV} {l : List Rs} (h : RssOk a l) (hr : RoundOk l) : loopG (omL KK s74 [d7401]) B7400 KK [a, .nils, ia l.length, ia 0] = some (.tuple [ia 1, mkI (rkl l l.length)]) := by
 have hn := h.n
 refine loopF (fun i => [a, mkI (rkl l i), ia l.length, ia i]) l.length _ (by omega) (fun i hi => ?_) ?_
 ·have hrow : nth a.rowsL i = some (Rs.row l[i]) := h.is.rowN hi
  have hw := wS (show i < 2097152 by omega)
  have hg : l.getD i default = l[i] := by simp [hi]
  have G := G7401 (o := mkI (rkl l i)) h hr hi
  have b2 := rkl_len l i
  have c1 : (((rkl l i).length : Nat) : Int) + 1 ≤ 1073741824 := by omega
  simp only [Rs.row] at hrow
  simp only [rkl, hg]
  simp [B7400, h.is.lenM, hrow, hi, hw, G, mkI_rows, mkI_snoc, mkI_len, c1]
 ·simp [B7400]
theorem p74 {a : AV} {l : List Rs} (h : RssOk a l) (hr : RoundOk l) : F74 [a] = some (mkI (rkl l l.length)) := by
 have G := G7400 h hr
 simp [F74, unitF_eq, t74, G, h.is.lenM]
theorem p17 {a : AV} {l : List Rs} (h : RssOk a l) (hc : ckRound l = 0) : F17 [a] = some (.tuple [mkI (rkl l l.length), ia 0]) := by
 have f := p21 h
 rw [hc] at f
 have g := p74 h (ckRound0 hc)
 have k := mkI_ok (rkl l l.length)
 simp [F17, unitF_eq, t17, f, g, k]
theorem p17' {a : AV} {l : List Rs} (h : RssOk a l) (hc : ckRound l ≠ 0) : F17 [a] = some (.tuple [.nils, ia (ckRound l)]) := by
 have f := p21 h
 simp [F17, unitF_eq, t17, f, hc]
theorem cnt_le2 {f g : Op → Int} {l l' : List Op} {c v u : Int} : ∀ (n : Nat), (∀ i : Nat, i < n → (i : Int) ≠ c → f (l.getD i default) > v → g (l'.getD i default) > u) → cnt f l c v n ≤ cnt g l' c u n
 | 0, _ => Int.le_refl _
 | n + 1, h => by
   have := cnt_le2 n fun i hi => h i (by omega)
   have h1 := h n (by omega)
   simp only [cnt]
   by_cases e1 : (n : Int) ≠ c ∧ f (l.getD n default) > v
   ·rw [if_pos e1, if_pos ⟨e1.1, h1 e1.1 e1.2⟩]; omega
   ·rw [if_neg e1]; split <;> omega
theorem cnt_lt_n (f : Op → Int) (l : List Op) (c : Nat) (v : Int) : ∀ n : Nat, c < n → cnt f l c v n ≤ n - 1
 | 0, h => by omega
 | n + 1, h => by
   have b := cnt_le f l c v n
   simp only [cnt]
   by_cases e : n = c
   ·subst e; simp; omega
   ·have := cnt_lt_n f l c v n (by omega)
    split <;> omega
theorem okV_iff {l : List Op} {c r v : Int} : okV l c r v = true ↔ cnt Op.lo l c v l.length < r ∧ r ≤ cnt Op.hi l c v l.length + 1 := by simp [okV]
theorem pos_iff {l : List Op} {own : Op} {c r : Int} (hle : own.lo ≤ own.hi) : posB l own c r = true ↔ ∃ v, own.lo ≤ v ∧ v ≤ own.hi ∧ okV l c r v = true := by
 unfold posB
 simp only [List.any_eq_true, List.mem_range'_1, Nat.zero_le, true_and, Nat.zero_add]
 constructor
 ·rintro ⟨i, hi, h⟩
  unfold wid at hi
  exact ⟨own.lo + i, by omega, by omega, h⟩
 ·rintro ⟨v, h1, h2, h⟩
  refine ⟨(v - own.lo).toNat, by unfold wid; omega, ?_⟩
  rw [show own.lo + ((v - own.lo).toNat : Int) = v by omega]
  exact h
theorem rks_pre (p : Int → Bool) : ∀ n i, i ≤ n → ∃ t, rks p n = rks p i ++ t
 | 0, i, h => ⟨[], by simp [show i = 0 by omega]⟩
 | n + 1, i, h => by
   by_cases e : i = n + 1
   ·subst e; exact ⟨[], by simp⟩
   ·obtain ⟨t, ht⟩ := rks_pre p n i (by omega)
    exact ⟨t ++ (if p (1 + n) then [1 + (n : Int)] else []), by simp only [rks, ht, List.append_assoc]⟩
theorem mem_rks {p : Int → Bool} {x : Int} : ∀ {n}, x ∈ rks p n ↔ ∃ i : Nat, i < n ∧ x = 1 + i ∧ p x = true
 | 0 => by simp [rks]
 | n + 1 => by
   simp only [rks, List.mem_append, mem_rks (n := n)]
   constructor
   ·rintro (⟨i, h1, h2, h3⟩ | h)
    ·exact ⟨i, by omega, h2, h3⟩
    ·split at h
     ·rename_i hp; simp at h; subst h; exact ⟨n, by omega, rfl, hp⟩
     ·cases h
   ·rintro ⟨i, h1, h2, h3⟩
    by_cases e : i < n
    ·exact .inl ⟨i, e, h2, h3⟩
    ·obtain rfl : i = n := by omega
     subst h2
     exact .inr (by rw [if_pos h3]; simp)
theorem rks_get {p : Int → Bool} {n i : Nat} (hi : i < n) (hp : p (1 + i) = true) : (rks p n)[(rks p i).length]? = some (1 + (i : Int)) := by
 obtain ⟨t, ht⟩ := rks_pre p n (i + 1) (by omega)
 rw [ht]
 simp [rks, hp]
theorem rks_lt {p : Int → Bool} {n i q : Nat} (hi : i ≤ n) (hq : q < (rks p i).length) : ∃ x, (rks p n)[q]? = some x ∧ x < 1 + (i : Int) := by
 obtain ⟨t, ht⟩ := rks_pre p n i hi
 refine ⟨(rks p i)[q], by rw [ht, List.getElem?_append_left hq, List.getElem?_eq_getElem hq], ?_⟩
 obtain ⟨k, h1, h2, _⟩ := mem_rks.1 (List.getElem_mem hq)
 omega
theorem rks_empty {p : Int → Bool} : ∀ {n : Nat}, (∀ r : Int, 1 ≤ r → r ≤ n → p r = false) → rks p n = []
 | 0, _ => rfl
 | n + 1, h => by
   have h1 := h (1 + n) (by omega) (by omega)
   simp only [rks, h1, Bool.false_eq_true, if_false, List.append_nil]
   exact rks_empty fun r h2 h3 => h r h2 (by omega)
theorem rks_one {p : Int → Bool} {n : Nat} {b : Int} (h1 : 1 ≤ b) (h2 : b ≤ n) (hb : p b = true) (hn : ∀ r : Int, r ≠ b → p r = false) : rks p n = [b] := by
 induction n with
 | zero => omega
 | succ n ih =>
   by_cases e : b = 1 + n
   ·have : rks p n = [] := rks_empty fun r h3 h4 => hn r (by omega)
    simp only [rks, this, ← e, hb, if_true, List.nil_append]
   ·have := hn (1 + n) (fun h => e h.symm)
    simp only [rks, this, Bool.false_eq_true, if_false, List.append_nil]
    exact ih (by omega)
theorem rks_head {p : Int → Bool} {n : Nat} {b : Int} (h1 : 1 ≤ b) (h2 : b ≤ n) (hb : p b = true) (hn : ∀ r : Int, r < b → p r = false) : (rks p n)[0]? = some b := by
 have e : rks p (b - 1).toNat = [] := rks_empty fun r h3 h4 => hn r (by omega)
 have := rks_get (p := p) (n := n) (i := (b - 1).toNat) (by omega) (by rw [show (1 : Int) + ((b - 1).toNat : Int) = b by omega]; exact hb)
 rw [e] at this
 rw [show (1 : Int) + ((b - 1).toNat : Int) = b by omega] at this
 simpa using this
theorem rks_last {p : Int → Bool} {n : Nat} {b : Int} (h1 : 1 ≤ b) (h2 : b ≤ n) (hb : p b = true) (hn : ∀ r : Int, b < r → p r = false) : 0 < (rks p n).length ∧ (rks p n)[(rks p n).length - 1]? = some b := by
 obtain ⟨t, ht⟩ := rks_pre p n (b.toNat) (by omega)
 have ht0 : t = [] := by
  cases t with
  | nil => rfl
  | cons x t =>
    exfalso
    have hl : (rks p b.toNat).length < (rks p n).length := by rw [ht]; simp
    have hx : (rks p n)[(rks p b.toNat).length]? = some x := by rw [ht]; simp
    have hm : x ∈ rks p n := List.mem_of_getElem? hx
    obtain ⟨k, k1, k2, k3⟩ := mem_rks.1 hm
    by_cases hxb : x ≤ b
    ·
     have hk : k < b.toNat := by omega
     have hg := rks_get (p := p) (n := n) k1 (by rw [← k2]; exact k3)
     obtain ⟨t2, ht2⟩ := rks_pre p b.toNat (k + 1) (by omega)
     have hlt : (rks p k).length < (rks p b.toNat).length := by
      rw [ht2]; simp [rks, ← k2, k3]
     have hs : ∀ m q, q < (rks p m).length → ∀ y, (rks p m)[q]? = some y → ∀ q', q < q' → q' < (rks p m).length → ∀ y', (rks p m)[q']? = some y' → y < y' := by
      intro m
      induction m with
      | zero => intro q hq; simp [rks] at hq
      | succ m ih =>
        intro q hq y hy q' hqq hq' y' hy'
        simp only [rks] at hq hy hq' hy'
        by_cases e1 : q' < (rks p m).length
        ·rw [List.getElem?_append_left (by omega)] at hy
         rw [List.getElem?_append_left e1] at hy'
         exact ih q (by omega) y hy q' hqq e1 y' hy'
        ·rw [List.getElem?_append_right (by omega)] at hy'
         split at hy'
         ·simp only [List.length_append] at hq'
          rename_i hp
          rw [if_pos hp] at hq'
          simp only [List.length_singleton] at hq'
          have e2 : q' - (rks p m).length = 0 := by omega
          rw [e2] at hy'
          simp at hy'
          rw [List.getElem?_append_left (by omega)] at hy
          obtain ⟨k', g1, g2, _⟩ := mem_rks.1 (List.mem_of_getElem? hy)
          omega
         ·simp at hy'
     have := hs n (rks p k).length (by omega) (1 + k) hg (rks p b.toNat).length hlt hl x hx
     omega
    ·have := hn x (by omega)
     rw [this] at k3; cases k3
 have hb' := rks_get (p := p) (n := n) (i := (b - 1).toNat) (by omega) (by rw [show (1 : Int) + ((b - 1).toNat : Int) = b by omega]; exact hb)
 rw [show (1 : Int) + ((b - 1).toNat : Int) = b by omega] at hb'
 have e3 : rks p b.toNat = rks p (b - 1).toNat ++ [b] := by
  have : b.toNat = (b - 1).toNat + 1 := by omega
  rw [this]
  simp only [rks, show (1 : Int) + ((b - 1).toNat : Int) = b by omega, hb, if_true]
 have e4 : (rks p n).length - 1 = (rks p (b - 1).toNat).length := by rw [ht, ht0, e3]; simp
 refine ⟨by rw [ht, e3]; simp only [List.length_append, List.length_singleton]; omega, by rw [e4]; exact hb'⟩
theorem best_pos {l : List Op} (hin : ∀ i (hi : i < l.length), InR l[i]) {c : Nat} (hc : c < l.length) :
  posB l l[c] c (1 + cnt Op.lo l c l[c].hi l.length) = true ∧ ∀ r : Int, r < 1 + cnt Op.lo l c l[c].hi l.length → posB l l[c] c r = false := by
 have hg : ∀ i (hi : i < l.length), l.getD i default = l[i] := fun i hi => by simp [hi]
 have hle := (hin c hc).le
 refine ⟨(pos_iff hle).2 ⟨l[c].hi, hle, Int.le_refl _, okV_iff.2 ⟨by omega, ?_⟩⟩, fun r hr => ?_⟩
 ·have := cnt_le2 (f := Op.lo) (g := Op.hi) (l := l) (l' := l) (c := c) (v := l[c].hi) (u := l[c].hi) l.length fun i hi _ h => by
   rw [hg i hi] at h ⊢
   have := (hin i hi).le
   omega
  omega
 ·rw [← Bool.not_eq_true, pos_iff hle]
  rintro ⟨v, h1, h2, h3⟩
  have h3 := (okV_iff.1 h3).1
  have := cnt_le2 (f := Op.lo) (g := Op.lo) (l := l) (l' := l) (c := c) (v := l[c].hi) (u := v) l.length fun i hi _ h => by omega
  omega
theorem worst_pos {l : List Op} (hin : ∀ i (hi : i < l.length), InR l[i]) {c : Nat} (hc : c < l.length) :
  posB l l[c] c (1 + cnt Op.hi l c l[c].lo l.length) = true ∧ ∀ r : Int, 1 + cnt Op.hi l c l[c].lo l.length < r → posB l l[c] c r = false := by
 have hg : ∀ i (hi : i < l.length), l.getD i default = l[i] := fun i hi => by simp [hi]
 have hle := (hin c hc).le
 refine ⟨(pos_iff hle).2 ⟨l[c].lo, Int.le_refl _, hle, okV_iff.2 ⟨?_, by omega⟩⟩, fun r hr => ?_⟩
 ·have := cnt_le2 (f := Op.lo) (g := Op.hi) (l := l) (l' := l) (c := c) (v := l[c].lo) (u := l[c].lo) l.length fun i hi _ h => by
   rw [hg i hi] at h ⊢
   have := (hin i hi).le
   omega
  omega
 ·rw [← Bool.not_eq_true, pos_iff hle]
  rintro ⟨v, h1, h2, h3⟩
  have h3 := (okV_iff.1 h3).2
  have := cnt_le2 (f := Op.hi) (g := Op.hi) (l := l) (l' := l) (c := c) (v := v) (u := l[c].lo) l.length fun i hi _ h => by omega
  omega
def vv (p : Int) (o : Op) : Int := o.lo + p.tmod (o.hi - o.lo + 1)
theorem vv_in {p : Int} (hp : 0 ≤ p) {o : Op} (h : InR o) : o.lo ≤ vv p o ∧ vv p o ≤ o.hi := by
 obtain ⟨h1, h2, h3⟩ := h
 have a1 := Int.tmod_nonneg (o.hi - o.lo + 1) hp
 have a2 := Int.tmod_lt_of_pos p (show 0 < o.hi - o.lo + 1 by omega)
 unfold vv; omega
def dec (p : Int) (o : Op) : Op := ⟨o.nm, vv p o, vv p o⟩
theorem dec_in {p : Int} (hp : 0 ≤ p) {o : Op} (h : InR o) : InR (dec p o) := by
 have a := vv_in hp h
 obtain ⟨h1, h2, h3⟩ := h
 exact ⟨by show 0 ≤ vv p o; omega, Int.le_refl _, by show vv p o ≤ 99999; omega⟩
theorem fewer_pos {p : Int} (hp : 0 ≤ p) {l : List Op} (hin : ∀ i (hi : i < l.length), InR l[i]) {c k : Nat} (hc : c < l.length) (hk : k < l.length) {r : Int}
  (h : posB (l.set k (dec p l[k])) ((l.set k (dec p l[k]))[c]'(by simpa using hc)) c r = true) : posB l l[c] c r = true := by
 have hg : ∀ i (hi : i < l.length), l.getD i default = l[i] := fun i hi => by simp [hi]
 have hv := vv_in hp (hin k hk)
 have hgs : ∀ i (hi : i < l.length), (l.set k (dec p l[k])).getD i default = if k = i then dec p l[k] else l[i] := fun i hi => by
  simp only [List.getD_eq_getElem?_getD, List.getElem?_set]
  by_cases e : k = i
  ·subst e; simp [hk]
  ·simp [e, hi]
 have hcs : (l.set k (dec p l[k]))[c]'(by simpa using hc) = if k = c then dec p l[k] else l[c] := by
  rw [List.getElem_set]
 rw [hcs] at h
 have hcle : (if k = c then dec p l[k] else l[c]).lo ≤ (if k = c then dec p l[k] else l[c]).hi := by
  split
  ·exact Int.le_refl _
  ·exact (hin c hc).le
 obtain ⟨v, h1, h2, h3⟩ := (pos_iff hcle).1 h
 refine (pos_iff (hin c hc).le).2 ⟨v, ?_, ?_, ?_⟩
 ·by_cases e : k = c
  ·subst e; simp [dec] at h1 h2; omega
  ·simpa [e] using h1
 ·by_cases e : k = c
  ·subst e; simp [dec] at h1 h2; omega
  ·simpa [e] using h2
 ·obtain ⟨q1, q2⟩ := okV_iff.1 h3
  rw [List.length_set] at q1 q2
  have b1 := cnt_le2 (f := Op.lo) (g := Op.lo) (l := l) (l' := l.set k (dec p l[k])) (c := c) (v := v) (u := v) l.length fun i hi _ h => by
   rw [hgs i hi]
   rw [hg i hi] at h
   split
   ·rename_i e; subst e; show vv p l[k] > v; omega
   ·exact h
  have b2 := cnt_le2 (f := Op.hi) (g := Op.hi) (l := l.set k (dec p l[k])) (l' := l) (c := c) (v := v) (u := v) l.length fun i hi _ h => by
   rw [hgs i hi] at h
   rw [hg i hi]
   split at h
   ·rename_i e; subst e
    have : vv p l[k] > v := h
    omega
   ·exact h
  exact okV_iff.2 ⟨by omega, by omega⟩
theorem dec_pos {p : Int} (hp : 0 ≤ p) {l : List Op} (hin : ∀ i (hi : i < l.length), InR l[i]) {c : Nat} (hc : c < l.length) (r : Int) :
  posB (l.map (dec p)) (dec p l[c]) c r = decide (r = 1 + cnt Op.lo (l.map (dec p)) c (vv p l[c]) l.length) := by
 have e : cnt Op.hi (l.map (dec p)) c (vv p l[c]) l.length = cnt Op.lo (l.map (dec p)) c (vv p l[c]) l.length := by
  have b1 := cnt_le2 (f := Op.hi) (g := Op.lo) (l := l.map (dec p)) (l' := l.map (dec p)) (c := c) (v := vv p l[c]) (u := vv p l[c]) l.length fun i hi _ h => by
   simp only [List.getD_eq_getElem?_getD, List.getElem?_map, List.getElem?_eq_getElem hi, Option.map_some, Option.getD_some] at h ⊢
   exact h
  have b2 := cnt_le2 (f := Op.lo) (g := Op.hi) (l := l.map (dec p)) (l' := l.map (dec p)) (c := c) (v := vv p l[c]) (u := vv p l[c]) l.length fun i hi _ h => by
   simp only [List.getD_eq_getElem?_getD, List.getElem?_map, List.getElem?_eq_getElem hi, Option.map_some, Option.getD_some] at h ⊢
   exact h
  omega
 rw [Bool.eq_iff_iff, pos_iff (Int.le_refl _), decide_eq_true_iff]
 constructor
 ·rintro ⟨v, h1, h2, h3⟩
  have hv : v = vv p l[c] := by
   have h1 : vv p l[c] ≤ v := h1
   have h2 : v ≤ vv p l[c] := h2
   omega
  subst hv
  obtain ⟨q1, q2⟩ := okV_iff.1 h3
  rw [List.length_map] at q1 q2
  omega
 ·intro h
  refine ⟨vv p l[c], Int.le_refl _, Int.le_refl _, okV_iff.2 ⟨?_, ?_⟩⟩
  ·rw [List.length_map]; omega
  ·rw [List.length_map]; omega
theorem ckn {l : List Op} (h : ckOpen l = 0) : ∀ i (hi : i < l.length), isName l[i].nm = true ∧ seen l i l[i].nm = false := by
 intro i hi
 unfold ckOpen at h
 split at h
 ·cases h
 split at h
 ·cases h
 cases he : errs l with
 | some e => rw [he] at h; exact (errs_ne he h).elim
 | none =>
   have h3 := List.findSome?_eq_none_iff.1 he i (by simp only [List.mem_range'_1]; omega)
   split at h3
   case isFalse => cases h3
   rename_i h4
   unfold errO at h4
   rw [show l.getD i default = l[i] by simp [hi]] at h4
   by_cases e1 : isName l[i].nm = false
   ·rw [if_pos e1] at h4; cases h4
   rw [if_neg e1] at h4
   by_cases e2 : seen l i l[i].nm = true
   ·rw [if_pos e2] at h4; cases h4
   exact ⟨by simpa using e1, by simpa using e2⟩
theorem seen_same {l l' : List Op} (h : ∀ i, (l'.getD i default).nm = (l.getD i default).nm) (i : Nat) (s : ByteArray) : seen l' i s = seen l i s := by
 unfold seen
 congr 1
 funext k
 rw [h k]
theorem ck_same {l l' : List Op} (hl : l'.length = l.length) (h : ∀ i, (l'.getD i default).nm = (l.getD i default).nm) (hin : ∀ i (hi : i < l'.length), InR l'[i]) (hk : ckOpen l = 0) : ckOpen l' = 0 := by
 obtain ⟨n1, n2, _⟩ := ck0 hk
 have hn := ckn hk
 unfold ckOpen
 rw [if_neg (by omega), if_neg (by omega)]
 have : errs l' = none := by
  refine List.findSome?_eq_none_iff.2 fun i hi => ?_
  have hi : i < l'.length := by simp only [List.mem_range'_1] at hi; omega
  have hg : l'.getD i default = l'[i] := by simp [hi]
  have hg2 : l.getD i default = l[i]'(by omega) := by simp [show i < l.length by omega]
  obtain ⟨m1, m2⟩ := hn i (by omega)
  obtain ⟨r1, r2, r3⟩ := hin i hi
  rw [if_pos]
  unfold errO
  rw [seen_same h, h i, hg2, m1, m2, hg]
  have o1 : outB l'[i].lo 0 99999 = false := by simp [outB]; omega
  have o2 : outB l'[i].hi 0 99999 = false := by simp [outB]; omega
  simp [o1, o2, r2]
 rw [this]; rfl
def mkR (l : List Rs) : AV := match l with | [] => .nils | _ => .sl 3 (l.map Rs.row)
theorem mkR_isL (l : List Rs) : IsL 3 (l.map Rs.row) (mkR l) := by
 cases l with
 | nil => exact .inr ⟨rfl, rfl⟩
 | cons z zs => exact .inl rfl
theorem mkR_rows (l : List Rs) : (mkR l).rowsL = l.map Rs.row := (mkR_isL l).rows
theorem mkR_snoc (l : List Rs) (z : Rs) : AV.sl 3 (l.map Rs.row ++ [[.str z.nm, .str z.st, z.va]]) = mkR (l ++ [z]) := by
 cases l <;> simp [mkR, Rs.row]
theorem rem_i {Ω : Om} {a b : Int} (hb : b ≠ 0) : Pr.sem Ω (.bin .rem .i64) [ia a, ia b] = ia (a.tmod b) := by
 simp [Pr.sem, intOpA, hb, getJ, AV.nI]
@[simp] theorem s_conv (Ω : Om) (k : IntKind) (a : AV) : Pr.sem Ω (.conv k) [a] = .int k (k.wrap a.nI) := rfl
@[simp] theorem s_slc (Ω : Om) (k : Nat) (rows : List (List AV)) (lo hi : AV) : Pr.sem Ω .slice [.sl k rows, lo, hi] = .sl k ((rows.drop lo.nI.toNat).take (hi.nI.toNat - lo.nI.toNat)) := rfl
abbrev iu (p : Int) : AV := .int .u8 p
def decR (p : Int) (o : Op) : Rs := ⟨o.nm, w0, .sl 1 [[ia (vv p o)]], [vv p o]⟩
theorem G700 {r1 : AV} {l : List Op} (ln : l.length < 1048577) (hin : ∀ i (hi : i < l.length), InR l[i]) {c : Nat} (hc : c < l.length) {p : Int} (p0 : 0 ≤ p) (p1 : p ≤ 255) :
  loopG (calO s7) B700 KK [.sl 3 (l.map Op.row), ia c, iu p, r1, ia 1, ia 1, .nils, .nils, ia l.length, ia 0] =
   some (.tuple [ia 1, .sl 3 (l.map Op.row), ia c, iu p, r1, ia (1 + cnt Op.lo l c l[c].hi l.length), ia (1 + cnt Op.hi l c l[c].lo l.length), mkO (l.map (dec p)), mkR (l.map (decR p))]) := by
 have hwp : IntKind.i64.wrap p = p := i64w (by omega) (by omega)
 have := loopF (Ω := calO s7) (B := B700) (fun i => [.sl 3 (l.map Op.row), ia c, iu p, r1, ia (1 + cnt Op.lo l c l[c].hi i), ia (1 + cnt Op.hi l c l[c].lo i), mkO ((l.take i).map (dec p)), mkR ((l.take i).map (decR p)), ia l.length, ia i]) l.length
  (.tuple [ia 1, .sl 3 (l.map Op.row), ia c, iu p, r1, ia (1 + cnt Op.lo l c l[c].hi l.length), ia (1 + cnt Op.hi l c l[c].lo l.length), mkO ((l.take l.length).map (dec p)), mkR ((l.take l.length).map (decR p))]) (by omega) (fun i hi => by
  have hr : nth (l.map Op.row) i = some (Op.row l[i]) := by rw [nth_eq]; simp [hi]
  have hr2 : nth (l.map Op.row) c = some (Op.row l[c]) := by rw [nth_eq]; simp [hc]
  have hw := wS (show i < 2097152 by omega)
  have hg : l.getD i default = l[i] := by simp [hi]
  have b1 := cnt_le Op.lo l c l[c].hi i
  have b2 := cnt_le Op.hi l c l[c].lo i
  have w1 : IntKind.i64.wrap (1 + cnt Op.lo l c l[c].hi i + 1) = 1 + (cnt Op.lo l c l[c].hi i + 1) := by rw [i64w (by omega) (by omega)]; omega
  have w2 : IntKind.i64.wrap (1 + cnt Op.hi l c l[c].lo i + 1) = 1 + (cnt Op.hi l c l[c].lo i + 1) := by rw [i64w (by omega) (by omega)]; omega
  obtain ⟨i1, i2, i3⟩ := hin i hi
  have w3 : IntKind.i64.wrap (l[i].hi - l[i].lo) = l[i].hi - l[i].lo := i64w (by omega) (by omega)
  have w4 : IntKind.i64.wrap (l[i].hi - l[i].lo + 1) = l[i].hi - l[i].lo + 1 := i64w (by omega) (by omega)
  have hv := vv_in p0 (hin i hi)
  have hrem : ∀ Ω, Pr.sem Ω (.bin .rem .i64) [ia p, ia (l[i].hi - l[i].lo + 1)] = ia (p.tmod (l[i].hi - l[i].lo + 1)) := fun Ω => rem_i (by omega)
  have w5 : IntKind.i64.wrap (l[i].lo + p.tmod (l[i].hi - l[i].lo + 1)) = vv p l[i] := by
   unfold vv at hv ⊢
   exact i64w (by omega) (by omega)
  have hne : ¬ (l[i].hi - l[i].lo + 1 = 0) := by omega
  have hm : min i l.length = i := by omega
  have c1 : ((i : Int) + 1) ≤ 1073741824 := by omega
  have t1 : mkO ((l.take (i + 1)).map (dec p)) = AV.sl 3 (((l.take i).map (dec p)).map Op.row ++ [[.str l[i].nm, ia (vv p l[i]), ia (vv p l[i])]]) := by
   rw [take_snoc hi, List.map_append]
   exact (mkO_snoc _ (dec p l[i])).symm
  have t2 : mkR ((l.take (i + 1)).map (decR p)) = AV.sl 3 (((l.take i).map (decR p)).map Rs.row ++ [[.str l[i].nm, .str w0, .sl 1 [[ia (vv p l[i])]]]]) := by
   rw [take_snoc hi, List.map_append]
   exact (mkR_snoc _ (decR p l[i])).symm
  rw [t1, t2]
  simp only [cnt, hg]
  rcases tf_or ((i : Int) = c) with e1 | e1 <;> rcases tf_or (l[c].hi < l[i].lo) with e2 | e2 <;> rcases tf_or (l[c].lo < l[i].hi) with e3 | e3 <;>
   simp [B700, hr, hr2, Op.row, hi, hc, hw, hwp, w1, w2, w3, w4, w5, hrem, hne, e1, e2, e3, mkO_rows, mkR_rows, hm, c1]) (by simp [B700])
 simp only [List.take_length] at this
 exact this
theorem G702 {Ω : Om} {P : Int → Bool} {n : Nat} (hn : n ≤ 160) {i : Nat} (hi : i < n) (hP : P (1 + i) = true) {s : AV} {at_ : Nat} (ha : at_ ≤ (rks P i).length) (m j : Int) :
  loopG Ω B702 KK [mkI (rks P n), ia at_, ia (1 + i), s, ia m, ia j] = some (.tuple [ia 1, mkI (rks P n), ia (rks P i).length, ia (1 + i), s, ia m, ia j]) := by
 have hL := rks_len P i
 have hrows := mkI_rows (rks P n)
 have hlen := mkI_len (rks P n)
 have hnl := rks_len P n
 have hlt : (rks P i).length < (rks P n).length := by
  have := rks_get hi hP
  exact (List.getElem?_eq_some_iff.1 this).1
 have := loopF (Ω := Ω) (B := B702) (fun q => [mkI (rks P n), ia (at_ + q), ia (1 + i), s, ia m, ia j]) ((rks P i).length - at_) (.tuple [ia 1, mkI (rks P n), ia (rks P i).length, ia (1 + i), s, ia m, ia j]) (by omega) (fun q hq => by
  obtain ⟨x, hx, hx2⟩ := rks_lt (p := P) (n := n) (i := i) (q := at_ + q) (by omega) (by omega)
  have hr : nth ((rks P n).map intR) (at_ + q) = some (intR x) := by rw [nth_eq, List.getElem?_map, hx]; rfl
  have hw : IntKind.i64.wrap ((at_ : Int) + q + 1) = at_ + ((q + 1 : Nat) : Int) := by rw [i64w (by omega) (by omega)]; omega
  have d1 : ((at_ : Int) + q) < (rks P n).length := by omega
  have d2 : (0 : Int) ≤ (at_ : Int) + q := by omega
  have d3 : ((at_ : Int) + q).toNat = at_ + q := by omega
  push_cast at hw
  simp [B702, hrows, hlen, hr, intR, d1, d2, d3, hw, hx2]) (by
  have hr : nth ((rks P n).map intR) (rks P i).length = some (intR (1 + i)) := by rw [nth_eq, List.getElem?_map, rks_get hi hP]; rfl
  have e : (at_ : Int) + (((rks P i).length - at_ : Nat) : Int) = (rks P i).length := by omega
  have d1 : ((rks P i).length : Int) < (rks P n).length := by omega
  rw [e]
  simp [B702, hrows, hlen, hr, intR, d1])
 simpa using this
def atJ (P : Int → Bool) (s : List Int) (j : Nat) : Nat := if j = 0 then 0 else (rks P ((s.getD (j - 1) 0) - 1).toNat).length
theorem rks_mono (P : Int → Bool) {i k : Nat} (h : i ≤ k) : (rks P i).length ≤ (rks P k).length := by
 obtain ⟨t, ht⟩ := rks_pre P k i h
 rw [ht]; simp
theorem rks_sorted {p : Int → Bool} : ∀ {n : Nat} {q q' : Nat} {x y : Int}, (rks p n)[q]? = some x → (rks p n)[q']? = some y → q < q' → x < y
 | 0, q, _, x, _, h, _, _ => by simp [rks] at h
 | n + 1, q, q', x, y, h, h', hq => by
   simp only [rks] at h h'
   have hl : q' < (rks p n ++ if p (1 + n) = true then [1 + (n : Int)] else []).length := (List.getElem?_eq_some_iff.1 h').1
   by_cases e1 : q' < (rks p n).length
   ·rw [List.getElem?_append_left (by omega)] at h
    rw [List.getElem?_append_left e1] at h'
    exact rks_sorted h h' hq
   ·rw [List.getElem?_append_right (by omega)] at h'
    have hq1 : q < (rks p n).length := by
     split at hl
     ·simp only [List.length_append, List.length_singleton] at hl; omega
     ·simp only [List.append_nil] at hl; omega
    rw [List.getElem?_append_left hq1] at h
    obtain ⟨k', g1, g2, _⟩ := mem_rks.1 (List.mem_of_getElem? h)
    split at h'
    ·rename_i hp
     have : q' - (rks p n).length = 0 := by
      rw [if_pos hp] at hl
      simp only [List.length_append, List.length_singleton] at hl; omega
     rw [this] at h'
     simp at h'
     omega
    ·simp at h'
theorem G701 {P S : Int → Bool} {n : Nat} (hn : n ≤ 160) (hPS : ∀ r, S r = true → P r = true) :
  loopG (omL KK s7 [d702, d700]) B701 KK [mkI (rks P n), ia 0, mkI (rks S n), ia (rks S n).length, ia 0] = some (.tuple [ia 2]) := by
 have hnl := rks_len P n
 have hsl := rks_len S n
 have hrows := mkI_rows (rks P n)
 have hlen := mkI_len (rks P n)
 have hrows2 := mkI_rows (rks S n)
 have hlen2 := mkI_len (rks S n)
 refine loopF (fun j => [mkI (rks P n), ia (atJ P (rks S n) j), mkI (rks S n), ia (rks S n).length, ia j]) (rks S n).length _ (by omega) (fun j hj => ?_) ?_
 ·obtain ⟨i, hi, hx, hSx⟩ := mem_rks.1 (List.getElem_mem hj)
  have hgj : (rks S n)[j]? = some (1 + (i : Int)) := by rw [List.getElem?_eq_getElem hj, hx]
  rw [hx] at hSx
  have hPx := hPS _ hSx
  have hat : atJ P (rks S n) j ≤ (rks P i).length := by
   unfold atJ
   split
   ·omega
   ·rename_i h0
    have hj1 : j - 1 < (rks S n).length := by omega
    have hg1 : (rks S n)[j - 1]? = some (rks S n)[j - 1] := List.getElem?_eq_getElem hj1
    have hlt := rks_sorted hg1 hgj (by omega)
    have : (rks S n).getD (j - 1) 0 = (rks S n)[j - 1] := by simp [hj1]
    rw [this]
    exact rks_mono P (by omega)
  have hat1 : atJ P (rks S n) (j + 1) = (rks P i).length := by
   unfold atJ
   rw [if_neg (by omega), Nat.add_sub_cancel, List.getD_eq_getElem?_getD, hgj]
   simp only [Option.getD_some]
   congr 2
   omega
  have G := G702 (Ω := omL KK s7 [d700]) hn hi hPx (s := mkI (rks S n)) hat (rks S n).length j
  have hr : nth ((rks S n).map intR) j = some (intR (1 + i)) := by rw [nth_eq, List.getElem?_map, hgj]; rfl
  have hr2 : nth ((rks P n).map intR) (rks P i).length = some (intR (1 + i)) := by rw [nth_eq, List.getElem?_map, rks_get hi hPx]; rfl
  have hlt : (rks P i).length < (rks P n).length := (List.getElem?_eq_some_iff.1 (rks_get hi hPx)).1
  have hw := wS (show j < 2097152 by omega)
  have d1 : ¬ (((rks P i).length : Int) = (rks P n).length) := by omega
  have d2 : ((rks P i).length : Int) < (rks P n).length := by omega
  rw [hat1]
  simp [B701, hrows, hlen, hrows2, hlen2, hr, hr2, intR, hj, hw, G, d1, d2, hlt]
 ·simp [B701]
set_option maxHeartbeats 16000000
theorem cmp_dec (p : Int) (o o' : Op) : cmpR (decR p o) (decR p o') < 0 ↔ vv p o' < vv p o := by
 have e : cmpI (gradeI w0) (gradeI w0) = 0 := cmpI_0.2 rfl
 unfold cmpR decR
 simp only [e, ne_eq, not_true_eq_false, if_false, cmpL, cmpI]
 by_cases e1 : vv p o' = vv p o
 ·simp [e1]
 ·rw [if_neg e1]
  by_cases e2 : vv p o' < vv p o
  ·simp [e2]
  ·rw [if_neg e2, if_pos (show vv p o' > vv p o by omega)]
   constructor
   ·intro h; omega
   ·intro h; exact (e2 h).elim
theorem rank_dec (p : Int) (l : List Op) {c : Nat} (hc : c < l.length) : ∀ k : Nat, k ≤ l.length → rkc (l.map (decR p)) (decR p l[c]) k = 1 + cnt Op.lo (l.map (dec p)) c (vv p l[c]) k
 | 0, _ => by simp [rkc, cnt]
 | k + 1, h => by
   have ih := rank_dec p l hc k (by omega)
   have hk : k < l.length := by omega
   have g1 : (l.map (decR p)).getD k default = decR p l[k] := by simp [hk]
   have g2 : (l.map (dec p)).getD k default = dec p l[k] := by simp [hk]
   simp only [rkc, cnt, ih, g1, g2, cmp_dec]
   have e : (dec p l[k]).lo = vv p l[k] := rfl
   rw [e]
   by_cases e1 : (k : Int) = c
   ·have : k = c := by omega
    subst this
    simp
   ·simp only [e1, ne_eq, not_false_eq_true, true_and, gt_iff_lt]
    omega
theorem cn_dec (p : Int) (l : List Op) : ∀ k : Nat, k ≤ l.length → cn (l.map (decR p)) k = if k = 0 then -1 else 1
 | 0, _ => rfl
 | k + 1, h => by
   have ih := cn_dec p l k (by omega)
   have hk : k < l.length := by omega
   have g1 : (l.map (decR p)).getD k default = decR p l[k] := by simp [hk]
   simp only [cn, g1, decR, if_true, ih]
   by_cases e : k = 0 <;> simp [e]
theorem decR_ok {p : Int} {o : Op} (h : o.nm.size < 1048577) : RsOk (decR p o) := ⟨.inl rfl, by simp [decR], h⟩
theorem round_dec {p : Int} (hp : 0 ≤ p) {l : List Op} (hk : ckOpen l = 0) : ckRound (l.map (decR p)) = 0 := by
 obtain ⟨n1, n2, hin⟩ := ck0 hk
 have hn := ckn hk
 unfold ckRound
 rw [if_neg (by simp; omega)]
 have : errsR (l.map (decR p)) = none := by
  refine List.findSome?_eq_none_iff.2 fun i hi => ?_
  have hi : i < l.length := by simp only [List.mem_range'_1, List.length_map] at hi; omega
  have hg : (l.map (decR p)).getD i default = decR p l[i] := by simp [hi]
  obtain ⟨m1, m2⟩ := hn i hi
  have hv := vv_in hp (hin i hi)
  obtain ⟨r1, r2, r3⟩ := hin i hi
  rw [if_pos]
  unfold errR
  rw [hg]
  have e1 : ckRes (decR p l[i]) = 0 := by
   have o1 : outM (vv p l[i]) = false := by simp [outM]; omega
   have o2 : farV [vv p l[i]] = false := by simp [farV, o1]
   unfold ckRes
   simp only [decR, m1, o2]
   simp [gradeI]
  have e2 : seen (nmO (l.map (decR p))) i (decR p l[i]).nm = false := by
   have : seen (nmO (l.map (decR p))) i (decR p l[i]).nm = seen l i l[i].nm := seen_same (l := l) (l' := nmO (l.map (decR p))) (fun k => by
    by_cases hk : k < l.length
    ·simp [nmO, hk, decR]
    ·simp [nmO, hk]) i l[i].nm
   rw [this, m2]
  rw [e1, e2, cn_dec p l i (by omega)]
  by_cases e : i = 0 <;> simp [e, decR]
 rw [this]; rfl
theorem mkI_sl {zs : List Int} (h : 0 < zs.length) : mkI zs = .sl 1 (zs.map intR) := by
 cases zs with
 | nil => simp at h
 | cons z zs => rfl
theorem set3 (x y z a b c : AV) : setCells [a, b, c] 0 [x, y, z] = [x, y, z] := rfl
theorem law7 {a : AV} {l : List Op} (h : OpsOk a l) (hz : ∀ o ∈ l, o.nm.size < 1048577) (c : Int) {p : Int} (p0 : 0 ≤ p) (p1 : p ≤ 255) : F7 [a, ia c, iu p] = some (.bool true) := by
 obtain ⟨b1, f32⟩ := p32 h
 have f16 : F16 [] = some (.bool true) := rfl
 have lN := h.is.lenM
 have f35 := p35 h c
 cases b1
 ·simp [F7, unitF_eq, t7, f32, f16]
 rcases tf_or ((8 : Int) < l.length) with e0 | e0
 ·simp [F7, unitF_eq, t7, f32, f16, lN, e0]
 by_cases hb : bad l c = 0
 case neg => simp [F7, unitF_eq, t7, f32, f16, lN, e0, f35, hb]
 obtain ⟨k, rfl, hk, hck⟩ := bad0 hb
 obtain ⟨n1, n2, hin⟩ := ck0 hck
 rw [hb] at f35
 have f34 := p34 h
 have h' := mkO_OpsOk h
 have f33 := p33 h' hb hk
 have k34 := mkO_ok l
 have ha : a = .sl 3 (l.map Op.row) := by
  rcases h.is with h1 | ⟨_, h1⟩
  ·exact h1
  ·simp at h1; subst h1; simp at n1
 subst ha
 have hn := h.n
 obtain ⟨q1, q2⟩ := best_pos hin hk
 obtain ⟨w1, w2⟩ := worst_pos hin hk
 have bl := cnt_lt_n Op.lo l k l[k].hi l.length hk
 have bl2 := cnt_lt_n Op.hi l k l[k].lo l.length hk
 have bl3 := cnt_le Op.lo l k l[k].hi l.length
 have bl4 := cnt_le Op.hi l k l[k].lo l.length
 have hhead := rks_head (p := posB l l[k] k) (n := l.length) (by omega) (by omega) q1 q2
 obtain ⟨hlen, hlast⟩ := rks_last (p := posB l l[k] k) (n := l.length) (by omega) (by omega) w1 w2
 have hrl := rks_len (posB l l[k] k) l.length
 have k33 := mkI_ok (rks (posB l l[k] k) l.length)
 have G := G700 (r1 := mkI (rks (posB l l[k] k) l.length)) hn hin hk p0 p1
 have hwp : IntKind.i64.wrap p = p := i64w (by omega) (by omega)
 obtain ⟨kk, hkk, hkl⟩ : ∃ kk : Nat, p.tmod l.length = kk ∧ kk < l.length := by
  have a1 := Int.tmod_nonneg (l.length : Int) p0
  have a2 := Int.tmod_lt_of_pos p (show (0 : Int) < l.length by omega)
  exact ⟨(p.tmod l.length).toNat, by omega, by omega⟩
 have hrem : ∀ Ω, Pr.sem Ω (.bin .rem .i64) [ia p, ia l.length] = ia kk := fun Ω => by rw [rem_i (by omega), hkk]
 have hne : ¬ ((l.length : Int) = 0) := by omega
 have hne2 : ¬ (l = []) := by intro e; subst e; simp at n1
 have happ : ∀ Ω, Pr.sem Ω (.app 3) [.sl 3 [], .sl 3 (l.map Op.row)] = .sl 3 (l.map Op.row) := fun Ω => by
  cases l with
  | nil => simp at n1
  | cons o l => rfl
 have hapl : ((l.length : Int)) ≤ 1073741824 := by omega
 have hdl : (mkO (l.map (dec p))).lenN = l.length := by rw [(mkO_isL _).lenM]; simp
 have hkr : nth (l.map (Op.row ∘ dec p)) kk = some [.str l[kk].nm, ia (vv p l[kk]), ia (vv p l[kk])] := by
  rw [nth_eq]; simp [hkl, dec, Op.row]
 have hset : ∀ Ω, Pr.sem Ω (.setc 0) [.sl 3 (l.map Op.row), ia kk, .str l[kk].nm, ia (vv p l[kk]), ia (vv p l[kk])] = .sl 3 ((l.set kk (dec p l[kk])).map Op.row) := fun Ω => by
  have e1 : nth (l.map Op.row) kk = some (Op.row l[kk]) := by rw [nth_eq]; simp [hkl]
  simp only [Pr.sem, AV.nI, Int.toNat_natCast, e1, getL, Op.row, set3, put_eq]
  rw [List.map_set]
  rfl
 have hfl : (l.set kk (dec p l[kk])).length = l.length := List.length_set
 have hfg : ∀ i (hi : i < (l.set kk (dec p l[kk])).length), InR (l.set kk (dec p l[kk]))[i] := fun i hi => by
  rw [List.getElem_set]
  split
  ·exact dec_in p0 (hin kk hkl)
  ·exact hin i (by rw [hfl] at hi; exact hi)
 have hfn : ∀ i, ((l.set kk (dec p l[kk])).getD i default).nm = (l.getD i default).nm := fun i => by
  simp only [List.getD_eq_getElem?_getD, List.getElem?_set]
  by_cases e : kk = i
  ·subst e; simp [hkl, dec]
  ·simp [e]
 have hfo : OpsOk (.sl 3 ((l.set kk (dec p l[kk])).map Op.row)) (l.set kk (dec p l[kk])) := ⟨.inl rfl, by rw [hfl]; exact hn, fun o ho => by
  rcases List.mem_or_eq_of_mem_set ho with ho | rfl
  ·exact h.sz o ho
  ·exact h.sz l[kk] (List.getElem_mem hkl)⟩
 have hfc := ck_same hfl hfn hfg hck
 have hfb : bad (l.set kk (dec p l[kk])) k = 0 := by unfold bad; rw [hfc, hfl]; simp; omega
 have f34b := p34 hfo
 have k34b := mkO_ok (l.set kk (dec p l[kk]))
 have f33b : F33 [mkO (l.set kk (dec p l[kk])), ia k] = some (.tuple [mkI (rks (posB (l.set kk (dec p l[kk])) ((l.set kk (dec p l[kk]))[k]'(by rw [hfl]; exact hk)) k) l.length), ia 0]) := by
  have := p33 (mkO_OpsOk hfo) hfb (by rw [hfl]; exact hk)
  simpa only [hfl] using this
 have k33b := mkI_ok (rks (posB (l.set kk (dec p l[kk])) ((l.set kk (dec p l[kk]))[k]'(by rw [hfl]; exact hk)) k) l.length)
 have G2 := G701 (P := posB l l[k] k) (S := posB (l.set kk (dec p l[kk])) ((l.set kk (dec p l[kk]))[k]'(by rw [hfl]; exact hk)) k) n2 fun r hr => fewer_pos p0 hin hk hkl hr
 have hl2 := mkI_len (rks (posB (l.set kk (dec p l[kk])) ((l.set kk (dec p l[kk]))[k]'(by rw [hfl]; exact hk)) k) l.length)
 have hdl2 : (l.map (dec p)).length = l.length := List.length_map _
 have hdo : OpsOk (mkO (l.map (dec p))) (l.map (dec p)) := ⟨mkO_isL _, by rw [hdl2]; exact hn, fun o ho => by
  obtain ⟨o', ho', rfl⟩ := List.mem_map.1 ho
  exact h.sz o' ho'⟩
 have hdc : ckOpen (l.map (dec p)) = 0 := ck_same (l := l) hdl2 (fun i => by
  by_cases e : i < l.length
  ·simp [e, dec]
  ·simp [e]) (fun i hi => by
  rw [List.getElem_map]
  exact dec_in p0 (hin i (by rw [hdl2] at hi; exact hi))) hck
 have hdb : bad (l.map (dec p)) k = 0 := by unfold bad; rw [hdc, hdl2]; simp; omega
 have f34c := p34 hdo
 have k34c := mkO_ok (l.map (dec p))
 have f33c : F33 [mkO (l.map (dec p)), ia k] = some (.tuple [mkI (rks (posB (l.map (dec p)) (dec p l[k]) k) l.length), ia 0]) := by
  have := p33 hdo hdb (by rw [hdl2]; exact hk)
  simpa only [hdl2, List.getElem_map] using this
 have bd := cnt_lt_n Op.lo (l.map (dec p)) k (vv p l[k]) l.length hk
 have bd2 := cnt_le Op.lo (l.map (dec p)) k (vv p l[k]) l.length
 have ht : rks (posB (l.map (dec p)) (dec p l[k]) k) l.length = [1 + cnt Op.lo (l.map (dec p)) k (vv p l[k]) l.length] :=
  rks_one (by omega) (by omega) (by rw [dec_pos p0 hin hk]; simp) fun r hr => by rw [dec_pos p0 hin hk]; simpa using hr
 rw [ht] at f33c
 have hro : RssOk (mkR (l.map (decR p))) (l.map (decR p)) := ⟨mkR_isL _, by simp; omega, fun r hr => by
  obtain ⟨o, ho, rfl⟩ := List.mem_map.1 hr
  exact decR_ok (hz o ho)⟩
 have f17 := p17 hro (round_dec p0 hck)
 rw [List.length_map] at f17
 have hal := rkl_len (l.map (decR p)) l.length
 have k17 := mkI_ok (rkl (l.map (decR p)) l.length)
 have hall := mkI_len (rkl (l.map (decR p)) l.length)
 have hak : (rkl (l.map (decR p)) l.length).getD k 0 = 1 + cnt Op.lo (l.map (dec p)) k (vv p l[k]) l.length := by
  rw [rkl_get _ _ _ hk]
  have g1 : (l.map (decR p)).getD k default = decR p l[k] := by simp [hk]
  rw [g1, List.length_map]
  exact rank_dec p l hk l.length (Nat.le_refl _)
 have hslc : ∀ Ω, Pr.sem Ω .slice [mkI (rkl (l.map (decR p)) l.length), ia k, ia ((k : Int) + 1)] = .sl 1 [[ia (1 + cnt Op.lo (l.map (dec p)) k (vv p l[k]) l.length)]] := fun Ω => by
  rw [mkI_sl (by omega), s_slc]
  have hkl3 : k < (rkl (l.map (decR p)) l.length).length := by omega
  have e1 : (ia k).nI.toNat = k := by simp [AV.nI]
  have e2 : (ia ((k : Int) + 1)).nI.toNat - k = 1 := by simp only [AV.nI]; omega
  rw [e1, e2]
  have e3 : (rkl (l.map (decR p)) l.length)[k] = 1 + cnt Op.lo (l.map (dec p)) k (vv p l[k]) l.length := by
   rw [← hak]; simp [hkl3]
  rw [List.drop_eq_getElem_cons (by simpa using hkl3)]
  simp [intR, e3]
 have f22 := p22 (a := mkI [1 + cnt Op.lo (l.map (dec p)) k (vv p l[k]) l.length]) (b := .sl 1 [[ia (1 + cnt Op.lo (l.map (dec p)) k (vv p l[k]) l.length)]]) (ns := [1 + cnt Op.lo (l.map (dec p)) k (vv p l[k]) l.length]) (mkI_isL _) (.inl rfl) (by simp)
 have k33c := mkI_ok [1 + cnt Op.lo (l.map (dec p)) k (vv p l[k]) l.length]
 have hw1 : IntKind.i64.wrap (((rks (posB l l[k] k) l.length).length : Int) - 1) = (((rks (posB l l[k] k) l.length).length - 1 : Nat) : Int) := by rw [i64w (by omega) (by omega)]; omega
 have hw2 : IntKind.i64.wrap ((k : Int) + 1) = (k : Int) + 1 := i64w (by omega) (by omega)
 have hr0 : nth ((rks (posB l l[k] k) l.length).map intR) 0 = some (intR (1 + cnt Op.lo l k l[k].hi l.length)) := by rw [nth_eq, List.getElem?_map, hhead]; rfl
 have hr9 : nth ((rks (posB l l[k] k) l.length).map intR) ((rks (posB l l[k] k) l.length).length - 1) = some (intR (1 + cnt Op.hi l k l[k].lo l.length)) := by rw [nth_eq, List.getElem?_map, hlast]; rfl
 have hlr := mkI_len (rks (posB l l[k] k) l.length)
 have hrr := mkI_rows (rks (posB l l[k] k) l.length)
 have hdr := mkO_rows (l.map (dec p))
 have d1 : (0 : Int) < (rks (posB l l[k] k) l.length).length := by omega
 have d2 : ¬ ((rks (posB l l[k] k) l.length).length = 0) := by omega
 have d3 : (((rks (posB l l[k] k) l.length).length - 1 : Nat) : Int) < (rks (posB l l[k] k) l.length).length := by omega
 have d4 : ((k : Int) + 1) ≤ l.length := by omega
 have d5 : (k : Int) ≤ (k : Int) + 1 := by omega
 have d6 : (rks (posB l l[k] k) l.length).length - 1 < (rks (posB l l[k] k) l.length).length := by omega
 have hw0 : IntKind.i64.wrap 0 = 0 := i64w (by omega) (by omega)
 have e0' : ¬ (8 < l.length) := by have := of_eq_false e0; omega
 simp [-List.map_set, F7, unitF_eq, t7, f32, f16, lN, e0, e0', f35, f34, k34, f33, k33, hlr, d2, G, hne, hne2, happ, hapl, hwp, hrem, hdl, hdr, hkr, hkl, hset, f34b, k34b, f33b, k33b, f34c, k34c, f33c, k33c, f17, k17, hall, hal, d1, hrr, hr0, intR, hw1, hr9, d3, d6, hw2, d4, d5, hslc, f22, hl2, G2, hlen, hw0, Int.toNat_natCast]
end Go.Proofs.YtdjngcfnlfgjkaaGreatDoor.C5
