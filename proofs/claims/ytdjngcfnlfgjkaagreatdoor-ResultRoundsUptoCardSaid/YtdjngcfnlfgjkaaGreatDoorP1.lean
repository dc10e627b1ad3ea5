/-
  Plain lemmas.
-/
import Derived.Test.YtdjngcfnlfgjkaaGreatDoorF1
import Derived.Lib.DecodeN
set_option linter.unusedVariables false
set_option linter.unusedSimpArgs false
set_option linter.unusedSectionVars false
namespace Go.Proofs.YtdjngcfnlfgjkaaGreatDoor.C5
open Go Go.Proofs.YtdjngcfnlfgjkaaGreatDoor.AM
def stepG (Ω : Om) (vs : List AV) : Te LEnd → Option (List AV ⊕ AV)
 | .ok (.again ys) => some (.inl (X.dens Ω vs ys))
 | .ok (.out tag zs) => some (.inr (.tuple (.int .i64 tag :: X.dens Ω vs zs)))
 | .fail _ => none
 | .need p t => if (X.den Ω vs p).bB = true then stepG Ω vs t else none
 | .ite c a b => if (X.den Ω vs c).bB = true then stepG Ω vs a else stepG Ω vs b
theorem stepG_eq (Ω : Om) (vs : List AV) : ∀ (B : Te LEnd), stepG Ω vs B = (match B.sel (X.den Ω vs) with
  | some (.again ys) => some (.inl (ys.map (X.den Ω vs)))
  | some (.out tag zs) => some (.inr (.tuple (.int .i64 tag :: zs.map (X.den Ω vs))))
  | none => none)
 | .ok (.again ys) => by simp only [stepG, Te.sel, X.dens_map]
 | .ok (.out tag zs) => by simp only [stepG, Te.sel, X.dens_map]
 | .fail _ => rfl
 | .need p t => by
   simp only [stepG, Te.sel]
   cases (X.den Ω vs p).bB with
   | true => simpa using stepG_eq Ω vs t
   | false => rfl
 | .ite c a b => by
   simp only [stepG, Te.sel]
   cases (X.den Ω vs c).bB with
   | true => simpa using stepG_eq Ω vs a
   | false => simpa using stepG_eq Ω vs b
theorem loopG_again {Ω : Om} {B : Te LEnd} {vs vs' : List AV} {K : Nat} (h : stepG Ω vs B = some (.inl vs')) : loopG Ω B (K + 1) vs = loopG Ω B K vs' := by
 rw [stepG_eq] at h
 simp only [loopG]
 split at h <;> simp_all
theorem loopG_out {Ω : Om} {B : Te LEnd} {vs : List AV} {r : AV} {K : Nat} (h : stepG Ω vs B = some (.inr r)) : loopG Ω B (K + 1) vs = some r := by
 rw [stepG_eq] at h
 simp only [loopG]
 split at h <;> simp_all
def valT (Ω : Om) (vs : List AV) : Te AV → Option AV
 | .ok a => some (AV.den (X.den Ω vs) id a)
 | .fail _ => none
 | .need p t => if (X.den Ω vs p).bB = true then valT Ω vs t else none
 | .ite c a b => if (X.den Ω vs c).bB = true then valT Ω vs a else valT Ω vs b
theorem unitF_eq (Ω : Om) (vs : List AV) : ∀ (t : Te AV), unitF Ω t vs = valT Ω vs t
 | .ok a => rfl
 | .fail _ => rfl
 | .need p t => by
   have := unitF_eq Ω vs t
   simp only [unitF, valT, Te.sel] at *
   cases (X.den Ω vs p).bB with
   | true => simpa using this
   | false => rfl
 | .ite c a b => by
   have h1 := unitF_eq Ω vs a
   have h2 := unitF_eq Ω vs b
   simp only [unitF, valT, Te.sel] at *
   cases (X.den Ω vs c).bB with
   | true => simpa using h1
   | false => simpa using h2
theorem loop_scan {Ω : Om} {B : Te LEnd} {st : Nat → List AV} {n : Nat} {res : Nat → Option AV} {fin : AV}
  (hs : ∀ i, i < n → stepG Ω (st i) B = some (match res i with | some r => .inr r | none => .inl (st (i + 1))))
  (hf : stepG Ω (st n) B = some (.inr fin)) : ∀ (j i K : Nat), i + j = n → j < K → loopG Ω B K (st i) = some (((List.range' i j).findSome? res).getD fin)
 | 0, i, K, hi, hK => by
   obtain ⟨K, rfl⟩ : ∃ m, K = m + 1 := ⟨K - 1, by omega⟩
   have : i = n := by omega
   subst this
   rw [loopG_out hf]; rfl
 | j + 1, i, K, hi, hK => by
   obtain ⟨K, rfl⟩ : ∃ m, K = m + 1 := ⟨K - 1, by omega⟩
   have h1 := hs i (by omega)
   cases hr : res i with
   | some r =>
     rw [hr] at h1
     rw [loopG_out h1]
     simp [List.range'_succ, hr]
   | none =>
     rw [hr] at h1
     rw [loopG_again h1, loop_scan hs hf j (i + 1) K (by omega) (by omega)]
     simp [List.range'_succ, hr]
theorem range_find {α β : Type} (l : List α) (g : α → Option β) (d : Nat → Option β) (h : ∀ i (hi : i < l.length), d i = g l[i]) : (List.range' 0 l.length).findSome? d = l.findSome? g := by
 have : ∀ (l : List α) (i : Nat), (∀ j (hj : j < l.length), d (i + j) = g l[j]) → (List.range' i l.length).findSome? d = l.findSome? g := by
  intro l
  induction l with
  | nil => intro i _; rfl
  | cons a l ih =>
    intro i h
    have h0 := h 0 (by simp)
    simp at h0
    rw [List.length_cons, List.range'_succ, List.findSome?_cons, List.findSome?_cons, h0, ih (i + 1) (fun j hj => by
     have := h (j + 1) (by simp; omega)
     rw [show i + 1 + j = i + (j + 1) by omega, this]; rfl)]
 exact this l 0 (fun j hj => by rw [Nat.zero_add]; exact h j hj)
def IsL (k : Nat) (rows : List (List AV)) (a : AV) : Prop := a = .sl k rows ∨ (a = .nils ∧ rows = [])
theorem IsL.rows {k : Nat} {rows : List (List AV)} {a : AV} (h : IsL k rows a) : a.rowsL = rows := by
 rcases h with rfl | ⟨rfl, rfl⟩ <;> rfl
theorem IsL.len {k : Nat} {rows : List (List AV)} {a : AV} (h : IsL k rows a) : a.lenN = rows.length := by
 rcases h with rfl | ⟨rfl, rfl⟩ <;> rfl
theorem IsL.ok {k : Nat} {rows : List (List AV)} {a : AV} {cs : List Sh} (h : IsL k rows a) (hk : k = cs.length) (hr : rows.all (Sh.oks cs) = true) : (Sh.sl cs).ok a = true := by
 rcases h with rfl | ⟨rfl, rfl⟩
 ·simp only [Sh.ok, hk, beq_self_eq_true, hr, Bool.and_self]
 ·rfl
theorem i64w {n : Int} (h1 : -9223372036854775808 ≤ n) (h2 : n ≤ 9223372036854775807) : IntKind.i64.wrap n = n := by
 rw [IntKind.wrap_i64]; omega
section
variable (Ω : Om) (a b c : AV)
@[simp] theorem s_add (k : IntKind) : Pr.sem Ω (.bin .add k) [a, b] = .int k (k.wrap (a.nI + b.nI)) := rfl
@[simp] theorem s_sub (k : IntKind) : Pr.sem Ω (.bin .sub k) [a, b] = .int k (k.wrap (a.nI - b.nI)) := rfl
@[simp] theorem s_eql (k : IntKind) : Pr.sem Ω (.bin .eql k) [a, b] = .bool (a.nI == b.nI) := rfl
@[simp] theorem s_neq (k : IntKind) : Pr.sem Ω (.bin .neq k) [a, b] = .bool (a.nI != b.nI) := rfl
@[simp] theorem s_lss (k : IntKind) : Pr.sem Ω (.bin .lss k) [a, b] = .bool (decide (a.nI < b.nI)) := rfl
@[simp] theorem s_leq (k : IntKind) : Pr.sem Ω (.bin .leq k) [a, b] = .bool (decide (a.nI ≤ b.nI)) := rfl
@[simp] theorem s_gtr (k : IntKind) : Pr.sem Ω (.bin .gtr k) [a, b] = .bool (decide (a.nI > b.nI)) := rfl
@[simp] theorem s_geq (k : IntKind) : Pr.sem Ω (.bin .geq k) [a, b] = .bool (decide (a.nI ≥ b.nI)) := rfl
@[simp] theorem s_seql : Pr.sem Ω (.sbin .eql) [a, b] = .bool (a.sS.toList == b.sS.toList) := rfl
@[simp] theorem s_sneq : Pr.sem Ω (.sbin .neq) [a, b] = .bool (!(a.sS.toList == b.sS.toList)) := rfl
@[simp] theorem s_not : Pr.sem Ω .not [a] = .bool (!a.bB) := rfl
@[simp] theorem s_beq : Pr.sem Ω .beq [a, b] = .bool (a.bB == b.bB) := rfl
@[simp] theorem s_ite : Pr.sem Ω .ite [c, a, b] = if c.bB = true then a else b := by
  show (match c.bB with | true => a | false => b) = _
  cases c.bB <;> rfl
@[simp] theorem s_len : Pr.sem Ω .len [a] = .int .i64 a.lenN := rfl
@[simp] theorem s_cell (o : Nat) : Pr.sem Ω (.cell o) [a, b] = getJ (nth (getL (nth a.rowsL b.nI.toNat)) o) := rfl
@[simp] theorem s_proj (i : Nat) : Pr.sem Ω (.proj i) [a] = getJ (nth a.tupL i) := rfl
@[simp] theorem s_fld (i : Nat) : Pr.sem Ω (.fld i) [a] = getJ (nth a.aggL i) := rfl
@[simp] theorem s_call (f n : Nat) (xs : List AV) : Pr.sem Ω (.call f n) xs = Ω f n xs := rfl
@[simp] theorem s_okr (rs : List RS) : Pr.sem Ω (.okr rs) [a] = .bool (RS.okr rs a) := rfl
@[simp] theorem s_keq : Pr.sem Ω .keq [a, b] = .bool (match keyEq a b with | some c => c | none => false) := rfl
@[simp] theorem s_app (k : Nat) : Pr.sem Ω (.app k) [a, b] = (match b.rowsL with | [] => a | r :: rs => .sl k (a.rowsL ++ (r :: rs))) := rfl
end
section
variable (a b c : AV) (xs ys : List AV) (n : Int) (k : IntKind)
@[simp] theorem nI_int : AV.nI (.int k n) = n := rfl
@[simp] theorem bB_bool (b : Bool) : AV.bB (.bool b) = b := rfl
@[simp] theorem sS_str (s : ByteArray) : AV.sS (.str s) = s := rfl
@[simp] theorem tupL_tup : AV.tupL (.tuple xs) = xs := rfl
@[simp] theorem aggL_agg : AV.aggL (.agg xs) = xs := rfl
@[simp] theorem lenN_str (s : ByteArray) : AV.lenN (.str s) = s.size := rfl
@[simp] theorem lenN_sl (j : Nat) (r : List (List AV)) : AV.lenN (.sl j r) = r.length := rfl
@[simp] theorem lenN_nils : AV.lenN .nils = 0 := rfl
@[simp] theorem rowsL_sl (j : Nat) (r : List (List AV)) : AV.rowsL (.sl j r) = r := rfl
@[simp] theorem rowsL_nils : AV.rowsL .nils = [] := rfl
@[simp] theorem getJ_some : getJ (some a) = a := rfl
@[simp] theorem getL_some {α : Type} (l : List α) : getL (some l) = l := rfl
@[simp] theorem nth_nil {α : Type} (n : Nat) : nth ([] : List α) n = none := rfl
@[simp] theorem nth_zero {α : Type} (a : α) (l : List α) : nth (a :: l) 0 = some a := rfl
@[simp] theorem nth_succ {α : Type} (a : α) (l : List α) (n : Nat) : nth (a :: l) (n + 1) = nth l n := rfl
@[simp] theorem nth_lit {α : Type} (a : α) (l : List α) (n : Nat) : nth (a :: l) (OfNat.ofNat (n + 1)) = nth l n := rfl
end
section
variable (Ω : Om) (ρ : List AV)
@[simp] theorem d_v (n : Nat) : X.den Ω ρ (.v n) = getJ (nth ρ n) := rfl
@[simp] theorem d_b (b : Bool) : X.den Ω ρ (.b b) = .bool b := rfl
@[simp] theorem d_i (k : IntKind) (n : Int) : X.den Ω ρ (.i k n) = .int k n := rfl
@[simp] theorem d_s (s : ByteArray) : X.den Ω ρ (.s s) = .str s := rfl
@[simp] theorem d_nils : X.den Ω ρ .nils = .nils := rfl
@[simp] theorem d_sl (k : Nat) (r : List (List X)) : X.den Ω ρ (.sl k r) = .sl k (X.denss Ω ρ r) := rfl
@[simp] theorem d_agg (l : List X) : X.den Ω ρ (.agg l) = .agg (X.dens Ω ρ l) := rfl
@[simp] theorem d_p (o : Pr) (l : List X) : X.den Ω ρ (.p o l) = o.sem Ω (X.dens Ω ρ l) := rfl
@[simp] theorem ds_nil : X.dens Ω ρ [] = [] := rfl
@[simp] theorem ds_cons (e : X) (l : List X) : X.dens Ω ρ (e :: l) = X.den Ω ρ e :: X.dens Ω ρ l := rfl
@[simp] theorem dss_nil : X.denss Ω ρ [] = [] := rfl
@[simp] theorem dss_cons (e : List X) (l : List (List X)) : X.denss Ω ρ (e :: l) = X.dens Ω ρ e :: X.denss Ω ρ l := rfl
variable {α : Type} (V : X → AV)
@[simp] theorem bB_ite (p : Prop) [Decidable p] (a b : AV) : (if p then a else b).bB = if p then a.bB else b.bB := by split <;> rfl
@[simp] theorem nI_ite (p : Prop) [Decidable p] (a b : AV) : (if p then a else b).nI = if p then a.nI else b.nI := by split <;> rfl
attribute [simp] stepG valT
@[simp] theorem int_ite (p : Prop) [Decidable p] (k : IntKind) (a b : Int) : (if p then AV.int k a else AV.int k b) = AV.int k (if p then a else b) := by split <;> rfl
@[simp] theorem bool_ite (p : Prop) [Decidable p] (a b : Bool) : (if p then AV.bool a else AV.bool b) = AV.bool (if p then a else b) := by split <;> rfl
@[simp] theorem beqB (a b : ByteArray) : (a == b) = decide (a = b) := by
  rcases a with ⟨a⟩
  rcases b with ⟨b⟩
  show (a == b) = decide (ByteArray.mk a = ByteArray.mk b)
  rw [Bool.eq_iff_iff]
  simp
@[simp] theorem v_sym_bool (σ : Nat → Nat) (e : X) : AV.den V σ (.sym .bool e) = V e := rfl
@[simp] theorem v_sym_int (σ : Nat → Nat) (k : IntKind) (e : X) : AV.den V σ (.sym (.int k) e) = V e := rfl
@[simp] theorem v_sym_str (σ : Nat → Nat) (e : X) : AV.den V σ (.sym .str e) = V e := rfl
@[simp] theorem v_sym_sl (σ : Nat → Nat) (cs : List Sh) (e : X) : AV.den V σ (.sym (.sl cs) e) = V e := rfl
@[simp] theorem v_sym_im (σ : Nat → Nat) (k : Sh) (ag : Bool) (cs : List Sh) (e : X) : AV.den V σ (.sym (.im k ag cs) e) = V e := rfl
@[simp] theorem v_tuple (σ : Nat → Nat) (l : List AV) : AV.den V σ (.tuple l) = .tuple (AV.dens V σ l) := rfl
@[simp] theorem v_agg (σ : Nat → Nat) (l : List AV) : AV.den V σ (.agg l) = .agg (AV.dens V σ l) := rfl
@[simp] theorem vs_nil (σ : Nat → Nat) : AV.dens V σ [] = [] := rfl
@[simp] theorem vs_cons (σ : Nat → Nat) (a : AV) (l : List AV) : AV.dens V σ (a :: l) = AV.den V σ a :: AV.dens V σ l := rfl
@[simp] theorem om_nil (K : Nat) (cs : List Cal) : omL K cs [] = calO cs := rfl
@[simp] theorem om_cons (K : Nat) (cs : List Cal) (d : LoopD) (ds : List LoopD) (f n : Nat) (vs : List AV) : omL K cs (d :: ds) f n vs = if f = loopId ∧ n = d.L.id then getJ (loopG (omL K cs ds) d.B K vs) else omL K cs ds f n vs := rfl
@[simp] theorem okr_one (s : Sh) (a : AV) : RS.okr [.one s] a = s.ok a := rfl
@[simp] theorem okr_two (r s : RS) (l : List AV) : RS.okr [r, s] (.tuple l) = RS.oks [r, s] l := rfl
@[simp] theorem oks_cons (r : RS) (rs : List RS) (a : AV) (l : List AV) : RS.oks (r :: rs) (a :: l) = (r.ok a && RS.oks rs l) := rfl
@[simp] theorem oks_nil : RS.oks [] [] = true := rfl
@[simp] theorem rok_one (s : Sh) (a : AV) : (RS.one s).ok a = s.ok a := rfl
@[simp] theorem ok_bool (b : Bool) : Sh.bool.ok (.bool b) = true := rfl
@[simp] theorem ok_int (k : IntKind) (n : Int) : (Sh.int k).ok (.int k n) = true := by simp [Sh.ok]
@[simp] theorem ok_str (s : ByteArray) : Sh.str.ok (.str s) = true := rfl
@[simp] theorem soks_nil : Sh.oks [] [] = true := rfl
@[simp] theorem soks_cons (s : Sh) (ss : List Sh) (a : AV) (l : List AV) : Sh.oks (s :: ss) (a :: l) = (s.ok a && Sh.oks ss l) := rfl
@[simp] theorem ok_nils (cs : List Sh) : (Sh.sl cs).ok .nils = true := rfl
@[simp] theorem ok_sl (cs : List Sh) (k : Nat) (r : List (List AV)) : (Sh.sl cs).ok (.sl k r) = (k == cs.length && r.all (Sh.oks cs)) := rfl
end
theorem toList_inj' {a b : ByteArray} : a.toList = b.toList ↔ a = b := by
 constructor
 ·intro h
  simp only [ByteArray.toList_eq] at h
  rcases a with ⟨a⟩; rcases b with ⟨b⟩
  simp only at h
  rw [Array.toList_inj.1 h]
 ·rintro rfl; rfl
attribute [simp] loopId toList_inj'
@[reducible] def ia (n : Int) : AV := .int .i64 n
theorem IsL.row {α : Type} {k i : Nat} {f : α → List AV} {l : List α} {a : AV} (h : IsL k (l.map f) a) (hi : i < l.length) : nth a.rowsL (Int.toNat (i : Int)) = some (f l[i]) := by
 rw [h.rows, nth_eq, Int.toNat_natCast, List.getElem?_map, List.getElem?_eq_getElem hi]; rfl
theorem IsL.lenM {α : Type} {k : Nat} {f : α → List AV} {l : List α} {a : AV} (h : IsL k (l.map f) a) : a.lenN = l.length := by
 rw [h.len, List.length_map]
theorem isL_sl {k : Nat} {r : List (List AV)} : IsL k r (.sl k r) := .inl rfl
theorem isL_nils {k : Nat} : IsL k [] .nils := .inr ⟨rfl, rfl⟩
theorem isL_nils' {α : Type} {f : α → List AV} {k : Nat} : IsL k (([] : List α).map f) .nils := .inr ⟨rfl, rfl⟩
theorem KK_eq : KK = 2097152 := rfl
theorem wS {i : Nat} (h : i < 2097152) : IntKind.i64.wrap ((i : Int) + 1) = ((i + 1 : Nat) : Int) := by
 rw [i64w (by omega) (by omega)]; omega
theorem loop0 {Ω : Om} {B : Te LEnd} (st : Nat → List AV) (n : Nat) (res : Nat → Option AV) (fin : AV) (hn : n < 2097152)
  (hs : ∀ i, i < n → stepG Ω (st i) B = some (match res i with | some r => .inr r | none => .inl (st (i + 1))))
  (hf : stepG Ω (st n) B = some (.inr fin)) : loopG Ω B KK (st 0) = some (((List.range' 0 n).findSome? res).getD fin) :=
 loop_scan hs hf n 0 KK (by omega) (by rw [KK_eq]; omega)
def strR (s : ByteArray) : List AV := [.str s]
theorem loopL {α : Type} {Ω : Om} {B : Te LEnd} (st : Nat → List AV) (l : List α) (g : α → Option AV) (fin : AV) (hn : l.length < 2097152)
  (hs : ∀ i (hi : i < l.length), stepG Ω (st i) B = some (match g l[i] with | some r => .inr r | none => .inl (st (i + 1))))
  (hf : stepG Ω (st l.length) B = some (.inr fin)) : loopG Ω B KK (st 0) = some ((l.findSome? g).getD fin) := by
 rw [loop0 st l.length (fun i => if h : i < l.length then g l[i] else none) fin hn (fun i hi => by rw [hs i hi, dif_pos hi]) hf,
  range_find l g _ (fun i hi => by rw [dif_pos hi])]
theorem loopF {Ω : Om} {B : Te LEnd} (st : Nat → List AV) (n : Nat) (fin : AV) (hn : n < 2097152)
  (hs : ∀ i, i < n → stepG Ω (st i) B = some (.inl (st (i + 1)))) (hf : stepG Ω (st n) B = some (.inr fin)) : loopG Ω B KK (st 0) = some fin := by
 rw [loop0 st n (fun _ => none) fin hn (fun i hi => hs i hi) hf, List.findSome?_eq_none_iff.2 (fun _ _ => rfl)]
 rfl
def outB (v lo hi : Int) : Bool := decide (v < lo) || decide (v > hi)
def whenI (b : Bool) (n : Int) : Int := if b then n else 0
theorem p80 (b : Bool) (n : Int) : F80 [.bool b, ia n] = some (ia (whenI b n)) := by
 cases b <;> simp [F80, unitF_eq, t80, whenI]
def memB (s : ByteArray) (ns : List ByteArray) : Bool := ns.any fun x => decide (s = x)
theorem memB_iff {s : ByteArray} {ns : List ByteArray} : memB s ns = true ↔ s ∈ ns := by simp [memB]
def intR (n : Int) : List AV := [ia n]
def firstNz (l : List Int) : Int := (l.find? fun n => decide (n ≠ 0)).getD 0
theorem G7600 {Ω : Om} {a : AV} {ns : List Int} (h : IsL 1 (ns.map intR) a) (hn : ns.length < 2097152) :
  loopG Ω B7600 KK [a, ia ns.length, ia 0] = some ((ns.findSome? fun n => if n = 0 then none else some (.tuple [ia 1, ia n])).getD (.tuple [ia 2])) := by
 refine loopL (fun i => [a, ia ns.length, ia i]) ns _ _ hn (fun i hi => ?_) ?_
 ·have hr : nth a.rowsL (Int.toNat (i : Int)) = some [ia ns[i]] := h.row hi
  have hw := wS (Nat.lt_trans hi hn)
  by_cases hc : ns[i] = 0 <;> simp_all [B7600, h.lenM]
 ·simp [B7600]
theorem p76 {a : AV} {ns : List Int} (h : IsL 1 (ns.map intR) a) (hn : ns.length < 2097152) : F76 [a] = some (ia (firstNz ns)) := by
 have hG := @G7600 (calO s76) _ _ h hn
 have : (ns.findSome? fun n => if n = 0 then none else some (AV.tuple [ia 1, ia n])) = (ns.find? fun n => decide (n ≠ 0)).map fun n => AV.tuple [ia 1, ia n] := by
  clear h hn hG
  induction ns with
  | nil => rfl
  | cons n ns ih => by_cases hc : n = 0 <;> simp_all
 rw [this] at hG
 unfold firstNz
 cases hf : ns.find? fun n => decide (n ≠ 0) <;> rw [hf] at hG <;> simp_all [F76, unitF_eq, t76, h.lenM]
set_option maxRecDepth 20000
set_option maxHeartbeats 2000000
def letB (b : Nat) : Bool := (decide (97 ≤ b) && decide (b ≤ 122)) || (decide (65 ≤ b) && decide (b ≤ 90))
def goodB (i b : Nat) : Bool := letB b || (decide (i ≠ 0) && (decide (b = 95) || (decide (48 ≤ b) && decide (b ≤ 57))))
theorem goodB_lt {i b : Nat} (h : goodB i b = true) : b < 128 := by
 simp [goodB, letB] at h
 omega
theorem goodB_eq (i b : Nat) : goodB i b = decide (((97 ≤ b ∧ b ≤ 122) ∨ (65 ≤ b ∧ b ≤ 90)) ∨ (i ≠ 0 ∧ (b = 95 ∨ (48 ≤ b ∧ b ≤ 57)))) := by
 simp [goodB, letB, Bool.decide_or, Bool.decide_and]
theorem s_byte (Ω : Om) (s : ByteArray) (i : Nat) (hi : i < s.size) : Pr.sem Ω .byte [.str s, ia i] = .int .u8 (s[i].toNat : Int) := by
 show AV.int .u8 (match (AV.str s).sS[(ia i).nI.toNat]? with | some b => b.toNat | none => 0) = _
 simp [hi]
theorem s_rune (Ω : Om) (s : ByteArray) (i : Nat) : Pr.sem Ω .rune [.str s, ia i] = .int .i32 (Utf8.decode s i).1 := rfl
theorem s_adv (Ω : Om) (s : ByteArray) (i : Nat) : Pr.sem Ω .adv [.str s, ia i] = .int .i64 (i + (Utf8.decode s i).2) := rfl
theorem get_eq {s : ByteArray} {i : Nat} (hi : i < s.size) : s.get! i = s[i] := by
 rcases s with ⟨a⟩
 have hi' : i < a.size := hi
 show a[i]! = a[i]
 rw [getElem!_pos a i hi']
theorem dec_lo {s : ByteArray} {i : Nat} (hi : i < s.size) (h : s[i].toNat < 128) : Utf8.decode s i = (s[i].toNat, 1) := by
 rw [Lib.decode_at, get_eq hi]
 unfold Lib.decodeN
 rw [if_pos h]
theorem decN_hi (n b0 b1 b2 b3 : Nat) (h : ¬ b0 < 128) : 128 ≤ (Lib.decodeN n b0 b1 b2 b3).1 := by
 unfold Lib.decodeN
 rw [if_neg h]
 repeat' split
 all_goals first | (simp only; omega)
theorem dec_hi {s : ByteArray} {i : Nat} (hi : i < s.size) (h : ¬ s[i].toNat < 128) : 128 ≤ (Utf8.decode s i).1 := by
 rw [Lib.decode_at, get_eq hi]
 exact decN_hi _ _ _ _ _ h
def badO (s : ByteArray) (i : Nat) : Option AV := if goodB i (s[i]?.getD 0).toNat then none else some (.tuple [ia 1])
theorem G8900 {Ω : Om} {s : ByteArray} (hs : s.size < 2097152) :
  loopG Ω B8900 KK [.str s, ia 0] = some (((List.range' 0 s.size).findSome? (badO s)).getD (.tuple [ia 2])) := by
 refine loop0 (fun i => [.str s, ia i]) s.size _ _ hs (fun i hi => ?_) ?_
 ·have hw := wS (Nat.lt_trans hi hs)
  have hb : badO s i = if goodB i s[i].toNat then none else some (.tuple [ia 1]) := by simp [badO, hi]
  rw [hb]
  generalize hc : s[i].toNat = b
  have hsb := s_byte Ω s i hi
  rw [hc] at hsb
  have hw0 : IntKind.i64.wrap 1 = 1 := i64w (by omega) (by omega)
  by_cases h1 : (97 : Int) ≤ b <;> by_cases h2 : (b : Int) ≤ 122 <;> by_cases h3 : (65 : Int) ≤ b <;> by_cases h4 : (b : Int) ≤ 90 <;> by_cases h5 : (48 : Int) ≤ b <;> by_cases h6 : (b : Int) ≤ 57 <;> by_cases h7 : (b : Int) = 95 <;> by_cases h8 : i = 0 <;>
   first
    | (exfalso; omega)
    | (have hg : goodB i b = true := by rw [goodB_eq, decide_eq_true_eq]; omega
       simp [B8900, hsb, hi, hw, hg, h1, h2, h3, h4, h5, h6, h7, h8]
       done)
    | (have hg : goodB i b = true := by rw [goodB_eq, decide_eq_true_eq]; omega
       subst h8
       have hsb0 : Pr.sem Ω .byte [.str s, ia 0] = .int .u8 b := hsb
       simp [B8900, hsb0, hi, hw0, hg, h1, h2, h3, h4, h5, h6, h7]
       done)
    | (have hg : goodB i b = false := by rw [goodB_eq, decide_eq_false_iff_not]; omega
       simp [B8900, hsb, hi, hw, hg, h1, h2, h3, h4, h5, h6, h7, h8]
       done)
    | (have hg : goodB i b = false := by rw [goodB_eq, decide_eq_false_iff_not]; omega
       subst h8
       have hsb0 : Pr.sem Ω .byte [.str s, ia 0] = .int .u8 b := hsb
       simp [B8900, hsb0, hi, hw0, hg, h1, h2, h3, h4, h5, h6, h7]
       done)
 ·simp [B8900]
theorem G8800 {Ω : Om} {s v : ByteArray} (hs : s.size < 2097152) :
  loopG Ω B8800 KK [.str v, .str s, ia 0] = some (((List.range' 0 s.size).findSome? (badO s)).getD (.tuple [ia 2, .str v])) := by
 refine loop0 (fun i => [.str v, .str s, ia i]) s.size _ _ hs (fun i hi => ?_) ?_
 ·have hb : badO s i = if goodB i s[i].toNat then none else some (.tuple [ia 1]) := by simp [badO, hi]
  rw [hb]
  obtain ⟨r, k, hrk⟩ : ∃ r k, Utf8.decode s i = (r, k) := ⟨_, _, rfl⟩
  have hsr : Pr.sem Ω .rune [.str s, ia i] = .int .i32 (r : Int) := by rw [s_rune, hrk]
  have hsa : Pr.sem Ω .adv [.str s, ia i] = .int .i64 ((i : Int) + k) := by rw [s_adv, hrk]
  have hm : goodB i s[i].toNat = goodB i r := by
   by_cases hl : s[i].toNat < 128
   ·have := dec_lo hi hl
    rw [hrk] at this
    injection this with h1 h2
    rw [h1]
   ·have h1 := dec_hi hi hl
    rw [hrk] at h1
    have h2 : goodB i s[i].toNat = false := by
     cases h : goodB i s[i].toNat with
     | false => rfl
     | true => exact absurd (goodB_lt h) hl
    have h3 : goodB i r = false := by
     cases h : goodB i r with
     | false => rfl
     | true => have := goodB_lt h; simp only at h1; omega
    rw [h2, h3]
  have hk : goodB i r = true → k = 1 := by
   intro h
   rw [← hm] at h
   have := dec_lo hi (goodB_lt h)
   rw [hrk] at this
   injection this
  have hw0 : IntKind.i64.wrap 1 = 1 := i64w (by omega) (by omega)
  by_cases h1 : (97 : Int) ≤ r <;> by_cases h2 : (r : Int) ≤ 122 <;> by_cases h3 : (65 : Int) ≤ r <;> by_cases h4 : (r : Int) ≤ 90 <;> by_cases h5 : (r : Int) < 48 <;> by_cases h6 : (57 : Int) < r <;> by_cases h7 : (r : Int) = 95 <;> by_cases h8 : i = 0 <;>
   first
    | (exfalso; omega)
    | (have hg : goodB i r = true := by rw [goodB_eq, decide_eq_true_eq]; omega
       have hk1 := hk hg
       subst hk1
       rw [show ((1 : Nat) : Int) = 1 from rfl] at hsa
       simp [B8800, hsr, hsa, hi, hg, hm, h1, h2, h3, h4, h5, h6, h7, h8]
       done)
    | (have hg : goodB i r = true := by rw [goodB_eq, decide_eq_true_eq]; omega
       have hk1 := hk hg
       subst hk1
       subst h8
       have hsr0 : Pr.sem Ω .rune [.str s, ia 0] = .int .i32 r := hsr
       have hsa0 : Pr.sem Ω .adv [.str s, ia 0] = .int .i64 1 := hsa
       simp [B8800, hsr0, hsa0, hi, hg, hm, h1, h2, h3, h4, h5, h6, h7]
       done)
    | (have hg : goodB i r = false := by rw [goodB_eq, decide_eq_false_iff_not]; omega
       simp [B8800, hsr, hi, hg, hm, h1, h2, h3, h4, h5, h6, h7, h8]
       done)
    | (have hg : goodB i r = false := by rw [goodB_eq, decide_eq_false_iff_not]; omega
       subst h8
       have hsr0 : Pr.sem Ω .rune [.str s, ia 0] = .int .i32 r := hsr
       simp [B8800, hsr0, hi, hg, hm, h1, h2, h3, h4, h5, h6, h7]
       done)
 ·simp [B8800]
theorem size0 {s : ByteArray} : s = w0 ↔ s.size = 0 := by
 constructor
 ·rintro rfl; rfl
 ·intro h
  rcases s with ⟨a⟩
  have : a.size = 0 := h
  rw [w0, Array.size_eq_zero_iff.1 this]
def isName (s : ByteArray) : Bool := decide (1 ≤ s.size) && (decide (s.size ≤ 24) && ((List.range' 0 s.size).findSome? (badO s)).isNone)
theorem bad_cases (s : ByteArray) : ((List.range' 0 s.size).findSome? (badO s) = none) ∨ ((List.range' 0 s.size).findSome? (badO s) = some (.tuple [ia 1])) := by
 cases h : (List.range' 0 s.size).findSome? (badO s) with
 | none => exact .inl rfl
 | some r =>
   right
   obtain ⟨i, _, hr⟩ := List.exists_of_findSome?_eq_some h
   unfold badO at hr
   split at hr
   ·cases hr
   ·injection hr with hr; rw [← hr]
theorem p89 {s : ByteArray} (hs : s.size < 2097152) : F89 [.str s] = some (.bool (isName s)) := by
 have hG := @G8900 (calO s89) s hs
 by_cases h1 : (s.size : Int) < 1 <;> by_cases h2 : (24 : Int) < s.size <;> rcases bad_cases s with h | h <;> rw [h] at hG <;>
  first
   | (exfalso; omega)
   | (have h3 : 1 ≤ s.size := by omega
      have h4 : s.size ≤ 24 := by omega
      simp [F89, unitF_eq, t89, h1, h2, hG, isName, h, h3, h4]
      done)
   | (have h3 : ¬ 1 ≤ s.size := by omega
      simp [F89, unitF_eq, t89, h1, h2, isName, h3]
      done)
   | (have h3 : ¬ s.size ≤ 24 := by omega
      simp [F89, unitF_eq, t89, h1, h2, isName, h3]
      done)
theorem p88 {s : ByteArray} (hs : s.size < 2097152) : F88 [.str s] = some (.bool (isName s)) := by
 have hG := @G8800 (calO s88) s s hs
 by_cases h1 : s.size = 0 <;> by_cases h2 : (s.size : Int) ≤ 24 <;> rcases bad_cases s with h | h <;> rw [h] at hG <;>
  first
   | (exfalso; omega)
   | (have h3 : 1 ≤ s.size := by omega
      have h4 : s.size ≤ 24 := by omega
      simp [F88, unitF_eq, t88, h1, h2, hG, isName, h, h3, h4, size0]
      done)
   | (have h3 : ¬ 1 ≤ s.size := by omega
      simp [F88, unitF_eq, t88, h1, h2, hG, isName, h3, size0]
      done)
   | (have h3 : ¬ s.size ≤ 24 := by omega
      simp [F88, unitF_eq, t88, h1, h2, hG, isName, h3, size0]
      done)
set_option maxHeartbeats 4000000
@[simp] theorem s_isNil (Ω : Om) (a : AV) : Pr.sem Ω .isNil [a] = .bool a.nilB := rfl
theorem tf_or (p : Prop) [Decidable p] : p = True ∨ p = False := by
 by_cases h : p
 ·exact .inl (eq_true h)
 ·exact .inr (eq_false h)
theorem fz_cons (a : Int) (l : List Int) : firstNz (a :: l) = if a = 0 then firstNz l else a := by
 by_cases h : a = 0 <;> simp [firstNz, h]
theorem fz_nil : firstNz [] = 0 := rfl
theorem IsL.rowN {α : Type} {k i : Nat} {f : α → List AV} {l : List α} {a : AV} (h : IsL k (l.map f) a) (hi : i < l.length) : nth a.rowsL i = some (f l[i]) := by
 have := h.row hi
 rwa [Int.toNat_natCast] at this
structure Op where
 nm : ByteArray
 lo : Int
 hi : Int
 deriving Inhabited
def Op.row (o : Op) : List AV := [.str o.nm, ia o.lo, ia o.hi]
def cnt (f : Op → Int) (l : List Op) (c v : Int) : Nat → Int
 | 0 => 0
 | i + 1 => cnt f l c v i + (if (i : Int) ≠ c ∧ f (l.getD i default) > v then 1 else 0)
theorem cnt_le (f : Op → Int) (l : List Op) (c v : Int) : ∀ i : Nat, 0 ≤ cnt f l c v i ∧ cnt f l c v i ≤ i
 | 0 => by simp [cnt]
 | i + 1 => by
   have := cnt_le f l c v i
   simp only [cnt]
   split <;> omega
structure OpsOk (a : AV) (l : List Op) : Prop where
 is : IsL 3 (l.map Op.row) a
 n : l.length < 1048577
 sz : ∀ o ∈ l, o.nm.size < 2097152
theorem G10600 {Ω : Om} {a : AV} {l : List Op} (h : OpsOk a l) (c v : Int) :
  loopG Ω B10600 KK [ia c, ia v, ia 0, ia 0, a, ia l.length, ia 0] = some (.tuple [ia 1, ia (cnt Op.lo l c v l.length), ia (cnt Op.hi l c v l.length)]) := by
 have hn := h.n
 refine loopF (fun i => [ia c, ia v, ia (cnt Op.lo l c v i), ia (cnt Op.hi l c v i), a, ia l.length, ia i]) l.length _ (by omega) (fun i hi => ?_) ?_
 ·have hr : nth a.rowsL i = some (Op.row l[i]) := h.is.rowN hi
  have hw := wS (show i < 2097152 by omega)
  have hg : l.getD i default = l[i] := by simp [hi]
  have b1 := cnt_le Op.lo l c v i
  have b2 := cnt_le Op.hi l c v i
  have w1 : IntKind.i64.wrap (cnt Op.lo l c v i + 1) = cnt Op.lo l c v i + 1 := i64w (by omega) (by omega)
  have w2 : IntKind.i64.wrap (cnt Op.hi l c v i + 1) = cnt Op.hi l c v i + 1 := i64w (by omega) (by omega)
  simp only [cnt, hg]
  rcases tf_or ((i : Int) = c) with e1 | e1 <;> rcases tf_or (v < l[i].lo) with e2 | e2 <;> rcases tf_or (v < l[i].hi) with e3 | e3 <;>
   simp [B10600, h.is.lenM, hr, Op.row, hi, hw, w1, w2, e1, e2, e3]
 ·simp [B10600]
theorem p106 {a : AV} {l : List Op} (h : OpsOk a l) (c v : Int) : F106 [a, ia c, ia v] = some (.tuple [ia (cnt Op.lo l c v l.length), ia (cnt Op.hi l c v l.length)]) := by
 simp [F106, unitF_eq, t106, G10600 h, h.is.lenM]
theorem G10700 {Ω : Om} {a : AV} {l : List Op} (h : OpsOk a l) (c v : Int) :
  loopG Ω B10700 KK [a, ia c, ia v, ia 0, ia 0] = some (.tuple [ia 1, ia (cnt Op.lo l c v l.length)]) := by
 have hn := h.n
 refine loopF (fun i => [a, ia c, ia v, ia (cnt Op.lo l c v i), ia i]) l.length _ (by omega) (fun i hi => ?_) ?_
 ·have hr : nth a.rowsL i = some (Op.row l[i]) := h.is.rowN hi
  have hw := wS (show i < 2097152 by omega)
  have hg : l.getD i default = l[i] := by simp [hi]
  have b1 := cnt_le Op.lo l c v i
  have w1 : IntKind.i64.wrap (cnt Op.lo l c v i + 1) = cnt Op.lo l c v i + 1 := i64w (by omega) (by omega)
  simp only [cnt, hg]
  rcases tf_or ((i : Int) = c) with e1 | e1 <;> rcases tf_or (v < l[i].lo) with e2 | e2 <;>
   simp [B10700, h.is.lenM, hr, Op.row, hi, hw, w1, e1, e2]
 ·simp [B10700, h.is.lenM]
theorem p107 {a : AV} {l : List Op} (h : OpsOk a l) (c v : Int) : F107 [a, ia c, ia v] = some (ia (cnt Op.lo l c v l.length)) := by
 simp [F107, unitF_eq, t107, G10700 h, h.is.lenM]
theorem G10800 {Ω : Om} {a : AV} {l : List Op} (h : OpsOk a l) (c v : Int) :
  loopG Ω B10800 KK [a, ia c, ia v, ia 0, ia 0] = some (.tuple [ia 1, ia (cnt Op.hi l c v l.length)]) := by
 have hn := h.n
 refine loopF (fun i => [a, ia c, ia v, ia (cnt Op.hi l c v i), ia i]) l.length _ (by omega) (fun i hi => ?_) ?_
 ·have hr : nth a.rowsL i = some (Op.row l[i]) := h.is.rowN hi
  have hw := wS (show i < 2097152 by omega)
  have hg : l.getD i default = l[i] := by simp [hi]
  have b1 := cnt_le Op.hi l c v i
  have w1 : IntKind.i64.wrap (cnt Op.hi l c v i + 1) = cnt Op.hi l c v i + 1 := i64w (by omega) (by omega)
  simp only [cnt, hg]
  rcases tf_or ((i : Int) = c) with e1 | e1 <;> rcases tf_or (v < l[i].hi) with e2 | e2 <;>
   simp [B10800, h.is.lenM, hr, Op.row, hi, hw, w1, e1, e2]
 ·simp [B10800, h.is.lenM]
theorem p108 {a : AV} {l : List Op} (h : OpsOk a l) (c v : Int) : F108 [a, ia c, ia v] = some (ia (cnt Op.hi l c v l.length)) := by
 simp [F108, unitF_eq, t108, G10800 h, h.is.lenM]
theorem p77 (n lo hi : Int) : F77 [ia n, ia lo, ia hi] = some (ia (whenI (outB n lo hi) 3)) := by
 rcases tf_or (n < lo) with e1 | e1 <;> rcases tf_or (hi < n) with e2 | e2 <;> simp [F77, unitF_eq, t77, p80, outB, e1, e2]
@[simp] theorem nilB_sl (k : Nat) (r : List (List AV)) : AV.nilB (.sl k r) = false := rfl
@[simp] theorem s_whole (Ω : Om) (k k' : Nat) (r r' : List (List AV)) : Pr.sem Ω .whole [.sl k r, .sl k' r'] = if r.length = r'.length then .sl k' r' else .sl k r := rfl
theorem ints_map : ∀ zs : List Int, intsOf (zs.map intR) = some zs
 | [] => rfl
 | z :: zs => by simp only [List.map_cons, intR, intsOf, ints_map zs]
theorem ok_ints (zs : List Int) : (Sh.sl [.int .i64]).ok (.sl 1 (zs.map intR)) = true := by
 simp [intR]
theorem p142 {zs : List Int} (h : zs.length < 1099511627776) : F142 [.sl 1 (zs.map intR)] = some (.sl 1 ((isort zs).map intR)) := by
 simp only [F142, ipFn, ints_map, ipSort, if_pos h]; rfl
theorem p143 {zs : List Int} (h : zs.length < 1099511627776) : F143 [.sl 1 (zs.map intR)] = some (.sl 1 ((uniqs zs).map intR)) := by
 simp only [F143, ipFn, ints_map, ipComp, if_pos h]; rfl
def pk (own : Op) (l : List Op) : Nat → List Int
 | 0 => [own.lo]
 | i + 1 => (pk own l i ++ (if own.lo < (l.getD i default).lo ∧ (l.getD i default).lo ≤ own.hi then [(l.getD i default).lo] else [])) ++ (if own.lo < (l.getD i default).hi ∧ (l.getD i default).hi ≤ own.hi then [(l.getD i default).hi] else [])
theorem pk_len (own : Op) (l : List Op) : ∀ i, (pk own l i).length ≤ 1 + 2 * i
 | 0 => by simp [pk]
 | i + 1 => by
   have := pk_len own l i
   simp only [pk, List.length_append]
   split <;> split <;> simp <;> omega
theorem G11100 {Ω : Om} {a : AV} {l : List Op} (h : OpsOk a l) (own : Op) :
  loopG Ω B11100 KK [.sl 1 [[ia own.lo]], a, ia l.length, ia 0, .str own.nm, ia own.lo, ia own.hi] = some (.tuple [ia 1, .sl 1 ((pk own l l.length).map intR)]) := by
 have hn := h.n
 refine loopF (fun i => [.sl 1 ((pk own l i).map intR), a, ia l.length, ia i, .str own.nm, ia own.lo, ia own.hi]) l.length _ (by omega) (fun i hi => ?_) ?_
 ·have hr : nth a.rowsL i = some (Op.row l[i]) := h.is.rowN hi
  have hw := wS (show i < 2097152 by omega)
  have hg : l.getD i default = l[i] := by simp [hi]
  have b1 := pk_len own l i
  have c1 : ((pk own l i).length : Int) + 1 ≤ 1073741824 := by omega
  have c2 : ((pk own l i).length : Int) + 2 ≤ 1073741824 := by omega
  have c3 : ((pk own l i).length : Int) + 1 + 1 ≤ 1073741824 := by omega
  simp only [pk, hg]
  rcases tf_or (own.lo < l[i].lo) with e1 | e1 <;> rcases tf_or (l[i].lo ≤ own.hi) with e2 | e2 <;> rcases tf_or (own.lo < l[i].hi) with e3 | e3 <;> rcases tf_or (l[i].hi ≤ own.hi) with e4 | e4 <;>
   simp [B11100, h.is.lenM, hr, Op.row, hi, hw, e1, e2, e3, e4, intR, c1, c2, c3]
 ·simp [B11100]
def zs (own : Op) (l : List Op) : List Int := uniqs (isort (pk own l l.length))
theorem p111 {a : AV} {l : List Op} (h : OpsOk a l) {c : Nat} (hc : c < l.length) : F111 [a, ia c] = some (.sl 1 ((zs l[c] l).map intR)) := by
 have hr : nth a.rowsL c = some (Op.row l[c]) := h.is.rowN hc
 have hn := h.n
 have b1 := pk_len l[c] l l.length
 have q1 := p142 (zs := pk l[c] l l.length) (by omega)
 have q2 := p143 (zs := isort (pk l[c] l l.length)) (by rw [isort_length]; omega)
 have k1 := ok_ints (isort (pk l[c] l l.length))
 have k2 := ok_ints (uniqs (isort (pk l[c] l l.length)))
 have G := @G11100 (calO s111) _ _ h l[c]
 simp only [Op.row] at hr
 simp [F111, unitF_eq, t111, h.is.lenM, hr, hc, G, q1, q2, isort_length, zs, intR]
theorem zs_len {own : Op} {l : List Op} : (zs own l).length ≤ 1 + 2 * l.length := by
 have h1 : ∀ (l : List Int) (y : Int), (uniq y l).length ≤ l.length := by
  intro l
  induction l with
  | nil => intro y; exact Nat.le_refl _
  | cons z l ih =>
    intro y
    have := ih z
    simp only [uniq]
    split <;> simp <;> omega
 have h2 : ∀ l : List Int, (uniqs l).length ≤ l.length := by
  intro l
  cases l with
  | nil => exact Nat.le_refl _
  | cons z l => have := h1 l z; simp [uniqs]; omega
 have := h2 (isort (pk own l l.length))
 rw [isort_length] at this
 exact Nat.le_trans this (pk_len own l l.length)
def okV (l : List Op) (c r v : Int) : Bool := decide (cnt Op.lo l c v l.length < r) && decide (r ≤ cnt Op.hi l c v l.length + 1)
theorem G8700 {a b : AV} {l : List Op} (h : OpsOk a l) {c r : Int} {ns : List Int} (hb : IsL 1 (ns.map intR) b) (hns : ns.length < 2097152) :
  loopG (calO s87) B8700 KK [a, ia c, ia r, b, ia ns.length, ia 0] = some ((ns.findSome? fun v => if okV l c r v then some (.tuple [ia 1, ia v]) else none).getD (.tuple [ia 2])) := by
 refine loopL (fun i => [a, ia c, ia r, b, ia ns.length, ia i]) ns _ _ hns (fun i hi => ?_) ?_
 ·have hr : nth b.rowsL i = some (intR ns[i]) := hb.rowN hi
  have hw := wS (show i < 2097152 by omega)
  have hn := h.n
  have b1 := cnt_le Op.lo l c ns[i] l.length
  have b2 := cnt_le Op.hi l c ns[i] l.length
  have w2 : IntKind.i64.wrap (cnt Op.hi l c ns[i] l.length + 1) = cnt Op.hi l c ns[i] l.length + 1 := i64w (by omega) (by omega)
  rcases tf_or (cnt Op.lo l c ns[i] l.length < r) with e1 | e1 <;> rcases tf_or (r ≤ cnt Op.hi l c ns[i] l.length + 1) with e2 | e2 <;>
   simp [B8700, hb.lenM, hr, intR, hi, hw, p106 h, w2, e1, e2, okV]
 ·simp [B8700]
theorem any_some (p : Int → Bool) (ns : List Int) : (∃ v, (ns.findSome? fun v => if p v then some (AV.tuple [ia 1, ia v]) else none) = some (.tuple [ia 1, ia v]) ∧ ns.any p = true) ∨
  ((ns.findSome? fun v => if p v then some (AV.tuple [ia 1, ia v]) else none) = none ∧ ns.any p = false) := by
 induction ns with
 | nil => exact .inr ⟨rfl, rfl⟩
 | cons n ns ih =>
   simp only [List.findSome?_cons, List.any_cons]
   cases hp : p n
   ·simpa using ih
   ·exact .inl ⟨n, by simp, rfl⟩
theorem p87 {a : AV} {l : List Op} (h : OpsOk a l) (hl : l.length ≤ 160) {c : Nat} (hc : c < l.length) (r : Int) : ∃ u, F87 [a, ia c, ia r] = some (.tuple [ia u, .bool ((zs l[c] l).any (okV l c r))]) := by
 have hn := h.n
 have hz := @zs_len l[c] l
 have f := p111 h hc
 have G := G8700 (c := (c : Int)) (r := r) h (b := .sl 1 ((zs l[c] l).map intR)) (ns := zs l[c] l) (.inl rfl) (by omega)
 have k := ok_ints (zs l[c] l)
 rcases any_some (okV l c r) (zs l[c] l) with ⟨v, h1, h2⟩ | ⟨h1, h2⟩
 ·rw [h1] at G
  refine ⟨v, ?_⟩
  simp at G k
  simp [F87, unitF_eq, t87, f, G, h2]
  exact k
 ·rw [h1] at G
  refine ⟨0, ?_⟩
  simp at G k
  simp [F87, unitF_eq, t87, f, G, h2]
  exact k
def wid (own : Op) : Nat := (own.hi - own.lo + 1).toNat
def posB (l : List Op) (own : Op) (c r : Int) : Bool := (List.range' 0 (wid own)).any fun i => okV l c r (own.lo + i)
theorem find_any {α : Type} (d : α → Bool) (t : AV) (s : List α) : (s.findSome? fun i => if d i then some t else none) = if s.any d then some t else none := by
 induction s with
 | nil => rfl
 | cons i s ih =>
   simp only [List.findSome?_cons, List.any_cons]
   rcases Bool.eq_false_or_eq_true (d i) with hd | hd
   ·simp [hd]
   ·simpa [hd] using ih
structure InR (own : Op) : Prop where
 lo : 0 ≤ own.lo
 le : own.lo ≤ own.hi
 hi : own.hi ≤ 99999
theorem G5700 {a : AV} {l : List Op} (h : OpsOk a l) (hl : l.length ≤ 160) {c : Nat} (hc : c < l.length) (hi : InR l[c]) {r : Int} (r1 : 1 ≤ r) (r2 : r ≤ 200) :
  loopG (calO s57) B5700 KK [a, ia c, ia r, ia l[c].lo] = some (if posB l l[c] c r then .tuple [ia 1] else .tuple [ia 2]) := by
 obtain ⟨i1, i2, i3⟩ := hi
 have hw0 : (wid l[c] : Int) = l[c].hi - l[c].lo + 1 := by unfold wid; omega
 have hr : nth a.rowsL c = some (Op.row l[c]) := h.is.rowN hc
 have wr : IntKind.i64.wrap (r - 1) = r - 1 := i64w (by omega) (by omega)
 have := loop0 (Ω := calO s57) (B := B5700) (fun i => [a, ia c, ia r, ia (l[c].lo + i)]) (wid l[c]) (fun i => if okV l c r (l[c].lo + i) then some (.tuple [ia 1]) else none) (.tuple [ia 2]) (by omega) (fun i hi => by
  have b1 := cnt_le Op.lo l c (l[c].lo + i) l.length
  have b2 := cnt_le Op.hi l c (l[c].lo + i) l.length
  have w2 : IntKind.i64.wrap (l[c].lo + i + 1) = l[c].lo + (i + 1) := by rw [i64w (by omega) (by omega)]; omega
  have hle : l[c].lo + i ≤ l[c].hi := by omega
  have z1 : (r ≤ cnt Op.hi l c (l[c].lo + i) l.length + 1) = (r - 1 ≤ cnt Op.hi l c (l[c].lo + i) l.length) := by rw [eq_iff_iff]; omega
  simp only [okV, z1]
  rcases tf_or (cnt Op.lo l c (l[c].lo + i) l.length < r) with e1 | e1 <;> rcases tf_or (r - 1 ≤ cnt Op.hi l c (l[c].lo + i) l.length) with e2 | e2 <;>
   simp [B5700, h.is.lenM, hr, Op.row, hc, hle, p107 h, p108 h, wr, w2, e1, e2]) (by
  have hle : ¬ (l[c].lo + (wid l[c] : Int) ≤ l[c].hi) := by omega
  simp [B5700, h.is.lenM, hr, Op.row, hc, hle])
 rw [find_any] at this
 simp only [Int.natCast_zero, Int.add_zero, show ((0 : Nat) : Int) = 0 from rfl] at this
 refine Eq.trans this ?_
 unfold posB
 split <;> rfl
theorem p57 {a : AV} {l : List Op} (h : OpsOk a l) (hl : l.length ≤ 160) {c : Nat} (hc : c < l.length) (hi : InR l[c]) {r : Int} (r1 : 1 ≤ r) (r2 : r ≤ 200) :
  F57 [a, ia c, ia r] = some (.bool (posB l l[c] c r)) := by
 have G := G5700 h hl hc hi r1 r2
 have hr : nth a.rowsL c = some (Op.row l[c]) := h.is.rowN hc
 simp only [Op.row] at hr
 cases hp : posB l l[c] c r <;> rw [hp] at G <;> simp at G <;> simp [F57, unitF_eq, t57, h.is.lenM, hr, hc, G]
theorem mem_pk {own : Op} {l : List Op} {x : Int} : ∀ {n : Nat}, x ∈ pk own l n ↔ x = own.lo ∨ ∃ i, i < n ∧ (x = (l.getD i default).lo ∨ x = (l.getD i default).hi) ∧ own.lo < x ∧ x ≤ own.hi
 | 0 => by simp [pk]
 | n + 1 => by
   have ih := mem_pk (own := own) (l := l) (x := x) (n := n)
   simp only [pk, List.mem_append, ih]
   constructor
   ·rintro (((h | ⟨i, h1, h2⟩) | h) | h)
    ·exact .inl h
    ·exact .inr ⟨i, by omega, h2⟩
    ·split at h
     ·rename_i hc; simp at h; subst h; exact .inr ⟨n, by omega, .inl rfl, hc⟩
     ·cases h
    ·split at h
     ·rename_i hc; simp at h; subst h; exact .inr ⟨n, by omega, .inr rfl, hc⟩
     ·cases h
   ·rintro (h | ⟨i, h1, h2, h3⟩)
    ·exact .inl (.inl (.inl h))
    ·by_cases hi : i < n
     ·exact .inl (.inl (.inr ⟨i, hi, h2, h3⟩))
     ·obtain rfl : i = n := by omega
      rcases h2 with h2 | h2
      ·rw [h2] at h3; exact .inl (.inr (by rw [if_pos h3]; simp [h2]))
      ·rw [h2] at h3; exact .inr (by rw [if_pos h3]; simp [h2])
theorem mem_zs {own : Op} {l : List Op} {x : Int} : x ∈ zs own l ↔ x ∈ pk own l l.length := by rw [zs, mem_uniqs, mem_isort]
theorem top_le : ∀ (s : List Int) (v : Int), (∃ x ∈ s, x ≤ v) → ∃ u ∈ s, u ≤ v ∧ ∀ x ∈ s, x ≤ v → x ≤ u
 | [], v, h => by obtain ⟨x, hx, _⟩ := h; cases hx
 | y :: s, v, h => by
   by_cases hs : ∃ x ∈ s, x ≤ v
   ·obtain ⟨u, h1, h2, h3⟩ := top_le s v hs
    by_cases hy : y ≤ v ∧ u < y
    ·refine ⟨y, .head _, hy.1, fun x hx hxv => ?_⟩
     rcases List.mem_cons.1 hx with rfl | hx
     ·exact Int.le_refl _
     ·have := h3 x hx hxv; omega
    ·refine ⟨u, .tail _ h1, h2, fun x hx hxv => ?_⟩
     rcases List.mem_cons.1 hx with rfl | hx
     ·omega
     ·exact h3 x hx hxv
   ·obtain ⟨x, hx, hxv⟩ := h
    rcases List.mem_cons.1 hx with rfl | hx
    ·refine ⟨x, .head _, hxv, fun z hz hzv => ?_⟩
     rcases List.mem_cons.1 hz with rfl | hz
     ·exact Int.le_refl _
     ·exact (hs ⟨z, hz, hzv⟩).elim
    ·exact (hs ⟨x, hx, hxv⟩).elim
theorem cnt_congr {f : Op → Int} {l : List Op} {c u v : Int} : ∀ (n : Nat), (∀ i, i < n → (f (l.getD i default) > v ↔ f (l.getD i default) > u)) → cnt f l c v n = cnt f l c u n
 | 0, _ => rfl
 | n + 1, h => by
   have := cnt_congr (c := c) n fun i hi => h i (by omega)
   have h1 := h n (by omega)
   simp only [cnt, this, h1]
theorem any_eq {l : List Op} {own : Op} {c r : Int} (hi : InR own) : (zs own l).any (okV l c r) = posB l own c r := by
 obtain ⟨i1, i2, i3⟩ := hi
 rw [Bool.eq_iff_iff]
 unfold posB
 simp only [List.any_eq_true, List.mem_range'_1, Nat.zero_le, true_and, Nat.zero_add]
 constructor
 ·rintro ⟨v, hv, hok⟩
  have hb : own.lo ≤ v ∧ v ≤ own.hi := by
   rcases mem_pk.1 (mem_zs.1 hv) with rfl | ⟨i, _, _, h1, h2⟩ <;> omega
  refine ⟨(v - own.lo).toNat, by unfold wid; omega, ?_⟩
  rw [show own.lo + ((v - own.lo).toNat : Int) = v by omega]
  exact hok
 ·rintro ⟨i, hi, hok⟩
  have hi' : own.lo + (i : Int) ≤ own.hi := by unfold wid at hi; omega
  obtain ⟨u, h1, h2, h3⟩ := top_le (pk own l l.length) (own.lo + i) ⟨own.lo, mem_pk.2 (.inl rfl), by omega⟩
  refine ⟨u, mem_zs.2 h1, ?_⟩
  have hu : own.lo ≤ u := by
   rcases mem_pk.1 h1 with rfl | ⟨_, _, _, h4, _⟩ <;> omega
  have key : ∀ (j : Nat) (x : Int), j < l.length → (x = (l.getD j default).lo ∨ x = (l.getD j default).hi) → (x > own.lo + i ↔ x > u) := by
   intro j x hj hx
   constructor
   ·intro h; omega
   ·intro h
    rcases Int.lt_or_le (own.lo + i) x with h4 | h4
    ·exact h4
    ·have := h3 x (mem_pk.2 (.inr ⟨j, hj, hx, by omega, by omega⟩)) h4
     omega
  have e1 : cnt Op.lo l c (own.lo + i) l.length = cnt Op.lo l c u l.length := cnt_congr _ fun j hj => key j _ hj (.inl rfl)
  have e2 : cnt Op.hi l c (own.lo + i) l.length = cnt Op.hi l c u l.length := cnt_congr _ fun j hj => key j _ hj (.inr rfl)
  unfold okV at hok ⊢
  rwa [e1, e2] at hok
def mkI (zs : List Int) : AV := match zs with | [] => .nils | _ => .sl 1 (zs.map intR)
theorem mkI_isL (zs : List Int) : IsL 1 (zs.map intR) (mkI zs) := by
 cases zs with
 | nil => exact .inr ⟨rfl, rfl⟩
 | cons z zs => exact .inl rfl
theorem mkI_rows (zs : List Int) : (mkI zs).rowsL = zs.map intR := (mkI_isL zs).rows
theorem mkI_snoc (zs : List Int) (z : Int) : AV.sl 1 (zs.map intR ++ [[ia z]]) = mkI (zs ++ [z]) := by
 cases zs <;> simp [mkI, intR]
theorem mkI_ok (zs : List Int) : (Sh.sl [.int .i64]).ok (mkI zs) = true := (mkI_isL zs).ok rfl (by simp [intR])
theorem mkI_len (zs : List Int) : (mkI zs).lenN = zs.length := (mkI_isL zs).lenM
def rks (p : Int → Bool) : Nat → List Int
 | 0 => []
 | i + 1 => rks p i ++ (if p (1 + i) then [1 + (i : Int)] else [])
theorem rks_len (p : Int → Bool) : ∀ i, (rks p i).length ≤ i
 | 0 => Nat.le_refl _
 | i + 1 => by
   have := rks_len p i
   simp only [rks, List.length_append]
   split <;> simp <;> omega
set_option maxHeartbeats 8000000
@[simp] theorem s_mget (Ω : Om) (b : Bool) (es : List (AV × AV)) (k z : AV) : Pr.sem Ω (.mget b) [.im es, k, z] = (match findA k es with | some (some v) => v | _ => z) := rfl
theorem s_mput (Ω : Om) (es : List (AV × AV)) (k v : AV) : Pr.sem Ω .mput [.im es, k, v] = (match updA k v es with | some es => .im es | none => .junk) := rfl
@[simp] theorem s_mnew (Ω : Om) : Pr.sem Ω .mnew [] = .im [] := rfl
theorem fz5 (a b c d e : Int) : F76 [.sl 1 [[ia a], [ia b], [ia c], [ia d], [ia e]]] = some (ia (firstNz [a, b, c, d, e])) :=
 p76 (ns := [a, b, c, d, e]) (.inl rfl) (by simp)
theorem fz2 (a b : Int) : F76 [.sl 1 [[ia a], [ia b]]] = some (ia (firstNz [a, b])) :=
 p76 (ns := [a, b]) (.inl rfl) (by simp)
def seen (l : List Op) (i : Nat) (s : ByteArray) : Bool := (List.range' 0 i).any fun k => decide ((l.getD k default).nm = s)
theorem seen_succ (l : List Op) (i : Nat) (s : ByteArray) : seen l (i + 1) s = (seen l i s || decide ((l.getD i default).nm = s)) := by
 unfold seen
 rw [List.range'_1_concat, List.any_append]
 simp
def errO (l : List Op) (i : Nat) : Int :=
 if isName (l.getD i default).nm = false then 8 else if seen l i (l.getD i default).nm then 9 else if outB (l.getD i default).lo 0 99999 then 3 else if outB (l.getD i default).hi 0 99999 then 3 else if (l.getD i default).lo > (l.getD i default).hi then 11 else 0
def errs (l : List Op) : Option Int := (List.range' 0 l.length).findSome? fun i => if errO l i = 0 then none else some (errO l i)
def endE : Option Int → AV
 | some e => .tuple [ia 1, ia e]
 | none => .tuple [ia 2]
theorem errs_end (l : List Op) : ((List.range' 0 l.length).findSome? fun i => if errO l i = 0 then none else some (AV.tuple [ia 1, ia (errO l i)])).getD (.tuple [ia 2]) = endE (errs l) := by
 unfold errs
 generalize List.range' 0 l.length = s
 induction s with
 | nil => rfl
 | cons i s ih =>
   simp only [List.findSome?_cons]
   by_cases h : errO l i = 0
   ·rw [if_pos h, if_pos h]; exact ih
   ·rw [if_neg h, if_neg h]; rfl
theorem find_str (n m : ByteArray) (v : AV) (es : List (AV × AV)) : findA (.str n) ((.str m, v) :: es) = if n = m then some (some v) else findA (.str n) es := by
 by_cases h : n = m
 ·subst h; simp [findA, keyEq]
 ·simp [findA, keyEq, h]
theorem upd_str (n m : ByteArray) (u v : AV) (es : List (AV × AV)) : updA (.str n) u ((.str m, v) :: es) = if n = m then some ((.str m, u) :: es) else (updA (.str n) u es).map ((.str m, v) :: ·) := by
 by_cases h : n = m
 ·subst h; simp [updA, keyEq]
 ·simp [updA, keyEq, h]
theorem upd_set (n : ByteArray) : ∀ (es : List (AV × AV)), (∀ e ∈ es, ∃ k, e = (.str k, .bool true)) →
  ∃ es', updA (.str n) (.bool true) es = some es' ∧ (∀ e ∈ es', ∃ k, e = (.str k, .bool true)) ∧ ∀ m, findA (.str m) es' = if m = n then some (some (.bool true)) else findA (.str m) es
 | [], _ => by
   refine ⟨[(.str n, .bool true)], by simp [updA], fun e he => ?_, fun m => by rw [find_str]⟩
   cases he with
   | head => exact ⟨_, rfl⟩
   | tail _ he => cases he
 | e :: es, hk => by
   obtain ⟨m, rfl⟩ := hk e (.head _)
   obtain ⟨es', h1, h2, h3⟩ := upd_set n es fun e he => hk e (.tail _ he)
   by_cases hm : n = m
   ·refine ⟨(.str m, .bool true) :: es, by rw [upd_str, if_pos hm], hk, fun k => ?_⟩
    rw [find_str, hm]
    by_cases hn : k = m <;> simp [hn]
   ·refine ⟨(.str m, .bool true) :: es', by rw [upd_str, if_neg hm, h1]; rfl, fun e he => ?_, fun k => ?_⟩
    ·cases he with
     | head => exact ⟨m, rfl⟩
     | tail _ he => exact h2 e he
    ·rw [find_str, find_str, h3]
     by_cases hn : k = m
     ·subst hn; rw [if_pos rfl, if_neg (fun h => hm h.symm), if_pos rfl]
     ·rw [if_neg hn, if_neg hn]
def mapS (l : List Op) : Nat → List (AV × AV)
 | 0 => []
 | i + 1 => match updA (.str (l.getD i default).nm) (.bool true) (mapS l i) with
   | some es => es
   | none => []
theorem mapS_ok (l : List Op) : ∀ i, (∀ e ∈ mapS l i, ∃ k, e = (.str k, .bool true)) ∧ (∀ s, findA (.str s) (mapS l i) = some (if seen l i s then some (.bool true) else none)) ∧
  updA (.str (l.getD i default).nm) (.bool true) (mapS l i) = some (mapS l (i + 1))
 | 0 => by
   refine ⟨fun e he => (by cases he), fun s => rfl, ?_⟩
   simp only [mapS, updA]
 | i + 1 => by
   obtain ⟨h1, h2, h3⟩ := mapS_ok l i
   obtain ⟨es', g1, g2, g3⟩ := upd_set (l.getD i default).nm (mapS l i) h1
   have e : mapS l (i + 1) = es' := by rw [g1] at h3; injection h3 with h3; exact h3.symm
   rw [e]
   refine ⟨g2, fun s => ?_, ?_⟩
   ·rw [g3, h2, seen_succ]
    by_cases hs : s = (l.getD i default).nm
    ·rw [if_pos hs, decide_eq_true hs.symm, Bool.or_true, if_pos rfl]
    ·rw [if_neg hs, decide_eq_false (fun h => hs h.symm), Bool.or_false]
   ·obtain ⟨es'', k1, _, _⟩ := upd_set (l.getD (i + 1) default).nm es' g2
    rw [k1]
    simp only [mapS] at e ⊢
    rw [e, k1]
theorem G3600 {a : AV} {l : List Op} (h : OpsOk a l) : loopG (calO s36) B3600 KK [a, ia l.length, ia 0, .im []] = some (endE (errs l)) := by
 have hn := h.n
 rw [← errs_end]
 refine loop0 (fun i => [a, ia l.length, ia i, .im (mapS l i)]) l.length _ _ (by omega) (fun i hi => ?_) ?_
 ·have hr : nth a.rowsL i = some (Op.row l[i]) := h.is.rowN hi
  have hw := wS (show i < 2097152 by omega)
  have hg : l.getD i default = l[i] := by simp [hi]
  obtain ⟨_, m2, m3⟩ := mapS_ok l i
  have m2 := m2 l[i].nm
  rw [hg] at m3
  have f := p88 (h.sz _ (List.getElem_mem hi))
  unfold errO
  rw [hg]
  rcases Bool.eq_false_or_eq_true (isName l[i].nm) with e1 | e1 <;> rw [e1] at f <;> rcases Bool.eq_false_or_eq_true (seen l i l[i].nm) with e2 | e2 <;> rw [e2] at m2 <;> simp only [if_true, if_false, Bool.false_eq_true] at m2 <;>
   rcases Bool.eq_false_or_eq_true (outB l[i].lo 0 99999) with e3 | e3 <;> rcases Bool.eq_false_or_eq_true (outB l[i].hi 0 99999) with e4 | e4 <;> rcases tf_or (l[i].hi < l[i].lo) with e5 | e5 <;>
    simp [B3600, h.is.lenM, hr, Op.row, hi, hw, f, m2, m3, s_mput, p80, p77, fz5, whenI, fz_cons, fz_nil, e1, e2, e3, e4, e5]
 ·simp [B3600]
def ckOpen (l : List Op) : Int := if l.length = 0 then 12 else if l.length > 160 then 5 else (errs l).getD 0
theorem errs_ne {l : List Op} {e : Int} (h : errs l = some e) : e ≠ 0 := by
 obtain ⟨i, _, h2⟩ := List.exists_of_findSome?_eq_some h
 split at h2
 ·cases h2
 ·rename_i hne; injection h2 with h2; rw [← h2]; exact hne
theorem p36 {a : AV} {l : List Op} (h : OpsOk a l) : F36 [a] = some (ia (ckOpen l)) := by
 have G := G3600 h
 have lN := h.is.lenM
 rcases tf_or (l.length = 0) with e1 | e1
 ·have e1 := of_eq_true e1
  simp [F36, unitF_eq, t36, lN, p80, fz2, whenI, fz_cons, fz_nil, ckOpen, e1]
 ·have e1 := of_eq_false e1
  rcases tf_or (160 < l.length) with e2 | e2
  ·have e2 := of_eq_true e2
   have e3 : (160 : Int) < l.length := by omega
   simp [F36, unitF_eq, t36, lN, p80, fz2, whenI, fz_cons, fz_nil, ckOpen, e1, e2, e3]
  ·have e2 := of_eq_false e2
   have e3 : ¬ ((160 : Int) < l.length) := by omega
   cases he : errs l with
   | none => rw [he] at G; simp [endE] at G; simp [F36, unitF_eq, t36, lN, p80, fz2, whenI, fz_cons, fz_nil, ckOpen, e1, e2, e3, G, he]
   | some e => rw [he] at G; simp [endE] at G; simp [F36, unitF_eq, t36, lN, p80, fz2, whenI, fz_cons, fz_nil, ckOpen, e1, e2, e3, G, he]
theorem G3701 {Ω : Om} {a : AV} {l : List Op} (h : OpsOk a l) {i : Nat} (hi : i < l.length) (s : ByteArray) (x y : Int) :
  loopG Ω B3701 KK [a, ia i, ia 0, .str s, ia x, ia y] = some (if seen l i s then .tuple [ia 1] else .tuple [ia 2, a, ia i, .str s, ia x, ia y]) := by
 have hn := h.n
 have := loop0 (Ω := Ω) (B := B3701) (fun k => [a, ia i, ia k, .str s, ia x, ia y]) i (fun k => if decide ((l.getD k default).nm = s) then some (.tuple [ia 1]) else none) (.tuple [ia 2, a, ia i, .str s, ia x, ia y]) (by omega) (fun k hk => by
  have hr : nth a.rowsL k = some (Op.row l[k]) := h.is.rowN (by omega)
  have hw := wS (show k < 2097152 by omega)
  have hg : l.getD k default = l[k] := by simp [show k < l.length by omega]
  rw [hg]
  rcases tf_or (l[k].nm = s) with e1 | e1 <;> simp [B3701, h.is.lenM, hr, Op.row, hk, show k < l.length by omega, hw, e1]) (by simp [B3701])
 rw [find_any] at this
 refine Eq.trans this ?_
 unfold seen
 split <;> rfl
theorem G3700 {a : AV} {l : List Op} (h : OpsOk a l) : loopG (omL KK s37 [d3701]) B3700 KK [a, ia 0] = some (endE (errs l)) := by
 have hn := h.n
 rw [← errs_end]
 refine loop0 (fun i => [a, ia i]) l.length _ _ (by omega) (fun i hi => ?_) ?_
 ·have hr : nth a.rowsL i = some (Op.row l[i]) := h.is.rowN hi
  have hw := wS (show i < 2097152 by omega)
  have hg : l.getD i default = l[i] := by simp [hi]
  have f := p89 (h.sz _ (List.getElem_mem hi))
  have G := G3701 (Ω := calO s37) h hi l[i].nm l[i].lo l[i].hi
  unfold errO
  rw [hg]
  rcases Bool.eq_false_or_eq_true (isName l[i].nm) with e1 | e1 <;> rw [e1] at f <;> rcases Bool.eq_false_or_eq_true (seen l i l[i].nm) with e2 | e2 <;> rw [e2] at G <;> simp only [if_true, if_false, Bool.false_eq_true] at G <;>
   rcases tf_or (l[i].lo < 0) with e3 | e3 <;> rcases tf_or (99999 < l[i].lo) with e4 | e4 <;> rcases tf_or (l[i].hi < 0) with e5 | e5 <;> rcases tf_or (99999 < l[i].hi) with e6 | e6 <;> rcases tf_or (l[i].hi < l[i].lo) with e7 | e7 <;>
    simp [B3700, h.is.lenM, hr, Op.row, hi, hw, f, G, outB, e1, e2, e3, e4, e5, e6, e7]
 ·simp [B3700, h.is.lenM]
theorem p37 {a : AV} {l : List Op} (h : OpsOk a l) : F37 [a] = some (ia (ckOpen l)) := by
 have G := G3700 h
 have lN := h.is.lenM
 rcases tf_or (l.length = 0) with e1 | e1
 ·have e1 := of_eq_true e1
  simp [F37, unitF_eq, t37, lN, ckOpen, e1]
 ·have e1 := of_eq_false e1
  rcases tf_or (160 < l.length) with e2 | e2
  ·have e2 := of_eq_true e2
   have e3 : (160 : Int) < l.length := by omega
   simp [F37, unitF_eq, t37, lN, ckOpen, e1, e2, e3]
  ·have e2 := of_eq_false e2
   have e3 : ¬ ((160 : Int) < l.length) := by omega
   cases he : errs l with
   | none => rw [he] at G; simp [endE] at G; simp [F37, unitF_eq, t37, lN, ckOpen, e1, e2, e3, G, he]
   | some e => rw [he] at G; simp [endE] at G; simp [F37, unitF_eq, t37, lN, ckOpen, e1, e2, e3, G, he]
def bad (l : List Op) (c : Int) : Int := if ckOpen l ≠ 0 then ckOpen l else if c < 0 ∨ c ≥ l.length then 10 else 0
theorem ck0 {l : List Op} (h : ckOpen l = 0) : 1 ≤ l.length ∧ l.length ≤ 160 ∧ ∀ i (hi : i < l.length), InR l[i] := by
 unfold ckOpen at h
 split at h
 ·cases h
 rename_i h1
 split at h
 ·cases h
 rename_i h2
 refine ⟨by omega, by omega, fun i hi => ?_⟩
 cases he : errs l with
 | some e => rw [he] at h; exact (errs_ne he h).elim
 | none =>
   have h3 := List.findSome?_eq_none_iff.1 he i (by simp only [List.mem_range'_1]; omega)
   split at h3
   case isFalse => cases h3
   rename_i h4
   unfold errO at h4
   rw [show l.getD i default = l[i] by simp [hi]] at h4
   by_cases e1 : isName l[i].nm = false
   ·rw [if_pos e1] at h4; cases h4
   rw [if_neg e1] at h4
   by_cases e2 : seen l i l[i].nm = true
   ·rw [if_pos e2] at h4; cases h4
   rw [if_neg e2] at h4
   by_cases e3 : outB l[i].lo 0 99999 = true
   ·rw [if_pos e3] at h4; cases h4
   rw [if_neg e3] at h4
   by_cases e4 : outB l[i].hi 0 99999 = true
   ·rw [if_pos e4] at h4; cases h4
   rw [if_neg e4] at h4
   by_cases e5 : l[i].lo > l[i].hi
   ·rw [if_pos e5] at h4; cases h4
   simp [outB] at e3 e4
   exact ⟨by omega, by omega, by omega⟩
theorem p35 {a : AV} {l : List Op} (h : OpsOk a l) (c : Int) : F35 [a, ia c, ia 1] = some (ia (bad l c)) := by
 have lN := h.is.lenM
 unfold bad
 rcases tf_or (ckOpen l = 0) with e1 | e1
 ·have e1' := of_eq_true e1
  have hl := (ck0 e1').1
  have e4 : ¬ ((l.length : Int) < 1) := by omega
  rcases tf_or (c < 0) with e2 | e2 <;> rcases tf_or ((l.length : Int) ≤ c) with e3 | e3 <;> simp [F35, unitF_eq, t35, p37 h, lN, e1', e2, e3, e4]
 ·simp [F35, unitF_eq, t35, p37 h, lN, e1]
theorem p86 {a : AV} {l : List Op} (h : OpsOk a l) (c : Int) : F86 [a, ia c] = some (ia (bad l c)) := by
 have lN := h.is.lenM
 unfold bad
 rcases tf_or (ckOpen l = 0) with e1 | e1 <;> rcases tf_or (c < 0) with e2 | e2 <;> rcases tf_or ((l.length : Int) ≤ c) with e3 | e3 <;>
  simp [F86, unitF_eq, t86, p36 h, p80, fz2, whenI, fz_cons, fz_nil, lN, e1, e2, e3]
theorem bad0 {l : List Op} {c : Int} (h : bad l c = 0) : ∃ k : Nat, c = k ∧ k < l.length ∧ ckOpen l = 0 := by
 unfold bad at h
 split at h
 ·rename_i h1; exact (h1 h).elim
 ·rename_i h1
  split at h
  ·cases h
  ·exact ⟨c.toNat, by omega, by omega, by simpa using h1⟩
def mkO (l : List Op) : AV := match l with | [] => .nils | _ => .sl 3 (l.map Op.row)
theorem mkO_isL (l : List Op) : IsL 3 (l.map Op.row) (mkO l) := by
 cases l with
 | nil => exact .inr ⟨rfl, rfl⟩
 | cons z zs => exact .inl rfl
theorem mkO_rows (l : List Op) : (mkO l).rowsL = l.map Op.row := (mkO_isL l).rows
theorem mkO_snoc (l : List Op) (z : Op) : AV.sl 3 (l.map Op.row ++ [[.str z.nm, ia z.lo, ia z.hi]]) = mkO (l ++ [z]) := by
 cases l <;> simp [mkO, Op.row]
theorem mkO_ok (l : List Op) : (Sh.sl [.str, .int .i64, .int .i64]).ok (mkO l) = true := (mkO_isL l).ok rfl (by simp [Op.row])
theorem take_snoc {α : Type} {l : List α} {i : Nat} (hi : i < l.length) : l.take (i + 1) = l.take i ++ [l[i]] := by
 rw [List.take_add_one, List.getElem?_eq_getElem hi]; rfl
theorem G3400 {Ω : Om} {a : AV} {l : List Op} (h : OpsOk a l) : loopG Ω B3400 KK [.nils, a, ia l.length, ia 0] = some (.tuple [ia 1, mkO l]) := by
 have hn := h.n
 have := loopF (Ω := Ω) (B := B3400) (fun i => [mkO (l.take i), a, ia l.length, ia i]) l.length (.tuple [ia 1, mkO (l.take l.length)]) (by omega) (fun i hi => by
  have hr : nth a.rowsL i = some (Op.row l[i]) := h.is.rowN hi
  have hw := wS (show i < 2097152 by omega)
  have b2 : ((i : Int) + 1) ≤ 1073741824 := by omega
  rw [take_snoc hi, ← mkO_snoc]
  have hm : min i l.length = i := by omega
  simp [B3400, h.is.lenM, hr, Op.row, hi, hw, mkO_rows, b2, hm]) (by simp [B3400])
 rw [List.take_length] at this
 exact this
theorem p34 {a : AV} {l : List Op} (h : OpsOk a l) : F34 [a] = some (mkO l) := by
 simp [F34, unitF_eq, t34, G3400 h, h.is.lenM]
theorem mkO_OpsOk {a : AV} {l : List Op} (h : OpsOk a l) : OpsOk (mkO l) l := ⟨mkO_isL l, h.n, h.sz⟩
theorem p32 {a : AV} {l : List Op} (h : OpsOk a l) : ∃ b, F32 [a, ia 8] = some (.bool b) := by
 have hn := h.n
 have lN := h.is.lenM
 have f := p37 h
 have hG : ∃ b : Bool, loopG (calO s32) B3200 KK [a, ia 0] = some (if b then .tuple [ia 1] else .tuple [ia 2]) := by
  have := loop0 (Ω := calO s32) (B := B3200) (fun i => [a, ia i]) l.length
   (fun i => if (decide (40 < (l.getD i default).nm.size) || (decide (IntKind.i64.wrap ((l.getD i default).lo + 100) < (l.getD i default).hi) && decide (ckOpen l = 0))) then some (.tuple [ia 1]) else none) (.tuple [ia 2]) (by omega) (fun i hi => by
    have hr : nth a.rowsL i = some (Op.row l[i]) := h.is.rowN hi
    have hw := wS (show i < 2097152 by omega)
    have hg : l.getD i default = l[i] := by simp [hi]
    rw [hg]
    have z1 : ((40 : Int) < (l[i].nm.size : Int)) = (40 < l[i].nm.size) := by rw [eq_iff_iff]; omega
    rcases tf_or (40 < l[i].nm.size) with e1 | e1 <;> rcases tf_or (IntKind.i64.wrap (l[i].lo + 100) < l[i].hi) with e2 | e2 <;> rcases tf_or (ckOpen l = 0) with e3 | e3 <;>
     simp [B3200, lN, hr, Op.row, hi, hw, f, z1, e1, e2, e3]) (by simp [B3200, lN])
  rw [find_any] at this
  refine ⟨(List.range' 0 l.length).any fun i => (decide (40 < (l.getD i default).nm.size) || (decide (IntKind.i64.wrap ((l.getD i default).lo + 100) < (l.getD i default).hi) && decide (ckOpen l = 0))), Eq.trans this ?_⟩
  split <;> rfl
 obtain ⟨b, G⟩ := hG
 rcases tf_or ((8 : Int) < l.length) with e1 | e1 <;> rcases tf_or ((l.length : Int) ≤ 160) with e2 | e2 <;> rcases tf_or ((162 : Int) < l.length) with e3 | e3 <;> cases b <;> simp at G <;>
  simp [F32, unitF_eq, t32, lN, G, e1, e2, e3]
theorem rks_len' (p : Int → Bool) (n : Nat) (h : n ≤ 160) : (rks p n).length < 2097152 := by
 have := rks_len p n
 omega
theorem G2200 {Ω : Om} {a b : AV} {ns : List Int} (h : IsL 1 (ns.map intR) a) (h' : IsL 1 (ns.map intR) b) (hn : ns.length < 2097152) :
  loopG Ω B2200 KK [a, b, ia 0] = some (.tuple [ia 2]) := by
 refine loopF (fun i => [a, b, ia i]) ns.length _ hn (fun i hi => ?_) ?_
 ·have hr : nth a.rowsL i = some (intR ns[i]) := h.rowN hi
  have hr' : nth b.rowsL i = some (intR ns[i]) := h'.rowN hi
  have hw := wS (show i < 2097152 by omega)
  simp [B2200, h.lenM, h'.lenM, hr, hr', intR, hi, hw]
 ·simp [B2200, h.lenM]
theorem p22 {a b : AV} {ns : List Int} (h : IsL 1 (ns.map intR) a) (h' : IsL 1 (ns.map intR) b) (hn : ns.length < 2097152) : F22 [a, b] = some (.bool true) := by
 simp [F22, unitF_eq, t22, G2200 h h' hn, h.lenM, h'.lenM]
theorem G3300 {a : AV} {l : List Op} (h : OpsOk a l) (hl : l.length ≤ 160) {c : Nat} (hc : c < l.length) (hi : InR l[c]) :
  loopG (calO s33) B3300 KK [a, ia c, .nils, ia 1] = some (.tuple [ia 1, mkI (rks (posB l l[c] c) l.length)]) := by
 refine loopF (fun i => [a, ia c, mkI (rks (posB l l[c] c) i), ia (1 + i)]) l.length _ (by omega) (fun i hi' => ?_) ?_
 ·have w1 : IntKind.i64.wrap (1 + (i : Int) + 1) = 1 + (i + 1) := by rw [i64w (by omega) (by omega)]; omega
  obtain ⟨u, hp⟩ := p87 h hl hc (1 + i)
  rw [any_eq hi] at hp
  have hle : 1 + (i : Int) ≤ l.length := by omega
  have b1 := rks_len (posB l l[c] c) i
  have b2 : ((rks (posB l l[c] c) i).length : Int) + 1 ≤ 1073741824 := by omega
  simp only [rks]
  cases hq : posB l l[c] c (1 + i) <;> rw [hq] at hp <;> simp [B3300, h.is.lenM, hle, hp, w1, mkI_rows, mkI_snoc, mkI_len, b2]
 ·have hle : ¬ (1 + (l.length : Int) ≤ l.length) := by omega
  simp [B3300, h.is.lenM, hle]
theorem p33 {a : AV} {l : List Op} (h : OpsOk a l) {c : Nat} (hb : bad l c = 0) (hc : c < l.length) : F33 [a, ia c] = some (.tuple [mkI (rks (posB l l[c] c) l.length), ia 0]) := by
 obtain ⟨k, hk, _, hck⟩ := bad0 hb
 obtain ⟨_, h2, h3⟩ := ck0 hck
 have f := p86 h c
 rw [hb] at f
 simp [F33, unitF_eq, t33, f, G3300 h h2 hc (h3 c hc)]
theorem p33' {a : AV} {l : List Op} (h : OpsOk a l) {c : Int} (hb : bad l c ≠ 0) : F33 [a, ia c] = some (.tuple [.nils, ia (bad l c)]) := by
 have f := p86 h c
 simp [F33, unitF_eq, t33, f, hb]
set_option maxHeartbeats 4000000
theorem fz3' (a b c : Int) : F76 [.sl 1 [[ia a], [ia b], [ia c]]] = some (ia (firstNz [a, b, c])) :=
 p76 (ns := [a, b, c]) (.inl rfl) (by simp)
theorem any_find {α : Type} (p : α → Bool) (l : List α) : (l.findSome? fun e => if p e then some (AV.tuple [ia 1]) else none) = if l.any p then some (.tuple [ia 1]) else none := by
 induction l with
 | nil => rfl
 | cons e l ih =>
   rw [List.findSome?_cons, List.any_cons]
   cases h : p e
   ·simpa using ih
   ·rfl
theorem G12400 {Ω : Om} {a : AV} {ns : List ByteArray} (h : IsL 1 (ns.map strR) a) (hn : ns.length < 2097152) (s : ByteArray) :
  loopG Ω B12400 KK [a, .str s, ia ns.length, ia 0] = some (((List.range' 0 ns.length).findSome? fun i => if s = ns.getD i s then some (.tuple [ia 1, ia i]) else none).getD (.tuple [ia 2])) := by
 refine loop0 (fun i => [a, .str s, ia ns.length, ia i]) ns.length _ _ hn (fun i hi => ?_) ?_
 ·have hr : nth a.rowsL (Int.toNat (i : Int)) = some [.str ns[i]] := h.row hi
  have hw := wS (Nat.lt_trans hi hn)
  have hg : ns.getD i s = ns[i] := by simp [hi]
  simp only [hg]
  by_cases hc : s = ns[i] <;> simp_all [B12400, h.lenM]
 ·simp [B12400]
def stsL : List ByteArray := [w0, w1, w2, w3]
def gradeI (s : ByteArray) : Int := if s = w0 then 0 else if s = w1 then 1 else if s = w2 then 2 else if s = w3 then 3 else -1
abbrev stA : AV := .sl 1 [[.str w0], [.str w1], [.str w2], [.str w3]]
theorem p125 : F125 [] = some stA := by simp [F125, unitF_eq, t125]; rfl
theorem p124g (s : ByteArray) : F124 [stA, .str s] = some (ia (gradeI s)) := by
 have hG := @G12400 (calO s124) stA stsL (.inl rfl) (by decide) s
 have e : List.range' 0 stsL.length = [0, 1, 2, 3] := rfl
 rw [e] at hG
 have hl : (stsL.length : Int) = 4 := rfl
 rw [hl] at hG
 unfold gradeI
 rcases tf_or (s = w0) with h0 | h0 <;> rcases tf_or (s = w1) with h1 | h1 <;> rcases tf_or (s = w2) with h2 | h2 <;> rcases tf_or (s = w3) with h3 | h3 <;>
  simp [stsL, h0, h1, h2, h3] at hG <;> simp [F124, unitF_eq, t124, hG, h0, h1, h2, h3]
theorem p95g (s : ByteArray) : F95 [stA, .str s] = some (.bool (decide (gradeI s ≥ 0))) := by
 simp [F95, unitF_eq, t95, p124g]
def cmpI (a b : Int) : Int := if a < b then -1 else if a > b then 1 else 0
theorem p156 (a : Int) : F156 [ia a] = some (.bool false) := by
 simp [F156, unitF_eq, t156]
theorem p123 (a b : Int) : F123 [ia a, ia b] = some (ia (cmpI a b)) := by
 by_cases h : a < b <;> simp [F123, unitF_eq, t123, p156, cmpI, h]
def outM (n : Int) : Bool := decide (n < -999999999) || decide (n > 999999999)
theorem p128 (n : Int) : F128 [ia n] = some (.bool (outM n)) := by
 by_cases h : n < -999999999 <;> simp [F128, unitF_eq, t128, outM, h]
def farV (rs : List Int) : Bool := rs.any outM
theorem G13300 {a : AV} {rs : List Int} (h : IsL 1 (rs.map intR) a) (hn : rs.length < 1048577) :
  ∃ r, loopG (calO s133) B13300 KK [a, ia rs.length, ia 0] = some r ∧ ((farV rs = true ∧ ∃ i : Nat, r = .tuple [ia 1, ia i]) ∨ (farV rs = false ∧ r = .tuple [ia 2])) := by
 have hG := loop0 (Ω := calO s133) (B := B13300) (fun i => [a, ia rs.length, ia i]) rs.length (fun i => if outM (rs.getD i 0) then some (.tuple [ia 1, ia i]) else none) (.tuple [ia 2]) (by omega) (fun i hi => by
  have hr : nth a.rowsL (Int.toNat (i : Int)) = some [ia rs[i]] := h.row hi
  have hw := wS (i := i) (by omega)
  have hg : rs.getD i 0 = rs[i] := by simp [hi]
  have hp := p128 rs[i]
  simp only [Int.toNat_natCast] at hr
  push_cast at hw
  rw [hg]
  cases hc : outM rs[i] <;> rw [hc] at hp <;> simp [B13300, h.lenM, hr, hi, hw, hp]) (by simp [B13300])
 refine ⟨_, hG, ?_⟩
 cases hb : farV rs
 ·right
  refine ⟨rfl, ?_⟩
  rw [List.findSome?_eq_none_iff.2 (fun i hi => ?_)]
  ·rfl
  ·have hl : i < rs.length := by simp only [List.mem_range'_1] at hi; omega
   have : outM rs[i] = false := by
    have := List.any_eq_false.1 hb rs[i] (List.getElem_mem hl)
    simpa using this
   simp [hl, this]
 ·left
  refine ⟨rfl, ?_⟩
  cases hf : (List.range' 0 rs.length).findSome? fun i => if outM (rs.getD i 0) then some (AV.tuple [ia 1, ia i]) else none with
  | none =>
    exfalso
    obtain ⟨x, hx, hy⟩ := List.any_eq_true.1 hb
    obtain ⟨i, hi, rfl⟩ := List.getElem_of_mem hx
    have := List.findSome?_eq_none_iff.1 hf i (by simp only [List.mem_range'_1]; omega)
    simp [hi, hy] at this
  | some r =>
    obtain ⟨i, hi, hr⟩ := List.exists_of_findSome?_eq_some hf
    refine ⟨i, ?_⟩
    split at hr
    ·injection hr with hr; rw [← hr]; rfl
    ·cases hr
theorem p96 {a : AV} {rs : List Int} (h : IsL 1 (rs.map intR) a) (hn : rs.length < 1048577) : F96 [a] = some (.bool (farV rs)) := by
 obtain ⟨r, hG, hr⟩ := G13300 h hn
 have h1 : ∃ j : Int, F133 [a] = some (ia j) ∧ (decide (j ≥ 0) = farV rs) := by
  rcases hr with ⟨h1, i, rfl⟩ | ⟨h1, rfl⟩
  ·exact ⟨i, by simp [F133, unitF_eq, t133, h.lenM, hG], by simp [h1]⟩
  ·exact ⟨-1, by simp [F133, unitF_eq, t133, h.lenM, hG], by simp [h1]⟩
 obtain ⟨j, h1, h2⟩ := h1
 simp [F96, unitF_eq, t96, h1, ← h2]
structure Rs where
 nm : ByteArray
 st : ByteArray
 va : AV
 xs : List Int
 deriving Inhabited
def Rs.row (r : Rs) : List AV := [.str r.nm, .str r.st, r.va]
structure RsOk (r : Rs) : Prop where
 l : IsL 1 (r.xs.map intR) r.va
 n : r.xs.length < 1048577
 z : r.nm.size < 1048577
def ckRes (r : Rs) : Int := if !isName r.nm then 8 else if gradeI r.st < 0 then 13 else if r.st ≠ w0 ∧ r.xs.length > 0 then 1 else if r.xs.length > 8 then 5 else if farV r.xs then 3 else 0
theorem p79 {r : Rs} (h : RsOk r) : F79 r.row = some (ia (ckRes r)) := by
 have h1 := p88 (s := r.nm) (by have := h.z; omega)
 have h2 := p96 h.l h.n
 have h3 : r.va.lenN = r.xs.length := h.l.lenM
 unfold ckRes
 generalize r.xs.length = m at *
 generalize farV r.xs = fv at *
 have q1 : ((8 : Int) < m) = (8 < m) := propext (by omega)
 have q4 : ((m : Int) ≤ 8) = ¬ (8 < m) := propext (by omega)
 have q2 : ((0 : Int) < m) = (0 < m) := by simp
 have q3 : (0 ≤ gradeI r.st) = ¬ gradeI r.st < 0 := by simp
 rcases tf_or (8 < m) with e5 | e5 <;> rcases tf_or (0 < m) with e4 | e4 <;> cases e1 : isName r.nm <;> rcases tf_or (r.st = w0) with e2 | e2 <;> rcases tf_or (gradeI r.st < 0) with e3 | e3 <;> cases fv <;>
  simp [F79, unitF_eq, t79, Rs.row, h1, h2, h3, p125, p95g, p80, fz5, whenI, fz_cons, fz_nil, e1, e2, e3, e4, e5, q1, q3, q4]
def cmpL : List Int → List Int → Int
 | x :: xs, y :: ys => if x = y then cmpL xs ys else cmpI x y
 | _, _ => 0
theorem cmpI_ne {x y : Int} (h : x ≠ y) : cmpI x y ≠ 0 := by
 unfold cmpI; split
 ·omega
 ·split <;> omega
theorem cmp_find : ∀ {xs ys : List Int}, xs.length = ys.length → ((List.range' 0 xs.length).findSome? fun i => if xs.getD i 0 = ys.getD i 0 then none else some (AV.tuple [ia 1, ia (cmpI (xs.getD i 0) (ys.getD i 0))])) = if cmpL xs ys = 0 then none else some (.tuple [ia 1, ia (cmpL xs ys)])
 | [], [], _ => rfl
 | x :: xs, y :: ys, h => by
   have ih := cmp_find (xs := xs) (ys := ys) (by simpa using h)
   rw [List.length_cons, List.range'_succ, List.findSome?_cons]
   by_cases e : x = y
   ·subst e
    simp only [List.getD_cons_zero, if_true, cmpL]
    rw [← ih]
    have : ∀ (f : Nat → Option AV) (n k : Nat), (List.range' (k + 1) n).findSome? f = (List.range' k n).findSome? fun i => f (i + 1) := by
     intro f n
     induction n with
     | zero => intro k; rfl
     | succ n ih => intro k; rw [List.range'_succ, List.range'_succ, List.findSome?_cons, List.findSome?_cons, ih (k + 1)]
    rw [show (0 + 1 : Nat) = 0 + 1 from rfl, this]
    rfl
   ·have e1 := cmpI_ne e
    simp [cmpL, e, e1]
theorem G10300 {a b : AV} {xs ys : List Int} (h : IsL 1 (xs.map intR) a) (h' : IsL 1 (ys.map intR) b) (hl : xs.length = ys.length) (hn : xs.length < 1048577) :
  loopG (calO s103) B10300 KK [a, b, ia xs.length, ia 0] = some (if cmpL xs ys = 0 then .tuple [ia 2, a, b] else .tuple [ia 1, ia (cmpL xs ys)]) := by
 have hG := loop0 (Ω := calO s103) (B := B10300) (fun i => [a, b, ia xs.length, ia i]) xs.length (fun i => if xs.getD i 0 = ys.getD i 0 then none else some (.tuple [ia 1, ia (cmpI (xs.getD i 0) (ys.getD i 0))])) (.tuple [ia 2, a, b]) (by omega) (fun i hi => by
  have hi' : i < ys.length := by omega
  have hr : nth a.rowsL (Int.toNat (i : Int)) = some [ia xs[i]] := h.row hi
  have hr' : nth b.rowsL (Int.toNat (i : Int)) = some [ia ys[i]] := h'.row hi'
  have hw := wS (i := i) (by omega)
  have hg : xs.getD i 0 = xs[i] := by simp [hi]
  have hg' : ys.getD i 0 = ys[i] := by simp [hi']
  rw [hg, hg']
  have hb : b.lenN = xs.length := by rw [h'.lenM, hl]
  generalize xs[i] = x at *
  generalize ys[i] = y at *
  have c := p123 x y
  have hi2 : ¬ xs.length ≤ i := by omega
  simp only [Int.toNat_natCast] at hr hr'
  push_cast at hw
  by_cases e : x = y
  ·subst e
   have e0 : cmpI x x = 0 := by simp [cmpI]
   simp [B10300, h.lenM, hb, hr, hr', hi, hi2, hw, c, e0]
  ·have e1 := cmpI_ne e
   simp [B10300, h.lenM, hb, hr, hr', hi, hi2, hw, c, e, e1]) (by simp [B10300])
 rw [cmp_find hl] at hG
 refine Eq.trans hG ?_
 split <;> rfl
theorem p103 {a b : AV} {xs ys : List Int} (h : IsL 1 (xs.map intR) a) (h' : IsL 1 (ys.map intR) b) (hl : xs.length = ys.length) (hn : xs.length < 1048577) : F103 [a, b] = some (ia (cmpL xs ys)) := by
 have hG := G10300 h h' hl hn
 have h1 : a.lenN = xs.length := h.lenM
 have h2 : b.lenN = xs.length := by rw [h'.lenM, hl]
 by_cases e : cmpL xs ys = 0 <;> simp [e] at hG <;> simp [F103, unitF_eq, t103, h1, h2, hG, e]
def cmpR (a b : Rs) : Int := if cmpI (gradeI a.st) (gradeI b.st) ≠ 0 then cmpI (gradeI a.st) (gradeI b.st) else cmpL b.xs a.xs
theorem cmpI_0 {x y : Int} : cmpI x y = 0 ↔ x = y := by
 constructor
 ·intro h
  exact Decidable.not_not.1 fun q => cmpI_ne q h
 ·rintro rfl; simp [cmpI]
theorem p75 {a b : Rs} (ha : RsOk a) (hb : RsOk b) (hl : gradeI a.st = gradeI b.st → b.xs.length = a.xs.length) : F75 (a.row ++ b.row) = some (ia (cmpR a b)) := by
 have c := p123 (gradeI a.st) (gradeI b.st)
 unfold cmpR
 by_cases e : cmpI (gradeI a.st) (gradeI b.st) = 0
 ·have d := p103 hb.l ha.l (hl (cmpI_0.1 e)) hb.n
  simp [F75, unitF_eq, t75, Rs.row, p125, p124g, c, d, e]
 ·simp [F75, unitF_eq, t75, Rs.row, p125, p124g, c, e]
set_option maxHeartbeats 8000000
structure RssOk (a : AV) (l : List Rs) : Prop where
 is : IsL 3 (l.map Rs.row) a
 n : l.length < 1048577
 ok : ∀ r ∈ l, RsOk r
def nmO (l : List Rs) : List Op := l.map fun r => ⟨r.nm, 0, 0⟩
theorem nmO_get {l : List Rs} {i : Nat} (hi : i < l.length) : ((nmO l).getD i default).nm = l[i].nm := by simp [nmO, hi]
def cn (l : List Rs) : Nat → Int
 | 0 => -1
 | i + 1 => if (l.getD i default).st = w0 then (if cn l i < 0 then ((l.getD i default).xs.length : Int) else cn l i) else cn l i
def errR (l : List Rs) (i : Nat) : Int :=
 if ckRes (l.getD i default) ≠ 0 then ckRes (l.getD i default) else if seen (nmO l) i (l.getD i default).nm then 9
 else if (l.getD i default).st = w0 ∧ ((l.getD i default).xs.length : Int) ≠ (if cn l i < 0 then ((l.getD i default).xs.length : Int) else cn l i) then 2 else 0
def errsR (l : List Rs) : Option Int := (List.range' 0 l.length).findSome? fun i => if errR l i = 0 then none else some (errR l i)
theorem errsR_end (l : List Rs) : ((List.range' 0 l.length).findSome? fun i => if errR l i = 0 then none else some (AV.tuple [ia 1, ia (errR l i)])).getD (.tuple [ia 2]) = endE (errsR l) := by
 unfold errsR
 generalize List.range' 0 l.length = s
 induction s with
 | nil => rfl
 | cons i s ih =>
   simp only [List.findSome?_cons]
   by_cases h : errR l i = 0
   ·rw [if_pos h, if_pos h]; exact ih
   ·rw [if_neg h, if_neg h]; rfl
theorem G2100 {a : AV} {l : List Rs} (h : RssOk a l) : loopG (calO s21) B2100 KK [ia (-1), a, ia l.length, ia 0, .im []] = some (endE (errsR l)) := by
 have hn := h.n
 rw [← errsR_end]
 refine loop0 (fun i => [ia (cn l i), a, ia l.length, ia i, .im (mapS (nmO l) i)]) l.length _ _ (by omega) (fun i hi => ?_) ?_
 ·have hr : nth a.rowsL i = some (Rs.row l[i]) := h.is.rowN hi
  have hw := wS (show i < 2097152 by omega)
  have hg : l.getD i default = l[i] := by simp [hi]
  obtain ⟨_, m2, m3⟩ := mapS_ok (nmO l) i
  have m2 := m2 l[i].nm
  rw [nmO_get hi] at m3
  have hok := h.ok _ (List.getElem_mem hi)
  have f := p79 hok
  have hl : l[i].va.lenN = l[i].xs.length := hok.l.lenM
  simp only [Rs.row] at f hr
  unfold errR
  simp only [cn, hg]
  generalize ckRes l[i] = e at *
  rcases tf_or (e = 0) with e1 | e1 <;> rcases Bool.eq_false_or_eq_true (seen (nmO l) i l[i].nm) with e2 | e2 <;> rw [e2] at m2 <;> simp only [if_true, if_false, Bool.false_eq_true] at m2 <;>
   rcases tf_or (l[i].st = w0) with e3 | e3 <;> rcases tf_or (cn l i < 0) with e4 | e4 <;> rcases tf_or ((l[i].xs.length : Int) = cn l i) with e5 | e5 <;>
    simp [B2100, h.is.lenM, hr, hi, hw, f, hl, m2, m3, s_mput, p80, fz2, whenI, fz_cons, fz_nil, e1, e2, e3, e4, e5]
 ·simp [B2100]
def ckRound (l : List Rs) : Int := if l.length > 160 then 5 else (errsR l).getD 0
theorem p21 {a : AV} {l : List Rs} (h : RssOk a l) : F21 [a] = some (ia (ckRound l)) := by
 have G := G2100 h
 have lN := h.is.lenM
 unfold ckRound
 rcases tf_or (160 < l.length) with e2 | e2
 ·have e2 := of_eq_true e2
  have e3 : (160 : Int) < l.length := by omega
  simp [F21, unitF_eq, t21, lN, e2, e3]
 ·have e2 := of_eq_false e2
  have e3 : ¬ ((160 : Int) < l.length) := by omega
  cases he : errsR l with
  | none => rw [he] at G; simp [endE] at G; simp [F21, unitF_eq, t21, lN, e2, e3, G]
  | some e => rw [he] at G; simp [endE] at G; simp [F21, unitF_eq, t21, lN, e2, e3, G]
structure RoundOk (l : List Rs) : Prop where
 n : l.length ≤ 160
 res : ∀ i (hi : i < l.length), ckRes l[i] = 0
 nms : ∀ i (hi : i < l.length), seen (nmO l) i l[i].nm = false
 len : ∀ i (hi : i < l.length) k (hk : k < l.length), l[i].st = w0 → l[k].st = w0 → l[i].xs.length = l[k].xs.length
theorem ckRes0 {r : Rs} (h : ckRes r = 0) : ¬ gradeI r.st < 0 ∧ (r.st ≠ w0 → r.xs = []) := by
 unfold ckRes at h
 split at h
 ·cases h
 split at h
 ·cases h
 rename_i h2
 split at h
 ·cases h
 rename_i h3
 refine ⟨h2, fun hne => ?_⟩
 have : ¬ r.xs.length > 0 := fun hp => h3 ⟨hne, hp⟩
 exact List.length_eq_zero_iff.1 (by omega)
theorem errsR_ne {l : List Rs} {e : Int} (h : errsR l = some e) : e ≠ 0 := by
 obtain ⟨i, _, h2⟩ := List.exists_of_findSome?_eq_some h
 split at h2
 ·cases h2
 ·rename_i hne; injection h2 with h2; rw [← h2]; exact hne
theorem ckRound0 {l : List Rs} (h : ckRound l = 0) : RoundOk l := by
 unfold ckRound at h
 split at h
 ·cases h
 rename_i h1
 cases he : errsR l with
 | some e => rw [he] at h; exact (errsR_ne he h).elim
 | none =>
   have hz : ∀ i (hi : i < l.length), errR l i = 0 := fun i hi => by
    have h3 := List.findSome?_eq_none_iff.1 he i (by simp only [List.mem_range'_1]; omega)
    split at h3
    ·rename_i h4; exact h4
    ·cases h3
   have hg : ∀ i (hi : i < l.length), l.getD i default = l[i] := fun i hi => by simp [hi]
   have hall : ∀ i (hi : i < l.length), ckRes l[i] = 0 ∧ seen (nmO l) i l[i].nm = false ∧ (l[i].st = w0 → ((l[i].xs.length : Int) = (if cn l i < 0 then (l[i].xs.length : Int) else cn l i))) := fun i hi => by
    have h4 := hz i hi
    unfold errR at h4
    rw [hg i hi] at h4
    by_cases e1 : ckRes l[i] = 0
    ·simp only [e1, ne_eq, not_true_eq_false, if_false] at h4
     cases e2 : seen (nmO l) i l[i].nm
     ·simp only [e2, Bool.false_eq_true, if_false] at h4
      refine ⟨e1, rfl, fun hst => ?_⟩
      by_cases e3 : (l[i].xs.length : Int) = (if cn l i < 0 then (l[i].xs.length : Int) else cn l i)
      ·exact e3
      ·rw [if_pos ⟨hst, e3⟩] at h4; cases h4
     ·rw [e2] at h4; simp at h4
    ·rw [if_pos e1] at h4; exact (e1 h4).elim
   have inv : ∀ n, n ≤ l.length → (cn l n < 0 → ∀ i (hi : i < l.length), i < n → l[i].st ≠ w0) ∧ (∀ i (hi : i < l.length), i < n → l[i].st = w0 → (l[i].xs.length : Int) = cn l n) := by
    intro n
    induction n with
    | zero => exact fun _ => ⟨fun _ _ _ h => by omega, fun _ _ h => by omega⟩
    | succ n ih =>
      intro hn
      obtain ⟨i1, i2⟩ := ih (by omega)
      obtain ⟨_, _, a3⟩ := hall n (by omega)
      simp only [cn, hg n (by omega)]
      by_cases hst : l[n].st = w0
      ·have a3 := a3 hst
       rw [if_pos hst]
       by_cases hc : cn l n < 0
       ·rw [if_pos hc]
        refine ⟨fun h => by omega, fun i hi hin hs => ?_⟩
        by_cases e : i < n
        ·exact ((i1 hc i hi e) hs).elim
        ·have : i = n := by omega
         subst this; rfl
       ·rw [if_neg hc] at a3 ⊢
        refine ⟨fun h => (hc h).elim, fun i hi hin hs => ?_⟩
        by_cases e : i < n
        ·exact i2 i hi e hs
        ·have : i = n := by omega
         subst this; exact a3
      ·rw [if_neg hst]
       refine ⟨fun h i hi hin => ?_, fun i hi hin hs => ?_⟩
       ·by_cases e : i < n
        ·exact i1 h i hi e
        ·have : i = n := by omega
         subst this; exact hst
       ·by_cases e : i < n
        ·exact i2 i hi e hs
        ·have : i = n := by omega
         subst this; exact (hst hs).elim
   refine ⟨by omega, fun i hi => (hall i hi).1, fun i hi => (hall i hi).2.1, fun i hi k hk s1 s2 => ?_⟩
   have q1 := (inv l.length (Nat.le_refl _)).2 i hi hi s1
   have q2 := (inv l.length (Nat.le_refl _)).2 k hk hk s2
   omega
theorem grade_w0 {s : ByteArray} (h : gradeI s = 0) : s = w0 := by
 unfold gradeI at h
 split at h
 ·assumption
 ·split at h
  ·cases h
  ·split at h
   ·cases h
   ·split at h <;> cases h
theorem RoundOk.lens {l : List Rs} (h : RoundOk l) {i k : Nat} (hi : i < l.length) (hk : k < l.length) (hg : gradeI l[k].st = gradeI l[i].st) : l[i].xs.length = l[k].xs.length := by
 by_cases e : l[i].st = w0
 ·have : gradeI l[k].st = 0 := by rw [hg, e]; rfl
  exact h.len i hi k hk e (grade_w0 this)
 ·have e2 : l[k].st ≠ w0 := fun q => e (grade_w0 (by rw [← hg, q]; rfl))
  rw [(ckRes0 (h.res i hi)).2 e, (ckRes0 (h.res k hk)).2 e2]
def rkc (l : List Rs) (r : Rs) : Nat → Int
 | 0 => 1
 | k + 1 => rkc l r k + (if cmpR (l.getD k default) r < 0 then 1 else 0)
theorem rkc_le (l : List Rs) (r : Rs) : ∀ k, 1 ≤ rkc l r k ∧ rkc l r k ≤ 1 + k
 | 0 => by simp [rkc]
 | k + 1 => by
   have := rkc_le l r k
   simp only [rkc]
   split <;> omega
def rkl (l : List Rs) : Nat → List Int
 | 0 => []
 | i + 1 => rkl l i ++ [rkc l (l.getD i default) l.length]
theorem rkl_len (l : List Rs) : ∀ i, (rkl l i).length = i
 | 0 => rfl
 | i + 1 => by simp [rkl, rkl_len l i]
theorem rkl_get (l : List Rs) : ∀ n i, i < n → (rkl l n).getD i 0 = rkc l (l.getD i default) l.length
 | 0, _, h => by omega
 | n + 1, i, h => by
   have := rkl_len l n
   simp only [rkl, List.getD_eq_getElem?_getD]
   by_cases hi : i < n
   ·rw [List.getElem?_append_left (by omega), ← List.getD_eq_getElem?_getD]
    exact rkl_get l n i hi
   ·obtain rfl : i = n := by omega
    rw [List.getElem?_append_right (by omega), this]; simp
theorem G7401 {a o : AV} {l : List Rs} (h : RssOk a l) (hr : RoundOk l) {i : Nat} (hi : i < l.length) :
  loopG (calO s74) B7401 KK [a, o, ia 1, ia l.length, ia i, ia l.length, ia 0, .str l[i].nm, .str l[i].st, l[i].va] = some (.tuple [ia 1, a, o, ia (rkc l l[i] l.length), ia l.length, ia i]) := by
 have hn := h.n
 refine loopF (fun k => [a, o, ia (rkc l l[i] k), ia l.length, ia i, ia l.length, ia k, .str l[i].nm, .str l[i].st, l[i].va]) l.length _ (by omega) (fun k hk => ?_) ?_
 ·have hrow : nth a.rowsL k = some (Rs.row l[k]) := h.is.rowN hk
  have hw := wS (show k < 2097152 by omega)
  have hg : l.getD k default = l[k] := by simp [hk]
  have b1 := rkc_le l l[i] k
  have w1 : IntKind.i64.wrap (rkc l l[i] k + 1) = rkc l l[i] k + 1 := i64w (by omega) (by omega)
  have f := p75 (h.ok _ (List.getElem_mem hk)) (h.ok _ (List.getElem_mem hi)) (hr.lens hi hk)
  simp only [Rs.row, List.cons_append, List.nil_append] at f hrow
  simp only [rkc, hg]
  rcases tf_or (cmpR l[k] l[i] < 0) with e1 | e1 <;> simp [B7401, h.is.lenM, hrow, hk, hw, w1, f, e1]
 ·simp [B7401]
theorem G7400 {a : AV} {l : List Rs} (h : RssOk a l) (hr : RoundOk l) : loopG (omL KK s74 [d7401]) B7400 KK [a, .nils, ia l.length, ia 0] = some (.tuple [ia 1, mkI (rkl l l.length)]) := by
 have hn := h.n
 refine loopF (fun i => [a, mkI (rkl l i), ia l.length, ia i]) l.length _ (by omega) (fun i hi => ?_) ?_
 ·have hrow : nth a.rowsL i = some (Rs.row l[i]) := h.is.rowN hi
  have hw := wS (show i < 2097152 by omega)
  have hg : l.getD i default = l[i] := by simp [hi]
  have G := G7401 (o := mkI (rkl l i)) h hr hi
  have b2 := rkl_len l i
  have c1 : (((rkl l i).length : Nat) : Int) + 1 ≤ 1073741824 := by omega
  simp only [Rs.row] at hrow
  simp only [rkl, hg]
  simp [B7400, h.is.lenM, hrow, hi, hw, G, mkI_rows, mkI_snoc, mkI_len, c1]
 ·simp [B7400]
theorem p74 {a : AV} {l : List Rs} (h : RssOk a l) (hr : RoundOk l) : F74 [a] = some (mkI (rkl l l.length)) := by
 have G := G7400 h hr
 simp [F74, unitF_eq, t74, G, h.is.lenM]
theorem p17 {a : AV} {l : List Rs} (h : RssOk a l) (hc : ckRound l = 0) : F17 [a] = some (.tuple [mkI (rkl l l.length), ia 0]) := by
 have f := p21 h
 rw [hc] at f
 have g := p74 h (ckRound0 hc)
 have k := mkI_ok (rkl l l.length)
 simp [F17, unitF_eq, t17, f, g, k]
theorem p17' {a : AV} {l : List Rs} (h : RssOk a l) (hc : ckRound l ≠ 0) : F17 [a] = some (.tuple [.nils, ia (ckRound l)]) := by
 have f := p21 h
 simp [F17, unitF_eq, t17, f, hc]
set_option maxHeartbeats 4000000
def sw (zs : List Int) (j : Nat) : List Int := (zs.set (j + 1) (zs.getD j 0)).set j (zs.getD (j + 1) 0)
def bub (f : Int → Int) : Nat → List Int → List Int
 | 0, zs => zs
 | j + 1, zs => if f (zs.getD (j + 1) 0) < f (zs.getD j 0) then bub f j (sw zs j) else zs
theorem sw_len (zs : List Int) (j : Nat) : (sw zs j).length = zs.length := by simp [sw]
theorem bub_len (f : Int → Int) : ∀ (j : Nat) (zs : List Int), (bub f j zs).length = zs.length
 | 0, _ => rfl
 | j + 1, zs => by
   simp only [bub]
   split
   ·rw [bub_len f j, sw_len]
   ·rfl
theorem getD_mem {zs : List Int} {j : Nat} (h : j < zs.length) : zs.getD j 0 ∈ zs := by
 rw [List.getD_eq_getElem?_getD, List.getElem?_eq_getElem h]; exact List.getElem_mem h
theorem sw_all {P : Int → Prop} {zs : List Int} {j : Nat} (h : ∀ z ∈ zs, P z) (hj : j + 1 < zs.length) : ∀ z ∈ sw zs j, P z := by
 intro z hz
 unfold sw at hz
 rcases List.mem_or_eq_of_mem_set hz with hz | rfl
 ·rcases List.mem_or_eq_of_mem_set hz with hz | rfl
  ·exact h z hz
  ·exact h _ (getD_mem (by omega))
 ·exact h _ (getD_mem hj)
theorem bub_all {P : Int → Prop} (f : Int → Int) : ∀ (j : Nat) {zs : List Int}, (∀ z ∈ zs, P z) → j < zs.length → ∀ z ∈ bub f j zs, P z
 | 0, zs, h, _ => h
 | j + 1, zs, h, hj => by
   simp only [bub]
   split
   ·exact bub_all f j (sw_all h hj) (by rw [sw_len]; omega)
   ·exact h
def stn (f : Int → Int) (zs : List Int) : Nat → List Int
 | 0 => zs
 | i + 1 => bub f i (stn f zs i)
theorem stn_len (f : Int → Int) (zs : List Int) : ∀ i, (stn f zs i).length = zs.length
 | 0 => rfl
 | i + 1 => by rw [stn, bub_len, stn_len f zs i]
theorem stn_all {P : Int → Prop} (f : Int → Int) {zs : List Int} (h : ∀ z ∈ zs, P z) : ∀ i, i ≤ zs.length → ∀ z ∈ stn f zs i, P z
 | 0, _ => h
 | i + 1, hi => bub_all f i (stn_all f h i (by omega)) (by rw [stn_len]; omega)
def keyF (ks : List Int) (z : Int) : Int := ks.getD z.toNat 0
def InK (ks : List Int) (z : Int) : Prop := 0 ≤ z ∧ z < ks.length
theorem cellK {ks : List Int} {a : AV} (h : IsL 1 (ks.map intR) a) {z : Int} (hz : InK ks z) : nth a.rowsL z.toNat = some [ia (keyF ks z)] := by
 obtain ⟨h1, h2⟩ := hz
 have hl : z.toNat < ks.length := by omega
 have := h.rowN hl
 rw [this]
 simp [intR, keyF, hl]
theorem p127 {ks : List Int} {a : AV} (h : IsL 1 (ks.map intR) a) {y z : Int} (hy : InK ks y) (hz : InK ks z) : F127 [ia y, ia z, a] = some (ia (cmpI (keyF ks y) (keyF ks z))) := by
 have h1 := cellK h hy
 have h2 := cellK h hz
 have f := p123 (keyF ks y) (keyF ks z)
 simp [F127, unitF_eq, t127, h.lenM, h1, h2, hy.1, hy.2, hz.1, hz.2, f]
theorem s_setc {Ω : Om} {zs : List Int} {j : Nat} {v : Int} (hj : j < zs.length) : Pr.sem Ω (.setc 0) [.sl 1 (zs.map intR), ia j, ia v] = .sl 1 ((zs.set j v).map intR) := by
 have h1 : nth (zs.map intR) j = some [ia zs[j]] := by simp [nth_eq, intR, hj]
 simp [Pr.sem, h1, setCells, put_eq, put, intR, List.map_set]
theorem isNil_sl {Ω : Om} (k : Nat) (r : List (List AV)) : Pr.sem Ω .isNil [.sl k r] = .bool false := rfl
theorem cmp_lt (x y : Int) : (cmpI x y < 0) = (x < y) := by
 unfold cmpI
 by_cases h : x < y
 ·simp [h]
 ·by_cases h2 : x > y <;> simp [h, h2]
theorem G20101 {ks : List Int} {a : AV} (h : IsL 1 (ks.map intR) a) (n : Int) (i : Nat) : ∀ (j K : Nat) (zs : List Int), j < K → j < zs.length → zs.length < 1048577 → (∀ z ∈ zs, InK ks z) →
  loopG (calO s201) B20101 K [.sl 1 (zs.map intR), ia 0, ia n, a, ia i, ia j] = some (.tuple [ia 1, .sl 1 ((bub (keyF ks) j zs).map intR), ia 0, ia n, a, ia i])
 | 0, K + 1, zs, _, hj, _, hz => by
   refine loopG_out ?_
   have e : ¬ ((0 : Int) > 0) := by omega
   simp [B20101, bub]
 | j + 1, K + 1, zs, hK, hj, hn, hz => by
   have z1 := hz _ (getD_mem hj)
   have z2 := hz _ (getD_mem (show j < zs.length by omega))
   have f := p127 h z1 z2
   have r1 : nth (zs.map intR) (j + 1) = some [ia (zs.getD (j + 1) 0)] := by simp [nth_eq, intR, hj]
   have r2 : nth (zs.map intR) j = some [ia (zs.getD j 0)] := by simp [nth_eq, intR, show j < zs.length by omega]
   have s1 : ∀ Ω, Pr.sem Ω (.setc 0) [.sl 1 (zs.map intR), ia ((j + 1 : Nat) : Int), ia (zs.getD j 0)] = .sl 1 ((zs.set (j + 1) (zs.getD j 0)).map intR) := fun Ω => s_setc hj
   have s2 : ∀ Ω, Pr.sem Ω (.setc 0) [.sl 1 ((zs.set (j + 1) (zs.getD j 0)).map intR), ia (j : Int), ia (zs.getD (j + 1) 0)] = .sl 1 ((sw zs j).map intR) := fun Ω => s_setc (by simp; omega)
   have hcc := cmp_lt (keyF ks (zs.getD (j + 1) 0)) (keyF ks (zs.getD j 0))
   obtain ⟨J, hJ⟩ : ∃ J : Int, J = ((j + 1 : Nat) : Int) := ⟨_, rfl⟩
   have J0 : 0 < J := by omega
   have J1 : 0 ≤ J := by omega
   have J2 : J < zs.length := by omega
   have J3 : IntKind.i64.wrap (J - 1) = (j : Int) := by rw [hJ, i64w] <;> omega
   have J4 : J.toNat = j + 1 := by omega
   have j1 : (j : Int) < zs.length := by omega
   rw [← hJ] at s1 ⊢
   by_cases hc : keyF ks (zs.getD (j + 1) 0) < keyF ks (zs.getD j 0)
   ·have ih := G20101 h n i j K (sw zs j) (by omega) (by rw [sw_len]; omega) (by rw [sw_len]; omega) (sw_all hz hj)
    have hb : bub (keyF ks) (j + 1) zs = bub (keyF ks) j (sw zs j) := by simp only [bub, if_pos hc]
    rw [hb, ← ih]
    refine loopG_again ?_
    simp only [hc, eq_iff_iff, iff_true] at hcc
    generalize zs.getD (j + 1) 0 = y1 at *
    generalize zs.getD j 0 = y2 at *
    simp [B20101, J0, J1, J2, J3, J4, j1, r1, r2, f, s1, s2, isNil_sl, hcc, -List.map_set]
   ·have hb : bub (keyF ks) (j + 1) zs = zs := by simp only [bub, if_neg hc]
    rw [hb]
    refine loopG_out ?_
    simp only [hc, eq_iff_iff, iff_false] at hcc
    generalize zs.getD (j + 1) 0 = y1 at *
    generalize zs.getD j 0 = y2 at *
    simp [B20101, J0, J1, J2, J3, J4, j1, r1, r2, f, isNil_sl, hcc, -List.map_set]
def insS (f : Int → Int) (z : Int) : List Int → List Int
 | [] => [z]
 | y :: l => if f z < f y then z :: y :: l else y :: insS f z l
def SortedF (f : Int → Int) (l : List Int) : Prop := l.Pairwise fun a b => f a ≤ f b
theorem insS_perm (f : Int → Int) (z : Int) : ∀ l, (insS f z l).Perm (z :: l)
 | [] => .refl _
 | y :: l => by
   simp only [insS]
   split
   ·exact .refl _
   ·exact ((insS_perm f z l).cons y).trans (.swap z y l)
theorem insS_sorted (f : Int → Int) (z : Int) : ∀ {l : List Int}, SortedF f l → SortedF f (insS f z l)
 | [], _ => by simp [insS, SortedF]
 | y :: l, h => by
   obtain ⟨h1, h2⟩ := List.pairwise_cons.1 h
   simp only [insS]
   split
   ·rename_i hz
    refine List.pairwise_cons.2 ⟨fun a ha => ?_, h⟩
    rcases List.mem_cons.1 ha with rfl | ha
    ·omega
    ·have := h1 a ha; omega
   ·rename_i hz
    refine List.pairwise_cons.2 ⟨fun a ha => ?_, insS_sorted f z h2⟩
    rcases List.mem_cons.1 ((insS_perm f z l).mem_iff.1 ha) with rfl | ha
    ·omega
    ·exact h1 a ha
theorem insS_snoc_lt (f : Int → Int) (z y : Int) (h : f z < f y) : ∀ M : List Int, insS f z (M ++ [y]) = insS f z M ++ [y]
 | [] => by simp [insS, h]
 | m :: M => by
   simp only [List.cons_append, insS]
   split
   ·rfl
   ·rw [insS_snoc_lt f z y h M]; rfl
theorem insS_last (f : Int → Int) (z : Int) : ∀ M : List Int, (∀ m ∈ M, f m ≤ f z) → insS f z M = M ++ [z]
 | [], _ => rfl
 | m :: M, h => by
   have h1 := h m (.head _)
   simp only [insS]
   rw [if_neg (by omega), insS_last f z M fun q hq => h q (.tail _ hq)]; rfl
theorem sorted_snoc {f : Int → Int} {M : List Int} {y : Int} (h : SortedF f (M ++ [y])) : SortedF f M ∧ ∀ m ∈ M, f m ≤ f y := by
 unfold SortedF at h
 rw [List.pairwise_append] at h
 exact ⟨h.1, fun m hm => h.2.2 m hm y (by simp)⟩
theorem sw_snoc (M : List Int) (y z : Int) (rest : List Int) : sw (M ++ y :: z :: rest) M.length = M ++ z :: y :: rest := by
 unfold sw
 have h1 : (M ++ y :: z :: rest).getD M.length 0 = y := by simp [List.getD_eq_getElem?_getD]
 have h2 : (M ++ y :: z :: rest).getD (M.length + 1) 0 = z := by
  rw [List.getD_eq_getElem?_getD, List.getElem?_append_right (by omega)]; simp
 rw [h1, h2, List.set_append_right _ _ (by omega)]
 simp only [Nat.add_sub_cancel_left, List.set_cons_succ, List.set_cons_zero]
 rw [List.set_append_right _ _ (by omega)]
 simp
theorem bub_ins (f : Int → Int) (z : Int) (rest : List Int) : ∀ (n : Nat) (M : List Int), M.length = n → SortedF f M → bub f n (M ++ z :: rest) = insS f z M ++ rest
 | 0, M, hM, _ => by
   have : M = [] := List.length_eq_zero_iff.1 hM
   subst this; rfl
 | n + 1, M, hM, hs => by
   obtain ⟨M', y, rfl⟩ : ∃ M' y, M = M' ++ [y] := by
    have hne : M ≠ [] := by intro h; rw [h] at hM; simp at hM
    exact ⟨M.dropLast, M.getLast hne, (List.dropLast_concat_getLast hne).symm⟩
   have hl : M'.length = n := by simp at hM; exact hM
   obtain ⟨h1, h2⟩ := sorted_snoc hs
   have e : M' ++ [y] ++ z :: rest = M' ++ y :: z :: rest := by simp
   have g1 : (M' ++ y :: z :: rest).getD n 0 = y := by rw [← hl]; simp [List.getD_eq_getElem?_getD]
   have g2 : (M' ++ y :: z :: rest).getD (n + 1) 0 = z := by
    rw [← hl, List.getD_eq_getElem?_getD, List.getElem?_append_right (by omega)]; simp
   rw [e]
   simp only [bub, g1, g2]
   split
   ·rename_i hlt
    rw [insS_snoc_lt f z y hlt, ← hl, sw_snoc, hl, bub_ins f z (y :: rest) n M' hl h1]
    simp
   ·rename_i hge
    rw [insS_last f z (M' ++ [y]) fun m hm => ?_]
    ·simp
    ·rcases List.mem_append.1 hm with hm | hm
     ·have := h2 m hm; omega
     ·have : m = y := by simpa using hm
      subst this; omega
def iot (n : Nat) : List Int := (List.range n).map fun (i : Nat) => (i : Int)
def srt (f : Int → Int) : Nat → List Int
 | 0 => []
 | i + 1 => insS f i (srt f i)
theorem srt_perm (f : Int → Int) : ∀ n, (srt f n).Perm (iot n)
 | 0 => .refl _
 | n + 1 => by
   have h1 : iot (n + 1) = iot n ++ [(n : Int)] := by simp [iot, List.range_succ]
   rw [h1]
   refine (insS_perm f n _).trans (((srt_perm f n).cons _).trans ?_)
   exact (List.perm_append_singleton _ _).symm
theorem srt_sorted (f : Int → Int) : ∀ n, SortedF f (srt f n)
 | 0 => by simp [srt, SortedF]
 | n + 1 => insS_sorted f _ (srt_sorted f n)
theorem srt_len (f : Int → Int) (n : Nat) : (srt f n).length = n := by rw [(srt_perm f n).length_eq]; simp [iot]
theorem stn_srt (f : Int → Int) (n : Nat) : ∀ i, i ≤ n → stn f (iot n) i = srt f i ++ (iot n).drop i
 | 0, _ => rfl
 | i + 1, hi => by
   rw [stn, stn_srt f n i (by omega)]
   have hd : (iot n).drop i = (i : Int) :: (iot n).drop (i + 1) := by
    rw [List.drop_eq_getElem_cons (by simp [iot]; omega)]
    simp [iot]
   rw [hd, bub_ins f i _ i (srt f i) (srt_len f i) (srt_sorted f i)]
   rfl
theorem stn_all_srt (f : Int → Int) (n : Nat) : stn f (iot n) n = srt f n := by
 rw [stn_srt f n n (Nat.le_refl _)]
 have : (iot n).drop n = [] := List.drop_eq_nil_of_le (by simp [iot])
 rw [this, List.append_nil]
theorem insS_filter (f : Int → Int) (p z : Int) : ∀ {l : List Int}, SortedF f l → (insS f z l).filter (fun y => decide (f y = p)) = l.filter (fun y => decide (f y = p)) ++ (if f z = p then [z] else [])
 | [], _ => by by_cases h : f z = p <;> simp [insS, h]
 | y :: l, hs => by
   obtain ⟨h1, h2⟩ := List.pairwise_cons.1 hs
   simp only [insS]
   split
   ·rename_i hlt
    by_cases hz : f z = p
    ·have hno : (y :: l).filter (fun y => decide (f y = p)) = [] := by
      refine List.filter_eq_nil_iff.2 fun q hq => ?_
      have : f z < f q := by
       rcases List.mem_cons.1 hq with rfl | hq
       ·exact hlt
       ·have := h1 q hq; omega
      simp; omega
     rw [List.filter_cons, if_pos (by simpa using hz), hno, if_pos hz]; rfl
    ·rw [List.filter_cons, if_neg (by simpa using hz), if_neg hz, List.append_nil]
   ·rw [List.filter_cons, List.filter_cons, insS_filter f p z h2]
    split <;> simp
theorem srt_filter (f : Int → Int) (p : Int) : ∀ n, (srt f n).filter (fun y => decide (f y = p)) = (iot n).filter (fun y => decide (f y = p))
 | 0 => rfl
 | n + 1 => by
   have h1 : iot (n + 1) = iot n ++ [(n : Int)] := by simp [iot, List.range_succ]
   rw [h1, srt, insS_filter f p n (srt_sorted f n), srt_filter f p n, List.filter_append]
   congr 1
   by_cases h : f n = p <;> simp [h]
theorem sorted_split (f : Int → Int) (m : Int) : ∀ {l : List Int}, SortedF f l → l = l.filter (fun y => decide (f y ≤ m)) ++ l.filter (fun y => decide (m < f y))
 | [], _ => rfl
 | y :: l, h => by
   obtain ⟨h1, h2⟩ := List.pairwise_cons.1 h
   have ih := sorted_split f m h2
   by_cases hy : f y ≤ m
   ·have hn : ¬ m < f y := by omega
    rw [List.filter_cons, List.filter_cons, if_pos (by simpa using hy), if_neg (by simpa using hn), List.cons_append, ← ih]
   ·have hno : l.filter (fun y => decide (f y ≤ m)) = [] := List.filter_eq_nil_iff.2 fun q hq => by
     have := h1 q hq; simp; omega
    have hall : l.filter (fun y => decide (m < f y)) = l := List.filter_eq_self.2 fun q hq => by
     have := h1 q hq; simp; omega
    rw [List.filter_cons, List.filter_cons, if_neg (by simpa using hy), if_pos (by simp; omega), hno, hall, List.nil_append]
def parts (f : Int → Int) (l : List Int) : Nat → List Int
 | 0 => []
 | p + 1 => parts f l p ++ l.filter (fun y => decide (f y = 1 + p))
theorem sorted_parts (f : Int → Int) {l : List Int} (hs : SortedF f l) (h1 : ∀ y ∈ l, 1 ≤ f y) : ∀ m : Nat, l.filter (fun y => decide (f y ≤ m)) = parts f l m
 | 0 => List.filter_eq_nil_iff.2 fun q hq => by have := h1 q hq; simp; omega
 | m + 1 => by
   have hs' : SortedF f (l.filter (fun y => decide (f y ≤ ((m + 1 : Nat) : Int)))) := hs.sublist List.filter_sublist
   rw [sorted_split f m hs', List.filter_filter, List.filter_filter, parts, ← sorted_parts f hs h1 m]
   congr 1
   ·refine List.filter_congr fun q hq => ?_
    rw [Bool.eq_iff_iff]; simp; omega
   ·refine List.filter_congr fun q hq => ?_
    rw [Bool.eq_iff_iff]; simp; omega
theorem parts_congr (f : Int → Int) {l l' : List Int} (h : ∀ p, l.filter (fun y => decide (f y = p)) = l'.filter (fun y => decide (f y = p))) : ∀ m, parts f l m = parts f l' m
 | 0 => rfl
 | m + 1 => by rw [parts, parts, parts_congr f h m, h]
theorem srt_first (f : Int → Int) (n k : Nat) (h1 : ∀ y ∈ iot n, 1 ≤ f y) : (srt f n).filter (fun y => decide (f y ≤ k)) = parts f (iot n) k := by
 rw [sorted_parts f (srt_sorted f n) (fun y hy => h1 y ((srt_perm f n).mem_iff.1 hy)) k]
 exact parts_congr f (srt_filter f · n) k
@[simp] theorem gpF_cons (F : List AV → Option AV) (a : AV) (l : List AV) : gpF F (a :: l) = F (a :: l) := rfl
theorem wr1 : IntKind.i64.wrap 1 = 1 := rfl
theorem G20100 {ks : List Int} {a : AV} (h : IsL 1 (ks.map intR) a) {zs : List Int} (hn : zs.length < 1048577) (hz : ∀ z ∈ zs, InK ks z) :
  loopG (omL KK s201 [d20101]) B20100 KK [.sl 1 (zs.map intR), ia 0, ia zs.length, a, ia 1] = some (.tuple [ia 1, .sl 1 ((stn (keyF ks) zs zs.length).map intR)]) := by
 have hfin : stn (keyF ks) zs (zs.length - 1 + 1) = stn (keyF ks) zs zs.length := by
  by_cases e : zs.length = 0
  ·have : zs = [] := List.length_eq_zero_iff.1 e
   subst this; rfl
  ·rw [show zs.length - 1 + 1 = zs.length by omega]
 rw [← hfin]
 refine loopF (fun k => [.sl 1 ((stn (keyF ks) zs (k + 1)).map intR), ia 0, ia zs.length, a, ia ((k + 1 : Nat) : Int)]) (zs.length - 1) _ (by omega) (fun k hk => ?_) ?_
 ·have hl := stn_len (keyF ks) zs (k + 1)
  have G := G20101 h zs.length (k + 1) (k + 1) KK (stn (keyF ks) zs (k + 1)) (by rw [KK_eq]; omega) (by omega) (by omega) (stn_all (keyF ks) hz (k + 1) (by omega))
  have hlt : ((k + 1 : Nat) : Int) < (zs.length : Int) := by omega
  have hw := wS (i := k + 1) (by omega)
  have e : stn (keyF ks) zs (k + 1 + 1) = bub (keyF ks) (k + 1) (stn (keyF ks) zs (k + 1)) := rfl
  rw [e]
  generalize ((k + 1 : Nat) : Int) = J at *
  simp [B20100, hlt, hw, G]
 ·have hge : ¬ (((zs.length - 1 + 1 : Nat) : Int) < (zs.length : Int)) := by omega
  generalize ((zs.length - 1 + 1 : Nat) : Int) = J at *
  simp [B20100, hge]
theorem q201 {ks : List Int} {a : AV} (h : IsL 1 (ks.map intR) a) {zs : List Int} (hn : zs.length < 1048577) (hz : ∀ z ∈ zs, InK ks z) :
  F201 [.sl 1 (zs.map intR), ia 0, ia zs.length, a] = some (.sl 1 ((stn (keyF ks) zs zs.length).map intR)) := by
 have G := G20100 h hn hz
 simp [F201, unitF_eq, t201, wr1, G]
theorem q201n (a : AV) : F201 [.nils, ia 0, ia 0, a] = some .nils := by
 have G : loopG (omL KK s201 [d20101]) B20100 KK [.nils, ia 0, ia 0, a, ia 1] = some (.tuple [ia 1, .nils]) := by
  refine loopF (fun _ => [.nils, ia 0, ia 0, a, ia 1]) 0 _ (by omega) (fun i hi => by omega) ?_
  simp [B20100]
 simp [F201, unitF_eq, t201, wr1, G]
theorem G15700 (r a : AV) {n : Nat} (hn : n < 20) : loopG (calO s157) B15700 KK [r, ia n, a, ia 0, ia 20] = some (.tuple [ia 1, r, ia n, a, ia 0]) := by
 refine loopF (fun _ => [r, ia n, a, ia 0, ia 20]) 0 _ (by omega) (fun i hi => by omega) ?_
 have : ¬ ((20 : Int) ≤ n) := by omega
 simp [B15700, this]
theorem G15701 (r a : AV) {n : Nat} (hn : n < 20) : loopG (omL KK s157 [d15702, d15700]) B15701 KK [r, ia n, a] = some (.tuple [ia 1, r]) := by
 refine loopF (fun _ => [r, ia n, a]) 0 _ (by omega) (fun i hi => by omega) ?_
 have : ¬ ((20 : Int) < n) := by omega
 simp [B15701, this]
theorem q157 {ks : List Int} {a : AV} (h : IsL 1 (ks.map intR) a) {zs : List Int} (hn : zs.length < 20) (hz : ∀ z ∈ zs, InK ks z) :
  F157 [.sl 1 (zs.map intR), ia zs.length, a] = some (.sl 1 ((stn (keyF ks) zs zs.length).map intR)) := by
 have f := q201 h (by omega) hz
 have hl := stn_len (keyF ks) zs zs.length
 have G1 := G15700 (.sl 1 (zs.map intR)) a hn
 have G2 := G15701 (.sl 1 ((stn (keyF ks) zs zs.length).map intR)) a hn
 generalize stn (keyF ks) zs zs.length = ys at *
 have ok : (ys.map intR).all (Sh.oks [.int .i64]) = true := by simp [intR]
 simp [F157, unitF_eq, t157, G1, f, hl, isNil_sl, G2, ok, s_whole]
theorem isNil_nils {Ω : Om} : Pr.sem Ω .isNil [.nils] = .bool true := rfl
theorem whole_nils {Ω : Om} (c : AV) : Pr.sem Ω .whole [.nils, c] = .nils := by cases c <;> rfl
theorem q157n (a : AV) : F157 [.nils, ia 0, a] = some .nils := by
 have f := q201n a
 have G1 : loopG (calO s157) B15700 KK [.nils, ia 0, a, ia 0, ia 20] = _ := G15700 .nils a (n := 0) (by omega)
 have G2 : loopG (omL KK s157 [d15702, d15700]) B15701 KK [.nils, ia 0, a] = _ := G15701 .nils a (n := 0) (by omega)
 have z0 : (((0 : Nat) : Int)) = 0 := rfl
 rw [z0] at G1
 simp [F157, unitF_eq, t157, G1, f, isNil_nils, whole_nils, G2]
theorem q126 {ks : List Int} {a : AV} (h : IsL 1 (ks.map intR) a) {zs : List Int} (hn : zs.length < 20) (hz : ∀ z ∈ zs, InK ks z) :
  F126 [.sl 1 (zs.map intR), a] = some (.sl 1 ((stn (keyF ks) zs zs.length).map intR)) := by
 have f := q157 h hn hz
 have hl := stn_len (keyF ks) zs zs.length
 generalize stn (keyF ks) zs zs.length = ys at *
 have ok : (ys.map intR).all (Sh.oks [.int .i64]) = true := by simp [intR]
 simp [F126, unitF_eq, t126, f, hl, isNil_sl, ok, s_whole]
theorem q126n (a : AV) : F126 [.nils, a] = some .nils := by
 have f := q157n a
 simp [F126, unitF_eq, t126, f, isNil_nils, whole_nils]
theorem iot_len (n : Nat) : (iot n).length = n := by simp [iot]
theorem iot_succ (n : Nat) : iot (n + 1) = iot n ++ [(n : Int)] := by simp [iot, List.range_succ]
theorem G7800 {a : AV} {n : Nat} (hn : n < 1048577) : loopG (calO s78) B7800 KK [.nils, ia n, ia 0, a] = some (.tuple [ia 1, mkI (iot n), a]) := by
 refine loopF (fun i => [mkI (iot i), ia n, ia i, a]) n _ (by omega) (fun i hi => ?_) ?_
 ·have hw := wS (show i < 2097152 by omega)
  have hl := iot_len i
  have hlt : (i : Int) < (n : Int) := by omega
  have c1 : (((iot i).length : Nat) : Int) + 1 ≤ 1073741824 := by omega
  rw [iot_succ]
  simp [B7800, hlt, hw, mkI_rows, mkI_snoc, mkI_len, c1]
 ·simp [B7800]
theorem p78 {ks : List Int} {a : AV} (h : IsL 1 (ks.map intR) a) (hn : ks.length < 20) : F78 [a] = some (mkI (srt (keyF ks) ks.length)) := by
 have G := G7800 (a := a) (n := ks.length) (by omega)
 rw [← stn_all_srt]
 by_cases e : ks.length = 0
 ·have f := q126n a
  have lN := h.lenM
  rw [e] at G lN ⊢
  have e1 : mkI (iot 0) = .nils := rfl
  have e2 : mkI (stn (keyF ks) (iot 0) 0) = .nils := rfl
  rw [e1] at G; rw [e2]
  simp only [Int.natCast_zero] at G lN
  simp [F78, unitF_eq, t78, lN, G, f, isNil_nils, whole_nils]
 ·have hl := iot_len ks.length
  have hz : ∀ z ∈ iot ks.length, InK ks z := fun z hz => by
   obtain ⟨i, hi, rfl⟩ := List.mem_map.1 hz
   have := List.mem_range.1 hi
   exact ⟨by omega, by omega⟩
  have f := q126 h (zs := iot ks.length) (by omega) hz
  rw [hl] at f
  have hs : ∀ {l : List Int}, l.length = ks.length → mkI l = .sl 1 (l.map intR) := fun {l} hl => by
   cases l with
   | nil => simp at hl; omega
   | cons _ _ => rfl
  have hy : (stn (keyF ks) (iot ks.length) ks.length).length = ks.length := by rw [stn_len, hl]
  rw [hs hl] at G
  rw [hs hy]
  generalize stn (keyF ks) (iot ks.length) ks.length = ys at *
  have ok : (ys.map intR).all (Sh.oks [.int .i64]) = true := by simp [intR]
  simp [F78, unitF_eq, t78, h.lenM, G, f, hl, hy, isNil_sl, ok, s_whole]
set_option maxHeartbeats 8000000
theorem p100 (s : ByteArray) : F100 [.str s] = some (ia (gradeI s)) := by
 unfold gradeI
 rcases tf_or (s = w0) with h0 | h0 <;> rcases tf_or (s = w1) with h1 | h1 <;> rcases tf_or (s = w2) with h2 | h2 <;> rcases tf_or (s = w3) with h3 | h3 <;>
  simp [F100, unitF_eq, t100, h0, h1, h2, h3]
theorem p84 (x y : Int) : F84 [ia x, ia y] = some (ia (cmpI x y)) := by
 unfold cmpI
 by_cases h : x < y
 ·simp [F84, unitF_eq, t84, h]
 ·by_cases h2 : x > y <;> simp [F84, unitF_eq, t84, h, h2]
theorem far_find (rs : List Int) : ((List.range' 0 rs.length).findSome? fun i => if outM (rs.getD i 0) then some (AV.tuple [ia 1]) else none) = if farV rs then some (.tuple [ia 1]) else none := by
 rw [range_find rs (fun x => if outM x then some (AV.tuple [ia 1]) else none) _ (fun i hi => by simp [hi])]
 exact any_find outM rs
theorem G4900 {r : Rs} (h : RsOk r) : loopG (calO s49) B4900 KK [ia 0, .str r.nm, .str r.st, r.va] = some (if farV r.xs then .tuple [ia 1] else .tuple [ia 2]) := by
 have hG := loop0 (Ω := calO s49) (B := B4900) (fun i => [ia i, .str r.nm, .str r.st, r.va]) r.xs.length (fun i => if outM (r.xs.getD i 0) then some (.tuple [ia 1]) else none) (.tuple [ia 2]) (by have := h.n; omega) (fun i hi => by
  have hr : nth r.va.rowsL (Int.toNat (i : Int)) = some [ia r.xs[i]] := h.l.row hi
  have hw := wS (i := i) (by have := h.n; omega)
  have hg : r.xs.getD i 0 = r.xs[i] := by simp [hi]
  simp only [Int.toNat_natCast] at hr
  push_cast at hw
  rw [hg]
  rcases tf_or (r.xs[i] < -999999999) with e1 | e1 <;> rcases tf_or (999999999 < r.xs[i]) with e2 | e2 <;>
   simp [B4900, h.l.lenM, hr, hi, hw, outM, e1, e2]) (by simp [B4900, h.l.lenM])
 rw [far_find] at hG
 have e : (fun i : Nat => [ia i, .str r.nm, .str r.st, r.va]) 0 = [ia 0, .str r.nm, .str r.st, r.va] := rfl
 rw [← e, hG]
 by_cases hf : farV r.xs = true <;> simp [hf]
theorem p49 {r : Rs} (h : RsOk r) : F49 r.row = some (ia (ckRes r)) := by
 have h1 := p89 (s := r.nm) (by have := h.z; omega)
 have h2 := G4900 h
 have h3 : r.va.lenN = r.xs.length := h.l.lenM
 have h4 := p100 r.st
 unfold ckRes
 generalize r.xs.length = m at *
 generalize farV r.xs = fv at *
 have q1 : ((8 : Int) < m) = (8 < m) := propext (by omega)
 have q2 : ((0 : Int) < m) = (0 < m) := by simp
 rcases tf_or (8 < m) with e5 | e5 <;> rcases tf_or (0 < m) with e4 | e4 <;> cases e1 : isName r.nm <;> rcases tf_or (r.st = w0) with e2 | e2 <;> rcases tf_or (gradeI r.st < 0) with e3 | e3 <;> cases fv <;>
  simp [F49, unitF_eq, t49, Rs.row, h1, h2, h3, h4, e1, e2, e3, e4, e5, q1, q2]
theorem G5000 {a b : Rs} (ha : RsOk a) (hb : RsOk b) (hl : b.xs.length = a.xs.length) :
  loopG (calO s50) B5000 KK [ia 0, .str b.nm, .str b.st, b.va, .str a.nm, .str a.st, a.va] = some (if cmpL b.xs a.xs = 0 then .tuple [ia 2] else .tuple [ia 1, ia (cmpL b.xs a.xs)]) := by
 have hG := loop0 (Ω := calO s50) (B := B5000) (fun i => [ia i, .str b.nm, .str b.st, b.va, .str a.nm, .str a.st, a.va]) b.xs.length (fun i => if b.xs.getD i 0 = a.xs.getD i 0 then none else some (.tuple [ia 1, ia (cmpI (b.xs.getD i 0) (a.xs.getD i 0))])) (.tuple [ia 2]) (by have := hb.n; omega) (fun i hi => by
  have hia : i < a.xs.length := by omega
  have hr : nth b.va.rowsL (Int.toNat (i : Int)) = some [ia b.xs[i]] := hb.l.row hi
  have hr' : nth a.va.rowsL (Int.toNat (i : Int)) = some [ia a.xs[i]] := ha.l.row hia
  have hw := wS (i := i) (by have := hb.n; omega)
  have hg : b.xs.getD i 0 = b.xs[i] := by simp [hi]
  have hg' : a.xs.getD i 0 = a.xs[i] := by simp [hia]
  have f := p84 b.xs[i] a.xs[i]
  simp only [Int.toNat_natCast] at hr hr'
  push_cast at hw
  rw [hg, hg']
  rcases tf_or (b.xs[i] = a.xs[i]) with e1 | e1
  ·have e1' : a.xs[i] = b.xs[i] := (of_eq_true e1).symm
   simp [B5000, ha.l.lenM, hb.l.lenM, hr, hr', hi, hia, hw, e1']
  ·have e1' : ¬ a.xs[i] = b.xs[i] := fun q => of_eq_false e1 q.symm
   simp [B5000, ha.l.lenM, hb.l.lenM, hr, hr', hi, hia, hw, f, e1, e1']) (by simp [B5000, ha.l.lenM, hl])
 rw [cmp_find hl] at hG
 have e : (fun i : Nat => [ia i, .str b.nm, .str b.st, b.va, .str a.nm, .str a.st, a.va]) 0 = [ia 0, .str b.nm, .str b.st, b.va, .str a.nm, .str a.st, a.va] := rfl
 rw [← e, hG]
 by_cases hf : cmpL b.xs a.xs = 0 <;> simp [hf]
theorem cmpL_nil (l : List Int) : cmpL l [] = 0 := by cases l <;> rfl
theorem p50 {a b : Rs} (ha : RsOk a) (hb : RsOk b) (hl : gradeI a.st = gradeI b.st → b.xs.length = a.xs.length) (h0 : a.st ≠ w0 → a.xs = []) : F50 (a.row ++ b.row) = some (ia (cmpR a b)) := by
 have f := p84 (gradeI a.st) (gradeI b.st)
 have q1 := p100 a.st
 have q2 := p100 b.st
 have z0 : gradeI w0 = 0 := rfl
 unfold cmpR
 rcases tf_or (a.st = w0) with e1 | e1
 ·have e1' := of_eq_true e1
  rcases tf_or (b.st = w0) with e2 | e2
  ·have e2' := of_eq_true e2
   have hll := hl (by rw [e1', e2'])
   have G := G5000 ha hb hll
   have c0 : cmpI (gradeI a.st) (gradeI b.st) = 0 := cmpI_0.2 (by rw [e1', e2'])
   by_cases e : cmpL b.xs a.xs = 0 <;> simp [e] at G <;> simp [F50, unitF_eq, t50, Rs.row, e1, e2, G, c0, e]
  ·have c0 : cmpI (gradeI a.st) (gradeI b.st) ≠ 0 := fun q => of_eq_false e2 (grade_w0 (by rw [← cmpI_0.1 q, e1', z0]))
   simp [F50, unitF_eq, t50, Rs.row, e1, e2, q1, q2, f, c0]
 ·have hx := h0 (of_eq_false e1)
  by_cases c0 : cmpI (gradeI a.st) (gradeI b.st) = 0
  ·simp [F50, unitF_eq, t50, Rs.row, e1, q1, q2, f, c0, hx, cmpL_nil]
  ·simp [F50, unitF_eq, t50, Rs.row, e1, q1, q2, f, c0]
theorem s_slc3 {Ω : Om} {a : AV} {l : List Rs} (h : IsL 3 (l.map Rs.row) a) {i : Nat} (hi : i ≤ l.length) : IsL 3 ((l.take i).map Rs.row) (Pr.sem Ω .slice [a, ia 0, ia i]) := by
 rcases h with rfl | ⟨rfl, h⟩
 ·refine .inl ?_
  show AV.sl 3 (((l.map Rs.row).drop 0).take (i - 0)) = _
  simp [List.map_take]
 ·have : l = [] := by simpa using h
  subst this
  exact .inr ⟨rfl, by simp⟩
theorem G3000 {a : AV} {l : List Rs} (h : IsL 3 (l.map Rs.row) a) (hn : l.length < 1048577) (s : ByteArray) :
  ∃ r, loopG (calO s30) B3000 KK [a, .str s, ia 0] = some r ∧ ((seen (nmO l) l.length s = true ∧ ∃ i : Nat, r = .tuple [ia 1, ia i]) ∨ (seen (nmO l) l.length s = false ∧ r = .tuple [ia 2])) := by
 have hG := loop0 (Ω := calO s30) (B := B3000) (fun i => [a, .str s, ia i]) l.length (fun i => if ((nmO l).getD i default).nm = s then some (.tuple [ia 1, ia i]) else none) (.tuple [ia 2]) (by omega) (fun i hi => by
  have hr : nth a.rowsL i = some (Rs.row l[i]) := h.rowN hi
  have hw := wS (i := i) (by omega)
  have hg := nmO_get hi
  rw [hg]
  simp only [Rs.row] at hr
  rcases tf_or (l[i].nm = s) with e1 | e1 <;> simp [B3000, h.lenM, hr, hi, hw, e1]) (by simp [B3000, h.lenM])
 refine ⟨_, hG, ?_⟩
 cases hb : seen (nmO l) l.length s
 ·right
  refine ⟨rfl, ?_⟩
  rw [List.findSome?_eq_none_iff.2 (fun i hi => ?_)]
  ·rfl
  ·have := List.any_eq_false.1 hb i hi
   simp only [decide_eq_true_eq] at this
   rw [if_neg this]
 ·left
  refine ⟨rfl, ?_⟩
  cases hf : (List.range' 0 l.length).findSome? fun i => if ((nmO l).getD i default).nm = s then some (AV.tuple [ia 1, ia i]) else none with
  | none =>
    exfalso
    obtain ⟨i, hi, hy⟩ := List.any_eq_true.1 hb
    have := List.findSome?_eq_none_iff.1 hf i hi
    simp only [decide_eq_true_eq] at hy
    rw [if_pos hy] at this; cases this
  | some r =>
    obtain ⟨i, hi, hr⟩ := List.exists_of_findSome?_eq_some hf
    refine ⟨i, ?_⟩
    split at hr
    ·injection hr with hr; rw [← hr]; rfl
    ·cases hr
theorem p30 {a : AV} {l : List Rs} (h : IsL 3 (l.map Rs.row) a) (hn : l.length < 1048577) (s : ByteArray) : ∃ j : Int, F30 [a, .str s] = some (ia j) ∧ (decide (j ≥ 0) = seen (nmO l) l.length s) := by
 obtain ⟨r, hG, hr⟩ := G3000 h hn s
 rcases hr with ⟨h1, i, rfl⟩ | ⟨h1, rfl⟩
 ·exact ⟨i, by simp [F30, unitF_eq, t30, hG], by simp [h1]⟩
 ·exact ⟨-1, by simp [F30, unitF_eq, t30, hG], by simp [h1]⟩
theorem seen_take {l : List Rs} {i : Nat} (hi : i ≤ l.length) (s : ByteArray) : seen (nmO (l.take i)) (l.take i).length s = seen (nmO l) i s := by
 have hl : (l.take i).length = i := by simp; omega
 rw [hl]
 unfold seen
 rw [Bool.eq_iff_iff]
 simp only [List.any_eq_true, List.mem_range'_1]
 constructor
 ·rintro ⟨k, hk, h⟩
  refine ⟨k, hk, ?_⟩
  have e : (nmO (l.take i)).getD k default = (nmO l).getD k default := by
   simp [nmO, List.getD_eq_getElem?_getD, List.getElem?_take, show k < i by omega]
  rw [← e]; exact h
 ·rintro ⟨k, hk, h⟩
  refine ⟨k, hk, ?_⟩
  have e : (nmO (l.take i)).getD k default = (nmO l).getD k default := by
   simp [nmO, List.getD_eq_getElem?_getD, List.getElem?_take, show k < i by omega]
  rw [e]; exact h
theorem G2000 {a : AV} {l : List Rs} (h : RssOk a l) : loopG (calO s20) B2000 KK [a, ia (-1), ia 0] = some (endE (errsR l)) := by
 have hn := h.n
 rw [← errsR_end]
 refine loop0 (fun i => [a, ia (cn l i), ia i]) l.length _ _ (by omega) (fun i hi => ?_) ?_
 ·have hr : nth a.rowsL i = some (Rs.row l[i]) := h.is.rowN hi
  have hw := wS (show i < 2097152 by omega)
  have hg : l.getD i default = l[i] := by simp [hi]
  have hok := h.ok _ (List.getElem_mem hi)
  have f := p49 hok
  have hl : l[i].va.lenN = l[i].xs.length := hok.l.lenM
  obtain ⟨j, f2, f3⟩ := p30 (s_slc3 (Ω := calO s20) h.is (Nat.le_of_lt hi)) (by simp; omega) l[i].nm
  rw [seen_take (Nat.le_of_lt hi)] at f3
  simp only [Rs.row] at f hr
  unfold errR
  simp only [cn, hg]
  rw [← f3]
  have hle : i ≤ l.length := Nat.le_of_lt hi
  generalize ckRes l[i] = e at *
  rcases tf_or (e = 0) with e1 | e1 <;> rcases tf_or (j ≥ 0) with e2 | e2 <;>
   rcases tf_or (l[i].st = w0) with e3 | e3 <;> rcases tf_or (cn l i < 0) with e4 | e4 <;> rcases tf_or ((l[i].xs.length : Int) = cn l i) with e5 | e5 <;>
    simp [B2000, h.is.lenM, hr, hi, hle, hw, f, f2, hl, e1, e2, e3, e4, e5]
 ·simp [B2000, h.is.lenM]
theorem p20 {a : AV} {l : List Rs} (h : RssOk a l) : F20 [a] = some (ia (ckRound l)) := by
 have G := G2000 h
 have lN := h.is.lenM
 unfold ckRound
 rcases tf_or (160 < l.length) with e2 | e2
 ·have e2 := of_eq_true e2
  have e3 : (160 : Int) < l.length := by omega
  simp [F20, unitF_eq, t20, lN, e2, e3]
 ·have e2 := of_eq_false e2
  have e3 : ¬ ((160 : Int) < l.length) := by omega
  cases he : errsR l with
  | none => rw [he] at G; simp [endE] at G; simp [F20, unitF_eq, t20, lN, e2, e3, G]
  | some e => rw [he] at G; simp [endE] at G; simp [F20, unitF_eq, t20, lN, e2, e3, G]
theorem G2301 {a o : AV} {l : List Rs} (h : RssOk a l) (hr : RoundOk l) {i : Nat} (hi : i < l.length) :
  loopG (calO s23) B2301 KK [a, o, ia i, ia 1, ia 0] = some (.tuple [ia 1, a, o, ia i, ia (rkc l l[i] l.length)]) := by
 have hn := h.n
 have hrowi : nth a.rowsL i = some (Rs.row l[i]) := h.is.rowN hi
 refine loopF (fun k => [a, o, ia i, ia (rkc l l[i] k), ia k]) l.length _ (by omega) (fun k hk => ?_) ?_
 ·have hrow : nth a.rowsL k = some (Rs.row l[k]) := h.is.rowN hk
  have hw := wS (show k < 2097152 by omega)
  have hg : l.getD k default = l[k] := by simp [hk]
  have b1 := rkc_le l l[i] k
  have wr : IntKind.i64.wrap (rkc l l[i] k + 1) = rkc l l[i] k + 1 := i64w (by omega) (by omega)
  have f := p50 (h.ok _ (List.getElem_mem hk)) (h.ok _ (List.getElem_mem hi)) (hr.lens hi hk) (ckRes0 (hr.res k hk)).2
  simp only [Rs.row, List.cons_append, List.nil_append] at f hrow hrowi
  simp only [rkc, hg]
  rcases tf_or (cmpR l[k] l[i] < 0) with e1 | e1 <;> simp [B2301, h.is.lenM, hrow, hrowi, hk, hi, hw, wr, f, e1]
 ·simp [B2301, h.is.lenM]
theorem G2300 {a : AV} {l : List Rs} (h : RssOk a l) (hr : RoundOk l) : loopG (omL KK s23 [d2301]) B2300 KK [a, .nils, ia 0] = some (.tuple [ia 1, mkI (rkl l l.length)]) := by
 have hn := h.n
 refine loopF (fun i => [a, mkI (rkl l i), ia i]) l.length _ (by omega) (fun i hi => ?_) ?_
 ·have hw := wS (show i < 2097152 by omega)
  have hg : l.getD i default = l[i] := by simp [hi]
  have G := G2301 (o := mkI (rkl l i)) h hr hi
  have b2 := rkl_len l i
  have c1 : (((rkl l i).length : Nat) : Int) + 1 ≤ 1073741824 := by omega
  simp only [rkl, hg]
  simp [B2300, h.is.lenM, hi, hw, G, mkI_rows, mkI_snoc, mkI_len, c1]
 ·simp [B2300, h.is.lenM]
theorem p23 {a : AV} {l : List Rs} (h : RssOk a l) (hr : RoundOk l) : F23 [a] = some (mkI (rkl l l.length)) := by
 have G := G2300 h hr
 simp [F23, unitF_eq, t23, G, mkI_ok]
def mkS (ns : List ByteArray) : AV := match ns with | [] => .nils | _ => .sl 1 (ns.map strR)
theorem mkS_isL (ns : List ByteArray) : IsL 1 (ns.map strR) (mkS ns) := by
 cases ns with
 | nil => exact .inr ⟨rfl, rfl⟩
 | cons _ _ => exact .inl rfl
theorem mkS_rows (ns : List ByteArray) : (mkS ns).rowsL = ns.map strR := (mkS_isL ns).rows
theorem mkS_snoc (ns : List ByteArray) (s : ByteArray) : AV.sl 1 (ns.map strR ++ [[.str s]]) = mkS (ns ++ [s]) := by
 cases ns with
 | nil => rfl
 | cons a l => simp [mkS, strR]
theorem mkS_len (ns : List ByteArray) : (mkS ns).lenN = ns.length := (mkS_isL ns).lenM
theorem mkS_ok (ns : List ByteArray) : (Sh.sl [.str]).ok (mkS ns) = true := (mkS_isL ns).ok rfl (by simp [strR])
theorem G2400 {Ω : Om} {a b : AV} {ns : List ByteArray} (h : IsL 1 (ns.map strR) a) (h' : IsL 1 (ns.map strR) b) (hn : ns.length < 2097152) :
  loopG Ω B2400 KK [a, b, ia 0] = some (.tuple [ia 2]) := by
 refine loopF (fun i => [a, b, ia i]) ns.length _ hn (fun i hi => ?_) ?_
 ·have hr : nth a.rowsL i = some (strR ns[i]) := h.rowN hi
  have hr' : nth b.rowsL i = some (strR ns[i]) := h'.rowN hi
  have hw := wS (show i < 2097152 by omega)
  simp [B2400, h.lenM, h'.lenM, hr, hr', strR, hi, hw]
 ·simp [B2400, h.lenM]
theorem p24 {a b : AV} {ns : List ByteArray} (h : IsL 1 (ns.map strR) a) (h' : IsL 1 (ns.map strR) b) (hn : ns.length < 2097152) : F24 [a, b] = some (.bool true) := by
 simp [F24, unitF_eq, t24, G2400 h h' hn, h.lenM, h'.lenM]
def okS (l : List Rs) (z : Int) : Bool := decide ((l.getD z.toNat default).st = w0)
def nmZ (l : List Rs) (z : Int) : ByteArray := (l.getD z.toNat default).nm
def nms (l : List Rs) (zs : List Int) : List ByteArray := (zs.filter (okS l)).map (nmZ l)
theorem nms_app (l : List Rs) (xs ys : List Int) : nms l (xs ++ ys) = nms l xs ++ nms l ys := by simp [nms]
theorem nms_len (l : List Rs) (xs : List Int) : (nms l xs).length ≤ xs.length := by
 unfold nms; rw [List.length_map]; exact List.length_filter_le ..
def rkF (l : List Rs) (z : Int) : Int := keyF (rkl l l.length) z
theorem rkF_get {l : List Rs} {i : Nat} (hi : i < l.length) : (rkl l l.length)[i]? = some (rkF l i) := by
 have : i < (rkl l l.length).length := by rw [rkl_len]; exact hi
 simp [rkF, keyF, this]
def rowP (l : List Rs) (p : Int) (j : Nat) : List Int := (iot j).filter fun y => decide (rkF l y = p)
theorem rowP_succ (l : List Rs) (p : Int) (j : Nat) : rowP l p (j + 1) = rowP l p j ++ (if rkF l j = p then [(j : Int)] else []) := by
 unfold rowP
 rw [iot_succ, List.filter_append]
 congr 1
 by_cases h : rkF l j = p <;> simp [h]
theorem rowP_len (l : List Rs) (p : Int) (j : Nat) : (rowP l p j).length ≤ j := by
 unfold rowP; have := List.length_filter_le (fun y => decide (rkF l y = p)) (iot j); rw [iot_len] at this; exact this
theorem G2501 {a : AV} {l : List Rs} (h : RssOk a l) (k : Int) (p : Int) (pre : List ByteArray) (hp : pre.length < 1000000) (hl : l.length < 1000) :
  loopG (calO s25) B2501 KK [a, ia k, mkI (rkl l l.length), mkS pre, ia p, ia 0] = some (.tuple [ia 1, a, ia k, mkI (rkl l l.length), mkS (pre ++ nms l (rowP l p l.length)), ia p]) := by
 have e0 : pre ++ nms l (rowP l p 0) = pre := by simp [rowP, iot, nms]
 suffices hS : loopG (calO s25) B2501 KK [a, ia k, mkI (rkl l l.length), mkS (pre ++ nms l (rowP l p 0)), ia p, ia 0] = some (.tuple [ia 1, a, ia k, mkI (rkl l l.length), mkS (pre ++ nms l (rowP l p l.length)), ia p]) by
  rw [e0] at hS; exact hS
 refine loopF (fun j => [a, ia k, mkI (rkl l l.length), mkS (pre ++ nms l (rowP l p j)), ia p, ia j]) l.length _ (by omega) (fun j hj => ?_) ?_
 ·have hrow : nth a.rowsL j = some (Rs.row l[j]) := h.is.rowN hj
  have hw := wS (show j < 2097152 by omega)
  have hk : nth (mkI (rkl l l.length)).rowsL j = some [ia (rkF l j)] := by
   rw [mkI_rows, nth_eq, List.getElem?_map, rkF_get hj]; rfl
  have lk : (mkI (rkl l l.length)).lenN = l.length := by rw [mkI_len, rkl_len]
  have b1 := rowP_len l p j
  have b2 := nms_len l (rowP l p j)
  have c1 : (((pre ++ nms l (rowP l p j)).length : Nat) : Int) + 1 ≤ 1073741824 := by rw [List.length_append]; omega
  have g : l.getD j default = l[j] := by simp [hj]
  have hnm : nmZ l j = l[j].nm := by simp only [nmZ, Int.toNat_natCast, g]
  have hok : okS l j = decide (l[j].st = w0) := by simp only [okS, Int.toNat_natCast, g]
  rw [rowP_succ, nms_app, ← List.append_assoc]
  simp only [Rs.row] at hrow
  generalize pre ++ nms l (rowP l p j) = cur at *
  rcases tf_or (rkF l j = p) with e1 | e1 <;> rcases tf_or (l[j].st = w0) with e2 | e2
  ·have e3 : nms l (if rkF l j = p then [(j : Int)] else []) = [l[j].nm] := by simp [nms, e1, hok, e2, hnm]
   rw [e3]
   simp [B2501, h.is.lenM, hrow, hj, hw, hk, lk, e1, e2, mkS_rows, mkS_snoc, mkS_len, c1]
  ·have e3 : nms l (if rkF l j = p then [(j : Int)] else []) = [] := by simp [nms, e1, hok, e2]
   rw [e3]
   simp [B2501, h.is.lenM, hrow, hj, hw, hk, lk, e1, e2]
  ·have e3 : nms l (if rkF l j = p then [(j : Int)] else []) = [] := by simp [nms, e1]
   rw [e3]
   simp [B2501, h.is.lenM, hrow, hj, hw, hk, lk, e1, e2]
  ·have e3 : nms l (if rkF l j = p then [(j : Int)] else []) = [] := by simp [nms, e1]
   rw [e3]
   simp [B2501, h.is.lenM, hrow, hj, hw, hk, lk, e1, e2]
 ·simp [B2501, h.is.lenM]
theorem parts_len (l : List Rs) : ∀ p : Nat, (parts (rkF l) (iot l.length) p).length ≤ p * l.length
 | 0 => by simp [parts]
 | p + 1 => by
   have h1 := parts_len l p
   have h2 := rowP_len l (1 + p) l.length
   unfold rowP at h2
   simp only [parts, List.length_append]
   rw [Nat.succ_mul]; omega
theorem G2500 {a : AV} {l : List Rs} (h : RssOk a l) (hl : l.length < 1000) (k : Int) : ∃ m : Nat, (m ≤ l.length ∧ (m : Int) = min (max k 0) l.length) ∧
  loopG (omL KK s25 [d2501]) B2500 KK [a, ia k, mkI (rkl l l.length), .nils, ia 1] = some (.tuple [ia 1, mkS (nms l (parts (rkF l) (iot l.length) m))]) := by
 obtain ⟨m, hm⟩ : ∃ m : Nat, (m : Int) = min (max k 0) l.length := ⟨(min (max k 0) (l.length : Int)).toNat, by omega⟩
 refine ⟨m, ⟨by omega, hm⟩, ?_⟩
 refine loopF (fun p => [a, ia k, mkI (rkl l l.length), mkS (nms l (parts (rkF l) (iot l.length) p)), ia (((p + 1 : Nat) : Int))]) m _ (by omega) (fun p hp => ?_) ?_
 ·have b1 := parts_len l p
  have b2 := nms_len l (parts (rkF l) (iot l.length) p)
  have b3 : p * l.length ≤ 1000 * 1000 := Nat.mul_le_mul (by omega) (by omega)
  have G := G2501 h k ((p + 1 : Nat) : Int) (nms l (parts (rkF l) (iot l.length) p)) (by
   have : p * l.length < 1000 * 1000 := Nat.lt_of_le_of_lt (Nat.mul_le_mul_left p (Nat.le_of_lt hl)) (by omega)
   omega) hl
  have hw := wS (i := p + 1) (by omega)
  have e1 : parts (rkF l) (iot l.length) (p + 1) = parts (rkF l) (iot l.length) p ++ rowP l ((p + 1 : Nat) : Int) l.length := by
   simp only [parts, rowP]
   congr 1
   refine List.filter_congr fun q hq => ?_
   rw [Bool.eq_iff_iff]; simp; omega
  rw [e1, nms_app]
  have c1 : ((p + 1 : Nat) : Int) ≤ k := by omega
  have c2 : ((p + 1 : Nat) : Int) ≤ (l.length : Int) := by omega
  generalize ((p + 1 : Nat) : Int) = P at *
  simp [B2500, h.is.lenM, c1, c2, G, hw]
 ·rcases tf_or (((m + 1 : Nat) : Int) ≤ k) with c1 | c1
  ·have c2 : ¬ (((m + 1 : Nat) : Int) ≤ (l.length : Int)) := by have := of_eq_true c1; omega
   generalize ((m + 1 : Nat) : Int) = P at *
   simp [B2500, h.is.lenM, c1, c2]
  ·generalize ((m + 1 : Nat) : Int) = P at *
   simp [B2500, h.is.lenM, c1]
theorem p25 {a : AV} {l : List Rs} (h : RssOk a l) (hr : RoundOk l) (k : Int) : ∃ m : Nat, (m ≤ l.length ∧ (m : Int) = min (max k 0) l.length) ∧ F25 [a, ia k] = some (mkS (nms l (parts (rkF l) (iot l.length) m))) := by
 obtain ⟨m, h1, G⟩ := G2500 h (by have := hr.n; omega) k
 have f := p23 h hr
 exact ⟨m, h1, by simp [F25, unitF_eq, t25, f, G, mkI_ok, mkS_ok]⟩
theorem cmpL_self : ∀ l : List Int, cmpL l l = 0
 | [] => rfl
 | x :: l => by simp [cmpL, cmpL_self l]
theorem cmpR_self (r : Rs) : cmpR r r = 0 := by
 have h : cmpI (gradeI r.st) (gradeI r.st) = 0 := cmpI_0.2 rfl
 simp [cmpR, h, cmpL_self]
theorem rkc_lt (l : List Rs) {i : Nat} : ∀ k, i < k → rkc l (l.getD i default) k ≤ k
 | 0, h => by omega
 | k + 1, h => by
   simp only [rkc]
   by_cases e : i = k
   ·subst e
    have := (rkc_le l (l.getD i default) i).2
    rw [cmpR_self, if_neg (by omega)]; omega
   ·have := rkc_lt l k (show i < k by omega)
    split <;> omega
theorem rkF_in {l : List Rs} {z : Int} (hz : z ∈ iot l.length) : 1 ≤ rkF l z ∧ rkF l z ≤ l.length := by
 obtain ⟨i, hi, rfl⟩ := List.mem_map.1 hz
 have hi := List.mem_range.1 hi
 have e : rkF l i = rkc l (l.getD i default) l.length := by
  have := rkl_get l l.length i hi
  simpa [rkF, keyF] using this
 rw [e]
 exact ⟨(rkc_le l _ _).1, rkc_lt l _ hi⟩
def upto (l : List Rs) (k : Int) (zs : List Int) : List Int := zs.filter fun y => decide (rkF l y ≤ k)
theorem upto_snoc (l : List Rs) (k : Int) (zs : List Int) (z : Int) : upto l k (zs ++ [z]) = upto l k zs ++ (if rkF l z ≤ k then [z] else []) := by
 unfold upto
 rw [List.filter_append]
 congr 1
 by_cases h : rkF l z ≤ k <;> simp [h]
theorem G1900 {a : AV} {l : List Rs} (h : RssOk a l) (k : Int) (hl : l.length < 1000) {zs : List Int} (hz : ∀ z ∈ zs, InK (rkl l l.length) z) (hzl : zs.length < 1000) :
  loopG (calO s19) B1900 KK [a, ia k, mkI (rkl l l.length), .nils, mkI zs, ia zs.length, ia 0] = some (.tuple [ia 1, mkS (nms l (upto l k zs))]) := by
 suffices hS : loopG (calO s19) B1900 KK [a, ia k, mkI (rkl l l.length), mkS (nms l (upto l k (zs.take 0))), mkI zs, ia zs.length, ia 0] = some (.tuple [ia 1, mkS (nms l (upto l k (zs.take zs.length)))]) by
  rw [List.take_length] at hS; exact hS
 refine loopF (fun i => [a, ia k, mkI (rkl l l.length), mkS (nms l (upto l k (zs.take i))), mkI zs, ia zs.length, ia i]) zs.length _ (by omega) (fun i hi => ?_) ?_
 ·have hw := wS (show i < 2097152 by omega)
  have hzi := hz _ (List.getElem_mem hi)
  have hr1 : nth (mkI zs).rowsL i = some [ia zs[i]] := by
   rw [mkI_rows, nth_eq, List.getElem?_map, List.getElem?_eq_getElem hi]; rfl
  have lz : (mkI zs).lenN = zs.length := mkI_len zs
  have lk : (mkI (rkl l l.length)).lenN = l.length := by rw [mkI_len, rkl_len]
  have hrk := cellK (mkI_isL (rkl l l.length)) hzi
  obtain ⟨z0, z1⟩ := hzi
  rw [rkl_len] at z1
  have hzn : zs[i].toNat < l.length := by omega
  have hrow : nth a.rowsL zs[i].toNat = some (Rs.row l[zs[i].toNat]) := h.is.rowN hzn
  have b2 := nms_len l (upto l k (zs.take i))
  have b3 : (upto l k (zs.take i)).length ≤ i := by
   unfold upto
   have := List.length_filter_le (fun y => decide (rkF l y ≤ k)) (zs.take i)
   rw [List.length_take] at this; omega
  have c1 : (((nms l (upto l k (zs.take i))).length : Nat) : Int) + 1 ≤ 1073741824 := by omega
  have g : l.getD zs[i].toNat default = l[zs[i].toNat] := by simp [hzn]
  have hnm : nmZ l zs[i] = l[zs[i].toNat].nm := by simp only [nmZ, g]
  have hok : okS l zs[i] = decide (l[zs[i].toNat].st = w0) := by simp only [okS, g]
  have ht : zs.take (i + 1) = zs.take i ++ [zs[i]] := by rw [List.take_add_one, List.getElem?_eq_getElem hi]; rfl
  rw [ht, upto_snoc, nms_app]
  simp only [Rs.row] at hrow
  have hrk : nth (mkI (rkl l l.length)).rowsL zs[i].toNat = some [ia (rkF l zs[i])] := hrk
  generalize nms l (upto l k (zs.take i)) = cur at *
  have e3 : nms l (if rkF l zs[i] ≤ k then [zs[i]] else []) = if rkF l zs[i] ≤ k ∧ l[zs[i].toNat].st = w0 then [l[zs[i].toNat].nm] else [] := by
   rcases tf_or (rkF l zs[i] ≤ k) with e1 | e1 <;> rcases tf_or (l[zs[i].toNat].st = w0) with e2 | e2 <;> simp [nms, e1, e2, hok, hnm]
  rw [e3]
  generalize l[zs[i].toNat] = r at *
  generalize rkF l zs[i] = rk at *
  generalize zs[i] = z at *
  rcases tf_or (rk ≤ k) with e1 | e1 <;> rcases tf_or (r.st = w0) with e2 | e2 <;>
   simp [B1900, h.is.lenM, lz, lk, hr1, hrow, hrk, hi, hw, z0, z1, e1, e2, mkS_rows, mkS_snoc, mkS_len, c1]
 ·simp [B1900]
theorem p19 {a : AV} {l : List Rs} (h : RssOk a l) (hc : ckRound l = 0) (hl : l.length < 20) {k : Int} (hk : 0 ≤ k ∧ k ≤ 160) {m : Nat} (hm : (m : Int) = min (max k 0) l.length) :
  F19 [a, ia k] = some (.tuple [mkS (nms l (parts (rkF l) (iot l.length) m)), ia 0]) := by
 have hr := ckRound0 hc
 have f21 := p21 h
 rw [hc] at f21
 have f74 := p74 h hr
 have f78 := p78 (mkI_isL (rkl l l.length)) (by rw [rkl_len]; exact hl)
 rw [rkl_len] at f78
 have hsl := srt_len (keyF (rkl l l.length)) l.length
 have hmem : ∀ z ∈ srt (keyF (rkl l l.length)) l.length, z ∈ iot l.length := fun z hz => (srt_perm _ _).mem_iff.1 hz
 have hz : ∀ z ∈ srt (keyF (rkl l l.length)) l.length, InK (rkl l l.length) z := fun z hz => by
  obtain ⟨i, hi, rfl⟩ := List.mem_map.1 (hmem z hz)
  have := List.mem_range.1 hi
  exact ⟨by omega, by rw [rkl_len]; omega⟩
 have G := G1900 h k (by omega) hz (by omega)
 have hup : upto l k (srt (keyF (rkl l l.length)) l.length) = parts (rkF l) (iot l.length) m := by
  rw [← srt_first (rkF l) l.length m (fun y hy => (rkF_in hy).1)]
  show List.filter _ (srt (rkF l) l.length) = _
  refine List.filter_congr fun q hq => ?_
  have := rkF_in (hmem q hq)
  rw [Bool.eq_iff_iff]; simp; omega
 rw [hup, hsl] at G
 have f77 : F77 [ia k, ia 0, ia 160] = some (ia 0) := by
  rw [p77]; simp [outB, whenI]; omega
 have lL : (mkI (srt (keyF (rkl l l.length)) l.length)).lenN = l.length := by rw [mkI_len, hsl]
 have z0 : firstNz [0, 0] = 0 := rfl
 simp [F19, unitF_eq, t19, f21, f77, fz2, z0, f74, f78, mkI_ok, lL, G, mkS_ok]
theorem p19' {a : AV} {l : List Rs} (h : RssOk a l) {k : Int} (hne : firstNz [ckRound l, whenI (outB k 0 160) 3] ≠ 0) :
  F19 [a, ia k] = some (.tuple [.nils, ia (firstNz [ckRound l, whenI (outB k 0 160) 3])]) := by
 have f21 := p21 h
 have f77 := p77 k 0 160
 have f76 : F76 [.sl 1 [[ia (ckRound l)], [ia (whenI (outB k 0 160) 3)]]] = some (ia (firstNz [ckRound l, whenI (outB k 0 160) 3])) := p76 (ns := [ckRound l, whenI (outB k 0 160) 3]) (.inl rfl) (by simp)
 generalize whenI (outB k 0 160) 3 = b at *
 generalize firstNz [ckRound l, b] = e at *
 simp [F19, unitF_eq, t19, f21, f77, f76, hne]
def cpV (va : AV) : AV := match va.rowsL with | [] => .sl 1 [] | r :: rs => .sl 1 (r :: rs)
def cp (r : Rs) : Rs := ⟨r.nm, r.st, cpV r.va, r.xs⟩
theorem cpV_isL {va : AV} {rows : List (List AV)} (h : IsL 1 rows va) : IsL 1 rows (cpV va) := by
 have hr := h.rows
 unfold cpV
 rw [hr]
 cases rows <;> exact .inl rfl
theorem cp_ok {r : Rs} (h : RsOk r) : RsOk (cp r) := ⟨cpV_isL h.l, h.n, h.z⟩
def mkR (l : List Rs) : AV := match l with | [] => .nils | _ => .sl 3 (l.map Rs.row)
theorem mkR_isL (l : List Rs) : IsL 3 (l.map Rs.row) (mkR l) := by
 cases l with
 | nil => exact .inr ⟨rfl, rfl⟩
 | cons _ _ => exact .inl rfl
theorem mkR_rows (l : List Rs) : (mkR l).rowsL = l.map Rs.row := (mkR_isL l).rows
theorem mkR_snoc (l : List Rs) (r : Rs) : AV.sl 3 (l.map Rs.row ++ [r.row]) = mkR (l ++ [r]) := by
 cases l with
 | nil => rfl
 | cons a l => simp [mkR]
theorem mkR_len (l : List Rs) : (mkR l).lenN = l.length := (mkR_isL l).lenM
theorem cps_ok {a : AV} {l : List Rs} (h : RssOk a l) : RssOk (mkR (l.map cp)) (l.map cp) :=
 ⟨mkR_isL _, by rw [List.length_map]; exact h.n, fun r hr => by
  obtain ⟨q, hq, rfl⟩ := List.mem_map.1 hr
  exact cp_ok (h.ok q hq)⟩
theorem row_ok {r : Rs} (h : RsOk r) : Sh.oks [.str, .str, .sl [.int .i64]] r.row = true := by
 have : (Sh.sl [.int .i64]).ok r.va = true := h.l.ok rfl (by simp [intR])
 simp [Rs.row, this]
theorem mkR_ok {a : AV} {l : List Rs} (h : RssOk a l) : (Sh.sl [.str, .str, .sl [.int .i64]]).ok (mkR l) = true :=
 (mkR_isL l).ok rfl (by
  rw [List.all_eq_true]
  intro x hx
  obtain ⟨r, hr, rfl⟩ := List.mem_map.1 hx
  exact row_ok (h.ok r hr))
theorem G1800 {a : AV} {l : List Rs} (h : RssOk a l) : loopG (calO s18) B1800 KK [.nils, a, ia l.length, ia 0] = some (.tuple [ia 1, mkR (l.map cp)]) := by
 have hn := h.n
 suffices hS : loopG (calO s18) B1800 KK [mkR ((l.take 0).map cp), a, ia l.length, ia 0] = some (.tuple [ia 1, mkR ((l.take l.length).map cp)]) by
  rw [List.take_length] at hS; exact hS
 refine loopF (fun i => [mkR ((l.take i).map cp), a, ia l.length, ia i]) l.length _ (by omega) (fun i hi => ?_) ?_
 ·have hrow : nth a.rowsL i = some (Rs.row l[i]) := h.is.rowN hi
  have hw := wS (show i < 2097152 by omega)
  have hok := h.ok _ (List.getElem_mem hi)
  have ht : l.take (i + 1) = l.take i ++ [l[i]] := by rw [List.take_add_one, List.getElem?_eq_getElem hi]; rfl
  have hv : ∀ Ω, Pr.sem Ω (.app 1) [.sl 1 [], l[i].va] = cpV l[i].va := fun Ω => by
   rw [s_app]; unfold cpV
   cases l[i].va.rowsL <;> rfl
  have hvl : (cpV l[i].va).lenN = l[i].xs.length := (cpV_isL hok.l).lenM
  have hxn := hok.n
  have hlen : (mkR ((l.take i).map cp)).lenN = i := by rw [mkR_len, List.length_map, List.length_take]; omega
  have hrw : (mkR ((l.take i).map cp)).rowsL = ((l.take i).map cp).map Rs.row := mkR_rows _
  have hsn : AV.sl 3 (((l.take i).map cp).map Rs.row ++ [[.str l[i].nm, .str l[i].st, cpV l[i].va]]) = mkR ((l.take i).map cp ++ [cp l[i]]) := mkR_snoc _ (cp l[i])
  have hl2 : (((l.take i).map cp).map Rs.row).length = i := by simp; omega
  have hmp : (l.take i ++ [l[i]]).map cp = (l.take i).map cp ++ [cp l[i]] := by rw [List.map_append]; rfl
  rw [ht, hmp]
  simp only [Rs.row] at hrow
  have hap : ∀ Ω, Pr.sem Ω (.app 3) [mkR ((l.take i).map cp), .sl 3 [[.str l[i].nm, .str l[i].st, cpV l[i].va]]] = mkR ((l.take i).map cp ++ [cp l[i]]) := fun Ω => by
   rw [s_app, rowsL_sl]; simp only [hrw]; exact hsn
  have hl3 : (mkR ((l.take i).map cp ++ [cp l[i]])).lenN = i + 1 := by rw [mkR_len, List.length_append, List.length_map, List.length_take]; simp; omega
  generalize mkR ((l.take i).map cp ++ [cp l[i]]) = nx at *
  generalize mkR ((l.take i).map cp) = cur at *
  have c1 : (l[i].xs.length : Int) ≤ 1073741824 := by omega
  have c3 : (i : Int) + 1 ≤ 1073741824 := by omega
  generalize cpV l[i].va = cv at *
  simp [B1800, h.is.lenM, hrow, hi, hw, hv, hvl, hap, hl3, c1, c3, -s_app]
 ·simp [B1800]
theorem p18 {a : AV} {l : List Rs} (h : RssOk a l) : F18 [a] = some (mkR (l.map cp)) := by
 have G := G1800 h
 have ok := mkR_ok (cps_ok h)
 simp [F18, unitF_eq, t18, h.is.lenM, G, ok]
def eqv (r q : Rs) : Prop := r.nm = q.nm ∧ r.st = q.st ∧ r.xs = q.xs
theorem getD_cp (l : List Rs) (i : Nat) : eqv ((l.map cp).getD i default) (l.getD i default) := by
 by_cases h : i < l.length
 ·have e1 : (l.map cp).getD i default = cp l[i] := by simp [h]
  have e2 : l.getD i default = l[i] := by simp [h]
  rw [e1, e2]; exact ⟨rfl, rfl, rfl⟩
 ·have e1 : (l.map cp).getD i default = default := by simp [h]
  have e2 : l.getD i default = default := by simp [h]
  rw [e1, e2]; exact ⟨rfl, rfl, rfl⟩
theorem ckRes_eqv {r q : Rs} (h : eqv r q) : ckRes r = ckRes q := by unfold ckRes; rw [h.1, h.2.1, h.2.2]
theorem cmpR_eqv {r q r' q' : Rs} (h : eqv r q) (h' : eqv r' q') : cmpR r r' = cmpR q q' := by unfold cmpR; rw [h.2.1, h.2.2, h'.2.1, h'.2.2]
theorem cn_cp (l : List Rs) : ∀ i, cn (l.map cp) i = cn l i
 | 0 => rfl
 | i + 1 => by
   have h := getD_cp l i
   simp only [cn, cn_cp l i]
   rw [h.2.1, h.2.2]
theorem nmO_cp (l : List Rs) : nmO (l.map cp) = nmO l := by simp [nmO, cp]
theorem errR_cp (l : List Rs) (i : Nat) : errR (l.map cp) i = errR l i := by
 have h := getD_cp l i
 unfold errR
 rw [ckRes_eqv h, nmO_cp, cn_cp, h.1, h.2.1, h.2.2]
theorem ckRound_cp (l : List Rs) : ckRound (l.map cp) = ckRound l := by
 unfold ckRound errsR
 simp only [List.length_map, errR_cp]
theorem rkc_cp (l : List Rs) {r q : Rs} (h : eqv r q) : ∀ k, rkc (l.map cp) r k = rkc l q k
 | 0 => rfl
 | k + 1 => by
   simp only [rkc, rkc_cp l h k]
   rw [cmpR_eqv (getD_cp l k) h]
theorem rkl_cp (l : List Rs) : ∀ i, rkl (l.map cp) i = rkl l i
 | 0 => rfl
 | i + 1 => by
   simp only [rkl, rkl_cp l i, List.length_map]
   rw [rkc_cp l (getD_cp l i)]
theorem rkF_cp (l : List Rs) : rkF (l.map cp) = rkF l := by
 funext z; unfold rkF; rw [List.length_map, rkl_cp]
theorem nms_cp (l : List Rs) (zs : List Int) : nms (l.map cp) zs = nms l zs := by
 have h1 : okS (l.map cp) = okS l := by funext z; unfold okS; rw [(getD_cp l z.toNat).2.1]
 have h2 : nmZ (l.map cp) = nmZ l := by funext z; unfold nmZ; rw [(getD_cp l z.toNat).1]
 unfold nms; rw [h1, h2]
theorem p15 {a : AV} {l : List Rs} (h : RssOk a l) : ∃ b : Bool, F15 [a, ia 10] = some (.bool b) ∧ (b = true → l.length ≤ 10 ∨ 160 < l.length) := by
 have hn := h.n
 have lN := h.is.lenM
 have hG := loop0 (Ω := calO s15) (B := B1500) (fun i => [a, ia i]) l.length (fun i => if (l.getD i default).nm.size > 40 ∨ (l.getD i default).st.size > 40 ∨ (l.getD i default).xs.length > 10 then some (.tuple [ia 1]) else none) (.tuple [ia 2]) (by omega) (fun i hi => by
  have hr : nth a.rowsL i = some (Rs.row l[i]) := h.is.rowN hi
  have hw := wS (i := i) (by omega)
  have hg : l.getD i default = l[i] := by simp [hi]
  have hl : l[i].va.lenN = l[i].xs.length := (h.ok _ (List.getElem_mem hi)).l.lenM
  rw [hg]
  simp only [Rs.row] at hr
  generalize l[i] = r at *
  have q1 : ((40 : Int) < r.nm.size) = (40 < r.nm.size) := propext (by omega)
  have q2 : ((40 : Int) < r.st.size) = (40 < r.st.size) := propext (by omega)
  have q3 : ((10 : Int) < r.xs.length) = (10 < r.xs.length) := propext (by omega)
  rcases tf_or (40 < r.nm.size) with e1 | e1 <;> rcases tf_or (40 < r.st.size) with e2 | e2 <;> rcases tf_or (10 < r.xs.length) with e3 | e3 <;>
   simp [B1500, lN, hr, hi, hw, hl, q1, q2, q3, e1, e2, e3]) (by simp [B1500, lN])
 have hend : ∀ o : Option AV, (∀ r, o = some r → r = .tuple [ia 1]) → o.getD (.tuple [ia 2]) = .tuple [ia 1] ∨ o.getD (.tuple [ia 2]) = .tuple [ia 2] := fun o ho => by
  cases o with
  | none => exact .inr rfl
  | some r => exact .inl (by rw [ho r rfl]; rfl)
 have hor := hend (List.findSome? (fun (i : Nat) => if (l.getD i default).nm.size > 40 ∨ (l.getD i default).st.size > 40 ∨ (l.getD i default).xs.length > 10 then some (AV.tuple [ia 1]) else none) (List.range' 0 l.length)) (fun r hr => by
  obtain ⟨i, _, hi⟩ := List.exists_of_findSome?_eq_some hr
  split at hi
  ·injection hi with hi; exact hi.symm
  ·cases hi)
 have hG : loopG (calO s15) B1500 KK [a, ia 0] = some _ := hG
 by_cases e1 : (10 : Int) < l.length <;> by_cases e2 : (l.length : Int) ≤ 160 <;> by_cases e3 : (162 : Int) < l.length <;> rcases hor with e4 | e4 <;> rw [e4] at hG <;> first
  | (refine ⟨false, ?_, (fun h => by cases h)⟩; simp [F15, unitF_eq, t15, lN, hG, e1, e2, e3]; done)
  | (refine ⟨true, ?_, (fun _ => by omega)⟩; simp [F15, unitF_eq, t15, lN, hG, e1, e2, e3]; done)
theorem law3 {a : AV} {l : List Rs} (h : RssOk a l) (k : Int) : F3 [a, ia k] = some (.bool true) := by
 obtain ⟨b, f15, hb⟩ := p15 h
 have f16 : F16 [] = some (.bool true) := rfl
 have f18 := p18 h
 have h' := cps_ok h
 have ok18 := mkR_ok h'
 have f20 := p20 h
 have f21 := p21 h'
 rw [ckRound_cp] at f21
 generalize mkR (l.map cp) = a' at *
 by_cases hc : ckRound l = 0
 ·have hr := ckRound0 hc
  have hc' : ckRound (l.map cp) = 0 := by rw [ckRound_cp]; exact hc
  have f17 := p17 h' hc'
  rw [List.length_map, rkl_cp] at f17
  have f23 := p23 h hr
  have f22 : F22 [mkI (rkl l l.length), mkI (rkl l l.length)] = some (.bool true) := p22 (mkI_isL _) (mkI_isL _) (by rw [rkl_len]; have := hr.n; omega)
  obtain ⟨m, ⟨hm1, hm⟩, f25⟩ := p25 h hr k
  rw [hc] at f20 f21
  have ok17 := mkI_ok (rkl l l.length)
  by_cases hk : 0 ≤ k ∧ k ≤ 160
  ·cases b with
   | false =>
     by_cases hl : l.length < 20
     ·have f19 := p19 h' hc' (by rw [List.length_map]; exact hl) hk (m := m) (by rw [List.length_map]; exact hm)
      rw [rkF_cp, nms_cp] at f19
      simp [F3, unitF_eq, t3, f15, f16]
     ·simp [F3, unitF_eq, t3, f15, f16]
   | true =>
     have hl : l.length < 20 := by have := hb rfl; have := hr.n; omega
     have f19 := p19 h' hc' (by rw [List.length_map]; exact hl) hk (m := m) (by rw [List.length_map]; exact hm)
     rw [rkF_cp, nms_cp, List.length_map] at f19
     have f24 : F24 [mkS (nms l (parts (rkF l) (iot l.length) m)), mkS (nms l (parts (rkF l) (iot l.length) m))] = some (.bool true) := by
      refine p24 (mkS_isL _) (mkS_isL _) ?_
      have b1 := nms_len l (parts (rkF l) (iot l.length) m)
      have b2 := parts_len l m
      have b3 : m * l.length ≤ 20 * 20 := Nat.mul_le_mul (by omega) (by omega)
      omega
     have okS' := mkS_ok (nms l (parts (rkF l) (iot l.length) m))
     have k1 : ¬ k < 0 := by omega
     have k2 : ¬ 160 < k := by omega
     generalize mkS (nms l (parts (rkF l) (iot l.length) m)) = s at *
     generalize mkI (rkl l l.length) = r at *
     simp [F3, unitF_eq, t3, f15, f16, f18, ok18, f17, ok17, f19, okS', f20, f21, f22, f23, f24, f25, k1, k2]
  ·have ho : outB k 0 160 = true := by simp [outB]; omega
   have e3 : firstNz [ckRound (l.map cp), whenI (outB k 0 160) 3] = 3 := by rw [hc', ho]; rfl
   have f19 := p19' h' (k := k) (by rw [e3]; decide)
   rw [e3] at f19
   have kk : k < 0 ∨ 160 < k := by omega
   generalize mkI (rkl l l.length) = r at *
   cases b
   ·simp [F3, unitF_eq, t3, f15, f16]
   ·by_cases k0 : k < 0
    ·simp [F3, unitF_eq, t3, f15, f16, f18, ok18, f17, ok17, f19, f20, f21, f22, f23, k0]
    ·have k2 : 160 < k := by omega
     simp [F3, unitF_eq, t3, f15, f16, f18, ok18, f17, ok17, f19, f20, f21, f22, f23, k0, k2]
 ·have hc' : ckRound (l.map cp) ≠ 0 := by rw [ckRound_cp]; exact hc
  have f17 := p17' h' hc'
  rw [ckRound_cp] at f17
  have e3 : firstNz [ckRound (l.map cp), whenI (outB k 0 160) 3] = ckRound l := by rw [ckRound_cp, fz_cons, if_neg hc]
  have f19 := p19' h' (k := k) (by rw [e3]; exact hc)
  rw [e3] at f19
  cases b
  ·simp [F3, unitF_eq, t3, f15, f16]
  ·generalize ckRound l = e at *
   simp [F3, unitF_eq, t3, f15, f16, f18, ok18, f17, f19, f20, f21, hc]
end Go.Proofs.YtdjngcfnlfgjkaaGreatDoor.C5
