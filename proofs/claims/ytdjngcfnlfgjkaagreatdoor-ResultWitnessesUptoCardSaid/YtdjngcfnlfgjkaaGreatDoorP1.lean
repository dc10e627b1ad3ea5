/-
  Plain lemmas.
-/
import Derived.Test.YtdjngcfnlfgjkaaGreatDoorF1
import Derived.Lib.DecodeN
set_option linter.unusedVariables false
set_option linter.unusedSimpArgs false
set_option linter.unusedSectionVars false
namespace Go.Proofs.YtdjngcfnlfgjkaaGreatDoor.C5
open Go Go.Proofs.YtdjngcfnlfgjkaaGreatDoor.AM
def stepG (Ω : Om) (vs : List AV) : Te LEnd → Option (List AV ⊕ AV)
 | .ok (.again ys) => some (.inl (X.dens Ω vs ys))
 | .ok (.out tag zs) => some (.inr (.tuple (.int .i64 tag :: X.dens Ω vs zs)))
 | .fail _ => none
 | .need p t => if (X.den Ω vs p).bB = true then stepG Ω vs t else none
 | .ite c a b => if (X.den Ω vs c).bB = true then stepG Ω vs a else stepG Ω vs b
theorem stepG_eq (Ω : Om) (vs : List AV) : ∀ (B : Te LEnd), stepG Ω vs B = (match B.sel (X.den Ω vs) with
  | some (.again ys) => some (.inl (ys.map (X.den Ω vs)))
  | some (.out tag zs) => some (.inr (.tuple (.int .i64 tag :: zs.map (X.den Ω vs))))
  | none => none)
 | .ok (.again ys) => by simp only [stepG, Te.sel, X.dens_map]
 | .ok (.out tag zs) => by simp only [stepG, Te.sel, X.dens_map]
 | .fail _ => rfl
 | .need p t => by
   simp only [stepG, Te.sel]
   cases (X.den Ω vs p).bB with
   | true => simpa using stepG_eq Ω vs t
   | false => rfl
 | .ite c a b => by
   simp only [stepG, Te.sel]
   cases (X.den Ω vs c).bB with
   | true => simpa using stepG_eq Ω vs a
   | false => simpa using stepG_eq Ω vs b
theorem loopG_again {Ω : Om} {B : Te LEnd} {vs vs' : List AV} {K : Nat} (h : stepG Ω vs B = some (.inl vs')) : loopG Ω B (K + 1) vs = loopG Ω B K vs' := by
 rw [stepG_eq] at h
 simp only [loopG]
 split at h <;> simp_all
theorem loopG_out {Ω : Om} {B : Te LEnd} {vs : List AV} {r : AV} {K : Nat} (h : stepG Ω vs B = some (.inr r)) : loopG Ω B (K + 1) vs = some r := by
 rw [stepG_eq] at h
 simp only [loopG]
 split at h <;> simp_all
def valT (Ω : Om) (vs : List AV) : Te AV → Option AV
 | .ok a => some (AV.den (X.den Ω vs) id a)
 | .fail _ => none
 | .need p t => if (X.den Ω vs p).bB = true then valT Ω vs t else none
 | .ite c a b => if (X.den Ω vs c).bB = true then valT Ω vs a else valT Ω vs b
theorem unitF_eq (Ω : Om) (vs : List AV) : ∀ (t : Te AV), unitF Ω t vs = valT Ω vs t
 | .ok a => rfl
 | .fail _ => rfl
 | .need p t => by
   have := unitF_eq Ω vs t
   simp only [unitF, valT, Te.sel] at *
   cases (X.den Ω vs p).bB with
   | true => simpa using this
   | false => rfl
 | .ite c a b => by
   have h1 := unitF_eq Ω vs a
   have h2 := unitF_eq Ω vs b
   simp only [unitF, valT, Te.sel] at *
   cases (X.den Ω vs c).bB with
   | true => simpa using h1
   | false => simpa using h2
theorem loop_scan {Ω : Om} {B : Te LEnd} {st : Nat → List AV} {n : Nat} {res : Nat → Option AV} {fin : AV}
  (hs : ∀ i, i < n → stepG Ω (st i) B = some (match res i with | some r => .inr r | none => .inl (st (i + 1))))
  (hf : stepG Ω (st n) B = some (.inr fin)) : ∀ (j i K : Nat), i + j = n → j < K → loopG Ω B K (st i) = some (((List.range' i j).findSome? res).getD fin)
 | 0, i, K, hi, hK => by
   obtain ⟨K, rfl⟩ : ∃ m, K = m + 1 := ⟨K - 1, by omega⟩
   have : i = n := by omega
   subst this
   rw [loopG_out hf]; rfl
 | j + 1, i, K, hi, hK => by
   obtain ⟨K, rfl⟩ : ∃ m, K = m + 1 := ⟨K - 1, by omega⟩
   have h1 := hs i (by omega)
   cases hr : res i with
   | some r =>
     rw [hr] at h1
     rw [loopG_out h1]
     simp [List.range'_succ, hr]
   | none =>
     rw [hr] at h1
     rw [loopG_again h1, loop_scan hs hf j (i + 1) K (by omega) (by omega)]
     simp [List.range'_succ, hr]
theorem range_find {α β : Type} (l : List α) (g : α → Option β) (d : Nat → Option β) (h : ∀ i (hi : i < l.length), d i = g l[i]) : (List.range' 0 l.length).findSome? d = l.findSome? g := by
 have : ∀ (l : List α) (i : Nat), (∀ j (hj : j < l.length), d (i + j) = g l[j]) → (List.range' i l.length).findSome? d = l.findSome? g := by
  intro l
  induction l with
  | nil => intro i _; rfl
  | cons a l ih =>
    intro i h
    have h0 := h 0 (by simp)
    simp at h0
    rw [List.length_cons, List.range'_succ, List.findSome?_cons, List.findSome?_cons, h0, ih (i + 1) (fun j hj => by
     have := h (j + 1) (by simp; omega)
     rw [show i + 1 + j = i + (j + 1) by omega, this]; rfl)]
 exact this l 0 (fun j hj => by rw [Nat.zero_add]; exact h j hj)
def IsL (k : Nat) (rows : List (List AV)) (a : AV) : Prop := a = .sl k rows ∨ (a = .nils ∧ rows = [])
theorem IsL.rows {k : Nat} {rows : List (List AV)} {a : AV} (h : IsL k rows a) : a.rowsL = rows := by
 rcases h with rfl | ⟨rfl, rfl⟩ <;> rfl
theorem IsL.len {k : Nat} {rows : List (List AV)} {a : AV} (h : IsL k rows a) : a.lenN = rows.length := by
 rcases h with rfl | ⟨rfl, rfl⟩ <;> rfl
theorem IsL.ok {k : Nat} {rows : List (List AV)} {a : AV} {cs : List Sh} (h : IsL k rows a) (hk : k = cs.length) (hr : rows.all (Sh.oks cs) = true) : (Sh.sl cs).ok a = true := by
 rcases h with rfl | ⟨rfl, rfl⟩
 ·simp only [Sh.ok, hk, beq_self_eq_true, hr, Bool.and_self]
 ·rfl
theorem i64w {n : Int} (h1 : -9223372036854775808 ≤ n) (h2 : n ≤ 9223372036854775807) : IntKind.i64.wrap n = n := by
 rw [IntKind.wrap_i64]; omega
section
variable (Ω : Om) (a b c : AV)
@[simp] theorem s_add (k : IntKind) : Pr.sem Ω (.bin .add k) [a, b] = .int k (k.wrap (a.nI + b.nI)) := rfl
@[simp] theorem s_sub (k : IntKind) : Pr.sem Ω (.bin .sub k) [a, b] = .int k (k.wrap (a.nI - b.nI)) := rfl
@[simp] theorem s_eql (k : IntKind) : Pr.sem Ω (.bin .eql k) [a, b] = .bool (a.nI == b.nI) := rfl
@[simp] theorem s_neq (k : IntKind) : Pr.sem Ω (.bin .neq k) [a, b] = .bool (a.nI != b.nI) := rfl
@[simp] theorem s_lss (k : IntKind) : Pr.sem Ω (.bin .lss k) [a, b] = .bool (decide (a.nI < b.nI)) := rfl
@[simp] theorem s_leq (k : IntKind) : Pr.sem Ω (.bin .leq k) [a, b] = .bool (decide (a.nI ≤ b.nI)) := rfl
@[simp] theorem s_gtr (k : IntKind) : Pr.sem Ω (.bin .gtr k) [a, b] = .bool (decide (a.nI > b.nI)) := rfl
@[simp] theorem s_geq (k : IntKind) : Pr.sem Ω (.bin .geq k) [a, b] = .bool (decide (a.nI ≥ b.nI)) := rfl
@[simp] theorem s_seql : Pr.sem Ω (.sbin .eql) [a, b] = .bool (a.sS.toList == b.sS.toList) := rfl
@[simp] theorem s_sneq : Pr.sem Ω (.sbin .neq) [a, b] = .bool (!(a.sS.toList == b.sS.toList)) := rfl
@[simp] theorem s_not : Pr.sem Ω .not [a] = .bool (!a.bB) := rfl
@[simp] theorem s_beq : Pr.sem Ω .beq [a, b] = .bool (a.bB == b.bB) := rfl
@[simp] theorem s_ite : Pr.sem Ω .ite [c, a, b] = if c.bB = true then a else b := by
  show (match c.bB with | true => a | false => b) = _
  cases c.bB <;> rfl
@[simp] theorem s_len : Pr.sem Ω .len [a] = .int .i64 a.lenN := rfl
@[simp] theorem s_cell (o : Nat) : Pr.sem Ω (.cell o) [a, b] = getJ (nth (getL (nth a.rowsL b.nI.toNat)) o) := rfl
@[simp] theorem s_proj (i : Nat) : Pr.sem Ω (.proj i) [a] = getJ (nth a.tupL i) := rfl
@[simp] theorem s_fld (i : Nat) : Pr.sem Ω (.fld i) [a] = getJ (nth a.aggL i) := rfl
@[simp] theorem s_call (f n : Nat) (xs : List AV) : Pr.sem Ω (.call f n) xs = Ω f n xs := rfl
@[simp] theorem s_okr (rs : List RS) : Pr.sem Ω (.okr rs) [a] = .bool (RS.okr rs a) := rfl
@[simp] theorem s_keq : Pr.sem Ω .keq [a, b] = .bool (match keyEq a b with | some c => c | none => false) := rfl
@[simp] theorem s_app (k : Nat) : Pr.sem Ω (.app k) [a, b] = (match b.rowsL with | [] => a | r :: rs => .sl k (a.rowsL ++ (r :: rs))) := rfl
end
section
variable (a b c : AV) (xs ys : List AV) (n : Int) (k : IntKind)
@[simp] theorem nI_int : AV.nI (.int k n) = n := rfl
@[simp] theorem bB_bool (b : Bool) : AV.bB (.bool b) = b := rfl
@[simp] theorem sS_str (s : ByteArray) : AV.sS (.str s) = s := rfl
@[simp] theorem tupL_tup : AV.tupL (.tuple xs) = xs := rfl
@[simp] theorem aggL_agg : AV.aggL (.agg xs) = xs := rfl
@[simp] theorem lenN_str (s : ByteArray) : AV.lenN (.str s) = s.size := rfl
@[simp] theorem lenN_sl (j : Nat) (r : List (List AV)) : AV.lenN (.sl j r) = r.length := rfl
@[simp] theorem lenN_nils : AV.lenN .nils = 0 := rfl
@[simp] theorem rowsL_sl (j : Nat) (r : List (List AV)) : AV.rowsL (.sl j r) = r := rfl
@[simp] theorem rowsL_nils : AV.rowsL .nils = [] := rfl
@[simp] theorem getJ_some : getJ (some a) = a := rfl
@[simp] theorem getL_some {α : Type} (l : List α) : getL (some l) = l := rfl
@[simp] theorem nth_nil {α : Type} (n : Nat) : nth ([] : List α) n = none := rfl
@[simp] theorem nth_zero {α : Type} (a : α) (l : List α) : nth (a :: l) 0 = some a := rfl
@[simp] theorem nth_succ {α : Type} (a : α) (l : List α) (n : Nat) : nth (a :: l) (n + 1) = nth l n := rfl
@[simp] theorem nth_lit {α : Type} (a : α) (l : List α) (n : Nat) : nth (a :: l) (OfNat.ofNat (n + 1)) = nth l n := rfl
end
section
variable (Ω : Om) (ρ : List AV)
@[simp] theorem d_v (n : Nat) : X.den Ω ρ (.v n) = getJ (nth ρ n) := rfl
@[simp] theorem d_b (b : Bool) : X.den Ω ρ (.b b) = .bool b := rfl
@[simp] theorem d_i (k : IntKind) (n : Int) : X.den Ω ρ (.i k n) = .int k n := rfl
@[simp] theorem d_s (s : ByteArray) : X.den Ω ρ (.s s) = .str s := rfl
@[simp] theorem d_nils : X.den Ω ρ .nils = .nils := rfl
@[simp] theorem d_sl (k : Nat) (r : List (List X)) : X.den Ω ρ (.sl k r) = .sl k (X.denss Ω ρ r) := rfl
@[simp] theorem d_agg (l : List X) : X.den Ω ρ (.agg l) = .agg (X.dens Ω ρ l) := rfl
@[simp] theorem d_p (o : Pr) (l : List X) : X.den Ω ρ (.p o l) = o.sem Ω (X.dens Ω ρ l) := rfl
@[simp] theorem ds_nil : X.dens Ω ρ [] = [] := rfl
@[simp] theorem ds_cons (e : X) (l : List X) : X.dens Ω ρ (e :: l) = X.den Ω ρ e :: X.dens Ω ρ l := rfl
@[simp] theorem dss_nil : X.denss Ω ρ [] = [] := rfl
@[simp] theorem dss_cons (e : List X) (l : List (List X)) : X.denss Ω ρ (e :: l) = X.dens Ω ρ e :: X.denss Ω ρ l := rfl
variable {α : Type} (V : X → AV)
@[simp] theorem bB_ite (p : Prop) [Decidable p] (a b : AV) : (if p then a else b).bB = if p then a.bB else b.bB := by split <;> rfl
@[simp] theorem nI_ite (p : Prop) [Decidable p] (a b : AV) : (if p then a else b).nI = if p then a.nI else b.nI := by split <;> rfl
attribute [simp] stepG valT
@[simp] theorem int_ite (p : Prop) [Decidable p] (k : IntKind) (a b : Int) : (if p then AV.int k a else AV.int k b) = AV.int k (if p then a else b) := by split <;> rfl
@[simp] theorem bool_ite (p : Prop) [Decidable p] (a b : Bool) : (if p then AV.bool a else AV.bool b) = AV.bool (if p then a else b) := by split <;> rfl
@[simp] theorem beqB (a b : ByteArray) : (a == b) = decide (a = b) := by
  rcases a with ⟨a⟩
  rcases b with ⟨b⟩
  show (a == b) = decide (ByteArray.mk a = ByteArray.mk b)
  rw [Bool.eq_iff_iff]
  simp
@[simp] theorem v_sym_bool (σ : Nat → Nat) (e : X) : AV.den V σ (.sym .bool e) = V e := rfl
@[simp] theorem v_sym_int (σ : Nat → Nat) (k : IntKind) (e : X) : AV.den V σ (.sym (.int k) e) = V e := rfl
@[simp] theorem v_sym_str (σ : Nat → Nat) (e : X) : AV.den V σ (.sym .str e) = V e := rfl
@[simp] theorem v_sym_sl (σ : Nat → Nat) (cs : List Sh) (e : X) : AV.den V σ (.sym (.sl cs) e) = V e := rfl
@[simp] theorem v_sym_im (σ : Nat → Nat) (k : Sh) (ag : Bool) (cs : List Sh) (e : X) : AV.den V σ (.sym (.im k ag cs) e) = V e := rfl
@[simp] theorem v_tuple (σ : Nat → Nat) (l : List AV) : AV.den V σ (.tuple l) = .tuple (AV.dens V σ l) := rfl
@[simp] theorem v_agg (σ : Nat → Nat) (l : List AV) : AV.den V σ (.agg l) = .agg (AV.dens V σ l) := rfl
@[simp] theorem vs_nil (σ : Nat → Nat) : AV.dens V σ [] = [] := rfl
@[simp] theorem vs_cons (σ : Nat → Nat) (a : AV) (l : List AV) : AV.dens V σ (a :: l) = AV.den V σ a :: AV.dens V σ l := rfl
@[simp] theorem om_nil (K : Nat) (cs : List Cal) : omL K cs [] = calO cs := rfl
@[simp] theorem om_cons (K : Nat) (cs : List Cal) (d : LoopD) (ds : List LoopD) (f n : Nat) (vs : List AV) : omL K cs (d :: ds) f n vs = if f = loopId ∧ n = d.L.id then getJ (loopG (omL K cs ds) d.B K vs) else omL K cs ds f n vs := rfl
@[simp] theorem okr_one (s : Sh) (a : AV) : RS.okr [.one s] a = s.ok a := rfl
@[simp] theorem okr_two (r s : RS) (l : List AV) : RS.okr [r, s] (.tuple l) = RS.oks [r, s] l := rfl
@[simp] theorem oks_cons (r : RS) (rs : List RS) (a : AV) (l : List AV) : RS.oks (r :: rs) (a :: l) = (r.ok a && RS.oks rs l) := rfl
@[simp] theorem oks_nil : RS.oks [] [] = true := rfl
@[simp] theorem rok_one (s : Sh) (a : AV) : (RS.one s).ok a = s.ok a := rfl
@[simp] theorem ok_bool (b : Bool) : Sh.bool.ok (.bool b) = true := rfl
@[simp] theorem ok_int (k : IntKind) (n : Int) : (Sh.int k).ok (.int k n) = true := by simp [Sh.ok]
@[simp] theorem ok_str (s : ByteArray) : Sh.str.ok (.str s) = true := rfl
@[simp] theorem soks_nil : Sh.oks [] [] = true := rfl
@[simp] theorem soks_cons (s : Sh) (ss : List Sh) (a : AV) (l : List AV) : Sh.oks (s :: ss) (a :: l) = (s.ok a && Sh.oks ss l) := rfl
@[simp] theorem ok_nils (cs : List Sh) : (Sh.sl cs).ok .nils = true := rfl
@[simp] theorem ok_sl (cs : List Sh) (k : Nat) (r : List (List AV)) : (Sh.sl cs).ok (.sl k r) = (k == cs.length && r.all (Sh.oks cs)) := rfl
end
theorem toList_inj' {a b : ByteArray} : a.toList = b.toList ↔ a = b := by
 constructor
 ·intro h
  simp only [ByteArray.toList_eq] at h
  rcases a with ⟨a⟩; rcases b with ⟨b⟩
  simp only at h
  rw [Array.toList_inj.1 h]
 ·rintro rfl; rfl
attribute [simp] loopId toList_inj'
@[reducible] def ia (n : Int) : AV := .int .i64 n
theorem IsL.row {α : Type} {k i : Nat} {f : α → List AV} {l : List α} {a : AV} (h : IsL k (l.map f) a) (hi : i < l.length) : nth a.rowsL (Int.toNat (i : Int)) = some (f l[i]) := by
 rw [h.rows, nth_eq, Int.toNat_natCast, List.getElem?_map, List.getElem?_eq_getElem hi]; rfl
theorem IsL.lenM {α : Type} {k : Nat} {f : α → List AV} {l : List α} {a : AV} (h : IsL k (l.map f) a) : a.lenN = l.length := by
 rw [h.len, List.length_map]
theorem isL_sl {k : Nat} {r : List (List AV)} : IsL k r (.sl k r) := .inl rfl
theorem isL_nils {k : Nat} : IsL k [] .nils := .inr ⟨rfl, rfl⟩
theorem isL_nils' {α : Type} {f : α → List AV} {k : Nat} : IsL k (([] : List α).map f) .nils := .inr ⟨rfl, rfl⟩
theorem KK_eq : KK = 2097152 := rfl
theorem wS {i : Nat} (h : i < 2097152) : IntKind.i64.wrap ((i : Int) + 1) = ((i + 1 : Nat) : Int) := by
 rw [i64w (by omega) (by omega)]; omega
theorem loop0 {Ω : Om} {B : Te LEnd} (st : Nat → List AV) (n : Nat) (res : Nat → Option AV) (fin : AV) (hn : n < 2097152)
  (hs : ∀ i, i < n → stepG Ω (st i) B = some (match res i with | some r => .inr r | none => .inl (st (i + 1))))
  (hf : stepG Ω (st n) B = some (.inr fin)) : loopG Ω B KK (st 0) = some (((List.range' 0 n).findSome? res).getD fin) :=
 loop_scan hs hf n 0 KK (by omega) (by rw [KK_eq]; omega)
def strR (s : ByteArray) : List AV := [.str s]
theorem loopL {α : Type} {Ω : Om} {B : Te LEnd} (st : Nat → List AV) (l : List α) (g : α → Option AV) (fin : AV) (hn : l.length < 2097152)
  (hs : ∀ i (hi : i < l.length), stepG Ω (st i) B = some (match g l[i] with | some r => .inr r | none => .inl (st (i + 1))))
  (hf : stepG Ω (st l.length) B = some (.inr fin)) : loopG Ω B KK (st 0) = some ((l.findSome? g).getD fin) := by
 rw [loop0 st l.length (fun i => if h : i < l.length then g l[i] else none) fin hn (fun i hi => by rw [hs i hi, dif_pos hi]) hf,
  range_find l g _ (fun i hi => by rw [dif_pos hi])]
theorem loopF {Ω : Om} {B : Te LEnd} (st : Nat → List AV) (n : Nat) (fin : AV) (hn : n < 2097152)
  (hs : ∀ i, i < n → stepG Ω (st i) B = some (.inl (st (i + 1)))) (hf : stepG Ω (st n) B = some (.inr fin)) : loopG Ω B KK (st 0) = some fin := by
 rw [loop0 st n (fun _ => none) fin hn (fun i hi => hs i hi) hf, List.findSome?_eq_none_iff.2 (fun _ _ => rfl)]
 rfl
def outB (v lo hi : Int) : Bool := decide (v < lo) || decide (v > hi)
def whenI (b : Bool) (n : Int) : Int := if b then n else 0
theorem p80 (b : Bool) (n : Int) : F80 [.bool b, ia n] = some (ia (whenI b n)) := by
 cases b <;> simp [F80, unitF_eq, t80, whenI]
def memB (s : ByteArray) (ns : List ByteArray) : Bool := ns.any fun x => decide (s = x)
theorem memB_iff {s : ByteArray} {ns : List ByteArray} : memB s ns = true ↔ s ∈ ns := by simp [memB]
def intR (n : Int) : List AV := [ia n]
def firstNz (l : List Int) : Int := (l.find? fun n => decide (n ≠ 0)).getD 0
theorem G7600 {Ω : Om} {a : AV} {ns : List Int} (h : IsL 1 (ns.map intR) a) (hn : ns.length < 2097152) :
  loopG Ω B7600 KK [a, ia ns.length, ia 0] = some ((ns.findSome? fun n => if n = 0 then none else some (.tuple [ia 1, ia n])).getD (.tuple [ia 2])) := by
 refine loopL (fun i => [a, ia ns.length, ia i]) ns _ _ hn (fun i hi => ?_) ?_
 ·have hr : nth a.rowsL (Int.toNat (i : Int)) = some [ia ns[i]] := h.row hi
  have hw := wS (Nat.lt_trans hi hn)
  by_cases hc : ns[i] = 0 <;> simp_all [B7600, h.lenM]
 ·simp [B7600]
theorem p76 {a : AV} {ns : List Int} (h : IsL 1 (ns.map intR) a) (hn : ns.length < 2097152) : F76 [a] = some (ia (firstNz ns)) := by
 have hG := @G7600 (calO s76) _ _ h hn
 have : (ns.findSome? fun n => if n = 0 then none else some (AV.tuple [ia 1, ia n])) = (ns.find? fun n => decide (n ≠ 0)).map fun n => AV.tuple [ia 1, ia n] := by
  clear h hn hG
  induction ns with
  | nil => rfl
  | cons n ns ih => by_cases hc : n = 0 <;> simp_all
 rw [this] at hG
 unfold firstNz
 cases hf : ns.find? fun n => decide (n ≠ 0) <;> rw [hf] at hG <;> simp_all [F76, unitF_eq, t76, h.lenM]
set_option maxRecDepth 20000
set_option maxHeartbeats 2000000
def letB (b : Nat) : Bool := (decide (97 ≤ b) && decide (b ≤ 122)) || (decide (65 ≤ b) && decide (b ≤ 90))
def goodB (i b : Nat) : Bool := letB b || (decide (i ≠ 0) && (decide (b = 95) || (decide (48 ≤ b) && decide (b ≤ 57))))
theorem goodB_lt {i b : Nat} (h : goodB i b = true) : b < 128 := by
 simp [goodB, letB] at h
 omega
theorem goodB_eq (i b : Nat) : goodB i b = decide (((97 ≤ b ∧ b ≤ 122) ∨ (65 ≤ b ∧ b ≤ 90)) ∨ (i ≠ 0 ∧ (b = 95 ∨ (48 ≤ b ∧ b ≤ 57)))) := by
 simp [goodB, letB, Bool.decide_or, Bool.decide_and]
theorem s_byte (Ω : Om) (s : ByteArray) (i : Nat) (hi : i < s.size) : Pr.sem Ω .byte [.str s, ia i] = .int .u8 (s[i].toNat : Int) := by
 show AV.int .u8 (match (AV.str s).sS[(ia i).nI.toNat]? with | some b => b.toNat | none => 0) = _
 simp [hi]
theorem s_rune (Ω : Om) (s : ByteArray) (i : Nat) : Pr.sem Ω .rune [.str s, ia i] = .int .i32 (Utf8.decode s i).1 := rfl
theorem s_adv (Ω : Om) (s : ByteArray) (i : Nat) : Pr.sem Ω .adv [.str s, ia i] = .int .i64 (i + (Utf8.decode s i).2) := rfl
theorem get_eq {s : ByteArray} {i : Nat} (hi : i < s.size) : s.get! i = s[i] := by
 rcases s with ⟨a⟩
 have hi' : i < a.size := hi
 show a[i]! = a[i]
 rw [getElem!_pos a i hi']
theorem dec_lo {s : ByteArray} {i : Nat} (hi : i < s.size) (h : s[i].toNat < 128) : Utf8.decode s i = (s[i].toNat, 1) := by
 rw [Lib.decode_at, get_eq hi]
 unfold Lib.decodeN
 rw [if_pos h]
theorem decN_hi (n b0 b1 b2 b3 : Nat) (h : ¬ b0 < 128) : 128 ≤ (Lib.decodeN n b0 b1 b2 b3).1 := by
 unfold Lib.decodeN
 rw [if_neg h]
 repeat' split
 all_goals first | (simp only; omega)
theorem dec_hi {s : ByteArray} {i : Nat} (hi : i < s.size) (h : ¬ s[i].toNat < 128) : 128 ≤ (Utf8.decode s i).1 := by
 rw [Lib.decode_at, get_eq hi]
 exact decN_hi _ _ _ _ _ h
def badO (s : ByteArray) (i : Nat) : Option AV := if goodB i (s[i]?.getD 0).toNat then none else some (.tuple [ia 1])
theorem G8900 {Ω : Om} {s : ByteArray} (hs : s.size < 2097152) :
  loopG Ω B8900 KK [.str s, ia 0] = some (((List.range' 0 s.size).findSome? (badO s)).getD (.tuple [ia 2])) := by
 refine loop0 (fun i => [.str s, ia i]) s.size _ _ hs (fun i hi => ?_) ?_
 ·have hw := wS (Nat.lt_trans hi hs)
  have hb : badO s i = if goodB i s[i].toNat then none else some (.tuple [ia 1]) := by simp [badO, hi]
  rw [hb]
  generalize hc : s[i].toNat = b
  have hsb := s_byte Ω s i hi
  rw [hc] at hsb
  have hw0 : IntKind.i64.wrap 1 = 1 := i64w (by omega) (by omega)
  by_cases h1 : (97 : Int) ≤ b <;> by_cases h2 : (b : Int) ≤ 122 <;> by_cases h3 : (65 : Int) ≤ b <;> by_cases h4 : (b : Int) ≤ 90 <;> by_cases h5 : (48 : Int) ≤ b <;> by_cases h6 : (b : Int) ≤ 57 <;> by_cases h7 : (b : Int) = 95 <;> by_cases h8 : i = 0 <;>
   first
    | (exfalso; omega)
    | (have hg : goodB i b = true := by rw [goodB_eq, decide_eq_true_eq]; omega
       simp [B8900, hsb, hi, hw, hg, h1, h2, h3, h4, h5, h6, h7, h8]
       done)
    | (have hg : goodB i b = true := by rw [goodB_eq, decide_eq_true_eq]; omega
       subst h8
       have hsb0 : Pr.sem Ω .byte [.str s, ia 0] = .int .u8 b := hsb
       simp [B8900, hsb0, hi, hw0, hg, h1, h2, h3, h4, h5, h6, h7]
       done)
    | (have hg : goodB i b = false := by rw [goodB_eq, decide_eq_false_iff_not]; omega
       simp [B8900, hsb, hi, hw, hg, h1, h2, h3, h4, h5, h6, h7, h8]
       done)
    | (have hg : goodB i b = false := by rw [goodB_eq, decide_eq_false_iff_not]; omega
       subst h8
       have hsb0 : Pr.sem Ω .byte [.str s, ia 0] = .int .u8 b := hsb
       simp [B8900, hsb0, hi, hw0, hg, h1, h2, h3, h4, h5, h6, h7]
       done)
 ·simp [B8900]
theorem G8800 {Ω : Om} {s v : ByteArray} (hs : s.size < 2097152) :
  loopG Ω B8800 KK [.str v, .str s, ia 0] = some (((List.range' 0 s.size).findSome? (badO s)).getD (.tuple [ia 2, .str v])) := by
 refine loop0 (fun i => [.str v, .str s, ia i]) s.size _ _ hs (fun i hi => ?_) ?_
 ·have hb : badO s i = if goodB i s[i].toNat then none else some (.tuple [ia 1]) := by simp [badO, hi]
  rw [hb]
  obtain ⟨r, k, hrk⟩ : ∃ r k, Utf8.decode s i = (r, k) := ⟨_, _, rfl⟩
  have hsr : Pr.sem Ω .rune [.str s, ia i] = .int .i32 (r : Int) := by rw [s_rune, hrk]
  have hsa : Pr.sem Ω .adv [.str s, ia i] = .int .i64 ((i : Int) + k) := by rw [s_adv, hrk]
  have hm : goodB i s[i].toNat = goodB i r := by
   by_cases hl : s[i].toNat < 128
   ·have := dec_lo hi hl
    rw [hrk] at this
    injection this with h1 h2
    rw [h1]
   ·have h1 := dec_hi hi hl
    rw [hrk] at h1
    have h2 : goodB i s[i].toNat = false := by
     cases h : goodB i s[i].toNat with
     | false => rfl
     | true => exact absurd (goodB_lt h) hl
    have h3 : goodB i r = false := by
     cases h : goodB i r with
     | false => rfl
     | true => have := goodB_lt h; simp only at h1; omega
    rw [h2, h3]
  have hk : goodB i r = true → k = 1 := by
   intro h
   rw [← hm] at h
   have := dec_lo hi (goodB_lt h)
   rw [hrk] at this
   injection this
  have hw0 : IntKind.i64.wrap 1 = 1 := i64w (by omega) (by omega)
  by_cases h1 : (97 : Int) ≤ r <;> by_cases h2 : (r : Int) ≤ 122 <;> by_cases h3 : (65 : Int) ≤ r <;> by_cases h4 : (r : Int) ≤ 90 <;> by_cases h5 : (r : Int) < 48 <;> by_cases h6 : (57 : Int) < r <;> by_cases h7 : (r : Int) = 95 <;> by_cases h8 : i = 0 <;>
   first
    | (exfalso; omega)
    | (have hg : goodB i r = true := by rw [goodB_eq, decide_eq_true_eq]; omega
       have hk1 := hk hg
       subst hk1
       rw [show ((1 : Nat) : Int) = 1 from rfl] at hsa
       simp [B8800, hsr, hsa, hi, hg, hm, h1, h2, h3, h4, h5, h6, h7, h8]
       done)
    | (have hg : goodB i r = true := by rw [goodB_eq, decide_eq_true_eq]; omega
       have hk1 := hk hg
       subst hk1
       subst h8
       have hsr0 : Pr.sem Ω .rune [.str s, ia 0] = .int .i32 r := hsr
       have hsa0 : Pr.sem Ω .adv [.str s, ia 0] = .int .i64 1 := hsa
       simp [B8800, hsr0, hsa0, hi, hg, hm, h1, h2, h3, h4, h5, h6, h7]
       done)
    | (have hg : goodB i r = false := by rw [goodB_eq, decide_eq_false_iff_not]; omega
       simp [B8800, hsr, hi, hg, hm, h1, h2, h3, h4, h5, h6, h7, h8]
       done)
    | (have hg : goodB i r = false := by rw [goodB_eq, decide_eq_false_iff_not]; omega
       subst h8
       have hsr0 : Pr.sem Ω .rune [.str s, ia 0] = .int .i32 r := hsr
       simp [B8800, hsr0, hi, hg, hm, h1, h2, h3, h4, h5, h6, h7]
       done)
 ·simp [B8800]
theorem size0 {s : ByteArray} : s = w0 ↔ s.size = 0 := by
 constructor
 ·rintro rfl; rfl
 ·intro h
  rcases s with ⟨a⟩
  have : a.size = 0 := h
  rw [w0, Array.size_eq_zero_iff.1 this]
def isName (s : ByteArray) : Bool := decide (1 ≤ s.size) && (decide (s.size ≤ 24) && ((List.range' 0 s.size).findSome? (badO s)).isNone)
theorem bad_cases (s : ByteArray) : ((List.range' 0 s.size).findSome? (badO s) = none) ∨ ((List.range' 0 s.size).findSome? (badO s) = some (.tuple [ia 1])) := by
 cases h : (List.range' 0 s.size).findSome? (badO s) with
 | none => exact .inl rfl
 | some r =>
   right
   obtain ⟨i, _, hr⟩ := List.exists_of_findSome?_eq_some h
   unfold badO at hr
   split at hr
   ·cases hr
   ·injection hr with hr; rw [← hr]
theorem p89 {s : ByteArray} (hs : s.size < 2097152) : F89 [.str s] = some (.bool (isName s)) := by
 have hG := @G8900 (calO s89) s hs
 by_cases h1 : (s.size : Int) < 1 <;> by_cases h2 : (24 : Int) < s.size <;> rcases bad_cases s with h | h <;> rw [h] at hG <;>
  first
   | (exfalso; omega)
   | (have h3 : 1 ≤ s.size := by omega
      have h4 : s.size ≤ 24 := by omega
      simp [F89, unitF_eq, t89, h1, h2, hG, isName, h, h3, h4]
      done)
   | (have h3 : ¬ 1 ≤ s.size := by omega
      simp [F89, unitF_eq, t89, h1, h2, isName, h3]
      done)
   | (have h3 : ¬ s.size ≤ 24 := by omega
      simp [F89, unitF_eq, t89, h1, h2, isName, h3]
      done)
theorem p88 {s : ByteArray} (hs : s.size < 2097152) : F88 [.str s] = some (.bool (isName s)) := by
 have hG := @G8800 (calO s88) s s hs
 by_cases h1 : s.size = 0 <;> by_cases h2 : (s.size : Int) ≤ 24 <;> rcases bad_cases s with h | h <;> rw [h] at hG <;>
  first
   | (exfalso; omega)
   | (have h3 : 1 ≤ s.size := by omega
      have h4 : s.size ≤ 24 := by omega
      simp [F88, unitF_eq, t88, h1, h2, hG, isName, h, h3, h4, size0]
      done)
   | (have h3 : ¬ 1 ≤ s.size := by omega
      simp [F88, unitF_eq, t88, h1, h2, hG, isName, h3, size0]
      done)
   | (have h3 : ¬ s.size ≤ 24 := by omega
      simp [F88, unitF_eq, t88, h1, h2, hG, isName, h3, size0]
      done)
set_option maxHeartbeats 4000000
@[simp] theorem s_isNil (Ω : Om) (a : AV) : Pr.sem Ω .isNil [a] = .bool a.nilB := rfl
theorem tf_or (p : Prop) [Decidable p] : p = True ∨ p = False := by
 by_cases h : p
 ·exact .inl (eq_true h)
 ·exact .inr (eq_false h)
theorem fz_cons (a : Int) (l : List Int) : firstNz (a :: l) = if a = 0 then firstNz l else a := by
 by_cases h : a = 0 <;> simp [firstNz, h]
theorem fz_nil : firstNz [] = 0 := rfl
theorem IsL.rowN {α : Type} {k i : Nat} {f : α → List AV} {l : List α} {a : AV} (h : IsL k (l.map f) a) (hi : i < l.length) : nth a.rowsL i = some (f l[i]) := by
 have := h.row hi
 rwa [Int.toNat_natCast] at this
structure Op where
 nm : ByteArray
 lo : Int
 hi : Int
 deriving Inhabited
def Op.row (o : Op) : List AV := [.str o.nm, ia o.lo, ia o.hi]
def cnt (f : Op → Int) (l : List Op) (c v : Int) : Nat → Int
 | 0 => 0
 | i + 1 => cnt f l c v i + (if (i : Int) ≠ c ∧ f (l.getD i default) > v then 1 else 0)
theorem cnt_le (f : Op → Int) (l : List Op) (c v : Int) : ∀ i : Nat, 0 ≤ cnt f l c v i ∧ cnt f l c v i ≤ i
 | 0 => by simp [cnt]
 | i + 1 => by
   have := cnt_le f l c v i
   simp only [cnt]
   split <;> omega
structure OpsOk (a : AV) (l : List Op) : Prop where
 is : IsL 3 (l.map Op.row) a
 n : l.length < 1048577
 sz : ∀ o ∈ l, o.nm.size < 2097152
theorem G10600 {Ω : Om} {a : AV} {l : List Op} (h : OpsOk a l) (c v : Int) :
  loopG Ω B10600 KK [ia c, ia v, ia 0, ia 0, a, ia l.length, ia 0] = some (.tuple [ia 1, ia (cnt Op.lo l c v l.length), ia (cnt Op.hi l c v l.length)]) := by
 have hn := h.n
 refine loopF (fun i => [ia c, ia v, ia (cnt Op.lo l c v i), ia (cnt Op.hi l c v i), a, ia l.length, ia i]) l.length _ (by omega) (fun i hi => ?_) ?_
 ·have hr : nth a.rowsL i = some (Op.row l[i]) := h.is.rowN hi
  have hw := wS (show i < 2097152 by omega)
  have hg : l.getD i default = l[i] := by simp [hi]
  have b1 := cnt_le Op.lo l c v i
  have b2 := cnt_le Op.hi l c v i
  have w1 : IntKind.i64.wrap (cnt Op.lo l c v i + 1) = cnt Op.lo l c v i + 1 := i64w (by omega) (by omega)
  have w2 : IntKind.i64.wrap (cnt Op.hi l c v i + 1) = cnt Op.hi l c v i + 1 := i64w (by omega) (by omega)
  simp only [cnt, hg]
  rcases tf_or ((i : Int) = c) with e1 | e1 <;> rcases tf_or (v < l[i].lo) with e2 | e2 <;> rcases tf_or (v < l[i].hi) with e3 | e3 <;>
   simp [B10600, h.is.lenM, hr, Op.row, hi, hw, w1, w2, e1, e2, e3]
 ·simp [B10600]
theorem p106 {a : AV} {l : List Op} (h : OpsOk a l) (c v : Int) : F106 [a, ia c, ia v] = some (.tuple [ia (cnt Op.lo l c v l.length), ia (cnt Op.hi l c v l.length)]) := by
 simp [F106, unitF_eq, t106, G10600 h, h.is.lenM]
theorem G10700 {Ω : Om} {a : AV} {l : List Op} (h : OpsOk a l) (c v : Int) :
  loopG Ω B10700 KK [a, ia c, ia v, ia 0, ia 0] = some (.tuple [ia 1, ia (cnt Op.lo l c v l.length)]) := by
 have hn := h.n
 refine loopF (fun i => [a, ia c, ia v, ia (cnt Op.lo l c v i), ia i]) l.length _ (by omega) (fun i hi => ?_) ?_
 ·have hr : nth a.rowsL i = some (Op.row l[i]) := h.is.rowN hi
  have hw := wS (show i < 2097152 by omega)
  have hg : l.getD i default = l[i] := by simp [hi]
  have b1 := cnt_le Op.lo l c v i
  have w1 : IntKind.i64.wrap (cnt Op.lo l c v i + 1) = cnt Op.lo l c v i + 1 := i64w (by omega) (by omega)
  simp only [cnt, hg]
  rcases tf_or ((i : Int) = c) with e1 | e1 <;> rcases tf_or (v < l[i].lo) with e2 | e2 <;>
   simp [B10700, h.is.lenM, hr, Op.row, hi, hw, w1, e1, e2]
 ·simp [B10700, h.is.lenM]
theorem p107 {a : AV} {l : List Op} (h : OpsOk a l) (c v : Int) : F107 [a, ia c, ia v] = some (ia (cnt Op.lo l c v l.length)) := by
 simp [F107, unitF_eq, t107, G10700 h, h.is.lenM]
theorem G10800 {Ω : Om} {a : AV} {l : List Op} (h : OpsOk a l) (c v : Int) :
  loopG Ω B10800 KK [a, ia c, ia v, ia 0, ia 0] = some (.tuple [ia 1, ia (cnt Op.hi l c v l.length)]) := by
 have hn := h.n
 refine loopF (fun i => [a, ia c, ia v, ia (cnt Op.hi l c v i), ia i]) l.length _ (by omega) (fun i hi => ?_) ?_
 ·have hr : nth a.rowsL i = some (Op.row l[i]) := h.is.rowN hi
  have hw := wS (show i < 2097152 by omega)
  have hg : l.getD i default = l[i] := by simp [hi]
  have b1 := cnt_le Op.hi l c v i
  have w1 : IntKind.i64.wrap (cnt Op.hi l c v i + 1) = cnt Op.hi l c v i + 1 := i64w (by omega) (by omega)
  simp only [cnt, hg]
  rcases tf_or ((i : Int) = c) with e1 | e1 <;> rcases tf_or (v < l[i].hi) with e2 | e2 <;>
   simp [B10800, h.is.lenM, hr, Op.row, hi, hw, w1, e1, e2]
 ·simp [B10800, h.is.lenM]
theorem p108 {a : AV} {l : List Op} (h : OpsOk a l) (c v : Int) : F108 [a, ia c, ia v] = some (ia (cnt Op.hi l c v l.length)) := by
 simp [F108, unitF_eq, t108, G10800 h, h.is.lenM]
theorem p77 (n lo hi : Int) : F77 [ia n, ia lo, ia hi] = some (ia (whenI (outB n lo hi) 3)) := by
 rcases tf_or (n < lo) with e1 | e1 <;> rcases tf_or (hi < n) with e2 | e2 <;> simp [F77, unitF_eq, t77, p80, outB, e1, e2]
@[simp] theorem nilB_sl (k : Nat) (r : List (List AV)) : AV.nilB (.sl k r) = false := rfl
@[simp] theorem s_whole (Ω : Om) (k k' : Nat) (r r' : List (List AV)) : Pr.sem Ω .whole [.sl k r, .sl k' r'] = if r.length = r'.length then .sl k' r' else .sl k r := rfl
theorem ints_map : ∀ zs : List Int, intsOf (zs.map intR) = some zs
 | [] => rfl
 | z :: zs => by simp only [List.map_cons, intR, intsOf, ints_map zs]
theorem ok_ints (zs : List Int) : (Sh.sl [.int .i64]).ok (.sl 1 (zs.map intR)) = true := by
 simp [intR]
theorem p142 {zs : List Int} (h : zs.length < 1099511627776) : F142 [.sl 1 (zs.map intR)] = some (.sl 1 ((isort zs).map intR)) := by
 simp only [F142, ipFn, ints_map, ipSort, if_pos h]; rfl
theorem p143 {zs : List Int} (h : zs.length < 1099511627776) : F143 [.sl 1 (zs.map intR)] = some (.sl 1 ((uniqs zs).map intR)) := by
 simp only [F143, ipFn, ints_map, ipComp, if_pos h]; rfl
def pk (own : Op) (l : List Op) : Nat → List Int
 | 0 => [own.lo]
 | i + 1 => (pk own l i ++ (if own.lo < (l.getD i default).lo ∧ (l.getD i default).lo ≤ own.hi then [(l.getD i default).lo] else [])) ++ (if own.lo < (l.getD i default).hi ∧ (l.getD i default).hi ≤ own.hi then [(l.getD i default).hi] else [])
theorem pk_len (own : Op) (l : List Op) : ∀ i, (pk own l i).length ≤ 1 + 2 * i
 | 0 => by simp [pk]
 | i + 1 => by
   have := pk_len own l i
   simp only [pk, List.length_append]
   split <;> split <;> simp <;> omega
theorem G11100 {Ω : Om} {a : AV} {l : List Op} (h : OpsOk a l) (own : Op) :
  loopG Ω B11100 KK [.sl 1 [[ia own.lo]], a, ia l.length, ia 0, .str own.nm, ia own.lo, ia own.hi] = some (.tuple [ia 1, .sl 1 ((pk own l l.length).map intR)]) := by
 have hn := h.n
 refine loopF (fun i => [.sl 1 ((pk own l i).map intR), a, ia l.length, ia i, .str own.nm, ia own.lo, ia own.hi]) l.length _ (by omega) (fun i hi => ?_) ?_
 ·have hr : nth a.rowsL i = some (Op.row l[i]) := h.is.rowN hi
  have hw := wS (show i < 2097152 by omega)
  have hg : l.getD i default = l[i] := by simp [hi]
  have b1 := pk_len own l i
  have c1 : ((pk own l i).length : Int) + 1 ≤ 1073741824 := by omega
  have c2 : ((pk own l i).length : Int) + 2 ≤ 1073741824 := by omega
  have c3 : ((pk own l i).length : Int) + 1 + 1 ≤ 1073741824 := by omega
  simp only [pk, hg]
  rcases tf_or (own.lo < l[i].lo) with e1 | e1 <;> rcases tf_or (l[i].lo ≤ own.hi) with e2 | e2 <;> rcases tf_or (own.lo < l[i].hi) with e3 | e3 <;> rcases tf_or (l[i].hi ≤ own.hi) with e4 | e4 <;>
   simp [B11100, h.is.lenM, hr, Op.row, hi, hw, e1, e2, e3, e4, intR, c1, c2, c3]
 ·simp [B11100]
def zs (own : Op) (l : List Op) : List Int := uniqs (isort (pk own l l.length))
theorem p111 {a : AV} {l : List Op} (h : OpsOk a l) {c : Nat} (hc : c < l.length) : F111 [a, ia c] = some (.sl 1 ((zs l[c] l).map intR)) := by
 have hr : nth a.rowsL c = some (Op.row l[c]) := h.is.rowN hc
 have hn := h.n
 have b1 := pk_len l[c] l l.length
 have q1 := p142 (zs := pk l[c] l l.length) (by omega)
 have q2 := p143 (zs := isort (pk l[c] l l.length)) (by rw [isort_length]; omega)
 have k1 := ok_ints (isort (pk l[c] l l.length))
 have k2 := ok_ints (uniqs (isort (pk l[c] l l.length)))
 have G := @G11100 (calO s111) _ _ h l[c]
 simp only [Op.row] at hr
 simp [F111, unitF_eq, t111, h.is.lenM, hr, hc, G, q1, q2, isort_length, zs, intR]
theorem zs_len {own : Op} {l : List Op} : (zs own l).length ≤ 1 + 2 * l.length := by
 have h1 : ∀ (l : List Int) (y : Int), (uniq y l).length ≤ l.length := by
  intro l
  induction l with
  | nil => intro y; exact Nat.le_refl _
  | cons z l ih =>
    intro y
    have := ih z
    simp only [uniq]
    split <;> simp <;> omega
 have h2 : ∀ l : List Int, (uniqs l).length ≤ l.length := by
  intro l
  cases l with
  | nil => exact Nat.le_refl _
  | cons z l => have := h1 l z; simp [uniqs]; omega
 have := h2 (isort (pk own l l.length))
 rw [isort_length] at this
 exact Nat.le_trans this (pk_len own l l.length)
def okV (l : List Op) (c r v : Int) : Bool := decide (cnt Op.lo l c v l.length < r) && decide (r ≤ cnt Op.hi l c v l.length + 1)
theorem G8700 {a b : AV} {l : List Op} (h : OpsOk a l) {c r : Int} {ns : List Int} (hb : IsL 1 (ns.map intR) b) (hns : ns.length < 2097152) :
  loopG (calO s87) B8700 KK [a, ia c, ia r, b, ia ns.length, ia 0] = some ((ns.findSome? fun v => if okV l c r v then some (.tuple [ia 1, ia v]) else none).getD (.tuple [ia 2])) := by
 refine loopL (fun i => [a, ia c, ia r, b, ia ns.length, ia i]) ns _ _ hns (fun i hi => ?_) ?_
 ·have hr : nth b.rowsL i = some (intR ns[i]) := hb.rowN hi
  have hw := wS (show i < 2097152 by omega)
  have hn := h.n
  have b1 := cnt_le Op.lo l c ns[i] l.length
  have b2 := cnt_le Op.hi l c ns[i] l.length
  have w2 : IntKind.i64.wrap (cnt Op.hi l c ns[i] l.length + 1) = cnt Op.hi l c ns[i] l.length + 1 := i64w (by omega) (by omega)
  rcases tf_or (cnt Op.lo l c ns[i] l.length < r) with e1 | e1 <;> rcases tf_or (r ≤ cnt Op.hi l c ns[i] l.length + 1) with e2 | e2 <;>
   simp [B8700, hb.lenM, hr, intR, hi, hw, p106 h, w2, e1, e2, okV]
 ·simp [B8700]
theorem any_some (p : Int → Bool) (ns : List Int) : (∃ v, (ns.findSome? fun v => if p v then some (AV.tuple [ia 1, ia v]) else none) = some (.tuple [ia 1, ia v]) ∧ ns.any p = true) ∨
  ((ns.findSome? fun v => if p v then some (AV.tuple [ia 1, ia v]) else none) = none ∧ ns.any p = false) := by
 induction ns with
 | nil => exact .inr ⟨rfl, rfl⟩
 | cons n ns ih =>
   simp only [List.findSome?_cons, List.any_cons]
   cases hp : p n
   ·simpa using ih
   ·exact .inl ⟨n, by simp, rfl⟩
theorem p87 {a : AV} {l : List Op} (h : OpsOk a l) (hl : l.length ≤ 160) {c : Nat} (hc : c < l.length) (r : Int) : ∃ u, F87 [a, ia c, ia r] = some (.tuple [ia u, .bool ((zs l[c] l).any (okV l c r))]) := by
 have hn := h.n
 have hz := @zs_len l[c] l
 have f := p111 h hc
 have G := G8700 (c := (c : Int)) (r := r) h (b := .sl 1 ((zs l[c] l).map intR)) (ns := zs l[c] l) (.inl rfl) (by omega)
 have k := ok_ints (zs l[c] l)
 rcases any_some (okV l c r) (zs l[c] l) with ⟨v, h1, h2⟩ | ⟨h1, h2⟩
 ·rw [h1] at G
  refine ⟨v, ?_⟩
  simp at G k
  simp [F87, unitF_eq, t87, f, G, h2]
  exact k
 ·rw [h1] at G
  refine ⟨0, ?_⟩
  simp at G k
  simp [F87, unitF_eq, t87, f, G, h2]
  exact k
def wid (own : Op) : Nat := (own.hi - own.lo + 1).toNat
def posB (l : List Op) (own : Op) (c r : Int) : Bool := (List.range' 0 (wid own)).any fun i => okV l c r (own.lo + i)
theorem find_any {α : Type} (d : α → Bool) (t : AV) (s : List α) : (s.findSome? fun i => if d i then some t else none) = if s.any d then some t else none := by
 induction s with
 | nil => rfl
 | cons i s ih =>
   simp only [List.findSome?_cons, List.any_cons]
   rcases Bool.eq_false_or_eq_true (d i) with hd | hd
   ·simp [hd]
   ·simpa [hd] using ih
structure InR (own : Op) : Prop where
 lo : 0 ≤ own.lo
 le : own.lo ≤ own.hi
 hi : own.hi ≤ 99999
theorem G5700 {a : AV} {l : List Op} (h : OpsOk a l) (hl : l.length ≤ 160) {c : Nat} (hc : c < l.length) (hi : InR l[c]) {r : Int} (r1 : 1 ≤ r) (r2 : r ≤ 200) :
  loopG (calO s57) B5700 KK [a, ia c, ia r, ia l[c].lo] = some (if posB l l[c] c r then .tuple [ia 1] else .tuple [ia 2]) := by
 obtain ⟨i1, i2, i3⟩ := hi
 have hw0 : (wid l[c] : Int) = l[c].hi - l[c].lo + 1 := by unfold wid; omega
 have hr : nth a.rowsL c = some (Op.row l[c]) := h.is.rowN hc
 have wr : IntKind.i64.wrap (r - 1) = r - 1 := i64w (by omega) (by omega)
 have := loop0 (Ω := calO s57) (B := B5700) (fun i => [a, ia c, ia r, ia (l[c].lo + i)]) (wid l[c]) (fun i => if okV l c r (l[c].lo + i) then some (.tuple [ia 1]) else none) (.tuple [ia 2]) (by omega) (fun i hi => by
  have b1 := cnt_le Op.lo l c (l[c].lo + i) l.length
  have b2 := cnt_le Op.hi l c (l[c].lo + i) l.length
  have w2 : IntKind.i64.wrap (l[c].lo + i + 1) = l[c].lo + (i + 1) := by rw [i64w (by omega) (by omega)]; omega
  have hle : l[c].lo + i ≤ l[c].hi := by omega
  have z1 : (r ≤ cnt Op.hi l c (l[c].lo + i) l.length + 1) = (r - 1 ≤ cnt Op.hi l c (l[c].lo + i) l.length) := by rw [eq_iff_iff]; omega
  simp only [okV, z1]
  rcases tf_or (cnt Op.lo l c (l[c].lo + i) l.length < r) with e1 | e1 <;> rcases tf_or (r - 1 ≤ cnt Op.hi l c (l[c].lo + i) l.length) with e2 | e2 <;>
   simp [B5700, h.is.lenM, hr, Op.row, hc, hle, p107 h, p108 h, wr, w2, e1, e2]) (by
  have hle : ¬ (l[c].lo + (wid l[c] : Int) ≤ l[c].hi) := by omega
  simp [B5700, h.is.lenM, hr, Op.row, hc, hle])
 rw [find_any] at this
 simp only [Int.natCast_zero, Int.add_zero, show ((0 : Nat) : Int) = 0 from rfl] at this
 refine Eq.trans this ?_
 unfold posB
 split <;> rfl
theorem p57 {a : AV} {l : List Op} (h : OpsOk a l) (hl : l.length ≤ 160) {c : Nat} (hc : c < l.length) (hi : InR l[c]) {r : Int} (r1 : 1 ≤ r) (r2 : r ≤ 200) :
  F57 [a, ia c, ia r] = some (.bool (posB l l[c] c r)) := by
 have G := G5700 h hl hc hi r1 r2
 have hr : nth a.rowsL c = some (Op.row l[c]) := h.is.rowN hc
 simp only [Op.row] at hr
 cases hp : posB l l[c] c r <;> rw [hp] at G <;> simp at G <;> simp [F57, unitF_eq, t57, h.is.lenM, hr, hc, G]
theorem mem_pk {own : Op} {l : List Op} {x : Int} : ∀ {n : Nat}, x ∈ pk own l n ↔ x = own.lo ∨ ∃ i, i < n ∧ (x = (l.getD i default).lo ∨ x = (l.getD i default).hi) ∧ own.lo < x ∧ x ≤ own.hi
 | 0 => by simp [pk]
 | n + 1 => by
   have ih := mem_pk (own := own) (l := l) (x := x) (n := n)
   simp only [pk, List.mem_append, ih]
   constructor
   ·rintro (((h | ⟨i, h1, h2⟩) | h) | h)
    ·exact .inl h
    ·exact .inr ⟨i, by omega, h2⟩
    ·split at h
     ·rename_i hc; simp at h; subst h; exact .inr ⟨n, by omega, .inl rfl, hc⟩
     ·cases h
    ·split at h
     ·rename_i hc; simp at h; subst h; exact .inr ⟨n, by omega, .inr rfl, hc⟩
     ·cases h
   ·rintro (h | ⟨i, h1, h2, h3⟩)
    ·exact .inl (.inl (.inl h))
    ·by_cases hi : i < n
     ·exact .inl (.inl (.inr ⟨i, hi, h2, h3⟩))
     ·obtain rfl : i = n := by omega
      rcases h2 with h2 | h2
      ·rw [h2] at h3; exact .inl (.inr (by rw [if_pos h3]; simp [h2]))
      ·rw [h2] at h3; exact .inr (by rw [if_pos h3]; simp [h2])
theorem mem_zs {own : Op} {l : List Op} {x : Int} : x ∈ zs own l ↔ x ∈ pk own l l.length := by rw [zs, mem_uniqs, mem_isort]
theorem top_le : ∀ (s : List Int) (v : Int), (∃ x ∈ s, x ≤ v) → ∃ u ∈ s, u ≤ v ∧ ∀ x ∈ s, x ≤ v → x ≤ u
 | [], v, h => by obtain ⟨x, hx, _⟩ := h; cases hx
 | y :: s, v, h => by
   by_cases hs : ∃ x ∈ s, x ≤ v
   ·obtain ⟨u, h1, h2, h3⟩ := top_le s v hs
    by_cases hy : y ≤ v ∧ u < y
    ·refine ⟨y, .head _, hy.1, fun x hx hxv => ?_⟩
     rcases List.mem_cons.1 hx with rfl | hx
     ·exact Int.le_refl _
     ·have := h3 x hx hxv; omega
    ·refine ⟨u, .tail _ h1, h2, fun x hx hxv => ?_⟩
     rcases List.mem_cons.1 hx with rfl | hx
     ·omega
     ·exact h3 x hx hxv
   ·obtain ⟨x, hx, hxv⟩ := h
    rcases List.mem_cons.1 hx with rfl | hx
    ·refine ⟨x, .head _, hxv, fun z hz hzv => ?_⟩
     rcases List.mem_cons.1 hz with rfl | hz
     ·exact Int.le_refl _
     ·exact (hs ⟨z, hz, hzv⟩).elim
    ·exact (hs ⟨x, hx, hxv⟩).elim
theorem cnt_congr {f : Op → Int} {l : List Op} {c u v : Int} : ∀ (n : Nat), (∀ i, i < n → (f (l.getD i default) > v ↔ f (l.getD i default) > u)) → cnt f l c v n = cnt f l c u n
 | 0, _ => rfl
 | n + 1, h => by
   have := cnt_congr (c := c) n fun i hi => h i (by omega)
   have h1 := h n (by omega)
   simp only [cnt, this, h1]
theorem any_eq {l : List Op} {own : Op} {c r : Int} (hi : InR own) : (zs own l).any (okV l c r) = posB l own c r := by
 obtain ⟨i1, i2, i3⟩ := hi
 rw [Bool.eq_iff_iff]
 unfold posB
 simp only [List.any_eq_true, List.mem_range'_1, Nat.zero_le, true_and, Nat.zero_add]
 constructor
 ·rintro ⟨v, hv, hok⟩
  have hb : own.lo ≤ v ∧ v ≤ own.hi := by
   rcases mem_pk.1 (mem_zs.1 hv) with rfl | ⟨i, _, _, h1, h2⟩ <;> omega
  refine ⟨(v - own.lo).toNat, by unfold wid; omega, ?_⟩
  rw [show own.lo + ((v - own.lo).toNat : Int) = v by omega]
  exact hok
 ·rintro ⟨i, hi, hok⟩
  have hi' : own.lo + (i : Int) ≤ own.hi := by unfold wid at hi; omega
  obtain ⟨u, h1, h2, h3⟩ := top_le (pk own l l.length) (own.lo + i) ⟨own.lo, mem_pk.2 (.inl rfl), by omega⟩
  refine ⟨u, mem_zs.2 h1, ?_⟩
  have hu : own.lo ≤ u := by
   rcases mem_pk.1 h1 with rfl | ⟨_, _, _, h4, _⟩ <;> omega
  have key : ∀ (j : Nat) (x : Int), j < l.length → (x = (l.getD j default).lo ∨ x = (l.getD j default).hi) → (x > own.lo + i ↔ x > u) := by
   intro j x hj hx
   constructor
   ·intro h; omega
   ·intro h
    rcases Int.lt_or_le (own.lo + i) x with h4 | h4
    ·exact h4
    ·have := h3 x (mem_pk.2 (.inr ⟨j, hj, hx, by omega, by omega⟩)) h4
     omega
  have e1 : cnt Op.lo l c (own.lo + i) l.length = cnt Op.lo l c u l.length := cnt_congr _ fun j hj => key j _ hj (.inl rfl)
  have e2 : cnt Op.hi l c (own.lo + i) l.length = cnt Op.hi l c u l.length := cnt_congr _ fun j hj => key j _ hj (.inr rfl)
  unfold okV at hok ⊢
  rwa [e1, e2] at hok
def mkI (zs : List Int) : AV := match zs with | [] => .nils | _ => .sl 1 (zs.map intR)
theorem mkI_isL (zs : List Int) : IsL 1 (zs.map intR) (mkI zs) := by
 cases zs with
 | nil => exact .inr ⟨rfl, rfl⟩
 | cons z zs => exact .inl rfl
theorem mkI_rows (zs : List Int) : (mkI zs).rowsL = zs.map intR := (mkI_isL zs).rows
theorem mkI_snoc (zs : List Int) (z : Int) : AV.sl 1 (zs.map intR ++ [[ia z]]) = mkI (zs ++ [z]) := by
 cases zs <;> simp [mkI, intR]
theorem mkI_ok (zs : List Int) : (Sh.sl [.int .i64]).ok (mkI zs) = true := (mkI_isL zs).ok rfl (by simp [intR])
theorem mkI_len (zs : List Int) : (mkI zs).lenN = zs.length := (mkI_isL zs).lenM
def rks (p : Int → Bool) : Nat → List Int
 | 0 => []
 | i + 1 => rks p i ++ (if p (1 + i) then [1 + (i : Int)] else [])
theorem rks_len (p : Int → Bool) : ∀ i, (rks p i).length ≤ i
 | 0 => Nat.le_refl _
 | i + 1 => by
   have := rks_len p i
   simp only [rks, List.length_append]
   split <;> simp <;> omega
set_option maxHeartbeats 8000000
@[simp] theorem s_mget (Ω : Om) (b : Bool) (es : List (AV × AV)) (k z : AV) : Pr.sem Ω (.mget b) [.im es, k, z] = (match findA k es with | some (some v) => v | _ => z) := rfl
theorem s_mput (Ω : Om) (es : List (AV × AV)) (k v : AV) : Pr.sem Ω .mput [.im es, k, v] = (match updA k v es with | some es => .im es | none => .junk) := rfl
@[simp] theorem s_mnew (Ω : Om) : Pr.sem Ω .mnew [] = .im [] := rfl
theorem fz5 (a b c d e : Int) : F76 [.sl 1 [[ia a], [ia b], [ia c], [ia d], [ia e]]] = some (ia (firstNz [a, b, c, d, e])) :=
 p76 (ns := [a, b, c, d, e]) (.inl rfl) (by simp)
theorem fz2 (a b : Int) : F76 [.sl 1 [[ia a], [ia b]]] = some (ia (firstNz [a, b])) :=
 p76 (ns := [a, b]) (.inl rfl) (by simp)
def seen (l : List Op) (i : Nat) (s : ByteArray) : Bool := (List.range' 0 i).any fun k => decide ((l.getD k default).nm = s)
theorem seen_succ (l : List Op) (i : Nat) (s : ByteArray) : seen l (i + 1) s = (seen l i s || decide ((l.getD i default).nm = s)) := by
 unfold seen
 rw [List.range'_1_concat, List.any_append]
 simp
def errO (l : List Op) (i : Nat) : Int :=
 if isName (l.getD i default).nm = false then 8 else if seen l i (l.getD i default).nm then 9 else if outB (l.getD i default).lo 0 99999 then 3 else if outB (l.getD i default).hi 0 99999 then 3 else if (l.getD i default).lo > (l.getD i default).hi then 11 else 0
def errs (l : List Op) : Option Int := (List.range' 0 l.length).findSome? fun i => if errO l i = 0 then none else some (errO l i)
def endE : Option Int → AV
 | some e => .tuple [ia 1, ia e]
 | none => .tuple [ia 2]
theorem errs_end (l : List Op) : ((List.range' 0 l.length).findSome? fun i => if errO l i = 0 then none else some (AV.tuple [ia 1, ia (errO l i)])).getD (.tuple [ia 2]) = endE (errs l) := by
 unfold errs
 generalize List.range' 0 l.length = s
 induction s with
 | nil => rfl
 | cons i s ih =>
   simp only [List.findSome?_cons]
   by_cases h : errO l i = 0
   ·rw [if_pos h, if_pos h]; exact ih
   ·rw [if_neg h, if_neg h]; rfl
theorem find_str (n m : ByteArray) (v : AV) (es : List (AV × AV)) : findA (.str n) ((.str m, v) :: es) = if n = m then some (some v) else findA (.str n) es := by
 by_cases h : n = m
 ·subst h; simp [findA, keyEq]
 ·simp [findA, keyEq, h]
theorem upd_str (n m : ByteArray) (u v : AV) (es : List (AV × AV)) : updA (.str n) u ((.str m, v) :: es) = if n = m then some ((.str m, u) :: es) else (updA (.str n) u es).map ((.str m, v) :: ·) := by
 by_cases h : n = m
 ·subst h; simp [updA, keyEq]
 ·simp [updA, keyEq, h]
theorem upd_set (n : ByteArray) : ∀ (es : List (AV × AV)), (∀ e ∈ es, ∃ k, e = (.str k, .bool true)) →
  ∃ es', updA (.str n) (.bool true) es = some es' ∧ (∀ e ∈ es', ∃ k, e = (.str k, .bool true)) ∧ ∀ m, findA (.str m) es' = if m = n then some (some (.bool true)) else findA (.str m) es
 | [], _ => by
   refine ⟨[(.str n, .bool true)], by simp [updA], fun e he => ?_, fun m => by rw [find_str]⟩
   cases he with
   | head => exact ⟨_, rfl⟩
   | tail _ he => cases he
 | e :: es, hk => by
   obtain ⟨m, rfl⟩ := hk e (.head _)
   obtain ⟨es', h1, h2, h3⟩ := upd_set n es fun e he => hk e (.tail _ he)
   by_cases hm : n = m
   ·refine ⟨(.str m, .bool true) :: es, by rw [upd_str, if_pos hm], hk, fun k => ?_⟩
    rw [find_str, hm]
    by_cases hn : k = m <;> simp [hn]
   ·refine ⟨(.str m, .bool true) :: es', by rw [upd_str, if_neg hm, h1]; rfl, fun e he => ?_, fun k => ?_⟩
    ·cases he with
     | head => exact ⟨m, rfl⟩
     | tail _ he => exact h2 e he
    ·rw [find_str, find_str, h3]
     by_cases hn : k = m
     ·subst hn; rw [if_pos rfl, if_neg (fun h => hm h.symm), if_pos rfl]
     ·rw [if_neg hn, if_neg hn]
def mapS (l : List Op) : Nat → List (AV × AV)
 | 0 => []
 | i + 1 => match updA (.str (l.getD i default).nm) (.bool true) (mapS l i) with
   | some es => es
   | none => []
theorem mapS_ok (l : List Op) : ∀ i, (∀ e ∈ mapS l i, ∃ k, e = (.str k, .bool true)) ∧ (∀ s, findA (.str s) (mapS l i) = some (if seen l i s then some (.bool true) else none)) ∧
  updA (.str (l.getD i default).nm) (.bool true) (mapS l i) = some (mapS l (i + 1))
 | 0 => by
   refine ⟨fun e he => (by cases he), fun s => rfl, ?_⟩
   simp only [mapS, updA]
 | i + 1 => by
   obtain ⟨h1, h2, h3⟩ := mapS_ok l i
   obtain ⟨es', g1, g2, g3⟩ := upd_set (l.getD i default).nm (mapS l i) h1
   have e : mapS l (i + 1) = es' := by rw [g1] at h3; injection h3 with h3; exact h3.symm
   rw [e]
   refine ⟨g2, fun s => ?_, ?_⟩
   ·rw [g3, h2, seen_succ]
    by_cases hs : s = (l.getD i default).nm
    ·rw [if_pos hs, decide_eq_true hs.symm, Bool.or_true, if_pos rfl]
    ·rw [if_neg hs, decide_eq_false (fun h => hs h.symm), Bool.or_false]
   ·obtain ⟨es'', k1, _, _⟩ := upd_set (l.getD (i + 1) default).nm es' g2
    rw [k1]
    simp only [mapS] at e ⊢
    rw [e, k1]
theorem G3600 {a : AV} {l : List Op} (h : OpsOk a l) : loopG (calO s36) B3600 KK [a, ia l.length, ia 0, .im []] = some (endE (errs l)) := by
 have hn := h.n
 rw [← errs_end]
 refine loop0 (fun i => [a, ia l.length, ia i, .im (mapS l i)]) l.length _ _ (by omega) (fun i hi => ?_) ?_
 ·have hr : nth a.rowsL i = some (Op.row l[i]) := h.is.rowN hi
  have hw := wS (show i < 2097152 by omega)
  have hg : l.getD i default = l[i] := by simp [hi]
  obtain ⟨_, m2, m3⟩ := mapS_ok l i
  have m2 := m2 l[i].nm
  rw [hg] at m3
  have f := p88 (h.sz _ (List.getElem_mem hi))
  unfold errO
  rw [hg]
  rcases Bool.eq_false_or_eq_true (isName l[i].nm) with e1 | e1 <;> rw [e1] at f <;> rcases Bool.eq_false_or_eq_true (seen l i l[i].nm) with e2 | e2 <;> rw [e2] at m2 <;> simp only [if_true, if_false, Bool.false_eq_true] at m2 <;>
   rcases Bool.eq_false_or_eq_true (outB l[i].lo 0 99999) with e3 | e3 <;> rcases Bool.eq_false_or_eq_true (outB l[i].hi 0 99999) with e4 | e4 <;> rcases tf_or (l[i].hi < l[i].lo) with e5 | e5 <;>
    simp [B3600, h.is.lenM, hr, Op.row, hi, hw, f, m2, m3, s_mput, p80, p77, fz5, whenI, fz_cons, fz_nil, e1, e2, e3, e4, e5]
 ·simp [B3600]
def ckOpen (l : List Op) : Int := if l.length = 0 then 12 else if l.length > 160 then 5 else (errs l).getD 0
theorem errs_ne {l : List Op} {e : Int} (h : errs l = some e) : e ≠ 0 := by
 obtain ⟨i, _, h2⟩ := List.exists_of_findSome?_eq_some h
 split at h2
 ·cases h2
 ·rename_i hne; injection h2 with h2; rw [← h2]; exact hne
theorem p36 {a : AV} {l : List Op} (h : OpsOk a l) : F36 [a] = some (ia (ckOpen l)) := by
 have G := G3600 h
 have lN := h.is.lenM
 rcases tf_or (l.length = 0) with e1 | e1
 ·have e1 := of_eq_true e1
  simp [F36, unitF_eq, t36, lN, p80, fz2, whenI, fz_cons, fz_nil, ckOpen, e1]
 ·have e1 := of_eq_false e1
  rcases tf_or (160 < l.length) with e2 | e2
  ·have e2 := of_eq_true e2
   have e3 : (160 : Int) < l.length := by omega
   simp [F36, unitF_eq, t36, lN, p80, fz2, whenI, fz_cons, fz_nil, ckOpen, e1, e2, e3]
  ·have e2 := of_eq_false e2
   have e3 : ¬ ((160 : Int) < l.length) := by omega
   cases he : errs l with
   | none => rw [he] at G; simp [endE] at G; simp [F36, unitF_eq, t36, lN, p80, fz2, whenI, fz_cons, fz_nil, ckOpen, e1, e2, e3, G, he]
   | some e => rw [he] at G; simp [endE] at G; simp [F36, unitF_eq, t36, lN, p80, fz2, whenI, fz_cons, fz_nil, ckOpen, e1, e2, e3, G, he]
theorem G3701 {Ω : Om} {a : AV} {l : List Op} (h : OpsOk a l) {i : Nat} (hi : i < l.length) (s : ByteArray) (x y : Int) :
  loopG Ω B3701 KK [a, ia i, ia 0, .str s, ia x, ia y] = some (if seen l i s then .tuple [ia 1] else .tuple [ia 2, a, ia i, .str s, ia x, ia y]) := by
 have hn := h.n
 have := loop0 (Ω := Ω) (B := B3701) (fun k => [a, ia i, ia k, .str s, ia x, ia y]) i (fun k => if decide ((l.getD k default).nm = s) then some (.tuple [ia 1]) else none) (.tuple [ia 2, a, ia i, .str s, ia x, ia y]) (by omega) (fun k hk => by
  have hr : nth a.rowsL k = some (Op.row l[k]) := h.is.rowN (by omega)
  have hw := wS (show k < 2097152 by omega)
  have hg : l.getD k default = l[k] := by simp [show k < l.length by omega]
  rw [hg]
  rcases tf_or (l[k].nm = s) with e1 | e1 <;> simp [B3701, h.is.lenM, hr, Op.row, hk, show k < l.length by omega, hw, e1]) (by simp [B3701])
 rw [find_any] at this
 refine Eq.trans this ?_
 unfold seen
 split <;> rfl
theorem G3700 {a : AV} {l : List Op} (h : OpsOk a l) : loopG (omL KK s37 [d3701]) B3700 KK [a, ia 0] = some (endE (errs l)) := by
 have hn := h.n
 rw [← errs_end]
 refine loop0 (fun i => [a, ia i]) l.length _ _ (by omega) (fun i hi => ?_) ?_
 ·have hr : nth a.rowsL i = some (Op.row l[i]) := h.is.rowN hi
  have hw := wS (show i < 2097152 by omega)
  have hg : l.getD i default = l[i] := by simp [hi]
  have f := p89 (h.sz _ (List.getElem_mem hi))
  have G := G3701 (Ω := calO s37) h hi l[i].nm l[i].lo l[i].hi
  unfold errO
  rw [hg]
  rcases Bool.eq_false_or_eq_true (isName l[i].nm) with e1 | e1 <;> rw [e1] at f <;> rcases Bool.eq_false_or_eq_true (seen l i l[i].nm) with e2 | e2 <;> rw [e2] at G <;> simp only [if_true, if_false, Bool.false_eq_true] at G <;>
   rcases tf_or (l[i].lo < 0) with e3 | e3 <;> rcases tf_or (99999 < l[i].lo) with e4 | e4 <;> rcases tf_or (l[i].hi < 0) with e5 | e5 <;> rcases tf_or (99999 < l[i].hi) with e6 | e6 <;> rcases tf_or (l[i].hi < l[i].lo) with e7 | e7 <;>
    simp [B3700, h.is.lenM, hr, Op.row, hi, hw, f, G, outB, e1, e2, e3, e4, e5, e6, e7]
 ·simp [B3700, h.is.lenM]
theorem p37 {a : AV} {l : List Op} (h : OpsOk a l) : F37 [a] = some (ia (ckOpen l)) := by
 have G := G3700 h
 have lN := h.is.lenM
 rcases tf_or (l.length = 0) with e1 | e1
 ·have e1 := of_eq_true e1
  simp [F37, unitF_eq, t37, lN, ckOpen, e1]
 ·have e1 := of_eq_false e1
  rcases tf_or (160 < l.length) with e2 | e2
  ·have e2 := of_eq_true e2
   have e3 : (160 : Int) < l.length := by omega
   simp [F37, unitF_eq, t37, lN, ckOpen, e1, e2, e3]
  ·have e2 := of_eq_false e2
   have e3 : ¬ ((160 : Int) < l.length) := by omega
   cases he : errs l with
   | none => rw [he] at G; simp [endE] at G; simp [F37, unitF_eq, t37, lN, ckOpen, e1, e2, e3, G, he]
   | some e => rw [he] at G; simp [endE] at G; simp [F37, unitF_eq, t37, lN, ckOpen, e1, e2, e3, G, he]
def bad (l : List Op) (c : Int) : Int := if ckOpen l ≠ 0 then ckOpen l else if c < 0 ∨ c ≥ l.length then 10 else 0
theorem ck0 {l : List Op} (h : ckOpen l = 0) : 1 ≤ l.length ∧ l.length ≤ 160 ∧ ∀ i (hi : i < l.length), InR l[i] := by
 unfold ckOpen at h
 split at h
 ·cases h
 rename_i h1
 split at h
 ·cases h
 rename_i h2
 refine ⟨by omega, by omega, fun i hi => ?_⟩
 cases he : errs l with
 | some e => rw [he] at h; exact (errs_ne he h).elim
 | none =>
   have h3 := List.findSome?_eq_none_iff.1 he i (by simp only [List.mem_range'_1]; omega)
   split at h3
   case isFalse => cases h3
   rename_i h4
   unfold errO at h4
   rw [show l.getD i default = l[i] by simp [hi]] at h4
   by_cases e1 : isName l[i].nm = false
   ·rw [if_pos e1] at h4; cases h4
   rw [if_neg e1] at h4
   by_cases e2 : seen l i l[i].nm = true
   ·rw [if_pos e2] at h4; cases h4
   rw [if_neg e2] at h4
   by_cases e3 : outB l[i].lo 0 99999 = true
   ·rw [if_pos e3] at h4; cases h4
   rw [if_neg e3] at h4
   by_cases e4 : outB l[i].hi 0 99999 = true
   ·rw [if_pos e4] at h4; cases h4
   rw [if_neg e4] at h4
   by_cases e5 : l[i].lo > l[i].hi
   ·rw [if_pos e5] at h4; cases h4
   simp [outB] at e3 e4
   exact ⟨by omega, by omega, by omega⟩
theorem p35 {a : AV} {l : List Op} (h : OpsOk a l) (c : Int) : F35 [a, ia c, ia 1] = some (ia (bad l c)) := by
 have lN := h.is.lenM
 unfold bad
 rcases tf_or (ckOpen l = 0) with e1 | e1
 ·have e1' := of_eq_true e1
  have hl := (ck0 e1').1
  have e4 : ¬ ((l.length : Int) < 1) := by omega
  rcases tf_or (c < 0) with e2 | e2 <;> rcases tf_or ((l.length : Int) ≤ c) with e3 | e3 <;> simp [F35, unitF_eq, t35, p37 h, lN, e1', e2, e3, e4]
 ·simp [F35, unitF_eq, t35, p37 h, lN, e1]
theorem p86 {a : AV} {l : List Op} (h : OpsOk a l) (c : Int) : F86 [a, ia c] = some (ia (bad l c)) := by
 have lN := h.is.lenM
 unfold bad
 rcases tf_or (ckOpen l = 0) with e1 | e1 <;> rcases tf_or (c < 0) with e2 | e2 <;> rcases tf_or ((l.length : Int) ≤ c) with e3 | e3 <;>
  simp [F86, unitF_eq, t86, p36 h, p80, fz2, whenI, fz_cons, fz_nil, lN, e1, e2, e3]
theorem bad0 {l : List Op} {c : Int} (h : bad l c = 0) : ∃ k : Nat, c = k ∧ k < l.length ∧ ckOpen l = 0 := by
 unfold bad at h
 split at h
 ·rename_i h1; exact (h1 h).elim
 ·rename_i h1
  split at h
  ·cases h
  ·exact ⟨c.toNat, by omega, by omega, by simpa using h1⟩
def mkO (l : List Op) : AV := match l with | [] => .nils | _ => .sl 3 (l.map Op.row)
theorem mkO_isL (l : List Op) : IsL 3 (l.map Op.row) (mkO l) := by
 cases l with
 | nil => exact .inr ⟨rfl, rfl⟩
 | cons z zs => exact .inl rfl
theorem mkO_rows (l : List Op) : (mkO l).rowsL = l.map Op.row := (mkO_isL l).rows
theorem mkO_snoc (l : List Op) (z : Op) : AV.sl 3 (l.map Op.row ++ [[.str z.nm, ia z.lo, ia z.hi]]) = mkO (l ++ [z]) := by
 cases l <;> simp [mkO, Op.row]
theorem mkO_ok (l : List Op) : (Sh.sl [.str, .int .i64, .int .i64]).ok (mkO l) = true := (mkO_isL l).ok rfl (by simp [Op.row])
theorem take_snoc {α : Type} {l : List α} {i : Nat} (hi : i < l.length) : l.take (i + 1) = l.take i ++ [l[i]] := by
 rw [List.take_add_one, List.getElem?_eq_getElem hi]; rfl
theorem G3400 {Ω : Om} {a : AV} {l : List Op} (h : OpsOk a l) : loopG Ω B3400 KK [.nils, a, ia l.length, ia 0] = some (.tuple [ia 1, mkO l]) := by
 have hn := h.n
 have := loopF (Ω := Ω) (B := B3400) (fun i => [mkO (l.take i), a, ia l.length, ia i]) l.length (.tuple [ia 1, mkO (l.take l.length)]) (by omega) (fun i hi => by
  have hr : nth a.rowsL i = some (Op.row l[i]) := h.is.rowN hi
  have hw := wS (show i < 2097152 by omega)
  have b2 : ((i : Int) + 1) ≤ 1073741824 := by omega
  rw [take_snoc hi, ← mkO_snoc]
  have hm : min i l.length = i := by omega
  simp [B3400, h.is.lenM, hr, Op.row, hi, hw, mkO_rows, b2, hm]) (by simp [B3400])
 rw [List.take_length] at this
 exact this
theorem p34 {a : AV} {l : List Op} (h : OpsOk a l) : F34 [a] = some (mkO l) := by
 simp [F34, unitF_eq, t34, G3400 h, h.is.lenM]
theorem mkO_OpsOk {a : AV} {l : List Op} (h : OpsOk a l) : OpsOk (mkO l) l := ⟨mkO_isL l, h.n, h.sz⟩
theorem p32 {a : AV} {l : List Op} (h : OpsOk a l) : ∃ b, F32 [a, ia 8] = some (.bool b) := by
 have hn := h.n
 have lN := h.is.lenM
 have f := p37 h
 have hG : ∃ b : Bool, loopG (calO s32) B3200 KK [a, ia 0] = some (if b then .tuple [ia 1] else .tuple [ia 2]) := by
  have := loop0 (Ω := calO s32) (B := B3200) (fun i => [a, ia i]) l.length
   (fun i => if (decide (40 < (l.getD i default).nm.size) || (decide (IntKind.i64.wrap ((l.getD i default).lo + 100) < (l.getD i default).hi) && decide (ckOpen l = 0))) then some (.tuple [ia 1]) else none) (.tuple [ia 2]) (by omega) (fun i hi => by
    have hr : nth a.rowsL i = some (Op.row l[i]) := h.is.rowN hi
    have hw := wS (show i < 2097152 by omega)
    have hg : l.getD i default = l[i] := by simp [hi]
    rw [hg]
    have z1 : ((40 : Int) < (l[i].nm.size : Int)) = (40 < l[i].nm.size) := by rw [eq_iff_iff]; omega
    rcases tf_or (40 < l[i].nm.size) with e1 | e1 <;> rcases tf_or (IntKind.i64.wrap (l[i].lo + 100) < l[i].hi) with e2 | e2 <;> rcases tf_or (ckOpen l = 0) with e3 | e3 <;>
     simp [B3200, lN, hr, Op.row, hi, hw, f, z1, e1, e2, e3]) (by simp [B3200, lN])
  rw [find_any] at this
  refine ⟨(List.range' 0 l.length).any fun i => (decide (40 < (l.getD i default).nm.size) || (decide (IntKind.i64.wrap ((l.getD i default).lo + 100) < (l.getD i default).hi) && decide (ckOpen l = 0))), Eq.trans this ?_⟩
  split <;> rfl
 obtain ⟨b, G⟩ := hG
 rcases tf_or ((8 : Int) < l.length) with e1 | e1 <;> rcases tf_or ((l.length : Int) ≤ 160) with e2 | e2 <;> rcases tf_or ((162 : Int) < l.length) with e3 | e3 <;> cases b <;> simp at G <;>
  simp [F32, unitF_eq, t32, lN, G, e1, e2, e3]
theorem rks_len' (p : Int → Bool) (n : Nat) (h : n ≤ 160) : (rks p n).length < 2097152 := by
 have := rks_len p n
 omega
def badR (l : List Op) (c r : Int) : Int := if bad l c ≠ 0 then bad l c else if outB r 1 l.length then 3 else 0
theorem p105 {a : AV} {l : List Op} (h : OpsOk a l) (c r : Int) : F105 [a, ia c, ia r] = some (ia (badR l c r)) := by
 have lN := h.is.lenM
 have f := p77 r 1 l.length
 unfold badR
 rcases tf_or (bad l c = 0) with e1 | e1 <;> rcases Bool.eq_false_or_eq_true (outB r 1 l.length) with e2 | e2 <;>
  simp [F105, unitF_eq, t105, p86 h, p77, fz2, whenI, fz_cons, fz_nil, lN, e1, e2]
theorem p35r {a : AV} {l : List Op} (h : OpsOk a l) (c r : Int) : F35 [a, ia c, ia r] = some (ia (badR l c r)) := by
 have lN := h.is.lenM
 unfold badR bad
 rcases tf_or (ckOpen l = 0) with e1 | e1
 ·have e1' := of_eq_true e1
  rcases tf_or (c < 0) with e2 | e2 <;> rcases tf_or ((l.length : Int) ≤ c) with e3 | e3 <;> rcases tf_or (r < 1) with e4 | e4 <;> rcases tf_or ((l.length : Int) < r) with e5 | e5 <;>
   simp [F35, unitF_eq, t35, p37 h, lN, outB, e1', e2, e3, e4, e5]
 ·simp [F35, unitF_eq, t35, p37 h, lN, e1]
theorem badR0 {l : List Op} {c r : Int} (h : badR l c r = 0) : bad l c = 0 ∧ 1 ≤ r ∧ r ≤ l.length := by
 unfold badR at h
 split at h
 ·rename_i h1; exact (h1 h).elim
 ·rename_i h1
  split at h
  ·cases h
  ·rename_i h2
   simp [outB] at h2
   exact ⟨by simpa using h1, by omega, by omega⟩
theorem p87' {a : AV} {l : List Op} (h : OpsOk a l) (hl : l.length ≤ 160) {c : Nat} (hc : c < l.length) (hi : InR l[c]) (r : Int) :
  (posB l l[c] c r = false ∧ F87 [a, ia c, ia r] = some (.tuple [ia 0, .bool false])) ∨
  (posB l l[c] c r = true ∧ ∃ v, okV l c r v = true ∧ l[c].lo ≤ v ∧ v ≤ l[c].hi ∧ F87 [a, ia c, ia r] = some (.tuple [ia v, .bool true])) := by
 have hn := h.n
 have hz := @zs_len l[c] l
 have f := p111 h hc
 have G := G8700 (c := (c : Int)) (r := r) h (b := .sl 1 ((zs l[c] l).map intR)) (ns := zs l[c] l) (.inl rfl) (by omega)
 have k := ok_ints (zs l[c] l)
 have hany := @any_eq l l[c] c r hi
 rcases any_some (okV l c r) (zs l[c] l) with ⟨v, h1, h2⟩ | ⟨h1, h2⟩
 ·right
  refine ⟨by rw [← hany, h2], v, ?_⟩
  obtain ⟨u, hu, hu2⟩ := List.exists_of_findSome?_eq_some h1
  split at hu2
  case isFalse => cases hu2
  rename_i hok
  simp at hu2
  subst hu2
  have hb : l[c].lo ≤ u ∧ u ≤ l[c].hi := by
   obtain ⟨i1, i2, i3⟩ := hi
   rcases mem_pk.1 (mem_zs.1 hu) with h3 | ⟨i, _, _, h3, h4⟩
   ·omega
   ·omega
  refine ⟨hok, hb.1, hb.2, ?_⟩
  rw [h1] at G
  simp at G k
  simp [F87, unitF_eq, t87, f, G]
  exact k
 ·left
  refine ⟨by rw [← hany, h2], ?_⟩
  rw [h1] at G
  simp at G k
  simp [F87, unitF_eq, t87, f, G]
  exact k
def mo (l : List Op) (c v m : Int) : Nat → Int
 | 0 => m
 | i + 1 => if (i : Int) ≠ c ∧ 0 < mo l c v m i ∧ (l.getD i default).lo ≤ v ∧ v < (l.getD i default).hi then mo l c v m i - 1 else mo l c v m i
def wv (l : List Op) (c v m : Int) (i : Nat) : Int :=
 if (i : Int) = c then v else if 0 < mo l c v m i ∧ (l.getD i default).lo ≤ v ∧ v < (l.getD i default).hi then (l.getD i default).hi else (l.getD i default).lo
def wl (l : List Op) (c v m : Int) : Nat → List Int
 | 0 => []
 | i + 1 => wl l c v m i ++ [wv l c v m i]
theorem wl_len (l : List Op) (c v m : Int) : ∀ i, (wl l c v m i).length = i
 | 0 => rfl
 | i + 1 => by simp [wl, wl_len l c v m i]
theorem wl_get (l : List Op) (c v m : Int) : ∀ n i, i < n → (wl l c v m n).getD i 0 = wv l c v m i
 | 0, _, h => by omega
 | n + 1, i, h => by
   have := wl_len l c v m n
   simp only [wl, List.getD_eq_getElem?_getD]
   by_cases hi : i < n
   ·rw [List.getElem?_append_left (by omega), ← List.getD_eq_getElem?_getD]
    exact wl_get l c v m n i hi
   ·obtain rfl : i = n := by omega
    rw [List.getElem?_append_right (by omega), this]; simp
theorem mo_le (l : List Op) (c v m : Int) (hm : 0 ≤ m) : ∀ i, 0 ≤ mo l c v m i ∧ mo l c v m i ≤ m
 | 0 => ⟨hm, Int.le_refl _⟩
 | i + 1 => by
   have := mo_le l c v m hm i
   simp only [mo]
   split <;> omega
theorem G5400 {a : AV} {l : List Op} (h : OpsOk a l) (c v : Int) {m : Int} (m0 : 0 ≤ m) (m1 : m ≤ 1000) :
  loopG (calO s54) B5400 KK [ia c, ia v, ia m, .nils, a, ia l.length, ia 0] = some (.tuple [ia 1, mkI (wl l c v m l.length)]) := by
 have hn := h.n
 refine loopF (fun i => [ia c, ia v, ia (mo l c v m i), mkI (wl l c v m i), a, ia l.length, ia i]) l.length _ (by omega) (fun i hi => ?_) ?_
 ·have hr : nth a.rowsL i = some (Op.row l[i]) := h.is.rowN hi
  have hw := wS (show i < 2097152 by omega)
  have hg : l.getD i default = l[i] := by simp [hi]
  have b1 := mo_le l c v m m0 i
  have b2 := wl_len l c v m i
  have w1 : IntKind.i64.wrap (mo l c v m i - 1) = mo l c v m i - 1 := i64w (by omega) (by omega)
  have c1 : ((wl l c v m i).length : Int) + 1 ≤ 1073741824 := by omega
  simp only [mo, wl, wv, hg]
  rcases tf_or ((i : Int) = c) with e1 | e1 <;> rcases tf_or (0 < mo l c v m i) with e2 | e2 <;> rcases tf_or (l[i].lo ≤ v) with e3 | e3 <;> rcases tf_or (v < l[i].hi) with e4 | e4 <;>
   simp [B5400, h.is.lenM, hr, Op.row, hi, hw, w1, e1, e2, e3, e4, mkI_rows, mkI_snoc, mkI_len, c1]
 ·simp [B5400]
theorem p54 {a : AV} {l : List Op} (h : OpsOk a l) {c r : Int} (hb : badR l c r ≠ 0) : F54 [a, ia c, ia r] = some (.tuple [.nils, ia (badR l c r)]) := by
 have f := p105 h c r
 simp [F54, unitF_eq, t54, f, hb]
theorem p54' {a : AV} {l : List Op} (h : OpsOk a l) {c : Nat} {r : Int} (hb : badR l c r = 0) (hc : c < l.length) :
  (posB l l[c] c r = false ∧ F54 [a, ia c, ia r] = some (.tuple [.nils, ia 23])) ∨
  (posB l l[c] c r = true ∧ ∃ v, okV l c r v = true ∧ l[c].lo ≤ v ∧ v ≤ l[c].hi ∧ F54 [a, ia c, ia r] = some (.tuple [mkI (wl l c v (r - 1 - cnt Op.lo l c v l.length) l.length), ia 0])) := by
 have f := p105 h c r
 rw [hb] at f
 obtain ⟨hb1, r1, r2⟩ := badR0 hb
 obtain ⟨k, hk, _, hck⟩ := bad0 hb1
 obtain ⟨_, h2, h3⟩ := ck0 hck
 have hn := h.n
 rcases p87' h h2 hc (h3 c hc) r with ⟨q1, q2⟩ | ⟨q1, v, q2, q3, q4, q5⟩
 ·left
  exact ⟨q1, by simp [F54, unitF_eq, t54, f, q2]⟩
 ·right
  refine ⟨q1, v, q2, q3, q4, ?_⟩
  have b1 := cnt_le Op.lo l c v l.length
  have hok : cnt Op.lo l c v l.length < r := by
   unfold okV at q2; simp at q2; exact q2.1
  have w0 : IntKind.i64.wrap (r - 1) = r - 1 := i64w (by omega) (by omega)
  have w1 : IntKind.i64.wrap (r - 1 - cnt Op.lo l c v l.length) = r - 1 - cnt Op.lo l c v l.length := i64w (by omega) (by omega)
  have G := G5400 h c v (m := r - 1 - cnt Op.lo l c v l.length) (by omega) (by omega)
  simp [F54, unitF_eq, t54, f, q5, p106 h, w0, w1, G, h.is.lenM]
def gtc (ns : List Int) (c : Nat) : Nat → Int
 | 0 => 1
 | i + 1 => gtc ns c i + (if ns.getD c 0 < ns.getD i 0 then 1 else 0)
theorem gtc_le (ns : List Int) (c : Nat) : ∀ i, 1 ≤ gtc ns c i ∧ gtc ns c i ≤ 1 + i
 | 0 => by simp [gtc]
 | i + 1 => by
   have := gtc_le ns c i
   simp only [gtc]
   split <;> omega
def outW (l : List Op) (ns : List Int) (i : Nat) : Bool := outB (ns.getD i 0) (l.getD i default).lo (l.getD i default).hi
def ckW (l : List Op) (c : Nat) (r : Int) (ns : List Int) : Int :=
 if ns.length ≠ l.length then 2 else if (List.range' 0 l.length).any (outW l ns) then 3 else if gtc ns c l.length = r then 0 else 21
theorem G5500 {a b : AV} {l : List Op} (h : OpsOk a l) {ns : List Int} (hb : IsL 1 (ns.map intR) b) {c : Nat} (hc : c < l.length) (r : Int) (hln : ns.length = l.length) :
  loopG (calO s55) B5500 KK [a, ia c, ia r, b, ia 1, ia ns.length, ia 0] = some (if (List.range' 0 l.length).any (outW l ns) then .tuple [ia 1, ia 3] else .tuple [ia 2, ia r, ia (gtc ns c l.length)]) := by
 have hn := h.n
 have := loop0 (Ω := calO s55) (B := B5500) (fun i => [a, ia c, ia r, b, ia (gtc ns c i), ia ns.length, ia i]) l.length (fun i => if outW l ns i then some (.tuple [ia 1, ia 3]) else none) (.tuple [ia 2, ia r, ia (gtc ns c l.length)]) (by omega) (fun i hi => by
  have hr : nth a.rowsL i = some (Op.row l[i]) := h.is.rowN hi
  have hr2 : nth b.rowsL i = some (intR ns[i]) := hb.rowN (by omega)
  have hr3 : nth b.rowsL c = some (intR ns[c]) := hb.rowN (by omega)
  have hw := wS (show i < 2097152 by omega)
  have hg : l.getD i default = l[i] := by simp [hi]
  have hg2 : ns.getD i 0 = ns[i] := by simp [show i < ns.length by omega]
  have hg3 : ns.getD c 0 = ns[c] := by simp [show c < ns.length by omega]
  have b1 := gtc_le ns c i
  have w1 : IntKind.i64.wrap (gtc ns c i + 1) = gtc ns c i + 1 := i64w (by omega) (by omega)
  have hi2 : i < ns.length := by omega
  have hc2 : c < ns.length := by omega
  simp only [gtc, outW, hg, hg2, hg3]
  rcases Bool.eq_false_or_eq_true (outB ns[i] l[i].lo l[i].hi) with e1 | e1 <;> rcases tf_or (ns[c] < ns[i]) with e2 | e2 <;>
   simp [B5500, h.is.lenM, hb.lenM, hr, hr2, hr3, Op.row, intR, hi, hc, hi2, hc2, hw, w1, p77, whenI, e1, e2]) (by
  simp [B5500, hln])
 rw [find_any] at this
 refine Eq.trans this ?_
 split <;> rfl
theorem p55 {a b : AV} {l : List Op} (h : OpsOk a l) {ns : List Int} (hb : IsL 1 (ns.map intR) b) {c r : Int} (hbad : badR l c r ≠ 0) : F55 [a, ia c, ia r, b] = some (ia (badR l c r)) := by
 have f := p105 h c r
 have lN := h.is.lenM
 have lM := hb.lenM
 rcases tf_or ((ns.length : Int) = (l.length : Int)) with e1 | e1 <;>
  simp [F55, unitF_eq, t55, f, p80, fz2, whenI, fz_cons, fz_nil, lN, lM, hbad, e1]
theorem p55' {a b : AV} {l : List Op} (h : OpsOk a l) {ns : List Int} (hb : IsL 1 (ns.map intR) b) {c : Nat} {r : Int} (hbad : badR l c r = 0) (hc : c < l.length) : F55 [a, ia c, ia r, b] = some (ia (ckW l c r ns)) := by
 have f := p105 h c r
 rw [hbad] at f
 have lN := h.is.lenM
 have lM := hb.lenM
 unfold ckW
 by_cases e1 : ns.length = l.length
 ·have G := G5500 h hb hc r e1
  rw [e1] at G
  have e1' : (ns.length : Int) = (l.length : Int) := by omega
  rcases Bool.eq_false_or_eq_true ((List.range' 0 l.length).any (outW l ns)) with e2 | e2 <;> rcases tf_or (gtc ns c l.length = r) with e3 | e3 <;> rw [e2] at G <;> simp at G <;>
   simp [F55, unitF_eq, t55, f, p80, fz2, whenI, fz_cons, fz_nil, lN, lM, e1, e2, e3, G]
 ·have e1' : ¬ ((ns.length : Int) = (l.length : Int)) := by omega
  simp [F55, unitF_eq, t55, f, p80, fz2, whenI, fz_cons, fz_nil, lN, lM, e1, e1']
theorem G5600 {a b : AV} {l : List Op} (h : OpsOk a l) {ns : List Int} (hb : IsL 1 (ns.map intR) b) {c : Nat} (hc : c < l.length) (r : Int) (hln : ns.length = l.length) :
  loopG (calO s56) B5600 KK [a, ia c, ia r, b, ia 1, ia 0] = some (if (List.range' 0 l.length).any (outW l ns) then .tuple [ia 1] else .tuple [ia 2, ia r, ia (gtc ns c l.length)]) := by
 have hn := h.n
 have := loop0 (Ω := calO s56) (B := B5600) (fun i => [a, ia c, ia r, b, ia (gtc ns c i), ia i]) l.length (fun i => if outW l ns i then some (.tuple [ia 1]) else none) (.tuple [ia 2, ia r, ia (gtc ns c l.length)]) (by omega) (fun i hi => by
  have hr : nth a.rowsL i = some (Op.row l[i]) := h.is.rowN hi
  have hr2 : nth b.rowsL i = some (intR ns[i]) := hb.rowN (by omega)
  have hr3 : nth b.rowsL c = some (intR ns[c]) := hb.rowN (by omega)
  have hw := wS (show i < 2097152 by omega)
  have hg : l.getD i default = l[i] := by simp [hi]
  have hg2 : ns.getD i 0 = ns[i] := by simp [show i < ns.length by omega]
  have hg3 : ns.getD c 0 = ns[c] := by simp [show c < ns.length by omega]
  have b1 := gtc_le ns c i
  have w1 : IntKind.i64.wrap (gtc ns c i + 1) = gtc ns c i + 1 := i64w (by omega) (by omega)
  have hi2 : i < ns.length := by omega
  have hc2 : c < ns.length := by omega
  simp only [gtc, outW, outB, hg, hg2, hg3]
  rcases tf_or (ns[i] < l[i].lo) with e1 | e1 <;> rcases tf_or (l[i].hi < ns[i]) with e3 | e3 <;> rcases tf_or (ns[c] < ns[i]) with e2 | e2 <;>
   simp [B5600, h.is.lenM, hb.lenM, hr, hr2, hr3, Op.row, intR, hi, hc, hi2, hc2, hw, w1, e1, e2, e3]) (by
  simp [B5600, h.is.lenM])
 rw [find_any] at this
 refine Eq.trans this ?_
 split <;> rfl
theorem p56 {a b : AV} {l : List Op} (h : OpsOk a l) {ns : List Int} (hb : IsL 1 (ns.map intR) b) {c : Nat} {r : Int} (hc : c < l.length) : F56 [a, ia c, ia r, b] = some (ia (ckW l c r ns)) := by
 have lN := h.is.lenM
 have lM := hb.lenM
 unfold ckW
 by_cases e1 : ns.length = l.length
 ·have G := G5600 h hb hc r e1
  rcases Bool.eq_false_or_eq_true ((List.range' 0 l.length).any (outW l ns)) with e2 | e2 <;> rcases tf_or (gtc ns c l.length = r) with e3 | e3 <;> rw [e2] at G <;> simp at G <;>
   simp [F56, unitF_eq, t56, lN, lM, e1, e2, e3, G]
 ·have e1' : ¬ ((ns.length : Int) = (l.length : Int)) := by omega
  simp [F56, unitF_eq, t56, lN, lM, e1, e1']
def gv (l : List Op) (c v m : Int) : Nat → Int
 | 0 => 0
 | i + 1 => gv l c v m i + (if v < wv l c v m i then 1 else 0)
theorem mo_eq {l : List Op} {c v m : Int} (hm : 0 ≤ m) : ∀ n, (∀ i, i < n → (l.getD i default).lo ≤ (l.getD i default).hi) →
  mo l c v m n = max 0 (m - (cnt Op.hi l c v n - cnt Op.lo l c v n)) ∧ gv l c v m n = cnt Op.lo l c v n + (m - mo l c v m n)
 | 0, _ => by simp [mo, cnt, gv]; omega
 | n + 1, h => by
   obtain ⟨h1, h2⟩ := mo_eq (c := c) (v := v) hm n fun i hi => h i (by omega)
   have hle := h n (by omega)
   simp only [mo, cnt, gv, wv]
   by_cases e1 : (n : Int) = c
   ·simp only [e1, ne_eq, not_true_eq_false, false_and, if_false, if_true, Int.lt_irrefl, Int.add_zero]
    exact ⟨h1, h2⟩
   ·simp only [e1, ne_eq, not_false_eq_true, true_and, if_false]
    by_cases e2 : (l.getD n default).lo ≤ v <;> by_cases e3 : v < (l.getD n default).hi <;> by_cases e4 : 0 < mo l c v m n <;>
     simp only [e2, e3, e4, gt_iff_lt, true_and, and_true, and_false, false_and, if_true, if_false, and_self] <;>
     first
      | (rw [if_neg (show ¬ v < (l.getD n default).lo by omega)]; constructor <;> omega)
      | (rw [if_pos (show v < (l.getD n default).lo by omega)]; constructor <;> omega)
theorem gtc_wl {l : List Op} {c : Nat} {v m : Int} {n : Nat} (hc : c < n) : ∀ i, i ≤ n → gtc (wl l c v m n) c i = 1 + gv l c v m i
 | 0, _ => rfl
 | i + 1, hi => by
   have := gtc_wl (l := l) (v := v) (m := m) hc i (by omega)
   have h1 := wl_get l c v m n i (by omega)
   have h2 := wl_get l c v m n c hc
   have h3 : wv l c v m c = v := by simp [wv]
   simp only [gtc, gv, this, h1, h2, h3]
   omega
theorem wit_ok {l : List Op} {c : Nat} {r v : Int} (hc : c < l.length) (hin : ∀ i (hi : i < l.length), InR l[i]) (hok : okV l c r v = true) (h1 : l[c].lo ≤ v) (h2 : v ≤ l[c].hi) :
  ckW l c r (wl l c v (r - 1 - cnt Op.lo l c v l.length) l.length) = 0 := by
 unfold okV at hok
 simp at hok
 have hm : 0 ≤ r - 1 - cnt Op.lo l c v l.length := by omega
 have hg : ∀ i (hi : i < l.length), l.getD i default = l[i] := fun i hi => by simp [hi]
 obtain ⟨q1, q2⟩ := mo_eq (l := l) (c := (c : Int)) (v := v) hm l.length fun i hi => by rw [hg i hi]; exact (hin i hi).le
 have q3 := gtc_wl (l := l) (v := v) (m := r - 1 - cnt Op.lo l c v l.length) hc l.length (Nat.le_refl _)
 unfold ckW
 rw [if_neg (by rw [wl_len]; simp), if_neg, if_pos (by omega)]
 simp only [List.any_eq_true, List.mem_range'_1, not_exists, not_and]
 rintro i ⟨_, hi⟩
 have hi : i < l.length := by omega
 unfold outW
 rw [wl_get _ _ _ _ _ _ hi, hg i hi]
 have hr := (hin i hi).le
 unfold wv outB
 rw [hg i hi]
 by_cases e1 : (i : Int) = c
 ·have e1 : i = c := by omega
  subst e1
  simp
  omega
 ·rw [if_neg e1]
  split
  ·simp; omega
  ·simp; omega
theorem app_ints (Ω : Om) {b : AV} {ns : List Int} (hb : IsL 1 (ns.map intR) b) : Pr.sem Ω (.app 1) [.sl 1 [], b] = .sl 1 (ns.map intR) := by
 have hr := hb.rows
 simp only [Pr.sem]
 rw [hr]
 cases ns <;> simp [AV.rowsL]
theorem law11 {a b : AV} {l : List Op} (h : OpsOk a l) (c r : Int) {ns : List Int} (hb : IsL 1 (ns.map intR) b) (hn : ns.length < 1048577) : F11 [a, ia c, ia r, b] = some (.bool true) := by
 obtain ⟨b1, f32⟩ := p32 h
 have f16 : F16 [] = some (.bool true) := rfl
 have f34 := p34 h
 have h' := mkO_OpsOk h
 have k34 := mkO_ok l
 have lM := hb.lenM
 have hap := app_ints (calO s11) hb
 have hbs : IsL 1 (ns.map intR) (.sl 1 (ns.map intR)) := .inl rfl
 have cl : ((ns.length : Int)) ≤ 1073741824 := by omega
 cases b1
 ·simp [F11, unitF_eq, t11, f32, f16]
 ·rcases tf_or ((200 : Int) < ns.length) with e0 | e0
  ·simp [F11, unitF_eq, t11, f32, f16, lM, e0]
  ·by_cases hbad : badR l c r = 0
   ·obtain ⟨hb1, r1, r2⟩ := badR0 hbad
    obtain ⟨k, rfl, hk, hck⟩ := bad0 hb1
    obtain ⟨_, h2, h3⟩ := ck0 hck
    have f35 := p35r h k r
    rw [hbad] at f35
    have f55 := p55' h' hbs hbad hk
    have f56 := p56 (r := r) h hb hk
    have f57 := p57 h h2 hk (h3 k hk) r1 (by omega)
    rcases p54' h' hbad hk with ⟨q1, f54⟩ | ⟨q1, v, q2, q3, q4, f54⟩
    ·rw [q1] at f57
     simp [F11, unitF_eq, t11, f32, f16, lM, e0, f34, k34, f54, f35, hap, cl, f55, f56, f57]
    ·rw [q1] at f57
     have kw := mkI_ok (wl l k v (r - 1 - cnt Op.lo l k v l.length) l.length)
     have f56' := p56 (r := r) h (mkI_isL (wl l k v (r - 1 - cnt Op.lo l k v l.length) l.length)) hk
     rw [wit_ok hk h3 q2 q3 q4] at f56'
     simp [F11, unitF_eq, t11, f32, f16, lM, e0, f34, k34, f54, f35, hap, cl, f55, f56, f57, kw, f56']
   ·have f35 := p35r h c r
    have f54 := p54 h' hbad
    have f55 := p55 h' hbs hbad
    simp [F11, unitF_eq, t11, f32, f16, lM, e0, f34, k34, f54, f35, hap, cl, f55, hbad]
end Go.Proofs.YtdjngcfnlfgjkaaGreatDoor.C5
