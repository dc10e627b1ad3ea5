/-
  Plain lemmas (first part).
-/
import Derived.Test.YtdeaibcebeofiaaGreatDoorF1
import Derived.Lib.DecodeN
set_option linter.unusedVariables false
set_option linter.unusedSimpArgs false
set_option linter.unusedSectionVars false
namespace Go.Proofs.YtdeaibcebeofiaaGreatDoor.C5
open Go Go.Proofs.YtdeaibcebeofiaaGreatDoor.AM
def stepG (Ω : Om) (vs : List AV) : Te LEnd → Option (List AV ⊕ AV)
 | .ok (.again ys) => some (.inl (X.dens Ω vs ys))
 | .ok (.out tag zs) => some (.inr (.tuple (.int .i64 tag :: X.dens Ω vs zs)))
 | .fail _ => none
 | .need p t => if (X.den Ω vs p).bB = true then stepG Ω vs t else none
 | .ite c a b => if (X.den Ω vs c).bB = true then stepG Ω vs a else stepG Ω vs b
theorem stepG_eq (Ω : Om) (vs : List AV) : ∀ (B : Te LEnd), stepG Ω vs B = (match B.sel (X.den Ω vs) with
  | some (.again ys) => some (.inl (ys.map (X.den Ω vs)))
  | some (.out tag zs) => some (.inr (.tuple (.int .i64 tag :: zs.map (X.den Ω vs))))
  | none => none)
 | .ok (.again ys) => by simp only [stepG, Te.sel, X.dens_map]
 | .ok (.out tag zs) => by simp only [stepG, Te.sel, X.dens_map]
 | .fail _ => rfl
 | .need p t => by
   simp only [stepG, Te.sel]
   cases (X.den Ω vs p).bB with
   | true => simpa using stepG_eq Ω vs t
   | false => rfl
 | .ite c a b => by
   simp only [stepG, Te.sel]
   cases (X.den Ω vs c).bB with
   | true => simpa using stepG_eq Ω vs a
   | false => simpa using stepG_eq Ω vs b
theorem loopG_again {Ω : Om} {B : Te LEnd} {vs vs' : List AV} {K : Nat} (h : stepG Ω vs B = some (.inl vs')) : loopG Ω B (K + 1) vs = loopG Ω B K vs' := by
 rw [stepG_eq] at h
 simp only [loopG]
 split at h <;> simp_all
theorem loopG_out {Ω : Om} {B : Te LEnd} {vs : List AV} {r : AV} {K : Nat} (h : stepG Ω vs B = some (.inr r)) : loopG Ω B (K + 1) vs = some r := by
 rw [stepG_eq] at h
 simp only [loopG]
 split at h <;> simp_all
def valT (Ω : Om) (vs : List AV) : Te AV → Option AV
 | .ok a => some (AV.den (X.den Ω vs) id a)
 | .fail _ => none
 | .need p t => if (X.den Ω vs p).bB = true then valT Ω vs t else none
 | .ite c a b => if (X.den Ω vs c).bB = true then valT Ω vs a else valT Ω vs b
theorem unitF_eq (Ω : Om) (vs : List AV) : ∀ (t : Te AV), unitF Ω t vs = valT Ω vs t
 | .ok a => rfl
 | .fail _ => rfl
 | .need p t => by
   have := unitF_eq Ω vs t
   simp only [unitF, valT, Te.sel] at *
   cases (X.den Ω vs p).bB with
   | true => simpa using this
   | false => rfl
 | .ite c a b => by
   have h1 := unitF_eq Ω vs a
   have h2 := unitF_eq Ω vs b
   simp only [unitF, valT, Te.sel] at *
   cases (X.den Ω vs c).bB with
   | true => simpa using h1
   | false => simpa using h2
theorem loop_scan {Ω : Om} {B : Te LEnd} {st : Nat → List AV} {n : Nat} {res : Nat → Option AV} {fin : AV}
  (hs : ∀ i, i < n → stepG Ω (st i) B = some (match res i with | some r => .inr r | none => .inl (st (i + 1))))
  (hf : stepG Ω (st n) B = some (.inr fin)) : ∀ (j i K : Nat), i + j = n → j < K → loopG Ω B K (st i) = some (((List.range' i j).findSome? res).getD fin)
 | 0, i, K, hi, hK => by
   obtain ⟨K, rfl⟩ : ∃ m, K = m + 1 := ⟨K - 1, by omega⟩
   have : i = n := by omega
   subst this
   rw [loopG_out hf]; rfl
 | j + 1, i, K, hi, hK => by
   obtain ⟨K, rfl⟩ : ∃ m, K = m + 1 := ⟨K - 1, by omega⟩
   have h1 := hs i (by omega)
   cases hr : res i with
   | some r =>
     rw [hr] at h1
     rw [loopG_out h1]
     simp [List.range'_succ, hr]
   | none =>
     rw [hr] at h1
     rw [loopG_again h1, loop_scan hs hf j (i + 1) K (by omega) (by omega)]
     simp [List.range'_succ, hr]
theorem range_find {α β : Type} (l : List α) (g : α → Option β) (d : Nat → Option β) (h : ∀ i (hi : i < l.length), d i = g l[i]) : (List.range' 0 l.length).findSome? d = l.findSome? g := by
 have : ∀ (l : List α) (i : Nat), (∀ j (hj : j < l.length), d (i + j) = g l[j]) → (List.range' i l.length).findSome? d = l.findSome? g := by
  intro l
  induction l with
  | nil => intro i _; rfl
  | cons a l ih =>
    intro i h
    have h0 := h 0 (by simp)
    simp at h0
    rw [List.length_cons, List.range'_succ, List.findSome?_cons, List.findSome?_cons, h0, ih (i + 1) (fun j hj => by
     have := h (j + 1) (by simp; omega)
     rw [show i + 1 + j = i + (j + 1) by omega, this]; rfl)]
 exact this l 0 (fun j hj => by rw [Nat.zero_add]; exact h j hj)
def IsL (k : Nat) (rows : List (List AV)) (a : AV) : Prop := a = .sl k rows ∨ (a = .nils ∧ rows = [])
theorem IsL.rows {k : Nat} {rows : List (List AV)} {a : AV} (h : IsL k rows a) : a.rowsL = rows := by
 rcases h with rfl | ⟨rfl, rfl⟩ <;> rfl
theorem IsL.len {k : Nat} {rows : List (List AV)} {a : AV} (h : IsL k rows a) : a.lenN = rows.length := by
 rcases h with rfl | ⟨rfl, rfl⟩ <;> rfl
theorem IsL.ok {k : Nat} {rows : List (List AV)} {a : AV} {cs : List Sh} (h : IsL k rows a) (hk : k = cs.length) (hr : rows.all (Sh.oks cs) = true) : (Sh.sl cs).ok a = true := by
 rcases h with rfl | ⟨rfl, rfl⟩
 ·simp only [Sh.ok, hk, beq_self_eq_true, hr, Bool.and_self]
 ·rfl
theorem i64w {n : Int} (h1 : -9223372036854775808 ≤ n) (h2 : n ≤ 9223372036854775807) : IntKind.i64.wrap n = n := by
 rw [IntKind.wrap_i64]; omega
section
variable (Ω : Om) (a b c : AV)
@[simp] theorem s_add (k : IntKind) : Pr.sem Ω (.bin .add k) [a, b] = .int k (k.wrap (a.nI + b.nI)) := rfl
@[simp] theorem s_sub (k : IntKind) : Pr.sem Ω (.bin .sub k) [a, b] = .int k (k.wrap (a.nI - b.nI)) := rfl
@[simp] theorem s_eql (k : IntKind) : Pr.sem Ω (.bin .eql k) [a, b] = .bool (a.nI == b.nI) := rfl
@[simp] theorem s_neq (k : IntKind) : Pr.sem Ω (.bin .neq k) [a, b] = .bool (a.nI != b.nI) := rfl
@[simp] theorem s_lss (k : IntKind) : Pr.sem Ω (.bin .lss k) [a, b] = .bool (decide (a.nI < b.nI)) := rfl
@[simp] theorem s_leq (k : IntKind) : Pr.sem Ω (.bin .leq k) [a, b] = .bool (decide (a.nI ≤ b.nI)) := rfl
@[simp] theorem s_gtr (k : IntKind) : Pr.sem Ω (.bin .gtr k) [a, b] = .bool (decide (a.nI > b.nI)) := rfl
@[simp] theorem s_geq (k : IntKind) : Pr.sem Ω (.bin .geq k) [a, b] = .bool (decide (a.nI ≥ b.nI)) := rfl
@[simp] theorem s_seql : Pr.sem Ω (.sbin .eql) [a, b] = .bool (a.sS.toList == b.sS.toList) := rfl
@[simp] theorem s_sneq : Pr.sem Ω (.sbin .neq) [a, b] = .bool (!(a.sS.toList == b.sS.toList)) := rfl
@[simp] theorem s_not : Pr.sem Ω .not [a] = .bool (!a.bB) := rfl
@[simp] theorem s_beq : Pr.sem Ω .beq [a, b] = .bool (a.bB == b.bB) := rfl
@[simp] theorem s_ite : Pr.sem Ω .ite [c, a, b] = if c.bB = true then a else b := by
  show (match c.bB with | true => a | false => b) = _
  cases c.bB <;> rfl
@[simp] theorem s_len : Pr.sem Ω .len [a] = .int .i64 a.lenN := rfl
@[simp] theorem s_cell (o : Nat) : Pr.sem Ω (.cell o) [a, b] = getJ (nth (getL (nth a.rowsL b.nI.toNat)) o) := rfl
@[simp] theorem s_proj (i : Nat) : Pr.sem Ω (.proj i) [a] = getJ (nth a.tupL i) := rfl
@[simp] theorem s_fld (i : Nat) : Pr.sem Ω (.fld i) [a] = getJ (nth a.aggL i) := rfl
@[simp] theorem s_call (f n : Nat) (xs : List AV) : Pr.sem Ω (.call f n) xs = Ω f n xs := rfl
@[simp] theorem s_okr (rs : List RS) : Pr.sem Ω (.okr rs) [a] = .bool (RS.okr rs a) := rfl
@[simp] theorem s_keq : Pr.sem Ω .keq [a, b] = .bool (match keyEq a b with | some c => c | none => false) := rfl
@[simp] theorem s_app (k : Nat) : Pr.sem Ω (.app k) [a, b] = (match b.rowsL with | [] => a | r :: rs => .sl k (a.rowsL ++ (r :: rs))) := rfl
end
section
variable (a b c : AV) (xs ys : List AV) (n : Int) (k : IntKind)
@[simp] theorem nI_int : AV.nI (.int k n) = n := rfl
@[simp] theorem bB_bool (b : Bool) : AV.bB (.bool b) = b := rfl
@[simp] theorem sS_str (s : ByteArray) : AV.sS (.str s) = s := rfl
@[simp] theorem tupL_tup : AV.tupL (.tuple xs) = xs := rfl
@[simp] theorem aggL_agg : AV.aggL (.agg xs) = xs := rfl
@[simp] theorem lenN_str (s : ByteArray) : AV.lenN (.str s) = s.size := rfl
@[simp] theorem lenN_sl (j : Nat) (r : List (List AV)) : AV.lenN (.sl j r) = r.length := rfl
@[simp] theorem lenN_nils : AV.lenN .nils = 0 := rfl
@[simp] theorem rowsL_sl (j : Nat) (r : List (List AV)) : AV.rowsL (.sl j r) = r := rfl
@[simp] theorem rowsL_nils : AV.rowsL .nils = [] := rfl
@[simp] theorem getJ_some : getJ (some a) = a := rfl
@[simp] theorem getL_some {α : Type} (l : List α) : getL (some l) = l := rfl
@[simp] theorem nth_nil {α : Type} (n : Nat) : nth ([] : List α) n = none := rfl
@[simp] theorem nth_zero {α : Type} (a : α) (l : List α) : nth (a :: l) 0 = some a := rfl
@[simp] theorem nth_succ {α : Type} (a : α) (l : List α) (n : Nat) : nth (a :: l) (n + 1) = nth l n := rfl
@[simp] theorem nth_lit {α : Type} (a : α) (l : List α) (n : Nat) : nth (a :: l) (OfNat.ofNat (n + 1)) = nth l n := rfl
end
section
variable (Ω : Om) (ρ : List AV)
@[simp] theorem d_v (n : Nat) : X.den Ω ρ (.v n) = getJ (nth ρ n) := rfl
@[simp] theorem d_b (b : Bool) : X.den Ω ρ (.b b) = .bool b := rfl
@[simp] theorem d_i (k : IntKind) (n : Int) : X.den Ω ρ (.i k n) = .int k n := rfl
@[simp] theorem d_s (s : ByteArray) : X.den Ω ρ (.s s) = .str s := rfl
@[simp] theorem d_nils : X.den Ω ρ .nils = .nils := rfl
@[simp] theorem d_sl (k : Nat) (r : List (List X)) : X.den Ω ρ (.sl k r) = .sl k (X.denss Ω ρ r) := rfl
@[simp] theorem d_agg (l : List X) : X.den Ω ρ (.agg l) = .agg (X.dens Ω ρ l) := rfl
@[simp] theorem d_p (o : Pr) (l : List X) : X.den Ω ρ (.p o l) = o.sem Ω (X.dens Ω ρ l) := rfl
@[simp] theorem ds_nil : X.dens Ω ρ [] = [] := rfl
@[simp] theorem ds_cons (e : X) (l : List X) : X.dens Ω ρ (e :: l) = X.den Ω ρ e :: X.dens Ω ρ l := rfl
@[simp] theorem dss_nil : X.denss Ω ρ [] = [] := rfl
@[simp] theorem dss_cons (e : List X) (l : List (List X)) : X.denss Ω ρ (e :: l) = X.dens Ω ρ e :: X.denss Ω ρ l := rfl
variable {α : Type} (V : X → AV)
@[simp] theorem bB_ite (p : Prop) [Decidable p] (a b : AV) : (if p then a else b).bB = if p then a.bB else b.bB := by split <;> rfl
@[simp] theorem nI_ite (p : Prop) [Decidable p] (a b : AV) : (if p then a else b).nI = if p then a.nI else b.nI := by split <;> rfl
attribute [simp] stepG valT
@[simp] theorem int_ite (p : Prop) [Decidable p] (k : IntKind) (a b : Int) : (if p then AV.int k a else AV.int k b) = AV.int k (if p then a else b) := by split <;> rfl
@[simp] theorem bool_ite (p : Prop) [Decidable p] (a b : Bool) : (if p then AV.bool a else AV.bool b) = AV.bool (if p then a else b) := by split <;> rfl
@[simp] theorem beqB (a b : ByteArray) : (a == b) = decide (a = b) := by
  rcases a with ⟨a⟩
  rcases b with ⟨b⟩
  show (a == b) = decide (ByteArray.mk a = ByteArray.mk b)
  rw [Bool.eq_iff_iff]
  simp
@[simp] theorem v_sym_bool (σ : Nat → Nat) (e : X) : AV.den V σ (.sym .bool e) = V e := rfl
@[simp] theorem v_sym_int (σ : Nat → Nat) (k : IntKind) (e : X) : AV.den V σ (.sym (.int k) e) = V e := rfl
@[simp] theorem v_sym_str (σ : Nat → Nat) (e : X) : AV.den V σ (.sym .str e) = V e := rfl
@[simp] theorem v_sym_sl (σ : Nat → Nat) (cs : List Sh) (e : X) : AV.den V σ (.sym (.sl cs) e) = V e := rfl
@[simp] theorem v_sym_im (σ : Nat → Nat) (k : Sh) (ag : Bool) (cs : List Sh) (e : X) : AV.den V σ (.sym (.im k ag cs) e) = V e := rfl
@[simp] theorem v_tuple (σ : Nat → Nat) (l : List AV) : AV.den V σ (.tuple l) = .tuple (AV.dens V σ l) := rfl
@[simp] theorem v_agg (σ : Nat → Nat) (l : List AV) : AV.den V σ (.agg l) = .agg (AV.dens V σ l) := rfl
@[simp] theorem vs_nil (σ : Nat → Nat) : AV.dens V σ [] = [] := rfl
@[simp] theorem vs_cons (σ : Nat → Nat) (a : AV) (l : List AV) : AV.dens V σ (a :: l) = AV.den V σ a :: AV.dens V σ l := rfl
@[simp] theorem om_nil (K : Nat) (cs : List Cal) : omL K cs [] = calO cs := rfl
@[simp] theorem om_cons (K : Nat) (cs : List Cal) (d : LoopD) (ds : List LoopD) (f n : Nat) (vs : List AV) : omL K cs (d :: ds) f n vs = if f = loopId ∧ n = d.L.id then getJ (loopG (omL K cs ds) d.B K vs) else omL K cs ds f n vs := rfl
@[simp] theorem okr_one (s : Sh) (a : AV) : RS.okr [.one s] a = s.ok a := rfl
@[simp] theorem okr_two (r s : RS) (l : List AV) : RS.okr [r, s] (.tuple l) = RS.oks [r, s] l := rfl
@[simp] theorem oks_cons (r : RS) (rs : List RS) (a : AV) (l : List AV) : RS.oks (r :: rs) (a :: l) = (r.ok a && RS.oks rs l) := rfl
@[simp] theorem oks_nil : RS.oks [] [] = true := rfl
@[simp] theorem rok_one (s : Sh) (a : AV) : (RS.one s).ok a = s.ok a := rfl
@[simp] theorem ok_bool (b : Bool) : Sh.bool.ok (.bool b) = true := rfl
@[simp] theorem ok_int (k : IntKind) (n : Int) : (Sh.int k).ok (.int k n) = true := by simp [Sh.ok]
@[simp] theorem ok_str (s : ByteArray) : Sh.str.ok (.str s) = true := rfl
@[simp] theorem soks_nil : Sh.oks [] [] = true := rfl
@[simp] theorem soks_cons (s : Sh) (ss : List Sh) (a : AV) (l : List AV) : Sh.oks (s :: ss) (a :: l) = (s.ok a && Sh.oks ss l) := rfl
@[simp] theorem ok_nils (cs : List Sh) : (Sh.sl cs).ok .nils = true := rfl
@[simp] theorem ok_sl (cs : List Sh) (k : Nat) (r : List (List AV)) : (Sh.sl cs).ok (.sl k r) = (k == cs.length && r.all (Sh.oks cs)) := rfl
end
theorem toList_inj' {a b : ByteArray} : a.toList = b.toList ↔ a = b := by
 constructor
 ·intro h
  simp only [ByteArray.toList_eq] at h
  rcases a with ⟨a⟩; rcases b with ⟨b⟩
  simp only at h
  rw [Array.toList_inj.1 h]
 ·rintro rfl; rfl
attribute [simp] loopId toList_inj'
end Go.Proofs.YtdeaibcebeofiaaGreatDoor.C5
namespace Go.Proofs.YtdeaibcebeofiaaGreatDoor.C5
open Go Go.Proofs.YtdeaibcebeofiaaGreatDoor.AM
@[reducible] def ia (n : Int) : AV := .int .i64 n
theorem IsL.row {α : Type} {k i : Nat} {f : α → List AV} {l : List α} {a : AV} (h : IsL k (l.map f) a) (hi : i < l.length) : nth a.rowsL (Int.toNat (i : Int)) = some (f l[i]) := by
 rw [h.rows, nth_eq, Int.toNat_natCast, List.getElem?_map, List.getElem?_eq_getElem hi]; rfl
theorem IsL.lenM {α : Type} {k : Nat} {f : α → List AV} {l : List α} {a : AV} (h : IsL k (l.map f) a) : a.lenN = l.length := by
 rw [h.len, List.length_map]
theorem isL_sl {k : Nat} {r : List (List AV)} : IsL k r (.sl k r) := .inl rfl
theorem isL_nils {k : Nat} : IsL k [] .nils := .inr ⟨rfl, rfl⟩
theorem KK_eq : KK = 2097152 := rfl
theorem wS {i : Nat} (h : i < 2097152) : IntKind.i64.wrap ((i : Int) + 1) = ((i + 1 : Nat) : Int) := by
 rw [i64w (by omega) (by omega)]; omega
theorem loop0 {Ω : Om} {B : Te LEnd} (st : Nat → List AV) (n : Nat) (res : Nat → Option AV) (fin : AV) (hn : n < 2097152)
  (hs : ∀ i, i < n → stepG Ω (st i) B = some (match res i with | some r => .inr r | none => .inl (st (i + 1))))
  (hf : stepG Ω (st n) B = some (.inr fin)) : loopG Ω B KK (st 0) = some (((List.range' 0 n).findSome? res).getD fin) :=
 loop_scan hs hf n 0 KK (by omega) (by rw [KK_eq]; omega)
def strR (s : ByteArray) : List AV := [.str s]
end Go.Proofs.YtdeaibcebeofiaaGreatDoor.C5
namespace Go.Proofs.YtdeaibcebeofiaaGreatDoor.C5
open Go Go.Proofs.YtdeaibcebeofiaaGreatDoor.AM
theorem loopL {α : Type} {Ω : Om} {B : Te LEnd} (st : Nat → List AV) (l : List α) (g : α → Option AV) (fin : AV) (hn : l.length < 2097152)
  (hs : ∀ i (hi : i < l.length), stepG Ω (st i) B = some (match g l[i] with | some r => .inr r | none => .inl (st (i + 1))))
  (hf : stepG Ω (st l.length) B = some (.inr fin)) : loopG Ω B KK (st 0) = some ((l.findSome? g).getD fin) := by
 rw [loop0 st l.length (fun i => if h : i < l.length then g l[i] else none) fin hn (fun i hi => by rw [hs i hi, dif_pos hi]) hf,
  range_find l g _ (fun i hi => by rw [dif_pos hi])]
theorem loopF {Ω : Om} {B : Te LEnd} (st : Nat → List AV) (n : Nat) (fin : AV) (hn : n < 2097152)
  (hs : ∀ i, i < n → stepG Ω (st i) B = some (.inl (st (i + 1)))) (hf : stepG Ω (st n) B = some (.inr fin)) : loopG Ω B KK (st 0) = some fin := by
 rw [loop0 st n (fun _ => none) fin hn (fun i hi => hs i hi) hf, List.findSome?_eq_none_iff.2 (fun _ _ => rfl)]
 rfl
end Go.Proofs.YtdeaibcebeofiaaGreatDoor.C5

namespace Go.Proofs.YtdeaibcebeofiaaGreatDoor.C5
open Go Go.Proofs.YtdeaibcebeofiaaGreatDoor.AM
def outB (v lo hi : Int) : Bool := decide (v < lo) || decide (v > hi)
theorem p89 (a b c : Int) : F89 [ia a, ia b, ia c] = some (.bool (outB a b c)) := by
 by_cases h : a < b <;> simp [F89, unitF_eq, t89, outB, h]
def whenI (b : Bool) (n : Int) : Int := if b then n else 0
theorem p103 (b : Bool) (n : Int) : F103 [.bool b, ia n] = some (ia (whenI b n)) := by
 cases b <;> simp [F103, unitF_eq, t103, whenI]
theorem p115 (a b c : Int) : F115 [ia a, ia b, ia c] = some (ia (whenI (outB a b c) 3)) := by
 simp [F115, unitF_eq, t115, p89, p103]
theorem G17700 {Ω : Om} {a : AV} {ns : List ByteArray} (h : IsL 1 (ns.map strR) a) (hn : ns.length < 2097152) (s : ByteArray) :
  loopG Ω B17700 KK [a, .str s, ia ns.length, ia 0] = some (((List.range' 0 ns.length).findSome? fun i => if s = ns.getD i s then some (.tuple [ia 1, ia i]) else none).getD (.tuple [ia 2])) := by
 refine loop0 (fun i => [a, .str s, ia ns.length, ia i]) ns.length _ _ hn (fun i hi => ?_) ?_
 ·have hr : nth a.rowsL (Int.toNat (i : Int)) = some [.str ns[i]] := h.row hi
  have hw := wS (Nat.lt_trans hi hn)
  have hg : ns.getD i s = ns[i] := by simp [hi]
  simp only [hg]
  by_cases hc : s = ns[i] <;> simp_all [B17700, h.lenM]
 ·simp [B17700]
theorem p177 {a : AV} {ns : List ByteArray} (h : IsL 1 (ns.map strR) a) (hn : ns.length < 2097152) (s : ByteArray) :
  ∃ j : Int, F177 [a, .str s] = some (ia j) ∧ (0 ≤ j ↔ s ∈ ns) := by
 have hG := @G17700 (calO s177) _ _ h hn s
 cases hf : (List.range' 0 ns.length).findSome? fun i => if s = ns.getD i s then some (AV.tuple [ia 1, ia i]) else none with
 | none =>
   rw [hf] at hG
   refine ⟨-1, by simp_all [F177, unitF_eq, t177, h.lenM], ?_⟩
   simp only [List.findSome?_eq_none_iff, List.mem_range'_1] at hf
   refine ⟨fun h => by omega, fun hm => ?_⟩
   obtain ⟨i, hi, rfl⟩ := List.getElem_of_mem hm
   have := hf i (by omega)
   simp [hi] at this
 | some r =>
   rw [hf] at hG
   obtain ⟨i, hi, hr⟩ := List.exists_of_findSome?_eq_some hf
   split at hr
   ·rename_i he
    injection hr with hr; subst hr
    simp only [List.mem_range'_1] at hi
    have hl : i < ns.length := by omega
    refine ⟨i, by simp_all [F177, unitF_eq, t177, h.lenM], ?_⟩
    refine ⟨fun _ => ?_, fun _ => by omega⟩
    simp only [List.getD_eq_getElem?_getD, List.getElem?_eq_getElem hl, Option.getD_some] at he
    rw [he]; exact List.getElem_mem hl
   ·cases hr
def memB (s : ByteArray) (ns : List ByteArray) : Bool := ns.any fun x => decide (s = x)
theorem memB_iff {s : ByteArray} {ns : List ByteArray} : memB s ns = true ↔ s ∈ ns := by simp [memB]
theorem p114 {a : AV} {ns : List ByteArray} (h : IsL 1 (ns.map strR) a) (hn : ns.length < 2097152) (s : ByteArray) :
  F114 [a, .str s] = some (.bool (memB s ns)) := by
 obtain ⟨j, h1, h2⟩ := p177 h hn s
 simp [F114, unitF_eq, t114, h1]
 rw [Bool.eq_iff_iff]
 simp [h2, memB_iff]
def intR (n : Int) : List AV := [ia n]
def firstNz (l : List Int) : Int := (l.find? fun n => decide (n ≠ 0)).getD 0
theorem G10200 {Ω : Om} {a : AV} {ns : List Int} (h : IsL 1 (ns.map intR) a) (hn : ns.length < 2097152) :
  loopG Ω B10200 KK [a, ia ns.length, ia 0] = some ((ns.findSome? fun n => if n = 0 then none else some (.tuple [ia 1, ia n])).getD (.tuple [ia 2])) := by
 refine loopL (fun i => [a, ia ns.length, ia i]) ns _ _ hn (fun i hi => ?_) ?_
 ·have hr : nth a.rowsL (Int.toNat (i : Int)) = some [ia ns[i]] := h.row hi
  have hw := wS (Nat.lt_trans hi hn)
  by_cases hc : ns[i] = 0 <;> simp_all [B10200, h.lenM]
 ·simp [B10200]
theorem p102 {a : AV} {ns : List Int} (h : IsL 1 (ns.map intR) a) (hn : ns.length < 2097152) : F102 [a] = some (ia (firstNz ns)) := by
 have hG := @G10200 (calO s102) _ _ h hn
 have : (ns.findSome? fun n => if n = 0 then none else some (AV.tuple [ia 1, ia n])) = (ns.find? fun n => decide (n ≠ 0)).map fun n => AV.tuple [ia 1, ia n] := by
  clear h hn hG
  induction ns with
  | nil => rfl
  | cons n ns ih => by_cases hc : n = 0 <;> simp_all
 rw [this] at hG
 unfold firstNz
 cases hf : ns.find? fun n => decide (n ≠ 0) <;> rw [hf] at hG <;> simp_all [F102, unitF_eq, t102, h.lenM]
theorem p90 (a b c : Int) : F90 [ia a, ia b, ia c] = some (.bool (outB a b c)) := by
 by_cases h : a < b <;> simp [F90, unitF_eq, t90, outB, h]
def mostI (f : ByteArray) : Int := if f = w0 then 64 else if f = w1 then 8 else if f = w2 then 8 else 0
theorem p112 (f : ByteArray) : F112 [.str f] = some (ia (mostI f)) := by
 simp [F112, unitF_eq, t112, mostI, keyEq]
theorem p116 (f : ByteArray) : F116 [.str f] = some (ia (mostI f)) := by
 simp [F116, unitF_eq, t116, mostI]
end Go.Proofs.YtdeaibcebeofiaaGreatDoor.C5

namespace Go.Proofs.YtdeaibcebeofiaaGreatDoor.C5
open Go Go.Proofs.YtdeaibcebeofiaaGreatDoor.AM
set_option maxRecDepth 20000
set_option maxHeartbeats 2000000
theorem p102_3 (a b c : Int) : F102 [.sl 1 [[ia a], [ia b], [ia c]]] = some (ia (firstNz [a, b, c])) :=
 p102 (ns := [a, b, c]) (.inl rfl) (by simp)
theorem p102_2 (a b : Int) : F102 [.sl 1 [[ia a], [ia b]]] = some (ia (firstNz [a, b])) :=
 p102 (ns := [a, b]) (.inl rfl) (by simp)
end Go.Proofs.YtdeaibcebeofiaaGreatDoor.C5

namespace Go.Proofs.YtdeaibcebeofiaaGreatDoor.C5
open Go Go.Proofs.YtdeaibcebeofiaaGreatDoor.AM
set_option maxRecDepth 20000
set_option maxHeartbeats 2000000
def ckOut (l : List Int) : AV := (l.findSome? fun c => if c = 0 then none else some (.tuple [ia 1, ia c])).getD (.tuple [ia 2])
theorem ckOut_map {α : Type} (f : α → Int) (l : List α) : (l.findSome? fun e => if f e = 0 then none else some (AV.tuple [ia 1, ia (f e)])).getD (.tuple [ia 2]) = ckOut (l.map f) := by
 unfold ckOut
 congr 1
 induction l with
 | nil => rfl
 | cons e l ih => simp only [List.map_cons, List.findSome?_cons]; split <;> simp_all
theorem ckOut_cases (l : List Int) : (firstNz l = 0 ∧ ckOut l = .tuple [ia 2]) ∨ (firstNz l ≠ 0 ∧ ckOut l = .tuple [ia 1, ia (firstNz l)]) := by
 unfold ckOut firstNz
 induction l with
 | nil => left; exact ⟨rfl, rfl⟩
 | cons c l ih =>
   by_cases hc : c = 0
   ·simpa [hc] using ih
   ·right; simp [hc]
end Go.Proofs.YtdeaibcebeofiaaGreatDoor.C5

namespace Go.Proofs.YtdeaibcebeofiaaGreatDoor.C5
open Go Go.Proofs.YtdeaibcebeofiaaGreatDoor.AM
set_option maxRecDepth 20000
set_option maxHeartbeats 2000000
def letB (b : Nat) : Bool := (decide (97 ≤ b) && decide (b ≤ 122)) || (decide (65 ≤ b) && decide (b ≤ 90))
def goodB (i b : Nat) : Bool := letB b || (decide (i ≠ 0) && (decide (b = 95) || (decide (48 ≤ b) && decide (b ≤ 57))))
theorem goodB_lt {i b : Nat} (h : goodB i b = true) : b < 128 := by
 simp [goodB, letB] at h
 omega
theorem goodB_eq (i b : Nat) : goodB i b = decide (((97 ≤ b ∧ b ≤ 122) ∨ (65 ≤ b ∧ b ≤ 90)) ∨ (i ≠ 0 ∧ (b = 95 ∨ (48 ≤ b ∧ b ≤ 57)))) := by
 simp [goodB, letB, Bool.decide_or, Bool.decide_and]
theorem s_byte (Ω : Om) (s : ByteArray) (i : Nat) (hi : i < s.size) : Pr.sem Ω .byte [.str s, ia i] = .int .u8 (s[i].toNat : Int) := by
 show AV.int .u8 (match (AV.str s).sS[(ia i).nI.toNat]? with | some b => b.toNat | none => 0) = _
 simp [hi]
theorem s_rune (Ω : Om) (s : ByteArray) (i : Nat) : Pr.sem Ω .rune [.str s, ia i] = .int .i32 (Utf8.decode s i).1 := rfl
theorem s_adv (Ω : Om) (s : ByteArray) (i : Nat) : Pr.sem Ω .adv [.str s, ia i] = .int .i64 (i + (Utf8.decode s i).2) := rfl
theorem get_eq {s : ByteArray} {i : Nat} (hi : i < s.size) : s.get! i = s[i] := by
 rcases s with ⟨a⟩
 have hi' : i < a.size := hi
 show a[i]! = a[i]
 rw [getElem!_pos a i hi']
theorem dec_lo {s : ByteArray} {i : Nat} (hi : i < s.size) (h : s[i].toNat < 128) : Utf8.decode s i = (s[i].toNat, 1) := by
 rw [Lib.decode_at, get_eq hi]
 unfold Lib.decodeN
 rw [if_pos h]
theorem decN_hi (n b0 b1 b2 b3 : Nat) (h : ¬ b0 < 128) : 128 ≤ (Lib.decodeN n b0 b1 b2 b3).1 := by
 unfold Lib.decodeN
 rw [if_neg h]
 repeat' split
 all_goals first | (simp only; omega)
theorem dec_hi {s : ByteArray} {i : Nat} (hi : i < s.size) (h : ¬ s[i].toNat < 128) : 128 ≤ (Utf8.decode s i).1 := by
 rw [Lib.decode_at, get_eq hi]
 exact decN_hi _ _ _ _ _ h
def badO (s : ByteArray) (i : Nat) : Option AV := if goodB i (s[i]?.getD 0).toNat then none else some (.tuple [ia 1])
theorem G11700 {Ω : Om} {s : ByteArray} (hs : s.size < 2097152) :
  loopG Ω B11700 KK [.str s, ia 0] = some (((List.range' 0 s.size).findSome? (badO s)).getD (.tuple [ia 2])) := by
 refine loop0 (fun i => [.str s, ia i]) s.size _ _ hs (fun i hi => ?_) ?_
 ·have hw := wS (Nat.lt_trans hi hs)
  have hb : badO s i = if goodB i s[i].toNat then none else some (.tuple [ia 1]) := by simp [badO, hi]
  rw [hb]
  generalize hc : s[i].toNat = b
  have hsb := s_byte Ω s i hi
  rw [hc] at hsb
  have hw0 : IntKind.i64.wrap 1 = 1 := i64w (by omega) (by omega)
  by_cases h1 : (97 : Int) ≤ b <;> by_cases h2 : (b : Int) ≤ 122 <;> by_cases h3 : (65 : Int) ≤ b <;> by_cases h4 : (b : Int) ≤ 90 <;> by_cases h5 : (48 : Int) ≤ b <;> by_cases h6 : (b : Int) ≤ 57 <;> by_cases h7 : (b : Int) = 95 <;> by_cases h8 : i = 0 <;>
   first
    | (exfalso; omega)
    | (have hg : goodB i b = true := by rw [goodB_eq, decide_eq_true_eq]; omega
       simp [B11700, hsb, hi, hw, hg, h1, h2, h3, h4, h5, h6, h7, h8]
       done)
    | (have hg : goodB i b = true := by rw [goodB_eq, decide_eq_true_eq]; omega
       subst h8
       have hsb0 : Pr.sem Ω .byte [.str s, ia 0] = .int .u8 b := hsb
       simp [B11700, hsb0, hi, hw0, hg, h1, h2, h3, h4, h5, h6, h7]
       done)
    | (have hg : goodB i b = false := by rw [goodB_eq, decide_eq_false_iff_not]; omega
       simp [B11700, hsb, hi, hw, hg, h1, h2, h3, h4, h5, h6, h7, h8]
       done)
    | (have hg : goodB i b = false := by rw [goodB_eq, decide_eq_false_iff_not]; omega
       subst h8
       have hsb0 : Pr.sem Ω .byte [.str s, ia 0] = .int .u8 b := hsb
       simp [B11700, hsb0, hi, hw0, hg, h1, h2, h3, h4, h5, h6, h7]
       done)
 ·simp [B11700]
theorem G11300 {Ω : Om} {s v : ByteArray} (hs : s.size < 2097152) :
  loopG Ω B11300 KK [.str v, .str s, ia 0] = some (((List.range' 0 s.size).findSome? (badO s)).getD (.tuple [ia 2, .str v])) := by
 refine loop0 (fun i => [.str v, .str s, ia i]) s.size _ _ hs (fun i hi => ?_) ?_
 ·have hb : badO s i = if goodB i s[i].toNat then none else some (.tuple [ia 1]) := by simp [badO, hi]
  rw [hb]
  obtain ⟨r, k, hrk⟩ : ∃ r k, Utf8.decode s i = (r, k) := ⟨_, _, rfl⟩
  have hsr : Pr.sem Ω .rune [.str s, ia i] = .int .i32 (r : Int) := by rw [s_rune, hrk]
  have hsa : Pr.sem Ω .adv [.str s, ia i] = .int .i64 ((i : Int) + k) := by rw [s_adv, hrk]
  have hm : goodB i s[i].toNat = goodB i r := by
   by_cases hl : s[i].toNat < 128
   ·have := dec_lo hi hl
    rw [hrk] at this
    injection this with h1 h2
    rw [h1]
   ·have h1 := dec_hi hi hl
    rw [hrk] at h1
    have h2 : goodB i s[i].toNat = false := by
     cases h : goodB i s[i].toNat with
     | false => rfl
     | true => exact absurd (goodB_lt h) hl
    have h3 : goodB i r = false := by
     cases h : goodB i r with
     | false => rfl
     | true => have := goodB_lt h; simp only at h1; omega
    rw [h2, h3]
  have hk : goodB i r = true → k = 1 := by
   intro h
   rw [← hm] at h
   have := dec_lo hi (goodB_lt h)
   rw [hrk] at this
   injection this
  have hw0 : IntKind.i64.wrap 1 = 1 := i64w (by omega) (by omega)
  by_cases h1 : (97 : Int) ≤ r <;> by_cases h2 : (r : Int) ≤ 122 <;> by_cases h3 : (65 : Int) ≤ r <;> by_cases h4 : (r : Int) ≤ 90 <;> by_cases h5 : (r : Int) < 48 <;> by_cases h6 : (57 : Int) < r <;> by_cases h7 : (r : Int) = 95 <;> by_cases h8 : i = 0 <;>
   first
    | (exfalso; omega)
    | (have hg : goodB i r = true := by rw [goodB_eq, decide_eq_true_eq]; omega
       have hk1 := hk hg
       subst hk1
       rw [show ((1 : Nat) : Int) = 1 from rfl] at hsa
       simp [B11300, hsr, hsa, hi, hg, hm, h1, h2, h3, h4, h5, h6, h7, h8]
       done)
    | (have hg : goodB i r = true := by rw [goodB_eq, decide_eq_true_eq]; omega
       have hk1 := hk hg
       subst hk1
       subst h8
       have hsr0 : Pr.sem Ω .rune [.str s, ia 0] = .int .i32 r := hsr
       have hsa0 : Pr.sem Ω .adv [.str s, ia 0] = .int .i64 1 := hsa
       simp [B11300, hsr0, hsa0, hi, hg, hm, h1, h2, h3, h4, h5, h6, h7]
       done)
    | (have hg : goodB i r = false := by rw [goodB_eq, decide_eq_false_iff_not]; omega
       simp [B11300, hsr, hi, hg, hm, h1, h2, h3, h4, h5, h6, h7, h8]
       done)
    | (have hg : goodB i r = false := by rw [goodB_eq, decide_eq_false_iff_not]; omega
       subst h8
       have hsr0 : Pr.sem Ω .rune [.str s, ia 0] = .int .i32 r := hsr
       simp [B11300, hsr0, hi, hg, hm, h1, h2, h3, h4, h5, h6, h7]
       done)
 ·simp [B11300]
end Go.Proofs.YtdeaibcebeofiaaGreatDoor.C5
