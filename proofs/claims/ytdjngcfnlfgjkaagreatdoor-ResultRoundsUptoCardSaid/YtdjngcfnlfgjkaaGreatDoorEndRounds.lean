/-
  ResultRounds holds: the card of the second form (what is read is of bulk at most 2^20): CheckRound, Rank and Through against the reference, for all results.
-/
import Derived.Test.YtdjngcfnlfgjkaaGreatDoorLaw
import Derived.Test.YtdjngcfnlfgjkaaGreatDoorP1
import Derived.Test.YtdjngcfnlfgjkaaGreatDoorTie
set_option linter.unusedVariables false
set_option linter.unusedSimpArgs false
set_option linter.unusedSectionVars false
namespace Go.Proofs.YtdjngcfnlfgjkaaGreatDoor.C5
open Go Go.Proofs.YtdjngcfnlfgjkaaGreatDoor.AM Go.Proofs Go.RowKit Go.ChangeShapes Go.WideShapes Go.ChangeAt Go.Proofs.YtdjngcfnlfgjkaaGreatDoor
set_option maxRecDepth 100000
set_option maxHeartbeats 4000000
def xsOf (va : AV) : List Int := va.rowsL.map fun r => (getJ (nth r 0)).nI
theorem xsOf_eq {va : AV} {ys : List Int} (h : IsL 1 (ys.map intR) va) : xsOf va = ys := by
 unfold xsOf
 rw [h.rows, List.map_map]
 have : ((fun r => (getJ (nth r 0)).nI) ∘ intR) = (id : Int → Int) := by funext n; rfl
 rw [this, List.map_id]
abbrev shR : List Sh := [.str, .str, .sl [.int .i64]]
def tri (t : ByteArray × ByteArray × AV) : List AV := [.str t.1, .str t.2.1, t.2.2]
theorem rd_rs {a : AV} {n : Nat} (h : (Sh.sl shR).ok a = true) (hs : a.sz ≤ n) (hn : n ≤ 1048576) : ∃ l : List Rs, RssOk a l := by
 rcases Sh.sl_inv h with rfl | ⟨rows, rfl, hr⟩
 ·exact ⟨[], ⟨isL_nils, by simp, by simp⟩⟩
 ·obtain ⟨ts, rfl⟩ := rows_of (f := tri) (fun r hr => by
   obtain ⟨_, _, rfl, h1, q0⟩ := Sh.oks_inv hr
   obtain ⟨x1, rfl⟩ := Sh.str_inv h1
   obtain ⟨_, _, rfl, h1, q1⟩ := Sh.oks_inv q0
   obtain ⟨x2, rfl⟩ := Sh.str_inv h1
   obtain ⟨x3, _, rfl, h1, q2⟩ := Sh.oks_inv q1
   obtain rfl := Sh.oks_nil_inv q2
   exact ⟨⟨x1, x2, x3⟩, rfl⟩) hr
  have h1 := rows_len (rows := ts.map tri) (fun r hr => by obtain ⟨x, _, rfl⟩ := List.mem_map.1 hr; simp [tri])
  simp only [AV.sz, List.length_map] at hs h1
  have hok : ∀ t ∈ ts, (Sh.sl [.int .i64]).ok t.2.2 = true := fun t ht => by
   have h2 := hr (tri t) (List.mem_map_of_mem ht)
   simp [tri] at h2
   exact h2
  have hsz : ∀ t ∈ ts, t.1.size < 1048577 ∧ t.2.2.sz ≤ n := fun t ht => by
   have := szss_mem (List.mem_map_of_mem (f := tri) ht)
   simp only [tri, AV.szs, AV.sz] at this
   omega
  refine ⟨ts.map fun t => ⟨t.1, t.2.1, t.2.2, xsOf t.2.2⟩, ⟨?_, by rw [List.length_map]; omega, fun r hr => ?_⟩⟩
  ·have e : (ts.map fun t => (⟨t.1, t.2.1, t.2.2, xsOf t.2.2⟩ : Rs)).map Rs.row = ts.map tri := by
    rw [List.map_map]; rfl
   rw [e]; exact isL_sl
  ·obtain ⟨t, ht, rfl⟩ := List.mem_map.1 hr
   obtain ⟨z1, z2⟩ := hsz t ht
   obtain ⟨ys, hy, hyl⟩ := rd_int (hok t ht) z2
   have e := xsOf_eq hy
   exact ⟨by simp only [e]; exact hy, by simp only [e]; omega, z1⟩
theorem rss3 : mapO (rsT tab) Tryz.f3.params.toList = some [.one (.sl shR), .one (.int .i64)] := by kernel_rfl
theorem lay3 : Tryz.f3.params.toList.all (layOk tab 20) = true := by kernel_rfl
theorem rec3 : Tryz.f3.params.toList.all (fun t => Tryz.prog.readableRec t && decide (t < Tryz.prog.types.size)) = true := by kernel_rfl
theorem ans3 (xs : List AV) (h : RS.oks [.one (.sl shR), .one (.int .i64)] xs = true) (hs : (xs.map AV.szc).sum ≤ 1048576) (hr : ∀ x ∈ xs, x.rg) : extI i3 F3 xs = some (.bool true) := by
 obtain ⟨x1, _, rfl, h1, q0⟩ := RS.oks_inv h
 obtain ⟨x2, _, rfl, h2, q1⟩ := RS.oks_inv q0
 obtain rfl := RS.oks_nil_inv q1
 simp only [List.map_cons, List.map_nil, List.sum_cons, List.sum_nil] at hs
 have h1 : (Sh.sl shR).ok x1 = true := h1
 obtain ⟨c, rfl⟩ := Sh.int_inv (show (Sh.int .i64).ok x2 = true from h2)
 have hz : x1.sz ≤ 1048576 := by
  have : x1.szc = x1.sz := by cases x1 <;> first | rfl | simp [Sh.ok] at h1
  omega
 obtain ⟨l, ho⟩ := rd_rs h1 hz (Nat.le_refl _)
 have hL := law3 ho c
 simp only [extI, i3, Si, mtVs, mtV, h1, ok_int, if_true, List.append_nil, List.nil_append, List.cons_append, List.map_cons, List.map_nil, List.length_cons, List.length_nil]
 rw [if_pos (by decide)]
 exact hL
end Go.Proofs.YtdjngcfnlfgjkaaGreatDoor.C5

namespace Go.Proofs.YtdjngcfnlfgjkaaGreatDoor.fnRounds
open Go Go.Proofs.YtdjngcfnlfgjkaaGreatDoor.AM C5 Go.Proofs Go.RowKit Go.ChangeShapes Go.WideShapes Go.ChangeAt
set_option maxRecDepth 100000
def wargs : Array Value := #[.slice none 0 0, .int .i64 0]
theorem reads (os : Os) {H : Type} (enc : TypeId × Value → H) : ∃ places, DataW.whole enc Tryz.prog ((laidWorld os).forCall (fun _ _ => 0) ⟨#[], wargs, []⟩).memory Tryz.f3.params.toList Rows.resultRoundsSpec.vars false wargs.toList 8 = some ([.nil, .lit (.int .i64 0)], [], places) :=
 ⟨[], by kernel_rfl⟩
theorem liftedUpto (os : Os) (started : os.Started) (H : Type) (enc : TypeId × Value → H) (F : Stop.Interp) :
  ReturnsInHanded {} Tryz.checked os 3 .any ((Rows.OpenSpec.upto Rows.resultRoundsSpec).preRow enc Tryz.prog Tryz.f3 Rows.resultRoundsUptoRow.domain false Rows.resultRoundsUptoRow.laid) (((Rows.OpenSpec.upto Rows.resultRoundsSpec).at F).post enc Tryz.prog Tryz.f3 false true false false) := by
 obtain ⟨places, hx⟩ := reads os enc
 refine returnsInHanded_of_row (C := Tryz.checked) (s := Rows.OpenSpec.upto Rows.resultRoundsSpec) ownT started (by kernel_rfl) Tryz.func3
  (witness_row_at (enc := enc) (C := Tryz.checked) false (laidWorld os) wargs rfl (by kernel_rfl) (by kernel_rfl) (by kernel_rfl)
   (OpenSpec.preRow_of_cond 8 hx (by kernel_rfl) (fun k hk => by cases hk; kernel_rfl) (by kernel_rfl) (laid_met os wargs))) ?_
 intro W base args ds gs before hval hW _ hcond _ hL _ _
 exact contractU (spec := Rows.resultRoundsSpec) (row := Rows.resultRoundsUptoRow) x3.1 rss3 lay3 rec3 rfl (by kernel_rfl) rfl
  (fun H ds h => by
   obtain ⟨a, b, rfl⟩ : ∃ a b, ds = [a, b] := by
    have h3 : ds.length = 2 := h
    match ds, h3 with
    | [a, b], _ => exact ⟨a, b, rfl⟩
   rfl) ans3 H enc W base args ds gs before hval hW (hcond _ rfl) hL
theorem jPlace : (Rows.resultRoundsUptoRow.inPlace == Tryz.prog.inPlace 3) = true := by kernel_rfl
theorem jUnf : (Rows.resultRoundsUptoRow.unfollowed == Tryz.prog.unfollowed 3) = true := by kernel_rfl
theorem jRec : (Rows.resultRoundsUptoRow.recurses == Tryz.prog.recurses 3) = true := by kernel_rfl
theorem jNamed : (Rows.resultRoundsUptoRow.named == Tryz.prog.varsNamed 3) = true := by kernel_rfl
theorem jName : Tryz.prog.funcNamed "crux/cruxlaw07.ResultRounds" = some 3 := by kernel_rfl
theorem joined : joinedFacts Tryz.prog 3 Tryz.f3 Rows.resultRoundsSpec Rows.resultRoundsUptoRow = true :=
 joined_of (by kernel_rfl) laidOutT jMaps (by kernel_rfl) (by kernel_rfl) rfl jStops rfl jKnobs jPlace jUnf jRec jNamed (by kernel_rfl) (by kernel_rfl) (by kernel_rfl) (by kernel_rfl) (by kernel_rfl) rfl (by kernel_rfl) (by kernel_rfl) (by kernel_rfl)
  jKeys rfl jHeard jEnter jLifted jMake rfl (by kernel_rfl) (by kernel_rfl) (by kernel_rfl)
theorem inst : Tryz.f3.isInstance Tryz.prog Rows.resultRoundsUptoRow.origin Rows.resultRoundsUptoRow.targs := of_decide_eq_true (by kernel_rfl)
theorem wrap : Tryz.f3.isWrapper Tryz.prog Rows.resultRoundsUptoRow.wrapper Rows.resultRoundsUptoRow.mainSum := by
 unfold Func.isWrapper; first | (rw [if_pos (by decide +kernel)]; kernel_rfl) | (rw [if_neg (by decide +kernel)]; exact ⟨rfl, rfl⟩)
theorem saidUpto : Rows.ResultRoundsUptoSaid :=
 OpenClaim.holds_of_cond 3 Tryz.f3 rfl rfl rfl rfl rfl rfl rfl ⟨rfl, rfl, rfl, rfl, rfl⟩ rfl rfl rfl rfl rfl jName Tryz.func3 joined inst wrap
  (fun os started H enc _ F => by rw [OpenClaim.pre_eq_preRow]; exact liftedUpto os started H enc F)
theorem plain (f : FuncId) (fn : Func) (hf : Tryz.pinned.checked.prog.funcNamed "crux/cruxlaw07.ResultRounds" = some f) (hfn : Tryz.pinned.checked.prog.funcs[f]? = some fn) :
  false = Tryz.pinned.checked.prog.looks [] ∧ ∀ (j : Nat) t, fn.params[j]? = some t → Tryz.pinned.checked.prog.wantsStandIn t = false := by
 obtain rfl : f = 3 := Option.some.inj (jName.symm.trans hf) |>.symm
 obtain rfl : fn = Tryz.f3 := (Option.some.inj (Tryz.func3.symm.trans hfn)).symm
 refine ⟨by kernel_rfl, fun j t ht => ?_⟩
 have hall : (Tryz.f3.params.toList.all fun u => !Tryz.prog.wantsStandIn u) = true := by kernel_rfl
 have hm : t ∈ Tryz.f3.params.toList := by simpa using Array.mem_of_getElem? ht
 exact (show Tryz.prog.wantsStandIn t = false by simpa using List.all_eq_true.1 hall t hm)
theorem cardUpto : Rows.ResultRoundsUptoCardSaid :=
 Claim7.holds_tied_plain_at .later [] _ _ _ _ saidUpto (fun _ h => by cases h) (by kernel_rfl) (fun _ h => by cases h) resultRoundsUpto_row_tie rfl ⟨rfl, rfl⟩ (by kernel_rfl) rfl plain (by kernel_rfl)
#print axioms cardUpto
end Go.Proofs.YtdjngcfnlfgjkaaGreatDoor.fnRounds
