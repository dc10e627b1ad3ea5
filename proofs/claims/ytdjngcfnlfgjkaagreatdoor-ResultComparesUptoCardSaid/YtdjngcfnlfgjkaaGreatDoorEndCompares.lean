/-
  ResultCompares holds: the card of the second form (what is read is of bulk at most 2^20): Compare returns the number or the error of the reference, for every two results.
-/
import Derived.Test.YtdjngcfnlfgjkaaGreatDoorLaw
import Derived.Test.YtdjngcfnlfgjkaaGreatDoorTie
set_option linter.unusedVariables false
set_option linter.unusedSimpArgs false
set_option linter.unusedSectionVars false
namespace Go.Proofs.YtdjngcfnlfgjkaaGreatDoor.C5
open Go Go.Proofs.YtdjngcfnlfgjkaaGreatDoor.AM Go.Proofs Go.RowKit Go.ChangeShapes Go.WideShapes Go.ChangeAt Go.Proofs.YtdjngcfnlfgjkaaGreatDoor
set_option maxRecDepth 100000
set_option maxHeartbeats 4000000
theorem rss8 : mapO (rsT tab) Tryz.f8.params.toList = some [rsRes, rsRes] := by kernel_rfl
theorem lay8 : Tryz.f8.params.toList.all (layOk tab 20) = true := by kernel_rfl
theorem rec8 : Tryz.f8.params.toList.all (fun t => Tryz.prog.readableRec t && decide (t < Tryz.prog.types.size)) = true := by kernel_rfl
theorem ans8 (xs : List AV) (h : RS.oks [rsRes, rsRes] xs = true) (hs : (xs.map AV.szc).sum ≤ 1048576) : extI i8 F8 xs = some (.bool true) := by
 obtain ⟨x1, _, rfl, h1, q0⟩ := RS.oks_inv h
 obtain ⟨x2, _, rfl, h2, q1⟩ := RS.oks_inv q0
 obtain rfl := RS.oks_nil_inv q1
 simp only [List.map_cons, List.map_nil, List.sum_cons, List.sum_nil] at hs
 obtain ⟨a, rfl, ha, oa⟩ := rd_res h1 (n := 1048576) (by omega) (Nat.le_refl _)
 obtain ⟨b, rfl, hb, ob⟩ := rd_res h2 (n := 1048576) (by omega) (Nat.le_refl _)
 have hL := law8 ha hb oa ob
 simp only [Rs.row, List.cons_append, List.nil_append] at hL ⊢
 simp only [extI, i8, mtVs, mtV, oa, ob, ok_str, ok_int, if_true, List.append_nil, List.nil_append, List.cons_append, List.map_cons, List.map_nil, List.length_cons, List.length_nil]
 rw [if_pos (by decide)]
 exact hL
end Go.Proofs.YtdjngcfnlfgjkaaGreatDoor.C5

namespace Go.Proofs.YtdjngcfnlfgjkaaGreatDoor.fnCompares
open Go Go.Proofs.YtdjngcfnlfgjkaaGreatDoor.AM C5 Go.Proofs Go.RowKit Go.ChangeShapes Go.WideShapes Go.ChangeAt
set_option maxRecDepth 100000
def wargs : Array Value := #[zRes, zRes]
theorem reads (os : Os) {H : Type} (enc : TypeId × Value → H) : ∃ places, DataW.whole enc Tryz.prog ((laidWorld os).forCall (fun _ _ => 0) ⟨#[], wargs, []⟩).memory Tryz.f8.params.toList Rows.resultComparesSpec.vars false wargs.toList 8 = some ([dRes, dRes], [], places) :=
 ⟨[], by kernel_rfl⟩
theorem liftedUpto (os : Os) (started : os.Started) (H : Type) (enc : TypeId × Value → H) (F : Stop.Interp) :
  ReturnsInHanded {} Tryz.checked os 8 .any ((Rows.OpenSpec.upto Rows.resultComparesSpec).preRow enc Tryz.prog Tryz.f8 Rows.resultComparesUptoRow.domain false Rows.resultComparesUptoRow.laid) (((Rows.OpenSpec.upto Rows.resultComparesSpec).at F).post enc Tryz.prog Tryz.f8 false true false false) := by
 obtain ⟨places, hx⟩ := reads os enc
 refine returnsInHanded_of_row (C := Tryz.checked) (s := Rows.OpenSpec.upto Rows.resultComparesSpec) ownT started (by kernel_rfl) Tryz.func8
  (witness_row_at (enc := enc) (C := Tryz.checked) false (laidWorld os) wargs rfl (by kernel_rfl) (by kernel_rfl) (by kernel_rfl)
   (OpenSpec.preRow_of_cond 8 hx (by kernel_rfl) (fun k hk => by cases hk; kernel_rfl) (by kernel_rfl) (laid_met os wargs))) ?_
 intro W base args ds gs before hval hW _ hcond _ hL _ _
 exact contractU (spec := Rows.resultComparesSpec) (row := Rows.resultComparesUptoRow) x8 rss8 lay8 rec8 rfl (by kernel_rfl) rfl
  (fun H ds h => by
   obtain ⟨a, b, rfl⟩ : ∃ a b, ds = [a, b] := by
    have h3 : ds.length = 2 := h
    match ds, h3 with
    | [a, b], _ => exact ⟨a, b, rfl⟩
   rfl) ans8 H enc W base args ds gs before hval hW (hcond _ rfl) hL
theorem jPlace : (Rows.resultComparesUptoRow.inPlace == Tryz.prog.inPlace 8) = true := by kernel_rfl
theorem jUnf : (Rows.resultComparesUptoRow.unfollowed == Tryz.prog.unfollowed 8) = true := by kernel_rfl
theorem jRec : (Rows.resultComparesUptoRow.recurses == Tryz.prog.recurses 8) = true := by kernel_rfl
theorem jNamed : (Rows.resultComparesUptoRow.named == Tryz.prog.varsNamed 8) = true := by kernel_rfl
theorem jName : Tryz.prog.funcNamed "crux/cruxlaw07.ResultCompares" = some 8 := by kernel_rfl
theorem joined : joinedFacts Tryz.prog 8 Tryz.f8 Rows.resultComparesSpec Rows.resultComparesUptoRow = true :=
 joined_of (by kernel_rfl) laidOutT jMaps (by kernel_rfl) (by kernel_rfl) rfl jStops rfl jKnobs jPlace jUnf jRec jNamed (by kernel_rfl) (by kernel_rfl) (by kernel_rfl) (by kernel_rfl) (by kernel_rfl) rfl (by kernel_rfl) (by kernel_rfl) (by kernel_rfl)
  jKeys rfl jHeard jEnter jLifted jMake rfl (by kernel_rfl) (by kernel_rfl) (by kernel_rfl)
theorem inst : Tryz.f8.isInstance Tryz.prog Rows.resultComparesUptoRow.origin Rows.resultComparesUptoRow.targs := of_decide_eq_true (by kernel_rfl)
theorem wrap : Tryz.f8.isWrapper Tryz.prog Rows.resultComparesUptoRow.wrapper Rows.resultComparesUptoRow.mainSum := by
 unfold Func.isWrapper; first | (rw [if_pos (by decide +kernel)]; kernel_rfl) | (rw [if_neg (by decide +kernel)]; exact ⟨rfl, rfl⟩)
theorem saidUpto : Rows.ResultComparesUptoSaid :=
 OpenClaim.holds_of_cond 8 Tryz.f8 rfl rfl rfl rfl rfl rfl rfl ⟨rfl, rfl, rfl, rfl, rfl⟩ rfl rfl rfl rfl rfl jName Tryz.func8 joined inst wrap
  (fun os started H enc _ F => by rw [OpenClaim.pre_eq_preRow]; exact liftedUpto os started H enc F)
theorem plain (f : FuncId) (fn : Func) (hf : Tryz.pinned.checked.prog.funcNamed "crux/cruxlaw07.ResultCompares" = some f) (hfn : Tryz.pinned.checked.prog.funcs[f]? = some fn) :
  false = Tryz.pinned.checked.prog.looks [] ∧ ∀ (j : Nat) t, fn.params[j]? = some t → Tryz.pinned.checked.prog.wantsStandIn t = false := by
 obtain rfl : f = 8 := Option.some.inj (jName.symm.trans hf) |>.symm
 obtain rfl : fn = Tryz.f8 := (Option.some.inj (Tryz.func8.symm.trans hfn)).symm
 refine ⟨by kernel_rfl, fun j t ht => ?_⟩
 have hall : (Tryz.f8.params.toList.all fun u => !Tryz.prog.wantsStandIn u) = true := by kernel_rfl
 have hm : t ∈ Tryz.f8.params.toList := by simpa using Array.mem_of_getElem? ht
 exact (show Tryz.prog.wantsStandIn t = false by simpa using List.all_eq_true.1 hall t hm)
theorem cardUpto : Rows.ResultComparesUptoCardSaid :=
 Claim7.holds_tied_plain_at .later [] _ _ _ _ saidUpto (fun _ h => by cases h) (by kernel_rfl) (fun _ h => by cases h) resultComparesUpto_row_tie rfl ⟨rfl, rfl⟩ (by kernel_rfl) rfl plain (by kernel_rfl)
#print axioms cardUpto
end Go.Proofs.YtdjngcfnlfgjkaaGreatDoor.fnCompares
