/-
  ContestMarks holds: the card of the second form (what is read is of bulk at most 2^20): the texts of sheets are read as the tickets, and the values of results agree with the marks, for every round and state.
-/
import Derived.Test.YtdeaibcebeofiaaGreatDoorLaw
import Derived.Test.YtdeaibcebeofiaaGreatDoorTie
set_option linter.unusedVariables false
set_option linter.unusedSimpArgs false
set_option linter.unusedSectionVars false
namespace Go.Proofs.YtdeaibcebeofiaaGreatDoor.C5
open Go Go.Proofs.YtdeaibcebeofiaaGreatDoor.AM Go.Proofs Go.RowKit Go.ChangeShapes Go.WideShapes Go.ChangeAt Go.Proofs.YtdeaibcebeofiaaGreatDoor
set_option maxRecDepth 100000
set_option maxHeartbeats 4000000
theorem rss7 : mapO (rsT tab) Tryz.f7.params.toList = some [rsRound, .agg [.int .i64, .sl clbS]] := by kernel_rfl
theorem lay7 : Tryz.f7.params.toList.all (layOk tab 20) = true := by kernel_rfl
theorem rec7 : Tryz.f7.params.toList.all (fun t => Tryz.prog.readableRec t && decide (t < Tryz.prog.types.size)) = true := by kernel_rfl
theorem ans7 (xs : List AV) (h : RS.oks [rsRound, .agg [.int .i64, .sl clbS]] xs = true) (hs : (xs.map AV.szc).sum ≤ 1048576) : extI i7 F7 xs = some (.bool true) := by
 obtain ⟨x1, _, rfl, h1, q0⟩ := RS.oks_inv h
 obtain ⟨x2, _, rfl, h2, q1⟩ := RS.oks_inv q0
 obtain rfl := RS.oks_nil_inv q1
 simp only [List.map_cons, List.map_nil, List.sum_cons, List.sum_nil] at hs
 obtain ⟨r, names, rfl, hr, hn⟩ := rd_round h1 (n := 1048576) (by omega) (Nat.le_refl _)
 obtain ⟨_, rfl, k0⟩ := RS.agg_inv h2
 obtain ⟨_, _, rfl, k1, k2⟩ := Sh.oks_inv k0
 obtain ⟨time, rfl⟩ := Sh.int_inv k1
 obtain ⟨a, _, rfl, ha, k3⟩ := Sh.oks_inv k2
 obtain rfl := Sh.oks_nil_inv k3
 simp only [AV.szc, AV.szs] at hs
 obtain ⟨cs, g1, g2, g3⟩ := rd_clbs ha (n := 1048576) (by omega) (Nat.le_refl _)
 have hL := law7 hr hn (time := time) g1 (by omega) g3
 simp only [extI, i7, mtVs, mtV, hn, ha, ok_str, ok_int, if_true, List.append_nil, List.nil_append, List.cons_append, List.map_cons, List.map_nil, List.length_cons, List.length_nil]
 rw [if_pos (by decide)]
 exact hL
end Go.Proofs.YtdeaibcebeofiaaGreatDoor.C5

namespace Go.Proofs.YtdeaibcebeofiaaGreatDoor.fnMarks
open Go Go.Proofs.YtdeaibcebeofiaaGreatDoor.AM C5 Go.Proofs Go.RowKit Go.ChangeShapes Go.WideShapes Go.ChangeAt
set_option maxRecDepth 100000
def wargs : Array Value := #[zRound, .agg #[.int .i64 0, .slice none 0 0]]
theorem reads (os : Os) {H : Type} (enc : TypeId × Value → H) : ∃ places, DataW.whole enc Tryz.prog ((laidWorld os).forCall (fun _ _ => 0) ⟨#[], wargs, []⟩).memory Tryz.f7.params.toList Rows.contestMarksSpec.vars false wargs.toList 8 = some ([dRound, .agg [.lit (.int .i64 0), .nil]], [], places) :=
 ⟨[], by kernel_rfl⟩
theorem liftedUpto (os : Os) (started : os.Started) (H : Type) (enc : TypeId × Value → H) (F : Stop.Interp) :
  ReturnsInHanded {} Tryz.checked os 7 .any ((Rows.OpenSpec.upto Rows.contestMarksSpec).preRow enc Tryz.prog Tryz.f7 Rows.contestMarksUptoRow.domain false Rows.contestMarksUptoRow.laid) (((Rows.OpenSpec.upto Rows.contestMarksSpec).at F).post enc Tryz.prog Tryz.f7 false true false false) := by
 obtain ⟨places, hx⟩ := reads os enc
 refine returnsInHanded_of_row (C := Tryz.checked) (s := Rows.OpenSpec.upto Rows.contestMarksSpec) ownT started (by kernel_rfl) Tryz.func7
  (witness_row_at (enc := enc) (C := Tryz.checked) false (laidWorld os) wargs rfl (by kernel_rfl) (by kernel_rfl) (by kernel_rfl)
   (OpenSpec.preRow_of_cond 8 hx (by kernel_rfl) (fun k hk => by cases hk; kernel_rfl) (by kernel_rfl) (laid_met os wargs))) ?_
 intro W base args ds gs before hval hW _ hcond _ hL _ _
 exact contractU (spec := Rows.contestMarksSpec) (row := Rows.contestMarksUptoRow) x7 rss7 lay7 rec7 rfl (by kernel_rfl) rfl
  (fun H ds h => by
   obtain ⟨a, b, rfl⟩ : ∃ a b, ds = [a, b] := by
    have h3 : ds.length = 2 := h
    match ds, h3 with
    | [a, b], _ => exact ⟨a, b, rfl⟩
   rfl) ans7 H enc W base args ds gs before hval hW (hcond _ rfl) hL
theorem jPlace : (Rows.contestMarksUptoRow.inPlace == Tryz.prog.inPlace 7) = true := by kernel_rfl
theorem jUnf : (Rows.contestMarksUptoRow.unfollowed == Tryz.prog.unfollowed 7) = true := by kernel_rfl
theorem jRec : (Rows.contestMarksUptoRow.recurses == Tryz.prog.recurses 7) = true := by kernel_rfl
theorem jNamed : (Rows.contestMarksUptoRow.named == Tryz.prog.varsNamed 7) = true := by kernel_rfl
theorem jName : Tryz.prog.funcNamed "crux/cruxlaw05.ContestMarks" = some 7 := by kernel_rfl
theorem joined : joinedFacts Tryz.prog 7 Tryz.f7 Rows.contestMarksSpec Rows.contestMarksUptoRow = true :=
 joined_of (by kernel_rfl) laidOutT jMaps (by kernel_rfl) (by kernel_rfl) rfl jStops rfl jKnobs jPlace jUnf jRec jNamed (by kernel_rfl) (by kernel_rfl) (by kernel_rfl) (by kernel_rfl) (by kernel_rfl) rfl (by kernel_rfl) (by kernel_rfl) (by kernel_rfl)
  jKeys rfl jHeard jEnter jLifted jMake rfl (by kernel_rfl) (by kernel_rfl) (by kernel_rfl)
theorem inst : Tryz.f7.isInstance Tryz.prog Rows.contestMarksUptoRow.origin Rows.contestMarksUptoRow.targs := of_decide_eq_true (by kernel_rfl)
theorem wrap : Tryz.f7.isWrapper Tryz.prog Rows.contestMarksUptoRow.wrapper Rows.contestMarksUptoRow.mainSum := by
 unfold Func.isWrapper; first | (rw [if_pos (by decide +kernel)]; kernel_rfl) | (rw [if_neg (by decide +kernel)]; exact ⟨rfl, rfl⟩)
theorem saidUpto : Rows.ContestMarksUptoSaid :=
 OpenClaim.holds_of_cond 7 Tryz.f7 rfl rfl rfl rfl rfl rfl rfl ⟨rfl, rfl, rfl, rfl, rfl⟩ rfl rfl rfl rfl rfl jName Tryz.func7 joined inst wrap
  (fun os started H enc _ F => by rw [OpenClaim.pre_eq_preRow]; exact liftedUpto os started H enc F)
theorem plain (f : FuncId) (fn : Func) (hf : Tryz.pinned.checked.prog.funcNamed "crux/cruxlaw05.ContestMarks" = some f) (hfn : Tryz.pinned.checked.prog.funcs[f]? = some fn) :
  false = Tryz.pinned.checked.prog.looks [] ∧ ∀ (j : Nat) t, fn.params[j]? = some t → Tryz.pinned.checked.prog.wantsStandIn t = false := by
 obtain rfl : f = 7 := Option.some.inj (jName.symm.trans hf) |>.symm
 obtain rfl : fn = Tryz.f7 := (Option.some.inj (Tryz.func7.symm.trans hfn)).symm
 refine ⟨by kernel_rfl, fun j t ht => ?_⟩
 have hall : (Tryz.f7.params.toList.all fun u => !Tryz.prog.wantsStandIn u) = true := by kernel_rfl
 have hm : t ∈ Tryz.f7.params.toList := by simpa using Array.mem_of_getElem? ht
 exact (show Tryz.prog.wantsStandIn t = false by simpa using List.all_eq_true.1 hall t hm)
theorem cardUpto : Rows.ContestMarksUptoCardSaid :=
 Claim7.holds_tied_plain_at .later [] _ _ _ _ saidUpto (fun _ h => by cases h) (by kernel_rfl) (fun _ h => by cases h) contestMarksUpto_row_tie rfl ⟨rfl, rfl⟩ (by kernel_rfl) rfl plain (by kernel_rfl)
#print axioms cardUpto
end Go.Proofs.YtdeaibcebeofiaaGreatDoor.fnMarks
