/-
  ContestSheets holds: the card of the second form (what is read is of bulk at most 2^20): Tickets, Sheet, Results and Waiting return what the reference returns, or the first error, for every round, state and climber.
-/
import Derived.Test.YtdeaibcebeofiaaGreatDoorLaw
import Derived.Test.YtdeaibcebeofiaaGreatDoorTie
set_option linter.unusedVariables false
set_option linter.unusedSimpArgs false
set_option linter.unusedSectionVars false
namespace Go.Proofs.YtdeaibcebeofiaaGreatDoor.C5
open Go Go.Proofs.YtdeaibcebeofiaaGreatDoor.AM Go.Proofs Go.RowKit Go.ChangeShapes Go.WideShapes Go.ChangeAt Go.Proofs.YtdeaibcebeofiaaGreatDoor
set_option maxRecDepth 100000
set_option maxHeartbeats 4000000
theorem rss12 : mapO (rsT tab) Tryz.f12.params.toList = some [rsRound, .agg [.int .i64, .sl clbS], .one (.int .i64)] := by kernel_rfl
theorem lay12 : Tryz.f12.params.toList.all (layOk tab 20) = true := by kernel_rfl
theorem rec12 : Tryz.f12.params.toList.all (fun t => Tryz.prog.readableRec t && decide (t < Tryz.prog.types.size)) = true := by kernel_rfl
theorem ans12 (xs : List AV) (h : RS.oks [rsRound, .agg [.int .i64, .sl clbS], .one (.int .i64)] xs = true) (hs : (xs.map AV.szc).sum ≤ 1048576) : extI i12 F12 xs = some (.bool true) := by
 obtain ⟨x1, _, rfl, h1, q0⟩ := RS.oks_inv h
 obtain ⟨x2, _, rfl, h2, q1⟩ := RS.oks_inv q0
 obtain ⟨x3, _, rfl, h3, q2⟩ := RS.oks_inv q1
 obtain rfl := RS.oks_nil_inv q2
 simp only [List.map_cons, List.map_nil, List.sum_cons, List.sum_nil] at hs
 obtain ⟨r, names, rfl, hr, hn⟩ := rd_round h1 (n := 1048576) (by omega) (Nat.le_refl _)
 obtain ⟨_, rfl, k0⟩ := RS.agg_inv h2
 obtain ⟨_, _, rfl, k1, k2⟩ := Sh.oks_inv k0
 obtain ⟨time, rfl⟩ := Sh.int_inv k1
 obtain ⟨a, _, rfl, ha, k3⟩ := Sh.oks_inv k2
 obtain rfl := Sh.oks_nil_inv k3
 obtain ⟨w, rfl⟩ := Sh.int_inv (show (Sh.int .i64).ok x3 = true from h3)
 simp only [AV.szc, AV.szs] at hs
 obtain ⟨cs, g1, g2, g3⟩ := rd_clbs ha (n := 1048576) (by omega) (Nat.le_refl _)
 have hL := law12 hr hn (time := time) g1 (by omega) g3 w
 simp only [extI, i12, mtVs, mtV, hn, ha, ok_str, ok_int, if_true, List.append_nil, List.nil_append, List.cons_append, List.map_cons, List.map_nil, List.length_cons, List.length_nil]
 rw [if_pos (by decide)]
 exact hL
end Go.Proofs.YtdeaibcebeofiaaGreatDoor.C5

namespace Go.Proofs.YtdeaibcebeofiaaGreatDoor.fnSheets
open Go Go.Proofs.YtdeaibcebeofiaaGreatDoor.AM C5 Go.Proofs Go.RowKit Go.ChangeShapes Go.WideShapes Go.ChangeAt
set_option maxRecDepth 100000
def wargs : Array Value := #[zRound, .agg #[.int .i64 0, .slice none 0 0], .int .i64 0]
theorem reads (os : Os) {H : Type} (enc : TypeId × Value → H) : ∃ places, DataW.whole enc Tryz.prog ((laidWorld os).forCall (fun _ _ => 0) ⟨#[], wargs, []⟩).memory Tryz.f12.params.toList Rows.contestSheetsSpec.vars false wargs.toList 8 = some ([dRound, .agg [.lit (.int .i64 0), .nil], .lit (.int .i64 0)], [], places) :=
 ⟨[], by kernel_rfl⟩
theorem liftedUpto (os : Os) (started : os.Started) (H : Type) (enc : TypeId × Value → H) (F : Stop.Interp) :
  ReturnsInHanded {} Tryz.checked os 12 .any ((Rows.OpenSpec.upto Rows.contestSheetsSpec).preRow enc Tryz.prog Tryz.f12 Rows.contestSheetsUptoRow.domain false Rows.contestSheetsUptoRow.laid) (((Rows.OpenSpec.upto Rows.contestSheetsSpec).at F).post enc Tryz.prog Tryz.f12 false true false false) := by
 obtain ⟨places, hx⟩ := reads os enc
 refine returnsInHanded_of_row (C := Tryz.checked) (s := Rows.OpenSpec.upto Rows.contestSheetsSpec) ownT started (by kernel_rfl) Tryz.func12
  (witness_row_at (enc := enc) (C := Tryz.checked) false (laidWorld os) wargs rfl (by kernel_rfl) (by kernel_rfl) (by kernel_rfl)
   (OpenSpec.preRow_of_cond 8 hx (by kernel_rfl) (fun k hk => by cases hk; kernel_rfl) (by kernel_rfl) (laid_met os wargs))) ?_
 intro W base args ds gs before hval hW _ hcond _ hL _ _
 exact contractU (spec := Rows.contestSheetsSpec) (row := Rows.contestSheetsUptoRow) x12 rss12 lay12 rec12 rfl (by kernel_rfl) rfl
  (fun H ds h => by
   obtain ⟨a, b, c, rfl⟩ : ∃ a b c, ds = [a, b, c] := by
    have h3 : ds.length = 3 := h
    match ds, h3 with
    | [a, b, c], _ => exact ⟨a, b, c, rfl⟩
   rfl) ans12 H enc W base args ds gs before hval hW (hcond _ rfl) hL
theorem jPlace : (Rows.contestSheetsUptoRow.inPlace == Tryz.prog.inPlace 12) = true := by kernel_rfl
theorem jUnf : (Rows.contestSheetsUptoRow.unfollowed == Tryz.prog.unfollowed 12) = true := by kernel_rfl
theorem jRec : (Rows.contestSheetsUptoRow.recurses == Tryz.prog.recurses 12) = true := by kernel_rfl
theorem jNamed : (Rows.contestSheetsUptoRow.named == Tryz.prog.varsNamed 12) = true := by kernel_rfl
theorem jName : Tryz.prog.funcNamed "crux/cruxlaw05.ContestSheets" = some 12 := by kernel_rfl
theorem joined : joinedFacts Tryz.prog 12 Tryz.f12 Rows.contestSheetsSpec Rows.contestSheetsUptoRow = true :=
 joined_of (by kernel_rfl) laidOutT jMaps (by kernel_rfl) (by kernel_rfl) rfl jStops rfl jKnobs jPlace jUnf jRec jNamed (by kernel_rfl) (by kernel_rfl) (by kernel_rfl) (by kernel_rfl) (by kernel_rfl) rfl (by kernel_rfl) (by kernel_rfl) (by kernel_rfl)
  jKeys rfl jHeard jEnter jLifted jMake rfl (by kernel_rfl) (by kernel_rfl) (by kernel_rfl)
theorem inst : Tryz.f12.isInstance Tryz.prog Rows.contestSheetsUptoRow.origin Rows.contestSheetsUptoRow.targs := of_decide_eq_true (by kernel_rfl)
theorem wrap : Tryz.f12.isWrapper Tryz.prog Rows.contestSheetsUptoRow.wrapper Rows.contestSheetsUptoRow.mainSum := by
 unfold Func.isWrapper; first | (rw [if_pos (by decide +kernel)]; kernel_rfl) | (rw [if_neg (by decide +kernel)]; exact ⟨rfl, rfl⟩)
theorem saidUpto : Rows.ContestSheetsUptoSaid :=
 OpenClaim.holds_of_cond 12 Tryz.f12 rfl rfl rfl rfl rfl rfl rfl ⟨rfl, rfl, rfl, rfl, rfl⟩ rfl rfl rfl rfl rfl jName Tryz.func12 joined inst wrap
  (fun os started H enc _ F => by rw [OpenClaim.pre_eq_preRow]; exact liftedUpto os started H enc F)
theorem plain (f : FuncId) (fn : Func) (hf : Tryz.pinned.checked.prog.funcNamed "crux/cruxlaw05.ContestSheets" = some f) (hfn : Tryz.pinned.checked.prog.funcs[f]? = some fn) :
  false = Tryz.pinned.checked.prog.looks [] ∧ ∀ (j : Nat) t, fn.params[j]? = some t → Tryz.pinned.checked.prog.wantsStandIn t = false := by
 obtain rfl : f = 12 := Option.some.inj (jName.symm.trans hf) |>.symm
 obtain rfl : fn = Tryz.f12 := (Option.some.inj (Tryz.func12.symm.trans hfn)).symm
 refine ⟨by kernel_rfl, fun j t ht => ?_⟩
 have hall : (Tryz.f12.params.toList.all fun u => !Tryz.prog.wantsStandIn u) = true := by kernel_rfl
 have hm : t ∈ Tryz.f12.params.toList := by simpa using Array.mem_of_getElem? ht
 exact (show Tryz.prog.wantsStandIn t = false by simpa using List.all_eq_true.1 hall t hm)
theorem cardUpto : Rows.ContestSheetsUptoCardSaid :=
 Claim7.holds_tied_plain_at .later [] _ _ _ _ saidUpto (fun _ h => by cases h) (by kernel_rfl) (fun _ h => by cases h) contestSheetsUpto_row_tie rfl ⟨rfl, rfl⟩ (by kernel_rfl) rfl plain (by kernel_rfl)
#print axioms cardUpto
end Go.Proofs.YtdeaibcebeofiaaGreatDoor.fnSheets
