/-
  ResultOpens holds: the card of the second form (what is read is of bulk at most 2^20): CheckOpen and Ranks return the results or the errors of the reference, for all open values.
-/
import Derived.Test.YtdjngcfnlfgjkaaGreatDoorLaw
import Derived.Test.YtdjngcfnlfgjkaaGreatDoorTie
set_option linter.unusedVariables false
set_option linter.unusedSimpArgs false
set_option linter.unusedSectionVars false
namespace Go.Proofs.YtdjngcfnlfgjkaaGreatDoor.C5
open Go Go.Proofs.YtdjngcfnlfgjkaaGreatDoor.AM Go.Proofs Go.RowKit Go.ChangeShapes Go.WideShapes Go.ChangeAt Go.Proofs.YtdjngcfnlfgjkaaGreatDoor
set_option maxRecDepth 100000
set_option maxHeartbeats 4000000
theorem rss5 : mapO (rsT tab) Tryz.f5.params.toList = some [.one (.sl shO), .one (.int .i64)] := by kernel_rfl
theorem lay5 : Tryz.f5.params.toList.all (layOk tab 20) = true := by kernel_rfl
theorem rec5 : Tryz.f5.params.toList.all (fun t => Tryz.prog.readableRec t && decide (t < Tryz.prog.types.size)) = true := by kernel_rfl
theorem ans5 (xs : List AV) (h : RS.oks [.one (.sl shO), .one (.int .i64)] xs = true) (hs : (xs.map AV.szc).sum ≤ 1048576) : extI i5 F5 xs = some (.bool true) := by
 obtain ⟨x1, _, rfl, h1, q0⟩ := RS.oks_inv h
 obtain ⟨x2, _, rfl, h2, q1⟩ := RS.oks_inv q0
 obtain rfl := RS.oks_nil_inv q1
 simp only [List.map_cons, List.map_nil, List.sum_cons, List.sum_nil] at hs
 have h1 : (Sh.sl shO).ok x1 = true := h1
 obtain ⟨c, rfl⟩ := Sh.int_inv (show (Sh.int .i64).ok x2 = true from h2)
 have hz : x1.sz ≤ 1048576 := by
  have : x1.szc = x1.sz := by cases x1 <;> first | rfl | simp [Sh.ok] at h1
  omega
 obtain ⟨l, ho⟩ := rd_ops h1 hz (Nat.le_refl _)
 have hL := law5 ho c
 simp only [extI, i5, Si, mtVs, mtV, h1, ok_int, if_true, List.append_nil, List.nil_append, List.cons_append, List.map_cons, List.map_nil, List.length_cons, List.length_nil]
 rw [if_pos (by decide)]
 exact hL
end Go.Proofs.YtdjngcfnlfgjkaaGreatDoor.C5

namespace Go.Proofs.YtdjngcfnlfgjkaaGreatDoor.fnOpens
open Go Go.Proofs.YtdjngcfnlfgjkaaGreatDoor.AM C5 Go.Proofs Go.RowKit Go.ChangeShapes Go.WideShapes Go.ChangeAt
set_option maxRecDepth 100000
def wargs : Array Value := #[.slice none 0 0, .int .i64 0]
theorem reads (os : Os) {H : Type} (enc : TypeId × Value → H) : ∃ places, DataW.whole enc Tryz.prog ((laidWorld os).forCall (fun _ _ => 0) ⟨#[], wargs, []⟩).memory Tryz.f5.params.toList Rows.resultOpensSpec.vars false wargs.toList 8 = some ([.nil, .lit (.int .i64 0)], [], places) :=
 ⟨[], by kernel_rfl⟩
theorem liftedUpto (os : Os) (started : os.Started) (H : Type) (enc : TypeId × Value → H) (F : Stop.Interp) :
  ReturnsInHanded {} Tryz.checked os 5 .any ((Rows.OpenSpec.upto Rows.resultOpensSpec).preRow enc Tryz.prog Tryz.f5 Rows.resultOpensUptoRow.domain false Rows.resultOpensUptoRow.laid) (((Rows.OpenSpec.upto Rows.resultOpensSpec).at F).post enc Tryz.prog Tryz.f5 false true false false) := by
 obtain ⟨places, hx⟩ := reads os enc
 refine returnsInHanded_of_row (C := Tryz.checked) (s := Rows.OpenSpec.upto Rows.resultOpensSpec) ownT started (by kernel_rfl) Tryz.func5
  (witness_row_at (enc := enc) (C := Tryz.checked) false (laidWorld os) wargs rfl (by kernel_rfl) (by kernel_rfl) (by kernel_rfl)
   (OpenSpec.preRow_of_cond 8 hx (by kernel_rfl) (fun k hk => by cases hk; kernel_rfl) (by kernel_rfl) (laid_met os wargs))) ?_
 intro W base args ds gs before hval hW _ hcond _ hL _ _
 exact contractU (spec := Rows.resultOpensSpec) (row := Rows.resultOpensUptoRow) x5.1 rss5 lay5 rec5 rfl (by kernel_rfl) rfl
  (fun H ds h => by
   obtain ⟨a, b, rfl⟩ : ∃ a b, ds = [a, b] := by
    have h3 : ds.length = 2 := h
    match ds, h3 with
    | [a, b], _ => exact ⟨a, b, rfl⟩
   rfl) ans5 H enc W base args ds gs before hval hW (hcond _ rfl) hL
theorem jPlace : (Rows.resultOpensUptoRow.inPlace == Tryz.prog.inPlace 5) = true := by kernel_rfl
theorem jUnf : (Rows.resultOpensUptoRow.unfollowed == Tryz.prog.unfollowed 5) = true := by kernel_rfl
theorem jRec : (Rows.resultOpensUptoRow.recurses == Tryz.prog.recurses 5) = true := by kernel_rfl
theorem jNamed : (Rows.resultOpensUptoRow.named == Tryz.prog.varsNamed 5) = true := by kernel_rfl
theorem jName : Tryz.prog.funcNamed "crux/cruxlaw07.ResultOpens" = some 5 := by kernel_rfl
theorem joined : joinedFacts Tryz.prog 5 Tryz.f5 Rows.resultOpensSpec Rows.resultOpensUptoRow = true :=
 joined_of (by kernel_rfl) laidOutT jMaps (by kernel_rfl) (by kernel_rfl) rfl jStops rfl jKnobs jPlace jUnf jRec jNamed (by kernel_rfl) (by kernel_rfl) (by kernel_rfl) (by kernel_rfl) (by kernel_rfl) rfl (by kernel_rfl) (by kernel_rfl) (by kernel_rfl)
  jKeys rfl jHeard jEnter jLifted jMake rfl (by kernel_rfl) (by kernel_rfl) (by kernel_rfl)
theorem inst : Tryz.f5.isInstance Tryz.prog Rows.resultOpensUptoRow.origin Rows.resultOpensUptoRow.targs := of_decide_eq_true (by kernel_rfl)
theorem wrap : Tryz.f5.isWrapper Tryz.prog Rows.resultOpensUptoRow.wrapper Rows.resultOpensUptoRow.mainSum := by
 unfold Func.isWrapper; first | (rw [if_pos (by decide +kernel)]; kernel_rfl) | (rw [if_neg (by decide +kernel)]; exact ⟨rfl, rfl⟩)
theorem saidUpto : Rows.ResultOpensUptoSaid :=
 OpenClaim.holds_of_cond 5 Tryz.f5 rfl rfl rfl rfl rfl rfl rfl ⟨rfl, rfl, rfl, rfl, rfl⟩ rfl rfl rfl rfl rfl jName Tryz.func5 joined inst wrap
  (fun os started H enc _ F => by rw [OpenClaim.pre_eq_preRow]; exact liftedUpto os started H enc F)
theorem plain (f : FuncId) (fn : Func) (hf : Tryz.pinned.checked.prog.funcNamed "crux/cruxlaw07.ResultOpens" = some f) (hfn : Tryz.pinned.checked.prog.funcs[f]? = some fn) :
  false = Tryz.pinned.checked.prog.looks [] ∧ ∀ (j : Nat) t, fn.params[j]? = some t → Tryz.pinned.checked.prog.wantsStandIn t = false := by
 obtain rfl : f = 5 := Option.some.inj (jName.symm.trans hf) |>.symm
 obtain rfl : fn = Tryz.f5 := (Option.some.inj (Tryz.func5.symm.trans hfn)).symm
 refine ⟨by kernel_rfl, fun j t ht => ?_⟩
 have hall : (Tryz.f5.params.toList.all fun u => !Tryz.prog.wantsStandIn u) = true := by kernel_rfl
 have hm : t ∈ Tryz.f5.params.toList := by simpa using Array.mem_of_getElem? ht
 exact (show Tryz.prog.wantsStandIn t = false by simpa using List.all_eq_true.1 hall t hm)
theorem cardUpto : Rows.ResultOpensUptoCardSaid :=
 Claim7.holds_tied_plain_at .later [] _ _ _ _ saidUpto (fun _ h => by cases h) (by kernel_rfl) (fun _ h => by cases h) resultOpensUpto_row_tie rfl ⟨rfl, rfl⟩ (by kernel_rfl) rfl plain (by kernel_rfl)
#print axioms cardUpto
end Go.Proofs.YtdjngcfnlfgjkaaGreatDoor.fnOpens
