/-
  ResultDecides holds: the card of the second form (what is read is of bulk at most 2^20): Decides against the reference, for all contests and climbers.
-/
import Derived.Test.YtdjngcfnlfgjkaaGreatDoorLaw
import Derived.Test.YtdjngcfnlfgjkaaGreatDoorP1
import Derived.Test.YtdjngcfnlfgjkaaGreatDoorTie
set_option linter.unusedVariables false
set_option linter.unusedSimpArgs false
set_option linter.unusedSectionVars false
namespace Go.Proofs.YtdjngcfnlfgjkaaGreatDoor.C5
open Go Go.Proofs.YtdjngcfnlfgjkaaGreatDoor.AM Go.Proofs Go.RowKit Go.ChangeShapes Go.WideShapes Go.ChangeAt Go.Proofs.YtdjngcfnlfgjkaaGreatDoor
set_option maxRecDepth 100000
set_option maxHeartbeats 4000000
abbrev rsC : List RS := [.agg [.sl [.sl shR], .sl [.str]], .one .str, .one .str]
theorem rss4 : mapO (rsT tab) Tryz.f4.params.toList = some rsC := by kernel_rfl
theorem lay4 : Tryz.f4.params.toList.all (layOk tab 20) = true := by kernel_rfl
theorem rec4 : Tryz.f4.params.toList.all (fun t => Tryz.prog.readableRec t && decide (t < Tryz.prog.types.size)) = true := by kernel_rfl
theorem ans4 (xs : List AV) (h : RS.oks rsC xs = true) (hs : (xs.map AV.szc).sum ≤ 1048576) (hr : ∀ x ∈ xs, x.rg) : extI i4 F4 xs = some (.bool true) := by
 obtain ⟨x1, _, rfl, h1, q0⟩ := RS.oks_inv h
 obtain ⟨x2, _, rfl, h2, q1⟩ := RS.oks_inv q0
 obtain ⟨x3, _, rfl, h3, q2⟩ := RS.oks_inv q1
 obtain rfl := RS.oks_nil_inv q2
 simp only [List.map_cons, List.map_nil, List.sum_cons, List.sum_nil] at hs
 obtain ⟨cs, rfl, hc⟩ := RS.agg_inv h1
 obtain ⟨ra, _, rfl, k1, c0⟩ := Sh.oks_inv hc
 obtain ⟨sa, _, rfl, k2, c1⟩ := Sh.oks_inv c0
 obtain rfl := Sh.oks_nil_inv c1
 obtain ⟨a, rfl⟩ := Sh.str_inv (show Sh.str.ok x2 = true from h2)
 obtain ⟨b, rfl⟩ := Sh.str_inv (show Sh.str.ok x3 = true from h3)
 simp only [AV.szc, AV.szs] at hs
 obtain ⟨rs, sd, ho⟩ := rd_ct k1 k2 (n := 1048576) (by omega) (by omega) (Nat.le_refl _)
 have hL := law4 ho a b
 simp only [extI, i4, mtVs, mtV, k1, k2, ok_str, ok_int, if_true, List.append_nil, List.nil_append, List.cons_append, List.map_cons, List.map_nil, List.length_cons, List.length_nil]
 rw [if_pos (by decide)]
 exact hL
end Go.Proofs.YtdjngcfnlfgjkaaGreatDoor.C5

namespace Go.Proofs.YtdjngcfnlfgjkaaGreatDoor.fnDecides
open Go Go.Proofs.YtdjngcfnlfgjkaaGreatDoor.AM C5 Go.Proofs Go.RowKit Go.ChangeShapes Go.WideShapes Go.ChangeAt
set_option maxRecDepth 100000
def wargs : Array Value := #[.agg #[.slice none 0 0, .slice none 0 0], .string ⟨#[]⟩, .string ⟨#[]⟩]
theorem reads (os : Os) {H : Type} (enc : TypeId × Value → H) : ∃ places, DataW.whole enc Tryz.prog ((laidWorld os).forCall (fun _ _ => 0) ⟨#[], wargs, []⟩).memory Tryz.f4.params.toList Rows.resultDecidesSpec.vars false wargs.toList 8 = some ([.agg [.nil, .nil], .lit (.string []), .lit (.string [])], [], places) :=
 ⟨[], by kernel_rfl⟩
theorem liftedUpto (os : Os) (started : os.Started) (H : Type) (enc : TypeId × Value → H) (F : Stop.Interp) :
  ReturnsInHanded {} Tryz.checked os 4 .any ((Rows.OpenSpec.upto Rows.resultDecidesSpec).preRow enc Tryz.prog Tryz.f4 Rows.resultDecidesUptoRow.domain false Rows.resultDecidesUptoRow.laid) (((Rows.OpenSpec.upto Rows.resultDecidesSpec).at F).post enc Tryz.prog Tryz.f4 false true false false) := by
 obtain ⟨places, hx⟩ := reads os enc
 refine returnsInHanded_of_row (C := Tryz.checked) (s := Rows.OpenSpec.upto Rows.resultDecidesSpec) ownT started (by kernel_rfl) Tryz.func4
  (witness_row_at (enc := enc) (C := Tryz.checked) false (laidWorld os) wargs rfl (by kernel_rfl) (by kernel_rfl) (by kernel_rfl)
   (OpenSpec.preRow_of_cond 8 hx (by kernel_rfl) (fun k hk => by cases hk; kernel_rfl) (by kernel_rfl) (laid_met os wargs))) ?_
 intro W base args ds gs before hval hW _ hcond _ hL _ _
 exact contractU (spec := Rows.resultDecidesSpec) (row := Rows.resultDecidesUptoRow) x4.1 rss4 lay4 rec4 rfl (by kernel_rfl) rfl
  (fun H ds h => by
   obtain ⟨a, b, c, rfl⟩ : ∃ a b c, ds = [a, b, c] := by
    have h3 : ds.length = 3 := h
    match ds, h3 with
    | [a, b, c], _ => exact ⟨a, b, c, rfl⟩
   rfl) ans4 H enc W base args ds gs before hval hW (hcond _ rfl) hL
theorem jPlace : (Rows.resultDecidesUptoRow.inPlace == Tryz.prog.inPlace 4) = true := by kernel_rfl
theorem jUnf : (Rows.resultDecidesUptoRow.unfollowed == Tryz.prog.unfollowed 4) = true := by kernel_rfl
theorem jRec : (Rows.resultDecidesUptoRow.recurses == Tryz.prog.recurses 4) = true := by kernel_rfl
theorem jNamed : (Rows.resultDecidesUptoRow.named == Tryz.prog.varsNamed 4) = true := by kernel_rfl
theorem jName : Tryz.prog.funcNamed "crux/cruxlaw07.ResultDecides" = some 4 := by kernel_rfl
theorem joined : joinedFacts Tryz.prog 4 Tryz.f4 Rows.resultDecidesSpec Rows.resultDecidesUptoRow = true :=
 joined_of (by kernel_rfl) laidOutT jMaps (by kernel_rfl) (by kernel_rfl) rfl jStops rfl jKnobs jPlace jUnf jRec jNamed (by kernel_rfl) (by kernel_rfl) (by kernel_rfl) (by kernel_rfl) (by kernel_rfl) rfl (by kernel_rfl) (by kernel_rfl) (by kernel_rfl)
  jKeys rfl jHeard jEnter jLifted jMake rfl (by kernel_rfl) (by kernel_rfl) (by kernel_rfl)
theorem inst : Tryz.f4.isInstance Tryz.prog Rows.resultDecidesUptoRow.origin Rows.resultDecidesUptoRow.targs := of_decide_eq_true (by kernel_rfl)
theorem wrap : Tryz.f4.isWrapper Tryz.prog Rows.resultDecidesUptoRow.wrapper Rows.resultDecidesUptoRow.mainSum := by
 unfold Func.isWrapper; first | (rw [if_pos (by decide +kernel)]; kernel_rfl) | (rw [if_neg (by decide +kernel)]; exact ⟨rfl, rfl⟩)
theorem saidUpto : Rows.ResultDecidesUptoSaid :=
 OpenClaim.holds_of_cond 4 Tryz.f4 rfl rfl rfl rfl rfl rfl rfl ⟨rfl, rfl, rfl, rfl, rfl⟩ rfl rfl rfl rfl rfl jName Tryz.func4 joined inst wrap
  (fun os started H enc _ F => by rw [OpenClaim.pre_eq_preRow]; exact liftedUpto os started H enc F)
theorem plain (f : FuncId) (fn : Func) (hf : Tryz.pinned.checked.prog.funcNamed "crux/cruxlaw07.ResultDecides" = some f) (hfn : Tryz.pinned.checked.prog.funcs[f]? = some fn) :
  false = Tryz.pinned.checked.prog.looks [] ∧ ∀ (j : Nat) t, fn.params[j]? = some t → Tryz.pinned.checked.prog.wantsStandIn t = false := by
 obtain rfl : f = 4 := Option.some.inj (jName.symm.trans hf) |>.symm
 obtain rfl : fn = Tryz.f4 := (Option.some.inj (Tryz.func4.symm.trans hfn)).symm
 refine ⟨by kernel_rfl, fun j t ht => ?_⟩
 have hall : (Tryz.f4.params.toList.all fun u => !Tryz.prog.wantsStandIn u) = true := by kernel_rfl
 have hm : t ∈ Tryz.f4.params.toList := by simpa using Array.mem_of_getElem? ht
 exact (show Tryz.prog.wantsStandIn t = false by simpa using List.all_eq_true.1 hall t hm)
theorem cardUpto : Rows.ResultDecidesUptoCardSaid :=
 Claim7.holds_tied_plain_at .later [] _ _ _ _ saidUpto (fun _ h => by cases h) (by kernel_rfl) (fun _ h => by cases h) resultDecidesUpto_row_tie rfl ⟨rfl, rfl⟩ (by kernel_rfl) rfl plain (by kernel_rfl)
#print axioms cardUpto
end Go.Proofs.YtdjngcfnlfgjkaaGreatDoor.fnDecides
