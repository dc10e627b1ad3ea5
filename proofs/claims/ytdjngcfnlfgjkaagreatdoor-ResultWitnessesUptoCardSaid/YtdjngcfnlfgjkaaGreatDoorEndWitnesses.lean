/-
  ResultWitnesses holds: the card of the second form (what is read is of bulk at most 2^20): CheckWitness returns the errors of the reference, Witness values with the rank or the error of the reference, for all open values, climbers, ranks and values.
-/
import Derived.Test.YtdjngcfnlfgjkaaGreatDoorLaw
import Derived.Test.YtdjngcfnlfgjkaaGreatDoorP1
import Derived.Test.YtdjngcfnlfgjkaaGreatDoorTie
set_option linter.unusedVariables false
set_option linter.unusedSimpArgs false
set_option linter.unusedSectionVars false
namespace Go.Proofs.YtdjngcfnlfgjkaaGreatDoor.C5
open Go Go.Proofs.YtdjngcfnlfgjkaaGreatDoor.AM Go.Proofs Go.RowKit Go.ChangeShapes Go.WideShapes Go.ChangeAt Go.Proofs.YtdjngcfnlfgjkaaGreatDoor
set_option maxRecDepth 100000
set_option maxHeartbeats 4000000
abbrev rsAt : RS := .agg [.int .i64, .int .i64]
theorem rss11 : mapO (rsT tab) Tryz.f11.params.toList = some [.one (.sl shO), rsAt, .one (.sl [.int .i64])] := by kernel_rfl
theorem lay11 : Tryz.f11.params.toList.all (layOk tab 20) = true := by kernel_rfl
theorem rec11 : Tryz.f11.params.toList.all (fun t => Tryz.prog.readableRec t && decide (t < Tryz.prog.types.size)) = true := by kernel_rfl
theorem ans11 (xs : List AV) (h : RS.oks [.one (.sl shO), rsAt, .one (.sl [.int .i64])] xs = true) (hs : (xs.map AV.szc).sum ≤ 1048576) : extI i11 F11 xs = some (.bool true) := by
 obtain ⟨x1, _, rfl, h1, q0⟩ := RS.oks_inv h
 obtain ⟨x2, _, rfl, h2, q1⟩ := RS.oks_inv q0
 obtain ⟨x3, _, rfl, h3, q2⟩ := RS.oks_inv q1
 obtain rfl := RS.oks_nil_inv q2
 simp only [List.map_cons, List.map_nil, List.sum_cons, List.sum_nil] at hs
 have h1 : (Sh.sl shO).ok x1 = true := h1
 have h3 : (Sh.sl [.int .i64]).ok x3 = true := h3
 obtain ⟨_, rfl, h2⟩ := RS.agg_inv h2
 obtain ⟨_, _, rfl, h4, p0⟩ := Sh.oks_inv h2
 obtain ⟨c, rfl⟩ := Sh.int_inv h4
 obtain ⟨_, _, rfl, h5, p1⟩ := Sh.oks_inv p0
 obtain ⟨r, rfl⟩ := Sh.int_inv h5
 obtain rfl := Sh.oks_nil_inv p1
 have hz : x1.sz ≤ 1048576 := by
  have : x1.szc = x1.sz := by cases x1 <;> first | rfl | simp [Sh.ok] at h1
  omega
 have hz3 : x3.sz ≤ 1048576 := by
  have : x3.szc = x3.sz := by cases x3 <;> first | rfl | simp [Sh.ok] at h3
  omega
 obtain ⟨l, ho⟩ := rd_ops h1 hz (Nat.le_refl _)
 obtain ⟨ns, hn, hl⟩ := rd_int h3 hz3
 have hL := law11 ho c r hn (by omega)
 simp only [extI, i11, mtVs, mtV, h1, h3, ok_int, if_true, List.append_nil, List.nil_append, List.cons_append, List.map_cons, List.map_nil, List.length_cons, List.length_nil]
 rw [if_pos (by decide)]
 exact hL
end Go.Proofs.YtdjngcfnlfgjkaaGreatDoor.C5

namespace Go.Proofs.YtdjngcfnlfgjkaaGreatDoor.fnWitnesses
open Go Go.Proofs.YtdjngcfnlfgjkaaGreatDoor.AM C5 Go.Proofs Go.RowKit Go.ChangeShapes Go.WideShapes Go.ChangeAt
set_option maxRecDepth 100000
def wargs : Array Value := #[.slice none 0 0, .agg #[.int .i64 0, .int .i64 0], .slice none 0 0]
theorem reads (os : Os) {H : Type} (enc : TypeId × Value → H) : ∃ places, DataW.whole enc Tryz.prog ((laidWorld os).forCall (fun _ _ => 0) ⟨#[], wargs, []⟩).memory Tryz.f11.params.toList Rows.resultWitnessesSpec.vars false wargs.toList 8 = some ([.nil, .agg [.lit (.int .i64 0), .lit (.int .i64 0)], .nil], [], places) :=
 ⟨[], by kernel_rfl⟩
theorem liftedUpto (os : Os) (started : os.Started) (H : Type) (enc : TypeId × Value → H) (F : Stop.Interp) :
  ReturnsInHanded {} Tryz.checked os 11 .any ((Rows.OpenSpec.upto Rows.resultWitnessesSpec).preRow enc Tryz.prog Tryz.f11 Rows.resultWitnessesUptoRow.domain false Rows.resultWitnessesUptoRow.laid) (((Rows.OpenSpec.upto Rows.resultWitnessesSpec).at F).post enc Tryz.prog Tryz.f11 false true false false) := by
 obtain ⟨places, hx⟩ := reads os enc
 refine returnsInHanded_of_row (C := Tryz.checked) (s := Rows.OpenSpec.upto Rows.resultWitnessesSpec) ownT started (by kernel_rfl) Tryz.func11
  (witness_row_at (enc := enc) (C := Tryz.checked) false (laidWorld os) wargs rfl (by kernel_rfl) (by kernel_rfl) (by kernel_rfl)
   (OpenSpec.preRow_of_cond 8 hx (by kernel_rfl) (fun k hk => by cases hk; kernel_rfl) (by kernel_rfl) (laid_met os wargs))) ?_
 intro W base args ds gs before hval hW _ hcond _ hL _ _
 exact contractU (spec := Rows.resultWitnessesSpec) (row := Rows.resultWitnessesUptoRow) x11.1 rss11 lay11 rec11 rfl (by kernel_rfl) rfl
  (fun H ds h => by
   obtain ⟨a, b, c, rfl⟩ : ∃ a b c, ds = [a, b, c] := by
    have h3 : ds.length = 3 := h
    match ds, h3 with
    | [a, b, c], _ => exact ⟨a, b, c, rfl⟩
   rfl) ans11 H enc W base args ds gs before hval hW (hcond _ rfl) hL
theorem jPlace : (Rows.resultWitnessesUptoRow.inPlace == Tryz.prog.inPlace 11) = true := by kernel_rfl
theorem jUnf : (Rows.resultWitnessesUptoRow.unfollowed == Tryz.prog.unfollowed 11) = true := by kernel_rfl
theorem jRec : (Rows.resultWitnessesUptoRow.recurses == Tryz.prog.recurses 11) = true := by kernel_rfl
theorem jNamed : (Rows.resultWitnessesUptoRow.named == Tryz.prog.varsNamed 11) = true := by kernel_rfl
theorem jName : Tryz.prog.funcNamed "crux/cruxlaw07.ResultWitnesses" = some 11 := by kernel_rfl
theorem joined : joinedFacts Tryz.prog 11 Tryz.f11 Rows.resultWitnessesSpec Rows.resultWitnessesUptoRow = true :=
 joined_of (by kernel_rfl) laidOutT jMaps (by kernel_rfl) (by kernel_rfl) rfl jStops rfl jKnobs jPlace jUnf jRec jNamed (by kernel_rfl) (by kernel_rfl) (by kernel_rfl) (by kernel_rfl) (by kernel_rfl) rfl (by kernel_rfl) (by kernel_rfl) (by kernel_rfl)
  jKeys rfl jHeard jEnter jLifted jMake rfl (by kernel_rfl) (by kernel_rfl) (by kernel_rfl)
theorem inst : Tryz.f11.isInstance Tryz.prog Rows.resultWitnessesUptoRow.origin Rows.resultWitnessesUptoRow.targs := of_decide_eq_true (by kernel_rfl)
theorem wrap : Tryz.f11.isWrapper Tryz.prog Rows.resultWitnessesUptoRow.wrapper Rows.resultWitnessesUptoRow.mainSum := by
 unfold Func.isWrapper; first | (rw [if_pos (by decide +kernel)]; kernel_rfl) | (rw [if_neg (by decide +kernel)]; exact ⟨rfl, rfl⟩)
theorem saidUpto : Rows.ResultWitnessesUptoSaid :=
 OpenClaim.holds_of_cond 11 Tryz.f11 rfl rfl rfl rfl rfl rfl rfl ⟨rfl, rfl, rfl, rfl, rfl⟩ rfl rfl rfl rfl rfl jName Tryz.func11 joined inst wrap
  (fun os started H enc _ F => by rw [OpenClaim.pre_eq_preRow]; exact liftedUpto os started H enc F)
theorem plain (f : FuncId) (fn : Func) (hf : Tryz.pinned.checked.prog.funcNamed "crux/cruxlaw07.ResultWitnesses" = some f) (hfn : Tryz.pinned.checked.prog.funcs[f]? = some fn) :
  false = Tryz.pinned.checked.prog.looks [] ∧ ∀ (j : Nat) t, fn.params[j]? = some t → Tryz.pinned.checked.prog.wantsStandIn t = false := by
 obtain rfl : f = 11 := Option.some.inj (jName.symm.trans hf) |>.symm
 obtain rfl : fn = Tryz.f11 := (Option.some.inj (Tryz.func11.symm.trans hfn)).symm
 refine ⟨by kernel_rfl, fun j t ht => ?_⟩
 have hall : (Tryz.f11.params.toList.all fun u => !Tryz.prog.wantsStandIn u) = true := by kernel_rfl
 have hm : t ∈ Tryz.f11.params.toList := by simpa using Array.mem_of_getElem? ht
 exact (show Tryz.prog.wantsStandIn t = false by simpa using List.all_eq_true.1 hall t hm)
theorem cardUpto : Rows.ResultWitnessesUptoCardSaid :=
 Claim7.holds_tied_plain_at .later [] _ _ _ _ saidUpto (fun _ h => by cases h) (by kernel_rfl) (fun _ h => by cases h) resultWitnessesUpto_row_tie rfl ⟨rfl, rfl⟩ (by kernel_rfl) rfl plain (by kernel_rfl)
#print axioms cardUpto
end Go.Proofs.YtdjngcfnlfgjkaaGreatDoor.fnWitnesses
