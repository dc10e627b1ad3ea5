/-
  ResultNarrows holds: the card of the second form (what is read is of bulk at most 2^20): the best and the worst possible rank, what a decided value leaves, and what all decided values leave, for all open values.
-/
import Derived.Test.YtdjngcfnlfgjkaaGreatDoorLaw
import Derived.Test.YtdjngcfnlfgjkaaGreatDoorP1
import Derived.Test.YtdjngcfnlfgjkaaGreatDoorTie
set_option linter.unusedVariables false
set_option linter.unusedSimpArgs false
set_option linter.unusedSectionVars false
namespace Go.Proofs.YtdjngcfnlfgjkaaGreatDoor.C5
open Go Go.Proofs.YtdjngcfnlfgjkaaGreatDoor.AM Go.Proofs Go.RowKit Go.ChangeShapes Go.WideShapes Go.ChangeAt Go.Proofs.YtdjngcfnlfgjkaaGreatDoor
set_option maxRecDepth 100000
set_option maxHeartbeats 4000000
theorem rss7 : mapO (rsT tab) Tryz.f7.params.toList = some [.one (.sl shO), .one (.int .i64), .one (.int .u8)] := by kernel_rfl
theorem lay7 : Tryz.f7.params.toList.all (layOk tab 20) = true := by kernel_rfl
theorem rec7 : Tryz.f7.params.toList.all (fun t => Tryz.prog.readableRec t && decide (t < Tryz.prog.types.size)) = true := by kernel_rfl
theorem ans7 (xs : List AV) (h : RS.oks [.one (.sl shO), .one (.int .i64), .one (.int .u8)] xs = true) (hs : (xs.map AV.szc).sum ≤ 1048576) (hr : ∀ x ∈ xs, x.rg) : extI i7 F7 xs = some (.bool true) := by
 obtain ⟨x1, _, rfl, h1, q0⟩ := RS.oks_inv h
 obtain ⟨x2, _, rfl, h2, q1⟩ := RS.oks_inv q0
 obtain ⟨x3, _, rfl, h3, q2⟩ := RS.oks_inv q1
 obtain rfl := RS.oks_nil_inv q2
 simp only [List.map_cons, List.map_nil, List.sum_cons, List.sum_nil] at hs
 have h1 : (Sh.sl shO).ok x1 = true := h1
 obtain ⟨c, rfl⟩ := Sh.int_inv (show (Sh.int .i64).ok x2 = true from h2)
 obtain ⟨p, rfl⟩ := Sh.int_inv (show (Sh.int .u8).ok x3 = true from h3)
 have hp : (Lit.int .u8 p).wf = true := hr _ (.tail _ (.tail _ (.head _)))
 have hp : 0 ≤ p ∧ p ≤ 255 := by
  simp [Lit.wf, IntKind.min, IntKind.max, IntKind.signed, IntKind.bits] at hp
  omega
 have hz : x1.sz ≤ 1048576 := by
  have : x1.szc = x1.sz := by cases x1 <;> first | rfl | simp [Sh.ok] at h1
  omega
 obtain ⟨l, ho, hn⟩ := rd_ops' h1 hz (Nat.le_refl _)
 have hL := law7 ho hn c hp.1 hp.2
 simp only [extI, i7, Si, mtVs, mtV, h1, ok_int, if_true, List.append_nil, List.nil_append, List.cons_append, List.map_cons, List.map_nil, List.length_cons, List.length_nil]
 rw [if_pos (by decide)]
 exact hL
end Go.Proofs.YtdjngcfnlfgjkaaGreatDoor.C5

namespace Go.Proofs.YtdjngcfnlfgjkaaGreatDoor.fnNarrows
open Go Go.Proofs.YtdjngcfnlfgjkaaGreatDoor.AM C5 Go.Proofs Go.RowKit Go.ChangeShapes Go.WideShapes Go.ChangeAt
set_option maxRecDepth 100000
def wargs : Array Value := #[.slice none 0 0, .int .i64 0, .int .u8 0]
theorem reads (os : Os) {H : Type} (enc : TypeId × Value → H) : ∃ places, DataW.whole enc Tryz.prog ((laidWorld os).forCall (fun _ _ => 0) ⟨#[], wargs, []⟩).memory Tryz.f7.params.toList Rows.resultNarrowsSpec.vars false wargs.toList 8 = some ([.nil, .lit (.int .i64 0), .lit (.int .u8 0)], [], places) :=
 ⟨[], by kernel_rfl⟩
theorem liftedUpto (os : Os) (started : os.Started) (H : Type) (enc : TypeId × Value → H) (F : Stop.Interp) :
  ReturnsInHanded {} Tryz.checked os 7 .any ((Rows.OpenSpec.upto Rows.resultNarrowsSpec).preRow enc Tryz.prog Tryz.f7 Rows.resultNarrowsUptoRow.domain false Rows.resultNarrowsUptoRow.laid) (((Rows.OpenSpec.upto Rows.resultNarrowsSpec).at F).post enc Tryz.prog Tryz.f7 false true false false) := by
 obtain ⟨places, hx⟩ := reads os enc
 refine returnsInHanded_of_row (C := Tryz.checked) (s := Rows.OpenSpec.upto Rows.resultNarrowsSpec) ownT started (by kernel_rfl) Tryz.func7
  (witness_row_at (enc := enc) (C := Tryz.checked) false (laidWorld os) wargs rfl (by kernel_rfl) (by kernel_rfl) (by kernel_rfl)
   (OpenSpec.preRow_of_cond 8 hx (by kernel_rfl) (fun k hk => by cases hk; kernel_rfl) (by kernel_rfl) (laid_met os wargs))) ?_
 intro W base args ds gs before hval hW _ hcond _ hL _ _
 exact contractU (spec := Rows.resultNarrowsSpec) (row := Rows.resultNarrowsUptoRow) x7.1 rss7 lay7 rec7 rfl (by kernel_rfl) rfl
  (fun H ds h => by
   obtain ⟨a, b, c, rfl⟩ : ∃ a b c, ds = [a, b, c] := by
    have h3 : ds.length = 3 := h
    match ds, h3 with
    | [a, b, c], _ => exact ⟨a, b, c, rfl⟩
   rfl) ans7 H enc W base args ds gs before hval hW (hcond _ rfl) hL
theorem jPlace : (Rows.resultNarrowsUptoRow.inPlace == Tryz.prog.inPlace 7) = true := by kernel_rfl
theorem jUnf : (Rows.resultNarrowsUptoRow.unfollowed == Tryz.prog.unfollowed 7) = true := by kernel_rfl
theorem jRec : (Rows.resultNarrowsUptoRow.recurses == Tryz.prog.recurses 7) = true := by kernel_rfl
theorem jNamed : (Rows.resultNarrowsUptoRow.named == Tryz.prog.varsNamed 7) = true := by kernel_rfl
theorem jName : Tryz.prog.funcNamed "crux/cruxlaw07.ResultNarrows" = some 7 := by kernel_rfl
theorem joined : joinedFacts Tryz.prog 7 Tryz.f7 Rows.resultNarrowsSpec Rows.resultNarrowsUptoRow = true :=
 joined_of (by kernel_rfl) laidOutT jMaps (by kernel_rfl) (by kernel_rfl) rfl jStops rfl jKnobs jPlace jUnf jRec jNamed (by kernel_rfl) (by kernel_rfl) (by kernel_rfl) (by kernel_rfl) (by kernel_rfl) rfl (by kernel_rfl) (by kernel_rfl) (by kernel_rfl)
  jKeys rfl jHeard jEnter jLifted jMake rfl (by kernel_rfl) (by kernel_rfl) (by kernel_rfl)
theorem inst : Tryz.f7.isInstance Tryz.prog Rows.resultNarrowsUptoRow.origin Rows.resultNarrowsUptoRow.targs := of_decide_eq_true (by kernel_rfl)
theorem wrap : Tryz.f7.isWrapper Tryz.prog Rows.resultNarrowsUptoRow.wrapper Rows.resultNarrowsUptoRow.mainSum := by
 unfold Func.isWrapper; first | (rw [if_pos (by decide +kernel)]; kernel_rfl) | (rw [if_neg (by decide +kernel)]; exact ⟨rfl, rfl⟩)
theorem saidUpto : Rows.ResultNarrowsUptoSaid :=
 OpenClaim.holds_of_cond 7 Tryz.f7 rfl rfl rfl rfl rfl rfl rfl ⟨rfl, rfl, rfl, rfl, rfl⟩ rfl rfl rfl rfl rfl jName Tryz.func7 joined inst wrap
  (fun os started H enc _ F => by rw [OpenClaim.pre_eq_preRow]; exact liftedUpto os started H enc F)
theorem plain (f : FuncId) (fn : Func) (hf : Tryz.pinned.checked.prog.funcNamed "crux/cruxlaw07.ResultNarrows" = some f) (hfn : Tryz.pinned.checked.prog.funcs[f]? = some fn) :
  false = Tryz.pinned.checked.prog.looks [] ∧ ∀ (j : Nat) t, fn.params[j]? = some t → Tryz.pinned.checked.prog.wantsStandIn t = false := by
 obtain rfl : f = 7 := Option.some.inj (jName.symm.trans hf) |>.symm
 obtain rfl : fn = Tryz.f7 := (Option.some.inj (Tryz.func7.symm.trans hfn)).symm
 refine ⟨by kernel_rfl, fun j t ht => ?_⟩
 have hall : (Tryz.f7.params.toList.all fun u => !Tryz.prog.wantsStandIn u) = true := by kernel_rfl
 have hm : t ∈ Tryz.f7.params.toList := by simpa using Array.mem_of_getElem? ht
 exact (show Tryz.prog.wantsStandIn t = false by simpa using List.all_eq_true.1 hall t hm)
theorem cardUpto : Rows.ResultNarrowsUptoCardSaid :=
 Claim7.holds_tied_plain_at .later [] _ _ _ _ saidUpto (fun _ h => by cases h) (by kernel_rfl) (fun _ h => by cases h) resultNarrowsUpto_row_tie rfl ⟨rfl, rfl⟩ (by kernel_rfl) rfl plain (by kernel_rfl)
#print axioms cardUpto
end Go.Proofs.YtdjngcfnlfgjkaaGreatDoor.fnNarrows
