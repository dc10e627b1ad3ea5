/-
  ResultApart holds: the card of the second form (what is read is of bulk at most 2^20): ranks agree with what tells climbers apart, for all contests.
-/
import Derived.Test.YtdjngcfnlfgjkaaGreatDoorLaw
import Derived.Test.YtdjngcfnlfgjkaaGreatDoorP1
import Derived.Test.YtdjngcfnlfgjkaaGreatDoorTie
set_option linter.unusedVariables false
set_option linter.unusedSimpArgs false
set_option linter.unusedSectionVars false
namespace Go.Proofs.YtdjngcfnlfgjkaaGreatDoor.C5
open Go Go.Proofs.YtdjngcfnlfgjkaaGreatDoor.AM Go.Proofs Go.RowKit Go.ChangeShapes Go.WideShapes Go.ChangeAt Go.Proofs.YtdjngcfnlfgjkaaGreatDoor
set_option maxRecDepth 100000
set_option maxHeartbeats 4000000
abbrev rsC:List RS:=[.agg [.sl [.sl shR],.sl [.str]]]
theorem rss13:mapO (rsT tab) Tryz.f13.params.toList=some rsC:=by kernel_rfl
theorem lay13:Tryz.f13.params.toList.all (layOk tab 20)=true:=by kernel_rfl
theorem rec13:Tryz.f13.params.toList.all (fun t=>Tryz.prog.readableRec t&&decide (t < Tryz.prog.types.size))=true:=by kernel_rfl
theorem ans13 (xs:List AV) (h:RS.oks rsC xs=true) (hs:(xs.map AV.szc).sum≤1048576) (hr:∀ x∈xs,x.rg):extI i13 F13 xs=some (.bool true):=by
 obtain ⟨x1,_,rfl,h1,q0⟩:=RS.oks_inv h
 obtain rfl:=RS.oks_nil_inv q0
 simp only [List.map_cons,List.map_nil,List.sum_cons,List.sum_nil] at hs
 obtain ⟨cs,rfl,hc⟩:=RS.agg_inv h1
 obtain ⟨ra,_,rfl,k1,c0⟩:=Sh.oks_inv hc
 obtain ⟨sa,_,rfl,k2,c1⟩:=Sh.oks_inv c0
 obtain rfl:=Sh.oks_nil_inv c1
 simp only [AV.szc,AV.szs] at hs
 obtain ⟨rs,sd,ho⟩:=rd_ct k1 k2 (n:=1048576) (by omega) (by omega) (Nat.le_refl _)
 have hL:=law13 ho
 simp only [extI,i13,mtVs,mtV,k1,k2,ok_str,ok_int,if_true,List.append_nil,List.nil_append,List.cons_append,List.map_cons,List.map_nil,List.length_cons,List.length_nil]
 rw [if_pos (by decide)]
 exact hL
end Go.Proofs.YtdjngcfnlfgjkaaGreatDoor.C5

namespace Go.Proofs.YtdjngcfnlfgjkaaGreatDoor.fnApart
open Go Go.Proofs.YtdjngcfnlfgjkaaGreatDoor.AM C5 Go.Proofs Go.RowKit Go.ChangeShapes Go.WideShapes Go.ChangeAt
set_option maxRecDepth 100000
def wargs:Array Value:=#[.agg #[.slice none 0 0,.slice none 0 0]]
theorem reads (os:Os) {H:Type} (enc:TypeId × Value→H):∃ places,DataW.whole enc Tryz.prog ((laidWorld os).forCall (fun _ _=>0) ⟨#[],wargs,[]⟩).memory Tryz.f13.params.toList Rows.resultApartSpec.vars false wargs.toList 8=some ([.agg [.nil,.nil]],[],places) :=
 ⟨[],by kernel_rfl⟩
theorem liftedUpto (os:Os) (started:os.Started) (H:Type) (enc:TypeId × Value→H) (F:Stop.Interp) :
  ReturnsInHanded {} Tryz.checked os 13 .any ((Rows.OpenSpec.upto Rows.resultApartSpec).preRow enc Tryz.prog Tryz.f13 Rows.resultApartUptoRow.domain false Rows.resultApartUptoRow.laid) (((Rows.OpenSpec.upto Rows.resultApartSpec).at F).post enc Tryz.prog Tryz.f13 false true false false):=by
 obtain ⟨places,hx⟩:=reads os enc
 refine returnsInHanded_of_row (C:=Tryz.checked) (s:=Rows.OpenSpec.upto Rows.resultApartSpec) ownT started (by kernel_rfl) Tryz.func13
  (witness_row_at (enc:=enc) (C:=Tryz.checked) false (laidWorld os) wargs rfl (by kernel_rfl) (by kernel_rfl) (by kernel_rfl)
   (OpenSpec.preRow_of_cond 8 hx (by kernel_rfl) (fun k hk=>by cases hk; kernel_rfl) (by kernel_rfl) (laid_met os wargs))) ?_
 intro W base args ds gs before hval hW _ hcond _ hL _ _
 exact contractU (spec:=Rows.resultApartSpec) (row:=Rows.resultApartUptoRow) x13.1 rss13 lay13 rec13 rfl (by kernel_rfl) rfl
  (fun H ds h=>by
   obtain ⟨a,rfl⟩:∃ a,ds=[a]:=by
    have h3:ds.length=1:=h
    match ds,h3 with
    | [a],_=>exact ⟨a,rfl⟩
   rfl) ans13 H enc W base args ds gs before hval hW (hcond _ rfl) hL
theorem jPlace:(Rows.resultApartUptoRow.inPlace == Tryz.prog.inPlace 13)=true:=by kernel_rfl
theorem jUnf:(Rows.resultApartUptoRow.unfollowed == Tryz.prog.unfollowed 13)=true:=by kernel_rfl
theorem jRec:(Rows.resultApartUptoRow.recurses == Tryz.prog.recurses 13)=true:=by kernel_rfl
theorem jNamed:(Rows.resultApartUptoRow.named == Tryz.prog.varsNamed 13)=true:=by kernel_rfl
theorem jName:Tryz.prog.funcNamed "crux/cruxlaw07.ResultApart"=some 13:=by kernel_rfl
theorem joined:joinedFacts Tryz.prog 13 Tryz.f13 Rows.resultApartSpec Rows.resultApartUptoRow=true :=
 joined_of (by kernel_rfl) laidOutT jMaps (by kernel_rfl) (by kernel_rfl) rfl jStops rfl jKnobs jPlace jUnf jRec jNamed (by kernel_rfl) (by kernel_rfl) (by kernel_rfl) (by kernel_rfl) (by kernel_rfl) rfl (by kernel_rfl) (by kernel_rfl) (by kernel_rfl)
  jKeys rfl jHeard jEnter jLifted jMake rfl (by kernel_rfl) (by kernel_rfl) (by kernel_rfl)
theorem inst:Tryz.f13.isInstance Tryz.prog Rows.resultApartUptoRow.origin Rows.resultApartUptoRow.targs:=of_decide_eq_true (by kernel_rfl)
theorem wrap:Tryz.f13.isWrapper Tryz.prog Rows.resultApartUptoRow.wrapper Rows.resultApartUptoRow.mainSum:=by
 unfold Func.isWrapper; first | (rw [if_pos (by decide +kernel)]; kernel_rfl) | (rw [if_neg (by decide +kernel)]; exact ⟨rfl,rfl⟩)
theorem saidUpto:Rows.ResultApartUptoSaid :=
 OpenClaim.holds_of_cond 13 Tryz.f13 rfl rfl rfl rfl rfl rfl rfl ⟨rfl,rfl,rfl,rfl,rfl⟩ rfl rfl rfl rfl rfl jName Tryz.func13 joined inst wrap
  (fun os started H enc _ F=>by rw [OpenClaim.pre_eq_preRow]; exact liftedUpto os started H enc F)
theorem plain (f:FuncId) (fn:Func) (hf:Tryz.pinned.checked.prog.funcNamed "crux/cruxlaw07.ResultApart"=some f) (hfn:Tryz.pinned.checked.prog.funcs[f]? = some fn) :
  false=Tryz.pinned.checked.prog.looks []∧∀ (j:Nat) t,fn.params[j]? = some t→Tryz.pinned.checked.prog.wantsStandIn t=false:=by
 obtain rfl:f=13:=Option.some.inj (jName.symm.trans hf) |>.symm
 obtain rfl:fn=Tryz.f13:=(Option.some.inj (Tryz.func13.symm.trans hfn)).symm
 refine ⟨by kernel_rfl,fun j t ht=>?_⟩
 have hall:(Tryz.f13.params.toList.all fun u=>!Tryz.prog.wantsStandIn u)=true:=by kernel_rfl
 have hm:t∈Tryz.f13.params.toList:=by simpa using Array.mem_of_getElem? ht
 exact (show Tryz.prog.wantsStandIn t=false by simpa using List.all_eq_true.1 hall t hm)
theorem cardUpto:Rows.ResultApartUptoCardSaid :=
 Claim7.holds_tied_plain_at .later [] _ _ _ _ saidUpto (fun _ h=>by cases h) (by kernel_rfl) (fun _ h=>by cases h) resultApartUpto_row_tie rfl ⟨rfl,rfl⟩ (by kernel_rfl) rfl plain (by kernel_rfl)
#print axioms cardUpto
end Go.Proofs.YtdjngcfnlfgjkaaGreatDoor.fnApart
