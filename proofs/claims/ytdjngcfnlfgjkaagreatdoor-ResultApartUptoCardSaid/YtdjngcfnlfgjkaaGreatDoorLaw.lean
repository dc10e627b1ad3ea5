/-
  From what the machine answers to what a card asks; readings as lists.
-/
import Derived.Test.YtdjngcfnlfgjkaaGreatDoorSm6
import Derived.Test.YtdjngcfnlfgjkaaGreatDoorTab
import Derived.Test.YtdjngcfnlfgjkaaGreatDoorRows
import Derived.ProofKit
import Derived.OpenShut
import Derived.WideKeyArgs
import Derived.ChangeSame
import Derived.Deep.DeepHandedRow
import Derived.SevenTiedAt
import Derived.Test.YtdjngcfnlfgjkaaGreatDoorCards
import Derived.Test.YtdjngcfnlfgjkaaGreatDoorP1
set_option linter.unusedVariables false
set_option linter.unusedSimpArgs false
set_option linter.unusedSectionVars false
namespace Go.Proofs.YtdjngcfnlfgjkaaGreatDoor.C5
set_option maxRecDepth 100000
open Go Go.Proofs.YtdjngcfnlfgjkaaGreatDoor.AM Go.Proofs Go.RowKit Go.ChangeShapes Go.WideShapes Go.ChangeAt Go.Proofs.YtdjngcfnlfgjkaaGreatDoor
theorem bulkAll_sum {H:Type}:∀ ds:List (DataW H),Rows.uptoBulkAll ds=(ds.map Rows.uptoBulk).sum
 | []=>by simp only [Rows.uptoBulkAll,List.map_nil,List.sum_nil]
 | d::r=>by simp only [Rows.uptoBulkAll,List.map_cons,List.sum_cons,bulkAll_sum r]
theorem bulkOk {H:Type}:Bulk (H:=H) Rows.uptoBulk where
 pos d:=by
  cases d with
  | lit l=>cases l<;>simp only [Rows.uptoBulk]<;>omega
  | _=>simp only [Rows.uptoBulk]<;>omega
 str l:=by simp only [Rows.uptoBulk]
 sl a b:=by simp only [Rows.uptoBulk,bulkAll_sum]; omega
 agg a:=by simp only [Rows.uptoBulk,bulkAll_sum]; omega
section
variable {W W':World} (hs:∀ c,c < W.heap.size→W'.heap[c]? = W.heap[c]?)
include hs
theorem kept_of (ho:W'.os=W.os) (hu:W'.output=W.output) (may:MemPlace→Prop):W.keptBut W' may:=by
 refine ⟨ho,hu,fun i hi=>?_⟩
 rw [hs i hi]
 split
 ·rename_i h1 h2
  rw [h1] at h2
  injection h2 with h2; injection h2 with a b c
  subst a; subst b; subst c
  exact ⟨rfl,rfl,rfl,fun _ _=>rfl⟩
 ·rename_i h1 h2
  rw [h1] at h2
  injection h2 with h2; injection h2 with a b
  subst a; subst b
  exact .inr ⟨rfl,rfl⟩
 ·rfl
theorem same_of {p:MemPlace} (hp:p.block < W.heap.size):W.sameAt W' p:=by
 cases p with
 | cell b off=>exact cell_of_block (hs _ hp)
 | map b=>exact hs _ hp
end
theorem laidOutT:laidOutB Tryz.prog=true:=by kernel_rfl
theorem trodAll_stays {P:Program} (hlo:laidOutB P=true) {H:Type} {enc:TypeId × Value→H} {W W':World} {sp:Nat→Bool} (hs:∀ c,c < W.heap.size→W'.heap[c]? = W.heap[c]?) :
  ∀ {ts:List TypeId} {vs:List Value} {ds:List (DataW H)} {ps:List MemPlace},ts.all (fun t=>P.readableRec t&&decide (t < P.types.size))=true →
    DataW.TrodAll enc P W 0 (fun _=>true) true ts vs ds ps→(∀ p∈ps,p.block < W.heap.size)→(∀ p∈ps,sp p.block=true)→DataW.TrodAll enc P W' 0 sp true ts vs ds ps
 | [],vs,ds,ps,_,h,_,_=>by
   obtain ⟨rfl,rfl,rfl⟩:=trodAll_nil h
   exact trodAll_mk0
 | t::ts,vs,ds,ps,ht,h,hl,hsp=>by
   obtain ⟨v,vs',d,ds',p,q,rfl,rfl,rfl,h1,h2⟩:=trodAll_cons h
   simp only [List.all_cons,Bool.and_eq_true,decide_eq_true_eq] at ht
   refine ⟨p,q,WideElems.Trod_stays hlo ht.1.1 ht.1.2 h1 (fun x hx=>same_of hs (hl x (List.mem_append_left _ hx))) (fun x hx=>hsp x (List.mem_append_left _ hx)),?_,rfl⟩
   exact trodAll_stays hlo hs (by simpa using ht.2) h2 (fun x hx=>hl x (List.mem_append_right _ hx)) (fun x hx=>hsp x (List.mem_append_right _ hx))
theorem post_grown {P:Program} (hlo:laidOutB P=true) {H:Type} {enc:TypeId × Value→H} {f:Func} {s:ChangeSpec} {apart fresh handsOn again:Bool} {W W':World} {args:Array Value} {v:Value} {ds gs:List (DataW H)} {before:List MemPlace}
  (hW:DataW.Whole enc P f.params.toList s.vars apart W args.toList ds gs before) (hv:s.vars=[]) (hargs0:(s.fn H (ds++gs)).args=ds) (hvars0:(s.fn H (ds++gs)).vars=[])
  (hrd:f.params.toList.all (fun t=>P.readableRec t&&decide (t < P.types.size))=true)
  (hres:∀ (b:Nat) (sp:Nat→Bool) (hd:Bool),DataW.TrodAll enc P W' b sp hd f.resultTypes.toList (v.resultList f.resultTypes.size) (s.fn H (ds++gs)).results [])
  (hs:∀ c,c < W.heap.size→W'.heap[c]? = W.heap[c]?) (ho:W'.os=W.os) (hu:W'.output=W.output)
  (hok:∀ (j:Nat) (t:TypeId) (r:Value),f.resultTypes[j]? = some t→(v.resultList f.resultTypes.size)[j]? = some r→Value.okWide P W' .any 0 t r) :
  s.post enc P f apart fresh handsOn again W args v W':=by
 have hlt:=hW.lt
 have hWc:=hW
 obtain ⟨p,q,hA,hV,rfl,hz,hn⟩:=hWc
 have hV0:=hV
 rw [hv] at hV0
 obtain ⟨rfl,rfl⟩:=trodVars_none hV0
 have hag:∀ sp:Nat→Bool,(∀ x∈p,sp x.block=true)→DataW.TrodAll enc P W' 0 sp true f.params.toList args.toList (s.fn H (ds++[])).args p:=fun sp hsp=>by
  rw [hargs0]
  exact trodAll_stays hlo hs hrd hA (fun x hx=>hlt x (List.mem_append_left _ hx)) hsp
 have hvr:∀ sp:Nat→Bool,DataW.TrodVars enc P W' sp s.vars (s.fn H (ds++[])).vars []:=fun sp=>by rw [hvars0,hv]; rfl
 refine ⟨ds,[],p++[],[],p,[],hW,hres _ _ _,hag _ (fun x hx=>by simpa using hlt x (List.mem_append_left _ hx)),hvr _,kept_of hs ho hu _,fun _=>⟨hok,(s.fn H (ds++[])).results++(s.fn H (ds++[])).args,(s.fn H (ds++[])).vars,p,⟨p,[],?_,hvr _,by simp,?_,?_⟩,?_⟩⟩
 ·have:=trodAll_append (hag (fun _=>true) (fun _ _=>rfl)) (hres 0 (fun _=>true) true)
  simpa using this
 ·intro b off hp
  have h1:=hlt _ (List.mem_append_left _ hp)
  rw [← hz b off (List.mem_append_left _ hp)]
  unfold World.frozen?
  rw [hs b h1]
 ·intro ha
  simpa using hn ha
 ·intro x hx _
  simpa using hx
theorem contractU {f:FuncId} {fn:Func} {spec:ChangeSpec} {row:OpenClaim} {I:Inst} {F:List AV→Option AV} {rss:List RS} (hx:ExtOk Tryz.prog f (extI I F)) (hts:mapO (rsT tab) fn.params.toList=some rss)
  (hlay:fn.params.toList.all (layOk tab 20)=true) (hrd:fn.params.toList.all (fun t=>Tryz.prog.readableRec t&&decide (t < Tryz.prog.types.size))=true)
  (hv:spec.vars=[]) (hrt:fn.resultTypes=#[4]) (hrow:row.laid=Rows.resultComparesRow.laid)
  (hfn:∀ (H:Type) (ds:List (DataW H)),ds.length=fn.params.toList.length→spec.fn H ds={ results:=[.lit (.bool true)],args:=ds })
  (hlaw:∀ xs,RS.oks rss xs=true→(xs.map AV.szc).sum≤1048576→(∀ x∈xs,x.rg)→extI I F xs=some (.bool true))
  (H:Type) (enc:TypeId × Value→H) (W:World) (base:Nat) (args:Array Value) (ds gs:List (DataW H)) (before:List MemPlace)
  (hval:∀ (j:Nat) t v,fn.params[j]? = some t→args[j]? = some v→Value.okWide Tryz.prog W .any base t v)
  (hW:DataW.Whole enc Tryz.prog fn.params.toList spec.vars false W args.toList ds gs before) (hk:Rows.uptoSmall H (ds++gs)=true) (hL:laidMetH Tryz.prog row.laid W) :
  Calls Tryz.prog f args W fun e W'=>∃ v,e = .returned v∧spec.post enc Tryz.prog fn false true false false W args v W':=by
 have hW':=hW
 obtain ⟨p,q,hA,hV,rfl,hfz,hnd⟩:=hW
 have hV0:=hV
 rw [hv] at hV0
 obtain ⟨rfl,rfl⟩:=trodVars_none hV0
 have hsum:(ds.map Rows.uptoBulk).sum≤1048576:=by
  have:=of_decide_eq_true hk
  rw [List.append_nil] at this
  rw [← bulkAll_sum]; exact this
 obtain ⟨xs,g1,g2,g3,g4⟩:=read_args (own:=fun _=>False) bulkOk tabOf.1 (fun _ h=>h) fn.params.toList rss args.toList ds p hts hlay (fun j t v hj hv=>hval j t v (by simpa using hj) (by simpa using hv)) hA
 have hans:=hlaw xs g2 (Nat.le_trans g3 hsum) g4
 have hHR:HR W.heap.size 0 W noRho h0:=HR.empty W (fun _=>False) (fun _ h=>h.elim) fun _ _=>trivial
 have hst:Stable W (fun _=>False) W (ownOf noRho h0):=fun c o _ hc=>⟨hc,fun h=>by
  rcases h with h | ⟨b,B,x,h1,_⟩
  ·exact h
  ·simp [h0,Hp.get,AM.look,lookRest] at h1⟩
 have hmx:mxs xs=0:=by
  have:=g1.mx_le (n:=0) (fun b x h=>by cases h)
  omega
 have hcall:=hx.2 xs (.bool true) h0 W.heap.size 0 W noRho args.toList hHR (g1.mono hst (Rho.le_refl _)) (by rw [frz_closeds h0 0 12 hmx]; exact hans) (.inl hmx)
 have hc2:Calls Tryz.prog f args W (RetP (fun q=>q=(.bool true,h0)) W.heap.size 0 W noRho h0):=by
  have:=callsIn_wide.1 (show CallsIn Fence.wide 0 Tryz.prog f args.toList.toArray W _ from hcall)
  simpa using this
 refine hc2.mono fun e W' hret=>?_
 cases e with
 | panicked _=>exact hret.elim
 | outgrown=>exact hret.elim
 | returned v =>
   obtain ⟨r,h',ρ',hq,H1,E1,hr⟩:=hret
   simp only [Prod.mk.injEq] at hq
   obtain ⟨rfl,rfl⟩:=hq
   obtain rfl:=hr.bool_inv
   have hs:=E1.old
   have hlen:ds.length=fn.params.toList.length:=by
    have:∀ {ts:List TypeId} {vs:List Value} {ds:List (DataW H)} {ps:List MemPlace},DataW.TrodAll enc Tryz.prog W 0 (fun _=>true) true ts vs ds ps→ds.length=ts.length:=by
     intro ts
     induction ts with
     | nil=>intro vs ds ps h; obtain ⟨_,rfl,_⟩:=trodAll_nil h; rfl
     | cons t ts ih=>intro vs ds ps h; obtain ⟨_,_,_,_,_,_,_,rfl,_,_,h2⟩:=trodAll_cons h; simp [ih h2]
    exact this hA
   have hf:=hfn H (ds++[]) (by simpa using hlen)
   refine ⟨_,rfl,post_grown laidOutT hW' hv ?_ ?_ hrd ?_ hs E1.os E1.output ?_⟩
   ·rw [hf,List.append_nil]
   ·rw [hf]
   ·intro b sp hd
    rw [hf,hrt]
    exact trodAll_mk1 (shut_bool Tryz.underlying4 _)
   ·exact ok_one hrt rfl (okWide_bool_mk Tryz.underlying4 true)
theorem ownT:ownKnob Tryz.prog.godebug=none:=by kernel_rfl
def numsOf:DataW Unit→List Value
 | .agg l=>l.map fun
   | .lit (.int k n)=>.int k n
   | _=>.bool false
 | _=>[]
def layCells (d:DataW Unit):Obj→Obj
 | .cells _ t frozen=>.cells (numsOf d).toArray t frozen
 | o=>o
noncomputable def laidWorld (os:Os):World :=
 { World.holding Tryz.prog os ⟨#[],#[],[]⟩ with heap:=(((World.holding Tryz.prog os ⟨#[],#[],[]⟩).heap.modify 2 (layCells Rows.laid_internal_strconv_uint64pow10)).modify 4 (layCells Rows.laid_math_bits_deBruijn32tab)).modify 5 (layCells Rows.laid_math_bits_deBruijn64tab) }
def zRes:Value:=.agg #[.string ⟨#[]⟩,.string ⟨#[]⟩,.slice none 0 0]
def dRes {H:Type}:DataW H:=.agg [.lit (.string []),.lit (.string []),.nil]
theorem laid_met (os:Os) (args:Array Value):laidMet Tryz.prog Rows.resultComparesRow.laid ((laidWorld os).forCall (fun _ _=>0) ⟨#[],args,[]⟩).memory :=
 laidMet_of_run' 8 (by kernel_rfl) (by kernel_rfl)
theorem joined_of {P:Program} {f:FuncId} {fn:Func} {s:ChangeSpec} {c:OpenClaim} (h1:(c.wf (OpenSpec.ofChange s))=true) (h2:(laidOutB P)=true) (h3:(mapsRowed P)=true) (h4:(fn.params.all (P.readableRec ·))=true) (h5:(namedTie P c.named s.vars)=true) (h6:(c.stops == [])=true) (h7:(P.stops == [])=true) (h8:(c.knobs == [])=true) (h9:(P.stopKnobs == [])=true) (h10:(c.inPlace == P.inPlace f)=true) (h11:(c.unfollowed == P.unfollowed f)=true) (h12:(c.recurses == P.recurses f)=true) (h13:(c.named == P.varsNamed f)=true) (h14:(c.maps == (fn.params.toList++s.plain.varTypes P).any (P.mapsRec ·))=true) (h15:(c.ifaces == (fn.params.toList++s.plain.varTypes P).any (P.ifacesRec ·))=true) (h16:(c.mapsOut == P.mapsAmong fn.resultTypes.toList)=true) (h17:(c.loops == (fn.params.toList++s.plain.varTypes P).any (P.loopsFrom ·))=true) (h18:(c.wideKeys == (fn.params.toList++s.plain.varTypes P++fn.resultTypes.toList).any (P.wideKeysFrom ·))=true) (h19:(s.vars.all (P.varReadable ·))=true) (h20:(fn.resultTypes.all (fun t=>P.readableRec t&&decide (t < P.types.size)))=true) (h21:(c.ifacesOut == fn.resultTypes.toList.any (P.ifacesRec ·))=true) (h22:(c.loopsOut == fn.resultTypes.toList.any (P.loopsFrom ·))=true) (h23:(c.plainKeys == P.plainKeys)=true) (h24:(c.shortTexts.isNone)=true) (h25:(P.stopsHeard)=true) (h26:(P.mayEnter)=true) (h27:(c.lifted == P.liftsFinal)=true) (h28:(P.make == some c.make)=true) (h29:(c.kinds == (if c.domain.isEmpty then [] else fn.params.toList.map fun t=>match P.underlying t with | some (.int k)=>some k | _=>none))=true) (h30:(c.pinned == c.pinnedBy)=true) (h31:(c.veiled == (fn.params.toList++s.plain.varTypes P++fn.resultTypes.toList).any (P.veiledRec ·))=true) (h32:(c.veiledFits P fn.params.toList (fn.params.toList++s.plain.varTypes P++fn.resultTypes.toList))=true) :
  joinedFacts P f fn s c=true:=by
 unfold joinedFacts
 simp only [h1,h2,h3,h4,h5,h6,h7,h8,h9,h10,h11,h12,h13,h14,h15,h16,h17,h18,h19,h20,h21,h22,h23,h24,h25,h26,h27,h28,h30,h31,h32,Bool.and_true,Bool.true_and]
 exact h29
theorem jMaps:mapsRowed Tryz.prog=true:=by kernel_rfl
theorem jStops:(Tryz.prog.stops == [])=true:=by kernel_rfl
theorem jKnobs:(Tryz.prog.stopKnobs == [])=true:=by kernel_rfl
theorem jKeys:(Rows.resultComparesRow.plainKeys == Tryz.prog.plainKeys)=true:=by kernel_rfl
theorem jHeard:Tryz.prog.stopsHeard=true:=by kernel_rfl
theorem jEnter:Tryz.prog.mayEnter=true:=by kernel_rfl
theorem jLifted:(Rows.resultComparesRow.lifted == Tryz.prog.liftsFinal)=true:=by kernel_rfl
theorem jMake:(Tryz.prog.make == some Rows.resultComparesRow.make)=true:=by kernel_rfl
set_option maxHeartbeats 4000000
theorem rd_int {a:AV} {n:Nat} (h:(Sh.sl [.int .i64]).ok a=true) (hs:a.sz≤n):∃ xs:List Int,IsL 1 (xs.map intR) a∧xs.length≤n:=by
 rcases Sh.sl_inv h with rfl | ⟨rows,rfl,hr⟩
 ·exact ⟨[],isL_nils,Nat.zero_le _⟩
 ·obtain ⟨xs,rfl⟩:=rows_of (f:=intR) (fun r hr=>by
   obtain ⟨a,r1,rfl,h1,q0⟩:=Sh.oks_inv hr
   obtain ⟨x,rfl⟩:=Sh.int_inv h1
   obtain rfl:=Sh.oks_nil_inv q0
   exact ⟨x,rfl⟩) hr
  refine ⟨xs,isL_sl,?_⟩
  have:=rows_len (rows:=xs.map intR) (fun r hr=>by obtain ⟨x,_,rfl⟩:=List.mem_map.1 hr; simp [intR])
  simp only [AV.sz,List.length_map] at hs this
  omega
abbrev shO:List Sh:=[.str,.int .i64,.int .i64]
def xsOf (va:AV):List Int:=va.rowsL.map fun r=>(getJ (nth r 0)).nI
theorem xsOf_eq {va:AV} {ys:List Int} (h:IsL 1 (ys.map intR) va):xsOf va=ys:=by
 unfold xsOf
 rw [h.rows,List.map_map]
 have:((fun r=>(getJ (nth r 0)).nI) ∘ intR)=(id:Int→Int):=by funext n; rfl
 rw [this,List.map_id]
abbrev shR:List Sh:=[.str,.str,.sl [.int .i64]]
def tri (t:ByteArray × ByteArray × AV):List AV:=[.str t.1,.str t.2.1,t.2.2]
theorem rd_rs {a:AV} {n:Nat} (h:(Sh.sl shR).ok a=true) (hs:a.sz≤n) (hn:n≤1048576):∃ l:List Rs,RssOk a l:=by
 rcases Sh.sl_inv h with rfl | ⟨rows,rfl,hr⟩
 ·exact ⟨[],⟨isL_nils,by simp,by simp⟩⟩
 ·obtain ⟨ts,rfl⟩:=rows_of (f:=tri) (fun r hr=>by
   obtain ⟨_,_,rfl,h1,q0⟩:=Sh.oks_inv hr
   obtain ⟨x1,rfl⟩:=Sh.str_inv h1
   obtain ⟨_,_,rfl,h1,q1⟩:=Sh.oks_inv q0
   obtain ⟨x2,rfl⟩:=Sh.str_inv h1
   obtain ⟨x3,_,rfl,h1,q2⟩:=Sh.oks_inv q1
   obtain rfl:=Sh.oks_nil_inv q2
   exact ⟨⟨x1,x2,x3⟩,rfl⟩) hr
  have h1:=rows_len (rows:=ts.map tri) (fun r hr=>by obtain ⟨x,_,rfl⟩:=List.mem_map.1 hr; simp [tri])
  simp only [AV.sz,List.length_map] at hs h1
  have hok:∀ t∈ts,(Sh.sl [.int .i64]).ok t.2.2=true:=fun t ht=>by
   have h2:=hr (tri t) (List.mem_map_of_mem ht)
   simp [tri] at h2
   exact h2
  have hsz:∀ t∈ts,t.1.size < 1048577∧t.2.2.sz≤n:=fun t ht=>by
   have:=szss_mem (List.mem_map_of_mem (f:=tri) ht)
   simp only [tri,AV.szs,AV.sz] at this
   omega
  refine ⟨ts.map fun t=>⟨t.1,t.2.1,t.2.2,xsOf t.2.2⟩,⟨?_,by rw [List.length_map]; omega,fun r hr=>?_⟩⟩
  ·have e:(ts.map fun t=>(⟨t.1,t.2.1,t.2.2,xsOf t.2.2⟩:Rs)).map Rs.row=ts.map tri:=by
    rw [List.map_map]; rfl
   rw [e]; exact isL_sl
  ·obtain ⟨t,ht,rfl⟩:=List.mem_map.1 hr
   obtain ⟨z1,z2⟩:=hsz t ht
   obtain ⟨ys,hy,hyl⟩:=rd_int (hok t ht) z2
   have e:=xsOf_eq hy
   exact ⟨by simp only [e]; exact hy,by simp only [e]; omega,z1⟩
theorem rd_strs {a:AV} {n:Nat} (h:(Sh.sl [.str]).ok a=true) (hs:a.sz≤n):∃ l:List ByteArray,IsL 1 (l.map strR) a∧l.length≤n:=by
 rcases Sh.sl_inv h with rfl | ⟨rows,rfl,hr⟩
 ·exact ⟨[],isL_nils,Nat.zero_le _⟩
 ·obtain ⟨xs,rfl⟩:=rows_of (f:=strR) (fun r hr=>by
   obtain ⟨a,r1,rfl,h1,q0⟩:=Sh.oks_inv hr
   obtain ⟨x,rfl⟩:=Sh.str_inv h1
   obtain rfl:=Sh.oks_nil_inv q0
   exact ⟨x,rfl⟩) hr
  refine ⟨xs,isL_sl,?_⟩
  have:=rows_len (rows:=xs.map strR) (fun r hr=>by obtain ⟨x,_,rfl⟩:=List.mem_map.1 hr; simp [strR])
  simp only [AV.sz,List.length_map] at hs this
  omega
theorem rd_all {n:Nat} (hn:n≤1048576):∀ {l:List AV},(∀ x∈l,(Sh.sl shR).ok x=true∧x.sz≤n)→∃ rs:List (AV × List Rs),rs.map (·.1)=l∧∀ p∈rs,RssOk p.1 p.2
 | [],_=>⟨[],rfl,fun _ h=>by cases h⟩
 | x::l,h=>by
   obtain ⟨rs,h1,h2⟩:=rd_all hn fun y hy=>h y (.tail _ hy)
   obtain ⟨q1,q2⟩:=h x (.head _)
   obtain ⟨k,hk⟩:=rd_rs q1 q2 hn
   refine ⟨(x,k)::rs,by rw [List.map_cons,h1],fun p hp=>?_⟩
   cases hp with
   | head=>exact hk
   | tail _ hp=>exact h2 p hp
theorem rd_ct {ra sa:AV} {n:Nat} (h1:(Sh.sl [.sl shR]).ok ra=true) (h2:(Sh.sl [.str]).ok sa=true) (s1:ra.sz≤n) (s2:sa.sz≤n) (hn:n≤1048576):∃ rs sd,CtOk ra sa rs sd:=by
 obtain ⟨sd,hs,hl⟩:=rd_strs h2 s2
 rcases Sh.sl_inv h1 with rfl | ⟨rows,rfl,hr⟩
 ·exact ⟨[],sd,⟨isL_nils',hs,(fun _ h=>by cases h),by simp,by omega⟩⟩
 ·obtain ⟨xs,rfl⟩:=rows_of (f:=fun x:AV=>[x]) (fun r hr=>by
   obtain ⟨a,r1,rfl,_,q0⟩:=Sh.oks_inv hr
   obtain rfl:=Sh.oks_nil_inv q0
   exact ⟨a,rfl⟩) hr
  have hlen:=rows_len (rows:=xs.map fun x:AV=>[x]) (fun r hr=>by obtain ⟨x,_,rfl⟩:=List.mem_map.1 hr; simp)
  simp only [AV.sz,List.length_map] at s1 hlen
  obtain ⟨rs,e,ho⟩:=rd_all hn (l:=xs) (fun x hx=>by
   have h3:=hr [x] (List.mem_map_of_mem (f:=fun x:AV=>[x]) hx)
   have h4:=szss_mem (List.mem_map_of_mem (f:=fun x:AV=>[x]) hx)
   simp only [AV.szs] at h4
   simp at h3
   exact ⟨h3,by omega⟩)
  subst e
  refine ⟨rs,sd,⟨?_,hs,ho,by rw [List.length_map] at hlen; omega,by omega⟩⟩
  rw [List.map_map]; exact isL_sl
end Go.Proofs.YtdjngcfnlfgjkaaGreatDoor.C5
