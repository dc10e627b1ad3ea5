/-
  The abstract machine against the model: operations (first part).
-/
import Derived.Test.YtdjngcfnlfgjkaaGreatDoorAm1
import Derived.Laws.StructEq
set_option linter.unusedVariables false
set_option linter.unusedSimpArgs false
set_option linter.unusedSectionVars false
namespace Go.Proofs.YtdjngcfnlfgjkaaGreatDoor.AM
open Go.RowKit
variable [Glob]
section types
variable {T:Tab} {P:Program} (hT:T.Of P) {w:World}
include hT
theorem underT {t:TypeId} {d:TypeDesc} (h:T.underlying t=some d):P.underlying t=some d:=by
 unfold Tab.underlying at h
 cases hg:T.ty.get t with
 | none=>simp [hg] at h
 | some e=>simp [hg] at h; rw [hT.under t e hg,h]
theorem sizeT_spec {t:TypeId} {n:Nat} (h:sizeT T t=some n):∃ i,P.info? t=some i∧i.size=n:=by
 unfold sizeT at h
 cases hg:T.ty.get t with
 | none=>simp [hg] at h
 | some e=>simp [hg] at h; exact ⟨e.info,hT.info t e hg,h⟩
theorem bytesT_spec {t:TypeId} {n:Nat} (h:bytesT T t=some n):∃ i,P.info? t=some i∧i.bytes=n:=by
 unfold bytesT at h
 cases hg:T.ty.get t with
 | none=>simp [hg] at h
 | some e=>simp [hg] at h; exact ⟨e.info,hT.info t e hg,h⟩
theorem zeroT_spec {t:TypeId} {z:AV} (h:zeroT T t=some z):∃ i zv,P.info? t=some i∧i.zero=some zv∧ofZero zv=some z:=by
 unfold zeroT at h
 cases hg:T.ty.get t with
 | none=>simp [hg] at h
 | some e =>
   simp [hg] at h
   cases hz:e.info.zero with
   | none=>simp [hz] at h
   | some zv=>simp [hz] at h; exact ⟨e.info,zv,hT.info t e hg,hz,h⟩
theorem run_sizeT {t:TypeId} {n:Nat} (h:sizeT T t=some n):(sizeOf t).run P w = .ok n w:=by
 obtain ⟨i,h1,h2⟩:=sizeT_spec hT h
 simp [sizeOf,typeInfo,h1,h2]
theorem run_aggT {t:TypeId} {ag:Bool} (h:aggT T t=some ag):(isAgg t).run P w = .ok ag w:=by
 unfold aggT at h
 split at h
 ·rename_i d hd; simp at h; subst h; simp [isAgg,run_underlying (underT hT hd)]
 ·rename_i d1 d2 hd; simp at h; subst h; simp [isAgg,run_underlying (underT hT hd)]
 ·rename_i d hns hna hd
  simp at h; subst h
  have hu:=underT hT hd
  simp only [isAgg,Sem.run_bind,run_underlying hu,Result.andThen_ok]
  cases d<;>first | rfl | exact (hns _ rfl).elim | exact (hna _ _ rfl).elim
 ·cases h
end types
theorem ofValue_lit {v:Value} {a:AV} (h:ofValue v=some a):a.lit=some v:=by
 cases v with
 | pointer x=>cases x<;>simp [ofValue] at h; subst h; rfl
 | slice x n c =>
   cases x with
   | some _=>simp [ofValue] at h
   | none =>
     cases n with
     | succ n=>simp [ofValue] at h
     | zero=>cases c with
       | succ c=>simp [ofValue] at h
       | zero=>simp [ofValue] at h; subst h; rfl
 | map x=>cases x<;>simp [ofValue] at h; subst h; rfl
 | _=>simp [ofValue] at h<;>subst h<;>rfl
theorem ofValues_rel {w:World} {own:Nat→Prop} {ρ:Rho}:∀ {vs:List Value} {as:List AV},ofValues vs=some as→Rels w own ρ as vs
 | [],as,h=>by simp [ofValues] at h; subst h; exact .nil _
 | v::vs,as,h=>by
   simp only [ofValues] at h
   cases h1:ofValue v with
   | none=>simp [h1] at h
   | some a =>
     cases h2:ofValues vs with
     | none=>simp [h1,h2] at h
     | some bs=>simp [h1,h2] at h; subst h; exact .cons _ _ _ _ _ (.lit _ _ _ (ofValue_lit h1)) (ofValues_rel h2)
theorem ofZero_rel {w:World} {own:Nat→Prop} {ρ:Rho} {v:Value} {a:AV} (h:ofZero v=some a):Rel w own ρ a v:=by
 cases v with
 | agg cs =>
   simp only [ofZero] at h
   cases h1:ofValues cs.toList with
   | none=>simp [h1] at h
   | some as =>
     simp [h1] at h; subst h
     have:=Rel.agg (w:=w) (own:=own) ρ _ _ (ofValues_rel h1)
     simpa using this
 | _=>exact .lit _ _ _ (ofValue_lit (by simpa only [ofZero] using h))
theorem ofZero_mx {v:Value} {a:AV} (h:ofZero v=some a):a.mx=0:=by
 have:=(ofZero_rel (w:=default) (own:=fun _=>False) (ρ:=noRho) h).mx_le (n:=0) (fun b x h=>by cases h)
 omega
theorem ofZero_ne_junk {v:Value} {a:AV} (h:ofZero v=some a):a ≠ .junk:=by
 rintro rfl
 cases v with
 | agg cs=>simp only [ofZero] at h; cases h1:ofValues cs.toList<;>simp [h1] at h
 | _=>have:=ofValue_lit (by simpa only [ofZero] using h); simp [AV.lit] at this
theorem flat_row {α:Type} {k:Nat}:∀ {rows:List (List α)},(∀ r∈rows,r.length=k)→∀ {i:Nat} {r:List α},rows[i]? = some r→(rows.flatten.drop (i * k)).take k=r
 | [],_,i,r,hi=>by simp at hi
 | q::rows,hk,i,r,hi=>by
   have hq:q.length=k:=hk q (by simp)
   cases i with
   | zero=>simp at hi; subst hi; simp [hq]
   | succ i =>
     simp at hi
     have ih:=flat_row (fun r hr=>hk r (by simp [hr])) hi
     have e:(q++rows.flatten).drop ((i+1) * k)=rows.flatten.drop (i * k):=by
      rw [show (i+1) * k=q.length+i * k by rw [Nat.succ_mul,hq]; omega,List.drop_length_add_append]
     rw [List.flatten_cons,e]
     exact ih
theorem flat_length {α:Type} {k:Nat} {rows:List (List α)} (hk:∀ r∈rows,r.length=k):rows.flatten.length=rows.length * k:=by
 induction rows with
 | nil=>simp
 | cons q rows ih=>simp [ih (fun r hr=>hk r (by simp [hr])),hk q (by simp),Nat.succ_mul,Nat.add_comm]
section
variable {T:Tab} {P:Program} {B0 nx0:Nat} {w:World} {ρ:Rho} {h:Hp}
theorem cellsA_spec (H:HR B0 nx0 w ρ h) {a:AV} {va:Value} (ha:Rel w (ownOf ρ h) ρ a va) {cs:List AV} (hc:cellsA h a=some cs) :
  ∃ ad vs,va = .pointer (some ad)∧Rels w (ownOf ρ h) ρ cs vs∧(∀ j v,vs[j]? = some v→w.cell? (ad.add j)=some v):=by
 cases a<;>simp only [cellsA] at hc<;>try (cases hc; done)
 ·rename_i b i o
  obtain ⟨x,rfl,hx⟩:=ha.ptr_inv
  cases hg:h.get b with
  | none=>simp [hg] at hc
  | some B =>
    cases B<;>simp [hg] at hc
    rename_i k rows
    rw [nth_eq] at hc
    cases hr:rows[i]? with
    | none=>simp [hr] at hc
    | some r =>
      simp [hr] at hc; subst hc
      obtain ⟨arr,e,vs,h1,h2,h3,h4,h5,h6,h7⟩:=H.blk b _ x hg hx
      have hrow:=flat_row h3 hr
      have hrel:Rels w (ownOf ρ h) ρ r ((vs.drop (i * x.k)).take x.k):=by
       have:=(h6.drop (i * x.k)).take x.k
       rwa [hrow] at this
      refine ⟨_,((vs.drop (i * x.k)).take x.k).drop o,rfl,hrel.drop o,fun j v hj=>?_⟩
      rw [List.getElem?_drop,List.getElem?_take] at hj
      split at hj
      ·rw [List.getElem?_drop] at hj
       obtain ⟨h8,_⟩:=h7 _ _ hj
       have hadd:(⟨x.c,x.base+i * x.k+o,none⟩:Addr).add j=⟨x.c,x.base+(i * x.k+(o+j)),none⟩:=by
        unfold Addr.add; split
        ·subst_vars; simp; omega
        ·simp; omega
       rw [hadd]
       simp [World.cell?,h1,h8]
      ·cases hj
 ·rename_i cs'
  simp at hc; subst hc
  obtain ⟨ad,vs,rfl,h1,h2⟩:=ha.ref_inv
  refine ⟨ad,vs,rfl,h1.mono (Stable.refl _ _) (noRho_le _),fun j v hj=>?_⟩
  obtain ⟨h3,h4,_⟩:=h2 j v hj
  have:ad.add j=⟨ad.block,ad.off+j,none⟩:=by
   obtain ⟨b,o,s⟩:=ad
   simp at h4; subst h4
   unfold Addr.add; split<;>simp_all
  rw [this]; exact h3
theorem loadA_sound (hT:T.Of P) (H:HR B0 nx0 w ρ h) {t:TypeId} {a r:AV} {va:Value} (ha:Rel w (ownOf ρ h) ρ a va) (hl:loadA T h t a=some r) :
  ∃ v,(Instr.loadAt t va).run P w = .ok v w∧(∃ ad,va = .pointer (some ad)∧(loadVar t ad).run P w = .ok v w)∧Rel w (ownOf ρ h) ρ r v:=by
 unfold loadA at hl
 cases h1:aggT T t with
 | none=>simp [h1] at hl
 | some ag =>
   cases h2:sizeT T t with
   | none=>simp [h1,h2] at hl
   | some n =>
     cases h3:cellsA h a with
     | none=>simp [h1,h2,h3] at hl
     | some cs =>
       simp only [h1,h2,h3] at hl
       obtain ⟨ad,vs,rfl,hrel,hcell⟩:=cellsA_spec H ha h3
       have hag:=run_aggT hT (w:=w) h1
       have hsz:=run_sizeT hT (w:=w) h2
       cases ag with
       | true =>
         simp only [takeV,if_true] at hl
         split at hl
         ·rename_i hn
          simp at hl; subst hl
          have hlen:=hrel.length
          have hrun:=run_loadCells_list (P:=P) w ad (vs.take n) (fun j v hj=>by
           rw [List.getElem?_take] at hj; split at hj
           ·exact hcell j v hj
           ·cases hj)
          rw [List.length_take,Nat.min_eq_left (by omega)] at hrun
          have hlv:(loadVar t ad).run P w = .ok (.agg (vs.take n).toArray) w:=by simp [loadVar,hag,hsz,hrun]
          exact ⟨_,by simp [Instr.loadAt,Instr.sureAddr,hlv],⟨ad,rfl,hlv⟩,.agg _ _ _ (hrel.take n)⟩
         ·cases hl
       | false =>
         simp only [takeV,Bool.false_eq_true,if_false] at hl
         cases cs with
         | nil=>simp at hl
         | cons c cs =>
           simp at hl; subst hl
           cases hrel with
           | cons _ _ v _ vs hr1 hr2 =>
             have hc:=hcell 0 v (by simp)
             have hadd:ad.add 0=ad:=by simp [Addr.add]
             rw [hadd] at hc
             have hlv:(loadVar t ad).run P w = .ok v w:=by simp [loadVar,hag,hc]
             exact ⟨v,by simp [Instr.loadAt,Instr.sureAddr,hlv],⟨ad,rfl,hlv⟩,hr1⟩
end
end Go.Proofs.YtdjngcfnlfgjkaaGreatDoor.AM

namespace Go.Proofs.YtdjngcfnlfgjkaaGreatDoor.AM
open Go.RowKit
variable [Glob]
def seg {α:Type} (l:List α) (p:Nat) (c:List α):List α:=l.take p++c++l.drop (p+c.length)
theorem setCells_eq:∀ (cs:List AV) (r:List AV) (o:Nat),o+cs.length≤r.length→setCells r o cs=seg r o cs
 | [],r,o,h=>by simp [setCells,seg]
 | c::cs,r,o,h=>by
   simp only [setCells,put_eq]
   simp at h
   rw [setCells_eq cs (r.set o c) (o+1) (by simp; omega)]
   unfold seg
   have h1:(r.set o c).take (o+1)=r.take o++[c]:=by
    rw [List.take_succ_eq_append_getElem (by simp; omega),List.take_set_of_le (Nat.le_refl _)]
    simp
   rw [h1,List.drop_set_of_lt (by omega)]
   simp [Nat.add_comm,Nat.add_left_comm]
theorem seg_length {α:Type} (l:List α) (p:Nat) (c:List α) (h:p+c.length≤l.length):(seg l p c).length=l.length:=by
 simp [seg]; omega
theorem flat_set {α:Type} {k:Nat}:∀ {rows:List (List α)},(∀ r∈rows,r.length=k)→∀ {i:Nat} {r':List α},i < rows.length→r'.length=k→(rows.set i r').flatten=seg rows.flatten (i * k) r'
 | [],_,i,r',hi,_=>by simp at hi
 | q::rows,hk,0,r',_,hr=>by
   have hq:=hk q (by simp)
   have:(q++rows.flatten).drop r'.length=rows.flatten:=by rw [hr,← hq]; simp
   simp [seg,this]
 | q::rows,hk,i+1,r',hi,hr=>by
   have hq:=hk q (by simp)
   have ih:=flat_set (k:=k) (rows:=rows) (fun r hr=>hk r (List.mem_cons_of_mem _ hr)) (i:=i) (r':=r') (by simpa using hi) hr
   have e1:(q++rows.flatten).take ((i+1) * k)=q++rows.flatten.take (i * k):=by
    rw [show (i+1) * k=q.length+i * k by rw [Nat.succ_mul,hq]; omega,List.take_length_add_append]
   have e2:(q++rows.flatten).drop ((i+1) * k+r'.length)=rows.flatten.drop (i * k+r'.length):=by
    rw [show (i+1) * k+r'.length=q.length+(i * k+r'.length) by rw [Nat.succ_mul,hq]; omega,List.drop_length_add_append]
   simp only [List.set_cons_succ,List.flatten_cons,ih]
   unfold seg
   rw [e1,e2]; simp
theorem seg_seg {α:Type} {k:Nat} {l r:List α} {p o:Nat} {c:List α} (hr:(l.drop p).take k=r) (hk:r.length=k) (ho:o+c.length≤k) (hp:p+k≤l.length):seg l p (seg r o c)=seg l (p+o) c:=by
 apply List.ext_getElem?
 intro j
 have hlen:=seg_length r o c (by omega)
 unfold seg at hlen ⊢
 subst hr
 simp only [List.getElem?_append,List.getElem?_take,List.getElem?_drop,List.length_take,List.length_append,List.length_drop] at hlen ⊢
 have e1:min p l.length=p:=by omega
 have e2:min (p+o) l.length=p+o:=by omega
 have e3:min k (l.length - p)=k:=by omega
 have e4:min o k=o:=by omega
 simp only [e1,e2,e3,e4]
 by_cases h1:j < p
 ·have:j < p+(o+c.length+(k - (o+c.length))):=by omega
  simp [h1,this,show j < p+o by omega,show j < p+o+c.length by omega]
 ·by_cases h2:j < p+o
  ·simp [h1,show j < p+(o+c.length+(k - (o+c.length))) by omega,show j - p < o+c.length by omega,show j - p < o by omega,show j < p+o+c.length by omega,h2,show j - p < k by omega,show p+(j - p)=j by omega]
  ·by_cases h3:j < p+o+c.length
   ·simp [h1,h2,h3,show j < p+(o+c.length+(k - (o+c.length))) by omega,show j - p < o+c.length by omega,show ¬ (j - p < o) by omega,show j - p - o=j - (p+o) by omega]
   ·by_cases h4:j < p+k
    ·simp [h1,h2,h3,show j < p+(o+c.length+(k - (o+c.length))) by omega,show ¬ (j - p < o+c.length) by omega]
     rw [if_pos (by omega)]
     congr 1; omega
    ·simp [h1,h2,h3,show ¬ (j < p+(o+c.length+(k - (o+c.length)))) by omega]
     try (congr 1; omega)
theorem Rels.seg {w:World} {own:Nat→Prop} {ρ:Rho} {a c:List AV} {v u:List Value} (h:Rels w own ρ a v) (h':Rels w own ρ c u) (p:Nat):Rels w own ρ (seg a p c) (seg v p u):=by
 unfold AM.seg
 rw [h'.length]
 exact ((h.take p).append h').append (h.drop _)
theorem mxs_append (a b:List AV):mxs (a++b)=max (mxs a) (mxs b):=by
 induction a with
 | nil=>simp [mxs]
 | cons x xs ih=>simp only [List.cons_append,mxs,ih]; omega
theorem mxs_take (a:List AV) (n:Nat):mxs (a.take n)≤mxs a:=by
 have:=mxs_append (a.take n) (a.drop n); rw [List.take_append_drop] at this; omega
theorem mxs_drop (a:List AV) (n:Nat):mxs (a.drop n)≤mxs a:=by
 have:=mxs_append (a.take n) (a.drop n); rw [List.take_append_drop] at this; omega
theorem mxs_seg (a c:List AV) (p:Nat):mxs (seg a p c)≤max (mxs a) (mxs c):=by
 unfold seg; rw [mxs_append,mxs_append]
 have:=mxs_take a p; have:=mxs_drop a (p+c.length); omega
theorem mxss_flat (rows:List (List AV)):mxss rows=mxs rows.flatten:=by
 induction rows with
 | nil=>rfl
 | cons r rows ih=>simp [mxss,mxs_append,ih]
theorem arr_seg {arr:Array Value} {vs us:List Value} {base p:Nat} (hv:∀ j v,vs[j]? = some v→arr[base+j]? = some v∧v.oneCell'=true) (hu:∀ u∈us,u.oneCell'=true)
  (hfit:base+p+us.length≤arr.size) (hp:p+us.length≤vs.length) :
  ∀ j v,(seg vs p us)[j]? = some v→((arr.toList.take (base+p)++us++arr.toList.drop (base+p+us.length)).toArray)[base+j]? = some v∧v.oneCell'=true:=by
 intro j v hj
 have hsz:arr.toList.length=arr.size:=by simp
 unfold seg at hj
 simp only [List.getElem?_append,List.getElem?_take,List.getElem?_drop,List.length_take,List.length_append] at hj
 rw [show min p vs.length=p by omega] at hj
 simp only [List.getElem?_toArray,List.getElem?_append,List.getElem?_take,List.getElem?_drop,List.length_take,List.length_append,hsz]
 rw [show min (base+p) arr.size=base+p by omega]
 by_cases h1:j < p
 ·simp [h1,show j < p+us.length by omega] at hj
  obtain ⟨h2,h3⟩:=hv j v hj
  simp [h1,show base+j < base+p+us.length by omega,h3,h2]
 ·by_cases h2:j < p+us.length
  ·simp [h1,h2] at hj
   have hm:=hu v (List.mem_of_getElem? hj)
   simp [h1,show base+j < base+p+us.length by omega,hm,show base+j - (base+p)=j - p by omega,hj]
  ·simp [h1,h2] at hj
   rw [show p+us.length+(j - (p+us.length))=j by omega] at hj
   obtain ⟨h3,h4⟩:=hv j v hj
   simp [h1,h4,show ¬ (base+j < base+p+us.length) by omega,show base+p+us.length+(base+j - (base+p+us.length))=base+j by omega,h3]
section
variable {T:Tab} {P:Program} {B0 nx0:Nat} {w:World} {ρ:Rho} {h:Hp}
theorem HR.write (H:HR B0 nx0 w ρ h) {b:Nat} {rows:List (List AV)} {x:Loc} {k:Nat} (hg:h.get b=some (.cells k rows)) (hx:ρ b=some x) {p:Nat} {cs:List AV} {us:List Value}
  (hrel:Rels w (ownOf ρ h) ρ cs us) (hone:∀ u∈us,u.oneCell'=true) (hp:p+cs.length≤rows.flatten.length)
  (rows':List (List AV)) (hr':∀ r∈rows',r.length=x.k) (hlen:rows'.length=rows.length) (hflat:rows'.flatten=seg rows.flatten p cs)
  {arr:Array Value} {e:TypeId} (harr:w.heap[x.c]? = some (.cells arr e (0,0))) :
  HR B0 nx0 (w.setRow x.c (arr.toList.take (x.base+p)++us++arr.toList.drop (x.base+p+us.length)).toArray) ρ ((h.set b (.cells k rows')).leak b (mxs cs)) ∧
  Ext w ρ h (w.setRow x.c (arr.toList.take (x.base+p)++us++arr.toList.drop (x.base+p+us.length)).toArray) ρ ((h.set b (.cells k rows')).leak b (mxs cs)):=by
 obtain ⟨arr',e',vs,h1,h2,h3,h4,h5,h6,h7⟩:=H.blk b _ x hg hx
 rw [harr] at h1
 obtain ⟨rfl,rfl⟩:arr=arr'∧e=e':=by simpa using h1
 have hul:=hrel.length
 have hvl:=h6.length
 have hfl:=flat_length h3
 have hk2:rows.length * x.k≤x.cap * x.k:=Nat.mul_le_mul_right _ h4
 refine H.turn hg rfl hx _ rfl _ ?_ ?_ _ (by simp) (fun c hc=>setRow_other _ _ _ _ hc) rfl rfl rfl ?_
 ·show mxss rows'≤max (mxss rows) (mxs cs)
  rw [mxss_flat,mxss_flat,hflat]; exact mxs_seg _ _ _
 ·exact hrel.mx_le H.dom
 ·intro own hst
  refine ⟨_,e,AM.seg vs p us,setRow_heap _ _ _ _ _ _ harr,h2,hr',by omega,?_,?_,arr_seg h7 hone (by omega) (by omega)⟩
  ·simp; omega
  ·rw [hflat]; exact (h6.mono hst (Rho.le_refl _)).seg (hrel.mono hst (Rho.le_refl _)) p
theorem storeA_sound (hT:T.Of P) (H:HR B0 nx0 w ρ h) {t:TypeId} {a v:AV} {va vv:Value} {h':Hp} (ha:Rel w (ownOf ρ h) ρ a va) (hv:Rel w (ownOf ρ h) ρ v vv) (hs:storeA T h t a v=some h') :
  ∃ w',(Instr.storeAt t va vv).run P w = .ok () w'∧HR B0 nx0 w' ρ h'∧Ext w ρ h w' ρ h':=by
 unfold storeA at hs
 obtain ⟨b,i,o,rfl⟩:∃ b i o,a = .ptr b i o:=by cases a<;>first | exact ⟨_,_,_,rfl⟩ | simp at hs
 cases h2:sizeT T t with
 | none=>simp [h2] at hs
 | some n =>
   simp only [h2] at hs
   split at hs
   case isFalse=>cases hs
   rename_i hcond
   obtain ⟨hn,hcell⟩:=hcond
   cases hg:h.get b with
   | none=>simp [hg] at hs
   | some B =>
     cases B<;>simp only [hg] at hs<;>try (cases hs; done)
     rename_i kk rows
     rw [nth_eq] at hs
     cases hr:rows[i]? with
     | none=>simp [hr] at hs
     | some r =>
       simp only [hr] at hs
       split at hs
       case isFalse=>cases hs
       rename_i hfit
       simp only [Option.some.injEq] at hs; subst hs
       obtain ⟨x,rfl,hx⟩:=ha.ptr_inv
       obtain ⟨arr,e,vs,h1,h2',h3,h4,h5,h6,h7⟩:=H.blk b _ x hg hx
       have hj:v ≠ .junk:=by rintro rfl; simp [AV.cells,AV.isCell] at hcell
       have hcs:=hv.cells hj
       have hone:=hcs.cellV hcell
       have hlen:=hcs.length
       have hil:i < rows.length:=(List.getElem?_eq_some_iff.1 hr).1
       have hrk:r.length=x.k:=h3 r (List.mem_of_getElem? hr)
       have hrow:=flat_row h3 hr
       have hfl:=flat_length h3
       have hik:i * x.k+x.k≤rows.length * x.k:=by rw [← Nat.succ_mul]; exact Nat.mul_le_mul_right _ hil
       have hset:setCells r o v.cells=seg r o v.cells:=setCells_eq _ _ _ (by omega)
       have hnl:(seg r o v.cells).length=x.k:=by rw [seg_length _ _ _ (by omega)]; exact hrk
       have hflat:(rows.set i (seg r o v.cells)).flatten=seg rows.flatten (i * x.k+o) v.cells:=by
        rw [flat_set h3 hil hnl,seg_seg hrow hrk (by omega) (by omega)]
       have hbase:x.base+x.cap * x.k≤arr.size:=h5
       have hcapk:rows.length * x.k≤x.cap * x.k:=Nat.mul_le_mul_right _ h4
       have hrun:=run_storeCells_at P x.c (x.base+(i * x.k+o)) e vv.cells.toList 0 arr w h1 (by omega) hone
       have W:=H.write hg hx hcs hone (p:=i * x.k+o) (by omega) (rows.set i (seg r o v.cells)) (fun q hq=>by
        rcases List.mem_or_eq_of_mem_set hq with hq | hq
        ·exact h3 q hq
        ·rw [hq]; exact hnl) (by simp) hflat h1
       rw [put_eq,hset]
       refine ⟨_,?_,W.1,W.2⟩
       ·have hsz:=run_sizeT hT (w:=w) h2
        have e1:vv.cells.size=n:=by rw [← hn,hlen]; simp
        simp only [Instr.storeAt,Instr.sureAddr,storeVar,Sem.run_bind,Sem.run_pure,Result.andThen_ok,hsz]
        simp only [e1,ne_eq,not_true_eq_false,if_false,Sem.run_ite,Sem.run_pure,Result.andThen_ok]
        simpa [Nat.add_assoc] using hrun
theorem shift_sound {a r:AV} {va:Value} {n:Nat} (ha:Rel w (ownOf ρ h) ρ a va) (hs:a.shift n=some r) :
  ∃ ad,va = .pointer (some ad)∧Rel w (ownOf ρ h) ρ r (.pointer (some (ad.add n))):=by
 cases a<;>simp only [AV.shift] at hs<;>try (cases hs; done)
 ·rename_i b i o
  obtain ⟨x,rfl,hx⟩:=ha.ptr_inv
  simp at hs; subst hs
  refine ⟨_,rfl,?_⟩
  have:(⟨x.c,x.base+i * x.k+o,none⟩:Addr).add n=⟨x.c,x.base+i * x.k+(o+n),none⟩:=by
   unfold Addr.add; split
   ·subst_vars; simp
   ·simp; omega
  rw [this]
  exact .ptr _ _ _ _ x hx _ rfl
 ·rename_i cs
  obtain ⟨ad,vs,rfl,h1,h2⟩:=ha.ref_inv
  simp at hs; subst hs
  refine ⟨ad,rfl,.ref _ _ _ _ (h1.drop n) ?_⟩
  intro j v hj
  rw [List.getElem?_drop] at hj
  obtain ⟨h3,h4,h5,h6⟩:=h2 _ _ hj
  obtain ⟨b,o,s⟩:=ad
  simp only at h3 h4 h5; subst h4
  have e:(⟨b,o,none⟩:Addr).add n=⟨b,o+n,none⟩:=by unfold Addr.add; split<;>simp_all
  rw [e]
  exact ⟨by rw [Nat.add_assoc]; exact h3,rfl,h5,h6⟩
theorem fieldT_spec (hT:T.Of P) {s:TypeId} {f off:Nat} {t:TypeId} (h:fieldT T s f=some (off,t)):∃ fs x,P.underlying s=some (.struct fs)∧fs[f]? = some x∧x.offset=off∧x.type=t:=by
 unfold fieldT at h
 split at h
 ·rename_i fs hu
  split at h
  ·rename_i x hx
   simp at h
   exact ⟨fs,x,underT hT hu,hx,h.1,h.2⟩
  ·cases h
 ·cases h
theorem fieldAddrA_sound (hT:T.Of P) {s:TypeId} {a r:AV} {va:Value} {f:Nat} (ha:Rel w (ownOf ρ h) ρ a va) (hs:fieldAddrA T s a f=some r) :
  ∃ v,(Instr.fieldAt s va f).run P w = .ok v w∧Rel w (ownOf ρ h) ρ r v:=by
 unfold fieldAddrA at hs
 cases h1:fieldT T s f with
 | none=>simp [h1] at hs
 | some q =>
   obtain ⟨off,t⟩:=q
   simp only [h1] at hs
   cases h2:sizeT T t with
   | none=>simp [h2] at hs
   | some n =>
     simp only [h2] at hs
     split at hs
     ·cases hs
     ·rename_i hn
      obtain ⟨ad,rfl,hr⟩:=shift_sound ha hs
      obtain ⟨fs,x,h3,h4,h5,h6⟩:=fieldT_spec hT h1
      refine ⟨_,?_,hr⟩
      have hsz:=run_sizeT hT (w:=w) h2
      rw [← h6] at hsz
      simp [Instr.fieldAt,run_underlying h3,h4,Instr.sureAddr,fieldPlace,hsz,hn,h5]
theorem partA_sound (hT:T.Of P) {t:TypeId} {cs:List AV} {vs:List Value} {off:Nat} {r:AV} (hc:Rels w (ownOf ρ h) ρ cs vs) (hp:partA T t cs off=some r) :
  ∃ v,(part t vs.toArray off).run P w = .ok v w∧Rel w (ownOf ρ h) ρ r v:=by
 unfold partA at hp
 cases h1:aggT T t with
 | none=>simp [h1] at hp
 | some ag =>
   have hag:=run_aggT hT (w:=w) h1
   cases ag with
   | true =>
     cases h2:sizeT T t with
     | none=>simp [h1,h2] at hp
     | some n =>
       simp [h1,h2] at hp; subst hp
       have hsz:=run_sizeT hT (w:=w) h2
       refine ⟨.agg ((vs.drop off).take n).toArray,?_,.agg _ _ _ ((hc.drop off).take n)⟩
       simp only [part,Sem.run_bind,hag,Result.andThen_ok,if_true,hsz,Sem.run_pure]
       congr 2
       apply Array.ext'
       simp [List.extract_toArray]
   | false =>
     have hp':nth cs off=some r:=by cases h2:sizeT T t<;>simpa [h1,h2] using hp
     obtain ⟨y,hy,hr⟩:=hc.get hp'
     refine ⟨y,?_,hr⟩
     simp [part,hag,hy]
theorem fieldA_sound (hT:T.Of P) {s:TypeId} {a r:AV} {va:Value} {f:Nat} (ha:Rel w (ownOf ρ h) ρ a va) (hs:fieldA T s a f=some r) :
  ∃ v,(Instr.field s va f).run P w = .ok v w∧Rel w (ownOf ρ h) ρ r v:=by
 unfold fieldA at hs
 cases h1:fieldT T s f with
 | none=>simp [h1] at hs
 | some q =>
   obtain ⟨off,t⟩:=q
   cases a<;>simp only [h1] at hs<;>try (cases hs; done)
   obtain ⟨vs,rfl,hrel⟩:=ha.agg_inv
   obtain ⟨fs,x,h3,h4,h5,h6⟩:=fieldT_spec hT h1
   obtain ⟨v,hv,hr⟩:=partA_sound hT hrel hs
   refine ⟨v,?_,hr⟩
   simp [Instr.field,run_underlying h3,h4,asAgg,h5,h6,hv]
end
end Go.Proofs.YtdjngcfnlfgjkaaGreatDoor.AM

namespace Go.Proofs.YtdjngcfnlfgjkaaGreatDoor.AM
open Go.RowKit
variable [Glob]
section
variable {T:Tab} {P:Program} {B0 nx0:Nat} {w:World} {ρ:Rho} {h:Hp}
theorem indexAddrA_sound (hT:T.Of P) (H:HR B0 nx0 w ρ h) {t:TypeId} {a ix r:AV} {va vi:Value} (ha:Rel w (ownOf ρ h) ρ a va) (hi:Rel w (ownOf ρ h) ρ ix vi) (hs:indexAddrA T h t a ix=some r) :
  ∃ v,(Instr.indexAt t va vi).run P w = .ok v w∧Rel w (ownOf ρ h) ρ r v:=by
 unfold indexAddrA at hs
 obtain ⟨k,i,rfl⟩:∃ k i,ix = .int k i:=by cases ix<;>first | exact ⟨_,_,rfl⟩ | simp at hs
 obtain rfl:=hi.int_inv
 simp only at hs
 cases hu:T.underlying t with
 | none=>simp [hu] at hs
 | some d =>
   have hu':=underT hT hu
   cases d<;>simp only [hu] at hs<;>try (cases hs; done)
   ·rename_i elem
    cases hn:sizeT T elem with
    | none=>simp [hn] at hs
    | some n =>
      have hsz:=run_sizeT hT (w:=w) hn
      simp only [hn] at hs
      cases a<;>simp only at hs<;>try (cases hs; done)
      ·rename_i kk rows
       split at hs
       case isFalse=>cases hs
       rename_i hcond
       obtain ⟨h0,hkn⟩:=hcond
       subst hkn
       rw [nth_eq] at hs
       cases hr:rows[i.toNat]? with
       | none=>simp [hr] at hs
       | some q =>
         simp [hr] at hs; subst hs
         obtain ⟨ad,vs,cap,rfl,h1,h2,h3,h4⟩:=ha.sl_inv
         have hlt:i.toNat < rows.length:=(List.getElem?_eq_some_iff.1 hr).1
         have hrow:=flat_row h1 hr
         have hrel:Rels w (ownOf ρ h) noRho q ((vs.drop (i.toNat * kk)).take kk):=by
          have:=(h2.drop (i.toNat * kk)).take kk
          rwa [hrow] at this
         have hcond:0≤i∧i < (rows.length:Int):=⟨h0,by omega⟩
         refine ⟨.pointer (some (ad.add (i.toNat * kk))),?_,.ref _ _ _ _ hrel ?_⟩
         ·simp [Instr.indexAt,asIntOf,run_underlying hu',hcond,hsz]
         ·intro j v hj
          rw [List.getElem?_take] at hj
          split at hj
          ·rw [List.getElem?_drop] at hj
           obtain ⟨h5,h6,h7,h8⟩:=h3 _ _ hj
           obtain ⟨b,o,s⟩:=ad
           simp only at h5 h6 h7; subst h6
           have e:(⟨b,o,none⟩:Addr).add (i.toNat * kk)=⟨b,o+i.toNat * kk,none⟩:=by unfold Addr.add; split<;>simp_all
           rw [e]
           exact ⟨by rw [Nat.add_assoc]; exact h5,rfl,h7,h8⟩
          ·cases hj
      ·rename_i b off len
       split at hs
       case isFalse=>cases hs
       rename_i hil
       cases hg:h.get b with
       | none=>simp [hg] at hs
       | some B =>
         cases B<;>simp only [hg] at hs<;>try (cases hs; done)
         rename_i kk rows
         split at hs
         case isFalse=>cases hs
         rename_i hkr
         simp at hs; subst hs
         obtain ⟨x,ad,cap,rfl,hx,hl,hcap,hadr⟩:=ha.ms_inv
         obtain ⟨arr,e,vs,h1,h2,h3,h4,h5,h6,h7⟩:=H.blk b _ x hg hx
         have hkn:x.k=n:=h2.2.trans hkr.1
         obtain rfl:=hadr (by omega)
         refine ⟨.pointer (some ⟨x.c,x.base+(off+i.toNat) * x.k+0,none⟩),?_,.ptr _ _ _ _ x hx _ rfl⟩
         have e1:(⟨x.c,x.base+off * x.k,none⟩:Addr).add (i.toNat * n)=⟨x.c,x.base+(off+i.toNat) * x.k+0,none⟩:=by
          unfold Addr.add; split
          ·rename_i h0; simp [hkn,Nat.add_mul,h0]
          ·simp [hkn,Nat.add_mul]; omega
         simp [Instr.indexAt,asIntOf,run_underlying hu',hil,hsz,e1]
   ·rename_i len elem
    cases hn:sizeT T elem with
    | none=>simp [hn] at hs
    | some n =>
      have hsz:=run_sizeT hT (w:=w) hn
      simp only [hn] at hs
      split at hs
      case isFalse=>cases hs
      rename_i hil
      obtain ⟨ad,rfl,hr⟩:=shift_sound ha hs
      refine ⟨_,?_,hr⟩
      simp [Instr.indexAt,asIntOf,run_underlying hu',Instr.sureAddr,hil,hsz]
theorem indexA_sound (hT:T.Of P) {t:TypeId} {a ix r:AV} {va vi:Value} (ha:Rel w (ownOf ρ h) ρ a va) (hi:Rel w (ownOf ρ h) ρ ix vi) (hs:indexA T t a ix=some r) :
  ∃ v,(Instr.index t va vi).run P w = .ok v w∧Rel w (ownOf ρ h) ρ r v:=by
 unfold indexA at hs
 cases hu:T.underlying t with
 | none=>simp [hu] at hs
 | some d =>
   have hu':=underT hT hu
   cases d<;>simp only [hu] at hs<;>try (cases hs; done)
   ·obtain ⟨s,rfl⟩:∃ s,a = .str s:=by cases a<;>first | exact ⟨_,rfl⟩ | (cases ix<;>simp at hs)
    obtain ⟨k,i,rfl⟩:∃ k i,ix = .int k i:=by cases ix<;>first | exact ⟨_,_,rfl⟩ | simp at hs
    simp only at hs
    obtain rfl:=hi.int_inv
    obtain rfl:=ha.str_inv
    split at hs
    case isFalse=>cases hs
    rename_i h0
    cases hb:s[i.toNat]? with
    | none=>simp [hb] at hs
    | some b =>
      simp [hb] at hs; subst hs
      exact ⟨_,by simp [Instr.index,asIntOf,run_underlying hu',h0,hb],.lit _ _ _ rfl⟩
   ·rename_i len elem
    obtain ⟨cs,rfl⟩:∃ cs,a = .agg cs:=by cases a<;>first | exact ⟨_,rfl⟩ | (cases ix<;>simp at hs)
    obtain ⟨k,i,rfl⟩:∃ k i,ix = .int k i:=by cases ix<;>first | exact ⟨_,_,rfl⟩ | simp at hs
    simp only at hs
    obtain rfl:=hi.int_inv
    obtain ⟨vs,rfl,hrel⟩:=ha.agg_inv
    cases hn:sizeT T elem with
    | none=>simp [hn] at hs
    | some n =>
      have hsz:=run_sizeT hT (w:=w) hn
      simp only [hn] at hs
      split at hs
      case isFalse=>cases hs
      rename_i hil
      obtain ⟨v,hv,hr⟩:=partA_sound hT hrel hs
      exact ⟨v,by simp [Instr.index,asIntOf,run_underlying hu',hil,hsz,hv],hr⟩
theorem newRow_sound (H:HR B0 nx0 w ρ h) (e:TypeId) {cs:List AV} {vs:List Value} (hrel:Rels w (ownOf ρ h) ρ cs vs) {r:AV} {h':Hp} (hs:newRow h cs=some (r,h')) :
  ∃ v ρ',v = .pointer (some ⟨w.heap.size,0,none⟩)∧HR B0 nx0 (w.alloc (.cells vs.toArray e)) ρ' h'∧Ext w ρ h (w.alloc (.cells vs.toArray e)) ρ' h'∧Rel (w.alloc (.cells vs.toArray e)) (ownOf ρ' h') ρ' r v:=by
 unfold newRow at hs
 split at hs
 case isFalse=>cases hs
 rename_i hc
 simp at hs
 obtain ⟨rfl,rfl⟩:=hs
 have hone:=hrel.cellV hc.1
 have hlen:=hrel.length
 obtain ⟨h1,h2⟩:=H.push (.cells vs.toArray e) (.cells cs.length [cs]) ⟨w.heap.size,0,cs.length,1⟩ (w.alloc (.cells vs.toArray e)) rfl rfl (by
   show mxss [cs]≤h.nx
   simp [mxss]; exact hrel.mx_le H.dom) (fun own ρ' hst hle=>by
   refine ⟨vs.toArray,e,vs,by show (w.heap.push _)[w.heap.size]? = _; simp,⟨hc.2,rfl⟩,by simp,by simp,by simp [hlen],by simpa using hrel.mono hst hle,fun j v hj=>?_⟩
   exact ⟨by simpa using hj,hone v (List.mem_of_getElem? hj)⟩)
 refine ⟨_,_,rfl,h1,h2,?_⟩
 refine .ptr _ _ _ _ ⟨w.heap.size,0,cs.length,1⟩ (by simp [Rho.set]) _ (by simp)
theorem box_sound (H:HR B0 nx0 w ρ h) (e:TypeId) {a:AV} {va:Value} (ha:Rel w (ownOf ρ h) ρ a va) {r:AV} {h':Hp} (hs:newRow h a.cells=some (r,h')) :
  ∃ v w' ρ',(Instr.box e va).run P w = .ok v w'∧HR B0 nx0 w' ρ' h'∧Ext w ρ h w' ρ' h'∧Rel w' (ownOf ρ' h') ρ' r v:=by
 have hj:a ≠ .junk:=by rintro rfl; simp [newRow,AV.cells,AV.isCell] at hs
 obtain ⟨v,ρ',rfl,h1,h2,h3⟩:=newRow_sound H e (ha.cells hj) hs
 have e1:va.cells.toList.toArray=va.cells:=by simp
 rw [e1] at h1 h2 h3
 exact ⟨_,_,ρ',by simp [Instr.box,newVar,Go.newRow],h1,h2,h3⟩
theorem alloc_sound (hT:T.Of P) (H:HR B0 nx0 w ρ h) {e:TypeId} {r:AV} {h':Hp} (hs:opAlloc T h e=some (r,h')) :
  ∃ v w' ρ',(Instr.alloc e true (.tuple #[])).run P w = .ok v w'∧HR B0 nx0 w' ρ' h'∧Ext w ρ h w' ρ' h'∧Rel w' (ownOf ρ' h') ρ' r v:=by
 unfold opAlloc at hs
 cases hz:zeroT T e with
 | none=>simp [hz] at hs
 | some z =>
   simp only [hz] at hs
   obtain ⟨i,zv,h1,h2,h3⟩:=zeroT_spec hT hz
   have hrel:Rel w (ownOf ρ h) ρ z zv:=ofZero_rel h3
   obtain ⟨v,ρ',rfl,h4,h5,h6⟩:=newRow_sound H e (hrel.cells (ofZero_ne_junk h3)) hs
   have e1:zv.cells.toList.toArray=zv.cells:=by simp
   rw [e1] at h4 h5 h6
   exact ⟨_,_,ρ',by simp [Instr.alloc,zeroValue,typeInfo,h1,h2,newVar,Go.newRow],h4,h5,h6⟩
theorem rel_ms_new (x:Loc) (n:Nat) (hk:n≤x.cap) (hb:x.base=0) {w':World} {own:Nat→Prop} {ρ':Rho} {b:Nat} (hx:ρ' b=some x) :
  Rel w' own ρ' (.ms b 0 n) (.slice (some ⟨x.c,0,none⟩) n x.cap) :=
 .ms _ _ _ _ x hx (by omega) _ _ (by omega) (fun _=>by simp [hb])
theorem elemT_spec (hT:T.Of P) {t e:TypeId} {n b:Nat} {z:List AV} (h:elemT T t=some (e,n,b,z)) :
  ∃ i zv,P.underlying t=some (.slice e)∧P.info? e=some i∧i.size=n∧i.bytes=b∧i.zero=some zv∧0 < n∧b≤65536∧z.length=n∧zv.cells.size=n ∧
    (∀ {w:World} {own:Nat→Prop} {ρ:Rho},Rels w own ρ z zv.cells.toList)∧(∀ v∈zv.cells.toList,v.oneCell'=true)∧mxs z=0:=by
 unfold elemT at h
 cases hu:T.underlying t with
 | none=>simp [hu] at h
 | some d =>
   cases d<;>simp only [hu] at h<;>try (cases h; done)
   rename_i e'
   cases h1:sizeT T e' with
   | none=>simp [h1] at h
   | some n' =>
     cases h2:bytesT T e' with
     | none=>simp [h1,h2] at h
     | some b' =>
       cases h3:zeroT T e' with
       | none=>simp [h1,h2,h3] at h
       | some z' =>
         simp only [h1,h2,h3] at h
         split at h
         case isFalse=>cases h
         rename_i hc
         simp at h
         obtain ⟨rfl,rfl,rfl,rfl⟩:=h
         obtain ⟨i,hi1,hi2⟩:=sizeT_spec hT h1
         obtain ⟨i',hi3,hi4⟩:=bytesT_spec hT h2
         obtain ⟨i'',zv,hi5,hi6,hi7⟩:=zeroT_spec hT h3
         rw [hi1] at hi3 hi5
         obtain rfl:i=i':=by simpa using hi3
         obtain rfl:i=i'':=by simpa using hi5
         have hrel:∀ {w:World} {own:Nat→Prop} {ρ:Rho},Rels w own ρ z'.cells zv.cells.toList:=fun {w own ρ}=>(ofZero_rel (w:=w) (own:=own) (ρ:=ρ) hi7).cells (ofZero_ne_junk hi7)
         have hl:=(hrel (w:=default) (own:=fun _=>False) (ρ:=noRho)).length
         have hm:mxs z'.cells=0:=by
          have:=(hrel (w:=default) (own:=fun _=>False) (ρ:=noRho)).mx_le (n:=0) (fun b x h=>by cases h)
          omega
         refine ⟨i,zv,underT hT hu,hi1,hi2,hi4,hi6,hc.2.1,hc.2.2.1,hc.1,?_,hrel,?_,hm⟩
         ·rw [← hc.1,hl]; simp
         ·exact (hrel (w:=default) (own:=fun _=>False) (ρ:=noRho)).cellV hc.2.2.2
theorem HR.newRows (H:HR B0 nx0 w ρ h) (w':World) (arr:Array Value) (e:TypeId) (hw:w'={ w with heap:=w.heap.push (.cells arr e),drawn:=w'.drawn }) {rows:List (List AV)} {n cap:Nat} {vs:List Value}
  (hn:0 < n) (hk:∀ r∈rows,r.length=n) (hcap:rows.length≤cap) (hsz:cap * n≤arr.size) (hrel:Rels w (ownOf ρ h) ρ rows.flatten vs)
  (hone:∀ v∈vs,v.oneCell'=true) (harr:∀ (j:Nat) (v:Value),vs[j]? = some v→arr[j]? = some v) :
  ∃ ρ',HR B0 nx0 w' ρ' (h.push (.cells n rows))∧Ext w ρ h w' ρ' (h.push (.cells n rows)) ∧
    Rel w' (ownOf ρ' (h.push (.cells n rows))) ρ' (.ms h.nx 0 rows.length) (.slice (some ⟨w.heap.size,0,none⟩) rows.length cap):=by
 obtain ⟨h1,h2⟩:=H.push (.cells arr e) (.cells n rows) ⟨w.heap.size,0,n,cap⟩ w' hw rfl (by
   show mxss rows≤h.nx
   rw [mxss_flat]; exact hrel.mx_le H.dom) (fun own ρ' hst hle=>by
   refine ⟨arr,e,vs,by rw [hw]; simp,⟨hn,rfl⟩,hk,hcap,by simpa using hsz,hrel.mono hst hle,fun j v hj=>?_⟩
   exact ⟨by simpa using harr j v hj,hone v (List.mem_of_getElem? hj)⟩)
 exact ⟨_,h1,h2,rel_ms_new ⟨w.heap.size,0,n,cap⟩ _ hcap rfl (by simp [Rho.set])⟩
end
end Go.Proofs.YtdjngcfnlfgjkaaGreatDoor.AM

namespace Go.Proofs.YtdjngcfnlfgjkaaGreatDoor.AM
open Go.RowKit
variable [Glob]
inductive RelP (w:World) (own:Nat→Prop) (ρ:Rho):List (Nat × AV)→List (Nat × Value)→Prop
 | nil:RelP w own ρ [] []
 | cons (i:Nat) (a:AV) (v:Value) (as:List (Nat × AV)) (vs:List (Nat × Value)) (h:Rel w own ρ a v) (hs:RelP w own ρ as vs):RelP w own ρ ((i,a)::as) ((i,v)::vs)
theorem zipIdx_fold (l:List Value):∀ (off k:Nat) (cs:Array Value),off+k+l.length≤cs.size →
  ((l.zipIdx k).foldl (fun (cs:Array Value) (x:Value × Nat)=>cs.setIfInBounds (off+x.2) x.1) cs).toList=seg cs.toList (off+k) l:=by
 induction l with
 | nil=>intro off k cs _; simp [seg]
 | cons a l ih =>
   intro off k cs h
   simp at h
   simp only [List.zipIdx_cons,List.foldl_cons]
   rw [ih off (k+1) _ (by simp; omega)]
   simp only [Array.toList_setIfInBounds]
   unfold seg
   rw [show off+(k+1)=off+k+1 by omega,List.take_succ_eq_append_getElem (by simp; omega),List.take_set_of_le (Nat.le_refl _),List.drop_set_of_lt (by omega)]
   simp [Nat.add_comm,Nat.add_left_comm]
theorem fill_step (v:Value) (off:Nat) (cs:Array Value) (h:off+v.cells.size≤cs.size) :
  (v.cells.zipIdx.foldl (fun (cs:Array Value) (x:Value × Nat)=>cs.setIfInBounds (off+x.2) x.1) cs).toList=seg cs.toList off v.cells.toList:=by
 rw [← Array.foldl_toList,Array.toList_zipIdx]
 have:=zipIdx_fold v.cells.toList off 0 cs (by simpa using h)
 simpa using this
section
variable {T:Tab} {P:Program} {B0 nx0:Nat} {w:World} {ρ:Rho} {h:Hp}
theorem fill_sound {place:Nat→Option (Nat × Nat)}:∀ {parts:List (Nat × AV)} {vparts:List (Nat × Value)} {cells:List AV} {vcells:Array Value} {r:List AV},
  RelP w (ownOf ρ h) ρ parts vparts→Rels w (ownOf ρ h) ρ cells vcells.toList→fillA place cells parts=some r→∃ out,Instr.fill place vcells vparts=some out∧Rels w (ownOf ρ h) ρ r out.toList
 | [],_,cells,vcells,r,hp,hc,hf=>by
   cases hp
   simp [fillA] at hf; subst hf
   exact ⟨vcells,rfl,hc⟩
 | (i,a)::parts,_,cells,vcells,r,hp,hc,hf=>by
   cases hp with
   | cons _ _ v _ vs h1 h2 =>
     simp only [fillA] at hf
     cases hpl:place i with
     | none=>simp [hpl] at hf
     | some q =>
       obtain ⟨off,n⟩:=q
       simp only [hpl] at hf
       split at hf
       case isFalse=>cases hf
       rename_i hcond
       obtain ⟨hkn,hn,hfit⟩:=hcond
       have hj:a ≠ .junk:=by rintro rfl; simp [AV.known] at hkn
       have hcs:=h1.cells hj
       have hl:=hcs.length
       have hl2:=hc.length
       simp at hl hl2
       rw [setCells_eq _ _ _ (by omega)] at hf
       have hstep:=fill_step v off vcells (by omega)
       have hc':Rels w (ownOf ρ h) ρ (seg cells off a.cells) ((v.cells.zipIdx.foldl (fun (cs:Array Value) (x:Value × Nat)=>cs.setIfInBounds (off+x.2) x.1) vcells)).toList:=by
        rw [hstep]; exact hc.seg hcs off
       obtain ⟨out,ho,hr⟩:=fill_sound h2 hc' hf
       refine ⟨out,?_,hr⟩
       have e1:(v.cells.size ≠ n || off+v.cells.size > vcells.size)=false:=by
        simp; omega
       simp only [Instr.fill,hpl,e1]
       simpa using ho
theorem placesL_run (hT:T.Of P):∀ {fs:List Field} {pl:List (Nat × Nat)},placesL T fs=some pl→(fs.mapM fun (f:Field)=>do pure (f.offset,← sizeOf f.type)).run P w = .ok pl w
 | [],pl,hp=>by simp [placesL] at hp; subst hp; simp
 | f::fs,pl,hp=>by
   simp only [placesL] at hp
   cases hn:sizeT T f.type with
   | none=>simp [hn] at hp
   | some n =>
     cases hl:placesL T fs with
     | none=>simp [hn,hl] at hp
     | some l =>
       simp [hn,hl] at hp; subst hp
       have hsz:=run_sizeT hT (w:=w) hn
       have ih:=placesL_run hT (fs:=fs) hl
       simp only [bind_pure_comp] at ih
       simp [hsz,ih]
theorem buildA_sound (hT:T.Of P) {t:TypeId} {parts:List (Nat × AV)} {vparts:Array (Nat × Value)} {r:AV} (hp:RelP w (ownOf ρ h) ρ parts vparts.toList) (hb:buildA T t parts=some r) :
  ∃ v,(Instr.build t vparts).run P w = .ok v w∧Rel w (ownOf ρ h) ρ r v:=by
 unfold buildA at hb
 cases hz:zeroT T t with
 | none=>simp [hz] at hb
 | some z =>
   simp only [hz] at hb
   obtain ⟨i,zv,h1,h2,h3⟩:=zeroT_spec hT hz
   have hrel:Rels w (ownOf ρ h) ρ z.cells zv.cells.toList:=(ofZero_rel h3).cells (ofZero_ne_junk h3)
   have hzr:(zeroValue t).run P w = .ok zv w:=by simp [zeroValue,typeInfo,h1,h2]
   cases hu:T.underlying t with
   | none=>simp [hu] at hb
   | some d =>
     have hu':=underT hT hu
     cases d<;>simp only [hu] at hb<;>try (cases hb; done)
     ·rename_i len elem
      cases hn:sizeT T elem with
      | none=>simp [hn] at hb
      | some n =>
        simp only [hn,Option.map_eq_some_iff] at hb
        obtain ⟨cs,hf,rfl⟩:=hb
        have hsz:=run_sizeT hT (w:=w) hn
        obtain ⟨out,ho,hr⟩:=fill_sound hp hrel hf
        refine ⟨.agg out,?_,by simpa using Rel.agg _ _ _ hr⟩
        simp [Instr.build,hzr,run_underlying hu',hsz,ho]
     ·rename_i fs
      cases hpl:placesL T fs.toList with
      | none=>simp [hpl] at hb
      | some pl =>
        simp only [hpl,Option.map_eq_some_iff] at hb
        obtain ⟨cs,hf,rfl⟩:=hb
        obtain ⟨out,ho,hr⟩:=fill_sound hp hrel hf
        refine ⟨.agg out,?_,by simpa using Rel.agg _ _ _ hr⟩
        have hm:=placesL_run (w:=w) hT hpl
        have hm':(fs.mapM fun (f:Field)=>do pure (f.offset,← sizeOf f.type)).run P w = .ok pl.toArray w:=by
         rw [← Array.toArray_toList (xs:=fs),List.mapM_toArray]
         simp only [Sem.run_map,hm,Result.andThen_ok]
        have hplc:(fun i=>pl.toArray[i]?)=nth pl:=by funext i; simp [nth_eq]
        simp only [Instr.build,Sem.run_bind,hzr,Result.andThen_ok,run_underlying hu',hm',hplc,ho]
        rfl
theorem flat_get {α:Type} {k:Nat} {rows:List (List α)} (hk:∀ r∈rows,r.length=k) {i o:Nat} {r:List α} (hi:rows[i]? = some r) (ho:o < k):rows.flatten[i * k+o]? = r[o]? := by
 have hrow:=flat_row hk hi
 rw [← hrow,List.getElem?_take,if_pos ho,List.getElem?_drop]
theorem replicate_flat_get (z:List Value) (n len j:Nat) (hz:z.length=n) (hn:0 < n) (hj:j < len * n):(List.replicate len z).flatten[j]? = z[j % n]? := by
 have h1:j / n < len:=Nat.div_lt_of_lt_mul (by rwa [Nat.mul_comm])
 have h2:=flat_get (k:=n) (rows:=List.replicate len z) (fun r hr=>by rw [List.eq_of_mem_replicate hr]; exact hz) (i:=j / n) (o:=j % n) (r:=z) (by simp [h1]) (Nat.mod_lt _ hn)
 rwa [show j / n * n+j % n=j by rw [Nat.mul_comm]; exact Nat.div_add_mod j n] at h2
theorem made_get (z:Array Value) (n len j:Nat) (hz:z.size=n) (hn:0 < n) (hj:j < len * n) {v:Value} (hv:(List.replicate len z.toList).flatten[j]? = some v) :
  (madeCells z (len * n))[j]? = some v:=by
 rw [replicate_flat_get z.toList n len j (by simpa using hz) hn hj] at hv
 have hlt:j % n < z.size:=by rw [hz]; exact Nat.mod_lt _ hn
 simp [hlt] at hv
 simp [madeCells,hj,hz,hv.symm]
 rw [getElem!_pos z (j % n) hlt]
theorem Rels.flat_replicate {own:Nat→Prop} {z:List AV} {zs:List Value} (hz:Rels w own ρ z zs) (n:Nat):Rels w own ρ (List.replicate n z).flatten (List.replicate n zs).flatten:=by
 induction n with
 | zero=>simpa using Rels.nil ρ
 | succ n ih=>simpa [List.replicate_succ] using hz.append ih
theorem Rels.flat_replicate' {w:World} {own:Nat→Prop} {ρ:Rho} {z:List AV} {zs:List Value} (hz:Rels w own ρ z zs) (n:Nat):Rels w own ρ (List.replicate n z).flatten (List.replicate n zs).flatten:=by
 induction n with
 | zero=>simpa using Rels.nil ρ
 | succ n ih=>simpa [List.replicate_succ] using hz.append ih
theorem makeSliceA_sound (hT:T.Of P) (H:HR B0 nx0 w ρ h) {t:TypeId} {l c r:AV} {vl vc:Value} {h':Hp} (hl:Rel w (ownOf ρ h) ρ l vl) (hc:Rel w (ownOf ρ h) ρ c vc) (hs:makeSliceA T h t l c=some (r,h')) :
  ∃ v w' ρ',(Instr.makeSlice t vl vc).run P w = .ok v w'∧HR B0 nx0 w' ρ' h'∧Ext w ρ h w' ρ' h'∧Rel w' (ownOf ρ' h') ρ' r v:=by
 unfold makeSliceA at hs
 cases he:elemT T t with
 | none=>simp [he] at hs
 | some q =>
   obtain ⟨e,n,b,z⟩:=q
   obtain ⟨kl,l',rfl⟩:∃ k i,l = .int k i:=by cases l<;>first | exact ⟨_,_,rfl⟩ | simp [he] at hs
   obtain ⟨kc,c',rfl⟩:∃ k i,c = .int k i:=by cases c<;>first | exact ⟨_,_,rfl⟩ | simp [he] at hs
   simp only [he] at hs
   split at hs
   case isFalse=>cases hs
   rename_i hcond
   obtain ⟨h0,hlc,hc30⟩:=hcond
   obtain ⟨i,zv,hu,hi,hsize,hby,hzero,hn,hb,hzl,hzs,hrel,hone,hmx⟩:=elemT_spec hT he
   obtain rfl:=hl.int_inv
   obtain rfl:=hc.int_inv
   have hbb:(i.bytes:Int) * c'≤281474976710656:=by
    have h1:(i.bytes:Int)≤65536:=by omega
    have h2:(i.bytes:Int) * c'≤65536 * c':=Int.mul_le_mul_of_nonneg_right h1 (by omega)
    omega
   have hrun:=run_make (P:=P) w t e i zv hu hi hzero kl kc l' c' h0 hlc hbb (by omega)
   rw [hsize] at hrun
   have hk:∀ r∈List.replicate l'.toNat z,r.length=n:=fun r hr=>by rw [List.eq_of_mem_replicate hr]; exact hzl
   have hle:l'.toNat≤c'.toNat:=by omega
   have hmul:l'.toNat * n≤c'.toNat * n:=Nat.mul_le_mul_right _ hle
   split at hs
   ·simp only [Option.some.injEq,Prod.mk.injEq] at hs
    obtain ⟨rfl,rfl⟩:=hs
    have hold:∀ c,c < w.heap.size→(w.alloc (.cells (madeCells zv.cells (c'.toNat * n)) e)).heap[c]? = w.heap[c]? := fun c hcl=>by
     show (w.heap.push _)[c]? = _
     rw [Array.getElem?_push_lt hcl,Array.getElem?_eq_getElem hcl]
    obtain ⟨K1,K2⟩:=H.grown (w':=w.alloc (.cells (madeCells zv.cells (c'.toNat * n)) e)) (by show w.heap.size≤(w.heap.push _).size; rw [Array.size_push]; omega) hold rfl rfl rfl
    refine ⟨_,_,ρ,hrun,K1,K2,?_⟩
    have hrows:Rels (w.alloc (.cells (madeCells zv.cells (c'.toNat * n)) e)) (ownOf ρ h) noRho (List.replicate l'.toNat z).flatten (List.replicate l'.toNat zv.cells.toList).flatten :=
     Rels.flat_replicate' hrel l'.toNat
    refine .sl _ ⟨w.heap.size,0,none⟩ n _ _ _ _ (by simp) hk hrows ?_ (by simpa using hle)
    intro j v hj
    have hjl:j < l'.toNat * n:=by
     have:=(List.getElem?_eq_some_iff.1 hj).1
     simpa [hzs] using this
    have h5:(List.replicate c'.toNat zv.cells.toList).flatten[j]? = some v:=by
     rw [replicate_flat_get _ n _ _ (by simpa using hzs) hn (by omega)]
     rwa [replicate_flat_get _ n _ _ (by simpa using hzs) hn hjl] at hj
    have h6:=made_get zv.cells n c'.toNat j hzs hn (by omega) h5
    refine ⟨?_,rfl,fun ho=>absurd (H.own_lt ho) (Nat.lt_irrefl _),?_⟩
    ·have hb0:(w.alloc (.cells (madeCells zv.cells (c'.toNat * n)) e)).heap[w.heap.size]? = some (.cells (madeCells zv.cells (c'.toNat * n)) e (0,0)):=by
      show (w.heap.push _)[w.heap.size]? = _
      simp
     unfold World.cell?
     rw [hb0]
     simpa using h6
    ·obtain ⟨q,hq,hvq⟩:=List.mem_flatten.1 (List.mem_of_getElem? hj)
     rw [List.eq_of_mem_replicate hq] at hvq
     exact hone v hvq
   simp only [Option.some.injEq,Prod.mk.injEq] at hs
   obtain ⟨rfl,rfl⟩:=hs
   obtain ⟨ρ',h1,h2,h3⟩:=H.newRows (w.alloc (.cells (madeCells zv.cells (c'.toNat * n)) e)) (madeCells zv.cells (c'.toNat * n)) e rfl (rows:=List.replicate l'.toNat z) (n:=n) (cap:=c'.toNat)
    (vs:=(List.replicate l'.toNat zv.cells.toList).flatten) hn hk (by simpa using hle) (by simp [size_madeCells]) (Rels.flat_replicate hrel _)
    (fun v hv=>by
     obtain ⟨q,hq,hvq⟩:=List.mem_flatten.1 hv
     rw [List.eq_of_mem_replicate hq] at hvq
     exact hone v hvq)
    (fun j v hj=>by
     have hjl:j < l'.toNat * n:=by
      have:=(List.getElem?_eq_some_iff.1 hj).1
      simpa [hzs] using this
     have h5:(List.replicate c'.toNat zv.cells.toList).flatten[j]? = some v:=by
      rw [replicate_flat_get _ n _ _ (by simpa using hzs) hn (by omega)]
      rwa [replicate_flat_get _ n _ _ (by simpa using hzs) hn hjl] at hj
     exact made_get zv.cells n c'.toNat j hzs hn (by omega) h5)
   refine ⟨_,_,ρ',hrun,h1,h2,?_⟩
   simpa using h3
theorem fillRows_sound {n:Nat} (hn:0 < n):∀ {parts:List (Nat × AV)} {vparts:List (Nat × Value)} {rows r:List (List AV)} {vcells:Array Value},
  RelP w (ownOf ρ h) ρ parts vparts→(∀ q∈rows,q.length=n)→Rels w (ownOf ρ h) ρ rows.flatten vcells.toList→(∀ v∈vcells.toList,v.oneCell'=true)→fillRows n rows parts=some r →
  ∃ out,Instr.fill (fun i=>some (i * n,n)) vcells vparts=some out∧(∀ q∈r,q.length=n)∧r.length=rows.length∧Rels w (ownOf ρ h) ρ r.flatten out.toList∧(∀ v∈out.toList,v.oneCell'=true)
 | [],_,rows,r,vcells,hp,hk,hc,hone,hf=>by
   cases hp
   simp [fillRows] at hf; subst hf
   exact ⟨vcells,rfl,hk,rfl,hc,hone⟩
 | (i,a)::parts,_,rows,r,vcells,hp,hk,hc,hone,hf=>by
   cases hp with
   | cons _ _ v _ vs h1 h2 =>
     simp only [fillRows] at hf
     split at hf
     case isFalse=>cases hf
     rename_i hcond
     obtain ⟨hl,hil,hcell⟩:=hcond
     have hj:a ≠ .junk:=by rintro rfl; simp [AV.cells,AV.isCell] at hcell
     have hcs:=h1.cells hj
     have hls:=hcs.length
     have hl2:=hc.length
     have hfl:=flat_length hk
     have hmul:i * n+n≤rows.length * n:=by rw [← Nat.succ_mul]; exact Nat.mul_le_mul_right _ hil
     simp at hls
     rw [put_eq] at hf
     have hcsz:vcells.toList.length=vcells.size:=by simp
     have hstep:=fill_step v (i * n) vcells (by omega)
     have hflat:=flat_set (rows:=rows) hk hil hl
     have hc':Rels w (ownOf ρ h) ρ (rows.set i a.cells).flatten ((v.cells.zipIdx.foldl (fun (cs:Array Value) (x:Value × Nat)=>cs.setIfInBounds (i * n+x.2) x.1) vcells)).toList:=by
      rw [hstep,hflat]; exact hc.seg hcs _
     have hone':∀ u∈(v.cells.zipIdx.foldl (fun (cs:Array Value) (x:Value × Nat)=>cs.setIfInBounds (i * n+x.2) x.1) vcells).toList,u.oneCell'=true:=by
      rw [hstep]
      intro u hu
      unfold seg at hu
      simp only [List.mem_append] at hu
      rcases hu with (hu | hu) | hu
      ·exact hone u (List.mem_of_mem_take hu)
      ·exact hcs.cellV hcell u hu
      ·exact hone u (List.mem_of_mem_drop hu)
     obtain ⟨out,ho,h3,h4,h5,h6⟩:=fillRows_sound hn h2 (fun q hq=>by
      rcases List.mem_or_eq_of_mem_set hq with hq | hq
      ·exact hk q hq
      ·rw [hq]; exact hl) hc' hone' hf
     refine ⟨out,?_,h3,by simpa using h4,h5,h6⟩
     have e1:(v.cells.size ≠ n || i * n+v.cells.size > vcells.size)=false:=by
      simp; omega
     simp only [Instr.fill,e1]
     simpa using ho
theorem buildSliceA_sound (hT:T.Of P) (H:HR B0 nx0 w ρ h) {t:TypeId} {len:Nat} {parts:List (Nat × AV)} {vparts:Array (Nat × Value)} {r:AV} {h':Hp} (hp:RelP w (ownOf ρ h) ρ parts vparts.toList)
  (hs:buildSliceA T h t len parts=some (r,h')) :
  ∃ v w' ρ',(Instr.buildSlice t len vparts).run P w = .ok v w'∧HR B0 nx0 w' ρ' h'∧Ext w ρ h w' ρ' h'∧Rel w' (ownOf ρ' h') ρ' r v:=by
 unfold buildSliceA at hs
 cases he:elemT T t with
 | none=>simp [he] at hs
 | some q =>
   obtain ⟨e,n,b,z⟩:=q
   simp only [he] at hs
   split at hs
   case isFalse=>cases hs
   rename_i hlim
   cases hf:fillRows n (List.replicate len z) parts with
   | none=>simp [hf] at hs
   | some rows =>
     simp [hf] at hs
     obtain ⟨rfl,rfl⟩:=hs
     obtain ⟨i,zv,hu,hi,hsize,hby,hzero,hn,hb,hzl,hzs,hrel,hone,hmx⟩:=elemT_spec hT he
     have hk:∀ r∈List.replicate len z,r.length=n:=fun r hr=>by rw [List.eq_of_mem_replicate hr]; exact hzl
     have hcells:(madeCells zv.cells (len * n)).toList=(List.replicate len zv.cells.toList).flatten:=by
      apply List.ext_getElem?
      intro j
      by_cases hj:j < len * n
      ·have h5:=replicate_flat_get zv.cells.toList n len j (by simpa using hzs) hn hj
       have hlt:j % n < zv.cells.size:=by rw [hzs]; exact Nat.mod_lt _ hn
       have h6:(List.replicate len zv.cells.toList).flatten[j]? = some zv.cells[j % n]:=by rw [h5]; simp [hlt]
       have h7:=made_get zv.cells n len j hzs hn hj h6
       rw [h6]; simpa using h7
      ·have h1:(List.replicate len zv.cells.toList).flatten.length=len * n:=by simp [hzs]
       have hj':=Nat.le_of_not_lt hj
       exact (List.getElem?_eq_none (by rw [Array.length_toList,size_madeCells]; exact hj')).trans (List.getElem?_eq_none (by rw [h1]; exact hj')).symm
     obtain ⟨out,ho,h3,h4,h5,h6⟩:=fillRows_sound hn hp hk (vcells:=madeCells zv.cells (len * n)) (by rw [hcells]; exact Rels.flat_replicate hrel _) (fun v hv=>by
      rw [hcells] at hv
      obtain ⟨q,hq,hvq⟩:=List.mem_flatten.1 hv
      rw [List.eq_of_mem_replicate hq] at hvq
      exact hone v hvq) hf
     have hlen:rows.length=len:=by simpa using h4
     have hfl:=flat_length h3
     have hol:=h5.length
     obtain ⟨ρ',h7,h8,h9⟩:=H.newRows (w.alloc (.cells out e)) out e rfl (rows:=rows) (n:=n) (cap:=len) (vs:=out.toList) hn h3 (by omega) (by have:=hol; rw [hfl,hlen] at this; simp at this; omega) h5 h6 (fun j v hj=>by simpa using hj)
     refine ⟨_,_,ρ',?_,h7,h8,by rw [hlen] at h9; exact h9⟩
     have hsz:(sizeOf e).run P w = .ok n w:=by simp [sizeOf,typeInfo,hi,hsize]
     have hzr:(zeroValue e).run P w = .ok zv w:=by simp [zeroValue,typeInfo,hi,hzero]
     have hnl:¬ (16777216 < len * n):=by omega
     have hne:¬ n=0:=by omega
     have hmul:len=0∨¬ len * n=0:=by
      by_cases h0:len=0
      ·exact .inl h0
      ·exact .inr (Nat.mul_ne_zero h0 hne)
     rcases hmul with hl0 | hl0
     ·subst hl0
      have e0:madeCells zv.cells (0 * n)=#[]:=by simp [madeCells,Array.range_zero']
      rw [e0] at ho
      simp [Instr.buildSlice,run_underlying hu,hsz,ho,Go.newRow,Array.range_zero']
     ·simp only [madeCells] at ho
      simp [Instr.buildSlice,run_underlying hu,hsz,hnl,hl0,hzr,ho,Go.newRow]
end
end Go.Proofs.YtdjngcfnlfgjkaaGreatDoor.AM

namespace Go.Proofs.YtdjngcfnlfgjkaaGreatDoor.AM
open Go.RowKit
variable [Glob]
theorem flat_drop {α:Type} {k:Nat}:∀ {rows:List (List α)},(∀ r∈rows,r.length=k)→∀ i,i≤rows.length→(rows.drop i).flatten=rows.flatten.drop (i * k)
 | _,_,0,_=>by simp
 | [],_,i+1,h=>by simp at h
 | q::rows,hk,i+1,h=>by
   have hq:=hk q (by simp)
   have ih:=flat_drop (rows:=rows) (fun r hr=>hk r (List.mem_cons_of_mem _ hr)) i (by simpa using h)
   rw [List.drop_succ_cons,ih,List.flatten_cons,show (i+1) * k=q.length+i * k by rw [Nat.succ_mul,hq]; omega,List.drop_length_add_append]
theorem flat_take {α:Type} {k:Nat}:∀ {rows:List (List α)},(∀ r∈rows,r.length=k)→∀ i,i≤rows.length→(rows.take i).flatten=rows.flatten.take (i * k)
 | _,_,0,_=>by simp
 | [],_,i+1,h=>by simp at h
 | q::rows,hk,i+1,h=>by
   have hq:=hk q (by simp)
   have ih:=flat_take (rows:=rows) (fun r hr=>hk r (List.mem_cons_of_mem _ hr)) i (by simpa using h)
   rw [List.take_succ_cons,List.flatten_cons,ih,List.flatten_cons,show (i+1) * k=q.length+i * k by rw [Nat.succ_mul,hq]; omega,List.take_length_add_append]
section
variable {T:Tab} {P:Program} {B0 nx0:Nat} {w:World} {ρ:Rho} {h:Hp}
theorem add_seen {own:Nat→Prop} {a:Addr} {vs:List Value} (hs:Seen w own a vs) {j:Nat} {v:Value} (hj:vs[j]? = some v):w.cell? (a.add j)=some v:=by
 obtain ⟨h3,h4,_⟩:=hs j v hj
 have:a.add j=⟨a.block,a.off+j,none⟩:=by
  obtain ⟨b,o,s⟩:=a
  simp at h4; subst h4
  unfold Addr.add; split<;>simp_all
 rw [this]; exact h3
theorem boundA_spec {lim dflt:Nat} {o:Option AV} {vo:Option Value} (ho:match o,vo with | none,none=>True | some a,some v=>Rel w (ownOf ρ h) ρ a v | _,_=>False) {n:Nat} (hb:boundA lim dflt o=some n) :
  (vo=none∧n=dflt)∨(∃ k i,vo=some (.int k i)∧0≤i∧i≤lim∧n=i.toNat):=by
 cases o with
 | none =>
   cases vo with
   | none=>simp [boundA] at hb; exact .inl ⟨rfl,hb.symm⟩
   | some v=>exact ho.elim
 | some a =>
   cases vo with
   | none=>exact ho.elim
   | some v =>
     obtain ⟨k,i,rfl⟩:∃ k i,a = .int k i:=by cases a<;>first | exact ⟨_,_,rfl⟩ | simp [boundA] at hb
     simp only [boundA] at hb
     split at hb
     case isFalse=>cases hb
     rename_i hc
     simp at hb
     have ho':Rel w (ownOf ρ h) ρ (.int k i) v:=ho
     exact .inr ⟨k,i,by rw [ho'.int_inv],hc.1,hc.2,hb.symm⟩
def RelO (w:World) (own:Nat→Prop) (ρ:Rho) (o:Option AV) (vo:Option Value):Prop :=
 match o,vo with | none,none=>True | some a,some v=>Rel w own ρ a v | _,_=>False
theorem run_bounds (isS:Bool) {len cap hh ll:Nat} {lo hi:Option AV} {vlo vhi:Option Value} (h1:RelO w (ownOf ρ h) ρ lo vlo) (h2:RelO w (ownOf ρ h) ρ hi vhi) (hlc:len≤cap)
  (hhi:boundA len len hi=some hh) (hlo:boundA hh 0 lo=some ll) :
  (Instr.sliceBounds isS len cap vlo vhi none).run P w = .ok (ll,hh,cap) w∧ll≤hh∧hh≤len:=by
 have e2:=boundA_spec h2 hhi
 have e1:=boundA_spec h1 hlo
 rcases e2 with ⟨rfl,rfl⟩ | ⟨k,i,rfl,i1,i2,rfl⟩
 ·rcases e1 with ⟨rfl,rfl⟩ | ⟨k',i',rfl,j1,j2,rfl⟩
  ·simp [Instr.sliceBounds]
  ·refine ⟨?_,by omega,Nat.le_refl _⟩
   simp [Instr.sliceBounds,Instr.sliceBound,asIntOf,j1,j2]
 ·have i3:i≤(cap:Int):=by omega
  rcases e1 with ⟨rfl,rfl⟩ | ⟨k',i',rfl,j1,j2,rfl⟩
  ·refine ⟨?_,by omega,by omega⟩
   simp [Instr.sliceBounds,Instr.sliceBound,asIntOf,i1,i3]
  ·refine ⟨?_,by omega,by omega⟩
   have j3:i'≤max i 0:=by omega
   simp [Instr.sliceBounds,Instr.sliceBound,asIntOf,i1,i3,j1,j3]
theorem sliceA_sound (hT:T.Of P) (H:HR B0 nx0 w ρ h) {t:TypeId} {x r:AV} {vx:Value} {lo hi:Option AV} {vlo vhi:Option Value} (hx:Rel w (ownOf ρ h) ρ x vx) (h1:RelO w (ownOf ρ h) ρ lo vlo) (h2:RelO w (ownOf ρ h) ρ hi vhi)
  (hs:sliceA T h t x lo hi=some r):∃ v,(Instr.sliceAt t vx vlo vhi none).run P w = .ok v w∧Rel w (ownOf ρ h) ρ r v:=by
 unfold sliceA at hs
 cases hu:T.underlying t with
 | none=>simp [hu] at hs
 | some d =>
   have hu':=underT hT hu
   cases d<;>simp only [hu] at hs<;>try (cases hs; done)
   ·obtain ⟨s,rfl⟩:∃ s,x = .str s:=by cases x<;>first | exact ⟨_,rfl⟩ | simp at hs
    simp only at hs
    obtain rfl:=hx.str_inv
    cases hb:boundA s.size s.size hi with
    | none=>simp [hb] at hs
    | some hh =>
      cases hl:boundA hh 0 lo with
      | none=>simp [hb,hl] at hs
      | some ll =>
        simp [hb,hl] at hs; subst hs
        obtain ⟨hr,_,_⟩:=run_bounds (P:=P) false h1 h2 (Nat.le_refl _) hb hl
        exact ⟨_,by simp [Instr.sliceAt,Instr.slice,run_underlying hu',hr],.lit _ _ _ rfl⟩
   ·rename_i e
    cases x<;>simp only at hs<;>try (cases hs; done)
    ·
     obtain rfl:=hx.nils_inv
     cases hn:sizeT T e with
     | none=>simp [hn] at hs
     | some n =>
       have hsz:=run_sizeT hT (w:=w) hn
       cases hb:boundA 0 0 hi with
       | none=>simp [hn,hb] at hs
       | some hh =>
         cases hl:boundA hh 0 lo with
         | none=>simp [hn,hb,hl] at hs
         | some ll =>
           simp [hn,hb,hl] at hs; subst hs
           obtain ⟨hr,h3,h4⟩:=run_bounds (P:=P) true h1 h2 (Nat.le_refl _) hb hl
           obtain rfl:hh=0:=by omega
           obtain rfl:ll=0:=by omega
           exact ⟨.slice none 0 0,by simp [Instr.sliceAt,Instr.slice,run_underlying hu',hr,hsz],.lit _ _ _ rfl⟩
    ·rename_i kk rows
     cases hn:sizeT T e with
     | none=>simp [hn] at hs
     | some n =>
       have hsz:=run_sizeT hT (w:=w) hn
       simp only [hn] at hs
       split at hs
       case isFalse=>cases hs
       rename_i hall; subst hall
       cases hb:boundA rows.length rows.length hi with
       | none=>simp [hb] at hs
       | some hh =>
         cases hl:boundA hh 0 lo with
         | none=>simp [hb,hl] at hs
         | some ll =>
           simp [hb,hl] at hs; subst hs
           obtain ⟨ad,vs,cap,rfl,hkn,hrel,hseen,hcap⟩:=hx.sl_inv
           obtain ⟨hr,h3,h4⟩:=run_bounds (P:=P) true h1 h2 hcap hb hl
           refine ⟨.slice (some (if cap=ll then ad else ad.add (ll * kk))) (hh - ll) (cap - ll),?_,?_⟩
           ·simp only [Instr.sliceAt,Instr.slice,Sem.run_bind,run_underlying hu',Result.andThen_ok,hr,hsz,Sem.run_pure]
            congr 2
            split<;>rfl
           ·have hlen:((rows.drop ll).take (hh - ll)).length=hh - ll:=by simp; omega
            have hkd:∀ r∈rows.drop ll,r.length=kk:=fun r hr=>hkn r (List.mem_of_mem_drop hr)
            have hflat:((rows.drop ll).take (hh - ll)).flatten=(rows.flatten.drop (ll * kk)).take ((hh - ll) * kk):=by
             rw [flat_take hkd _ (by simp; omega),flat_drop hkn _ (by omega)]
            refine .sl _ _ _ _ ((vs.drop (ll * kk)).take ((hh - ll) * kk)) _ _ hlen.symm (fun r hr=>hkd r (List.mem_of_mem_take hr)) ?_ ?_ (by omega)
            ·rw [hflat]; exact (hrel.drop _).take _
            ·intro j v hj
             have hjl:=(List.getElem?_eq_some_iff.1 hj).1
             rw [List.getElem?_take] at hj
             split at hj
             case isFalse=>cases hj
             rename_i hjn
             rw [List.getElem?_drop] at hj
             obtain ⟨h5,h6,h7,h8⟩:=hseen _ _ hj
             have hlt:ll < hh:=by
              rcases Nat.lt_or_ge ll hh with h9 | h9
              ·exact h9
              ·rw [show hh - ll=0 by omega] at hjn; simp at hjn
             rw [if_neg (by omega)]
             obtain ⟨b,o,s⟩:=ad
             simp only at h5 h6 h7; subst h6
             have e1:(⟨b,o,none⟩:Addr).add (ll * kk)=⟨b,o+ll * kk,none⟩:=by unfold Addr.add; split<;>simp_all
             rw [e1]
             exact ⟨by rw [Nat.add_assoc]; exact h5,rfl,h7,h8⟩
    ·rename_i b off len
     cases hn:sizeT T e with
     | none=>simp [hn] at hs
     | some n =>
       have hsz:=run_sizeT hT (w:=w) hn
       cases hg:h.get b with
       | none=>simp [hn,hg] at hs
       | some B =>
         cases B<;>simp only [hn,hg] at hs<;>try (cases hs; done)
         rename_i kk rows
         split at hs
         case isFalse=>cases hs
         rename_i hkk
         cases hb:boundA len len hi with
         | none=>simp [hb] at hs
         | some hh =>
           cases hl:boundA hh 0 lo with
           | none=>simp [hb,hl] at hs
           | some ll =>
             simp [hb,hl] at hs; subst hs
             obtain ⟨x,a,cap,rfl,hx',hl',hcap,hadr⟩:=hx.ms_inv
             obtain ⟨arr,ee,vs,g1,g2,g3,g4,g5,g6,g7⟩:=H.blk b _ x hg hx'
             obtain ⟨hr,h3,h4⟩:=run_bounds (P:=P) true h1 h2 (show len≤cap by omega) hb hl
             have hkn:ll * n=ll * x.k:=by rw [g2.2,hkk]
             refine ⟨.slice (some (if cap=ll then ⟨x.c,a,none⟩ else (⟨x.c,a,none⟩:Addr).add (ll * n))) (hh - ll) (cap - ll),?_,?_⟩
             ·simp only [Instr.sliceAt,Instr.slice,Sem.run_bind,run_underlying hu',Result.andThen_ok,hr,hsz,Sem.run_pure]
              congr 2
              split<;>rfl
             ·have hab:(if cap=ll then (⟨x.c,a,none⟩:Addr) else (⟨x.c,a,none⟩:Addr).add (ll * n))=⟨x.c,if cap=ll then a else a+ll * n,none⟩:=by
               split
               ·rfl
               ·unfold Addr.add; split<;>simp_all
              rw [hab]
              refine .ms _ _ _ _ x hx' (by omega) _ _ (by omega) (fun h5=>?_)
              rw [if_neg (by omega),hadr (by omega),hkn,Nat.add_mul,Nat.add_assoc]
end
end Go.Proofs.YtdjngcfnlfgjkaaGreatDoor.AM

namespace Go.Proofs.YtdjngcfnlfgjkaaGreatDoor.AM
open Go.RowKit
variable [Glob]
section
variable {T:Tab} {P:Program} {B0 nx0:Nat} {w:World} {ρ:Rho} {h:Hp}
theorem src_spec (H:HR B0 nx0 w ρ h) {x:AV} {vx:Value} {n:Nat} {xs:List (List AV)} (hx:Rel w (ownOf ρ h) ρ x vx) (hr:rowsA h n x=some xs) :
  ∃ news,Rels w (ownOf ρ h) ρ xs.flatten news∧(∀ v∈news,v.oneCell'=true)∧(∀ r∈xs,r.length=n)∧news.length=xs.length * n ∧
    (∀ W,(Builtin.lenOf vx).run P W = .ok xs.length W)∧(∀ W:World,W.heap=w.heap→(Builtin.firstCells n xs.length vx).run P W = .ok news.toArray W):=by
 have cellW:∀ (W:World) (a:Addr),W.heap=w.heap→W.cell? a=w.cell? a:=fun W a e=>by unfold World.cell?; rw [e]
 cases x<;>simp only [rowsA] at hr<;>try (cases hr; done)
 ·obtain rfl:=hx.nils_inv
  simp at hr; subst hr
  exact ⟨[],by simpa using Rels.nil ρ,by simp,by simp,by simp,fun W=>by simp [Builtin.lenOf],fun W _=>by simp [Builtin.firstCells]⟩
 ·rename_i kk rows
  split at hr
  case isFalse=>cases hr
  rename_i hall; subst hall
  simp at hr; subst hr
  obtain ⟨ad,vs,cap,rfl,hkn,hrel,hseen,hcap⟩:=hx.sl_inv
  have hl:=hrel.length
  rw [flat_length hkn] at hl
  refine ⟨vs,hrel.mono (Stable.refl _ _) (noRho_le _),fun v hv=>?_,hkn,hl.symm,fun W=>by simp [Builtin.lenOf],fun W hW=>?_⟩
  ·obtain ⟨j,hj⟩:=List.getElem?_of_mem hv
   exact (hseen j v hj).2.2.2
  ·exact run_firstCells_some (P:=P) W kk rows.length ad _ cap vs hl.symm fun j v hj=>by rw [cellW W _ hW]; exact add_seen hseen hj
 ·rename_i b off len
  cases hg:h.get b with
  | none=>simp [hg] at hr
  | some B =>
    cases B<;>simp only [hg] at hr<;>try (cases hr; done)
    rename_i kk rows
    split at hr
    case isFalse=>cases hr
    rename_i hcond
    obtain ⟨hfit,hall⟩:=hcond
    simp at hr; subst hr
    obtain ⟨x,a,cap,rfl,hx',hl',hcap,hadr⟩:=hx.ms_inv
    obtain ⟨arr,ee,vs,g1,g2,g3,g4,g5,g6,g7⟩:=H.blk b _ x hg hx'
    have hkn:∀ r∈(rows.drop off).take len,r.length=n:=fun r hr=>by rw [g3 r (List.mem_of_mem_drop (List.mem_of_mem_take hr)),g2.2,hall]
    have hlen:((rows.drop off).take len).length=len:=by simp; omega
    have g3d:∀ r∈rows.drop off,r.length=x.k:=fun r hr=>g3 r (List.mem_of_mem_drop hr)
    have hflat:((rows.drop off).take len).flatten=(rows.flatten.drop (off * x.k)).take (len * x.k):=by
     rw [flat_take g3d _ (by simp; omega),flat_drop g3 _ (by omega)]
    have hrel:Rels w (ownOf ρ h) ρ ((rows.drop off).take len).flatten ((vs.drop (off * x.k)).take (len * x.k)):=by
     rw [hflat]; exact (g6.drop _).take _
    have hl:=hrel.length
    rw [flat_length hkn] at hl
    refine ⟨_,hrel,fun v hv=>?_,hkn,hl.symm,fun W=>by rw [hlen]; simp [Builtin.lenOf],fun W hW=>?_⟩
    ·obtain ⟨j,hj⟩:=List.getElem?_of_mem (List.mem_of_mem_drop (List.mem_of_mem_take hv))
     exact (g7 j v hj).2
    ·refine run_firstCells_some (P:=P) W n _ _ _ cap _ hl.symm fun j v hj=>?_
     rw [cellW W _ hW]
     have hlt:=(List.getElem?_eq_some_iff.1 hj).1
     rw [List.getElem?_take] at hj
     split at hj
     case isFalse=>cases hj
     rename_i hjn
     rw [List.getElem?_drop] at hj
     have hoff:off < x.cap:=by
      rcases Nat.eq_zero_or_pos len with h0 | h0
      ·subst h0; simp at hjn
      ·omega
     rw [hadr hoff]
     have hadd:(⟨x.c,x.base+off * x.k,none⟩:Addr).add j=⟨x.c,x.base+(off * x.k+j),none⟩:=by
      unfold Addr.add; split
      ·subst_vars; simp
      ·simp; omega
     rw [hadd]
     simp [World.cell?,g1,(g7 _ _ hj).1]
theorem append_run {st e:TypeId} {i:TypeInfo} {z:Value} {n m sLen sCap:Nat} {base:Option Addr} {vx:Value} {argTypes:Array TypeId} {ty:TypeId} {news:List Value}
  (hu:P.underlying st=some (.slice e)) (hi:P.info? e=some i) (hsize:i.size=n) (h0:argTypes[0]? = some st)
  (h1:argTypes[1]? = none∨∃ xt d,argTypes[1]? = some xt∧P.underlying xt=some (.slice d))
  (hlen:(Builtin.lenOf vx).run P w = .ok m w) :
  (sLen+m≤sCap→(Builtin.firstCells n m vx).run P w = .ok news.toArray w →
   (Builtin.append_ argTypes ty #[.slice base sLen sCap,vx]).run P w =
    ((match base with | some a=>storeCells (a.add (sLen * n)) news | none=>pure ()).run P w).andThen fun _ w'=>.ok (.slice base (sLen+m) sCap) w') ∧
  (sCap < sLen+m→i.zero=some z→(sLen+m:Nat)≤1073741824→i.bytes≤65536→∀ olds:List Value,(∀ W:World,W.heap=w.heap→(Builtin.firstCells n sLen (.slice base sLen sCap)).run P W = .ok olds.toArray W) →
   (∀ W:World,W.heap=w.heap→(Builtin.firstCells n m vx).run P W = .ok news.toArray W) →
   (Builtin.append_ argTypes ty #[.slice base sLen sCap,vx]).run P w =
    .ok (.slice (some ⟨w.heap.size,0,none⟩) (sLen+m) (grownCap w (sLen+m) sCap e))
     (w.drew.alloc (.cells (olds.toArray++news.toArray++Builtin.zeroCells z.cells (grownCap w (sLen+m) sCap e - (sLen+m))) e))):=by
 have hd:w.drew.heap=w.heap:=rfl
 refine ⟨fun hroom hf=>?_,fun hgrow hz h30 hby olds holds hf=>?_⟩
 ·rcases h1 with h1 | ⟨xt,d,h1,h2⟩
  ·cases base<;>simp [Builtin.append_,h0,h1,run_underlying hu,sizeOf,typeInfo,hi,hsize,hlen,hroom,hf]
  ·cases base<;>simp [Builtin.append_,h0,h1,run_underlying hu,run_underlying h2,sizeOf,typeInfo,hi,hsize,hlen,hroom,hf]
 ·have hn1:¬ (sLen+m≤sCap):=by omega
  have h48:Builtin.nextslicecap (sLen+m) sCap * i.bytes≤281474976710656:=by
   refine growslice_fits hgrow ?_
   calc (sLen+m) * i.bytes≤1073741824 * 65536:=Nat.mul_le_mul h30 hby
    _≤140737488355328:=by decide
  have h48':¬ (281474976710656 < Builtin.nextslicecap (sLen+m) sCap * i.bytes):=by omega
  have h63':¬ (9223372036854775807 < ((sLen:Int)+(m:Int))):=by omega
  have ho':=holds w.drew hd
  have hf':=hf w.drew hd
  rcases h1 with h1 | ⟨xt,d,h1,h2⟩
  ·simp [Builtin.append_,h0,h1,run_underlying hu,sizeOf,typeInfo,zeroValue,hi,hz,hsize,hlen,hn1,h63',h48',Question.forced,ho',hf',Go.newRow,grownCap]
   congr 2
   apply Array.ext'
   simp [List.append_assoc]
  ·simp [Builtin.append_,h0,h1,run_underlying hu,run_underlying h2,sizeOf,typeInfo,zeroValue,hi,hz,hsize,hlen,hn1,h63',h48',Question.forced,ho',hf',Go.newRow,grownCap]
   congr 2
   apply Array.ext'
   simp [List.append_assoc]
end
end Go.Proofs.YtdjngcfnlfgjkaaGreatDoor.AM
