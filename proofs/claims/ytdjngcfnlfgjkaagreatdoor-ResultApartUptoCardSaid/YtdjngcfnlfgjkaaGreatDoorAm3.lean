/-
  The abstract machine against the model: operations (second part).
-/
import Derived.Test.YtdjngcfnlfgjkaaGreatDoorAm2
import Derived.RangeFuncRecord
set_option linter.unusedVariables false
set_option linter.unusedSimpArgs false
set_option linter.unusedSectionVars false
namespace Go.Proofs.YtdjngcfnlfgjkaaGreatDoor.AM
open Go.RowKit
variable [Glob]
section
variable {T:Tab} {P:Program} {B0 nx0:Nat} {w:World} {ρ:Rho} {h:Hp}
theorem HR.adopt (H:HR B0 nx0 w ρ h) {b:Nat} {B:Blk} {x:Loc} (hb:h.get b=some B) (hl:B.live=true) (hx:ρ b=some x) (B':Blk) (y:Loc) (hy:y.c=x.c) (hl':B'.live=true)
  (hm:B'.mx≤h.nx) (w':World) (hsz:w'.heap.size=w.heap.size) (hoth:∀ c,c ≠ x.c→w'.heap[c]? = w.heap[c]?)
  (hos:w'.os=w.os) (htape:w'.tape=w.tape) (hout:w'.output=w.output)
  (hB:∀ (own:Nat→Prop) (ρ':Rho),Stable w (ownOf ρ h) w' own→Rho.le ρ ρ'→BR w' own ρ' y B') :
  HR B0 nx0 w' (ρ.set h.nx y) ((h.set b .dead).push B')∧Ext w ρ h w' (ρ.set h.nx y) ((h.set b .dead).push B'):=by
 obtain ⟨i1,i2,i3,i4⟩:=ids_set h b .dead
 have hget:∀ c C,((h.set b .dead).push B').get c=some C→C.live=true→(c=h.nx∧C=B')∨(c ≠ h.nx∧c ≠ b∧h.get c=some C):=by
  intro c C h1 h2
  rw [get_push,i3] at h1
  by_cases hc:c=h.nx
  ·simp [hc] at h1; exact .inl ⟨hc,h1.symm⟩
  ·simp [hc] at h1
   rw [get_set] at h1
   by_cases hcb:c=b
   ·subst hcb; simp [hb] at h1; subst h1; simp [Blk.live] at h2
   ·simp [hcb] at h1; exact .inr ⟨hc,hcb,h1⟩
 have hle:Rho.le ρ (ρ.set h.nx y):=fun c z hc=>by simp [Rho.set,H.ne_nx hc,hc]
 have hset:∀ c,c ≠ h.nx→(ρ.set h.nx y) c=ρ c:=fun c hc=>by simp [Rho.set,hc]
 have hxo:ownOf ρ h x.c:=.inr ⟨b,B,x,hb,hl,hx,rfl⟩
 have hxlt:x.c < w.heap.size:=by
  have hbr:=H.blk b B x hb hx
  cases B with
  | cells k rows=>obtain ⟨_,_,_,h4,_⟩:=hbr; exact heap_lt h4
  | map es=>obtain ⟨_,_,h4,_⟩:=hbr; exact heap_lt h4
  | siter s pos=>exact heap_lt hbr
  | loop=>obtain ⟨_,_,_,h4,_⟩:=hbr; exact heap_lt h4
  | dfr=>exact heap_lt hbr
  | dead=>simp [Blk.live] at hl
 have hown:∀ c,ownOf (ρ.set h.nx y) ((h.set b .dead).push B') c→ownOf ρ h c:=by
  rintro c (hX | ⟨d,C,z,h1,h2,h3,h4⟩)
  ·exact .inl hX
  rcases hget d C h1 h2 with ⟨rfl,rfl⟩ | ⟨hd,hdb,h5⟩
  ·simp [Rho.set] at h3; subst h3; rw [← h4,hy]; exact hxo
  ·rw [hset d hd] at h3; exact .inr ⟨d,C,z,h5,h2,h3,h4⟩
 have hst:Stable w (ownOf ρ h) w' (ownOf (ρ.set h.nx y) ((h.set b .dead).push B')):=by
  intro c o hc ho
  have hne:c ≠ x.c:=fun e=>hc (e ▸ hxo)
  exact ⟨(hoth c hne).trans ho,fun h1=>hc (hown c h1)⟩
 have hnx:((h.set b .dead).push B').nx=h.nx+1:=by simp [Hp.push,i3]
 refine ⟨⟨?_,?_,?_,?_,?_,?_,?_,?_,by rw [hsz]; exact H.sz,H.xlo,fun w'' hw=>H.gk w'' fun c hc=>(hw c hc).trans (hoth c (fun e=>by have:=H.low b B x hb hl hx; omega))⟩,⟨hos,htape,hout,by omega,?_,?_,fun c hc=>.inl (hown c hc),by omega,?_,i2,?_,?_,fun l hl=>⟨l,by show (h.set b .dead).lk=_; rw [i4]; exact hl,Nat.le_refl _⟩,rfl,fun c hc=>hoth c (fun e=>by have:=H.xlo c hc; have:=H.low b B x hb hl hx; omega)⟩⟩
 ·intro c z hc
  rw [hnx]
  by_cases hcn:c=h.nx
  ·omega
  ·rw [hset c hcn] at hc; have:=H.dom c z hc; omega
 ·intro c C z h1 h2
  by_cases hcl:C.live=true
  ·rcases hget c C h1 hcl with ⟨rfl,rfl⟩ | ⟨hd,hdb,h5⟩
   ·simp [Rho.set] at h2; subst h2
    exact hB _ _ hst hle
   ·rw [hset c hd] at h2
    have hbr:=H.blk c C z h5 h2
    have hne:z.c ≠ x.c:=fun e=>hdb (H.inj c b C B z x h5 hb hcl hl h2 hx e)
    exact hbr.mono hst hle (hoth _ hne)
  ·cases C<;>simp [Blk.live] at hcl
   trivial
 ·intro c c' C C' z z' h1 h2 h3 h4 h5 h6 h7
  rcases hget c C h1 h3 with ⟨rfl,rfl⟩ | ⟨d1,d2,d3⟩
  ·rcases hget c' C' h2 h4 with ⟨rfl,rfl⟩ | ⟨e1,e2,e3⟩
   ·rfl
   ·simp [Rho.set] at h5; subst h5
    rw [hset c' e1] at h6
    exact absurd (H.inj c' b C' B z' x e3 hb h4 hl h6 hx (h7.symm.trans hy)) e2
  ·rcases hget c' C' h2 h4 with ⟨rfl,rfl⟩ | ⟨e1,e2,e3⟩
   ·simp [Rho.set] at h6; subst h6
    rw [hset c d1] at h5
    exact absurd (H.inj c b C B z x d3 hb h3 hl h5 hx (h7.trans hy)) d2
   ·rw [hset c d1] at h5; rw [hset c' e1] at h6
    exact H.inj c c' C C' z z' d3 e3 h3 h4 h5 h6 h7
 ·intro c C z h1 h2 h3
  rcases hget c C h1 h2 with ⟨rfl,rfl⟩ | ⟨d1,d2,d3⟩
  ·simp [Rho.set] at h3; subst h3; rw [hy]; exact H.low b B x hb hl hx
  ·rw [hset c d1] at h3; exact H.low c C z d3 h2 h3
 ·intro c C h1
  rw [hnx]
  by_cases hcl:C.live=true
  ·rcases hget c C h1 hcl with ⟨rfl,rfl⟩ | ⟨d1,d2,d3⟩
   ·omega
   ·have:=H.mxb c C d3; omega
  ·cases C<;>simp [Blk.live] at hcl
   simp [Blk.mx]
 ·intro i hi
  rw [hnx]
  have hi':i∈h.nx::ids h.top:=by
   have:ids ((h.set b .dead).push B').top=h.nx::ids h.top:=by rw [← i1,← i3]; rfl
   rwa [this] at hi
  rcases List.mem_cons.1 hi' with rfl | hi'
  ·have:=H.nx; omega
  ·have:=H.top i hi'; omega
 ·show ∀ s∈(h.set b .dead).rest.map ids,_
  rw [i2]; exact H.rst
 ·rw [hnx]; have:=H.nx; omega
 ·intro c hc; exact hset c (by omega)
 ·intro c hc ho; exact hoth c fun e=>ho (e ▸ hxo)
 ·intro c hc hn
  rw [get_push,i3,if_neg (by omega),get_set,if_neg (fun e=>by rw [e,hx] at hn; cases hn)]
 ·refine ⟨[h.nx],?_,fun i hi=>?_⟩
  ·show ids ((h.set b .dead).push B').top=[h.nx]++ids h.top
   rw [← i1,← i3]; rfl
  ·simp at hi; subst hi; omega
 ·intro c C hc h1
  rw [get_push,i3,if_neg (by omega),get_set] at h1
  by_cases hcb:c=b
  ·subst hcb; simp [hb] at h1; subst h1; exact .inl ⟨B,hb,by simp [Blk.mx]⟩
  ·simp [hcb] at h1; exact .inl ⟨C,h1,by omega⟩
theorem grown_le (w:World) (need old:Nat) (e:TypeId):need≤grownCap w need old e:=by simp [grownCap,Question.cut]
theorem setRows_flat {k:Nat}:∀ {xs rows:List (List AV)} {i:Nat},(∀ r∈rows,r.length=k)→(∀ r∈xs,r.length=k)→i+xs.length≤rows.length →
  (setRows rows i xs).flatten=seg rows.flatten (i * k) xs.flatten∧(∀ r∈setRows rows i xs,r.length=k)∧(setRows rows i xs).length=rows.length
 | [],rows,i,hk,hx,hi=>by simp [setRows,seg]; exact hk
 | r::xs,rows,i,hk,hx,hi=>by
   simp at hi
   have hr:=hx r (by simp)
   have hk':∀ q∈rows.set i r,q.length=k:=fun q hq=>by
    rcases List.mem_or_eq_of_mem_set hq with hq | hq
    ·exact hk q hq
    ·rw [hq]; exact hr
   obtain ⟨h1,h2,h3⟩:=setRows_flat (xs:=xs) (rows:=rows.set i r) (i:=i+1) hk' (fun q hq=>hx q (List.mem_cons_of_mem _ hq)) (by simp; omega)
   simp only [setRows,put_eq]
   refine ⟨?_,h2,by simpa using h3⟩
   rw [h1,flat_set hk (by omega) hr]
   have hfl:=flat_length hk
   have hxl:=flat_length (fun q hq=>hx q (List.mem_cons_of_mem r hq))
   have hmul:(i+1+xs.length) * k≤rows.length * k:=Nat.mul_le_mul_right _ (by omega)
   have e1:(i+1) * k=i * k+k:=by rw [Nat.succ_mul]
   have e2:(i+1+xs.length) * k=i * k+k+xs.length * k:=by rw [Nat.add_mul,e1]
   unfold seg
   have htl:(rows.flatten.take (i * k)++r).length=(i+1) * k:=by rw [List.length_append,List.length_take,hr]; omega
   have t1:(rows.flatten.take (i * k)++r++rows.flatten.drop (i * k+r.length)).take ((i+1) * k)=rows.flatten.take (i * k)++r:=List.take_left' htl
   have t2:(rows.flatten.take (i * k)++r++rows.flatten.drop (i * k+r.length)).drop ((i+1) * k+xs.flatten.length)=rows.flatten.drop (i * k+(r++xs.flatten).length):=by
    rw [← htl,List.drop_length_add_append,List.drop_drop]
    congr 1
    rw [List.length_append]; omega
   rw [t1,t2]
   simp
theorem appendA_sound (hT:T.Of P) (H:HR B0 nx0 w ρ h) {argTypes:Array TypeId} {ty:TypeId} {args:List AV} {vargs:Array Value} {r:AV} {h':Hp} (hargs:Rels w (ownOf ρ h) ρ args vargs.toList)
  (hs:appendA T h argTypes.toList args=some (r,h')) :
  ∃ v w' ρ',(Builtin.append_ argTypes ty vargs).run P w = .ok v w'∧HR B0 nx0 w' ρ' h'∧Ext w ρ h w' ρ' h'∧Rel w' (ownOf ρ' h') ρ' r v:=by
 unfold appendA at hs
 split at hs
 case h_2=>cases hs
 rename_i st ts s x hts
 cases he:elemT T st with
 | none=>simp [he] at hs
 | some q =>
   obtain ⟨e,n,b,z⟩:=q
   cases hsrc:srcT T ts.head? with
   | false=>simp [he,hsrc] at hs
   | true =>
     simp only [he,hsrc] at hs
     cases hrx:rowsA h n x with
     | none=>simp [hrx] at hs
     | some xs =>
       simp only [hrx] at hs
       obtain ⟨i,zv,hu,hi,hsize,hby,hzero,hn,hb,hzl,hzs,hzrel,hzone,hzmx⟩:=elemT_spec hT he
       obtain ⟨vs,vx,hvargs,hrs,hrxv⟩:∃ vs vx,vargs=#[vs,vx]∧Rel w (ownOf ρ h) ρ s vs∧Rel w (ownOf ρ h) ρ x vx:=by
        cases hargs':vargs.toList with
        | nil=>rw [hargs'] at hargs; cases hargs
        | cons v1 l1 =>
          rw [hargs'] at hargs
          cases hargs with
          | cons _ _ _ _ _ h1 h2 =>
            cases h2 with
            | cons _ _ v2 _ l2 h3 h4 =>
              cases h4
              exact ⟨v1,v2,by apply Array.ext'; rw [hargs'],h1,h3⟩
       subst hvargs
       have h0:argTypes[0]? = some st:=by rw [← Array.getElem?_toList,hts]; rfl
       have h1:argTypes[1]? = none∨∃ xt d,argTypes[1]? = some xt∧P.underlying xt=some (.slice d):=by
        rw [← Array.getElem?_toList,hts]
        cases ts with
        | nil=>exact .inl rfl
        | cons xt ts =>
          right
          simp only [srcT,List.head?_cons] at hsrc
          split at hsrc
          ·rename_i d hd; exact ⟨xt,d,rfl,underT hT hd⟩
          ·cases hsrc
       obtain ⟨news,hnrel,hnone,hnk,hnl,hlen,hfc⟩:=src_spec (P:=P) H hrxv hrx
       split at hs
       ·
        rename_i hx0
        subst hx0
        have hn0:news=[]:=by
         have:news.length=0:=by simpa using hnl
         exact List.length_eq_zero_iff.1 this
        subst hn0
        have key:∀ base sLen sCap,vs = .slice base sLen sCap→sLen≤sCap→(Builtin.append_ argTypes ty #[vs,vx]).run P w = .ok vs w:=by
         intro base sLen sCap hvs hle
         subst hvs
         have:=(append_run (ty:=ty) (sLen:=sLen) (sCap:=sCap) (base:=base) (news:=[]) (z:=zv) hu hi hsize h0 h1 (hlen w)).1 (by simpa using hle) (hfc w rfl)
         rw [this]
         cases base<;>simp [storeCells]
        cases s<;>simp only at hs<;>try (cases hs; done)
        ·simp at hs; obtain ⟨rfl,rfl⟩:=hs
         have:=hrs.nils_inv
         exact ⟨vs,w,ρ,key none 0 0 this (Nat.le_refl _),H,Ext.refl _ _ _,hrs⟩
        ·simp at hs; obtain ⟨rfl,rfl⟩:=hs
         obtain ⟨ad,vs',cap,hvs,_,_,_,hcap⟩:=hrs.sl_inv
         exact ⟨vs,w,ρ,key _ _ _ hvs hcap,H,Ext.refl _ _ _,hrs⟩
        ·simp at hs; obtain ⟨rfl,rfl⟩:=hs
         obtain ⟨x',a,cap,hvs,_,hl,hcap,_⟩:=hrs.ms_inv
         exact ⟨vs,w,ρ,key _ _ _ hvs (by omega),H,Ext.refl _ _ _,hrs⟩
       ·rename_i hx0
        have hxpos:0 < xs.length:=by
         cases xs with
         | nil=>exact absurd rfl hx0
         | cons _ _=>simp
        have hzc:∀ k:Nat,(Builtin.zeroCells zv.cells k).size=k * n:=fun k=>by rw [size_zeroCells,hzs]
        cases s<;>simp only at hs<;>try (cases hs; done)
        ·
         split at hs
         case isFalse=>cases hs
         rename_i hlim
         simp at hs; obtain ⟨rfl,rfl⟩:=hs
         obtain rfl:=hrs.nils_inv
         have hrun:=(append_run (ty:=ty) (sLen:=0) (sCap:=0) (base:=none) (news:=news) hu hi hsize h0 h1 (hlen w)).2 (by omega) hzero (by omega) (by omega) [] (fun W _=>by simp [Builtin.firstCells]) hfc
         have hg:=grown_le w (0+xs.length) 0 e
         obtain ⟨ρ',g1,g2,g3⟩:=H.newRows (w.drew.alloc (.cells ([].toArray++news.toArray++Builtin.zeroCells zv.cells (grownCap w (0+xs.length) 0 e - (0+xs.length))) e)) _ e rfl
          (rows:=xs) (n:=n) (cap:=grownCap w (0+xs.length) 0 e) (vs:=news) hn hnk (by omega) (by
           have:=hzc (grownCap w (0+xs.length) 0 e - (0+xs.length))
           simp only [Array.size_append,List.size_toArray,List.length_nil,this,hnl]
           rw [Nat.sub_mul]
           have:=Nat.mul_le_mul_right n hg
           rw [Nat.add_mul] at this
           simp at this ⊢; omega) hnrel hnone (fun j v hj=>by
           have hlt:=(List.getElem?_eq_some_iff.1 hj).1
           simp [Array.getElem?_append,hlt]
           rw [List.getElem?_eq_getElem hlt] at hj; simpa using hj)
         refine ⟨_,_,ρ',hrun,g1,g2,?_⟩
         simpa using g3
        ·rename_i bb off len
         cases hg:h.get bb with
         | none=>simp [hg] at hs
         | some B =>
           cases B<;>simp only [hg] at hs<;>try (cases hs; done)
           rename_i k rows
           split at hs
           case isFalse=>cases hs
           rename_i hkn
           subst hkn
           obtain ⟨x',a,cap,rfl,hx',hl',hcap,hadr⟩:=hrs.ms_inv
           obtain ⟨arr,ee,cvs,c1,c2,c3,c4,c5,c6,c7⟩:=H.blk bb _ x' hg hx'
           have hfl:=flat_length c3
           have hcl:=c6.length
           have hk:=c2.2
           split at hs
           ·
            rename_i hend
            split at hs
            case isFalse=>cases hs
            rename_i hlim
            simp at hs; obtain ⟨rfl,rfl⟩:=hs
            have hrows':∀ r∈rows.drop off++xs,r.length=k:=fun r hr=>by
             rcases List.mem_append.1 hr with hr | hr
             ·rw [c3 r (List.mem_of_mem_drop hr),hk]
             ·exact hnk r hr
            have hlen':(rows.drop off++xs).length=len+xs.length:=by simp; omega
            have hflat':(rows.drop off++xs).flatten=rows.flatten.drop (off * x'.k)++xs.flatten:=by
             rw [List.flatten_append,flat_drop c3 _ (by omega)]
            have hrel':Rels w (ownOf ρ h) ρ (rows.drop off++xs).flatten (cvs.drop (off * x'.k)++news):=by
             rw [hflat']; exact (c6.drop _).append hnrel
            have hmx':(Blk.cells k (rows.drop off++xs)).mx≤h.nx:=by
             show mxss _≤h.nx
             rw [mxss_flat]; exact hrel'.mx_le H.dom
            by_cases hroom:len+xs.length≤cap
            ·
             have hrun:=(append_run (ty:=ty) (sLen:=len) (sCap:=cap) (base:=some ⟨x'.c,a,none⟩) (news:=news) (z:=zv) hu hi hsize h0 h1 (hlen w)).1 hroom (hfc w rfl)
             obtain rfl:=hadr (by omega)
             have e1:(⟨x'.c,x'.base+off * x'.k,none⟩:Addr).add (len * k)=⟨x'.c,x'.base+rows.length * x'.k,none⟩:=by
              rw [← hk,← hend]
              unfold Addr.add; split
              ·rename_i h5; simp [Nat.add_mul,h5]
              ·simp [Nat.add_mul]; omega
             have hcap2:(rows.length+xs.length) * x'.k≤x'.cap * x'.k:=Nat.mul_le_mul_right _ (by omega)
             rw [Nat.add_mul] at hcap2
             have hnl2:news.length=xs.length * x'.k:=by rw [hnl,hk]
             have hst:=run_storeCells_at P x'.c (x'.base+rows.length * x'.k) ee news 0 arr w c1 (by omega) hnone
             simp only [e1,hst,Result.andThen_ok,Nat.add_zero] at hrun
             obtain ⟨g1,g2⟩:=H.adopt hg rfl hx' (.cells k (rows.drop off++xs)) ⟨x'.c,x'.base+off * x'.k,x'.k,x'.cap - off⟩ rfl rfl hmx' (w.setRow x'.c (arr.toList.take (x'.base+rows.length * x'.k)++news++arr.toList.drop (x'.base+rows.length * x'.k+news.length)).toArray)
              (by simp) (fun c hc=>setRow_other _ _ _ _ hc) rfl rfl rfl (fun own ρ' hst' hle=>by
               have hmulo:off * x'.k≤rows.length * x'.k:=Nat.mul_le_mul_right _ (by omega)
               refine ⟨_,ee,_,setRow_heap _ _ _ _ _ _ c1,⟨c2.1,hk⟩,fun r hr=>by rw [hrows' r hr,hk],(show (rows.drop off++xs).length≤x'.cap - off by rw [hlen']; omega),?_,hrel'.mono hst' hle,?_⟩
               ·simp
                have:off * x'.k+(x'.cap - off) * x'.k=x'.cap * x'.k:=by rw [← Nat.add_mul]; congr 1; omega
                omega
               ·intro j v hj
                have harr:arr.toList.length=arr.size:=by simp
                rw [List.getElem?_append] at hj
                simp only [List.length_drop] at hj
                simp only [List.getElem?_toArray,List.getElem?_append,List.getElem?_take,List.getElem?_drop,List.length_take,List.length_append,harr]
                rw [show min (x'.base+rows.length * x'.k) arr.size=x'.base+rows.length * x'.k by omega]
                by_cases hj1:j < cvs.length - off * x'.k
                ·rw [if_pos hj1,List.getElem?_drop] at hj
                 obtain ⟨h5,h6⟩:=c7 _ _ hj
                 rw [if_pos (by omega),if_pos (by omega),if_pos (by omega)]
                 refine ⟨?_,h6⟩
                 rw [Array.getElem?_toList,Nat.add_assoc]; exact h5
                ·rw [if_neg hj1] at hj
                 have hjlt:=(List.getElem?_eq_some_iff.1 hj).1
                 rw [if_pos (by omega),if_neg (by omega)]
                 refine ⟨?_,hnone v (List.mem_of_getElem? hj)⟩
                 rw [← hj]; congr 1; omega)
             refine ⟨_,_,_,hrun,g1,g2,?_⟩
             refine .ms _ _ _ _ ⟨x'.c,x'.base+off * x'.k,x'.k,x'.cap - off⟩ (by simp [Rho.set]) (show 0+(len+xs.length)≤x'.cap - off by omega) _ _ (show 0+cap=x'.cap - off by omega) (fun _=>by simp)
            ·
             have hs2:rowsA h k (.ms bb off len)=some ((rows.drop off).take len):=by
              simp [rowsA,hg]; omega
             obtain ⟨olds,horel,hoone,hok,hol,holen,hofc⟩:=src_spec (P:=P) H hrs hs2
             have htl:(rows.drop off).take len=rows.drop off:=List.take_of_length_le (by simp; omega)
             rw [htl] at horel hok hol holen hofc
             have hdl:(rows.drop off).length=len:=by simp; omega
             rw [hdl] at hol holen hofc
             have hrun:=(append_run (ty:=ty) (sLen:=len) (sCap:=cap) (base:=some ⟨x'.c,a,none⟩) (news:=news) hu hi hsize h0 h1 (hlen w)).2 (by omega) hzero hlim (by omega) olds hofc hfc
             have hgr:=grown_le w (len+xs.length) cap e
             obtain ⟨K1,K2⟩:=H.kill hx'
             have hst:=K2.stable
             have hone2:∀ v∈olds++news,v.oneCell'=true:=fun v hv=>by
              rcases List.mem_append.1 hv with hv | hv
              ·exact hoone v hv
              ·exact hnone v hv
             obtain ⟨ρ',g1,g2,g3⟩:=K1.newRows (w.drew.alloc (.cells (olds.toArray++news.toArray++Builtin.zeroCells zv.cells (grownCap w (len+xs.length) cap e - (len+xs.length))) e)) _ e rfl
              (rows:=rows.drop off++xs) (n:=k) (cap:=grownCap w (len+xs.length) cap e) (vs:=olds++news) hn hrows' (by omega) (by
               have:=hzc (grownCap w (len+xs.length) cap e - (len+xs.length))
               simp only [Array.size_append,List.size_toArray,this,hnl,hol]
               rw [Nat.sub_mul]
               have:=Nat.mul_le_mul_right k hgr
               rw [Nat.add_mul] at this ⊢
               omega) (by
               rw [List.flatten_append]
               exact (horel.append hnrel).mono hst (Rho.le_refl _)) hone2 (fun j v hj=>by
               have hlt:=(List.getElem?_eq_some_iff.1 hj).1
               have e5:(olds.toArray++news.toArray++Builtin.zeroCells zv.cells (grownCap w (len+xs.length) cap e - (len+xs.length)))=(olds++news).toArray++Builtin.zeroCells zv.cells (grownCap w (len+xs.length) cap e - (len+xs.length)):=by simp
               rw [e5,Array.getElem?_append,if_pos (by simpa using hlt)]
               simpa using hj)
             have hnx:(h.set bb .dead).nx=h.nx:=(ids_set h bb .dead).2.2.1
             rw [hnx,hlen'] at g3
             exact ⟨_,_,ρ',hrun,g1,K2.trans g2,g3⟩
           ·rename_i hend
            split at hs
            case isFalse=>cases hs
            rename_i hfit
            simp at hs; obtain ⟨rfl,rfl⟩:=hs
            have hrun:=(append_run (ty:=ty) (sLen:=len) (sCap:=cap) (base:=some ⟨x'.c,a,none⟩) (news:=news) (z:=zv) hu hi hsize h0 h1 (hlen w)).1 (by omega) (hfc w rfl)
            obtain rfl:=hadr (by omega)
            have e1:(⟨x'.c,x'.base+off * x'.k,none⟩:Addr).add (len * k)=⟨x'.c,x'.base+(off+len) * x'.k,none⟩:=by
             rw [← hk]
             unfold Addr.add; split
             ·rename_i h5; simp [Nat.add_mul,h5]
             ·simp [Nat.add_mul]; omega
            have hnl2:news.length=xs.length * x'.k:=by rw [hnl,hk]
            have hm1:(off+len+xs.length) * x'.k≤rows.length * x'.k:=Nat.mul_le_mul_right _ hfit
            rw [Nat.add_mul] at hm1
            have hm2:rows.length * x'.k≤x'.cap * x'.k:=Nat.mul_le_mul_right _ c4
            have hst:=run_storeCells_at P x'.c (x'.base+(off+len) * x'.k) ee news 0 arr w c1 (by omega) hnone
            simp only [e1,hst,Result.andThen_ok,Nat.add_zero] at hrun
            obtain ⟨s1,s2,s3⟩:=setRows_flat (k:=x'.k) (xs:=xs) (rows:=rows) (i:=off+len) c3 (fun r hr=>by rw [hnk r hr,hk]) hfit
            have hxl:=hnrel.length
            obtain ⟨g1,g2⟩:=H.write hg hx' hnrel hnone (p:=(off+len) * x'.k) (by omega) (setRows rows (off+len) xs) s2 s3 s1 c1
            rw [← mxss_flat] at g1 g2
            refine ⟨_,_,ρ,hrun,g1,g2,?_⟩
            exact .ms _ _ _ _ x' hx' (by omega) _ _ hcap (fun _=>rfl)
end
end Go.Proofs.YtdjngcfnlfgjkaaGreatDoor.AM

namespace Go.Proofs.YtdjngcfnlfgjkaaGreatDoor.AM
open Go.RowKit
variable [Glob]
section
variable {T:Tab} {P:Program} {B0 nx0:Nat} {w:World} {ρ:Rho} {h:Hp}
theorem eqFieldsA_sound (hT:T.Of P) (d:Nat) {eq:TypeId→AV→AV→Option Bool}
  (heq:∀ t x y vx vy b,Rel w (ownOf ρ h) ρ x vx→Rel w (ownOf ρ h) ρ y vy→eq t x y=some b→(Op.equalIn d t vx vy).run P w = .ok b w)
  {a b:List AV} {va vb:List Value} (ha:Rels w (ownOf ρ h) ρ a va) (hb:Rels w (ownOf ρ h) ρ b vb) :
  ∀ {fs:List Field} {r:Bool},eqFieldsA T eq a b fs=some r→(Op.eqFields d va.toArray vb.toArray fs).run P w = .ok r w
 | [],r,hs=>by simp [eqFieldsA] at hs; subst hs; simp [Op.eqFields]
 | f::fs,r,hs=>by
   simp only [eqFieldsA] at hs
   split at hs
   ·rename_i hn
    have ih:=eqFieldsA_sound hT d heq ha hb hs
    simp [Op.eqFields,hn,ih]
   ·rename_i hn
    cases h1:partA T f.type a f.offset with
    | none=>simp [h1] at hs
    | some u =>
      cases h2:partA T f.type b f.offset with
      | none=>simp [h1,h2] at hs
      | some v =>
        simp only [h1,h2] at hs
        obtain ⟨vu,hu,hru⟩:=partA_sound hT ha h1
        obtain ⟨vv,hv,hrv⟩:=partA_sound hT hb h2
        cases h3:eq f.type u v with
        | none=>simp [h3] at hs
        | some c =>
          have hc:=heq _ _ _ _ _ _ hru hrv h3
          cases c with
          | true =>
            simp only [h3] at hs
            have ih:=eqFieldsA_sound hT d heq ha hb hs
            simp [Op.eqFields,hn,hu,hv,hc,ih]
          | false =>
            simp [h3] at hs; subst hs
            simp [Op.eqFields,hn,hu,hv,hc]
theorem eqElemsA_sound (hT:T.Of P) (d:Nat) {eq:TypeId→AV→AV→Option Bool} {elem n:Nat}
  (heq:∀ t x y vx vy b,Rel w (ownOf ρ h) ρ x vx→Rel w (ownOf ρ h) ρ y vy→eq t x y=some b→(Op.equalIn d t vx vy).run P w = .ok b w)
  {a b:List AV} {va vb:List Value} (ha:Rels w (ownOf ρ h) ρ a va) (hb:Rels w (ownOf ρ h) ρ b vb) :
  ∀ {is:List Nat} {r:Bool},eqElemsA T eq elem n a b is=some r →
    ((forIn is ((none:Option Bool),()) fun i (_:Option Bool × Unit)=>do
      let p ← part elem va.toArray (i * n)
      let q ← part elem vb.toArray (i * n)
      let c ← Op.equalIn d elem p q
      if (!c)=true then pure (ForInStep.done (some false,())) else pure (ForInStep.yield (none,())):Sem (Option Bool × Unit))).run P w = .ok (if r then none else some false,()) w
 | [],r,hs=>by simp [eqElemsA] at hs; subst hs; simp
 | i::is,r,hs=>by
   simp only [eqElemsA] at hs
   cases h1:partA T elem a (i * n) with
   | none=>simp [h1] at hs
   | some u =>
     cases h2:partA T elem b (i * n) with
     | none=>simp [h1,h2] at hs
     | some v =>
       simp only [h1,h2] at hs
       obtain ⟨vu,hu,hru⟩:=partA_sound hT ha h1
       obtain ⟨vv,hv,hrv⟩:=partA_sound hT hb h2
       cases h3:eq elem u v with
       | none=>simp [h3] at hs
       | some c =>
         have hc:=heq _ _ _ _ _ _ hru hrv h3
         cases c with
         | true =>
           simp only [h3] at hs
           have ih:=eqElemsA_sound hT d heq ha hb hs
           simp only [List.forIn_cons,Sem.run_bind,hu,hv,hc,Result.andThen_ok,Bool.not_true,Bool.false_eq_true,if_false,Sem.run_pure]
           simpa using ih
         | false =>
           simp [h3] at hs; subst hs
           simp [List.forIn_cons,hu,hv,hc]
theorem eqNil_pointer {d t:Nat} {e:TypeId} (hu':P.underlying t=some (.pointer e)) {x y:AV} {vx vy:Value} {b:Bool} (hx:Rel w (ownOf ρ h) ρ x vx) (hy:Rel w (ownOf ρ h) ρ y vy) (hs:eqNilP x y=some b) :
  (Op.equalIn (d+1) t vx vy).run P w = .ok b w:=by
 cases x<;>cases y<;>simp [eqNilP] at hs<;>subst hs
 ·rw [hx.nilp_inv,hy.nilp_inv]; simp [Op.equalIn,run_underlying hu']
 ·obtain ⟨l,rfl,_⟩:=hy.ptr_inv; rw [hx.nilp_inv]; simp [Op.equalIn,run_underlying hu']
 ·obtain ⟨l,_,rfl,_⟩:=hy.ref_inv; rw [hx.nilp_inv]; simp [Op.equalIn,run_underlying hu']
 ·obtain ⟨l,rfl,_⟩:=hx.ptr_inv; rw [hy.nilp_inv]; simp [Op.equalIn,run_underlying hu']
 ·obtain ⟨l,_,rfl,_⟩:=hx.ref_inv; rw [hy.nilp_inv]; simp [Op.equalIn,run_underlying hu']
theorem eqNil_slice {d t:Nat} {e:TypeId} (hu':P.underlying t=some (.slice e)) {x y:AV} {vx vy:Value} {b:Bool} (hx:Rel w (ownOf ρ h) ρ x vx) (hy:Rel w (ownOf ρ h) ρ y vy) (hs:eqNilS x y=some b) :
  (Op.equalIn (d+1) t vx vy).run P w = .ok b w:=by
 cases x<;>cases y<;>simp [eqNilS] at hs<;>subst hs
 ·rw [hx.nils_inv,hy.nils_inv]; simp [Op.equalIn,run_underlying hu']
 ·obtain ⟨l,_,_,rfl,_⟩:=hy.sl_inv; rw [hx.nils_inv]; simp [Op.equalIn,run_underlying hu']
 ·obtain ⟨l,_,_,rfl,_⟩:=hy.ms_inv; rw [hx.nils_inv]; simp [Op.equalIn,run_underlying hu']
 ·obtain ⟨l,_,_,rfl,_⟩:=hx.sl_inv; rw [hy.nils_inv]; simp [Op.equalIn,run_underlying hu']
 ·obtain ⟨l,_,_,rfl,_⟩:=hx.ms_inv; rw [hy.nils_inv]; simp [Op.equalIn,run_underlying hu']
theorem eqNil_map {d t:Nat} {e f:TypeId} (hu':P.underlying t=some (.map e f)) {x y:AV} {vx vy:Value} {b:Bool} (hx:Rel w (ownOf ρ h) ρ x vx) (hy:Rel w (ownOf ρ h) ρ y vy) (hs:eqNilM x y=some b) :
  (Op.equalIn (d+1) t vx vy).run P w = .ok b w:=by
 cases x<;>cases y<;>simp [eqNilM] at hs<;>subst hs
 ·rw [hx.nilm_inv,hy.nilm_inv]; simp [Op.equalIn,run_underlying hu']
 ·obtain ⟨l,rfl,_⟩:=hy.mp_inv; rw [hx.nilm_inv]; simp [Op.equalIn,run_underlying hu']
 ·obtain ⟨l,_,_,rfl,_⟩:=hy.im_inv; rw [hx.nilm_inv]; simp [Op.equalIn,run_underlying hu']
 ·obtain ⟨l,rfl,_⟩:=hx.mp_inv; rw [hy.nilm_inv]; simp [Op.equalIn,run_underlying hu']
 ·obtain ⟨l,_,_,rfl,_⟩:=hx.im_inv; rw [hy.nilm_inv]; simp [Op.equalIn,run_underlying hu']
theorem eqNil_func {d t:Nat} {e f:Array TypeId} {g:Bool} (hu':P.underlying t=some (.func e f g)) {x y:AV} {vx vy:Value} {b:Bool} (hx:Rel w (ownOf ρ h) ρ x vx) (hy:Rel w (ownOf ρ h) ρ y vy) (hs:eqNilF x y=some b) :
  (Op.equalIn (d+1) t vx vy).run P w = .ok b w:=by
 cases x<;>cases y<;>simp [eqNilF] at hs<;>subst hs
 ·obtain ⟨l,_,rfl,_⟩:=hx.func_inv; rw [hy.nilf_inv]; simp [Op.equalIn,run_underlying hu']
 ·obtain ⟨l,_,rfl,_⟩:=hy.func_inv; rw [hx.nilf_inv]; simp [Op.equalIn,run_underlying hu']
 ·rw [hx.nilf_inv,hy.nilf_inv]; simp [Op.equalIn,run_underlying hu']
theorem eqA_sound (hT:T.Of P):∀ (d:Nat) (t:TypeId) (x y:AV) (vx vy:Value) (b:Bool),Rel w (ownOf ρ h) ρ x vx→Rel w (ownOf ρ h) ρ y vy→eqA T d t x y=some b→(Op.equalIn d t vx vy).run P w = .ok b w
 | 0,_,_,_,_,_,_,_,_,hs=>by simp [eqA] at hs
 | d+1,t,x,y,vx,vy,b,hx,hy,hs=>by
   simp only [eqA] at hs
   cases hu:T.underlying t with
   | none=>simp [hu] at hs
   | some D =>
     have hu':=underT hT hu
     cases D<;>simp only [hu] at hs<;>try (cases hs; done)
     ·cases x<;>cases y<;>simp only [eqBool] at hs<;>try (cases hs; done)
      simp at hs; subst hs
      rw [hx.bool_inv,hy.bool_inv]; exact run_equalIn_bool' w d t _ _ hu'
     ·cases x<;>cases y<;>simp only [eqInt] at hs<;>try (cases hs; done)
      split at hs
      case isFalse=>cases hs
      rename_i hk; subst hk
      simp at hs; subst hs
      rw [hx.int_inv,hy.int_inv]; simp [Op.equalIn,run_underlying hu']
     ·cases x<;>cases y<;>simp only [eqStr] at hs<;>try (cases hs; done)
      simp at hs; subst hs
      rw [hx.str_inv,hy.str_inv]; simp [Op.equalIn,run_underlying hu']
     ·exact eqNil_pointer hu' hx hy hs
     ·exact eqNil_slice hu' hx hy hs
     ·
      rename_i len elem
      obtain ⟨a,rfl⟩:∃ a,x = .agg a:=by cases x<;>first | exact ⟨_,rfl⟩ | simp at hs
      obtain ⟨c,rfl⟩:∃ c,y = .agg c:=by cases y<;>first | exact ⟨_,rfl⟩ | simp at hs
      cases hn:sizeT T elem with
      | none=>simp [hn] at hs
      | some n =>
        simp only [hn] at hs
        obtain ⟨va,rfl,hra⟩:=hx.agg_inv
        obtain ⟨vc,rfl,hrc⟩:=hy.agg_inv
        have hsz:=run_sizeT hT (w:=w) hn
        have key:=eqElemsA_sound hT d (eqA_sound hT d) hra hrc hs
        simp only [Op.equalIn,Sem.run_bind,run_underlying hu',Result.andThen_ok,hsz]
        rw [Std.Legacy.Range.forIn_eq_forIn_range']
        simp only [Std.Legacy.Range.size,Nat.sub_zero,Nat.add_sub_cancel,Nat.div_one,← List.range_eq_range']
        rw [key]
        cases b<;>rfl
     ·exact eqNil_map hu' hx hy hs
     ·
      rename_i fs
      obtain ⟨a,rfl⟩:∃ a,x = .agg a:=by cases x<;>first | exact ⟨_,rfl⟩ | simp at hs
      obtain ⟨c,rfl⟩:∃ c,y = .agg c:=by cases y<;>first | exact ⟨_,rfl⟩ | simp at hs
      simp only at hs
      cases hg:T.ty.get t with
      | none=>simp [hg] at hs
      | some e =>
        simp only [hg] at hs
        split at hs
        ·cases hs
        ·rename_i hh
         obtain ⟨va,rfl,hra⟩:=hx.agg_inv
         obtain ⟨vc,rfl,hrc⟩:=hy.agg_inv
         have hf:P.fieldsOf t=fs:=by simp [Program.fieldsOf,hu']
         have hst:P.stoodInHeld t=false:=hT.held t e hg (by simpa using hh)
         rw [run_equalIn_struct w d t _ _ (by rw [hf]; exact hu') hst,hf]
         exact eqFieldsA_sound hT d (eqA_sound hT d) hra hrc hs
     ·exact eqNil_func hu' hx hy hs
end
end Go.Proofs.YtdjngcfnlfgjkaaGreatDoor.AM

namespace Go.Proofs.YtdjngcfnlfgjkaaGreatDoor.AM
open Go.RowKit
variable [Glob]
def plainV:Value→Prop
 | .int ..=>False
 | .string _=>False
 | .float ..=>False
 | .complex ..=>False
 | _=>True
theorem eqA_succ_eq {T:Tab} {d:Nat} {t:TypeId} {x y:AV} {c:Bool} (h:eqA T (d+1) t x y=some c) :
  (∀ k a,x = .int k a→∃ k' b,y = .int k' b)∧(∀ s,x = .str s→∃ s',y = .str s')∧x ≠ .nili∧x ≠ .junk∧(∀ t v,x ≠ .iface t v)∧(∀ a,x = .agg a→∃ b,y = .agg b):=by
 simp only [eqA] at h
 cases hu:T.underlying t with
 | none=>simp only [hu] at h; cases h
 | some D =>
   refine ⟨?_,?_,?_,?_,?_,?_⟩
   all_goals
    intros
    try subst x
    try intro hx
    try subst hx
    cases D<;>simp only [hu] at h<;>first
     | (cases h; done)
     | (cases y<;>first | exact ⟨_,_,rfl⟩ | exact ⟨_,rfl⟩ | (simp [eqBool,eqInt,eqStr,eqNilP,eqNilS,eqNilM,eqNilF] at h; done))
theorem binOp_eql (t:TypeId) (vx vy:Value) (hx:plainV vx) :
  binOp .eql t vx vy=(do pure (.bool (← Op.equal t vx vy)):Sem Value)∧binOp .neq t vx vy=(do pure (.bool (!(← Op.equal t vx vy))):Sem Value):=by
 cases vx<;>first | exact hx.elim | exact ⟨rfl,rfl⟩
section
variable {T:Tab} {P:Program} {B0 nx0:Nat} {w:World} {ρ:Rho} {h:Hp}
theorem eqGuard_plain (op:BinOp) (t:TypeId) (x y:Operand) (a b:Value) (h1:¬ (a = .nilIface∧b = .nilIface)) (h2:∀ xs,a ≠ .agg xs):(eqGuard op t x y a b).run P w = .ok () w:=by
 unfold eqGuard
 cases op<;>simp
 all_goals
  cases a<;>first
   | exact absurd rfl (h2 _)
   | (cases b<;>first | exact absurd ⟨rfl,rfl⟩ h1 | rfl)
   | rfl
theorem intOp_sound (op:BinOp) (t:TypeId) (k k':IntKind) (a b:Int) (hk:k=k'∨op = .shl∨op = .shr) {r:AV} (hs:intOpA op k a b=some r) :
  ∃ v,(binOp op t (.int k a) (.int k' b)).run P w = .ok v w∧Rel w (ownOf ρ h) ρ r v:=by
 cases op<;>simp [intOpA] at hs
 case add=>subst hs; obtain rfl:k=k':=by simpa using hk
           exact ⟨_,by simp [binOp,Op.intArith],.lit _ _ _ rfl⟩
 case sub=>subst hs; obtain rfl:k=k':=by simpa using hk
           exact ⟨_,by simp [binOp,Op.intArith],.lit _ _ _ rfl⟩
 case mul=>subst hs; obtain rfl:k=k':=by simpa using hk
           exact ⟨_,by simp [binOp,Op.intArith],.lit _ _ _ rfl⟩
 case quo=>obtain ⟨hb,rfl⟩:=hs; obtain rfl:k=k':=by simpa using hk
           exact ⟨_,by simp [binOp,Op.intDiv,hb],.lit _ _ _ rfl⟩
 case rem=>obtain ⟨hb,rfl⟩:=hs; obtain rfl:k=k':=by simpa using hk
           exact ⟨_,by simp [binOp,Op.intDiv,hb],.lit _ _ _ rfl⟩
 case and=>subst hs; obtain rfl:k=k':=by simpa using hk
           exact ⟨_,by simp [binOp,Op.intBits],.lit _ _ _ rfl⟩
 case or=>subst hs; obtain rfl:k=k':=by simpa using hk
          exact ⟨_,by simp [binOp,Op.intBits],.lit _ _ _ rfl⟩
 case xor=>subst hs; obtain rfl:k=k':=by simpa using hk
           exact ⟨_,by simp [binOp,Op.intBits],.lit _ _ _ rfl⟩
 case andNot=>subst hs; obtain rfl:k=k':=by simpa using hk
              exact ⟨_,by simp [binOp,Op.intBits],.lit _ _ _ rfl⟩
 case shl=>obtain ⟨hb,rfl⟩:=hs
           exact ⟨_,by simp [binOp,Op.shift]; intro hc; omega,.lit _ _ _ rfl⟩
 case shr=>obtain ⟨hb,rfl⟩:=hs
           exact ⟨_,by simp [binOp,Op.shift]; intro hc; omega,.lit _ _ _ rfl⟩
 all_goals
  subst hs; obtain rfl:k=k':=by simpa using hk
  exact ⟨_,by simp [binOp,Op.intCmp],.lit _ _ _ rfl⟩
theorem strOp_sound (op:BinOp) (t:TypeId) (a b:ByteArray) {r:AV} (hs:strOpA op a b=some r) :
  ∃ v,(binOp op t (.string a) (.string b)).run P w = .ok v w∧Rel w (ownOf ρ h) ρ r v:=by
 cases op<;>simp only [strOpA,Option.some.injEq,reduceCtorEq] at hs
 case add =>
  split at hs
  case isFalse=>cases hs
  rename_i hb
  obtain rfl:=(Option.some.injEq _ _).mp hs
  have:¬ ((((a.size+b.size:Nat):Int)) > IntKind.i64.max):=by
   have:IntKind.i64.max=9223372036854775807:=by decide
   omega
  exact ⟨_,by simp only [binOp,Op.stringOp,this,if_false]; rfl,.lit _ _ _ rfl⟩
 all_goals
  subst hs
  exact ⟨_,by simp only [binOp,Op.stringOp]; rfl,.lit _ _ _ rfl⟩
theorem binA_sound (hT:T.Of P) {op:BinOp} {t:TypeId} {x y r:AV} {ox oy:Operand} {vx vy:Value} (hx:Rel w (ownOf ρ h) ρ x vx) (hy:Rel w (ownOf ρ h) ρ y vy) (hs:binA T op t x y=some r) :
  ∃ v,((do eqGuard op t ox oy vx vy; binOp op t vx vy:Sem Value)).run P w = .ok v w∧Rel w (ownOf ρ h) ρ r v:=by
 unfold binA at hs
 split at hs
 ·rename_i k a k' b
  split at hs
  case isFalse=>cases hs
  rename_i hk
  rw [hx.int_inv,hy.int_inv]
  obtain ⟨v,hv,hr⟩:=intOp_sound (P:=P) (w:=w) (ρ:=ρ) (h:=h) op t k k' a b hk hs
  exact ⟨v,by simp only [Sem.run_bind,eqGuard_plain (P:=P) op t ox oy (.int k a) (.int k' b) (by simp) (by simp),Result.andThen_ok,hv],hr⟩
 ·rename_i a b
  rw [hx.str_inv,hy.str_inv]
  obtain ⟨v,hv,hr⟩:=strOp_sound (P:=P) (w:=w) (ρ:=ρ) (h:=h) op t a b hs
  exact ⟨v,by simp only [Sem.run_bind,eqGuard_plain (P:=P) op t ox oy (.string a) (.string b) (by simp) (by simp),Result.andThen_ok,hv],hr⟩
 ·rename_i hni hns
  have key:∀ c,eqTop T t x y=some c→(Op.equal t vx vy).run P w = .ok c w∧(eqGuard op t ox oy vx vy).run P w = .ok () w ∧
    plainV vx:=by
   intro c hc
   unfold eqTop at hc
   have hnI:x ≠ .nili:=by
    rintro rfl
    exact (eqA_succ_eq (d:=9999) hc).2.2.1 rfl
   by_cases hag:∃ a,x = .agg a
   ·obtain ⟨a,rfl⟩:=hag
    simp only at hc
    cases hg:T.ty.get t with
    | none=>simp [hg] at hc
    | some e =>
      simp only [hg] at hc
      split at hc
      ·cases hc
      ·rename_i he
       have hv:=eqA_sound hT 10000 t _ _ _ _ _ hx hy hc
       obtain ⟨va,rfl,_⟩:=hx.agg_inv
       have hyv:∃ vb,vy = .agg vb:=by
        have hya:∃ b,y = .agg b:=(eqA_succ_eq (d:=9999) hc).2.2.2.2.2 _ rfl
        obtain ⟨b,rfl⟩:=hya
        obtain ⟨vb,rfl,_⟩:=hy.agg_inv
        exact ⟨_,rfl⟩
       obtain ⟨vb,rfl⟩:=hyv
       refine ⟨by simpa [Op.equal,Op.maxDepth] using hv,?_,trivial⟩
       exact run_eqGuard_agg w op t ox oy _ _ (hT.eqg t e hg (by simpa using he))
   ·have hc':eqA T 10000 t x y=some c:=by
     cases x<;>first | exact hc | exact absurd ⟨_,rfl⟩ hag
    have hv:=eqA_sound hT 10000 t _ _ _ _ _ hx hy hc'
    have hshape:plainV vx∧(∀ xs,vx ≠ .agg xs)∧¬ (vx = .nilIface∧vy = .nilIface):=by
     have hq:=eqA_succ_eq (d:=9999) hc'
     have hnosc:(∀ k a,x ≠ .int k a)∧(∀ s,x ≠ .str s):=by
      constructor
      ·rintro k a rfl
       obtain ⟨k',b,rfl⟩:=hq.1 _ _ rfl
       exact hni _ _ _ _ rfl rfl
      ·rintro s rfl
       obtain ⟨s',rfl⟩:=hq.2.1 _ rfl
       exact hns _ _ rfl rfl
     cases x with
     | junk=>exact absurd rfl hq.2.2.2.1
     | bool b=>have e:=hx.bool_inv; subst e; exact ⟨trivial,by simp,by simp⟩
     | int k n=>exact absurd rfl (hnosc.1 _ _)
     | str s=>exact absurd rfl (hnosc.2 _)
     | agg cs=>exact absurd ⟨_,rfl⟩ hag
     | tuple vs=>obtain ⟨_,rfl,_⟩:=hx.tuple_inv; exact ⟨trivial,by simp,by simp⟩
     | nilp=>have e:=hx.nilp_inv; subst e; exact ⟨trivial,by simp,by simp⟩
     | ptr b i o=>obtain ⟨_,rfl,_⟩:=hx.ptr_inv; exact ⟨trivial,by simp,by simp⟩
     | ref cs=>obtain ⟨_,_,rfl,_⟩:=hx.ref_inv; exact ⟨trivial,by simp,by simp⟩
     | it b=>obtain ⟨_,rfl,_⟩:=hx.it_inv; exact ⟨trivial,by simp,by simp⟩
     | nils=>have e:=hx.nils_inv; subst e; exact ⟨trivial,by simp,by simp⟩
     | sl k rows=>obtain ⟨_,_,_,rfl,_⟩:=hx.sl_inv; exact ⟨trivial,by simp,by simp⟩
     | ms b off len=>obtain ⟨_,_,_,rfl,_⟩:=hx.ms_inv; exact ⟨trivial,by simp,by simp⟩
     | nilm=>have e:=hx.nilm_inv; subst e; exact ⟨trivial,by simp,by simp⟩
     | mp b=>obtain ⟨_,rfl,_⟩:=hx.mp_inv; exact ⟨trivial,by simp,by simp⟩
     | im es=>obtain ⟨_,_,_,rfl,_⟩:=hx.im_inv; exact ⟨trivial,by simp,by simp⟩
     | func fn a b=>obtain ⟨_,_,rfl,_⟩:=hx.func_inv; exact ⟨trivial,by simp,by simp⟩
     | yld l=>obtain ⟨_,rfl,_⟩:=hx.yld_inv; exact ⟨trivial,by simp,by simp⟩
     | nilf=>have e:=hx.nilf_inv; subst e; exact ⟨trivial,by simp,by simp⟩
     | nili=>exact absurd rfl hnI
     | iface t' v=>exact absurd rfl (hq.2.2.2.2.1 _ _)
     | sym s e=>cases hx with | lit _ _ _ h=>simp [AV.lit] at h
    exact ⟨by simpa [Op.equal,Op.maxDepth] using hv,eqGuard_plain op t ox oy vx vy hshape.2.2 hshape.2.1,hshape.1⟩
  cases op<;>simp only [Option.map_eq_some_iff] at hs<;>try (cases hs; done)
  ·obtain ⟨c,hc,rfl⟩:=hs
   obtain ⟨h1,h2,h3⟩:=key c hc
   refine ⟨.bool c,?_,.lit _ _ _ rfl⟩
   rw [(binOp_eql t vx vy h3).1]
   simp only [Sem.run_bind,h2,Result.andThen_ok,h1,Sem.run_pure]
  ·obtain ⟨c,hc,rfl⟩:=hs
   obtain ⟨h1,h2,h3⟩:=key c hc
   refine ⟨.bool (!c),?_,.lit _ _ _ rfl⟩
   rw [(binOp_eql t vx vy h3).2]
   simp only [Sem.run_bind,h2,Result.andThen_ok,h1,Sem.run_pure]
theorem unA_sound {op:UnOp} {x r:AV} {vx:Value} (hx:Rel w (ownOf ρ h) ρ x vx) (hs:unA op x=some r):∃ v,(Op.unary op vx).run P w = .ok v w∧Rel w (ownOf ρ h) ρ r v:=by
 unfold unA at hs
 split at hs
 ·simp at hs; subst hs; rw [hx.int_inv]; exact ⟨_,by simp [Op.unary,Op.intArith],.lit _ _ _ rfl⟩
 ·simp at hs; subst hs; rw [hx.bool_inv]; exact ⟨_,by simp [Op.unary],.lit _ _ _ rfl⟩
 ·cases hs
theorem convA_sound (hT:T.Of P) {s d:TypeId} {x r:AV} {vx:Value} (hx:Rel w (ownOf ρ h) ρ x vx) (hs:convA T s d x=some r):∃ v,(convert s d vx).run P w = .ok v w∧Rel w (ownOf ρ h) ρ r v:=by
 unfold convA at hs
 split at hs
 ·rename_i D k k' n h1 h2
  simp at hs; subst hs
  rw [hx.int_inv]
  exact ⟨_,by simp [convert,run_underlying (underT hT h1),run_underlying (underT hT h2),Conv.intToInt],.lit _ _ _ rfl⟩
 ·rename_i D s' h1 h2
  simp at hs; subst hs
  rw [hx.str_inv]
  refine ⟨.string s',?_,.lit _ _ _ rfl⟩
  simp only [convert,Sem.run_bind,run_underlying (underT hT h1),run_underlying (underT hT h2),Result.andThen_ok]
  cases D<;>rfl
 ·cases hs
end
end Go.Proofs.YtdjngcfnlfgjkaaGreatDoor.AM

namespace Go.Proofs.YtdjngcfnlfgjkaaGreatDoor.AM
open Go.RowKit
variable [Glob]
section
variable {T:Tab} {P:Program} {B0 nx0:Nat} {w:World} {ρ:Rho} {h:Hp}
theorem ba_beq {a b:ByteArray} (h:(a == b)=true):a=b:=by
 have h':(a.data == b.data)=true:=h
 have:=eq_of_beq h'
 cases a; cases b; simp_all
theorem ba_refl (a:ByteArray):(a == a)=true:=by
 show (a.data == a.data)=true
 simp
def Obj.plain:Obj→Bool
 | .cells ..=>false
 | _=>true
theorem get_obj {P:Program} {w:World} {r:Nat} {o:Obj} (hb:w.heap[r]? = some o) (ho:Obj.plain o=true):(getObj r).run P w = .ok o w:=by
 cases o<;>first | (simp [Obj.plain] at ho; done) | simp [getObj,Sem.run,hb]
theorem set_obj {P:Program} {w:World} {r:Nat} {o:Obj} (o':Obj) (hb:w.heap[r]? = some o) (ho:Obj.plain o=true):(setObj r o').run P w = .ok () (World.putObj w r o'):=by
 cases o<;>first | (simp [Obj.plain] at ho; done) | simp [setObj,Sem.run,hb,World.putObj]
theorem keyOk_kind {t:TypeId} {k:AV} (hk:keyOk T t k=true):∃ D,T.underlying t=some D ∧
  ((∃ j n i,k = .int j n∧D = .int i)∨(∃ s,k = .str s∧D = .string)∨(∃ b,k = .bool b∧D = .bool)):=by
 cases k<;>simp [keyOk] at hk
 ·cases hu:T.underlying t with
  | none=>simp [hu] at hk
  | some D=>cases D<;>simp [hu] at hk; exact ⟨_,rfl,.inr (.inr ⟨_,rfl,rfl⟩)⟩
 ·cases hu:T.underlying t with
  | none=>simp [hu] at hk
  | some D=>cases D<;>simp [hu] at hk; exact ⟨_,rfl,.inl ⟨_,_,_,rfl,rfl⟩⟩
 ·cases hu:T.underlying t with
  | none=>simp [hu] at hk
  | some D=>cases D<;>simp [hu] at hk; exact ⟨_,rfl,.inr (.inl ⟨_,rfl,rfl⟩)⟩
theorem checkKey_ok (hT:T.Of P) {t:TypeId} {k:AV} {vk:Value} (hk:keyOk T t k=true) (hr:Rel w (ownOf ρ h) ρ k vk) (e:Bool) (n:Nat):(Instr.checkKey e (n+1) t vk).run P w = .ok () w:=by
 obtain ⟨D,hu,hc⟩:=keyOk_kind hk
 have hu':=underT hT hu
 rcases hc with ⟨j,m,i,rfl,rfl⟩ | ⟨s,rfl,rfl⟩ | ⟨b,rfl,rfl⟩
 ·rw [hr.int_inv]; simp [Instr.checkKey,run_underlying hu']
 ·rw [hr.str_inv]; simp [Instr.checkKey,run_underlying hu']
 ·rw [hr.bool_inv]; simp [Instr.checkKey,run_underlying hu']
theorem sameNow_of {t:TypeId} {D:TypeDesc} {k a:AV} {vk va:Value} {own own':Nat→Prop} {ρ':Rho} (hu:T.underlying t=some D) (hk:keyOk T t k=true) (hr:Rel w own ρ k vk) (ha:Rel w own' ρ' a va) {b:Bool} (he:keyEq k a=some b) :
  Instr.sameNow D vk va=some b∧(b=true→Instr.sameBits 10000 va vk=true):=by
 obtain ⟨D',hu',hc⟩:=keyOk_kind hk
 rw [hu] at hu'
 obtain rfl:=(Option.some.injEq _ _).mp hu'
 rcases hc with ⟨j,m,i,rfl,rfl⟩ | ⟨s,rfl,rfl⟩ | ⟨b',rfl,rfl⟩
 ·cases a<;>simp [keyEq] at he
  obtain ⟨rfl,rfl⟩:=he
  rw [hr.int_inv,ha.int_inv]
  refine ⟨by simp [Instr.sameNow],fun hb=>?_⟩
  simp at hb; subst hb
  unfold Instr.sameBits; simp
 ·cases a<;>simp [keyEq] at he
  subst he
  rw [hr.str_inv,ha.str_inv]
  refine ⟨by simp [Instr.sameNow],fun hb=>?_⟩
  have hb:=ba_beq hb; subst hb
  unfold Instr.sameBits; exact ba_refl _
 ·cases a<;>simp [keyEq] at he
  subst he
  rw [hr.bool_inv,ha.bool_inv]
  refine ⟨by simp [Instr.sameNow],fun hb=>?_⟩
  simp at hb; subst hb
  unfold Instr.sameBits; simp
theorem findA_sound {t:TypeId} {D:TypeDesc} {k:AV} {vk:Value} {own own':Nat→Prop} {ρ':Rho} (hu:T.underlying t=some D) (hk:keyOk T t k=true) (hr:Rel w own ρ k vk) :
  ∀ (es:List (AV × AV)) (ents:List MapEntry) (i:Nat) (r:Option AV),Rels w own' ρ' (es.map (·.1)) (ents.map (·.key))→Rels w own' ρ' (es.map (·.2)) (ents.map (·.val))→findA k es=some r →
    match r with
    | none=>Instr.findNow D vk ents i=some none
    | some v=>∃ j u,Instr.findNow D vk ents i=some (some (j,u))∧Rel w own' ρ' v u
 | [],ents,i,r,h1,h2,hf=>by
   cases ents with
   | nil=>simp [findA] at hf; subst hf; rfl
   | cons _ _=>cases h1
 | (a,x)::es,ents,i,r,h1,h2,hf=>by
   cases ents with
   | nil=>cases h1
   | cons e ents =>
     cases h1 with
     | cons _ _ _ _ _ ha h1 =>
     cases h2 with
     | cons _ _ _ _ _ hx h2 =>
     simp only [findA] at hf
     cases hq:keyEq k a with
     | none=>simp [hq] at hf
     | some b =>
       have hs:=(sameNow_of hu hk hr ha hq).1
       cases b with
       | true =>
         simp [hq] at hf; subst hf
         exact ⟨i,e.val,by simp [Instr.findNow,hs],hx⟩
       | false =>
         simp [hq] at hf
         have:=findA_sound hu hk hr es ents (i+1) r h1 h2 hf
         cases r with
         | none=>simp only [Instr.findNow,hs]; exact this
         | some v=>obtain ⟨j,u,h3,h4⟩:=this; exact ⟨j,u,by simp only [Instr.findNow,hs]; exact h3,h4⟩
theorem mapA_spec (H:HR B0 nx0 w ρ h) {m:AV} {vm:Value} (hm:Rel w (ownOf ρ h) ρ m vm) {es:List (AV × AV)} (hs:mapA h m=some es) :
  (vm = .map none∧es=[])∨∃ r ents clock,vm = .map (some r)∧w.heap[r]? = some (.map ents clock)∧Rels w (ownOf ρ h) ρ (es.map (·.1)) (ents.toList.map (·.key))∧Rels w (ownOf ρ h) ρ (es.map (·.2)) (ents.toList.map (·.val)):=by
 cases m<;>simp [mapA] at hs
 ·exact .inl ⟨hm.nilm_inv,hs⟩
 ·rename_i b
  obtain ⟨x,rfl,hx⟩:=hm.mp_inv
  cases hg:h.get b with
  | none=>simp [hg] at hs
  | some B =>
    cases B<;>simp [hg] at hs
    subst hs
    obtain ⟨ents,clock,h1,h2,h3⟩:=H.blk b _ x hg hx
    exact .inr ⟨_,ents,clock,rfl,h1,h2,h3⟩
 ·subst hs
  obtain ⟨b,ents,clock,rfl,h1,_,h2,h3⟩:=hm.im_inv
  exact .inr ⟨b,ents,clock,rfl,h1,h2.mono (Stable.refl _ _) (noRho_le _),h3.mono (Stable.refl _ _) (noRho_le _)⟩
theorem lookupA_sound (hT:T.Of P) (H:HR B0 nx0 w ρ h) {t:TypeId} {m k r:AV} {vm vk:Value} {ok:Bool} (hm:Rel w (ownOf ρ h) ρ m vm) (hk:Rel w (ownOf ρ h) ρ k vk) (hs:lookupA T h t m k ok=some r) :
  ∃ v,(Instr.lookup t vm vk ok).run P w = .ok v w∧Rel w (ownOf ρ h) ρ r v:=by
 unfold lookupA at hs
 split at hs
 case h_2=>cases hs
 rename_i kt et hu
 split at hs
 case isFalse=>cases hs
 rename_i hko
 split at hs
 case h_2=>cases hs
 rename_i es z hes hz
 obtain ⟨i,zv,h1,h2,h3⟩:=zeroT_spec hT hz
 have hzr:Rel w (ownOf ρ h) ρ z zv:=ofZero_rel h3
 have hzero:(zeroValue et).run P w = .ok zv w:=by simp [zeroValue,typeInfo,h1,h2]
 obtain ⟨D,huk,_⟩:=keyOk_kind hko
 have hu':=underT hT hu
 have huk':=underT hT huk
 have key:∀ (ents:Array MapEntry),Rels w (ownOf ρ h) ρ (es.map (·.1)) (ents.toList.map (·.key))→Rels w (ownOf ρ h) ρ (es.map (·.2)) (ents.toList.map (·.val)) →
   ∃ v,((do
     Instr.checkKey ents.isEmpty 10000 kt vk
     let (v,b) ← match ← Instr.findKey kt vk ents.toList with
      | some (_,v)=>pure (v,true)
      | none=>pure (← zeroValue et,false)
     pure (if ok then .tuple #[v,.bool b] else v):Sem Value)).run P w = .ok v w∧Rel w (ownOf ρ h) ρ r v:=by
  intro ents hk1 hk2
  have hck:=checkKey_ok (P:=P) hT hko hk ents.isEmpty 9999
  cases hf:findA k es with
  | none=>simp [hf] at hs
  | some q =>
    have hfn:=findA_sound huk hko hk es ents.toList 0 q hk1 hk2 hf
    have hout:∀ (u:Value) (a:AV) (b:Bool),Rel w (ownOf ρ h) ρ a u→Rel w (ownOf ρ h) ρ (if ok then .tuple [a,.bool b] else a) (if ok then .tuple #[u,.bool b] else u):=by
     intro u a b hau
     cases ok
     ·simpa using hau
     ·exact .tuple _ [a,.bool b] [u,.bool b] (.cons _ _ _ _ _ hau (.cons _ _ _ _ _ (.lit _ _ _ rfl) (.nil _)))
    cases q with
    | none =>
      simp [hf] at hs
      subst hs
      refine ⟨if ok then .tuple #[zv,.bool false] else zv,?_,by simpa using hout zv z false hzr⟩
      simp only [Sem.run_bind,hck,Result.andThen_ok,Instr.findKey,run_underlying huk',hfn,Sem.run_pure,hzero]
    | some v =>
      obtain ⟨j,u,h4,h5⟩:=hfn
      simp [hf] at hs
      subst hs
      refine ⟨if ok then .tuple #[u,.bool true] else u,?_,by simpa using hout u v true h5⟩
      simp only [Sem.run_bind,hck,Result.andThen_ok,Instr.findKey,run_underlying huk',h4,Sem.run_pure]
 rcases mapA_spec H hm hes with ⟨rfl,rfl⟩ | ⟨rr,ents,clock,rfl,h4,h5,h6⟩
 ·obtain ⟨v,h7,h8⟩:=key #[] (.nil _) (.nil _)
  refine ⟨v,?_,h8⟩
  simp only [Instr.lookup,Sem.run_bind,run_underlying hu',Result.andThen_ok,Sem.run_pure] at h7 ⊢
  exact h7
 ·obtain ⟨v,h7,h8⟩:=key ents h5 h6
  refine ⟨v,?_,h8⟩
  simp only [Instr.lookup,Sem.run_bind,run_underlying hu',Result.andThen_ok,Sem.run_pure,get_obj h4 rfl] at h7 ⊢
  exact h7
theorem updA_sound {t:TypeId} {D:TypeDesc} {k v:AV} {vk vv:Value} {own:Nat→Prop} (hu:T.underlying t=some D) (hk:keyOk T t k=true) (hr:Rel w own ρ k vk) (hv:Rel w own ρ v vv) :
  ∀ (es es':List (AV × AV)) (ents:List MapEntry) (i:Nat),Rels w own ρ (es.map (·.1)) (ents.map (·.key))→Rels w own ρ (es.map (·.2)) (ents.map (·.val))→updA k v es=some es' →
    (Instr.findNow D vk ents i=some none∧es'=es++[(k,v)]) ∨
    ∃ j u,Instr.findNow D vk ents i=some (some (i+j,u))∧(∃ e,ents[j]? = some e∧Instr.sameBits 10000 e.key vk=true) ∧
      Rels w own ρ (es'.map (·.1)) ((ents.modify j fun e=>{ e with key:=vk,val:=vv }).map (·.key))∧Rels w own ρ (es'.map (·.2)) ((ents.modify j fun e=>{ e with key:=vk,val:=vv }).map (·.val))
 | [],es',ents,i,h1,h2,hf=>by
   cases ents with
   | nil=>simp [updA] at hf; subst hf; exact .inl ⟨rfl,rfl⟩
   | cons _ _=>cases h1
 | (a,x)::es,es',ents,i,h1,h2,hf=>by
   cases ents with
   | nil=>cases h1
   | cons e ents =>
     cases h1 with
     | cons _ _ _ _ _ ha h1 =>
     cases h2 with
     | cons _ _ _ _ _ hx h2 =>
     simp only [updA] at hf
     cases hq:keyEq k a with
     | none=>simp [hq] at hf
     | some b =>
       have hs:=sameNow_of hu hk hr ha hq
       cases b with
       | true =>
         simp [hq] at hf; subst hf
         exact .inr ⟨0,e.val,by simp [Instr.findNow,hs.1],⟨e,rfl,hs.2 rfl⟩,.cons _ _ _ _ _ hr h1,.cons _ _ _ _ _ hv h2⟩
       | false =>
         simp only [hq,Option.map_eq_some_iff] at hf
         obtain ⟨es'',hf,rfl⟩:=hf
         rcases updA_sound hu hk hr hv es es'' ents (i+1) h1 h2 hf with ⟨h3,rfl⟩ | ⟨j,u,h3,h4,h5,h6⟩
         ·exact .inl ⟨by simp only [Instr.findNow,hs.1]; exact h3,rfl⟩
         ·refine .inr ⟨j+1,u,?_,by simpa using h4,.cons _ _ _ _ _ ha h5,.cons _ _ _ _ _ hx h6⟩
          simp only [Instr.findNow,hs.1]
          rw [h3]; congr 3; omega
theorem mxs_updA {k v:AV}:∀ {es es':List (AV × AV)},updA k v es=some es'→mxs (es'.map (·.1))≤max (mxs (es.map (·.1))) k.mx∧mxs (es'.map (·.2))≤max (mxs (es.map (·.2))) v.mx
 | [],es',hf=>by simp [updA] at hf; subst hf; simp [mxs]
 | (a,x)::es,es',hf=>by
   simp only [updA] at hf
   cases hq:keyEq k a with
   | none=>simp [hq] at hf
   | some b =>
     cases b with
     | true=>simp [hq] at hf; subst hf; simp [mxs]; omega
     | false =>
       simp only [hq,Option.map_eq_some_iff] at hf
       obtain ⟨es'',hf,rfl⟩:=hf
       have:=mxs_updA hf
       simp [mxs]; omega
theorem mapUpdA_sound (hT:T.Of P) (H:HR B0 nx0 w ρ h) {t:TypeId} {m k v:AV} {vm vk vv:Value} {h':Hp} (hm:Rel w (ownOf ρ h) ρ m vm) (hk:Rel w (ownOf ρ h) ρ k vk) (hv:Rel w (ownOf ρ h) ρ v vv) (hs:mapUpdA T h t m k v=some h') :
  ∃ w',(Instr.mapUpdate t vm vk vv).run P w = .ok () w'∧HR B0 nx0 w' ρ h'∧Ext w ρ h w' ρ h':=by
 unfold mapUpdA at hs
 split at hs
 case h_2=>cases hs
 rename_i kt et b hu
 split at hs
 case isFalse=>cases hs
 rename_i hko
 split at hs
 case h_2=>cases hs
 rename_i es hg
 simp only [Option.map_eq_some_iff] at hs
 obtain ⟨es',hup,rfl⟩:=hs
 obtain ⟨x,rfl,hx⟩:=hm.mp_inv
 obtain ⟨ents,clock,h1,h2,h3⟩:=H.blk b _ x hg hx
 obtain ⟨D,huk,hkc⟩:=keyOk_kind hko
 have hu':=underT hT hu
 have huk':=underT hT huk
 have hck:=checkKey_ok (P:=P) hT hko hk false 9999
 have hkm:k.mx=0:=by rcases hkc with ⟨_,_,_,rfl,_⟩ | ⟨_,rfl,_⟩ | ⟨_,rfl,_⟩<;>rfl
 have hmx:=mxs_updA hup
 have hlt:=heap_lt h1
 have turn:∀ (ents':Array MapEntry) (clock':Nat),Rels w (ownOf ρ h) ρ (es'.map (·.1)) (ents'.toList.map (·.key))→Rels w (ownOf ρ h) ρ (es'.map (·.2)) (ents'.toList.map (·.val)) →
   HR B0 nx0 (World.putObj w x.c (.map ents' clock')) ρ ((h.set b (.map es')).leak b v.mx)∧Ext w ρ h (World.putObj w x.c (.map ents' clock')) ρ ((h.set b (.map es')).leak b v.mx):=by
  intro ents' clock' h4 h5
  refine H.turn hg rfl hx (.map es') rfl v.mx ?_ (hv.mx_le H.dom) _ (by simp [World.putObj]) (fun c hc=>?_) rfl rfl rfl ?_
  ·show max _ _≤max (max _ _) _
   rw [hkm] at hmx; omega
  ·simp [World.putObj,Array.getElem?_setIfInBounds,Ne.symm hc]
  ·intro own hst
   exact ⟨ents',clock',by simp [World.putObj,hlt],h4.mono hst (Rho.le_refl _),h5.mono hst (Rho.le_refl _)⟩
 rcases updA_sound huk hko hk hv es es' ents.toList 0 h2 h3 hup with ⟨h4,rfl⟩ | ⟨j,u,h4,⟨e,h5,h6⟩,h7,h8⟩
 ·refine ⟨World.putObj w x.c (.map (ents.push { key:=vk,val:=vv,born:=clock }) (clock+1)),?_,turn _ _ ?_ ?_⟩
  ·simp only [Instr.mapUpdate,Sem.run_bind,run_underlying hu',Result.andThen_ok,get_obj h1 rfl,hck,Instr.findKey,run_underlying huk',h4,Sem.run_pure,set_obj _ h1 rfl]
  ·simpa using h2.append (.cons _ _ _ _ _ hk (.nil _))
  ·simpa using h3.append (.cons _ _ _ _ _ hv (.nil _))
 ·refine ⟨World.putObj w x.c (.map (ents.modify j fun e=>{ e with key:=vk,val:=vv }) clock),?_,turn _ _ (by rw [Array.toList_modify]; exact h7) (by rw [Array.toList_modify]; exact h8)⟩
  have h5':ents[j]? = some e:=by simpa using h5
  simp only [Instr.mapUpdate,Sem.run_bind,run_underlying hu',Result.andThen_ok,get_obj h1 rfl,hck,Instr.findKey,run_underlying huk',h4,Sem.run_pure,set_obj _ h1 rfl,Nat.zero_add,h5',Option.map_some,Option.getD_some,Instr.keyThatStays,h6,if_true]
theorem rangeA_sound (hT:T.Of P) (H:HR B0 nx0 w ρ h) {t:TypeId} {x r:AV} {vx:Value} {h':Hp} (hx:Rel w (ownOf ρ h) ρ x vx) (hs:rangeA T h t x=some (r,h')) :
  ∃ v w' ρ',(Instr.range t vx).run P w = .ok v w'∧HR B0 nx0 w' ρ' h'∧Ext w ρ h w' ρ' h'∧Rel w' (ownOf ρ' h') ρ' r v:=by
 unfold rangeA at hs
 split at hs
 case h_2=>cases hs
 rename_i s hu
 simp at hs; obtain ⟨rfl,rfl⟩:=hs
 rw [hx.str_inv]
 obtain ⟨h1,h2⟩:=H.push (.stringIter s 0) (.siter s 0) ⟨w.heap.size,0,0,0⟩ (w.alloc (.stringIter s 0)) rfl rfl (Nat.zero_le _) (fun own ρ' hst hle=>by
  show (w.heap.push _)[w.heap.size]? = _; simp)
 refine ⟨.pointer (some ⟨w.heap.size,0,none⟩),_,_,?_,h1,h2,?_⟩
 ·simp [Instr.range,run_underlying (underT hT hu)]
 ·exact .it _ _ ⟨w.heap.size,0,0,0⟩ (by simp [Rho.set])
theorem nextA_sound (H:HR B0 nx0 w ρ h) {x r:AV} {vx:Value} {isS:Bool} {h':Hp} (t:TypeId) (hx:Rel w (ownOf ρ h) ρ x vx) (hs:nextA h x isS=some (r,h')) :
  ∃ v w' ρ',(Instr.next vx isS t).run P w = .ok v w'∧HR B0 nx0 w' ρ' h'∧Ext w ρ h w' ρ' h'∧Rel w' (ownOf ρ' h') ρ' r v:=by
 unfold nextA at hs
 split at hs
 case h_2=>cases hs
 rename_i b
 split at hs
 case h_2=>cases hs
 rename_i s pos hg
 obtain ⟨y,rfl,hy⟩:=hx.it_inv
 have h1:w.heap[y.c]? = some (.stringIter s pos):=H.blk b _ y hg hy
 split at hs
 ·rename_i hp
  simp at hs; obtain ⟨rfl,rfl⟩:=hs
  obtain ⟨h2,h3⟩:=H.turn hg rfl hy (.siter s (pos+(Utf8.decode s pos).2)) rfl 0 (by simp [Blk.mx]) (Nat.zero_le _) (World.putObj w y.c (.stringIter s (pos+(Utf8.decode s pos).2))) (by simp [World.putObj])
   (fun c hc=>by simp [World.putObj,Array.getElem?_setIfInBounds,Ne.symm hc]) rfl rfl rfl (fun own hst=>by
    show (World.putObj w _ _).heap[y.c]? = _
    simp [World.putObj,heap_lt h1])
  have e:((h.set b (.siter s (pos+(Utf8.decode s pos).2))).leak b 0)=h.set b (.siter s (pos+(Utf8.decode s pos).2)):=by simp [Hp.leak]
  rw [e] at h2 h3
  refine ⟨.tuple #[.bool true,goInt pos,.int .i32 (Utf8.decode s pos).1],_,ρ,?_,h2,h3,?_⟩
  ·simp [Instr.next,get_obj h1 rfl,hp,set_obj _ h1 rfl]
  ·exact .tuple _ [_,_,_] [_,_,_] (.cons _ _ _ _ _ (.lit _ _ _ rfl) (.cons _ _ _ _ _ (.lit _ _ _ rfl) (.cons _ _ _ _ _ (.lit _ _ _ rfl) (.nil _))))
 ·rename_i hp
  simp at hs; obtain ⟨rfl,rfl⟩:=hs
  refine ⟨.tuple #[.bool false],w,ρ,?_,H,Ext.refl _ _ _,?_⟩
  ·simp [Instr.next,get_obj h1 rfl,hp]
  ·exact .tuple _ [_] [_] (.cons _ _ _ _ _ (.lit _ _ _ rfl) (.nil _))
theorem makeMap_sound (H:HR B0 nx0 w ρ h) (t:TypeId) :
  ∃ v w' ρ',(Instr.makeMap t none).run P w = .ok v w'∧HR B0 nx0 w' ρ' (h.push (.map []))∧Ext w ρ h w' ρ' (h.push (.map []))∧Rel w' (ownOf ρ' (h.push (.map []))) ρ' (.mp h.nx) v:=by
 obtain ⟨h1,h2⟩:=H.push (.map #[] 0) (.map []) ⟨w.heap.size,0,0,0⟩ (w.alloc (.map #[] 0)) rfl rfl (by simp [Blk.mx,mxs]) (fun own ρ' hst hle=>by
  exact ⟨#[],0,by show (w.heap.push _)[w.heap.size]? = _; simp,.nil _,.nil _⟩)
 exact ⟨.map (some w.heap.size),_,_,by simp [Instr.makeMap],h1,h2,.mp _ _ ⟨w.heap.size,0,0,0⟩ (by simp [Rho.set])⟩
theorem lenA_sound (hT:T.Of P) (H:HR B0 nx0 w ρ h) {ts:Array TypeId} {ty t:TypeId} {x r:AV} {vx:Value} (hts:ts.toList.head? = some t) (hx:Rel w (ownOf ρ h) ρ x vx) (hs:lenA T h t x=some r) :
  ∃ v,(Builtin.len_ ts ty #[vx]).run P w = .ok v w∧Rel w (ownOf ρ h) ρ r v:=by
 have ht:ts[0]? = some t:=by
  cases ts with | mk l=>cases l<;>simp at hts ⊢; exact hts
 unfold lenA at hs
 split at hs
 ·rename_i s hu
  simp at hs; subst hs
  rw [hx.str_inv]
  exact ⟨_,by simp [Builtin.len_,ht,run_underlying (underT hT hu)]; rfl,.lit _ _ _ rfl⟩
 ·rename_i n e cs hu
  simp at hs; subst hs
  exact ⟨_,by simp [Builtin.len_,ht,run_underlying (underT hT hu)]; rfl,.lit _ _ _ rfl⟩
 ·rename_i e hu
  simp at hs; subst hs
  rw [hx.nils_inv]
  exact ⟨_,by simp [Builtin.len_,ht,run_underlying (underT hT hu)]; rfl,.lit _ _ _ rfl⟩
 ·rename_i e b off n hu
  simp at hs; subst hs
  obtain ⟨y,a,cap,rfl,_⟩:=hx.ms_inv
  exact ⟨_,by simp [Builtin.len_,ht,run_underlying (underT hT hu)]; rfl,.lit _ _ _ rfl⟩
 ·rename_i e k rows hu
  simp at hs; subst hs
  obtain ⟨a,vs,cap,rfl,_⟩:=hx.sl_inv
  exact ⟨_,by simp [Builtin.len_,ht,run_underlying (underT hT hu)]; rfl,.lit _ _ _ rfl⟩
 ·rename_i k e m hu
  simp only [Option.map_eq_some_iff] at hs
  obtain ⟨es,hes,rfl⟩:=hs
  rcases mapA_spec H hx hes with ⟨rfl,rfl⟩ | ⟨rr,ents,clock,rfl,h4,h5,h6⟩
  ·exact ⟨_,by simp [Builtin.len_,ht,run_underlying (underT hT hu)]; rfl,.lit _ _ _ rfl⟩
  ·have hl:=h5.length
   simp at hl
   refine ⟨goInt ents.size,by simp [Builtin.len_,ht,run_underlying (underT hT hu),get_obj h4 rfl],?_⟩
   rw [hl]; exact .lit _ _ _ rfl
 ·cases hs
theorem foldA_sound {f:AV→AV→Option AV} {g:Value→Value→Sem Value} (hf:∀ a b c va vb,Rel w (ownOf ρ h) ρ a va→Rel w (ownOf ρ h) ρ b vb→f a b=some c→∃ vc,(g va vb).run P w = .ok vc w∧Rel w (ownOf ρ h) ρ c vc) :
  ∀ (l:List AV) (vl:List Value) (a r:AV) (va:Value),Rels w (ownOf ρ h) ρ l vl→Rel w (ownOf ρ h) ρ a va→foldA f a l=some r→∃ v,(vl.foldlM g va).run P w = .ok v w∧Rel w (ownOf ρ h) ρ r v
 | [],vl,a,r,va,hl,ha,hs=>by
   cases hl
   simp [foldA] at hs; subst hs
   exact ⟨va,by simp,ha⟩
 | b::l,vl,a,r,va,hl,ha,hs=>by
   cases hl with
   | cons _ _ vb _ vl hb hl =>
   simp only [foldA] at hs
   cases hc:f a b with
   | none=>simp [hc] at hs
   | some c =>
     simp [hc] at hs
     obtain ⟨vc,h1,h2⟩:=hf a b c va vb ha hb hc
     obtain ⟨v,h3,h4⟩:=foldA_sound hf l vl c r vc hl h2 hs
     exact ⟨v,by simp [List.foldlM_cons,h1,h3],h4⟩
theorem max_sound {ts:Array TypeId} {ty:TypeId} {x:AV} {l:List AV} {r:AV} {vs:Array Value} (hl:Rels w (ownOf ρ h) ρ (x::l) vs.toList) (hs:foldA max2A x l=some r) :
  ∃ v,(Builtin.max_ ts ty vs).run P w = .ok v w∧Rel w (ownOf ρ h) ρ r v:=by
 generalize hvs:vs.toList=vl at hl
 cases hl with
 | cons _ _ v _ vl hx hl =>
   simp only [Builtin.max_,hvs]
   refine foldA_sound (fun a b c va vb ha hb hc=>?_) l vl x r v hl hx hs
   cases a<;>cases b<;>simp [max2A] at hc
   subst hc
   rw [ha.int_inv,hb.int_inv]
   exact ⟨_,by simp [Builtin.max2],.lit _ _ _ rfl⟩
theorem min_sound {ts:Array TypeId} {ty:TypeId} {x:AV} {l:List AV} {r:AV} {vs:Array Value} (hl:Rels w (ownOf ρ h) ρ (x::l) vs.toList) (hs:foldA min2A x l=some r) :
  ∃ v,(Builtin.min_ ts ty vs).run P w = .ok v w∧Rel w (ownOf ρ h) ρ r v:=by
 generalize hvs:vs.toList=vl at hl
 cases hl with
 | cons _ _ v _ vl hx hl =>
   simp only [Builtin.min_,hvs]
   refine foldA_sound (fun a b c va vb ha hb hc=>?_) l vl x r v hl hx hs
   cases a<;>cases b<;>simp [min2A] at hc
   subst hc
   rw [ha.int_inv,hb.int_inv]
   exact ⟨_,by simp [Builtin.min2],.lit _ _ _ rfl⟩
end
end Go.Proofs.YtdjngcfnlfgjkaaGreatDoor.AM

namespace Go.Proofs.YtdjngcfnlfgjkaaGreatDoor.AM
open Go.RowKit
variable [Glob]
section
variable {T:Tab} {P:Program} {B0 nx0:Nat} {w:World} {ρ:Rho} {h:Hp}
def EvR (w:World) (own:Nat→Prop) (ρ:Rho) (ev:Ev) (f:Operand→Value):Prop:=∀ x a,ev x=some a→Rel w own ρ a (f x)
theorem evals_rel {own:Nat→Prop} {ev:Ev} {f:Operand→Value} (he:EvR w own ρ ev f):∀ {xs:List Operand} {as:List AV},evalsA ev xs=some as→Rels w own ρ as (xs.map f)
 | [],as,h=>by simp [evalsA] at h; subst h; exact .nil _
 | x::xs,as,h=>by
   simp only [evalsA] at h
   cases h1:ev x with
   | none=>simp [h1] at h
   | some v =>
     cases h2:evalsA ev xs with
     | none=>simp [h1,h2] at h
     | some vs=>simp [h1,h2] at h; subst h; exact .cons _ _ _ _ _ (he x v h1) (evals_rel he h2)
theorem parts_rel {own:Nat→Prop} {ev:Ev} {f:Operand→Value} (he:EvR w own ρ ev f):∀ {xs:List (Nat × Operand)} {as:List (Nat × AV)},partsA ev xs=some as→RelP w own ρ as (xs.map fun p=>(p.1,f p.2))
 | [],as,h=>by simp [partsA] at h; subst h; exact .nil
 | (i,x)::xs,as,h=>by
   simp only [partsA] at h
   cases h1:ev x with
   | none=>simp [h1] at h
   | some v =>
     cases h2:partsA ev xs with
     | none=>simp [h1,h2] at h
     | some vs=>simp [h1,h2] at h; subst h; exact .cons _ _ _ _ _ (he x v h1) (parts_rel he h2)
theorem opt_rel {own:Nat→Prop} {ev:Ev} {f:Operand→Value} (he:EvR w own ρ ev f) {x:Option Operand} {a:Option AV} (h:optA ev x=some a):RelO w own ρ a (x.map f):=by
 cases x with
 | none=>simp [optA] at h; subst h; trivial
 | some x =>
   simp only [optA,Option.map_eq_some_iff] at h
   obtain ⟨v,h1,rfl⟩:=h
   exact he x v h1
theorem quiet_sound (hT:T.Of P) (H:HR B0 nx0 w ρ h) {ev:Ev} {f:Operand→Value} (he:EvR w (ownOf ρ h) ρ ev f) (o:Oper) (hq:quietOp o.op=true) (hnc:∀ c,o.op ≠ .call c) {r:AV} {h':Hp}
  (hs:opA T ev h o.op=some (r,h')):h'=h∧∃ v,(execOp f o).run P w = .ok (.value v) w∧Rel w (ownOf ρ h) ρ r v:=by
 have fin:∀ {m:Sem Value},(∃ v,m.run P w = .ok v w∧Rel w (ownOf ρ h) ρ r v)→∃ v,((do pure (.value (← m)):Sem Next)).run P w = .ok (.value v) w∧Rel w (ownOf ρ h) ρ r v:=by
  rintro m ⟨v,h1,h2⟩
  exact ⟨v,by simp [h1],h2⟩
 have wH:∀ {x:Option AV},withH h x=some (r,h')→x=some r∧h'=h:=by
  intro x hx
  cases x with
  | none=>cases hx
  | some y=>simp [withH] at hx; exact ⟨by rw [hx.1],hx.2.symm⟩
 unfold execOp
 cases ho:o.op<;>rw [ho] at hq hs<;>simp only [quietOp,Bool.false_eq_true] at hq<;>simp only [opA] at hs
 case call c=>exact absurd ho (hnc c)
 case move x =>
  obtain ⟨h1,h2⟩:=wH hs
  exact ⟨h2,_,rfl,he x r h1⟩
 case assign x =>
  obtain ⟨h1,h2⟩:=wH hs
  exact ⟨h2,_,rfl,he x r h1⟩
 case pick c a b =>
  unfold opPick at hs
  split at hs
  ·rename_i hc
   obtain ⟨h1,h2⟩:=wH hs
   exact ⟨h2,f a,by simp [(he c _ hc).bool_inv,asBool],he a r h1⟩
  ·rename_i hc
   obtain ⟨h1,h2⟩:=wH hs
   exact ⟨h2,f b,by simp [(he c _ hc).bool_inv,asBool],he b r h1⟩
  ·cases hs
 case build t parts =>
  unfold opBuild at hs
  split at hs
  case h_2=>cases hs
  rename_i ps hp
  obtain ⟨h1,h2⟩:=wH hs
  refine ⟨h2,fin (buildA_sound hT ?_ h1)⟩
  have:=parts_rel he hp
  simpa using this
 case load t a =>
  unfold opLoad at hs
  split at hs
  case h_2=>cases hs
  rename_i x hx
  obtain ⟨h1,h2⟩:=wH hs
  obtain ⟨v,h3,_,h4⟩:=loadA_sound hT H (he _ _ hx) h1
  exact ⟨h2,fin ⟨v,h3,h4⟩⟩
 case nilCheck x =>
  unfold opNilCheck at hs
  split at hs
  case h_5=>cases hs
  all_goals
   rename_i hx
   simp only [Option.some.injEq,Prod.mk.injEq] at hs
   obtain ⟨rfl,rfl⟩:=hs
   have hr:=he _ _ hx
  ·obtain ⟨y,e,_⟩:=hr.ptr_inv
   exact ⟨rfl,f x,by simp only [e]; rfl,hr⟩
  ·obtain ⟨a,vs,e,_⟩:=hr.ref_inv
   exact ⟨rfl,f x,by simp only [e]; rfl,hr⟩
  ·obtain ⟨va,vb,e,_⟩:=hr.func_inv
   exact ⟨rfl,f x,by simp only [e]; rfl,hr⟩
  ·obtain ⟨y,e,_⟩:=hr.yld_inv
   exact ⟨rfl,f x,by simp only [e]; rfl,hr⟩
 case binOp op t x y _ =>
  unfold opBin at hs
  split at hs
  case h_2=>cases hs
  rename_i a b hx hy
  obtain ⟨h1,h2⟩:=wH hs
  exact ⟨h2,fin (binA_sound hT (he _ _ hx) (he _ _ hy) h1)⟩
 case unOp op t x =>
  unfold opUn at hs
  split at hs
  case h_2=>cases hs
  rename_i a hx
  obtain ⟨h1,h2⟩:=wH hs
  exact ⟨h2,fin (unA_sound (he _ _ hx) h1)⟩
 case convert s d x =>
  unfold opConv at hs
  split at hs
  case h_2=>cases hs
  rename_i a hx
  obtain ⟨h1,h2⟩:=wH hs
  exact ⟨h2,fin (convA_sound hT (he _ _ hx) h1)⟩
 case makeFunc fn first captured =>
  unfold opMakeFunc at hs
  split at hs
  case h_2=>cases hs
  rename_i a b ha hb
  simp only [Option.some.injEq,Prod.mk.injEq] at hs
  obtain ⟨rfl,rfl⟩:=hs
  refine ⟨rfl,fin ⟨_,rfl,?_⟩⟩
  have e1:first.map f=(first.toList.map f).toArray:=by rw [← Array.toList_map]
  have e2:captured.map f=(captured.toList.map f).toArray:=by rw [← Array.toList_map]
  rw [e1,e2]
  exact .func _ _ _ _ _ _ (evals_rel he ha) (evals_rel he hb)
 case slice t x lo hi mx =>
  unfold opSlice at hs
  split at hs
  case h_2=>cases hs
  rename_i a l u hx hl hu
  obtain ⟨h1,h2⟩:=wH hs
  exact ⟨h2,fin (sliceA_sound hT H (he _ _ hx) (opt_rel he hl) (opt_rel he hu) h1)⟩
 case fieldAddr s x n =>
  unfold opFieldAddr at hs
  split at hs
  case h_2=>cases hs
  rename_i a hx
  obtain ⟨h1,h2⟩:=wH hs
  exact ⟨h2,fin (fieldAddrA_sound hT (he _ _ hx) h1)⟩
 case field s x n =>
  unfold opField at hs
  split at hs
  case h_2=>cases hs
  rename_i a hx
  obtain ⟨h1,h2⟩:=wH hs
  exact ⟨h2,fin (fieldA_sound hT (he _ _ hx) h1)⟩
 case indexAddr t x ix =>
  unfold opIndexAddr at hs
  split at hs
  case h_2=>cases hs
  rename_i a b hx hy
  obtain ⟨h1,h2⟩:=wH hs
  exact ⟨h2,fin (indexAddrA_sound hT H (he _ _ hx) (he _ _ hy) h1)⟩
 case index t x ix =>
  unfold opIndex at hs
  split at hs
  case h_2=>cases hs
  rename_i a b hx hy
  obtain ⟨h1,h2⟩:=wH hs
  exact ⟨h2,fin (indexA_sound hT (he _ _ hx) (he _ _ hy) h1)⟩
 case lookup t m k ok =>
  unfold opLookup at hs
  split at hs
  case h_2=>cases hs
  rename_i a b hx hy
  obtain ⟨h1,h2⟩:=wH hs
  exact ⟨h2,fin (lookupA_sound hT H (he _ _ hx) (he _ _ hy) h1)⟩
 case extract x i =>
  unfold opExtract at hs
  split at hs
  case h_2=>cases hs
  rename_i vs hx
  obtain ⟨h1,h2⟩:=wH hs
  obtain ⟨us,e,hu⟩:=(he _ _ hx).tuple_inv
  obtain ⟨y,hy,hr⟩:=hu.get h1
  exact ⟨h2,fin ⟨y,by rw [e]; simp [Instr.extract,hy],hr⟩⟩
def handed:Next→Value→Prop
 | .value v,u=>u=v
 | .skip,u=>u=undef
 | _,_=>False
theorem undefA_rel (w:World) (own:Nat→Prop) (ρ:Rho):Rel w own ρ undefA undef:=.tuple _ [] [] (.nil _)
theorem opA_sound (hT:T.Of P) (H:HR B0 nx0 w ρ h) {ev:Ev} {f:Operand→Value} (he:EvR w (ownOf ρ h) ρ ev f) (o:Oper) (hnc:∀ c,o.op ≠ .call c) {r:AV} {h':Hp}
  (hs:opA T ev h o.op=some (r,h')):∃ n v w' ρ',(execOp f o).run P w = .ok n w'∧handed n v∧HR B0 nx0 w' ρ' h'∧Ext w ρ h w' ρ' h'∧Rel w' (ownOf ρ' h') ρ' r v:=by
 by_cases hq:quietOp o.op=true
 ·obtain ⟨rfl,v,h1,h2⟩:=quiet_sound hT H he o hq hnc hs
  exact ⟨.value v,v,w,ρ,h1,rfl,H,Ext.refl _ _ _,h2⟩
 have fin:∀ {m:Sem Value},(∃ v w' ρ',m.run P w = .ok v w'∧HR B0 nx0 w' ρ' h'∧Ext w ρ h w' ρ' h'∧Rel w' (ownOf ρ' h') ρ' r v) →
   ∃ n v w' ρ',((do pure (.value (← m)):Sem Next)).run P w = .ok n w'∧handed n v∧HR B0 nx0 w' ρ' h'∧Ext w ρ h w' ρ' h'∧Rel w' (ownOf ρ' h') ρ' r v:=by
  rintro m ⟨v,w',ρ',h1,h2⟩
  exact ⟨.value v,v,w',ρ',by simp [h1],rfl,h2⟩
 have fin':∀ {m:Sem Unit} {h₁:Hp},(r=undefA∧h'=h₁)→(∃ w',m.run P w = .ok () w'∧HR B0 nx0 w' ρ h₁∧Ext w ρ h w' ρ h₁) →
   ∃ n v w' ρ',((do m; pure .skip:Sem Next)).run P w = .ok n w'∧handed n v∧HR B0 nx0 w' ρ' h'∧Ext w ρ h w' ρ' h'∧Rel w' (ownOf ρ' h') ρ' r v:=by
  rintro m h₁ ⟨rfl,rfl⟩ ⟨w',h1,h2,h3⟩
  exact ⟨.skip,undef,w',ρ,by simp [h1],rfl,h2,h3,undefA_rel _ _ _⟩
 have st:∀ {x:Option Hp},stored x=some (r,h')→x=some h'∧r=undefA:=by
  intro x hx
  cases x with
  | none=>cases hx
  | some y=>simp [stored] at hx; exact ⟨by rw [hx.2],hx.1.symm⟩
 unfold execOp
 cases ho:o.op<;>rw [ho] at hq hs<;>simp only [quietOp,not_true_eq_false] at hq<;>simp only [opA,reduceCtorEq] at hs
 case alloc e=>exact fin (alloc_sound hT H hs)
 case box e x =>
  unfold opBox at hs
  split at hs
  case h_2=>cases hs
  rename_i v hx
  exact fin (box_sound H e (he _ _ hx) hs)
 case buildSlice t len parts =>
  unfold opBuildSlice at hs
  split at hs
  case h_2=>cases hs
  rename_i ps hp
  refine fin (buildSliceA_sound hT H ?_ hs)
  have:=parts_rel he hp
  simpa using this
 case store t a x =>
  unfold opStore at hs
  split at hs
  case h_2=>cases hs
  rename_i u v hx hy
  obtain ⟨h1,h2⟩:=st hs
  exact fin' ⟨h2,rfl⟩ (storeA_sound hT H (he _ _ hx) (he _ _ hy) h1)
 case makeMap t rr =>
  cases rr with
  | some _=>simp [opMakeMap] at hs
  | none =>
    simp [opMakeMap] at hs
    obtain ⟨rfl,rfl⟩:=hs
    exact fin (makeMap_sound H t)
 case makeSlice t l c =>
  unfold opMakeSlice at hs
  split at hs
  case h_2=>cases hs
  rename_i u v hx hy
  exact fin (makeSliceA_sound hT H (he _ _ hx) (he _ _ hy) hs)
 case mapUpdate t m k v =>
  unfold opMapUpd at hs
  split at hs
  case h_2=>cases hs
  rename_i u v x hm hk hv
  obtain ⟨h1,h2⟩:=st hs
  exact fin' ⟨h2,rfl⟩ (mapUpdA_sound hT H (he _ _ hm) (he _ _ hk) (he _ _ hv) h1)
 case insert t m k v =>
  unfold opMapUpd at hs
  split at hs
  case h_2=>cases hs
  rename_i u v x hm hk hv
  obtain ⟨h1,h2⟩:=st hs
  exact fin' ⟨h2,rfl⟩ (mapUpdA_sound hT H (he _ _ hm) (he _ _ hk) (he _ _ hv) h1)
 case range t x =>
  unfold opRange at hs
  split at hs
  case h_2=>cases hs
  rename_i u hx
  exact fin (rangeA_sound hT H (he _ _ hx) hs)
 case next x isS =>
  unfold opNext at hs
  split at hs
  case h_2=>cases hs
  rename_i u hx
  exact fin (nextA_sound H o.type (he _ _ hx) hs)
theorem zeroCells_eq (z:Array Value) (n k:Nat) (hz:z.size=n) (hn:0 < n):(Builtin.zeroCells z k).toList=(List.replicate k z.toList).flatten:=by
 apply List.ext_getElem?
 intro j
 by_cases hj:j < k * n
 ·rw [replicate_flat_get z.toList n k j (by simpa using hz) hn hj]
  have hlt:j % n < z.size:=by rw [hz]; exact Nat.mod_lt _ hn
  simp [Builtin.zeroCells,hz,hj,hlt]
  rw [getElem!_pos z (j % n) hlt,Array.getElem?_eq_getElem hlt]
 ·have h1:(Builtin.zeroCells z k).toList.length≤j:=by
   rw [Array.length_toList,size_zeroCells,hz]; omega
  have h2:(List.replicate k z.toList).flatten.length≤j:=by
   simp [hz]; omega
  rw [List.getElem?_eq_none h1,List.getElem?_eq_none h2]
theorem clearA_sound (hT:T.Of P) (H:HR B0 nx0 w ρ h) {argTypes:Array TypeId} {ty t:TypeId} {x:AV} {vx:Value} {h':Hp} (h0:argTypes[0]? = some t) (hx:Rel w (ownOf ρ h) ρ x vx) (hs:clearA T h t x=some h') :
  ∃ w',(Builtin.clear_ argTypes ty #[vx]).run P w = .ok (.tuple #[]) w'∧HR B0 nx0 w' ρ h'∧Ext w ρ h w' ρ h':=by
 unfold clearA at hs
 cases he:elemT T t with
 | none=>simp [he] at hs
 | some q =>
   obtain ⟨e,n,b,z⟩:=q
   simp only [he] at hs
   obtain ⟨i,zv,hu,hi,hsize,hby,hzero,hn,hb,hzl,hzs,hzrel,hzone,hzmx⟩:=elemT_spec hT he
   split at hs
   ·injection hs with hs; subst hs
    obtain rfl:=hx.nils_inv
    exact ⟨w,by simp [Builtin.clear_,h0,run_underlying hu],H,Ext.refl _ _ _⟩
   ·rename_i bb off len
    split at hs
    case h_2=>cases hs
    rename_i k rows hg
    split at hs
    case isFalse=>cases hs
    rename_i hc
    obtain ⟨rfl,hfit⟩:=hc
    obtain ⟨x',a,cap,rfl,hx',hl',hcap,hadr⟩:=hx.ms_inv
    split at hs
    ·rename_i hl0
     injection hs with hs; subst hs; subst hl0
     exact ⟨w,by simp [Builtin.clear_,h0,run_underlying hu],H,Ext.refl _ _ _⟩
    ·rename_i hl0
     injection hs with hs; subst hs
     obtain ⟨arr,ee,cvs,c1,c2,c3,c4,c5,c6,c7⟩:=H.blk bb _ x' hg hx'
     obtain rfl:=hadr (by omega)
     have hk:x'.k=k:=c2.2
     have hfl:=flat_length c3
     have hcl:=c6.length
     have hzk:∀ r∈List.replicate len z,r.length=x'.k:=fun r hr=>by rw [List.eq_of_mem_replicate hr,hk]; exact hzl
     obtain ⟨s1,s2,s3⟩:=setRows_flat (k:=x'.k) (xs:=List.replicate len z) (rows:=rows) (i:=off) c3 hzk (by simpa using hfit)
     have hnrel:Rels w (ownOf ρ h) ρ (List.replicate len z).flatten (List.replicate len zv.cells.toList).flatten:=Rels.flat_replicate' hzrel len
     have hnone:∀ v∈(List.replicate len zv.cells.toList).flatten,v.oneCell'=true:=fun v hv=>by
      obtain ⟨q,hq,hvq⟩:=List.mem_flatten.1 hv
      rw [List.eq_of_mem_replicate hq] at hvq
      exact hzone v hvq
     have hzc:=zeroCells_eq zv.cells k len hzs hn
     have hnl:(List.replicate len zv.cells.toList).flatten.length=len * x'.k:=by simp [hzs,hk]
     have hnl2:(List.replicate len z).flatten.length=len * x'.k:=by simp [hzl,hk]
     have hm0:mxs (List.replicate len z).flatten=0:=by
      rw [← mxss_flat]
      have:∀ m,mxss (List.replicate m z)=0:=fun m=>by
       induction m with
       | zero=>rfl
       | succ m ih=>rw [List.replicate_succ,mxss,ih,hzmx]; rfl
      exact this len
     have hm1:(off+len) * x'.k≤rows.length * x'.k:=Nat.mul_le_mul_right _ hfit
     rw [Nat.add_mul] at hm1
     have hm2:rows.length * x'.k≤x'.cap * x'.k:=Nat.mul_le_mul_right _ c4
     have hst:=run_storeCells_at P x'.c (x'.base+off * x'.k) ee (List.replicate len zv.cells.toList).flatten 0 arr w c1 (by omega) hnone
     obtain ⟨g1,g2⟩:=H.write hg hx' hnrel hnone (p:=off * x'.k) (by omega) (setRows rows off (List.replicate len z)) s2 (by simpa using s3) s1 c1
     rw [hm0] at g1 g2
     have hlk:∀ q:Hp,q.leak bb 0=q:=fun q=>by simp [Hp.leak]
     rw [hlk] at g1 g2
     refine ⟨_,?_,g1,g2⟩
     obtain ⟨m,rfl⟩:∃ m,len=m+1:=⟨len - 1,by omega⟩
     simp only [Nat.add_zero] at hst
     simp [Builtin.clear_,h0,run_underlying hu,zeroValue,typeInfo,hi,hzero,hzc,hst]
   ·cases hs
theorem mxs_zero':∀ {l:List AV},mxs l=0↔∀ x∈l,x.mx=0
 | []=>by simp [mxs]
 | a::l=>by simp only [mxs,List.mem_cons,forall_eq_or_imp,← mxs_zero' (l:=l)]; omega
theorem set_dead_live {h:Hp} {b:Nat}:∀ c C,(h.set b .dead).get c=some C→C.live=true→c ≠ b∧h.get c=some C:=by
 intro c C h1 h2
 rw [get_set] at h1
 by_cases hc:c=b
 ·subst hc
  cases hg:h.get c with
  | none=>simp [hg] at h1
  | some D=>simp [hg] at h1; subst h1; simp [Blk.live] at h2
 ·rw [if_neg hc] at h1; exact ⟨hc,h1⟩
theorem ms_sl (H:HR B0 nx0 w ρ h) {b k:Nat} {rows:List (List AV)} (hg:h.get b=some (.cells k rows)) {h2:Hp} (H2:HR B0 nx0 w ρ h2) {C2:Blk} (hg2:h2.get b=some C2) (hl2:C2.live=true)
  {off len:Nat} {v:Value} (hr:Rel w (ownOf ρ h) ρ (.ms b off len) v) (hfit:off+len≤rows.length) {rs:List (List AV)} (hrs:rs.length=len) (hk:∀ r∈rs,r.length=k)
  (hrel:∀ us,Rels w (ownOf ρ h) ρ ((rows.drop off).take len).flatten us→Rels w (ownOf ρ (h2.set b .dead)) ρ rs.flatten us) (hm:mxss rs=0) :
  Rel w (ownOf ρ (h2.set b .dead)) ρ (.sl k rs) v:=by
 obtain ⟨x,a,cap,rfl,hx,hl',hcap,hadr⟩:=hr.ms_inv
 obtain ⟨arr,e,vs,h1,h2',h3,h4,h5,h6,h7⟩:=H.blk b _ x hg hx
 have hfree:¬ ownOf ρ (h2.set b .dead) x.c:=by
  rintro (hX | ⟨d,C,y,g1,g2,g3,g4⟩)
  ·have:=H.xlo _ hX; have:=H.low b _ x hg rfl hx; omega
  ·obtain ⟨g5,g6⟩:=set_dead_live d C g1 g2
   exact g5 (H2.inj d b C _ y x g6 hg2 g2 hl2 g3 hx g4)
 have g3d:∀ r∈rows.drop off,r.length=x.k:=fun r hr=>h3 r (List.mem_of_mem_drop hr)
 have hflat:((rows.drop off).take len).flatten=(rows.flatten.drop (off * x.k)).take (len * x.k):=by
  rw [flat_take g3d _ (by simp; omega),flat_drop h3 _ (by omega)]
 have hmm:mxs rs.flatten=0:=by rw [mxss_flat] at hm; exact hm
 have hrel':Rels w (ownOf ρ (h2.set b .dead)) noRho rs.flatten ((vs.drop (off * x.k)).take (len * x.k)):=by
  refine (hrel _ ?_).closed hmm
  rw [hflat]; exact (h6.drop _).take _
 refine .sl _ ⟨x.c,a,none⟩ k _ _ len cap hrs.symm hk hrel' ?_ ?_
 ·intro j v hj
  rw [List.getElem?_take] at hj
  split at hj
  case isFalse=>cases hj
  rename_i hjn
  rw [List.getElem?_drop] at hj
  have hoff:off < x.cap:=by
   rcases Nat.eq_zero_or_pos len with h0 | h0
   ·subst h0; simp at hjn
   ·omega
  obtain ⟨h8,h9⟩:=h7 _ _ hj
  refine ⟨?_,rfl,hfree,h9⟩
  have:a+j=x.base+(off * x.k+j):=by rw [hadr hoff]; omega
  simp [World.cell?,h1,this,h8]
 ·omega
theorem fzCell_sound (H:HR B0 nx0 w ρ h) {a:AV} {v:Value} (hr:Rel w (ownOf ρ h) ρ a v) :
  HR B0 nx0 w ρ (fzCell h a).2∧Ext w ρ h w ρ (fzCell h a).2∧Rel w (ownOf ρ (fzCell h a).2) ρ (fzCell h a).1 v∧(∀ c C,(fzCell h a).2.get c=some C→C.live=true→h.get c=some C):=by
 have same:HR B0 nx0 w ρ h∧Ext w ρ h w ρ h∧Rel w (ownOf ρ h) ρ a v∧(∀ c C,h.get c=some C→C.live=true→h.get c=some C):=⟨H,Ext.refl _ _ _,hr,fun _ _ h _=>h⟩
 cases a<;>try exact same
 rename_i b off len
 simp only [fzCell]
 split
 ·rename_i k rows hg
  split
  ·rename_i hc
   obtain ⟨x,_,_,_,hx,_⟩:=hr.ms_inv
   obtain ⟨K1,K2⟩:=H.kill hx
   obtain ⟨arr,e,vs,h1,h2',h3,_⟩:=H.blk b _ x hg hx
   refine ⟨K1,K2,ms_sl H hg H hg rfl hr hc.1 (by simp; omega) (fun r hr=>by rw [h3 r (List.mem_of_mem_drop (List.mem_of_mem_take hr)),h2'.2]) (fun us hu=>hu.mono K2.stable (Rho.le_refl _)) ?_,fun c C h1 h2=>(set_dead_live c C h1 h2).2⟩
   rw [mxss_flat,mxs_zero']
   intro y hy
   obtain ⟨r,hr,hy⟩:=List.mem_flatten.1 hy
   have:=hc.2
   rw [mxss_flat,mxs_zero'] at this
   exact this y (List.mem_flatten.2 ⟨r,List.mem_of_mem_drop (List.mem_of_mem_take hr),hy⟩)
  ·exact same
 ·exact same
theorem fzCells_len:∀ (as:List AV) (h:Hp),(fzCells as h).1.length=as.length
 | [],_=>rfl
 | a::as,h=>by simp only [fzCells,List.length_cons,fzCells_len as]
theorem fzCells_sound:∀ {as:List AV} {vs:List Value} {h:Hp},HR B0 nx0 w ρ h→Rels w (ownOf ρ h) ρ as vs →
  HR B0 nx0 w ρ (fzCells as h).2∧Ext w ρ h w ρ (fzCells as h).2∧Rels w (ownOf ρ (fzCells as h).2) ρ (fzCells as h).1 vs∧(∀ c C,(fzCells as h).2.get c=some C→C.live=true→h.get c=some C)
 | [],vs,h,H,hr=>⟨H,Ext.refl _ _ _,hr,fun _ _ h _=>h⟩
 | a::as,vs,h,H,hr=>by
   cases hr with
   | cons _ _ v _ vs h1 h2 =>
     obtain ⟨c1,c2,c3,c4⟩:=fzCell_sound H h1
     obtain ⟨d1,d2,d3,d4⟩:=fzCells_sound c1 (h2.mono c2.stable (Rho.le_refl _))
     exact ⟨d1,c2.trans d2,.cons _ _ _ _ _ (c3.mono d2.stable (Rho.le_refl _)) d3,fun c C g1 g2=>c4 c C (d4 c C g1 g2) g2⟩
theorem fzApp_sound (H:HR B0 nx0 w ρ h) (T:Tab) (ts:List TypeId) {args:List AV} {vs:List Value} (ha:Rels w (ownOf ρ h) ρ args vs) :
  HR B0 nx0 w ρ (fzApp T h ts args).2∧Ext w ρ h w ρ (fzApp T h ts args).2∧Rels w (ownOf ρ (fzApp T h ts args).2) ρ (fzApp T h ts args).1 vs:=by
 have same:HR B0 nx0 w ρ h∧Ext w ρ h w ρ h∧Rels w (ownOf ρ h) ρ args vs:=⟨H,Ext.refl _ _ _,ha⟩
 unfold fzApp
 split
 case h_2=>exact same
 rename_i t _ s b off
 split
 case isFalse=>exact same
 split
 case h_2=>exact same
 rename_i k rows hg
 split
 case h_2=>exact same
 rename_i r hr
 split
 case isFalse=>exact same
 rename_i hm
 split
 case h_2=>exact same
 rename_i k2 rows2 hg2
 cases ha with
 | cons _ _ v1 _ l1 hs hx =>
 cases hx with
 | cons _ _ v2 _ l2 hx hn =>
 cases hn
 rw [nth_eq] at hr
 have hoff:off < rows.length:=by
  rcases Nat.lt_or_ge off rows.length with h0 | h0
  ·exact h0
  ·rw [List.getElem?_eq_none h0] at hr; cases hr
 have hsplit:((rows.drop off).take 1).flatten=r:=by
  rw [List.drop_eq_getElem_cons hoff]
  rw [List.getElem?_eq_getElem hoff] at hr
  injection hr with hr
  simp [hr]
 obtain ⟨x,a,cap,hv,hx',hl',hcap,hadr⟩:=hx.ms_inv
 obtain ⟨arr,e,vs,h1,h2',h3,h4,h5,h6,h7⟩:=H.blk b _ x hg hx'
 have g3d:∀ r∈rows.drop off,r.length=x.k:=fun r hr=>h3 r (List.mem_of_mem_drop hr)
 have hflat:((rows.drop off).take 1).flatten=(rows.flatten.drop (off * x.k)).take (1 * x.k):=by
  rw [flat_take g3d _ (by simp; omega),flat_drop h3 _ (by omega)]
 have hrr:Rels w (ownOf ρ h) ρ r ((vs.drop (off * x.k)).take (1 * x.k)):=by
  rw [← hsplit,hflat]; exact (h6.drop _).take _
 obtain ⟨c1,c2,c3,c4⟩:=fzCells_sound H hrr
 obtain ⟨K1,K2⟩:=c1.kill hx'
 refine ⟨K1,c2.trans K2,.cons _ _ _ _ _ (hs.mono (c2.trans K2).stable (Rho.le_refl _)) (.cons _ _ _ _ _ ?_ (.nil _))⟩
 refine ms_sl H hg c1 hg2 rfl hx (by omega) rfl (fun r' hr'=>?_) (fun us hu=>?_) (by simpa [mxss] using hm)
 ·simp only [List.mem_singleton] at hr'
  subst hr'
  rw [fzCells_len,h3 r (List.mem_of_getElem? hr),h2'.2]
 ·rw [hsplit] at hu
  simp only [List.flatten_cons,List.flatten_nil,List.append_nil]
  exact (fzCells_sound H hu).2.2.1.mono K2.stable (Rho.le_refl _)
theorem builtinA_sound (hT:T.Of P) (H:HR B0 nx0 w ρ h) {b:Builtin} {ts:Array TypeId} {ty:TypeId} {cs:Array Bool} {args:List AV} {vargs:Array Value} {r:AV} {h':Hp}
  (ha:Rels w (ownOf ρ h) ρ args vargs.toList) (hs:builtinA T h b ts.toList args=some (r,h')) :
  ∃ v w' ρ',(builtin b ts ty cs vargs).run P w = .ok (.value v) w'∧HR B0 nx0 w' ρ' h'∧Ext w ρ h w' ρ' h'∧Rel w' (ownOf ρ' h') ρ' r v∧(b ≠ .append→b ≠ .clear→h'=h∧w'=w∧ρ'=ρ):=by
 have fin:∀ {m:Sem Value},(∃ v,m.run P w = .ok v w∧Rel w (ownOf ρ h) ρ r v)→h'=h →
   ∃ v w' ρ',((do pure (.value (← m)):Sem Next)).run P w = .ok (.value v) w'∧HR B0 nx0 w' ρ' h'∧Ext w ρ h w' ρ' h'∧Rel w' (ownOf ρ' h') ρ' r v∧(b ≠ .append→b ≠ .clear→h'=h∧w'=w∧ρ'=ρ):=by
  rintro m ⟨v,h1,h2⟩ rfl
  exact ⟨v,w,ρ,by simp [h1],H,Ext.refl _ _ _,h2,fun _ _=>⟨rfl,rfl,rfl⟩⟩
 unfold builtinA at hs
 split at hs
 ·rename_i x
  split at hs
  case h_2=>cases hs
  rename_i t l hts
  simp only [Option.map_eq_some_iff,Prod.mk.injEq] at hs
  obtain ⟨a,hl,rfl,rfl⟩:=hs
  obtain ⟨vx,rfl⟩:∃ vx,vargs=#[vx]:=by
   have:=ha.length
   cases vargs with | mk l=>match l,this with | [v],_=>exact ⟨v,rfl⟩
  cases ha with
  | cons _ _ _ _ _ hx _ =>
  exact fin (lenA_sound hT H (by rw [hts]; rfl) hx hl) rfl
 ·simp only [builtin]
  obtain ⟨f1,f2,f3⟩:=fzApp_sound H T ts.toList ha
  obtain ⟨v,w',ρ',h1,h2,h3,h4⟩:=appendA_sound (ty:=ty) hT f1 f3 hs
  exact ⟨v,w',ρ',by simp [h1],h2,f2.trans h3,h4,fun hb _=>absurd rfl hb⟩
 ·rename_i x l
  simp only [Option.map_eq_some_iff,Prod.mk.injEq] at hs
  obtain ⟨a,hl,rfl,rfl⟩:=hs
  exact fin (max_sound ha hl) rfl
 ·rename_i x l
  simp only [Option.map_eq_some_iff,Prod.mk.injEq] at hs
  obtain ⟨a,hl,rfl,rfl⟩:=hs
  exact fin (min_sound ha hl) rfl
 ·rename_i x
  split at hs
  case h_2=>cases hs
  rename_i t l hts
  simp only [Option.map_eq_some_iff,Prod.mk.injEq] at hs
  obtain ⟨a,hl,rfl,rfl⟩:=hs
  obtain ⟨vx,rfl⟩:∃ vx,vargs=#[vx]:=by
   have:=ha.length
   cases vargs with | mk l=>match l,this with | [v],_=>exact ⟨v,rfl⟩
  cases ha with
  | cons _ _ _ _ _ hx _ =>
  have h0:ts[0]? = some t:=by rw [← Array.getElem?_toList,hts]; rfl
  obtain ⟨w',h1,h2,h3⟩:=clearA_sound (ty:=ty) hT H h0 hx hl
  refine ⟨.tuple #[],w',ρ,by simp [builtin,h1],h2,h3,.tuple _ [] [] (.nil _),fun _ hb=>absurd rfl hb⟩
 ·cases hs
end
end Go.Proofs.YtdjngcfnlfgjkaaGreatDoor.AM
