/-
  The abstract machine is sound: what it answers, the program's function answers.
-/
import Derived.Test.YtdjngcfnlfgjkaaGreatDoorAm4
import Derived.KernelRfl
import Derived.Test.YtdjngcfnlfgjkaaGreatDoorAm1
set_option linter.unusedVariables false
set_option linter.unusedSimpArgs false
set_option linter.unusedSectionVars false
namespace Go.Proofs.YtdjngcfnlfgjkaaGreatDoor.AM
open Go.RowKit
variable [Glob]
section rules
variable {F:Fence} {n:Nat} {P:Program} {Q:Exit→Act→World→Prop} {a:Act} {w:World}
theorem wpIn_loop_rounds {c:Code} (I:Nat→Act→World→Prop) (j:Nat) (h₀:I j a w)
  (round:∀ j a w,I j a w→c.wpIn F n P (Exit.then (fun a' w'=>∃ i,i < j∧I i a' w') Q) a w):(Code.loop c).wpIn F n P Q a w:=by
 intro b k cs hro hb hr
 have key:∀ j a w,I j a w→∃ e a' w',Q e a' w'∧ArrivesIn (Machine.fenced P F) P (lone (b.atR a (.code c :: .inLoop c::k)) cs w) b k cs e a' w':=by
  intro j
  induction j using Nat.strongRecOn with
  | _ j ih =>
    intro a w hI
    obtain ⟨e,a₁,w₁,hq,harr⟩:=round j a w hI b (.inLoop c::k) cs hro hb hr
    cases e with
    | normal =>
      obtain ⟨i,hlt,hI₁⟩:=hq
      obtain ⟨e₂,a₂,w₂,hq₂,harr₂⟩:=ih i hlt a₁ w₁ hI₁
      exact ⟨e₂,a₂,w₂,hq₂,.of_steps (StepsIn.trans harr (.one (fenced_calm hb hr rfl) stepR_inLoop)) harr₂⟩
    | exit id=>exact ⟨_,a₁,w₁,hq,.pass (x:=.inLoop c) rfl (fun _ _=>.inl (by simp)) harr⟩
    | goto l=>exact ⟨_,a₁,w₁,hq,.pass (x:=.inLoop c) rfl (fun _ _=>.inl (by simp)) harr⟩
    | ret=>exact ⟨_,a₁,w₁,hq,.pass (x:=.inLoop c) rfl (fun _ _=>.inl (by simp)) harr⟩
    | panic ch=>exact ⟨_,a₁,w₁,hq,.pass (x:=.inLoop c) rfl (fun _ _=>.inl (by simp)) harr⟩
    | outgrown=>exact ⟨_,a₁,w₁,hq,.pass (x:=.inLoop c) rfl (fun _ _=>.inl (by simp)) harr⟩
 obtain ⟨e,a',w',hq,harr⟩:=key j a w h₀
 exact ⟨e,a',w',hq,.of_steps (.one (fenced_calm hb hr rfl) stepR_loop) harr⟩
end rules
section
variable {T:Tab} {P:Program} {B0 nx0:Nat} {w:World} {ρ:Rho} {h:Hp} {M:Nat}
def DfR (ρ:Rho):List Nat→List Deferred→Prop
 | [],[]=>True
 | d::ds,m::ms=>(∃ x,ρ d=some x∧m={ target:=.collected x.c,args:=#[] })∧DfR ρ ds ms
 | _,_=>False
theorem DfR.mono {ρ ρ':Rho} (hr:Rho.le ρ ρ'):∀ {ds:List Nat} {ms:List Deferred},DfR ρ ds ms→DfR ρ' ds ms
 | [],[],_=>trivial
 | _::_,_::_,⟨⟨x,h1,h2⟩,h3⟩=>⟨⟨x,hr _ _ h1,h2⟩,h3.mono hr⟩
 | [],_::_,h=>h.elim
 | _::_,[],h=>h.elim
def ActR (w:World) (own:Nat→Prop) (ρ:Rho) (M:Nat) (fr:Fr) (a:Act):Prop:=FrR w own ρ M fr.tmps a.tmps.toList∧DfR ρ fr.dfr a.defers
theorem ActR.mono {w':World} {own own':Nat→Prop} (hs:Stable w own w' own') {ρ ρ':Rho} (hr:Rho.le ρ ρ') {fr:Fr} {a:Act} (h:ActR w own ρ M fr a):ActR w' own' ρ' M fr a:=⟨h.1.mono hs hr,h.2.mono hr⟩
def exM:Ex→Exit→Prop
 | .normal,.normal=>True
 | .exit i,.exit j=>i=j
 | .ret,.ret=>True
 | _,_=>False
def PostC (Q:Ex × Fr × Hp→Prop) (B0 nx0:Nat) (w0:World) (ρ0:Rho) (h0:Hp) (M:Nat) (e:Exit) (a':Act) (w':World):Prop :=
 ∃ x fr' h' ρ',Q (x,fr',h')∧exM x e∧HR B0 nx0 w' ρ' h'∧Ext w0 ρ0 h0 w' ρ' h'∧ActR w' (ownOf ρ' h') ρ' M fr' a'
theorem PostC.from {Q:Ex × Fr × Hp→Prop} {w1:World} {ρ1:Rho} {h1:Hp} (hE:Ext w ρ h w1 ρ1 h1) {e:Exit} {a':Act} {w':World} (hp:PostC Q B0 nx0 w1 ρ1 h1 M e a' w'):PostC Q B0 nx0 w ρ h M e a' w' :=
 let ⟨x,fr',h',ρ',q,m,H,E,A⟩:=hp; ⟨x,fr',h',ρ',q,m,H,hE.trans E,A⟩
def RoR (ρ:Rho):Option Nat→Option Nat→Prop
 | none,none=>True
 | some l,some c=>∃ x,ρ l=some x∧x.c=c
 | _,_=>False
theorem RoR.mono {ρ ρ':Rho} (hr:Rho.le ρ ρ') {ro roc:Option Nat} (h:RoR ρ ro roc):RoR ρ' ro roc:=by
 cases ro<;>cases roc<;>first | exact h | exact h.elim | (obtain ⟨x,h1,h2⟩:=h; exact ⟨x,hr _ _ h1,h2⟩)
theorem norm_get:∀ {as bs:List AV} {t:Nat} {x:AV},(norm as bs)[t]? = some x→∃ y,bs[t]? = some y∧(x = .junk∨x=y)
 | [],bs,t,x,h=>by
   have:norm [] bs=bs:=by cases bs<;>rfl
   rw [this] at h; exact ⟨x,h,.inr rfl⟩
 | a::as,[],t,x,h=>by simp [norm] at h
 | a::as,b::bs,0,x,h=>by
   simp [norm] at h
   refine ⟨b,rfl,?_⟩
   rw [← h]; split
   ·exact .inl rfl
   ·exact .inr rfl
 | a::as,b::bs,t+1,x,h=>by
   simp only [norm,List.getElem?_cons_succ] at h ⊢
   exact norm_get h
theorem norm_length:∀ {as bs:List AV},(norm as bs).length=bs.length
 | [],bs=>by cases bs<;>rfl
 | a::as,[]=>rfl
 | a::as,b::bs=>by simp [norm,norm_length (as:=as) (bs:=bs)]
theorem FrR.norm {own:Nat→Prop} {as bs:List AV} {vs:List Value} (h:FrR w own ρ M bs vs):FrR w own ρ M (AM.norm as bs) vs:=by
 refine ⟨by rw [norm_length]; exact h.1,h.2.1,fun t x hm hx=>?_⟩
 obtain ⟨y,h1,h2⟩:=norm_get hx
 obtain ⟨v,h3,h4⟩:=h.2.2 t y hm h1
 rcases h2 with rfl | rfl
 ·exact ⟨v,h3,.junk _ _⟩
 ·exact ⟨v,h3,h4⟩
theorem msk_get (u:Nat):∀ {l:List AV} {i t:Nat} {x:AV},(msk u i l)[t]? = some x→∃ y,l[t]? = some y∧(x = .junk∨x=y)
 | [],i,t,x,h=>by simp [msk] at h
 | a::l,i,0,x,h=>by
   simp [msk] at h
   refine ⟨a,rfl,?_⟩
   rw [← h]; split
   ·exact .inr rfl
   ·exact .inl rfl
 | a::l,i,t+1,x,h=>by
   simp only [msk,List.getElem?_cons_succ] at h ⊢
   exact msk_get u h
theorem msk_length (u:Nat):∀ {l:List AV} {i:Nat},(msk u i l).length=l.length
 | [],_=>rfl
 | a::l,i=>by simp [msk,msk_length u (l:=l)]
theorem FrR.msk {own:Nat→Prop} {bs:List AV} {vs:List Value} (u:Nat) (h:FrR w own ρ M bs vs):FrR w own ρ M (AM.msk u 0 bs) vs:=by
 refine ⟨by rw [msk_length]; exact h.1,h.2.1,fun t x hm hx=>?_⟩
 obtain ⟨y,h1,h2⟩:=msk_get u hx
 obtain ⟨v,h3,h4⟩:=h.2.2 t y hm h1
 rcases h2 with rfl | rfl
 ·exact ⟨v,h3,.junk _ _⟩
 ·exact ⟨v,h3,h4⟩
theorem getLoop_BR (H:HR B0 nx0 w ρ h) {l:Nat} {x:Loc} (hx:ρ l=some x) {mk:Nat} {tm:List AV} {ps:List Tmp} {as bd:Code} {st:LoopState} {pend:Option Code} {d:Nat}
  (hg:h.get l=some (.loop mk tm ps as bd st pend d)):∃ fn vs y,w.heap[x.c]? = some (.loop { state:=st,pending:=pend,fn:=fn,tmps:=vs.toArray,params:=ps.toArray,assign:=as,body:=bd,defers:=y }) ∧
   FrR w (ownOf ρ h) ρ mk tm vs∧(∃ z,ρ d=some z∧z.c=y)∧drawsOk as=true∧drawsOk bd=true:=H.blk l _ x hg hx
theorem HR.setLoop (H:HR B0 nx0 w ρ h) {l:Nat} {x:Loc} (hx:ρ l=some x) {mk:Nat} {tm:List AV} {ps:List Tmp} {as bd:Code} {st:LoopState} {pend:Option Code} {d:Nat}
  (hg:h.get l=some (.loop mk tm ps as bd st pend d)) (st':LoopState) (pend':Option Code) {fn:FuncId} {vs:List Value} {y:Nat}
  (hw:w.heap[x.c]? = some (.loop { state:=st,pending:=pend,fn:=fn,tmps:=vs.toArray,params:=ps.toArray,assign:=as,body:=bd,defers:=y })) :
  HR B0 nx0 (w.putObj x.c (.loop { state:=st',pending:=pend',fn:=fn,tmps:=vs.toArray,params:=ps.toArray,assign:=as,body:=bd,defers:=y })) ρ (h.set l (.loop mk tm ps as bd st' pend' d)) ∧
  Ext w ρ h (w.putObj x.c (.loop { state:=st',pending:=pend',fn:=fn,tmps:=vs.toArray,params:=ps.toArray,assign:=as,body:=bd,defers:=y })) ρ (h.set l (.loop mk tm ps as bd st' pend' d)):=by
 have hlt:=heap_lt hw
 obtain ⟨fn',vs',y',h1,h2,h3,h4⟩:=getLoop_BR H hx hg
 rw [hw] at h1
 simp only [Option.some.injEq,Obj.loop.injEq,Loop.mk.injEq] at h1
 obtain ⟨_,_,rfl,hvs,_,_,_,rfl⟩:=h1
 have hvs:vs=vs':=by simpa using congrArg Array.toList hvs
 subst hvs
 have e:(h.set l (.loop mk tm ps as bd st' pend' d)).leak l 0=h.set l (.loop mk tm ps as bd st' pend' d):=by simp [Hp.leak]
 have:=H.turn hg rfl hx (.loop mk tm ps as bd st' pend' d) rfl 0 (by simp [Blk.mx]) (Nat.zero_le _) (w.putObj x.c (.loop { state:=st',pending:=pend',fn:=fn,tmps:=vs.toArray,params:=ps.toArray,assign:=as,body:=bd,defers:=y }))
  (by simp) (fun c hc=>World.putObj_heap_other hc) rfl rfl rfl (fun own hst=>⟨fn,vs,y,World.putObj_heap_same hlt,h2.mono hst (Rho.le_refl _),h3,h4⟩)
 rwa [e] at this
theorem openLoop_sound (H:HR B0 nx0 w ρ h) {fr:Fr} {a:Act} (hA:ActR w (ownOf ρ h) ρ M fr a) {ro roc:Option Nat} (hro:RoR ρ ro roc) {ps:Array Tmp} {as bd:Code} (h1:drawsOk as=true) (h2:drawsOk bd=true)
  {l:Nat} {fr1:Fr} {h':Hp} (ho:openLoop M ro fr ps.toList as bd h=some (l,fr1,h')) (fn:FuncId) :
  ∃ c mark w' ρ' x,(Instr.enterLoop fn a.tmps ps as bd roc).run P w = .ok (c,mark) w'∧ρ' l=some x∧x.c=c∧HR B0 nx0 w' ρ' h'∧Ext w ρ h w' ρ' h'∧ActR w' (ownOf ρ' h') ρ' M fr1 { a with defers:=mark++a.defers }:=by
 unfold openLoop at ho
 cases ro with
 | none =>
   cases roc with
   | some c=>exact hro.elim
   | none =>
     simp only [Option.some.injEq,Prod.mk.injEq] at ho
     obtain ⟨rfl,rfl,rfl⟩:=ho
     obtain ⟨H1,E1⟩:=H.push (.deferred (some [])) (.dfr false) ⟨w.heap.size,0,0,0⟩ (w.alloc (.deferred (some []))) rfl rfl (by simp [Blk.mx]) (fun own ρ' hst hle=>by
      show (w.heap.push _)[w.heap.size]? = _; simp)
     have hA1:=hA.mono E1.stable (E1.le H.dom)
     have hd:(ρ.set h.nx ⟨w.heap.size,0,0,0⟩) h.nx=some ⟨w.heap.size,0,0,0⟩:=by simp [Rho.set]
     obtain ⟨H2,E2⟩:=H1.push (.loop { state:=.ready,pending:=none,fn,tmps:=a.tmps,params:=ps,assign:=as,body:=bd,defers:=w.heap.size }) (.loop M (AM.msk (needS ps.toList as bd) 0 fr.tmps) ps.toList as bd .ready none h.nx) ⟨(w.alloc (.deferred (some []))).heap.size,0,0,0⟩
      ((w.alloc (.deferred (some []))).alloc (.loop { state:=.ready,pending:=none,fn,tmps:=a.tmps,params:=ps,assign:=as,body:=bd,defers:=w.heap.size })) rfl rfl
      (by
       have:=(hA.1.msk (needS ps.toList as bd)).mx_le H.dom
       show max (mxm M 0 (AM.msk (needS ps.toList as bd) 0 fr.tmps)) (h.nx+1)≤h.nx+1
       omega) (fun own ρ' hst hle=>by
      refine ⟨fn,a.tmps.toList,w.heap.size,?_,(hA1.1.msk _).mono hst hle,⟨_,hle _ _ hd,rfl⟩,h1,h2⟩
      rw [Array.toArray_toList,Array.toArray_toList]; exact World.alloc_heap_new _ _)
     refine ⟨w.heap.size+1,_,_,_,⟨(w.alloc (.deferred (some []))).heap.size,0,0,0⟩,run_enterLoop_outer fn a.tmps ps as bd,?_,by simp,H2,E1.trans E2,?_,?_⟩
     ·show (Rho.set _ (h.nx+1) _) (h.nx+1)=_; simp [Rho.set]
     ·exact (hA1.mono E2.stable (E2.le H1.dom)).1
     ·refine ⟨⟨⟨w.heap.size,0,0,0⟩,(E2.le H1.dom) _ _ hd,rfl⟩,hA1.2.mono (E2.le H1.dom)⟩
 | some l₀ =>
   cases roc with
   | none=>exact hro.elim
   | some c₀ =>
     obtain ⟨x₀,hx₀,rfl⟩:=hro
     simp only at ho
     split at ho
     case h_2=>cases ho
     rename_i mk tm ps' as' bd' st pend d hg
     simp only [Option.some.injEq,Prod.mk.injEq] at ho
     obtain ⟨rfl,rfl,rfl⟩:=ho
     obtain ⟨fn',vs,y,g1,g2,⟨z,g3,g4⟩,_⟩:=getLoop_BR H hx₀ hg
     obtain ⟨H2,E2⟩:=H.push (.loop { state:=.ready,pending:=none,fn,tmps:=a.tmps,params:=ps,assign:=as,body:=bd,defers:=y }) (.loop M (AM.msk (needS ps.toList as bd) 0 fr.tmps) ps.toList as bd .ready none d) ⟨w.heap.size,0,0,0⟩
      (w.alloc (.loop { state:=.ready,pending:=none,fn,tmps:=a.tmps,params:=ps,assign:=as,body:=bd,defers:=y })) rfl rfl
      (by
       have:=(hA.1.msk (needS ps.toList as bd)).mx_le H.dom
       have:=H.dom _ _ g3
       show max (mxm M 0 (AM.msk (needS ps.toList as bd) 0 fr.tmps)) (d+1)≤h.nx
       omega) (fun own ρ' hst hle=>by
      refine ⟨fn,a.tmps.toList,y,?_,(hA.1.msk _).mono hst hle,⟨z,hle _ _ g3,g4⟩,h1,h2⟩
      show (w.heap.push _)[w.heap.size]? = _
      simp)
     refine ⟨w.heap.size,[],_,_,⟨w.heap.size,0,0,0⟩,?_,?_,rfl,H2,E2,?_⟩
     ·unfold Instr.enterLoop
      simp only [Sem.run_bind,run_getLoop g1,Result.andThen,Sem.run_pure,run_newObj_alloc]
     ·simp [Rho.set]
     ·exact hA.mono E2.stable (E2.le H.dom)
end
end Go.Proofs.YtdjngcfnlfgjkaaGreatDoor.AM

namespace Go.Proofs.YtdjngcfnlfgjkaaGreatDoor.AM
open Go.RowKit
variable [Glob]
section
variable {T:Tab} {P:Program} {M:Nat}
theorem fzV_rel {B0 nx0:Nat} {w:World} {ρ:Rho} {h:Hp} (H:HR B0 nx0 w ρ h) {b k:Nat} {rows:List (List AV)} (hg:h.get b=some (.cells k rows)) (hm:mxss rows=0) {a:AV} {v:Value} (hr:Rel w (ownOf ρ h) ρ a v) :
  Rel w (ownOf ρ (h.set b .dead)) ρ (fzV b k rows a) v:=by
 have hget:∀ c C,(h.set b .dead).get c=some C→C.live=true→c ≠ b∧h.get c=some C:=by
  intro c C h1 h2
  rw [get_set] at h1
  by_cases hc:c=b
  ·subst hc
   rw [hg] at h1
   simp only [if_true,Option.map_some,Option.some.injEq] at h1
   subst h1; simp [Blk.live] at h2
  ·rw [if_neg hc] at h1; exact ⟨hc,h1⟩
 have hown:∀ c,ownOf ρ (h.set b .dead) c→ownOf ρ h c:=by
  rintro c (hX | ⟨d,C,y,h1,h2,h3,h4⟩)
  ·exact .inl hX
  obtain ⟨_,h5⟩:=hget d C h1 h2
  exact .inr ⟨d,C,y,h5,h2,h3,h4⟩
 have hst:Stable w (ownOf ρ h) w (ownOf ρ (h.set b .dead)):=fun c o hc ho=>⟨ho,fun h1=>hc (hown c h1)⟩
 have hw:=hr.mono hst (Rho.le_refl _)
 cases a<;>simp only [fzV]<;>try exact hw
 rename_i c off len
 by_cases hc:c=b
 ·subst hc
  rw [if_pos rfl]
  by_cases hfit:off+len≤rows.length
  ·rw [if_pos hfit]
   obtain ⟨x,a,cap,rfl,hx,hl',hcap,hadr⟩:=hr.ms_inv
   obtain ⟨arr,e,vs,h1,h2,h3,h4,h5,h6,h7⟩:=H.blk c _ x hg hx
   have hfree:¬ ownOf ρ (h.set c .dead) x.c:=by
    rintro (hX | ⟨d,C,y,g1,g2,g3,g4⟩)
    ·have:=H.xlo _ hX; have:=H.low c _ x hg rfl hx; omega
    ·obtain ⟨g5,g6⟩:=hget d C g1 g2
     exact g5 (H.inj d c C _ y x g6 hg g2 rfl g3 hx g4)
   have g3d:∀ r∈rows.drop off,r.length=x.k:=fun r hr=>h3 r (List.mem_of_mem_drop hr)
   have hflat:((rows.drop off).take len).flatten=(rows.flatten.drop (off * x.k)).take (len * x.k):=by
    rw [flat_take g3d _ (by simp; omega),flat_drop h3 _ (by omega)]
   have hmm:mxs rows.flatten=0:=by rw [mxss_flat] at hm; exact hm
   have hrel:Rels w (ownOf ρ (h.set c .dead)) noRho ((rows.drop off).take len).flatten ((vs.drop (off * x.k)).take (len * x.k)):=by
    rw [hflat]; exact (((h6.closed hmm).mono hst (Rho.le_refl _)).drop _).take _
   refine .sl _ ⟨x.c,a,none⟩ k _ _ len cap ?_ ?_ hrel ?_ ?_
   ·simp; omega
   ·intro r hr
    rw [h3 r (List.mem_of_mem_drop (List.mem_of_mem_take hr)),h2.2]
   ·intro j v hj
    rw [List.getElem?_take] at hj
    split at hj
    case isFalse=>cases hj
    rename_i hjn
    rw [List.getElem?_drop] at hj
    have hoff:off < x.cap:=by
     rcases Nat.eq_zero_or_pos len with h0 | h0
     ·subst h0; simp at hjn
     ·omega
    obtain ⟨h8,h9⟩:=h7 _ _ hj
    refine ⟨?_,rfl,hfree,h9⟩
    have:a+j=x.base+(off * x.k+j):=by rw [hadr hoff]; omega
    simp [World.cell?,h1,this,h8]
   ·omega
  ·rw [if_neg hfit]; exact hw
 ·rw [if_neg hc]; exact hw
theorem fzSlot_sound {B0 nx0:Nat} {w:World} {ρ:Rho} {s:List AV × Hp} (H:HR B0 nx0 w ρ s.2) {vs:List Value} (hf:FrR w (ownOf ρ s.2) ρ M s.1 vs) (t:Nat) :
  HR B0 nx0 w ρ (fzSlot M s t).2∧Ext w ρ s.2 w ρ (fzSlot M s t).2∧FrR w (ownOf ρ (fzSlot M s t).2) ρ M (fzSlot M s t).1 vs:=by
 have same:HR B0 nx0 w ρ s.2∧Ext w ρ s.2 w ρ s.2∧FrR w (ownOf ρ s.2) ρ M s.1 vs:=⟨H,Ext.refl _ _ _,hf⟩
 unfold fzSlot
 split
 ·exact same
 ·rename_i hM
  split
  ·rename_i b off len hb
   split
   ·rename_i k rows hg
    split
    ·rename_i hm
     rw [nth_eq] at hb
     obtain ⟨v,hv,hr⟩:=hf.2.2 t _ (by simpa using hM) hb
     obtain ⟨x,_,_,_,hx,_⟩:=hr.ms_inv
     obtain ⟨K1,K2⟩:=H.kill hx
     refine ⟨K1,K2,by simpa using hf.1,hf.2.1,fun u y hu hy=>?_⟩
     simp only [List.getElem?_map,Option.map_eq_some_iff] at hy
     obtain ⟨y0,hy0,rfl⟩:=hy
     obtain ⟨v',hv',hr'⟩:=hf.2.2 u y0 hu hy0
     exact ⟨v',hv',fzV_rel H hg hm hr'⟩
    ·exact same
   ·exact same
  ·exact same
theorem fzFold_sound {B0 nx0:Nat} {w:World} {ρ:Rho} {vs:List Value}:∀ (l:List Nat) {s:List AV × Hp},HR B0 nx0 w ρ s.2→FrR w (ownOf ρ s.2) ρ M s.1 vs →
  HR B0 nx0 w ρ (l.foldl (fzSlot M) s).2∧Ext w ρ s.2 w ρ (l.foldl (fzSlot M) s).2∧FrR w (ownOf ρ (l.foldl (fzSlot M) s).2) ρ M (l.foldl (fzSlot M) s).1 vs
 | [],s,H,hf=>⟨H,Ext.refl _ _ _,hf⟩
 | t::l,s,H,hf=>by
   obtain ⟨h1,h2,h3⟩:=fzSlot_sound H hf t
   obtain ⟨g1,g2,g3⟩:=fzFold_sound l h1 h3
   exact ⟨g1,h2.trans g2,g3⟩
theorem preFz_sound {B0 nx0:Nat} {w:World} {ρ:Rho} {h:Hp} (H:HR B0 nx0 w ρ h) {fr:List AV} {vs:List Value} (hf:FrR w (ownOf ρ h) ρ M fr vs) (ops:Array Oper) :
  HR B0 nx0 w ρ (preFz T M ops fr h).2∧Ext w ρ h w ρ (preFz T M ops fr h).2∧FrR w (ownOf ρ (preFz T M ops fr h).2) ρ M (preFz T M ops fr h).1 vs :=
 fzFold_sound _ (s:=(fr,h)) H hf
theorem exec_sound (hT:T.Of P) {iv:Inv} (hiv:InvOk T P iv) (k:Nat) (ro:Option Nat):∀ (c:Code),drawsOk c=true→∀ (fr:Fr) (h:Hp) (Q:Ex × Fr × Hp→Prop) (B0 nx0:Nat) (w:World) (ρ:Rho) (a:Act) (roc:Option Nat),
  HR B0 nx0 w ρ h→ActR w (ownOf ρ h) ρ M fr a→RoR ρ ro roc→(exec T iv k M ro c fr h).post Q→c.wpIn (FW roc) 0 P (PostC Q B0 nx0 w ρ h M) a w:=by
 intro c
 induction c with
 | skip =>
   intro _ fr h Q B0 nx0 w ρ a roc H A R hs
   exact wpIn_skip ⟨.normal,fr,h,ρ,hs,trivial,H,Ext.refl _ _ _,A⟩
 | region id ops draw =>
   intro hd fr h Q B0 nx0 w ρ a roc H A R hs
   simp only [exec,Nd.post_bind] at hs
   obtain ⟨Hz,Ez,Fz⟩:=preFz_sound (T:=T) H A.1 ops
   have fin:∀ (s':Sl) (h':Hp) (a':Act) (w':World) (ρ':Rho),Q (.normal,⟨s'.fr,fr.dfr⟩,h')→HR B0 nx0 w' ρ' h'→Ext w ρ h w' ρ' h'→FrR w' (ownOf ρ' h') ρ' M s'.fr a'.tmps.toList→a'.defers=a.defers→PostC Q B0 nx0 w ρ h M .normal a' w':=by
    intro s' h' a' w' ρ' hq h1 h2 h3 h4
    exact ⟨.normal,_,h',ρ',hq,trivial,h1,h2,h3,by rw [h4]; exact A.2.mono (h2.le H.dom)⟩
   cases draw with
   | true=>exact draw_sound hT hiv Hz (by simpa [drawsOk] using hd) Fz hs fun s' h' a' w' ρ' hq h1 h2 h3 h4=>fin s' h' a' w' ρ' hq h1 (Ez.trans h2) h3 h4
   | false=>exact region_sound hT hiv Hz Fz hs fun s' h' a' w' ρ' hq h1 h2 h3 h4=>fin s' h' a' w' ρ' hq h1 (Ez.trans h2) h3 h4
 | seq x y ihx ihy =>
   intro hd fr h Q B0 nx0 w ρ a roc H A R hs
   simp only [drawsOk,Bool.and_eq_true] at hd
   simp only [exec,Nd.post_bind] at hs
   refine wpIn_seq (wpIn_mono (ihx hd.1 fr h _ B0 nx0 w ρ a roc H A R hs) fun e a' w' hp=>?_)
   obtain ⟨x',fr',h',ρ',q,m,H1,E1,A1⟩:=hp
   cases x'<;>cases e<;>simp only [exM] at m
   ·refine wpIn_mono (ihy hd.2 fr' h' Q B0 nx0 w' ρ' a' roc H1 A1 (R.mono (E1.le H.dom)) q) fun e a'' w'' hp=>PostC.from E1 hp
   ·subst m; exact ⟨_,fr',h',ρ',q,rfl,H1,E1,A1⟩
   ·exact ⟨_,fr',h',ρ',q,trivial,H1,E1,A1⟩
 | cond c x y ihx ihy =>
   intro hd fr h Q B0 nx0 w ρ a roc H A R hs
   simp only [drawsOk,Bool.and_eq_true] at hd
   simp only [exec] at hs
   have hev:=(SlR.of_frR A.1).ev
   split at hs
   ·rename_i hc
    exact wpIn_cond_true (hev _ _ hc).bool_inv (ihx hd.1 fr h Q B0 nx0 w ρ a roc H A R hs)
   ·rename_i hc
    exact wpIn_cond_false (hev _ _ hc).bool_inv (ihy hd.2 fr h Q B0 nx0 w ρ a roc H A R hs)
   ·exact hs.elim
 | block id c ih =>
   intro hd fr h Q B0 nx0 w ρ a roc H A R hs
   simp only [exec,Nd.post_bind] at hs
   refine wpIn_block (wpIn_mono (ih hd fr h _ B0 nx0 w ρ a roc H A R hs) fun e a' w' hp=>?_)
   obtain ⟨x',fr',h',ρ',q,m,H1,E1,A1⟩:=hp
   cases x'<;>cases e<;>simp only [exM] at m
   ·exact ⟨.normal,fr',h',ρ',q,trivial,H1,E1,A1⟩
   ·subst m
    rename_i i
    simp only at q
    by_cases hi:i=id
    ·simp only [hi,if_true] at q
     simp only [Exit.inBlock,hi,if_true]
     exact ⟨.normal,fr',h',ρ',q,trivial,H1,E1,A1⟩
    ·simp only [hi,if_false] at q
     simp only [Exit.inBlock,hi,if_false]
     exact ⟨.exit i,fr',h',ρ',q,rfl,H1,E1,A1⟩
   ·exact ⟨.ret,fr',h',ρ',q,trivial,H1,E1,A1⟩
 | loop c ih =>
   intro hd fr h Q B0 nx0 w ρ a roc H A R hs
   simp only [exec] at hs
   refine wpIn_loop_rounds (fun j a' w'=>∃ fr' h' ρ',(iter (exec T iv k M ro c) j fr' h').post Q∧HR B0 nx0 w' ρ' h'∧Ext w ρ h w' ρ' h'∧ActR w' (ownOf ρ' h') ρ' M fr' a') k
    ⟨_,h,ρ,hs,H,Ext.refl _ _ _,A.1.norm,A.2⟩ ?_
   rintro j a' w' ⟨fr',h',ρ',hs',H',E',A'⟩
   cases j with
   | zero=>exact hs'.elim
   | succ j =>
     simp only [iter,Nd.post_bind] at hs'
     refine wpIn_mono (ih hd fr' h' _ B0 nx0 w' ρ' a' roc H' A' (R.mono (E'.le H.dom)) hs') fun e a'' w'' hp=>?_
     obtain ⟨x',fr'',h'',ρ'',q,m,H1,E1,A1⟩:=hp
     cases x'<;>cases e<;>simp only [exM] at m
     ·exact ⟨j,Nat.lt_succ_self _,_,h'',ρ'',q,H1,E'.trans E1,A1.1.norm,A1.2⟩
     ·subst m; exact ⟨_,_,h'',ρ'',q,rfl,H1,E'.trans E1,A1.1.norm,A1.2⟩
     ·exact ⟨_,fr'',h'',ρ'',q,trivial,H1,E'.trans E1,A1⟩
 | rangeFunc f params assign body iha ihb =>
   intro hd fr h Q B0 nx0 w ρ a roc H A R hs
   simp only [drawsOk,Bool.and_eq_true] at hd
   simp only [exec] at hs
   split at hs
   case h_2=>exact hs.elim
   rename_i g first captured l fr1 h1 hf ho
   rw [Nd.post_bind] at hs
   refine wpIn_rangeFunc fun fn _=>?_
   obtain ⟨va,vb,hv,r1,r2⟩:=((SlR.of_frR A.1).ev _ _ hf).func_inv
   obtain ⟨c,mark,w1,ρ1,x,hen,hl,hxc,H1,E1,A1⟩:=openLoop_sound (P:=P) H A R hd.1 hd.2 ho fn
   subst hxc
   have hst:=E1.stable
   have hle:=E1.le H.dom
   obtain ⟨⟨fnn,f1,f2,f3⟩,hcall⟩:=hiv.fn g _ _ _ _ B0 nx0 w1 ρ1 (va++[Value.func (.yield x.c) #[] #[]]) vb H1 ((r1.mono hst hle).append (.cons _ _ _ _ _ (.yld _ _ _ hl) (.nil _))) (r2.mono hst hle) hs
   refine ⟨x.c,mark,w1,{ target:=.fn (.func g) vb.toArray,args:=va.toArray++#[Value.func (.yield x.c) #[] #[]] },w1,g,(va++[Value.func (.yield x.c) #[] #[]]).toArray++vb.toArray,w1,hen,?_,fun _ _=>trivial,?_,FW_depth _ _,?_⟩
   ·have e:Array.map a.eval #[Operand.const (Value.func (Fn.yield x.c) #[] #[])]=#[Value.func (Fn.yield x.c) #[] #[]]:=by simp [Act.eval]
    simp only [resolve,rangeCall,hv,Deferred.ofValue,e]; rfl
   ·simp only [invoke]
    rw [callFunc_run f1 f2 f3]
    congr 2
    simp
   ·refine CallsIn.mono (R:=RetP _ B0 nx0 w1 ρ1 h1) hcall fun e w' hr=>?_
    cases e with
    | panicked _=>exact hr.elim
    | outgrown=>exact hr.elim
    | returned v =>
      obtain ⟨r,h',ρ',hq,H2,E2,_⟩:=hr
      have hl2:ρ' l=some x:=(E2.le H1.dom) _ _ hl
      simp only at hq
      split at hq
      case h_2=>exact hq.elim
      rename_i mk tm ps as bd st pend d hg
      split at hq
      ·exact hq.elim
      ·rename_i hst
       obtain ⟨fn',vs,y,g1,_⟩:=getLoop_BR H2 hl2 hg
       obtain ⟨H3,E3⟩:=H2.setLoop hl2 hg .exhausted pend g1
       have hen:=run_endLoop (P:=P) g1 (by simpa using hst)
       have A3:ActR _ (ownOf ρ' _) ρ' M fr1 { a with defers:=mark++a.defers }:=A1.mono ((E2.trans E3).stable) ((E2.trans E3).le H1.dom)
       refine ⟨pend,_,hen,?_⟩
       have E:=(E1.trans E2).trans E3
       cases pend with
       | none=>exact ⟨.normal,fr1,_,ρ',hq,trivial,H3,E,A3⟩
       | some j =>
         cases j<;>simp only at hq<;>try exact hq.elim
         ·exact wpIn_exit ⟨.exit _,fr1,_,ρ',hq,rfl,H3,E,A3⟩
         ·exact wpIn_ret ⟨.ret,fr1,_,ρ',hq,trivial,H3,E,A3⟩
 | exit id =>
   intro _ fr h Q B0 nx0 w ρ a roc H A R hs
   exact wpIn_exit ⟨.exit id,fr,h,ρ,hs,rfl,H,Ext.refl _ _ _,A⟩
 | scope c ih =>
   intro hd fr h Q B0 nx0 w ρ a roc H A R hs
   have h1:=ih hd fr h Q B0 nx0 w ρ a roc H A R hs
   intro b k cs hro hb hr
   have s0:step P (lone (b.atR a (.code (.scope c)::k)) cs w) = .next (lone (b.atR a (.code c :: .inScope c::k)) cs w):=step_lone_go (by simp [stepG,stepG.exec,Frame.atR])
   obtain ⟨e,a₁,w₁,hq,harr⟩:=h1 b (.inScope c::k) cs hro hb hr
   have f0:(lone (b.atR a (.code (.scope c)::k)) cs w).fenced P (FW roc):=fenced_calm (n:=0) hb hr rfl
   cases e with
   | normal =>
     have s1:step P (lone (b.atR a₁ (.inScope c::k)) cs w₁) = .next (lone (b.atR a₁ k) cs w₁):=step_lone_go (by simp [stepG,stepG.exec,Frame.atR])
     exact ⟨.normal,a₁,w₁,hq,.head f0 s0 (StepsIn.trans harr (.one (fenced_calm (n:=0) hb hr rfl) s1))⟩
   | exit id =>
     have hx:∀ k,exitTo id (.inScope c::k)=exitTo id k:=fun k=>by simp [exitTo]
     exact ⟨.exit id,a₁,w₁,hq,fun k' hk=>.head f0 s0 (harr.1 k' (by rw [hx]; exact hk)),fun hr' hk=>let ⟨k₁,h1,h2⟩:=harr.2 hr' (by rw [hx]; exact hk); ⟨k₁,h1,.head f0 s0 h2⟩⟩
   | goto l=>obtain ⟨x,_,_,_,_,m,_⟩:=hq; cases x<;>exact m.elim
   | ret=>exact ⟨_,a₁,w₁,hq,.of_steps (.one f0 s0) harr⟩
   | panic ch=>exact ⟨_,a₁,w₁,hq,.of_steps (.one f0 s0) harr⟩
   | outgrown=>exact ⟨_,a₁,w₁,hq,.of_steps (.one f0 s0) harr⟩
 | label l =>
   intro _ fr h Q B0 nx0 w ρ a roc H A R hs
   exact wpIn_label ⟨.normal,fr,h,ρ,hs,trivial,H,Ext.refl _ _ _,A⟩
 | goto l=>intro _ fr h Q B0 nx0 w ρ a roc H A R hs; exact hs.elim
 | ret =>
   intro _ fr h Q B0 nx0 w ρ a roc H A R hs
   exact wpIn_ret ⟨.ret,fr,h,ρ,hs,trivial,H,Ext.refl _ _ _,A⟩
 | refuse _=>intro _ fr h Q B0 nx0 w ρ a roc H A R hs; exact hs.elim
end
end Go.Proofs.YtdjngcfnlfgjkaaGreatDoor.AM

namespace Go.Proofs.YtdjngcfnlfgjkaaGreatDoor.AM
open Go.RowKit
variable [Glob]
section
variable {T:Tab} {P:Program} {B0 nx0:Nat} {w:World} {ρ:Rho} {h:Hp} {M:Nat} {own own2:Nat→Prop}
theorem Rels.split {a b:List AV} {v:List Value} (h:Rels w own ρ (a++b) v):∃ v1 v2,v=v1++v2∧Rels w own ρ a v1∧Rels w own ρ b v2:=by
 refine ⟨v.take a.length,v.drop a.length,(List.take_append_drop _ _).symm,?_,?_⟩
 ·have:=h.take a.length; simpa using this
 ·have:=h.drop a.length; simpa using this
theorem frzRow_rel {f:AV→AV} (hf:∀ a v,Rel w own ρ a v→Rel w own2 ρ (f a) v) (hw:∀ a v,Rel w own ρ a v→Rel w own2 ρ a v):∀ {r:List AV} {vs:List Value},Rels w own ρ r vs→Rels w own2 ρ (frzRow f r) vs:=by
 intro r vs h
 have h1:∀ {r:List AV} {vs:List Value},Rels w own ρ r vs→Rels w own2 ρ (r.map f) vs:=by
  intro r
  induction r with
  | nil=>intro vs h; cases h; exact .nil _
  | cons a as ih=>intro vs h; cases h with | cons _ _ _ _ _ h1 h2=>exact .cons _ _ _ _ _ (hf _ _ h1) (ih h2)
 have h2:∀ {r:List AV} {vs:List Value},Rels w own ρ r vs→Rels w own2 ρ r vs:=by
  intro r
  induction r with
  | nil=>intro vs h; cases h; exact .nil _
  | cons a as ih=>intro vs h; cases h with | cons _ _ _ _ _ h1 h2=>exact .cons _ _ _ _ _ (hw _ _ h1) (ih h2)
 unfold frzRow
 split
 ·exact h2 h
 ·exact h1 h
theorem frzRow_length (f:AV→AV) (r:List AV):(frzRow f r).length=r.length:=by unfold frzRow; split<;>simp
theorem frzRows_rel {f:AV→AV} (hf:∀ a v,Rel w own ρ a v→Rel w own2 ρ (f a) v) (hw:∀ a v,Rel w own ρ a v→Rel w own2 ρ a v):∀ {rows:List (List AV)} {vs:List Value},Rels w own ρ rows.flatten vs→Rels w own2 ρ (rows.map (frzRow f)).flatten vs
 | [],vs,h=>by cases h; exact .nil _
 | r::rows,vs,h=>by
   obtain ⟨v1,v2,rfl,h1,h2⟩:=Rels.split (a:=r) (b:=rows.flatten) (by simpa using h)
   simpa using (frzRow_rel hf hw h1).append (frzRows_rel hf hw h2)
theorem frz_sound2 (H:HR B0 nx0 w ρ h) {hk:Hp} {base:Nat} (hsub:∀ c C,hk.get c=some C→C.live=true→h.get c=some C) (hst:Stable w (ownOf ρ h) w own2)
  (hfree:∀ b B x,base≤b→hk.get b=some B→B.live=true→ρ b=some x→¬ own2 x.c) :
  ∀ (n:Nat) (a:AV) (v:Value),Rel w (ownOf ρ h) ρ a v→Rel w own2 ρ (frz hk base n a) v:=by
 have hw:∀ a v,Rel w (ownOf ρ h) ρ a v→Rel w own2 ρ a v:=fun a v hr=>hr.mono hst (Rho.le_refl _)
 intro n
 induction n with
 | zero=>intro a v hr; exact hw a v hr
 | succ n ih =>
   intro a v hr
   cases a<;>simp only [frz]<;>try exact hw _ _ hr
   case agg cs =>
    obtain ⟨vs,rfl,h1⟩:=hr.agg_inv
    exact .agg _ _ _ (frzRow_rel ih hw h1)
   case tuple cs =>
    obtain ⟨vs,rfl,h1⟩:=hr.tuple_inv
    exact .tuple _ _ _ (frzRow_rel ih hw h1)
   case func fn x y =>
    obtain ⟨va,vb,rfl,h1,h2⟩:=hr.func_inv
    exact .func _ _ _ _ _ _ (frzRow_rel ih hw h1) (frzRow_rel ih hw h2)
   case ptr b i o =>
    split
    case isFalse=>exact hw _ _ hr
    rename_i hb
    split
    case h_2=>exact hw _ _ hr
    rename_i k rows hg
    have hgk:=hg
    have hg:=hsub _ _ hgk rfl
    split
    case h_2=>exact hw _ _ hr
    rename_i r hrow
    unfold frzRef
    split
    case isFalse=>exact hw _ _ hr
    rename_i hm
    rw [nth_eq] at hrow
    obtain ⟨x,rfl,hx⟩:=hr.ptr_inv
    obtain ⟨arr,e,vs,h1,h2,h3,h4,h5,h6,h7⟩:=H.blk b _ x hg hx
    have hfr:=flat_row h3 hrow
    have hrel:Rels w (ownOf ρ h) ρ r ((vs.drop (i * x.k)).take x.k):=by
     have:=(h6.drop (i * x.k)).take x.k
     rwa [hfr] at this
    refine .ref _ _ _ (((vs.drop (i * x.k)).take x.k).drop o) (((frzRow_rel ih hw hrel).drop o).closed hm) ?_
    intro j v hj
    rw [List.getElem?_drop,List.getElem?_take] at hj
    split at hj
    case isFalse=>cases hj
    rw [List.getElem?_drop] at hj
    obtain ⟨h8,h9⟩:=h7 _ _ hj
    refine ⟨?_,rfl,hfree b _ x hb hgk rfl hx,h9⟩
    have:x.base+i * x.k+o+j=x.base+(i * x.k+(o+j)):=by omega
    simp [World.cell?,h1,this,h8]
   case ms b off len =>
    split
    case isFalse=>exact hw _ _ hr
    rename_i hb
    split
    case h_2=>exact hw _ _ hr
    rename_i k rows hg
    have hgk:=hg
    have hg:=hsub _ _ hgk rfl
    unfold frzSl
    split
    case isFalse=>exact hw _ _ hr
    rename_i hm
    obtain ⟨hfit,hm⟩:=hm
    obtain ⟨x,a,cap,rfl,hx,hl',hcap,hadr⟩:=hr.ms_inv
    obtain ⟨arr,e,vs,h1,h2,h3,h4,h5,h6,h7⟩:=H.blk b _ x hg hx
    have g3d:∀ r∈rows.drop off,r.length=x.k:=fun r hr=>h3 r (List.mem_of_mem_drop hr)
    have hflat:((rows.drop off).take len).flatten=(rows.flatten.drop (off * x.k)).take (len * x.k):=by
     rw [flat_take g3d _ (by simp; omega),flat_drop h3 _ (by omega)]
    have hrel:Rels w (ownOf ρ h) ρ ((rows.drop off).take len).flatten ((vs.drop (off * x.k)).take (len * x.k)):=by
     rw [hflat]; exact (h6.drop _).take _
    have hfin:=frzRows_rel ih hw hrel
    rw [mxss_flat] at hm
    refine .sl _ ⟨x.c,a,none⟩ k _ _ len cap ?_ ?_ (hfin.closed hm) ?_ ?_
    ·simp; omega
    ·intro r hr
     obtain ⟨r',hr',rfl⟩:=List.mem_map.1 hr
     rw [frzRow_length,h3 r' (List.mem_of_mem_drop (List.mem_of_mem_take hr')),h2.2]
    ·intro j v hj
     rw [List.getElem?_take] at hj
     split at hj
     case isFalse=>cases hj
     rename_i hjn
     rw [List.getElem?_drop] at hj
     have hoff:off < x.cap:=by
      rcases Nat.eq_zero_or_pos len with h0 | h0
      ·subst h0; simp at hjn
      ·omega
     obtain ⟨h8,h9⟩:=h7 _ _ hj
     refine ⟨?_,rfl,hfree b _ x hb hgk rfl hx,h9⟩
     have:a+j=x.base+(off * x.k+j):=by rw [hadr hoff]; omega
     simp [World.cell?,h1,this,h8]
    ·omega
   case mp b =>
    split
    case isFalse=>exact hw _ _ hr
    rename_i hb
    split
    case h_2=>exact hw _ _ hr
    rename_i es hg
    have hgk:=hg
    have hg:=hsub _ _ hgk rfl
    unfold frzIm
    split
    case isFalse=>exact hw _ _ hr
    rename_i hm
    obtain ⟨x,rfl,hx⟩:=hr.mp_inv
    obtain ⟨ents,clock,h1,h2,h3⟩:=H.blk b _ x hg hx
    simp only [List.all_eq_true,Bool.and_eq_true,beq_iff_eq] at hm
    have mx0:∀ {l:List AV},(∀ y∈l,y.mx=0)→mxs l=0:=by
     intro l
     induction l with
     | nil=>intro _; rfl
     | cons y l ihl=>intro hy; simp [mxs,hy y (.head _),ihl fun z hz=>hy z (.tail _ hz)]
    have hkeys:Rels w own2 ρ ((es.map fun e=>(e.1,frz hk base n e.2)).map (·.1)) (ents.toList.map (·.key)):=by
     have:(es.map fun e=>(e.1,frz hk base n e.2)).map (·.1)=es.map (·.1):=by simp
     rw [this]; exact h2.mono hst (Rho.le_refl _)
    have hv:Rels w own2 ρ ((es.map fun e=>(e.1,frz hk base n e.2)).map (·.2)) (ents.toList.map (·.val)):=by
     have e1:(es.map fun e=>(e.1,frz hk base n e.2)).map (·.2)=(es.map (·.2)).map (frz hk base n):=by simp
     rw [e1]
     have key:∀ {l:List AV} {vs:List Value},Rels w (ownOf ρ h) ρ l vs→Rels w own2 ρ (l.map (frz hk base n)) vs:=by
      intro l
      induction l with
      | nil=>intro vs h; cases h; exact .nil _
      | cons y l ihl=>intro vs h; cases h with | cons _ _ _ _ _ h1 h2=>exact .cons _ _ _ _ _ (ih _ _ h1) (ihl h2)
     exact key h3
    refine .im _ x.c _ ents clock h1 (hfree b _ x hb hgk rfl hx) (hkeys.closed (mx0 ?_)) (hv.closed (mx0 ?_))
    ·intro y hy
     obtain ⟨e,he,rfl⟩:=List.mem_map.1 hy
     exact (hm e he).1
    ·intro y hy
     obtain ⟨e,he,rfl⟩:=List.mem_map.1 hy
     exact (hm e he).2
theorem frz_sound (H:HR B0 nx0 w ρ h) {base:Nat} (ho:∀ c,own2 c→ρ.X c∨∃ b B x,b < base∧h.get b=some B∧B.live=true∧ρ b=some x∧x.c=c) :
  ∀ (n:Nat) (a:AV) (v:Value),Rel w (ownOf ρ h) ρ a v→Rel w own2 ρ (frz h base n a) v:=by
 have hst:Stable w (ownOf ρ h) w own2:=fun c o hc hh=>⟨hh,fun h2=>by
  rcases ho c h2 with hX | ⟨b,B,x,_,h3,h4,h5,h6⟩
  ·exact hc (.inl hX)
  ·exact hc (.inr ⟨b,B,x,h3,h4,h5,h6⟩)⟩
 have hfree:∀ b B x,base≤b→h.get b=some B→B.live=true→ρ b=some x→¬ own2 x.c:=by
  intro b B x hb hg hl hx h2
  rcases ho _ h2 with hX | ⟨b',B',x',g1,g2,g3,g4,g5⟩
  ·have:=H.xlo _ hX; have:=H.low b B x hg hl hx; omega
  have:=H.inj b b' B B' x x' hg g2 hl g3 hx g4 g5.symm
  omega
 exact frz_sound2 H (fun _ _ h _=>h) hst hfree
theorem HR.enter (H:HR B0 nx0 w ρ h):HR B0 h.nx w ρ h.enter∧∀ c,ownOf ρ h.enter c↔ownOf ρ h c:=by
 have hg:∀ b,h.enter.get b=h.get b:=get_enter h
 have hown:∀ c,ownOf ρ h.enter c↔ownOf ρ h c:=fun c=>by
  constructor
  ·rintro (hX | ⟨b,B,x,h1,h2⟩)
   ·exact .inl hX
   ·exact .inr ⟨b,B,x,by rw [← hg]; exact h1,h2⟩
  ·rintro (hX | ⟨b,B,x,h1,h2⟩)
   ·exact .inl hX
   ·exact .inr ⟨b,B,x,by rw [hg]; exact h1,h2⟩
 have hst:Stable w (ownOf ρ h) w (ownOf ρ h.enter):=fun c o hc ho=>⟨ho,fun h1=>hc ((hown c).1 h1)⟩
 refine ⟨⟨H.dom,?_,?_,?_,?_,?_,?_,Nat.le_refl _,H.sz,H.xlo,H.gk⟩,hown⟩
 ·intro b B x h1 h2; rw [hg] at h1; exact (H.blk b B x h1 h2).mono hst (Rho.le_refl _) rfl
 ·intro b b' B B' x x' h1 h2; rw [hg] at h1 h2; exact H.inj b b' B B' x x' h1 h2
 ·intro b B x h1; rw [hg] at h1; exact H.low b B x h1
 ·intro b B h1; rw [hg] at h1; exact H.mxb b B h1
 ·intro i hi; simp [Hp.enter,ids] at hi
 ·intro s hs i hi
  simp only [Hp.enter,List.map_cons,List.mem_cons] at hs
  rcases hs with rfl | hs
  ·exact (H.top i hi).2
  ·have:=H.rst s hs i hi; have:=H.nx; omega
theorem BR.cut {x:Loc} {B:Blk} {n:Nat} (hb:BR w own ρ x B) (hm:B.mx≤n):BR w own (ρ.below n) x B:=by
 cases B with
 | cells k rows =>
   obtain ⟨arr,e,vs,h1,h2,h3,h4,h5,h6,h7⟩:=hb
   exact ⟨arr,e,vs,h1,h2,h3,h4,h5,h6.cut (by simpa [Blk.mx,mxss_flat] using hm),h7⟩
 | map es =>
   obtain ⟨ents,clock,h1,h2,h3⟩:=hb
   simp only [Blk.mx] at hm
   exact ⟨ents,clock,h1,h2.cut (by omega),h3.cut (by omega)⟩
 | siter s pos=>exact hb
 | loop mk tm ps as bd st pend d =>
   obtain ⟨fn,vs,y,h1,h2,⟨z,h3,h4⟩,h5⟩:=hb
   simp only [Blk.mx] at hm
   exact ⟨fn,vs,y,h1,h2.cut (by omega),⟨z,by simp [Rho.below,h3]; omega,h4⟩,h5⟩
 | dfr taken=>exact hb
 | dead=>trivial
theorem lookRest_append_none {r:List (List (Nat × Blk))} {b:Nat} (h:∀ s∈r.map ids,b ∉ s):lookRest r b=none:=by
 induction r with
 | nil=>rfl
 | cons s r ih =>
   simp only [lookRest]
   rw [look_none (fun e he hb=>h (ids s) (by simp) (List.mem_map.2 ⟨e,he,hb⟩))]
   exact ih fun s' hs'=>h s' (by simp only [List.map_cons]; exact .tail _ hs')
theorem look_append (a b:List (Nat × Blk)) (c:Nat):look (a++b) c=match look a c with | some x=>some x | none=>look b c:=by
 induction a with
 | nil=>rfl
 | cons e a ih =>
   obtain ⟨d,x⟩:=e
   simp only [List.cons_append,look]
   split
   ·rfl
   ·exact ih
theorem leaveA_sound (H:HR B0 nx0 w ρ h) {w':World} {ρ':Rho} {h':Hp} (H':HR B0 h.nx w' ρ' h') (E:Ext w ρ h.enter w' ρ' h') {keep:Bool} {v:AV} {val:Value} (hv:Rel w' (ownOf ρ' h') ρ' v val) {Q:AV × Hp→Prop}
  (hs:(leaveA h keep v h').post Q):∃ r h2 ρ2,Q (r,h2)∧HR B0 nx0 w' ρ2 h2∧Ext w ρ h w' ρ2 h2∧Rel w' (ownOf ρ2 h2) ρ2 r val:=by
 unfold leaveA at hs
 cases hrest:h'.rest with
 | nil=>simp only [hrest] at hs; exact hs.elim
 | cons t rs =>
   simp only [hrest] at hs
   have hE:=E.rest
   rw [hrest] at hE
   simp only [Hp.enter,List.map_cons,List.cons.injEq] at hE
   obtain ⟨ht,hrs⟩:=hE
   obtain ⟨l,hl1,hl2⟩:=E.top
   have htop:ids h'.top=l:=by rw [hl1]; simp [Hp.enter,ids]
   have ebase:h.enter.nx=h.nx:=rfl
   have hown0:∀ c,ownOf ρ h.enter c↔ownOf ρ h c:=H.enter.2
   have htopge:∀ b,b < h.nx→look h'.top b=none:=by
    intro b hb
    refine look_none fun e he hbb=>?_
    have:=(hl2 e.1 (by rw [← htop]; exact List.mem_map.2 ⟨e,he,rfl⟩)).1
    rw [ebase] at this; omega
   have hget':∀ b,h'.get b=match look h'.top b with | some x=>some x | none=>(match look t b with | some x=>some x | none=>lookRest rs b):=by
    intro b; unfold Hp.get; rw [hrest]; rfl
   generalize hv':(if keep=true then v else if v.mx≤h.nx then v else frz h' h.nx 12 v)=v' at hs
   split at hs
   ·
    rename_i hc
    obtain ⟨hlk,hmx⟩:=hc
    have hq:Q _:=hs
    let h2:Hp:={ nx:=h.nx,top:=t,rest:=rs,lk:=h.lk }
    have hg2:∀ b,h2.get b=(match look t b with | some x=>some x | none=>lookRest rs b):=fun b=>rfl
    have hlt:∀ b B,h2.get b=some B→b < h.nx∧h'.get b=some B:=by
     intro b B hb
     have hb':b < h.nx:=by
      rcases Nat.lt_or_ge b h.nx with h1 | h1
      ·exact h1
      ·exfalso
       rw [hg2] at hb
       rw [look_none (l:=t) (fun e he hbb=>?_),lookRest_append_none (fun s hs hbs=>?_)] at hb
       ·cases hb
       ·rw [hrs] at hs
        have:=H.rst s hs b hbs; have:=H.nx; omega
       ·have h3:b∈ids t:=List.mem_map.2 ⟨e,he,hbb⟩
        rw [ht] at h3
        have:=(H.top b h3).2; omega
     exact ⟨hb',by rw [hget',htopge b hb']; rw [hg2] at hb; exact hb⟩
    have hgl:∀ b,b < h.nx→h2.get b=h'.get b:=fun b hb=>by rw [hget',htopge b hb,hg2]
    have hmxb:∀ b B,h2.get b=some B→B.mx≤h.nx:=by
     intro b B hb
     obtain ⟨h1,h3⟩:=hlt b B hb
     rcases E.grow b B (by rw [ebase]; exact h1) h3 with ⟨C,h4,h5⟩ | ⟨l',h4,h5⟩
     ·rw [get_enter] at h4
      have:=H.mxb b C h4; omega
     ·rw [h4] at hlk
      simp [lkOk] at hlk; omega
    have hown:∀ c,ownOf (ρ'.below h.nx) h2 c→ρ'.X c∨∃ b B x,b < h.nx∧h'.get b=some B∧B.live=true∧ρ' b=some x∧x.c=c:=by
     rintro c (hX | ⟨b,B,x,h1,h3,h4,h5⟩)
     ·exact .inl hX
     obtain ⟨h6,h7⟩:=hlt b B h1
     exact .inr ⟨b,B,x,h6,h7,h3,by simpa [Rho.below,h6] using h4,h5⟩
    have hst:Stable w' (ownOf ρ' h') w' (ownOf (ρ'.below h.nx) h2):=fun c o hc ho=>⟨ho,fun h1=>by
     rcases hown c h1 with hX | ⟨b,B,x,_,h3,h4,h5,h6⟩
     ·exact hc (.inl hX)
     ·exact hc (.inr ⟨b,B,x,h3,h4,h5,h6⟩)⟩
    have bel:∀ b x,(ρ'.below h.nx) b=some x→b < h.nx∧ρ' b=some x:=by
     intro b x hb
     unfold Rho.below at hb
     simp only at hb
     split at hb
     ·exact ⟨by assumption,hb⟩
     ·cases hb
    refine ⟨_,h2,ρ'.below h.nx,hq,⟨?_,?_,?_,?_,?_,?_,?_,H.nx,H'.sz,H'.xlo,H'.gk⟩,⟨E.os,E.tape,E.output,E.size,?_,?_,?_,Nat.le_refl _,?_,hrs,⟨[],by simpa using ht,fun _ h=>by cases h⟩,?_,fun l hl=>⟨l,hl,Nat.le_refl _⟩,E.xs,E.xf⟩,?_⟩
    ·intro b x hb; exact (bel b x hb).1
    ·intro b B x h1 h3
     obtain ⟨h4,h5⟩:=bel b x h3
     exact ((H'.blk b B x (hlt b B h1).2 h5).cut (hmxb b B h1)).mono hst (Rho.le_refl _) rfl
    ·intro b b' B B' x x' h1 h3 h4 h5 h6 h7
     exact H'.inj b b' B B' x x' (hlt b B h1).2 (hlt b' B' h3).2 h4 h5 (bel b x h6).2 (bel b' x' h7).2
    ·intro b B x h1 h3 h4
     exact H'.low b B x (hlt b B h1).2 h3 (bel b x h4).2
    ·exact hmxb
    ·show ∀ i∈ids t,_
     rw [ht]; exact H.top
    ·show ∀ s∈rs.map ids,_
     rw [hrs]; exact H.rst
    ·intro b hb
     have:=E.rho b (by rw [ebase]; exact hb)
     simp [Rho.below,hb,this]
    ·intro c hc hno
     exact E.frame c hc fun h1=>hno ((hown0 c).1 h1)
    ·intro c hc
     have hc':ownOf ρ' h' c:=by
      rcases hown c hc with hX | ⟨b,B,x,_,h3,h4,h5,h6⟩
      ·exact .inl hX
      ·exact .inr ⟨b,B,x,h3,h4,h5,h6⟩
     rcases E.own c hc' with h7 | h7
     ·exact .inl ((hown0 c).1 h7)
     ·exact .inr h7
    ·intro b hb hn
     rw [hgl b hb,E.pend b (by rw [ebase]; exact hb) hn,get_enter]
    ·intro b B hb h1
     have h3:=(hlt b B h1).2
     rcases E.grow b B (by rw [ebase]; exact hb) h3 with ⟨C,h4,h5⟩ | ⟨l',h4,h5⟩
     ·rw [get_enter] at h4; exact .inl ⟨C,h4,h5⟩
     ·rw [h4] at hlk
      simp [lkOk] at hlk; omega
    ·refine Rel.cut ?_ hmx
     rw [← hv']
     split
     ·exact hv.mono hst (Rho.le_refl _)
     ·split
      ·exact hv.mono hst (Rho.le_refl _)
      ·exact frz_sound H' hown 12 v val hv
   ·
    have hq:Q _:=hs
    let h2:Hp:={ nx:=h'.nx,top:=h'.top++t,rest:=rs,lk:=match h'.lk with | none=>h.lk | some b=>minO h.lk b }
    have hg2:∀ b,h2.get b=h'.get b:=by
     intro b
     rw [hget']
     show (match look (h'.top++t) b with | some x=>some x | none=>lookRest rs b)=_
     rw [look_append]
     cases look h'.top b<;>rfl
    have hown:∀ c,ownOf ρ' h2 c↔ownOf ρ' h' c:=fun c=>by
     constructor
     ·rintro (hX | ⟨b,B,x,h1,h3⟩)
      ·exact .inl hX
      ·exact .inr ⟨b,B,x,by rw [← hg2]; exact h1,h3⟩
     ·rintro (hX | ⟨b,B,x,h1,h3⟩)
      ·exact .inl hX
      ·exact .inr ⟨b,B,x,by rw [hg2]; exact h1,h3⟩
    have hst:Stable w' (ownOf ρ' h') w' (ownOf ρ' h2):=fun c o hc ho=>⟨ho,fun h1=>hc ((hown c).1 h1)⟩
    have hnx:h.nx≤h'.nx:=by have:=E.nx; rw [ebase] at this; exact this
    have hlk1:∀ l,h'.lk=some l→∃ l',h2.lk=some l'∧l'≤l:=by
     intro l hl
     show ∃ l',(match h'.lk with | none=>h.lk | some b=>minO h.lk b)=some l'∧l'≤l
     rw [hl]
     cases h.lk with
     | none=>exact ⟨l,rfl,Nat.le_refl _⟩
     | some m=>exact ⟨min m l,rfl,Nat.min_le_right _ _⟩
    have hlk2:∀ l,h.lk=some l→∃ l',h2.lk=some l'∧l'≤l:=by
     intro l hl
     show ∃ l',(match h'.lk with | none=>h.lk | some b=>minO h.lk b)=some l'∧l'≤l
     cases h'.lk with
     | none=>exact ⟨l,hl,Nat.le_refl _⟩
     | some m=>rw [hl]; exact ⟨min l m,rfl,Nat.min_le_left _ _⟩
    have hids:ids h2.top=l++ids h.top:=by
     show ids (h'.top++t)=_
     unfold ids at *
     rw [List.map_append,htop,ht]
    refine ⟨_,h2,ρ',hq,⟨H'.dom,?_,?_,?_,?_,?_,?_,?_,H'.sz,H'.xlo,H'.gk⟩,⟨E.os,E.tape,E.output,E.size,?_,?_,?_,hnx,?_,hrs,⟨l,hids,?_⟩,?_,hlk2,E.xs,E.xf⟩,hv.mono hst (Rho.le_refl _)⟩
    ·intro b B x h1 h3; rw [hg2] at h1; exact (H'.blk b B x h1 h3).mono hst (Rho.le_refl _) rfl
    ·intro b b' B B' x x' h1 h3; rw [hg2] at h1 h3; exact H'.inj b b' B B' x x' h1 h3
    ·intro b B x h1; rw [hg2] at h1; exact H'.low b B x h1
    ·intro b B h1; rw [hg2] at h1; exact H'.mxb b B h1
    ·rw [hids]
     intro i hi
     show nx0≤i∧i < h'.nx
     rcases List.mem_append.1 hi with h1 | h1
     ·have:=hl2 i h1; rw [ebase] at this; have:=H.nx; omega
     ·have:=H.top i h1; omega
    ·show ∀ s∈rs.map ids,_
     rw [hrs]; exact H.rst
    ·show nx0≤h'.nx; have:=H.nx; omega
    ·intro b hb; exact E.rho b (by rw [ebase]; exact hb)
    ·intro c hc hno; exact E.frame c hc fun h1=>hno ((hown0 c).1 h1)
    ·intro c hc
     rcases E.own c ((hown c).1 hc) with h7 | h7
     ·exact .inl ((hown0 c).1 h7)
     ·exact .inr h7
    ·intro b hb hn; rw [hg2,E.pend b (by rw [ebase]; exact hb) hn,get_enter]
    ·intro i hi; have:=hl2 i hi; rw [ebase] at this; exact this
    ·intro b B hb h1
     rw [hg2] at h1
     rcases E.grow b B (by rw [ebase]; exact hb) h1 with ⟨C,h4,h5⟩ | ⟨l',h4,h5⟩
     ·rw [get_enter] at h4; exact .inl ⟨C,h4,h5⟩
     ·obtain ⟨l'',h6,h7⟩:=hlk1 l' h4
      exact .inr ⟨l'',h6,by omega⟩
end
end Go.Proofs.YtdjngcfnlfgjkaaGreatDoor.AM

namespace Go.Proofs.YtdjngcfnlfgjkaaGreatDoor.AM
open Go.RowKit
variable [Glob]
def IpOk (P:Program) (f:FuncId) (p:IpF):Prop :=
 (∃ fn,P.funcs[f]? = some fn∧(fn.name == "runtime.NumGoroutine")=false∧fn.body.isNone=false) ∧
 (∀ (zs zs':List Int) (w:World) (c a cap:Nat) (arr:Array Value) (e:TypeId),p.g zs=some zs'→w.heap[c]? = some (.cells arr e (0,0))→(∀ j z,zs[j]? = some z→arr[a+j]? = some (.int .i64 z))→zs.length≤cap →
  CallsIn (FW none) 0 P f #[.slice (some ⟨c,a,none⟩) zs.length cap] w fun en w' =>
   en = .returned (if p.eat then .slice (some ⟨c,a,none⟩) zs'.length cap else .tuple #[])∧(p.eat=true→zs'.length≤zs.length) ∧
   ∃ arr' n os,arr'.size=arr.size∧(∀ j z,zs'[j]? = some z→arr'[a+j]? = some (.int .i64 z))∧w'={ w with heap:=(w.heap.setIfInBounds c (.cells arr' e (0,0)))++os,drawn:=n }) ∧
 (p.eat=false→p.g []=some []→∀ (w:World),CallsIn (FW none) 0 P f #[.slice none 0 0] w fun en w'=>en = .returned (.tuple #[])∧∃ n os,w'={ w with heap:=w.heap++os,drawn:=n })
def GpOk (P:Program) (f:FuncId) (p:GpF):Prop :=
 (∃ fn,P.funcs[f]? = some fn∧(fn.name == "runtime.NumGoroutine")=false∧fn.body.isNone=false) ∧
 (∀ (b:Nat) (k:Nat) (rows:List (List AV)) (more:List AV) (rows':List (List AV)) (h:Hp) (B0 nx0:Nat) (w:World) (ρ:Rho) (vargs:List Value),HR B0 nx0 w ρ h→h.get b=some (.cells k rows)→mxss rows=0 →
  Rels w (ownOf ρ h) ρ (.ms b 0 rows.length::more) vargs→mxs (more.map (frz (h.set b .dead) 0 12))=0→p.g (.sl k rows::more.map (frz (h.set b .dead) 0 12))=some (.sl k rows')→rows'.length=rows.length→flats rows'.flatten=true →
   CallsIn (FW none) 0 P f vargs.toArray w (RetP (fun q=>q=(undefA,h.set b (.cells k rows'))) B0 nx0 w ρ h)) ∧
 (∀ (more:List AV) (h:Hp) (B0 nx0:Nat) (w:World) (ρ:Rho) (vargs:List Value),HR B0 nx0 w ρ h→Rels w (ownOf ρ h) ρ (.nils::more) vargs→mxs (more.map (frz h 0 12))=0→p.g (.nils::more.map (frz h 0 12))=some .nils →
     CallsIn (FW none) 0 P f vargs.toArray w (RetP (fun q=>q=(undefA,h)) B0 nx0 w ρ h))
def FrOk (P:Program) (f:FuncId) (p:GpF):Prop :=
 (∃ fn,P.funcs[f]? = some fn∧(fn.name == "runtime.NumGoroutine")=false∧fn.body.isNone=false) ∧
 (∀ (args:List AV) (k:Nat) (rows:List (List AV)) (h:Hp) (B0 nx0:Nat) (w:World) (ρ:Rho) (vargs:List Value),HR B0 nx0 w ρ h→Rels w (ownOf ρ h) ρ args vargs→mxs (args.map (frz h 0 12))=0→p.g (args.map (frz h 0 12))=some (.sl k rows)→flats rows.flatten=true →
     CallsIn (FW none) 0 P f vargs.toArray w (RetP (fun q=>q=(.ms h.nx 0 rows.length,h.push (.cells k rows))) B0 nx0 w ρ h)) ∧
 (∀ (args:List AV) (h:Hp) (B0 nx0:Nat) (w:World) (ρ:Rho) (vargs:List Value),HR B0 nx0 w ρ h→Rels w (ownOf ρ h) ρ args vargs→mxs (args.map (frz h 0 12))=0→p.g (args.map (frz h 0 12))=some .nils →
     CallsIn (FW none) 0 P f vargs.toArray w (RetP (fun q=>q=(.nils,h)) B0 nx0 w ρ h))
structure Tab.Good (T:Tab) (P:Program):Prop where
 draws:∀ f x c,T.fn.get f=some x→x.fn.body=some c→drawsOk c=true
 locs:∀ f x,T.fn.get f=some x→x.loc < 2 ^ x.fn.ntmps
 ip:∀ f p,T.ip f=some p→IpOk P f p
 gp:∀ f p,T.gp f=some p→GpOk P f p
 fr:∀ f p,T.fr f=some p→FrOk P f p
def ExtOk (P:Program) (f:FuncId) (g:List AV→Option AV):Prop :=
 (∃ fn,P.funcs[f]? = some fn∧(fn.name == "runtime.NumGoroutine")=false∧fn.body.isNone=false) ∧
 ∀ (args:List AV) (r:AV) (h:Hp) (B0 nx0:Nat) (w:World) (ρ:Rho) (vargs:List Value),HR B0 nx0 w ρ h→Rels w (ownOf ρ h) ρ args vargs→g (args.map (frz h 0 12))=some r→(mxs args=0∨r.flat=true) →
   CallsIn (FW none) 0 P f vargs.toArray w (RetP (fun q=>q=(r,h)) B0 nx0 w ρ h)
section
variable {T:Tab} {P:Program} {B0 nx0:Nat} {w:World} {ρ:Rho} {h:Hp} {M:Nat} {own:Nat→Prop}
theorem FrR.slot {tm:List AV} {a:Act} (hf:FrR w own ρ M tm a.tmps.toList) {t:Nat} {x:AV} (hx:slotA M tm [] t=some x):Rel w own ρ x (a.tmps.getD t undef):=(SlR.of_frR hf).2 t x hx
def resOne (a:Act):ResultVar→Sem Value
 | .tmp t=>pure (a.tmps.getD t undef)
 | .cell c t=>do loadVar t (← asAddr (a.tmps.getD c undef))
theorem resultsA_sound (hT:T.Of P) (H:HR B0 nx0 w ρ h) {tm:List AV} {a:Act} (hf:FrR w (ownOf ρ h) ρ M tm a.tmps.toList) {fn:Func} {vs:List AV} (hs:resultsA T M h tm fn.results.toList=some vs) :
  ∃ v,(results fn a.tmps).run P w = .ok v w∧Rel w (ownOf ρ h) ρ (oneOf vs) v:=by
 have key:∀ (rs:List ResultVar) (vs:List AV),resultsA T M h tm rs=some vs→∃ us,(rs.mapM (resOne a)).run P w = .ok us w∧Rels w (ownOf ρ h) ρ vs us:=by
  intro rs
  induction rs with
  | nil=>intro vs hs; simp [resultsA] at hs; subst hs; exact ⟨[],by simp,.nil _⟩
  | cons r rs ih =>
    intro vs hs
    simp only [resultsA] at hs
    cases h1:resultA T M h tm r with
    | none=>simp [h1] at hs
    | some v =>
      cases h2:resultsA T M h tm rs with
      | none=>simp [h1,h2] at hs
      | some vs' =>
        simp [h1,h2] at hs; subst hs
        obtain ⟨us,h3,h4⟩:=ih vs' h2
        have one:∃ u,(resOne a r).run P w = .ok u w∧Rel w (ownOf ρ h) ρ v u:=by
         cases r with
         | tmp t=>exact ⟨a.tmps.getD t undef,by simp [resOne],hf.slot h1⟩
         | cell c t =>
           simp only [resultA] at h1
           cases h5:slotA M tm [] c with
           | none=>simp [h5] at h1
           | some x =>
             simp only [h5] at h1
             obtain ⟨u,_,⟨ad,h6,h7⟩,h8⟩:=loadA_sound hT H (hf.slot h5) h1
             have e:(asAddr (a.tmps.getD c undef)).run P w = .ok ad w:=by rw [h6]; rfl
             exact ⟨u,by simp only [resOne,Sem.run_bind,e,Result.andThen_ok,h7],h8⟩
        obtain ⟨u,h5,h6⟩:=one
        exact ⟨u::us,by simp only [List.mapM_cons,Sem.run_bind,Sem.run_pure,Result.andThen_ok,h3,h5],.cons _ _ _ _ _ h6 h4⟩
 obtain ⟨us,h1,h2⟩:=key _ _ hs
 have h1':(fn.results.mapM (resOne a)).run P w = .ok us.toArray w:=by
  rw [← Array.toArray_toList (xs:=fn.results),List.mapM_toArray]
  simp [h1]
 have e:results fn a.tmps=(do let vs ← fn.results.mapM (resOne a); pure (if h:vs.size=1 then vs[0] else .tuple vs)):=rfl
 refine ⟨if h:us.toArray.size=1 then us.toArray[0] else .tuple us.toArray,?_,?_⟩
 ·rw [e]
  simp only [Sem.run_bind,h1',Result.andThen_ok,Sem.run_pure]
 ·cases h2 with
  | nil=>exact .tuple _ _ _ (.nil _)
  | cons _ x y xs ys hx hxs =>
    cases hxs with
    | nil=>simpa [oneOf] using hx
    | cons _ x' y' xs' ys' hx' hxs' =>
      simp only [oneOf]
      rw [dif_neg (by simp)]
      exact .tuple _ _ _ (.cons _ _ _ _ _ hx (.cons _ _ _ _ _ hx' hxs'))
theorem closeDfr_sound {F:Fence} {n:Nat} {fn:Func} {tmps:Array Value} {R:Ending→World→Prop}:∀ {ds:List Nat} {ms:List Deferred} {h h1:Hp} {w:World},HR B0 nx0 w ρ h→DfR ρ ds ms→closeDfr ds h=some h1 →
  (∀ w',HR B0 nx0 w' ρ h1→Ext w ρ h w' ρ h1→∃ v,(results fn tmps).run P w' = .ok v w'∧R (.returned v) w')→LeavesInM F n P fn tmps R ms .returning w
 | [],[],h,h1,w,H,_,hc,hn=>by
   simp [closeDfr] at hc; subst hc
   exact hn w H (Ext.refl _ _ _)
 | d::ds,m::ms,h,h1,w,H,⟨⟨x,hx,hm⟩,hd⟩,hc,hn=>by
   subst hm
   simp only [closeDfr] at hc
   split at hc
   case h_2=>cases hc
   rename_i hg
   have hb:w.heap[x.c]? = some (.deferred (some [])):=H.blk d _ x hg hx
   obtain ⟨H1,E1⟩:=H.turn hg rfl hx (.dfr true) rfl 0 (by simp [Blk.mx]) (Nat.zero_le _) (w.putObj x.c (.deferred none)) (by simp) (fun c hc=>World.putObj_heap_other hc) rfl rfl rfl
    (fun own hst=>World.putObj_heap_same (heap_lt hb))
   have e:((h.set d (.dfr true)).leak d 0)=h.set d (.dfr true):=by simp [Hp.leak]
   rw [e] at H1 E1
   refine ⟨by simp,.inl ⟨x.c,_,rfl,run_takeDeferred hb,closeDfr_sound H1 hd hc fun w' H' E'=>hn w' H' (E1.trans E')⟩⟩
 | [],_::_,_,_,_,_,h,_,_=>h.elim
 | _::_,[],_,_,_,_,h,_,_=>h.elim
theorem intsOf_rel {w:World} {own:Nat→Prop} {ρ:Rho}:∀ {rows:List (List AV)} {zs:List Int} {vs:List Value},intsOf rows=some zs→Rels w own ρ rows.flatten vs→vs=zs.map (Value.int .i64)∧rows.length=zs.length
 | [],zs,vs,h,hr=>by simp [intsOf] at h; subst h; cases hr; exact ⟨rfl,rfl⟩
 | r::rows,zs,vs,h,hr=>by
   simp only [intsOf] at h
   split at h
   case h_2=>cases h
   split at h
   case h_2=>cases h
   rename_i z _ ys h1
   injection h with h; subst h
   simp only [List.flatten_cons,List.cons_append,List.nil_append] at hr
   cases hr with
   | cons _ _ v _ vs hv hvs =>
     obtain ⟨h2,h3⟩:=intsOf_rel h1 hvs
     exact ⟨by rw [hv.int_inv,h2]; rfl,by simp [h3]⟩
theorem ofInts_rel {w:World} {own:Nat→Prop} {ρ:Rho}:∀ (zs:List Int),Rels w own ρ (ofInts zs).flatten (zs.map (Value.int .i64))
 | []=>.nil _
 | z::zs=>by
   show Rels w own ρ (.int .i64 z::(ofInts zs).flatten) (.int .i64 z::zs.map (Value.int .i64))
   exact .cons _ _ _ _ _ (.lit _ _ _ rfl) (ofInts_rel zs)
theorem ofInts_length (zs:List Int):(ofInts zs).length=zs.length:=by simp [ofInts]
theorem ofInts_row {zs:List Int} {r:List AV} (h:r∈ofInts zs):r.length=1:=by
 simp only [ofInts,List.mem_map] at h
 obtain ⟨z,_,rfl⟩:=h; rfl
theorem ofInts_mx:∀ (zs:List Int),mxss (ofInts zs)=0
 | []=>rfl
 | z::zs=>by
   have:=ofInts_mx zs
   simp only [ofInts,List.map_cons,mxss,mxs,AV.mx] at this ⊢
   simpa using this
theorem look_upd_self:∀ (l:List (Nat × Blk)) (b:Nat) (x:Blk),look (upd l b x) b=(look l b).map fun _=>x
 | [],_,_=>rfl
 | (c,y)::l,b,x=>by
   simp only [upd]
   by_cases h:b=c
   ·simp [h,look]
   ·simp [h,look,look_upd_self l b x]
theorem upd_upd:∀ (l:List (Nat × Blk)) (b:Nat) (x y:Blk),upd (upd l b x) b y=upd l b y
 | [],_,_,_=>rfl
 | (c,z)::l,b,x,y=>by
   simp only [upd]
   by_cases h:b=c
   ·simp [h,upd]
   ·simp [h,upd,upd_upd l b x y]
theorem updRest_updRest:∀ (l:List (List (Nat × Blk))) (b:Nat) (x y:Blk),updRest (updRest l b x) b y=updRest l b y
 | [],_,_,_=>rfl
 | s::l,b,x,y=>by
   simp only [updRest]
   cases hs:look s b with
   | none=>simp only [updRest,hs,updRest_updRest l b x y]
   | some z=>simp only [updRest,look_upd_self,hs,Option.map_some,upd_upd]
theorem set_set (h:Hp) (b:Nat) (x y:Blk):(h.set b x).set b y=h.set b y:=by
 unfold Hp.set
 cases hs:look h.top b with
 | none=>simp only [hs,updRest_updRest]
 | some z=>simp only [look_upd_self,hs,Option.map_some,upd_upd]
theorem ipRow_sound {p:IpF} {f:FuncId} (hI:IpOk P f p) (H:HR B0 nx0 w ρ h) {b:Nat} {rows:List (List AV)} {zs:List Int} (hg:h.get b=some (.cells 1 rows)) (hz:intsOf rows=some zs) {v:Value}
  (hr:Rel w (ownOf ρ h) ρ (.ms b 0 rows.length) v) {r:AV × Hp} (hs:ipRow p b zs h=some r):CallsIn (FW none) 0 P f #[v] w (RetP (fun q=>q=r) B0 nx0 w ρ h):=by
 obtain ⟨x,a,cap,rfl,hx,hl,hcap,hadr⟩:=hr.ms_inv
 obtain ⟨arr,e,vs,h1,h2,h3,h4,h5,h6,h7⟩:=H.blk b _ x hg hx
 obtain ⟨hvs,hlen⟩:=intsOf_rel hz h6
 have hk:x.k=1:=h2.2
 have hbase:∀ j z,zs[j]? = some z→a+j=x.base+j:=fun j z hj=>by
  have:j < zs.length:=(List.getElem?_eq_some_iff.1 hj).1
  rw [hadr (by omega)]; omega
 have hcell:∀ j z,zs[j]? = some z→arr[a+j]? = some (.int .i64 z):=fun j z hj=>by
  rw [hbase j z hj]
  exact (h7 j (.int .i64 z) (by rw [hvs,List.getElem?_map,hj]; rfl)).1
 unfold ipRow at hs
 cases hgz:p.g zs with
 | none=>simp [hgz] at hs
 | some zs' =>
   simp only [hgz] at hs
   have hc:=hI.2.1 zs zs' w x.c a cap arr e hgz h1 hcell (by omega)
   rw [← hlen] at hc
   refine CallsIn.mono hc fun en w' hh=>?_
   obtain ⟨rfl,hle,arr',n,os,hsz,hcl,rfl⟩:=hh
   have hlt:x.c < w.heap.size:=heap_lt h1
   have turned:zs'.length≤zs.length→HR B0 nx0 { w with heap:=w.heap.setIfInBounds x.c (.cells arr' e (0,0)) } ρ (h.set b (.cells 1 (ofInts zs'))) ∧
     Ext w ρ h { w with heap:=w.heap.setIfInBounds x.c (.cells arr' e (0,0)) } ρ (h.set b (.cells 1 (ofInts zs'))):=fun hll=>by
    obtain ⟨H1,E1⟩:=H.turn hg rfl hx (.cells 1 (ofInts zs')) rfl 0 (by show mxss _≤_; rw [ofInts_mx]; exact Nat.zero_le _) (Nat.zero_le _) { w with heap:=w.heap.setIfInBounds x.c (.cells arr' e (0,0)) } (by simp) (fun c hc=>by
     show (w.heap.setIfInBounds x.c _)[c]? = _
     rw [Array.getElem?_setIfInBounds_ne (Ne.symm hc)]) rfl rfl rfl (fun own hst=>by
     refine ⟨arr',e,zs'.map (Value.int .i64),?_,⟨by omega,hk⟩,fun r hr=>by rw [ofInts_row hr,hk],by rw [ofInts_length]; omega,by omega,ofInts_rel _,fun j v hj=>?_⟩
     ·show (w.heap.setIfInBounds x.c _)[x.c]? = _
      rw [Array.getElem?_setIfInBounds_self_of_lt hlt]
     ·rw [List.getElem?_map,Option.map_eq_some_iff] at hj
      obtain ⟨z,hj,rfl⟩:=hj
      have hj2:∃ y,zs[j]? = some y:=by
       have:j < zs'.length:=(List.getElem?_eq_some_iff.1 hj).1
       exact ⟨zs[j],List.getElem?_eq_getElem (by omega)⟩
      obtain ⟨y,hy⟩:=hj2
      rw [← hbase j y hy]
      exact ⟨hcl j z hj,rfl⟩)
    have el:((h.set b (.cells 1 (ofInts zs'))).leak b 0)=h.set b (.cells 1 (ofInts zs')):=by simp [Hp.leak]
    rw [el] at H1 E1
    exact ⟨H1,E1⟩
   by_cases he:p.eat=true
   ·rw [if_pos he] at hs ⊢
    injection hs with hs; subst hs
    have hle:=hle he
    obtain ⟨H1,E1⟩:=turned (by omega)
    obtain ⟨K1,F1⟩:=H1.kill hx
    have hg1:(h.set b (.cells 1 (ofInts zs'))).get b=some (.cells 1 (ofInts zs')):=by rw [get_set,if_pos rfl,hg]; rfl
    have hms:Rel { w with heap:=w.heap.setIfInBounds x.c (.cells arr' e (0,0)) } (ownOf ρ (h.set b (.cells 1 (ofInts zs')))) ρ (.ms b 0 zs'.length) (.slice (some ⟨x.c,a,none⟩) zs'.length cap):=.ms _ _ _ _ x hx (by omega) a cap hcap hadr
    have hsl:=fzV_rel H1 hg1 (ofInts_mx zs') hms
    have e1:fzV b 1 (ofInts zs') (.ms b 0 zs'.length) = .sl 1 (ofInts zs'):=by
     simp only [fzV,if_pos,ofInts_length,Nat.zero_add,Nat.le_refl,List.drop_zero]
     rw [List.take_of_length_le (by rw [ofInts_length]; exact Nat.le_refl _)]
    rw [e1] at hsl
    rw [set_set] at K1 F1 hsl
    obtain ⟨H2,E2⟩:=K1.grown (w':={ w with heap:=(w.heap.setIfInBounds x.c (.cells arr' e (0,0)))++os,drawn:=n }) (by simp) (fun c hc=>by
     show ((w.heap.setIfInBounds x.c _)++os)[c]? = _
     rw [Array.getElem?_append_left hc]) rfl rfl rfl
    exact ⟨_,_,ρ,rfl,H2,(E1.trans F1).trans E2,hsl.mono E2.stable (E2.le K1.dom)⟩
   ·rw [if_neg he] at hs ⊢
    split at hs
    case isFalse=>cases hs
    rename_i hll
    injection hs with hs; subst hs
    obtain ⟨H1,E1⟩:=turned (by omega)
    obtain ⟨H2,E2⟩:=H1.grown (w':={ w with heap:=(w.heap.setIfInBounds x.c (.cells arr' e (0,0)))++os,drawn:=n }) (by simp) (fun c hc=>by
     show ((w.heap.setIfInBounds x.c _)++os)[c]? = _
     rw [Array.getElem?_append_left hc]) rfl rfl rfl
    exact ⟨undefA,_,ρ,rfl,H2,E1.trans E2,undefA_rel _ _ _⟩
theorem ipA_sound (hG:T.Good P) (H:HR B0 nx0 w ρ h) {f:FuncId} {args:List AV} {vargs:List Value} (hr:Rels w (ownOf ρ h) ρ args vargs) {r:AV × Hp} (hs:ipA T f args h=some r) :
  (∃ fn,P.funcs[f]? = some fn∧(fn.name == "runtime.NumGoroutine")=false∧fn.body.isNone=false)∧CallsIn (FW none) 0 P f vargs.toArray w (RetP (fun q=>q=r) B0 nx0 w ρ h):=by
 unfold ipA at hs
 cases hp:T.ip f with
 | none=>simp [hp] at hs
 | some p =>
   have hI:=hG.ip f p hp
   simp only [hp] at hs
   refine ⟨hI.1,?_⟩
   split at hs
   ·rename_i b len
    split at hs
    case h_2=>cases hs
    rename_i rows hg
    split at hs
    case isFalse=>cases hs
    rename_i hl; subst hl
    split at hs
    case h_2=>cases hs
    rename_i zs hz
    cases hr with
    | cons _ _ v _ vs hv hvs=>cases hvs; exact ipRow_sound hI H hg hz hv hs
   ·split at hs
    case isTrue=>cases hs
    rename_i he
    split at hs
    case h_2=>cases hs
    rename_i hg
    injection hs with hs; subst hs
    cases hr with
    | cons _ _ v _ vs hv hvs =>
      cases hvs
      obtain rfl:=hv.nils_inv
      refine CallsIn.mono (hI.2.2 (by simpa using he) hg w) fun en w' hh=>?_
      obtain ⟨rfl,n,os,rfl⟩:=hh
      obtain ⟨H2,E2⟩:=H.grown (w':={ w with heap:=w.heap++os,drawn:=n }) (by simp) (fun c hc=>by
       show (w.heap++os)[c]? = _
       rw [Array.getElem?_append_left hc]) rfl rfl rfl
      exact ⟨undefA,_,ρ,rfl,H2,E2,undefA_rel _ _ _⟩
   ·cases hs
theorem mxs_mem {l:List AV} {x:AV} (hx:x∈l):x.mx≤mxs l:=by
 induction l with
 | nil=>cases hx
 | cons y l ih =>
   simp only [mxs]
   cases hx with
   | head=>omega
   | tail _ h=>have:=ih h; omega
theorem frz_closed (h:Hp) (b:Nat):∀ (n:Nat) (v:AV),v.mx=0→frz h b n v=v
 | 0,v,_=>rfl
 | n+1,v,hv=>by
   cases v<;>simp only [frz]<;>simp only [AV.mx] at hv<;>first
    | rfl
    | omega
    | (simp only [frzRow,hv,if_true]; done)
    | (have h1:mxs _=0:=Nat.le_zero.1 (hv ▸ Nat.le_max_left _ _); have h2:mxs _=0:=Nat.le_zero.1 (hv ▸ Nat.le_max_right _ _); simp only [frzRow,h1,h2,if_true])
theorem frz_closeds (h:Hp) (b n:Nat) {l:List AV} (hl:mxs l=0):l.map (frz h b n)=l:=by
 have:∀ x∈l,frz h b n x=x:=fun x hx=>frz_closed h b n x (by have:=mxs_mem hx; omega)
 exact (List.map_congr_left this).trans (List.map_id _)
theorem frA_sound (hG:T.Good P) (H:HR B0 nx0 w ρ h) {f:FuncId} {args:List AV} {vargs:List Value} (hr:Rels w (ownOf ρ h) ρ args vargs) {r:AV × Hp} (hs:frA T f args h=some r) :
  (∃ fn,P.funcs[f]? = some fn∧(fn.name == "runtime.NumGoroutine")=false∧fn.body.isNone=false)∧CallsIn (FW none) 0 P f vargs.toArray w (RetP (fun q=>q=r) B0 nx0 w ρ h):=by
 unfold frA at hs
 cases hp:T.fr f with
 | none=>simp [hp] at hs
 | some p =>
   have hI:=hG.fr f p hp
   simp only [hp] at hs
   refine ⟨hI.1,?_⟩
   split at hs
   case isFalse=>cases hs
   rename_i hm
   split at hs
   ·rename_i k rows hg
    split at hs
    case isFalse=>cases hs
    rename_i hfl
    injection hs with hs; subst hs
    exact hI.2.1 args k rows h B0 nx0 w ρ vargs H hr hm hg hfl
   ·rename_i hg
    injection hs with hs; subst hs
    exact hI.2.2 args h B0 nx0 w ρ vargs H hr hm hg
   ·cases hs
theorem gpA_sound (hG:T.Good P) (H:HR B0 nx0 w ρ h) {f:FuncId} {args:List AV} {vargs:List Value} (hr:Rels w (ownOf ρ h) ρ args vargs) {r:AV × Hp} (hs:gpA T f args h=some r) :
  (∃ fn,P.funcs[f]? = some fn∧(fn.name == "runtime.NumGoroutine")=false∧fn.body.isNone=false)∧CallsIn (FW none) 0 P f vargs.toArray w (RetP (fun q=>q=r) B0 nx0 w ρ h):=by
 unfold gpA at hs
 cases hp:T.gp f with
 | none=>simp [hp] at hs
 | some p =>
   have hI:=hG.gp f p hp
   simp only [hp] at hs
   refine ⟨hI.1,?_⟩
   split at hs
   ·rename_i b len more
    split at hs
    case h_2=>cases hs
    rename_i k rows hg
    split at hs
    case isFalse=>cases hs
    rename_i hc
    obtain ⟨rfl,h1,h2⟩:=hc
    split at hs
    case h_2=>cases hs
    rename_i k' rows' hq
    split at hs
    case isFalse=>cases hs
    rename_i hc
    obtain ⟨rfl,h3,h4⟩:=hc
    injection hs with hs; subst hs
    exact hI.2.1 b k' rows more rows' h B0 nx0 w ρ vargs H hg h1 hr h2 hq h3 h4
   ·split at hs
    case isFalse=>cases hs
    rename_i h2
    split at hs
    case h_2=>cases hs
    rename_i hq
    injection hs with hs; subst hs
    exact hI.2.2 _ h B0 nx0 w ρ vargs H hr h2 hq
   ·cases hs
theorem runFn_sound (hT:T.Of P) (hG:T.Good P) {E:Env} (hE:E.T=T) (hX:∀ f g,E.ext f=some g→ExtOk P f g) {iv:Inv} (hiv:InvOk T P iv) (k:Nat) (f:FuncId) (args:List AV) (H:HR B0 nx0 w ρ h) {vargs:List Value}
  (hr:Rels w (ownOf ρ h) ρ args vargs) {Q:AV × Hp→Prop} (hs:(runFn E iv k f args h).post Q) :
  (∃ fn,P.funcs[f]? = some fn∧(fn.name == "runtime.NumGoroutine")=false∧fn.body.isNone=false)∧CallsIn (FW none) 0 P f vargs.toArray w (RetP Q B0 nx0 w ρ h):=by
 subst hE
 unfold runFn at hs
 cases hx:extA E f args h with
 | some r =>
   simp only [hx] at hs
   have hq:Q (r,h):=hs
   unfold extA at hx
   split at hx
   case h_2=>cases hx
   rename_i g hg
   split at hx
   case h_2=>cases hx
   rename_i r' hr'
   split at hx
   case isFalse=>cases hx
   rename_i hfl
   injection hx with hx; subst hx
   obtain ⟨h1,h2⟩:=hX f g hg
   refine ⟨h1,CallsIn.mono (h2 args r' h B0 nx0 w ρ vargs H hr hr' hfl) fun e w' hret=>?_⟩
   cases e with
   | returned v=>obtain ⟨r',h',ρ',hq',rest⟩:=hret; simp only [Prod.mk.injEq] at hq'; obtain ⟨rfl,rfl⟩:=hq'; exact ⟨_,_,ρ',hq,rest⟩
   | panicked _=>exact hret.elim
   | outgrown=>exact hret.elim
 | none =>
  simp only [hx] at hs
  split at hs
  ·exact hs.elim
  cases hfr:frA E.T f args h with
  | some r =>
   simp only [hfr] at hs
   have hq:Q r:=hs
   obtain ⟨h1,h2⟩:=frA_sound hG H hr hfr
   refine ⟨h1,CallsIn.mono h2 fun e w' hret=>?_⟩
   cases e with
   | returned v=>obtain ⟨r',h',ρ',hq',rest⟩:=hret; subst hq'; exact ⟨_,_,ρ',hq,rest⟩
   | panicked _=>exact hret.elim
   | outgrown=>exact hret.elim
  | none =>
  simp only [hfr] at hs
  cases hgp:gpA E.T f args h with
  | some r =>
   simp only [hgp] at hs
   have hq:Q r:=hs
   obtain ⟨h1,h2⟩:=gpA_sound hG H hr hgp
   refine ⟨h1,CallsIn.mono h2 fun e w' hret=>?_⟩
   cases e with
   | returned v=>obtain ⟨r',h',ρ',hq',rest⟩:=hret; subst hq'; exact ⟨_,_,ρ',hq,rest⟩
   | panicked _=>exact hret.elim
   | outgrown=>exact hret.elim
  | none =>
  simp only [hgp] at hs
  cases hip:ipA E.T f args h with
  | some r =>
   simp only [hip] at hs
   have hq:Q r:=hs
   obtain ⟨h1,h2⟩:=ipA_sound hG H hr hip
   refine ⟨h1,CallsIn.mono h2 fun e w' hret=>?_⟩
   cases e with
   | returned v=>obtain ⟨r',h',ρ',hq',rest⟩:=hret; subst hq'; exact ⟨_,_,ρ',hq,rest⟩
   | panicked _=>exact hret.elim
   | outgrown=>exact hret.elim
  | none =>
   simp only [hip] at hs
   cases hfe:E.T.fn.get f with
   | none=>simp only [hfe] at hs; exact hs.elim
   | some e =>
     simp only [hfe] at hs
     have hPf:=hT.fn f e hfe
     have hname:=hT.names f e hfe
     cases hb:e.fn.body with
     | none=>simp only [hb] at hs; exact hs.elim
     | some code =>
       simp only [hb,Nd.post_bind] at hs
       refine ⟨⟨e.fn,hPf,by simpa using hname,by rw [hb]; rfl⟩,?_⟩
       obtain ⟨H0,hown⟩:=H.enter
       have hst:Stable w (ownOf ρ h) w (ownOf ρ h.enter):=fun c o hc ho=>⟨ho,fun h1=>hc ((hown c).1 h1)⟩
       have hlen:=hr.length
       have hA:ActR w (ownOf ρ h.enter) ρ e.loc ⟨args++List.replicate (e.fn.ntmps - args.length) undefA,[]⟩ { tmps:=vargs.toArray++Array.replicate (e.fn.ntmps - vargs.toArray.size) undef,defers:=[] }:=by
        have hrels:Rels w (ownOf ρ h.enter) ρ (args++List.replicate (e.fn.ntmps - args.length) undefA) (vargs++List.replicate (e.fn.ntmps - vargs.length) undef):=by
         rw [hlen]; exact (hr.mono hst (Rho.le_refl _)).append (Rels.replicate (undefA_rel _ _ _) _)
        have el:(vargs.toArray++Array.replicate (e.fn.ntmps - vargs.toArray.size) undef).toList=vargs++List.replicate (e.fn.ntmps - vargs.length) undef:=by simp
        refine ⟨?_,trivial⟩
        rw [el]
        refine ⟨hrels.length,fun t ht=>?_,fun t x _ hx=>?_⟩
        ·have h1:=hG.locs f e hfe
         have:t < e.fn.ntmps:=by
          rcases Nat.lt_or_ge t e.fn.ntmps with h2 | h2
          ·exact h2
          ·have:e.loc < 2 ^ t:=Nat.lt_of_lt_of_le h1 (Nat.pow_le_pow_right (by omega) h2)
           rw [Nat.testBit_lt_two_pow this] at ht; cases ht
         simp; omega
        ·exact hrels.get (by rw [nth_eq]; exact hx)
       have hwalk:=exec_sound hT hiv k none code (hG.draws f e code hfe hb) _ _ _ B0 h.nx w ρ _ none H0 hA trivial hs
       refine callsIn_of_wp_marks hPf hb trivial (wpIn_mono hwalk fun ex a' w' hp=>?_)
       obtain ⟨x',fr',h',ρ',q,m,H1,E1,A1⟩:=hp
       have fin:(match closeDfr fr'.dfr h' with
         | some h1=>match resultsA E.T e.loc h1 fr'.tmps e.fn.results.toList with
           | some vs=>leaveA h (E.keep f) (oneOf vs) h1
           | none=>.fail
         | none=>.fail:Nd (AV × Hp)).post Q→LeavesInM (FW none) 0 P e.fn a'.tmps (RetP Q B0 nx0 w ρ h) a'.defers .returning w':=by
        intro q
        cases hcl:closeDfr fr'.dfr h' with
        | none=>simp only [hcl] at q; exact q.elim
        | some h1 =>
          simp only [hcl] at q
          cases hres:resultsA E.T e.loc h1 fr'.tmps e.fn.results.toList with
          | none=>simp only [hres] at q; exact q.elim
          | some vs =>
            simp only [hres] at q
            refine closeDfr_sound H1 A1.2 hcl fun w'' H2 E2=>?_
            obtain ⟨v,hv1,hv2⟩:=resultsA_sound hT H2 (A1.1.mono E2.stable (E2.le H1.dom)) hres
            obtain ⟨r,h2,ρ2,hq,H3,E3,hv3⟩:=leaveA_sound H H2 (E1.trans E2) hv2 q
            exact ⟨v,hv1,r,h2,ρ2,hq,H3,E3,hv3⟩
       cases x'<;>cases ex<;>simp only [exM] at m
       ·exact fin q
       ·exact q.elim
       ·exact fin q
theorem FrR.params {mk:Nat}:∀ {ps:List Tmp} {args:List AV} {vargs:List Value} {tm:List AV} {vs:List Value},FrR w own ρ mk tm vs→Rels w own ρ args vargs →
  FrR w own ρ mk (setParams tm ps args) ((ps.zip vargs).foldl (fun tmps (x:Tmp × Value)=>tmps.set x.1 x.2) vs)
 | [],args,vargs,tm,vs,hf,hr=>by cases args<;>simpa [setParams] using hf
 | t::ts,[],vargs,tm,vs,hf,hr=>by cases hr; simpa [setParams] using hf
 | t::ts,a::as,vargs,tm,vs,hf,hr=>by
   cases hr with
   | cons _ _ v _ vrest h1 h2 =>
     simp only [setParams,List.zip_cons_cons,List.foldl_cons]
     refine FrR.params ?_ h2
     refine ⟨by rw [put_length]; simpa using hf.1,fun t ht=>by simpa using hf.2.1 t ht,fun i x hm hx=>?_⟩
     rw [put_eq] at hx
     by_cases hi:t=i
     ·subst hi
      have hlt:t < tm.length:=by
       have:=(List.getElem?_eq_some_iff.1 hx).1; simpa using this
      rw [List.getElem?_set_self hlt] at hx; injection hx with hx; subst hx
      exact ⟨v,List.getElem?_set_self (by rw [← hf.1]; exact hlt),h1⟩
     ·rw [List.getElem?_set_ne hi] at hx
      obtain ⟨u,h3,h4⟩:=hf.2.2 i x hm hx
      exact ⟨u,by rw [List.getElem?_set_ne hi]; exact h3,h4⟩
theorem params_array {ps:List Tmp} {vargs vs:List Value}:(ps.toArray.zip vargs.toArray).foldl (fun tmps (x:Tmp × Value)=>tmps.setIfInBounds x.1 x.2) vs.toArray=((ps.zip vargs).foldl (fun tmps (x:Tmp × Value)=>tmps.set x.1 x.2) vs).toArray:=by
 rw [List.zip_toArray,← Array.foldl_toList]
 simp only
 induction (ps.zip vargs) generalizing vs with
 | nil=>rfl
 | cons x xs ih=>simp only [List.foldl_cons,List.setIfInBounds_toArray]; exact ih
theorem roundA_sound (hT:T.Of P) {iv:Inv} (hiv:InvOk T P iv) (k:Nat) (l:Nat) (args:List AV) (H:HR B0 nx0 w ρ h) {vargs:List Value} (hr:Rels w (ownOf ρ h) ρ args vargs) {x:Loc} (hx:ρ l=some x) {Q:AV × Hp→Prop}
  (hs:(roundA T iv k l args h).post Q) :
  ∃ fn tmps assign body,(Instr.yield x.c vargs.toArray).run P w = .ok (.round x.c fn tmps assign body) w∧RoundIn (FW none) 0 P x.c fn tmps assign body w (RetP Q B0 nx0 w ρ h):=by
 unfold roundA at hs
 split at hs
 case h_2=>exact hs.elim
 rename_i mk tm ps as bd st0 pend0 d0 hg
 split at hs
 case isFalse=>exact hs.elim
 rename_i hlen
 rw [Nd.post_bind] at hs
 obtain ⟨fn,vs,y,g1,g2,g3,g4,g5⟩:=getLoop_BR H hx hg
 have hvl:=hr.length
 refine ⟨fn,_,as,bd,run_yield g1 (by simp; omega),?_⟩
 obtain ⟨H0,hown⟩:=H.enter
 have hst:Stable w (ownOf ρ h) w (ownOf ρ h.enter):=fun c o hc ho=>⟨ho,fun h1=>hc ((hown c).1 h1)⟩
 have hA:ActR w (ownOf ρ h.enter) ρ mk ⟨setParams tm ps args,[]⟩ { tmps:=(ps.toArray.zip vargs.toArray).foldl (fun tmps (x:Tmp × Value)=>tmps.setIfInBounds x.1 x.2) vs.toArray,defers:=[] }:=by
  refine ⟨?_,trivial⟩
  rw [params_array]
  exact (g2.params hr).mono hst (Rho.le_refl _)
 have R0:RoR ρ (some l) (some x.c):=⟨x,hx,rfl⟩
 refine roundIn_of_wpIn trivial ?_
 refine wpIn_mono (exec_sound hT hiv k (some l) as g4 _ _ _ B0 h.nx w ρ _ (some x.c) H0 hA R0 hs) fun e a1 w1 hp=>?_
 obtain ⟨x1,fr1,h1,ρ1,q,m,H1,E1,A1⟩:=hp
 split at q
 case h_2=>exact q.elim
 rename_i hn hdf hg1
 simp only at hn hdf hg1
 subst hn
 cases e<;>simp only [exM] at m
 simp only [Exit.then]
 rename_i mk1 tm1 ps1 as1 bd1 pend1 d1
 have hl1:ρ1 l=some x:=(E1.le H0.dom) _ _ hx
 obtain ⟨fn1,vs1,y1,k1,_⟩:=getLoop_BR H1 hl1 hg1
 obtain ⟨H2,E2⟩:=H1.setLoop hl1 hg1 .busy pend1 k1
 refine ⟨_,run_beginRound k1 rfl,?_⟩
 rw [Nd.post_bind] at q
 have A2:=A1.mono E2.stable (E2.le H1.dom)
 have R2:RoR ρ1 (some l) (some x.c):=⟨x,hl1,rfl⟩
 refine wpIn_mono (exec_sound hT hiv k (some l) bd g5 _ _ _ B0 h.nx _ ρ1 _ (some x.c) H2 A2 R2 q) fun e a3 w3 hp=>?_
 obtain ⟨x3,fr3,h3,ρ3,q3,m3,H3,E3,A3⟩:=hp
 split at q3
 case h_2=>exact q3.elim
 rename_i hdf3 hg3
 simp only at hdf3 hg3
 rename_i mk3 tm3 ps3 as3 bd3 st3 pend3 d3
 have hl3:ρ3 l=some x:=(E3.le H2.dom) _ _ hl1
 obtain ⟨fn3,vs3,y3,k3,_⟩:=getLoop_BR H3 hl3 hg3
 have fin:∀ (jump:Option Code),(leaveA h true (.bool jump.isNone) (h3.set l (.loop mk3 tm3 ps3 as3 bd3 (if jump.isNone then .ready else .done) jump d3))).post Q →
   ∃ v w',(Instr.endRound x.c jump).run P w3 = .ok v w'∧RetP Q B0 nx0 w ρ h (.returned v) w':=by
  intro jump hq
  obtain ⟨H4,E4⟩:=H3.setLoop hl3 hg3 (if jump.isNone then .ready else .done) jump k3
  obtain ⟨r,h5,ρ5,h6,H6,E6,h7⟩:=leaveA_sound (val:=.bool jump.isNone) H H4 (((E1.trans E2).trans E3).trans E4) (.lit _ _ _ rfl) hq
  exact ⟨_,_,run_endRound jump k3,r,h5,ρ5,h6,H6,E6,h7⟩
 cases x3<;>cases e<;>simp only [exM] at m3
 ·exact fin none q3
 ·subst m3; exact fin (some (.exit _)) q3
 ·exact fin (some .ret) q3
theorem inv_sound {E:Env} (hT:E.T.Of P) (hG:E.T.Good P) (hX:∀ f g,E.ext f=some g→ExtOk P f g):∀ k,InvOk E.T P (inv E k)
 | 0=>⟨fun _ _ _ _ _ _ _ _ _ _ _ _ _ _ hs=>hs.elim,fun _ _ _ _ _ _ _ _ _ _ _ _ _ hs=>hs.elim,fun _ _ _ _ _ _ _ _ hs=>by cases hs⟩
 | k+1=>by
   have ih:=inv_sound hT hG hX k
   refine ⟨?_,?_,?_⟩
   ·intro f args cap h Q B0 nx0 w ρ vargs vcap H h1 h2 hs
    have:=runFn_sound hT hG rfl hX ih k f (args++cap) H (h1.append h2) hs
    simpa using this
   ·intro l args h Q B0 nx0 w ρ vargs x H h1 hx hs
    exact roundA_sound hT ih k l args H h1 hx hs
   ·intro g args cap h r h₁ hp hm hs h'
    simp only [inv,runFn] at hs ⊢
    have e:∀ h,extA E g (args++cap) h=extA E g (args++cap) h':=fun h=>by
     unfold extA
     rw [frz_closeds h 0 12 hm,frz_closeds h' 0 12 hm]
    rw [e h] at hs
    cases hx:extA E g (args++cap) h' with
    | none=>simp [hx,hp] at hs
    | some u =>
      simp only [hx,Nd.ok.injEq,Prod.mk.injEq] at hs ⊢
      exact ⟨hs.1,trivial⟩
end
end Go.Proofs.YtdjngcfnlfgjkaaGreatDoor.AM

namespace Go.Proofs.YtdjngcfnlfgjkaaGreatDoor.AM
def Tr.All {α:Type} (p:Nat→α→Prop):Tr α→(Nat→Nat)→Prop
 | .nil,_=>True
 | .node l v r,f=>(match v with | none=>True | some x=>p (f 0) x)∧l.All p (fun m=>f (2 * m+1))∧r.All p (fun m=>f (2 * m+2))
theorem Tr.All.find {α:Type} {p:Nat→α→Prop}:∀ (t:Tr α) (f:Nat→Nat),t.All p f→∀ k n e,t.find k n=some e→p (f n) e
 | .nil,_,_,k,n,e,h=>by cases k<;>simp [Tr.find] at h
 | .node l v r,f,ha,0,n,e,h=>by simp [Tr.find] at h
 | .node l v r,f,⟨h1,h2,h3⟩,k+1,n,e,h=>by
   simp only [Tr.find] at h
   split at h
   ·rename_i hn; subst hn; subst h; exact h1
   ·split at h
    ·rename_i h0 h4
     have:=Tr.All.find l _ h2 k (n / 2) e h
     rwa [show 2 * (n / 2)+1=n by omega] at this
    ·rename_i h0 h4
     have:=Tr.All.find r _ h3 k (n / 2 - 1) e h
     rwa [show 2 * (n / 2 - 1)+2=n by omega] at this
theorem tf {p:Prop} (h:true=false):p:=by cases h
structure TyOk (P:Program) (t:Nat) (e:TyE):Prop where
 info:P.info? t=some e.info
 under:P.underlying t=some e.under.desc
 eqg:e.eqg=false→P.eqGuardType P.depth t=false
 held:e.held=false→P.stoodInHeld t=false
def fnB (x:FnE):Bool:=!(x.fn.name == "runtime.NumGoroutine")&&(match x.fn.body with | some c=>drawsOk c | none=>true)&&Nat.blt x.loc (2 ^ x.fn.ntmps)
structure FnOk (P:Program) (f:Nat) (x:FnE):Prop where
 fn:P.funcs[f]? = some x.fn
 ok:fnB x=true
theorem tab_of [Glob] {T:Tab} {P:Program} (h1:T.ty.All (TyOk P) id) (h2:T.fn.All (FnOk P) id) (h3:∀ f p,T.ip f=some p→IpOk P f p) (h4:∀ f p,T.gp f=some p→GpOk P f p) (h5:∀ f p,T.fr f=some p→FrOk P f p):T.Of P∧T.Good P:=by
 have ht:=fun t e h=>Tr.All.find T.ty id h1 40 t e h
 have hf:=fun f x h=>Tr.All.find T.fn id h2 40 f x h
 have hb:∀ f x,T.fn.get f=some x→(x.fn.name == "runtime.NumGoroutine")=false∧(∀ c,x.fn.body=some c→drawsOk c=true)∧x.loc < 2 ^ x.fn.ntmps:=by
  intro f x h
  have:=(hf f x h).ok
  simp only [fnB,Bool.and_eq_true,Nat.blt_eq] at this
  obtain ⟨⟨a,b⟩,c⟩:=this
  exact ⟨by simpa using a,fun d hd=>by rw [hd] at b; exact b,c⟩
 refine ⟨⟨fun t e h=>(ht t e h).info,fun t e h=>(ht t e h).under,fun t e h=>(ht t e h).eqg,fun t e h=>(ht t e h).held,fun f x h=>(hf f x h).fn,fun f x h=>?_⟩,⟨fun f x c h hc=>(hb f x h).2.1 c hc,fun f x h=>(hb f x h).2.2,h3,h4,h5⟩⟩
 have:=(hb f x h).1
 simpa using this
end Go.Proofs.YtdjngcfnlfgjkaaGreatDoor.AM

namespace Go.Proofs.YtdjngcfnlfgjkaaGreatDoor.AM
open Go.RowKit
variable [Glob]
mutual
theorem Rel.of_flat {w w':World} {own own':Nat→Prop} {ρ ρ':Rho} {a:AV} {v:Value} (hf:a.flat=true):Rel w own ρ a v→Rel w' own' ρ' a v
 | .junk _ _=>.junk _ _
 | .lit _ _ _ h=>.lit _ _ _ h
 | .agg _ _ _ h=>.agg _ _ _ (h.of_flat (by simpa [AV.flat] using hf))
 | .tuple _ _ _ h=>.tuple _ _ _ (h.of_flat (by simpa [AV.flat] using hf))
 | .func _ _ _ _ _ _ _ _=>by simp [AV.flat] at hf
 | .yld _ _ _ _=>by simp [AV.flat] at hf
 | .iface _ _ _ _ _=>by simp [AV.flat] at hf
 | .ref _ _ _ _ _ _=>by simp [AV.flat] at hf
 | .sl _ _ _ _ _ _ _ _ _ _ _ _=>by simp [AV.flat] at hf
 | .im _ _ _ _ _ _ _ _ _=>by simp [AV.flat] at hf
 | .ptr _ _ _ _ _ _ _ _=>by simp [AV.flat] at hf
 | .it _ _ _ _=>by simp [AV.flat] at hf
 | .ms _ _ _ _ _ _ _ _ _ _ _=>by simp [AV.flat] at hf
 | .mp _ _ _ _=>by simp [AV.flat] at hf
theorem Rels.of_flat {w w':World} {own own':Nat→Prop} {ρ ρ':Rho} {a:List AV} {v:List Value} (hf:flats a=true):Rels w own ρ a v→Rels w' own' ρ' a v
 | .nil _=>.nil _
 | .cons _ _ _ _ _ h h'=>by
   simp only [flats,Bool.and_eq_true] at hf
   exact .cons _ _ _ _ _ (h.of_flat hf.1) (h'.of_flat hf.2)
end
def h0:Hp:=⟨0,[],[],none⟩
section
variable {P:Program} {B0 nx0:Nat} {w w':World} {ρ:Rho} {h:Hp}
theorem HR.empty (w:World) (X:Nat→Prop) (hX:∀ c,X c→c < w.heap.size) (hK:∀ w',(∀ c,c < w.heap.size→w'.heap[c]? = w.heap[c]?)→Glob.K w'):HR w.heap.size 0 w ⟨fun _=>none,X⟩ h0:=by
 refine ⟨?_,?_,?_,?_,?_,?_,?_,Nat.le_refl _,Nat.le_refl _,hX,hK⟩
 ·intro b x h; cases h
 ·intro b B x h; simp [h0,Hp.get,look,lookRest] at h
 ·intro b b' B B' x x' h; simp [h0,Hp.get,look,lookRest] at h
 ·intro b B x h; simp [h0,Hp.get,look,lookRest] at h
 ·intro b B h; simp [h0,Hp.get,look,lookRest] at h
 ·intro i hi; simp [h0,ids] at hi
 ·intro s hs; simp [h0] at hs
theorem fn_known {T:Tab} (hT:T.Of P) {f:FuncId} {x:FnE} (hx:T.fn.get f=some x) (hb:x.fn.body.isNone=false) :
  ∃ fn,P.funcs[f]? = some fn∧(fn.name == "runtime.NumGoroutine")=false∧fn.body.isNone=false :=
 ⟨x.fn,hT.fn f x hx,by simpa using hT.names f x hx,hb⟩
theorem ext_closed {E:Env} (hT:E.T.Of P) (hG:E.T.Good P) (hX:∀ f g,E.ext f=some g→ExtOk P f g) (k:Nat) (f:FuncId) (args':List AV) (r:AV) (hr:r.mx=0) (hc:mxs args'=0)
  (hrun:(inv E k (.func f) args' [] h0).post fun q=>q.1=r) :
  ∀ (args:List AV) (h:Hp) (B0 nx0:Nat) (w:World) (ρ:Rho) (vargs:List Value),HR B0 nx0 w ρ h→Rels w (ownOf ρ h) ρ args vargs→args.map (frz h 0 12)=args'→(mxs args=0∨r.flat=true) →
    CallsIn (FW none) 0 P f vargs.toArray w (RetP (fun q=>q=(r,h)) B0 nx0 w ρ h):=by
 intro args h B0 nx0 w ρ vargs H hrel hfrz hcase
 have hI:=inv_sound hT hG hX k
 have go:∀ (X:Nat→Prop),(∀ c,X c→ownOf ρ h c)→Rels w X noRho args' vargs→((∀ c,ownOf ρ h c→X c)∨r.flat=true)→CallsIn (FW none) 0 P f vargs.toArray w (RetP (fun q=>q=(r,h)) B0 nx0 w ρ h):=by
  intro X hX1 hrels hX2
  have HE:=HR.empty w X (fun c hc=>H.own_lt (hX1 c hc)) fun w'' hw=>H.gk w'' fun c hc=>hw c (Nat.lt_of_lt_of_le hc H.sz)
  have hownE:∀ c,ownOf ⟨fun _=>none,X⟩ h0 c↔X c:=by
   intro c
   refine ⟨fun h1=>?_,fun h1=>.inl h1⟩
   rcases h1 with h1 | ⟨b,B,x,_,_,h2,_⟩
   ·exact h1
   ·cases h2
  have hstE:Stable w X w (ownOf ⟨fun _=>none,X⟩ h0):=fun c o h1 h2=>⟨h2,fun h3=>h1 ((hownE c).1 h3)⟩
  obtain ⟨_,hcall⟩:=hI.fn f args' [] h0 _ w.heap.size 0 w ⟨fun _=>none,X⟩ vargs [] HE (hrels.mono hstE (noRho_le _)) (.nil _) hrun
  have e:vargs.toArray++([]:List Value).toArray=vargs.toArray:=by simp
  rw [e] at hcall
  refine CallsIn.mono (R:=RetP _ w.heap.size 0 w ⟨fun _=>none,X⟩ h0) hcall fun en w' hret=>?_
  cases en with
  | panicked _=>exact hret.elim
  | outgrown=>exact hret.elim
  | returned v =>
    obtain ⟨r',h',ρ',hq,H1,E1,hv⟩:=hret
    simp only at hq; subst hq
    have hold:∀ c,c < w.heap.size→w'.heap[c]? = w.heap[c]? := by
     intro c hcl
     by_cases hXc:X c
     ·exact E1.xf c hXc
     ·exact E1.frame c hcl fun h1=>hXc ((hownE c).1 h1)
    obtain ⟨H2,E2⟩:=H.grown E1.size hold E1.os E1.tape E1.output
    refine ⟨r',h,ρ,rfl,H2,E2,?_⟩
    rcases hX2 with hX2 | hfl
    ·refine (hv.closed hr).mono (fun c o h1 h2=>⟨h2,fun h3=>h1 (.inl ?_)⟩) (noRho_le _)
     rw [E1.xs]; exact hX2 c h3
    ·exact hv.of_flat hfl
 by_cases hm:mxs args=0
 ·have e:args.map (frz h 0 12)=args:=frz_closeds h 0 12 hm
  rw [e] at hfrz; subst hfrz
  exact go (ownOf ρ h) (fun _ h=>h) (hrel.closed hm) (.inl fun _ h=>h)
 ·have hfl:=hcase.resolve_left hm
  refine go (fun _=>False) (fun _ h=>h.elim) ?_ (.inr hfl)
  have key:∀ {l:List AV} {vs:List Value},Rels w (ownOf ρ h) ρ l vs→Rels w (fun _=>False) ρ (l.map (frz h 0 12)) vs:=by
   intro l
   induction l with
   | nil=>intro vs h; cases h; exact .nil _
   | cons y l ih=>intro vs h1; cases h1 with | cons _ _ _ _ _ h1 h2=>exact .cons _ _ _ _ _ (frz_sound H (fun c h=>h.elim) 12 _ _ h1) (ih h2)
  have:=key hrel
  rw [hfrz] at this
  exact this.closed hc
def extTab:List (List AV × AV)→List AV→Option AV
 | [],_=>none
 | (a,r)::t,args=>if sames a args then some r else extTab t args
theorem extTab_mem:∀ {t:List (List AV × AV)} {args:List AV} {r:AV},extTab t args=some r→(args,r)∈t
 | [],_,_,h=>by cases h
 | (a,r')::t,args,r,h=>by
   simp only [extTab] at h
   split at h
   ·rename_i hs
    injection h with h; subst h
    rw [← sames_eq hs]; exact .head _
   ·exact .tail _ (extTab_mem h)
structure Row (P:Program) (f:FuncId) (e:List AV × AV):Prop where
 ok:∀ (args:List AV) (h:Hp) (B0 nx0:Nat) (w:World) (ρ:Rho) (vargs:List Value),HR B0 nx0 w ρ h→Rels w (ownOf ρ h) ρ args vargs→args.map (frz h 0 12)=e.1→(mxs args=0∨e.2.flat=true) →
  CallsIn (FW none) 0 P f vargs.toArray w (RetP (fun q=>q=(e.2,h)) B0 nx0 w ρ h)
theorem extOk_tab {f:FuncId} {t:List (List AV × AV)} (hk:∃ fn,P.funcs[f]? = some fn∧(fn.name == "runtime.NumGoroutine")=false∧fn.body.isNone=false) (ht:∀ e∈t,Row P f e):ExtOk P f (extTab t) :=
 ⟨hk,fun args r h B0 nx0 w ρ vargs H hrel hg hfl=>(ht _ (extTab_mem hg)).ok args h B0 nx0 w ρ vargs H hrel rfl hfl⟩
def answers (E:Env) (k:Nat) (f:FuncId) (args:List AV) (r:AV):Bool :=
 match inv E k (.func f) args [] h0 with
 | .ok (v,_)=>v.same r&&(r.mx == 0)&&(mxs args == 0)
 | _=>false
theorem row_of {E:Env} (hT:E.T.Of P) (hG:E.T.Good P) (hX:∀ f g,E.ext f=some g→ExtOk P f g) (k:Nat) (f:FuncId) (args:List AV) (r:AV) (h:answers E k f args r=true):Row P f (args,r):=by
 unfold answers at h
 split at h
 case h_2=>cases h
 rename_i v h1 hrun
 simp only [Bool.and_eq_true,beq_iff_eq] at h
 obtain ⟨⟨a,b⟩,c⟩:=h
 exact ⟨ext_closed hT hG hX k f args r b c (by rw [hrun]; exact AV.same_eq a)⟩
def extL (base:FuncId→Option (List AV→Option AV)):List (FuncId × List (List AV × AV))→FuncId→Option (List AV→Option AV)
 | [],f=>base f
 | (g,t)::l,f=>if f=g then some (extTab t) else extL base l f
def RowsOk (P:Program) (f:FuncId):List (List AV × AV)→Prop
 | []=>True
 | e::t=>Row P f e∧RowsOk P f t
def Known (P:Program) (f:FuncId):Prop:=∃ fn,P.funcs[f]? = some fn∧(fn.name == "runtime.NumGoroutine")=false∧fn.body.isNone=false
def ExtsOk (P:Program):List (FuncId × List (List AV × AV))→Prop
 | []=>True
 | (g,t)::l=>Known P g∧RowsOk P g t∧ExtsOk P l
theorem rowsOk_mem {f:FuncId}:∀ {t:List (List AV × AV)},RowsOk P f t→∀ e∈t,Row P f e
 | _::_,⟨h1,_⟩,_,.head _=>h1
 | _::_,⟨_,h2⟩,e,.tail _ he=>rowsOk_mem h2 e he
theorem extL_ok {base:FuncId→Option (List AV→Option AV)} (hb:∀ f g,base f=some g→ExtOk P f g):∀ {l:List (FuncId × List (List AV × AV))},ExtsOk P l→∀ f g,extL base l f=some g→ExtOk P f g
 | [],_,f,g,h=>hb f g h
 | (g',t)::l,⟨h1,h2,h3⟩,f,g,h=>by
   simp only [extL] at h
   split at h
   ·rename_i e
    subst e; injection h with h; subst h
    exact extOk_tab h1 (rowsOk_mem h2)
   ·exact extL_ok hb h3 f g h
end
end Go.Proofs.YtdjngcfnlfgjkaaGreatDoor.AM

namespace Go.Proofs.YtdjngcfnlfgjkaaGreatDoor.AM
open Go.RowKit
variable [Glob]
def hS (k:Nat) (rows:List (List AV)):Hp:=⟨1,[(0,.cells k rows)],[],none⟩
def rhoS (x:Loc):Rho:=⟨fun c=>if c=0 then some x else none,fun _=>False⟩
mutual
theorem flat_mx:∀ (a:AV),a.flat=true→a.mx=0
 | .agg cs,h=>by simp only [AV.flat] at h; simp only [AV.mx]; exact flats_mx cs h
 | .tuple cs,h=>by simp only [AV.flat] at h; simp only [AV.mx]; exact flats_mx cs h
 | .bool _,_=>rfl
 | .int _ _,_=>rfl
 | .str _,_=>rfl
 | .nilp,_=>rfl
 | .nils,_=>rfl
 | .nilm,_=>rfl
 | .nilf,_=>rfl
 | .nili,_=>rfl
 | .junk,h=>by simp [AV.flat] at h
 | .ptr _ _ _,h=>by simp [AV.flat] at h
 | .ref _,h=>by simp [AV.flat] at h
 | .it _,h=>by simp [AV.flat] at h
 | .sl _ _,h=>by simp [AV.flat] at h
 | .ms _ _ _,h=>by simp [AV.flat] at h
 | .mp _,h=>by simp [AV.flat] at h
 | .im _,h=>by simp [AV.flat] at h
 | .func _ _ _,h=>by simp [AV.flat] at h
 | .yld _,h=>by simp [AV.flat] at h
 | .iface _ _,h=>by simp [AV.flat] at h
 | .sym _ _,h=>by simp [AV.flat] at h
theorem flats_mx:∀ (l:List AV),flats l=true→mxs l=0
 | [],_=>rfl
 | a::l,h=>by
   simp only [flats,Bool.and_eq_true] at h
   simp only [mxs,flat_mx a h.1,flats_mx l h.2,Nat.max_self]
end
section
variable {P:Program} {B0 nx0:Nat} {w w':World} {ρ:Rho} {h:Hp}
theorem hS_get (k:Nat) (rows:List (List AV)) (b:Nat):(hS k rows).get b=if b=0 then some (.cells k rows) else none:=by
 unfold hS Hp.get
 simp only [look,lookRest]
 by_cases h:b=0<;>simp [h]
theorem ownS_iff (k:Nat) (rows:List (List AV)) (x:Loc) (c:Nat):ownOf (rhoS x) (hS k rows) c↔c=x.c:=by
 constructor
 ·rintro (h | ⟨b,B,y,h1,h2,h3,h4⟩)
  ·exact h.elim
  ·simp only [rhoS] at h3
   split at h3
   ·injection h3 with h3; subst h3; exact h4.symm
   ·cases h3
 ·rintro rfl
  exact .inr ⟨0,_,x,by rw [hS_get,if_pos rfl],rfl,rfl,rfl⟩
theorem HR.row (H:HR B0 nx0 w ρ h) {b k:Nat} {rows:List (List AV)} {x:Loc} (hg:h.get b=some (.cells k rows)) (hx:ρ b=some x) (hm:mxss rows=0):HR B0 0 w (rhoS x) (hS k rows):=by
 have hst:Stable w (ownOf ρ h) w (ownOf (rhoS x) (hS k rows)):=fun c o hc ho=>⟨ho,fun h1=>hc (by
  rw [(ownS_iff k rows x c).1 h1]
  exact .inr ⟨b,_,x,hg,rfl,hx,rfl⟩)⟩
 have one:∀ {c:Nat} {y:Loc},(rhoS x) c=some y→c=0∧y=x:=by
  intro c y hy
  simp only [rhoS] at hy
  split at hy
  ·rename_i h0; injection hy with hy; exact ⟨h0,hy.symm⟩
  ·cases hy
 refine ⟨fun c y hy=>?_,fun c C y h1 h2=>?_,fun c c' C C' y y' _ _ _ _ h5 h6 _=>?_,fun c C y _ _ h3=>?_,fun c C h1=>?_,fun i hi=>?_,fun s hs=>?_,Nat.zero_le _,H.sz,fun _ h=>h.elim,H.gk⟩
 ·rw [(one hy).1]; exact Nat.zero_lt_one
 ·obtain ⟨rfl,rfl⟩:=one h2
  rw [hS_get,if_pos rfl] at h1
  injection h1 with h1; subst h1
  obtain ⟨arr,e,vs,q1,q2,q3,q4,q5,q6,q7⟩:=H.blk b _ y hg hx
  exact ⟨arr,e,vs,q1,q2,q3,q4,q5,((q6.closed (by rw [mxss_flat] at hm; exact hm)).mono hst (noRho_le _)),q7⟩
 ·rw [(one h5).1,(one h6).1]
 ·rw [(one h3).2]; exact H.low b _ x hg rfl hx
 ·rw [hS_get] at h1
  split at h1
  ·injection h1 with h1; subst h1
   show mxss rows≤_
   rw [hm]; exact Nat.zero_le _
  ·cases h1
 ·simp [hS,ids] at hi; subst hi; exact ⟨Nat.zero_le _,Nat.zero_lt_one⟩
 ·simp [hS] at hs
theorem exec_call {E:Env} (hT:E.T.Of P) (hG:E.T.Good P) (hX:∀ f g,E.ext f=some g→ExtOk P f g) (K:Nat) {f:FuncId} {e:FnE} {code:Code} (he:E.T.fn.get f=some e) (hcode:e.fn.body=some code) (hres:e.fn.results.toList=[])
  (H:HR B0 nx0 w ρ h) {args:List AV} {vargs:List Value} (hr:Rels w (ownOf ρ h) ρ args vargs) {Q:Hp→Prop}
  (hrun:(exec E.T (inv E K) K e.loc none code ⟨args++List.replicate (e.fn.ntmps - args.length) undefA,[]⟩ h.enter).post fun q=>(∀ id,q.1 ≠ .exit id)∧q.2.1.dfr=[]∧Q q.2.2) :
  CallsIn (FW none) 0 P f vargs.toArray w fun en w'=>en = .returned (.tuple #[])∧∃ h1 ρ1,Q h1∧HR B0 h.nx w' ρ1 h1∧Ext w ρ h.enter w' ρ1 h1:=by
 have hiv:=inv_sound hT hG hX K
 have hPf:=hT.fn f e he
 obtain ⟨H0,hown⟩:=H.enter
 have hst:Stable w (ownOf ρ h) w (ownOf ρ h.enter):=fun c o hc ho=>⟨ho,fun h1=>hc ((hown c).1 h1)⟩
 have hlen:=hr.length
 have hA:ActR w (ownOf ρ h.enter) ρ e.loc ⟨args++List.replicate (e.fn.ntmps - args.length) undefA,[]⟩ { tmps:=vargs.toArray++Array.replicate (e.fn.ntmps - vargs.toArray.size) undef,defers:=[] }:=by
  have hrels:Rels w (ownOf ρ h.enter) ρ (args++List.replicate (e.fn.ntmps - args.length) undefA) (vargs++List.replicate (e.fn.ntmps - vargs.length) undef):=by
   rw [hlen]; exact (hr.mono hst (Rho.le_refl _)).append (Rels.replicate (undefA_rel _ _ _) _)
  have el:(vargs.toArray++Array.replicate (e.fn.ntmps - vargs.toArray.size) undef).toList=vargs++List.replicate (e.fn.ntmps - vargs.length) undef:=by simp
  refine ⟨?_,trivial⟩
  rw [el]
  refine ⟨hrels.length,fun t ht=>?_,fun t x _ hx=>?_⟩
  ·have h1:=hG.locs f e he
   have:t < e.fn.ntmps:=by
    rcases Nat.lt_or_ge t e.fn.ntmps with h2 | h2
    ·exact h2
    ·have:e.loc < 2 ^ t:=Nat.lt_of_lt_of_le h1 (Nat.pow_le_pow_right (by omega) h2)
     rw [Nat.testBit_lt_two_pow this] at ht; cases ht
   simp; omega
  ·exact hrels.get (by rw [nth_eq]; exact hx)
 have hwalk:=exec_sound hT hiv K none code (hG.draws f e code he hcode) _ _ _ B0 h.nx w ρ _ none H0 hA trivial hrun
 refine callsIn_of_wp_marks hPf hcode trivial (wpIn_mono hwalk fun ex a' w' hp=>?_)
 obtain ⟨x',fr',h',ρ',⟨q1,q2,q3⟩,m,H1,E1,A1⟩:=hp
 have fin:LeavesInM (FW none) 0 P e.fn a'.tmps (fun en w'=>en = .returned (.tuple #[])∧∃ h1 ρ1,Q h1∧HR B0 h.nx w' ρ1 h1∧Ext w ρ h.enter w' ρ1 h1) a'.defers .returning w':=by
  have hd:=A1.2
  simp only at q2
  rw [q2] at hd
  refine closeDfr_sound H1 hd rfl fun w'' H2 E2=>?_
  obtain ⟨v,hv1,hv2⟩:=resultsA_sound hT H2 (A1.1.mono E2.stable (E2.le H1.dom)) (fn:=e.fn) (vs:=[]) (by rw [hres]; rfl)
  obtain ⟨us,rfl,hus⟩:=hv2.tuple_inv
  cases hus
  exact ⟨_,hv1,rfl,h',ρ',q3,H2,E1.trans E2⟩
 cases x'<;>cases ex<;>simp only [exM] at m
 ·exact fin
 ·exact (q1 _ rfl).elim
 ·exact fin
theorem gp_closed {E:Env} (hT:E.T.Of P) (hG:E.T.Good P) (hX:∀ f g,E.ext f=some g→ExtOk P f g) (K:Nat) {f:FuncId} {p:GpF} {e:FnE} {code:Code} (he:E.T.fn.get f=some e) (hcode:e.fn.body=some code) (hres:e.fn.results.toList=[])
  (h1:∀ k rows more rows',mxss rows=0→mxs more=0→p.g (.sl k rows::more)=some (.sl k rows')→rows'.length=rows.length→flats rows'.flatten=true →
   (exec E.T (inv E K) K e.loc none code ⟨(.ms 0 0 rows.length::more)++List.replicate (e.fn.ntmps - (AV.ms 0 0 rows.length::more).length) undefA,[]⟩ (hS k rows).enter).post fun q=>(∀ id,q.1 ≠ .exit id)∧q.2.1.dfr=[]∧q.2.2.get 0=some (.cells k rows'))
  (h2:∀ more,mxs more=0→p.g (.nils::more)=some .nils →
   (exec E.T (inv E K) K e.loc none code ⟨(.nils::more)++List.replicate (e.fn.ntmps - (AV.nils::more).length) undefA,[]⟩ h0.enter).post fun q=>(∀ id,q.1 ≠ .exit id)∧q.2.1.dfr=[]∧True):GpOk P f p:=by
 have hk:∃ fn,P.funcs[f]? = some fn∧(fn.name == "runtime.NumGoroutine")=false∧fn.body.isNone=false:=fn_known hT he (by rw [hcode]; rfl)
 refine ⟨hk,?_,?_⟩
 ·intro b k rows more rows' h B0 nx0 w ρ vargs H hg hm hr hmore hgq hlen hfl
  cases hr with
  | cons _ _ v _ vmore hv hvm =>
  obtain ⟨x,a,cap,rfl,hx,hl,hcap,hadr⟩:=hv.ms_inv
  have HS:=H.row hg hx hm
  have hown:ownOf ρ h x.c:=.inr ⟨b,_,x,hg,rfl,hx,rfl⟩
  have hst2:Stable w (ownOf ρ h) w (fun c=>c=x.c):=fun c o hc ho=>⟨ho,fun h1=>hc (h1 ▸ hown)⟩
  have hmv:Rels w (ownOf (rhoS x) (hS k rows)) (rhoS x) (more.map (frz (h.set b .dead) 0 12)) vmore:=by
   have key:∀ {l:List AV} {vs:List Value},Rels w (ownOf ρ h) ρ l vs→Rels w (fun c=>c=x.c) ρ (l.map (frz (h.set b .dead) 0 12)) vs:=by
    intro l
    induction l with
    | nil=>intro vs h; cases h; exact .nil _
    | cons y l ih =>
      intro vs h1
      cases h1 with
      | cons _ _ _ _ _ h1 h2 =>
        refine .cons _ _ _ _ _ (frz_sound2 H (fun c C g1 g2=>(set_dead_live c C g1 g2).2) hst2 (fun b' B y' _ g1 g2 g3 g4=>?_) 12 _ _ h1) (ih h2)
        obtain ⟨g5,g6⟩:=set_dead_live b' B g1 g2
        exact g5 (H.inj b' b B _ y' x g6 hg g2 rfl g3 hx g4)
   refine ((key hvm).closed hmore).mono (fun c o hc ho=>⟨ho,fun h1=>hc ((ownS_iff k rows x c).1 h1)⟩) (noRho_le _)
  have hms:Rel w (ownOf (rhoS x) (hS k rows)) (rhoS x) (.ms 0 0 rows.length) (.slice (some ⟨x.c,a,none⟩) rows.length cap):=.ms _ 0 0 rows.length x rfl hl a cap hcap hadr
  have hcall:=exec_call (w:=w) hT hG hX K he hcode hres HS (.cons _ _ _ _ _ hms hmv) (Q:=fun h1=>h1.get 0=some (.cells k rows')) (h1 k rows _ rows' hm hmore hgq hlen hfl)
  refine CallsIn.mono hcall fun en w' hh=>?_
  obtain ⟨rfl,h1',ρ1,hg0,H1,E1⟩:=hh
  have hρ0:ρ1 0=some x:=(E1.rho 0 (Nat.zero_lt_one)).trans rfl
  obtain ⟨arr,e',vs,q1,q2,q3,q4,q5,q6,q7⟩:=H1.blk 0 _ x hg0 hρ0
  have hxl:x.c < w.heap.size:=H.own_lt hown
  obtain ⟨_,hownE⟩:=HS.enter
  have hoth:∀ c,c < w.heap.size→c ≠ x.c→w'.heap[c]? = w.heap[c]? := fun c hc hne=>E1.frame c hc fun h1=>hne ((ownS_iff k rows x c).1 ((hownE c).1 h1))
  have hmx:mxs rows'.flatten=0:=flats_mx _ hfl
  have hmx2:mxss rows'=0:=by rw [mxss_flat]; exact hmx
  obtain ⟨H2,E2⟩:=H.turn hg rfl hx (.cells k rows') rfl 0 (by show mxss rows'≤_; rw [hmx2]; exact Nat.zero_le _) (Nat.zero_le _) { w with heap:=w.heap.setIfInBounds x.c (.cells arr e' (0,0)) } (by simp) (fun c hc=>by
   show (w.heap.setIfInBounds x.c _)[c]? = _
   rw [Array.getElem?_setIfInBounds_ne (Ne.symm hc)]) rfl rfl rfl (fun own hst=>by
   refine ⟨arr,e',vs,?_,q2,q3,q4,q5,q6.of_flat hfl,q7⟩
   show (w.heap.setIfInBounds x.c _)[x.c]? = _
   rw [Array.getElem?_setIfInBounds_self_of_lt hxl])
  have el:((h.set b (.cells k rows')).leak b 0)=h.set b (.cells k rows'):=by simp [Hp.leak]
  rw [el] at H2 E2
  obtain ⟨H3,E3⟩:=H2.grown (w':=w') (by simp; exact E1.size) (fun c hc=>by
   have hc:c < w.heap.size:=by simpa using hc
   show _=(w.heap.setIfInBounds x.c _)[c]?
   by_cases e1:c=x.c
   ·subst e1; rw [q1,Array.getElem?_setIfInBounds_self_of_lt hxl]
   ·rw [Array.getElem?_setIfInBounds_ne (Ne.symm e1)]; exact hoth c hc e1) E1.os E1.tape E1.output
  exact ⟨undefA,_,ρ,rfl,H3,E2.trans E3,.tuple _ [] [] (.nil _)⟩
 ·intro more h B0 nx0 w ρ vargs H hr hmore hgq
  have HE:=HR.empty w (fun _=>False) (fun _ h=>h.elim) fun w'' hw=>H.gk w'' fun c hc=>hw c (Nat.lt_of_lt_of_le hc H.sz)
  have key:∀ {l:List AV} {vs:List Value},Rels w (ownOf ρ h) ρ l vs→Rels w (fun _=>False) ρ (l.map (frz h 0 12)) vs:=by
   intro l
   induction l with
   | nil=>intro vs h; cases h; exact .nil _
   | cons y l ih=>intro vs h1; cases h1 with | cons _ _ _ _ _ h1 h2=>exact .cons _ _ _ _ _ (frz_sound H (fun c h=>h.elim) 12 _ _ h1) (ih h2)
  have hk2:=key hr
  have hn:frz h 0 12 AV.nils=AV.nils:=rfl
  have hm2:mxs ((AV.nils::more).map (frz h 0 12))=0:=by
   rw [List.map_cons,hn]; show max (AV.mx .nils) (mxs (more.map (frz h 0 12)))=0
   rw [hmore]; rfl
  have hstE:Stable w (fun _=>False) w (ownOf ⟨fun _=>none,fun _=>False⟩ h0):=fun c o _ h2=>⟨h2,fun h3=>by
   rcases h3 with h3 | ⟨b,B,x,_,_,h3,_⟩
   ·exact h3
   ·cases h3⟩
  have hcall:=exec_call (w:=w) hT hG hX K he hcode hres HE ((hk2.closed hm2).mono hstE (noRho_le _)) (Q:=fun _=>True) (h2 _ hmore hgq)
  refine CallsIn.mono hcall fun en w' hh=>?_
  obtain ⟨rfl,h1',ρ1,_,H1,E1⟩:=hh
  obtain ⟨H3,E3⟩:=H.grown (w':=w') E1.size (fun c hc=>E1.frame c hc fun h1=>by
   rcases h1 with h1 | ⟨b,B,x,_,_,h3,_⟩
   ·exact h1
   ·cases h3) E1.os E1.tape E1.output
  exact ⟨undefA,_,ρ,rfl,H3,E3,.tuple _ [] [] (.nil _)⟩
end
end Go.Proofs.YtdjngcfnlfgjkaaGreatDoor.AM

namespace Go.Proofs.YtdjngcfnlfgjkaaGreatDoor.AM
def noW (T:Tab) (t:Nat):Code→Bool
 | .region _ ops _=>(ops.toList.all fun o=>!(o.dst == some t))&&(fzSlots T ops).isEmpty
 | .seq a b=>noW T t a&&noW T t b
 | .cond _ a b=>noW T t a&&noW T t b
 | .block _ c=>noW T t c
 | .loop c=>noW T t c
 | .rangeFunc _ _ _ _=>false
 | .scope c=>noW T t c
 | _=>true
theorem putA_keep {M:Nat} {s:Sl} {d:Option Tmp} {v:AV} {t:Nat} (h:d ≠ some t):nth (putA M s d v).fr t=nth s.fr t:=by
 unfold putA
 split
 ·rename_i d'
  split
  ·rfl
  ·simp only [nth_eq,put_eq]
   rw [List.getElem?_set_ne]
   rintro rfl; exact h rfl
 ·rfl
theorem bind_ok {α β:Type} {m:Nd α} {f:α→Nd β} {b:β} (h:m.bind f = .ok b):∃ a,m = .ok a∧f a = .ok b:=by
 cases m with
 | ok a=>exact ⟨a,rfl,h⟩
 | fail=>cases h
 | pick n k=>cases h
theorem stepOp_keep {T:Tab} {inv:Inv} {M:Nat} {ops:Array Oper} {o:Oper} {s:Sl} {h:Hp} {r:Sl × Hp} {t:Nat} (ho:o.dst ≠ some t) (hr:stepOp T inv M ops o s h = .ok r):nth r.1.fr t=nth s.fr t:=by
 unfold stepOp at hr
 split at hr
 ·obtain ⟨a,_,h2⟩:=bind_ok hr
  injection h2 with h2; subst h2
  exact putA_keep ho
 ·injection hr with hr; subst hr
  exact putA_keep ho
 ·cases hr
theorem runOps_keep {T:Tab} {inv:Inv} {M:Nat} {ops:Array Oper} {t:Nat}:∀ (os:List Oper) {s:Sl} {h:Hp} {r:Sl × Hp},(os.all fun o=>!(o.dst == some t))=true→runOps T inv M ops os s h = .ok r→nth r.1.fr t=nth s.fr t
 | [],s,h,r,_,hr=>by injection hr with hr; subst hr; rfl
 | o::os,s,h,r,ho,hr=>by
   simp only [List.all_cons,Bool.and_eq_true,Bool.not_eq_true',beq_eq_false_iff_ne] at ho
   simp only [runOps] at hr
   obtain ⟨a,h1,h2⟩:=bind_ok hr
   rw [runOps_keep os ho.2 h2,stepOp_keep ho.1 h1]
theorem runDraw_keep {T:Tab} {inv:Inv} {M:Nat} {ops:Array Oper} {t:Nat}:∀ (os:List Oper) (pres:List AV) {s:Sl} {h:Hp} {r:Sl × Hp × List Rec},(os.all fun o=>!(o.dst == some t))=true→runDraw T inv M ops os pres s h = .ok r→nth r.1.fr t=nth s.fr t
 | [],_,s,h,r,_,hr=>by simp only [runDraw] at hr; injection hr with hr; subst hr; rfl
 | o::os,[],s,h,r,_,hr=>by simp only [runDraw] at hr; cases hr
 | o::os,p::pres,s,h,r,ho,hr=>by
   simp only [List.all_cons,Bool.and_eq_true,Bool.not_eq_true',beq_eq_false_iff_ne] at ho
   simp only [runDraw] at hr
   obtain ⟨a,h1,h2⟩:=bind_ok hr
   obtain ⟨q,h3,h4⟩:=bind_ok h2
   injection h4 with h4; subst h4
   rw [runDraw_keep os pres ho.2 h3,putA_keep ho.1]
theorem drawA_keep {T:Tab} {inv:Inv} {M:Nat} {ops:Array Oper} {t:Nat} {fr:List AV} {h:Hp} {r:Sl × Hp} (ho:(ops.toList.all fun o=>!(o.dst == some t))=true) (hr:drawA T inv M ops fr h = .ok r):nth r.1.fr t=nth fr t:=by
 unfold drawA at hr
 split at hr
 ·split at hr
  ·rename_i q hq
   split at hr
   ·injection hr with hr; subst hr
    exact (runDraw_keep _ _ ho hq).trans rfl
   ·cases hr
  ·cases hr
 ·cases hr
theorem norm_keep {x:AV} (hx:x.un=false):∀ (a b:List AV) (t:Nat),nth a t=some x→nth (norm a b) t=nth b t
 | [],_,_,h=>by cases h
 | a::as,[],t,h=>by simp [norm]
 | a::as,b::bs,0,h=>by
   simp only [nth] at h; injection h with h; subst h
   simp only [norm,nth,hx,Bool.false_eq_true,if_false]
 | a::as,b::bs,t+1,h=>by
   simp only [nth] at h
   simp only [norm,nth]
   exact norm_keep hx as bs t h
theorem iter_keep {body:Fr→Hp→Out} {t:Nat} {x:AV} (hx:x.un=false) (hb:∀ {fr:Fr} {h:Hp} {r:Ex × Fr × Hp},nth fr.tmps t=some x→body fr h = .ok r→nth r.2.1.tmps t=some x) :
  ∀ (k:Nat) {fr:Fr} {h:Hp} {r:Ex × Fr × Hp},nth fr.tmps t=some x→iter body k fr h = .ok r→nth r.2.1.tmps t=some x
 | 0,fr,h,r,_,hr=>by cases hr
 | k+1,fr,h,r,hf,hr=>by
   simp only [iter] at hr
   obtain ⟨⟨ex,fr1,h1⟩,e1,e2⟩:=bind_ok hr
   have hn:=hb hf e1
   simp only at hn
   cases ex with
   | normal=>exact iter_keep hx hb k (by simp only; rw [norm_keep hx _ _ _ hf]; exact hn) e2
   | exit id=>injection e2 with e2; subst e2; simp only; rw [norm_keep hx _ _ _ hf]; exact hn
   | ret=>injection e2 with e2; subst e2; exact hn
theorem exec_keep {T:Tab} {inv:Inv} {k M:Nat} {t:Nat} {x:AV} (hx:x.un=false):∀ (c:Code),noW T t c=true→∀ {fr:Fr} {h:Hp} {r:Ex × Fr × Hp},nth fr.tmps t=some x→exec T inv k M none c fr h = .ok r→nth r.2.1.tmps t=some x:=by
 intro c
 induction c with
 | region id ops draw =>
   intro hn fr h r hf hr
   simp only [noW,Bool.and_eq_true] at hn
   have hp:preFz T M ops fr.tmps h=(fr.tmps,h):=by
    unfold preFz
    rw [List.isEmpty_iff.1 hn.2]; rfl
   simp only [exec,hp] at hr
   obtain ⟨q,h1,h2⟩:=bind_ok hr
   injection h2 with h2; subst h2
   simp only
   cases draw with
   | true=>simp only [if_true] at h1; rw [drawA_keep hn.1 h1]; exact hf
   | false=>simp only [Bool.false_eq_true,if_false] at h1; rw [runOps_keep _ hn.1 h1]; exact hf
 | seq a b iha ihb =>
   intro hn fr h r hf hr
   simp only [noW,Bool.and_eq_true] at hn
   simp only [exec] at hr
   obtain ⟨⟨ex,fr1,h1⟩,e1,e2⟩:=bind_ok hr
   have h3:=iha hn.1 hf e1
   cases ex with
   | normal=>exact ihb hn.2 h3 e2
   | exit id=>injection e2 with e2; subst e2; exact h3
   | ret=>injection e2 with e2; subst e2; exact h3
 | cond c a b iha ihb =>
   intro hn fr h r hf hr
   simp only [noW,Bool.and_eq_true] at hn
   simp only [exec] at hr
   split at hr
   ·exact iha hn.1 hf hr
   ·exact ihb hn.2 hf hr
   ·cases hr
 | block id c ih =>
   intro hn fr h r hf hr
   simp only [noW] at hn
   simp only [exec] at hr
   obtain ⟨⟨ex,fr1,h1⟩,e1,e2⟩:=bind_ok hr
   have h3:=ih hn hf e1
   cases ex with
   | normal=>injection e2 with e2; subst e2; exact h3
   | exit id' =>
     simp only at e2
     split at e2
     ·injection e2 with e2; subst e2; exact h3
     ·injection e2 with e2; subst e2; exact h3
   | ret=>injection e2 with e2; subst e2; exact h3
 | loop c ih =>
   intro hn fr h r hf hr
   simp only [noW] at hn
   simp only [exec] at hr
   exact iter_keep hx (fun hf hr=>ih hn hf hr) k (by simp only; rw [norm_keep hx _ _ _ hf]; exact hf) hr
 | scope c ih =>
   intro hn fr h r hf hr
   simp only [noW] at hn
   simp only [exec] at hr
   exact ih hn hf hr
 | skip=>intro _ fr h r hf hr; injection hr with hr; subst hr; exact hf
 | exit id=>intro _ fr h r hf hr; injection hr with hr; subst hr; exact hf
 | label _=>intro _ fr h r hf hr; injection hr with hr; subst hr; exact hf
 | ret=>intro _ fr h r hf hr; injection hr with hr; subst hr; exact hf
 | goto _=>intro _ fr h r hf hr; cases hr
 | refuse _=>intro _ fr h r hf hr; cases hr
 | rangeFunc _ _ _ _ _ _=>intro hn; cases hn
def ins (z:Int):List Int→List Int
 | []=>[z]
 | y::l=>if z≤y then z::y::l else y::ins z l
def isort:List Int→List Int
 | []=>[]
 | z::l=>ins z (isort l)
def uniq:Int→List Int→List Int
 | _,[]=>[]
 | y,z::l=>if y=z then uniq z l else z::uniq z l
def uniqs:List Int→List Int
 | []=>[]
 | z::l=>z::uniq z l
def ipSort:IpF:=⟨false,fun zs=>if zs.length < 1099511627776 then some (isort zs) else none⟩
def ipComp:IpF:=⟨true,fun zs=>if zs.length < 1099511627776 then some (uniqs zs) else none⟩
theorem ins_perm (z:Int):∀ l:List Int,(ins z l).Perm (z::l)
 | []=>.refl _
 | y::l=>by
   simp only [ins]
   split
   ·exact .refl _
   ·exact ((ins_perm z l).cons y).trans (.swap z y l)
theorem isort_perm:∀ l:List Int,(isort l).Perm l
 | []=>.refl _
 | z::l=>(ins_perm z (isort l)).trans ((isort_perm l).cons z)
theorem isort_length (l:List Int):(isort l).length=l.length:=(isort_perm l).length_eq
theorem ins_sorted (z:Int):∀ {l:List Int},l.Pairwise (·≤·)→(ins z l).Pairwise (·≤·)
 | [],_=>by simp [ins]
 | y::l,h=>by
   obtain ⟨h1,h2⟩:=List.pairwise_cons.1 h
   simp only [ins]
   split
   ·rename_i hz
    refine List.pairwise_cons.2 ⟨fun a ha=>?_,h⟩
    rcases List.mem_cons.1 ha with rfl | ha
    ·exact hz
    ·exact Int.le_trans hz (h1 a ha)
   ·rename_i hz
    refine List.pairwise_cons.2 ⟨fun a ha=>?_,ins_sorted z h2⟩
    rcases List.mem_cons.1 ((ins_perm z l).mem_iff.1 ha) with rfl | ha
    ·omega
    ·exact h1 a ha
theorem isort_sorted:∀ l:List Int,(isort l).Pairwise (·≤·)
 | []=>.nil
 | z::l=>ins_sorted z (isort_sorted l)
end Go.Proofs.YtdjngcfnlfgjkaaGreatDoor.AM

namespace Go.Proofs.YtdjngcfnlfgjkaaGreatDoor.AM
open Go.RowKit
variable [Glob]
section
variable {P:Program} {B0 nx0:Nat} {w w':World} {ρ:Rho} {h:Hp}
theorem exec_callR {E:Env} (hT:E.T.Of P) (hG:E.T.Good P) (hX:∀ f g,E.ext f=some g→ExtOk P f g) (K:Nat) {f:FuncId} {e:FnE} {code:Code} (he:E.T.fn.get f=some e) (hcode:e.fn.body=some code)
  (H:HR B0 nx0 w ρ h) {args:List AV} {vargs:List Value} (hr:Rels w (ownOf ρ h) ρ args vargs) {Q:List AV→Hp→Prop}
  (hrun:(exec E.T (inv E K) K e.loc none code ⟨args++List.replicate (e.fn.ntmps - args.length) undefA,[]⟩ h.enter).post fun q=>(∀ id,q.1 ≠ .exit id)∧q.2.1.dfr=[]∧∃ vs,resultsA E.T e.loc q.2.2 q.2.1.tmps e.fn.results.toList=some vs∧Q vs q.2.2) :
  CallsIn (FW none) 0 P f vargs.toArray w fun en w'=>∃ v vs h1 ρ1,en = .returned v∧Q vs h1∧HR B0 h.nx w' ρ1 h1∧Ext w ρ h.enter w' ρ1 h1∧Rel w' (ownOf ρ1 h1) ρ1 (oneOf vs) v:=by
 have hiv:=inv_sound hT hG hX K
 have hPf:=hT.fn f e he
 obtain ⟨H0,hown⟩:=H.enter
 have hst:Stable w (ownOf ρ h) w (ownOf ρ h.enter):=fun c o hc ho=>⟨ho,fun h1=>hc ((hown c).1 h1)⟩
 have hlen:=hr.length
 have hA:ActR w (ownOf ρ h.enter) ρ e.loc ⟨args++List.replicate (e.fn.ntmps - args.length) undefA,[]⟩ { tmps:=vargs.toArray++Array.replicate (e.fn.ntmps - vargs.toArray.size) undef,defers:=[] }:=by
  have hrels:Rels w (ownOf ρ h.enter) ρ (args++List.replicate (e.fn.ntmps - args.length) undefA) (vargs++List.replicate (e.fn.ntmps - vargs.length) undef):=by
   rw [hlen]; exact (hr.mono hst (Rho.le_refl _)).append (Rels.replicate (undefA_rel _ _ _) _)
  have el:(vargs.toArray++Array.replicate (e.fn.ntmps - vargs.toArray.size) undef).toList=vargs++List.replicate (e.fn.ntmps - vargs.length) undef:=by simp
  refine ⟨?_,trivial⟩
  rw [el]
  refine ⟨hrels.length,fun t ht=>?_,fun t x _ hx=>?_⟩
  ·have h1:=hG.locs f e he
   have:t < e.fn.ntmps:=by
    rcases Nat.lt_or_ge t e.fn.ntmps with h2 | h2
    ·exact h2
    ·have:e.loc < 2 ^ t:=Nat.lt_of_lt_of_le h1 (Nat.pow_le_pow_right (by omega) h2)
     rw [Nat.testBit_lt_two_pow this] at ht; cases ht
   simp; omega
  ·exact hrels.get (by rw [nth_eq]; exact hx)
 have hwalk:=exec_sound hT hiv K none code (hG.draws f e code he hcode) _ _ _ B0 h.nx w ρ _ none H0 hA trivial hrun
 refine callsIn_of_wp_marks hPf hcode trivial (wpIn_mono hwalk fun ex a' w' hp=>?_)
 obtain ⟨x',fr',h',ρ',⟨q1,q2,vs,q3,q4⟩,m,H1,E1,A1⟩:=hp
 have fin:LeavesInM (FW none) 0 P e.fn a'.tmps (fun en w'=>∃ v vs h1 ρ1,en = .returned v∧Q vs h1∧HR B0 h.nx w' ρ1 h1∧Ext w ρ h.enter w' ρ1 h1∧Rel w' (ownOf ρ1 h1) ρ1 (oneOf vs) v) a'.defers .returning w':=by
  have hd:=A1.2
  simp only at q2
  rw [q2] at hd
  refine closeDfr_sound H1 hd rfl fun w'' H2 E2=>?_
  obtain ⟨v,hv1,hv2⟩:=resultsA_sound hT H2 (A1.1.mono E2.stable (E2.le H1.dom)) (fn:=e.fn) q3
  exact ⟨_,hv1,v,vs,h',ρ',rfl,q4,H2,E1.trans E2,hv2⟩
 cases x'<;>cases ex<;>simp only [exM] at m
 ·exact fin
 ·exact (q1 _ rfl).elim
 ·exact fin
theorem fr_closed {E:Env} (hT:E.T.Of P) (hG:E.T.Good P) (hX:∀ f g,E.ext f=some g→ExtOk P f g) (K:Nat) {f:FuncId} {p:GpF} {e:FnE} {code:Code} (he:E.T.fn.get f=some e) (hcode:e.fn.body=some code)
  (h1:∀ args k rows,mxs args=0→p.g args=some (.sl k rows)→flats rows.flatten=true →
   (exec E.T (inv E K) K e.loc none code ⟨args++List.replicate (e.fn.ntmps - args.length) undefA,[]⟩ h0.enter).post fun q=>(∀ id,q.1 ≠ .exit id)∧q.2.1.dfr=[]∧∃ vs,resultsA E.T e.loc q.2.2 q.2.1.tmps e.fn.results.toList=some vs∧∃ b,vs=[.ms b 0 rows.length]∧q.2.2.get b=some (.cells k rows))
  (h2:∀ args,mxs args=0→p.g args=some .nils →
   (exec E.T (inv E K) K e.loc none code ⟨args++List.replicate (e.fn.ntmps - args.length) undefA,[]⟩ h0.enter).post fun q=>(∀ id,q.1 ≠ .exit id)∧q.2.1.dfr=[]∧∃ vs,resultsA E.T e.loc q.2.2 q.2.1.tmps e.fn.results.toList=some vs∧vs=[.nils]):FrOk P f p:=by
 have hk:∃ fn,P.funcs[f]? = some fn∧(fn.name == "runtime.NumGoroutine")=false∧fn.body.isNone=false:=fn_known hT he (by rw [hcode]; rfl)
 have prep:∀ {args:List AV} {h:Hp} {B0 nx0:Nat} {w:World} {ρ:Rho} {vargs:List Value},HR B0 nx0 w ρ h→Rels w (ownOf ρ h) ρ args vargs→mxs (args.map (frz h 0 12))=0 →
   HR w.heap.size 0 w ⟨fun _=>none,fun _=>False⟩ h0∧Rels w (ownOf ⟨fun _=>none,fun _=>False⟩ h0) ⟨fun _=>none,fun _=>False⟩ (args.map (frz h 0 12)) vargs:=by
  intro args h B0 nx0 w ρ vargs H hrel hm
  refine ⟨HR.empty w (fun _=>False) (fun _ h=>h.elim) fun w'' hw=>H.gk w'' fun c hc=>hw c (Nat.lt_of_lt_of_le hc H.sz),?_⟩
  have key:∀ {l:List AV} {vs:List Value},Rels w (ownOf ρ h) ρ l vs→Rels w (fun _=>False) ρ (l.map (frz h 0 12)) vs:=by
   intro l
   induction l with
   | nil=>intro vs h; cases h; exact .nil _
   | cons y l ih=>intro vs h1; cases h1 with | cons _ _ _ _ _ h1 h2=>exact .cons _ _ _ _ _ (frz_sound H (fun c h=>h.elim) 12 _ _ h1) (ih h2)
  have hstE:Stable w (fun _=>False) w (ownOf ⟨fun _=>none,fun _=>False⟩ h0):=fun c o _ h2=>⟨h2,fun h3=>by
   rcases h3 with h3 | ⟨b,B,x,_,_,h3,_⟩
   ·exact h3
   ·cases h3⟩
  exact ((key hrel).closed hm).mono hstE (noRho_le _)
 have old:∀ {h1':Hp} {w w':World} {ρ1:Rho},HR w.heap.size 0 w ⟨fun _=>none,fun _=>False⟩ h0→Ext w ⟨fun _=>none,fun _=>False⟩ h0.enter w' ρ1 h1'→∀ c,c < w.heap.size→w'.heap[c]? = w.heap[c]? := by
  intro h1' w w' ρ1 HE E1 c hcl
  obtain ⟨_,hent⟩:=HE.enter
  refine E1.frame c hcl fun h1=>?_
  rcases (hent c).1 h1 with h3 | ⟨b,B,x,_,_,h3,_⟩
  ·exact h3
  ·cases h3
 refine ⟨hk,?_,?_⟩
 ·intro args k rows h B0 nx0 w ρ vargs H hrel hm hg hfl
  obtain ⟨HE,hrelE⟩:=prep H hrel hm
  have hcall:=exec_callR (w:=w) hT hG hX K he hcode HE hrelE (Q:=fun vs h1=>∃ b,vs=[.ms b 0 rows.length]∧h1.get b=some (.cells k rows)) (h1 _ k rows hm hg hfl)
  refine CallsIn.mono hcall fun en w' hh=>?_
  obtain ⟨v,vs,h1',ρ1,rfl,⟨b,rfl,hb⟩,H1,E1,hv⟩:=hh
  have hv:Rel w' (ownOf ρ1 h1') ρ1 (.ms b 0 rows.length) v:=hv
  obtain ⟨x,a,cap,rfl,hx,hl,hcap,hadr⟩:=hv.ms_inv
  have hfresh:w.heap.size≤x.c:=H1.low b _ x hb rfl hx
  obtain ⟨arr,e',vs',q1,q2,q3,q4,q5,q6,q7⟩:=H1.blk b _ x hb hx
  have hmx2:mxss rows=0:=by rw [mxss_flat]; exact flats_mx _ hfl
  obtain ⟨H2,E2⟩:=H.newB (.cells k rows) x w' E1.size (old HE E1) E1.os E1.tape E1.output hfresh (by show mxss rows≤_; rw [hmx2]; exact Nat.zero_le _) (fun own ρ' _ _=>⟨arr,e',vs',q1,q2,q3,q4,q5,q6.of_flat hfl,q7⟩)
  exact ⟨.ms h.nx 0 rows.length,_,ρ.set h.nx x,rfl,H2,E2,.ms _ h.nx 0 rows.length x (by simp [Rho.set]) hl a cap hcap hadr⟩
 ·intro args h B0 nx0 w ρ vargs H hrel hm hg
  obtain ⟨HE,hrelE⟩:=prep H hrel hm
  have hcall:=exec_callR (w:=w) hT hG hX K he hcode HE hrelE (Q:=fun vs _=>vs=[.nils]) (h2 _ hm hg)
  refine CallsIn.mono hcall fun en w' hh=>?_
  obtain ⟨v,vs,h1',ρ1,rfl,rfl,H1,E1,hv⟩:=hh
  have hv:Rel w' (ownOf ρ1 h1') ρ1 .nils v:=hv
  obtain ⟨H2,E2⟩:=H.grown (w':=w') E1.size (old HE E1) E1.os E1.tape E1.output
  exact ⟨.nils,h,ρ,rfl,H2,E2,hv.of_flat rfl⟩
end
end Go.Proofs.YtdjngcfnlfgjkaaGreatDoor.AM
