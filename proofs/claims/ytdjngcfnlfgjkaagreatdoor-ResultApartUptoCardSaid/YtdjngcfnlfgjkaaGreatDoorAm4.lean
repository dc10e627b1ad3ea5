/-
  The abstract machine against the model: simulation, drawn regions.
-/
import Derived.Test.YtdjngcfnlfgjkaaGreatDoorAm3
import Derived.OrdersIn
set_option linter.unusedVariables false
set_option linter.unusedSimpArgs false
set_option linter.unusedSectionVars false
namespace Go.Proofs.YtdjngcfnlfgjkaaGreatDoor.AM
open Go.RowKit
variable [Glob]
theorem Nd.post_bind {α β:Type} (m:Nd α) (f:α→Nd β) (Q:β→Prop):(m.bind f).post Q↔m.post fun a=>(f a).post Q:=by
 have key:∀ m:Nd α,(m.bindR f).post Q↔m.post fun a=>(f a).post Q:=by
  intro m
  induction m with
  | ok a=>rfl
  | fail=>rfl
  | pick n k ih=>simp only [Nd.bindR,Nd.post]; exact ⟨fun h i hi=>(ih i).1 (h i hi),fun h i hi=>(ih i).2 (h i hi)⟩
 rw [← Nd.bindR_eq]; exact key m
theorem Nd.post_opt {α:Type} {Q:α→Prop} {o:Option α} (h:(Nd.opt o).post Q):∃ a,o=some a∧Q a:=by
 cases o with
 | none=>exact h.elim
 | some a=>exact ⟨a,rfl,h⟩
abbrev FW (ro:Option Nat):Fence:={ Fence.wide with round:=ro }
theorem FW_depth (ro:Option Nat) (n:Nat):(FW ro).depth.isSome=true→1≤n:=fun h=>by cases h
section
variable {T:Tab} {P:Program} {B0 nx0:Nat} {w:World} {ρ:Rho} {h:Hp}
def RetP (Q:AV × Hp→Prop) (B0 nx0:Nat) (w:World) (ρ:Rho) (h:Hp):Ending→World→Prop
 | .returned v,w'=>∃ r h' ρ',Q (r,h')∧HR B0 nx0 w' ρ' h'∧Ext w ρ h w' ρ' h'∧Rel w' (ownOf ρ' h') ρ' r v
 | _,_=>False
structure InvOk (T:Tab) (P:Program) (iv:Inv):Prop where
 fn:∀ (f:FuncId) (args cap:List AV) (h:Hp) (Q:AV × Hp→Prop) (B0 nx0:Nat) (w:World) (ρ:Rho) (vargs vcap:List Value),HR B0 nx0 w ρ h →
  Rels w (ownOf ρ h) ρ args vargs→Rels w (ownOf ρ h) ρ cap vcap→(iv (.func f) args cap h).post Q →
  (∃ fn,P.funcs[f]? = some fn∧(fn.name == "runtime.NumGoroutine")=false∧fn.body.isNone=false)∧CallsIn (FW none) 0 P f (vargs.toArray++vcap.toArray) w (RetP Q B0 nx0 w ρ h)
 yld:∀ (l:Nat) (args:List AV) (h:Hp) (Q:AV × Hp→Prop) (B0 nx0:Nat) (w:World) (ρ:Rho) (vargs:List Value) (x:Loc),HR B0 nx0 w ρ h →
  Rels w (ownOf ρ h) ρ args vargs→ρ l=some x→(iv (.yield l) args [] h).post Q →
  ∃ fn tmps assign body,(Instr.yield x.c vargs.toArray).run P w = .ok (.round x.c fn tmps assign body) w∧RoundIn (FW none) 0 P x.c fn tmps assign body w (RetP Q B0 nx0 w ρ h)
 calm:∀ (g:FuncId) (args cap:List AV) (h:Hp) (r:AV) (h₁:Hp),T.pu g=true→mxs (args++cap)=0→iv (.func g) args cap h = .ok (r,h₁)→∀ h',iv (.func g) args cap h' = .ok (r,h')
theorem calm_heap {P:Program} {T:Tab} {iv:Inv} (hiv:InvOk T P iv) {ev:Ev} {h h₁:Hp} {r:AV} {op:Op} (hc:calmOp T ev op=true) (hs:doOp T iv ev h op = .ok (r,h₁)) (h':Hp):doOp T iv ev h' op = .ok (r,h'):=by
 unfold calmOp at hc
 split at hc
 case h_2=>cases hc
 rename_i c
 split at hc
 case h_2=>cases hc
 rename_i f hf
 split at hc
 case h_2=>cases hc
 rename_i g first captured args h1 h2
 simp only [Bool.and_eq_true,beq_iff_eq] at hc
 simp only [doOp,callA,h2,hf,h1] at hs ⊢
 exact hiv.calm g _ _ h _ _ hc.1 hc.2 hs h'
theorem callFunc_run {f:FuncId} {fn:Func} (hf:P.funcs[f]? = some fn) (hn:(fn.name == "runtime.NumGoroutine")=false) (hb:fn.body.isNone=false) (args:Array Value) (w:World) :
  (callFunc f args).run P w = .ok (.enter f args) w:=by
 have hn':fn.name ≠ "runtime.NumGoroutine":=by simpa using hn
 have hb':fn.body ≠ none:=by intro e; rw [e] at hb; simp at hb
 unfold callFunc
 simp [hf,hn',hb']
theorem callA_sound (hT:T.Of P) {iv:Inv} (hiv:InvOk T P iv) (H:HR B0 nx0 w ρ h) {ev:Ev} {a:Act} (he:EvR w (ownOf ρ h) ρ ev a.eval) {o:Oper} {c:Call} (ho:o.op = .call c) {roc:Option Nat}
  {Q:AV × Hp→Prop} (hs:(callA T iv ev h c).post Q) {next:Act→World→Prop} {QQ:Exit→Act→World→Prop}
  (hn:∀ v r h' w' ρ',Q (r,h')→HR B0 nx0 w' ρ' h'→Ext w ρ h w' ρ' h'→Rel w' (ownOf ρ' h') ρ' r v→next (a.put o.dst v) w') :
  o.uponIn (FW roc) 0 P a next QQ ((o.semAt (FW roc).round a.eval).run P w):=by
 have hsem:o.semAt (FW roc).round a.eval=execOp a.eval o:=Oper.semAt_eq _ _ _ (fun d hd=>by rw [ho] at hd; cases hd)
 rw [hsem]
 unfold callA at hs
 cases ha:evalsA ev c.args.toList with
 | none=>simp only [ha] at hs; exact hs.elim
 | some args =>
   simp only [ha] at hs
   have hra:=evals_rel he ha
   have hex:execOp a.eval o=(do let d ← resolve a.eval c o.type; invoke d.target d.args:Sem Next):=by
    unfold execOp; simp only [ho]
   rw [hex]
   cases hc:c.callee with
   | invoke r m=>simp only [hc] at hs; exact hs.elim
   | builtin b =>
     simp only [hc] at hs
     obtain ⟨⟨r,h'⟩,hb,hq⟩:=Nd.post_opt hs
     have hra':Rels w (ownOf ρ h) ρ args (c.args.map a.eval).toList:=by simpa using hra
     obtain ⟨v,w',ρ',h1,h2,h3,h4,_⟩:=builtinA_sound (ty:=o.type) (cs:=c.args.map fun | .const _=>true | _=>false) hT H hra' hb
     have hrun:(do let d ← resolve a.eval c o.type; invoke d.target d.args:Sem Next).run P w = .ok (.value v) w':=by
      simp only [resolve,hc,Sem.run_bind,Sem.run_pure,Result.andThen_ok,invoke]
      exact h1
     rw [hrun,Oper.uponIn_value]
     exact hn v r h' w' ρ' hq h2 h3 h4
   | value f =>
     simp only [hc] at hs
     have post:∀ e w',RetP Q B0 nx0 w ρ h e w'→(match e with
       | .returned v=>next (a.put o.dst v) w'
       | .panicked chain=>QQ (.panic chain) a w'
       | .outgrown=>LetsOut QQ):=by
      intro e w' hr
      cases e with
      | returned v=>obtain ⟨r,h',ρ',h1,h2,h3,h4⟩:=hr; exact hn v r h' w' ρ' h1 h2 h3 h4
      | panicked chain=>exact hr.elim
      | outgrown=>exact hr.elim
     split at hs
     ·rename_i g first cap hf
      obtain ⟨va,vb,hv,r1,r2⟩:=(he _ _ hf).func_inv
      obtain ⟨⟨fn,f1,f2,f3⟩,hcall⟩:=hiv.fn g _ _ _ Q B0 nx0 w ρ (va++c.args.toList.map a.eval) vb H (r1.append hra) r2 hs
      have hrun:(do let d ← resolve a.eval c o.type; invoke d.target d.args:Sem Next).run P w = .ok (.enter g ((va++c.args.toList.map a.eval).toArray++vb.toArray)) w:=by
       simp only [resolve,hc,Sem.run_bind,hv,Deferred.ofValue,Sem.run_pure,Result.andThen_ok,invoke]
       rw [callFunc_run f1 f2 f3]
       congr 2
       simp
      rw [hrun,Oper.uponIn_enter]
      refine ⟨FW_depth _ _,CallsIn.mono (R:=RetP Q B0 nx0 w ρ h) hcall fun e w' hr=>?_⟩
      have:=post e w' hr
      cases e<;>exact this
     ·rename_i l hf
      obtain ⟨x,hv,hx⟩:=(he _ _ hf).yld_inv
      obtain ⟨fn,tmps,assign,body,hy,hround⟩:=hiv.yld l _ _ Q B0 nx0 w ρ (c.args.toList.map a.eval) x H hra hx hs
      have hrun:(do let d ← resolve a.eval c o.type; invoke d.target d.args:Sem Next).run P w = .ok (.round x.c fn tmps assign body) w:=by
       simp only [resolve,hc,Sem.run_bind,hv,Deferred.ofValue,Sem.run_pure,Result.andThen_ok,invoke]
       rw [← hy]
       congr 2
       simp only [Array.empty_append]
       exact Array.ext' (by rw [Array.toList_map])
      rw [hrun,Oper.uponIn_round]
      refine ⟨FW_depth _ _,RoundIn.mono (R:=RetP Q B0 nx0 w ρ h) hround fun e w' hr=>?_⟩
      have:=post e w' hr
      cases e<;>exact this
     ·exact hs.elim
theorem doOp_sound (hT:T.Of P) {iv:Inv} (hiv:InvOk T P iv) (H:HR B0 nx0 w ρ h) {ev:Ev} {a:Act} (he:EvR w (ownOf ρ h) ρ ev a.eval) (o:Oper) {roc:Option Nat}
  {Q:AV × Hp→Prop} (hs:(doOp T iv ev h o.op).post Q) {next:Act→World→Prop} {QQ:Exit→Act→World→Prop}
  (hn:∀ v r h' w' ρ',Q (r,h')→HR B0 nx0 w' ρ' h'→Ext w ρ h w' ρ' h'→Rel w' (ownOf ρ' h') ρ' r v→next (a.put o.dst v) w') :
  o.wpIn (FW roc) 0 P a w next QQ:=by
 refine ⟨fun _ _=>trivial,?_⟩
 by_cases hc:∃ c,o.op = .call c
 ·obtain ⟨c,hc⟩:=hc
  rw [hc] at hs
  exact callA_sound hT hiv H he hc hs hn
 ·have hnc:∀ c,o.op ≠ .call c:=fun c h=>hc ⟨c,h⟩
  have hs':(Nd.opt (opA T ev h o.op)).post Q:=by
   revert hs
   unfold doOp
   split
   ·rename_i c hcc; exact absurd hcc (hnc c)
   ·exact id
  obtain ⟨⟨r,h'⟩,hop,hq⟩:=Nd.post_opt hs'
  have hnd:∀ c,o.op ≠ .defer c:=fun c hd=>by rw [hd] at hop; simp [opA] at hop
  rw [Oper.semAt_eq _ _ _ hnd]
  obtain ⟨nx,v,w',ρ',h1,h2,h3,h4,h5⟩:=opA_sound hT H he o hnc hop
  rw [h1]
  cases nx<;>simp only [handed] at h2
  ·subst h2; exact hn _ r h' w' ρ' hq h3 h4 h5
  ·subst h2; exact hn _ r h' w' ρ' hq h3 h4 h5
end
end Go.Proofs.YtdjngcfnlfgjkaaGreatDoor.AM

namespace Go.Proofs.YtdjngcfnlfgjkaaGreatDoor.AM
open Go.RowKit
variable [Glob]
section
variable {T:Tab} {P:Program} {B0 nx0:Nat} {w:World} {ρ:Rho} {h:Hp} {own:Nat→Prop} {M:Nat}
def Shape (M:Nat) (s:Sl) (a:Act):Prop:=s.fr.length=a.tmps.size∧∀ t,M.testBit t=true→t < a.tmps.size
def SlotOk (w:World) (own:Nat→Prop) (ρ:Rho) (M:Nat) (s:Sl) (a:Act) (t:Nat):Prop:=∀ x,slotA M s.fr s.loc t=some x→Rel w own ρ x (a.tmps.getD t undef)
def SlR (w:World) (own:Nat→Prop) (ρ:Rho) (M:Nat) (s:Sl) (a:Act):Prop:=Shape M s a∧∀ t,SlotOk w own ρ M s a t
theorem SlotOk.mono {w':World} {own':Nat→Prop} (hs:Stable w own w' own') {ρ':Rho} (hr:Rho.le ρ ρ') {s:Sl} {a:Act} {t:Nat} (h:SlotOk w own ρ M s a t):SlotOk w' own' ρ' M s a t :=
 fun x hx=>(h x hx).mono hs hr
theorem getD_some {vs:Array Value} {t:Nat} {v:Value} (h:vs.toList[t]? = some v):vs.getD t undef=v:=by
 have h':vs[t]? = some v:=by simpa using h
 simp [Array.getD_eq_getD_getElem?,h']
theorem SlR.of_frR {fr:List AV} {a:Act} (h:FrR w own ρ M fr a.tmps.toList):SlR w own ρ M ⟨fr,[]⟩ a:=by
 refine ⟨⟨by simpa using h.1,fun t ht=>by simpa using h.2.1 t ht⟩,fun t x hx=>?_⟩
 unfold slotA at hx
 cases hm:M.testBit t with
 | true=>simp [hm,lookL] at hx
 | false =>
   simp [hm,nth_eq] at hx
   obtain ⟨v,h1,h2⟩:=h.2.2 t x hm hx
   rw [getD_some h1]; exact h2
theorem SlR.frR {s:Sl} {a:Act} (h:SlR w own ρ M s a):FrR w own ρ M s.fr a.tmps.toList:=by
 refine ⟨by simpa using h.1.1,fun t ht=>by simpa using h.1.2 t ht,fun t x hm hx=>?_⟩
 have h1:=h.2 t x (by simp [slotA,hm,nth_eq,hx])
 have hlt:t < a.tmps.size:=by rw [← h.1.1]; exact (List.getElem?_eq_some_iff.1 hx).1
 refine ⟨a.tmps[t],by simp [hlt],?_⟩
 simpa [Array.getD_eq_getD_getElem?,hlt] using h1
theorem put_length {α:Type} (l:List α) (n:Nat) (v:α):(put l n v).length=l.length:=by rw [put_eq]; simp
theorem Shape.put {s:Sl} {a:Act} (h:Shape M s a) (dst:Option Tmp) (v:AV) (u:Value):Shape M (putA M s dst v) (a.put dst u):=by
 unfold putA Act.put
 cases dst with
 | none=>exact h
 | some d =>
   refine ⟨?_,fun t ht=>by simpa using h.2 t ht⟩
   simp only
   split<;>simp [put_length,h.1]
theorem slotA_put_ne {s:Sl} {dst:Option Tmp} {v:AV} {t:Nat} (h:dst ≠ some t):slotA M (putA M s dst v).fr (putA M s dst v).loc t=slotA M s.fr s.loc t:=by
 unfold putA
 cases dst with
 | none=>rfl
 | some d =>
   have hne:t ≠ d:=fun e=>h (by rw [e])
   simp only
   split
   ·unfold slotA; split<;>simp [lookL,hne]
   ·unfold slotA; split
    ·rfl
    ·rw [nth_eq,nth_eq,put_eq,List.getElem?_set_ne (Ne.symm hne)]
theorem SlotOk.put_self {s:Sl} {a:Act} (hsh:Shape M s a) {d:Nat} {v:AV} {u:Value} (hv:Rel w own ρ v u):SlotOk w own ρ M (putA M s (some d) v) (a.put (some d) u) d:=by
 intro x hx
 have hlt:d < a.tmps.size→(a.put (some d) u).tmps.getD d undef=u:=fun h=>by simp [Act.put,h]
 unfold putA slotA at hx
 cases hm:M.testBit d with
 | true =>
   simp [hm,lookL] at hx; subst hx
   rw [hlt (hsh.2 d hm)]; exact hv
 | false =>
   simp only [hm,Bool.false_eq_true,if_false] at hx
   rw [nth_eq,put_eq] at hx
   rcases Nat.lt_or_ge d s.fr.length with h1 | h1
   ·rw [List.getElem?_set_self h1] at hx; simp at hx; subst hx
    rw [hlt (by rw [← hsh.1]; exact h1)]; exact hv
   ·rw [List.getElem?_eq_none (by simpa using h1)] at hx; cases hx
theorem SlotOk.put_ne {s:Sl} {a:Act} {dst:Option Tmp} {v:AV} {u:Value} {t:Nat} (h:dst ≠ some t) (hk:SlotOk w own ρ M s a t):SlotOk w own ρ M (putA M s dst v) (a.put dst u) t:=by
 intro x hx
 rw [slotA_put_ne h] at hx
 have:=hk x hx
 unfold Act.put
 cases dst with
 | none=>exact this
 | some d =>
   have hne:d ≠ t:=fun e=>h (by rw [e])
   simp only [Array.getD_eq_getD_getElem?] at this ⊢
   rw [Array.getElem?_setIfInBounds_ne hne]; exact this
theorem SlR.put {s:Sl} {a:Act} (h:SlR w own ρ M s a) (dst:Option Tmp) {v:AV} {u:Value} (hv:Rel w own ρ v u):SlR w own ρ M (putA M s dst v) (a.put dst u):=by
 refine ⟨h.1.put dst v u,fun t=>?_⟩
 by_cases hd:dst=some t
 ·subst hd; exact .put_self h.1 hv
 ·exact .put_ne hd (h.2 t)
theorem SlR.mono {w':World} {own':Nat→Prop} (hs:Stable w own w' own') {ρ':Rho} (hr:Rho.le ρ ρ') {s:Sl} {a:Act} (h:SlR w own ρ M s a):SlR w' own' ρ' M s a:=⟨h.1,fun t=>(h.2 t).mono hs hr⟩
theorem SlotOk.eval {s:Sl} {a:Act} {x:Operand} (h:∀ t,x = .tmp t→SlotOk w own ρ M s a t) {v:AV} (hv:evalA M s.fr s.loc x=some v):Rel w own ρ v (a.eval x):=by
 cases x with
 | tmp t=>exact h t rfl v hv
 | const u=>exact ofZero_rel hv
 | global g=>cases hv
 | func f=>simp [evalA] at hv; subst hv; exact .func _ (.func f) [] [] [] [] (.nil _) (.nil _)
theorem SlR.ev {s:Sl} {a:Act} (h:SlR w own ρ M s a):EvR w own ρ (evalA M s.fr s.loc) a.eval:=fun _ _ hv=>SlotOk.eval (fun t _=>h.2 t) hv
theorem wantedA_sound {ops:Array Oper} {o:Oper} {s:Sl} {a:Act} (h:∀ g b d,o.guard=some (g,b)→(ops[g]?).bind (·.dst)=some d→SlotOk w own ρ M s a d) {b:Bool} (hw:wantedA M ops o s=some b) :
  Region.wanted o (yielded ops a.tmps)=b:=by
 unfold wantedA at hw
 unfold Region.wanted
 cases hg:o.guard with
 | none=>simp [hg] at hw; exact hw.symm
 | some gb =>
   obtain ⟨g,want⟩:=gb
   simp only [hg] at hw ⊢
   cases hd:(ops[g]?).bind (·.dst) with
   | none=>simp [hd] at hw
   | some d =>
     simp only [hd] at hw
     have hk:=h g want d hg hd
     unfold yielded
     simp only [hd,Option.bind_some]
     split at hw
     ·rename_i b' hs
      simp at hw
      have:=(hk _ hs).bool_inv
      simp only [Array.getD_eq_getD_getElem?] at this
      cases ht:a.tmps[d]? with
      | none=>simp [ht,undef] at this
      | some v=>simp [ht] at this; subst this; simp only; rw [← hw]; cases b'<;>cases want<;>rfl
     ·rename_i hs
      simp at hw; subst hw
      obtain ⟨vs,this,hr⟩:=(hk _ hs).tuple_inv
      simp only [Array.getD_eq_getD_getElem?] at this
      cases ht:a.tmps[d]? with
      | none=>rfl
      | some v=>simp [ht] at this; subst this; rfl
     ·cases hw
theorem stepOp_sound (hT:T.Of P) {iv:Inv} (hiv:InvOk T P iv) (H:HR B0 nx0 w ρ h) {ops:Array Oper} {i:Nat} {o:Oper} (hi:ops[i]? = some o) {s:Sl} {a:Act} (hsl:SlR w (ownOf ρ h) ρ M s a) {roc:Option Nat}
  {Q:Sl × Hp→Prop} (hs:(stepOp T iv M ops o s h).post Q) {K:Act→World→Prop} {QQ:Exit→Act→World→Prop}
  (hn:∀ s' h' a' w' ρ',Q (s',h')→HR B0 nx0 w' ρ' h'→Ext w ρ h w' ρ' h'→SlR w' (ownOf ρ' h') ρ' M s' a'→a'.defers=a.defers→K a' w') :
  wpOpIn (FW roc) 0 P ops QQ i K a w:=by
 unfold wpOpIn
 simp only [hi]
 unfold stepOp at hs
 cases hw:wantedA M ops o s with
 | none=>simp only [hw] at hs; exact hs.elim
 | some b =>
   have hwant:=wantedA_sound (fun g b d _ _=>hsl.2 d) hw
   simp only [hw] at hs
   cases b with
   | true =>
     simp only [hwant,if_true]
     rw [Nd.post_bind] at hs
     refine doOp_sound hT hiv H hsl.ev o hs fun v r h' w' ρ' hq h1 h2 h3=>?_
     refine hn _ _ _ _ ρ' hq h1 h2 ((hsl.mono h2.stable (h2.le H.dom)).put o.dst h3) ?_
     cases o.dst<;>rfl
   | false =>
     simp only [hwant,Bool.false_eq_true,if_false]
     refine ⟨fun _ _=>trivial,?_⟩
     refine hn _ _ _ _ ρ hs H (Ext.refl _ _ _) (hsl.put o.dst (undefA_rel _ _ _)) ?_
     cases o.dst<;>rfl
theorem runOps_sound (hT:T.Of P) {iv:Inv} (hiv:InvOk T P iv) {ops:Array Oper} {roc:Option Nat} {Q:Sl × Hp→Prop} {QQ:Exit→Act→World→Prop} :
  ∀ (k:Nat) (i:Nat) (s:Sl) (h:Hp) (a:Act) (w:World) (ρ:Rho),i+k=ops.size→HR B0 nx0 w ρ h→SlR w (ownOf ρ h) ρ M s a→(runOps T iv M ops (ops.toList.drop i) s h).post Q →
    (∀ s' h' a' w' ρ',Q (s',h')→HR B0 nx0 w' ρ' h'→Ext w ρ h w' ρ' h'→SlR w' (ownOf ρ' h') ρ' M s' a'→a'.defers=a.defers→QQ .normal a' w') →
    wpOpsIn (FW roc) 0 P ops QQ (List.range' i k) a w
 | 0,i,s,h,a,w,ρ,hik,H,hsl,hs,hn=>by
   have:ops.toList.drop i=[]:=List.drop_eq_nil_of_le (by simp; omega)
   rw [this] at hs
   exact hn s h a w ρ hs H (Ext.refl _ _ _) hsl rfl
 | k+1,i,s,h,a,w,ρ,hik,H,hsl,hs,hn=>by
   have hlt:i < ops.size:=by omega
   have hd:ops.toList.drop i=ops[i]::ops.toList.drop (i+1):=by
    rw [List.drop_eq_getElem_cons (by simpa using hlt)]; simp
   rw [hd] at hs
   simp only [runOps,Nd.post_bind] at hs
   rw [List.range'_succ,wpOpsIn_cons]
   refine stepOp_sound hT hiv H (o:=ops[i]) (by simp [hlt]) hsl hs fun s' h' a' w' ρ' hq h1 h2 h3 h4=>?_
   refine runOps_sound hT hiv k (i+1) s' h' a' w' ρ' (by omega) h1 h3 hq fun s'' h'' a'' w'' ρ'' hq' h5 h6 h7 h8=>?_
   exact hn s'' h'' a'' w'' ρ'' hq' h5 (h2.trans h6) h7 (h8.trans h4)
theorem region_sound (hT:T.Of P) {iv:Inv} (hiv:InvOk T P iv) (H:HR B0 nx0 w ρ h) {ops:Array Oper} {id:Nat} {fr:List AV} {a:Act} (hfr:FrR w (ownOf ρ h) ρ M fr a.tmps.toList) {roc:Option Nat}
  {Q:Sl × Hp→Prop} (hs:(runOps T iv M ops ops.toList ⟨fr,[]⟩ h).post Q) {QQ:Exit→Act→World→Prop}
  (hn:∀ s' h' a' w' ρ',Q (s',h')→HR B0 nx0 w' ρ' h'→Ext w ρ h w' ρ' h'→FrR w' (ownOf ρ' h') ρ' M s'.fr a'.tmps.toList→a'.defers=a.defers→QQ .normal a' w') :
  (Code.region id ops false).wpIn (FW roc) 0 P QQ a w:=by
 refine wpIn_region ?_
 rw [List.range_eq_range']
 exact runOps_sound hT hiv ops.size 0 _ h a w ρ (by omega) H (SlR.of_frR hfr) (by simpa using hs) fun s' h' a' w' ρ' hq h1 h2 h3 h4=>hn s' h' a' w' ρ' hq h1 h2 h3.frR h4
end
end Go.Proofs.YtdjngcfnlfgjkaaGreatDoor.AM

namespace Go.Proofs.YtdjngcfnlfgjkaaGreatDoor.AM
open Go.RowKit
variable [Glob]
def bit (B:Array Nat) (j i:Nat):Bool:=(B.getD j 0).testBit i
theorem foldl_or_testBit (after:List Edge) (acc:Array Nat) (i:Nat):∀ s:Nat,(after.foldl (fun s e=>if Region.binds .any e then s ||| 2 ^ e.on ||| acc.getD e.on 0 else s) s).testBit i=true →
  s.testBit i=true∨∃ e∈after,Region.binds .any e=true∧(e.on=i∨(acc.getD e.on 0).testBit i=true):=by
 induction after with
 | nil=>intro s h; exact .inl h
 | cons e es ih =>
   intro s h
   simp only [List.foldl_cons] at h
   rcases ih _ h with h1 | ⟨e',h1,h2⟩
   ·by_cases hb:Region.binds .any e=true
    ·simp only [hb,if_true,Nat.testBit_or,Bool.or_eq_true] at h1
     rcases h1 with (h1 | h1) | h1
     ·exact .inl h1
     ·rw [Nat.testBit_two_pow] at h1
      exact .inr ⟨e,.head _,hb,.inl (by simpa using h1)⟩
     ·exact .inr ⟨e,.head _,hb,.inr h1⟩
    ·simp only [hb] at h1; exact .inl h1
   ·exact .inr ⟨e',.tail _ h1,h2⟩
theorem before_spec (ops:Array Oper):(Region.before ops).size=ops.size∧∀ j o i,ops[j]? = some o→bit (Region.before ops) j i=true →
  ∃ e∈o.after,Region.binds .any e=true∧(e.on=i∨(e.on < j∧bit (Region.before ops) e.on i=true)):=by
 have key:∀ (l:List Oper) (acc:Array Nat) (done:List Oper),acc.size=done.length →
   (∀ j o i,done[j]? = some o→bit acc j i=true→∃ e∈o.after,Region.binds .any e=true∧(e.on=i∨(e.on < j∧bit acc e.on i=true))) →
   ∀ r,r=l.foldl (fun acc o=>acc.push (o.after.foldl (fun s e=>if Region.binds .any e then s ||| 2 ^ e.on ||| acc.getD e.on 0 else s) 0)) acc →
   r.size=(done++l).length∧∀ j o i,(done++l)[j]? = some o→bit r j i=true→∃ e∈o.after,Region.binds .any e=true∧(e.on=i∨(e.on < j∧bit r e.on i=true)):=by
  intro l
  induction l with
  | nil=>intro acc done h1 h2 r hr; simp at hr; subst hr; simpa using ⟨h1,h2⟩
  | cons o os ih =>
    intro acc done h1 h2 r hr
    have step:∀ (v:Nat) (j i:Nat),j < acc.size→bit (acc.push v) j i=bit acc j i:=by
     intro v j i hj
     simp [bit,Array.getD_eq_getD_getElem?,Array.getElem?_push,Nat.ne_of_lt hj]
    have:=ih (acc.push (o.after.foldl (fun s e=>if Region.binds .any e then s ||| 2 ^ e.on ||| acc.getD e.on 0 else s) 0)) (done++[o]) (by simp [h1]) ?_ r (by simpa using hr)
    ·simpa using this
    ·intro j o' i hj hb
     rcases Nat.lt_trichotomy j done.length with hlt | heq | hgt
     ·rw [List.getElem?_append_left hlt] at hj
      rw [step _ j i (by omega)] at hb
      obtain ⟨e,h3,h4,h5⟩:=h2 j o' i hj hb
      refine ⟨e,h3,h4,h5.imp id fun ⟨h6,h7⟩=>⟨h6,by rw [step _ _ _ (by omega)]; exact h7⟩⟩
     ·subst heq
      simp at hj; subst hj
      have hv:bit (acc.push (o.after.foldl (fun s e=>if Region.binds .any e then s ||| 2 ^ e.on ||| acc.getD e.on 0 else s) 0)) done.length i =
        (o.after.foldl (fun s e=>if Region.binds .any e then s ||| 2 ^ e.on ||| acc.getD e.on 0 else s) 0).testBit i:=by
       unfold bit
       rw [Array.getD_eq_getD_getElem?,Array.getElem?_push,if_pos h1.symm]
       rfl
      rw [hv,← Array.foldl_toList] at hb
      rcases foldl_or_testBit _ _ _ _ hb with h3 | ⟨e,h3,h4,h5⟩
      ·simp at h3
      ·refine ⟨e,by simpa using h3,h4,?_⟩
       rcases h5 with h5 | h5
       ·exact .inl h5
       ·refine .inr ?_
        have hlt:e.on < acc.size:=by
         rcases Nat.lt_or_ge e.on acc.size with h | h
         ·exact h
         ·simp [Array.getD_eq_getD_getElem?,Array.getElem?_eq_none h] at h5
        exact ⟨by omega,by rw [step _ _ _ hlt]; exact h5⟩
     ·rw [List.getElem?_eq_none (by simp; omega)] at hj; cases hj
 have:=key ops.toList #[] [] rfl (by intro j o i h; simp at h) (Region.before ops) (by unfold Region.before; rw [← Array.foldl_toList])
 simpa using this
structure DrawS (ops:Array Oper):Prop where
 lt:∀ j y e,ops[j]? = some y→e∈y.after→Region.binds .any e=true→e.on < j
 grd:∀ j y g b,ops[j]? = some y→y.guard=some (g,b)→bit (Region.before ops) j g=true
 ord:∀ i j x y,i < j→ops[i]? = some x→ops[j]? = some y→bit (Region.before ops) j i=true∨x.apart ops y=true
 acy:∀ md,acyc md ops=true
theorem bit_lt {ops:Array Oper} (hlt:∀ j y e,ops[j]? = some y→e∈y.after→Region.binds .any e=true→e.on < j):∀ (j i:Nat),bit (Region.before ops) j i=true→i < j:=by
 intro j
 induction j using Nat.strongRecOn with
 | _ j ih =>
   intro i hb
   cases ho:ops[j]? with
   | none =>
     have:(Region.before ops).size≤j:=by rw [(before_spec ops).1]; exact Array.getElem?_eq_none_iff.1 ho
     simp [bit,Array.getD_eq_getD_getElem?,Array.getElem?_eq_none this] at hb
   | some o =>
     obtain ⟨e,h1,h2,h3⟩:=(before_spec ops).2 j o i ho hb
     have:=hlt j o e ho h1 h2
     rcases h3 with rfl | ⟨h3,h4⟩
     ·exact this
     ·have:=ih e.on h3 i h4; omega
theorem drawOk_spec {ops:Array Oper} (h:drawOk ops=true):DrawS ops:=by
 simp only [drawOk,Bool.and_eq_true,List.all_eq_true,List.mem_range] at h
 obtain ⟨⟨⟨a1,a2⟩,a3⟩,hall⟩:=h
 have at_:∀ (j:Nat) (y:Oper),ops[j]? = some y→(y.after.all (fun e=>!Region.binds .any e || decide (e.on < j))=true∧(∀ g b,y.guard=some (g,b)→((Region.before ops).getD j 0).testBit g=true)) ∧
   ∀ (i:Nat) (x:Oper),i < j→ops[i]? = some x→(ordered (Region.before ops) i j || x.apart ops y)=true:=by
  intro j y hy
  have hj:j < ops.size:=(Array.getElem?_eq_some_iff.1 hy).1
  have:=hall j hj
  simp only [hy,Bool.and_eq_true,List.all_eq_true,List.mem_range] at this
  obtain ⟨⟨t1,t2⟩,t3⟩:=this
  refine ⟨⟨t1,fun g b hg=>by rw [hg] at t2; exact t2⟩,fun i x hij hx=>?_⟩
  have:=t3 i hij
  simp only [hx] at this
  exact this
 have hlt:∀ (j:Nat) (y:Oper) (e:Edge),ops[j]? = some y→e∈y.after→Region.binds .any e=true→e.on < j:=by
  intro j y e hy he hb
  have:=Array.all_eq_true_iff_forall_mem.1 (at_ j y hy).1.1 e he
  simpa [hb] using this
 refine ⟨hlt,?_,?_,?_⟩
 ·intro j y g b hy hg
  exact (at_ j y hy).1.2 g b hg
 ·intro i j x y hij hx hy
  have:=(at_ j y hy).2 i x hij hx
  simp only [ordered,Bool.or_eq_true] at this
  rcases this with (h1 | h1) | h1
  ·exact .inl h1
  ·have:=bit_lt hlt i j h1; omega
  ·exact .inr h1
 ·intro md; cases md<;>assumption
def Closed (ops:Array Oper) (L:Nat→Prop):Prop:=∀ j y e,L j→ops[j]? = some y→e∈y.after→Region.binds .any e=true→L e.on
theorem closed_before {ops:Array Oper} {L:Nat→Prop} (hL:Closed ops L):∀ (j:Nat) (y:Oper) (i:Nat),ops[j]? = some y→(∀ e∈y.after,Region.binds .any e=true→L e.on)→bit (Region.before ops) j i=true→L i:=by
 intro j
 induction j using Nat.strongRecOn with
 | _ j ih =>
   intro y i hy hall hb
   obtain ⟨e,h1,h2,h3⟩:=(before_spec ops).2 j y i hy hb
   rcases h3 with rfl | ⟨h3,h4⟩
   ·exact hall e h1 h2
   ·have hl:=hall e h1 h2
    have hlt:j < ops.size:=(Array.getElem?_eq_some_iff.1 hy).1
    obtain ⟨z,hz⟩:∃ z,ops[e.on]? = some z:=⟨ops[e.on],by simp [Nat.lt_trans h3 hlt]⟩
    exact ih e.on h3 z i hz (fun e' he' hb'=>hL e.on z e' hl hz he' hb') h4
theorem linearise_mem (md:Region.Mode) (ops:Array Oper):∀ (fuel t:Nat) (listed:Array Bool) (acc:List Nat),(∀ i∈acc,i < ops.size)→∀ i∈Region.linearise.go md ops fuel t listed acc,i < ops.size:=by
 intro fuel
 induction fuel with
 | zero=>intro t listed acc h i hi; simp [Region.linearise.go] at hi; exact h i hi
 | succ fuel ih =>
   intro t listed acc h i hi
   simp only [Region.linearise.go] at hi
   split at hi
   ·rename_i j hj
    refine ih _ _ (j::acc) (fun k hk=>?_) i hi
    rcases List.mem_cons.1 hk with rfl | hk
    ·have:=List.mem_of_getElem? hj
     simp only [List.mem_filter,List.mem_range] at this
     exact this.1
    ·exact h k hk
   ·simp at hi; exact h i hi
theorem all_listed {md:Region.Mode} {ops:Array Oper} (ha:acyc md ops=true) {listed:Array Bool} (hs:listed.size=ops.size) (hr:Region.ready md ops listed=[]):∀ j,j < ops.size→listed.getD j false=true:=by
 simp only [acyc,Bool.and_eq_true,List.all_eq_true,List.mem_range] at ha
 obtain ⟨hlen,hall⟩:=ha
 have hlen':(Region.linearise md ops 0).length=ops.size:=by simpa using hlen
 have key:∀ n j,(Region.linearise md ops 0).idxOf j=n→j < ops.size→listed.getD j false=true:=by
  intro n
  induction n using Nat.strongRecOn with
  | _ n ih =>
    intro j hn hj
    by_cases hl:listed.getD j false=true
    ·exact hl
    ·exfalso
     obtain ⟨y,hy⟩:∃ y,ops[j]? = some y:=⟨ops[j],by simp [hj]⟩
     have h1:=hall j hj
     rw [hy] at h1
     have h2:∀ e∈y.after,Region.binds md e=true→(Region.linearise md ops 0).idxOf e.on < (Region.linearise md ops 0).idxOf j:=by
      intro e he hb
      have:=Array.all_eq_true_iff_forall_mem.1 h1 e he
      simpa [hb] using this
     have h3:j∈Region.ready md ops listed:=by
      rw [mem_ready]
      refine ⟨?_,y,hy,fun e he hb=>?_⟩
      ·simp [Array.getD_eq_getD_getElem?,hs,hj] at hl ⊢; exact hl
      ·have h4:=h2 e he hb
       have h5:(Region.linearise md ops 0).idxOf e.on < (Region.linearise md ops 0).length:=Nat.lt_of_lt_of_le h4 List.idxOf_le_length
       have h6:e.on∈Region.linearise md ops 0:=List.idxOf_lt_length_iff.1 h5
       exact ih _ (hn ▸ h4) e.on rfl (linearise_mem md ops _ _ _ [] (fun _ h=>by cases h) _ h6)
     rw [hr] at h3; cases h3
 exact fun j hj=>key _ j rfl hj
end Go.Proofs.YtdjngcfnlfgjkaaGreatDoor.AM

namespace Go.Proofs.YtdjngcfnlfgjkaaGreatDoor.AM
open Go.RowKit
variable [Glob]
theorem evals_congr {ev ev':Ev}:∀ {xs:List Operand},(∀ x∈xs,ev x=ev' x)→evalsA ev xs=evalsA ev' xs
 | [],_=>rfl
 | x::xs,h=>by simp only [evalsA,h x (.head _),evals_congr fun y hy=>h y (.tail _ hy)]
theorem parts_congr {ev ev':Ev}:∀ {xs:List (Nat × Operand)},(∀ x∈xs.map (·.2),ev x=ev' x)→partsA ev xs=partsA ev' xs
 | [],_=>rfl
 | (i,x)::xs,h=>by simp only [partsA,h x (by simp),parts_congr (xs:=xs) fun y hy=>h y (by simp only [List.map_cons]; exact .tail _ hy)]
theorem opt_congr {ev ev':Ev} {x:Option Operand} (h:∀ y∈x.toArray,ev y=ev' y):optA ev x=optA ev' x:=by
 cases x with
 | none=>rfl
 | some x=>simp only [optA,h x (by simp)]
theorem opA_congr {T:Tab} {ev ev':Ev} {h:Hp} (op:Op) (he:∀ x∈op.operands,ev x=ev' x):opA T ev h op=opA T ev' h op:=by
 cases op<;>simp only [Op.operands] at he<;>simp only [opA]
 case build t ps=>simp only [opBuild]; rw [parts_congr fun x hx=>he x (by simpa using hx)]
 case buildSlice t n ps=>simp only [opBuildSlice]; rw [parts_congr fun x hx=>he x (by simpa using hx)]
 case makeFunc fn first captured=>simp only [opMakeFunc]; rw [evals_congr (xs:=first.toList) fun x hx=>he x (by simp at hx; simp [hx]),evals_congr (xs:=captured.toList) fun x hx=>he x (by simp at hx; simp [hx])]
 case slice t x lo hi mx=>simp only [opSlice]; rw [he x (by simp),opt_congr (x:=lo) fun y hy=>he y (by simp at hy; simp [hy]),opt_congr (x:=hi) fun y hy=>he y (by simp at hy; simp [hy])]
 case move x=>simp only [opMove]; rw [he x (by simp)]
 case assign x=>simp only [opMove]; rw [he x (by simp)]
 case pick c a b=>simp only [opPick]; rw [he c (by simp),he a (by simp),he b (by simp)]
 case box e x=>simp only [opBox]; rw [he x (by simp)]
 case load t x=>simp only [opLoad]; rw [he x (by simp)]
 case store t a x=>simp only [opStore]; rw [he a (by simp),he x (by simp)]
 case nilCheck x=>simp only [opNilCheck]; rw [he x (by simp)]
 case binOp op t x y _=>simp only [opBin]; rw [he x (by simp),he y (by simp)]
 case unOp op t x=>simp only [opUn]; rw [he x (by simp)]
 case convert s d x=>simp only [opConv]; rw [he x (by simp)]
 case makeSlice t l c=>simp only [opMakeSlice]; rw [he l (by simp),he c (by simp)]
 case fieldAddr s x f=>simp only [opFieldAddr]; rw [he x (by simp)]
 case field s x f=>simp only [opField]; rw [he x (by simp)]
 case indexAddr t x y=>simp only [opIndexAddr]; rw [he x (by simp),he y (by simp)]
 case index t x y=>simp only [opIndex]; rw [he x (by simp),he y (by simp)]
 case lookup t m k ok=>simp only [opLookup]; rw [he m (by simp),he k (by simp)]
 case mapUpdate t m k v=>simp only [opMapUpd]; rw [he m (by simp),he k (by simp),he v (by simp)]
 case insert t m k v=>simp only [opMapUpd]; rw [he m (by simp),he k (by simp),he v (by simp)]
 case range t x=>simp only [opRange]; rw [he x (by simp)]
 case next x isS=>simp only [opNext]; rw [he x (by simp)]
 case extract x i=>simp only [opExtract]; rw [he x (by simp)]
theorem callA_congr {T:Tab} {iv:Inv} {ev ev':Ev} {h:Hp} (c:Call) (he:∀ x∈c.operands,ev x=ev' x):callA T iv ev h c=callA T iv ev' h c:=by
 unfold callA
 rw [evals_congr (xs:=c.args.toList) (ev':=ev') fun x hx=>he x (by simp at hx; simp [Call.operands,hx])]
 cases hc:c.callee with
 | value f=>simp only [he f (by simp [Call.operands,hc])]
 | builtin b=>rfl
 | invoke r m=>rfl
theorem doOp_congr {T:Tab} {iv:Inv} {ev ev':Ev} {h:Hp} (op:Op) (he:∀ x∈op.operands,ev x=ev' x):doOp T iv ev h op=doOp T iv ev' h op:=by
 unfold doOp
 split
 ·rename_i c; exact callA_congr c (by simpa [Op.operands] using he)
 ·rw [opA_congr op he]
theorem cells_heap {h h':Hp} {a:AV} (hb:∀ b,a.block=some b→h.get b=h'.get b):cellsA h a=cellsA h' a:=by
 cases a<;>first | rfl | simp only [cellsA,hb _ rfl]
theorem map_heap {h h':Hp} {a:AV} (hb:∀ b,a.block=some b→h.get b=h'.get b):mapA h a=mapA h' a:=by
 cases a<;>first | rfl | simp only [mapA,hb _ rfl]
theorem load_heap {T:Tab} {h h':Hp} {t:TypeId} {a:AV} (hb:∀ b,a.block=some b→h.get b=h'.get b):loadA T h t a=loadA T h' t a:=by
 unfold loadA; rw [cells_heap hb]
theorem look_true {a:AV} {h h':Hp} (hb:∀ q,a.look true=some q→vw q.2 (h.get q.1)=vw q.2 (h'.get q.1)):∀ b,a.block=some b→h.get b=h'.get b:=by
 intro b hbb
 have:=hb (b,true) (by simp [AV.look,hbb])
 simpa [vw] using this
theorem look_false {a:AV} {h h':Hp} (hb:∀ q,a.look false=some q→vw q.2 (h.get q.1)=vw q.2 (h'.get q.1)):∀ b,a.block=some b→vw false (h.get b)=vw false (h'.get b):=by
 intro b hbb
 exact hb (b,false) (by simp [AV.look,hbb])
theorem indexAddr_heap {T:Tab} {h h':Hp} {t:TypeId} {a ix:AV} (hb:∀ b,a.block=some b→vw false (h.get b)=vw false (h'.get b)):indexAddrA T h t a ix=indexAddrA T h' t a ix:=by
 unfold indexAddrA
 cases ix<;>try rfl
 cases T.underlying t with
 | none=>rfl
 | some D =>
   cases D<;>try rfl
   simp only
   cases sizeT T _<;>try rfl
   cases a<;>try rfl
   rename_i i elem n b off len
   simp only
   split
   ·have h1:=hb b rfl
    simp only [vw,Bool.false_eq_true,if_false] at h1
    cases hx:h.get b with
    | none=>cases hy:h'.get b with
      | none=>rfl
      | some y=>rw [hx,hy] at h1; cases h1
    | some x=>cases hy:h'.get b with
      | none=>rw [hx,hy] at h1; cases h1
      | some y =>
        rw [hx,hy] at h1
        simp only [Option.map_some,Option.some.injEq] at h1
        cases x<;>cases y<;>simp only [Blk.shp] at h1<;>first
         | rfl
         | (cases h1; done)
         | skip
        simp only [Blk.cells.injEq] at h1
        have hl:=congrArg List.length h1.2
        simp only [List.length_map] at hl
        simp only [h1.1,hl]
   ·rfl
theorem slice_heap {T:Tab} {h h':Hp} {t:TypeId} {a:AV} {lo hi:Option AV} (hb:∀ b,a.block=some b→h.get b=h'.get b):sliceA T h t a lo hi=sliceA T h' t a lo hi:=by
 unfold sliceA
 cases T.underlying t with
 | none=>rfl
 | some D =>
   cases D<;>cases a<;>try rfl
   simp only [hb _ rfl]
theorem lookup_heap {T:Tab} {h h':Hp} {t:TypeId} {m k:AV} {ok:Bool} (hb:∀ b,m.block=some b→h.get b=h'.get b):lookupA T h t m k ok=lookupA T h' t m k ok:=by
 unfold lookupA; rw [map_heap hb]
theorem len_heap {T:Tab} {h h':Hp} {t:TypeId} {x:AV} (hb:∀ b,x.block=some b→h.get b=h'.get b):lenA T h t x=lenA T h' t x:=by
 unfold lenA
 cases T.underlying t with
 | none=>rfl
 | some D=>cases D<;>cases x<;>first | rfl | simp only [map_heap hb]
theorem withH_inv {h h':Hp} {x:Option AV} {r:AV} (hx:withH h x=some (r,h')):x=some r∧h'=h:=by
 cases x with
 | none=>cases hx
 | some y=>simp [withH] at hx; exact ⟨by rw [hx.1],hx.2.symm⟩
theorem quietOp_heap {T:Tab} {ev:Ev} {h h' h₁:Hp} {r:AV} (op:Op) (hq:quietOp op=true) (hnc:∀ c,op ≠ .call c) (hb:∀ q,looksInto ev op=some q→vw q.2 (h.get q.1)=vw q.2 (h'.get q.1)) (hs:opA T ev h op=some (r,h₁)) :
  h₁=h∧opA T ev h' op=some (r,h'):=by
 have key:∀ {x y:Option AV},withH h x=some (r,h₁)→x=y→h₁=h∧withH h' y=some (r,h'):=by
  intro x y hx hxy
  obtain ⟨h1,h2⟩:=withH_inv hx
  exact ⟨h2,by rw [← hxy,h1]; rfl⟩
 cases op<;>simp only [quietOp,Bool.false_eq_true] at hq<;>simp only [opA] at hs ⊢<;>simp only [looksInto] at hb
 case call c=>exact absurd rfl (hnc c)
 case move x=>exact key hs rfl
 case assign x=>exact key hs rfl
 case pick c a b =>
  unfold opPick at hs ⊢
  split at hs<;>first | exact key hs rfl | cases hs
 case build t ps =>
  unfold opBuild at hs ⊢
  split at hs<;>first | exact key hs rfl | cases hs
 case load t a =>
  unfold opLoad at hs ⊢
  split at hs
  ·rename_i x hx
   exact key hs (load_heap (look_true fun q hq=>hb q (by rw [hx]; exact hq)))
  ·cases hs
 case nilCheck x =>
  unfold opNilCheck at hs ⊢
  split at hs<;>first | (cases hs; done) | (simp only [Option.some.injEq,Prod.mk.injEq] at hs; obtain ⟨rfl,rfl⟩:=hs; exact ⟨rfl,rfl⟩)
 case binOp op t x y _ =>
  unfold opBin at hs ⊢
  split at hs<;>first | exact key hs rfl | cases hs
 case unOp op t x =>
  unfold opUn at hs ⊢
  split at hs<;>first | exact key hs rfl | cases hs
 case convert s d x =>
  unfold opConv at hs ⊢
  split at hs<;>first | exact key hs rfl | cases hs
 case makeFunc fn first captured =>
  unfold opMakeFunc at hs ⊢
  split at hs<;>first | (cases hs; done) | (simp only [Option.some.injEq,Prod.mk.injEq] at hs; obtain ⟨rfl,rfl⟩:=hs; exact ⟨rfl,rfl⟩)
 case slice t x lo hi mx =>
  unfold opSlice at hs ⊢
  split at hs
  ·rename_i a l u hx hl hu
   exact key hs (slice_heap (look_true fun q hq=>hb q (by rw [hx]; exact hq)))
  ·cases hs
 case fieldAddr s x f =>
  unfold opFieldAddr at hs ⊢
  split at hs<;>first | exact key hs rfl | cases hs
 case field s x f =>
  unfold opField at hs ⊢
  split at hs<;>first | exact key hs rfl | cases hs
 case indexAddr t x ix =>
  unfold opIndexAddr at hs ⊢
  split at hs
  ·rename_i a b hx hy
   exact key hs (indexAddr_heap (look_false fun q hq=>hb q (by rw [hx]; exact hq)))
  ·cases hs
 case index t x ix =>
  unfold opIndex at hs ⊢
  split at hs<;>first | exact key hs rfl | cases hs
 case lookup t m k ok =>
  unfold opLookup at hs ⊢
  split at hs
  ·rename_i a b hx hy
   exact key hs (lookup_heap (look_true fun q hq=>hb q (by rw [hx]; exact hq)))
  ·cases hs
 case extract x i =>
  unfold opExtract at hs ⊢
  split at hs<;>first | exact key hs rfl | cases hs
theorem quiet_heap {T:Tab} {iv:Inv} {ev:Ev} {h h' h₁:Hp} {r:AV} (op:Op) (hq:quietOp op=true) (hb:∀ q,looksInto ev op=some q→vw q.2 (h.get q.1)=vw q.2 (h'.get q.1)) (hs:doOp T iv ev h op = .ok (r,h₁)) :
  h₁=h∧doOp T iv ev h' op = .ok (r,h'):=by
 by_cases hc:∃ c,op = .call c
 ·obtain ⟨c,rfl⟩:=hc
  simp only [doOp,callA] at hs ⊢
  simp only [quietOp] at hq
  simp only [looksInto] at hb
  cases ha:evalsA ev c.args.toList with
  | none=>simp only [ha] at hs; cases hs
  | some args =>
    simp only [ha] at hs hb ⊢
    cases hcc:c.callee with
    | value f=>rw [hcc] at hq; cases hq
    | invoke _ _=>rw [hcc] at hq; cases hq
    | builtin b =>
      simp only [hcc] at hs hq ⊢
      have hs':builtinA T h b c.argTypes.toList args=some (r,h₁):=by
       cases hbb:builtinA T h b c.argTypes.toList args with
       | none=>rw [hbb] at hs; cases hs
       | some x=>rw [hbb] at hs; simp only [Nd.opt,Nd.ok.injEq] at hs; rw [hs]
      have:h₁=h∧builtinA T h' b c.argTypes.toList args=some (r,h'):=by
       unfold builtinA at hs' ⊢
       split at hs'
       ·rename_i x
        simp only [Option.bind_some] at hb
        split at hs'
        ·rename_i t l hts
         simp only [Option.map_eq_some_iff,Prod.mk.injEq] at hs'
         obtain ⟨a,h1,rfl,rfl⟩:=hs'
         refine ⟨rfl,?_⟩
         rw [← len_heap (T:=T) (h:=h) (h':=h') (look_true fun q hq=>hb q hq),h1]; rfl
        ·cases hs'
       ·cases hq
       ·simp only [Option.map_eq_some_iff,Prod.mk.injEq] at hs'
        obtain ⟨a,h1,rfl,rfl⟩:=hs'
        exact ⟨rfl,by simp only [h1,Option.map_some]⟩
       ·simp only [Option.map_eq_some_iff,Prod.mk.injEq] at hs'
        obtain ⟨a,h1,rfl,rfl⟩:=hs'
        exact ⟨rfl,by simp only [h1,Option.map_some]⟩
       ·cases hq
       ·cases hs'
      exact ⟨this.1,by rw [this.2]; rfl⟩
 ·have hnc:∀ c,op ≠ .call c:=fun c h=>hc ⟨c,h⟩
  have e:∀ h,doOp T iv ev h op = .opt (opA T ev h op):=by
   intro h
   unfold doOp
   split
   ·rename_i c; exact absurd rfl (hnc c)
   ·rfl
  rw [e] at hs
  have hs':opA T ev h op=some (r,h₁):=by
   cases hbb:opA T ev h op with
   | none=>rw [hbb] at hs; cases hs
   | some x=>rw [hbb] at hs; simp only [Nd.opt,Nd.ok.injEq] at hs; rw [hs]
  obtain ⟨h1,h2⟩:=quietOp_heap op hq hnc hb hs'
  exact ⟨h1,by rw [e,h2]; rfl⟩
end Go.Proofs.YtdjngcfnlfgjkaaGreatDoor.AM

namespace Go.Proofs.YtdjngcfnlfgjkaaGreatDoor.AM
open Go.RowKit
variable [Glob]
mutual
theorem AV.same_eq:∀ {a b:AV},a.same b=true→a=b
 | .bool _,b,h=>by cases b<;>simp [AV.same] at h; subst h; rfl
 | .int _ _,b,h=>by cases b<;>simp [AV.same] at h; obtain ⟨rfl,rfl⟩:=h; rfl
 | .str _,b,h=>by cases b<;>simp [AV.same] at h; subst h; rfl
 | .agg _,b,h=>by cases b<;>simp [AV.same] at h; rw [sames_eq h]
 | .nilp,b,h=>by cases b<;>simp [AV.same] at h; rfl
 | .ptr _ _ _,b,h=>by cases b<;>simp [AV.same] at h; obtain ⟨⟨rfl,rfl⟩,rfl⟩:=h; rfl
 | .ref _,b,h=>by cases b<;>simp [AV.same] at h; rw [sames_eq h]
 | .it _,b,h=>by cases b<;>simp [AV.same] at h; subst h; rfl
 | .nils,b,h=>by cases b<;>simp [AV.same] at h; rfl
 | .sl _ _,b,h=>by cases b<;>simp [AV.same] at h; obtain ⟨rfl,h⟩:=h; rw [samess_eq h]
 | .ms _ _ _,b,h=>by cases b<;>simp [AV.same] at h; obtain ⟨⟨rfl,rfl⟩,rfl⟩:=h; rfl
 | .nilm,b,h=>by cases b<;>simp [AV.same] at h; rfl
 | .mp _,b,h=>by cases b<;>simp [AV.same] at h; subst h; rfl
 | .func _ _ _,b,h=>by cases b<;>simp [AV.same] at h; obtain ⟨⟨rfl,h1⟩,h2⟩:=h; rw [sames_eq h1,sames_eq h2]
 | .nilf,b,h=>by cases b<;>simp [AV.same] at h; rfl
 | .nili,b,h=>by cases b<;>simp [AV.same] at h; rfl
 | .junk,b,h=>by cases b<;>simp [AV.same] at h
 | .tuple _,b,h=>by cases b<;>simp [AV.same] at h; rw [sames_eq h]
 | .im _,b,h=>by cases b<;>simp [AV.same] at h
 | .yld _,b,h=>by cases b<;>simp [AV.same] at h
 | .iface _ _,b,h=>by cases b<;>simp [AV.same] at h
theorem sames_eq:∀ {a b:List AV},sames a b=true→a=b
 | [],b,h=>by cases b<;>simp [sames] at h; rfl
 | a::as,b,h=>by
   cases b with
   | nil=>simp [sames] at h
   | cons b bs=>simp [sames] at h; rw [AV.same_eq h.1,sames_eq h.2]
theorem samess_eq:∀ {a b:List (List AV)},samess a b=true→a=b
 | [],b,h=>by cases b<;>simp [samess] at h; rfl
 | a::as,b,h=>by
   cases b with
   | nil=>simp [samess] at h
   | cons b bs=>simp [samess] at h; rw [sames_eq h.1,samess_eq h.2]
end
theorem pairs_inj:∀ {a b:List (AV × AV)},(a.map fun e=>[e.1,e.2])=(b.map fun e=>[e.1,e.2])→a=b
 | [],[],_=>rfl
 | (x,y)::a,(u,v)::b,h=>by
   simp only [List.map_cons,List.cons.injEq,and_true] at h
   obtain ⟨⟨rfl,rfl⟩,h⟩:=h
   rw [pairs_inj h]
theorem same_eq {u v:Blk} (h:u.same v=true):u=v:=by
 cases u<;>cases v<;>simp [Blk.same] at h
 ·obtain ⟨rfl,h⟩:=h
  rw [samess_eq h]
 ·rw [pairs_inj (samess_eq h)]
theorem sameLen_eq {u v:Blk} (h:u.sameLen v=true):u.shp=v.shp:=by
 cases u<;>cases v<;>simp [Blk.sameLen] at h
 obtain ⟨rfl,h⟩:=h
 simp only [Blk.shp,List.map_const',h]
theorem sameAt_eq {q:Nat × Bool} {x y:Hp} (h:sameAt q x y=true):vw q.2 (x.get q.1)=vw q.2 (y.get q.1):=by
 unfold sameAt at h
 split at h
 ·rename_i u v hu hv
  rw [hu,hv]
  simp only [Bool.or_eq_true,Bool.and_eq_true,Bool.not_eq_true'] at h
  rcases h with h | ⟨h1,h⟩
  ·rw [same_eq h]
  ·rw [h1]
   simp only [vw,Bool.false_eq_true,if_false,Option.map_some,sameLen_eq h]
 ·rename_i hu hv; rw [hu,hv]
 ·cases h
section
variable {T:Tab} {P:Program} {B0 nx0:Nat} {w:World} {ρ:Rho} {h:Hp}
theorem HR.pend (H:HR B0 nx0 w ρ h) (B:Blk) (hm:B.mx≤h.nx):HR B0 nx0 w ρ (h.push B)∧Ext w ρ h w ρ (h.push B):=by
 have hn:∀ x,ρ h.nx ≠ some x:=fun x hx=>by have:=H.dom _ _ hx; omega
 have hget:∀ b C x,(h.push B).get b=some C→ρ b=some x→h.get b=some C:=by
  intro b C x h1 h2
  rw [get_push] at h1
  by_cases hb:b=h.nx
  ·subst hb; exact absurd h2 (hn x)
  ·simpa [hb] using h1
 have hown:∀ c,ownOf ρ (h.push B) c↔ownOf ρ h c:=by
  intro c
  constructor
  ·rintro (hX | ⟨b,C,x,h1,h2,h3,h4⟩)
   ·exact .inl hX
   ·exact .inr ⟨b,C,x,hget b C x h1 h3,h2,h3,h4⟩
  ·rintro (hX | ⟨b,C,x,h1,h2,h3,h4⟩)
   ·exact .inl hX
   have hne:b ≠ h.nx:=fun e=>hn x (by rw [← e]; exact h3)
   exact .inr ⟨b,C,x,by rw [get_push,if_neg hne]; exact h1,h2,h3,h4⟩
 have hst:Stable w (ownOf ρ h) w (ownOf ρ (h.push B)):=fun c o hc ho=>⟨ho,fun h1=>hc ((hown c).1 h1)⟩
 refine ⟨⟨?_,?_,?_,?_,?_,?_,H.rst,?_,H.sz,H.xlo,H.gk⟩,⟨rfl,rfl,rfl,Nat.le_refl _,fun _ _=>rfl,fun _ _ _=>rfl,fun c hc=>.inl ((hown c).1 hc),?_,?_,rfl,?_,?_,fun l hl=>⟨l,hl,Nat.le_refl _⟩,rfl,fun _ _=>rfl⟩⟩
 ·intro b x hb; have:=H.dom b x hb; show b < h.nx+1; omega
 ·intro b C x h1 h2; exact (H.blk b C x (hget b C x h1 h2) h2).mono hst (Rho.le_refl _) rfl
 ·intro b b' C C' x x' h1 h2 h3 h4 h5 h6 h7; exact H.inj b b' C C' x x' (hget b C x h1 h5) (hget b' C' x' h2 h6) h3 h4 h5 h6 h7
 ·intro b C x h1 h2 h3; exact H.low b C x (hget b C x h1 h3) h2 h3
 ·intro b C h1
  show C.mx≤h.nx+1
  rw [get_push] at h1
  by_cases hb:b=h.nx
  ·simp [hb] at h1; subst h1; omega
  ·simp [hb] at h1; have:=H.mxb b C h1; omega
 ·intro i hi
  show nx0≤i∧i < h.nx+1
  simp only [Hp.push,ids,List.map_cons,List.mem_cons] at hi
  rcases hi with hi | hi
  ·have:=H.nx; omega
  ·have:=H.top i hi; omega
 ·show nx0≤h.nx+1; have:=H.nx; omega
 ·show h.nx≤h.nx+1; omega
 ·intro b hb _; rw [get_push,if_neg (by omega)]
 ·exact ⟨[h.nx],by simp [Hp.push,ids],fun i hi=>by simp at hi; subst hi; exact ⟨Nat.le_refl _,Nat.lt_succ_self _⟩⟩
 ·intro b C hb hg
  rw [get_push,if_neg (by omega)] at hg
  exact .inl ⟨C,hg,by omega⟩
theorem HR.fill (H:HR B0 nx0 w ρ h) {b:Nat} {B:Blk} (hb:h.get b=some B) (hn:ρ b=none) (o:Obj) (x:Loc) (w':World) (hw:w'={ w with heap:=w.heap.push o,drawn:=w'.drawn })
  (hx:x.c=w.heap.size) (hB:∀ (own:Nat→Prop) (ρ':Rho),Stable w (ownOf ρ h) w' own→Rho.le ρ ρ'→BR w' own ρ' x B) :
  HR B0 nx0 w' (ρ.set b x) h∧Stable w (ownOf ρ h) w' (ownOf (ρ.set b x) h)∧Rho.le ρ (ρ.set b x)∧(∀ c,ownOf (ρ.set b x) h c→ownOf ρ h c∨w.heap.size≤c):=by
 have hle:Rho.le ρ (ρ.set b x):=fun c y hc=>by
  have:c ≠ b:=fun e=>by rw [e,hn] at hc; cases hc
  simp [Rho.set,this,hc]
 have hheap:w'.heap=w.heap.push o:=by rw [hw]
 have hold:∀ c,c < w.heap.size→w'.heap[c]? = w.heap[c]? := fun c hc=>by rw [hheap,Array.getElem?_push,if_neg (by omega)]
 have hown:∀ c,ownOf (ρ.set b x) h c→ownOf ρ h c∨w.heap.size≤c:=by
  rintro c (hX | ⟨d,B',y,h1,h2,h3,h4⟩)
  ·exact .inl (.inl hX)
  by_cases hd:d=b
  ·subst hd; simp [Rho.set] at h3; subst h3; right; omega
  ·simp [Rho.set,hd] at h3; exact .inl (.inr ⟨d,B',y,h1,h2,h3,h4⟩)
 have hst:Stable w (ownOf ρ h) w' (ownOf (ρ.set b x) h):=by
  intro c o' hc ho
  have hlt:=heap_lt ho
  refine ⟨(hold c hlt).trans ho,fun h1=>?_⟩
  rcases hown c h1 with h2 | h2
  ·exact hc h2
  ·omega
 have hlive:∀ d C y,h.get d=some C→ρ d=some y→C.live=true→y.c < w.heap.size:=by
  intro d C y h1 h2 h3
  have hbr:=H.blk d C y h1 h2
  cases C with
  | cells k rows=>obtain ⟨_,_,_,h4,_⟩:=hbr; exact heap_lt h4
  | map es=>obtain ⟨_,_,h4,_⟩:=hbr; exact heap_lt h4
  | siter s pos=>exact heap_lt hbr
  | loop=>obtain ⟨_,_,_,h4,_⟩:=hbr; exact heap_lt h4
  | dfr=>exact heap_lt hbr
  | dead=>simp [Blk.live] at h3
 refine ⟨⟨?_,?_,?_,?_,H.mxb,H.top,H.rst,H.nx,?_,H.xlo,fun w'' hw=>H.gk w'' fun c hc=>(hw c hc).trans (hold c (Nat.lt_of_lt_of_le hc H.sz))⟩,hst,hle,hown⟩
 ·intro d y hd
  by_cases hdb:d=b
  ·subst hdb; exact H.get_lt hb
  ·simp [Rho.set,hdb] at hd; exact H.dom d y hd
 ·intro d C y h1 h2
  by_cases hdb:d=b
  ·subst hdb
   rw [hb] at h1; injection h1 with h1; subst h1
   simp [Rho.set] at h2; subst h2
   exact hB _ _ hst hle
  ·simp [Rho.set,hdb] at h2
   have hbr:=H.blk d C y h1 h2
   by_cases hl:C.live=true
   ·exact hbr.mono hst hle (hold _ (hlive d C y h1 h2 hl))
   ·cases C<;>simp [Blk.live] at hl
    trivial
 ·intro d d' C C' y y' h1 h2 h3 h4 h5 h6 h7
  by_cases hd:d=b
  ·by_cases hd':d'=b
   ·omega
   ·subst hd; simp [Rho.set,hd'] at h6; simp [Rho.set] at h5; subst h5
    have:=hlive d' C' y' h2 h6 h4; omega
  ·by_cases hd':d'=b
   ·subst hd'; simp [Rho.set,hd] at h5; simp [Rho.set] at h6; subst h6
    have:=hlive d C y h1 h5 h3; omega
   ·simp [Rho.set,hd] at h5; simp [Rho.set,hd'] at h6
    exact H.inj d d' C C' y y' h1 h2 h3 h4 h5 h6 h7
 ·intro d C y h1 h2 h3
  by_cases hd:d=b
  ·subst hd; simp [Rho.set] at h3; subst h3; have:=H.sz; omega
  ·simp [Rho.set,hd] at h3; exact H.low d C y h1 h2 h3
 ·rw [hheap]; simp; have:=H.sz; omega
theorem Nd.bind_ok {α β:Type} {m:Nd α} {f:α→Nd β} {b:β} (h:m.bind f = .ok b):∃ a,m = .ok a∧f a = .ok b:=by
 cases m with
 | ok a=>exact ⟨a,rfl,h⟩
 | fail=>cases h
 | pick n k=>cases h
theorem runDraw_trace {iv:Inv} {M:Nat} {ops:Array Oper}:∀ (os:List Oper) (pres:List AV) (s:Sl) (h:Hp) (s':Sl) (h':Hp) (recs:List Rec),runDraw T iv M ops os pres s h = .ok (s',h',recs) →
  ∃ (S:Nat→Sl) (Hs:Nat→Hp) (V:Nat→AV) (R:Nat→Rec),S 0=s∧Hs 0=h∧S os.length=s'∧Hs os.length=h'∧recs.length=os.length ∧
    ∀ i o,os[i]? = some o→∃ pre,pres[i]? = some pre∧drawStep T iv M ops o pre (S i) (Hs i) = .ok (V i,Hs (i+1),R i)∧S (i+1)=putA M (S i) o.dst (V i)∧recs[i]? = some (R i)
 | [],pres,s,h,s',h',recs,hr=>by
   have e:runDraw T iv M ops [] pres s h = .ok (s,h,[]):=by cases pres<;>rfl
   rw [e] at hr
   simp only [Nd.ok.injEq,Prod.mk.injEq] at hr
   obtain ⟨rfl,rfl,rfl⟩:=hr
   exact ⟨fun _=>s,fun _=>h,fun _=>.junk,fun _=>⟨none,none⟩,rfl,rfl,rfl,rfl,rfl,fun i o hi=>by simp at hi⟩
 | o::os,[],s,h,s',h',recs,hr=>by simp [runDraw] at hr
 | o::os,pre::pres,s,h,s',h',recs,hr=>by
   simp only [runDraw] at hr
   obtain ⟨r,h1,h2⟩:=Nd.bind_ok hr
   obtain ⟨q,h3,h4⟩:=Nd.bind_ok h2
   simp only [Nd.ok.injEq,Prod.mk.injEq] at h4
   obtain ⟨h4,h5,h6⟩:=h4
   obtain ⟨S,Hs,V,R,e1,e2,e3,e4,e5,e6⟩:=runDraw_trace os pres _ _ q.1 q.2.1 q.2.2 h3
   refine ⟨fun | 0=>s | n+1=>S n,fun | 0=>h | n+1=>Hs n,fun | 0=>r.1 | n+1=>V n,fun | 0=>r.2.2 | n+1=>R n,rfl,rfl,?_,?_,?_,?_⟩
   ·simp only [List.length_cons]; rw [e3,h4]
   ·simp only [List.length_cons]; rw [e4,h5]
   ·rw [← h6]; simp [e5]
   ·intro i o' hi
    cases i with
    | zero =>
      simp at hi; subst hi
      refine ⟨pre,rfl,?_,?_,?_⟩
      ·rw [h1]; simp [e2]
      ·simp [e1]
      ·rw [← h6]; rfl
    | succ i =>
      obtain ⟨pre',f1,f2,f3,f4⟩:=e6 i o' (by simpa using hi)
      exact ⟨pre',by simpa using f1,f2,f3,by rw [← h6]; simpa using f4⟩
theorem hoist_spec (hT:T.Of P):∀ (os:List Oper) (h:Hp) (pres:List AV) (h1:Hp),hoist T os h=some (pres,h1)→HR B0 nx0 w ρ h →
  HR B0 nx0 w ρ h1∧Ext w ρ h w ρ h1∧∃ A:Nat→Nat,∀ i o e,os[i]? = some o→o.op = .alloc e→o.guard=none∧pres[i]? = some (.ptr (A i) 0 0)∧h.nx≤A i∧A i < h1.nx ∧
   (∃ z,zeroT T e=some z∧z.cells.all (·.isCell)=true∧0 < z.cells.length∧h1.get (A i)=some (.cells z.cells.length [z.cells])) ∧
   ∀ i' o' e',i' ≠ i→os[i']? = some o'→o'.op = .alloc e'→A i' ≠ A i
 | [],h,pres,h1,hh,H=>by
   simp [hoist] at hh
   obtain ⟨rfl,rfl⟩:=hh
   exact ⟨H,Ext.refl _ _ _,fun _=>0,fun i o e hi=>by simp at hi⟩
 | o::os,h,pres,h1,hh,H=>by
   by_cases ha:∃ e,o.op = .alloc e
   ·obtain ⟨e,ha⟩:=ha
    simp only [hoist,ha] at hh
    split at hh
    case isFalse=>cases hh
    rename_i hg
    cases hz:zeroT T e with
    | none=>simp [opAlloc,hz] at hh
    | some z =>
      simp only [opAlloc,hz,newRow] at hh
      split at hh
      case h_2=>cases hh
      rename_i v h' hv
      split at hv
      case isFalse=>cases hv
      rename_i hc
      simp only [Option.some.injEq,Prod.mk.injEq] at hv
      obtain ⟨rfl,rfl⟩:=hv
      split at hh
      case h_2=>cases hh
      rename_i vs h'' hrest
      simp only [Option.some.injEq,Prod.mk.injEq] at hh
      obtain ⟨rfl,rfl⟩:=hh
      have hmz:mxs z.cells=0:=by
       obtain ⟨i,zv,_,_,h3⟩:=zeroT_spec hT hz
       have:=ofZero_mx h3
       cases z<;>simp [AV.cells,mxs,AV.mx] at this ⊢<;>first | exact this | omega
      obtain ⟨H1,E1⟩:=H.pend (.cells z.cells.length [z.cells]) (by show mxss [z.cells]≤h.nx; simp [mxss,hmz])
      obtain ⟨H2,E2,A,hA⟩:=hoist_spec hT os _ vs h'' hrest H1
      refine ⟨H2,E1.trans E2,fun | 0=>h.nx | n+1=>A n,fun i o' e' hi hal=>?_⟩
      have hnn:ρ h.nx=none:=by
       cases hr:ρ h.nx with
       | none=>rfl
       | some x=>have:=H.dom _ _ hr; omega
      have hnx:(h.push (.cells z.cells.length [z.cells])).nx=h.nx+1:=rfl
      cases i with
      | zero =>
        simp at hi; subst hi
        rw [ha] at hal; injection hal with hal; subst hal
        refine ⟨by simpa using hg,rfl,Nat.le_refl _,?_,⟨z,hz,hc.1,hc.2,?_⟩,?_⟩
        ·have:=E2.nx; rw [hnx] at this; exact this
        ·rw [E2.pend h.nx (by rw [hnx]; omega) hnn,get_push,if_pos rfl]
        ·intro i' o' e' hne hi' hal'
         cases i' with
         | zero=>exact absurd rfl hne
         | succ i' =>
           have:=(hA i' o' e' (by simpa using hi') hal').2.2.1
           rw [hnx] at this
           show A i' ≠ h.nx
           omega
      | succ i =>
        obtain ⟨g1,g2,g3,g4,g5,g6⟩:=hA i o' e' (by simpa using hi) hal
        rw [hnx] at g3
        refine ⟨g1,by simpa using g2,by show h.nx≤A i; omega,g4,g5,?_⟩
        intro i' o'' e'' hne hi' hal'
        cases i' with
        | zero=>show h.nx ≠ A i; omega
        | succ i'=>exact g6 i' o'' e'' (fun e=>hne (by rw [e])) (by simpa using hi') hal'
   ·have hh':∃ vs h'',hoist T os h=some (vs,h'')∧pres=undefA::vs∧h1=h'':=by
     have hna:∀ e,o.op ≠ .alloc e:=fun e he=>ha ⟨e,he⟩
     have e1:hoist T (o::os) h=match hoist T os h with
      | some (vs,h'')=>some (undefA::vs,h'')
      | none=>none:=by
      conv=>lhs; unfold hoist
      cases ho:o.op<;>first | exact absurd ho (hna _) | rfl
     rw [e1] at hh
     cases hv:hoist T os h with
     | none=>simp [hv] at hh
     | some q =>
       obtain ⟨vs,h''⟩:=q
       simp [hv] at hh
       exact ⟨vs,h'',rfl,hh.1.symm,hh.2.symm⟩
    obtain ⟨vs,h'',hv,rfl,rfl⟩:=hh'
    obtain ⟨H2,E2,A,hA⟩:=hoist_spec hT os _ vs _ hv H
    refine ⟨H2,E2,fun | 0=>0 | n+1=>A n,fun i o' e' hi hal=>?_⟩
    cases i with
    | zero=>simp at hi; subst hi; exact absurd ⟨e',hal⟩ ha
    | succ i =>
      obtain ⟨g1,g2,g3,g4,g5,g6⟩:=hA i o' e' (by simpa using hi) hal
      refine ⟨g1,by simpa using g2,g3,g4,g5,?_⟩
      intro i' o'' e'' hne hi' hal'
      cases i' with
      | zero=>simp at hi'; subst hi'; exact absurd ⟨e'',hal'⟩ ha
      | succ i'=>exact g6 i' o'' e'' (fun e=>hne (by rw [e])) (by simpa using hi') hal'
end
end Go.Proofs.YtdjngcfnlfgjkaaGreatDoor.AM

namespace Go.Proofs.YtdjngcfnlfgjkaaGreatDoor.AM
open Go.RowKit
variable [Glob]
def activeAt (R:Nat→Rec) (i:Nat):Prop:=∃ p,(R i).act=some p
def writesAt (ops:Array Oper) (i:Nat) (t:Tmp):Prop:=∃ o,ops[i]? = some o∧o.dst=some t
def inL (listed:Array Bool) (i:Nat):Prop:=listed.getD i false=true
theorem inL_set {listed:Array Bool} {i j:Nat} (hj:j < listed.size):inL (listed.setIfInBounds j true) i↔inL listed i∨i=j:=by
 unfold inL
 by_cases h:j=i
 ·subst h; simp [hj]
 ·rw [getD_set_ne false h]; constructor
  ·exact .inl
  ·rintro (h1 | h1)
   ·exact h1
   ·exact absurd h1.symm h
structure Ctx (T:Tab) (iv:Inv) (M:Nat) (ops:Array Oper) (S:Nat→Sl) (Hs:Nat→Hp) (V:Nat→AV) (R:Nat→Rec) (A:Nat→Nat) (h0:Hp):Prop where
 st:DrawS ops
 step:∀ i o,ops[i]? = some o→∃ pre,drawStep T iv M ops o pre (S i) (Hs i) = .ok (V i,Hs (i+1),R i)∧S (i+1)=putA M (S i) o.dst (V i)∧(isAlloc o.op=true→pre = .ptr (A i) 0 0)
 alc:∀ i o e,ops[i]? = some o→o.op = .alloc e→o.guard=none∧h0.nx≤A i∧A i < (Hs 0).nx ∧
  (∃ z,zeroT T e=some z∧z.cells.all (·.isCell)=true∧0 < z.cells.length∧(Hs 0).get (A i)=some (.cells z.cells.length [z.cells]))∧∀ i' o' e',i' ≠ i→ops[i']? = some o'→o'.op = .alloc e'→A i' ≠ A i
 pr:∀ i j,i < j→j < ops.size→activeAt R i→activeAt R j→bit (Region.before ops) j i=true
 rcd:∀ i j b x y,i < ops.size→j < ops.size→(R i).read=some b→(R j).act=some (x,y)→sameAt b x y=true∨bit (Region.before ops) j i=true∨bit (Region.before ops) i j=true
structure J (B0 nx0:Nat) (M:Nat) (ops:Array Oper) (S:Nat→Sl) (Hs:Nat→Hp) (R:Nat→Rec) (A:Nat→Nat) (w0:World) (ρ0:Rho) (h0:Hp) (a0:Act) (listed:Array Bool) (a:Act) (w:World) (ρ:Rho) (c:Nat):Prop where
 size:listed.size=ops.size
 closed:Closed ops (inL listed)
 cle:c≤ops.size
 lo:∀ i,i < c→activeAt R i→inL listed i
 hi:∀ i,c≤i→activeAt R i→¬ inL listed i
 hr:HR B0 nx0 w ρ (Hs c)
 ext:Ext w0 ρ0 h0 w ρ (Hs c)
 pen:∀ i o e,ops[i]? = some o→o.op = .alloc e→¬ inL listed i→ρ (A i)=none∧(Hs c).get (A i)=(Hs 0).get (A i)
 nxle:(Hs 0).nx≤(Hs c).nx
 shp:Shape M (S 0) a
 slt:∀ t,∃ p,p≤ops.size∧(∀ q,q < p→writesAt ops q t→inL listed q)∧(∀ q,p≤q→writesAt ops q t→¬ inL listed q)∧SlotOk w (ownOf ρ (Hs c)) ρ M (S p) a t
 dfr:a.defers=a0.defers
section
variable {T:Tab} {P:Program} {B0 nx0:Nat} {w w0:World} {ρ ρ0:Rho} {h0:Hp} {iv:Inv} {M:Nat} {ops:Array Oper} {S:Nat→Sl} {Hs:Nat→Hp} {V:Nat→AV} {R:Nat→Rec} {A:Nat→Nat} {a0 a:Act}
variable {listed:Array Bool} {c:Nat}
theorem Ctx.kinds (C:Ctx T iv M ops S Hs V R A h0) {i:Nat} {o:Oper} (hi:ops[i]? = some o) :
  (wantedA M ops o (S i)=some false∧V i=undefA∧Hs (i+1)=Hs i∧R i=⟨none,none⟩) ∨
  (wantedA M ops o (S i)=some true∧isAlloc o.op=true∧V i = .ptr (A i) 0 0∧Hs (i+1)=Hs i∧R i=⟨none,none⟩) ∨
  (wantedA M ops o (S i)=some true∧isAlloc o.op=false∧quietOp o.op=true∧(∃ h₁,doOp T iv (evalA M (S i).fr (S i).loc) (Hs i) o.op = .ok (V i,h₁))∧Hs (i+1)=Hs i∧R i=⟨looksInto (evalA M (S i).fr (S i).loc) o.op,none⟩) ∨
  (wantedA M ops o (S i)=some true∧isAlloc o.op=false∧calmOp T (evalA M (S i).fr (S i).loc) o.op=true∧(∃ h₁,doOp T iv (evalA M (S i).fr (S i).loc) (Hs i) o.op = .ok (V i,h₁))∧Hs (i+1)=Hs i∧R i=⟨none,none⟩) ∨
  (wantedA M ops o (S i)=some true∧isAlloc o.op=false∧quietOp o.op=false∧doOp T iv (evalA M (S i).fr (S i).loc) (Hs i) o.op = .ok (V i,Hs (i+1))∧R i=⟨none,some (Hs i,Hs (i+1))⟩):=by
 obtain ⟨pre,h1,h2,h3⟩:=C.step i o hi
 unfold drawStep at h1
 cases hw:wantedA M ops o (S i) with
 | none=>simp [hw] at h1
 | some b =>
   cases b with
   | false =>
     simp only [hw,Nd.ok.injEq,Prod.mk.injEq] at h1
     exact .inl ⟨rfl,h1.1.symm,h1.2.1.symm,h1.2.2.symm⟩
   | true =>
     simp only [hw] at h1
     by_cases ha:isAlloc o.op=true
     ·simp only [ha,if_true,Nd.ok.injEq,Prod.mk.injEq] at h1
      exact .inr (.inl ⟨rfl,ha,by rw [← h1.1]; exact h3 ha,h1.2.1.symm,h1.2.2.symm⟩)
     ·have ha':isAlloc o.op=false:=by simpa using ha
      by_cases hq:quietOp o.op=true
      ·simp only [ha',hq,if_true,Bool.false_eq_true,if_false] at h1
       obtain ⟨r,h4,h5⟩:=Nd.bind_ok h1
       simp only [Nd.ok.injEq,Prod.mk.injEq] at h5
       exact .inr (.inr (.inl ⟨rfl,ha',hq,⟨r.2,by rw [h4,← h5.1]⟩,h5.2.1.symm,h5.2.2.symm⟩))
      ·have hq':quietOp o.op=false:=by simpa using hq
       by_cases hcl:calmOp T (evalA M (S i).fr (S i).loc) o.op=true
       ·simp only [ha',hq',hcl,if_true,Bool.false_eq_true,if_false] at h1
        obtain ⟨r,h4,h5⟩:=Nd.bind_ok h1
        simp only [Nd.ok.injEq,Prod.mk.injEq] at h5
        exact .inr (.inr (.inr (.inl ⟨rfl,ha',hcl,⟨r.2,by rw [h4,← h5.1]⟩,h5.2.1.symm,h5.2.2.symm⟩)))
       have hcl':calmOp T (evalA M (S i).fr (S i).loc) o.op=false:=by simpa using hcl
       simp only [ha',hq',hcl',Bool.false_eq_true,if_false] at h1
       obtain ⟨r,h4,h5⟩:=Nd.bind_ok h1
       simp only [Nd.ok.injEq,Prod.mk.injEq] at h5
       refine .inr (.inr (.inr (.inr ⟨rfl,ha',hq',by rw [h4,← h5.1,← h5.2.1],?_⟩)))
       rw [← h5.2.2,← h5.2.1]
theorem ops_get {i:Nat} (h:i < ops.size):∃ o,ops[i]? = some o:=⟨ops[i],by simp [h]⟩
theorem ops_lt {i:Nat} {o:Oper} (h:ops[i]? = some o):i < ops.size:=(Array.getElem?_eq_some_iff.1 h).1
theorem Ctx.const (C:Ctx T iv M ops S Hs V R A h0) {p:Nat}:∀ {k:Nat},p+k≤ops.size→(∀ i,p≤i→i < p+k→¬ activeAt R i)→Hs (p+k)=Hs p
 | 0,_,_=>rfl
 | k+1,hk,hn=>by
   have:=C.const (p:=p) (k:=k) (by omega) fun i h1 h2=>hn i h1 (by omega)
   obtain ⟨o,ho⟩:=ops_get (ops:=ops) (i:=p+k) (by omega)
   have hna:=hn (p+k) (by omega) (by omega)
   rcases C.kinds ho with ⟨_,_,h3,_⟩ | ⟨_,_,_,h3,_⟩ | ⟨_,_,_,_,h3,_⟩ | ⟨_,_,_,_,h3,_⟩ | ⟨_,h1,h2,_,h4⟩
   ·rw [← Nat.add_assoc,h3,this]
   ·rw [← Nat.add_assoc,h3,this]
   ·rw [← Nat.add_assoc,h3,this]
   ·rw [← Nat.add_assoc,h3,this]
   ·exact absurd ⟨_,by rw [h4]⟩ hna
theorem Ctx.chain (C:Ctx T iv M ops S Hs V R A h0) {b:Nat × Bool} {p:Nat}:∀ {k:Nat},p+k≤ops.size→(∀ i x y,p≤i→i < p+k→(R i).act=some (x,y)→sameAt b x y=true)→vw b.2 ((Hs (p+k)).get b.1)=vw b.2 ((Hs p).get b.1)
 | 0,_,_=>rfl
 | k+1,hk,hn=>by
   have:=C.chain (b:=b) (p:=p) (k:=k) (by omega) fun i x y h1 h2=>hn i x y h1 (by omega)
   obtain ⟨o,ho⟩:=ops_get (ops:=ops) (i:=p+k) (by omega)
   rcases C.kinds ho with ⟨_,_,h3,_⟩ | ⟨_,_,_,h3,_⟩ | ⟨_,_,_,_,h3,_⟩ | ⟨_,_,_,_,h3,_⟩ | ⟨_,_,_,_,h4⟩
   ·rw [← Nat.add_assoc,h3,this]
   ·rw [← Nat.add_assoc,h3,this]
   ·rw [← Nat.add_assoc,h3,this]
   ·rw [← Nat.add_assoc,h3,this]
   ·rw [← Nat.add_assoc,← sameAt_eq (hn (p+k) _ _ (by omega) (by omega) (by rw [h4])),this]
theorem Ctx.len (C:Ctx T iv M ops S Hs V R A h0):∀ {p:Nat},p≤ops.size→(S p).fr.length=(S 0).fr.length
 | 0,_=>rfl
 | p+1,hp=>by
   obtain ⟨o,ho⟩:=ops_get (ops:=ops) (i:=p) (by omega)
   obtain ⟨pre,_,h2,_⟩:=C.step p o ho
   rw [h2,← C.len (p:=p) (by omega)]
   unfold putA
   cases o.dst with
   | none=>rfl
   | some d=>simp only; split<;>simp [put_length]
theorem Ctx.slot (C:Ctx T iv M ops S Hs V R A h0) {t p:Nat}:∀ {k:Nat},p+k≤ops.size→(∀ i,p≤i→i < p+k→¬ writesAt ops i t)→slotA M (S (p+k)).fr (S (p+k)).loc t=slotA M (S p).fr (S p).loc t
 | 0,_,_=>rfl
 | k+1,hk,hn=>by
   have:=C.slot (t:=t) (p:=p) (k:=k) (by omega) fun i h1 h2=>hn i h1 (by omega)
   obtain ⟨o,ho⟩:=ops_get (ops:=ops) (i:=p+k) (by omega)
   obtain ⟨pre,_,h2,_⟩:=C.step (p+k) o ho
   rw [← Nat.add_assoc,h2,slotA_put_ne,this]
   intro hd
   exact hn (p+k) (by omega) (by omega) ⟨o,ho,hd⟩
theorem J.deps (hJ:J B0 nx0 M ops S Hs R A w0 ρ0 h0 a0 listed a w ρ c) {md:Region.Mode} {j:Nat} {o:Oper} (ho:ops[j]? = some o) (hdep:∀ e∈o.after,Region.binds md e=true→listed.getD e.on false=true) {i:Nat}
  (hb:bit (Region.before ops) j i=true):inL listed i:=by
 refine closed_before hJ.closed j o i ho (fun e he hbb=>hdep e he ?_) hb
 unfold Region.binds at hbb ⊢
 split at hbb<;>simp_all
theorem J.back (hJ:J B0 nx0 M ops S Hs R A w0 ρ0 h0 a0 listed a w ρ c) {q:Nat} {o:Oper} (ho:ops[q]? = some o) (hq:inL listed q) {i:Nat} (hb:bit (Region.before ops) q i=true):inL listed i :=
 closed_before hJ.closed q o i ho (fun e he hbb=>hJ.closed q o e hq ho he hbb) hb
section ready
variable {md:Region.Mode} {j:Nat} {o:Oper}
theorem J.reads (C:Ctx T iv M ops S Hs V R A h0) (hJ:J B0 nx0 M ops S Hs R A w0 ρ0 h0 a0 listed a w ρ c) (ho:ops[j]? = some o) (hun:¬ inL listed j) (hdep:∀ e∈o.after,Region.binds md e=true→listed.getD e.on false=true)
  {t:Tmp} (ht:t∈o.looksAt ops):SlotOk w (ownOf ρ (Hs c)) ρ M (S j) a t:=by
 obtain ⟨p,hp,h1,h2,h3⟩:=hJ.slt t
 have hj:=ops_lt ho
 have e:slotA M (S p).fr (S p).loc t=slotA M (S j).fr (S j).loc t:=by
  rcases Nat.le_total p j with hpj | hpj
  ·obtain ⟨k,rfl⟩:=Nat.exists_eq_add_of_le hpj
   refine (C.slot (by omega) fun q hq1 hq2 hw=>?_).symm
   obtain ⟨x,hx,hd⟩:=hw
   rcases C.st.ord q _ x o hq2 hx ho with hb | hap
   ·exact h2 q hq1 ⟨x,hx,hd⟩ (hJ.deps ho hdep hb)
   ·exact (Oper.apart_spec hap).1 t hd ht
  ·obtain ⟨k,rfl⟩:=Nat.exists_eq_add_of_le hpj
   refine C.slot (by omega) fun q hq1 hq2 hw=>?_
   have hl:=h1 q hq2 hw
   obtain ⟨x,hx,hd⟩:=hw
   rcases Nat.lt_or_ge j q with hlt | hge
   ·rcases C.st.ord j q o x hlt ho hx with hb | hap
    ·exact hun (hJ.back hx hl hb)
    ·exact (Oper.apart_spec hap).2.2 t hd ht
   ·have:q=j:=by omega
    subst this; exact hun hl
 intro x hx
 rw [← e] at hx
 exact h3 x hx
theorem J.next (C:Ctx T iv M ops S Hs V R A h0) (hJ:J B0 nx0 M ops S Hs R A w0 ρ0 h0 a0 listed a w ρ c) (ho:ops[j]? = some o) (hun:¬ inL listed j) (hdep:∀ e∈o.after,Region.binds md e=true→listed.getD e.on false=true)
  {w':World} {ρ':Rho} {c':Nat} {u:Value} (hst:Stable w (ownOf ρ (Hs c)) w' (ownOf ρ' (Hs c'))) (hle:Rho.le ρ ρ') (hc:(activeAt R j∧c'=j+1)∨(¬ activeAt R j∧c'=c)) (hr:HR B0 nx0 w' ρ' (Hs c'))
  (hext:Ext w0 ρ0 h0 w' ρ' (Hs c')) (hpen:∀ i o e,ops[i]? = some o→o.op = .alloc e→¬ inL listed i→i ≠ j→ρ' (A i)=none∧(Hs c').get (A i)=(Hs 0).get (A i)) (hnx:(Hs 0).nx≤(Hs c').nx)
  (hu:Rel w' (ownOf ρ' (Hs c')) ρ' (V j) u):J B0 nx0 M ops S Hs R A w0 ρ0 h0 a0 (listed.setIfInBounds j true) (a.put o.dst u) w' ρ' c':=by
 have hj:=ops_lt ho
 have hjl:j < listed.size:=by rw [hJ.size]; exact hj
 have hset:∀ i,inL (listed.setIfInBounds j true) i↔inL listed i∨i=j:=fun i=>inL_set hjl
 have hact:∀ i,i < j→activeAt R i→activeAt R j→inL listed i:=fun i hij h1 h2=>hJ.deps ho hdep (C.pr i j hij hj h1 h2)
 have hact2:∀ i,j < i→i < ops.size→activeAt R i→activeAt R j→¬ inL listed i:=fun i hij hi h1 h2 hl=>by
  obtain ⟨y,hy⟩:=ops_get hi
  exact hun (hJ.back hy hl (C.pr j i hij hi h2 h1))
 refine ⟨by simp [hJ.size],?_,?_,?_,?_,hr,hext,?_,hnx,?_,?_,?_⟩
 ·intro i y e hi hy he hb
  rw [hset] at hi ⊢
  rcases hi with hi | rfl
  ·exact .inl (hJ.closed i y e hi hy he hb)
  ·rw [ho] at hy; injection hy with hy; subst hy
   refine .inl (hdep e he ?_)
   unfold Region.binds at hb ⊢
   split at hb<;>simp_all
 ·rcases hc with ⟨_,rfl⟩ | ⟨_,rfl⟩
  ·exact hj
  ·exact hJ.cle
 ·intro i hi ha
  rw [hset]
  rcases hc with ⟨hja,rfl⟩ | ⟨_,rfl⟩
  ·rcases Nat.lt_or_eq_of_le (Nat.le_of_lt_succ hi) with h | h
   ·exact .inl (hact i h ha hja)
   ·exact .inr h
  ·exact .inl (hJ.lo i hi ha)
 ·intro i hi ha
  rw [hset]
  rcases hc with ⟨hja,rfl⟩ | ⟨hja,rfl⟩
  ·rintro (h | h)
   ·rcases Nat.lt_or_ge i ops.size with hlt | hge
    ·exact hact2 i hi hlt ha hja h
    ·unfold inL at h; rw [Array.getD_eq_getD_getElem?,Array.getElem?_eq_none (by rw [hJ.size]; exact hge)] at h; cases h
   ·omega
  ·rintro (h | h)
   ·exact hJ.hi i hi ha h
   ·subst h; exact hja ha
 ·intro i x e hi he hl
  rw [hset] at hl
  exact hpen i x e hi he (fun h=>hl (.inl h)) (fun h=>hl (.inr h))
 ·have:=hJ.shp
  unfold Act.put
  cases o.dst with
  | none=>exact this
  | some d=>exact ⟨by simpa using this.1,by simpa using this.2⟩
 ·intro t
  by_cases hd:o.dst=some t
  ·refine ⟨j+1,hj,?_,?_,?_⟩
   ·intro q hq hw
    rw [hset]
    rcases Nat.lt_or_eq_of_le (Nat.le_of_lt_succ hq) with h | h
    ·obtain ⟨x,hx,hdx⟩:=hw
     rcases C.st.ord q j x o h hx ho with hb | hap
     ·exact .inl (hJ.deps ho hdep hb)
     ·exact absurd hd ((Oper.apart_spec hap).2.1 t hdx)
    ·exact .inr h
   ·intro q hq hw
    rw [hset]
    rintro (h | h)
    ·obtain ⟨x,hx,hdx⟩:=hw
     rcases C.st.ord j q o x hq ho hx with hb | hap
     ·exact hun (hJ.back hx h hb)
     ·exact (Oper.apart_spec hap).2.1 t hd hdx
    ·omega
   ·obtain ⟨pre,_,h2,_⟩:=C.step j o ho
    rw [h2,hd]
    refine .put_self ?_ hu
    exact ⟨by rw [C.len (by omega)]; exact hJ.shp.1,hJ.shp.2⟩
  ·obtain ⟨p,hp,h1,h2,h3⟩:=hJ.slt t
   have hnw:¬ writesAt ops j t:=by
    rintro ⟨x,hx,hdx⟩
    rw [ho] at hx; injection hx with hx; subst hx; exact hd hdx
   refine ⟨p,hp,fun q hq hw=>(hset q).2 (.inl (h1 q hq hw)),fun q hq hw=>?_,?_⟩
   ·rw [hset]
    rintro (h | h)
    ·exact h2 q hq hw h
    ·subst h; exact hnw hw
   ·intro x hx
    have:=(h3.mono hst hle) x hx
    unfold Act.put
    cases hdd:o.dst with
    | none=>exact this
    | some d =>
      have hne:d ≠ t:=fun e=>hd (by rw [hdd,e])
      simp only [Array.getD_eq_getD_getElem?] at this ⊢
      rw [Array.getElem?_setIfInBounds_ne hne]; exact this
 ·have:=hJ.dfr
  rw [← this]
  cases o.dst<;>rfl
theorem J.turn (C:Ctx T iv M ops S Hs V R A h0) (hJ:J B0 nx0 M ops S Hs R A w0 ρ0 h0 a0 listed a w ρ c) (ho:ops[j]? = some o) (hun:¬ inL listed j) (hdep:∀ e∈o.after,Region.binds md e=true→listed.getD e.on false=true)
  (ha:activeAt R j):Hs c=Hs j:=by
 have hj:=ops_lt ho
 have hcj:c≤j:=by
  rcases Nat.lt_or_ge j c with h | h
  ·exact absurd (hJ.lo j h ha) hun
  ·exact h
 obtain ⟨k,rfl⟩:=Nat.exists_eq_add_of_le hcj
 refine (C.const (by omega) fun i h1 h2 hai=>?_).symm
 exact hJ.hi i h1 hai (hJ.deps ho hdep (C.pr i _ h2 (by omega) hai ha))
theorem J.looks (C:Ctx T iv M ops S Hs V R A h0) (hJ:J B0 nx0 M ops S Hs R A w0 ρ0 h0 a0 listed a w ρ c) (ho:ops[j]? = some o) (hun:¬ inL listed j) (hdep:∀ e∈o.after,Region.binds md e=true→listed.getD e.on false=true)
  {b:Nat × Bool} (hb:(R j).read=some b):vw b.2 ((Hs j).get b.1)=vw b.2 ((Hs c).get b.1):=by
 have hj:=ops_lt ho
 have hcle:=hJ.cle
 have actAct:∀ i x y,i < ops.size→(R i).act=some (x,y)→activeAt R i:=fun i x y _ hra=>⟨_,hra⟩
 rcases Nat.le_total c j with hcj | hcj
 ·obtain ⟨k,rfl⟩:=Nat.exists_eq_add_of_le hcj
  refine C.chain (by omega) fun i x y h1 h2 hra=>?_
  have hai:=actAct i x y (by omega) hra
  rcases C.rcd _ i b x y hj (by omega) hb hra with h3 | h3 | h3
  ·exact h3
  ·have:=bit_lt C.st.lt _ _ h3; omega
  ·exact absurd (hJ.deps ho hdep h3) (hJ.hi i h1 hai)
 ·obtain ⟨k,rfl⟩:=Nat.exists_eq_add_of_le hcj
  refine (C.chain (by omega) fun i x y h1 h2 hra=>?_).symm
  have hai:=actAct i x y (by omega) hra
  rcases C.rcd j i b x y hj (by omega) hb hra with h3 | h3 | h3
  ·exact h3
  ·obtain ⟨z,hz⟩:=ops_get (ops:=ops) (i:=i) (by omega)
   exact absurd (hJ.back hz (hJ.lo i h2 hai) h3) hun
  ·have:=bit_lt C.st.lt _ _ h3; omega
end ready
end
end Go.Proofs.YtdjngcfnlfgjkaaGreatDoor.AM

namespace Go.Proofs.YtdjngcfnlfgjkaaGreatDoor.AM
open Go.RowKit
variable [Glob]
section
variable {T:Tab} {P:Program} {B0 nx0:Nat} {w w0:World} {ρ ρ0:Rho} {h0:Hp} {iv:Inv} {M:Nat} {ops:Array Oper} {S:Nat→Sl} {Hs:Nat→Hp} {V:Nat→AV} {R:Nat→Rec} {A:Nat→Nat} {a0 a:Act}
variable {listed:Array Bool} {c:Nat} {md:Region.Mode} {j:Nat} {o:Oper}
open Classical in
noncomputable def evOf (M:Nat) (s:Sl) (o:Oper):Ev:=fun x=>if x∈o.op.operands.toList then evalA M s.fr s.loc x else none
theorem evOf_rel {own:Nat→Prop} {s:Sl} (h:∀ t∈o.looksAt ops,SlotOk w own ρ M s a t):EvR w own ρ (evOf M s o) a.eval:=by
 intro x v hv
 unfold evOf at hv
 split at hv
 case isFalse=>cases hv
 rename_i hx
 refine SlotOk.eval (fun t ht=>h t ?_) hv
 subst ht
 exact List.mem_append_left _ (List.mem_filterMap.2 ⟨.tmp t,hx,rfl⟩)
theorem evOf_eq {s:Sl}:∀ x∈o.op.operands,evalA M s.fr s.loc x=evOf M s o x:=by
 intro x hx
 unfold evOf
 rw [if_pos (by simpa using hx)]
theorem J.step (hT:T.Of P) (hiv:InvOk T P iv) (C:Ctx T iv M ops S Hs V R A h0) (hJ:J B0 nx0 M ops S Hs R A w0 ρ0 h0 a0 listed a w ρ c) (ho:ops[j]? = some o) (hun:¬ inL listed j)
  (hdep:∀ e∈o.after,Region.binds md e=true→listed.getD e.on false=true) {roc:Option Nat} {QQ:Exit→Act→World→Prop} {K:Act→World→Prop}
  (hK:∀ a' w' ρ' c',J B0 nx0 M ops S Hs R A w0 ρ0 h0 a0 (listed.setIfInBounds j true) a' w' ρ' c'→K a' w'):wpOpIn (FW roc) 0 P ops QQ j K a w:=by
 unfold wpOpIn
 simp only [ho]
 have hreads:=fun t ht=>hJ.reads C ho hun hdep (t:=t) ht
 have hwant:∀ b,wantedA M ops o (S j)=some b→Region.wanted o (yielded ops a.tmps)=b:=fun b hb =>
  wantedA_sound (fun g b' d hg hd=>hreads d (by simp [Oper.looksAt,hg,hd])) hb
 have hst0:=Stable.refl w (ownOf ρ (Hs c))
 have hj:=ops_lt ho
 have penX:∀ {w':World} {ρ':Rho} {h':Hp},Ext w ρ (Hs c) w' ρ' h'→∀ i x e,ops[i]? = some x→x.op = .alloc e→¬ inL listed i→i ≠ j→ρ' (A i)=none∧h'.get (A i)=(Hs 0).get (A i):=by
  intro w' ρ' h' hext i x e hi he hl _
  obtain ⟨p1,p2⟩:=hJ.pen i x e hi he hl
  have hlt:A i < (Hs c).nx:=Nat.lt_of_lt_of_le (C.alc i x e hi he).2.2.1 hJ.nxle
  exact ⟨by rw [hext.rho _ hlt]; exact p1,by rw [hext.pend _ hlt p1]; exact p2⟩
 rcases C.kinds ho with ⟨k1,k2,k3,k4⟩ | ⟨k1,k2,k3,k4,k5⟩ | ⟨k1,k2,k3,⟨h₁,k4⟩,k5,k6⟩ | ⟨k1,k2,k3,⟨h₁,k4⟩,k5,k6⟩ | ⟨k1,k2,k3,k4,k5⟩
 ·
  simp only [hwant _ k1,Bool.false_eq_true,if_false]
  refine ⟨fun _ _=>trivial,?_⟩
  have ha:¬ activeAt R j:=by rintro ⟨p,hp⟩; rw [k4] at hp; cases hp
  refine hK _ _ ρ c (hJ.next C ho hun hdep (u:=undef) hst0 (Rho.le_refl _) (.inr ⟨ha,rfl⟩) hJ.hr hJ.ext (fun i x e hi he hl _=>hJ.pen i x e hi he hl) hJ.nxle ?_)
  rw [k2]; exact undefA_rel _ _ _
 ·
  simp only [hwant _ k1,if_true]
  have hna:¬ activeAt R j:=by rintro ⟨p,hp⟩; rw [k5] at hp; cases hp
  obtain ⟨e,he⟩:∃ e,o.op = .alloc e:=by
   cases hop:o.op<;>rw [hop] at k2<;>simp [isAlloc] at k2
   exact ⟨_,rfl⟩
  obtain ⟨g1,g2,g3,⟨z,hz,hz1,hz2,hz3⟩,g5⟩:=C.alc j o e ho he
  obtain ⟨p1,p2⟩:=hJ.pen j o e ho he hun
  obtain ⟨i,zv,i1,i2,i3⟩:=zeroT_spec hT hz
  refine ⟨fun _ _=>trivial,?_⟩
  have hsem:o.semAt (FW roc).round a.eval=execOp a.eval o:=Oper.semAt_eq _ _ _ (fun d hd=>by rw [he] at hd; cases hd)
  have hrun:(execOp a.eval o).run P w = .ok (.value (.pointer (some ⟨w.heap.size,0,none⟩))) (w.alloc (.cells zv.cells e)):=by
   unfold execOp
   simp [he,Instr.alloc,zeroValue,typeInfo,i1,i2,newVar,Go.newRow]
  rw [hsem,hrun,Oper.uponIn_value]
  have hrel:∀ (w:World) (own:Nat→Prop) (ρ:Rho),Rels w own ρ z.cells zv.cells.toList:=fun w own ρ=>(ofZero_rel (w:=w) (own:=own) (ρ:=ρ) i3).cells (ofZero_ne_junk i3)
  have hlen:=(hrel w (fun _=>True) ρ).length
  obtain ⟨f1,f2,f3,f4⟩:=hJ.hr.fill (b:=A j) (B:=.cells z.cells.length [z.cells]) (by rw [p2]; exact hz3) p1 (.cells zv.cells e) ⟨w.heap.size,0,z.cells.length,1⟩ (w.alloc (.cells zv.cells e)) rfl rfl (fun own ρ' hst hle=>by
   refine ⟨zv.cells,e,zv.cells.toList,by show (w.heap.push _)[w.heap.size]? = _; simp,⟨hz2,rfl⟩,by simp,by simp,?_,by simpa using hrel _ own ρ',fun q v hq=>?_⟩
   ·simp at hlen; simp [hlen]
   ·refine ⟨by simpa using hq,(hrel w (fun _=>True) ρ).cellV hz1 v (List.mem_of_getElem? hq)⟩)
  have hAn:∀ b,b < h0.nx→b ≠ A j:=fun b hb e=>by omega
  have hext:Ext w0 ρ0 h0 (w.alloc (.cells zv.cells e)) (ρ.set (A j) ⟨w.heap.size,0,z.cells.length,1⟩) (Hs c):=by
   have E:=hJ.ext
   refine ⟨E.os,E.tape,E.output,?_,?_,?_,?_,E.nx,E.pend,E.rest,E.top,E.grow,E.lkm,E.xs,fun q hq=>?_⟩
   ·have:=E.size; simp; omega
   ·intro b hb; rw [← E.rho b hb]; simp [Rho.set,hAn b hb]
   ·intro q hq hno
    rw [← E.frame q hq hno]
    have:q < w.heap.size:=Nat.lt_of_lt_of_le hq E.size
    show (w.heap.push _)[q]? = _
    rw [Array.getElem?_push,if_neg (by omega)]
   ·intro q hq
    rcases f4 q hq with h | h
    ·exact E.own q h
    ·exact .inr (Nat.le_trans E.size h)
   ·rw [← E.xf q hq]
    have h1:=hJ.hr.xlo q (by rw [E.xs]; exact hq)
    have h2:=hJ.hr.sz
    show (w.heap.push _)[q]? = _
    rw [Array.getElem?_push,if_neg (by omega)]
  refine hK _ _ _ c (hJ.next C ho hun hdep (u:=.pointer (some ⟨w.heap.size,0,none⟩)) f2 f3 (.inr ⟨hna,rfl⟩) f1 hext (fun i' x e' hi he' hl hne=>?_) hJ.nxle ?_)
  ·obtain ⟨q1,q2⟩:=hJ.pen i' x e' hi he' hl
   exact ⟨by simp [Rho.set,g5 i' x e' hne hi he',q1],q2⟩
  ·rw [k3]
   exact .ptr _ _ _ _ ⟨w.heap.size,0,z.cells.length,1⟩ (by simp [Rho.set]) _ (by simp)
 ·
  simp only [hwant _ k1,if_true]
  have hna:¬ activeAt R j:=by rintro ⟨p,hp⟩; rw [k6] at hp; cases hp
  obtain ⟨_,hq⟩:=quiet_heap o.op k3 (h':=Hs c) (fun b hb=>hJ.looks C ho hun hdep (by rw [k6]; exact hb)) k4
  rw [doOp_congr o.op (evOf_eq (M:=M) (s:=S j) (o:=o))] at hq
  refine doOp_sound hT hiv hJ.hr (evOf_rel hreads) o (Q:=fun r=>r=(V j,Hs c)) (by rw [hq]; rfl) fun v r h' w' ρ' hr1 H1 E1 hv=>?_
  simp only [Prod.mk.injEq] at hr1
  obtain ⟨rfl,rfl⟩:=hr1
  exact hK _ _ ρ' c (hJ.next C ho hun hdep E1.stable (E1.le hJ.hr.dom) (.inr ⟨hna,rfl⟩) H1 (hJ.ext.trans E1) (penX E1) (Nat.le_trans hJ.nxle E1.nx) hv)
 ·
  simp only [hwant _ k1,if_true]
  have hna:¬ activeAt R j:=by rintro ⟨p,hp⟩; rw [k6] at hp; cases hp
  have hq:=calm_heap hiv k3 k4 (Hs c)
  rw [doOp_congr o.op (evOf_eq (M:=M) (s:=S j) (o:=o))] at hq
  refine doOp_sound hT hiv hJ.hr (evOf_rel hreads) o (Q:=fun r=>r=(V j,Hs c)) (by rw [hq]; rfl) fun v r h' w' ρ' hr1 H1 E1 hv=>?_
  simp only [Prod.mk.injEq] at hr1
  obtain ⟨rfl,rfl⟩:=hr1
  exact hK _ _ ρ' c (hJ.next C ho hun hdep E1.stable (E1.le hJ.hr.dom) (.inr ⟨hna,rfl⟩) H1 (hJ.ext.trans E1) (penX E1) (Nat.le_trans hJ.nxle E1.nx) hv)
 ·
  simp only [hwant _ k1,if_true]
  have ha:activeAt R j:=⟨_,by rw [k5]⟩
  have e1:=hJ.turn C ho hun hdep ha
  rw [← e1,doOp_congr o.op (evOf_eq (M:=M) (s:=S j) (o:=o))] at k4
  refine doOp_sound hT hiv hJ.hr (evOf_rel hreads) o (Q:=fun r=>r=(V j,Hs (j+1))) (by rw [k4]; rfl) fun v r h' w' ρ' hr1 H1 E1 hv=>?_
  simp only [Prod.mk.injEq] at hr1
  obtain ⟨rfl,rfl⟩:=hr1
  exact hK _ _ ρ' (j+1) (hJ.next C ho hun hdep E1.stable (E1.le hJ.hr.dom) (.inl ⟨ha,rfl⟩) H1 (hJ.ext.trans E1) (penX E1) (Nat.le_trans hJ.nxle E1.nx) hv)
theorem count_set:∀ (l:List Bool) (i:Nat),l[i]? = some false→(l.set i true).count false+1=l.count false
 | [],_,h=>by simp at h
 | b::l,0,h=>by simp at h; subst h; simp
 | b::l,i+1,h=>by
   have:=count_set l i (by simpa using h)
   cases b<;>simp [List.set_cons_succ]<;>omega
theorem J.all (hT:T.Of P) (hiv:InvOk T P iv) (C:Ctx T iv M ops S Hs V R A h0) {roc:Option Nat} {QQ:Exit→Act→World→Prop}
  (hn:∀ a' w' ρ',HR B0 nx0 w' ρ' (Hs ops.size)→Ext w0 ρ0 h0 w' ρ' (Hs ops.size)→SlR w' (ownOf ρ' (Hs ops.size)) ρ' M (S ops.size) a'→a'.defers=a0.defers→QQ .normal a' w') :
  ∀ (fuel:Nat) (listed:Array Bool) (a:Act) (w:World) (ρ:Rho) (c:Nat),J B0 nx0 M ops S Hs R A w0 ρ0 h0 a0 listed a w ρ c→listed.toList.count false≤fuel→wpAnyIn (FW roc) 0 P md ops QQ fuel listed a w:=by
 have fin:∀ (listed:Array Bool) (a:Act) (w:World) (ρ:Rho) (c:Nat),J B0 nx0 M ops S Hs R A w0 ρ0 h0 a0 listed a w ρ c→(∀ i,i < ops.size→inL listed i)→QQ .normal a w:=by
  intro listed a w ρ c hJ hall
  have hcle:=hJ.cle
  have e1:Hs ops.size=Hs c:=by
   obtain ⟨k,hk⟩:=Nat.exists_eq_add_of_le hcle
   rw [hk]
   refine C.const (by omega) fun i h1 h2 hai=>hJ.hi i h1 hai (hall i (by omega))
  refine hn a w ρ (by rw [e1]; exact hJ.hr) (by rw [e1]; exact hJ.ext) ⟨⟨by rw [C.len (Nat.le_refl _)]; exact hJ.shp.1,hJ.shp.2⟩,fun t=>?_⟩ hJ.dfr
  obtain ⟨p,hp,h1,h2,h3⟩:=hJ.slt t
  obtain ⟨k,hk⟩:=Nat.exists_eq_add_of_le hp
  rw [e1]
  intro x hx
  rw [hk,C.slot (by omega) fun q hq1 hq2 hw=>h2 q hq1 hw (hall q (by omega))] at hx
  exact h3 x hx
 intro fuel
 induction fuel with
 | zero =>
   intro listed a w ρ c hJ hc
   have hall:∀ i,i < ops.size→inL listed i:=by
    intro i hi
    have hlt:i < listed.size:=by rw [hJ.size]; exact hi
    unfold inL
    cases hb:listed[i] with
    | true=>simp [hlt,hb]
    | false =>
      have:false∈listed.toList:=by rw [← hb]; simp
      have:=List.count_pos_iff.2 this
      omega
   refine ⟨?_,fin listed a w ρ c hJ hall⟩
   rw [List.eq_nil_iff_forall_not_mem]
   intro i hi
   obtain ⟨h1,o,h2,_⟩:=mem_ready.1 hi
   have:=hall i (ops_lt h2)
   unfold inL at this
   have hlt:i < listed.size:=by rw [hJ.size]; exact ops_lt h2
   simp [hlt] at this h1; rw [this] at h1; cases h1
 | succ fuel ih =>
   intro listed a w ρ c hJ hc
   refine ⟨fun hr=>fin listed a w ρ c hJ (all_listed (C.st.acy md) hJ.size hr),fun i hi=>?_⟩
   obtain ⟨h1,o,h2,h3⟩:=mem_ready.1 hi
   have hlt:i < listed.size:=by rw [hJ.size]; exact ops_lt h2
   have hfalse:listed[i]=false:=by simpa [hlt] using h1
   refine hJ.step (md:=md) hT hiv C h2 (by unfold inL; simp [hlt,hfalse]) h3 fun a' w' ρ' c' hJ'=>ih _ a' w' ρ' c' hJ' ?_
   have:=count_set listed.toList i (by simp [hlt,hfalse])
   rw [Array.toList_setIfInBounds]
   omega
end
section
variable {T:Tab} {P:Program} {B0 nx0:Nat} {w:World} {ρ:Rho} {h:Hp} {M:Nat}
theorem recsOk_spec {B:Array Nat} {all:List Rec}:∀ {rs:List Rec} {k:Nat},recsOk B all k rs=true→∀ i b,(rs[i]?).bind (·.read)=some b→actsOk B (k+i) b 0 all=true
 | [],_,_,i,b,hb=>by simp at hb
 | ⟨some b',q⟩::rs,k,hr,0,b,hb=>by simp [recsOk] at hr; simp at hb; subst hb; exact hr.1
 | ⟨none,q⟩::rs,k,hr,0,b,hb=>by simp at hb
 | ⟨some b',q⟩::rs,k,hr,i+1,b,hb=>by
   simp [recsOk] at hr
   have:=recsOk_spec hr.2 i b (by simpa using hb)
   rwa [show k+1+i=k+(i+1) by omega] at this
 | ⟨none,q⟩::rs,k,hr,i+1,b,hb=>by
   simp [recsOk] at hr
   have:=recsOk_spec hr i b (by simpa using hb)
   rwa [show k+1+i=k+(i+1) by omega] at this
theorem actsOk_spec {B:Array Nat} {i:Nat} {b:Nat × Bool}:∀ {rs:List Rec} {k:Nat},actsOk B i b k rs=true→∀ j x y,(rs[j]?).bind (·.act)=some (x,y)→sameAt b x y=true∨ordered B i (k+j)=true
 | [],_,_,j,x,y,h=>by simp at h
 | ⟨q,some (u,v)⟩::rs,k,hr,0,x,y,h=>by
   simp [actsOk] at hr; simp at h; obtain ⟨rfl,rfl⟩:=h
   exact hr.1
 | ⟨q,none⟩::rs,k,hr,0,x,y,h=>by simp at h
 | ⟨q,some (u,v)⟩::rs,k,hr,j+1,x,y,h=>by
   simp [actsOk] at hr
   have:=actsOk_spec hr.2 j x y (by simpa using h)
   rwa [show k+1+j=k+(j+1) by omega] at this
 | ⟨q,none⟩::rs,k,hr,j+1,x,y,h=>by
   simp [actsOk] at hr
   have:=actsOk_spec hr j x y (by simpa using h)
   rwa [show k+1+j=k+(j+1) by omega] at this
theorem pairs1_spec {B:Array Nat} {i:Nat}:∀ {rs:List Rec} {k:Nat},pairs1 B i k rs=true→∀ j p,(rs[j]?).bind (·.act)=some p→ordered B i (k+j)=true
 | [],_,_,j,p,h=>by simp at h
 | ⟨q,some u⟩::rs,k,hr,0,p,h=>by simp only [pairs1,Bool.and_eq_true] at hr; exact hr.1
 | ⟨q,none⟩::rs,k,hr,0,p,h=>by simp at h
 | ⟨q,some u⟩::rs,k,hr,j+1,p,h=>by
   simp only [pairs1,Bool.and_eq_true] at hr
   have:=pairs1_spec hr.2 j p (by simpa using h)
   rwa [show k+1+j=k+(j+1) by omega] at this
 | ⟨q,none⟩::rs,k,hr,j+1,p,h=>by
   simp only [pairs1] at hr
   have:=pairs1_spec hr j p (by simpa using h)
   rwa [show k+1+j=k+(j+1) by omega] at this
theorem pairsOk_spec {B:Array Nat}:∀ {rs:List Rec} {k:Nat},pairsOk B k rs=true→∀ i j p q,i < j→(rs[i]?).bind (·.act)=some p→(rs[j]?).bind (·.act)=some q→ordered B (k+i) (k+j)=true
 | [],_,_,i,j,p,q,_,h,_=>by simp at h
 | ⟨a,some u⟩::rs,k,hr,0,j+1,p,q,_,h,h'=>by
   simp only [pairsOk,Bool.and_eq_true] at hr
   have:=pairs1_spec hr.1 j q (by simpa using h')
   rwa [show k+1+j=k+(j+1) by omega] at this
 | ⟨a,none⟩::rs,k,hr,0,j+1,p,q,_,h,h'=>by simp at h
 | ⟨a,some u⟩::rs,k,hr,i+1,j+1,p,q,hij,h,h'=>by
   simp only [pairsOk,Bool.and_eq_true] at hr
   have:=pairsOk_spec hr.2 i j p q (by omega) (by simpa using h) (by simpa using h')
   rwa [show k+1+i=k+(i+1) by omega,show k+1+j=k+(j+1) by omega] at this
 | ⟨a,none⟩::rs,k,hr,i+1,j+1,p,q,hij,h,h'=>by
   simp only [pairsOk] at hr
   have:=pairsOk_spec hr i j p q (by omega) (by simpa using h) (by simpa using h')
   rwa [show k+1+i=k+(i+1) by omega,show k+1+j=k+(j+1) by omega] at this
 | _::_,_,_,_,0,_,_,hij,_,_=>by omega
theorem draw_sound (hT:T.Of P) {iv:Inv} (hiv:InvOk T P iv) (H:HR B0 nx0 w ρ h) {ops:Array Oper} (hd:drawOk ops=true) {id:Nat} {fr:List AV} {a:Act} (hfr:FrR w (ownOf ρ h) ρ M fr a.tmps.toList) {roc:Option Nat}
  {Q:Sl × Hp→Prop} (hs:(drawA T iv M ops fr h).post Q) {QQ:Exit→Act→World→Prop}
  (hn:∀ s' h' a' w' ρ',Q (s',h')→HR B0 nx0 w' ρ' h'→Ext w ρ h w' ρ' h'→FrR w' (ownOf ρ' h') ρ' M s'.fr a'.tmps.toList→a'.defers=a.defers→QQ .normal a' w') :
  (Code.region id ops true).wpIn (FW roc) 0 P QQ a w:=by
 unfold drawA at hs
 cases hho:hoist T ops.toList h with
 | none=>simp only [hho] at hs; exact hs.elim
 | some q =>
   obtain ⟨pres,h1⟩:=q
   simp only [hho] at hs
   cases hrd:runDraw T iv M ops ops.toList pres ⟨fr,[]⟩ h1 with
   | fail=>simp only [hrd] at hs; exact hs.elim
   | pick _ _=>simp only [hrd] at hs; exact hs.elim
   | ok r =>
     obtain ⟨s',h',recs⟩:=r
     simp only [hrd] at hs
     split at hs
     case isFalse=>exact hs.elim
     rename_i hrec
     simp only [Bool.and_eq_true] at hrec
     obtain ⟨hrec,hpr⟩:=hrec
     have hq:Q (s',h'):=hs
     let w1:World:={ w with drawn:=w.drawn+1 }
     obtain ⟨H1,E1⟩:=H.drew (w':=w1) rfl
     obtain ⟨H2,E2,A,hA⟩:=hoist_spec hT ops.toList h pres h1 hho H1
     obtain ⟨S,Hs,V,R,e1,e2,e3,e4,e5,e6⟩:=runDraw_trace _ _ _ _ _ _ _ hrd
     simp only [Array.length_toList] at e3 e4 e5
     have DS:=drawOk_spec hd
     have getl:∀ {i:Nat} {o:Oper},ops[i]? = some o→ops.toList[i]? = some o:=fun h=>by simpa using h
     have hC:Ctx T iv M ops S Hs V R A h:=by
      refine ⟨DS,?_,?_,fun i j hij hj hi' hj'=>?_,?_⟩
      ·intro i o hi
       obtain ⟨pre,f1,f2,f3,_⟩:=e6 i o (getl hi)
       refine ⟨pre,f2,f3,fun hal=>?_⟩
       obtain ⟨e,he⟩:∃ e,o.op = .alloc e:=by
        cases hop:o.op<;>rw [hop] at hal<;>simp [isAlloc] at hal
        exact ⟨_,rfl⟩
       have:=(hA i o e (getl hi) he).2.1
       rw [f1] at this; injection this
      ·intro i o e hi he
       obtain ⟨g1,_,g3,g4,g5,g6⟩:=hA i o e (getl hi) he
       rw [e2]
       exact ⟨g1,g3,g4,g5,fun i' o' e' hne hi' he'=>g6 i' o' e' hne (getl hi') he'⟩
      ·obtain ⟨oi,hoi⟩:=ops_get (ops:=ops) (i:=i) (by omega)
       obtain ⟨oj,hoj⟩:=ops_get hj
       obtain ⟨_,_,_,_,ri⟩:=e6 i oi (getl hoi)
       obtain ⟨_,_,_,_,rj⟩:=e6 j oj (getl hoj)
       obtain ⟨p,hp⟩:=hi'
       obtain ⟨q,hq'⟩:=hj'
       have h3:=pairsOk_spec hpr i j p q hij (by rw [ri]; exact hp) (by rw [rj]; exact hq')
       simp only [Nat.zero_add,ordered,Bool.or_eq_true] at h3
       rcases h3 with h3 | h3
       ·exact h3
       ·have:=bit_lt DS.lt i j h3; omega
      ·intro i j b x y hi hj hb hact
       obtain ⟨oi,hoi⟩:=ops_get hi
       obtain ⟨oj,hoj⟩:=ops_get hj
       obtain ⟨_,_,_,_,ri⟩:=e6 i oi (getl hoi)
       obtain ⟨_,_,_,_,rj⟩:=e6 j oj (getl hoj)
       have h3:=recsOk_spec hrec i b (by rw [ri]; exact hb)
       rw [Nat.zero_add] at h3
       have h4:=actsOk_spec h3 j x y (by rw [rj]; exact hact)
       rw [Nat.zero_add] at h4
       rcases h4 with h4 | h4
       ·exact .inl h4
       ·simp only [ordered,Bool.or_eq_true] at h4
        exact .inr h4
     have hJ:J B0 nx0 M ops S Hs R A w ρ h a (Array.replicate ops.size false) a w1 ρ 0:=by
      have hno:∀ i,¬ inL (Array.replicate ops.size false) i:=by
       intro i hl
       unfold inL at hl
       rcases Nat.lt_or_ge i ops.size with h | h<;>simp [h] at hl
      have hS:=SlR.of_frR (hfr.mono (E1.trans E2).stable (Rho.le_refl _))
      refine ⟨by simp,fun i y e hi=>absurd hi (hno i),Nat.zero_le _,fun i hi=>by omega,fun i _ _=>hno i,by rw [e2]; exact H2,by rw [e2]; exact E1.trans E2,?_,Nat.le_refl _,?_,?_,rfl⟩
      ·intro i o e hi he _
       refine ⟨?_,rfl⟩
       have:=(hA i o e (getl hi) he).2.2.1
       cases hr:ρ (A i) with
       | none=>rfl
       | some x=>have:=H.dom _ _ hr; omega
      ·rw [e1]; exact hS.1
      ·intro t
       refine ⟨0,Nat.zero_le _,fun q hq=>by omega,fun q _ _=>hno q,?_⟩
       rw [e1,e2]; exact hS.2 t
     refine wpIn_region_draw fun t=>?_
     have fin:∀ md t',wpOpsIn (FW roc) 0 P ops QQ (Region.linearise md ops t') a w1:=by
      intro md t'
      refine wpAnyIn_sound ops.size t' _ a w1 (J.all hT hiv hC (md:=md) (fun a' w' ρ' g1 g2 g3 g4=>?_) ops.size _ a w1 ρ 0 hJ ?_)
      ·rw [e4] at g1 g2 g3
       rw [e3] at g3
       exact hn s' h' a' w' ρ' hq g1 g2 g3.frR g4
      ·simp
     unfold Region.schedule
     split
     ·exact fin _ _
     ·exact fin _ _
end
end Go.Proofs.YtdjngcfnlfgjkaaGreatDoor.AM
