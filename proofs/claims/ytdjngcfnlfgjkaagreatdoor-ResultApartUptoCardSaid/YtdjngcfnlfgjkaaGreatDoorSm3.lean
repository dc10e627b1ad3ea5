/-
  The symbolic machine's soundness (second part).
-/
import Derived.Test.YtdjngcfnlfgjkaaGreatDoorSm2
import Derived.Laws.StructEq
set_option linter.unusedVariables false
set_option linter.unusedSimpArgs false
set_option linter.unusedSectionVars false
namespace Go.Proofs.YtdjngcfnlfgjkaaGreatDoor.AM
structure IsV (Ω:Om) (V:X→AV):Prop where
 p:∀ o xs,V (.p o xs)=o.sem Ω (xs.map V)
 b:∀ c,V (.b c) = .bool c
 i:∀ k n,V (.i k n) = .int k n
 s:∀ c,V (.s c) = .str c
 nils:V .nils = .nils
 sl:∀ k rows,V (.sl k rows) = .sl k (rows.map fun r=>r.map V)
 agg:∀ xs,V (.agg xs) = .agg (xs.map V)
theorem isV_den (Ω:Om) (ρ:List AV):IsV Ω (X.den Ω ρ) where
 p o xs:=by simp only [X.den,X.dens_map]
 b _:=rfl
 i _ _:=rfl
 s _:=rfl
 nils:=rfl
 sl k rows:=by simp only [X.den,X.denss_map]
 agg xs:=by simp only [X.den,X.dens_map]
section
variable {Ω:Om} {V:X→AV} {σ:Nat→Nat} {Ls:List (Nat × Nat)} {st st1:SSt} {h:Hp} {T:Tab} {n:Nat}
theorem Sim.fact (S:Sim V σ Ls st h) {x:X} {b:Bool} (hx:(V x).bB=b):Sim V σ Ls (st.fact x b) h :=
 ⟨S.core,S.okb,S.oks,S.dj,S.segS,S.segA,S.lk,fun e he=>by
  cases he with
  | head=>exact hx
  | tail _ he=>exact S.fx e he,S.ids,S.old⟩
theorem factOf_ok (S:∀ e∈st.fx,(V e.1).bB=e.2) {x:X} {b:Bool} (hf:factOf st.fx x=some b):(V x).bB=b:=by
 have:∀ {l:List (X × Bool)},(∀ e∈l,(V e.1).bB=e.2)→factOf l x=some b→(V x).bB=b:=by
  intro l
  induction l with
  | nil=>intro _ h; cases h
  | cons e l ih =>
    obtain ⟨y,c⟩:=e
    intro hl h
    simp only [factOf] at h
    split at h
    ·rename_i hy
     injection h with h; subst h
     rw [← X.eqb_eq hy]; exact hl _ (.head _)
    ·exact ih (fun e he=>hl e (.tail _ he)) h
 exact this S hf
theorem sel_need {α:Type} {p:X} {t:Te α} {r:α}:(Te.need p t).sel V=some r↔(V p).bB=true∧t.sel V=some r:=by
 simp only [Te.sel]
 cases (V p).bB<;>simp
theorem sel_ite {α:Type} {p:X} {a b:Te α} {r:α}:(Te.ite p a b).sel V=some r↔((V p).bB=true∧a.sel V=some r)∨((V p).bB=false∧b.sel V=some r):=by
 simp only [Te.sel]
 cases (V p).bB<;>simp
theorem sel_bind {α β:Type} {t:Te α} {f:α→Te β} {r:β}:(t.bind f).sel V=some r↔∃ a,t.sel V=some a∧(f a).sel V=some r:=by
 induction t with
 | ok a=>simp [Te.bind,Te.sel]
 | fail w=>simp [Te.bind,Te.sel]
 | need p t ih=>simp only [Te.bind,sel_need,ih]; constructor
                ·rintro ⟨h1,a,h2,h3⟩; exact ⟨a,⟨h1,h2⟩,h3⟩
                ·rintro ⟨a,⟨h1,h2⟩,h3⟩; exact ⟨h1,a,h2,h3⟩
 | ite p a b iha ihb =>
   simp only [Te.bind,sel_ite,iha,ihb]
   constructor
   ·rintro (⟨h1,a,h2,h3⟩ | ⟨h1,a,h2,h3⟩)
    ·exact ⟨a,.inl ⟨h1,h2⟩,h3⟩
    ·exact ⟨a,.inr ⟨h1,h2⟩,h3⟩
   ·rintro ⟨a,⟨h1,h2⟩ | ⟨h1,h2⟩,h3⟩
    ·exact .inl ⟨h1,a,h2,h3⟩
    ·exact .inr ⟨h1,a,h2,h3⟩
theorem needT_den (hV:IsV Ω V) (S:Sim V σ Ls st h) {α:Type} {p:X} {k:SSt→Te α} {r:α} (hs:(needT p st k).sel V=some r) :
  ∃ st',Sim V σ Ls st' h∧st'.hp=st.hp∧st'.sb=st.sb∧(V p).bB=true∧(k st').sel V=some r:=by
 unfold needT at hs
 split at hs
 ·exact ⟨st,S,rfl,rfl,by rw [hV.b]; rfl,hs⟩
 ·split at hs
  ·rename_i hf
   exact ⟨st,S,rfl,rfl,factOf_ok S.fx hf,hs⟩
  ·rw [sel_need] at hs
   exact ⟨st.fact p true,S.fact hs.1,rfl,rfl,hs.1,hs.2⟩
theorem asI_den (hV:IsV Ω V) {v:AV} {k:IntKind} {e:X} (h:asI v=some (k,e)) (ho:v.okv V n):v.den V σ = .int k (V e).nI∧V e = .int k (V e).nI:=by
 unfold asI at h
 split at h
 ·injection h with h; obtain ⟨rfl,rfl⟩:=Prod.mk.inj h
  rw [hV.i]; exact ⟨rfl,rfl⟩
 ·injection h with h; obtain ⟨rfl,rfl⟩:=Prod.mk.inj h
  have:=ok_int ho
  exact ⟨this,this⟩
 ·cases h
theorem asB_den (hV:IsV Ω V) {v:AV} {e:X} (h:asB v=some e) (ho:v.okv V n):v.den V σ = .bool (V e).bB∧V e = .bool (V e).bB:=by
 unfold asB at h
 split at h
 ·injection h with h; subst h; rw [hV.b]; exact ⟨rfl,rfl⟩
 ·injection h with h; subst h
  have:=ok_bool ho
  exact ⟨this,this⟩
 ·cases h
theorem asS_den (hV:IsV Ω V) {v:AV} {e:X} (h:asS v=some e) (ho:v.okv V n):v.den V σ = .str (V e).sS∧V e = .str (V e).sS:=by
 unfold asS at h
 split at h
 ·injection h with h; subst h; rw [hV.s]; exact ⟨rfl,rfl⟩
 ·injection h with h; subst h
  have:=ok_str ho
  exact ⟨this,this⟩
 ·cases h
theorem asXs_cons {s:Sh} {ss:List Sh} {a:AV} {as:List AV} {r:List X} (h:asXs (s::ss) (a::as)=some r):∃ x xs,r=x::xs∧asX s a=some x∧asXs ss as=some xs:=by
 simp only [asXs] at h
 split at h
 ·rename_i x xs h1 h2
  injection h with h
  exact ⟨x,xs,h.symm,h1,h2⟩
 ·cases h
mutual
theorem asXc_den (hV:IsV Ω V):∀ (s:Sh) (a:AV) (e:X),asXc s a=some e→a.okv V n→a.den V σ=V e∧s.ok (V e)=true∧s.data=true
 | .bool,a,e,h,_=>by
   cases a<;>simp [asXc] at h; subst h; rw [hV.b]; exact ⟨rfl,rfl,rfl⟩
 | .int k,a,e,h,_=>by
   cases a<;>simp [asXc] at h
   obtain ⟨rfl,rfl⟩:=h; rw [hV.i]; exact ⟨rfl,by simp [Sh.ok],rfl⟩
 | .str,a,e,h,_=>by
   cases a<;>simp [asXc] at h; subst h; rw [hV.s]; exact ⟨rfl,rfl,rfl⟩
 | .sl cs,a,e,h,ho=>by
   cases a<;>simp only [asXc] at h<;>try (cases h; done)
   ·injection h with h; subst h; rw [hV.nils]; exact ⟨rfl,rfl,rfl⟩
   ·rename_i k rows
    split at h
    ·rename_i hk
     split at h
     ·rename_i r hr
      injection h with h; subst h
      rw [hV.sl]
      simp only [AV.okv,okvss_iff] at ho
      have key:∀ {rows:List (List AV)} {r:List (List X)},mapO (asXs cs) rows=some r→(∀ q∈rows,∀ x∈q,x.okv V n)→r.map (fun r=>r.map V)=rows.map (fun r=>r.map (AV.den V σ))∧∀ q∈r,Sh.oks cs (q.map V)=true:=by
       intro rows
       induction rows with
       | nil=>intro r hr _; injection hr with hr; subst hr; exact ⟨rfl,fun _ h=>by cases h⟩
       | cons q rows ih =>
         intro r hr hq
         simp only [mapO] at hr
         split at hr
         ·rename_i b bs h1 h2
          injection hr with hr; subst hr
          obtain ⟨a1,a2⟩:=asXs_den hV cs q b h1 (hq q (.head _))
          obtain ⟨b1,b2⟩:=ih h2 (fun q hq'=>hq q (.tail _ hq'))
          refine ⟨by simp [a1,b1],fun x hx=>?_⟩
          cases hx with
          | head=>exact a2.1
          | tail _ hx=>exact b2 x hx
         ·cases hr
      obtain ⟨k1,k2⟩:=key hr ho
      refine ⟨by simp only [AV.den,AV.denss_map,k1],?_,rfl⟩
      subst hk
      simp only [Sh.ok,List.all_map,Bool.and_eq_true,beq_iff_eq,List.all_eq_true,Function.comp,true_and]
      exact fun q hq=>k2 q hq
     ·cases h
    ·cases h
 | .im _ _ _,a,e,h,_=>by simp [asXc] at h
 | .own _ _,a,e,h,_=>by simp [asXc] at h
 | .optr _ _ _,a,e,h,_=>by simp [asXc] at h
 | .mown _ _ _ _,a,e,h,_=>by simp [asXc] at h
 | .sown _,a,e,h,_=>by simp [asXc] at h
theorem asXs_den (hV:IsV Ω V):∀ (ss:List Sh) (as:List AV) (es:List X),asXs ss as=some es→(∀ x∈as,x.okv V n) →
  es.map V=as.map (AV.den V σ)∧Sh.oks ss (es.map V)=true∧(∀ s∈ss,s.data=true)
 | [],as,es,h,_=>by
   cases as<;>simp [asXs] at h
   subst h; exact ⟨rfl,rfl,fun _ h=>by cases h⟩
 | s::ss,[],es,h,_=>by simp [asXs] at h
 | s::ss,a::as,es,h,ho=>by
   obtain ⟨x,xs,rfl,h1,h2⟩:=asXs_cons h
   obtain ⟨b1,b2,b3⟩:=asXs_den hV ss as xs h2 (fun y hy=>ho y (.tail _ hy))
   have ha:=ho a (.head _)
   have key:a.den V σ=V x∧s.ok (V x)=true∧s.data=true:=by
    unfold asX at h1
    split at h1
    ·rename_i s' e
     split at h1
     ·rename_i hs
      injection h1 with h1; subst h1
      simp only [Bool.and_eq_true] at hs
      have:=Sh.eqb_eq hs.1; subst this
      cases s<;>simp [Sh.data] at hs<;>exact ⟨rfl,ha,rfl⟩
     ·cases h1
    ·exact asXc_den hV s a x h1 ha
   refine ⟨by simp [key.1,b1],by simp [Sh.oks,key.2.1,b2],fun y hy=>?_⟩
   cases hy with
   | head=>exact key.2.2
   | tail _ hy=>exact b3 y hy
end
theorem asX_den (hV:IsV Ω V) {s:Sh} {a:AV} {x:X} (h1:asX s a=some x) (ha:a.okv V n):a.den V σ=V x∧s.ok (V x)=true∧s.data=true:=by
 unfold asX at h1
 split at h1
 ·rename_i s' e
  split at h1
  ·rename_i hs
   injection h1 with h1; subst h1
   simp only [Bool.and_eq_true] at hs
   have:=Sh.eqb_eq hs.1; subst this
   cases s<;>simp [Sh.data] at hs<;>exact ⟨rfl,ha,rfl⟩
  ·cases h1
 ·exact asXc_den hV s a x h1 ha
structure PR (V:X→AV) (σ:Nat→Nat) (Ls:List (Nat × Nat)) (st st1:SSt) (h:Hp) (o:Option AV) (v:AV):Prop where
 eq:o=some (v.den V σ)
 ok:v.okv V st.hp.nx
 sim:Sim V σ Ls st1 h
 hp:st1.hp=st.hp
theorem PR.res {o:Option AV} {v:AV} (p:PR V σ Ls st st1 h o v):∃ h1 σ1,withH h o=some (v.den V σ1,h1)∧Res V σ σ1 Ls st st1 v h1 :=
 ⟨h,σ,by rw [p.eq]; rfl,p.sim,by rw [p.hp]; exact p.ok,Agr.refl _ _,by rw [p.hp]; exact Nat.le_refl _⟩
theorem V_bin (hV:IsV Ω V) (op:BinOp) (k:IntKind) (a b:X):V (.p (.bin op k) [a,b])=getJ (intOpA op k (V a).nI (V b).nI):=by rw [hV.p]; rfl
theorem V_sbin (hV:IsV Ω V) (op:BinOp) (a b:X):V (.p (.sbin op) [a,b])=getJ (strOpA op (V a).sS (V b).sS):=by rw [hV.p]; rfl
theorem V_ite (hV:IsV Ω V) (c a b:X):V (.p .ite [c,a,b])=match (V c).bB with | true=>V a | false=>V b:=by rw [hV.p]; rfl
theorem V_not (hV:IsV Ω V) (a:X):V (.p .not [a]) = .bool (!(V a).bB):=by rw [hV.p]; rfl
theorem V_beq (hV:IsV Ω V) (a b:X):V (.p .beq [a,b]) = .bool ((V a).bB == (V b).bB):=by rw [hV.p]; rfl
theorem V_len (hV:IsV Ω V) (a:X):V (xLen a) = .int .i64 (V a).lenN:=by rw [xLen,hV.p]; rfl
theorem V_isNil (hV:IsV Ω V) (a:X):V (.p .isNil [a]) = .bool (V a).nilB:=by rw [hV.p]; rfl
theorem V_cell (hV:IsV Ω V) (o:Nat) (a i:X):V (.p (.cell o) [a,i])=getJ (nth (getL (nth (V a).rowsL (V i).nI.toNat)) o):=by rw [hV.p]; rfl
theorem V_fld (hV:IsV Ω V) (o:Nat) (a:X):V (.p (.fld o) [a])=getJ (nth (V a).aggL o):=by rw [hV.p]; rfl
theorem V_proj (hV:IsV Ω V) (o:Nat) (a:X):V (.p (.proj o) [a])=getJ (nth (V a).tupL o):=by rw [hV.p]; rfl
theorem V_xAnd (hV:IsV Ω V) {a b:X} {A B:Bool} (ha:V a = .bool A) (hb:V b = .bool B):V (xAnd a b) = .bool (A&&B):=by
 unfold xAnd
 split
 ·rw [hV.b] at ha; injection ha with ha; subst ha; simpa using hb
 ·rw [hV.b] at ha; injection ha with ha; subst ha; simp [hV.b]
 ·split
  ·rw [hV.b] at hb; injection hb with hb; subst hb; simpa using ha
  ·rw [V_ite hV,ha,hb,hV.b]; cases A<;>rfl
theorem V_xLeK (hV:IsV Ω V) {k:IntKind} {a b:X} (h:(V (xLeK k a b)).bB=true):(V a).nI≤(V b).nI:=by
 unfold xLeK at h
 split at h
 ·rw [hV.b] at h
  simp only [AV.bB,decide_eq_true_eq] at h
  rw [hV.i,hV.i]; exact h
 ·split at h
  ·rename_i he; rw [X.eqb_eq he]; exact Int.le_refl _
  ·rw [V_bin hV] at h; simpa [intOpA,getJ,AV.bB] using h
theorem xLeK_bool (hV:IsV Ω V) (k:IntKind) (a b:X):∃ c,V (xLeK k a b) = .bool c:=by
 unfold xLeK
 split
 ·exact ⟨_,hV.b _⟩
 ·split
  ·exact ⟨_,hV.b _⟩
  ·rw [V_bin hV]; exact ⟨_,rfl⟩
theorem V_xIn (hV:IsV Ω V) {k:IntKind} {i e:X} (h:(V (xIn k i (xLen e))).bB=true):0≤(V i).nI∧(V i).nI < (V e).lenN:=by
 unfold xIn at h
 obtain ⟨c,hc⟩:=xLeK_bool hV k (.i k 0) i
 have h2:V (.p (.bin .lss k) [i,xLen e]) = .bool (decide ((V i).nI < (V e).lenN)):=by rw [V_bin hV,V_len hV]; rfl
 rw [V_xAnd hV hc h2] at h
 simp only [AV.bB,Bool.and_eq_true,decide_eq_true_eq] at h
 have h3:=V_xLeK hV (k:=k) (a:=.i k 0) (b:=i) (by rw [hc]; exact h.1)
 rw [hV.i] at h3
 exact ⟨h3,h.2⟩
theorem binS_den (hV:IsV Ω V) (S:Sim V σ Ls st h) {op:BinOp} {t:TypeId} {x y v:AV} (hx:x.okv V st.hp.nx) (hy:y.okv V st.hp.nx)
  (heq:(∀ j a j' b,asI x=some (j,a)→asI y=some (j',b)→False)→(∀ a b,asS x=some a→asS y=some b→False)→∀ {e:X},eqTopS T t x y=some e→∃ c,V e = .bool c∧eqTop T t (x.den V σ) (y.den V σ)=some c∧(∀ k a,x.den V σ ≠ .int k a)∧(∀ a,x.den V σ ≠ .str a))
  (hs:(binS T st op t x y).sel V=some (v,st1)):PR V σ Ls st st1 h (binA T op t (x.den V σ) (y.den V σ)) v:=by
 unfold binS at hs
 split at hs
 ·rename_i k a k' b h1 h2
  obtain ⟨a1,a2⟩:=asI_den (σ:=σ) hV h1 hx
  obtain ⟨b1,b2⟩:=asI_den (σ:=σ) hV h2 hy
  split at hs
  ·rename_i hk
   have fin:∀ {s:Sh},s.data=true→(∃ r,intOpA op k (V a).nI (V b).nI=some r∧s.ok r=true)→PR V σ Ls st st h (binA T op t (x.den V σ) (y.den V σ)) (.sym s (.p (.bin op k) [a,b])):=by
    intro s hd ⟨r,hr,ho⟩
    have e:V (.p (.bin op k) [a,b])=r:=by rw [V_bin hV,hr]; rfl
    refine ⟨?_,?_,S,rfl⟩
    ·rw [a1,b1]
     simp only [binA,if_pos hk,hr,AV.den]
     cases s<;>simp [Sh.data] at hd<;>simp only [symD,e]
    ·cases s<;>simp [Sh.data] at hd<;>simp only [AV.okv,symOk,e,ho]
   cases op<;>simp only at hs
   case quo | rem =>
    obtain ⟨st',S',e1,e2,e3,e4⟩:=needT_den hV S hs
    injection e4 with e4; obtain ⟨rfl,rfl⟩:=Prod.mk.inj e4
    rw [V_bin hV,hV.i] at e3
    have e3:((V b).nI != 0)=true:=e3
    simp only [bne_iff_ne,ne_eq] at e3
    obtain ⟨p1,p2,_,_⟩:=fin (s:=.int k) rfl ⟨_,(by simp only [intOpA]; exact if_neg e3),by simp [Sh.ok]⟩
    exact ⟨p1,p2,S',e1⟩
   case shl | shr =>
    obtain ⟨st',S',e1,e2,e3,e4⟩:=needT_den hV S hs
    injection e4 with e4; obtain ⟨rfl,rfl⟩:=Prod.mk.inj e4
    rw [V_bin hV,hV.i] at e3
    have e3:decide ((V b).nI ≥ 0)=true:=e3
    simp only [decide_eq_true_eq,ge_iff_le] at e3
    obtain ⟨p1,p2,_,_⟩:=fin (s:=.int k) rfl ⟨_,(by simp only [intOpA]; exact if_neg (show ¬ (V b).nI < 0 by omega)),by simp [Sh.ok]⟩
    exact ⟨p1,p2,S',e1⟩
   all_goals
    injection hs with hs; obtain ⟨rfl,rfl⟩:=Prod.mk.inj hs
    exact fin (by simp [cmpOp,Sh.data]) ⟨_,rfl,by simp [cmpOp,Sh.ok]⟩
  ·cases hs
 ·split at hs
  ·rename_i hni _ _ a b h1 h2
   obtain ⟨a1,a2⟩:=asS_den (σ:=σ) hV h1 hx
   obtain ⟨b1,b2⟩:=asS_den (σ:=σ) hV h2 hy
   have fin:∀ {s:Sh},s.data=true→(∃ r,strOpA op (V a).sS (V b).sS=some r∧s.ok r=true)→PR V σ Ls st st h (binA T op t (x.den V σ) (y.den V σ)) (.sym s (.p (.sbin op) [a,b])):=by
    intro s hd ⟨r,hr,ho⟩
    have e:V (.p (.sbin op) [a,b])=r:=by rw [V_sbin hV,hr]; rfl
    refine ⟨?_,?_,S,rfl⟩
    ·rw [a1,b1]
     simp only [binA,hr,AV.den]
     cases s<;>simp [Sh.data] at hd<;>simp only [symD,e]
    ·cases s<;>simp [Sh.data] at hd<;>simp only [AV.okv,symOk,e,ho]
   split at hs
   ·obtain ⟨st',S',e1,e2,e3,e4⟩:=needT_den hV S hs
    injection e4 with e4; obtain ⟨rfl,rfl⟩:=Prod.mk.inj e4
    have e3:(V (.p .catOk [a,b])).bB=true:=e3
    rw [hV.p] at e3
    simp only [List.map,Pr.sem,AV.bB,decide_eq_true_eq] at e3
    obtain ⟨p1,p2,_,_⟩:=fin (s:=.str) rfl ⟨_,(by simp only [strOpA]; exact if_pos e3),rfl⟩
    exact ⟨p1,p2,S',e1⟩
   ·split at hs
    ·rename_i hc
     injection hs with hs; obtain ⟨rfl,rfl⟩:=Prod.mk.inj hs
     refine fin (s:=.bool) rfl ?_
     cases op<;>simp [cmpOp] at hc<;>exact ⟨_,rfl,rfl⟩
    ·cases hs
  ·rename_i hni _ _ hns
   split at hs
   ·split at hs
    ·rename_i e he
     injection hs with hs; obtain ⟨rfl,rfl⟩:=Prod.mk.inj hs
     obtain ⟨c,c1,c2,c3,c4⟩:=heq hni hns he
     refine ⟨?_,?_,S,rfl⟩
     ·unfold binA
      split
      ·exact (c3 _ _ ‹_›).elim
      ·exact (c4 _ ‹_›).elim
      ·simp only [c2,Option.map_some,AV.den,symD,c1]
     ·simp only [AV.okv,symOk,c1,Sh.ok]
    ·cases hs
   ·split at hs
    ·rename_i e he
     injection hs with hs; obtain ⟨rfl,rfl⟩:=Prod.mk.inj hs
     obtain ⟨c,c1,c2,c3,c4⟩:=heq hni hns he
     have e':V (.p .not [e]) = .bool (!c):=by rw [V_not hV,c1]; rfl
     refine ⟨?_,?_,S,rfl⟩
     ·unfold binA
      split
      ·exact (c3 _ _ ‹_›).elim
      ·exact (c4 _ ‹_›).elim
      ·simp only [c2,Option.map_some,AV.den,symD,e']
     ·simp only [AV.okv,symOk,e',Sh.ok]
    ·cases hs
   ·cases hs
end
section
variable {Ω:Om} {V:X→AV} {σ:Nat→Nat} {Ls:List (Nat × Nat)} {st st1:SSt} {h:Hp} {T:Tab} {n:Nat}
mutual
theorem eqS_den (hV:IsV Ω V):∀ (d:Nat) (t:TypeId) (x y:AV) (e:X),eqS T d t x y=some e→x.okv V n→y.okv V n →
  ∃ c,V e = .bool c∧(∀ D,d≤D→eqA T D t (x.den V σ) (y.den V σ)=some c)
 | 0,_,_,_,_,h,_,_=>by cases h
 | d+1,t,x,y,e,h,hx,hy=>by
   have lift:∀ {c:Bool},(∀ D',d≤D'→eqA T (D'+1) t (x.den V σ) (y.den V σ)=some c)→∀ D,d+1≤D→eqA T D t (x.den V σ) (y.den V σ)=some c:=by
    intro c hc D hD
    cases D with
    | zero=>omega
    | succ D=>exact hc D (by omega)
   unfold eqS at h
   split at h
   ·rename_i ht
    split at h
    ·rename_i a b h1 h2
     injection h with h; subst h
     obtain ⟨a1,_⟩:=asB_den (σ:=σ) hV h1 hx
     obtain ⟨b1,_⟩:=asB_den (σ:=σ) hV h2 hy
     exact ⟨_,V_beq hV a b,lift fun D _=>by simp only [eqA,ht,a1,b1,eqBool]⟩
    ·cases h
   ·rename_i k ht
    split at h
    ·rename_i j a j' b h1 h2
     split at h
     ·rename_i hk
      injection h with h; subst h
      obtain ⟨a1,_⟩:=asI_den (σ:=σ) hV h1 hx
      obtain ⟨b1,_⟩:=asI_den (σ:=σ) hV h2 hy
      refine ⟨(V a).nI == (V b).nI,by rw [V_bin hV]; rfl,lift fun D _=>?_⟩
      rw [a1,b1,hk.1,hk.2]
      simp only [eqA,ht,eqInt,if_true]
     ·cases h
    ·cases h
   ·rename_i ht
    split at h
    ·rename_i a b h1 h2
     injection h with h; subst h
     obtain ⟨a1,_⟩:=asS_den (σ:=σ) hV h1 hx
     obtain ⟨b1,_⟩:=asS_den (σ:=σ) hV h2 hy
     refine ⟨(V a).sS == (V b).sS,by rw [V_sbin hV]; simp only [strOpA,getJ,beq_toListBytes],lift fun D _=>by simp only [eqA,ht,a1,b1,eqStr]⟩
    ·cases h
   ·rename_i fs ht
    split at h
    ·rename_i a b
     simp only [AV.okv,okvs_iff] at hx hy
     split at h
     ·rename_i te hte
      split at h
      ·cases h
      ·rename_i hh
       obtain ⟨c,c1,c2⟩:=eqFieldsS_den hV d a b fs.toList e h hx hy
       refine ⟨c,c1,lift fun D hD=>?_⟩
       simp only [eqA,ht,AV.den,AV.dens_map,hte,hh,if_false]
       exact c2 D hD
     ·cases h
    ·cases h
   ·rename_i el ht
    have go:∀ {c:Bool},eqNilS (x.den V σ) (y.den V σ)=some c→∀ D,d+1≤D→eqA T D t (x.den V σ) (y.den V σ)=some c:=fun hc=>lift fun D _=>by simp only [eqA,ht,hc]
    have slc:∀ {cs:List Sh} {e:X},(AV.sym (.sl cs) e).okv V n→V (.p .isNil [e]) = .bool (V e).nilB∧((V e).nilB=true∧(AV.sym (.sl cs) e).den V σ = .nils∨(V e).nilB=false∧∃ k r,(AV.sym (.sl cs) e).den V σ = .sl k r):=by
     intro cs e ho
     refine ⟨V_isNil hV e,?_⟩
     simp only [AV.den,symD]
     rcases ok_sl ho with h | ⟨r,h,_⟩
     ·exact .inl ⟨by rw [h]; rfl,h⟩
     ·exact .inr ⟨by rw [h]; rfl,_,_,h⟩
    have own:∀ {t0:Nat} {cs:List Sh} {e:X},(AV.sym (.own t0 cs) e).okv V n→V (.p .isNil [e]) = .bool (V e).nilB∧((V e).nilB=true∧(AV.sym (.own t0 cs) e).den V σ = .nils∨(V e).nilB=false∧∃ b o l,(AV.sym (.own t0 cs) e).den V σ = .ms b o l):=by
     intro t0 cs e ho
     refine ⟨V_isNil hV e,?_⟩
     simp only [AV.den,symD]
     rcases ok_sl ho.2 with h | ⟨r,h,_⟩
     ·exact .inl ⟨by rw [h]; rfl,by rw [h]⟩
     ·exact .inr ⟨by rw [h]; rfl,by rw [h]; exact ⟨_,_,_,rfl⟩⟩
    split at h
    ·injection h with h; subst h
     obtain ⟨s1,s2⟩:=slc hy
     refine ⟨_,s1,go ?_⟩
     rcases s2 with ⟨s3,s4⟩ | ⟨s3,k,r,s4⟩<;>rw [s4,s3]<;>rfl
    ·injection h with h; subst h
     obtain ⟨s1,s2⟩:=slc hx
     refine ⟨_,s1,go ?_⟩
     rcases s2 with ⟨s3,s4⟩ | ⟨s3,k,r,s4⟩<;>rw [s4,s3]<;>rfl
    ·injection h with h; subst h
     obtain ⟨s1,s2⟩:=own hy
     refine ⟨_,s1,go ?_⟩
     rcases s2 with ⟨s3,s4⟩ | ⟨s3,b,o,l,s4⟩<;>rw [s4,s3]<;>rfl
    ·injection h with h; subst h
     obtain ⟨s1,s2⟩:=own hx
     refine ⟨_,s1,go ?_⟩
     rcases s2 with ⟨s3,s4⟩ | ⟨s3,b,o,l,s4⟩<;>rw [s4,s3]<;>rfl
    ·cases hc:eqNilS x y with
     | none=>rw [hc] at h; cases h
     | some c =>
       rw [hc] at h; injection h with h; subst h
       exact ⟨c,hV.b c,go (eqNilS_den hc)⟩
   ·rename_i el ht
    cases hc:eqNilP x y with
    | none=>rw [hc] at h; cases h
    | some c =>
      rw [hc] at h; injection h with h; subst h
      exact ⟨c,hV.b c,lift fun D _=>by simp only [eqA,ht,eqNilP_den hc]⟩
   ·rename_i ht
    cases hc:eqNilM x y with
    | none=>rw [hc] at h; cases h
    | some c =>
      rw [hc] at h; injection h with h; subst h
      exact ⟨c,hV.b c,lift fun D _=>by simp only [eqA,ht,eqNilM_den hc]⟩
   ·rename_i ht
    cases hc:eqNilF x y with
    | none=>rw [hc] at h; cases h
    | some c =>
      rw [hc] at h; injection h with h; subst h
      exact ⟨c,hV.b c,lift fun D _=>by simp only [eqA,ht,eqNilF_den hc]⟩
   ·cases h
theorem eqFieldsS_den (hV:IsV Ω V):∀ (d:Nat) (a b:List AV) (fs:List Field) (e:X),eqFieldsS T d a b fs=some e→(∀ x∈a,x.okv V n)→(∀ x∈b,x.okv V n) →
  ∃ c,V e = .bool c∧(∀ D,d≤D→eqFieldsA T (eqA T D) (a.map (AV.den V σ)) (b.map (AV.den V σ)) fs=some c)
 | 0,_,_,_,_,h,_,_=>by cases h
 | d+1,a,b,[],e,h,_,_=>by
   injection h with h; subst h
   exact ⟨true,hV.b true,fun _ _=>rfl⟩
 | d+1,a,b,f::fs,e,h,ha,hb=>by
   unfold eqFieldsS at h
   split at h
   ·cases h
   ·rename_i hf
    split at h
    ·rename_i u v h1 h2
     obtain ⟨a1,a2⟩:=partA_den (σ:=σ) ha h1
     obtain ⟨b1,b2⟩:=partA_den (σ:=σ) hb h2
     split at h
     ·rename_i p q h3 h4
      injection h with h; subst h
      obtain ⟨c,c1,c2⟩:=eqS_den hV d f.type u v p h3 a2 b2
      obtain ⟨c',c3,c4⟩:=eqFieldsS_den hV d a b fs q h4 ha hb
      refine ⟨c&&c',V_xAnd hV c1 c3,fun D hD=>?_⟩
      simp only [eqFieldsA,hf,if_false,a1,b1,c2 D (by omega)]
      cases c with
      | true=>simpa using c4 D (by omega)
      | false=>rfl
     ·cases h
    ·cases h
end
theorem asI_of_den (hV:IsV Ω V) {x:AV} (ho:x.okv V n) {k:IntKind} {a:Int} (h:x.den V σ = .int k a):∃ e,asI x=some (k,e):=by
 cases x<;>simp only [AV.den] at h<;>try (cases h; done)
 ·injection h with h1 h2; subst h1; exact ⟨_,rfl⟩
 ·rename_i s e
  cases s<;>simp only [symD] at h<;>simp only [AV.okv,symOk] at ho<;>try (cases h; done)
  ·rw [h] at ho; simp [Sh.ok] at ho
  ·rw [h] at ho; simp [Sh.ok] at ho; subst ho; exact ⟨_,rfl⟩
  ·rw [h] at ho; simp [Sh.ok] at ho
  ·rw [h] at ho; simp [Sh.ok] at ho
  ·rw [h] at ho; simp [Sh.ok] at ho
  ·split at h<;>cases h
theorem asS_of_den (hV:IsV Ω V) {x:AV} (ho:x.okv V n) {a:ByteArray} (h:x.den V σ = .str a):∃ e,asS x=some e:=by
 cases x<;>simp only [AV.den] at h<;>try (cases h; done)
 ·exact ⟨_,rfl⟩
 ·rename_i s e
  cases s<;>simp only [symD] at h<;>simp only [AV.okv,symOk] at ho<;>try (cases h; done)
  ·rw [h] at ho; simp [Sh.ok] at ho
  ·rw [h] at ho; simp [Sh.ok] at ho
  ·exact ⟨_,rfl⟩
  ·rw [h] at ho; simp [Sh.ok] at ho
  ·rw [h] at ho; simp [Sh.ok] at ho
  ·split at h<;>cases h
theorem eqTopS_den (hV:IsV Ω V) {t:TypeId} {x y:AV} {e:X} (hx:x.okv V n) (hy:y.okv V n) (hni:∀ j a j' b,asI x=some (j,a)→asI y=some (j',b)→False) (hns:∀ a b,asS x=some a→asS y=some b→False)
  (h:eqTopS T t x y=some e):∃ c,V e = .bool c∧eqTop T t (x.den V σ) (y.den V σ)=some c∧(∀ k a,x.den V σ ≠ .int k a)∧(∀ a,x.den V σ ≠ .str a):=by
 have hkey:∃ d,eqS T (d+1) t x y=some e∧d+1≤10000∧((∃ l,x = .agg l)→∃ te,T.ty.get t=some te∧te.eqg=false):=by
  unfold eqTopS at h
  split at h
  ·split at h
   ·rename_i te hte
    split at h
    ·cases h
    ·rename_i hg; exact ⟨59,h,by omega,fun _=>⟨te,hte,by simpa using hg⟩⟩
   ·cases h
  ·rename_i hn
   exact ⟨59,h,by omega,fun ⟨l,hl⟩=>absurd hl (hn l)⟩
 obtain ⟨d,h1,hd,h2⟩:=hkey
 obtain ⟨c,c1,c2⟩:=eqS_den (σ:=σ) hV _ _ _ _ _ h1 hx hy
 refine ⟨c,c1,eqTop_of (c2 10000 hd) fun ⟨l,hl⟩=>h2 (den_agg hx hl),?_,?_⟩
 ·intro k a hk
  obtain ⟨e1,he1⟩:=asI_of_den hV hx hk
  have h3:=c2 _ (Nat.le_refl _)
  unfold eqS at h1
  split at h1
  ·rename_i ht; simp only [eqA,ht,hk] at h3; cases h3
  ·split at h1
   ·rename_i h4 h5; exact hni _ _ _ _ h4 h5
   ·cases h1
  ·rename_i ht; simp only [eqA,ht,hk] at h3; cases h3
  ·rename_i ht; simp only [eqA,ht,hk] at h3; cases h3
  ·rename_i ht; simp only [eqA,ht,hk] at h3; cases h3
  ·rename_i ht; simp only [eqA,ht,hk] at h3; cases h3
  ·rename_i ht; simp only [eqA,ht,hk] at h3; cases h3
  ·rename_i ht; simp only [eqA,ht,hk] at h3; cases h3
  ·cases h1
 ·intro a hk
  obtain ⟨e1,he1⟩:=asS_of_den hV hx hk
  have h3:=c2 _ (Nat.le_refl _)
  unfold eqS at h1
  split at h1
  ·rename_i ht; simp only [eqA,ht,hk] at h3; cases h3
  ·rename_i ht; simp only [eqA,ht,hk] at h3; cases h3
  ·split at h1
   ·rename_i h4 h5; exact hns _ _ h4 h5
   ·cases h1
  ·rename_i ht; simp only [eqA,ht,hk] at h3; cases h3
  ·rename_i ht; simp only [eqA,ht,hk] at h3; cases h3
  ·rename_i ht; simp only [eqA,ht,hk] at h3; cases h3
  ·rename_i ht; simp only [eqA,ht,hk] at h3; cases h3
  ·rename_i ht; simp only [eqA,ht,hk] at h3; cases h3
  ·cases h1
end
section
variable {Ω:Om} {V:X→AV} {σ:Nat→Nat} {Ls:List (Nat × Nat)} {st st1:SSt} {h:Hp} {T:Tab} {n:Nat}
theorem ok_data {s:Sh} {a:AV} (h:s.ok a=true):s.data=true:=by
 cases s<;>cases a<;>simp [Sh.ok] at h<;>rfl
theorem den_data {s:Sh} {e:X} (h:s.ok (V e)=true):(AV.sym s e).den V σ=V e∧(AV.sym s e).okv V n:=by
 have hd:=ok_data h
 cases s<;>simp [Sh.data] at hd<;>exact ⟨rfl,h⟩
theorem unS_den (hV:IsV Ω V) (S:Sim V σ Ls st h) {op:UnOp} {x v:AV} (hx:x.okv V st.hp.nx) (hs:(unS st op x).sel V=some (v,st1)):PR V σ Ls st st1 h (unA op (x.den V σ)) v:=by
 unfold unS at hs
 split at hs
 ·split at hs
  ·rename_i k a h1
   obtain ⟨a1,_⟩:=asI_den (σ:=σ) hV h1 hx
   injection hs with hs; obtain ⟨rfl,rfl⟩:=Prod.mk.inj hs
   have e:V (.p (.neg k) [a]) = .int k (k.wrap (0 - (V a).nI)):=by rw [hV.p]; rfl
   exact ⟨by rw [a1]; simp only [unA,AV.den,symD,e],by simp [AV.okv,symOk,e,Sh.ok],S,rfl⟩
  ·cases hs
 ·split at hs
  ·rename_i a h1
   obtain ⟨a1,_⟩:=asB_den (σ:=σ) hV h1 hx
   injection hs with hs; obtain ⟨rfl,rfl⟩:=Prod.mk.inj hs
   have e:=V_not hV a
   exact ⟨by rw [a1]; simp only [unA,AV.den,symD,e],by simp [AV.okv,symOk,e,Sh.ok],S,rfl⟩
  ·cases hs
 ·cases hs
theorem convS_den (hV:IsV Ω V) (S:Sim V σ Ls st h) {s d:TypeId} {x v:AV} (hx:x.okv V st.hp.nx) (hs:(convS T st s d x).sel V=some (v,st1)):PR V σ Ls st st1 h (convA T s d (x.den V σ)) v:=by
 unfold convS at hs
 split at hs
 ·rename_i k t1 t2
  split at hs
  ·rename_i k' a h1
   obtain ⟨a1,_⟩:=asI_den (σ:=σ) hV h1 hx
   injection hs with hs; obtain ⟨rfl,rfl⟩:=Prod.mk.inj hs
   have e:V (.p (.conv k) [a]) = .int k (k.wrap (V a).nI):=by rw [hV.p]; rfl
   exact ⟨by rw [a1]; simp only [convA,t1,t2,AV.den,symD,e],by simp [AV.okv,symOk,e,Sh.ok],S,rfl⟩
  ·cases hs
 ·rename_i t1 t2
  split at hs
  ·rename_i a h1
   obtain ⟨a1,a2⟩:=asS_den (σ:=σ) hV h1 hx
   injection hs with hs; obtain ⟨rfl,rfl⟩:=Prod.mk.inj hs
   exact ⟨by rw [a1]; simp only [convA,t1,t2,AV.den,symD]; rw [← a2],(den_data (V:=V) (σ:=σ) (by rw [a2]; rfl)).2,S,rfl⟩
  ·cases hs
 ·cases hs
theorem symOk_int (k:IntKind) {e:X} {z:Int} (h:V e = .int k z):(AV.sym (.int k) e).okv V n:=by simp only [AV.okv,symOk,h,Sh.ok,decide_true]
theorem lenS_den (hV:IsV Ω V) (S:Sim V σ Ls st h) {t:TypeId} {x v:AV} (hx:x.okv V st.hp.nx) (hs:(lenS T st t x).sel V=some (v,st1)):PR V σ Ls st st1 h (lenA T h t (x.den V σ)) v:=by
 unfold lenS at hs
 split at hs
 ·rename_i e t1
  injection hs with hs; obtain ⟨rfl,rfl⟩:=Prod.mk.inj hs
  have hx:=ok_str hx
  refine ⟨?_,symOk_int _ (V_len hV e),S,rfl⟩
  simp only [AV.den,symD]
  rw [V_len hV,hx]; simp only [lenA,t1]; rfl
 ·rename_i e0 cs e t1
  injection hs with hs; obtain ⟨rfl,rfl⟩:=Prod.mk.inj hs
  refine ⟨?_,symOk_int _ (V_len hV e),S,rfl⟩
  simp only [AV.den,symD]
  rw [V_len hV]
  rcases ok_sl hx with hx | ⟨r,hx,_⟩<;>rw [hx]<;>simp only [lenA,t1]<;>rfl
 ·rename_i e0 tt cs e t1
  injection hs with hs; obtain ⟨rfl,rfl⟩:=Prod.mk.inj hs
  refine ⟨?_,symOk_int _ (V_len hV e),S,rfl⟩
  simp only [AV.den,symD]
  rw [V_len hV]
  rcases ok_sl hx.2 with hx | ⟨r,hx,_⟩<;>rw [hx]<;>simp only [lenA,t1]<;>rfl
 ·rename_i k0 e0 k ag cs e t1
  injection hs with hs; obtain ⟨rfl,rfl⟩:=Prod.mk.inj hs
  obtain ⟨es,he,_⟩:=ok_im hx
  have e1:V (.p .mlen [e]) = .int .i64 es.length:=by rw [hV.p]; simp only [List.map,Pr.sem,he]; rfl
  refine ⟨?_,symOk_int _ e1,S,rfl⟩
  simp only [AV.den,symD]
  rw [e1,he]; simp only [lenA,t1,mapA]; rfl
 ·rename_i k0 e0 tt k ag cs ex t1
  split at hs
  ·rename_i k' ag' cs' e hl
   injection hs with hs; obtain ⟨rfl,rfl⟩:=Prod.mk.inj hs
   obtain ⟨es,he,_⟩:=ok_im (S.oks _ _ hl).1
   have hp:=S.core.get tt (.map es) (by rw [prom_sb S hl]; simp only [SB.prom,he])
   have e1:V (.p .mlen [e]) = .int .i64 es.length:=by rw [hV.p]; simp only [List.map,Pr.sem,he]; rfl
   refine ⟨?_,symOk_int _ e1,S,rfl⟩
   simp only [AV.den,symD]
   rw [e1]; simp only [lenA,t1,mapA,hp]; rfl
  ·cases hs
 ·cases hs
theorem cellsX_den (hV:IsV Ω V) {e i:X} {r:List AV} (hr:nth (V e).rowsL (V i).nI.toNat=some r) :
  ∀ (cs:List Sh) (o:Nat),Sh.oks cs (r.drop o)=true→(cellsX e i o cs).map (AV.den V σ)=r.drop o∧∀ x∈cellsX e i o cs,x.okv V n
 | [],o,hok=>by
   have:=oks_length hok
   refine ⟨?_,fun _ h=>by cases h⟩
   simp only [cellsX,List.map_nil]
   exact (List.length_eq_zero_iff.1 (by simpa using this)).symm
 | c::cs,o,hok=>by
   cases hd:r.drop o with
   | nil=>rw [hd] at hok; simp [Sh.oks] at hok
   | cons a l =>
     rw [hd] at hok
     simp only [Sh.oks,Bool.and_eq_true] at hok
     have hl:r.drop (o+1)=l:=by rw [← List.drop_drop,hd]; rfl
     have ha:nth r o=some a:=by
      rw [nth_eq]
      have:=congrArg (fun l=>l[0]?) hd
      simpa using this
     have hv:V (.p (.cell o) [e,i])=a:=by rw [V_cell hV,hr]; simp only [getL,ha]; rfl
     obtain ⟨h1,h2⟩:=cellsX_den hV hr cs (o+1) (by rw [hl]; exact hok.2)
     obtain ⟨d1,d2⟩:=den_data (V:=V) (σ:=σ) (n:=n) (s:=c) (e:=.p (.cell o) [e,i]) (by rw [hv]; exact hok.1)
     refine ⟨?_,fun x hx=>?_⟩
     ·simp only [cellsX,List.map_cons,d1,hv,h1,hl]
     ·cases hx with
      | head=>exact d2
      | tail _ hx=>exact h2 x hx
theorem asSl_den (hV:IsV Ω V) {el:TypeId} {x:AV} {cs:List Sh} {e:X} (hx:x.okv V n) (h:asSl T el x=some (cs,e)):x.den V σ=V e∧(Sh.sl cs).ok (V e)=true:=by
 unfold asSl at h
 split at h
 ·injection h with h; obtain ⟨rfl,rfl⟩:=Prod.mk.inj h
  exact ⟨rfl,hx⟩
 ·split at h
  ·split at h
   ·rename_i he
    injection h with h; obtain ⟨rfl,rfl⟩:=Prod.mk.inj h
    obtain ⟨a,b,_⟩:=asXc_den (σ:=σ) hV _ _ _ he hx
    exact ⟨a,b⟩
   ·cases h
  ·cases h
theorem rows_at {cs:List Sh} {a:AV} (ho:(Sh.sl cs).ok a=true) {i:Int} (h0:0≤i) (h1:i < (a.lenN:Int)):∃ rows r,a = .sl cs.length rows∧nth rows i.toNat=some r∧Sh.oks cs r=true∧i.toNat < rows.length:=by
 rcases ok_sl ho with h | ⟨rows,h,hr⟩
 ·rw [h] at h1; simp [AV.lenN] at h1; omega
 ·have hl:i.toNat < rows.length:=by rw [h] at h1; simp [AV.lenN] at h1; omega
  have hn:nth rows i.toNat=some rows[i.toNat]:=by rw [nth_eq,List.getElem?_eq_getElem hl]
  exact ⟨rows,_,h,hn,hr _ (List.getElem_mem hl),hl⟩
theorem indexAddrS_den (hV:IsV Ω V) (S:Sim V σ Ls st h) {t:TypeId} {x ix v:AV} (hx:x.okv V st.hp.nx) (hix:ix.okv V st.hp.nx) (hs:(indexAddrS T st t x ix).sel V=some (v,st1)) :
  PR V σ Ls st st1 h (indexAddrA T h t (x.den V σ) (ix.den V σ)) v:=by
 unfold indexAddrS at hs
 split at hs
 ·rename_i elem k i t1 h1
  obtain ⟨a1,_⟩:=asI_den (σ:=σ) hV h1 hix
  split at hs
  ·rename_i sz h2
   split at hs
   ·rename_i b cs e
    split at hs
    ·rename_i cs' e' hl
     split at hs
     ·rename_i hc
      obtain ⟨st2,S2,e1,e2,e3,hs⟩:=needT_den hV S hs
      obtain ⟨st3,S3,f1,f2,f3,hs⟩:=needT_den hV S2 hs
      injection hs with hs; obtain ⟨rfl,rfl⟩:=Prod.mk.inj hs
      obtain ⟨g1,g2⟩:=V_xIn hV e3
      obtain ⟨g3,g4⟩:=V_xIn hV f3
      have hcs:=Sh.eqbs_eq hc.2; subst hcs
      obtain ⟨rows,r,r1,r2,r3,r4⟩:=rows_at hx.2 g1 g2
      obtain ⟨rows',r',r1',r2',r3',r4'⟩:=rows_at (S.oks _ _ hl).1 g3 g4
      have hp:=S.core.get b (.cells cs.length rows') (by rw [prom_sb S hl]; simp only [SB.prom,r1'])
      refine ⟨?_,hx.1,S3,f1.trans e1⟩
      rw [a1]
      simp only [AV.den,symD,r1,indexAddrA,t1,h2,hp]
      rw [r1] at g2; simp only [AV.lenN] at g2
      rw [if_pos ⟨g1,g2⟩,if_pos ⟨hc.1,by simpa using r4'⟩]
      simp
     ·cases hs
    ·cases hs
   ·split at hs
    ·rename_i cs e hsl
     split at hs
     ·rename_i hc
      obtain ⟨st2,S2,e1,e2,e3,hs⟩:=needT_den hV S hs
      injection hs with hs; obtain ⟨rfl,rfl⟩:=Prod.mk.inj hs
      obtain ⟨g1,g2⟩:=V_xIn hV e3
      obtain ⟨d1,d2⟩:=asSl_den (σ:=σ) hV hx hsl
      obtain ⟨rows,r,r1,r2,r3,r4⟩:=rows_at d2 g1 g2
      have hr:nth (V e).rowsL (V i).nI.toNat=some r:=by rw [r1]; exact r2
      obtain ⟨c1,c2⟩:=cellsX_den (σ:=σ) (n:=st.hp.nx) hV hr cs 0 (by simpa using r3)
      refine ⟨?_,(okvs_iff _).2 c2,S2,e1⟩
      rw [a1,d1,r1]
      simp only [AV.den,AV.dens_map,c1,indexAddrA,t1,h2,List.drop_zero]
      rw [if_pos ⟨g1,hc⟩,r2]
     ·cases hs
    ·cases hs
  ·cases hs
 ·cases hs
theorem indexS_den (hV:IsV Ω V) (S:Sim V σ Ls st h) {t:TypeId} {x ix v:AV} (hx:x.okv V st.hp.nx) (hix:ix.okv V st.hp.nx) (hs:(indexS T st t x ix).sel V=some (v,st1)) :
  PR V σ Ls st st1 h (indexA T t (x.den V σ) (ix.den V σ)) v:=by
 unfold indexS at hs
 split at hs
 ·rename_i s k i t1 h1 h2
  obtain ⟨a1,_⟩:=asS_den (σ:=σ) hV h1 hx
  obtain ⟨b1,_⟩:=asI_den (σ:=σ) hV h2 hix
  obtain ⟨st2,S2,e1,e2,e3,hs⟩:=needT_den hV S hs
  injection hs with hs; obtain ⟨rfl,rfl⟩:=Prod.mk.inj hs
  obtain ⟨g1,g2⟩:=V_xIn hV e3
  obtain ⟨_,a2⟩:=asS_den (σ:=σ) hV h1 hx
  rw [a2] at g2
  simp only [AV.lenN] at g2
  have hlt:(V i).nI.toNat < (V s).sS.size:=by omega
  have hb:(V s).sS[(V i).nI.toNat]? = some ((V s).sS[(V i).nI.toNat]):=by rw [getElem?_pos]
  have hv:V (.p .byte [s,i]) = .int .u8 ((V s).sS[(V i).nI.toNat]).toNat:=by
   rw [hV.p]; simp only [List.map,Pr.sem,hb]
  refine ⟨?_,symOk_int _ hv,S2,e1⟩
  rw [a1,b1]
  simp only [indexA,t1,g1,if_true,hb,AV.den,symD,hv]
  rfl
 ·cases hs
theorem V_xLe (hV:IsV Ω V) {a b:X} (h:(V (xLe a b)).bB=true):(V a).nI≤(V b).nI:=V_xLeK hV h
theorem boundS_den (hV:IsV Ω V) {lo:Option AV} {d e:X} (ho:∀ v,lo=some v→v.okv V n) (h:boundS d lo=some e) (lim dn:Nat) (hd:V d = .int .i64 dn) (h0:0≤(V e).nI) (h1:(V e).nI≤lim) :
  boundA lim dn (lo.map (AV.den V σ))=some (V e).nI.toNat:=by
 unfold boundS at h
 cases lo with
 | none=>injection h with h; subst h; rw [hd]; simp [boundA,AV.nI]
 | some v =>
   simp only at h
   split at h
   ·rename_i e' hv
    injection h with h; subst h
    obtain ⟨a1,_⟩:=asI_den (σ:=σ) hV hv (ho v rfl)
    simp only [Option.map_some,a1,boundA]
    rw [if_pos ⟨h0,h1⟩]
   ·cases h
theorem optA_ok {ev ev':Ev} (he:EvD V σ n ev ev') {o:Option Operand} {v:Option AV} (hv:optA ev o=some v):∀ a,v=some a→a.okv V n:=by
 cases o with
 | none=>injection hv with hv; subst hv; intro _ h; cases h
 | some x =>
   simp only [optA] at hv
   cases h1:ev x with
   | none=>rw [h1] at hv; cases hv
   | some a=>rw [h1] at hv; injection hv with hv; subst hv; intro _ h; injection h with h; subst h; exact (he x a h1).2
theorem xI_V (hV:IsV Ω V) (z:Int):V (xI z) = .int .i64 z:=hV.i _ _
theorem sliceS_den (hV:IsV Ω V) (S:Sim V σ Ls st h) {t:TypeId} {x v:AV} {lo hi:Option AV} (hx:x.okv V st.hp.nx) (hlo:∀ a,lo=some a→a.okv V st.hp.nx) (hhi:∀ a,hi=some a→a.okv V st.hp.nx)
  (hs:(sliceS T st t x lo hi).sel V=some (v,st1)):PR V σ Ls st st1 h (sliceA T h t (x.den V σ) (lo.map (AV.den V σ)) (hi.map (AV.den V σ))) v:=by
 unfold sliceS at hs
 split at hs
 ·rename_i t1
  split at hs
  ·rename_i s h1
   obtain ⟨a1,a2⟩:=asS_den (σ:=σ) hV h1 hx
   split at hs
   ·rename_i l m h2 h3
    obtain ⟨st2,S2,e1,_,e3,hs⟩:=needT_den hV S hs
    obtain ⟨st3,S3,f1,_,f3,hs⟩:=needT_den hV S2 hs
    obtain ⟨st4,S4,g1,_,g3,hs⟩:=needT_den hV S3 hs
    injection hs with hs; obtain ⟨rfl,rfl⟩:=Prod.mk.inj hs
    have e3:=V_xLe hV e3; rw [xI_V hV] at e3
    have e3:0≤(V l).nI:=e3
    have f3:=V_xLe hV f3
    have g3:=V_xLe hV g3; rw [V_len hV] at g3
    have g3:(V m).nI≤((V s).lenN:Int):=g3
    have hlen:(V s).lenN=(V s).sS.size:=by rw [a2]; rfl
    have b2:=boundS_den (σ:=σ) hV hhi h3 (V s).sS.size (V s).sS.size (by rw [V_len hV,hlen]) (by omega) (by omega)
    have b1:=boundS_den (σ:=σ) hV hlo h2 (V m).nI.toNat 0 (xI_V hV 0) e3 (by omega)
    have hv:V (.p .sslice [s,l,m]) = .str ((V s).sS.extract (V l).nI.toNat (V m).nI.toNat):=by rw [hV.p]; rfl
    refine ⟨?_,(den_data (V:=V) (σ:=σ) (by rw [hv]; rfl)).2,S4,g1.trans (f1.trans e1)⟩
    rw [a1]
    simp only [sliceA,t1,b2,b1,AV.den,symD,hv]
   ·cases hs
  ·cases hs
 ·rename_i elem t1
  split at hs
  ·rename_i cs e sz h1 h2
   obtain ⟨a1,a2⟩:=asSl_den (σ:=σ) hV hx h1
   split at hs
   ·rename_i l m h3 h4
    split at hs
    ·rename_i hc
     obtain ⟨st2,S2,e1,_,e3,hs⟩:=needT_den hV S hs
     obtain ⟨st3,S3,f1,_,f3,hs⟩:=needT_den hV S2 hs
     obtain ⟨st4,S4,g1,_,g3,hs⟩:=needT_den hV S3 hs
     injection hs with hs; obtain ⟨rfl,rfl⟩:=Prod.mk.inj hs
     have e3:=V_xLe hV e3; rw [xI_V hV] at e3
     have e3:0≤(V l).nI:=e3
     have f3:=V_xLe hV f3
     have g3:=V_xLe hV g3; rw [V_len hV] at g3
     have g3:(V m).nI≤((V e).lenN:Int):=g3
     rcases ok_sl a2 with hn | ⟨rows,hr,hok⟩
     ·have hlen:(V e).lenN=0:=by rw [hn]; rfl
      have b2:=boundS_den (σ:=σ) hV hhi h4 0 0 (by rw [V_len hV,hlen]) (by omega) (by omega)
      have b1:=boundS_den (σ:=σ) hV hlo h3 (V m).nI.toNat 0 (xI_V hV 0) e3 (by omega)
      have hv:V (.p .slice [e,l,m]) = .nils:=by rw [hV.p]; simp only [List.map,Pr.sem,hn]
      refine ⟨?_,(den_data (V:=V) (σ:=σ) (by rw [hv]; rfl)).2,S4,g1.trans (f1.trans e1)⟩
      rw [a1,hn]
      simp only [sliceA,t1,h2,b2,b1,AV.den,symD,hv]
     ·have hlen:(V e).lenN=rows.length:=by rw [hr]; rfl
      have b2:=boundS_den (σ:=σ) hV hhi h4 rows.length rows.length (by rw [V_len hV,hlen]) (by omega) (by omega)
      have b1:=boundS_den (σ:=σ) hV hlo h3 (V m).nI.toNat 0 (xI_V hV 0) e3 (by omega)
      have hv:V (.p .slice [e,l,m]) = .sl cs.length ((rows.drop (V l).nI.toNat).take ((V m).nI.toNat - (V l).nI.toNat)):=by rw [hV.p]; simp only [List.map,Pr.sem,hr]
      refine ⟨?_,?_,S4,g1.trans (f1.trans e1)⟩
      ·rw [a1,hr]
       simp only [sliceA,t1,h2,hc,if_true,b2,b1,AV.den,symD,hv]
      ·refine (den_data (V:=V) (σ:=σ) (s:=.sl cs) ?_).2
       rw [hv]
       simp only [Sh.ok,beq_self_eq_true,Bool.true_and,List.all_eq_true]
       exact fun r hr=>hok r (List.mem_of_mem_drop (List.mem_of_mem_take hr))
    ·cases hs
   ·cases hs
  ·cases hs
 ·cases hs
theorem fieldAddrS_den (S:Sim V σ Ls st h) {s:TypeId} {x v:AV} {f:Nat} (hx:x.okv V st.hp.nx) (hs:(fieldAddrS T st s x f).sel V=some (v,st1)):PR V σ Ls st st1 h (fieldAddrA T s (x.den V σ) f) v:=by
 unfold fieldAddrS at hs
 split at hs
 ·rename_i b o cs i off t h1
  split at hs
  ·rename_i sz h2
   split at hs
   ·cases hs
   ·rename_i h3
    injection hs with hs; obtain ⟨rfl,rfl⟩:=Prod.mk.inj hs
    refine ⟨?_,hx,S,rfl⟩
    simp only [AV.den,symD,fieldAddrA,h1,h2,h3,if_false,AV.shift]
  ·cases hs
 ·cases hs
theorem oks_drop {cs:List Sh} {r:List AV} (h:Sh.oks cs r=true) (o:Nat):Sh.oks (cs.drop o) (r.drop o)=true:=by
 induction o generalizing cs r with
 | zero=>simpa using h
 | succ o ih =>
   cases cs with
   | nil=>cases r with | nil=>rfl | cons _ _=>simp [Sh.oks] at h
   | cons c cs=>cases r with
     | nil=>simp [Sh.oks] at h
     | cons a r=>simp only [Sh.oks,Bool.and_eq_true] at h; simpa using ih h.2
theorem cellsX_drop (e i:X) (cs:List Sh) (o:Nat):∀ k,(cellsX e i k cs).drop o=cellsX e i (k+o) (cs.drop o):=by
 induction o generalizing cs with
 | zero=>intro k; simp
 | succ o ih =>
   intro k
   cases cs with
   | nil=>simp [cellsX]
   | cons c cs=>simp only [cellsX,List.drop_succ_cons,ih cs (k+1)]; congr 1; omega
theorem loadS_den (hV:IsV Ω V) (S:Sim V σ Ls st h) {t:TypeId} {a v:AV} (ha:a.okv V st.hp.nx) (hs:(loadS T st t a).sel V=some (v,st1)):PR V σ Ls st st1 h (loadA T h t (a.den V σ)) v:=by
 unfold loadS at hs
 split at hs
 ·rename_i b o cs i
  split at hs
  ·rename_i cs' e ag sz hl h1 h2
   split at hs
   ·rename_i hc
    obtain ⟨st2,S2,e1,e2,e3,hs⟩:=needT_den hV S hs
    obtain ⟨g1,g2⟩:=V_xIn hV e3
    have hcs:=Sh.eqbs_eq hc.1; subst hcs
    obtain ⟨rows,r,r1,r2,r3,r4⟩:=rows_at (S.oks _ _ hl).1 g1 g2
    have hp:=S.core.get b (.cells cs.length rows) (by rw [prom_sb S hl]; simp only [SB.prom,r1])
    have hr:nth (V e).rowsL (V i).nI.toNat=some r:=by rw [r1]; exact r2
    obtain ⟨c1,c2⟩:=cellsX_den (σ:=σ) (n:=st.hp.nx) hV hr (cs.drop o) o (oks_drop r3 o)
    rw [cellsX_drop,Nat.zero_add] at hs
    split at hs
    ·rename_i u hu
     injection hs with hs; obtain ⟨rfl,rfl⟩:=Prod.mk.inj hs
     obtain ⟨t1,t2⟩:=takeV_den (σ:=σ) c2 hu
     rw [c1] at t1
     refine ⟨?_,t2,S2,e1⟩
     simp only [loadA,h1,h2,AV.den,symD,cellsA,hp,r2,t1]
    ·cases hs
   ·cases hs
  ·cases hs
 ·cases hs
theorem lookS_upd (l:List (Nat × SB)) (b c:Nat) (y:SB):lookS (updS l b y) c=if c=b then (lookS l b).map (fun _=>y) else lookS l c:=by
 induction l with
 | nil=>simp [updS,lookS]
 | cons e l ih =>
   obtain ⟨d,x⟩:=e
   simp only [updS]
   by_cases hb:b=d
   ·subst hb; simp only [if_true,lookS]; by_cases hc:c=b<;>simp [hc]
   ·simp only [hb,if_false,lookS,ih]
    by_cases hc:c=d
    ·subst hc; have:¬ c=b:=fun h=>hb h.symm; simp [this]
    ·simp [hc]
theorem lookS_drop (l:List (Nat × SB)) (b c:Nat):lookS (dropS l b) c=if c=b then none else lookS l c:=by
 induction l with
 | nil=>simp [dropS,lookS]
 | cons e l ih =>
   obtain ⟨d,x⟩:=e
   simp only [dropS]
   by_cases hb:b=d
   ·subst hb; simp only [if_true,ih,lookS]; by_cases hc:c=b<;>simp [hc]
   ·simp only [hb,if_false,lookS,ih]
    by_cases hc:c=d
    ·subst hc; have:¬ c=b:=fun h=>hb h.symm; simp [this]
    ·simp [hc]
theorem Sim.setS (S:Sim V σ Ls st h) {b:Nat} {s s':SB} {B B':Blk} (hb:lookS st.sb b=some s) (hB:s.prom V=some B) (hB':s'.prom V=some B') (ho:s'.okS V) :
  Sim V σ Ls { st with sb:=updS st.sb b s' } (h.set (σ b) B') where
 core:=by
  refine S.core.set (t:=b) (B0:=B) (by rw [prom_sb S hb]; exact hB) _ fun c D hc=>?_
  by_cases e:c=b
  ·subst e
   left
   refine ⟨rfl,?_⟩
   unfold prom promS at hc
   simp only [lookS_upd,if_true,hb,Option.map_some] at hc
   split at hc
   ·rename_i B1 hB1
    rw [S.dj _ _ _ hb hB1] at hc
    simp only [Bool.false_eq_true,if_false] at hc
    rw [hB'] at hc; injection hc with hc; exact hc.symm
   ·rw [hB'] at hc; injection hc with hc; exact hc.symm
  ·right
   refine ⟨e,?_⟩
   unfold prom promS at hc ⊢
   simp only [lookS_upd,if_neg e] at hc
   exact hc
 okb:=S.okb
 oks t u hu:=by
  simp only [lookS_upd] at hu
  split at hu
  ·rename_i e; subst e; rw [hb] at hu; injection hu with hu; subst hu; exact ⟨ho,(S.oks _ _ hb).2⟩
  ·exact S.oks t u hu
 dj t u B1 hu hB1:=by
  simp only [lookS_upd] at hu
  split at hu
  ·rename_i e; subst e; exact S.dj _ _ _ hb hB1
  ·exact S.dj t u B1 hu hB1
 segS:=S.segS
 segA:=by rw [set_segs]; exact S.segA
 lk L hL hk:=by rw [set_lk]; exact S.lk L hL hk
 fx:=S.fx
 ids:=S.ids
 old:=S.old
theorem Sim.setNone (S:Sim V σ Ls st h) {b:Nat} {s s':SB} (hb:lookS st.sb b=some s) (hB:s.prom V=none) (hB':s'.prom V=none) (ho:s'.okS V) :
  Sim V σ Ls { st with sb:=updS st.sb b s' } h where
 core:=by
  refine S.core.sub (fun c D hc=>?_) (Nat.le_refl _)
  by_cases e:c=b
  ·subst e
   unfold prom promS at hc
   simp only [lookS_upd,if_true,hb,Option.map_some] at hc
   split at hc
   ·rename_i B1 hB1
    rw [S.dj _ _ _ hb hB1] at hc
    simp only [Bool.false_eq_true,if_false] at hc
    rw [hB'] at hc; cases hc
   ·rw [hB'] at hc; cases hc
  ·unfold prom promS at hc ⊢
   simp only [lookS_upd,if_neg e] at hc
   exact hc
 okb:=S.okb
 oks t u hu:=by
  simp only [lookS_upd] at hu
  split at hu
  ·rename_i e; subst e; rw [hb] at hu; injection hu with hu; subst hu; exact ⟨ho,(S.oks _ _ hb).2⟩
  ·exact S.oks t u hu
 dj t u B1 hu hB1:=by
  simp only [lookS_upd] at hu
  split at hu
  ·rename_i e; subst e; exact S.dj _ _ _ hb hB1
  ·exact S.dj t u B1 hu hB1
 segS:=S.segS
 segA:=S.segA
 lk:=S.lk
 fx:=S.fx
 ids:=S.ids
 old:=S.old
theorem oks_setCells:∀ (vs:List AV) (cs:List Sh) (r:List AV) (o:Nat),Sh.oks cs r=true→Sh.oks ((cs.drop o).take vs.length) vs=true→Sh.oks cs (setCells r o vs)=true
 | [],cs,r,o,h,_=>h
 | v::vs,cs,r,o,h,hv=>by
   simp only [setCells]
   have hput:∀ (cs:List Sh) (r:List AV) (o:Nat) (c:Sh),Sh.oks cs r=true→cs[o]? = some c→c.ok v=true→Sh.oks cs (put r o v)=true:=by
    intro cs
    induction cs with
    | nil=>intro r o c _ hc; simp at hc
    | cons d cs ih =>
      intro r o c h hc hv
      cases r with
      | nil=>simp [Sh.oks] at h
      | cons a r =>
        simp only [Sh.oks,Bool.and_eq_true] at h
        cases o with
        | zero=>simp at hc; subst hc; simp only [put,Sh.oks,hv,h.2,Bool.and_self]
        | succ o=>simp only [put,Sh.oks,h.1,Bool.true_and]; exact ih r o c h.2 (by simpa using hc) hv
   cases hd:cs.drop o with
   | nil=>rw [hd] at hv; simp [Sh.oks] at hv
   | cons c cs' =>
     rw [hd] at hv
     simp only [List.length_cons,List.take_succ_cons,Sh.oks,Bool.and_eq_true] at hv
     have hc:cs[o]? = some c:=by
      have:=congrArg (fun l=>l[0]?) hd
      simpa using this
     refine oks_setCells vs cs (put r o v) (o+1) (hput cs r o c h hc hv.1) ?_
     have:cs.drop (o+1)=cs':=by rw [← List.drop_drop,hd]; rfl
     rw [this]; exact hv.2
theorem storeS_den (hV:IsV Ω V) (S:Sim V σ Ls st h) {t:TypeId} {a v r:AV} (ha:a.okv V st.hp.nx) (hv0:v.okv V st.hp.nx) (hs:(storeS T st t a v).sel V=some (r,st1)) :
  r=undefA∧∃ h1,storeA T h t (a.den V σ) (v.den V σ)=some h1∧Sim V σ Ls st1 h1∧st1.hp=st.hp:=by
 unfold storeS at hs
 split at hs
 ·rename_i b o cs i
  split at hs
  ·rename_i cs' e sz vs hl h2 h3
   split at hs
   ·rename_i hc
    obtain ⟨st2,S2,e1,e2,e3,hs⟩:=needT_den hV S hs
    obtain ⟨g1,g2⟩:=V_xIn hV e3
    have hcs:=Sh.eqbs_eq hc.1; subst hcs
    have hl2:lookS st2.sb b=some (.rows cs e):=by rw [e2]; exact hl
    obtain ⟨rows,q,r1,r2,r3,r4⟩:=rows_at (S.oks _ _ hl).1 g1 g2
    have hp:=S.core.get b (.cells cs.length rows) (by rw [prom_sb S hl]; simp only [SB.prom,r1])
    obtain ⟨x1,x2,x3⟩:=asXs_den (σ:=σ) hV _ _ _ h3 (okv_cells hv0)
    injection hs with hs; obtain ⟨rfl,rfl⟩:=Prod.mk.inj hs
    have hcl:(v.den V σ).cells=vs.map V:=by rw [den_cells hv0,x1]
    have hlen:vs.length=sz:=by
     have:=congrArg List.length x1
     simpa [hc.2.2] using this
    have hVe:V (.p (.setc o) (e::i::vs)) = .sl cs.length (put rows (V i).nI.toNat (setCells q o (vs.map V))):=by
     rw [hV.p]; simp only [List.map,Pr.sem,r1,r2,getL]
    have hq:Sh.oks cs (setCells q o (vs.map V))=true:=oks_setCells _ _ _ _ r3 (by rw [List.length_map,hlen,← hc.2.2]; exact x2)
    refine ⟨rfl,_,?_,Sim.setS S2 hl2 (B:=.cells cs.length rows) (by simp only [SB.prom,r1]) (B':=.cells cs.length (put rows (V i).nI.toNat (setCells q o (vs.map V)))) (by simp only [SB.prom,hVe]) ?_,e1⟩
    ·simp only [AV.den,symD,storeA,h2,hp,r2]
     have hcells:(v.den V σ).cells.all (·.isCell)=true:=by
      rw [hcl]
      simp only [List.all_map,List.all_eq_true,Function.comp]
      intro y hy
      obtain ⟨j,hj⟩:=List.getElem?_of_mem hy
      have hl':=oks_length x2
      have hlj:j < ((cs.drop o).take v.cells.length).length:=by
       have:=(List.getElem?_eq_some_iff.1 hj).1
       simp only [List.length_map] at hl'; omega
      exact (ok_cell (oks_get x2 (List.getElem?_eq_getElem hlj) (by rw [List.getElem?_map,hj]; rfl))).1
     have hmx:mxs (v.den V σ).cells=0:=by
      rw [hcl,mxs_zero]
      intro y hy
      obtain ⟨j,hj⟩:=List.getElem?_of_mem hy
      have hl':=oks_length x2
      have hlj:j < ((cs.drop o).take v.cells.length).length:=by
       have:=(List.getElem?_eq_some_iff.1 hj).1
       omega
      exact (ok_cell (oks_get x2 (List.getElem?_eq_getElem hlj) hj)).2.2.2.2.1
     have hql:=oks_length r3
     rw [if_pos ⟨by rw [hcl]; simpa using hlen,hcells⟩,if_pos (by omega),hmx,hcl]
     simp only [Hp.leak,Nat.zero_le,if_true]
    ·show (Sh.sl cs).ok _=true
     rw [hVe]
     simp only [Sh.ok,beq_self_eq_true,Bool.true_and,List.all_eq_true]
     intro y hy
     rcases mem_put hy with hy | rfl
     ·rcases ok_sl (S.oks _ _ hl).1 with hn | ⟨rows',hr',hok'⟩
      ·rw [hn] at r1; cases r1
      ·rw [hr'] at r1; injection r1 with _ r1; subst r1; exact hok' y hy
     ·exact hq
   ·cases hs
  ·cases hs
 ·cases hs
end
section
variable {Ω:Om} {V:X→AV} {σ:Nat→Nat} {Ls:List (Nat × Nat)} {st st1:SSt} {h:Hp} {T:Tab} {n:Nat}
theorem shT_keyOk {d:Nat} {kt:TypeId} {s:Sh} (h:shT T d kt=some s) (hs:scal s=true) {a:AV} (ha:s.ok a=true):keyOk T kt a=true:=by
 cases d with
 | zero=>cases h
 | succ d =>
   unfold shT at h
   split at h
   ·rename_i ht; injection h with h; subst h; rw [ok_bool ha]; simp [keyOk,ht]
   ·rename_i ht; injection h with h; subst h; rw [ok_int ha]; simp [keyOk,ht]
   ·rename_i ht; injection h with h; subst h; rw [ok_str ha]; simp [keyOk,ht]
   ·cases hsh:shsT T d ‹_› with
    | none=>rw [hsh] at h; cases h
    | some l=>rw [hsh] at h; injection h with h; subst h; cases hs
   ·split at h
    ·injection h with h; subst h; cases hs
    ·cases h
   ·cases h
theorem keyEq_total {s:Sh} (hs:scal s=true) {a b:AV} (ha:s.ok a=true) (hb:s.ok b=true):∃ c,keyEq a b=some c:=by
 cases s<;>simp [scal] at hs
 ·rw [ok_bool ha,ok_bool hb]; exact ⟨_,rfl⟩
 ·rw [ok_int ha,ok_int hb]; simp only [keyEq,if_true]; exact ⟨_,rfl⟩
 ·rw [ok_str ha,ok_str hb]; exact ⟨_,rfl⟩
theorem findA_total {s:Sh} (hs:scal s=true) {k:AV} (hk:s.ok k=true):∀ {es:List (AV × AV)},(∀ e∈es,s.ok e.1=true)→∃ r,findA k es=some r
 | [],_=>⟨none,rfl⟩
 | (a,v)::es,h=>by
   obtain ⟨c,hc⟩:=keyEq_total hs hk (h _ (.head _))
   simp only [findA,hc]
   cases c with
   | true=>exact ⟨_,rfl⟩
   | false=>exact findA_total hs hk fun e he=>h e (.tail _ he)
theorem findA_mem {k v:AV}:∀ {es:List (AV × AV)},findA k es=some (some v)→∃ e∈es,e.2=v
 | [],h=>by injection h with h; cases h
 | (a,u)::es,h=>by
   simp only [findA] at h
   split at h
   ·injection h with h; injection h with h; exact ⟨_,.head _,h⟩
   ·obtain ⟨e,he,hv⟩:=findA_mem h; exact ⟨e,.tail _ he,hv⟩
   ·cases h
theorem updA_total {s:Sh} (hs:scal s=true) {k v:AV} (hk:s.ok k=true):∀ {es:List (AV × AV)},(∀ e∈es,s.ok e.1=true)→∃ r,updA k v es=some r∧∀ (q:AV × AV→Prop),q (k,v)→(∀ e∈es,q e)→∀ e∈r,q e
 | [],_=>⟨_,rfl,fun q h _ e he=>by simp at he; subst he; exact h⟩
 | (a,u)::es,h=>by
   obtain ⟨c,hc⟩:=keyEq_total hs hk (h _ (.head _))
   simp only [updA,hc]
   cases c with
   | true =>
     refine ⟨_,rfl,fun q h1 h2 e he=>?_⟩
     cases he with
     | head=>exact h1
     | tail _ he=>exact h2 e (.tail _ he)
   | false =>
     obtain ⟨r,hr,hq⟩:=updA_total hs hk (v:=v) fun e he=>h e (.tail _ he)
     simp only [hr,Option.map_some]
     refine ⟨_,rfl,fun q h1 h2 e he=>?_⟩
     cases he with
     | head=>exact h2 _ (.head _)
     | tail _ he=>exact hq q h1 (fun e he=>h2 e (.tail _ he)) e he
theorem lookT_den (hV:IsV Ω V) {ok:Bool} {s:Sh} {z kv:AV} {k:X} (hz:z.okv V st.hp.nx) (hk:kv=V k):∀ {es:List (AV × AV)} {st':SSt} {v:AV} {st1:SSt},Sim V σ Ls st' h→st'.hp=st.hp→(∀ e∈es,e.1.okv V st.hp.nx∧e.2.okv V st.hp.nx) →
  (lookT ok st' z s k es).sel V=some (v,st1)→scal s=true→s.ok (V k)=true →
  Sim V σ Ls st1 h∧st1.hp=st.hp∧∃ r,findA kv (es.map fun e=>(e.1.den V σ,e.2.den V σ))=some r ∧
   v.den V σ=(match r with | some u=>if ok then .tuple [u,.bool true] else u | none=>if ok then .tuple [z.den V σ,.bool false] else z.den V σ)∧v.okv V st.hp.nx
 | [],st',v,st1,S,e1,_,hs,_,_=>by
   injection hs with hs; obtain ⟨rfl,rfl⟩:=Prod.mk.inj hs
   refine ⟨S,e1,none,rfl,?_,?_⟩
   ·cases ok<;>rfl
   ·cases ok with
    | true=>exact ⟨hz,trivial,trivial⟩
    | false=>exact hz
 | (a,u)::es,st',v,st1,S,e1,ho,hs,hsc,hkk=>by
   simp only [lookT] at hs
   split at hs
   ·rename_i x hx
    obtain ⟨a1,a2,_⟩:=asX_den (σ:=σ) hV hx (ho _ (.head _)).1
    obtain ⟨c,hc⟩:=keyEq_total hsc hkk a2
    have hVe:V (.p .keq [k,x]) = .bool c:=by rw [hV.p]; simp only [List.map,Pr.sem,hc]
    have hit:∀ {v:AV} {st2:SSt},(if ok=true then AV.tuple [u,.bool true] else u)=v→c=true→∃ r,findA kv (((a,u)::es).map fun e=>(e.1.den V σ,e.2.den V σ))=some r ∧
      v.den V σ=(match r with | some u=>if ok then .tuple [u,.bool true] else u | none=>if ok then .tuple [z.den V σ,.bool false] else z.den V σ)∧v.okv V st.hp.nx:=by
     intro v st2 hv hct
     subst hct
     refine ⟨some (u.den V σ),by simp only [List.map_cons,findA,a1,hk,hc],?_,?_⟩
     ·subst hv; cases ok<;>rfl
     ·subst hv
      cases ok with
      | true=>exact ⟨(ho _ (.head _)).2,trivial,trivial⟩
      | false=>exact (ho _ (.head _)).2
    have miss:∀ {st2:SSt},Sim V σ Ls st2 h→st2.hp=st.hp→(lookT ok st2 z s k es).sel V=some (v,st1)→c=false→Sim V σ Ls st1 h∧st1.hp=st.hp∧∃ r,findA kv (((a,u)::es).map fun e=>(e.1.den V σ,e.2.den V σ))=some r ∧
      v.den V σ=(match r with | some u=>if ok then .tuple [u,.bool true] else u | none=>if ok then .tuple [z.den V σ,.bool false] else z.den V σ)∧v.okv V st.hp.nx:=by
     intro st2 S2 e2 hs2 hcf
     subst hcf
     obtain ⟨h1,h2,r,h3,h4⟩:=lookT_den hV hz hk S2 e2 (fun e he=>ho e (.tail _ he)) hs2 hsc hkk
     exact ⟨h1,h2,r,by simp only [List.map_cons,findA,a1,hk,hc]; rw [← hk]; exact h3,h4⟩
    split at hs
    ·rename_i hf
     have:=factOf_ok S.fx hf
     rw [hVe] at this
     injection hs with hs; simp only [Prod.mk.injEq] at hs; obtain ⟨hs,rfl⟩:=hs
     exact ⟨S,e1,hit (st2:=st') hs this⟩
    ·rename_i hf
     have:=factOf_ok S.fx hf
     rw [hVe] at this
     exact miss S e1 hs this
    ·rw [sel_ite] at hs
     rcases hs with ⟨hb,hs⟩ | ⟨hb,hs⟩
     ·injection hs with hs; simp only [Prod.mk.injEq] at hs; obtain ⟨hs,rfl⟩:=hs
      refine ⟨S.fact hb,e1,hit (st2:=st') hs ?_⟩
      rw [hVe] at hb; exact hb
     ·refine miss (S.fact hb) e1 hs ?_
      rw [hVe] at hb; exact hb
   ·cases hs
theorem fldsX_den (hV:IsV Ω V) {e:X} {r:List AV} (hr:(V e).aggL=r) :
  ∀ (cs:List Sh) (o:Nat),Sh.oks cs (r.drop o)=true→(fldsX e o cs).map (AV.den V σ)=r.drop o∧∀ x∈fldsX e o cs,x.okv V n
 | [],o,hok=>by
   have:=oks_length hok
   refine ⟨?_,fun _ h=>by cases h⟩
   simp only [fldsX,List.map_nil]
   exact (List.length_eq_zero_iff.1 (by simpa using this)).symm
 | c::cs,o,hok=>by
   cases hd:r.drop o with
   | nil=>rw [hd] at hok; simp [Sh.oks] at hok
   | cons a l =>
     rw [hd] at hok
     simp only [Sh.oks,Bool.and_eq_true] at hok
     have hl:r.drop (o+1)=l:=by rw [← List.drop_drop,hd]; rfl
     have ha:nth r o=some a:=by
      rw [nth_eq]
      have:=congrArg (fun l=>l[0]?) hd
      simpa using this
     have hv:V (.p (.fld o) [e])=a:=by rw [V_fld hV,hr,ha]; rfl
     obtain ⟨h1,h2⟩:=fldsX_den hV hr cs (o+1) (by rw [hl]; exact hok.2)
     obtain ⟨d1,d2⟩:=den_data (V:=V) (σ:=σ) (n:=n) (s:=c) (e:=.p (.fld o) [e]) (by rw [hv]; exact hok.1)
     refine ⟨?_,fun x hx=>?_⟩
     ·simp only [fldsX,List.map_cons,d1,hv,h1,hl]
     ·cases hx with
      | head=>exact d2
      | tail _ hx=>exact h2 x hx
def mvOk (ag:Bool) (cs:List Sh) (a:AV):Prop:=if ag then (∃ vs,a = .agg vs∧Sh.oks cs vs=true) else Sh.oks cs [a]=true
theorem ofMv_den (hV:IsV Ω V) {ag:Bool} {cs:List Sh} {e:X} {v:AV} (hok:mvOk ag cs (V e)) (h:ofMv ag cs e=some v):v.den V σ=V e∧v.okv V n:=by
 unfold ofMv at h
 unfold mvOk at hok
 cases ag with
 | true =>
   simp only [if_true] at h hok
   injection h with h; subst h
   obtain ⟨vs,h1,h2⟩:=hok
   obtain ⟨f1,f2⟩:=fldsX_den (σ:=σ) (n:=n) hV (e:=e) (r:=vs) (by rw [h1]; rfl) cs 0 (by simpa using h2)
   refine ⟨?_,(okvs_iff _).2 f2⟩
   simp only [AV.den,AV.dens_map,f1,h1,List.drop_zero]
 | false =>
   simp only [Bool.false_eq_true,if_false] at h hok
   split at h
   ·injection h with h; subst h
    simp only [Sh.oks,Bool.and_true] at hok
    exact den_data hok
   ·cases h
theorem asMv_den (hV:IsV Ω V) {ag:Bool} {cs:List Sh} {v:AV} {e:X} (ho:v.okv V n) (h:asMv ag cs v=some e):v.den V σ=V e∧mvOk ag cs (V e):=by
 unfold asMv at h
 unfold mvOk
 cases ag with
 | true =>
   simp only [if_true] at h ⊢
   split at h
   ·rename_i vs
    cases hx:asXs cs vs with
    | none=>rw [hx] at h; cases h
    | some es =>
      rw [hx] at h; injection h with h; subst h
      simp only [AV.okv,okvs_iff] at ho
      obtain ⟨a1,a2,_⟩:=asXs_den (σ:=σ) hV _ _ _ hx ho
      rw [hV.agg]
      exact ⟨by simp only [AV.den,AV.dens_map,a1],_,rfl,a2⟩
   ·cases h
 | false =>
   simp only [Bool.false_eq_true,if_false] at h ⊢
   split at h
   ·rename_i x hx
    injection h with h; subst h
    obtain ⟨a1,a2,_⟩:=asXs_den (σ:=σ) hV _ _ _ hx (fun y hy=>by simp at hy; subst hy; exact ho)
    simp only [List.map_cons,List.map_nil,List.cons.injEq,and_true] at a1
    exact ⟨a1.symm,a2⟩
   ·cases h
theorem lookupS_den (hV:IsV Ω V) (S:Sim V σ Ls st h) {t:TypeId} {m k v:AV} {ok:Bool} (hm:m.okv V st.hp.nx) (hk:k.okv V st.hp.nx) (hs:(lookupS T st t m k ok).sel V=some (v,st1)) :
  PR V σ Ls st st1 h (lookupA T h t (m.den V σ) (k.den V σ) ok) v:=by
 unfold lookupS at hs
 split at hs
 ·rename_i kt et t1
  split at hs
  ·rename_i s z t2 t3
   obtain ⟨z1,z2⟩:=den_zeroT (V:=V) (σ:=σ) (n:=st.hp.nx) t3
   split at hs
   ·rename_i hsc
    split at hs
    ·rename_i kx hkx
     obtain ⟨k1,k2,_⟩:=asX_den (σ:=σ) hV hkx hk
     have hko:keyOk T kt (k.den V σ)=true:=by rw [k1]; exact shT_keyOk t2 hsc k2
     split at hs
     ·rename_i key ag cs e hsym
      split at hs
      ·cases hs
      rename_i hkey
      have hkey:=Sh.eqb_eq (by simpa using hkey); subst hkey
      have hm':∃ es,V e = .im es∧(Sh.im key ag cs).ok (V e)=true∧mapA h (m.den V σ)=some es:=by
       unfold symMap at hsym
       split at hsym
       ·injection hsym with hsym
        simp only [Prod.mk.injEq] at hsym
        obtain ⟨rfl,rfl,rfl,rfl⟩:=hsym
        obtain ⟨es,he,_⟩:=ok_im hm
        exact ⟨es,he,hm,by simp only [AV.den,symD,he,mapA]⟩
       ·split at hsym
        ·rename_i hl
         injection hsym with hsym
         simp only [Prod.mk.injEq] at hsym
         obtain ⟨rfl,rfl,rfl,rfl⟩:=hsym
         have hok:=(S.oks _ _ hl).1
         obtain ⟨es,he,_⟩:=ok_im hok
         have hp:=S.core.get _ (.map es) (by rw [prom_sb S hl]; simp only [SB.prom,he])
         exact ⟨es,he,hok,by simp only [AV.den,symD,mapA,hp]⟩
        ·cases hsym
       ·cases hsym
      obtain ⟨es,he,hok,hma⟩:=hm'
      obtain ⟨es',he',hes⟩:=ok_im hok
      rw [he] at he'; injection he' with he'; subst he'
      obtain ⟨r,hr⟩:=findA_total hsc k2 (es:=es) fun e he=>(hes e he).1
      split at hs
      ·rename_i zx hz
       obtain ⟨y1,y2⟩:=asMv_den (σ:=σ) hV z2 hz
       split at hs
       ·rename_i u hu
        injection hs with hs; obtain ⟨rfl,rfl⟩:=Prod.mk.inj hs
        have hget:V (.p (.mget ag) [e,kx,zx])=r.getD (V zx):=by
         rw [hV.p]; simp only [List.map,Pr.sem,he,AV.entsL,hr]
         cases r<;>rfl
        have hhas:V (.p .mhas [e,kx]) = .bool r.isSome:=by
         rw [hV.p]; simp only [List.map,Pr.sem,he,AV.entsL,hr]
         cases r<;>rfl
        have hmv:mvOk ag cs (V (.p (.mget ag) [e,kx,zx])):=by
         rw [hget]
         cases r with
         | none=>exact y2
         | some w =>
           obtain ⟨q,hq,rfl⟩:=findA_mem hr
           exact (hes q hq).2
        obtain ⟨u1,u2⟩:=ofMv_den (σ:=σ) (n:=st.hp.nx) hV hmv hu
        have hb:=den_data (V:=V) (σ:=σ) (n:=st.hp.nx) (s:=.bool) (e:=.p .mhas [e,kx]) (by rw [hhas]; rfl)
        have hsd:symD V σ .bool (.p .mhas [e,kx]) = .bool r.isSome:=hhas
        refine ⟨?_,?_,S,rfl⟩
        ·simp only [lookupA,t1,hko,if_true,hma,t3]
         rw [k1,hr]
         cases r with
         | none =>
           cases ok with
           | true=>simp only [if_true,AV.den,AV.dens,u1,hget,hsd,Option.getD_none,Option.isSome_none]; rw [← y1,z1]
           | false=>simp only [Bool.false_eq_true,if_false,u1,hget,Option.getD_none]; rw [← y1,z1]
         | some w =>
           cases ok with
           | true=>simp only [if_true,AV.den,AV.dens,u1,hget,hsd,Option.getD_some,Option.isSome_some]
           | false=>simp only [Bool.false_eq_true,if_false,u1,hget,Option.getD_some]
        ·cases ok with
         | true=>exact ⟨u2,hb.2,trivial⟩
         | false=>exact u2
       ·cases hs
      ·cases hs
     ·split at hs
      ·rename_i es hes
       obtain ⟨m1,m2⟩:=mapA_den S.hg hm hes
       obtain ⟨h1,h2,r,h3,h4,h5⟩:=lookT_den (σ:=σ) hV (ok:=ok) z2 k1 S rfl m2 hs hsc k2
       refine ⟨?_,h5,h1,h2⟩
       simp only [lookupA,t1,hko,if_true,m1,t3,h3,h4,z1]
       cases r<;>rfl
      ·cases hs
    ·cases hs
   ·cases hs
  ·cases hs
 ·cases hs
end
section
variable {Ω:Om} {V:X→AV} {σ:Nat→Nat} {Ls:List (Nat × Nat)} {st st1:SSt} {h:Hp} {T:Tab} {n:Nat}
theorem mapUpdS_den (hV:IsV Ω V) (S:Sim V σ Ls st h) {t:TypeId} {m k v r:AV} (hm:m.okv V st.hp.nx) (hk:k.okv V st.hp.nx) (hv:v.okv V st.hp.nx) (hs:(mapUpdS T st t m k v).sel V=some (r,st1)) :
  r=undefA∧∃ h1,mapUpdA T h t (m.den V σ) (k.den V σ) (v.den V σ)=some h1∧Sim V σ Ls st1 h1∧st1.hp.nx=st.hp.nx:=by
 unfold mapUpdS at hs
 split at hs
 ·rename_i kt et b key0 ag0 cs0 e0 t1
  split at hs
  ·rename_i s key ag cs e t2 hl
   split at hs
   ·rename_i hc
    simp only [Bool.and_eq_true] at hc
    have hkey:=Sh.eqb_eq hc.1; subst hkey
    split at hs
    ·rename_i kx vx hkx hvx
     injection hs with hs; simp only [Prod.mk.injEq] at hs; obtain ⟨rfl,rfl⟩:=hs
     obtain ⟨k1,k2,_⟩:=asX_den (σ:=σ) hV hkx hk
     obtain ⟨v1,v2⟩:=asMv_den (σ:=σ) hV hv hvx
     have hok:=(S.oks _ _ hl).1
     obtain ⟨es,he,hes⟩:=ok_im hok
     obtain ⟨r,hr,hq⟩:=updA_total hc.2 k2 (v:=V vx) (es:=es) fun e he=>(hes e he).1
     have hp:=S.core.get b (.map es) (by rw [prom_sb S hl]; simp only [SB.prom,he])
     have hVe:V (.p .mput [e,kx,vx]) = .im r:=by rw [hV.p]; simp only [List.map,Pr.sem,he,AV.entsL,hr]
     have hmx:(V vx).mx=0:=by
      unfold mvOk at v2
      cases ag with
      | true =>
        simp only [if_true] at v2
        obtain ⟨vs,h1,h2⟩:=v2
        rw [h1,AV.mx,mxs_zero]
        intro y hy
        obtain ⟨j,hj⟩:=List.getElem?_of_mem hy
        have hl':=oks_length h2
        have hlj:j < cs.length:=by have:=(List.getElem?_eq_some_iff.1 hj).1; omega
        exact (ok_cell (oks_get h2 (List.getElem?_eq_getElem hlj) hj)).2.2.2.2.1
      | false =>
        simp only [Bool.false_eq_true,if_false] at v2
        cases cs with
        | nil=>simp [Sh.oks] at v2
        | cons c cs=>simp only [Sh.oks,Bool.and_eq_true] at v2; exact (ok_cell v2.1).2.2.2.2.1
     have S1:=Sim.setS S hl (B:=.map es) (by simp only [SB.prom,he]) (s':=.mp s ag cs (.p .mput [e,kx,vx])) (B':=.map r) (by simp only [SB.prom,hVe]) (by
      show (Sh.im s ag cs).ok _=true
      rw [hVe]
      simp only [Sh.ok,List.all_eq_true,Bool.and_eq_true]
      have hall:=hq (fun e=>s.ok e.1=true∧mvOk ag cs e.2) ⟨k2,v2⟩ (fun e he=>⟨(hes e he).1,(hes e he).2⟩)
      intro x hx
      obtain ⟨x1,x2⟩:=hall x hx
      refine ⟨x1,?_⟩
      unfold mvOk at x2
      cases ag with
      | true=>simp only [if_true] at x2 ⊢; obtain ⟨vs,h1,h2⟩:=x2; rw [h1]; exact h2
      | false=>simpa using x2)
     refine ⟨rfl,_,?_,S1,rfl⟩
     simp only [AV.den,symD,mapUpdA,t1,k1,shT_keyOk t2 hc.2 k2,if_true,hp,v1,hr,Option.map_some,hmx,Hp.leak,Nat.zero_le]
    ·cases hs
   ·cases hs
  ·cases hs
 ·rename_i kt et b t1
  split at hs
  ·rename_i s t2 hb
   split at hs
   ·rename_i hc
    simp only [Bool.and_eq_true] at hc
    obtain ⟨⟨hsc,hkc⟩,hvc⟩:=hc
    split at hs
    ·rename_i kx hkx
     injection hs with hs; simp only [Prod.mk.injEq] at hs; obtain ⟨rfl,rfl⟩:=hs
     obtain ⟨k1,k2,_⟩:=asX_den (σ:=σ) hV hkx hk
     obtain ⟨c1,_⟩:=S.hg.map hb
     have hS:=Sim.set S (B:=.map [(k,v)]) hb rfl (fun e he=>by
      simp only [List.mem_singleton] at he; subst he; exact ⟨hk,hv⟩) (m:=0) (m':=(v.den V σ).mx) (.inl ⟨rfl,den_mx0 hv (cl_mx hvc)⟩) (fun L hL hlt e he=>by
      simp only [List.mem_singleton] at he; subst he
      exact ⟨(cl_okv hkc hk).mono (Nat.zero_le _),(cl_okv hvc hv).mono (Nat.zero_le _)⟩)
     refine ⟨rfl,_,?_,hS,by show ((st.hp.set b (.map [(k,v)])).leak b 0).nx=_; rw [leak_nx,set_nx]⟩
     have k3:=shT_keyOk t2 hsc k2
     rw [← k1] at k3
     simp only [AV.den,mapUpdA,t1,k3,if_true,c1,List.map_nil,updA,Option.map_some]
     rfl
    ·cases hs
   ·cases hs
  ·cases hs
 ·cases hs
theorem Sim.make (S:Sim V σ Ls st h) {s:SB} {B:Blk} (hB:∀ B',s.prom V=some B'→B'=B) (ho:s.okS V):Sim V (ext1 σ st.hp.nx h.nx) Ls (st.make s) (h.push B) where
 core:=by
  have hag:=ext1_agr σ st.hp.nx h.nx
  refine S.core.push _ fun b D hb=>?_
  unfold prom promS SSt.make at hb
  simp only [get_push,lookS] at hb
  by_cases e:b=st.hp.nx
  ·subst e
   simp only [if_true,Blk.liveS,Bool.false_eq_true,if_false] at hb
   exact .inl ⟨rfl,hB _ hb⟩
  ·simp only [if_neg e] at hb
   have:prom V σ st b=some D:=by
    unfold prom promS
    cases hg:st.hp.get b with
    | none=>rw [hg] at hb; exact hb
    | some B1 =>
      rw [hg] at hb
      simp only at hb ⊢
      split at hb
      ·rename_i hl
       rw [if_pos hl]; rw [denB_agr hag (S.okb b B1 hg)] at hb; exact hb
      ·rename_i hl; rw [if_neg hl]; exact hb
   exact .inr ⟨(S.core.lt b D this).1,this⟩
 okb b B1 hb:=by
  have hb:(st.hp.push .dead).get b=some B1:=hb
  rw [get_push] at hb
  split at hb
  ·injection hb with hb; subst hb; trivial
  ·exact (S.okb b B1 hb).mono (Nat.le_succ _)
 oks t u hu:=by
  have hu:lookS ((st.hp.nx,s)::st.sb) t=some u:=hu
  simp only [lookS] at hu
  split at hu
  ·rename_i e; injection hu with hu; subst hu; subst e; exact ⟨ho,Nat.lt_succ_self _⟩
  ·exact ⟨(S.oks t u hu).1,Nat.lt_succ_of_lt (S.oks t u hu).2⟩
 dj t u B1 hu hb:=by
  have hu:lookS ((st.hp.nx,s)::st.sb) t=some u:=hu
  have hb:(st.hp.push .dead).get t=some B1:=hb
  rw [get_push] at hb
  simp only [lookS] at hu
  by_cases e:t=st.hp.nx
  ·rw [if_pos e] at hb; injection hb with hb; subst hb; rfl
  ·rw [if_neg e] at hb hu; exact S.dj t u B1 hu hb
 segS:=by
  show SegS Ls (st.hp.push .dead).segs
  rw [push_segs]; exact SegS.push (fun L hL=>(S.core.lv L hL).2.1) S.segS
 segA:=by rw [push_segs]; exact SegA.push (fun L hL=>(S.core.lv L hL).2.2) S.segA
 lk:=S.lk
 fx:=S.fx
 ids q hq e he:=by
  have hq:q∈(st.hp.push .dead).segs:=hq
  rw [push_segs] at hq
  have hn:(st.hp.push .dead).nx=st.hp.nx+1:=rfl
  show e < (st.hp.push .dead).nx
  rw [hn]
  cases hq with
  | head =>
    cases he with
    | head=>omega
    | tail _ he=>exact Nat.lt_succ_of_lt (S.ids _ (.head _) e he)
  | tail _ hq=>exact Nat.lt_succ_of_lt (S.ids q (.tail _ hq) e he)
 old L hL b B1 hb hg:=by
  have hg:(st.hp.push .dead).get b=some B1:=hg
  have:=(S.core.lv L hL).2.1
  rw [get_push,if_neg (by omega)] at hg
  exact S.old L hL b B1 hb hg
theorem Sim.over {st0:SSt} (S:Sim V σ Ls st h) (hn:st0.hp.nx=st.hp.nx) (hl:st0.hp.lk=st.hp.lk) (hsg:st0.hp.segs=st.hp.segs) (hf:st0.fx=st.fx) {s:SB} (ho:s.okS V) {b:Nat}
  (hp:∀ c D,prom V σ st0 c=some D→c ≠ b∧prom V σ st c=some D) (hd:∀ c B,st0.hp.get c=some B→st.hp.get c=some B∨B = .dead) (hs0:∀ t u,lookS st0.sb t=some u→lookS st.sb t=some u)
  (hB:∀ B',s.prom V=some B'→prom V σ st b=some B') (hb:∀ L∈Ls,L.1≤b):Sim V (ext1 σ st.hp.nx (σ b)) Ls (st0.make s) h where
 core:=by
  have hag:=ext1_agr σ st.hp.nx (σ b)
  have hpr:∀ c D,prom V (ext1 σ st.hp.nx (σ b)) (st0.make s) c=some D→(c=st.hp.nx∧prom V σ st b=some D)∨(c < st.hp.nx∧c ≠ b∧prom V σ st c=some D):=by
   intro c D hc
   unfold prom promS SSt.make at hc
   simp only [get_push,lookS,hn] at hc
   by_cases e:c=st.hp.nx
   ·subst e
    simp only [if_true,Blk.liveS,Bool.false_eq_true,if_false] at hc
    exact .inl ⟨rfl,hB _ hc⟩
   ·simp only [if_neg e] at hc
    have:prom V σ st0 c=some D:=by
     unfold prom promS
     cases hg:st0.hp.get c with
     | none=>rw [hg] at hc; exact hc
     | some B1 =>
       rw [hg] at hc
       simp only at hc ⊢
       split at hc
       ·rename_i hl
        rw [if_pos hl]
        have hok:B1.okB V st.hp.nx:=by
         rcases hd c B1 hg with h1 | rfl
         ·exact S.okb c B1 h1
         ·trivial
        rw [denB_agr hag hok] at hc; exact hc
       ·rename_i hl; rw [if_neg hl]; exact hc
    obtain ⟨h1,h2⟩:=hp c D this
    exact .inr ⟨(S.core.lt c D h2).1,h1,h2⟩
  have hnx:(st0.make s).hp.nx=st.hp.nx+1:=by show st0.hp.nx+1=_; rw [hn]
  rw [hnx]
  refine ⟨fun c D hc=>?_,fun c d D F hc hd' e=>?_,fun c D hc=>?_,fun L hL=>⟨fun c D hc=>?_,Nat.le_succ_of_le (S.core.lv L hL).2.1,(S.core.lv L hL).2.2⟩⟩
  ·rcases hpr c D hc with ⟨rfl,h1⟩ | ⟨h0,h1,h2⟩
   ·simp only [ext1,if_true]; exact S.core.get b D h1
   ·simp only [ext1,if_neg (show ¬ c=st.hp.nx by omega)]; exact S.core.get c D h2
  ·rcases hpr c D hc with ⟨rfl,h1⟩ | ⟨h0,h1,h2⟩<;>rcases hpr d F hd' with ⟨rfl,h1'⟩ | ⟨h0',h1',h2'⟩
   ·rfl
   ·simp only [ext1,if_true,if_neg (show ¬ d=st.hp.nx by omega)] at e
    exact (h1' (S.core.inj b d D F h1 h2' e).symm).elim
   ·simp only [ext1,if_true,if_neg (show ¬ c=st.hp.nx by omega)] at e
    exact (h1 (S.core.inj c b D F h2 h1' e)).elim
   ·simp only [ext1,if_neg (show ¬ c=st.hp.nx by omega),if_neg (show ¬ d=st.hp.nx by omega)] at e
    exact S.core.inj c d D F h2 h2' e
  ·rcases hpr c D hc with ⟨rfl,h1⟩ | ⟨h0,h1,h2⟩
   ·simp only [ext1,if_true]; exact ⟨Nat.lt_succ_self _,(S.core.lt b D h1).2⟩
   ·simp only [ext1,if_neg (show ¬ c=st.hp.nx by omega)]; exact ⟨Nat.lt_succ_of_lt h0,(S.core.lt c D h2).2⟩
  ·rcases hpr c D hc with ⟨rfl,h1⟩ | ⟨h0,h1,h2⟩
   ·simp only [ext1,if_true]
    have h3:=((S.core.lv L hL).1 b D h1).1 (hb L hL)
    have h4:=(S.core.lv L hL).2.1
    omega
   ·simp only [ext1,if_neg (show ¬ c=st.hp.nx by omega)]; exact (S.core.lv L hL).1 c D h2
 okb c B1 hc:=by
  have hc:(st0.hp.push .dead).get c=some B1:=hc
  have hnx:(st0.make s).hp.nx=st.hp.nx+1:=by show st0.hp.nx+1=_; rw [hn]
  rw [hnx]
  rw [get_push] at hc
  split at hc
  ·injection hc with hc; subst hc; trivial
  ·rcases hd c B1 hc with h1 | rfl
   ·exact (S.okb c B1 h1).mono (Nat.le_succ _)
   ·trivial
 oks t u hu:=by
  have hnx:(st0.make s).hp.nx=st.hp.nx+1:=by show st0.hp.nx+1=_; rw [hn]
  rw [hnx]
  have hu:lookS ((st0.hp.nx,s)::st0.sb) t=some u:=hu
  simp only [lookS] at hu
  split at hu
  ·rename_i e; injection hu with hu; subst hu; exact ⟨ho,by omega⟩
  ·exact ⟨(S.oks t u (hs0 t u hu)).1,Nat.lt_succ_of_lt (S.oks t u (hs0 t u hu)).2⟩
 dj t u B1 hu hc:=by
  have hu:lookS ((st0.hp.nx,s)::st0.sb) t=some u:=hu
  have hc:(st0.hp.push .dead).get t=some B1:=hc
  rw [get_push] at hc
  simp only [lookS] at hu
  by_cases e:t=st0.hp.nx
  ·rw [if_pos e] at hc; injection hc with hc; subst hc; rfl
  ·rw [if_neg e] at hc hu
   rcases hd t B1 hc with h1 | rfl
   ·exact S.dj t u B1 (hs0 t u hu) h1
   ·rfl
 segS:=by
  show SegS Ls (st0.hp.push .dead).segs
  rw [push_segs]
  have:=S.segS
  rw [← hsg] at this
  exact SegS.push (fun L hL=>by rw [hn]; exact (S.core.lv L hL).2.1) this
 segA:=S.segA
 lk L hL hk:=S.lk L hL (by rw [← hl]; exact hk)
 fx:=by show ∀ e∈st0.fx,_; rw [hf]; exact S.fx
 ids q hq e he:=by
  have hq:q∈(st0.hp.push .dead).segs:=hq
  have hnx:(st0.make s).hp.nx=st.hp.nx+1:=by show st0.hp.nx+1=_; rw [hn]
  rw [hnx]
  rw [push_segs] at hq
  have hids:=S.ids
  rw [← hsg] at hids
  cases hq with
  | head =>
    cases he with
    | head=>omega
    | tail _ he=>exact Nat.lt_succ_of_lt (hids _ (.head _) e he)
  | tail _ hq=>exact Nat.lt_succ_of_lt (hids q (.tail _ hq) e he)
 old L hL c B1 hc hg:=by
  have hg:(st0.hp.push .dead).get c=some B1:=hg
  have:=(S.core.lv L hL).2.1
  rw [get_push,if_neg (by omega)] at hg
  rcases hd c B1 hg with h1 | rfl
  ·exact S.old L hL c B1 hc h1
  ·trivial
theorem rangeS_den (hV:IsV Ω V) (S:Sim V σ Ls st h) {t:TypeId} {x v:AV} (hx:x.okv V st.hp.nx) (hs:(rangeS T st t x).sel V=some (v,st1)) :
  ∃ h1 σ1,rangeA T h t (x.den V σ)=some (v.den V σ1,h1)∧Res V σ σ1 Ls st st1 v h1:=by
 unfold rangeS at hs
 split at hs
 ·rename_i s t1 h1
  obtain ⟨a1,a2⟩:=asS_den (σ:=σ) hV h1 hx
  injection hs with hs; obtain ⟨rfl,rfl⟩:=Prod.mk.inj hs
  have e0:V (xI 0) = .int .i64 0:=hV.i _ _
  refine ⟨_,ext1 σ st.hp.nx h.nx,?_,Sim.make S (B:=.siter (V s).sS 0) ?_ ?_,?_,ext1_agr _ _ _,Nat.le_succ _⟩
  ·simp only [a1,rangeA,t1,AV.den,symD,ext1,if_true]
  ·intro B' hB'
   simp only [SB.prom,e0,AV.nI] at hB'
   injection hB' with hB'; exact hB'.symm
  ·refine ⟨by rw [a2]; rfl,by rw [e0]; rfl,by rw [e0]; exact Int.le_refl _⟩
  ·exact Nat.lt_succ_self _
 ·cases hs
theorem nextS_den (hV:IsV Ω V) (S:Sim V σ Ls st h) {x v:AV} {isS:Bool} (hx:x.okv V st.hp.nx) (hs:(nextS st x isS).sel V=some (v,st1)) :
  ∃ h1 σ1,nextA h (x.den V σ) isS=some (v.den V σ1,h1)∧Res V σ σ1 Ls st st1 v h1:=by
 unfold nextS at hs
 split at hs
 ·rename_i b e0
  split at hs
  ·rename_i s p hl
   obtain ⟨⟨o1,o2,o3⟩,_⟩:=S.oks _ _ hl
   have hp:=S.core.get b (.siter (V s).sS (V p).nI.toNat) (by rw [prom_sb S hl]; rfl)
   have hs1:=ok_str o1
   have hp1:=ok_int o2
   have hlen:(V s).lenN=(V s).sS.size:=by rw [hs1]; rfl
   have hc:V (.p (.bin .lss .i64) [p,xLen s]) = .bool (decide ((V p).nI < (V s).sS.size)):=by rw [V_bin hV,V_len hV,hlen]; rfl
   simp only at hs
   rw [sel_ite,hc] at hs
   rcases hs with ⟨hb,hs⟩ | ⟨hb,hs⟩
   ·injection hs with hs; obtain ⟨rfl,rfl⟩:=Prod.mk.inj hs
    simp only [AV.bB,decide_eq_true_eq] at hb
    have S1:=S.fact (x:=.p (.bin .lss .i64) [p,xLen s]) (b:=true) (by rw [hc]; simpa [AV.bB] using hb)
    have hr:V (.p .rune [s,p]) = .int .i32 (Utf8.decode (V s).sS (V p).nI.toNat).1:=by rw [hV.p]; rfl
    have hw:V (.p .adv [s,p]) = .int .i64 ((V p).nI+(Utf8.decode (V s).sS (V p).nI.toNat).2):=by rw [hV.p]; rfl
    have hB:(SB.si s (.p .adv [s,p])).prom V=some (.siter (V s).sS ((V p).nI.toNat+(Utf8.decode (V s).sS (V p).nI.toNat).2)):=by
     simp only [SB.prom,hw]
     show some (Blk.siter (V s).sS ((V p).nI+((Utf8.decode (V s).sS (V p).nI.toNat).2:Int)).toNat)=_
     rw [show ((V p).nI+((Utf8.decode (V s).sS (V p).nI.toNat).2:Int)).toNat=(V p).nI.toNat+(Utf8.decode (V s).sS (V p).nI.toNat).2 by omega]
    have S2:=Sim.setS S1 (b:=b) (s:=.si s p) hl rfl hB ⟨o1,by rw [hw]; rfl,by rw [hw]; show 0≤(V p).nI+((Utf8.decode (V s).sS (V p).nI.toNat).2:Int); omega⟩
    refine ⟨_,σ,?_,S2,⟨trivial,symOk_int _ hp1,symOk_int _ hr,trivial⟩,Agr.refl _ _,Nat.le_refl _⟩
    simp only [AV.den,AV.dens,symD,nextA,hp]
    have e1:(((V p).nI.toNat:Nat):Int)=(V p).nI:=Int.toNat_of_nonneg o3
    have e2:AV.int .i64 (((V p).nI.toNat:Nat):Int)=V p:=by rw [e1]; exact hp1.symm
    rw [if_pos (by omega),hr,e2]
   ·injection hs with hs; obtain ⟨rfl,rfl⟩:=Prod.mk.inj hs
    simp only [AV.bB,decide_eq_false_iff_not] at hb
    refine ⟨h,σ,?_,S.fact (by rw [hc]; simpa [AV.bB] using hb),⟨trivial,trivial⟩,Agr.refl _ _,Nat.le_refl _⟩
    simp only [AV.den,symD,nextA,hp]
    rw [if_neg (by omega)]
    rfl
  ·cases hs
 ·cases hs
end
end Go.Proofs.YtdjngcfnlfgjkaaGreatDoor.AM
