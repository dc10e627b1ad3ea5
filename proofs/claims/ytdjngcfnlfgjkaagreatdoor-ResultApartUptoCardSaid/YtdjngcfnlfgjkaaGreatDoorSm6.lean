/-
  The symbolic machine is sound: a function, from its tree; readings of arguments.
-/
import Derived.Test.YtdjngcfnlfgjkaaGreatDoorSm5
import Derived.Test.YtdjngcfnlfgjkaaGreatDoorAm5
import Derived.ChangeShapes
import Derived.ChangeArms
import Derived.OpenShut
import GoSem.ClaimChange
set_option linter.unusedVariables false
set_option linter.unusedSimpArgs false
set_option linter.unusedSectionVars false
namespace Go.Proofs.YtdjngcfnlfgjkaaGreatDoor.AM
section
variable {Ω:Om} {V V':X→AV} {σ σ':Nat→Nat} {Ls:List (Nat × Nat)} {st st1:SSt} {h:Hp} {T:Tab} {n m lo:Nat} {O:List Nat} {H:Hp}
def srcR (σ σ':Nat→Nat) (e:Nat × Src):Prop :=
 match e.2 with
 | .own t=>σ' e.1=σ t
 | .exp b=>σ' e.1=σ b
 | .nils=>True
structure AsgOk (V V':X→AV) (σ σ':Nat→Nat) (r:Asg):Prop where
 xs:∀ e∈r.xs,V' (.v e.1)=V e.2
 ts:∀ e∈r.ts,srcR σ σ' e
theorem AsgOk.left {a b:Asg} (h:AsgOk V V' σ σ' (a.add b)):AsgOk V V' σ σ' a:=⟨fun e he=>h.xs e (List.mem_append_left _ he),fun e he=>h.ts e (List.mem_append_left _ he)⟩
theorem AsgOk.right {a b:Asg} (h:AsgOk V V' σ σ' (a.add b)):AsgOk V V' σ σ' b:=⟨fun e he=>h.xs e (List.mem_append_right _ he),fun e he=>h.ts e (List.mem_append_right _ he)⟩
theorem mtcOwn_den (hV:IsV Ω V) (hg:HG V σ n H h) {t j:Nat} {cs:List Sh} {a:AV} {r:Asg} (hm:mtcOwn H t cs j a=some r) (ho:a.okv V n) (hA:AsgOk V V' σ σ' r) (ht:t < m) :
  (AV.sym (.own t cs) (.v j)).den V' σ'=a.den V σ∧(AV.sym (.own t cs) (.v j)).okv V' m:=by
 unfold mtcOwn at hm
 split at hm
 ·rename_i t' cs' e
  split at hm
  ·rename_i hc
   injection hm with hm; subst hm
   have:=Sh.eqbs_eq hc; subst this
   have h1:=hA.xs _ (.head _)
   have h2:σ' t=σ t':=hA.ts _ (.head _)
   simp only at h1
   exact ⟨by simp only [AV.den,symD,h1,h2],ht,by rw [h1]; exact ho.2⟩
  ·cases hm
 ·injection hm with hm; subst hm
  have h1:=hA.xs _ (.head _)
  simp only [hV.nils] at h1
  exact ⟨by simp only [AV.den,symD,h1],ht,by rw [h1]; rfl⟩
 ·rename_i b len
  split at hm
  ·rename_i k rows hb
   split at hm
   ·rename_i hc
    split at hm
    ·rename_i rx hr
     injection hm with hm; subst hm
     obtain ⟨c1,c2⟩:=hg.cells hb
     have h1:=hA.xs _ (.head _)
     have h2:σ' t=σ b:=hA.ts _ (.head _)
     simp only at h1
     obtain ⟨a1,a2,_⟩:=asXc_den (σ:=σ) (n:=n) hV (.sl cs) (.sl k rows) (.sl k rx) (by simp only [asXc,hc.2,if_true,hr]) ((okvss_iff _).2 c2)
     rw [← a1] at a2 h1
     simp only [AV.den,AV.denss_map] at h1
     refine ⟨by simp only [AV.den,symD,h1,h2,List.length_map,hc.1],ht,?_⟩
     rw [h1]
     simp only [AV.den,AV.denss_map] at a2
     exact a2
    ·cases hm
   ·cases hm
  ·cases hm
 ·cases hm
theorem mtc_eqb {p a:AV} {r:Asg} (hO:∀ b,O.contains b=false→σ' b=σ b) (hm:(if p.eqb a&&p.gnd O then some noAsg else none)=some r) (hl:p.ltB m=true):p.den V' σ'=a.den V σ∧p.okv V' m:=by
 split at hm
 ·rename_i hc
  simp only [Bool.and_eq_true] at hc
  have:=AV.eqb_eq _ _ hc.1; subst this
  exact ⟨gnd_den hO hc.2,gnd_okv hc.2 hl⟩
 ·cases hm
theorem symLt {s:Sh} {e:X} (h:(AV.sym s e).ltB m=true):s.mx≤m:=by simpa [AV.ltB] using h
theorem mtcData_den (hV:IsV Ω V) (hlow:∀ j,j < lo→V' (.v j)=V (.v j)) {s:Sh} {e:X} {a:AV} {r:Asg} (hd:s.data=true) (hm:mtcData lo s e a=some r) (ho:a.okv V n) (hA:AsgOk V V' σ σ' r) :
  (AV.sym s e).den V' σ'=a.den V σ∧(AV.sym s e).okv V' m:=by
 unfold mtcData at hm
 split at hm
 ·rename_i j
  split at hm
  ·split at hm
   ·rename_i x hx
    injection hm with hm; subst hm
    obtain ⟨a1,a2,_⟩:=asX_den (σ:=σ) hV hx ho
    have h1:=hA.xs _ (.head _)
    simp only at h1
    have:=den_data (V:=V') (σ:=σ') (n:=m) (s:=s) (e:=.v j) (by rw [h1]; exact a2)
    exact ⟨by rw [this.1,h1,a1],this.2⟩
   ·cases hm
  ·rename_i hj
   split at hm
   ·rename_i he
    have:=AV.eqb_eq _ _ he; subst this
    have hok:s.ok (V (.v j))=true:=by cases s<;>simp [Sh.data] at hd<;>exact ho
    have h1:=den_data (V:=V) (σ:=σ) (n:=m) (s:=s) (e:=.v j) hok
    have h2:=den_data (V:=V') (σ:=σ') (n:=m) (s:=s) (e:=.v j) (by rw [hlow j (by omega)]; exact hok)
    exact ⟨by rw [h1.1,h2.1,hlow j (by omega)],h2.2⟩
   ·cases hm
 ·cases hm
mutual
theorem mtc_den (hV:IsV Ω V) (hg:HG V σ n H h) (hO:∀ b,O.contains b=false→σ' b=σ b) (hlow:∀ j,j < lo→V' (.v j)=V (.v j)):∀ (p a:AV) (r:Asg),mtc H lo O p a=some r→a.okv V n→AsgOk V V' σ σ' r→p.ltB m=true→p.den V' σ'=a.den V σ∧p.okv V' m
 | .sym s e,a,r,hm,ho,hA,hl=>by
   have hlt:=symLt hl
   have data:∀ {s:Sh},s.data=true→mtcData lo s e a=some r→(AV.sym s e).den V' σ'=a.den V σ∧(AV.sym s e).okv V' m:=fun hd hm=>mtcData_den hV hlow hd hm ho hA
   cases s with
   | own t cs =>
     simp only [mtc] at hm
     split at hm
     ·rename_i j
      split at hm
      ·exact mtcOwn_den hV hg hm ho hA hlt
      ·cases hm
     ·cases hm
   | mown t k ag cs =>
     simp only [mtc] at hm
     split at hm
     ·split at hm
      ·split at hm
       ·injection hm with hm; subst hm
        have h2:=hA.ts _ (.head _)
        simp only [srcR] at h2
        exact ⟨by simp only [AV.den,symD,h2],hlt⟩
       ·cases hm
      ·injection hm with hm; subst hm
       have h2:=hA.ts _ (.head _)
       simp only [srcR] at h2
       exact ⟨by simp only [AV.den,symD,h2],hlt⟩
      ·cases hm
     ·cases hm
   | sown t =>
     simp only [mtc] at hm
     split at hm
     ·split at hm
      ·injection hm with hm; subst hm
       have h2:=hA.ts _ (.head _)
       simp only [srcR] at h2
       exact ⟨by simp only [AV.den,symD,h2],hlt⟩
      ·cases hm
     ·cases hm
   | optr t o cs=>simp only [mtc] at hm; cases hm
   | bool=>simp only [mtc] at hm; exact data rfl hm
   | int k=>simp only [mtc] at hm; exact data rfl hm
   | str=>simp only [mtc] at hm; exact data rfl hm
   | sl cs=>simp only [mtc] at hm; exact data rfl hm
   | im k ag cs=>simp only [mtc] at hm; exact data rfl hm
 | .agg ps,a,r,hm,ho,hA,hl=>by
   cases a<;>simp only [mtc] at hm<;>try (simp [AV.eqb] at hm; done)
   obtain ⟨h1,h2⟩:=mtcs_den hV hg hO hlow ps _ r hm ho hA hl
   exact ⟨by simp only [AV.den,h1],h2⟩
 | .tuple ps,a,r,hm,ho,hA,hl=>by
   cases a<;>simp only [mtc] at hm<;>try (simp [AV.eqb] at hm; done)
   obtain ⟨h1,h2⟩:=mtcs_den hV hg hO hlow ps _ r hm ho hA hl
   exact ⟨by simp only [AV.den,h1],h2⟩
 | .ref ps,a,r,hm,ho,hA,hl=>by
   cases a<;>simp only [mtc] at hm<;>try (simp [AV.eqb] at hm; done)
   obtain ⟨h1,h2⟩:=mtcs_den hV hg hO hlow ps _ r hm ho hA hl
   exact ⟨by simp only [AV.den,h1],h2⟩
 | .func f ps qs,a,r,hm,ho,hA,hl=>by
   cases a<;>simp only [mtc] at hm<;>try (simp [AV.eqb] at hm; done)
   split at hm
   ·rename_i hf
    obtain ⟨x,y,h1,h2,rfl⟩:=addO_some hm
    simp only [AV.ltB,Bool.and_eq_true] at hl
    obtain ⟨a1,a2⟩:=mtcs_den hV hg hO hlow ps _ x h1 ho.1 hA.left hl.1
    obtain ⟨b1,b2⟩:=mtcs_den hV hg hO hlow qs _ y h2 ho.2 hA.right hl.2
    exact ⟨by simp only [AV.den,a1,b1,hf],a2,b2⟩
   ·cases hm
 | .junk,a,r,hm,ho,hA,hl=>mtc_eqb (O:=O) (r:=r) hO (by cases a<;>simpa only [mtc] using hm) hl
 | .bool _,a,r,hm,ho,hA,hl=>mtc_eqb (O:=O) (r:=r) hO (by cases a<;>simpa only [mtc] using hm) hl
 | .int _ _,a,r,hm,ho,hA,hl=>mtc_eqb (O:=O) (r:=r) hO (by cases a<;>simpa only [mtc] using hm) hl
 | .str _,a,r,hm,ho,hA,hl=>mtc_eqb (O:=O) (r:=r) hO (by cases a<;>simpa only [mtc] using hm) hl
 | .nilp,a,r,hm,ho,hA,hl=>mtc_eqb (O:=O) (r:=r) hO (by cases a<;>simpa only [mtc] using hm) hl
 | .ptr _ _ _,a,r,hm,ho,hA,hl=>mtc_eqb (O:=O) (r:=r) hO (by cases a<;>simpa only [mtc] using hm) hl
 | .it _,a,r,hm,ho,hA,hl=>mtc_eqb (O:=O) (r:=r) hO (by cases a<;>simpa only [mtc] using hm) hl
 | .nils,a,r,hm,ho,hA,hl=>mtc_eqb (O:=O) (r:=r) hO (by cases a<;>simpa only [mtc] using hm) hl
 | .sl _ _,a,r,hm,ho,hA,hl=>mtc_eqb (O:=O) (r:=r) hO (by cases a<;>simpa only [mtc] using hm) hl
 | .ms _ _ _,a,r,hm,ho,hA,hl=>mtc_eqb (O:=O) (r:=r) hO (by cases a<;>simpa only [mtc] using hm) hl
 | .nilm,a,r,hm,ho,hA,hl=>mtc_eqb (O:=O) (r:=r) hO (by cases a<;>simpa only [mtc] using hm) hl
 | .mp _,a,r,hm,ho,hA,hl=>mtc_eqb (O:=O) (r:=r) hO (by cases a<;>simpa only [mtc] using hm) hl
 | .im _,a,r,hm,ho,hA,hl=>mtc_eqb (O:=O) (r:=r) hO (by cases a<;>simpa only [mtc] using hm) hl
 | .yld _,a,r,hm,ho,hA,hl=>mtc_eqb (O:=O) (r:=r) hO (by cases a<;>simpa only [mtc] using hm) hl
 | .nilf,a,r,hm,ho,hA,hl=>mtc_eqb (O:=O) (r:=r) hO (by cases a<;>simpa only [mtc] using hm) hl
 | .iface _ _,a,r,hm,ho,hA,hl=>mtc_eqb (O:=O) (r:=r) hO (by cases a<;>simpa only [mtc] using hm) hl
 | .nili,a,r,hm,ho,hA,hl=>mtc_eqb (O:=O) (r:=r) hO (by cases a<;>simpa only [mtc] using hm) hl
theorem mtcs_den (hV:IsV Ω V) (hg:HG V σ n H h) (hO:∀ b,O.contains b=false→σ' b=σ b) (hlow:∀ j,j < lo→V' (.v j)=V (.v j)):∀ (p a:List AV) (r:Asg),mtcs H lo O p a=some r→AV.okvs V n a→AsgOk V V' σ σ' r→AV.ltBs m p=true→AV.dens V' σ' p=AV.dens V σ a∧AV.okvs V' m p
 | [],a,r,hm,_,_,_=>by
   cases a with
   | nil=>exact ⟨rfl,trivial⟩
   | cons _ _=>simp [mtcs] at hm
 | p::ps,[],r,hm,_,_,_=>by simp [mtcs] at hm
 | p::ps,a::as,r,hm,ho,hA,hl=>by
   simp only [mtcs] at hm
   obtain ⟨x,y,h1,h2,rfl⟩:=addO_some hm
   simp only [AV.ltBs,Bool.and_eq_true] at hl
   obtain ⟨a1,a2⟩:=mtc_den hV hg hO hlow p a x h1 ho.1 hA.left hl.1
   obtain ⟨b1,b2⟩:=mtcs_den hV hg hO hlow ps as y h2 ho.2 hA.right hl.2
   exact ⟨by simp only [AV.dens,a1,b1],a2,b2⟩
end
theorem mtcss_den (hV:IsV Ω V) (hg:HG V σ n H h) (hO:∀ b,O.contains b=false→σ' b=σ b) (hlow:∀ j,j < lo→V' (.v j)=V (.v j)):∀ (p a:List (List AV)) (r:Asg),mtcss H lo O p a=some r→AV.okvss V n a→AsgOk V V' σ σ' r→AV.ltBss m p=true→AV.denss V' σ' p=AV.denss V σ a∧AV.okvss V' m p
 | [],a,r,hm,_,_,_=>by
   cases a with
   | nil=>exact ⟨rfl,trivial⟩
   | cons _ _=>simp [mtcss] at hm
 | p::ps,[],r,hm,_,_,_=>by simp [mtcss] at hm
 | p::ps,a::as,r,hm,ho,hA,hl=>by
   simp only [mtcss] at hm
   obtain ⟨x,y,h1,h2,rfl⟩:=addO_some hm
   simp only [AV.ltBss,Bool.and_eq_true] at hl
   obtain ⟨a1,a2⟩:=mtcs_den hV hg hO hlow p a x h1 ho.1 hA.left hl.1
   obtain ⟨b1,b2⟩:=mtcss_den hV hg hO hlow ps as y h2 ho.2 hA.right hl.2
   exact ⟨by simp only [AV.denss,a1,b1],a2,b2⟩
theorem mtc_junk {p:AV} {r:Asg} (hp:p.un=false) (hm:mtc H lo O p .junk=some r):False:=by
 cases p<;>simp only [mtc] at hm<;>try (simp [AV.eqb] at hm; done)
 ·simp [AV.un] at hp
 ·rename_i s e
  cases s<;>simp only at hm
  case own t cs =>
   split at hm
   ·split at hm
    ·simp [mtcOwn] at hm
    ·cases hm
   ·cases hm
  case mown=>split at hm<;>cases hm
  case sown=>split at hm<;>cases hm
  case optr=>cases hm
  all_goals
   unfold mtcData at hm
   split at hm
   ·split at hm
    ·rw [asX_junk] at hm; cases hm
    ·simp [AV.eqb] at hm
   ·cases hm
theorem mtcFr_den (hV:IsV Ω V) (hg:HG V σ n H h) (hO:∀ b,O.contains b=false→σ' b=σ b) (hlow:∀ j,j < lo→V' (.v j)=V (.v j)):∀ {pf f f':List AV} {r:Asg},mtcFr H lo O pf f=some r→FrS V σ n f f'→AsgOk V V' σ σ' r→AV.ltBs m pf=true→FrS V' σ' m pf f'
 | [],f,f',r,hm,hf,hA,hl=>by
   cases f with
   | nil=>cases hf; exact .nil
   | cons _ _=>simp [mtcFr] at hm
 | p::ps,[],f',r,hm,hf,hA,hl=>by cases p<;>simp [mtcFr] at hm
 | p::ps,a::as,f',r,hm,hf,hA,hl=>by
   cases hf with
   | cons _ a' _ l' h1 h2 =>
     simp only [AV.ltBs,Bool.and_eq_true] at hl
     have notj:(if p.un then none else addO (mtc H lo O p a) (mtcFr H lo O ps as))=some r→FrS V' σ' m (p::ps) (a'::l'):=by
      intro hm
      split at hm
      ·cases hm
      ·rename_i hu
       have hu:p.un=false:=by simpa using hu
       obtain ⟨x,y,hx,hy,rfl⟩:=addO_some hm
       refine .cons _ _ _ _ ?_ (mtcFr_den hV hg hO hlow hy h2 hA.right hl.2)
       rcases h1 with rfl | ⟨h1,rfl⟩
       ·exact (mtc_junk hu hx).elim
       ·obtain ⟨d1,d2⟩:=mtc_den hV hg hO hlow p a x hx h1 hA.left hl.1
        exact .inr ⟨d2,d1.symm⟩
     cases p with
     | junk =>
       simp only [mtcFr] at hm
       exact .cons _ _ _ _ (.inl rfl) (mtcFr_den hV hg hO hlow hm h2 hA hl.2)
     | _=>exact notj (by simpa only [mtcFr] using hm)
theorem mtcTop_den (hV:IsV Ω V) (hg:HG V σ n H h) (hO:∀ b,O.contains b=false→σ' b=σ b) (hlow:∀ j,j < lo→V' (.v j)=V (.v j)):∀ {l:List (Nat × Blk)} {r:Asg},mtcTop H lo O l=some r→AsgOk V V' σ σ' r→topOk m l=true →
  ∀ b B,(b,B)∈l→B = .dead∨(B.liveS=true∧O.contains b=false∧b < m∧B.okB V' m∧∃ B',H.get b=some B'∧B'.liveS=true∧B.denB V' σ'=B'.denB V σ)
 | [],r,hm,hA,hl,b,B,hb=>by cases hb
 | (c,.dead)::l,r,hm,hA,hl,b,B,hb=>by
   simp only [mtcTop] at hm
   simp only [topOk,Bool.and_eq_true] at hl
   cases hb with
   | head=>exact .inl rfl
   | tail _ hb=>exact mtcTop_den hV hg hO hlow hm hA hl.2 b B hb
 | (c,.cells k rows)::l,r,hm,hA,hl,b,B,hb=>by
   simp only [mtcTop] at hm
   simp only [topOk,Bool.and_eq_true,decide_eq_true_eq] at hl
   split at hm
   ·cases hm
   ·rename_i hc
    split at hm
    ·rename_i k' rows' hget
     split at hm
     ·rename_i hk
      subst hk
      obtain ⟨x,y,hx,hy,rfl⟩:=addO_some hm
      cases hb with
      | head =>
        right
        obtain ⟨c1,c2⟩:=hg.cells hget
        obtain ⟨d1,d2⟩:=mtcss_den hV hg hO hlow rows rows' x hx ((okvss_iff _).2 c2) hA.left hl.1.2
        refine ⟨rfl,by simpa using hc,hl.1.1,(okvss_iff _).1 d2,_,hget,rfl,?_⟩
        rw [AV.denss_map,AV.denss_map] at d1
        simp only [Blk.denB,d1]
      | tail _ hb=>exact mtcTop_den hV hg hO hlow hy hA.right hl.2 b B hb
     ·cases hm
    ·cases hm
 | (c,.map es)::l,r,hm,hA,hl,b,B,hb=>by simp [mtcTop] at hm
 | (c,.siter s p)::l,r,hm,hA,hl,b,B,hb=>by simp [mtcTop] at hm
 | (c,.loop _ _ _ _ _ _ _ _)::l,r,hm,hA,hl,b,B,hb=>by simp [mtcTop] at hm
 | (c,.dfr _)::l,r,hm,hA,hl,b,B,hb=>by simp [mtcTop] at hm
def SbC (V V':X→AV) (σ:Nat→Nat) (st:SSt) (ts:List (Nat × Src)) (t:Nat) (s:SB):Prop :=
 s.okS V'∧∀ D,s.prom V'=some D→∃ src c,findT ts t=some src∧srcId src=some c∧prom V σ st c=some D
theorem mtcSb_den (hV:IsV Ω V) (S:Sim V σ Ls st h) {ts:List (Nat × Src)}:∀ {l:List (Nat × SB)} {r:Asg},mtcSb st lo ts l=some r→(∀ e∈r.xs,V' (.v e.1)=V e.2)→∀ t s,(t,s)∈l→SbC V V' σ st ts t s
 | [],r,hm,hA,t,s,hb=>by cases hb
 | (c,s0)::l,r,hm,hA,t,s,hb=>by
   have step:∀ {x:Asg},addO (some x) (mtcSb st lo ts l)=some r→((∀ e∈x.xs,V' (.v e.1)=V e.2)→SbC V V' σ st ts c s0)→SbC V V' σ st ts t s:=by
    intro x hx hc
    obtain ⟨x',y,h1,h2,rfl⟩:=addO_some hx
    injection h1 with h1; subst h1
    cases hb with
    | head=>exact hc fun e he=>hA e (List.mem_append_left _ he)
    | tail _ hb=>exact mtcSb_den hV S h2 (fun e he=>hA e (List.mem_append_right _ he)) t s hb
   unfold mtcSb at hm
   split at hm
   ·rename_i heq; simp at heq
   ·rename_i c' cs j l' heq
    simp only [List.cons.injEq,Prod.mk.injEq] at heq
    obtain ⟨⟨rfl,rfl⟩,rfl⟩:=heq
    split at hm
    ·cases hm
    ·split at hm
     ·rename_i hft
      refine step hm fun hx=>?_
      have h1:=hx _ (.head _)
      simp only [asg1,hV.nils] at h1
      refine ⟨by simp only [SB.okS,h1]; rfl,fun D hD=>?_⟩
      simp only [SB.prom,h1] at hD; cases hD
     ·rename_i t' hft
      split at hm
      ·rename_i cs' e hl
       split at hm
       ·rename_i hc
        have:=Sh.eqbs_eq hc; subst this
        refine step hm fun hx=>?_
        have h1:=hx _ (.head _)
        simp only [asg1] at h1
        refine ⟨by simp only [SB.okS,h1]; exact (S.oks _ _ hl).1,fun D hD=>⟨_,t',hft,rfl,?_⟩⟩
        rw [prom_sb S hl]
        simp only [SB.prom,h1] at hD ⊢
        exact hD
       ·cases hm
      ·cases hm
     ·rename_i b hft
      split at hm
      ·rename_i k rows hget
       split at hm
       ·rename_i hk
        split at hm
        ·rename_i rx hr
         refine step hm fun hx=>?_
         have h1:=hx _ (.head _)
         simp only [asg1] at h1
         obtain ⟨c1,c2⟩:=S.hg.cells hget
         obtain ⟨a1,a2,_⟩:=asXc_den (σ:=σ) (n:=st.hp.nx) hV (.sl cs) (.sl k rows) (.sl k rx) (by simp only [asXc,hk,if_true,hr]) ((okvss_iff _).2 c2)
         refine ⟨by simp only [SB.okS,h1]; exact a2,fun D hD=>⟨_,b,hft,rfl,?_⟩⟩
         rw [prom_live (V:=V) (σ:=σ) hget rfl]
         simp only [SB.prom,h1,← a1] at hD
         simp only [AV.den,AV.denss_map] at hD
         exact hD
        ·cases hm
       ·cases hm
      ·cases hm
     ·cases hm
   ·rename_i c' key ag cs j l' heq
    simp only [List.cons.injEq,Prod.mk.injEq] at heq
    obtain ⟨⟨rfl,rfl⟩,rfl⟩:=heq
    split at hm
    ·cases hm
    ·split at hm
     ·rename_i t' hft
      split at hm
      ·rename_i key' ag' cs' e hl
       split at hm
       ·rename_i hc
        simp only [Bool.and_eq_true,beq_iff_eq] at hc
        have q1:=Sh.eqb_eq hc.1.1; subst q1
        have q2:=hc.1.2; subst q2
        have q3:=Sh.eqbs_eq hc.2; subst q3
        refine step hm fun hx=>?_
        have h1:=hx _ (.head _)
        simp only [asg1] at h1
        refine ⟨by simp only [SB.okS,h1]; exact (S.oks _ _ hl).1,fun D hD=>⟨_,t',hft,rfl,?_⟩⟩
        rw [prom_sb S hl]
        simp only [SB.prom,h1] at hD ⊢
        exact hD
       ·cases hm
      ·cases hm
     ·rename_i b hft
      split at hm
      ·rename_i hget
       refine step hm fun hx=>?_
       have h1:=hx _ (.head _)
       simp only [asg1] at h1
       have hmn:V (.p .mnew []) = .im []:=by rw [hV.p]; rfl
       rw [hmn] at h1
       refine ⟨by simp only [SB.okS,h1]; rfl,fun D hD=>⟨_,b,hft,rfl,?_⟩⟩
       rw [prom_live (V:=V) (σ:=σ) hget rfl]
       simp only [SB.prom,h1] at hD
       exact hD
      ·cases hm
     ·cases hm
   ·rename_i c' i j l' heq
    simp only [List.cons.injEq,Prod.mk.injEq] at heq
    obtain ⟨⟨rfl,rfl⟩,rfl⟩:=heq
    split at hm
    ·cases hm
    ·split at hm
     ·rename_i t' hft
      split at hm
      ·rename_i s p hl
       refine step hm fun hx=>?_
       have h1:=hx _ (.head _)
       have h2:=hx _ (.tail _ (.head _))
       simp only at h1 h2
       refine ⟨by simp only [SB.okS,h1,h2]; exact (S.oks _ _ hl).1,fun D hD=>⟨_,t',hft,rfl,?_⟩⟩
       rw [prom_sb S hl]
       simp only [SB.prom,h1,h2] at hD ⊢
       exact hD
      ·cases hm
     ·cases hm
   ·cases hm
end
section
variable {Ω:Om} {V V':X→AV} {σ σ':Nat→Nat} {Ls:List (Nat × Nat)} {st st1:SSt} {h:Hp} {T:Tab} {n m lo:Nat}
theorem lookS_mem {l:List (Nat × SB)} {t:Nat} {s:SB} (h:lookS l t=some s):(t,s)∈l:=by
 induction l with
 | nil=>cases h
 | cons e l ih =>
   obtain ⟨c,x⟩:=e
   simp only [lookS] at h
   split at h
   ·rename_i e; injection h with h; subst h; subst e; exact .head _
   ·exact .tail _ (ih h)
theorem agreeX_find {l:List (Nat × X)} (h:agreeX l=true) {e:Nat × X} (he:e∈l):∃ x,findX l e.1=some x∧x=e.2:=by
 have:=(List.all_eq_true.1 h) e he
 split at this
 ·rename_i x hx; exact ⟨x,hx,X.eqb_eq this⟩
 ·cases this
theorem agreeT_find {l:List (Nat × Src)} (h:agreeT l=true) {e:Nat × Src} (he:e∈l):findT l e.1=some e.2:=by
 have:=(List.all_eq_true.1 h) e he
 split at this
 ·rename_i x hx; simp only [decide_eq_true_eq] at this; rw [hx,this]
 ·cases this
theorem pickX_get {l:List (Nat × X)}:∀ {n j:Nat} {xs:List X},pickX l n j=some xs→xs.length=n∧∀ i x,i < n→findX l (j+i)=some x→nth xs i=some x
 | 0,j,xs,h=>by injection h with h; subst h; exact ⟨rfl,fun i x hi=>by omega⟩
 | n+1,j,xs,h=>by
   simp only [pickX] at h
   split at h
   ·rename_i x ys h1 h2
    injection h with h; subst h
    obtain ⟨g1,g2⟩:=pickX_get h2
    refine ⟨by simp [g1],fun i y hi hy=>?_⟩
    cases i with
    | zero=>rw [Nat.add_zero] at hy; rw [hy] at h1; injection h1 with h1; subst h1; rfl
    | succ i=>exact g2 i y (by omega) (by rw [show j+1+i=j+(i+1) by omega]; exact hy)
   ·cases h
theorem nodupN_append {l1 l2:List Nat} (h:nodupN (l1++l2)=true):nodupN l1=true∧nodupN l2=true∧∀ x,x∈l1→x∈l2→False:=by
 induction l1 with
 | nil=>exact ⟨rfl,h,fun _ h=>by cases h⟩
 | cons a l ih =>
   simp only [List.cons_append,nodupN,Bool.and_eq_true,Bool.not_eq_true',List.contains_eq_mem,List.mem_append,decide_eq_false_iff_not,not_or] at h
   obtain ⟨h1,h2,h3⟩:=ih h.2
   refine ⟨by simp only [nodupN,Bool.and_eq_true,Bool.not_eq_true',List.contains_eq_mem,decide_eq_false_iff_not]; exact ⟨h.1.1,h1⟩,h2,fun x hx hx2=>?_⟩
   cases hx with
   | head=>exact h.1.2 hx2
   | tail _ hx=>exact h3 x hx hx2
theorem srcs_mem {ts:List (Nat × Src)}:∀ {l:List (Nat × SB)} {t:Nat} {s:SB} {a:Nat},lookS l t=some s→(findT ts t).bind srcId=some a→a∈srcsOf ts l
 | (c,x)::l,t,s,a,h,ha=>by
   simp only [lookS] at h
   simp only [srcsOf]
   split at h
   ·rename_i e; subst e; rw [ha]; exact .head _
   ·have:=srcs_mem h ha
    split
    ·exact .tail _ this
    ·exact this
theorem srcs_inj {ts:List (Nat × Src)}:∀ {l:List (Nat × SB)},nodupN (srcsOf ts l)=true→∀ {t u:Nat} {s r:SB} {a:Nat},lookS l t=some s→lookS l u=some r→(findT ts t).bind srcId=some a→(findT ts u).bind srcId=some a→t=u
 | (c,x)::l,hn,t,u,s,r,a,ht,hu,h1,h2=>by
   simp only [srcsOf] at hn
   simp only [lookS] at ht hu
   split at ht
   ·rename_i e
    split at hu
    ·rename_i e2; rw [e,e2]
    ·rw [← e,h1] at hn
     simp only [nodupN,Bool.and_eq_true,Bool.not_eq_true',List.contains_eq_mem,decide_eq_false_iff_not] at hn
     exact (hn.1 (srcs_mem hu h2)).elim
   ·split at hu
    ·rename_i e2
     rw [← e2,h2] at hn
     simp only [nodupN,Bool.and_eq_true,Bool.not_eq_true',List.contains_eq_mem,decide_eq_false_iff_not] at hn
     exact (hn.1 (srcs_mem ht h1)).elim
    ·have hn':nodupN (srcsOf ts l)=true:=by
      split at hn
      ·simp only [nodupN,Bool.and_eq_true] at hn; exact hn.2
      ·exact hn
     exact srcs_inj hn' ht hu h1 h2
theorem live_mem {l:List (Nat × Blk)} {b:Nat} {B:Blk} (hl:B.liveS=true) (h:(b,B)∈l):b∈liveIds l:=by
 induction l with
 | nil=>cases h
 | cons e l ih =>
   obtain ⟨c,x⟩:=e
   cases h with
   | head =>
     cases B<;>simp [Blk.liveS] at hl<;>exact .head _
   | tail _ h =>
     have:=ih h
     cases x<;>simp only [liveIds]<;>first
      | exact this
      | exact .tail _ this
theorem topOk_ids:∀ {l:List (Nat × Blk)},topOk m l=true→∀ e∈ids l,e < m
 | [],_,e,he=>by cases he
 | (b,.dead)::l,h,e,he=>by
   simp only [topOk,Bool.and_eq_true,decide_eq_true_eq] at h
   cases he with
   | head=>exact h.1
   | tail _ he=>exact topOk_ids h.2 e he
 | (b,.cells k rows)::l,h,e,he=>by
   simp only [topOk,Bool.and_eq_true,decide_eq_true_eq] at h
   cases he with
   | head=>exact h.1.1
   | tail _ he=>exact topOk_ids h.2 e he
 | (b,.map es)::l,h,e,he=>by simp [topOk] at h
 | (b,.siter _ _)::l,h,e,he=>by simp [topOk] at h
 | (b,.loop _ _ _ _ _ _ _ _)::l,h,e,he=>by simp [topOk] at h
 | (b,.dfr _)::l,h,e,he=>by simp [topOk] at h
def patσ (O:List Nat) (ts:List (Nat × Src)) (σ:Nat→Nat) (b:Nat):Nat :=
 if O.contains b then (match findT ts b with | some (.own t)=>σ t | some (.exp c)=>σ c | _=>0) else σ b
theorem matchSt_den (hV:IsV Ω V) (S:Sim V σ [(0,0),(0,0)] st h) {pf fr fr':List AV} {ph:SSt} {xs:List X} {ts:List (Nat × Src)} (hf:FrS V σ st.hp.nx fr fr') (hm:matchSt lo n pf ph fr st=some (xs,ts)) (hp:patOk pf ph=true)
  (hlow:∀ j,j < lo→V' (.v j)=V (.v j)) (hx:∀ i x,nth xs i=some x→V' (.v (lo+i))=V x):∃ σ',Sim V' σ' [(0,0),(0,0)] ph h∧FrS V' σ' ph.hp.nx pf fr'∧xs.length=n:=by
 unfold matchSt at hm
 simp only at hm
 unfold patOk at hp
 simp only [Bool.and_eq_true] at hp
 obtain ⟨⟨⟨⟨p1,p2⟩,p3⟩,p4⟩,p5⟩:=hp
 split at hm
 ·rename_i a ha
  split at hm
  ·rename_i b hb
   split at hm
   ·rename_i c hc
    split at hm
    ·rename_i hcond
     simp only [Bool.and_eq_true] at hcond
     obtain ⟨⟨⟨⟨c1,c2⟩,c3⟩,c5⟩,c4⟩:=hcond
     split at hm
     ·rename_i l hl
      simp only [Option.some.injEq,Prod.mk.injEq] at hm; obtain ⟨rfl,rfl⟩:=hm
      obtain ⟨g1,g2⟩:=pickX_get hl
      have hXall:∀ e∈a.xs++(b.xs++c.xs),V' (.v e.1)=V e.2:=by
       intro e he
       have hr:=(List.all_eq_true.1 c2) e he
       simp only [Bool.and_eq_true,decide_eq_true_eq] at hr
       obtain ⟨x,x1,x2⟩:=agreeX_find c1 he
       have:=g2 (e.1 - lo) x (by omega) (by rw [show lo+(e.1 - lo)=e.1 by omega]; exact x1)
       have:=hx _ _ this
       rw [show lo+(e.1 - lo)=e.1 by omega] at this
       rw [this,x2]
      have hTall:∀ e∈a.ts++b.ts,srcR σ (patσ (ph.sb.map (·.1)) (a.ts++b.ts) σ) e:=by
       intro e he
       have ho:=(List.all_eq_true.1 c5) e he
       have h1:=agreeT_find c3 he
       unfold srcR
       split
       ·rename_i t ht; rw [ht] at h1; simp only [patσ,ho,if_true,h1]
       ·rename_i t ht; rw [ht] at h1; simp only [patσ,ho,if_true,h1]
       ·trivial
      have hO:∀ q,(ph.sb.map (·.1)).contains q=false→patσ (ph.sb.map (·.1)) (a.ts++b.ts) σ q=σ q:=fun q hq=>by simp only [patσ,hq,Bool.false_eq_true,if_false]
      have hA:AsgOk V V' σ (patσ (ph.sb.map (·.1)) (a.ts++b.ts) σ) a:=⟨fun e he=>hXall e (List.mem_append_left _ he),fun e he=>hTall e (List.mem_append_left _ he)⟩
      have hBk:AsgOk V V' σ (patσ (ph.sb.map (·.1)) (a.ts++b.ts) σ) b:=⟨fun e he=>hXall e (List.mem_append_right _ (List.mem_append_left _ he)),fun e he=>hTall e (List.mem_append_right _ he)⟩
      have hCx:∀ e∈c.xs,V' (.v e.1)=V e.2:=fun e he=>hXall e (List.mem_append_right _ (List.mem_append_right _ he))
      have hfr:=mtcFr_den hV S.hg hO hlow ha hf hA p3
      have htop:=mtcTop_den hV S.hg hO hlow hb hBk p2
      have hsb:=mtcSb_den hV S hc hCx
      have hrest:ph.hp.rest=[[]]:=by split at p1<;>first | assumption | cases p1
      have hget:∀ q B,ph.hp.get q=some B→(q,B)∈ph.hp.top:=by
       intro q B hq
       rcases get_mem hq with hm | ⟨s,hs,hm⟩
       ·exact hm
       ·rw [hrest] at hs; simp at hs; subst hs; cases hm
      have hinO:∀ t s,lookS ph.sb t=some s→(ph.sb.map (·.1)).contains t=true:=fun t s hs=>by
       simp only [List.contains_eq_mem,decide_eq_true_eq]
       exact List.mem_map.2 ⟨_,lookS_mem hs,rfl⟩
      have hprom:∀ q D,prom V' (patσ (ph.sb.map (·.1)) (a.ts++b.ts) σ) ph q=some D→∃ w,prom V σ st w=some D∧patσ (ph.sb.map (·.1)) (a.ts++b.ts) σ q=σ w∧q < ph.hp.nx ∧
        ((w=q∧q∈liveIds ph.hp.top)∨(∃ s,lookS ph.sb q=some s∧(findT (a.ts++b.ts) q).bind srcId=some w)):=by
       intro q D hq
       have sbc:promS V' ph.sb q=some D→∃ w,prom V σ st w=some D∧patσ (ph.sb.map (·.1)) (a.ts++b.ts) σ q=σ w∧q < ph.hp.nx ∧
        ((w=q∧q∈liveIds ph.hp.top)∨(∃ s,lookS ph.sb q=some s∧(findT (a.ts++b.ts) q).bind srcId=some w)):=by
        intro hq
        unfold promS at hq
        split at hq
        ·rename_i s hs
         obtain ⟨_,h2⟩:=hsb q s (lookS_mem hs)
         obtain ⟨src,w,w1,w2,w3⟩:=h2 D hq
         refine ⟨w,w3,?_,?_,.inr ⟨s,hs,by rw [w1]; exact w2⟩⟩
         ·simp only [patσ,hinO q s hs,if_true,w1]
          cases src with
          | own t=>injection w2 with w2; subst w2; rfl
          | exp t=>injection w2 with w2; subst w2; rfl
          | nils=>cases w2
         ·have:=(List.all_eq_true.1 p4) _ (lookS_mem hs)
          simpa using this
        ·cases hq
       unfold prom at hq
       split at hq
       ·rename_i B hB
        split at hq
        ·rename_i hlv
         have hm:=hget q B hB
         rcases htop q B hm with rfl | ⟨_,t1,t2,t3,B',t4,t5,t6⟩
         ·cases hlv
         ·refine ⟨q,?_,hO q t1,t2,.inl ⟨rfl,live_mem hlv hm⟩⟩
          rw [prom_live t4 t5,← t6]; exact hq
        ·exact sbc hq
       ·exact sbc hq
      obtain ⟨n1,n2,n3⟩:=nodupN_append c4
      refine ⟨patσ (ph.sb.map (·.1)) (a.ts++b.ts) σ,⟨⟨?_,?_,?_,?_⟩,?_,?_,?_,?_,?_,?_,?_,?_,?_⟩,hfr,g1⟩
      ·intro q D hq
       obtain ⟨w,w1,w2,_⟩:=hprom q D hq
       rw [w2]; exact S.core.get w D w1
      ·intro q r D F hq hr e
       obtain ⟨w,w1,w2,_,w4⟩:=hprom q D hq
       obtain ⟨u,u1,u2,_,u4⟩:=hprom r F hr
       rw [w2,u2] at e
       have hwu:=S.core.inj w u D F w1 u1 e
       subst hwu
       rcases w4 with ⟨rfl,w5⟩ | ⟨s,w5,w6⟩<;>rcases u4 with ⟨rfl,u5⟩ | ⟨s',u5,u6⟩
       ·rfl
       ·exact (n3 _ (srcs_mem u5 u6) w5).elim
       ·exact (n3 _ (srcs_mem w5 w6) u5).elim
       ·exact srcs_inj n1 w5 u5 w6 u6
      ·intro q D hq
       obtain ⟨w,w1,w2,w3,_⟩:=hprom q D hq
       exact ⟨w3,by rw [w2]; exact (S.core.lt w D w1).2⟩
      ·intro L hL
       simp at hL; subst hL
       exact ⟨fun _ _ _=>⟨fun _=>Nat.zero_le _,fun _=>Nat.zero_le _⟩,Nat.zero_le _,Nat.zero_le _⟩
      ·intro q B hq
       rcases htop q B (hget q B hq) with rfl | ⟨_,_,_,t3,_⟩
       ·trivial
       ·exact t3
      ·intro t s hs
       refine ⟨(hsb t s (lookS_mem hs)).1,?_⟩
       have:=(List.all_eq_true.1 p4) _ (lookS_mem hs)
       simpa using this
      ·intro t s B hs hq
       rcases htop t B (hget t B hq) with rfl | ⟨_,t1,_⟩
       ·rfl
       ·rw [hinO t s hs] at t1; cases t1
      ·have hsg:ph.hp.segs=[AM.ids ph.hp.top,[]]:=by unfold Hp.segs; rw [hrest]; rfl
       rw [hsg]
       refine ⟨fun _ _=>Nat.zero_le _,fun x hx e he=>?_,fun _ _=>Nat.zero_le _,fun x hx=>by simp at hx,trivial⟩
       simp at hx; subst hx; cases he
      ·exact S.segA
      ·intro L hL _
       simp at hL; subst hL
       cases h.lk<;>simp [lkOk]
      ·intro e he
       have:ph.fx=[]:=by simpa using p5
       rw [this] at he; cases he
      ·intro s hs e he
       unfold Hp.segs at hs
       rw [hrest] at hs
       cases hs with
       | head=>exact topOk_ids p2 e he
       | tail _ hs =>
         have hs:s∈[[]]:=hs
         simp at hs; subst hs; cases he
      ·intro L hL q B hlt _
       simp at hL; subst hL
       exact absurd hlt (Nat.not_lt_zero _)
     ·cases hm
    ·cases hm
   ·cases hm
  ·cases hm
 ·cases hm
section
variable {ρ ρ':List AV} {θ:Nat→X}
mutual
theorem sub_den (hθ:∀ j,X.den Ω ρ (θ j)=X.den Ω ρ' (.v j)):∀ (e:X),X.den Ω ρ (e.sub θ)=X.den Ω ρ' e
 | .v j=>by simp only [X.sub,hθ]
 | .b _=>rfl
 | .i _ _=>rfl
 | .s _=>rfl
 | .nils=>rfl
 | .sl k rows=>by simp only [X.sub,X.den,subss_den hθ rows]
 | .agg xs=>by simp only [X.sub,X.den,subs_den hθ xs]
 | .p o xs=>by simp only [X.sub,X.den,subs_den hθ xs]
theorem subs_den (hθ:∀ j,X.den Ω ρ (θ j)=X.den Ω ρ' (.v j)):∀ (l:List X),X.dens Ω ρ (X.subs θ l)=X.dens Ω ρ' l
 | []=>rfl
 | e::l=>by simp only [X.subs,X.dens,sub_den hθ e,subs_den hθ l]
theorem subss_den (hθ:∀ j,X.den Ω ρ (θ j)=X.den Ω ρ' (.v j)):∀ (l:List (List X)),X.denss Ω ρ (X.subss θ l)=X.denss Ω ρ' l
 | []=>rfl
 | e::l=>by simp only [X.subss,X.denss,subs_den hθ e,subss_den hθ l]
end
theorem symD_sub (hθ:∀ j,X.den Ω ρ (θ j)=X.den Ω ρ' (.v j)) (s:Sh) (e:X):symD (X.den Ω ρ) σ s (e.sub θ)=symD (X.den Ω ρ') σ s e:=by
 cases s<;>simp only [symD,sub_den hθ]
theorem symOk_sub (hθ:∀ j,X.den Ω ρ (θ j)=X.den Ω ρ' (.v j)) (s:Sh) (e:X):symOk (X.den Ω ρ) n s (e.sub θ)↔symOk (X.den Ω ρ') n s e:=by
 cases s<;>simp only [symOk,sub_den hθ]
mutual
theorem asub_den (hθ:∀ j,X.den Ω ρ (θ j)=X.den Ω ρ' (.v j)):∀ (a:AV),(a.sub θ).den (X.den Ω ρ) σ=a.den (X.den Ω ρ') σ∧((a.sub θ).okv (X.den Ω ρ) n↔a.okv (X.den Ω ρ') n)
 | .agg l=>by obtain ⟨h1,h2⟩:=asubL_den hθ l; simp only [AV.sub,AV.den,AV.okv,h1,h2,and_self]
 | .tuple l=>by obtain ⟨h1,h2⟩:=asubL_den hθ l; simp only [AV.sub,AV.den,AV.okv,h1,h2,and_self]
 | .ref l=>by obtain ⟨h1,h2⟩:=asubL_den hθ l; simp only [AV.sub,AV.den,AV.okv,h1,h2,and_self]
 | .sl k l=>by obtain ⟨h1,h2⟩:=asubLL_den hθ l; simp only [AV.sub,AV.den,AV.okv,h1,h2,and_self]
 | .im l=>by obtain ⟨h1,h2⟩:=asubE_den hθ l; simp only [AV.sub,AV.den,AV.okv,h1,h2,and_self]
 | .func f a b=>by obtain ⟨h1,h2⟩:=asubL_den hθ a; obtain ⟨h3,h4⟩:=asubL_den hθ b; simp only [AV.sub,AV.den,AV.okv,h1,h2,h3,h4,and_self]
 | .iface t v=>by obtain ⟨h1,h2⟩:=asub_den hθ v; simp only [AV.sub,AV.den,AV.okv,h1,h2,and_self]
 | .sym s e=>by simp only [AV.sub,AV.den,AV.okv,symD_sub hθ,symOk_sub hθ,and_self]
 | .junk=>⟨rfl,Iff.rfl⟩
 | .bool _=>⟨rfl,Iff.rfl⟩
 | .int _ _=>⟨rfl,Iff.rfl⟩
 | .str _=>⟨rfl,Iff.rfl⟩
 | .nilp=>⟨rfl,Iff.rfl⟩
 | .ptr _ _ _=>⟨rfl,Iff.rfl⟩
 | .it _=>⟨rfl,Iff.rfl⟩
 | .nils=>⟨rfl,Iff.rfl⟩
 | .ms _ _ _=>⟨rfl,Iff.rfl⟩
 | .nilm=>⟨rfl,Iff.rfl⟩
 | .mp _=>⟨rfl,Iff.rfl⟩
 | .yld _=>⟨rfl,Iff.rfl⟩
 | .nilf=>⟨rfl,Iff.rfl⟩
 | .nili=>⟨rfl,Iff.rfl⟩
theorem asubL_den (hθ:∀ j,X.den Ω ρ (θ j)=X.den Ω ρ' (.v j)):∀ (l:List AV),AV.dens (X.den Ω ρ) σ (AV.subL θ l)=AV.dens (X.den Ω ρ') σ l∧(AV.okvs (X.den Ω ρ) n (AV.subL θ l)↔AV.okvs (X.den Ω ρ') n l)
 | []=>⟨rfl,Iff.rfl⟩
 | a::l=>by obtain ⟨h1,h2⟩:=asub_den hθ a; obtain ⟨h3,h4⟩:=asubL_den hθ l; simp only [AV.subL,AV.dens,AV.okvs,h1,h2,h3,h4,and_self]
theorem asubLL_den (hθ:∀ j,X.den Ω ρ (θ j)=X.den Ω ρ' (.v j)):∀ (l:List (List AV)),AV.denss (X.den Ω ρ) σ (AV.subLL θ l)=AV.denss (X.den Ω ρ') σ l∧(AV.okvss (X.den Ω ρ) n (AV.subLL θ l)↔AV.okvss (X.den Ω ρ') n l)
 | []=>⟨rfl,Iff.rfl⟩
 | a::l=>by obtain ⟨h1,h2⟩:=asubL_den hθ a; obtain ⟨h3,h4⟩:=asubLL_den hθ l; simp only [AV.subLL,AV.denss,AV.okvss,h1,h2,h3,h4,and_self]
theorem asubE_den (hθ:∀ j,X.den Ω ρ (θ j)=X.den Ω ρ' (.v j)):∀ (l:List (AV × AV)),AV.denes (X.den Ω ρ) σ (AV.subE θ l)=AV.denes (X.den Ω ρ') σ l∧(AV.okves (X.den Ω ρ) n (AV.subE θ l)↔AV.okves (X.den Ω ρ') n l)
 | []=>⟨rfl,Iff.rfl⟩
 | (a,b)::l=>by obtain ⟨h1,h2⟩:=asub_den hθ a; obtain ⟨h3,h4⟩:=asub_den hθ b; obtain ⟨h5,h6⟩:=asubE_den hθ l; simp only [AV.subE,AV.denes,AV.okves,h1,h2,h3,h4,h5,h6,and_self]
end
theorem FrS.sub (hθ:∀ j,X.den Ω ρ (θ j)=X.den Ω ρ' (.v j)) {f f':List AV} (h:FrS (X.den Ω ρ') σ n f f'):FrS (X.den Ω ρ) σ n (AV.subL θ f) f':=by
 induction h with
 | nil=>exact .nil
 | cons a a' l l' ha hl ih =>
   refine .cons _ _ _ _ ?_ ih
   rcases ha with rfl | ⟨h1,rfl⟩
   ·exact .inl rfl
   ·obtain ⟨d1,d2⟩:=asub_den (σ:=σ) (n:=n) hθ a
    exact .inr ⟨d2.2 h1,d1.symm⟩
theorem look_map (l:List (Nat × Blk)) (g:Blk→Blk) (b:Nat):look (l.map fun e=>(e.1,g e.2)) b=(look l b).map g:=by
 induction l with
 | nil=>rfl
 | cons e l ih =>
   obtain ⟨c,x⟩:=e
   simp only [List.map_cons,look]
   split
   ·rfl
   ·exact ih
theorem lookS_map (l:List (Nat × SB)) (g:SB→SB) (b:Nat):lookS (l.map fun e=>(e.1,g e.2)) b=(lookS l b).map g:=by
 induction l with
 | nil=>rfl
 | cons e l ih =>
   obtain ⟨c,x⟩:=e
   simp only [List.map_cons,lookS]
   split
   ·rfl
   ·exact ih
theorem Sim.sub (hθ:∀ j,X.den Ω ρ (θ j)=X.den Ω ρ' (.v j)) {ph:SSt} {fx:List (X × Bool)} (S:Sim (X.den Ω ρ') σ Ls ph h) (hrest:ph.hp.rest=[[]]) (hfx:∀ e∈fx,(X.den Ω ρ e.1).bB=e.2):Sim (X.den Ω ρ) σ Ls (ph.sub θ fx) h:=by
 have hget:∀ b,(ph.sub θ fx).hp.get b=(ph.hp.get b).map (Blk.sub θ):=by
  intro b
  unfold Hp.get SSt.sub
  simp only [look_map,hrest]
  cases look ph.hp.top b with
  | none=>simp [lookRest,look]
  | some x=>rfl
 have hlv:∀ B:Blk,(B.sub θ).liveS=B.liveS:=fun B=>by cases B<;>rfl
 have hden:∀ B:Blk,(B.sub θ).denB (X.den Ω ρ) σ=B.denB (X.den Ω ρ') σ:=fun B=>by
  cases B with
  | cells k rows =>
    have:=(asubLL_den (σ:=σ) (n:=0) hθ rows).1
    rw [AV.denss_map,AV.denss_map] at this
    simp only [Blk.sub,Blk.denB,this]
  | map es =>
    have:=(asubE_den (σ:=σ) (n:=0) hθ es).1
    rw [AV.denes_map,AV.denes_map] at this
    simp only [Blk.sub,Blk.denB,this]
  | loop M tmps ps as bd s pend d =>
    have:=(asubL_den (σ:=σ) (n:=0) hθ tmps).1
    rw [AV.dens_map,AV.dens_map] at this
    simp only [Blk.sub,Blk.denB,this]
  | _=>rfl
 have hokb:∀ (B:Blk) (m:Nat),B.okB (X.den Ω ρ') m→(B.sub θ).okB (X.den Ω ρ) m:=fun B m hB=>by
  cases B with
  | cells k rows=>exact (okvss_iff _).1 ((asubLL_den (σ:=σ) hθ rows).2.2 ((okvss_iff _).2 hB))
  | map es=>exact (okves_iff _).1 ((asubE_den (σ:=σ) hθ es).2.2 ((okves_iff _).2 hB))
  | loop M tmps ps as bd s pend d=>exact ⟨(okvs_iff _).1 ((asubL_den (σ:=σ) hθ tmps).2.2 ((okvs_iff _).2 hB.1)),hB.2⟩
  | _=>trivial
 have hsp:∀ s:SB,(s.sub θ).prom (X.den Ω ρ)=s.prom (X.den Ω ρ'):=fun s=>by cases s<;>simp only [SB.sub,SB.prom,sub_den hθ]
 have hso:∀ s:SB,(s.sub θ).okS (X.den Ω ρ)↔s.okS (X.den Ω ρ'):=fun s=>by cases s<;>simp only [SB.sub,SB.okS,sub_den hθ]
 have hls:∀ t,lookS (ph.sub θ fx).sb t=(lookS ph.sb t).map (SB.sub θ):=fun t=>lookS_map _ _ _
 have hprom:∀ q,prom (X.den Ω ρ) σ (ph.sub θ fx) q=prom (X.den Ω ρ') σ ph q:=by
  intro q
  have e:promS (X.den Ω ρ) (ph.sub θ fx).sb q=promS (X.den Ω ρ') ph.sb q:=by
   unfold promS
   rw [hls]
   cases lookS ph.sb q with
   | none=>rfl
   | some s=>exact hsp s
  unfold prom
  rw [hget,e]
  cases ph.hp.get q with
  | none=>rfl
  | some B=>simp only [Option.map_some,hlv,hden]
 have hseg:(ph.sub θ fx).hp.segs=ph.hp.segs:=by
  unfold Hp.segs SSt.sub AM.ids
  simp [List.map_map,Function.comp]
 refine ⟨?_,fun b B hB=>?_,fun t s hs=>?_,fun t s B hs hB=>?_,by rw [hseg]; exact S.segS,S.segA,S.lk,hfx,by rw [hseg]; exact S.ids,fun L hL b B hlt hB=>?_⟩
 ·exact S.core.sub (fun b B hb=>by rw [hprom] at hb; exact hb) (Nat.le_refl _)
 ·rw [hget] at hB
  cases hg:ph.hp.get b with
  | none=>rw [hg] at hB; cases hB
  | some B0=>rw [hg] at hB; injection hB with hB; subst hB; exact hokb _ _ (S.okb b B0 hg)
 ·rw [hls] at hs
  cases hg:lookS ph.sb t with
  | none=>rw [hg] at hs; cases hs
  | some s0=>rw [hg] at hs; injection hs with hs; subst hs; exact ⟨(hso _).2 (S.oks _ _ hg).1,(S.oks _ _ hg).2⟩
 ·rw [hls] at hs
  rw [hget] at hB
  cases hg:lookS ph.sb t with
  | none=>rw [hg] at hs; cases hs
  | some s0 =>
    cases hg2:ph.hp.get t with
    | none=>rw [hg2] at hB; cases hB
    | some B0=>rw [hg2] at hB; injection hB with hB; subst hB; rw [hlv]; exact S.dj _ _ _ hg hg2
 ·rw [hget] at hB
  cases hg:ph.hp.get b with
  | none=>rw [hg] at hB; cases hB
  | some B0=>rw [hg] at hB; injection hB with hB; subst hB; exact hokb _ _ (S.old L hL b B0 hlt hg)
end
def loopG (Ω:Om) (B:Te LEnd):Nat→List AV→Option AV
 | 0,_=>none
 | k+1,vs=>match B.sel (X.den Ω vs) with
   | some (.again ys)=>loopG Ω B k (ys.map (X.den Ω vs))
   | some (.out tag zs)=>some (.tuple (.int .i64 tag::zs.map (X.den Ω vs)))
   | none=>none
def outsOk:List (Ex × Nat × List AV × SSt)→Bool
 | []=>true
 | (ex,_,fr,st)::l=>(match ex with | .normal=>false | _=>true)&&patOk fr st&&outsOk l
def LSpec.ok (L:LSpec):Bool:=patOk L.fr L.st&&outsOk L.outs
variable {cx:Cx} {k kA M:Nat}
theorem outOf_some {r:Ex × List AV × SSt}:∀ {l:List (Ex × Nat × List AV × SSt)} {tag t:Nat} {zs:List X},outOf r tag l=some (.out t zs)→∃ i n fr st ts,l[i]? = some (r.1,n,fr,st)∧t=tag+i∧matchSt 0 n fr st r.2.1 r.2.2=some (zs,ts)
 | [],tag,t,zs,h=>by cases h
 | (ex,n,fr,st)::l,tag,t,zs,h=>by
   simp only [outOf] at h
   split at h
   ·rename_i he
    split at h
    ·rename_i zs' ts hm
     injection h with h; injection h with h1 h2; subst h1; subst h2
     exact ⟨0,n,fr,st,ts,by rw [he]; rfl,rfl,hm⟩
    ·cases h
   ·obtain ⟨i,n',fr',st',ts,h1,h2,h3⟩:=outOf_some h
    exact ⟨i+1,n',fr',st',ts,h1,by omega,h3⟩
theorem outOf_not {r:Ex × List AV × SSt} {ys:List X}:∀ {l:List (Ex × Nat × List AV × SSt)} {tag:Nat},outOf r tag l=some (.again ys)→False
 | [],tag,h=>by cases h
 | (ex,n,fr,st)::l,tag,h=>by
   simp only [outOf] at h
   split at h
   ·split at h<;>cases h
   ·exact outOf_not h
theorem outsOk_get:∀ {l:List (Ex × Nat × List AV × SSt)} {i:Nat} {e:Ex × Nat × List AV × SSt},outsOk l=true→l[i]? = some e→e.1 ≠ .normal∧patOk e.2.2.1 e.2.2.2=true
 | [],i,e,_,h=>by simp at h
 | (ex,n,fr,st)::l,i,e,ho,h=>by
   simp only [outsOk,Bool.and_eq_true] at ho
   cases i with
   | zero =>
     simp at h; subst h
     refine ⟨fun hx=>?_,ho.1.2⟩
     simp only at hx; rw [hx] at ho; simp at ho
   | succ i=>exact outsOk_get ho.2 (by simpa using h)
theorem loop_run {E:Env} (hC:CxR Ω E cx) {L:LSpec} (hL:L.ok=true) {c:Code} {nn:Nat} (hnn:nn≤kA) (hk:k≤kA) {B:Te LEnd} (hB:loopT cx nn k M L c=B)
  (hl:∀ ρ,∀ d∈loopsOf c,∀ L',cx.loops ((keyOf d).getD 0) = .spec L'→LoopAt (X.den Ω ρ) [(0,0),(0,0)] cx.T (AM.inv E kA) kA M L' d) (hpr:∀ d∈loopsOf c,cx.loops ((keyOf d).getD 0) ≠ .probe) :
  ∀ (K j:Nat),K≤j→∀ {vs:List AV} {r:AV} {σ:Nat→Nat} {h:Hp} {fr':List AV} {dfr:List Nat},vs.length=L.nv→loopG Ω B K vs=some r→Sim (X.den Ω vs) σ [(0,0),(0,0)] L.st h→FrS (X.den Ω vs) σ L.st.hp.nx L.fr fr' →
    ∃ i ex n fo so zs,L.outs[i]? = some (ex,n,fo,so)∧r = .tuple (.int .i64 ((i+1:Nat))::zs)∧zs.length=n∧∃ fr1' h1 σ1,iter (exec cx.T (AM.inv E kA) kA M none c) j ⟨fr',dfr⟩ h = .ok (ex,⟨fr1',dfr⟩,h1) ∧
      FrS (X.den Ω zs) σ1 so.hp.nx fo fr1'∧Sim (X.den Ω zs) σ1 [(0,0),(0,0)] so h1
 | 0,_,_,vs,r,σ,h,fr',dfr,_,hg,_,_=>by cases hg
 | K+1,0,hj,_,_,_,_,_,_,_,_,_,_=>by omega
 | K+1,j+1,hj,vs,r,σ,h,fr',dfr,hlen,hg,S,hf=>by
   unfold LSpec.ok at hL
   simp only [Bool.and_eq_true] at hL
   have hV:=isV_den Ω vs
   simp only [loopG] at hg
   have hsel:∀ {e:LEnd},B.sel (X.den Ω vs)=some e→∃ r0,(execS cx (invS cx nn) k 0 M c L.fr L.st).sel (X.den Ω vs)=some r0∧endOf L r0=some e:=by
    intro e he
    rw [← hB] at he
    unfold loopT at he
    rw [sel_bind] at he
    obtain ⟨r0,h1,h2⟩:=he
    refine ⟨r0,h1,?_⟩
    split at h2
    ·rename_i e' he'; injection h2 with h2; subst h2; exact he'
    ·cases h2
   have hrun:∀ {ex0:Ex} {f0:List AV} {s0:SSt},(execS cx (invS cx nn) k 0 M c L.fr L.st).sel (X.den Ω vs)=some (ex0,f0,s0)→∃ fr2' h2 σ2,exec cx.T (AM.inv E kA) kA M none c ⟨fr',dfr⟩ h = .ok (ex0,⟨fr2',dfr⟩,h2)∧FrS (X.den Ω vs) σ2 s0.hp.nx f0 fr2'∧Sim (X.den Ω vs) σ2 [(0,0),(0,0)] s0 h2:=by
    intro ex0 f0 s0 h1
    obtain ⟨fr2',h2,σ2,e2,f2,a2⟩:=execS_den (Ls:=[(0,0)]) (base:=0) (b':=0) (nl:=false) hV (invS_den hV hC nn kA hnn) (fun L h=>by simp at h; subst h; exact Nat.le_refl _) hk (fun _=>.inr trivial) c (fun d hd L' hL'=>⟨rfl,hl vs d hd L' hL'⟩) hpr (dfr:=dfr) S hf h1
    exact ⟨fr2',h2,σ2,e2,f2,a2.sim⟩
   have leave:∀ {ex0:Ex} {f0 f1':List AV} {s0:SSt} {h2:Hp} {σ2:Nat→Nat} {tag:Nat} {zs:List X},outOf (ex0,f0,s0) 1 L.outs=some (.out tag zs)→FrS (X.den Ω vs) σ2 s0.hp.nx f0 f1'→Sim (X.den Ω vs) σ2 [(0,0),(0,0)] s0 h2 →
     ∃ i n fo so,L.outs[i]? = some (ex0,n,fo,so)∧tag=i+1∧(zs.map (X.den Ω vs)).length=n∧∃ σ1,FrS (X.den Ω (zs.map (X.den Ω vs))) σ1 so.hp.nx fo f1'∧Sim (X.den Ω (zs.map (X.den Ω vs))) σ1 [(0,0),(0,0)] so h2:=by
    intro ex0 f0 f1' s0 h2 σ2 tag zs ho hf2 S2
    obtain ⟨i,n,fo,so,ts,h3,h4,h5⟩:=outOf_some ho
    obtain ⟨_,hpat⟩:=outsOk_get hL.2 h3
    obtain ⟨σ3,S3,f3,l3⟩:=matchSt_den (V':=X.den Ω (zs.map (X.den Ω vs))) hV S2 hf2 h5 hpat (fun j hj=>by omega) (fun q x hq=>by
     simp only [Nat.zero_add,X.den,nth_map,hq]; rfl)
    exact ⟨i,n,fo,so,h3,by omega,by simpa using l3,σ3,f3,S3⟩
   split at hg
   ·rename_i ys hsl
    obtain ⟨⟨ex0,f0,s0⟩,h1,he⟩:=hsel hsl
    obtain ⟨fr2',h2,σ2,e2,f2,S2⟩:=hrun h1
    unfold endOf at he
    cases ex0 with
    | normal =>
      simp only at he
      split at he
      ·rename_i ys' ts hm
       injection he with he; injection he with he; subst he
       obtain ⟨σ3,S3,f3,l3⟩:=matchSt_den (V':=X.den Ω (ys'.map (X.den Ω vs))) hV S2 (norm_den hf f2) hm hL.1 (fun j hj=>by omega) (fun q x hq=>by
        simp only [Nat.zero_add,X.den,nth_map,hq]; rfl)
       obtain ⟨i,ex,n,fo,so,zs,g1,g2,g3,fr1',h1',σ1,g4,g5,g6⟩:=loop_run hC (by unfold LSpec.ok; simp only [Bool.and_eq_true]; exact hL) hnn hk hB hl hpr K j (by omega) (dfr:=dfr) (by simpa using l3) hg S3 f3
       refine ⟨i,ex,n,fo,so,zs,g1,g2,g3,fr1',h1',σ1,?_,g5,g6⟩
       simp only [iter,e2,Nd.bind]; exact g4
      ·cases he
    | exit id=>exact (outOf_not he).elim
    | ret=>exact (outOf_not he).elim
   ·rename_i tag zs hsl
    injection hg with hg; subst hg
    obtain ⟨⟨ex0,f0,s0⟩,h1,he⟩:=hsel hsl
    obtain ⟨fr2',h2,σ2,e2,f2,S2⟩:=hrun h1
    unfold endOf at he
    cases ex0 with
    | normal=>simp only at he; split at he<;>cases he
    | exit id =>
      obtain ⟨i,n,fo,so,g1,g2,g3,σ1,g4,g5⟩:=leave he (norm_den hf f2) S2
      refine ⟨i,_,n,fo,so,_,g1,by rw [g2],g3,norm fr' fr2',h2,σ1,?_,g4,g5⟩
      simp only [iter,e2,Nd.bind]
    | ret =>
      obtain ⟨i,n,fo,so,g1,g2,g3,σ1,g4,g5⟩:=leave he f2 S2
      refine ⟨i,_,n,fo,so,_,g1,by rw [g2],g3,fr2',h2,σ1,?_,g4,g5⟩
      simp only [iter,e2,Nd.bind]
   ·cases hg
theorem outsS_sel (hV:IsV Ω V) {fix:List (Nat × List (Nat × Nat))} {xs:List X} {e:X} {fx:List (X × Bool)}:∀ {l:List (Ex × Nat × List AV × SSt)} {tag:Nat} {r:Ex × List AV × SSt},(outsS fix xs e fx tag l).sel V=some r →
  ∃ i n fo so,l[i]? = some (r.1,n,fo,so)∧(V (.p (.proj 0) [e])).nI=((tag+i:Nat):Int)∧r.2.1=AV.subL (loopVar (fixOf fix (tag+i)) xs e) fo∧r.2.2=so.sub (loopVar (fixOf fix (tag+i)) xs e) fx
 | [],tag,r,h=>by cases h
 | (ex,n,fo,so)::l,tag,r,h=>by
   have hc:(V (.p (.bin .eql .i64) [.p (.proj 0) [e],xI tag])).bB=true→(V (.p (.proj 0) [e])).nI=((tag:Nat):Int):=by
    intro hb
    rw [V_bin hV,xI_V hV] at hb
    have hb:((V (.p (.proj 0) [e])).nI == ((tag:Nat):Int))=true:=hb
    simpa using hb
   unfold outsS at h
   simp only at h
   cases l with
   | nil =>
     simp only at h
     rw [sel_need] at h
     obtain ⟨h1,h2⟩:=h
     injection h2 with h2; subst h2
     exact ⟨0,n,fo,so,rfl,by simpa using hc h1,rfl,rfl⟩
   | cons y ys =>
     simp only at h
     rw [sel_ite] at h
     rcases h with ⟨h1,h2⟩ | ⟨h1,h2⟩
     ·injection h2 with h2; subst h2
      exact ⟨0,n,fo,so,rfl,by simpa using hc h1,rfl,rfl⟩
     ·obtain ⟨i,n',fo',so',g1,g2,g3,g4⟩:=outsS_sel hV h2
      rw [show tag+1+i=tag+(i+1) by omega] at g2 g3 g4
      exact ⟨i+1,n',fo',so',g1,g2,g3,g4⟩
theorem patOk_rest {fr:List AV} {st:SSt} (h:patOk fr st=true):st.hp.rest=[[]]:=by
 unfold patOk at h
 simp only [Bool.and_eq_true] at h
 obtain ⟨⟨⟨⟨p1,_⟩,_⟩,_⟩,_⟩:=h
 split at p1<;>first | assumption | cases p1
theorem fix_sel {fix:List (Nat × List (Nat × Nat))}:∀ {B:Te LEnd} {e:LEnd},fixOk fix B=true→B.sel V=some e→fixEnd fix e=true
 | .ok a,e,h,hs=>by injection hs with hs; subst hs; exact h
 | .fail _,e,h,hs=>by cases hs
 | .need p t,e,h,hs=>by rw [sel_need] at hs; exact fix_sel (B:=t) h hs.2
 | .ite c a b,e,h,hs=>by
   simp only [fixOk,Bool.and_eq_true] at h
   rw [sel_ite] at hs
   rcases hs with ⟨_,hs⟩ | ⟨_,hs⟩
   ·exact fix_sel h.1 hs
   ·exact fix_sel h.2 hs
theorem lookN_mem {α:Type} {l:List (Nat × α)} {b:Nat} {x:α} (h:lookN l b=some x):(b,x)∈l:=by
 induction l with
 | nil=>cases h
 | cons e l ih =>
   obtain ⟨c,y⟩:=e
   simp only [lookN] at h
   split at h
   ·rename_i e; injection h with h; subst h; subst e; exact .head _
   ·exact .tail _ (ih h)
theorem fix_G {fix:List (Nat × List (Nat × Nat))} {B:Te LEnd} (hB:fixOk fix B=true):∀ {K:Nat} {vs zs:List AV} {tag:Nat},loopG Ω B K vs=some (.tuple (.int .i64 tag::zs))→∀ m∈fixOf fix tag,getJ (nth zs m.1)=getJ (nth vs m.2)
 | 0,vs,zs,tag,h,_,_=>by cases h
 | K+1,vs,zs,tag,h,m,hm=>by
   simp only [loopG] at h
   split at h
   ·rename_i ys hs
    have h1:=fix_G hB h m hm
    have h2:=fix_sel hB hs
    simp only [fixEnd,List.all_eq_true] at h2
    have hmem:∃ e∈fix,m∈e.2:=by
     unfold fixOf at hm
     split at hm
     ·rename_i l hl; exact ⟨_,lookN_mem hl,hm⟩
     ·cases hm
    obtain ⟨e,he,hme⟩:=hmem
    have h3:=h2 e he m hme
    unfold stays at h3
    split at h3
    ·rename_i k hk
     simp only [beq_iff_eq] at h3; subst h3
     rw [h1,nth_map,hk]; rfl
    ·cases h3
   ·rename_i t ws hs
    injection h with h; injection h with h
    simp only [List.cons.injEq,AV.int.injEq,true_and] at h
    obtain ⟨ht,hz⟩:=h
    have ht:t=tag:=by omega
    subst ht; subst hz
    have h2:=fix_sel hB hs
    simp only [fixEnd,List.all_eq_true] at h2
    have h3:=h2 m hm
    split at h3
    ·rename_i k hk
     simp only [beq_iff_eq] at h3; subst h3
     rw [nth_map,hk]; rfl
    ·cases h3
   ·cases h
theorem loopAt_of {E:Env} (hC:CxR Ω E cx) {L:LSpec} (hL:L.ok=true) {c:Code} {nn K:Nat} (hnn:nn≤kA) (hk:k≤kA) (hK:K≤kA) {B:Te LEnd} (hB:loopT cx nn k M L c=B) (hfix:fixOk L.fix B=true)
  (hΩ:∀ vs,Ω loopId L.id vs=getJ (loopG Ω B K vs))
  (hl:∀ ρ,∀ d∈loopsOf c,∀ L',cx.loops ((keyOf d).getD 0) = .spec L'→LoopAt (X.den Ω ρ) [(0,0),(0,0)] cx.T (AM.inv E kA) kA M L' d) (hpr:∀ d∈loopsOf c,cx.loops ((keyOf d).getD 0) ≠ .probe) (ρ:List AV) :
  LoopAt (X.den Ω ρ) [(0,0),(0,0)] cx.T (AM.inv E kA) kA M L c:=by
 intro σ st h fr fr' dfr ex fr1 st1 S hf hs
 have hV:=isV_den Ω ρ
 have hL2:=hL
 unfold LSpec.ok at hL2
 simp only [Bool.and_eq_true] at hL2
 unfold loopS at hs
 split at hs
 ·split at hs
  ·rename_i xs ts hm
   obtain ⟨i,n,fo,so,g1,g2,g3,g4⟩:=outsS_sel hV hs
   simp only at g1 g2 g3 g4
   subst g3; subst g4
   obtain ⟨σ2,S2,f2,l2⟩:=matchSt_den (V':=X.den Ω (xs.map (X.den Ω ρ))) hV S hf hm hL2.1 (fun j hj=>by omega) (fun q x hq=>by
    simp only [Nat.zero_add,X.den,nth_map,hq]; rfl)
   have hVe:X.den Ω ρ (.p (.call loopId L.id) xs)=getJ (loopG Ω B K (xs.map (X.den Ω ρ))):=by
    rw [hV.p]; exact hΩ _
   cases hg:loopG Ω B K (xs.map (X.den Ω ρ)) with
   | none =>
     rw [V_proj hV,hVe,hg] at g2
     have:(0:Int)=((1+i:Nat):Int):=g2
     omega
   | some r =>
     obtain ⟨i',ex',n',fo',so',zs,q1,q2,q3,fr1',h1,σ1,q4,q5,q6⟩:=loop_run hC hL hnn hk hB hl hpr K kA hK (dfr:=dfr) (by simpa using l2) hg S2 f2
     rw [hg,q2] at hVe
     have hVe:X.den Ω ρ (.p (.call loopId L.id) xs) = .tuple (.int .i64 ((i'+1:Nat))::zs):=hVe
     rw [V_proj hV,hVe] at g2
     have g2:((i'+1:Nat):Int)=((1+i:Nat):Int):=g2
     have hii:i'=i:=by omega
     subst hii
     rw [g1] at q1
     injection q1 with q1
     simp only [Prod.mk.injEq] at q1
     obtain ⟨rfl,rfl,rfl,rfl⟩:=q1
     have hθ:∀ j,X.den Ω ρ (loopVar (fixOf L.fix (1+i')) xs (.p (.call loopId L.id) xs) j)=X.den Ω zs (.v j):=by
      intro j
      have hpr:X.den Ω ρ (.p (.proj (j+1)) [.p (.call loopId L.id) xs])=X.den Ω zs (.v j):=by rw [V_proj hV,hVe]; rfl
      unfold loopVar
      split
      ·rename_i q hq
       split
       ·rename_i x hx
        have:=fix_G hfix (by rw [hg,q2]) (j,q) (by rw [show i'+1=1+i' by omega]; exact lookN_mem hq)
        simp only [nth_map,hx,Option.map_some] at this
        simp only [X.den]
        rw [this]; rfl
       ·exact hpr
      ·exact hpr
     have hrest:=patOk_rest (outsOk_get hL2.2 g1).2
     exact ⟨fr1',h1,σ1,q4,q5.sub hθ,q6.sub hθ hrest S.fx⟩
  ·cases hs
 ·cases hs
end
end Go.Proofs.YtdjngcfnlfgjkaaGreatDoor.AM

namespace Go.Proofs.YtdjngcfnlfgjkaaGreatDoor.AM
structure Cal where
 I:Inst
 F:List AV→Option AV
def extI (I:Inst) (F:List AV→Option AV) (args:List AV):Option AV :=
 match mtVs I.pats args with
 | some l=>if l.map (·.1)=List.range l.length then F (l.map (·.2)) else none
 | none=>none
def calX:List Cal→FuncId→Option (List AV→Option AV)
 | [],_=>none
 | c::cs,f=>if c.I.f=f then some (extI c.I c.F) else calX cs f
def calI:List Cal→FuncId→List Inst
 | [],_=>[]
 | c::cs,f=>if c.I.f=f then [c.I] else calI cs f
def calO:List Cal→Om
 | [],_,_,_=>.junk
 | c::cs,f,n,vs=>if c.I.f=f∧c.I.n=n then getJ (c.F vs) else calO cs f n vs
structure LoopD where
 key:Nat
 L:LSpec
 B:Te LEnd
def omL (K:Nat) (cs:List Cal):List LoopD→Om
 | []=>calO cs
 | d::ds=>fun f n vs=>if f=loopId∧n=d.L.id then getJ (loopG (omL K cs ds) d.B K vs) else omL K cs ds f n vs
def findD:List LoopD→Nat→Option LoopD
 | [],_=>none
 | d::ds,q=>if d.key=q then some d else findD ds q
def cxOf (T:Tab) (keep:FuncId→Bool) (cs:List Cal) (ds:List LoopD):Cx :=
 { T:=T,insts:=calI cs,keep:=keep,loops:=fun q=>match findD ds q with | some d=>.spec d.L | none=>.unroll }
mutual
def X.noL (ids:List Nat):X→Bool
 | .p o xs=>(match o with | .call f n=>!(f == loopId&&ids.contains n) | _=>true)&&X.noLs ids xs
 | .sl _ rows=>X.noLss ids rows
 | .agg xs=>X.noLs ids xs
 | _=>true
def X.noLs (ids:List Nat):List X→Bool
 | []=>true
 | x::xs=>x.noL ids&&X.noLs ids xs
def X.noLss (ids:List Nat):List (List X)→Bool
 | []=>true
 | x::xs=>X.noLs ids x&&X.noLss ids xs
end
def LEnd.noL (ids:List Nat):LEnd→Bool
 | .again ys=>X.noLs ids ys
 | .out _ zs=>X.noLs ids zs
def teNoL (ids:List Nat):Te LEnd→Bool
 | .ok a=>a.noL ids
 | .fail _=>true
 | .need p t=>p.noL ids&&teNoL ids t
 | .ite c a b=>c.noL ids&&teNoL ids a&&teNoL ids b
theorem sem_om {Ω Ω':Om} {o:Pr} (ho:∀ f n,o ≠ .call f n) (l:List AV):o.sem Ω l=o.sem Ω' l:=by
 cases o<;>first
  | exact absurd rfl (ho _ _)
  | (rcases l with _ | ⟨a,_ | ⟨b,_ | ⟨c,_ | ⟨d,l⟩⟩⟩⟩<;>rfl)
section
variable {Ω Ω':Om} {ids:List Nat} (hΩ:∀ f n vs,¬ (f=loopId∧ids.contains n=true)→Ω f n vs=Ω' f n vs)
include hΩ
mutual
theorem noL_den (ρ:List AV):∀ (e:X),e.noL ids=true→X.den Ω ρ e=X.den Ω' ρ e
 | .v _,_=>rfl
 | .b _,_=>rfl
 | .i _ _,_=>rfl
 | .s _,_=>rfl
 | .nils,_=>rfl
 | .sl k rows,h=>by simp only [X.noL] at h; simp only [X.den,noLss_den ρ rows h]
 | .agg xs,h=>by simp only [X.noL] at h; simp only [X.den,noLs_den ρ xs h]
 | .p o xs,h=>by
   simp only [X.noL,Bool.and_eq_true] at h
   simp only [X.den,noLs_den ρ xs h.2]
   cases o with
   | call f n =>
     have h1:=h.1
     simp only [Bool.not_eq_true',Bool.and_eq_false_iff,beq_eq_false_iff_ne] at h1
     simp only [Pr.sem]
     refine hΩ f n _ fun ⟨h2,h3⟩=>?_
     rcases h1 with h1 | h1
     ·exact h1 h2
     ·rw [h1] at h3; cases h3
   | _=>exact sem_om (fun _ _ h=>by cases h) _
theorem noLs_den (ρ:List AV):∀ (l:List X),X.noLs ids l=true→X.dens Ω ρ l=X.dens Ω' ρ l
 | [],_=>rfl
 | e::l,h=>by
   simp only [X.noLs,Bool.and_eq_true] at h
   simp only [X.dens,noL_den ρ e h.1,noLs_den ρ l h.2]
theorem noLss_den (ρ:List AV):∀ (l:List (List X)),X.noLss ids l=true→X.denss Ω ρ l=X.denss Ω' ρ l
 | [],_=>rfl
 | e::l,h=>by
   simp only [X.noLss,Bool.and_eq_true] at h
   simp only [X.denss,noLs_den ρ e h.1,noLss_den ρ l h.2]
end
theorem noL_sel (ρ:List AV):∀ (t:Te LEnd),teNoL ids t=true→t.sel (X.den Ω ρ)=t.sel (X.den Ω' ρ)∧∀ e,t.sel (X.den Ω' ρ)=some e→e.noL ids=true
 | .ok a,h=>⟨rfl,fun e he=>by injection he with he; subst he; exact h⟩
 | .fail _,_=>⟨rfl,fun e he=>by cases he⟩
 | .need p t,h=>by
   simp only [teNoL,Bool.and_eq_true] at h
   obtain ⟨h1,h2⟩:=noL_sel ρ t h.2
   simp only [Te.sel,noL_den hΩ ρ p h.1,h1]
   refine ⟨trivial,fun e he=>?_⟩
   split at he
   ·exact h2 e he
   ·cases he
 | .ite c a b,h=>by
   simp only [teNoL,Bool.and_eq_true] at h
   obtain ⟨h1,h2⟩:=noL_sel ρ a h.1.2
   obtain ⟨h3,h4⟩:=noL_sel ρ b h.2
   simp only [Te.sel,noL_den hΩ ρ c h.1.1,h1,h3]
   refine ⟨trivial,fun e he=>?_⟩
   split at he
   ·exact h2 e he
   ·exact h4 e he
theorem noL_G {B:Te LEnd} (hB:teNoL ids B=true):∀ (K:Nat) (vs:List AV),loopG Ω B K vs=loopG Ω' B K vs
 | 0,_=>rfl
 | K+1,vs=>by
   obtain ⟨h1,h2⟩:=noL_sel hΩ vs B hB
   simp only [loopG,h1]
   cases hs:B.sel (X.den Ω' vs) with
   | none=>rfl
   | some e =>
     have hn:=h2 e hs
     cases e with
     | again ys =>
       have:=noLs_den hΩ vs ys hn
       rw [X.dens_map,X.dens_map] at this
       simp only [this]
       exact noL_G hB K _
     | out tag zs =>
       have:=noLs_den hΩ vs zs hn
       rw [X.dens_map,X.dens_map] at this
       simp only [this]
end
def LEnd.eqb:LEnd→LEnd→Bool
 | .again a,.again b=>X.eqbs a b
 | .out i a,.out j b=>(i == j)&&X.eqbs a b
 | _,_=>false
def Te.eqb {α:Type} (f:α→α→Bool):Te α→Te α→Bool
 | .ok a,.ok b=>f a b
 | .fail a,.fail b=>a == b
 | .need p a,.need q b=>X.eqb p q&&Te.eqb f a b
 | .ite p a c,.ite q b d=>X.eqb p q&&Te.eqb f a b&&Te.eqb f c d
 | _,_=>false
theorem LEnd.eqb_eq {a b:LEnd} (h:a.eqb b=true):a=b:=by
 cases a<;>cases b<;>simp only [LEnd.eqb,Bool.and_eq_true,beq_iff_eq] at h<;>try (cases h; done)
 ·rw [X.eqbs_eq h]
 ·rw [h.1,X.eqbs_eq h.2]
theorem Te.eqb_eq {α:Type} {f:α→α→Bool} (hf:∀ a b,f a b=true→a=b):∀ {a b:Te α},Te.eqb f a b=true→a=b:=by
 intro a
 induction a with
 | ok a=>intro b h; cases b<;>simp only [Te.eqb] at h<;>try (cases h; done)
         rw [hf _ _ h]
 | fail w=>intro b h; cases b<;>simp only [Te.eqb,beq_iff_eq] at h<;>try (cases h; done)
           rw [h]
 | need p t ih=>intro b h; cases b<;>simp only [Te.eqb,Bool.and_eq_true] at h<;>try (cases h; done)
                rw [X.eqb_eq h.1,ih h.2]
 | ite c x y ihx ihy=>intro b h; cases b<;>simp only [Te.eqb,Bool.and_eq_true] at h<;>try (cases h; done)
                      rw [X.eqb_eq h.1.1,ihx h.1.2,ihy h.2]
def loopsChk (cx:Cx) (nn k M:Nat) (ds:List LoopD):List Code→Bool
 | []=>true
 | c::l=>(match findD ds ((keyOf c).getD 0) with
   | some d=>d.L.ok&&fixOk d.L.fix d.B&&Te.eqb LEnd.eqb (loopT cx nn k M d.L c) d.B
   | none=>true)&&loopsChk cx nn k M ds l
def dsOk:List Nat→List LoopD→Bool
 | _,[]=>true
 | ids,d::ds=>!(ds.any fun e=>e.L.id == d.L.id)&&!ids.contains d.L.id&&teNoL (d.L.id::ids) d.B&&dsOk (d.L.id::ids) ds
theorem findD_mem {ds:List LoopD} {q:Nat} {d:LoopD} (h:findD ds q=some d):d∈ds:=by
 induction ds with
 | nil=>cases h
 | cons e ds ih =>
   simp only [findD] at h
   split at h
   ·injection h with h; subst h; exact .head _
   ·exact .tail _ (ih h)
theorem omL_agree (K:Nat) (cs:List Cal):∀ (pre ds:List LoopD) (f n:Nat) (vs:List AV),¬ (f=loopId∧(pre.map (·.L.id)).contains n=true)→omL K cs (pre++ds) f n vs=omL K cs ds f n vs
 | [],ds,f,n,vs,_=>rfl
 | p::pre,ds,f,n,vs,h=>by
   simp only [List.cons_append,omL]
   rw [if_neg]
   ·exact omL_agree K cs pre ds f n vs fun ⟨h1,h2⟩=>h ⟨h1,by simp only [List.contains_eq_mem,decide_eq_true_eq] at h2 ⊢; exact List.mem_cons_of_mem _ h2⟩
   ·rintro ⟨h1,h2⟩
    exact h ⟨h1,by simp only [List.contains_eq_mem,decide_eq_true_eq,List.map_cons,h2]; exact List.mem_cons_self ..⟩
theorem omL_loop {K:Nat} {cs:List Cal}:∀ (ds pre:List LoopD) (ids:List Nat),(∀ n,ids.contains n=(pre.map (·.L.id)).contains n)→dsOk ids ds=true→∀ d∈ds,∀ vs,omL K cs (pre++ds) loopId d.L.id vs=getJ (loopG (omL K cs (pre++ds)) d.B K vs)
 | [],_,_,_,_,d,hd,_=>by cases hd
 | e::ds,pre,ids,hids,hok,d,hd,vs=>by
   simp only [dsOk,Bool.and_eq_true,Bool.not_eq_true'] at hok
   obtain ⟨⟨⟨_,h2⟩,h3⟩,h4⟩:=hok
   cases hd with
   | head =>
     rw [omL_agree K cs pre (e::ds) loopId e.L.id vs (fun ⟨_,h⟩=>by rw [← hids,h2] at h; cases h)]
     have:omL K cs (e::ds) loopId e.L.id vs=getJ (loopG (omL K cs ds) e.B K vs):=by
      show (if loopId=loopId∧e.L.id=e.L.id then _ else _)=_
      rw [if_pos ⟨rfl,rfl⟩]
     rw [this]
     congr 1
     refine (noL_G (ids:=e.L.id::ids) (fun f n vs hn=>?_) h3 K vs)
     rw [show pre++e::ds=(pre++[e])++ds by simp]
     refine (omL_agree K cs (pre++[e]) ds f n vs fun ⟨h5,h6⟩=>hn ⟨h5,?_⟩).symm
     have:=hids n
     simp only [List.contains_eq_mem,List.map_append,List.map_cons,List.map_nil,List.mem_append,List.mem_singleton,decide_eq_true_eq,List.mem_cons,decide_eq_decide] at this h6 ⊢
     rcases h6 with h6 | h6 | h6
     ·exact .inr (this.2 h6)
     ·exact .inl h6
     ·cases h6
   | tail _ hd =>
     have:=omL_loop (K:=K) (cs:=cs) ds (pre++[e]) (e.L.id::ids) (fun n=>by
      have:=hids n
      simp only [List.contains_eq_mem,List.map_append,List.map_cons,List.map_nil,List.mem_append,List.mem_singleton,List.mem_cons,decide_eq_decide] at this ⊢
      rw [this]; simp [or_comm]) h4 d hd vs
     rw [show pre++e::ds=(pre++[e])++ds by simp]
     exact this
theorem calX_mem {cs:List Cal} {f:FuncId} {g:List AV→Option AV} (h:calX cs f=some g):∃ c∈cs,c.I.f=f∧g=extI c.I c.F:=by
 induction cs with
 | nil=>cases h
 | cons c cs ih =>
   simp only [calX] at h
   split at h
   ·rename_i e; injection h with h; exact ⟨c,.head _,e,h.symm⟩
   ·obtain ⟨d,h1,h2⟩:=ih h; exact ⟨d,.tail _ h1,h2⟩
def calsOk:List Cal→Bool
 | []=>true
 | c::cs=>!(c.I.f == loopId)&&(cs.all fun d=>!(d.I.f == c.I.f))&&(patWs c.I.pats).isSome&&calsOk cs
theorem calI_some {cs:List Cal} {f:FuncId} {I:Inst} (hok:calsOk cs=true) (h:I∈calI cs f):I.f=f∧f ≠ loopId∧(∃ js,patWs I.pats=some js)∧∃ F,calX cs f=some (extI I F)∧(∀ n vs,n=I.n→calO cs f n vs=getJ (F vs))∧∃ c∈cs,c.I=I∧c.F=F:=by
 induction cs with
 | nil=>cases h
 | cons c cs ih =>
   simp only [calsOk,Bool.and_eq_true,Bool.not_eq_true',beq_eq_false_iff_ne] at hok
   simp only [calI] at h
   split at h
   ·rename_i e
    simp at h; subst h
    refine ⟨e,by rw [← e]; exact hok.1.1.1,Option.isSome_iff_exists.1 hok.1.2,c.F,by simp only [calX,if_pos e],fun n vs hn=>?_,c,.head _,rfl,rfl⟩
    simp only [calO]; rw [if_pos ⟨e,hn.symm⟩]
   ·rename_i e
    obtain ⟨h1,h2,h3,F,h4,h5,d,h6,h7⟩:=ih hok.2 h
    refine ⟨h1,h2,h3,F,by simp only [calX,if_neg e]; exact h4,fun n vs hn=>?_,d,.tail _ h6,h7⟩
    simp only [calO]; rw [if_neg (fun ⟨h,_⟩=>e h)]; exact h5 n vs hn
theorem calI_none {cs:List Cal} {f:FuncId} (h:calI cs f=[]):calX cs f=none:=by
 induction cs with
 | nil=>rfl
 | cons c cs ih =>
   simp only [calI] at h
   simp only [calX]
   split at h
   ·cases h
   ·rename_i e; rw [if_neg e]; exact ih h
theorem omL_fn {K:Nat} {cs:List Cal}:∀ (ds:List LoopD) (f n:Nat) (vs:List AV),f ≠ loopId→omL K cs ds f n vs=calO cs f n vs
 | [],_,_,_,_=>rfl
 | d::ds,f,n,vs,h=>by simp only [omL]; rw [if_neg (fun ⟨h1,_⟩=>h h1)]; exact omL_fn ds f n vs h
def IpT (T:Tab) (cs:List Cal):Prop:=∀ c∈cs,(∀ p,T.ip c.I.f=some p→c.I.pats=[]∧∀ v,c.F [v]=ipFn p [v]) ∧
 (∀ p,T.gp c.I.f=some p→c.I.pats=[]∧c.I.n=p.n∧c.F []=none∧(∃ js,patWs p.pats=some js)∧∀ args l,mtVs p.pats args=some l→l.map (·.1)=List.range l.length→p.g args=c.F (l.map (·.2))) ∧
 (∀ p,T.fr c.I.f=some p→c.I.pats=[]∧c.I.n=p.n∧c.F []=none∧(∃ js,patWs p.pats=some js)∧∀ args l,mtVs p.pats args=some l→l.map (·.1)=List.range l.length→p.g args=c.F (l.map (·.2)))
theorem cxR_of {T:Tab} {keep:FuncId→Bool} {K:Nat} {cs:List Cal} {ds:List LoopD} (hI:IpT T cs) (hok:calsOk cs=true):CxR (omL K cs ds) ⟨T,calX cs,keep⟩ (cxOf T keep cs ds) where
 T:=rfl
 keep f h:=h
 none f h:=calI_none h
 insts f I hI:=by
  obtain ⟨h1,h2,h3,F,h4,h5,_⟩:=calI_some hok hI
  refine ⟨h1,h3,extI I F,F,by rw [h1]; exact h4,fun args l hl hr=>?_,fun vs=>?_⟩
  ·simp only [extI,hl,hr,if_true]
  ·rw [h1,omL_fn ds f I.n vs h2,h5 I.n vs rfl]
 ip f p I hp hm:=by
  obtain ⟨h1,h2,h3,F,h4,h5,d,h6,h7,h8⟩:=calI_some hok hm
  obtain ⟨q1,q2⟩:=(hI d h6).1 p (by rw [h7,h1]; exact hp)
  refine ⟨fun x=>.inr ⟨_,h4,?_⟩,fun c=>?_⟩
  ·simp only [extI,← h7,q1,mtVs]
  ·rw [h1,omL_fn ds f I.n _ h2,h5 I.n _ rfl,← h8,q2]
 gp f p I hp hm:=by
  obtain ⟨h1,h2,h3,F,h4,h5,d,h6,h7,h8⟩:=calI_some hok hm
  obtain ⟨q1,q2,q3,q4,q5⟩:=(hI d h6).2.1 p (by rw [h7,h1]; exact hp)
  refine ⟨fun as=>.inr ⟨_,h4,?_⟩,q4,F,fun args l hl hr=>?_,fun vs=>?_⟩
  ·cases as with
   | nil=>simp only [extI,← h7,q1,mtVs,List.map_nil,List.length_nil,List.range_zero,if_true,← h8,q3]
   | cons a as=>simp only [extI,← h7,q1,mtVs]
  ·rw [← h8]; exact q5 args l hl hr
  ·rw [omL_fn ds f p.n _ h2,← q2,h7,h5 I.n _ rfl]
 fr f p I hp hm:=by
  obtain ⟨h1,h2,h3,F,h4,h5,d,h6,h7,h8⟩:=calI_some hok hm
  obtain ⟨q1,q2,q3,q4,q5⟩:=(hI d h6).2.2 p (by rw [h7,h1]; exact hp)
  refine ⟨fun as=>.inr ⟨_,h4,?_⟩,q4,F,fun args l hl hr=>?_,fun vs=>?_⟩
  ·cases as with
   | nil=>simp only [extI,← h7,q1,mtVs,List.map_nil,List.length_nil,List.range_zero,if_true,← h8,q3]
   | cons a as=>simp only [extI,← h7,q1,mtVs]
  ·rw [← h8]; exact q5 args l hl hr
  ·rw [omL_fn ds f p.n _ h2,← q2,h7,h5 I.n _ rfl]
theorem loops_all {T:Tab} {keep:FuncId→Bool} {K kA nn k M:Nat} {cs:List Cal} {ds:List LoopD} (hI:IpT T cs) (hcs:calsOk cs=true) (hds:dsOk [] ds=true) (hnn:nn≤kA) (hk:k≤kA) (hK:K≤kA) :
  ∀ (c:Code),loopsChk (cxOf T keep cs ds) nn k M ds (loopsOf c)=true→∀ d∈loopsOf c,(∀ L',(cxOf T keep cs ds).loops ((keyOf d).getD 0) = .spec L'→∀ ρ,LoopAt (X.den (omL K cs ds) ρ) [(0,0),(0,0)] T (AM.inv ⟨T,calX cs,keep⟩ kA) kA M L' d):=by
 have app:∀ {l1 l2:List Code},loopsChk (cxOf T keep cs ds) nn k M ds (l1++l2)=true→loopsChk (cxOf T keep cs ds) nn k M ds l1=true∧loopsChk (cxOf T keep cs ds) nn k M ds l2=true:=by
  intro l1
  induction l1 with
  | nil=>intro l2 h; exact ⟨rfl,h⟩
  | cons a l1 ih =>
    intro l2 h
    simp only [List.cons_append,loopsChk,Bool.and_eq_true] at h ⊢
    obtain ⟨h1,h2⟩:=ih h.2
    exact ⟨⟨h.1,h1⟩,h2⟩
 intro c
 induction c with
 | seq a b iha ihb =>
   intro h d hd
   obtain ⟨h1,h2⟩:=app h
   rcases List.mem_append.1 hd with hd | hd
   ·exact iha h1 d hd
   ·exact ihb h2 d hd
 | cond c a b iha ihb =>
   intro h d hd
   obtain ⟨h1,h2⟩:=app h
   rcases List.mem_append.1 hd with hd | hd
   ·exact iha h1 d hd
   ·exact ihb h2 d hd
 | block id c ih=>exact ih
 | scope c ih=>exact ih
 | loop c ih =>
   intro h d hd
   simp only [loopsOf,loopsChk,Bool.and_eq_true] at h
   cases hd with
   | head =>
     intro L' hL' ρ
     have hL2:=hL'
     simp only [cxOf] at hL2
     split at hL2
     ·rename_i e he
      injection hL2 with hL2; subst hL2
      have h1:=h.1
      rw [he] at h1
      simp only [Bool.and_eq_true] at h1
      have hB:=Te.eqb_eq (fun _ _ h=>LEnd.eqb_eq h) h1.2
      intro σ st h' fr fr' dfr ex fr1 st1
      exact loopAt_of (cxR_of hI hcs) h1.1.1 hnn hk hK hB h1.1.2 (fun vs=>omL_loop ds [] [] (fun _=>rfl) hds e (findD_mem he) vs) (fun ρ d hd L' hL'=>ih h.2 d hd L' hL' ρ) (fun d _ hp=>by
       simp only [cxOf] at hp; split at hp<;>cases hp) ρ
     ·cases hL2
   | tail _ hd=>exact ih h.2 d hd
 | _=>intro _ d hd; simp [loopsOf] at hd
def unitF (Ω:Om) (t:Te AV) (vs:List AV):Option AV:=(t.sel (X.den Ω vs)).map (AV.den (X.den Ω vs) id)
def unitChk (T:Tab) (keep:FuncId→Bool) (cs:List Cal) (ds:List LoopD) (n:Nat) (f:FuncId) (pats:List AV) (t:Te AV):Bool :=
 calsOk cs&&dsOk [] ds&&(calI cs f).isEmpty&&((T.ip f).isNone&&((T.gp f).isNone&&(T.fr f).isNone)&&!T.pu f)&&(match patWs pats with | some js=>js == List.range js.length | none=>false)&&AV.cls pats &&
  Te.eqb AV.eqb (unitT (cxOf T keep cs ds) n f pats) t &&
  (match T.fn.get f with
  | some e=>match e.fn.body with
    | some code=>loopsChk (cxOf T keep cs ds) n n e.loc ds (loopsOf code)
    | none=>false
  | none=>false)
theorem sim0 (V:X→AV) (σ:Nat→Nat):Sim V σ [(0,0)] s0 h0:=by
 refine ⟨⟨?_,?_,?_,?_⟩,?_,?_,?_,⟨?_,?_,trivial⟩,⟨?_,trivial⟩,?_,?_,?_,?_⟩
 ·intro b B h; simp [prom,promS,s0,Hp.get,look,lookRest,lookS] at h
 ·intro b c B D h; simp [prom,promS,s0,Hp.get,look,lookRest,lookS] at h
 ·intro b B h; simp [prom,promS,s0,Hp.get,look,lookRest,lookS] at h
 ·intro L hL; simp at hL; subst hL
  exact ⟨fun b B h=>by simp [prom,promS,s0,Hp.get,look,lookRest,lookS] at h,Nat.le_refl _,Nat.le_refl _⟩
 ·intro b B h; simp [s0,Hp.get,look,lookRest] at h
 ·intro t s h; simp [s0,lookS] at h
 ·intro t s B h; simp [s0,lookS] at h
 ·intro e he; exact Nat.zero_le _
 ·intro x hx; simp [s0] at hx
 ·intro e he; exact Nat.zero_le _
 ·intro L hL h; simp [h0,lkOk]
 ·intro e he; simp [s0] at he
 ·intro s hs e he; simp [s0,Hp.segs,AM.ids] at hs; subst hs; cases he
 ·intro L hL b B h; simp at hL; subst hL; exact absurd h (Nat.not_lt_zero _)
variable [Glob]
theorem unit_ip {T:Tab} {keep:FuncId→Bool} {n:Nat} {cs:List Cal} {ds:List LoopD} {f:FuncId} {pats:List AV} {t:Te AV} (hc:unitChk T keep cs ds n f pats t=true):T.ip f=none:=by
 unfold unitChk at hc
 simp only [Bool.and_eq_true] at hc
 simpa using hc.1.1.1.1.2.1.1
theorem unit_ext {P:Program} {T:Tab} {keep:FuncId→Bool} {K n:Nat} {cs:List Cal} {ds:List LoopD} (hT:T.Of P) (hG:T.Good P) (hX:∀ c∈cs,ExtOk P c.I.f (extI c.I c.F)) (hI:IpT T cs) {f:FuncId} {n0:Nat} {pats:List AV} {rs:List RS} {t:Te AV}
  (hk:Known P f) (hc:unitChk T keep cs ds n f pats t=true):ExtOk P f (extI ⟨f,n0,pats,rs⟩ (unitF (omL K cs ds) t)):=by
 unfold unitChk at hc
 simp only [Bool.and_eq_true] at hc
 obtain ⟨⟨⟨⟨⟨⟨⟨c1,c2⟩,c3⟩,⟨c8,c10⟩,c9⟩,c4⟩,c7⟩,c5⟩,c6⟩:=hc
 have hip:T.ip f=none∧T.gp f=none∧T.fr f=none:=⟨by simpa using c8,by simpa using c10.1,by simpa using c10.2⟩
 have hpu:T.pu f=false:=by simpa using c9
 refine ⟨hk,fun args r h B0 nx0 w ρ vargs H hrel hg hfl=>?_⟩
 have hE:∀ f g,(AM.Env.mk T (calX cs) keep).ext f=some g→ExtOk P f g:=by
  intro f g hfg
  obtain ⟨c,hc1,hc2,rfl⟩:=calX_mem hfg
  rw [← hc2]; exact hX c hc1
 unfold extI at hg
 split at hg
 ·rename_i l hl
  split at hg
  ·rename_i hr
   have hV':∀ e∈l,X.den (omL K cs ds) (l.map (·.2)) (.v e.1)=e.2:=by
    intro e he
    obtain ⟨i,hi⟩:=List.getElem?_of_mem he
    have h1:(l.map (·.1))[i]? = some e.1:=by rw [List.getElem?_map,hi]; rfl
    rw [hr] at h1
    have hlt:i < l.length:=(List.getElem?_eq_some_iff.1 hi).1
    rw [List.getElem?_range hlt] at h1
    injection h1 with h1
    simp only [X.den,nth_eq,← h1,List.getElem?_map,hi]
    rfl
   obtain ⟨p1,p2⟩:=mtVs_den (σ:=id) pats _ l hl hV'
   have hV:=isV_den (omL K cs ds) (l.map (·.2))
   unfold unitF at hg
   cases hs:t.sel (X.den (omL K cs ds) (l.map (·.2))) with
   | none=>rw [hs] at hg; cases hg
   | some v =>
     rw [hs] at hg
     injection hg with hg
     have ht:=Te.eqb_eq (fun _ _ h=>AV.eqb_eq _ _ h) c5
     rw [← ht] at hs
     unfold unitT at hs
     rw [sel_bind] at hs
     obtain ⟨⟨u,su⟩,hs1,hs2⟩:=hs
     injection hs2 with hs2
     simp only at hs2; subst hs2
     unfold unitS at hs1
     obtain ⟨⟨u2,su2⟩,hb1,hb2⟩:=fold_sel hV LeV.refl (fun _ _ _=>LeV.trans) (fun c a b m h=>mgV_le hV c a b m h) hs1
     obtain ⟨l1,l2⟩:=hb2
     have hC:CxR (omL K cs ds) ⟨T,calX cs,keep⟩ (cxOf T keep cs ds):=cxR_of hI c1
     have hokv:∀ x∈pats,x.okv (X.den (omL K cs ds) (l.map (·.2))) s0.hp.nx:=(okvs_iff _).1 p2
     have hS0:=sim0 (X.den (omL K cs ds) (l.map (·.2))) id
     have hkA:n≤max n K:=Nat.le_max_left _ _
     have hKA:K≤max n K:=Nat.le_max_right _ _
     obtain ⟨hkeep,e,code,h1,σ1,he,hcode,hrun,S1,hcl,hok,_,_⟩:=bodyS_den (nl:=false) (invA:=AM.inv ⟨T,calX cs,keep⟩ (max n K)) (kA:=max n K) hV (invS_den hV hC n (max n K) hkA) (by simp) hS0 hkA hokv
      (fun e code he hcode=>by
       rw [show (cxOf T keep cs ds).T=T from rfl] at he
       rw [he] at c6
       simp only [hcode] at c6
       exact ⟨fun d hd L hL=>⟨rfl,loops_all hI c1 c2 hkA hkA hKA code c6 d hd L hL _⟩,fun d _ hp=>by
        simp only [cxOf] at hp; split at hp<;>cases hp⟩) hb1
     obtain ⟨m1,m2⟩:=l1 (σ:=σ1) (hok.mono (Nat.zero_le _))
     simp only at m1 m2
     have hden:u.den (X.den (omL K cs ds) (l.map (·.2))) σ1=r:=by
      rw [m2,← hg]
      obtain ⟨m3,m4⟩:=l1 (σ:=id) (hok.mono (Nat.zero_le _))
      simp only at m4
      rw [m4]
      exact den_agr (n:=0) (fun b hb=>absurd hb (Nat.not_lt_zero _)) hok
     have hrunf:AM.inv ⟨T,calX cs,keep⟩ (max n K+1) (.func f) (args.map (frz h 0 12)) [] h0 = .ok (r,h1):=by
      simp only [AM.inv,List.append_nil]
      have hnone:(AM.Env.mk T (calX cs) keep).ext f=none:=calI_none (by simpa using c3)
      rw [runFn_body hnone hip hpu he hcode]
      rw [← p1,AV.dens_map]
      have hkeep':keep f=false:=hkeep
      rw [← hden,m2]
      show runBody T _ _ e code (keep f) _ h0=_
      rw [hkeep']
      exact hrun
     have hmx:r.mx=0:=by
      rw [← hden,m2]
      exact den_mx0 hok (cl_mx hcl)
     have hargs:mxs (args.map (frz h 0 12))=0:=by
      rw [← p1,AV.dens_map]
      exact map_mx0 hokv (cls_mx c7)
     exact ext_closed (E:=⟨T,calX cs,keep⟩) hT hG hE (max n K+1) f (args.map (frz h 0 12)) r hmx hargs (by rw [hrunf]; rfl) args h B0 nx0 w ρ vargs H hrel rfl hfl
  ·cases hg
 ·cases hg
end Go.Proofs.YtdjngcfnlfgjkaaGreatDoor.AM

namespace Go.Proofs.YtdjngcfnlfgjkaaGreatDoor.AM
def stG (cs:List Sh):SSt:=⟨⟨1,[(0,.dead)],[[]],none⟩,[(0,.rows cs (.v 0))],[]⟩
def finG (cs:List Sh) (r:Ex × List AV × SSt):Te (AV × SSt) :=
 match r.1 with
 | .exit _=>.fail 170
 | _=>match nth r.2.1 0 with
   | some (.sym (.own u _) _)=>(match lookS r.2.2.sb u with
     | some (.rows cs'' e)=>if Sh.eqbs cs'' cs then .ok (.sym (.sl cs) e,s0) else .fail 171
     | _=>.fail 172)
   | _=>.fail 173
def bodyG (cx:Cx) (n:Nat) (f:FuncId) (cs:List Sh) (more:List AV):Te (AV × SSt) :=
 match cx.T.fn.get f with
 | some e=>match e.fn.body with
   | some code =>
     if e.fn.results.toList.isEmpty&&noW cx.T 0 code then
      (execS cx (invS cx n) n 0 e.loc code ((.sym (.own 0 cs) (.v 0)::more)++List.replicate (e.fn.ntmps - (AV.sym (.own 0 cs) (.v 0)::more).length) undefA) (stG cs)).bind (finG cs)
     else .fail 174
   | none=>.fail 112
 | none=>.fail 113
def unitGT (cx:Cx) (n:Nat) (f:FuncId) (cs:List Sh) (more:List AV):Te AV:=(Te.fold (mgV fun _=>false) (bodyG cx n f cs more)).bind fun r=>.ok r.1
def unitChkG (T:Tab) (keep:FuncId→Bool) (cs:List Cal) (ds:List LoopD) (n:Nat) (f:FuncId) (csh:List Sh) (more:List AV) (t:Te AV):Bool :=
 calsOk cs&&dsOk [] ds&&(match patWs (.sym (.sl csh) (.v 0)::more) with | some js=>js == List.range js.length | none=>false) &&
  Te.eqb AV.eqb (unitGT (cxOf T keep cs ds) n f csh more) t &&
  (match T.fn.get f with
  | some e=>match e.fn.body with
    | some code=>loopsChk (cxOf T keep cs ds) n n e.loc ds (loopsOf code)
    | none=>false
  | none=>false)
section
variable {V:X→AV} {cs:List Sh}
theorem simG_row {rows:List (List AV)} (hv:V (.v 0) = .sl cs.length rows) (hok:(Sh.sl cs).ok (V (.v 0))=true):Sim V id [(0,0),(0,0)] (stG cs) (hS cs.length rows).enter:=by
 have hpr:∀ b B,prom V id (stG cs) b=some B→b=0∧B = .cells cs.length rows:=by
  intro b B h
  unfold prom stG at h
  simp only [Hp.get,look,lookRest] at h
  by_cases hb:b=0
  ·subst hb
   simp [promS,lookS,SB.prom,hv,Blk.liveS] at h
   exact ⟨rfl,h.symm⟩
  ·simp [hb,promS,lookS] at h
 refine ⟨⟨?_,?_,?_,?_⟩,?_,?_,?_,⟨?_,?_,⟨?_,?_,trivial⟩⟩,⟨?_,?_,trivial⟩,?_,?_,?_,?_⟩
 ·intro b B h
  obtain ⟨rfl,rfl⟩:=hpr b B h
  rw [get_enter]; rfl
 ·intro b c B C h1 h2 _
  rw [(hpr b B h1).1,(hpr c C h2).1]
 ·intro b B h
  obtain ⟨rfl,rfl⟩:=hpr b B h
  exact ⟨Nat.zero_lt_one,Nat.zero_lt_one⟩
 ·intro L hL
  have:L=(0,0):=by simpa using hL
  subst this
  exact ⟨fun b B _=>⟨fun _=>Nat.zero_le _,fun _=>Nat.zero_le _⟩,Nat.zero_le _,Nat.zero_le _⟩
 ·intro b B h
  simp only [stG,Hp.get,look,lookRest] at h
  by_cases hb:b=0
  ·simp [hb] at h; subst h; trivial
  ·simp [hb] at h
 ·intro t s h
  simp only [stG,lookS] at h
  split at h
  ·rename_i ht; injection h with h; subst h; exact ⟨hok,by rw [ht]; exact Nat.zero_lt_one⟩
  ·cases h
 ·intro t s B h1 h2
  simp only [stG,Hp.get,look,lookRest] at h2
  by_cases hb:t=0
  ·simp [hb] at h2; subst h2; rfl
  ·simp [hb] at h2
 ·intro e he; exact Nat.zero_le _
 ·intro x hx e he
  have:x=[]:=by simpa [stG,AM.ids] using hx
  subst this; cases he
 ·intro e he; exact Nat.zero_le _
 ·intro x hx; simp at hx
 ·intro e he; exact Nat.zero_le _
 ·intro e he; exact Nat.zero_le _
 ·intro L hL h; rfl
 ·intro e he; simp [stG] at he
 ·intro s hs e he
  simp only [stG,Hp.segs,AM.ids,List.map_cons,List.map_nil,List.mem_cons,List.not_mem_nil,or_false] at hs
  rcases hs with rfl | rfl
  ·simp at he; subst he; exact Nat.zero_lt_one
  ·cases he
 ·intro L hL b B h
  have:L=(0,0):=by simpa using hL
  subst this; exact absurd h (Nat.not_lt_zero _)
theorem simG_nil (hv:V (.v 0) = .nils):Sim V id [(0,0),(0,0)] (stG cs) h0.enter:=by
 have hpr:∀ b B,prom V id (stG cs) b=some B→False:=by
  intro b B h
  unfold prom stG at h
  simp only [Hp.get,look,lookRest] at h
  by_cases hb:b=0
  ·subst hb
   simp [promS,lookS,SB.prom,hv,Blk.liveS] at h
  ·simp [hb,promS,lookS] at h
 refine ⟨⟨?_,?_,?_,?_⟩,?_,?_,?_,⟨?_,?_,⟨?_,?_,trivial⟩⟩,⟨?_,?_,trivial⟩,?_,?_,?_,?_⟩
 ·intro b B h; exact (hpr b B h).elim
 ·intro b c B C h1 h2 _; exact (hpr b B h1).elim
 ·intro b B h; exact (hpr b B h).elim
 ·intro L hL
  have:L=(0,0):=by simpa using hL
  subst this
  exact ⟨fun b B _=>⟨fun _=>Nat.zero_le _,fun _=>Nat.zero_le _⟩,Nat.zero_le _,Nat.zero_le _⟩
 ·intro b B h
  simp only [stG,Hp.get,look,lookRest] at h
  by_cases hb:b=0
  ·simp [hb] at h; subst h; trivial
  ·simp [hb] at h
 ·intro t s h
  simp only [stG,lookS] at h
  split at h
  ·rename_i ht; injection h with h; subst h
   refine ⟨?_,by rw [ht]; exact Nat.zero_lt_one⟩
   show (Sh.sl cs).ok (V (.v 0))=true
   rw [hv]; rfl
  ·cases h
 ·intro t s B h1 h2
  simp only [stG,Hp.get,look,lookRest] at h2
  by_cases hb:t=0
  ·simp [hb] at h2; subst h2; rfl
  ·simp [hb] at h2
 ·intro e he; exact Nat.zero_le _
 ·intro x hx e he
  have:x=[]:=by simpa [stG,AM.ids] using hx
  subst this; cases he
 ·intro e he; exact Nat.zero_le _
 ·intro x hx; simp at hx
 ·intro e he; exact Nat.zero_le _
 ·intro e he; exact Nat.zero_le _
 ·intro L hL h; rfl
 ·intro e he; simp [stG] at he
 ·intro s hs e he
  simp only [stG,Hp.segs,AM.ids,List.map_cons,List.map_nil,List.mem_cons,List.not_mem_nil,or_false] at hs
  rcases hs with rfl | rfl
  ·simp at he; subst he; exact Nat.zero_lt_one
  ·cases he
 ·intro L hL b B h
  have:L=(0,0):=by simpa using hL
  subst this; exact absurd h (Nat.not_lt_zero _)
end
theorem gp_run {Ω:Om} {V:X→AV} (hV:IsV Ω V) {T:Tab} {keep:FuncId→Bool} {K n kA:Nat} {cs:List Cal} {ds:List LoopD} {f:FuncId} {csh:List Sh} {more:List AV} {t:Te AV} {u:AV} {ρ:List AV} (hΩ:Ω=omL K cs ds) (hVd:V=X.den Ω ρ) (hI:IpT T cs)
  (hc:unitChkG T keep cs ds n f csh more t=true) (hkA:n≤kA) (hKA:K≤kA) {h:Hp} (S:Sim V id [(0,0),(0,0)] (stG csh) h) (hok:∀ x∈AV.sym (.own 0 csh) (.v 0)::more,x.okv V 1) (hs:t.sel V=some u) :
  ∃ e code,T.fn.get f=some e∧e.fn.body=some code∧e.fn.results.toList=[]∧noW T 0 code=true∧∃ ex fr1' h1 σ1 u' cs' ee e',
    exec T (AM.inv ⟨T,calX cs,keep⟩ kA) kA e.loc none code ⟨(AV.sym (.own 0 csh) (.v 0)::more).map (AV.den V id)++List.replicate (e.fn.ntmps - (AV.sym (.own 0 csh) (.v 0)::more).length) undefA,[]⟩ h = .ok (ex,⟨fr1',[]⟩,h1) ∧
    (∀ id,ex ≠ .exit id)∧nth fr1' 0=some (symD V σ1 (.own u' cs') ee)∧u.den V id=V e'∧(∀ k r,V e' = .sl k r→h1.get (σ1 u')=some (.cells k r)):=by
 subst hVd; subst hΩ
 unfold unitChkG at hc
 simp only [Bool.and_eq_true] at hc
 obtain ⟨⟨⟨⟨c1,c2⟩,c4⟩,c5⟩,c6⟩:=hc
 have ht:=Te.eqb_eq (fun _ _ h=>AV.eqb_eq _ _ h) c5
 rw [← ht] at hs
 unfold unitGT at hs
 rw [sel_bind] at hs
 obtain ⟨⟨u0,su⟩,hs1,hs2⟩:=hs
 injection hs2 with hs2
 simp only at hs2; subst hs2
 obtain ⟨⟨u2,su2⟩,hb1,l1,l2⟩:=fold_sel hV LeV.refl (fun _ _ _=>LeV.trans) (fun c a b m h=>mgV_le hV c a b m h) hs1
 have hC:CxR (omL K cs ds) ⟨T,calX cs,keep⟩ (cxOf T keep cs ds):=cxR_of hI c1
 unfold bodyG at hb1
 split at hb1
 case h_2=>cases hb1
 rename_i e he
 split at hb1
 case h_2=>cases hb1
 rename_i code hcode
 split at hb1
 case isFalse=>cases hb1
 rename_i hcc
 simp only [Bool.and_eq_true] at hcc
 rw [sel_bind] at hb1
 obtain ⟨⟨ex,fr1,st1⟩,e1,e2⟩:=hb1
 have he':T.fn.get f=some e:=he
 rw [he'] at c6
 simp only [hcode] at c6
 have hfr:FrS (X.den (omL K cs ds) ρ) id (stG csh).hp.nx ((.sym (.own 0 csh) (.v 0)::more)++List.replicate (e.fn.ntmps - (AV.sym (.own 0 csh) (.v 0)::more).length) undefA) ((AV.sym (.own 0 csh) (.v 0)::more).map (AV.den (X.den (omL K cs ds) ρ) id)++List.replicate (e.fn.ntmps - (AV.sym (.own 0 csh) (.v 0)::more).length) undefA) :=
  (FrS.vals hok).append (FrS.undefs _)
 obtain ⟨fr1',h1,σ1,x1,x2,x3⟩:=execS_den (nl:=false) (kA:=kA) hV (invS_den hV hC n kA hkA) (fun L hL=>by simp at hL; subst hL; exact Nat.le_refl _) hkA (fun _=>.inr trivial) code
  (fun d hd L hL=>⟨rfl,loops_all hI c1 c2 hkA hkA hKA code c6 d hd L hL _⟩) (fun d _ hp=>by simp only [cxOf] at hp; split at hp<;>cases hp) (dfr:=[]) S hfr e1
 have hfin:(∀ id,ex ≠ .exit id)∧∃ u' cs' ee e',nth fr1 0=some (.sym (.own u' cs') ee)∧lookS st1.sb u'=some (.rows csh e')∧u2 = .sym (.sl csh) e'∧su2=s0:=by
  unfold finG at e2
  simp only at e2
  have one:(match nth fr1 0 with
   | some (.sym (.own u _) _)=>(match lookS st1.sb u with
     | some (.rows cs'' e)=>if Sh.eqbs cs'' csh then Te.ok (AV.sym (.sl csh) e,s0) else .fail 171
     | _=>.fail 172)
   | _=>.fail 173).sel (X.den (omL K cs ds) ρ)=some (u2,su2)→∃ u' cs' ee e',nth fr1 0=some (.sym (.own u' cs') ee)∧lookS st1.sb u'=some (.rows csh e')∧u2 = .sym (.sl csh) e'∧su2=s0:=by
   intro e2
   split at e2
   ·rename_i u' cs' ee hn
    split at e2
    ·rename_i cs'' e' hl
     split at e2
     ·rename_i hq
      have hq:=Sh.eqbs_eq hq; subst hq
      injection e2 with e2; simp only [Prod.mk.injEq] at e2
      exact ⟨u',cs',ee,e',hn,hl,e2.1.symm,e2.2.symm⟩
     ·cases e2
    ·cases e2
   ·cases e2
  cases ex with
  | exit id=>cases e2
  | normal=>exact ⟨(fun _ h=>by cases h),one e2⟩
  | ret=>exact ⟨(fun _ h=>by cases h),one e2⟩
 obtain ⟨hex,u',cs',ee,e',hn,hl,rfl,rfl⟩:=hfin
 obtain ⟨a',hn',hsl⟩:=x2.get hn
 have ha':a'=symD (X.den (omL K cs ds) ρ) σ1 (.own u' cs') ee:=by
  rcases hsl with h | ⟨_,h⟩
  ·cases h
  ·exact h
 have hokE:(Sh.sl csh).ok (X.den (omL K cs ds) ρ e')=true:=(x3.sim.oks _ _ hl).1
 refine ⟨e,code,he',hcode,List.isEmpty_iff.1 hcc.1,hcc.2,ex,fr1',h1,σ1,u',cs',ee,e',x1,hex,by rw [hn',ha'],?_,fun k r hr=>?_⟩
 ·obtain ⟨_,m2⟩:=l1 (σ:=id) (show symOk _ _ (.sl csh) e' from hokE)
  exact m2
 ·refine x3.sim.core.get u' _ ?_
  rw [prom_sb x3.sim hl]
  simp only [SB.prom,hr]
variable [Glob]
theorem unit_gp {P:Program} {T:Tab} {keep:FuncId→Bool} {K n:Nat} {cs:List Cal} {ds:List LoopD} (hT:T.Of P) (hG:T.Good P) (hX:∀ c∈cs,ExtOk P c.I.f (extI c.I c.F)) (hI:IpT T cs) {f:FuncId} {n0:Nat} {csh:List Sh} {more:List AV} {rs:List RS} {t:Te AV}
  (hc:unitChkG T keep cs ds n f csh more t=true) (hb:∃ e code,T.fn.get f=some e∧e.fn.body=some code∧e.fn.results.toList=[]):GpOk P f ⟨.sym (.sl csh) (.v 0)::more,n0,csh,extI ⟨f,n0,.sym (.sl csh) (.v 0)::more,rs⟩ (unitF (omL K cs ds) t)⟩:=by
 obtain ⟨e,code,he,hcode,hres⟩:=hb
 have hE:∀ f g,(AM.Env.mk T (calX cs) keep).ext f=some g→ExtOk P f g:=by
  intro f g hfg
  obtain ⟨c,hc1,hc2,rfl⟩:=calX_mem hfg
  rw [← hc2]; exact hX c hc1
 have hkA:n≤max n K:=Nat.le_max_left _ _
 have hKA:K≤max n K:=Nat.le_max_right _ _
 have ask:∀ {a0 r0:AV} {margs:List AV},extI ⟨f,n0,.sym (.sl csh) (.v 0)::more,rs⟩ (unitF (omL K cs ds) t) (a0::margs)=some r0→∃ (ρ:List AV) (u:AV),X.den (omL K cs ds) ρ (.v 0)=a0∧(Sh.sl csh).ok a0=true∧more.map (AV.den (X.den (omL K cs ds) ρ) id)=margs∧(∀ x∈more,x.okv (X.den (omL K cs ds) ρ) 0)∧t.sel (X.den (omL K cs ds) ρ)=some u∧u.den (X.den (omL K cs ds) ρ) id=r0:=by
  intro a0 r0 margs hg
  unfold extI at hg
  split at hg
  case h_2=>cases hg
  rename_i l hl
  split at hg
  case isFalse=>cases hg
  rename_i hr
  have hV':∀ e∈l,X.den (omL K cs ds) (l.map (·.2)) (.v e.1)=e.2:=by
   intro e he
   obtain ⟨i,hi⟩:=List.getElem?_of_mem he
   have h1:(l.map (·.1))[i]? = some e.1:=by rw [List.getElem?_map,hi]; rfl
   rw [hr] at h1
   have hlt:i < l.length:=(List.getElem?_eq_some_iff.1 hi).1
   rw [List.getElem?_range hlt] at h1
   injection h1 with h1
   simp only [X.den,nth_eq,← h1,List.getElem?_map,hi]
   rfl
  obtain ⟨p1,p2⟩:=mtVs_den (σ:=id) _ _ l hl hV'
  simp only [AV.dens,List.cons.injEq] at p1
  obtain ⟨p1,p3⟩:=p1
  have p1:X.den (omL K cs ds) (l.map (·.2)) (.v 0)=a0:=p1
  obtain ⟨p4,p5⟩:=p2
  have p4:(Sh.sl csh).ok (X.den (omL K cs ds) (l.map (·.2)) (.v 0))=true:=p4
  unfold unitF at hg
  cases hs:t.sel (X.den (omL K cs ds) (l.map (·.2))) with
  | none=>rw [hs] at hg; cases hg
  | some v =>
    rw [hs] at hg
    injection hg with hg
    exact ⟨l.map (·.2),v,p1,by rw [← p1]; exact p4,by rw [← AV.dens_map]; exact p3,(okvs_iff _).1 p5,hs,hg⟩
 refine gp_closed (E:=⟨T,calX cs,keep⟩) hT hG hE (max n K) he hcode hres ?_ ?_
 ·intro k rows margs rows' hm hmore hg hlen hfl
  obtain ⟨ρ,u,q1,q2,q3,q4,q5,q6⟩:=ask hg
  have hk:k=csh.length:=by
   rcases ok_sl q2 with h9 | ⟨r9,h9,_⟩
   ·cases h9
   ·injection h9
  subst hk
  have S:=simG_row (cs:=csh) q1 (by rw [q1]; exact q2)
  have hok:∀ x∈AV.sym (.own 0 csh) (.v 0)::more,x.okv (X.den (omL K cs ds) ρ) 1:=by
   intro x hx
   cases hx with
   | head=>exact ⟨Nat.zero_lt_one,by rw [q1]; exact q2⟩
   | tail _ hx=>exact (q4 x hx).mono (Nat.zero_le _)
  obtain ⟨e2,code2,z1,z2,z3,z4,ex,fr1',h1,σ1,u',cs',ee,e',y1,y2,y3,y4,y5⟩:=gp_run (isV_den _ ρ) rfl rfl hI hc hkA hKA S hok q5
  rw [he] at z1; injection z1 with z1; subst z1
  rw [hcode] at z2; injection z2 with z2; subst z2
  have ha:(AV.sym (.own 0 csh) (.v 0)::more).map (AV.den (X.den (omL K cs ds) ρ) id) = .ms 0 0 rows.length::margs:=by
   rw [List.map_cons,q3]
   show symD _ id (.own 0 csh) (.v 0)::_=_
   simp only [symD,q1,id]
  rw [ha] at y1
  have hl2:(AV.sym (.own 0 csh) (.v 0)::more).length=(AV.ms 0 0 rows.length::margs).length:=by rw [← ha,List.length_map]
  rw [hl2] at y1
  show Nd.post (exec T (AM.inv ⟨T,calX cs,keep⟩ (max n K)) (max n K) e.loc none code _ _) _
  rw [y1]
  have hkp:=exec_keep (t:=0) (x:=.ms 0 0 rows.length) rfl code z4 rfl y1
  simp only at hkp
  rw [y3] at hkp
  injection hkp with hkp
  have hu:σ1 u'=0:=by
   simp only [symD] at hkp
   split at hkp
   ·injection hkp
   ·cases hkp
  refine ⟨y2,rfl,?_⟩
  have:=y5 csh.length rows' (by rw [← y4,q6])
  rw [hu] at this
  exact this
 ·intro margs hmore hg
  obtain ⟨ρ,u,q1,q2,q3,q4,q5,q6⟩:=ask hg
  have S:=simG_nil (cs:=csh) q1
  have hok:∀ x∈AV.sym (.own 0 csh) (.v 0)::more,x.okv (X.den (omL K cs ds) ρ) 1:=by
   intro x hx
   cases hx with
   | head=>exact ⟨Nat.zero_lt_one,by rw [q1]; exact q2⟩
   | tail _ hx=>exact (q4 x hx).mono (Nat.zero_le _)
  obtain ⟨e2,code2,z1,z2,z3,z4,ex,fr1',h1,σ1,u',cs',ee,e',y1,y2,y3,y4,y5⟩:=gp_run (isV_den _ ρ) rfl rfl hI hc hkA hKA S hok q5
  rw [he] at z1; injection z1 with z1; subst z1
  rw [hcode] at z2; injection z2 with z2; subst z2
  have ha:(AV.sym (.own 0 csh) (.v 0)::more).map (AV.den (X.den (omL K cs ds) ρ) id) = .nils::margs:=by
   rw [List.map_cons,q3]
   show symD _ id (.own 0 csh) (.v 0)::_=_
   simp only [symD,q1]
  rw [ha] at y1
  have hl2:(AV.sym (.own 0 csh) (.v 0)::more).length=(AV.nils::margs).length:=by rw [← ha,List.length_map]
  rw [hl2] at y1
  show Nd.post (exec T (AM.inv ⟨T,calX cs,keep⟩ (max n K)) (max n K) e.loc none code _ _) _
  rw [y1]
  exact ⟨y2,rfl,trivial⟩
end Go.Proofs.YtdjngcfnlfgjkaaGreatDoor.AM

namespace Go.Proofs.YtdjngcfnlfgjkaaGreatDoor.AM
theorem len_last {p a:AV} {l:List (Nat × AV)} {js:List Nat} (h:(if p.eqb a&&p.gnd []&&p.cl then some ([]:List (Nat × AV)) else none)=some l) (hw:(if p.eqb p&&p.gnd []&&p.cl then some ([]:List Nat) else none)=some js):l.length=js.length:=by
 split at h
 ·split at hw
  ·injection h with h; injection hw with hw; subst h; subst hw; rfl
  ·cases hw
 ·cases h
mutual
theorem mtV_len:∀ (p a:AV) (l:List (Nat × AV)) (js:List Nat),mtV p a=some l→patW p=some js→l.length=js.length
 | .sym s e,a,l,js,h,hw=>by
   cases e<;>simp only [mtV,patW] at h hw<;>try (cases h; done)
   split at h
   ·split at hw
    ·injection h with h; injection hw with hw; subst h; subst hw; rfl
    ·cases hw
   ·cases h
 | .agg ps,a,l,js,h,hw=>by
   simp only [patW] at hw
   cases a<;>simp only [mtV] at h<;>try (simp [AV.eqb] at h; done)
   exact mtVs_len ps _ l js h hw
 | .tuple ps,a,l,js,h,hw=>by
   simp only [patW] at hw
   cases a<;>simp only [mtV] at h<;>try (simp [AV.eqb] at h; done)
   exact mtVs_len ps _ l js h hw
 | .ref ps,a,l,js,h,hw=>by
   simp only [patW] at hw
   cases a<;>simp only [mtV] at h<;>try (simp [AV.eqb] at h; done)
   exact mtVs_len ps _ l js h hw
 | .func f ps qs,a,l,js,h,hw=>by
   simp only [patW] at hw
   cases a<;>simp only [mtV] at h<;>try (simp [AV.eqb] at h; done)
   rename_i g as bs
   split at h
   ·cases h1:mtVs ps as with
    | none=>rw [h1] at h; cases h
    | some x =>
      cases h2:mtVs qs bs with
      | none=>rw [h1,h2] at h; cases h
      | some y =>
        cases g1:patWs ps with
        | none=>rw [g1] at hw; cases hw
        | some u =>
          cases g2:patWs qs with
          | none=>rw [g1,g2] at hw; cases hw
          | some v =>
            rw [h1,h2] at h
            rw [g1,g2] at hw
            injection h with h; injection hw with hw
            subst h; subst hw
            rw [List.length_append,List.length_append,mtVs_len ps as x u h1 g1,mtVs_len qs bs y v h2 g2]
   ·cases h
 | .junk,a,l,js,h,hw=>len_last (a:=a) (by cases a<;>simpa only [mtV] using h) (by simpa only [patW] using hw)
 | .bool _,a,l,js,h,hw=>len_last (a:=a) (by cases a<;>simpa only [mtV] using h) (by simpa only [patW] using hw)
 | .int _ _,a,l,js,h,hw=>len_last (a:=a) (by cases a<;>simpa only [mtV] using h) (by simpa only [patW] using hw)
 | .str _,a,l,js,h,hw=>len_last (a:=a) (by cases a<;>simpa only [mtV] using h) (by simpa only [patW] using hw)
 | .nilp,a,l,js,h,hw=>len_last (a:=a) (by cases a<;>simpa only [mtV] using h) (by simpa only [patW] using hw)
 | .ptr _ _ _,a,l,js,h,hw=>len_last (a:=a) (by cases a<;>simpa only [mtV] using h) (by simpa only [patW] using hw)
 | .it _,a,l,js,h,hw=>len_last (a:=a) (by cases a<;>simpa only [mtV] using h) (by simpa only [patW] using hw)
 | .nils,a,l,js,h,hw=>len_last (a:=a) (by cases a<;>simpa only [mtV] using h) (by simpa only [patW] using hw)
 | .sl _ _,a,l,js,h,hw=>len_last (a:=a) (by cases a<;>simpa only [mtV] using h) (by simpa only [patW] using hw)
 | .ms _ _ _,a,l,js,h,hw=>len_last (a:=a) (by cases a<;>simpa only [mtV] using h) (by simpa only [patW] using hw)
 | .nilm,a,l,js,h,hw=>len_last (a:=a) (by cases a<;>simpa only [mtV] using h) (by simpa only [patW] using hw)
 | .mp _,a,l,js,h,hw=>len_last (a:=a) (by cases a<;>simpa only [mtV] using h) (by simpa only [patW] using hw)
 | .im _,a,l,js,h,hw=>len_last (a:=a) (by cases a<;>simpa only [mtV] using h) (by simpa only [patW] using hw)
 | .yld _,a,l,js,h,hw=>len_last (a:=a) (by cases a<;>simpa only [mtV] using h) (by simpa only [patW] using hw)
 | .nilf,a,l,js,h,hw=>len_last (a:=a) (by cases a<;>simpa only [mtV] using h) (by simpa only [patW] using hw)
 | .iface _ _,a,l,js,h,hw=>len_last (a:=a) (by cases a<;>simpa only [mtV] using h) (by simpa only [patW] using hw)
 | .nili,a,l,js,h,hw=>len_last (a:=a) (by cases a<;>simpa only [mtV] using h) (by simpa only [patW] using hw)
theorem mtVs_len:∀ (p a:List AV) (l:List (Nat × AV)) (js:List Nat),mtVs p a=some l→patWs p=some js→l.length=js.length
 | [],a,l,js,h,hw=>by
   cases a with
   | nil=>injection h with h; injection hw with hw; subst h; subst hw; rfl
   | cons _ _=>simp [mtVs] at h
 | p::ps,[],l,js,h,hw=>by simp [mtVs] at h
 | p::ps,a::as,l,js,h,hw=>by
   simp only [mtVs] at h
   simp only [patWs] at hw
   cases h1:mtV p a with
   | none=>rw [h1] at h; cases h
   | some x =>
     cases h2:mtVs ps as with
     | none=>rw [h1,h2] at h; cases h
     | some y =>
       cases g1:patW p with
       | none=>rw [g1] at hw; cases hw
       | some u =>
         cases g2:patWs ps with
         | none=>rw [g1,g2] at hw; cases hw
         | some v =>
           rw [h1,h2] at h
           rw [g1,g2] at hw
           injection h with h; injection hw with hw
           subst h; subst hw
           rw [List.length_append,List.length_append,mtV_len p a x u h1 g1,mtVs_len ps as y v h2 g2]
end
def rowF (st:SSt) (cs:List Sh):AV→Option X
 | .sym (.own t cs') e=>(match lookS st.sb t with
   | some (.rows cs'' e')=>if Sh.eqbs cs' cs&&Sh.eqbs cs'' cs&&e.eqb e' then some e else none
   | _=>none)
 | _=>none
def resF (st:SSt) (cs:List Sh):List AV→Te (AV × SSt)
 | [v]=>(match rowF st cs v with
   | some x=>.ok (.sym (.sl cs) x,s0)
   | none=>.fail 195)
 | _=>.fail 196
def finF (T:Tab) (e:FnE) (cs:List Sh) (r:Ex × List AV × SSt):Te (AV × SSt) :=
 match r.1 with
 | .exit _=>.fail 197
 | _=>(resultsS T e.loc r.2.2 r.2.1 e.fn.results.toList).bind fun vs=>resF r.2.2 cs vs
def bodyF (cx:Cx) (n:Nat) (f:FuncId) (cs:List Sh) (pats:List AV):Te (AV × SSt) :=
 match cx.T.fn.get f with
 | some e=>match e.fn.body with
   | some code=>(execS cx (invS cx n) n 0 e.loc code (pats++List.replicate (e.fn.ntmps - pats.length) undefA) s0.enter).bind (finF cx.T e cs)
   | none=>.fail 198
 | none=>.fail 199
def unitFT (cx:Cx) (n:Nat) (f:FuncId) (cs:List Sh) (pats:List AV):Te AV:=(Te.fold (mgV fun _=>false) (bodyF cx n f cs pats)).bind fun r=>.ok r.1
def unitChkF (T:Tab) (keep:FuncId→Bool) (cs:List Cal) (ds:List LoopD) (n:Nat) (f:FuncId) (csh:List Sh) (pats:List AV) (t:Te AV):Bool :=
 calsOk cs&&dsOk [] ds&&(match patWs pats with | some js=>js == List.range js.length | none=>false)&&AV.cls pats &&
  Te.eqb AV.eqb (unitFT (cxOf T keep cs ds) n f csh pats) t &&
  (match T.fn.get f with
  | some e=>match e.fn.body with
    | some code=>loopsChk (cxOf T keep cs ds) n n e.loc ds (loopsOf code)
    | none=>false
  | none=>false)
theorem fr_run {Ω:Om} {V:X→AV} (hV:IsV Ω V) {T:Tab} {keep:FuncId→Bool} {K n kA:Nat} {cs:List Cal} {ds:List LoopD} {f:FuncId} {csh:List Sh} {pats:List AV} {t:Te AV} {u:AV} {ρ:List AV} (hΩ:Ω=omL K cs ds) (hVd:V=X.den Ω ρ) (hI:IpT T cs)
  (hc:unitChkF T keep cs ds n f csh pats t=true) (hkA:n≤kA) (hKA:K≤kA) (hok:∀ x∈pats,x.okv V 0) (hs:t.sel V=some u) :
  ∃ e code,T.fn.get f=some e∧e.fn.body=some code∧∃ ex fr1' h1 σ1 u' e',
    exec T (AM.inv ⟨T,calX cs,keep⟩ kA) kA e.loc none code ⟨pats.map (AV.den V id)++List.replicate (e.fn.ntmps - pats.length) undefA,[]⟩ h0.enter = .ok (ex,⟨fr1',[]⟩,h1) ∧
    (∀ id,ex ≠ .exit id)∧resultsA T e.loc h1 fr1' e.fn.results.toList=some [symD V σ1 (.own u' csh) e']∧u.den V id=V e'∧(∀ k r,V e' = .sl k r→h1.get (σ1 u')=some (.cells k r)):=by
 subst hVd; subst hΩ
 unfold unitChkF at hc
 simp only [Bool.and_eq_true] at hc
 obtain ⟨⟨⟨⟨⟨c1,c2⟩,c4⟩,c7⟩,c5⟩,c6⟩:=hc
 have ht:=Te.eqb_eq (fun _ _ h=>AV.eqb_eq _ _ h) c5
 rw [← ht] at hs
 unfold unitFT at hs
 rw [sel_bind] at hs
 obtain ⟨⟨u0,su⟩,hs1,hs2⟩:=hs
 injection hs2 with hs2
 simp only at hs2; subst hs2
 obtain ⟨⟨u2,su2⟩,hb1,l1,l2⟩:=fold_sel hV LeV.refl (fun _ _ _=>LeV.trans) (fun c a b m h=>mgV_le hV c a b m h) hs1
 have hC:CxR (omL K cs ds) ⟨T,calX cs,keep⟩ (cxOf T keep cs ds):=cxR_of hI c1
 unfold bodyF at hb1
 split at hb1
 case h_2=>cases hb1
 rename_i e he
 split at hb1
 case h_2=>cases hb1
 rename_i code hcode
 rw [sel_bind] at hb1
 obtain ⟨⟨ex,fr1,st1⟩,e1,e2⟩:=hb1
 have he':T.fn.get f=some e:=he
 rw [he'] at c6
 simp only [hcode] at c6
 have S:Sim (X.den (omL K cs ds) ρ) id [(0,0),(0,0)] s0.enter h0.enter:=(sim0 _ id).enter
 have hfr:FrS (X.den (omL K cs ds) ρ) id s0.enter.hp.nx (pats++List.replicate (e.fn.ntmps - pats.length) undefA) (pats.map (AV.den (X.den (omL K cs ds) ρ) id)++List.replicate (e.fn.ntmps - pats.length) undefA) :=
  (FrS.vals fun x hx=>(hok x hx).mono (Nat.zero_le _)).append (FrS.undefs _)
 obtain ⟨fr1',h1,σ1,x1,x2,x3⟩:=execS_den (nl:=false) (kA:=kA) hV (invS_den hV hC n kA hkA) (fun L hL=>by simp at hL; subst hL; exact Nat.le_refl _) hkA (fun _=>.inr trivial) code
  (fun d hd L hL=>⟨rfl,loops_all hI c1 c2 hkA hkA hKA code c6 d hd L hL _⟩) (fun d _ hp=>by simp only [cxOf] at hp; split at hp<;>cases hp) (dfr:=[]) S hfr e1
 have one:((resultsS T e.loc st1 fr1 e.fn.results.toList).bind fun vs=>resF st1 csh vs).sel (X.den (omL K cs ds) ρ)=some (u2,su2)→∃ u' e',resultsA T e.loc h1 fr1' e.fn.results.toList=some [symD (X.den (omL K cs ds) ρ) σ1 (.own u' csh) e']∧lookS st1.sb u'=some (.rows csh e')∧u2 = .sym (.sl csh) e'∧su2=s0:=by
  intro e2
  rw [sel_bind] at e2
  obtain ⟨vs,r1,r2⟩:=e2
  obtain ⟨g1,_⟩:=resultsS_den x3.sim x2 r1
  unfold resF at r2
  split at r2
  ·rename_i v
   split at r2
   ·rename_i x hx
    injection r2 with r2; simp only [Prod.mk.injEq] at r2; obtain ⟨rfl,rfl⟩:=r2
    unfold rowF at hx
    split at hx
    ·rename_i t' cs' ee
     split at hx
     ·rename_i cs'' e' hl
      split at hx
      ·rename_i hq
       simp only [Bool.and_eq_true] at hq
       obtain ⟨⟨q1,q2⟩,q3⟩:=hq
       have q1:=Sh.eqbs_eq q1; have q2:=Sh.eqbs_eq q2; have q3:=X.eqb_eq q3
       subst q1; subst q2; subst q3
       injection hx with hx; subst hx
       exact ⟨t',ee,by rw [g1]; rfl,hl,rfl,rfl⟩
      ·cases hx
     ·cases hx
    ·cases hx
   ·cases r2
  ·cases r2
 have hfin:(∀ id,ex ≠ .exit id)∧∃ u' e',resultsA T e.loc h1 fr1' e.fn.results.toList=some [symD (X.den (omL K cs ds) ρ) σ1 (.own u' csh) e']∧lookS st1.sb u'=some (.rows csh e')∧u2 = .sym (.sl csh) e'∧su2=s0:=by
  unfold finF at e2
  simp only at e2
  cases ex with
  | exit id=>cases e2
  | normal=>exact ⟨(fun _ h=>by cases h),one e2⟩
  | ret=>exact ⟨(fun _ h=>by cases h),one e2⟩
 obtain ⟨hex,u',e',hres,hl,rfl,rfl⟩:=hfin
 have hokE:(Sh.sl csh).ok (X.den (omL K cs ds) ρ e')=true:=(x3.sim.oks _ _ hl).1
 refine ⟨e,code,he',hcode,ex,fr1',h1,σ1,u',e',x1,hex,hres,?_,fun k r hr=>?_⟩
 ·obtain ⟨_,m2⟩:=l1 (σ:=id) (show symOk _ _ (.sl csh) e' from hokE)
  exact m2
 ·refine x3.sim.core.get u' _ ?_
  rw [prom_sb x3.sim hl]
  simp only [SB.prom,hr]
variable [Glob]
theorem unit_fr {P:Program} {T:Tab} {keep:FuncId→Bool} {K n:Nat} {cs:List Cal} {ds:List LoopD} (hT:T.Of P) (hG:T.Good P) (hX:∀ c∈cs,ExtOk P c.I.f (extI c.I c.F)) (hI:IpT T cs) {f:FuncId} {n0:Nat} {csh:List Sh} {pats:List AV} {rs:List RS} {t:Te AV}
  (hc:unitChkF T keep cs ds n f csh pats t=true) (hb:∃ e code,T.fn.get f=some e∧e.fn.body=some code):FrOk P f ⟨pats,n0,csh,extI ⟨f,n0,pats,rs⟩ (unitF (omL K cs ds) t)⟩:=by
 obtain ⟨e,code,he,hcode⟩:=hb
 have hE:∀ f g,(AM.Env.mk T (calX cs) keep).ext f=some g→ExtOk P f g:=by
  intro f g hfg
  obtain ⟨c,hc1,hc2,rfl⟩:=calX_mem hfg
  rw [← hc2]; exact hX c hc1
 have hkA:n≤max n K:=Nat.le_max_left _ _
 have hKA:K≤max n K:=Nat.le_max_right _ _
 have ask:∀ {r0:AV} {args:List AV},extI ⟨f,n0,pats,rs⟩ (unitF (omL K cs ds) t) args=some r0→∃ (ρ:List AV) (u:AV),pats.map (AV.den (X.den (omL K cs ds) ρ) id)=args∧(∀ x∈pats,x.okv (X.den (omL K cs ds) ρ) 0)∧t.sel (X.den (omL K cs ds) ρ)=some u∧u.den (X.den (omL K cs ds) ρ) id=r0:=by
  intro r0 args hg
  unfold extI at hg
  split at hg
  case h_2=>cases hg
  rename_i l hl
  split at hg
  case isFalse=>cases hg
  rename_i hr
  have hV':∀ e∈l,X.den (omL K cs ds) (l.map (·.2)) (.v e.1)=e.2:=by
   intro e he
   obtain ⟨i,hi⟩:=List.getElem?_of_mem he
   have h1:(l.map (·.1))[i]? = some e.1:=by rw [List.getElem?_map,hi]; rfl
   rw [hr] at h1
   have hlt:i < l.length:=(List.getElem?_eq_some_iff.1 hi).1
   rw [List.getElem?_range hlt] at h1
   injection h1 with h1
   simp only [X.den,nth_eq,← h1,List.getElem?_map,hi]
   rfl
  obtain ⟨p1,p2⟩:=mtVs_den (σ:=id) _ _ l hl hV'
  unfold unitF at hg
  cases hs:t.sel (X.den (omL K cs ds) (l.map (·.2))) with
  | none=>rw [hs] at hg; cases hg
  | some v =>
    rw [hs] at hg
    injection hg with hg
    exact ⟨l.map (·.2),v,by rw [← AV.dens_map]; exact p1,(okvs_iff _).1 p2,hs,hg⟩
 have len:∀ {args:List AV} {V:X→AV},pats.map (AV.den V id)=args→pats.length=args.length:=fun h=>by rw [← h,List.length_map]
 refine fr_closed (E:=⟨T,calX cs,keep⟩) hT hG hE (max n K) he hcode ?_ ?_
 ·intro args k rows hm hg hfl
  obtain ⟨ρ,u,q1,q4,q5,q6⟩:=ask hg
  obtain ⟨e2,code2,z1,z2,ex,fr1',h1,σ1,u',e',y1,y2,y3,y4,y5⟩:=fr_run (isV_den _ ρ) rfl rfl hI hc hkA hKA q4 q5
  rw [he] at z1; injection z1 with z1; subst z1
  rw [hcode] at z2; injection z2 with z2; subst z2
  rw [q1,len q1] at y1
  show Nd.post (exec T (AM.inv ⟨T,calX cs,keep⟩ (max n K)) (max n K) e.loc none code _ _) _
  rw [y1]
  have hv:X.den (omL K cs ds) ρ e' = .sl k rows:=by rw [← y4,q6]
  refine ⟨y2,rfl,_,y3,σ1 u',?_,y5 k rows hv⟩
  simp only [symD,hv]
 ·intro args hm hg
  obtain ⟨ρ,u,q1,q4,q5,q6⟩:=ask hg
  obtain ⟨e2,code2,z1,z2,ex,fr1',h1,σ1,u',e',y1,y2,y3,y4,y5⟩:=fr_run (isV_den _ ρ) rfl rfl hI hc hkA hKA q4 q5
  rw [he] at z1; injection z1 with z1; subst z1
  rw [hcode] at z2; injection z2 with z2; subst z2
  rw [q1,len q1] at y1
  show Nd.post (exec T (AM.inv ⟨T,calX cs,keep⟩ (max n K)) (max n K) e.loc none code _ _) _
  rw [y1]
  have hv:X.den (omL K cs ds) ρ e' = .nils:=by rw [← y4,q6]
  refine ⟨y2,rfl,_,y3,?_⟩
  simp only [symD,hv]
end Go.Proofs.YtdjngcfnlfgjkaaGreatDoor.AM

namespace Go.Proofs.YtdjngcfnlfgjkaaGreatDoor.AM
open Go.ChangeShapes Go.WideShapes
mutual
def AV.sz:AV→Nat
 | .str s=>s.size+1
 | .sl _ rows=>AV.szss rows+1
 | .agg cs=>AV.szs cs+1
 | _=>1
def AV.szs:List AV→Nat
 | []=>0
 | a::as=>a.sz+AV.szs as
def AV.szss:List (List AV)→Nat
 | []=>0
 | a::as=>AV.szs a+AV.szss as
end
def offsOk (T:Tab):Nat→List Field→Nat→Bool
 | o,[],n=>o == n
 | o,f::fs,n=>f.offset == o&&(match sizeT T f.type with | some k=>offsOk T (o+k) fs n | none=>false)
def layOk (T:Tab):Nat→TypeId→Bool
 | 0,_=>false
 | d+1,t=>match T.underlying t with
   | some (.struct fs)=>(match sizeT T t with | some n=>offsOk T 0 fs.toList n | none=>false)&&fs.toList.all fun f=>layOk T d f.type
   | some (.slice e)=>(sizeT T e).isSome&&layOk T d e
   | some (.array n e)=>(match sizeT T t,sizeT T e with | some a,some b=>a == n * b | _,_=>false)&&layOk T d e
   | some .bool | some (.int _) | some .string=>true
   | _=>false
structure Bulk {H:Type} (bulk:DataW H→Nat):Prop where
 pos:∀ d,1≤bulk d
 str:∀ l,bulk (.lit (.string l))=l.length+1
 sl:∀ a b,(a.map bulk).sum+1≤bulk (.slice a b)
 agg:∀ a,(a.map bulk).sum≤bulk (.agg a)
theorem mapM_cons {α β:Type} {f:α→Option β} {a:α} {l:List α} {r:List β} (h:(a::l).mapM f=some r):∃ x xs,f a=some x∧l.mapM f=some xs∧r=x::xs:=by
 rw [List.mapM_cons] at h
 cases hx:f a with
 | none=>rw [hx] at h; cases h
 | some x =>
   cases hs:l.mapM f with
   | none=>rw [hx,hs] at h; cases h
   | some xs=>rw [hx,hs] at h; injection h with h; exact ⟨x,xs,rfl,rfl,h.symm⟩
section
variable {H:Type} {bulk:DataW H→Nat} (hB:Bulk bulk) {enc:TypeId × Value→H} {P:Program} {T:Tab} (hT:T.Of P) {w:World} {sp:Nat→Bool} {held:Bool} {own:Nat→Prop} (hown:∀ b,¬ own b)
include hB hT hown
theorem under_of {t:TypeId} {x:TypeDesc} (h:T.underlying t=some x):P.underlying t=some x:=by
 unfold Tab.underlying at h
 cases he:T.ty.get t with
 | none=>rw [he] at h; cases h
 | some e =>
   rw [he] at h
   injection h with h
   rw [hT.under t e he,← h]
theorem size_of {t:TypeId} {n:Nat} (h:sizeT T t=some n):P.cellsOf t=n:=by
 unfold sizeT at h
 cases he:T.ty.get t with
 | none=>rw [he] at h; cases h
 | some e =>
   rw [he] at h
   injection h with h
   unfold Program.cellsOf
   rw [hT.info t e he]
   exact h
theorem oks_append:∀ {cs ds:List Sh} {as bs:List AV},Sh.oks cs as=true→Sh.oks ds bs=true→Sh.oks (cs++ds) (as++bs)=true
 | [],_,[],_,_,h=>h
 | c::cs,ds,a::as,bs,h,h'=>by
   simp only [List.cons_append,Sh.oks,Bool.and_eq_true] at h ⊢
   exact ⟨h.1,oks_append h.2 h'⟩
theorem szs_append:∀ (as bs:List AV),AV.szs (as++bs)=AV.szs as+AV.szs bs
 | [],_=>by simp [AV.szs]
 | a::as,bs=>by simp only [List.cons_append,AV.szs,szs_append as bs]; omega
def ReadsTo (w:World) (own:Nat→Prop) (bulk:Nat) (cs:List Sh) (vs:List Value):Prop :=
 ∃ as,Rels w own noRho as vs∧Sh.oks cs as=true∧AV.szs as≤bulk∧∀ v∈vs,cellV v=true
omit hB hT hown in
theorem ReadsTo.one {b:Nat} {c:Sh} {v:Value} {a:AV} (h1:Rel w own noRho a v) (h2:c.ok a=true) (h3:a.sz≤b) (h4:cellV v=true):ReadsTo w own b [c] [v] :=
 ⟨[a],.cons _ _ _ _ _ h1 (.nil _),by simp [Sh.oks,h2],by simpa [AV.szs] using h3,by simpa using h4⟩
theorem read_fields (fuel:Nat) (IH:∀ (t:TypeId) (cs:List Sh) (vs:List Value) (d:DataW H) (ps:List MemPlace) (n m:Nat),shsT T n t=some cs→layOk T m t=true→DataW.trod enc P w 0 sp held fuel t vs=some (d,ps)→ReadsTo w own (bulk d) cs vs) (n m tot:Nat) (vs:List Value) (hl:vs.length=tot) :
  ∀ (fs:List Field) (o:Nat) (css:List (List Sh)) (xs:List (DataW H × List MemPlace)),offsOk T o fs tot=true→fs.all (fun f=>layOk T m f.type)=true→mapO (fun (f:Field)=>shsT T n f.type) fs=some css →
    fs.mapM (fun f=>DataW.trod enc P w 0 sp held fuel f.type ((vs.drop f.offset).take (P.cellsOf f.type)))=some xs→ReadsTo w own ((xs.map fun x=>bulk x.1).sum) css.flatten (vs.drop o)
 | [],o,css,xs,ho,_,hc,hm=>by
   simp only [offsOk,beq_iff_eq] at ho
   simp only [mapO] at hc; injection hc with hc; subst hc
   simp only [List.mapM_nil] at hm; injection hm with hm; subst hm
   rw [List.drop_eq_nil_of_le (by omega)]
   exact ⟨[],.nil _,rfl,Nat.zero_le _,by simp⟩
 | f::fs,o,css,xs,ho,hlay,hc,hm=>by
   simp only [offsOk,Bool.and_eq_true,beq_iff_eq] at ho
   obtain ⟨rfl,ho⟩:=ho
   split at ho
   ·rename_i k hk
    have hk':=size_of hB hT hown hk
    obtain ⟨x,xs',h1,h2,rfl⟩:=mapM_cons hm
    simp only [List.all_cons,Bool.and_eq_true] at hlay
    simp only [mapO] at hc
    split at hc
    ·rename_i c1 cs1 hc1 hc2
     injection hc with hc; subst hc
     obtain ⟨a1,r1,o1,z1,v1⟩:=IH f.type c1 _ x.1 x.2 n m hc1 hlay.1 h1
     obtain ⟨a2,r2,o2,z2,v2⟩:=read_fields fuel IH n m tot vs hl fs _ _ _ ho hlay.2 hc2 h2
     rw [hk'] at r1 v1
     have hsplit:vs.drop f.offset=(vs.drop f.offset).take k++vs.drop (f.offset+k):=by
      rw [← List.drop_drop,List.take_append_drop]
     rw [hsplit]
     refine ⟨a1++a2,r1.append r2,by simpa using oks_append hB hT hown o1 o2,?_,fun v hv=>?_⟩
     ·rw [szs_append hB hT hown]; simp only [List.map_cons,List.sum_cons]; omega
     ·rcases List.mem_append.1 hv with hv | hv
      ·exact v1 v hv
      ·exact v2 v hv
    ·cases hc
   ·cases ho
theorem read_arr (fuel:Nat) (IH:∀ (t:TypeId) (cs:List Sh) (vs:List Value) (d:DataW H) (ps:List MemPlace) (n m:Nat),shsT T n t=some cs→layOk T m t=true→DataW.trod enc P w 0 sp held fuel t vs=some (d,ps)→ReadsTo w own (bulk d) cs vs)
  (n m:Nat) (e:TypeId) (l:List Sh) (hl:shsT T n e=some l) (hlay:layOk T m e=true) (k:Nat):∀ (cnt:Nat) (xs:List (DataW H × List MemPlace)) (vs:List Value),xs.length=cnt→vs.length=cnt * k →
   (∀ q,q < cnt→DataW.trod enc P w 0 sp held fuel e ((vs.drop (q * k)).take k)=xs[q]?)→ReadsTo w own ((xs.map fun x=>bulk x.1).sum) (List.replicate cnt l).flatten vs
 | 0,xs,vs,hx,hv,_=>by
   obtain rfl:=List.length_eq_zero_iff.1 hx
   obtain rfl:=List.length_eq_zero_iff.1 (by simpa using hv)
   exact ⟨[],.nil _,rfl,Nat.zero_le _,by simp⟩
 | cnt+1,[],vs,hx,_,_=>by simp at hx
 | cnt+1,x::xs,vs,hx,hv,h=>by
   have h0:=h 0 (by omega)
   simp only [Nat.zero_mul,List.drop_zero,List.getElem?_cons_zero] at h0
   obtain ⟨a1,r1,o1,z1,v1⟩:=IH e l _ x.1 x.2 n m hl hlay h0
   obtain ⟨a2,r2,o2,z2,v2⟩:=read_arr fuel IH n m e l hl hlay k cnt xs (vs.drop k) (by simpa using hx) (by rw [List.length_drop,hv,Nat.succ_mul]; omega) (fun q hq=>by
    have:=h (q+1) (by omega)
    rw [List.getElem?_cons_succ] at this
    rw [← this,List.drop_drop]
    congr 3
    rw [Nat.succ_mul]; omega)
   have hsplit:vs=vs.take k++vs.drop k:=(List.take_append_drop k vs).symm
   rw [hsplit]
   refine ⟨a1++a2,r1.append r2,by rw [List.replicate_succ,List.flatten_cons]; exact oks_append hB hT hown o1 o2,?_,fun v hv=>?_⟩
   ·rw [szs_append hB hT hown]; simp only [List.map_cons,List.sum_cons]; omega
   ·rcases List.mem_append.1 hv with hv | hv
    ·exact v1 v hv
    ·exact v2 v hv
omit hB hT hown in
theorem cells_of {a:Addr} {n:Nat} {vs:List Value} (h:w.cells? 0 a n=some vs):vs.length=n∧∀ (j:Nat) (v:Value),vs[j]? = some v→w.cell? (a.add j)=some v:=by
 unfold World.cells? at h
 rw [if_pos (Nat.zero_le _)] at h
 have key:∀ (l:List Nat) (vs:List Value),l.mapM (fun i=>w.cell? (a.add i))=some vs→vs.length=l.length∧∀ (j:Nat) (v:Value),vs[j]? = some v→∃ i:Nat,l[j]? = some i∧w.cell? (a.add i)=some v:=by
  intro l
  induction l with
  | nil=>intro vs h; simp only [List.mapM_nil] at h; injection h with h; subst h; exact ⟨rfl,fun j v hj=>by simp at hj⟩
  | cons x l ih =>
    intro vs h
    obtain ⟨y,ys,h1,h2,rfl⟩:=mapM_cons h
    obtain ⟨h3,h4⟩:=ih ys h2
    refine ⟨by simp [h3],fun j v hj=>?_⟩
    cases j with
    | zero=>simp at hj; subst hj; exact ⟨x,rfl,h1⟩
    | succ j=>simpa using h4 j v (by simpa using hj)
 obtain ⟨h1,h2⟩:=key _ _ h
 refine ⟨by simpa using h1,fun j v hj=>?_⟩
 obtain ⟨i,h3,h4⟩:=h2 j v hj
 have:=(List.getElem?_eq_some_iff.1 h3)
 obtain ⟨hlt,he⟩:=this
 simp at he
 subst he
 exact h4
theorem read_elems {a:Addr} {k:Nat} {cs:List Sh} {el:Nat→Option (DataW H × List MemPlace)} (IH:∀ i x,el i=some x→∃ vs,w.cells? 0 (a.add (i * k)) k=some vs∧ReadsTo w own (bulk x.1) cs vs) :
  ∀ (len i0:Nat) (xs:List (DataW H × List MemPlace)),xs.length=len→(∀ i,i < len→el (i0+i)=xs[i]?) →
    ∃ (rows:List (List AV)) (cells:List Value),rows.length=len∧(∀ r∈rows,Sh.oks cs r=true)∧Rels w own noRho rows.flatten cells∧AV.szss rows≤(xs.map fun x=>bulk x.1).sum∧cells.length=len * k ∧
      ∀ (j:Nat) (v:Value),cells[j]? = some v→cellV v=true∧∃ i q,i * k+q=i0 * k+j∧w.cell? ((a.add (i * k)).add q)=some v
 | 0,i0,xs,h,_=>by
   obtain rfl:=List.length_eq_zero_iff.1 h
   exact ⟨[],[],rfl,by simp,.nil _,Nat.zero_le _,by simp,by simp⟩
 | len+1,i0,xs,hlen,h=>by
   obtain ⟨x,xs',rfl⟩:∃ x xs',xs=x::xs':=by cases xs with | nil=>simp at hlen | cons x xs'=>exact ⟨x,xs',rfl⟩
   have h1:el i0=some x:=by simpa using h 0 (by omega)
   have hlen':xs'.length=len:=by simpa using hlen
   have h2:∀ i,i < len→el (i0+1+i)=xs'[i]? := fun i hi=>by
    have:=h (i+1) (by omega)
    rw [show i0+1+i=i0+(i+1) by omega]; simpa using this
   obtain ⟨vs,g1,as,g2,g3,g4,g5⟩:=IH i0 x h1
   obtain ⟨rows,cells,f1,f2,f3,f4,f5,f6⟩:=read_elems IH len (i0+1) xs' hlen' h2
   obtain ⟨g6,g7⟩:=cells_of g1
   refine ⟨as::rows,vs++cells,by simp [f1],fun r hr=>?_,?_,?_,?_,fun j v hj=>?_⟩
   ·cases hr with
    | head=>exact g3
    | tail _ hr=>exact f2 r hr
   ·rw [List.flatten_cons]; exact g2.append f3
   ·simp only [AV.szss,List.map_cons,List.sum_cons]; omega
   ·rw [List.length_append,g6,f5,Nat.succ_mul]; omega
   ·by_cases hlt:j < vs.length
    ·rw [List.getElem?_append_left hlt] at hj
     exact ⟨g5 v (List.mem_of_getElem? hj),i0,j,rfl,g7 j v hj⟩
    ·rw [List.getElem?_append_right (by omega)] at hj
     obtain ⟨q1,i,q,q2,q3⟩:=f6 _ v hj
     refine ⟨q1,i,q,?_,q3⟩
     rw [q2,Nat.succ_mul]; omega
omit hB hT hown in
theorem mapM_of_get {α β:Type} {f:α→Option β}:∀ {l:List α} {xs:List β},xs.length=l.length→(∀ (i:Nat) (a:α),l[i]? = some a→f a=xs[i]?)→l.mapM f=some xs
 | [],xs,h,_=>by
   obtain rfl:=List.length_eq_zero_iff.1 h
   rfl
 | a::l,[],h,_=>by simp at h
 | a::l,x::xs,h,hg=>by
   have h0:f a=some x:=by simpa using hg 0 a rfl
   have h1:l.mapM f=some xs:=mapM_of_get (by simpa using h) fun i b hb=>by simpa using hg (i+1) b (by simpa using hb)
   rw [List.mapM_cons,h0,h1]; rfl
omit hB hT hown in
theorem oks_len:∀ {cs:List Sh} {as:List AV},Sh.oks cs as=true→as.length=cs.length
 | [],[],_=>rfl
 | c::cs,a::as,h=>by
   simp only [Sh.oks,Bool.and_eq_true] at h
   simp [oks_len h.2]
theorem read_cells:∀ (fuel:Nat) (t:TypeId) (cs:List Sh) (vs:List Value) (d:DataW H) (ps:List MemPlace) (n m:Nat),shsT T n t=some cs→layOk T m t=true→DataW.trod enc P w 0 sp held fuel t vs=some (d,ps)→ReadsTo w own (bulk d) cs vs
 | 0,_,_,_,_,_,_,_,_,_,h=>by simp [DataW.trod] at h
 | fuel+1,t,cs,vs,d,ps,n,m,hc,hl,h=>by
   obtain ⟨n,rfl⟩:∃ q,n=q+1:=by cases n with | zero=>simp [shsT] at hc | succ q=>exact ⟨q,rfl⟩
   obtain ⟨m,rfl⟩:∃ q,m=q+1:=by cases m with | zero=>simp [layOk] at hl | succ q=>exact ⟨q,rfl⟩
   unfold layOk at hl
   unfold shsT at hc
   cases hu:T.underlying t with
   | none=>rw [hu] at hl; cases hl
   | some dsc =>
     have hp:=under_of hB hT hown hu
     rw [hu] at hl hc
     cases dsc with
     | bool =>
       simp only [Option.some.injEq] at hc; subst hc
       obtain ⟨b,rfl,hx⟩:=DataW.trod_bool hp h
       exact .one (a:=.bool b) (.lit _ _ _ rfl) rfl (hB.pos _) rfl
     | int k =>
       simp only [Option.some.injEq] at hc; subst hc
       obtain ⟨b,rfl,hx,_⟩:=DataW.trod_int hp h
       exact .one (a:=.int k b) (.lit _ _ _ rfl) (by simp [Sh.ok]) (hB.pos _) rfl
     | string =>
       simp only [Option.some.injEq] at hc; subst hc
       obtain ⟨b,rfl,hx,_⟩:=DataW.trod_string hp h
       injection hx with hx; subst hx
       exact .one (a:=.str b) (.lit _ _ _ rfl) rfl (by rw [hB.str]; exact Nat.le_of_eq (by show b.data.size+1=b.data.toList.length+1; rw [Array.length_toList])) rfl
     | slice e =>
       simp only [Bool.and_eq_true] at hl
       simp only [Option.map_eq_some_iff] at hc
       obtain ⟨l,hl1,rfl⟩:=hc
       rcases DataW.trod_slice hp h with ⟨rfl,hx⟩ | ⟨a,len,cap,elems,rest,n',hf,rfl,hx,_,hcap,_,hlen,hel,_,_⟩
       ·exact .one (a:=.nils) (.lit _ _ _ rfl) rfl (hB.pos _) rfl
       ·injection hf with hf; subst hf
        injection hx with hx hx2; subst hx
        obtain ⟨rows,cells,r1,r2,r3,r4,r5,r6⟩:=read_elems (w:=w) (own:=own) (bulk:=bulk) hB hT hown (a:=a) (k:=P.cellsOf e) (cs:=l) (el:=fun i=>(w.cells? 0 (a.add (i * P.cellsOf e)) (P.cellsOf e)).bind (DataW.trod enc P w 0 sp held fuel e)) (fun i x hx=>by
         obtain ⟨vs,h1,h2⟩:=Option.bind_eq_some_iff.1 hx
         exact ⟨vs,h1,read_cells fuel e l vs x.1 x.2 n m hl1 hl.2 h2⟩) len 0 elems hlen (fun i hi=>by rw [Nat.zero_add]; exact hel i hi)
        have hspot:∀ v,cells[0]? = some v→a.spot=none:=by
         intro v hj
         obtain ⟨q1,i,q,q2,q3⟩:=r6 0 v hj
         have h1:i * P.cellsOf e=0:=by omega
         have h2:q=0:=by omega
         rw [h1,h2] at q3
         have hs:=World.cell?_spot q3
         simpa [Addr.add] using hs
        have hseen:Seen w own a cells:=by
         intro j v hj
         obtain ⟨q1,i,q,q2,q3⟩:=r6 j v hj
         have hs':a.spot=none:=by
          have h0:0 < cells.length:=by
           have:=(List.getElem?_eq_some_iff.1 hj).1
           omega
          exact hspot cells[0] (List.getElem?_eq_getElem h0)
         obtain ⟨b,off,spot⟩:=a
         simp only at hs'; subst hs'
         rw [add_plain,add_plain] at q3
         refine ⟨?_,rfl,hown _,q1⟩
         rw [← q3]
         have e1:off+j=off+i * P.cellsOf e+q:=by omega
         simp only [e1]
        refine .one (a:=.sl l.length rows) (.sl _ a _ rows cells len cap r1.symm (fun r hr=>oks_len (r2 r hr)) r3 hseen hcap) ?_ ?_ rfl
        ·simp only [Sh.ok,beq_self_eq_true,Bool.true_and,List.all_eq_true]; exact r2
        ·have:=hB.sl (elems.map (·.1)) (rest.map (·.1))
         rw [List.map_map] at this
         simp only [AV.sz]
         have e1:(List.map (bulk ∘ fun x=>x.fst) elems).sum=(elems.map fun x=>bulk x.1).sum:=rfl
         omega
     | struct fs =>
       simp only [Bool.and_eq_true] at hl
       simp only [Option.map_eq_some_iff] at hc
       obtain ⟨css,hl1,rfl⟩:=hc
       obtain ⟨hl2,hl3⟩:=hl
       obtain ⟨xs,n',hf,hx,hlen,hxs,hget⟩:=DataW.trod_struct hp h
       injection hf with hf; subst hf
       injection hx with hx hx2; subst hx
       cases hz:sizeT T t with
       | none=>rw [hz] at hl2; cases hl2
       | some tot =>
         rw [hz] at hl2
         have hk':=size_of hB hT hown hz
         have:=read_fields hB hT hown fuel (fun t cs vs d ps n m=>read_cells fuel t cs vs d ps n m) n m tot vs (hlen.trans hk') fs.toList 0 css xs hl2 hl3 hl1
          (mapM_of_get (by simpa using hxs) fun i f hf=>hget i f (by simpa using hf))
         obtain ⟨as,g1,g2,g3,g4⟩:=this
         refine ⟨as,by simpa using g1,g2,?_,by simpa using g4⟩
         have h5:=hB.agg (xs.map (·.1))
         rw [List.map_map] at h5
         have e1:(List.map (bulk ∘ fun x=>x.fst) xs).sum=(xs.map fun x=>bulk x.1).sum:=rfl
         omega
     | array len e =>
       simp only [Bool.and_eq_true] at hl
       simp only [Option.map_eq_some_iff] at hc
       obtain ⟨l,hl1,rfl⟩:=hc
       obtain ⟨hl2,hl3⟩:=hl
       obtain ⟨xs,n',hf,hx,hlen,hxs,hget⟩:=DataW.trod_array hp h
       injection hf with hf; subst hf
       injection hx with hx hx2; subst hx
       split at hl2
       ·rename_i a b ha hb
        have e1:=size_of hB hT hown ha
        have e2:=size_of hB hT hown hb
        simp only [beq_iff_eq] at hl2
        obtain ⟨as,g1,g2,g3,g4⟩:=read_arr hB hT hown fuel (fun t cs vs d ps n m=>read_cells fuel t cs vs d ps n m) n m e l hl1 hl3 (P.cellsOf e) len xs vs hxs (by rw [hlen,e1,e2]; exact hl2) hget
        refine ⟨as,g1,g2,?_,g4⟩
        have h5:=hB.agg (xs.map (·.1))
        rw [List.map_map] at h5
        have e1:(List.map (bulk ∘ fun x=>x.fst) xs).sum=(xs.map fun x=>bulk x.1).sum:=rfl
        omega
       ·cases hl2
     | _=>simp at hl
def AV.szc:AV→Nat
 | .agg cs=>AV.szs cs
 | a=>a.sz
def AV.rg:AV→Prop
 | .int k n=>(Lit.int k n).wf=true
 | _=>True
omit hB hT hown in
theorem rg_of {s:Sh} (h:∀ k,s ≠ .int k) {a:AV} (ho:s.ok a=true):a.rg:=by
 cases a<;>try trivial
 cases s<;>simp [Sh.ok] at ho
 exact (h _ rfl).elim
theorem read_val {r:Reach} {b0:Nat} {t:TypeId} {v:Value} {d:DataW H} {ps:List MemPlace} {rs:RS} (hr:rsT T t=some rs) (hl:layOk T 20 t=true)
  (hval:Value.okWide P w r b0 t v) (h:DataW.Trod enc P w 0 sp held t v d ps):∃ a,Rel w own noRho a v∧rs.ok a=true∧a.szc≤bulk d∧a.rg:=by
 obtain ⟨fuel,hf⟩:=h
 have key:∀ (s:Sh),shT T 20 t=some s→shsT T 20 t=some [s]→rs = .one s→v.cells.toList=[v]→(∀ k,s ≠ .int k)→∃ a,Rel w own noRho a v∧rs.ok a=true∧a.szc≤bulk d∧a.rg:=by
  intro s hs1 hs2 hrs hv hni
  subst hrs
  rw [hv] at hf
  obtain ⟨as,h1,h2,h3,h4⟩:=read_cells hB hT hown fuel t [s] [v] d ps 20 20 hs2 hl hf
  cases h1 with
  | cons _ a _ as _ h1 h1' =>
    cases h1'
    simp only [Sh.oks,Bool.and_eq_true] at h2
    refine ⟨a,h1,h2.1,?_,rg_of hni h2.1⟩
    simp only [AV.szs] at h3
    have:a.szc≤a.sz:=by cases a<;>simp [AV.szc,AV.sz]
    omega
 have hl':=hl
 unfold layOk at hl'
 unfold rsT aggT at hr
 cases hu:T.underlying t with
 | none=>rw [hu] at hl'; cases hl'
 | some dsc =>
   have hp:=under_of hB hT hown hu
   rw [hu] at hl' hr
   cases dsc with
   | bool =>
     obtain ⟨b,rfl⟩:=okWide_bool hp hval
     have e1:shT T 20 t=some .bool:=by unfold shT; rw [hu]
     have e2:shsT T 20 t=some [.bool]:=by unfold shsT; rw [hu]
     simp only [e1,Option.map_some,Option.some.injEq] at hr
     exact key _ e1 e2 hr.symm rfl (fun _ h=>by cases h)
   | int k =>
     obtain ⟨b,rfl⟩:=okWide_int hp hval
     have e1:shT T 20 t=some (.int k):=by unfold shT; rw [hu]
     simp only [e1,Option.map_some,Option.some.injEq] at hr
     subst hr
     obtain ⟨n,hn,_,hwf⟩:=DataW.trod_int hp hf
     have hn:n=b:=by
      simp [Value.cells] at hn
      exact hn.symm
     subst hn
     exact ⟨.int k n,.lit _ _ _ rfl,by simp [RS.ok,Sh.ok],hB.pos _,hwf⟩
   | string =>
     obtain ⟨b,rfl⟩:=okWide_string hp hval
     have e1:shT T 20 t=some .str:=by unfold shT; rw [hu]
     have e2:shsT T 20 t=some [.str]:=by unfold shsT; rw [hu]
     simp only [e1,Option.map_some,Option.some.injEq] at hr
     exact key _ e1 e2 hr.symm rfl (fun _ h=>by cases h)
   | slice e =>
     obtain ⟨a,len,cap,rfl⟩:=okWide_slice hp hval
     have e1:shT T 20 t=(shsT T 19 e).map .sl:=by conv=>lhs; unfold shT; rw [hu]
     have e2:shsT T 20 t=(shsT T 19 e).map fun l=>[.sl l]:=by conv=>lhs; unfold shsT; rw [hu]
     simp only [e1] at hr
     cases hs:shsT T 19 e with
     | none=>rw [hs] at hr; cases hr
     | some l =>
       rw [hs] at hr e1 e2
       simp only [Option.map_some,Option.some.injEq] at hr
       exact key _ e1 e2 hr.symm rfl (fun _ h=>by cases h)
   | struct fs =>
     obtain ⟨cs,rfl,_⟩:=okWide_struct hp hval
     simp only at hr
     cases hs:shsT T 20 t with
     | none=>rw [hs] at hr; cases hr
     | some l =>
       rw [hs] at hr
       simp only [Option.map_some,Option.some.injEq] at hr
       subst hr
       obtain ⟨as,h1,h2,h3,h4⟩:=read_cells hB hT hown fuel t l cs.toList d ps 20 20 hs hl hf
       exact ⟨.agg as,by simpa using Rel.agg noRho as cs.toList h1,h2,h3,trivial⟩
   | array len e =>
     obtain ⟨cs,rfl⟩:∃ cs,v = .agg cs:=by
      simp only [Value.okWide,hp] at hval
      obtain ⟨cs,h1,_⟩:=hval
      exact ⟨cs,h1⟩
     simp only at hr
     cases hs:shsT T 20 t with
     | none=>rw [hs] at hr; cases hr
     | some l =>
       rw [hs] at hr
       simp only [Option.map_some,Option.some.injEq] at hr
       subst hr
       obtain ⟨as,h1,h2,h3,h4⟩:=read_cells hB hT hown fuel t l cs.toList d ps 20 20 hs hl hf
       exact ⟨.agg as,by simpa using Rel.agg noRho as cs.toList h1,h2,h3,trivial⟩
   | _=>simp at hl'
theorem read_args {r:Reach} {b0:Nat}:∀ (ts:List TypeId) (rss:List RS) (vs:List Value) (ds:List (DataW H)) (ps:List MemPlace),mapO (rsT T) ts=some rss→ts.all (layOk T 20)=true →
  (∀ (j:Nat) t v,ts[j]? = some t→vs[j]? = some v→Value.okWide P w r b0 t v)→DataW.TrodAll enc P w 0 sp held ts vs ds ps →
   ∃ as,Rels w own noRho as vs∧RS.oks rss as=true∧(as.map AV.szc).sum≤(ds.map bulk).sum∧∀ a∈as,a.rg
 | [],rss,vs,ds,ps,hr,_,_,h=>by
   simp only [mapO,Option.some.injEq] at hr
   subst hr
   obtain ⟨rfl,rfl,rfl⟩:=trodAll_nil h
   exact ⟨[],.nil _,rfl,by simp,fun _ h=>by cases h⟩
 | t::ts,rss,vs,ds,ps,hr,hl,hval,h=>by
   obtain ⟨v,vs',d,ds',p,q,rfl,rfl,rfl,h1,h2⟩:=trodAll_cons h
   simp only [mapO] at hr
   split at hr
   ·rename_i rs rss' hr1 hr2
    injection hr with hr; subst hr
    simp only [List.all_cons,Bool.and_eq_true] at hl
    obtain ⟨a,g1,g2,g3,g4⟩:=read_val hB hT hown hr1 hl.1 (hval 0 t v rfl rfl) h1
    obtain ⟨as,f1,f2,f3,f4⟩:=read_args ts rss' vs' ds' q hr2 hl.2 (fun j t v hj hv=>hval (j+1) t v (by simpa using hj) (by simpa using hv)) h2
    refine ⟨a::as,.cons _ _ _ _ _ g1 f1,by simp only [RS.oks,g2,f2,Bool.and_self],?_,fun x hx=>?_⟩
    ·simp only [List.map_cons,List.sum_cons]; omega
    ·cases hx with
     | head=>exact g4
     | tail _ hx=>exact f4 x hx
   ·cases hr
end
theorem rows_len:∀ {rows:List (List AV)},(∀ r∈rows,r ≠ [])→rows.length≤AV.szss rows
 | [],_=>Nat.le_refl _
 | r::rows,h=>by
   have h1:=rows_len fun r hr=>h r (.tail _ hr)
   have h2:1≤AV.szs r:=by
    cases r with
    | nil=>exact absurd rfl (h [] (.head _))
    | cons a as=>simp only [AV.szs]; have:1≤a.sz:=by cases a<;>simp [AV.sz]
                 omega
   simp only [AV.szss,List.length_cons]; omega
theorem szss_mem:∀ {rows:List (List AV)} {r:List AV},r∈rows→AV.szs r≤AV.szss rows
 | r::rows,_,.head _=>by simp only [AV.szss]; omega
 | r::rows,b,.tail _ h=>by have:=szss_mem h; simp only [AV.szss]; omega
theorem Sh.str_inv {a:AV} (h:Sh.str.ok a=true):∃ s,a = .str s:=by cases a<;>simp [Sh.ok] at h; exact ⟨_,rfl⟩
theorem Sh.int_inv {a:AV} {k:IntKind} (h:(Sh.int k).ok a=true):∃ n,a = .int k n:=by cases a<;>simp [Sh.ok] at h; subst h; exact ⟨_,rfl⟩
theorem Sh.sl_inv {a:AV} {cs:List Sh} (h:(Sh.sl cs).ok a=true):a = .nils∨∃ rows,a = .sl cs.length rows∧∀ r∈rows,Sh.oks cs r=true:=by
 cases a<;>simp [Sh.ok] at h
 ·exact .inl rfl
 ·obtain ⟨rfl,h⟩:=h; exact .inr ⟨_,rfl,h⟩
theorem Sh.oks_inv {c:Sh} {cs:List Sh} {l:List AV} (h:Sh.oks (c::cs) l=true):∃ a as,l=a::as∧c.ok a=true∧Sh.oks cs as=true:=by
 cases l with
 | nil=>simp [Sh.oks] at h
 | cons a as=>simp only [Sh.oks,Bool.and_eq_true] at h; exact ⟨a,as,rfl,h⟩
theorem Sh.oks_nil_inv {l:List AV} (h:Sh.oks [] l=true):l=[]:=by cases l<;>simp [Sh.oks] at h; rfl
theorem RS.oks_inv {c:RS} {cs:List RS} {l:List AV} (h:RS.oks (c::cs) l=true):∃ a as,l=a::as∧c.ok a=true∧RS.oks cs as=true:=by
 cases l with
 | nil=>simp [RS.oks] at h
 | cons a as=>simp only [RS.oks,Bool.and_eq_true] at h; exact ⟨a,as,rfl,h⟩
theorem RS.oks_nil_inv {l:List AV} (h:RS.oks [] l=true):l=[]:=by cases l<;>simp [RS.oks] at h; rfl
theorem RS.agg_inv {cs:List Sh} {a:AV} (h:(RS.agg cs).ok a=true):∃ as,a = .agg as∧Sh.oks cs as=true:=by
 cases a<;>simp [RS.ok] at h; exact ⟨_,rfl,h⟩
theorem rows_of {α:Type} {cs:List Sh} {f:α→List AV} (hf:∀ r,Sh.oks cs r=true→∃ x,r=f x):∀ {rows:List (List AV)},(∀ r∈rows,Sh.oks cs r=true)→∃ xs:List α,rows=xs.map f
 | [],_=>⟨[],rfl⟩
 | r::rows,h=>by
   obtain ⟨x,rfl⟩:=hf r (h r (.head _))
   obtain ⟨xs,rfl⟩:=rows_of hf fun r hr=>h r (.tail _ hr)
   exact ⟨x::xs,rfl⟩
theorem Ext.old {w w':World} {ρ':Rho} {h':Hp} (E:Ext w noRho h0 w' ρ' h'):∀ c,c < w.heap.size→w'.heap[c]? = w.heap[c]? := by
 intro c hc
 refine E.frame c hc fun h=>?_
 rcases h with h | ⟨b,B,x,h1,_⟩
 ·exact h
 ·simp [h0,Hp.get,look,lookRest] at h1
end Go.Proofs.YtdjngcfnlfgjkaaGreatDoor.AM
