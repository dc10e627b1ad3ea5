/-
  The symbolic machine's soundness (third part).
-/
import Derived.Test.YtdjngcfnlfgjkaaGreatDoorSm3
set_option linter.unusedVariables false
set_option linter.unusedSimpArgs false
set_option linter.unusedSectionVars false
namespace Go.Proofs.YtdjngcfnlfgjkaaGreatDoor.AM
section
variable {Ω:Om} {V:X→AV} {σ:Nat→Nat} {Ls:List (Nat × Nat)} {st st1:SSt} {h:Hp} {T:Tab} {n:Nat}
theorem make_fx (S:Sim V σ Ls st h) (st':SSt) (h1:st'.hp=st.hp) (h2:st'.sb=st.sb) (h3:∀ e∈st'.fx,(V e.1).bB=e.2):Sim V σ Ls st' h:=by
 obtain ⟨a,b,c⟩:=st'
 simp only at h1 h2 h3
 subst h1; subst h2
 exact ⟨S.core,S.okb,S.oks,S.dj,S.segS,S.segA,S.lk,h3,S.ids,S.old⟩
theorem makeSliceS_den (hV:IsV Ω V) (S:Sim V σ Ls st h) {t:TypeId} {l c v:AV} (hl:l.okv V st.hp.nx) (hc:c.okv V st.hp.nx) (hs:(makeSliceS T st t l c).sel V=some (v,st1)) :
  ∃ h1 σ1,makeSliceA T h t (l.den V σ) (c.den V σ)=some (v.den V σ1,h1)∧Res V σ σ1 Ls st st1 v h1:=by
 unfold makeSliceS at hs
 split at hs
 ·rename_i el sz bb z lx cx t1 t2 t3
  obtain ⟨z1,z2,z3,_,_,_,_⟩:=elemT_zero (V:=V) (σ:=σ) (st:=st) t1
  obtain ⟨a1,_⟩:=asI_den (σ:=σ) hV t2 hl
  obtain ⟨b1,_⟩:=asI_den (σ:=σ) hV t3 hc
  split at hs
  ·rename_i cs t4
   split at hs
   ·rename_i zs t5
    obtain ⟨y1,y2,_⟩:=asXs_den (σ:=σ) hV _ _ _ t5 z2
    split at hs
    ·rename_i hcs
     obtain ⟨st2,S2,e1,e2,e3,hs⟩:=needT_den hV S hs
     obtain ⟨st3,S3,f1,f2,f3,hs⟩:=needT_den hV S2 hs
     obtain ⟨st4,S4,g1,g2,g3,hs⟩:=needT_den hV S3 hs
     have e3:=V_xLe hV e3; rw [xI_V hV] at e3; have e3:0≤(V lx).nI:=e3
     have f3:=V_xLe hV f3
     have g3:=V_xLe hV g3; rw [xI_V hV] at g3; have g3:(V cx).nI≤1073741824:=g3
     have hVe:V (.p (.rep sz) (lx::zs)) = .sl cs.length (List.replicate (V lx).nI.toNat z):=by
      rw [hV.p]
      simp only [List.map_cons,Pr.sem,hcs]
      rw [y1,z1]
     have hok:(Sh.sl cs).ok (V (.p (.rep sz) (lx::zs)))=true:=by
      rw [hVe]
      simp only [Sh.ok,beq_self_eq_true,Bool.true_and,List.all_eq_true,List.mem_replicate]
      rintro r ⟨_,rfl⟩
      rw [y1,z1] at y2; exact y2
     have hn:st4.hp.nx=st.hp.nx:=by rw [g1,f1,e1]
     split at hs
     ·rename_i hfm
      injection hs with hs; simp only [Prod.mk.injEq] at hs; obtain ⟨rfl,rfl⟩:=hs
      refine ⟨h,σ,?_,S4,hok,Agr.refl _ _,by rw [hn]; exact Nat.le_refl _⟩
      rw [a1,b1]
      simp only [makeSliceA,t1]
      rw [if_pos ⟨e3,f3,g3⟩,if_pos hfm]
      show some (AV.sl sz (List.replicate (V lx).nI.toNat z),h)=some (V (.p (.rep sz) (lx::zs)),h)
      rw [hVe,hcs]
     rename_i hfm
     injection hs with hs; simp only [Prod.mk.injEq] at hs; obtain ⟨rfl,rfl⟩:=hs
     refine ⟨_,ext1 σ st4.hp.nx h.nx,?_,Sim.make S4 (B:=.cells sz (List.replicate (V lx).nI.toNat z)) ?_ hok,⟨Nat.lt_succ_self _,hok⟩,by rw [← hn]; exact ext1_agr _ _ _,?_⟩
     ·rw [a1,b1]
      simp only [makeSliceA,t1]
      rw [if_pos ⟨e3,f3,g3⟩,if_neg hfm]
      simp only [AV.den,symD,hVe,ext1,if_true,List.length_replicate]
     ·intro B' hB'
      simp only [SB.prom,hVe] at hB'
      injection hB' with hB'; rw [← hB',hcs]
     ·show st.hp.nx≤st4.hp.nx+1; omega
    ·cases hs
   ·cases hs
  ·cases hs
 ·cases hs
theorem rowsS_den (hV:IsV Ω V) (S:Sim V σ Ls st h) {cs:List Sh} {x:AV} {e:X} (hx:x.okv V st.hp.nx) (hs:rowsS st cs x=some e):rowsA h cs.length (x.den V σ)=some (V e).rowsL∧(Sh.sl cs).ok (V e)=true:=by
 unfold rowsS at hs
 split at hs
 ·injection hs with hs; subst hs; rw [hV.nils]; exact ⟨rfl,rfl⟩
 ·rename_i k rows
  obtain ⟨a1,a2,_⟩:=asXc_den (σ:=σ) hV _ _ _ hs hx
  refine ⟨?_,a2⟩
  rcases ok_sl a2 with hn | ⟨r,hr,_⟩
  ·rw [hn] at a1; simp [AV.den] at a1
  ·rw [a1,hr]; simp [rowsA,AV.rowsL]
 ·rename_i b off len
  split at hs
  ·rename_i rows hr
   unfold rowsA at hr
   simp only at hr
   split at hr
   ·rename_i k rows0 hb
    split at hr
    ·rename_i hc
     injection hr with hr; subst hr
     obtain ⟨c1,c2⟩:=S.hg.cells hb
     obtain ⟨a1,a2,_⟩:=asXc_den (σ:=σ) hV _ _ _ hs (show (AV.sl cs.length ((rows0.drop off).take len)).okv V st.hp.nx from (okvss_iff _).2 fun r hr=>c2 r (List.mem_of_mem_drop (List.mem_of_mem_take hr)))
     refine ⟨?_,a2⟩
     simp only [AV.den,AV.denss_map] at a1
     rw [← a1]
     simp only [AV.den,rowsA,c1,List.length_map]
     rw [if_pos hc]
     simp [AV.rowsL,List.map_take,List.map_drop]
    ·cases hr
   ·cases hr
  ·cases hs
 ·rename_i cs' e0
  split at hs
  ·rename_i hc
   injection hs with hs; subst hs
   have:=Sh.eqbs_eq hc; subst this
   refine ⟨?_,hx⟩
   simp only [AV.den,symD]
   rcases ok_sl hx with hn | ⟨r,hr,_⟩
   ·rw [hn]; rfl
   ·rw [hr]; simp [rowsA,AV.rowsL]
  ·cases hs
 ·rename_i b cs' e0
  split at hs
  ·rename_i cs'' e' hl
   split at hs
   ·rename_i hc
    simp only [Bool.and_eq_true] at hc
    injection hs with hs; subst hs
    have h1:=Sh.eqbs_eq hc.1.1; subst h1
    have h2:=Sh.eqbs_eq hc.1.2; subst h2
    have h3:=X.eqb_eq hc.2; subst h3
    refine ⟨?_,hx.2⟩
    simp only [AV.den,symD]
    rcases ok_sl hx.2 with hn | ⟨r,hr,_⟩
    ·rw [hn]; rfl
    ·have hp:=S.core.get b (.cells cs.length r) (by rw [prom_sb S hl]; simp only [SB.prom,hr])
     rw [hr]; simp [rowsA,AV.rowsL,hp]
   ·cases hs
  ·cases hs
 ·cases hs
theorem V_app (hV:IsV Ω V) (k:Nat) (a b:X):V (.p (.app k) [a,b])=match (V b).rowsL with | []=>V a | r::rs=>.sl k ((V a).rowsL++(r::rs)):=by rw [hV.p]; rfl
theorem app_ok (hV:IsV Ω V) {cs:List Sh} {a b:X} (ha:(Sh.sl cs).ok (V a)=true) (hb:(Sh.sl cs).ok (V b)=true):(Sh.sl cs).ok (V (.p (.app cs.length) [a,b]))=true:=by
 rw [V_app hV]
 have rl:∀ {x:AV},(Sh.sl cs).ok x=true→∀ r∈x.rowsL,Sh.oks cs r=true:=by
  intro x hx
  rcases ok_sl hx with hn | ⟨r,hr,h⟩
  ·rw [hn]; intro _ h; cases h
  ·rw [hr]; exact h
 split
 ·exact ha
 ·rename_i r rs hr
  simp only [Sh.ok,beq_self_eq_true,Bool.true_and,List.all_eq_true,List.mem_append]
  rintro q (hq | hq)
  ·exact rl ha q hq
  ·exact rl hb q (by rw [hr]; exact hq)
theorem Sim.die_sb (S:Sim V σ Ls st h) {b:Nat} {c:Nat} {D:Blk} (hc:prom V σ { st with sb:=dropS st.sb b } c=some D) (hb:∀ B,st.hp.get b=some B→B.liveS=false):c ≠ b∧prom V σ st c=some D:=by
 unfold prom promS at hc ⊢
 simp only [lookS_drop] at hc
 by_cases e:c=b
 ·subst e
  simp only [if_true] at hc
  split at hc
  ·rename_i B hB; rw [hb B hB] at hc; cases hc
  ·cases hc
 ·simp only [if_neg e] at hc; exact ⟨e,hc⟩
theorem Sim.die_hp (S:Sim V σ Ls st h) {b:Nat} {B0:Blk} (hb0:st.hp.get b=some B0) (hl0:B0.liveS=true) {c:Nat} {D:Blk} (hc:prom V σ { st with hp:=st.hp.set b .dead } c=some D):c ≠ b∧prom V σ st c=some D:=by
 unfold prom promS at hc ⊢
 simp only [get_set] at hc
 by_cases e:c=b
 ·subst e
  simp only [if_true,hb0,Option.map_some,Blk.liveS,Bool.false_eq_true,if_false] at hc
  split at hc
  ·rename_i s hs; rw [S.dj _ _ _ hs hb0] at hl0; cases hl0
  ·cases hc
 ·rw [if_neg e] at hc; exact ⟨e,hc⟩
theorem Sim.makeNone (S:Sim V σ Ls st h) {s:SB} (hB:s.prom V=none) (ho:s.okS V):Sim V σ Ls (st.make s) h:=by
 have hpr:∀ c D,prom V σ (st.make s) c=some D→prom V σ st c=some D:=by
  intro c D hc
  unfold prom promS SSt.make at hc
  simp only [get_push,lookS] at hc
  by_cases e:c=st.hp.nx
  ·subst e
   simp only [if_true,Blk.liveS,Bool.false_eq_true,if_false,hB] at hc
   cases hc
  ·simp only [if_neg e] at hc
   exact hc
 refine ⟨S.core.sub hpr (Nat.le_succ _),fun c B1 hc=>?_,fun t u hu=>?_,fun t u B1 hu hc=>?_,?_,S.segA,S.lk,S.fx,fun q hq e he=>?_,fun L hL c B1 hc hg=>?_⟩
 ·have hc:(st.hp.push .dead).get c=some B1:=hc
  rw [get_push] at hc
  split at hc
  ·injection hc with hc; subst hc; trivial
  ·exact (S.okb c B1 hc).mono (Nat.le_succ _)
 ·have hu:lookS ((st.hp.nx,s)::st.sb) t=some u:=hu
  simp only [lookS] at hu
  split at hu
  ·rename_i e; injection hu with hu; subst hu; subst e; exact ⟨ho,Nat.lt_succ_self _⟩
  ·exact ⟨(S.oks t u hu).1,Nat.lt_succ_of_lt (S.oks t u hu).2⟩
 ·have hu:lookS ((st.hp.nx,s)::st.sb) t=some u:=hu
  have hc:(st.hp.push .dead).get t=some B1:=hc
  rw [get_push] at hc
  simp only [lookS] at hu
  by_cases e:t=st.hp.nx
  ·rw [if_pos e] at hc; injection hc with hc; subst hc; rfl
  ·rw [if_neg e] at hc hu; exact S.dj t u B1 hu hc
 ·show SegS Ls (st.hp.push .dead).segs
  rw [push_segs]; exact SegS.push (fun L hL=>(S.core.lv L hL).2.1) S.segS
 ·have hq:q∈(st.hp.push .dead).segs:=hq
  rw [push_segs] at hq
  have hn:(st.hp.push .dead).nx=st.hp.nx+1:=rfl
  show e < (st.hp.push .dead).nx
  rw [hn]
  cases hq with
  | head =>
    cases he with
    | head=>omega
    | tail _ he=>exact Nat.lt_succ_of_lt (S.ids _ (.head _) e he)
  | tail _ hq=>exact Nat.lt_succ_of_lt (S.ids q (.tail _ hq) e he)
 ·have hg:(st.hp.push .dead).get c=some B1:=hg
  have:=(S.core.lv L hL).2.1
  rw [get_push,if_neg (by omega)] at hg
  exact S.old L hL c B1 hc hg
theorem Sim.forgetS (S:Sim V σ Ls st h) {b:Nat} (hb:∀ B,st.hp.get b=some B→B.liveS=false):Sim V σ Ls { st with sb:=dropS st.sb b } h :=
 ⟨S.core.sub (fun c D hc=>(Sim.die_sb S hc hb).2) (Nat.le_refl _),S.okb,fun t u hu=>by
  simp only [lookS_drop] at hu
  split at hu
  ·cases hu
  ·exact S.oks t u hu,fun t u B1 hu hc=>by
  simp only [lookS_drop] at hu
  split at hu
  ·cases hu
  ·exact S.dj t u B1 hu hc,S.segS,S.segA,S.lk,S.fx,S.ids,S.old⟩
theorem Sim.killS (S:Sim V σ Ls st h) {b:Nat} {s:SB} {B0:Blk} (hs:lookS st.sb b=some s) (hB:s.prom V=some B0):Sim V σ Ls { st with sb:=dropS st.sb b } (h.set (σ b) .dead):=by
 have hb:∀ B,st.hp.get b=some B→B.liveS=false:=fun B hB=>S.dj _ _ _ hs hB
 have S1:=S.forgetS hb
 refine ⟨?_,S1.okb,S1.oks,S1.dj,S1.segS,by rw [set_segs]; exact S1.segA,fun L hL hk=>by rw [set_lk]; exact S1.lk L hL hk,S1.fx,S1.ids,S1.old⟩
 exact S.core.kill (by rw [prom_sb S hs]; exact hB) _ fun c D hc=>Sim.die_sb S hc hb
theorem Sim.forgetH (S:Sim V σ Ls st h) {b:Nat} {B0:Blk} (hb0:st.hp.get b=some B0) (hl0:B0.liveS=true):Sim V σ Ls { st with hp:=st.hp.set b .dead } h:=by
 have S1:=S.kill hb0 hl0
 refine ⟨?_,S1.okb,S1.oks,S1.dj,S1.segS,S.segA,fun L hL hk=>S.lk L hL (by have hk:lkOk L.1 (st.hp.set b .dead).lk=true:=hk; rw [set_lk] at hk; exact hk),S1.fx,S1.ids,S1.old⟩
 have hn:(st.hp.set b .dead).nx=st.hp.nx:=set_nx _ _ _
 show Core (st.hp.set b .dead).nx _ _ _ _
 rw [hn]
 exact S.core.sub (fun c D hc=>(Sim.die_hp S hb0 hl0 hc).2) (Nat.le_refl _)
theorem appendS_den (hV:IsV Ω V) (S:Sim V σ Ls st h) {base:Nat} (hB:∀ L∈Ls,L.1≤base) {ts:List TypeId} {args:List AV} (ha:∀ x∈args,x.okv V st.hp.nx) {v:AV} (hs:(appendS T base st ts args).sel V=some (v,st1)) :
  ∃ h1 σ1,appendA T h ts (args.map (AV.den V σ))=some (v.den V σ1,h1)∧Res V σ σ1 Ls st st1 v h1:=by
 unfold appendS at hs
 split at hs
 ·rename_i t ts s x
  have hs0:=ha s (.head _)
  have hx0:=ha x (.tail _ (.head _))
  split at hs
  ·rename_i el sz bb z t1 t2
   split at hs
   ·rename_i cs t3
    split at hs
    ·rename_i hcs
     split at hs
     ·rename_i xx hxx
      obtain ⟨x1,x2⟩:=rowsS_den (σ:=σ) hV S hx0 hxx
      rw [hcs] at x1
      simp only [List.map_cons,List.map_nil,appendA,t1,t2,x1]
      simp only at hs
      split at hs
      ·rename_i sx st0 hr
       have step:∀ {st0:SSt} {sx:X} {r:AV × SSt},(Sh.sl cs).ok (V sx)=true→st0.hp.nx=st.hp.nx→Sim V σ Ls st0 h →
         (needT (xLe (xLen (.p (.app sz) [sx,xx])) (xI 1073741824)) st0 fun st=>Te.ok (AV.sym (.own st.hp.nx cs) (.p (.app sz) [sx,xx]),st.make (.rows cs (.p (.app sz) [sx,xx])))).sel V=some r →
         ∃ fx,(∀ e∈fx,(V e.1).bB=e.2)∧(((V (.p (.app sz) [sx,xx])).lenN:Int)≤1073741824)∧(Sh.sl cs).ok (V (.p (.app sz) [sx,xx]))=true ∧
           r=(AV.sym (.own st.hp.nx cs) (.p (.app sz) [sx,xx]),({ st0 with fx:=fx }:SSt).make (.rows cs (.p (.app sz) [sx,xx]))):=by
        intro st0 sx r hsx hn S0 hs
        obtain ⟨st2,S2,e1,e2,e3,hs⟩:=needT_den hV S0 hs
        have e3:=V_xLe hV e3; rw [xI_V hV,V_len hV] at e3
        injection hs with hs
        have hok:=app_ok (a:=sx) hV hsx x2
        rw [hcs] at hok
        refine ⟨st2.fx,S2.fx,e3,hok,?_⟩
        rw [← hs,e1,hn]
        obtain ⟨q1,q2,q3⟩:=st2
        simp only at e1 e2
        subst e1; subst e2
        rfl
       have fin0:∀ {sx:X} {st0:SSt} {fx:List (X × Bool)},V sx = .nils→st0.hp.nx=st.hp.nx→Sim V σ Ls st0 h→(∀ e∈fx,(V e.1).bB=e.2)→(((V (.p (.app sz) [sx,xx])).lenN:Int)≤1073741824)→(Sh.sl cs).ok (V (.p (.app sz) [sx,xx]))=true →
         ∃ h1 σ1,(if (V xx).rowsL=[] then some (AV.nils,h) else if (V xx).rowsL.length≤1073741824 then some (AV.ms h.nx 0 (V xx).rowsL.length,h.push (.cells sz (V xx).rowsL)) else none)=some ((AV.sym (.own st.hp.nx cs) (.p (.app sz) [sx,xx])).den V σ1,h1) ∧
           Res V σ σ1 Ls st (({ st0 with fx:=fx }:SSt).make (.rows cs (.p (.app sz) [sx,xx]))) (AV.sym (.own st.hp.nx cs) (.p (.app sz) [sx,xx])) h1:=by
        intro sx st0 fx hsx hn S0 hfx hle hok
        have S2:Sim V σ Ls { st0 with fx:=fx } h:=make_fx S0 _ rfl rfl hfx
        have hVe:=V_app hV sz sx xx
        rw [hsx] at hVe
        have hlt:st.hp.nx < (({ st0 with fx:=fx }:SSt).make (.rows cs (.p (.app sz) [sx,xx]))).hp.nx:=by show st.hp.nx < st0.hp.nx+1; omega
        cases hrows:(V xx).rowsL with
        | nil =>
          rw [hrows] at hVe
          simp only at hVe
          refine ⟨h,σ,?_,Sim.makeNone S2 (by simp only [SB.prom,hVe]) hok,⟨hlt,hok⟩,Agr.refl _ _,Nat.le_of_lt hlt⟩
          simp only [if_true,AV.den,symD,hVe]
        | cons r rs =>
          rw [hrows] at hVe
          simp only [AV.rowsL,List.nil_append] at hVe
          rw [if_neg (by simp)]
          have hle:(r::rs).length≤1073741824:=by
           rw [hVe] at hle
           have hle:(((r::rs).length:Nat):Int)≤1073741824:=hle
           omega
          rw [if_pos hle]
          have hmk:=Sim.make S2 (s:=.rows cs (.p (.app sz) [sx,xx])) (B:=.cells sz (r::rs)) (fun B' hB'=>by
           simp only [SB.prom,hVe] at hB'
           injection hB' with hB'; exact hB'.symm) hok
          rw [show ({ st0 with fx:=fx }:SSt).hp.nx=st.hp.nx from hn] at hmk
          refine ⟨_,ext1 σ st.hp.nx h.nx,?_,hmk,⟨hlt,hok⟩,ext1_agr _ _ _,Nat.le_of_lt hlt⟩
          simp only [AV.den,symD,hVe,ext1,if_true]
       have fin1:∀ {sx:X} {st0:SSt} {fx:List (X × Bool)} {b:Nat} {rows:List (List AV)},V sx = .sl sz rows→st0.hp.nx=st.hp.nx→st0.hp.lk=st.hp.lk→st0.hp.segs=st.hp.segs→base≤b→prom V σ st b=some (.cells sz rows) →
         (∀ c D,prom V σ st0 c=some D→c ≠ b∧prom V σ st c=some D)→(∀ c B,st0.hp.get c=some B→st.hp.get c=some B∨B = .dead)→(∀ t u,lookS st0.sb t=some u→lookS st.sb t=some u) →
         Sim V σ Ls st0 (h.set (σ b) .dead)→(∀ e∈fx,(V e.1).bB=e.2)→(((V (.p (.app sz) [sx,xx])).lenN:Int)≤1073741824)→(Sh.sl cs).ok (V (.p (.app sz) [sx,xx]))=true →
         ∃ h1 σ1,(if (V xx).rowsL=[] then some (AV.ms (σ b) 0 rows.length,h) else match h.get (σ b) with
           | some (.cells k rows')=>if k=sz then (if 0+rows.length=rows'.length then (if rows.length+(V xx).rowsL.length≤1073741824 then some (AV.ms h.nx 0 (rows.length+(V xx).rowsL.length),(h.set (σ b) .dead).push (.cells sz (rows'.drop 0++(V xx).rowsL))) else none)
             else if 0+rows.length+(V xx).rowsL.length≤rows'.length then some (AV.ms (σ b) 0 (rows.length+(V xx).rowsL.length),(h.set (σ b) (.cells k (setRows rows' (0+rows.length) (V xx).rowsL))).leak (σ b) (mxss (V xx).rowsL)) else none) else none
           | _=>none)=some ((AV.sym (.own st.hp.nx cs) (.p (.app sz) [sx,xx])).den V σ1,h1) ∧
           Res V σ σ1 Ls st (({ st0 with fx:=fx }:SSt).make (.rows cs (.p (.app sz) [sx,xx]))) (AV.sym (.own st.hp.nx cs) (.p (.app sz) [sx,xx])) h1:=by
        intro sx st0 fx b rows hsx hn hlk hsg hbase hp hdie hgd hsb0 S0 hfx hle hok
        have hVe:=V_app hV sz sx xx
        rw [hsx] at hVe
        have hlt:st.hp.nx < (({ st0 with fx:=fx }:SSt).make (.rows cs (.p (.app sz) [sx,xx]))).hp.nx:=by show st.hp.nx < st0.hp.nx+1; omega
        cases hrows:(V xx).rowsL with
        | nil =>
          rw [hrows] at hVe
          simp only at hVe
          have S':Sim V σ Ls { st with fx:=fx } h:=make_fx S _ rfl rfl hfx
          have hov:=Sim.over S' (st0:={ st0 with fx:=fx }) hn hlk hsg rfl (s:=.rows cs (.p (.app sz) [sx,xx])) hok (b:=b) hdie hgd hsb0 (fun B' hB'=>by
           simp only [SB.prom,hVe] at hB'
           injection hB' with hB'; rw [← hB']; exact hp) (fun L hL=>Nat.le_trans (hB L hL) hbase)
          refine ⟨h,ext1 σ st.hp.nx (σ b),?_,hov,⟨hlt,hok⟩,ext1_agr _ _ _,Nat.le_of_lt hlt⟩
          simp only [if_true,AV.den,symD,hVe,ext1]
        | cons r rs =>
          rw [hrows] at hVe
          simp only [AV.rowsL] at hVe
          have hg:=S.core.get b _ hp
          rw [if_neg (by simp)]
          simp only [hg,if_true,Nat.zero_add]
          have hle:rows.length+(r::rs).length≤1073741824:=by
           rw [hVe] at hle
           have hle:(((rows++(r::rs)).length:Nat):Int)≤1073741824:=hle
           rw [List.length_append] at hle
           omega
          rw [if_pos hle]
          have S2:Sim V σ Ls { st0 with fx:=fx } (h.set (σ b) .dead):=make_fx S0 _ rfl rfl hfx
          have hnx:(h.set (σ b) .dead).nx=h.nx:=set_nx _ _ _
          have hmk:=Sim.make S2 (s:=.rows cs (.p (.app sz) [sx,xx])) (B:=.cells sz (rows.drop 0++(r::rs))) (fun B' hB'=>by
           simp only [SB.prom,hVe] at hB'
           injection hB' with hB'; exact hB'.symm) hok
          rw [show ({ st0 with fx:=fx }:SSt).hp.nx=st.hp.nx from hn,hnx] at hmk
          refine ⟨_,ext1 σ st.hp.nx h.nx,?_,hmk,⟨hlt,hok⟩,ext1_agr _ _ _,Nat.le_of_lt hlt⟩
          simp only [AV.den,symD,hVe,ext1,if_true,List.length_append]
       split at hr
       ·
        injection hr with hr; simp only [Prod.mk.injEq] at hr; obtain ⟨rfl,rfl⟩:=hr
        obtain ⟨fx,f1,f2,f3,f4⟩:=step (by rw [hV.nils]; rfl) rfl S hs
        obtain ⟨rfl,rfl⟩:=Prod.mk.inj f4
        exact fin0 hV.nils rfl S f1 f2 f3
       ·
        rename_i b len
        split at hr
        ·rename_i k rows hb
         split at hr
         ·rename_i hc
          split at hr
          ·rename_i rx hrx
           injection hr with hr; simp only [Prod.mk.injEq] at hr; obtain ⟨rfl,rfl⟩:=hr
           obtain ⟨c1,c2⟩:=S.hg.cells hb
           obtain ⟨a1,a2,_⟩:=asXc_den (σ:=σ) (n:=st.hp.nx) hV (.sl cs) (.sl sz rows) (.sl sz rx) (by simp only [asXc,hcs,if_true,hrx]) ((okvss_iff _).2 c2)
           have hsx:V (.sl sz rx) = .sl sz (rows.map fun r=>r.map (AV.den V σ)):=by rw [← a1]; simp only [AV.den,AV.denss_map]
           have hk:=hc.1; subst hk
           have hp:=prom_live (V:=V) (σ:=σ) hb rfl
           obtain ⟨fx,f1,f2,f3,f4⟩:=step a2 (set_nx _ _ _) (S.forgetH hb rfl) hs
           obtain ⟨rfl,rfl⟩:=Prod.mk.inj f4
           have:=fin1 (b:=b) hsx (set_nx _ _ _) (set_lk _ _ _) (set_segs _ _ _) hc.2.2 hp (fun c D hc=>Sim.die_hp S hb rfl hc) (fun c B hcB=>by
            have hcB:(st.hp.set b .dead).get c=some B:=hcB
            rw [get_set] at hcB
            split at hcB
            ·rw [hb] at hcB; injection hcB with hcB; exact .inr hcB.symm
            ·exact .inl hcB) (fun t u hu=>hu) (S.kill hb rfl) f1 f2 f3
           simp only [List.length_map,hc.2.1] at this
           exact this
          ·cases hr
         ·cases hr
        ·cases hr
       ·
        rename_i b cs' e0
        split at hr
        ·rename_i cs'' e' hl
         split at hr
         ·rename_i hc
          simp only [Bool.and_eq_true,decide_eq_true_eq] at hc
          obtain ⟨⟨⟨hc1,hc2⟩,hc3⟩,hc4⟩:=hc
          have q1:=Sh.eqbs_eq hc1; subst q1
          have q2:=Sh.eqbs_eq hc2; subst q2
          have q3:=X.eqb_eq hc3; subst q3
          injection hr with hr; simp only [Prod.mk.injEq] at hr; obtain ⟨rfl,rfl⟩:=hr
          have hbl:∀ B,st.hp.get b=some B→B.liveS=false:=fun B hB=>S.dj _ _ _ hl hB
          obtain ⟨fx,f1,f2,f3,f4⟩:=step (st0:={ st with sb:=dropS st.sb b }) hs0.2 rfl (S.forgetS hbl) hs
          obtain ⟨rfl,rfl⟩:=Prod.mk.inj f4
          rcases ok_sl hs0.2 with hn | ⟨rows,hrw,_⟩
          ·have:=fin0 (st0:={ st with sb:=dropS st.sb b }) hn rfl (S.forgetS hbl) f1 f2 f3
           simp only [AV.den,symD,hn] at this ⊢
           exact this
          ·rw [hcs] at hrw
           have hp:prom V σ st b=some (.cells sz rows):=by rw [prom_sb S hl]; simp only [SB.prom,hrw]
           have:=fin1 (st0:={ st with sb:=dropS st.sb b }) (b:=b) hrw rfl rfl rfl hc4 hp (fun c D hc=>Sim.die_sb S hc hbl) (fun c B hcB=>.inl hcB) (fun t u hu=>by
            simp only [lookS_drop] at hu
            split at hu
            ·cases hu
            ·exact hu) (S.killS (B0:=.cells sz rows) hl (by simp only [SB.prom,hrw])) f1 f2 f3
           simp only [AV.den,symD,hrw] at this ⊢
           exact this
         ·cases hr
        ·cases hr
       ·cases hr
      ·cases hs
     ·cases hs
    ·cases hs
   ·cases hs
  ·cases hs
 ·cases hs
end
section
variable {Ω:Om} {V:X→AV} {σ:Nat→Nat} {Ls:List (Nat × Nat)} {st st1:SSt} {h:Hp} {T:Tab} {n:Nat}
theorem rowsA_den {H:Hp} (hg:HG V σ n H h) {k:Nat} {x:AV} {rows:List (List AV)} (hx:x.okv V n) (hr:rowsA H k x=some rows) :
  rowsA h k (x.den V σ)=some (rows.map fun r=>r.map (AV.den V σ))∧∀ r∈rows,∀ y∈r,y.okv V n:=by
 unfold rowsA at hr
 split at hr
 ·injection hr with hr; subst hr; exact ⟨rfl,fun _ h=>by cases h⟩
 ·split at hr
  ·rename_i hk
   injection hr with hr; subst hr
   simp only [AV.okv,okvss_iff] at hx
   exact ⟨by simp [AV.den,rowsA,hk,AV.denss_map],hx⟩
  ·cases hr
 ·rename_i b off len
  split at hr
  ·rename_i k' rows0 hb
   obtain ⟨c1,c2⟩:=hg.cells hb
   split at hr
   ·rename_i hc
    injection hr with hr; subst hr
    refine ⟨?_,fun r hr=>c2 r (List.mem_of_mem_drop (List.mem_of_mem_take hr))⟩
    simp only [AV.den,rowsA,c1,List.length_map]
    rw [if_pos hc]
    simp [List.map_take,List.map_drop]
   ·cases hr
  ·cases hr
 ·cases hr
theorem setRows_map {f:AV→AV} (xs:List (List AV)):∀ (rows:List (List AV)) (i:Nat),setRows (rows.map fun r=>r.map f) i (xs.map fun r=>r.map f)=(setRows rows i xs).map fun r=>r.map f:=by
 induction xs with
 | nil=>intro rows i; rfl
 | cons x xs ih=>intro rows i; simp only [List.map_cons,setRows,put_map (f:=fun r:List AV=>r.map f),ih]
theorem mem_setRows {xs:List (List AV)}:∀ {rows:List (List AV)} {i:Nat} {r:List AV},r∈setRows rows i xs→r∈rows∨r∈xs:=by
 induction xs with
 | nil=>intro rows i r h; exact .inl h
 | cons x xs ih =>
   intro rows i r h
   simp only [setRows] at h
   rcases ih h with h | h
   ·rcases mem_put h with h | h
    ·exact .inl h
    ·exact .inr (h ▸ .head _)
   ·exact .inr (.tail _ h)
theorem appendA_den (S:Sim V σ Ls st h) {base:Nat} (hB:∀ L∈Ls,L.1≤base) {ts:List TypeId} {args:List AV} (ha:∀ x∈args,x.okv V st.hp.nx) (hbase:∀ c o l x,args=[.ms c o l,x]→base≤c) {v:AV} {H1:Hp} (hv:appendA T st.hp ts args=some (v,H1)) :
  ∃ h1 σ1,appendA T h ts (args.map (AV.den V σ))=some (v.den V σ1,h1)∧Res V σ σ1 Ls st { st with hp:=H1 } v h1:=by
 unfold appendA at hv
 split at hv
 ·rename_i t ts s x
  have hs0:=ha s (.head _)
  have hx0:=ha x (.tail _ (.head _))
  split at hv
  ·rename_i el sz bb z t1 t2
   split at hv
   ·rename_i xs hxs
    obtain ⟨x1,x2⟩:=rowsA_den S.hg hx0 hxs
    simp only [List.map_cons,List.map_nil,appendA,t1,t2,x1]
    split at hv
    ·rename_i hnil
     subst hnil
     simp only [List.map_nil,if_true]
     split at hv
     ·injection hv with hv; obtain ⟨rfl,rfl⟩:=Prod.mk.inj hv; exact ⟨h,σ,rfl,Res.quiet S hs0⟩
     ·injection hv with hv; obtain ⟨rfl,rfl⟩:=Prod.mk.inj hv; exact ⟨h,σ,rfl,Res.quiet S hs0⟩
     ·injection hv with hv; obtain ⟨rfl,rfl⟩:=Prod.mk.inj hv; exact ⟨h,σ,rfl,Res.quiet S hs0⟩
     ·cases hv
    ·rename_i hnil
     rw [if_neg (by simpa using hnil)]
     split at hv
     ·split at hv
      ·rename_i hle
       injection hv with hv; obtain ⟨rfl,rfl⟩:=Prod.mk.inj hv
       simp only [AV.den,List.length_map]
       rw [if_pos hle]
       exact ⟨_,_,by simp [AV.den,ext1,Blk.denB],Res.push S (B:=.cells sz xs) x2 (show _ < _ from Nat.lt_succ_self _)⟩
      ·cases hv
     ·rename_i b off len
      have hbb:=hbase b off len x rfl
      split at hv
      ·rename_i k rows hb
       obtain ⟨c1,c2⟩:=S.hg.cells hb
       simp only [AV.den,c1]
       split at hv
       ·rename_i hk
        rw [if_pos hk]
        split at hv
        ·rename_i h1
         rw [if_pos (by simpa using h1)]
         split at hv
         ·rename_i h2
          rw [if_pos (by simpa using h2)]
          injection hv with hv; obtain ⟨rfl,rfl⟩:=Prod.mk.inj hv
          have S1:=S.kill hb rfl
          have hok:(Blk.cells sz (rows.drop off++xs)).okB V (st.hp.set b .dead).nx:=by
           rw [set_nx]
           intro r hr y hy
           rcases List.mem_append.1 hr with hr | hr
           ·exact c2 r (List.mem_of_mem_drop hr) y hy
           ·exact x2 r hr y hy
          have S2:=S1.push hok
          have e1:(st.hp.set b .dead).nx=st.hp.nx:=set_nx _ _ _
          have e2:(h.set (σ b) .dead).nx=h.nx:=set_nx _ _ _
          simp only [e1,e2] at S2
          refine ⟨_,_,?_,S2,?_,ext1_agr _ _ _,?_⟩
          ·simp only [AV.den,ext1,if_true,List.length_map,Blk.denB,List.map_append,List.map_drop]
          ·show st.hp.nx < ((st.hp.set b .dead).push _).nx
           show st.hp.nx < (st.hp.set b .dead).nx+1
           omega
          ·show st.hp.nx≤(st.hp.set b .dead).nx+1
           omega
         ·cases hv
        ·rename_i h1
         rw [if_neg (by simpa using h1)]
         split at hv
         ·rename_i h2
          rw [if_pos (by simpa using h2)]
          injection hv with hv; obtain ⟨rfl,rfl⟩:=Prod.mk.inj hv
          have S1:=Sim.set S (B:=.cells k (setRows rows (off+len) xs)) hb rfl (by
           intro r hr y hy
           rcases mem_setRows hr with hr | hr
           ·exact c2 r hr y hy
           ·exact x2 r hr y hy) (m:=mxss xs) (m':=mxss (xs.map fun r=>r.map (AV.den V σ))) (.inr fun L hL=>Nat.le_trans (hB L hL) hbb) (fun L hL hlt=>by have:=hB L hL; omega)
          refine ⟨_,σ,?_,S1,?_,Agr.refl _ _,?_⟩
          ·simp only [AV.den,List.length_map,Blk.denB,setRows_map]
          ·show b < ((st.hp.set b _).leak b _).nx
           rw [leak_nx,set_nx]; exact hs0
          ·show st.hp.nx≤((st.hp.set b _).leak b _).nx
           rw [leak_nx,set_nx]; exact Nat.le_refl _
         ·cases hv
       ·cases hv
      ·cases hv
     ·cases hv
   ·cases hv
  ·cases hv
 ·cases hv
theorem lenA_den {H:Hp} (hg:HG V σ n H h) {t:TypeId} {x v:AV} (hx:x.okv V n) (hv:lenA T H t x=some v):lenA T h t (x.den V σ)=some (v.den V σ)∧v.okv V n:=by
 have mp:∀ {m v:AV},m.okv V n→(mapA H m).map (fun es=>AV.int .i64 es.length)=some v→(mapA h (m.den V σ)).map (fun es=>AV.int .i64 es.length)=some (v.den V σ)∧v.okv V n:=by
  intro m v hm hv
  cases he:mapA H m with
  | none=>rw [he] at hv; cases hv
  | some es =>
    rw [he] at hv; injection hv with hv; subst hv
    rw [(mapA_den hg hm he).1]
    simp only [Option.map_some,List.length_map,AV.den]
    exact ⟨trivial,trivial⟩
 unfold lenA at hv
 split at hv
 ·rename_i t1; injection hv with hv; subst hv; simp only [AV.den,lenA,t1]; exact ⟨trivial,trivial⟩
 ·rename_i t1; injection hv with hv; subst hv; simp only [AV.den,lenA,t1]; exact ⟨trivial,trivial⟩
 ·rename_i t1; injection hv with hv; subst hv; simp only [AV.den,lenA,t1]; exact ⟨trivial,trivial⟩
 ·rename_i t1; injection hv with hv; subst hv; simp only [AV.den,lenA,t1]; exact ⟨trivial,trivial⟩
 ·rename_i t1; injection hv with hv; subst hv; simp only [AV.den,lenA,t1,AV.denss_map,List.length_map]; exact ⟨trivial,trivial⟩
 ·rename_i t1
  obtain ⟨m1,m2⟩:=mp hx hv
  refine ⟨?_,m2⟩
  unfold lenA
  simp only [t1]
  exact m1
 ·cases hv
theorem fold_den {f:AV→AV→Option AV} (hf:∀ a b c,f a b=some c→f (a.den V σ) (b.den V σ)=some (c.den V σ)∧c.okv V n):∀ {l:List AV} {a r:AV},a.okv V n→foldA f a l=some r→foldA f (a.den V σ) (l.map (AV.den V σ))=some (r.den V σ)∧r.okv V n
 | [],a,r,ha,h=>by injection h with h; subst h; exact ⟨rfl,ha⟩
 | b::l,a,r,ha,h=>by
   simp only [foldA,List.map_cons] at h ⊢
   split at h
   ·rename_i c hc
    obtain ⟨c1,c2⟩:=hf a b c hc
    rw [c1]
    exact fold_den hf c2 h
   ·cases h
theorem builtinA_den (S:Sim V σ Ls st h) {b:Builtin} {ts:List TypeId} {args:List AV} (ha:∀ x∈args,x.okv V st.hp.nx) (hna:b ≠ .append) (hnc:b ≠ .clear) {v:AV} {H1:Hp} (hv:builtinA T st.hp b ts args=some (v,H1)) :
  ∃ h1 σ1,builtinA T h b ts (args.map (AV.den V σ))=some (v.den V σ1,h1)∧Res V σ σ1 Ls st { st with hp:=H1 } v h1:=by
 unfold builtinA at hv
 split at hv
 ·rename_i x
  split at hv
  ·rename_i t ts
   cases hl:lenA T st.hp t x with
   | none=>rw [hl] at hv; cases hv
   | some u =>
     rw [hl] at hv
     injection hv with hv; obtain ⟨rfl,rfl⟩:=Prod.mk.inj hv
     obtain ⟨l1,l2⟩:=lenA_den S.hg (ha x (.head _)) hl
     exact ⟨h,σ,by simp only [List.map_cons,List.map_nil,builtinA,l1]; rfl,Res.quiet S l2⟩
  ·cases hv
 ·exact absurd rfl hna
 ·rename_i x l
  cases hl:foldA max2A x l with
  | none=>rw [hl] at hv; cases hv
  | some u =>
    rw [hl] at hv
    injection hv with hv; obtain ⟨rfl,rfl⟩:=Prod.mk.inj hv
    obtain ⟨l1,l2⟩:=fold_den (V:=V) (σ:=σ) (n:=st.hp.nx) (f:=max2A) (fun a b c hc=>by
     unfold max2A at hc
     split at hc
     ·injection hc with hc; subst hc; exact ⟨rfl,trivial⟩
     ·cases hc) (ha x (.head _)) hl
    exact ⟨h,σ,by simp only [List.map_cons,builtinA,l1]; rfl,Res.quiet S l2⟩
 ·rename_i x l
  cases hl:foldA min2A x l with
  | none=>rw [hl] at hv; cases hv
  | some u =>
    rw [hl] at hv
    injection hv with hv; obtain ⟨rfl,rfl⟩:=Prod.mk.inj hv
    obtain ⟨l1,l2⟩:=fold_den (V:=V) (σ:=σ) (n:=st.hp.nx) (f:=min2A) (fun a b c hc=>by
     unfold min2A at hc
     split at hc
     ·injection hc with hc; subst hc; exact ⟨rfl,trivial⟩
     ·cases hc) (ha x (.head _)) hl
    exact ⟨h,σ,by simp only [List.map_cons,builtinA,l1]; rfl,Res.quiet S l2⟩
 ·exact absurd rfl hnc
 ·cases hv
theorem mm_den (hV:IsV Ω V) {op:BinOp} {f:AV→AV→Option AV} (hf:∀ k x y,f (.int k x) (.int k y)=some (.int k (if (getJ (intOpA op k y x)).bB then y else x))) :
  ∀ {l:List AV} {a v:AV},a.okv V n→(∀ x∈l,x.okv V n)→mm op a l=some v→foldA f (a.den V σ) (l.map (AV.den V σ))=some (v.den V σ)∧v.okv V n
 | [],a,v,ha,_,h=>by injection h with h; subst h; exact ⟨rfl,ha⟩
 | b::l,a,v,ha,hl,h=>by
   simp only [mm] at h
   split at h
   ·rename_i k x k' y h1 h2
    split at h
    ·rename_i hk
     subst hk
     obtain ⟨a1,a2⟩:=asI_den (σ:=σ) hV h1 ha
     obtain ⟨b1,b2⟩:=asI_den (σ:=σ) hV h2 (hl b (.head _))
     have hVe:V (.p .ite [.p (.bin op k) [y,x],y,x]) = .int k (if (getJ (intOpA op k (V y).nI (V x).nI)).bB then (V y).nI else (V x).nI):=by
      rw [V_ite hV,V_bin hV]
      cases (getJ (intOpA op k (V y).nI (V x).nI)).bB with
      | true=>exact b2
      | false=>exact a2
     have hd:=den_data (V:=V) (σ:=σ) (n:=n) (s:=.int k) (e:=.p .ite [.p (.bin op k) [y,x],y,x]) (by rw [hVe]; simp [Sh.ok])
     obtain ⟨r1,r2⟩:=mm_den hV hf hd.2 (fun z hz=>hl z (.tail _ hz)) h
     refine ⟨?_,r2⟩
     simp only [List.map_cons,foldA,a1,b1,hf]
     rw [hd.1,hVe] at r1
     exact r1
    ·cases h
   ·cases h
theorem V_xIte (hV:IsV Ω V) {c a b:X} {C:Bool} (hc:(V c).bB=C):V (xIte c a b)=if C then V a else V b:=by
 unfold xIte
 split
 ·rename_i h; rw [X.eqb_eq h]; simp
 ·rw [V_ite hV,hc]; cases C<;>rfl
mutual
theorem mergeV_den (hV:IsV Ω V) {c:X} {C:Bool} (hc:(V c).bB=C):∀ (a b v:AV),(C=true→a.okv V n)→(C=false→b.okv V n)→mergeV c a b=some v→v.den V σ=(if C then a.den V σ else b.den V σ)∧v.okv V n:=by
 intro a b v ha hb h
 have gen:(if a.eqb b then some a else mergeX c a b)=some v→v.den V σ=(if C then a.den V σ else b.den V σ)∧v.okv V n:=by
  intro h2
  split at h2
  ·rename_i he
   have:=AV.eqb_eq _ _ he; subst this
   injection h2 with h2; subst h2
   cases C with
   | true=>exact ⟨rfl,ha rfl⟩
   | false=>exact ⟨rfl,hb rfl⟩
  ·unfold mergeX at h2
   split at h2
   ·rename_i s hs
    split at h2
    ·rename_i x y h1 h3
     injection h2 with h2; subst h2
     have key:(s.ok (if C then V x else V y)=true)∧(if C then V x else V y)=(if C then a.den V σ else b.den V σ):=by
      cases C with
      | true=>obtain ⟨p1,p2,_⟩:=asX_den (σ:=σ) hV h1 (ha rfl); exact ⟨by simpa using p2,by simpa using p1.symm⟩
      | false=>obtain ⟨p1,p2,_⟩:=asX_den (σ:=σ) hV h3 (hb rfl); exact ⟨by simpa using p2,by simpa using p1.symm⟩
     have hv:=V_xIte hV (a:=x) (b:=y) hc
     have hd:=den_data (V:=V) (σ:=σ) (n:=n) (s:=s) (e:=xIte c x y) (by rw [hv]; exact key.1)
     exact ⟨by rw [hd.1,hv,key.2],hd.2⟩
    ·cases h2
   ·cases h2
 cases a with
 | agg as =>
   cases b with
   | agg bs =>
     simp only [mergeV] at h
     split at h
     ·rename_i l hl
      injection h with h; subst h
      obtain ⟨r1,r2⟩:=mergeVs_den hV hc as bs l ha hb hl
      refine ⟨?_,r2⟩
      simp only [AV.den,r1]; cases C<;>rfl
     ·cases h
   | _=>exact gen (by simpa only [mergeV] using h)
 | tuple as =>
   cases b with
   | tuple bs =>
     simp only [mergeV] at h
     split at h
     ·rename_i l hl
      injection h with h; subst h
      obtain ⟨r1,r2⟩:=mergeVs_den hV hc as bs l ha hb hl
      refine ⟨?_,r2⟩
      simp only [AV.den,r1]; cases C<;>rfl
     ·cases h
   | _=>exact gen (by simpa only [mergeV] using h)
 | _=>exact gen (by simpa only [mergeV] using h)
theorem mergeVs_den (hV:IsV Ω V) {c:X} {C:Bool} (hc:(V c).bB=C):∀ (a b v:List AV),(C=true→AV.okvs V n a)→(C=false→AV.okvs V n b)→mergeVs c a b=some v→AV.dens V σ v=(if C then AV.dens V σ a else AV.dens V σ b)∧AV.okvs V n v:=by
 intro a b v ha hb h
 cases a with
 | nil =>
   cases b with
   | nil=>injection h with h; subst h; exact ⟨by cases C<;>rfl,trivial⟩
   | cons _ _=>cases h
 | cons x xs =>
   cases b with
   | nil=>cases h
   | cons y ys =>
     simp only [mergeVs] at h
     split at h
     ·rename_i u us h1 h2
      injection h with h; subst h
      obtain ⟨p1,p2⟩:=mergeV_den hV hc x y u (fun e=>(ha e).1) (fun e=>(hb e).1) h1
      obtain ⟨q1,q2⟩:=mergeVs_den hV hc xs ys us (fun e=>(ha e).2) (fun e=>(hb e).2) h2
      refine ⟨?_,p2,q2⟩
      simp only [AV.dens,p1,q1]; cases C<;>rfl
     ·cases h
end
variable {ev ev':Ev}
theorem opSym_den (hV:IsV Ω V) (S:Sim V σ Ls st h) (he:EvD V σ st.hp.nx ev ev') {op:Op} {v:AV} (hs:(opSym T ev st op).sel V=some (v,st1)) :
  ∃ h1 σ1,opA T ev' h op=some (v.den V σ1,h1)∧Res V σ σ1 Ls st st1 v h1:=by
 cases op with
 | pick c a b =>
   simp only [opSym] at hs
   split at hs
   ·rename_i e hc
    obtain ⟨c1,c2⟩:=he c _ hc
    have hb:=ok_bool c2
    have c1:ev' c=some (.bool (V e).bB):=by rw [c1]; simp only [AV.den,symD]; rw [← hb]
    have yes:∀ {w:Nat} {st':SSt},Sim V σ Ls st' h→st'.hp=st.hp→(V e).bB=true→(ofO st' w (ev a)).sel V=some (v,st1)→∃ h1 σ1,opA T ev' h (.pick c a b)=some (v.den V σ1,h1)∧Res V σ σ1 Ls st st1 v h1:=by
     intro w st' S' e1 hb hs
     unfold ofO at hs
     split at hs
     ·rename_i x hx
      injection hs with hs; obtain ⟨rfl,rfl⟩:=Prod.mk.inj hs
      obtain ⟨x1,x2⟩:=he a _ hx
      refine ⟨h,σ,?_,S',by rw [e1]; exact x2,Agr.refl _ _,by rw [e1]; exact Nat.le_refl _⟩
      simp only [opA,opPick,c1,hb,x1,withH]
     ·cases hs
    have no:∀ {w:Nat} {st':SSt},Sim V σ Ls st' h→st'.hp=st.hp→(V e).bB=false→(ofO st' w (ev b)).sel V=some (v,st1)→∃ h1 σ1,opA T ev' h (.pick c a b)=some (v.den V σ1,h1)∧Res V σ σ1 Ls st st1 v h1:=by
     intro w st' S' e1 hb hs
     unfold ofO at hs
     split at hs
     ·rename_i x hx
      injection hs with hs; obtain ⟨rfl,rfl⟩:=Prod.mk.inj hs
      obtain ⟨x1,x2⟩:=he b _ hx
      refine ⟨h,σ,?_,S',by rw [e1]; exact x2,Agr.refl _ _,by rw [e1]; exact Nat.le_refl _⟩
      simp only [opA,opPick,c1,hb,x1,withH]
     ·cases hs
    split at hs
    ·rename_i hf; exact yes S rfl (factOf_ok S.fx hf) hs
    ·rename_i hf; exact no S rfl (factOf_ok S.fx hf) hs
    ·split at hs
     ·rename_i x y hx hy
      obtain ⟨x1,x2⟩:=he a _ hx
      obtain ⟨y1,y2⟩:=he b _ hy
      split at hs
      ·rename_i z hz
       injection hs with hs; obtain ⟨rfl,rfl⟩:=Prod.mk.inj hs
       obtain ⟨m1,m2⟩:=mergeV_den (σ:=σ) (n:=st.hp.nx) hV rfl x y _ (fun _=>x2) (fun _=>y2) hz
       refine ⟨h,σ,?_,Res.quiet S m2⟩
       simp only [opA,opPick,c1,m1]
       cases (V e).bB<;>simp [x1,y1,withH]
      ·rw [sel_ite] at hs
       rcases hs with ⟨hbb,hs⟩ | ⟨hbb,hs⟩
       ·exact yes (w:=0) (S.fact hbb) rfl hbb (by rw [hx]; exact hs)
       ·exact no (w:=0) (S.fact hbb) rfl hbb (by rw [hy]; exact hs)
     ·cases hs
   ·cases hs
 | binOp op t x y yt =>
   simp only [opSym] at hs
   split at hs
   ·rename_i a b ha hb
    obtain ⟨a1,a2⟩:=he x _ ha
    obtain ⟨b1,b2⟩:=he y _ hb
    have:=(binS_den hV S a2 b2 (fun h1 h2 _ h3=>eqTopS_den hV a2 b2 h1 h2 h3) hs).res
    simp only [opA,opBin,a1,b1]
    exact this
   ·cases hs
 | unOp op t x =>
   simp only [opSym] at hs
   split at hs
   ·rename_i a ha
    obtain ⟨a1,a2⟩:=he x _ ha
    have:=(unS_den hV S a2 hs).res
    simp only [opA,opUn,a1]
    exact this
   ·cases hs
 | convert s d x =>
   simp only [opSym] at hs
   split at hs
   ·rename_i a ha
    obtain ⟨a1,a2⟩:=he x _ ha
    have:=(convS_den hV S a2 hs).res
    simp only [opA,opConv,a1]
    exact this
   ·cases hs
 | load t x =>
   simp only [opSym] at hs
   split at hs
   ·rename_i a ha
    obtain ⟨a1,a2⟩:=he x _ ha
    have:=(loadS_den hV S a2 hs).res
    simp only [opA,opLoad,a1]
    exact this
   ·cases hs
 | store t x y =>
   simp only [opSym] at hs
   split at hs
   ·rename_i a b ha hb
    obtain ⟨a1,a2⟩:=he x _ ha
    obtain ⟨b1,b2⟩:=he y _ hb
    obtain ⟨rfl,h1,s1,s2,s3⟩:=storeS_den hV S a2 b2 hs
    refine ⟨h1,σ,?_,s2,?_,Agr.refl _ _,by rw [s3]; exact Nat.le_refl _⟩
    ·simp only [opA,opStore,a1,b1,s1,stored]
     rfl
    ·exact (okvs_iff _).2 (fun _ h=>by cases h)
   ·cases hs
 | makeSlice t l c =>
   simp only [opSym] at hs
   split at hs
   ·rename_i a b ha hb
    obtain ⟨a1,a2⟩:=he l _ ha
    obtain ⟨b1,b2⟩:=he c _ hb
    simp only [opA,opMakeSlice,a1,b1]
    exact makeSliceS_den hV S a2 b2 hs
   ·cases hs
 | slice t x lo hi mx =>
   simp only [opSym] at hs
   split at hs
   ·rename_i a lo' hi' ha hlo hhi
    obtain ⟨a1,a2⟩:=he x _ ha
    have:=(sliceS_den hV S a2 (optA_ok he hlo) (optA_ok he hhi) hs).res
    simp only [opA,opSlice,a1,optA_den he hlo,optA_den he hhi]
    exact this
   ·cases hs
 | fieldAddr s x f =>
   simp only [opSym] at hs
   split at hs
   ·rename_i a ha
    obtain ⟨a1,a2⟩:=he x _ ha
    have:=(fieldAddrS_den S a2 hs).res
    simp only [opA,opFieldAddr,a1]
    exact this
   ·cases hs
 | indexAddr t x ix =>
   simp only [opSym] at hs
   split at hs
   ·rename_i a b ha hb
    obtain ⟨a1,a2⟩:=he x _ ha
    obtain ⟨b1,b2⟩:=he ix _ hb
    have:=(indexAddrS_den hV S a2 b2 hs).res
    simp only [opA,opIndexAddr,a1,b1]
    exact this
   ·cases hs
 | index t x ix =>
   simp only [opSym] at hs
   split at hs
   ·rename_i a b ha hb
    obtain ⟨a1,a2⟩:=he x _ ha
    obtain ⟨b1,b2⟩:=he ix _ hb
    have:=(indexS_den hV S a2 b2 hs).res
    simp only [opA,opIndex,a1,b1]
    exact this
   ·cases hs
 | lookup t m k ok =>
   simp only [opSym] at hs
   split at hs
   ·rename_i a b ha hb
    obtain ⟨a1,a2⟩:=he m _ ha
    obtain ⟨b1,b2⟩:=he k _ hb
    have:=(lookupS_den hV S a2 b2 hs).res
    simp only [opA,opLookup,a1,b1]
    exact this
   ·cases hs
 | mapUpdate t m k x =>
   simp only [opSym] at hs
   split at hs
   ·rename_i a b c ha hb hc
    obtain ⟨a1,a2⟩:=he m _ ha
    obtain ⟨b1,b2⟩:=he k _ hb
    obtain ⟨c1,c2⟩:=he x _ hc
    obtain ⟨rfl,h1,s1,s2,s3⟩:=mapUpdS_den hV S a2 b2 c2 hs
    refine ⟨h1,σ,?_,s2,?_,Agr.refl _ _,by rw [s3]; exact Nat.le_refl _⟩
    ·simp only [opA,opMapUpd,a1,b1,c1,s1,stored]
     rfl
    ·exact (okvs_iff _).2 (fun _ h=>by cases h)
   ·cases hs
 | insert t m k x =>
   simp only [opSym] at hs
   split at hs
   ·rename_i a b c ha hb hc
    obtain ⟨a1,a2⟩:=he m _ ha
    obtain ⟨b1,b2⟩:=he k _ hb
    obtain ⟨c1,c2⟩:=he x _ hc
    obtain ⟨rfl,h1,s1,s2,s3⟩:=mapUpdS_den hV S a2 b2 c2 hs
    refine ⟨h1,σ,?_,s2,?_,Agr.refl _ _,by rw [s3]; exact Nat.le_refl _⟩
    ·simp only [opA,opMapUpd,a1,b1,c1,s1,stored]
     rfl
    ·exact (okvs_iff _).2 (fun _ h=>by cases h)
   ·cases hs
 | range t x =>
   simp only [opSym] at hs
   split at hs
   ·rename_i a ha
    obtain ⟨a1,a2⟩:=he x _ ha
    simp only [opA,opRange,a1]
    exact rangeS_den hV S a2 hs
   ·cases hs
 | next x isS =>
   simp only [opSym] at hs
   split at hs
   ·rename_i a ha
    obtain ⟨a1,a2⟩:=he x _ ha
    simp only [opA,opNext,a1]
    exact nextS_den hV S a2 hs
   ·cases hs
 | nilCheck x =>
   simp only [opSym] at hs
   split at hs
   ·rename_i b o cs i ha
    obtain ⟨a1,a2⟩:=he x _ ha
    injection hs with hs; obtain ⟨rfl,rfl⟩:=Prod.mk.inj hs
    refine ⟨h,σ,?_,Res.quiet S a2⟩
    simp only [opA,opNilCheck,a1,AV.den,symD]
   ·cases hs
 | _=>cases hs
theorem opS_den (hV:IsV Ω V) (S:Sim V σ Ls st h) (he:EvD V σ st.hp.nx ev ev') {base:Nat} (hB:∀ L∈Ls,L.1≤base) {op:Op} {v:AV} (hs:(opS T base ev st op).sel V=some (v,st1)) :
  ∃ h1 σ1,opA T ev' h op=some (v.den V σ1,h1)∧Res V σ σ1 Ls st st1 v h1:=by
 unfold opS at hs
 split at hs
 ·rename_i u H1 hu
  split at hs
  ·rename_i hso
   injection hs with hs; obtain ⟨rfl,rfl⟩:=Prod.mk.inj hs
   exact opA_den S he hB hso hu
  ·cases hs
 ·exact opSym_den hV S he hs
theorem oks_mxs:∀ {cs:List Sh} {r:List AV},Sh.oks cs r=true→mxs r=0
 | [],[],_=>rfl
 | c::cs,a::as,h=>by
   simp only [Sh.oks,Bool.and_eq_true] at h
   simp only [mxs,(ok_cell h.1).2.2.2.2.1,oks_mxs h.2,Nat.max_self]
theorem rows_mx {cs:List Sh}:∀ {rows:List (List AV)},(∀ r∈rows,Sh.oks cs r=true)→mxss rows=0
 | [],_=>rfl
 | r::rows,h=>by
   simp only [mxss,oks_mxs (h r (.head _)),rows_mx fun r hr=>h r (.tail _ hr),Nat.max_self]
theorem mxss_zero:∀ {l:List (List AV)},mxss l=0↔∀ r∈l,mxs r=0
 | []=>by simp [mxss]
 | a::l=>by simp only [mxss,List.mem_cons,forall_eq_or_imp,← mxss_zero (l:=l)]; omega
theorem fzCellS_den (S:Sim V σ Ls st h) {a a':AV} (ho:a.okv V st.hp.nx) (hs:fzCellS st a=some (a',st1)) :
  ∃ h1,fzCell h (a.den V σ)=(a'.den V σ,h1)∧Sim V σ Ls st1 h1∧st1.hp.nx=st.hp.nx∧a'.okv V st.hp.nx:=by
 unfold fzCellS at hs
 split at hs
 ·rename_i t cs e
  split at hs
  ·rename_i cs' e' hl
   split at hs
   ·rename_i hc
    simp only [Option.some.injEq,Prod.mk.injEq] at hs
    obtain ⟨rfl,rfl⟩:=hs
    simp only [Bool.and_eq_true] at hc
    have c1:=Sh.eqbs_eq hc.1
    have c2:=X.eqb_eq hc.2
    subst c1; subst c2
    have hdead:∀ B,st.hp.get t=some B→B.liveS=false:=fun B hB=>S.dj _ _ _ hl hB
    obtain ⟨g1,_⟩:=S.oks _ _ hl
    have g1:(Sh.sl cs).ok (V e)=true:=g1
    rcases ok_sl g1 with h0 | ⟨rows,h0,hr⟩
    ·refine ⟨h,?_,S.forgetS hdead,rfl,g1⟩
     simp only [AV.den,symD,h0,fzCell]
    ·have hprom:(SB.rows cs e).prom V=some (.cells cs.length rows):=by simp only [SB.prom,h0]
     have hg:=S.core.get t _ (by rw [prom_sb S hl]; exact hprom)
     refine ⟨_,?_,S.killS hl hprom,rfl,g1⟩
     simp only [AV.den,symD,h0,fzCell,hg]
     rw [if_pos ⟨by omega,rows_mx hr⟩]
     simp
   ·cases hs
  ·cases hs
 ·rename_i b off len
  split at hs
  ·rename_i k rows hb
   obtain ⟨c1,c2⟩:=S.hg.cells hb
   split at hs
   ·rename_i hc
    simp only [Option.some.injEq,Prod.mk.injEq] at hs
    obtain ⟨rfl,rfl⟩:=hs
    have hm:mxss (rows.map fun r=>r.map (AV.den V σ))=0:=by
     have h1:=hc.2
     rw [mxss_zero] at h1 ⊢
     intro r hr
     obtain ⟨r0,hr0,rfl⟩:=List.mem_map.1 hr
     exact map_mx0 (c2 r0 hr0) (h1 r0 hr0)
    refine ⟨_,?_,S.kill hb rfl,set_nx _ _ _,?_⟩
    ·simp only [AV.den,fzCell,c1,AV.denss_map]
     rw [if_pos ⟨by simpa using hc.1,hm⟩]
     simp [List.map_take,List.map_drop]
    ·simp only [AV.okv,okvss_iff]
     exact fun r hr=>c2 r (List.mem_of_mem_drop (List.mem_of_mem_take hr))
   ·cases hs
  ·cases hs
 ·split at hs
  ·rename_i hm
   simp only [Option.some.injEq,Prod.mk.injEq] at hs
   obtain ⟨rfl,rfl⟩:=hs
   refine ⟨h,?_,S,rfl,ho⟩
   have hz:=den_mx0 (σ:=σ) ho hm
   generalize AV.den V σ a=v at hz
   cases v<;>first | rfl | (simp [AV.mx] at hz)
  ·cases hs
theorem fzCellsS_den:∀ {as as':List AV} {st st1:SSt} {h:Hp},Sim V σ Ls st h→(∀ x∈as,x.okv V st.hp.nx)→fzCellsS as st=some (as',st1) →
  ∃ h1,fzCells (as.map (AV.den V σ)) h=(as'.map (AV.den V σ),h1)∧Sim V σ Ls st1 h1∧st1.hp.nx=st.hp.nx∧∀ x∈as',x.okv V st.hp.nx
 | [],as',st,st1,h,S,_,hs=>by
   simp only [fzCellsS,Option.some.injEq,Prod.mk.injEq] at hs
   obtain ⟨rfl,rfl⟩:=hs
   exact ⟨h,rfl,S,rfl,fun _ h=>by cases h⟩
 | a::as,as',st,st1,h,S,ho,hs=>by
   simp only [fzCellsS] at hs
   split at hs
   ·rename_i a' st2 h1
    split at hs
    ·rename_i bs st3 h2
     simp only [Option.some.injEq,Prod.mk.injEq] at hs
     obtain ⟨rfl,rfl⟩:=hs
     obtain ⟨k1,e1,S1,n1,o1⟩:=fzCellS_den S (ho a (.head _)) h1
     obtain ⟨k2,e2,S2,n2,o2⟩:=fzCellsS_den S1 (fun x hx=>by rw [n1]; exact ho x (.tail _ hx)) h2
     refine ⟨k2,?_,S2,n2.trans n1,fun x hx=>?_⟩
     ·simp only [List.map_cons,fzCells,e1,e2]
     ·cases hx with
      | head=>exact o1
      | tail _ hx=>rw [← n1]; exact o2 x hx
    ·cases hs
   ·cases hs
theorem nth_mapW {α β:Type} (f:α→β):∀ (l:List α) (n:Nat),nth (l.map f) n=(nth l n).map f
 | [],_=>rfl
 | _::_,0=>rfl
 | _::l,n+1=>nth_mapW f l n
theorem fzAppS_den (S:Sim V σ Ls st h) {ts:List TypeId} {args args':List AV} (ha:∀ x∈args,x.okv V st.hp.nx) (hs:fzAppS T st ts args=some (args',st1)) :
  ∃ h1,fzApp T h ts (args.map (AV.den V σ))=(args'.map (AV.den V σ),h1)∧Sim V σ Ls st1 h1∧st1.hp.nx=st.hp.nx∧∀ x∈args',x.okv V st.hp.nx:=by
 unfold fzAppS at hs
 split at hs
 ·rename_i t _ s x
  split at hs
  ·rename_i hfa
   split at hs
   ·rename_i b off len
    split at hs
    ·rename_i hl1
     subst hl1
     unfold fzRowS at hs
     split at hs
     ·rename_i k rows hb
      obtain ⟨c1,c2⟩:=S.hg.cells hb
      split at hs
      ·rename_i r hr
       split at hs
       ·rename_i r' st2 h2
        split at hs
        ·rename_i hm
         split at hs
         ·rename_i k2 rows2 hb2
          simp only [Option.some.injEq,Prod.mk.injEq] at hs
          obtain ⟨rfl,rfl⟩:=hs
          have hrm:r∈rows:=by rw [nth_eq] at hr; exact List.mem_of_getElem? hr
          obtain ⟨k1,e1,S1,n1,o1⟩:=fzCellsS_den S (c2 r hrm) h2
          obtain ⟨d1,d2⟩:=S1.hg.cells hb2
          have hm':mxs (r'.map (AV.den V σ))=0:=map_mx0 o1 hm
          refine ⟨_,?_,S1.kill hb2 rfl,by rw [← n1]; exact set_nx _ _ _,fun x hx=>?_⟩
          ·simp only [List.map_cons,List.map_nil,AV.den,fzApp,hfa,if_true,c1,nth_mapW,hr,Option.map_some,e1,hm',d1,AV.denss_map]
          ·cases hx with
           | head=>exact ha _ (.head _)
           | tail _ hx =>
             cases hx with
             | head =>
               simp only [AV.okv,okvss_iff]
               intro q hq y hy
               simp only [List.mem_singleton] at hq
               subst hq
               exact o1 y hy
             | tail _ hx=>cases hx
         ·cases hs
        ·cases hs
       ·cases hs
      ·cases hs
     ·cases hs
    ·cases hs
   ·split at hs
    ·rename_i hm
     simp only [Option.some.injEq,Prod.mk.injEq] at hs
     obtain ⟨rfl,rfl⟩:=hs
     refine ⟨h,?_,S,rfl,ha⟩
     have hz:=den_mx0 (σ:=σ) (ha x (.tail _ (.head _))) hm
     simp only [List.map_cons,List.map_nil]
     generalize AV.den V σ x=v at hz
     cases v<;>first | (simp [AV.mx] at hz; done) | rfl
    ·cases hs
  ·rename_i hfa
   simp only [Option.some.injEq,Prod.mk.injEq] at hs
   obtain ⟨rfl,rfl⟩:=hs
   refine ⟨h,?_,S,rfl,ha⟩
   simp only [List.map_cons,List.map_nil]
   unfold fzApp
   split
   ·rename_i e1 e2
    injection e1 with e1; subst e1
    rw [if_neg hfa]
   ·rfl
 ·rename_i hne
  simp only [Option.some.injEq,Prod.mk.injEq] at hs
  obtain ⟨rfl,rfl⟩:=hs
  refine ⟨h,?_,S,rfl,ha⟩
  unfold fzApp
  split
  ·rename_i t ts' s b off e1
   exfalso
   cases args with
   | nil=>cases e1
   | cons a l=>cases l with
     | nil=>simp at e1
     | cons a2 l2=>cases l2 with
       | nil=>exact hne _ _ _ _ rfl rfl
       | cons _ _=>simp at e1
  ·rfl
theorem builtinS_den (hV:IsV Ω V) (S:Sim V σ Ls st h) {base:Nat} (hB:∀ L∈Ls,L.1≤base) {b:Builtin} {ts:List TypeId} {args:List AV} (ha:∀ x∈args,x.okv V st.hp.nx) {v:AV} (hs:(builtinS T base st b ts args).sel V=some (v,st1)) :
  ∃ h1 σ1,builtinA T h b ts (args.map (AV.den V σ))=some (v.den V σ1,h1)∧Res V σ σ1 Ls st st1 v h1:=by
 unfold builtinS at hs
 split at hs
 ·split at hs
  ·rename_i args' st2 hf
   obtain ⟨h2,e2,S2,n2,o2⟩:=fzAppS_den S ha hf
   have o2':∀ x∈args',x.okv V st2.hp.nx:=fun x hx=>by rw [n2]; exact o2 x hx
   have fin:∀ {h1:Hp} {σ1:Nat→Nat},appendA T h2 ts (args'.map (AV.den V σ))=some (v.den V σ1,h1)→Res V σ σ1 Ls st2 st1 v h1 →
     ∃ h1 σ1,builtinA T h .append ts (args.map (AV.den V σ))=some (v.den V σ1,h1)∧Res V σ σ1 Ls st st1 v h1:=fun {h1 σ1} e r =>
    ⟨h1,σ1,by simp only [builtinA,e2]; exact e,⟨r.sim,r.ok,by rw [← n2]; exact r.agr,by rw [← n2]; exact r.le⟩⟩
   split at hs
   ·rename_i u H1 hu
    split at hs
    ·rename_i hso
     injection hs with hs; obtain ⟨rfl,rfl⟩:=Prod.mk.inj hs
     obtain ⟨h1,σ1,e,r⟩:=appendA_den S2 hB o2' (fun c o l x hx=>by subst hx; simpa [appOk] using hso) hu
     exact fin e r
    ·cases hs
   ·obtain ⟨h1,σ1,e,r⟩:=appendS_den hV S2 hB o2' hs
    exact fin e r
  ·cases hs
 rename_i hna
 split at hs
 ·rename_i u H1 hu
  split at hs
  ·rename_i hso
   injection hs with hs; obtain ⟨rfl,rfl⟩:=Prod.mk.inj hs
   refine builtinA_den S ha (fun hb=>hna (by subst hb; rfl)) (fun hb=>?_) hu
   subst hb
   simp [appOk] at hso
  ·cases hs
 ·rename_i hnone
  clear hnone
  split at hs
  ·rename_i x
   split at hs
   ·rename_i t ts
    have:=lenS_den hV S (ha x (.head _)) hs
    refine ⟨h,σ,?_,this.sim,by rw [this.hp]; exact this.ok,Agr.refl _ _,by rw [this.hp]; exact Nat.le_refl _⟩
    simp only [List.map_cons,List.map_nil,builtinA,this.eq,Option.map_some]
   ·cases hs
  ·rename_i x l
   unfold ofO at hs
   split at hs
   ·rename_i u hu
    injection hs with hs; obtain ⟨rfl,rfl⟩:=Prod.mk.inj hs
    obtain ⟨m1,m2⟩:=mm_den (σ:=σ) (f:=max2A) hV (fun k x y=>by simp [max2A,intOpA,getJ,AV.bB]) (ha x (.head _)) (fun y hy=>ha y (.tail _ hy)) hu
    exact ⟨h,σ,by simp only [List.map_cons,builtinA,m1,Option.map_some],Res.quiet S m2⟩
   ·cases hs
  ·rename_i x l
   unfold ofO at hs
   split at hs
   ·rename_i u hu
    injection hs with hs; obtain ⟨rfl,rfl⟩:=Prod.mk.inj hs
    obtain ⟨m1,m2⟩:=mm_den (σ:=σ) (f:=min2A) hV (fun k x y=>by simp [min2A,intOpA,getJ,AV.bB]) (ha x (.head _)) (fun y hy=>ha y (.tail _ hy)) hu
    exact ⟨h,σ,by simp only [List.map_cons,builtinA,m1,Option.map_some],Res.quiet S m2⟩
   ·cases hs
  ·cases hs
end
section
variable {Ω:Om} {V:X→AV} {σ:Nat→Nat} {Ls:List (Nat × Nat)} {st st1:SSt} {h:Hp} {T:Tab} {n:Nat}
def SlD (V:X→AV) (σ:Nat→Nat) (n:Nat) (a a':AV):Prop:=a = .junk∨(a.okv V n∧a'=a.den V σ)
inductive FrS (V:X→AV) (σ:Nat→Nat) (n:Nat):List AV→List AV→Prop
 | nil:FrS V σ n [] []
 | cons (a a':AV) (l l':List AV) (h:SlD V σ n a a') (t:FrS V σ n l l'):FrS V σ n (a::l) (a'::l')
inductive LocS (V:X→AV) (σ:Nat→Nat) (n:Nat):List (Nat × AV)→List (Nat × AV)→Prop
 | nil:LocS V σ n [] []
 | cons (t:Nat) (a a':AV) (l l':List (Nat × AV)) (h:SlD V σ n a a') (ts:LocS V σ n l l'):LocS V σ n ((t,a)::l) ((t,a')::l')
theorem SlD.mono {m:Nat} {σ':Nat→Nat} {a a':AV} (h:SlD V σ n a a') (ha:Agr n σ σ') (hn:n≤m):SlD V σ' m a a' :=
 h.imp id fun ⟨h1,h2⟩=>⟨h1.mono hn,h2.trans (den_agr ha h1).symm⟩
theorem FrS.mono {m:Nat} {σ':Nat→Nat} (ha:Agr n σ σ') (hn:n≤m):∀ {l l':List AV},FrS V σ n l l'→FrS V σ' m l l'
 | _,_,.nil=>.nil
 | _,_,.cons a a' l l' h t=>.cons a a' l l' (h.mono ha hn) (t.mono ha hn)
theorem LocS.mono {m:Nat} {σ':Nat→Nat} (ha:Agr n σ σ') (hn:n≤m):∀ {l l':List (Nat × AV)},LocS V σ n l l'→LocS V σ' m l l'
 | _,_,.nil=>.nil
 | _,_,.cons t a a' l l' h ts=>.cons t a a' l l' (h.mono ha hn) (ts.mono ha hn)
theorem FrS.get {l l':List AV} (h:FrS V σ n l l') {i:Nat} {a:AV} (ha:nth l i=some a):∃ a',nth l' i=some a'∧SlD V σ n a a':=by
 induction h generalizing i with
 | nil=>cases ha
 | cons b b' l l' hb ht ih =>
   cases i with
   | zero=>injection ha with ha; subst ha; exact ⟨b',rfl,hb⟩
   | succ i=>exact ih ha
theorem FrS.put {l l':List AV} (h:FrS V σ n l l') {i:Nat} {a a':AV} (ha:SlD V σ n a a'):FrS V σ n (put l i a) (put l' i a'):=by
 induction h generalizing i with
 | nil=>exact .nil
 | cons b b' l l' hb ht ih =>
   cases i with
   | zero=>exact .cons _ _ _ _ ha ht
   | succ i=>exact .cons _ _ _ _ hb ih
theorem LocS.get {l l':List (Nat × AV)} (h:LocS V σ n l l') {i:Nat} {a:AV} (ha:lookL l i=some a):∃ a',lookL l' i=some a'∧SlD V σ n a a':=by
 induction h with
 | nil=>cases ha
 | cons t b b' l l' hb ht ih =>
   simp only [lookL] at ha ⊢
   split at ha
   ·rename_i e; injection ha with ha; subst ha; rw [if_pos e]; exact ⟨b',rfl,hb⟩
   ·rename_i e; rw [if_neg e]; exact ih ha
structure SlS (V:X→AV) (σ:Nat→Nat) (n:Nat) (s s':Sl):Prop where
 fr:FrS V σ n s.fr s'.fr
 loc:LocS V σ n s.loc s'.loc
theorem SlS.mono {m:Nat} {σ':Nat→Nat} (ha:Agr n σ σ') (hn:n≤m) {s s':Sl} (h:SlS V σ n s s'):SlS V σ' m s s':=⟨h.fr.mono ha hn,h.loc.mono ha hn⟩
theorem slotA_den {M:Nat} {s s':Sl} (h:SlS V σ n s s') {t:Nat} {a:AV} (ha:slotA M s.fr s.loc t=some a):∃ a',slotA M s'.fr s'.loc t=some a'∧SlD V σ n a a':=by
 unfold slotA at ha ⊢
 split at ha
 ·rename_i e; rw [if_pos e]; exact h.loc.get ha
 ·rename_i e; rw [if_neg e]; exact h.fr.get ha
theorem evS_den {M:Nat} {s s':Sl} (h:SlS V σ n s s'):EvD V σ n (evS M s.fr s.loc) (evalA M s'.fr s'.loc):=by
 intro o v hv
 unfold evS at hv
 cases o with
 | tmp t =>
   simp only [evalA] at hv ⊢
   split at hv
   ·cases hv
   ·rename_i hj
    obtain ⟨a',h1,h2⟩:=slotA_den h hv
    rcases h2 with rfl | ⟨h2,rfl⟩
    ·exact absurd hv (by intro e; exact hj e)
    ·exact ⟨h1,h2⟩
 | const c =>
   simp only [evalA] at hv ⊢
   split at hv
   ·cases hv
   ·obtain ⟨h1,h2⟩:=den_ofZero (V:=V) (σ:=σ) (n:=n) hv
    rw [h1]; exact ⟨hv,h2⟩
 | global g=>simp only [evalA] at hv; cases hv
 | func f =>
   simp only [evalA] at hv ⊢
   injection hv with hv; subst hv
   exact ⟨rfl,trivial,trivial⟩
theorem putA_den {M:Nat} {s s':Sl} (h:SlS V σ n s s') {d:Option Tmp} {a a':AV} (ha:SlD V σ n a a'):SlS V σ n (putA M s d a) (putA M s' d a'):=by
 unfold putA
 split
 ·split
  ·exact ⟨h.fr,.cons _ _ _ _ _ ha h.loc⟩
  ·exact ⟨h.fr.put ha,h.loc⟩
 ·exact h
theorem SlD.val {a:AV} (h:a.okv V n):SlD V σ n a (a.den V σ):=.inr ⟨h,rfl⟩
theorem SlD.undef:SlD V σ n undefA undefA:=.inr ⟨(okvs_iff _).2 (fun _ h=>by cases h),rfl⟩
def fnD (σ:Nat→Nat):Fn→Fn
 | .yield l=>.yield (σ l)
 | f=>f
def InvR (V:X→AV) (inv:InvS) (invA:Inv):Prop :=
 ∀ {σ:Nat→Nat} {Ls:List (Nat × Nat)} {st:SSt} {h:Hp} {f:Fn} {args:List AV} {v:AV} {st1:SSt} {a cap:List AV},Ls ≠ []→Sim V σ Ls st h→(∀ x∈args,x.okv V st.hp.nx)→a++cap=args.map (AV.den V σ)→(∀ l,f = .yield l→cap=[])→(inv f args st).sel V=some (v,st1) →
   ∃ h1 σ1,invA (fnD σ f) a cap h = .ok (v.den V σ1,h1)∧Res V σ σ1 Ls st st1 v h1
variable {inv:InvS} {invA:Inv} {cx:Cx} {base M:Nat}
theorem callS_den (hV:IsV Ω V) (hne:Ls ≠ []) (hi:InvR V inv invA) (S:Sim V σ Ls st h) {ev ev':Ev} (he:EvD V σ st.hp.nx ev ev') (hB:∀ L∈Ls,L.1≤base) {c:Call} {v:AV} (hs:(callS cx inv base ev st c).sel V=some (v,st1)) :
  ∃ h1 σ1,callA cx.T invA ev' h c = .ok (v.den V σ1,h1)∧Res V σ σ1 Ls st st1 v h1:=by
 unfold callS at hs
 split at hs
 ·cases hs
 ·rename_i args ha
  obtain ⟨a1,a2⟩:=evals_den he ha
  unfold callA
  rw [a1]
  split at hs
  ·rename_i f hf
   split at hs
   ·rename_i g first captured hg
    obtain ⟨g1,g2⟩:=he f _ hg
    simp only [hf,g1,AV.den,AV.dens_map]
    simp only [AV.okv,okvs_iff] at g2
    refine hi (f:=.func g) hne S ?_ ?_ (fun _ h=>by cases h) hs
    ·intro x hx
     rcases List.mem_append.1 hx with hx | hx
     ·rcases List.mem_append.1 hx with hx | hx
      ·exact g2.1 x hx
      ·exact a2 x hx
     ·exact g2.2 x hx
    ·simp
   ·rename_i l hg
    obtain ⟨g1,g2⟩:=he f _ hg
    simp only [hf,g1,AV.den]
    exact hi (f:=.yield l) hne S a2 (by simp) (fun _ _=>rfl) hs
   ·cases hs
  ·rename_i b hb
   obtain ⟨h1,σ1,e,r⟩:=builtinS_den hV S hB a2 hs
   refine ⟨h1,σ1,?_,r⟩
   simp only [hb,e,Nd.opt]
  ·cases hs
theorem doOpS_den (hV:IsV Ω V) (hne:Ls ≠ []) (hi:InvR V inv invA) (S:Sim V σ Ls st h) {ev ev':Ev} (he:EvD V σ st.hp.nx ev ev') (hB:∀ L∈Ls,L.1≤base) {op:Op} {v:AV} (hs:(doOpS cx inv base ev st op).sel V=some (v,st1)) :
  ∃ h1 σ1,doOp cx.T invA ev' h op = .ok (v.den V σ1,h1)∧Res V σ σ1 Ls st st1 v h1:=by
 have go:∀ {op:Op},(opS cx.T base ev st op).sel V=some (v,st1)→∃ h1 σ1,Nd.opt (opA cx.T ev' h op) = .ok (v.den V σ1,h1)∧Res V σ σ1 Ls st st1 v h1:=by
  intro op hs
  obtain ⟨h1,σ1,e,r⟩:=opS_den hV S he hB hs
  exact ⟨h1,σ1,by rw [e]; rfl,r⟩
 cases op with
 | call c=>exact callS_den hV hne hi S he hB hs
 | _=>first
   | exact go (op:=.ready _) hs
   | exact go hs
   | (unfold doOp; exact go hs)
theorem wanted_den (hV:IsV Ω V) (S:Sim V σ Ls st h) {ops:Array Oper} {o:Oper} {s s':Sl} (hs:SlS V σ st.hp.nx s s') :
  (wantedS M ops o s st = .yes→wantedA M ops o s'=some true)∧(wantedS M ops o s st = .no→wantedA M ops o s'=some false) ∧
  (∀ e w,wantedS M ops o s st = .ask e w→wantedA M ops o s'=some ((V e).bB == w)):=by
 unfold wantedS wantedA
 cases hg:o.guard with
 | none=>exact ⟨fun _=>rfl,fun h=>by simp at h,fun _ _ h=>by simp at h⟩
 | some jw =>
   obtain ⟨j,w⟩:=jw
   simp only
   cases hd:(ops[j]?).bind (·.dst) with
   | none=>exact ⟨fun h=>by simp at h,fun h=>by simp at h,fun _ _ h=>by simp at h⟩
   | some d =>
     simp only
     cases hsl:slotA M s.fr s.loc d with
     | none=>exact ⟨fun h=>by simp at h,fun h=>by simp at h,fun _ _ h=>by simp at h⟩
     | some a =>
       obtain ⟨a',h1,h2⟩:=slotA_den hs hsl
       rw [h1]
       rcases h2 with rfl | ⟨h2,rfl⟩
       ·exact ⟨fun h=>by simp at h,fun h=>by simp at h,fun _ _ h=>by simp at h⟩
       cases a with
       | bool b =>
         simp only [AV.den]
         refine ⟨fun h=>?_,fun h=>?_,fun _ _ h=>?_⟩
         ·split at h
          ·rename_i e; rw [e]
          ·cases h
         ·split at h
          ·cases h
          ·rename_i e; simpa using e
         ·split at h<;>cases h
       | tuple vs =>
         cases vs with
         | nil=>exact ⟨fun h=>by simp at h,fun _=>rfl,fun _ _ h=>by simp at h⟩
         | cons x xs=>exact ⟨fun h=>by simp at h,fun h=>by simp at h,fun _ _ h=>by simp at h⟩
       | sym s e =>
         cases s with
         | bool =>
           have hb:=ok_bool h2
           have hd:(AV.sym .bool e).den V σ = .bool (V e).bB:=hb
           rw [hd]
           simp only
           cases hf:factOf st.fx e with
           | some b =>
             have hfv:=factOf_ok S.fx hf
             simp only
             refine ⟨fun h=>?_,fun h=>?_,fun _ _ h=>?_⟩
             ·split at h
              ·rename_i e; rw [hfv,e]
              ·cases h
             ·split at h
              ·cases h
              ·rename_i e; rw [hfv]; simpa using e
             ·split at h<;>cases h
           | none =>
             simp only
             refine ⟨fun h=>by simp at h,fun h=>by simp at h,fun e' w' h=>?_⟩
             injection h with h1 h2; subst h1; subst h2; rfl
         | _=>exact ⟨fun h=>by simp at h,fun h=>by simp at h,fun _ _ h=>by simp at h⟩
       | _=>exact ⟨fun h=>by simp at h,fun h=>by simp at h,fun _ _ h=>by simp at h⟩
structure Aft (V:X→AV) (σ σ1:Nat→Nat) (Ls:List (Nat × Nat)) (st st1:SSt) (h1:Hp):Prop where
 sim:Sim V σ1 Ls st1 h1
 agr:Agr st.hp.nx σ σ1
 le:st.hp.nx≤st1.hp.nx
theorem Res.aft {σ1:Nat→Nat} {v:AV} {h1:Hp} (r:Res V σ σ1 Ls st st1 v h1):Aft V σ σ1 Ls st st1 h1:=⟨r.sim,r.agr,r.le⟩
theorem Aft.refl (S:Sim V σ Ls st h):Aft V σ σ Ls st st h:=⟨S,Agr.refl _ _,Nat.le_refl _⟩
theorem Aft.trans {σ1 σ2:Nat→Nat} {st2:SSt} {h1 h2:Hp} (a:Aft V σ σ1 Ls st st1 h1) (b:Aft V σ1 σ2 Ls st1 st2 h2):Aft V σ σ2 Ls st st2 h2 :=
 ⟨b.sim,a.agr.trans b.agr a.le,Nat.le_trans a.le b.le⟩
theorem runOpsS_den (hV:IsV Ω V) (hne:Ls ≠ []) (hi:InvR V inv invA) (hB:∀ L∈Ls,L.1≤base) {ops:Array Oper}:∀ {os:List Oper} {σ:Nat→Nat} {s s' s1:Sl} {st st1:SSt} {h:Hp},Sim V σ Ls st h→SlS V σ st.hp.nx s s' →
  (runOpsS cx inv base M ops os s st).sel V=some (s1,st1)→∃ s1' h1 σ1,runOps cx.T invA M ops os s' h = .ok (s1',h1)∧SlS V σ1 st1.hp.nx s1 s1'∧Aft V σ σ1 Ls st st1 h1
 | [],σ,s,s',s1,st,st1,h,S,hs,hr=>by
   injection hr with hr; obtain ⟨rfl,rfl⟩:=Prod.mk.inj hr
   exact ⟨s',h,σ,rfl,hs,Aft.refl S⟩
 | o::os,σ,s,s',s1,st,st1,h,S,hs,hr=>by
   have yes:∀ {st':SSt},Sim V σ Ls st' h→st'.hp=st.hp→wantedA M ops o s'=some true →
     ((doOpS cx inv base (evS M s.fr s.loc) st' o.op).bind fun r=>runOpsS cx inv base M ops os (putA M s o.dst r.1) r.2).sel V=some (s1,st1)→∃ s1' h1 σ1,runOps cx.T invA M ops (o::os) s' h = .ok (s1',h1)∧SlS V σ1 st1.hp.nx s1 s1'∧Aft V σ σ1 Ls st st1 h1:=by
    intro st' S' e1 hw hr
    rw [sel_bind] at hr
    obtain ⟨⟨v,st2⟩,h1,h2⟩:=hr
    have hs':SlS V σ st'.hp.nx s s':=by rw [e1]; exact hs
    obtain ⟨h3,σ3,e3,r3⟩:=doOpS_den hV hne hi S' (evS_den hs') hB h1
    obtain ⟨s4,h4,σ4,e4,sl4,a4⟩:=runOpsS_den hV hne hi hB r3.sim (putA_den (hs'.mono r3.agr r3.le) (SlD.val r3.ok)) h2
    refine ⟨s4,h4,σ4,?_,sl4,?_⟩
    ·simp only [runOps,stepOp,hw,e3,Nd.bind]
     exact e4
    ·have:=r3.aft.trans a4
     exact ⟨this.sim,by rw [← e1]; exact this.agr,by rw [← e1]; exact this.le⟩
   have no:∀ {st':SSt},Sim V σ Ls st' h→st'.hp=st.hp→wantedA M ops o s'=some false →
     (runOpsS cx inv base M ops os (putA M s o.dst undefA) st').sel V=some (s1,st1)→∃ s1' h1 σ1,runOps cx.T invA M ops (o::os) s' h = .ok (s1',h1)∧SlS V σ1 st1.hp.nx s1 s1'∧Aft V σ σ1 Ls st st1 h1:=by
    intro st' S' e1 hw hr
    have hs':SlS V σ st'.hp.nx s s':=by rw [e1]; exact hs
    obtain ⟨s4,h4,σ4,e4,sl4,a4⟩:=runOpsS_den hV hne hi hB S' (putA_den hs' SlD.undef) hr
    refine ⟨s4,h4,σ4,?_,sl4,a4.sim,by rw [← e1]; exact a4.agr,by rw [← e1]; exact a4.le⟩
    simp only [runOps,stepOp,hw,Nd.bind]
    exact e4
   obtain ⟨w1,w2,w3⟩:=wanted_den (M:=M) hV S (ops:=ops) (o:=o) hs
   simp only [runOpsS] at hr
   split at hr
   ·rename_i hw; exact yes S rfl (w1 hw) hr
   ·rename_i hw; exact no S rfl (w2 hw) hr
   ·rename_i e w hw
    have hwa:=w3 e w hw
    split at hr
    ·rename_i hwt
     subst hwt
     rw [sel_ite] at hr
     rcases hr with ⟨hb,hr⟩ | ⟨hb,hr⟩
     ·exact yes (S.fact hb) rfl (by rw [hwa,hb]; rfl) hr
     ·exact no (S.fact hb) rfl (by rw [hwa,hb]; rfl) hr
    ·rename_i hwf
     have hwf:w=false:=by simpa using hwf
     subst hwf
     rw [sel_ite] at hr
     rcases hr with ⟨hb,hr⟩ | ⟨hb,hr⟩
     ·exact no (S.fact hb) rfl (by rw [hwa,hb]; rfl) hr
     ·exact yes (S.fact hb) rfl (by rw [hwa,hb]; rfl) hr
   ·cases hr
end
section
variable {Ω:Om} {V:X→AV} {σ:Nat→Nat} {Ls:List (Nat × Nat)} {st st1:SSt} {h:Hp} {T:Tab} {n:Nat}
theorem lin_sel {α:Type}:∀ {t:Te α} {ps:List X} {a r:α},t.lin=some (ps,a)→(t.sel V=some r↔(∀ p∈ps,(V p).bB=true)∧a=r)
 | .ok b,ps,a,r,h=>by
   injection h with h; obtain ⟨rfl,rfl⟩:=Prod.mk.inj h
   simp [Te.sel]
 | .need p t,ps,a,r,h=>by
   simp only [Te.lin] at h
   split at h
   ·rename_i qs b hb
    injection h with h; obtain ⟨rfl,rfl⟩:=Prod.mk.inj h
    rw [sel_need,lin_sel hb]
    simp [and_assoc]
   ·cases h
 | .fail w,_,_,_,h=>by cases h
 | .ite _ _ _,_,_,_,h=>by cases h
theorem needs_sel {α:Type} {t:Te α} {r:α}:∀ {ps:List X},(needsT ps t).sel V=some r↔(∀ p∈ps,(V p).bB=true)∧t.sel V=some r
 | []=>by simp [needsT]
 | p::ps=>by simp only [needsT,sel_need,needs_sel (ps:=ps)]; simp [and_assoc]
theorem join_sel (hV:IsV Ω V) {α:Type} {mg:X→α→α→Option α} {Le:α→α→Prop} (hr:∀ a,Le a a) (hm:∀ c a b m,mg c a b=some m→((V c).bB=true→Le a m)∧((V c).bB=false→Le b m))
  {c:X} {a b:Te α} {m:α} (hs:(Te.join mg c a b).sel V=some m):∃ x,(Te.ite c a b).sel V=some x∧Le x m:=by
 unfold Te.join at hs
 split at hs
 ·rename_i ps x qs y h1 h2
  split at hs
  ·rename_i z hz
   rw [needs_sel] at hs
   obtain ⟨hp,hs⟩:=hs
   rw [needs_sel] at hs
   obtain ⟨hq,hs⟩:=hs
   injection hs with hs; subst hs
   obtain ⟨m1,m2⟩:=hm c x y _ hz
   cases hc:(V c).bB with
   | true =>
     refine ⟨x,sel_ite.2 (.inl ⟨hc,(lin_sel h1).2 ⟨fun p hp'=>?_,rfl⟩⟩),m1 hc⟩
     have:=hp _ (List.mem_map.2 ⟨p,hp',rfl⟩)
     rw [V_ite hV,hc] at this; exact this
   | false =>
     refine ⟨y,sel_ite.2 (.inr ⟨hc,(lin_sel h2).2 ⟨fun q hq'=>?_,rfl⟩⟩),m2 hc⟩
     have:=hq _ (List.mem_map.2 ⟨q,hq',rfl⟩)
     rw [V_ite hV,hc] at this; exact this
  ·exact ⟨m,hs,hr m⟩
 ·exact ⟨m,hs,hr m⟩
theorem fold_sel (hV:IsV Ω V) {α:Type} {mg:X→α→α→Option α} {Le:α→α→Prop} (hr:∀ a,Le a a) (ht:∀ a b c,Le a b→Le b c→Le a c) (hm:∀ c a b m,mg c a b=some m→((V c).bB=true→Le a m)∧((V c).bB=false→Le b m)) :
  ∀ {t:Te α} {m:α},(t.fold mg).sel V=some m→∃ x,t.sel V=some x∧Le x m
 | .ok a,m,h=>⟨m,h,hr m⟩
 | .fail w,m,h=>⟨m,h,hr m⟩
 | .need p t,m,h=>by
   simp only [Te.fold,sel_need] at h
   obtain ⟨x,h1,h2⟩:=fold_sel hV hr ht hm h.2
   exact ⟨x,sel_need.2 ⟨h.1,h1⟩,h2⟩
 | .ite c a b,m,h=>by
   simp only [Te.fold] at h
   obtain ⟨x,h1,h2⟩:=join_sel hV hr hm h
   rw [sel_ite] at h1
   rcases h1 with ⟨hc,h1⟩ | ⟨hc,h1⟩
   ·obtain ⟨y,h3,h4⟩:=fold_sel hV hr ht hm h1
    exact ⟨y,sel_ite.2 (.inl ⟨hc,h3⟩),ht _ _ _ h4 h2⟩
   ·obtain ⟨y,h3,h4⟩:=fold_sel hV hr ht hm h1
    exact ⟨y,sel_ite.2 (.inr ⟨hc,h3⟩),ht _ _ _ h4 h2⟩
def LeSt (V:X→AV) (a m:SSt):Prop:=(∀ {σ:Nat→Nat} {Ls:List (Nat × Nat)} {h:Hp},Sim V σ Ls a h→Sim V σ Ls m h)∧a.hp.nx≤m.hp.nx
def LeFr (V:X→AV) (n m:Nat) (a b:List AV):Prop:=∀ {σ:Nat→Nat} {l:List AV},FrS V σ n a l→FrS V σ m b l
theorem asX_junk (s:Sh):asX s .junk=none:=by cases s<;>rfl
theorem mergeX_junk {c:X} {a b:AV} (h:a = .junk∨b = .junk):mergeX c a b=none:=by
 unfold mergeX
 split
 ·rename_i s hs
  rcases h with rfl | rfl
  ·rw [asX_junk]
  ·rw [asX_junk]; cases asX s a<;>rfl
 ·rfl
theorem mergeV_junk {c:X} {a b v:AV} (h:a = .junk∨b = .junk) (hv:mergeV c a b=some v):v = .junk:=by
 have e:mergeV c a b=if a.eqb b then some a else mergeX c a b:=by
  rcases h with rfl | rfl
  ·simp only [mergeV]
  ·cases a<;>simp only [mergeV]
 rw [e,mergeX_junk h] at hv
 split at hv
 ·rename_i he
  have:=AV.eqb_eq _ _ he; subst this
  injection hv with hv; subst hv
  exact h.elim id id
 ·cases hv
theorem mergeFr_le (hV:IsV Ω V) {c:X} {m:Nat} (hn:n≤m):∀ {a b r:List AV},mergeFr c a b=some r→((V c).bB=true→LeFr V n m a r)∧((V c).bB=false→LeFr V n m b r)
 | [],[],r,h=>by injection h with h; subst h; exact ⟨fun _ _ _ h=>by cases h; exact .nil,fun _ _ _ h=>by cases h; exact .nil⟩
 | [],_::_,_,h=>by cases h
 | _::_,[],_,h=>by cases h
 | a::as,b::bs,r,h=>by
   simp only [mergeFr] at h
   split at h
   ·rename_i vs hvs
    obtain ⟨r1,r2⟩:=mergeFr_le hV hn hvs
    split at h
    ·rename_i v hv
     injection h with h; subst h
     constructor
     ·intro hc σ l hl
      cases hl with
      | cons _ a' _ l' h1 h2 =>
        refine .cons _ _ _ _ ?_ (r1 hc h2)
        rcases h1 with rfl | ⟨h1,rfl⟩
        ·exact .inl (mergeV_junk (.inl rfl) hv)
        ·obtain ⟨m1,m2⟩:=mergeV_den (σ:=σ) (n:=m) hV hc a b v (fun _=>h1.mono hn) (fun e=>by cases e) hv
         exact .inr ⟨m2,by rw [m1]; rfl⟩
     ·intro hc σ l hl
      cases hl with
      | cons _ a' _ l' h1 h2 =>
        refine .cons _ _ _ _ ?_ (r2 hc h2)
        rcases h1 with rfl | ⟨h1,rfl⟩
        ·exact .inl (mergeV_junk (.inr rfl) hv)
        ·obtain ⟨m1,m2⟩:=mergeV_den (σ:=σ) (n:=m) hV hc a b v (fun e=>by cases e) (fun _=>h1.mono hn) hv
         exact .inr ⟨m2,by rw [m1]; rfl⟩
    ·split at h
     ·injection h with h; subst h
      constructor
      ·intro hc σ l hl
       cases hl with
       | cons _ a' _ l' h1 h2=>exact .cons _ _ _ _ (.inl rfl) (r1 hc h2)
      ·intro hc σ l hl
       cases hl with
       | cons _ a' _ l' h1 h2=>exact .cons _ _ _ _ (.inl rfl) (r2 hc h2)
     ·cases h
   ·cases h
theorem mergeVss_den (hV:IsV Ω V) {c:X}:∀ {a b v:List (List AV)},mergeVss c a b=some v→((V c).bB=true→(∀ r∈a,∀ x∈r,x.okv V n)→(v.map fun r=>r.map (AV.den V σ))=(a.map fun r=>r.map (AV.den V σ))∧∀ r∈v,∀ x∈r,x.okv V n) ∧
  ((V c).bB=false→(∀ r∈b,∀ x∈r,x.okv V n)→(v.map fun r=>r.map (AV.den V σ))=(b.map fun r=>r.map (AV.den V σ))∧∀ r∈v,∀ x∈r,x.okv V n)
 | [],[],v,h=>by injection h with h; subst h; exact ⟨fun _ _=>⟨rfl,fun _ h=>by cases h⟩,fun _ _=>⟨rfl,fun _ h=>by cases h⟩⟩
 | [],_::_,_,h=>by cases h
 | _::_,[],_,h=>by cases h
 | a::as,b::bs,v,h=>by
   simp only [mergeVss] at h
   split at h
   ·rename_i u us h1 h2
    injection h with h; subst h
    obtain ⟨r1,r2⟩:=mergeVss_den hV h2
    constructor
    ·intro hc ha
     obtain ⟨m1,m2⟩:=mergeVs_den (σ:=σ) (n:=n) hV hc a b u (fun _=>(okvs_iff _).2 (ha a (.head _))) (fun e=>by cases e) h1
     obtain ⟨s1,s2⟩:=r1 hc fun r hr=>ha r (.tail _ hr)
     simp only [if_true,AV.dens_map] at m1
     refine ⟨by simp [m1,s1],fun r hr=>?_⟩
     cases hr with
     | head=>exact (okvs_iff _).1 m2
     | tail _ hr=>exact s2 r hr
    ·intro hc hb
     obtain ⟨m1,m2⟩:=mergeVs_den (σ:=σ) (n:=n) hV hc a b u (fun e=>by cases e) (fun _=>(okvs_iff _).2 (hb b (.head _))) h1
     obtain ⟨s1,s2⟩:=r2 hc fun r hr=>hb r (.tail _ hr)
     simp only [Bool.false_eq_true,if_false,AV.dens_map] at m1
     refine ⟨by simp [m1,s1],fun r hr=>?_⟩
     cases hr with
     | head=>exact (okvs_iff _).1 m2
     | tail _ hr=>exact s2 r hr
   ·cases h
theorem mergeB_den (hV:IsV Ω V) {c:X} {a b z:Blk} (h:mergeB c a b=some z) :
  ((V c).bB=true→a.okB V n→z.okB V n∧(z.liveS=true→z.denB V σ=a.denB V σ∧a.liveS=true)) ∧
  ((V c).bB=false→b.okB V n→z.okB V n∧(z.liveS=true→z.denB V σ=b.denB V σ∧b.liveS=true)):=by
 unfold mergeB at h
 split at h
 ·rename_i j as k bs
  split at h
  ·rename_i hk
   subst hk
   split at h
   ·rename_i r hr
    injection h with h; subst h
    obtain ⟨m1,m2⟩:=mergeVss_den (σ:=σ) (n:=n) hV hr
    exact ⟨fun hc ho=>⟨(m1 hc ho).2,fun _=>⟨by simp only [Blk.denB,(m1 hc ho).1],rfl⟩⟩,fun hc ho=>⟨(m2 hc ho).2,fun _=>⟨by simp only [Blk.denB,(m2 hc ho).1],rfl⟩⟩⟩
   ·cases h
  ·cases h
 ·rename_i as bs
  split at h
  ·rename_i he
   have:=AV.eqbes_eq _ _ he; subst this
   injection h with h; subst h
   exact ⟨fun _ ho=>⟨ho,fun _=>⟨rfl,rfl⟩⟩,fun _ ho=>⟨ho,fun _=>⟨rfl,rfl⟩⟩⟩
  ·cases h
 ·injection h with h; subst h; exact ⟨fun _ _=>⟨trivial,fun h=>by cases h⟩,fun _ _=>⟨trivial,fun h=>by cases h⟩⟩
 ·injection h with h; subst h; exact ⟨fun _ _=>⟨trivial,fun h=>by cases h⟩,fun _ _=>⟨trivial,fun h=>by cases h⟩⟩
 ·cases h
theorem mergeTop_mem {c:X} {nx0:Nat→Bool} {ga gb:Nat→Option Blk} {l':List (Nat × Blk)}:∀ {l r:List (Nat × Blk)},mergeTop c nx0 ga gb l' l=some r→∀ e∈r,e.1∈ids l∧e.1∈ids l'∧∃ x y,ga e.1=some x∧gb e.1=some y∧mergeB c x y=some e.2
 | [],r,h,e,he=>by injection h with h; subst h; cases he
 | (b,q)::l,r,h,e,he=>by
   simp only [mergeTop] at h
   split at h
   ·rename_i s hs
    have ih:=mergeTop_mem hs
    have up:e∈s→e.1∈ids ((b,q)::l)∧e.1∈ids l'∧∃ x y,ga e.1=some x∧gb e.1=some y∧mergeB c x y=some e.2:=fun hm=>by
     obtain ⟨i1,i2,i3⟩:=ih e hm
     exact ⟨List.mem_cons_of_mem _ i1,i2,i3⟩
    split at h
    ·rename_i w x y h1 h2 h3
     split at h
     ·rename_i z hz
      injection h with h; subst h
      cases he with
      | head=>exact ⟨List.mem_cons_self ..,List.mem_map.2 ⟨_,look_some_mem h1,rfl⟩,x,y,h2,h3,hz⟩
      | tail _ he=>exact up he
     ·split at h
      ·cases h
      ·injection h with h; subst h; exact up he
    ·injection h with h; subst h; exact up he
   ·cases h
theorem mergeRest_mem {c:X} {nx0:Nat→Bool} {ga gb:Nat→Option Blk}:∀ {l l' r:List (List (Nat × Blk))},mergeRest c nx0 ga gb l l'=some r →
  (∀ s∈r,∀ e∈s,∃ x y,ga e.1=some x∧gb e.1=some y∧mergeB c x y=some e.2)∧(r.map ids).length=(l.map ids).length∧r.length=l'.length ∧
   (∀ (i:Nat) (s t:List Nat),(r.map ids)[i]? = some s→(l.map ids)[i]? = some t→∀ e∈s,e∈t)∧(∀ (i:Nat) (s t:List Nat),(r.map ids)[i]? = some s→(l'.map ids)[i]? = some t→∀ e∈s,e∈t)
 | [],[],r,h=>by injection h with h; subst h; exact ⟨fun _ h=>(by cases h),rfl,rfl,fun i s t h=>by simp at h,fun i s t h=>by simp at h⟩
 | [],_::_,_,h=>by cases h
 | _::_,[],_,h=>by cases h
 | a::as,b::bs,r,h=>by
   simp only [mergeRest] at h
   split at h
   ·rename_i x xs h1 h2
    injection h with h; subst h
    obtain ⟨i1,i2,i3,i4,i5⟩:=mergeRest_mem h2
    have m:=mergeTop_mem h1
    refine ⟨fun s hs e he=>?_,by simpa using i2,by simpa using i3,fun i s t hs ht e he=>?_,fun i s t hs ht e he=>?_⟩
    ·cases hs with
     | head=>exact (m e he).2.2
     | tail _ hs=>exact i1 s hs e he
    ·cases i with
     | zero =>
       simp at hs ht; subst hs; subst ht
       obtain ⟨q,hq,rfl⟩:=List.mem_map.1 he
       exact (m q hq).1
     | succ i=>exact i4 i s t (by simpa using hs) (by simpa using ht) e he
    ·cases i with
     | zero =>
       simp at hs ht; subst hs; subst ht
       obtain ⟨q,hq,rfl⟩:=List.mem_map.1 he
       exact (m q hq).2.1
     | succ i=>exact i5 i s t (by simpa using hs) (by simpa using ht) e he
   ·cases h
theorem mergeS_den (hV:IsV Ω V) {c:X} {a b z:SB} (h:mergeS c a b=some z) :
  ((V c).bB=true→z.prom V=a.prom V∧(a.okS V→z.okS V))∧((V c).bB=false→z.prom V=b.prom V∧(b.okS V→z.okS V)):=by
 unfold mergeS at h
 split at h
 ·rename_i cs e cs' e'
  split at h
  ·rename_i hc
   have:=Sh.eqbs_eq hc; subst this
   injection h with h; subst h
   refine ⟨fun hc=>?_,fun hc=>?_⟩<;>simp only [SB.prom,SB.okS,V_xIte hV hc]<;>simp
  ·cases h
 ·rename_i k ag cs e k' ag' cs' e'
  split at h
  ·rename_i hc
   simp only [Bool.and_eq_true,beq_iff_eq] at hc
   have h1:=Sh.eqb_eq hc.1.1; subst h1
   have h2:=hc.1.2; subst h2
   have h3:=Sh.eqbs_eq hc.2; subst h3
   injection h with h; subst h
   refine ⟨fun hc=>?_,fun hc=>?_⟩<;>simp only [SB.prom,SB.okS,V_xIte hV hc]<;>simp
  ·cases h
 ·rename_i s p s' p'
  split at h
  ·rename_i hc
   have h1:=X.eqb_eq hc; subst h1
   injection h with h; subst h
   refine ⟨fun hc=>?_,fun hc=>?_⟩<;>simp only [SB.prom,SB.okS,V_xIte hV hc]<;>simp
  ·cases h
 ·cases h
theorem mergeSb_look {c:X} {nx0:Nat→Bool} {la lb:List (Nat × SB)}:∀ {l r:List (Nat × SB)},mergeSb c nx0 la lb l=some r→∀ t z,lookS r t=some z→∃ x y,lookS la t=some x∧lookS lb t=some y∧mergeS c x y=some z
 | [],r,h,t,z,hz=>by injection h with h; subst h; cases hz
 | (b,q)::l,r,h,t,z,hz=>by
   simp only [mergeSb] at h
   split at h
   ·rename_i s hs
    have ih:=mergeSb_look hs
    split at h
    ·rename_i x y h1 h2
     split at h
     ·rename_i w hw
      injection h with h; subst h
      simp only [lookS] at hz
      split at hz
      ·rename_i e; subst e; injection hz with hz; subst hz; exact ⟨x,y,h1,h2,hw⟩
      ·exact ih t z hz
     ·split at h
      ·cases h
      ·injection h with h; subst h; exact ih t z hz
    ·injection h with h; subst h; exact ih t z hz
   ·cases h
theorem SegS.sub:∀ {ls:List (Nat × Nat)} {s s':List (List Nat)},s'.length=s.length→(∀ (i:Nat) (x y:List Nat),s'[i]? = some x→s[i]? = some y→∀ e∈x,e∈y)→SegS ls s→SegS ls s'
 | [],_,_,_,_,_=>trivial
 | L::ls,[],_,_,_,h=>h.elim
 | L::ls,y::ys,[],hl,_,_=>by simp at hl
 | L::ls,y::ys,x::xs,hl,hs,⟨h1,h2,h3⟩=>by
   have hl':xs.length=ys.length:=by simpa using hl
   refine ⟨fun e he=>h1 e (hs 0 x y rfl rfl e he),fun q hq e he=>?_,SegS.sub hl' (fun i p q hp hq=>hs (i+1) p q (by simpa using hp) (by simpa using hq)) h3⟩
   obtain ⟨i,hi⟩:=List.getElem?_of_mem hq
   have hlt:i < ys.length:=by have:=(List.getElem?_eq_some_iff.1 hi).1; omega
   exact h2 _ (List.getElem_mem hlt) e (hs (i+1) q ys[i] (by simpa using hi) (by simp [List.getElem?_eq_getElem hlt]) e he)
theorem get_mem {H:Hp} {b:Nat} {B:Blk} (h:H.get b=some B):((b,B)∈H.top)∨(∃ s∈H.rest,(b,B)∈s):=by
 unfold Hp.get at h
 split at h
 ·rename_i x hx; injection h with h; subst h; exact .inl (look_some_mem hx)
 ·right
  have:∀ {r:List (List (Nat × Blk))},lookRest r b=some B→∃ s∈r,(b,B)∈s:=by
   intro r
   induction r with
   | nil=>intro h; cases h
   | cons s r ih =>
     intro h
     simp only [lookRest] at h
     split at h
     ·rename_i x hx; injection h with h; subst h; exact ⟨s,.head _,look_some_mem hx⟩
     ·obtain ⟨q,hq,hm⟩:=ih h; exact ⟨q,.tail _ hq,hm⟩
  exact this h
theorem lkMin_ok {B:Nat} {a b:Option Nat} (h:lkOk B (lkMin a b)=true):lkOk B a=true∧lkOk B b=true:=by
 cases a<;>cases b<;>simp [lkMin,lkOk] at h ⊢<;>omega
theorem commonFx_mem {l':List (X × Bool)}:∀ {l:List (X × Bool)} {e:X × Bool},e∈commonFx l' l→e∈l∧factOf l' e.1=some e.2
 | [],e,h=>by cases h
 | (x,b)::l,e,h=>by
   simp only [commonFx] at h
   split at h
   ·rename_i d hd
    split at h
    ·rename_i hb
     cases h with
     | head=>exact ⟨.head _,by rw [hd]; simp only [beq_iff_eq] at hb; rw [hb]⟩
     | tail _ h=>exact ⟨.tail _ (commonFx_mem h).1,(commonFx_mem h).2⟩
    ·exact ⟨.tail _ (commonFx_mem h).1,(commonFx_mem h).2⟩
   ·exact ⟨.tail _ (commonFx_mem h).1,(commonFx_mem h).2⟩
theorem mergeSt_le (hV:IsV Ω V) {c:X} {nx0:Nat→Bool} {a b m:SSt} (h:mergeSt c nx0 a b=some m):((V c).bB=true→LeSt V a m)∧((V c).bB=false→LeSt V b m):=by
 unfold mergeSt at h
 split at h
 ·rename_i t r s h1 h2 h3
  injection h with h; subst h
  have hT:=mergeTop_mem h1
  obtain ⟨hR,r1,r2,r3,r4⟩:=mergeRest_mem h2
  have hS:=mergeSb_look h3
  have hget:∀ q B,(Hp.mk (max a.hp.nx b.hp.nx) t r (lkMin a.hp.lk b.hp.lk)).get q=some B→∃ x y,a.hp.get q=some x∧b.hp.get q=some y∧mergeB c x y=some B:=by
   intro q B hq
   rcases get_mem hq with hm | ⟨s,hs,hm⟩
   ·exact (hT _ hm).2.2
   ·exact hR s hs _ hm
  have seg1:(Hp.mk (max a.hp.nx b.hp.nx) t r (lkMin a.hp.lk b.hp.lk)).segs.length=a.hp.segs.length:=by simp only [Hp.segs,List.length_cons,r1]
  have seg2:(Hp.mk (max a.hp.nx b.hp.nx) t r (lkMin a.hp.lk b.hp.lk)).segs.length=b.hp.segs.length:=by simp only [Hp.segs,List.length_cons,List.length_map,r2]
  have segA:∀ (i:Nat) (x y:List Nat),(Hp.mk (max a.hp.nx b.hp.nx) t r (lkMin a.hp.lk b.hp.lk)).segs[i]? = some x→a.hp.segs[i]? = some y→∀ e∈x,e∈y:=by
   intro i x y hx hy e he
   cases i with
   | zero =>
     simp [Hp.segs] at hx hy; subst hx; subst hy
     obtain ⟨q,hq,rfl⟩:=List.mem_map.1 he
     exact (hT q hq).1
   | succ i=>exact r3 i x y (by simpa [Hp.segs] using hx) (by simpa [Hp.segs] using hy) e he
  have segB:∀ (i:Nat) (x y:List Nat),(Hp.mk (max a.hp.nx b.hp.nx) t r (lkMin a.hp.lk b.hp.lk)).segs[i]? = some x→b.hp.segs[i]? = some y→∀ e∈x,e∈y:=by
   intro i x y hx hy e he
   cases i with
   | zero =>
     simp [Hp.segs] at hx hy; subst hx; subst hy
     obtain ⟨q,hq,rfl⟩:=List.mem_map.1 he
     exact (hT q hq).2.1
   | succ i=>exact r4 i x y (by simpa [Hp.segs] using hx) (by simpa [Hp.segs] using hy) e he
  have go:∀ (w:SSt),w.hp.nx≤max a.hp.nx b.hp.nx →
    (∀ q B,(Hp.mk (max a.hp.nx b.hp.nx) t r (lkMin a.hp.lk b.hp.lk)).get q=some B→∃ x,w.hp.get q=some x∧∀ {σ:Nat→Nat} {n:Nat},x.okB V n→B.okB V n∧(B.liveS=true→B.denB V σ=x.denB V σ∧x.liveS=true)) →
    (∀ q z,lookS s q=some z→∃ x,lookS w.sb q=some x∧z.prom V=x.prom V∧(x.okS V→z.okS V)) →
    (Hp.mk (max a.hp.nx b.hp.nx) t r (lkMin a.hp.lk b.hp.lk)).segs.length=w.hp.segs.length →
    (∀ (i:Nat) (x y:List Nat),(Hp.mk (max a.hp.nx b.hp.nx) t r (lkMin a.hp.lk b.hp.lk)).segs[i]? = some x→w.hp.segs[i]? = some y→∀ e∈x,e∈y) →
    (∀ B,lkOk B (lkMin a.hp.lk b.hp.lk)=true→lkOk B w.hp.lk=true) →
    ((∀ e∈w.fx,(V e.1).bB=e.2)→∀ e∈commonFx b.fx a.fx,(V e.1).bB=e.2) →
    LeSt V w ⟨⟨max a.hp.nx b.hp.nx,t,r,lkMin a.hp.lk b.hp.lk⟩,s,commonFx b.fx a.fx⟩:=by
   intro w hnx hg hsb hl hsg hlk hfx
   refine ⟨fun {σ Ls h} S=>?_,hnx⟩
   refine ⟨S.core.sub (fun q D hq=>?_) hnx,fun q B hq=>?_,fun q z hz=>?_,fun q z B hz hq=>?_,S.segS.sub hl hsg,S.segA,fun L hL hk=>S.lk L hL (hlk _ hk),hfx S.fx,fun x hx e he=>?_,fun L hL q B hlt hq=>?_⟩
   ·unfold prom at hq ⊢
    have hsbp:∀ {D:Blk},promS V s q=some D→promS V w.sb q=some D∧∀ B,w.hp.get q=some B→B.liveS=false:=by
     intro D hp
     unfold promS at hp ⊢
     split at hp
     ·rename_i z hz
      obtain ⟨x,x1,x2,_⟩:=hsb q z hz
      rw [x1]
      exact ⟨x2.symm.trans hp,fun B hB=>S.dj _ _ _ x1 hB⟩
     ·cases hp
    split at hq
    ·rename_i B hB
     obtain ⟨x,x1,x2⟩:=hg q B hB
     obtain ⟨_,x4⟩:=x2 (σ:=σ) (S.okb q x x1)
     split at hq
     ·rename_i hlv
      obtain ⟨x5,x6⟩:=x4 hlv
      rw [x1]; simp only [x6,if_true]; rw [← x5]; exact hq
     ·obtain ⟨p1,p2⟩:=hsbp hq
      rw [x1]; simp only [p2 x x1,Bool.false_eq_true,if_false]; exact p1
    ·obtain ⟨p1,p2⟩:=hsbp hq
     cases hw:w.hp.get q with
     | none=>exact p1
     | some x=>simp only [p2 x hw,Bool.false_eq_true,if_false]; exact p1
   ·obtain ⟨x,x1,x2⟩:=hg q B hq
    exact ((x2 (σ:=σ) (S.okb q x x1)).1).mono hnx
   ·obtain ⟨x,x1,_,x3⟩:=hsb q z hz
    exact ⟨x3 (S.oks _ _ x1).1,Nat.lt_of_lt_of_le (S.oks _ _ x1).2 hnx⟩
   ·obtain ⟨x,x1,_,_⟩:=hsb q z hz
    obtain ⟨y,y1,y2⟩:=hg q B hq
    have hd:=S.dj _ _ _ x1 y1
    cases hB:B.liveS with
    | false=>rfl
    | true=>have:=((y2 (σ:=σ) (S.okb q y y1)).2 hB).2; rw [hd] at this; cases this
   ·obtain ⟨i,hi⟩:=List.getElem?_of_mem hx
    have hlt:i < w.hp.segs.length:=by have:=(List.getElem?_eq_some_iff.1 hi).1; rw [hl] at this; exact this
    exact Nat.lt_of_lt_of_le (S.ids _ (List.getElem_mem hlt) e (hsg i x _ hi (List.getElem?_eq_getElem hlt) e he)) hnx
   ·obtain ⟨x,x1,x2⟩:=hg q B hq
    exact (x2 (σ:=σ) (S.old L hL q x hlt x1)).1
  constructor
  ·intro hc
   refine go a (Nat.le_max_left _ _) (fun q B hq=>?_) (fun q z hz=>?_) seg1 segA (fun B hB=>(lkMin_ok hB).1) (fun hf e he=>hf e (commonFx_mem he).1)
   ·obtain ⟨x,y,x1,x2,x3⟩:=hget q B hq
    exact ⟨x,x1,fun ho=>(mergeB_den hV x3).1 hc ho⟩
   ·obtain ⟨x,y,x1,x2,x3⟩:=hS q z hz
    exact ⟨x,x1,((mergeS_den hV x3).1 hc).1,((mergeS_den hV x3).1 hc).2⟩
  ·intro hc
   refine go b (Nat.le_max_right _ _) (fun q B hq=>?_) (fun q z hz=>?_) seg2 segB (fun B hB=>(lkMin_ok hB).2) (fun hf e he=>?_)
   ·obtain ⟨x,y,x1,x2,x3⟩:=hget q B hq
    exact ⟨y,x2,fun ho=>(mergeB_den hV x3).2 hc ho⟩
   ·obtain ⟨x,y,x1,x2,x3⟩:=hS q z hz
    exact ⟨y,x2,((mergeS_den hV x3).2 hc).1,((mergeS_den hV x3).2 hc).2⟩
   ·exact factOf_ok (st:=b) hf (commonFx_mem he).2
 ·cases h
def LeF (V:X→AV) (a m:List AV × SSt):Prop:=LeFr V a.2.hp.nx m.2.hp.nx a.1 m.1∧LeSt V a.2 m.2
def LeE (V:X→AV) (a m:Ex × List AV × SSt):Prop:=a.1=m.1∧LeF V a.2 m.2
def LeV (V:X→AV) (a m:AV × SSt):Prop:=(∀ {σ:Nat→Nat},a.1.okv V a.2.hp.nx→m.1.okv V m.2.hp.nx∧m.1.den V σ=a.1.den V σ)∧LeSt V a.2 m.2
theorem LeSt.refl (a:SSt):LeSt V a a:=⟨fun h=>h,Nat.le_refl _⟩
theorem LeSt.trans {a b c:SSt} (h:LeSt V a b) (h':LeSt V b c):LeSt V a c:=⟨fun S=>h'.1 (h.1 S),Nat.le_trans h.2 h'.2⟩
theorem LeF.refl (a:List AV × SSt):LeF V a a:=⟨fun h=>h,LeSt.refl _⟩
theorem LeF.trans {a b c:List AV × SSt} (h:LeF V a b) (h':LeF V b c):LeF V a c:=⟨fun S=>h'.1 (h.1 S),h.2.trans h'.2⟩
theorem LeE.refl (a:Ex × List AV × SSt):LeE V a a:=⟨rfl,LeF.refl _⟩
theorem LeE.trans {a b c:Ex × List AV × SSt} (h:LeE V a b) (h':LeE V b c):LeE V a c:=⟨h.1.trans h'.1,h.2.trans h'.2⟩
theorem LeV.refl (a:AV × SSt):LeV V a a:=⟨fun h=>⟨h,rfl⟩,LeSt.refl _⟩
theorem LeV.trans {a b c:AV × SSt} (h:LeV V a b) (h':LeV V b c):LeV V a c:=⟨fun {σ} ho=>by
 obtain ⟨x1,x2⟩:=h.1 (σ:=σ) ho
 obtain ⟨y1,y2⟩:=h'.1 (σ:=σ) x1
 exact ⟨y1,y2.trans x2⟩,h.2.trans h'.2⟩
theorem mgFr_le (hV:IsV Ω V) {nx0:Nat→Bool} (c:X) (a b m:List AV × SSt) (h:mgFr nx0 c a b=some m):((V c).bB=true→LeF V a m)∧((V c).bB=false→LeF V b m):=by
 unfold mgFr at h
 split at h
 ·rename_i f hf
  split at h
  ·rename_i s hs
   injection h with h; subst h
   obtain ⟨s1,s2⟩:=mergeSt_le hV hs
   exact ⟨fun hc=>⟨(mergeFr_le hV (s1 hc).2 hf).1 hc,s1 hc⟩,fun hc=>⟨(mergeFr_le hV (s2 hc).2 hf).2 hc,s2 hc⟩⟩
  ·cases h
 ·cases h
theorem mgEx_le (hV:IsV Ω V) {nx0:Nat→Bool} (c:X) (a b m:Ex × List AV × SSt) (h:mgEx nx0 c a b=some m):((V c).bB=true→LeE V a m)∧((V c).bB=false→LeE V b m):=by
 unfold mgEx at h
 split at h
 ·rename_i hex
  split at h
  ·rename_i f hf
   split at h
   ·rename_i s hs
    injection h with h; subst h
    obtain ⟨s1,s2⟩:=mergeSt_le hV hs
    exact ⟨fun hc=>⟨rfl,(mergeFr_le hV (s1 hc).2 hf).1 hc,s1 hc⟩,fun hc=>⟨hex.symm,(mergeFr_le hV (s2 hc).2 hf).2 hc,s2 hc⟩⟩
   ·cases h
  ·cases h
 ·cases h
theorem mgV_le (hV:IsV Ω V) {nx0:Nat→Bool} (c:X) (a b m:AV × SSt) (h:mgV nx0 c a b=some m):((V c).bB=true→LeV V a m)∧((V c).bB=false→LeV V b m):=by
 unfold mgV at h
 split at h
 ·rename_i f hf
  split at h
  ·rename_i s hs
   injection h with h; subst h
   obtain ⟨s1,s2⟩:=mergeSt_le hV hs
   refine ⟨fun hc=>⟨fun {σ} ho=>?_,s1 hc⟩,fun hc=>⟨fun {σ} ho=>?_,s2 hc⟩⟩
   ·obtain ⟨m1,m2⟩:=mergeV_den (σ:=σ) (n:=s.hp.nx) hV hc _ _ _ (fun _=>ho.mono (s1 hc).2) (fun e=>by cases e) hf
    exact ⟨m2,by rw [m1]; rfl⟩
   ·obtain ⟨m1,m2⟩:=mergeV_den (σ:=σ) (n:=s.hp.nx) hV hc _ _ _ (fun e=>by cases e) (fun _=>ho.mono (s2 hc).2) hf
    exact ⟨m2,by rw [m1]; rfl⟩
  ·cases h
 ·cases h
end
end Go.Proofs.YtdjngcfnlfgjkaaGreatDoor.AM
