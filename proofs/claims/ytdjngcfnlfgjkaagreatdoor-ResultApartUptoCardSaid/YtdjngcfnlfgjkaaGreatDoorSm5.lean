/-
  The symbolic machine's soundness (fourth part).
-/
import Derived.Test.YtdjngcfnlfgjkaaGreatDoorSm4
set_option linter.unusedVariables false
set_option linter.unusedSimpArgs false
set_option linter.unusedSectionVars false
namespace Go.Proofs.YtdjngcfnlfgjkaaGreatDoor.AM
section
variable {Ω:Om} {V:X→AV} {σ:Nat→Nat} {Ls:List (Nat × Nat)} {st st1:SSt} {h:Hp} {T:Tab} {n:Nat}
theorem hd_own (hV:IsV Ω V) (t:Nat) (cs:List Sh):∀ (k:Nat) (e:X),symD V σ (.own t cs) (hdX k e)=symD V σ (.own t cs) e
 | 0,e=>by cases e<;>rfl
 | k+1,e=>by
   unfold hdX
   split
   ·rename_i m x k' o a i vs hk
    injection hk with hk
    subst hk
    rw [hd_own hV t cs _ a]
    simp only [symD,hV.p,List.map_cons,Pr.sem]
    cases V a<;>simp [put_eq]
   ·rename_i m x k' a c hk
    injection hk with hk
    subst hk
    rw [hd_own hV t cs _ a]
    have hw:V (.p .whole [a,c])=(match V a,V c with | .sl _ rows,.sl k rows'=>if rows.length=rows'.length then .sl k rows' else V a | a,_=>a):=by
     rw [hV.p]; simp only [List.map_cons,List.map_nil,Pr.sem]
     cases V a<;>cases V c<;>rfl
    simp only [symD,hw]
    cases V a<;>simp only []
    cases V c<;>simp only []
    split
    ·rename_i hl
     split at hl
     ·rename_i he; injection hl with _ hl; subst hl; rw [he]
     ·injection hl with _ hl; subst hl; rfl
    ·rename_i hl
     split at hl
     ·exact (hl _ _ rfl).elim
     ·exact (hl _ _ rfl).elim
   ·rfl
theorem samess_of {rows:List (List AV)} (h:∀ r∈rows,sames r r=true):samess rows rows=true:=by
 induction rows with
 | nil=>rfl
 | cons r rows ih=>simp only [samess,Bool.and_eq_true]; exact ⟨h r (.head _),ih fun q hq=>h q (.tail _ hq)⟩
mutual
theorem self_ok:∀ {s:Sh} {a:AV},s.self=true→s.ok a=true→a.same a=true
 | .bool,a,_,h=>by rw [ok_bool h]; simp [AV.same]
 | .int k,a,_,h=>by rw [ok_int h]; simp [AV.same]
 | .str,a,_,h=>by rw [ok_str h]; simp [AV.same]
 | .sl cs,a,hs,h=>by
   rcases ok_sl h with e | ⟨rows,e,hr⟩
   ·rw [e]; rfl
   ·rw [e]
    simp only [AV.same,beq_self_eq_true,Bool.true_and]
    exact samess_of fun r hr'=>selfs_ok (by simpa [Sh.self] using hs) (hr r hr')
 | .im _ _ _,_,hs,_=>by simp [Sh.self] at hs
 | .own _ _,_,_,h=>by simp [Sh.ok] at h
 | .optr _ _ _,_,_,h=>by simp [Sh.ok] at h
 | .mown _ _ _ _,_,_,h=>by simp [Sh.ok] at h
 | .sown _,_,_,h=>by simp [Sh.ok] at h
theorem selfs_ok:∀ {ss:List Sh} {l:List AV},Sh.selfs ss=true→Sh.oks ss l=true→sames l l=true
 | [],l,_,h=>by cases l with | nil=>rfl | cons _ _=>simp [Sh.oks] at h
 | s::ss,l,hs,h=>by
   cases l with
   | nil=>simp [Sh.oks] at h
   | cons a l =>
     simp only [Sh.oks,Bool.and_eq_true] at h
     simp only [Sh.selfs,Bool.and_eq_true] at hs
     simp only [sames,self_ok hs.1 h.1,selfs_ok hs.2 h.2,Bool.and_self]
end
theorem symD_self {s:Sh} {e:X} (hs:s.self=true) (ho:symOk V n s e):(symD V σ s e).same (symD V σ s e)=true:=by
 cases s with
 | own t cs=>simp only [symD]; split<;>simp [AV.same]
 | optr t o cs=>simp [symD,AV.same]
 | mown t k ag cs=>simp [Sh.self] at hs
 | sown t=>simp [Sh.self] at hs
 | bool=>exact self_ok hs ho
 | int k=>exact self_ok hs ho
 | str=>exact self_ok hs ho
 | sl cs=>exact self_ok hs ho
 | im _ _ _=>simp [Sh.self] at hs
mutual
theorem self_den:∀ {a:AV},a.self=true→a.okv V n→(a.den V σ).same (a.den V σ)=true
 | .agg _,h,ho=>by simp only [AV.den,AV.same]; exact selfs_den h ho
 | .tuple _,h,ho=>by simp only [AV.den,AV.same]; exact selfs_den h ho
 | .ref _,h,ho=>by simp only [AV.den,AV.same]; exact selfs_den h ho
 | .sl _ _,h,ho=>by simp only [AV.den,AV.same,beq_self_eq_true,Bool.true_and]; exact selfss_den h ho
 | .func _ _ _,h,ho=>by
   simp only [AV.self,Bool.and_eq_true] at h
   simp only [AV.den,AV.same,selfs_den h.1 ho.1,selfs_den h.2 ho.2,decide_true,Bool.and_self]
 | .sym s e,h,ho=>symD_self h ho
 | .iface _ _,h,_=>by simp [AV.self] at h
 | .im _,h,_=>by simp [AV.self] at h
 | .yld _,h,_=>by simp [AV.self] at h
 | .junk,h,_=>by simp [AV.self] at h
 | .ptr _ _ _,_,_=>by simp [AV.den,AV.same]
 | .it _,_,_=>by simp [AV.den,AV.same]
 | .ms _ _ _,_,_=>by simp [AV.den,AV.same]
 | .mp _,_,_=>by simp [AV.den,AV.same]
 | .bool _,_,_=>by simp [AV.den,AV.same]
 | .int _ _,_,_=>by simp [AV.den,AV.same]
 | .str _,_,_=>by simp [AV.den,AV.same]
 | .nilp,_,_=>rfl
 | .nils,_,_=>rfl
 | .nilm,_,_=>rfl
 | .nilf,_,_=>rfl
 | .nili,_,_=>rfl
theorem selfs_den:∀ {a:List AV},AV.selfs a=true→AV.okvs V n a→sames (AV.dens V σ a) (AV.dens V σ a)=true
 | [],_,_=>rfl
 | _::_,h,ho=>by
   simp only [AV.selfs,Bool.and_eq_true] at h
   simp only [AV.dens,sames,self_den h.1 ho.1,selfs_den h.2 ho.2,Bool.and_self]
theorem selfss_den:∀ {a:List (List AV)},AV.selfss a=true→AV.okvss V n a→samess (AV.denss V σ a) (AV.denss V σ a)=true
 | [],_,_=>rfl
 | _::_,h,ho=>by
   simp only [AV.selfss,Bool.and_eq_true] at h
   simp only [AV.denss,samess,selfs_den h.1 ho.1,selfss_den h.2 ho.2,Bool.and_self]
end
structure RecR (V:X→AV) (σ:Nat→Nat) (n:Nat) (Ls:List (Nat × Nat)) (r:RecS) (r':Rec):Prop where
 read:∀ b' fl,r'.read=some (b',fl)→∃ b oe,r.read=some (b,fl,oe)∧b'=σ b∧b < n∧(∀ e,oe=some e→∃ k rows,V e = .sl k rows)
 act:∀ x' y',r'.act=some (x',y')→∃ x y,r.act=some (x,y)∧∃ σx σy,Sim V σx Ls x x'∧Sim V σy Ls y y'∧Agr x.hp.nx σx σ∧Agr y.hp.nx σy σ∧x.hp.nx≤n∧y.hp.nx≤n
inductive RecsR (V:X→AV) (σ:Nat→Nat) (n:Nat) (Ls:List (Nat × Nat)):List RecS→List Rec→Prop
 | nil:RecsR V σ n Ls [] []
 | cons (r:RecS) (r':Rec) (l:List RecS) (l':List Rec) (h:RecR V σ n Ls r r') (t:RecsR V σ n Ls l l'):RecsR V σ n Ls (r::l) (r'::l')
theorem RecR.mono {m:Nat} {σ':Nat→Nat} (ha:Agr n σ σ') (hn:n≤m) {r:RecS} {r':Rec} (h:RecR V σ n Ls r r'):RecR V σ' m Ls r r' where
 read b' fl hb:=by
  obtain ⟨b,oe,h1,h2,h3,h4⟩:=h.read b' fl hb
  exact ⟨b,oe,h1,h2.trans (ha b h3).symm,by omega,h4⟩
 act x' y' hx:=by
  obtain ⟨x,y,h1,σx,σy,h2,h3,h4,h5,h6,h7⟩:=h.act x' y' hx
  exact ⟨x,y,h1,σx,σy,h2,h3,h4.trans ha h6,h5.trans ha h7,by omega,by omega⟩
theorem dead_prom {b:Nat} {e:X} {cs:List Sh} (S:Sim V σ Ls st h) (hl:lookS st.sb b=some (.rows cs e)) {k:Nat} {rows:List (List AV)} (he:V e = .sl k rows):h.get (σ b)=some (.cells k rows)∧b < st.hp.nx :=
 ⟨S.core.get b _ (by rw [prom_sb S hl]; simp only [SB.prom,he]),(S.oks _ _ hl).2⟩
theorem sameS_den {x y:SSt} {x' y':Hp} {σx σy:Nat→Nat} (hx:Sim V σx Ls x x') (hy:Sim V σy Ls y y') (ax:Agr x.hp.nx σx σ) (ay:Agr y.hp.nx σy σ) {b:Nat} {oe:Option X} (he:∀ e,oe=some e→∃ k rows,V e = .sl k rows)
  (hs:sameS b oe x y=true):sameAt (σ b,true) x' y'=true:=by
 unfold sameS at hs
 split at hs
 ·split at hs
  ·rename_i j u k v h1 h2
   simp only [Bool.and_eq_true,beq_iff_eq] at hs
   obtain ⟨⟨rfl,h3⟩,h4⟩:=hs
   have:=AV.eqbss_eq _ _ h3; subst this
   have p1:=prom_live (V:=V) (σ:=σx) h1 rfl
   have p2:=prom_live (V:=V) (σ:=σy) h2 rfl
   have l1:=(hx.core.lt b _ p1).1
   have l2:=(hy.core.lt b _ p2).1
   have g1:=hx.core.get b _ p1
   have g2:=hy.core.get b _ p2
   rw [← ax b l1,← denB_agr ax (hx.okb b _ h1)] at g1
   rw [← ay b l2,← denB_agr ay (hy.okb b _ h2)] at g2
   unfold sameAt
   rw [g1,g2]
   simp only [Blk.denB,Blk.same,beq_self_eq_true,Bool.true_and,Bool.not_true,Bool.false_and,Bool.or_false]
   have:=selfss_den (V:=V) (σ:=σ) (n:=x.hp.nx) h4 ((okvss_iff _).2 (hx.okb b _ h1))
   rw [AV.denss_map] at this
   exact this
  ·split at hs
   ·rename_i k ag cs e k' ag' cs' e' h1 h2
    simp only [Bool.and_eq_true] at hs
    obtain ⟨⟨h3,h4⟩,h5⟩:=hs
    have e1:=X.eqb_eq h5; subst e1
    have hok:(Sh.im k ag cs).ok (V e)=true:=(hx.oks _ _ h1).1
    obtain ⟨es,he',hall⟩:=ok_im hok
    have p1:prom V σx x b=some (.map es):=by rw [prom_sb hx h1]; simp only [SB.prom,he']
    have p2:prom V σy y b=some (.map es):=by rw [prom_sb hy h2]; simp only [SB.prom,he']
    have g1:=hx.core.get b _ p1
    have g2:=hy.core.get b _ p2
    rw [← ax b (hx.core.lt b _ p1).1] at g1
    rw [← ay b (hy.core.lt b _ p2).1] at g2
    unfold sameAt
    rw [g1,g2]
    simp only [Blk.same,Bool.not_true,Bool.false_and,Bool.or_false]
    refine samess_of fun r hr=>?_
    obtain ⟨q,hq,rfl⟩:=List.mem_map.1 hr
    obtain ⟨a1,a2⟩:=hall q hq
    simp only [sames,self_ok h3 a1,Bool.true_and,Bool.and_true]
    cases ag with
    | true =>
      obtain ⟨vs,v1,v2⟩:=(by simpa using a2:∃ vs,q.2 = .agg vs∧Sh.oks cs vs=true)
      rw [v1]
      exact selfs_ok h4 v2
    | false =>
      have:=selfs_ok h4 a2
      simpa only [sames,Bool.and_true] using this
   ·cases hs
 ·rename_i e
  obtain ⟨k,rows,hv⟩:=he e rfl
  split at hs
  ·rename_i cs f cs' f' h1 h2
   simp only [Bool.and_eq_true] at hs
   obtain ⟨⟨h3,h4⟩,h5⟩:=hs
   have e1:=X.eqb_eq h4; subst e1
   have e2:=X.eqb_eq h5; subst e2
   obtain ⟨g1,l1⟩:=dead_prom hx h1 hv
   obtain ⟨g2,l2⟩:=dead_prom hy h2 hv
   rw [← ax b l1] at g1
   rw [← ay b l2] at g2
   unfold sameAt
   rw [g1,g2]
   simp only [Blk.same,beq_self_eq_true,Bool.true_and,Bool.not_true,Bool.false_and,Bool.or_false]
   have hok:(Sh.sl cs).ok (V e)=true:=(hx.oks _ _ h1).1
   rcases ok_sl hok with hn | ⟨rows',hr,hall⟩
   ·rw [hn] at hv; cases hv
   ·rw [hv] at hr; injection hr with _ hr; subst hr
    exact samess_of fun r hr=>selfs_ok h3 (hall r hr)
  ·cases hs
theorem sameAt_fl {b:Nat} {x y:Hp} (h:sameAt (b,true) x y=true) (fl:Bool):sameAt (b,fl) x y=true:=by
 unfold sameAt at h ⊢
 split at h
 ·rename_i u v hu hv
  simp only at hu hv ⊢
  rw [hu,hv]
  simp only [Bool.not_true,Bool.false_and,Bool.or_false] at h
  simp only [h,Bool.true_or]
 ·rename_i hu hv
  simp only at hu hv ⊢
  rw [hu,hv]
 ·cases h
theorem sizS_den (hV:IsV Ω V) {x y:SSt} {x' y':Hp} {σx σy:Nat→Nat} (hx:Sim V σx Ls x x') (hy:Sim V σy Ls y y') (ax:Agr x.hp.nx σx σ) (ay:Agr y.hp.nx σy σ) {b:Nat} {oe:Option X} (he:∀ e,oe=some e→∃ k rows,V e = .sl k rows)
  (hs:sizS b oe x y=true):sameAt (σ b,false) x' y'=true:=by
 unfold sizS at hs
 split at hs
 ·cases hs
 ·rename_i e
  obtain ⟨k,rows,hv⟩:=he e rfl
  split at hs
  ·rename_i cs f cs' f' h1 h2
   simp only [Bool.and_eq_true,beq_iff_eq] at hs
   obtain ⟨⟨h3,h4⟩,h5⟩:=hs
   have e1:=X.eqb_eq h4
   have e2:=X.eqb_eq h5
   have one:∀ {g:X} {cs0:List Sh},hdX 99 e=hdX 99 g→(Sh.sl cs0).ok (V g)=true→∃ r,V g = .sl cs0.length r∧r.length=rows.length:=by
    intro g cs0 hg hok
    have h6:symD V id (.own 0 cs) e=symD V id (.own 0 cs) g:=by rw [← hd_own hV 0 cs 99 e,hg,hd_own hV 0 cs 99 g]
    rcases ok_sl hok with hn | ⟨r,hr,_⟩
    ·simp only [symD,hv,hn] at h6; cases h6
    ·simp only [symD,hv,hr] at h6
     injection h6 with _ _ h6
     exact ⟨r,hr,h6.symm⟩
   obtain ⟨r1,g3,g4⟩:=one e1 (hx.oks _ _ h1).1
   obtain ⟨r2,g5,g6⟩:=one e2 (hy.oks _ _ h2).1
   obtain ⟨g1,l1⟩:=dead_prom hx h1 g3
   obtain ⟨g2,l2⟩:=dead_prom hy h2 g5
   rw [← ax b l1] at g1
   rw [← ay b l2] at g2
   unfold sameAt
   rw [g1,g2]
   simp only [Blk.sameLen,h3,g4,g6,beq_self_eq_true,Bool.and_self,Bool.not_false,Bool.or_true]
  ·cases hs
theorem acts_den (hV:IsV Ω V) {B:Array Nat} {i b:Nat} {fl:Bool} {oe:Option X} (he:∀ e,oe=some e→∃ k rows,V e = .sl k rows):∀ {l:List RecS} {l':List Rec} {j:Nat},RecsR V σ n Ls l l'→actsS B i b fl oe j l=true→actsOk B i (σ b,fl) j l'=true
 | _,_,j,.nil,_=>rfl
 | _,_,j,.cons r r' l l' hr ht,hs=>by
   obtain ⟨rd,ac⟩:=r
   obtain ⟨rd',ac'⟩:=r'
   cases ac' with
   | none =>
     simp only [actsOk]
     refine acts_den hV he ht ?_
     cases ac with
     | none=>simpa only [actsS] using hs
     | some xy=>obtain ⟨x,y⟩:=xy; simp only [actsS,Bool.and_eq_true] at hs; exact hs.2
   | some xy =>
     obtain ⟨x',y'⟩:=xy
     obtain ⟨x,y,h1,σx,σy,h2,h3,h4,h5,_,_⟩:=hr.act x' y' rfl
     simp only at h1; subst h1
     simp only [actsS,Bool.and_eq_true,Bool.or_eq_true] at hs
     simp only [actsOk,Bool.and_eq_true,Bool.or_eq_true]
     refine ⟨hs.1.imp (fun h=>?_) id,acts_den hV he ht hs.2⟩
     rcases h with h | h
     ·exact sameAt_fl (sameS_den h2 h3 h4 h5 he h) fl
     ·simp only [Bool.and_eq_true,Bool.not_eq_true'] at h
      rw [h.1]; exact sizS_den hV h2 h3 h4 h5 he h.2
theorem recs_den (hV:IsV Ω V) {B:Array Nat} {all:List RecS} {all':List Rec} (ha:RecsR V σ n Ls all all'):∀ {l:List RecS} {l':List Rec} {i:Nat},RecsR V σ n Ls l l'→recsS B all i l=true→recsOk B all' i l'=true
 | _,_,i,.nil,_=>rfl
 | _,_,i,.cons r r' l l' hr ht,hs=>by
   obtain ⟨rd,ac⟩:=r
   obtain ⟨rd',ac'⟩:=r'
   have tl:recsS B all (i+1) l=true:=by
    cases rd with
    | none=>simpa only [recsS] using hs
    | some bo=>obtain ⟨b,fl,oe⟩:=bo; simp only [recsS,Bool.and_eq_true] at hs; exact hs.2
   cases rd' with
   | none=>simp only [recsOk]; exact recs_den hV ha ht tl
   | some b' =>
     obtain ⟨b',fl⟩:=b'
     obtain ⟨b,oe,h1,rfl,_,h4⟩:=hr.read b' fl rfl
     simp only at h1; subst h1
     simp only [recsS,Bool.and_eq_true] at hs
     simp only [recsOk,Bool.and_eq_true]
     exact ⟨acts_den hV h4 ha hs.1,recs_den hV ha ht tl⟩
theorem data_block {s:Sh} {a:AV} (h:s.ok a=true):a.block=none:=by
 cases s<;>cases a<;>simp [Sh.ok] at h<;>rfl
theorem readS_den (hV:IsV Ω V) (S:Sim V σ Ls st h) {v:AV} (hv:v.okv V st.hp.nx) {full:Bool} {rd:Option (Nat × Bool × Option X)} {nd:Bool} (hr:readS st full v=some (rd,nd)) (hn:nd=true→∀ b fl e,rd=some (b,fl,some e)→(V e).nilB=false) :
  ∀ b' fl,(v.den V σ).look full=some (b',fl)→∃ b oe,rd=some (b,fl,oe)∧b'=σ b∧b < st.hp.nx∧(∀ e,oe=some e→∃ k rows,V e = .sl k rows):=by
 intro b' fl hb
 simp only [AV.look,Option.map_eq_some_iff,Prod.mk.injEq] at hb
 obtain ⟨_,hb,rfl,rfl⟩:=hb
 unfold readS at hr
 split at hr
 ·rename_i b i o
  simp only [Option.some.injEq,Prod.mk.injEq] at hr; obtain ⟨rfl,rfl⟩:=hr
  simp only [AV.den,AV.block,Option.some.injEq] at hb
  exact ⟨b,none,rfl,hb.symm,hv,fun _ h=>by cases h⟩
 ·rename_i b i o
  simp only [Option.some.injEq,Prod.mk.injEq] at hr; obtain ⟨rfl,rfl⟩:=hr
  simp only [AV.den,AV.block,Option.some.injEq] at hb
  exact ⟨b,none,rfl,hb.symm,hv,fun _ h=>by cases h⟩
 ·rename_i b
  simp only [Option.some.injEq,Prod.mk.injEq] at hr; obtain ⟨rfl,rfl⟩:=hr
  simp only [AV.den,AV.block,Option.some.injEq] at hb
  exact ⟨b,none,rfl,hb.symm,hv,fun _ h=>by cases h⟩
 ·rename_i t cs e
  split at hr
  ·rename_i cs' e' hl
   split at hr
   ·rename_i he
    simp only [Option.some.injEq,Prod.mk.injEq] at hr; obtain ⟨rfl,rfl⟩:=hr
    have hd:symD V σ (.own t cs) e=symD V σ (.own t cs) e':=by
     simp only [Bool.or_eq_true,Bool.and_eq_true] at he
     rcases he with he | ⟨_,he⟩
     ·rw [X.eqb_eq he]
     ·rw [← hd_own hV t cs 99 e,X.eqb_eq he,hd_own hV t cs 99 e']
    simp only [AV.den] at hb
    rw [hd] at hb
    simp only [symD] at hb
    split at hb
    ·rename_i k rows hr
     simp only [AV.block,Option.some.injEq] at hb
     exact ⟨t,some e',rfl,hb.symm,hv.1,fun f hf=>by injection hf with hf; subst hf; exact ⟨_,_,hr⟩⟩
    ·cases hb
   ·cases hr
  ·cases hr
 ·rename_i t o cs e
  split at hr
  ·rename_i cs' e' hl
   simp only [Option.some.injEq,Prod.mk.injEq] at hr; obtain ⟨rfl,rfl⟩:=hr
   have hnil:=hn rfl t _ e' rfl
   simp only [AV.den,symD,AV.block,Option.some.injEq] at hb
   refine ⟨t,some e',rfl,hb.symm,hv,fun f hf=>?_⟩
   injection hf with hf; subst hf
   rcases ok_sl (S.oks _ _ hl).1 with h1 | ⟨rows,hr,_⟩
   ·rw [h1] at hnil; cases hnil
   ·exact ⟨_,_,hr⟩
  ·cases hr
 ·rename_i t k ag cs e
  simp only [Option.some.injEq,Prod.mk.injEq] at hr; obtain ⟨rfl,rfl⟩:=hr
  simp only [AV.den,symD,AV.block,Option.some.injEq] at hb
  exact ⟨t,none,rfl,hb.symm,hv,fun _ h=>by cases h⟩
 ·rename_i h1 h2 h3 h4 h5 h6
  exfalso
  cases v<;>simp only [AV.den,AV.block] at hb<;>try (cases hb; done)
  ·exact h1 _ _ _ rfl
  ·exact h2 _ _ _ rfl
  ·exact h3 _ rfl
  ·rename_i s e
   cases s with
   | own t cs=>exact h4 _ _ _ rfl
   | optr t o cs=>exact h5 _ _ _ _ rfl
   | mown t k ag cs=>exact h6 _ _ _ _ _ rfl
   | sown t=>simp [symD,AV.block] at hb
   | _=>have h7:=data_block hv; (have hb2:(V e).block=some _:=hb; rw [h7] at hb2; cases hb2)
theorem looksS_den (hV:IsV Ω V) (S:Sim V σ Ls st h) {ev ev':Ev} (he:EvD V σ st.hp.nx ev ev') {op:Op} {rd:Option (Nat × Bool × Option X)} {nd:Bool} (hr:looksS ev st op=some (rd,nd)) (hn:nd=true→∀ b fl e,rd=some (b,fl,some e)→(V e).nilB=false) :
  ∀ b' fl,looksInto ev' op=some (b',fl)→∃ b oe,rd=some (b,fl,oe)∧b'=σ b∧b < st.hp.nx∧(∀ e,oe=some e→∃ k rows,V e = .sl k rows):=by
 have one:∀ {x:Operand} {full:Bool},(match ev x with | some v=>readS st full v | none=>none)=some (rd,nd)→∀ b' fl,(ev' x).bind (AV.look full)=some (b',fl)→∃ b oe,rd=some (b,fl,oe)∧b'=σ b∧b < st.hp.nx∧(∀ e,oe=some e→∃ k rows,V e = .sl k rows):=by
  intro x full hx b' fl hb
  split at hx
  ·rename_i v hv
   obtain ⟨v1,v2⟩:=he x v hv
   rw [v1] at hb
   exact readS_den hV S v2 hx hn b' fl hb
  ·cases hx
 intro b' fl hb
 cases op with
 | load t a=>exact one hr b' fl hb
 | indexAddr t x i=>exact one hr b' fl hb
 | slice t x a b c=>exact one hr b' fl hb
 | lookup t m k o=>exact one hr b' fl hb
 | call c =>
   simp only [looksS] at hr
   simp only [looksInto] at hb
   split at hr
   ·rename_i x hx
    obtain ⟨x1,x2⟩:=evals_den he hx
    rw [x1] at hb
    simp only [List.map_cons,List.map_nil,Option.bind_some] at hb
    exact readS_den hV S (x2 x (.head _)) hr hn b' fl hb
   ·rename_i l hne hl
    obtain ⟨x1,x2⟩:=evals_den he hl
    rw [x1] at hb
    simp only [Option.bind_some] at hb
    exfalso
    cases l with
    | nil=>simp at hb
    | cons y ys=>cases ys with
      | nil=>exact hne y rfl
      | cons _ _=>simp at hb
   ·cases hr
 | _=>simp [looksInto] at hb
variable {inv:InvS} {invA:Inv} {cx:Cx} {base M:Nat}
theorem hoist_den:∀ {os:List Oper} {σ:Nat→Nat} {st:SSt} {h:Hp} {vs:List AV} {H1:Hp},Sim V σ Ls st h→hoistS T os st.hp=some (vs,H1) →
  ∃ h1 σ1,hoist T os h=some (vs.map (AV.den V σ1),h1)∧(∀ x∈vs,x.okv V H1.nx)∧Aft V σ σ1 Ls st { st with hp:=H1 } h1
 | [],σ,st,h,vs,H1,S,hs=>by
   injection hs with hs; obtain ⟨rfl,rfl⟩:=Prod.mk.inj hs
   exact ⟨h,σ,rfl,(fun _ h=>by cases h),Aft.refl S⟩
 | o::os,σ,st,h,vs,H1,S,hs=>by
   have other:∀ {vs:List AV} {H1:Hp},(match hoistS T os st.hp with | some (vs,h'')=>some (undefA::vs,h'') | none=>none)=some (vs,H1) →
     ∃ h1 σ1,(match hoist T os h with | some (vs,h'')=>some (undefA::vs,h'') | none=>none)=some (vs.map (AV.den V σ1),h1)∧(∀ x∈vs,x.okv V H1.nx)∧Aft V σ σ1 Ls st { st with hp:=H1 } h1:=by
    intro vs H1 hs
    split at hs
    ·rename_i us H2 hu
     simp only [Option.some.injEq,Prod.mk.injEq] at hs; obtain ⟨rfl,rfl⟩:=hs
     obtain ⟨h1,σ1,e,o,a⟩:=hoist_den S hu
     refine ⟨h1,σ1,by rw [e]; rfl,fun x hx=>?_,a⟩
     cases hx with
     | head=>exact (okvs_iff _).2 (fun _ h=>by cases h)
     | tail _ hx=>exact o x hx
    ·cases hs
   unfold hoistS at hs
   unfold hoist
   split at hs
   ·rename_i el hop
    split at hs
    ·rename_i hg
     simp only [hop,if_pos hg]
     split at hs
     ·rename_i v H2 hv
      obtain ⟨h2,σ2,e2,r2⟩:=opAlloc_den S hv
      simp only [e2]
      split at hs
      ·rename_i us H3 hu
       simp only [Option.some.injEq,Prod.mk.injEq] at hs; obtain ⟨rfl,rfl⟩:=hs
       obtain ⟨h1,σ1,e,o,a⟩:=hoist_den r2.sim hu
       refine ⟨h1,σ1,?_,fun x hx=>?_,r2.aft.trans a⟩
       ·rw [e]
        simp only [List.map_cons,den_agr a.agr r2.ok]
       ·cases hx with
        | head=>exact r2.ok.mono a.le
        | tail _ hx=>exact o x hx
      ·cases hs
     ·cases hs
    ·cases hs
   ·rename_i hne
    split
    ·exact absurd ‹_› (hne _)
    ·exact other hs
theorem calm_den {ev ev':Ev} (he:EvD V σ n ev ev') {op:Op} (h:calmOp T ev op=true):calmOp T ev' op=true:=by
 unfold calmOp at h
 split at h
 case h_2=>cases h
 rename_i c
 split at h
 case h_2=>cases h
 rename_i f hf
 split at h
 case h_2=>cases h
 rename_i g first captured args h1 h2
 simp only [Bool.and_eq_true,beq_iff_eq] at h
 obtain ⟨g1,g2⟩:=he f _ h1
 obtain ⟨a1,a2⟩:=evals_den he h2
 simp only [AV.okv,okvs_iff] at g2
 have hm:=map_mx0 (V:=V) (σ:=σ) (n:=n) (l:=first++args++captured) (fun x hx=>by
  rcases List.mem_append.1 hx with hx | hx
  ·rcases List.mem_append.1 hx with hx | hx
   ·exact g2.1 x hx
   ·exact a2 x hx
  ·exact g2.2 x hx) h.2
 simp only [List.map_append] at hm
 simp only [calmOp,hf,g1,AV.den,AV.dens_map,a1,h.1,hm,beq_self_eq_true,Bool.and_self]
theorem calm_not {ev ev':Ev} (he:EvD V σ n ev ev') {op:Op} (h:puOp T ev op=false):calmOp T ev' op=false:=by
 unfold puOp at h
 unfold calmOp
 split
 case h_2=>rfl
 rename_i c
 simp only at h
 split
 case h_2=>rfl
 rename_i f hf
 rw [hf] at h
 simp only at h
 split at h
 ·rename_i g a b h1
  obtain ⟨g1,_⟩:=he f _ h1
  simp only [g1,AV.den]
  split
  ·rename_i h2 _
   injection h2 with h2; injection h2 with h3 h4 h5
   injection h3 with h3
   subst h3
   rw [h]; rfl
  ·rfl
 ·cases h
theorem pairs1_den {B:Array Nat} {i:Nat}:∀ {l:List RecS} {l':List Rec} {j:Nat},RecsR V σ n Ls l l'→pairs1S B i j l=true→pairs1 B i j l'=true
 | _,_,_,.nil,_=>rfl
 | _,_,j,.cons r r' l l' h t,hs=>by
   obtain ⟨a,b⟩:=r
   obtain ⟨a',b'⟩:=r'
   cases b' with
   | none =>
     simp only [pairs1]
     cases b with
     | none=>simp only [pairs1S] at hs; exact pairs1_den t hs
     | some _=>simp only [pairs1S,Bool.and_eq_true] at hs; exact pairs1_den t hs.2
   | some q =>
     obtain ⟨x,y,h1,_⟩:=h.act q.1 q.2 rfl
     simp only at h1
     subst h1
     simp only [pairs1S,Bool.and_eq_true] at hs
     simp only [pairs1,Bool.and_eq_true]
     exact ⟨hs.1,pairs1_den t hs.2⟩
theorem pairs_den {B:Array Nat}:∀ {l:List RecS} {l':List Rec} {i:Nat},RecsR V σ n Ls l l'→pairsS B i l=true→pairsOk B i l'=true
 | _,_,_,.nil,_=>rfl
 | _,_,i,.cons r r' l l' h t,hs=>by
   obtain ⟨a,b⟩:=r
   obtain ⟨a',b'⟩:=r'
   cases b' with
   | none =>
     simp only [pairsOk]
     cases b with
     | none=>simp only [pairsS] at hs; exact pairs_den t hs
     | some _=>simp only [pairsS,Bool.and_eq_true] at hs; exact pairs_den t hs.2
   | some q =>
     obtain ⟨x,y,h1,_⟩:=h.act q.1 q.2 rfl
     simp only at h1
     subst h1
     simp only [pairsS,Bool.and_eq_true] at hs
     simp only [pairsOk,Bool.and_eq_true]
     exact ⟨pairs1_den t hs.1,pairs_den t hs.2⟩
theorem drawYes_den (hV:IsV Ω V) (hne:Ls ≠ []) (hi:InvR V inv invA) (S:Sim V σ Ls st h) (hB:∀ L∈Ls,L.1≤base) {ops:Array Oper} {o:Oper} {pre:AV} {s s':Sl} (hsl:SlS V σ st.hp.nx s s') (hpre:pre.okv V st.hp.nx)
  (hw:wantedA M ops o s'=some true) {v:AV} {rc:RecS} (hs:(drawYes cx inv base M o pre s st).sel V=some (v,st1,rc)) :
  ∃ h1 σ1 rc',drawStep cx.T invA M ops o (pre.den V σ) s' h = .ok (v.den V σ1,h1,rc')∧v.okv V st1.hp.nx∧Aft V σ σ1 Ls st st1 h1∧RecR V σ1 st1.hp.nx Ls rc rc':=by
 unfold drawYes at hs
 unfold drawStep
 simp only [hw]
 split at hs
 ·rename_i ha
  injection hs with hs
  simp only [Prod.mk.injEq] at hs; obtain ⟨rfl,rfl,rfl⟩:=hs
  rw [if_pos ha]
  exact ⟨h,σ,_,rfl,hpre,Aft.refl S,⟨fun _ _ h=>by simp at h,fun _ _ h=>by simp at h⟩⟩
 ·rename_i ha
  rw [if_neg ha]
  split at hs
  ·rename_i hq
   rw [if_pos hq]
   split at hs
   ·rename_i rd nd hlk
    rw [sel_bind] at hs
    obtain ⟨⟨u,st2⟩,h1,hs⟩:=hs
    obtain ⟨h2,σ2,e2,r2⟩:=doOpS_den hV hne hi S (evS_den hsl) hB h1
    simp only at hs
    split at hs
    ·rename_i hnx
     have hoku:u.okv V st.hp.nx:=by have:=r2.ok; rw [hnx] at this; exact this
     have hden:u.den V σ2=u.den V σ:=den_agr r2.agr hoku
     have S2:Sim V σ Ls { st with fx:=st2.fx } h:=make_fx S _ rfl rfl r2.sim.fx
     have fin:∀ {st3:SSt},Sim V σ Ls st3 h→st3.hp=st.hp→(nd=true→∀ b fl e,rd=some (b,fl,some e)→(V e).nilB=false)→(u,st3,(⟨rd,none⟩:RecS))=(v,st1,rc) →
       ∃ h1 σ1 rc',((doOp cx.T invA (evalA M s'.fr s'.loc) h o.op).bind fun r=>Nd.ok (r.1,h,(⟨looksInto (evalA M s'.fr s'.loc) o.op,none⟩:Rec))) = .ok (v.den V σ1,h1,rc')∧v.okv V st1.hp.nx∧Aft V σ σ1 Ls st st1 h1∧RecR V σ1 st1.hp.nx Ls rc rc':=by
      intro st3 S3 e3 hn heq
      simp only [Prod.mk.injEq] at heq; obtain ⟨rfl,rfl,rfl⟩:=heq
      refine ⟨h,σ,⟨looksInto (evalA M s'.fr s'.loc) o.op,none⟩,by rw [e2]; simp only [Nd.bind,hden],by rw [e3]; exact hoku,⟨S3,Agr.refl _ _,by rw [e3]; exact Nat.le_refl _⟩,⟨?_,(fun _ _ h=>by cases h)⟩⟩
      intro b' fl hb
      rw [e3]
      exact looksS_den hV S (evS_den hsl) hlk hn b' fl hb
     split at hs
     ·rename_i b fl e
      obtain ⟨st3,S3,e3,_,e4,hs⟩:=needT_den hV S2 hs
      injection hs with hs
      refine fin S3 e3 (fun _ b' fl' e' hbe=>?_) hs
      simp only [Option.some.injEq,Prod.mk.injEq] at hbe; obtain ⟨rfl,rfl,rfl⟩:=hbe
      rw [V_not hV,V_isNil hV] at e4
      simpa [AV.bB] using e4
     ·rename_i hno
      injection hs with hs
      refine fin S2 rfl (fun hnd b' fl' e' hbe=>?_) hs
      exact absurd hnd (by intro e; exact hno _ _ _ hbe e)
    ·cases hs
   ·cases hs
  ·rename_i hq
   rw [if_neg hq]
   split at hs
   ·split at hs
    ·rename_i hcm
     rw [if_pos (calm_den (evS_den hsl) hcm)]
     rw [sel_bind] at hs
     obtain ⟨⟨u,st2⟩,h1,hs⟩:=hs
     obtain ⟨h2,σ2,e2,r2⟩:=doOpS_den hV hne hi S (evS_den hsl) hB h1
     simp only at hs
     split at hs
     ·rename_i hnx
      injection hs with hs
      simp only [Prod.mk.injEq] at hs; obtain ⟨rfl,rfl,rfl⟩:=hs
      have hoku:u.okv V st.hp.nx:=by have:=r2.ok; rw [hnx] at this; exact this
      have hden:u.den V σ2=u.den V σ:=den_agr r2.agr hoku
      have S2:Sim V σ Ls { st with fx:=st2.fx } h:=make_fx S _ rfl rfl r2.sim.fx
      exact ⟨h,σ,⟨none,none⟩,by rw [e2]; simp only [Nd.bind,hden],hoku,⟨S2,Agr.refl _ _,Nat.le_refl _⟩,⟨(fun _ _ h=>by cases h),(fun _ _ h=>by cases h)⟩⟩
     ·cases hs
    ·cases hs
   rename_i hpu
   rw [sel_bind] at hs
   obtain ⟨⟨u,st2⟩,h1,hs⟩:=hs
   rw [if_neg (by rw [calm_not (evS_den hsl) (by simpa using hpu)]; simp)]
   obtain ⟨h2,σ2,e2,r2⟩:=doOpS_den hV hne hi S (evS_den hsl) hB h1
   injection hs with hs
   simp only [Prod.mk.injEq] at hs; obtain ⟨rfl,rfl,rfl⟩:=hs
   refine ⟨h2,σ2,_,by rw [e2]; rfl,r2.ok,r2.aft,fun _ _ h=>by simp at h,fun x' y' hxy=>?_⟩
   simp only [Option.some.injEq,Prod.mk.injEq] at hxy; obtain ⟨rfl,rfl⟩:=hxy
   exact ⟨st,_,rfl,σ,σ2,S,r2.sim,r2.agr,Agr.refl _ _,r2.le,Nat.le_refl _⟩
theorem runDraw_den (hV:IsV Ω V) (hne:Ls ≠ []) (hi:InvR V inv invA) (hB:∀ L∈Ls,L.1≤base) {ops:Array Oper}:∀ {os:List Oper} {pres:List AV} {σ:Nat→Nat} {s s' s1:Sl} {st st1:SSt} {h:Hp} {rcs:List RecS},Sim V σ Ls st h→SlS V σ st.hp.nx s s'→(∀ x∈pres,x.okv V st.hp.nx) →
  (runDrawS cx inv base M ops os pres s st).sel V=some (s1,st1,rcs) →
  ∃ s1' h1 σ1 rcs',runDraw cx.T invA M ops os (pres.map (AV.den V σ)) s' h = .ok (s1',h1,rcs')∧SlS V σ1 st1.hp.nx s1 s1'∧Aft V σ σ1 Ls st st1 h1∧RecsR V σ1 st1.hp.nx Ls rcs rcs'
 | [],pres,σ,s,s',s1,st,st1,h,rcs,S,hs,_,hr=>by
   have hr:(Te.ok (s,st,[]):Te (Sl × SSt × List RecS)).sel V=some (s1,st1,rcs):=by
    cases pres<;>exact hr
   injection hr with hr; simp only [Prod.mk.injEq] at hr; obtain ⟨rfl,rfl,rfl⟩:=hr
   refine ⟨s',h,σ,[],?_,hs,Aft.refl S,.nil⟩
   cases pres<;>rfl
 | o::os,[],σ,s,s',s1,st,st1,h,rcs,S,hs,_,hr=>by simp [runDrawS,Te.sel] at hr
 | o::os,pre::pres,σ,s,s',s1,st,st1,h,rcs,S,hs,hp,hr=>by
   have yes:∀ {st':SSt},Sim V σ Ls st' h→st'.hp=st.hp→wantedA M ops o s'=some true →
     ((drawYes cx inv base M o pre s st').bind fun r=>(runDrawS cx inv base M ops os pres (putA M s o.dst r.1) r.2.1).bind fun q=>.ok (q.1,q.2.1,r.2.2::q.2.2)).sel V=some (s1,st1,rcs) →
     ∃ s1' h1 σ1 rcs',runDraw cx.T invA M ops (o::os) ((pre::pres).map (AV.den V σ)) s' h = .ok (s1',h1,rcs')∧SlS V σ1 st1.hp.nx s1 s1'∧Aft V σ σ1 Ls st st1 h1∧RecsR V σ1 st1.hp.nx Ls rcs rcs':=by
    intro st' S' e1 hw hr
    rw [sel_bind] at hr
    obtain ⟨⟨v,st2,rc⟩,h1,hr⟩:=hr
    rw [sel_bind] at hr
    obtain ⟨⟨s3,st3,rcs3⟩,h3,hr⟩:=hr
    injection hr with hr; simp only [Prod.mk.injEq] at hr; obtain ⟨rfl,rfl,rfl⟩:=hr
    have hs':SlS V σ st'.hp.nx s s':=by rw [e1]; exact hs
    obtain ⟨h4,σ4,rc4,e4,o4,a4,r4⟩:=drawYes_den hV hne hi S' hB hs' (by rw [e1]; exact hp pre (.head _)) hw h1
    have hpres:∀ x∈pres,x.okv V st2.hp.nx:=fun x hx=>(hp x (.tail _ hx)).mono (by rw [← e1]; exact a4.le)
    obtain ⟨s5,h5,σ5,rcs5,e5,sl5,a5,r5⟩:=runDraw_den hV hne hi hB a4.sim (putA_den (hs'.mono a4.agr a4.le) (SlD.val o4)) hpres h3
    have hmap:pres.map (AV.den V σ4)=pres.map (AV.den V σ):=List.map_congr_left fun x hx=>den_agr a4.agr (by rw [e1]; exact hp x (.tail _ hx))
    rw [hmap] at e5
    refine ⟨s5,h5,σ5,rc4::rcs5,?_,sl5,?_,.cons _ _ _ _ (r4.mono a5.agr a5.le) r5⟩
    ·simp only [List.map_cons,runDraw,e4,Nd.bind]
     rw [e5]
    ·have:=a4.trans a5
     exact ⟨this.sim,by rw [← e1]; exact this.agr,by rw [← e1]; exact this.le⟩
   have no:∀ {st':SSt},Sim V σ Ls st' h→st'.hp=st.hp→wantedA M ops o s'=some false →
     ((runDrawS cx inv base M ops os pres (putA M s o.dst undefA) st').bind fun q=>.ok (q.1,q.2.1,(⟨none,none⟩:RecS)::q.2.2)).sel V=some (s1,st1,rcs) →
     ∃ s1' h1 σ1 rcs',runDraw cx.T invA M ops (o::os) ((pre::pres).map (AV.den V σ)) s' h = .ok (s1',h1,rcs')∧SlS V σ1 st1.hp.nx s1 s1'∧Aft V σ σ1 Ls st st1 h1∧RecsR V σ1 st1.hp.nx Ls rcs rcs':=by
    intro st' S' e1 hw hr
    rw [sel_bind] at hr
    obtain ⟨⟨s3,st3,rcs3⟩,h3,hr⟩:=hr
    injection hr with hr; simp only [Prod.mk.injEq] at hr; obtain ⟨rfl,rfl,rfl⟩:=hr
    have hs':SlS V σ st'.hp.nx s s':=by rw [e1]; exact hs
    obtain ⟨s5,h5,σ5,rcs5,e5,sl5,a5,r5⟩:=runDraw_den hV hne hi hB S' (putA_den hs' SlD.undef) (fun x hx=>by rw [e1]; exact hp x (.tail _ hx)) h3
    refine ⟨s5,h5,σ5,⟨none,none⟩::rcs5,?_,sl5,⟨a5.sim,by rw [← e1]; exact a5.agr,by rw [← e1]; exact a5.le⟩,.cons _ _ _ _ ⟨fun _ _ h=>by simp at h,fun _ _ h=>by simp at h⟩ r5⟩
    simp only [List.map_cons,runDraw,drawStep,hw,Nd.bind]
    rw [e5]
   obtain ⟨w1,w2,w3⟩:=wanted_den (M:=M) hV S (ops:=ops) (o:=o) hs
   simp only [runDrawS] at hr
   split at hr
   ·rename_i hw; exact yes S rfl (w1 hw) hr
   ·rename_i hw; exact no S rfl (w2 hw) hr
   ·rename_i e w hw
    have hwa:=w3 e w hw
    split at hr
    ·rename_i hwt
     subst hwt
     rw [sel_ite] at hr
     rcases hr with ⟨hb,hr⟩ | ⟨hb,hr⟩
     ·exact yes (S.fact hb) rfl (by rw [hwa,hb]; rfl) hr
     ·exact no (S.fact hb) rfl (by rw [hwa,hb]; rfl) hr
    ·rename_i hwf
     have hwf:w=false:=by simpa using hwf
     subst hwf
     rw [sel_ite] at hr
     rcases hr with ⟨hb,hr⟩ | ⟨hb,hr⟩
     ·exact no (S.fact hb) rfl (by rw [hwa,hb]; rfl) hr
     ·exact yes (S.fact hb) rfl (by rw [hwa,hb]; rfl) hr
   ·cases hr
theorem drawS_den (hV:IsV Ω V) (hne:Ls ≠ []) (hi:InvR V inv invA) (hB:∀ L∈Ls,L.1≤base) (S:Sim V σ Ls st h) {ops:Array Oper} {fr fr' fr1:List AV} (hf:FrS V σ st.hp.nx fr fr') (hs:(drawS cx inv base M ops fr st).sel V=some (fr1,st1)) :
  ∃ s1' h1 σ1,drawA cx.T invA M ops fr' h = .ok (s1',h1)∧FrS V σ1 st1.hp.nx fr1 s1'.fr∧Aft V σ σ1 Ls st st1 h1:=by
 unfold drawS at hs
 split at hs
 ·rename_i pres H1 hh
  obtain ⟨h1,σ1,e1,o1,a1⟩:=hoist_den S hh
  rw [sel_bind] at hs
  obtain ⟨⟨s3,st3,rcs3⟩,h3,hs⟩:=hs
  simp only at hs
  split at hs
  ·rename_i hrec
   simp only [Bool.and_eq_true] at hrec
   obtain ⟨hrec,hpr⟩:=hrec
   injection hs with hs; simp only [Prod.mk.injEq] at hs; obtain ⟨rfl,rfl⟩:=hs
   obtain ⟨s5,h5,σ5,rcs5,e5,sl5,a5,r5⟩:=runDraw_den hV hne hi hB a1.sim (s':=⟨fr',[]⟩) ⟨hf.mono a1.agr a1.le,.nil⟩ o1 h3
   refine ⟨s5,h5,σ5,?_,sl5.fr,a1.trans a5⟩
   unfold drawA
   simp only [e1,e5,recs_den hV r5 r5 hrec,pairs_den r5 hpr,Bool.and_self,if_true]
  ·cases hs
 ·cases hs
theorem regionS_den (hV:IsV Ω V) (hne:Ls ≠ []) (hi:InvR V inv invA) (hB:∀ L∈Ls,L.1≤base) (S:Sim V σ Ls st h) {ops:Array Oper} {draw:Bool} {fr fr' fr1:List AV} (hf:FrS V σ st.hp.nx fr fr') (hs:(regionS cx inv base M ops draw fr st).sel V=some (fr1,st1)) :
  ∃ s1' h1 σ1,(if draw then drawA cx.T invA M ops fr' h else runOps cx.T invA M ops ops.toList ⟨fr',[]⟩ h) = .ok (s1',h1)∧FrS V σ1 st1.hp.nx fr1 s1'.fr∧Aft V σ σ1 Ls st st1 h1:=by
 unfold regionS at hs
 obtain ⟨⟨fr2,st2⟩,h1,h2⟩:=fold_sel hV LeF.refl (fun _ _ _=>LeF.trans) (fun c a b m h=>mgFr_le hV c a b m h) hs
 obtain ⟨l1,l2,l3⟩:=h2
 have key:∃ s1' h1 σ1,(if draw then drawA cx.T invA M ops fr' h else runOps cx.T invA M ops ops.toList ⟨fr',[]⟩ h) = .ok (s1',h1)∧FrS V σ1 st2.hp.nx fr2 s1'.fr∧Aft V σ σ1 Ls st st2 h1:=by
  cases draw with
  | true=>simp only [if_true] at h1 ⊢; exact drawS_den hV hne hi hB S hf h1
  | false =>
    simp only [Bool.false_eq_true,if_false] at h1 ⊢
    rw [sel_bind] at h1
    obtain ⟨⟨s3,st3⟩,h3,h1⟩:=h1
    injection h1 with h1; simp only [Prod.mk.injEq] at h1; obtain ⟨rfl,rfl⟩:=h1
    obtain ⟨s4,h4,σ4,e4,sl4,a4⟩:=runOpsS_den hV hne hi hB S (s':=⟨fr',[]⟩) ⟨hf,.nil⟩ h3
    exact ⟨s4,h4,σ4,e4,sl4.fr,a4⟩
 obtain ⟨s5,h5,σ5,e5,f5,a5⟩:=key
 exact ⟨s5,h5,σ5,e5,l1 f5,l2 a5.sim,a5.agr,Nat.le_trans a5.le l3⟩
end
section
variable {Ω:Om} {V:X→AV} {σ:Nat→Nat} {Ls:List (Nat × Nat)} {st st1:SSt} {h:Hp} {T:Tab} {n:Nat}
theorem frz_cl (h:Hp) (b:Nat):∀ (n:Nat) (v:AV),v.mx=0→frz h b n v=v
 | 0,v,_=>rfl
 | n+1,v,hv=>by
   cases v<;>simp only [frz]<;>simp only [AV.mx] at hv<;>first
    | rfl
    | omega
    | (simp only [frzRow,hv,if_true]; done)
    | (have h1:mxs _=0:=Nat.le_zero.1 (hv ▸ Nat.le_max_left _ _); have h2:mxs _=0:=Nat.le_zero.1 (hv ▸ Nat.le_max_right _ _); simp only [frzRow,h1,h2,if_true])
theorem frzRow_drop {f g D:AV→AV} {r:List AV} {o:Nat} (hz:mxs r=0→mxs (r.map D)=0) (hz2:∀ x∈r.drop o,(D x).mx=0→g (D x)=D x) (hm:∀ x∈r.drop o,(frzRow f r=r.map f)→g (D x)=D (f x)):(frzRow g (r.map D)).drop o=((frzRow f r).drop o).map D:=by
 unfold frzRow at hm ⊢
 by_cases h0:mxs r=0
 ·rw [if_pos h0,if_pos (hz h0),List.map_drop]
 ·rw [if_neg h0]
  simp only [if_neg h0,forall_const] at hm
  by_cases h1:mxs (r.map D)=0
  ·rw [if_pos h1,← List.map_drop,← List.map_drop,List.map_map]
   refine List.map_congr_left fun x hx=>?_
   have:=(mxs_zero.1 h1) (D x) (List.mem_map.2 ⟨x,List.mem_of_mem_drop hx,rfl⟩)
   rw [← hz2 x hx this]; exact hm x hx
  ·rw [if_neg h1,List.map_map,← List.map_drop,← List.map_drop,List.map_map]
   exact List.map_congr_left fun x hx=>hm x hx
theorem frzRow_map {f g D:AV→AV} {r:List AV} (hz:mxs r=0→mxs (r.map D)=0) (hz2:∀ x∈r,(D x).mx=0→g (D x)=D x) (hm:∀ x∈r,(frzRow f r=r.map f)→g (D x)=D (f x)):frzRow g (r.map D)=(frzRow f r).map D:=by
 unfold frzRow at hm ⊢
 by_cases h0:mxs r=0
 ·rw [if_pos h0,if_pos (hz h0)]
 ·rw [if_neg h0]
  simp only [if_neg h0,forall_const] at hm
  by_cases h1:mxs (r.map D)=0
  ·rw [if_pos h1,List.map_map]
   refine List.map_congr_left fun x hx=>?_
   have:=(mxs_zero.1 h1) (D x) (List.mem_map.2 ⟨x,hx,rfl⟩)
   rw [← hz2 x hx this]; exact hm x hx
  ·rw [if_neg h1,List.map_map,List.map_map]
   exact List.map_congr_left fun x hx=>hm x hx
theorem frzRow_mem {f:AV→AV} {r:List AV} {x:AV} (hx:x∈frzRow f r):(x∈r∧frzRow f r=r)∨(∃ y∈r,f y=x∧frzRow f r=r.map f):=by
 unfold frzRow at hx ⊢
 by_cases h0:mxs r=0
 ·rw [if_pos h0] at hx ⊢; exact .inl ⟨hx,rfl⟩
 ·rw [if_neg h0] at hx ⊢
  obtain ⟨y,hy,e⟩:=List.mem_map.1 hx
  exact .inr ⟨y,hy,e,rfl⟩
theorem clss_iff (l:List (List AV)):AV.clss l=true↔∀ r∈l,∀ x∈r,x.cl=true:=by
 induction l with
 | nil=>simp [AV.clss]
 | cons a l ih=>simp [AV.clss,ih,cls_iff]
theorem cles_iff (l:List (AV × AV)):AV.cles l=true↔∀ e∈l,e.1.cl=true∧e.2.cl=true:=by
 induction l with
 | nil=>simp [AV.cles]
 | cons a l ih=>obtain ⟨x,y⟩:=a; simp [AV.cles,ih,and_assoc]
theorem row_data {cs:List Sh} {r:List AV} (h:Sh.oks cs r=true):mxs r=0:=by
 rw [mxs_zero]
 intro y hy
 obtain ⟨j,hj⟩:=List.getElem?_of_mem hy
 have hl':=oks_length h
 have hlj:j < cs.length:=by have:=(List.getElem?_eq_some_iff.1 hj).1; omega
 exact (ok_cell (oks_get h (List.getElem?_eq_getElem hlj) hj)).2.2.2.2.1
theorem frzS_den (S:Sim V σ Ls st h) {B b':Nat} (hlv:∀ c D,prom V σ st c=some D→(B≤c↔b'≤σ c)) :
  ∀ (n:Nat) (v:AV),v.okv V st.hp.nx→(frzS st B n v).cl=true→frz h b' n (v.den V σ)=(frzS st B n v).den V σ∧(frzS st B n v).okv V st.hp.nx
 | 0,v,ho,_=>⟨rfl,ho⟩
 | n+1,v,ho,hc=>by
   have row:∀ {r:List AV},(∀ x∈r,x.okv V st.hp.nx)→(∀ x∈frzRow (frzS st B n) r,x.cl=true) →
     frzRow (frz h b' n) (r.map (AV.den V σ))=(frzRow (frzS st B n) r).map (AV.den V σ)∧∀ x∈frzRow (frzS st B n) r,x.okv V st.hp.nx:=by
    intro r hr hcl
    refine ⟨frzRow_map (fun h0=>map_mx0 hr h0) (fun x hx h0=>frz_cl h b' n _ h0) (fun x hx e=>?_),fun x hx=>?_⟩
    ·exact (frzS_den S hlv n x (hr x hx) (hcl _ (by rw [e]; exact List.mem_map.2 ⟨x,hx,rfl⟩))).1
    ·rcases frzRow_mem hx with ⟨hx,_⟩ | ⟨y,hy,rfl,e⟩
     ·exact hr x hx
     ·exact (frzS_den S hlv n y (hr y hy) (hcl _ hx)).2
   cases v with
   | agg cs =>
     simp only [frzS,AV.cl,cls_iff] at hc
     simp only [AV.okv,okvs_iff] at ho
     obtain ⟨r1,r2⟩:=row ho hc
     simp only [frzS,frz,AV.den,AV.dens_map,r1,AV.okv,okvs_iff]
     exact ⟨trivial,r2⟩
   | tuple cs =>
     simp only [frzS,AV.cl,cls_iff] at hc
     simp only [AV.okv,okvs_iff] at ho
     obtain ⟨r1,r2⟩:=row ho hc
     simp only [frzS,frz,AV.den,AV.dens_map,r1,AV.okv,okvs_iff]
     exact ⟨trivial,r2⟩
   | func fn a b =>
     simp only [frzS,AV.cl,Bool.and_eq_true,cls_iff] at hc
     simp only [AV.okv,okvs_iff] at ho
     obtain ⟨r1,r2⟩:=row ho.1 hc.1
     obtain ⟨r3,r4⟩:=row ho.2 hc.2
     simp only [frzS,frz,AV.den,AV.dens_map,r1,r3,AV.okv,okvs_iff]
     exact ⟨trivial,r2,r4⟩
   | ms b off len =>
     simp only [frzS] at hc ⊢
     split at hc
     ·rename_i hb
      split at hc
      ·rename_i k rows hg
       unfold frzSl at hc
       split at hc
       ·rename_i hcond
        obtain ⟨c1,c2⟩:=S.hg.cells hg
        have hb':=(hlv b _ (prom_live (V:=V) (σ:=σ) hg rfl)).1 hb
        simp only [AV.cl,clss_iff] at hc
        have hmem:∀ r∈(rows.drop off).take len,∀ x∈r,x.okv V st.hp.nx:=fun r hr=>c2 r (List.mem_of_mem_drop (List.mem_of_mem_take hr))
        have hmap:((rows.map fun r=>r.map (AV.den V σ)).drop off |>.take len).map (frzRow (frz h b' n))=(((rows.drop off).take len).map (frzRow (frzS st B n))).map fun r=>r.map (AV.den V σ):=by
         rw [← List.map_drop,← List.map_take,List.map_map,List.map_map]
         refine List.map_congr_left fun r hr=>?_
         exact (row (hmem r hr) (hc _ (List.mem_map.2 ⟨r,hr,rfl⟩))).1
        have hok:∀ r∈((rows.drop off).take len).map (frzRow (frzS st B n)),∀ x∈r,x.okv V st.hp.nx:=by
         intro r hr
         obtain ⟨q,hq,rfl⟩:=List.mem_map.1 hr
         exact (row (hmem q hq) (hc _ hr)).2
        have hz:mxss ((((rows.drop off).take len).map (frzRow (frzS st B n))).map fun r=>r.map (AV.den V σ))=0:=by
         rw [mxss_zero]
         intro r hr
         obtain ⟨q,hq,rfl⟩:=List.mem_map.1 hr
         exact map_mx0 (hok q hq) (cls_mx ((cls_iff _).2 (hc q hq)))
        simp only [AV.den,frz,hb',if_true,c1,hb,hg]
        rw [hmap]
        unfold frzSl
        rw [if_pos ⟨by simpa using hcond.1,hz⟩,if_pos hcond]
        simp only [AV.den,AV.denss_map,AV.okv,okvss_iff]
        exact ⟨trivial,hok⟩
       ·cases hc
      ·cases hc
     ·cases hc
   | ptr b i o =>
     simp only [frzS] at hc ⊢
     split at hc
     ·rename_i hb
      split at hc
      ·rename_i k rows hg
       split at hc
       ·rename_i r hr
        unfold frzRef at hc
        split at hc
        ·rename_i hcond
         obtain ⟨c1,c2⟩:=S.hg.cells hg
         have hb':=(hlv b _ (prom_live (V:=V) (σ:=σ) hg rfl)).1 hb
         simp only [AV.cl,cls_iff] at hc
         have hro:=c2 r (mem_nth hr)
         have hcl:∀ x∈r.drop o,frzRow (frzS st B n) r=r.map (frzS st B n)→(frzS st B n x).cl=true:=by
          intro x hx e
          refine hc _ ?_
          rw [e,← List.map_drop]
          exact List.mem_map.2 ⟨x,hx,rfl⟩
         have hmap:=frzRow_drop (f:=frzS st B n) (g:=frz h b' n) (D:=AV.den V σ) (r:=r) (o:=o) (fun h0=>map_mx0 hro h0) (fun x hx h0=>frz_cl h b' n _ h0)
          (fun x hx e=>(frzS_den S hlv n x (hro x (List.mem_of_mem_drop hx)) (hcl x hx e)).1)
         have hok:∀ x∈(frzRow (frzS st B n) r).drop o,x.okv V st.hp.nx:=by
          intro x hx
          by_cases h0:mxs r=0
          ·unfold frzRow at hx; rw [if_pos h0] at hx; exact hro x (List.mem_of_mem_drop hx)
          ·have e:frzRow (frzS st B n) r=r.map (frzS st B n):=by unfold frzRow; rw [if_neg h0]
           rw [e,← List.map_drop] at hx
           obtain ⟨y,hy,rfl⟩:=List.mem_map.1 hx
           exact (frzS_den S hlv n y (hro y (List.mem_of_mem_drop hy)) (hcl y hy e)).2
         simp only [AV.den,frz,hb',if_true,c1,nth_map,hr,Option.map_some,hb,hg]
         rw [hmap]
         unfold frzRef
         rw [if_pos (map_mx0 hok hcond),if_pos hcond]
         simp only [AV.den,AV.dens_map,AV.okv,okvs_iff]
         exact ⟨trivial,hok⟩
        ·cases hc
       ·cases hc
      ·cases hc
     ·cases hc
   | mp b =>
     simp only [frzS] at hc ⊢
     split at hc
     ·rename_i hb
      split at hc
      ·rename_i es hg
       unfold frzIm at hc
       split at hc
       ·rename_i hcond
        obtain ⟨c1,c2⟩:=S.hg.map hg
        have hb':=(hlv b _ (prom_live (V:=V) (σ:=σ) hg rfl)).1 hb
        simp only [AV.cl,cles_iff] at hc
        have hval:∀ e∈es,frz h b' n (e.2.den V σ)=(frzS st B n e.2).den V σ∧(frzS st B n e.2).okv V st.hp.nx:=fun e he =>
         frzS_den S hlv n e.2 (c2 e he).2 (hc _ (List.mem_map.2 ⟨e,he,rfl⟩)).2
        have hmap:((es.map fun e=>(e.1.den V σ,e.2.den V σ)).map fun e=>(e.1,frz h b' n e.2))=(es.map fun e=>(e.1,frzS st B n e.2)).map fun e=>(e.1.den V σ,e.2.den V σ):=by
         rw [List.map_map,List.map_map]
         exact List.map_congr_left fun e he=>by simp only [Function.comp,(hval e he).1]
        have hok:∀ e∈es.map (fun e=>(e.1,frzS st B n e.2)),e.1.okv V st.hp.nx∧e.2.okv V st.hp.nx:=by
         intro e he
         obtain ⟨q,hq,rfl⟩:=List.mem_map.1 he
         exact ⟨(c2 q hq).1,(hval q hq).2⟩
        simp only [AV.den,frz,hb',if_true,c1,hb,hg]
        rw [hmap]
        unfold frzIm
        have hcond':(((es.map fun e=>(e.1,frzS st B n e.2)).map fun e=>(e.1.den V σ,e.2.den V σ)).all fun e=>e.1.mx == 0&&e.2.mx == 0)=true:=by
         simp only [List.all_map,List.all_eq_true,Function.comp,Bool.and_eq_true,beq_iff_eq]
         intro e he
         have hm:=hok _ (List.mem_map.2 ⟨e,he,rfl⟩)
         have hcl:=hc _ (List.mem_map.2 ⟨e,he,rfl⟩)
         exact ⟨den_mx0 hm.1 (cl_mx hcl.1),den_mx0 hm.2 (cl_mx hcl.2)⟩
        rw [if_pos hcond',if_pos hcond]
        simp only [AV.den,AV.denes_map,AV.okv,okves_iff]
        exact ⟨trivial,hok⟩
       ·cases hc
      ·cases hc
     ·cases hc
   | sym s e =>
     cases s with
     | own t cs =>
       simp only [frzS] at hc ⊢
       split at hc
       ·rename_i hb
        split at hc
        ·rename_i cs' e' hl
         split at hc
         ·rename_i hcond
          simp only [Bool.and_eq_true] at hcond
          have q1:=Sh.eqbs_eq hcond.1; subst q1
          have q2:=X.eqb_eq hcond.2; subst q2
          have hok:(AV.sym (.sl cs) e).okv V st.hp.nx:=ho.2
          simp only [hb,if_true,hl]
          rw [if_pos (by simp only [Bool.and_eq_true]; exact hcond)]
          refine ⟨?_,hok⟩
          simp only [AV.den,symD]
          rcases ok_sl ho.2 with hn | ⟨rows,hr,hall⟩
          ·rw [hn]; rfl
          ·have hp:prom V σ st t=some (.cells cs.length rows):=by rw [prom_sb S hl]; simp only [SB.prom,hr]
           have hb':=(hlv t _ hp).1 hb
           have hg:=S.core.get t _ hp
           rw [hr]
           simp only [frz,hb',if_true,hg,List.drop_zero,List.take_length]
           have hrows:rows.map (frzRow (frz h b' n))=rows:=by
            have:∀ r∈rows,frzRow (frz h b' n) r=r:=fun r hr=>by unfold frzRow; rw [if_pos (row_data (hall r hr))]
            exact (List.map_congr_left this).trans (List.map_id _)
           rw [hrows]
           unfold frzSl
           rw [if_pos ⟨by simp,mxss_zero.2 fun r hr=>row_data (hall r hr)⟩]
         ·cases hc
        ·cases hc
       ·cases hc
     | mown t k ag cs =>
       simp only [frzS] at hc ⊢
       split at hc
       ·rename_i hb
        split at hc
        ·rename_i k' ag' cs' e' hl
         split at hc
         ·rename_i hcond
          simp only [Bool.and_eq_true,beq_iff_eq] at hcond
          have q1:=Sh.eqb_eq hcond.1.1; subst q1
          have q2:=hcond.1.2; subst q2
          have q3:=Sh.eqbs_eq hcond.2; subst q3
          have hok0:=(S.oks _ _ hl).1
          have hok:(AV.sym (.im k ag cs) e').okv V st.hp.nx:=hok0
          simp only [hb,if_true,hl]
          rw [if_pos (by simp only [Bool.and_eq_true,beq_iff_eq,and_true]; exact ⟨hcond.1.1,hcond.2⟩)]
          refine ⟨?_,hok⟩
          obtain ⟨es,he,hes⟩:=ok_im hok0
          have hp:prom V σ st t=some (.map es):=by rw [prom_sb S hl]; simp only [SB.prom,he]
          have hb':=(hlv t _ hp).1 hb
          have hg:=S.core.get t _ hp
          simp only [AV.den,symD,he]
          simp only [frz,hb',if_true,hg]
          have hmx:∀ e∈es,e.1.mx=0∧e.2.mx=0:=by
           intro e he
           obtain ⟨h1,h2⟩:=hes e he
           refine ⟨(ok_cell h1).2.2.2.2.1,?_⟩
           cases ag with
           | true=>simp only [if_true] at h2; obtain ⟨vs,e1,e2⟩:=h2; rw [e1]; simp only [AV.mx]; exact row_data e2
           | false=>simp only [Bool.false_eq_true,if_false] at h2; have:=row_data h2; simp [mxs] at this; exact this
          have hent:(es.map fun e=>(e.1,frz h b' n e.2))=es:=by
           have:∀ e∈es,(e.1,frz h b' n e.2)=id e:=fun e he=>by rw [frz_cl h b' n _ (hmx e he).2]; rfl
           exact (List.map_congr_left this).trans (List.map_id _)
          rw [hent]
          unfold frzIm
          rw [if_pos (by simp only [List.all_eq_true,Bool.and_eq_true,beq_iff_eq]; exact hmx)]
         ·cases hc
        ·cases hc
       ·cases hc
     | optr t o cs=>cases hc
     | sown t=>cases hc
     | _ =>
       refine ⟨?_,ho⟩
       exact frz_cl h b' (n+1) _ (ok_cell ho).2.2.2.2.1
   | it b=>cases hc
   | yld l=>cases hc
   | ref cs=>exact ⟨rfl,ho⟩
   | sl k rows=>exact ⟨rfl,ho⟩
   | im es=>exact ⟨rfl,ho⟩
   | iface t v=>exact ⟨rfl,ho⟩
   | junk=>exact ⟨rfl,ho⟩
   | bool b=>exact ⟨rfl,ho⟩
   | int k n=>exact ⟨rfl,ho⟩
   | str s=>exact ⟨rfl,ho⟩
   | nilp=>exact ⟨rfl,ho⟩
   | nils=>exact ⟨rfl,ho⟩
   | nilm=>exact ⟨rfl,ho⟩
   | nilf=>exact ⟨rfl,ho⟩
   | nili=>exact ⟨rfl,ho⟩
end
section
variable {Ω:Om} {V:X→AV} {σ:Nat→Nat} {Ls:List (Nat × Nat)} {st st1:SSt} {h:Hp} {T:Tab} {n:Nat}
theorem enter_segs (h:Hp):h.enter.segs=[]::h.segs:=rfl
theorem Sim.enter (S:Sim V σ Ls st h):Sim V σ ((st.hp.nx,h.nx)::Ls) st.enter h.enter where
 core:=by
  have hp:∀ c D,prom V σ st.enter c=some D→prom V σ st c=some D:=by
   intro c D hc
   unfold prom SSt.enter at hc
   simp only [get_enter] at hc
   exact hc
  have C:=S.core.sub hp (Nat.le_refl _)
  have C:=C.same (h':=h.enter) (fun b=>get_enter h b) (Nat.le_refl _)
  refine ⟨C.get,C.inj,C.lt,fun L hL=>?_⟩
  cases hL with
  | head =>
    refine ⟨fun b B hb=>?_,Nat.le_refl _,Nat.le_refl _⟩
    have:=C.lt b B hb
    have e:h.enter.nx=h.nx:=rfl
    rw [e] at this
    have e2:st.enter.hp.nx=st.hp.nx:=rfl
    constructor
    ·intro h1; have h1:st.hp.nx≤b:=h1; omega
    ·intro h1; have h1:h.nx≤σ b:=h1; omega
  | tail _ hL=>exact C.lv L hL
 okb b B hb:=S.okb b B (by have hb:st.hp.enter.get b=some B:=hb; rw [get_enter] at hb; exact hb)
 oks:=S.oks
 dj t s B hs hb:=S.dj t s B hs (by have hb:st.hp.enter.get t=some B:=hb; rw [get_enter] at hb; exact hb)
 segS:=⟨fun _ h=>(by cases h),fun x hx e he=>S.ids x hx e he,S.segS⟩
 segA:=⟨fun _ h=>(by cases h),S.segA⟩
 lk L hL _:=rfl
 fx:=S.fx
 ids s hs e he:=by
  have hs:s∈[]::st.hp.segs:=hs
  cases hs with
  | head=>cases he
  | tail _ hs=>exact S.ids s hs e he
 old L hL b B hb hg:=by
  have hg:st.hp.get b=some B:=by have hg:st.hp.enter.get b=some B:=hg; rw [get_enter] at hg; exact hg
  cases hL with
  | head=>exact S.okb b B hg
  | tail _ hL=>exact S.old L hL b B hb hg
theorem lookS_dropB {base:Nat}:∀ (l:List (Nat × SB)) (t:Nat),lookS (dropB base l) t=if t < base then lookS l t else none
 | [],t=>by simp [dropB,lookS]
 | (c,x)::l,t=>by
   simp only [dropB]
   by_cases hc:c < base
   ·rw [if_pos hc]
    simp only [lookS,lookS_dropB l t]
    by_cases e:t=c
    ·subst e; simp [hc]
    ·simp [e]
   ·rw [if_neg hc]
    simp only [lookS,lookS_dropB l t]
    by_cases e:t=c
    ·subst e; simp [hc]
    ·simp [e]
theorem look_ids {l:List (Nat × Blk)} {b:Nat} (h:∀ e∈ids l,e ≠ b):look l b=none:=look_none fun e he=>h e.1 (List.mem_map.2 ⟨e,he,rfl⟩)
theorem Sim.leave {base b':Nat} {lk0 lk0':Option Nat} {t tA:List (Nat × Blk)} {rs rsA:List (List (Nat × Blk))} (S:Sim V σ ((base,b')::Ls) st h) (ht:st.hp.rest=t::rs) (htA:h.rest=tA::rsA) (hL:∀ L∈Ls,L.1≤base∧L.2≤b')
  (hlk:∀ L∈Ls,lkOk L.1 lk0=true→lkOk L.2 lk0'=true) :
  Sim V σ Ls ⟨{ nx:=base,top:=t,rest:=rs,lk:=lk0 },dropB base st.sb,st.fx⟩ { nx:=b',top:=tA,rest:=rsA,lk:=lk0' }:=by
 have hsegS:=S.segS
 have hsegA:=S.segA
 have e1:st.hp.segs=AM.ids st.hp.top::AM.ids t::rs.map AM.ids:=by unfold Hp.segs; rw [ht]; rfl
 have e2:h.segs=AM.ids h.top::AM.ids tA::rsA.map AM.ids:=by unfold Hp.segs; rw [htA]; rfl
 rw [e1] at hsegS
 rw [e2] at hsegA
 obtain ⟨s1,s2,s3⟩:=hsegS
 obtain ⟨a1,a2⟩:=hsegA
 have hid:∀ s∈(Hp.mk base t rs lk0).segs,∀ e∈s,e < base:=s2
 have hget:∀ c B,(Hp.mk base t rs lk0).get c=some B→c < base∧st.hp.get c=some B:=by
  intro c B hc
  have hlt:c < base:=by
   rcases get_mem hc with hm | ⟨s,hs,hm⟩
   ·exact hid (AM.ids t) (.head _) c (List.mem_map.2 ⟨_,hm,rfl⟩)
   ·exact hid (AM.ids s) (.tail _ (List.mem_map.2 ⟨s,hs,rfl⟩)) c (List.mem_map.2 ⟨_,hm,rfl⟩)
  refine ⟨hlt,?_⟩
  unfold Hp.get
  have htop:look st.hp.top c=none:=look_ids fun e he=>by have:=s1 e he; omega
  rw [htop,ht]
  simp only [lookRest]
  unfold Hp.get at hc
  simp only at hc
  exact hc
 have hgetA:∀ c,c < b'→h.get c=(Hp.mk b' tA rsA lk0').get c:=by
  intro c hc
  have htop:look h.top c=none:=look_ids fun e he=>by have:=a1 e he; omega
  unfold Hp.get
  rw [htop,htA]
  rfl
 have hprom:∀ c D,prom V σ ⟨{ nx:=base,top:=t,rest:=rs,lk:=lk0 },dropB base st.sb,st.fx⟩ c=some D→c < base∧prom V σ st c=some D:=by
  intro c D hc
  unfold prom promS at hc
  simp only [lookS_dropB] at hc
  have sbp:(match (if c < base then lookS st.sb c else none) with | some s=>s.prom V | none=>none)=some D→c < base∧prom V σ st c=some D:=by
   intro hq
   by_cases hlt:c < base
   ·rw [if_pos hlt] at hq
    refine ⟨hlt,?_⟩
    split at hq
    ·rename_i s hs; rw [prom_sb S hs]; exact hq
    ·cases hq
   ·rw [if_neg hlt] at hq; cases hq
  split at hc
  ·rename_i B hB
   obtain ⟨h1,h2⟩:=hget c B hB
   cases hl:B.liveS with
   | true=>rw [if_pos hl] at hc; exact ⟨h1,by rw [prom_live h2 hl]; exact hc⟩
   | false=>rw [if_neg (by rw [hl]; simp)] at hc; exact sbp hc
  ·exact sbp hc
 have hlow:∀ c D,prom V σ st c=some D→c < base→σ c < b':=by
  intro c D hc hlt
  have:=(S.core.lv (base,b') (.head _)).1 c D hc
  have h1:¬ base≤c:=by omega
  have h2:¬ b'≤σ c:=fun h=>h1 (this.2 h)
  omega
 refine ⟨⟨fun c D hc=>?_,fun c d D F hc hd e=>?_,fun c D hc=>?_,fun L hL'=>⟨fun c D hc=>?_,(hL L hL').1,(hL L hL').2⟩⟩,fun c B hc=>?_,fun q s hs=>?_,fun q s B hs hq=>?_,s3,a2,hlk,S.fx,hid,fun L hL' c B hlt hc=>?_⟩
 ·obtain ⟨h1,h2⟩:=hprom c D hc
  rw [← hgetA _ (hlow c D h2 h1)]
  exact S.core.get c D h2
 ·exact S.core.inj c d D F (hprom c D hc).2 (hprom d F hd).2 e
 ·obtain ⟨h1,h2⟩:=hprom c D hc
  exact ⟨h1,hlow c D h2 h1⟩
 ·exact (S.core.lv L (.tail _ hL')).1 c D (hprom c D hc).2
 ·obtain ⟨h1,h2⟩:=hget c B hc
  exact S.old (base,b') (.head _) c B h1 h2
 ·have hs:lookS (dropB base st.sb) q=some s:=hs
  rw [lookS_dropB] at hs
  split at hs
  ·rename_i hlt; exact ⟨(S.oks q s hs).1,hlt⟩
  ·cases hs
 ·have hs:lookS (dropB base st.sb) q=some s:=hs
  rw [lookS_dropB] at hs
  split at hs
  ·exact S.dj q s B hs (hget q B hq).2
  ·cases hs
 ·exact S.old L (.tail _ hL') c B hlt (hget c B hc).2
theorem freshF_den (hV:IsV Ω V) {Ls:List (Nat × Nat)} {st:SSt} {h:Hp} (S:Sim V σ Ls st h) {f f':List AV} (hf:FrS V σ st.hp.nx f f'):FrS V σ st.hp.nx (freshF st.sb f) f':=by
 unfold freshF
 split
 ·induction hf with
  | nil=>exact .nil
  | cons a a' l l' h t ih =>
    refine .cons _ _ _ _ ?_ ih
    unfold freshO
    split
    ·rename_i t cs e
     split
     ·rename_i cs' e' hl
      split
      ·rename_i hc
       simp only [Bool.and_eq_true] at hc
       rcases h with h | ⟨h1,h2⟩
       ·cases h
       ·obtain ⟨c1,c2⟩:=hc
        have e1:=Sh.eqbs_eq c1
        have e2:=X.eqb_eq c2
        subst e1
        obtain ⟨g1,g2⟩:=S.oks _ _ hl
        refine .inr ⟨⟨h1.1,g1⟩,?_⟩
        rw [h2]
        show symD V σ (.own t cs) e=symD V σ (.own t cs) e'
        rw [← hd_own hV t cs 99 e,e2,hd_own hV t cs 99 e']
      ·exact h
     ·exact h
    ·exact h
 ·exact hf
theorem fzV_ne {b k:Nat} {rows:List (List AV)} {v:AV} (h:∀ c o l,v = .ms c o l→c ≠ b):fzV b k rows v=v:=by
 cases v<;>simp only [fzV]
 rename_i c o l
 rw [if_neg (h c o l rfl)]
theorem den_ms {n:Nat} {a:AV} (ho:a.okv V n) (h1:∀ t cs e,a ≠ .sym (.own t cs) e) (h2:∀ c o l,a ≠ .ms c o l):∀ c o l,a.den V σ ≠ .ms c o l:=by
 intro c o l he
 cases a<;>simp only [AV.den] at he<;>try (cases he; done)
 ·exact h2 _ _ _ rfl
 ·rename_i s e
  cases s with
  | own t cs=>exact h1 _ _ _ rfl
  | optr t o cs=>simp [symD] at he
  | mown t k ag cs=>simp [symD] at he
  | sown t=>simp [symD] at he
  | _ =>
    have h7:=data_block ho
    have he:V e = .ms c o l:=he
    rw [he] at h7; cases h7
theorem FrS.len {n:Nat} {f f':List AV} (hf:FrS V σ n f f'):f.length=f'.length:=by
 induction hf with
 | nil=>rfl
 | cons _ _ _ _ _ _ ih=>simp [ih]
theorem FrS.at {n:Nat} {f f':List AV} (hf:FrS V σ n f f'):∀ (t:Nat) (a:AV),nth f t=some a→∃ a',nth f' t=some a'∧SlD V σ n a a':=by
 induction hf with
 | nil=>intro t a h; simp [nth] at h
 | cons a a' l l' h t ih =>
   intro t a h1
   cases t with
   | zero=>simp only [nth,Option.some.injEq] at h1; subst h1; exact ⟨a',rfl,h⟩
   | succ t=>exact ih t a h1
theorem FrS.mapW {n:Nat} {f f':List AV} (hf:FrS V σ n f f') {g g':AV→AV} (hg:∀ a a',SlD V σ n a a'→SlD V σ n (g a) (g' a')):FrS V σ n (f.map g) (f'.map g'):=by
 induction hf with
 | nil=>exact .nil
 | cons a a' l l' h t ih=>exact .cons _ _ _ _ (hg a a' h) ih
theorem fzSlotS_den (hV:IsV Ω V) {Ls:List (Nat × Nat)} {M t:Nat} {r r1:List AV × SSt} {s:List AV × Hp} (S:Sim V σ Ls r.2 s.2) (hf:FrS V σ r.2.hp.nx r.1 s.1) (hs:(fzSlotS M r t).sel V=some r1) :
  Sim V σ Ls r1.2 (fzSlot M s t).2∧FrS V σ r1.2.hp.nx r1.1 (fzSlot M s t).1∧r1.2.hp.nx=r.2.hp.nx:=by
 unfold fzSlotS at hs
 unfold fzSlot
 by_cases hM:M.testBit t=true
 ·rw [if_pos hM] at hs ⊢
  injection hs with hs; subst hs
  exact ⟨S,hf,rfl⟩
 rw [if_neg hM] at hs ⊢
 split at hs
 ·rename_i u cs e hn
  obtain ⟨a',hn',hsl⟩:=hf.at t _ hn
  rcases hsl with hsl | ⟨ho,rfl⟩
  ·cases hsl
  split at hs
  ·rename_i cs' e' hl
   split at hs
   ·rename_i hc
    injection hs with hs; subst hs
    simp only [Bool.and_eq_true] at hc
    have c1:=Sh.eqbs_eq hc.1
    have c2:=X.eqb_eq hc.2
    subst c1
    have hown:∀ {cs2:List Sh} {e2:X},hdX 99 e2=hdX 99 e'→symD V σ (.own u cs2) e2=symD V σ (.own u cs2) e':=fun h=>by
     rw [← hd_own hV u _ 99,h,hd_own hV u _ 99]
    have hdead:∀ B,r.2.hp.get u=some B→B.liveS=false:=fun B hB=>S.dj _ _ _ hl hB
    obtain ⟨g1,g2⟩:=S.oks _ _ hl
    have g1:(Sh.sl cs).ok (V e')=true:=g1
    have e1:AV.den V σ (.sym (.own u cs) e)=symD V σ (.own u cs) e':=hown c2
    rw [e1] at hn'
    rcases ok_sl g1 with h0 | ⟨rows,h0,hr⟩
    ·have e2:∀ cs2,symD V σ (.own u cs2) e' = .nils:=fun cs2=>by simp only [symD,h0]
     rw [e2] at hn'
     rw [hn']
     refine ⟨S.forgetS hdead,?_,rfl⟩
     have:FrS V σ r.2.hp.nx (r.1.map (fzVS r.2 u cs e')) (s.1.map id):=hf.mapW fun a a' h=>by
      rcases h with rfl | ⟨h1,rfl⟩
      ·exact .inl rfl
      ·unfold fzVS
       split
       ·rename_i t2 cs2 e3
        split
        ·rename_i ht; subst ht
         split
         ·rename_i hc2
          simp only [Bool.and_eq_true] at hc2
          have d1:=Sh.eqbs_eq hc2.1; subst d1
          refine .inr ⟨g1,?_⟩
          have:AV.den V σ (.sym (.own t2 cs) e3)=symD V σ (.own t2 cs) e':=hown (X.eqb_eq hc2.2)
          rw [id,this,e2]
          exact h0.symm
         ·exact .inl rfl
        ·split
         ·split
          ·exact .inr ⟨h1,rfl⟩
          ·exact .inl rfl
         ·exact .inl rfl
       ·split
        ·split
         ·exact .inr ⟨h1,rfl⟩
         ·exact .inl rfl
        ·exact .inl rfl
       ·exact .inr ⟨h1,rfl⟩
     simpa using this
    ·have e2:∀ cs2,symD V σ (.own u cs2) e' = .ms (σ u) 0 rows.length:=fun cs2=>by simp only [symD,h0]
     rw [e2] at hn'
     have hprom:(SB.rows cs e').prom V=some (.cells cs.length rows):=by simp only [SB.prom,h0]
     have hpu:prom V σ r.2 u=some (.cells cs.length rows):=by rw [prom_sb S hl]; exact hprom
     have hg:=S.core.get u _ hpu
     rw [hn']
     have hmm:=rows_mx hr
     simp only [hg]
     rw [if_pos hmm]
     refine ⟨S.killS hl hprom,?_,trivial⟩
     refine hf.mapW fun a a' h=>?_
     rcases h with rfl | ⟨h1,rfl⟩
     ·exact .inl rfl
     ·unfold fzVS
      split
      ·rename_i t2 cs2 e3
       split
       ·rename_i ht; subst ht
        split
        ·rename_i hc2
         simp only [Bool.and_eq_true] at hc2
         have d1:=Sh.eqbs_eq hc2.1; subst d1
         refine .inr ⟨g1,?_⟩
         have:AV.den V σ (.sym (.own t2 cs) e3)=symD V σ (.own t2 cs) e':=hown (X.eqb_eq hc2.2)
         rw [this,e2]
         simp only [fzV,if_true,Nat.zero_add,Nat.le_refl,List.drop_zero,List.take_length]
         exact h0.symm
        ·exact .inl rfl
       ·rename_i ht
        split
        ·rename_i cs3 e4 hl2
         split
         ·rename_i hc2
          refine .inr ⟨h1,?_⟩
          have d2:AV.den V σ (.sym (.own t2 cs2) e3)=symD V σ (.own t2 cs2) e4:=by
           show symD V σ (.own t2 cs2) e3=_
           rw [← hd_own hV t2 cs2 99,X.eqb_eq hc2,hd_own hV t2 cs2 99]
          rw [d2]
          refine fzV_ne fun c o l he=>?_
          obtain ⟨k1,_⟩:=S.oks _ _ hl2
          rcases ok_sl (cs:=cs3) k1 with k2 | ⟨rows2,k2,_⟩
          ·simp only [symD,k2] at he; cases he
          ·simp only [symD,k2] at he
           injection he with he1
           rw [← he1]
           intro heq
           have hp2:prom V σ r.2 t2=some (.cells cs3.length rows2):=by rw [prom_sb S hl2]; simp only [SB.prom,k2]
           exact ht (S.core.inj _ _ _ _ hp2 hpu heq)
         ·exact .inl rfl
        ·exact .inl rfl
      ·rename_i c off len
       split
       ·rename_i B hB
        split
        ·rename_i hlv
         refine .inr ⟨h1,?_⟩
         refine fzV_ne fun c' o l he=>?_
         simp only [AV.den] at he
         injection he with he1
         rw [← he1]
         intro heq
         have:=S.core.inj _ _ _ _ (prom_live hB hlv) hpu heq
         subst this
         rw [hdead B hB] at hlv; cases hlv
        ·exact .inl rfl
       ·exact .inl rfl
      ·rename_i n1 n2
       refine .inr ⟨h1,?_⟩
       exact fzV_ne fun c o l he=>absurd he (den_ms h1 (fun t cs e h=>n1 t cs e h) (fun c o l h=>n2 c o l h) c o l)
   ·cases hs
  ·cases hs
 ·cases hs
 ·cases hs
 ·rename_i n1 n2 n3
  injection hs with hs; subst hs
  have:∀ b off len,nth s.1 t ≠ some (.ms b off len):=by
   intro b off len he
   cases hn:nth r.1 t with
   | none =>
     rw [nth_eq] at hn he
     have h1:=List.getElem?_eq_none_iff.1 hn
     have h2:=(List.getElem?_eq_some_iff.1 he).1
     rw [hf.len] at h1; omega
   | some a =>
     obtain ⟨a',h1,h2⟩:=hf.at t a hn
     rw [he] at h1
     injection h1 with h1
     rcases h2 with rfl | ⟨h3,h4⟩
     ·exact n3 hn
     ·exact den_ms h3 (fun t cs e h=>n1 t cs e (h ▸ hn)) (fun c o l h=>n2 c o l (h ▸ hn)) b off len (by rw [← h4,← h1])
  split
  ·rename_i b off len he; exact absurd he (this b off len)
  ·exact ⟨S,hf,rfl⟩
theorem fzFoldS_den (hV:IsV Ω V) {Ls:List (Nat × Nat)} {M:Nat}:∀ (l:List Nat) {r r1:List AV × SSt} {s:List AV × Hp},Sim V σ Ls r.2 s.2→FrS V σ r.2.hp.nx r.1 s.1→(fzFoldS M l r).sel V=some r1 →
  Sim V σ Ls r1.2 (l.foldl (fzSlot M) s).2∧FrS V σ r1.2.hp.nx r1.1 (l.foldl (fzSlot M) s).1∧r1.2.hp.nx=r.2.hp.nx
 | [],r,r1,s,S,hf,hs=>by
   injection hs with hs; subst hs
   exact ⟨S,hf,rfl⟩
 | t::l,r,r1,s,S,hf,hs=>by
   simp only [fzFoldS] at hs
   rw [sel_bind] at hs
   obtain ⟨r2,h1,h2⟩:=hs
   obtain ⟨g1,g2,g3⟩:=fzSlotS_den hV S hf h1
   obtain ⟨k1,k2,k3⟩:=fzFoldS_den hV l g1 g2 h2
   exact ⟨k1,k2,k3.trans g3⟩
theorem norm_den {σ1:Nat→Nat} {m:Nat}:∀ {f f' g g':List AV},FrS V σ n f f'→FrS V σ1 m g g'→FrS V σ1 m (norm f g) (norm f' g')
 | _,_,_,_,.nil,hg=>by simpa [norm] using hg
 | _,_,_,_,.cons _ _ _ _ _ _,.nil=>.nil
 | _,_,_,_,.cons a a' l l' ha hl,.cons b b' r r' hb hr=>by
   simp only [norm]
   refine .cons _ _ _ _ ?_ (norm_den hl hr)
   by_cases hu:a.un=true
   ·rw [if_pos hu]; exact .inl rfl
   ·have hu:a.un=false:=by simpa using hu
    rcases ha with rfl | ⟨ho,rfl⟩
    ·simp [AV.un] at hu
    ·rw [den_un ho hu,hu]
     simpa using hb
structure AftC (V:X→AV) (nl:Bool) (n:Nat) (σ σ1:Nat→Nat) (Ls:List (Nat × Nat)) (st1:SSt) (h1:Hp):Prop where
 sim:Sim V σ1 Ls st1 h1
 agr:nl=true→Agr n σ σ1∧n≤st1.hp.nx
theorem AftC.of {nl:Bool} {σ1:Nat→Nat} {h1:Hp} (a:Aft V σ σ1 Ls st st1 h1):AftC V nl st.hp.nx σ σ1 Ls st1 h1 :=
 ⟨a.sim,fun _=>⟨a.agr,a.le⟩⟩
theorem AftC.refl {nl:Bool} (S:Sim V σ Ls st h):AftC V nl st.hp.nx σ σ Ls st h:=⟨S,fun _=>⟨Agr.refl _ _,Nat.le_refl _⟩⟩
theorem AftC.trans {nl:Bool} {n:Nat} {σ1 σ2:Nat→Nat} {st1 st2:SSt} {h1 h2:Hp} (a:AftC V nl n σ σ1 Ls st1 h1) (b:AftC V nl st1.hp.nx σ1 σ2 Ls st2 h2):AftC V nl n σ σ2 Ls st2 h2 :=
 ⟨b.sim,fun hn=>⟨(a.agr hn).1.trans (b.agr hn).1 (a.agr hn).2,Nat.le_trans (a.agr hn).2 (b.agr hn).2⟩⟩
theorem AftC.le {nl:Bool} {n:Nat} {σ1:Nat→Nat} {st1 st2:SSt} {h1:Hp} (a:AftC V nl n σ σ1 Ls st1 h1) (hl:LeSt V st1 st2):AftC V nl n σ σ1 Ls st2 h1:=⟨hl.1 a.sim,fun hn=>⟨(a.agr hn).1,Nat.le_trans (a.agr hn).2 hl.2⟩⟩
def LoopAt (V:X→AV) (Ls:List (Nat × Nat)) (T:Tab) (invA:Inv) (kA M:Nat) (L:LSpec) (c:Code):Prop :=
 ∀ {σ:Nat→Nat} {st:SSt} {h:Hp} {fr fr':List AV} {dfr:List Nat} {ex:Ex} {fr1:List AV} {st1:SSt},Sim V σ Ls st h→FrS V σ st.hp.nx fr fr'→(loopS L fr st).sel V=some (ex,fr1,st1) →
   ∃ fr1' h1 σ1,iter (exec T invA kA M none c) kA ⟨fr',dfr⟩ h = .ok (ex,⟨fr1',dfr⟩,h1)∧FrS V σ1 st1.hp.nx fr1 fr1'∧Sim V σ1 Ls st1 h1
def loopsOf:Code→List Code
 | .seq a b=>loopsOf a++loopsOf b
 | .cond _ a b=>loopsOf a++loopsOf b
 | .block _ c=>loopsOf c
 | .scope c=>loopsOf c
 | .loop c=>c::loopsOf c
 | _=>[]
variable {inv:InvS} {invA:Inv} {cx:Cx} {base b' M k kA:Nat} {nl:Bool}
def ExecR (V:X→AV) (nl:Bool) (T:Tab) (invA:Inv) (kA M base b':Nat) (Ls:List (Nat × Nat)) (c:Code) (f:List AV→SSt→OutS):Prop :=
 ∀ {σ:Nat→Nat} {st:SSt} {h:Hp} {fr fr':List AV} {dfr:List Nat} {ex:Ex} {fr1:List AV} {st1:SSt},Sim V σ ((base,b')::Ls) st h→FrS V σ st.hp.nx fr fr'→(f fr st).sel V=some (ex,fr1,st1) →
   ∃ fr1' h1 σ1,exec T invA kA M none c ⟨fr',dfr⟩ h = .ok (ex,⟨fr1',dfr⟩,h1)∧FrS V σ1 st1.hp.nx fr1 fr1'∧AftC V nl st.hp.nx σ σ1 ((base,b')::Ls) st1 h1
theorem iterS_den {T:Tab} {c:Code} {body:List AV→SSt→OutS} (hb:ExecR V nl T invA kA M base b' Ls c body):∀ (k j:Nat),k≤j→∀ {σ:Nat→Nat} {st:SSt} {h:Hp} {fr fr':List AV} {dfr:List Nat} {ex:Ex} {fr1:List AV} {st1:SSt},
  Sim V σ ((base,b')::Ls) st h→FrS V σ st.hp.nx fr fr'→(iterS body k fr st).sel V=some (ex,fr1,st1) →
  ∃ fr1' h1 σ1,iter (exec T invA kA M none c) j ⟨fr',dfr⟩ h = .ok (ex,⟨fr1',dfr⟩,h1)∧FrS V σ1 st1.hp.nx fr1 fr1'∧AftC V nl st.hp.nx σ σ1 ((base,b')::Ls) st1 h1
 | 0,_,_,_,_,_,_,_,_,_,_,_,_,_,hs=>by cases hs
 | k+1,0,hk,_,_,_,_,_,_,_,_,_,_,_,_=>by omega
 | k+1,j+1,hk,σ,st,h,fr,fr',dfr,ex,fr1,st1,S,hf,hs=>by
   simp only [iterS] at hs
   rw [sel_bind] at hs
   obtain ⟨⟨ex2,fr2,st2⟩,h1,hs⟩:=hs
   obtain ⟨fr2',h2,σ2,e2,f2,a2⟩:=hb (dfr:=dfr) S hf h1
   simp only [iter,e2,Nd.bind]
   cases ex2 with
   | normal =>
     simp only at hs ⊢
     obtain ⟨fr3',h3,σ3,e3,f3,a3⟩:=iterS_den hb k j (by omega) (dfr:=dfr) a2.sim (norm_den hf f2) hs
     exact ⟨fr3',h3,σ3,e3,f3,a2.trans a3⟩
   | exit id =>
     simp only at hs ⊢
     injection hs with hs; simp only [Prod.mk.injEq] at hs; obtain ⟨rfl,rfl,rfl⟩:=hs
     exact ⟨_,h2,σ2,rfl,norm_den hf f2,a2⟩
   | ret =>
     simp only at hs ⊢
     injection hs with hs; simp only [Prod.mk.injEq] at hs; obtain ⟨rfl,rfl,rfl⟩:=hs
     exact ⟨_,h2,σ2,rfl,f2,a2⟩
theorem execS_den (hV:IsV Ω V) (hi:InvR V inv invA) (hB:∀ L∈Ls,L.1≤base) (hk:k≤kA) (hp:∀ q,cx.loops q ≠ .probe∨True):∀ (c:Code),(∀ d∈loopsOf c,∀ L,cx.loops ((keyOf d).getD 0) = .spec L→nl=false∧LoopAt V ((base,b')::Ls) cx.T invA kA M L d) →
  (∀ d∈loopsOf c,cx.loops ((keyOf d).getD 0) ≠ .probe)→ExecR V nl cx.T invA kA M base b' Ls c (execS cx inv k base M c)
 | .skip,_,_,σ,st,h,fr,fr',dfr,ex,fr1,st1,S,hf,hs=>by
   simp only [execS] at hs
   injection hs with hs; simp only [Prod.mk.injEq] at hs; obtain ⟨rfl,rfl,rfl⟩:=hs
   exact ⟨_,h,σ,rfl,hf,AftC.refl S⟩
 | .region id ops draw,_,_,σ,st,h,fr,fr',dfr,ex,fr1,st1,S,hf,hs=>by
   simp only [execS] at hs
   rw [sel_bind] at hs
   obtain ⟨⟨fr0,st0⟩,h0,hs⟩:=hs
   rw [sel_bind] at hs
   obtain ⟨⟨fr2,st2⟩,h1,hs⟩:=hs
   injection hs with hs; simp only [Prod.mk.injEq] at hs; obtain ⟨rfl,rfl,rfl⟩:=hs
   obtain ⟨S0,f0,n0⟩:=fzFoldS_den hV _ (r:=(fr,st)) (s:=(fr',h)) S hf h0
   obtain ⟨s1,h2,σ2,e2,f2,a2⟩:=regionS_den hV (by simp) hi (fun L hL=>by
    cases hL with
    | head=>exact Nat.le_refl _
    | tail _ hL=>exact hB L hL) S0 f0 h1
   refine ⟨s1.fr,h2,σ2,?_,freshF_den hV a2.sim f2,n0 ▸ AftC.of a2⟩
   simp only [exec,preFz,e2,Nd.bind]
 | .seq a b,hl,hpr,σ,st,h,fr,fr',dfr,ex,fr1,st1,S,hf,hs=>by
   simp only [execS] at hs
   rw [sel_bind] at hs
   obtain ⟨⟨ex2,fr2,st2⟩,h1,hs⟩:=hs
   obtain ⟨fr2',h2,σ2,e2,f2,a2⟩:=execS_den hV hi hB hk hp a (fun d hd=>hl d (List.mem_append_left _ hd)) (fun d hd=>hpr d (List.mem_append_left _ hd)) (dfr:=dfr) S hf h1
   simp only [exec,e2,Nd.bind]
   cases ex2 with
   | normal =>
     simp only at hs ⊢
     obtain ⟨fr3',h3,σ3,e3,f3,a3⟩:=execS_den hV hi hB hk hp b (fun d hd=>hl d (List.mem_append_right _ hd)) (fun d hd=>hpr d (List.mem_append_right _ hd)) (dfr:=dfr) a2.sim f2 hs
     exact ⟨fr3',h3,σ3,e3,f3,a2.trans a3⟩
   | exit id =>
     simp only at hs ⊢
     injection hs with hs; simp only [Prod.mk.injEq] at hs; obtain ⟨rfl,rfl,rfl⟩:=hs
     exact ⟨_,h2,σ2,rfl,f2,a2⟩
   | ret =>
     simp only at hs ⊢
     injection hs with hs; simp only [Prod.mk.injEq] at hs; obtain ⟨rfl,rfl,rfl⟩:=hs
     exact ⟨_,h2,σ2,rfl,f2,a2⟩
 | .cond c x y,hl,hpr,σ,st,h,fr,fr',dfr,ex,fr1,st1,S,hf,hs=>by
   have he:=evS_den (M:=M) (s:=⟨fr,[]⟩) (s':=⟨fr',[]⟩) ⟨hf,.nil⟩
   simp only [execS] at hs
   have hx:=fun {st'} S' (hf':FrS V σ (SSt.hp st').nx fr fr') h1=>execS_den hV hi hB hk hp x (fun d hd=>hl d (List.mem_append_left _ hd)) (fun d hd=>hpr d (List.mem_append_left _ hd)) (σ:=σ) (h:=h) (dfr:=dfr) (ex:=ex) (fr1:=fr1) (st1:=st1) (st:=st') S' hf' h1
   have hy:=fun {st'} S' (hf':FrS V σ (SSt.hp st').nx fr fr') h1=>execS_den hV hi hB hk hp y (fun d hd=>hl d (List.mem_append_right _ hd)) (fun d hd=>hpr d (List.mem_append_right _ hd)) (σ:=σ) (h:=h) (dfr:=dfr) (ex:=ex) (fr1:=fr1) (st1:=st1) (st:=st') S' hf' h1
   split at hs
   ·rename_i hc
    have:=(he c _ hc).1
    simp only [AV.den] at this
    simp only [exec,this]
    exact hx S hf hs
   ·rename_i hc
    have:=(he c _ hc).1
    simp only [AV.den] at this
    simp only [exec,this]
    exact hy S hf hs
   ·rename_i e hc
    obtain ⟨c1,c2⟩:=he c _ hc
    have hb:=ok_bool c2
    have c1:evalA M fr' [] c=some (.bool (V e).bB):=by rw [c1]; simp only [AV.den,symD]; rw [← hb]
    unfold condT at hs
    split at hs
    ·rename_i hfct
     have:=factOf_ok S.fx hfct
     simp only [exec,c1,this]
     exact hx S hf hs
    ·rename_i hfct
     have:=factOf_ok S.fx hfct
     simp only [exec,c1,this]
     exact hy S hf hs
    ·obtain ⟨⟨ex2,fr2,st2⟩,h1,h2⟩:=join_sel hV LeE.refl (fun c a b m h=>mgEx_le hV c a b m h) hs
     obtain ⟨l0,l1,l2⟩:=h2
     simp only at l0; subst l0
     rw [sel_ite] at h1
     rcases h1 with ⟨hbb,h1⟩ | ⟨hbb,h1⟩
     ·obtain ⟨fr3',h3,σ3,e3,f3,a3⟩:=execS_den hV hi hB hk hp x (fun d hd=>hl d (List.mem_append_left _ hd)) (fun d hd=>hpr d (List.mem_append_left _ hd)) (dfr:=dfr) (S.fact hbb) hf h1
      simp only [exec,c1,hbb]
      exact ⟨fr3',h3,σ3,e3,l1 f3,a3.le l2⟩
     ·obtain ⟨fr3',h3,σ3,e3,f3,a3⟩:=execS_den hV hi hB hk hp y (fun d hd=>hl d (List.mem_append_right _ hd)) (fun d hd=>hpr d (List.mem_append_right _ hd)) (dfr:=dfr) (S.fact hbb) hf h1
      simp only [exec,c1,hbb]
      exact ⟨fr3',h3,σ3,e3,l1 f3,a3.le l2⟩
   ·cases hs
 | .block id c,hl,hpr,σ,st,h,fr,fr',dfr,ex,fr1,st1,S,hf,hs=>by
   simp only [execS] at hs
   obtain ⟨⟨ex2,fr2,st2⟩,h1,h2⟩:=fold_sel hV LeE.refl (fun _ _ _=>LeE.trans) (fun c a b m h=>mgEx_le hV c a b m h) hs
   obtain ⟨l0,l1,l2⟩:=h2
   simp only at l0; subst l0
   rw [sel_bind] at h1
   obtain ⟨⟨ex3,fr3,st3⟩,h3,h1⟩:=h1
   obtain ⟨fr3',h4,σ3,e3,f3,a3⟩:=execS_den hV hi hB hk hp c hl hpr (dfr:=dfr) S hf h3
   simp only [exec,e3,Nd.bind]
   cases ex3 with
   | normal =>
     simp only at h1 ⊢
     injection h1 with h1; simp only [Prod.mk.injEq] at h1; obtain ⟨rfl,rfl,rfl⟩:=h1
     exact ⟨fr3',h4,σ3,rfl,l1 f3,a3.le l2⟩
   | ret =>
     simp only at h1 ⊢
     injection h1 with h1; simp only [Prod.mk.injEq] at h1; obtain ⟨rfl,rfl,rfl⟩:=h1
     exact ⟨fr3',h4,σ3,rfl,l1 f3,a3.le l2⟩
   | exit id' =>
     simp only at h1 ⊢
     split at h1
     ·rename_i hid
      injection h1 with h1; simp only [Prod.mk.injEq] at h1; obtain ⟨rfl,rfl,rfl⟩:=h1
      rw [if_pos hid]
      exact ⟨fr3',h4,σ3,rfl,l1 f3,a3.le l2⟩
     ·rename_i hid
      injection h1 with h1; simp only [Prod.mk.injEq] at h1; obtain ⟨rfl,rfl,rfl⟩:=h1
      rw [if_neg hid]
      exact ⟨fr3',h4,σ3,rfl,l1 f3,a3.le l2⟩
 | .loop c,hl,hpr,σ,st,h,fr,fr',dfr,ex,fr1,st1,S,hf,hs=>by
   simp only [execS] at hs
   simp only [exec]
   have ih:ExecR V nl cx.T invA kA M base b' Ls c (execS cx inv k base M c):=by
    intro σ st h fr fr' dfr ex fr1 st1
    exact execS_den hV hi hB hk hp c (fun d hd=>hl d (List.mem_cons_of_mem _ hd)) (fun d hd=>hpr d (List.mem_cons_of_mem _ hd))
   split at hs
   ·exact iterS_den ih k kA hk S (norm_den hf hf) hs
   ·rename_i hq; exact absurd hq (hpr c (List.mem_cons_self ..))
   ·rename_i L hq
    obtain ⟨hn,hat⟩:=hl c (List.mem_cons_self ..) L hq
    obtain ⟨fr1',h1,σ1,e1,f1,S1⟩:=hat (dfr:=dfr) S (norm_den hf hf) hs
    exact ⟨fr1',h1,σ1,e1,f1,S1,fun h=>by rw [hn] at h; cases h⟩
 | .exit id,_,_,σ,st,h,fr,fr',dfr,ex,fr1,st1,S,hf,hs=>by
   simp only [execS] at hs
   injection hs with hs; simp only [Prod.mk.injEq] at hs; obtain ⟨rfl,rfl,rfl⟩:=hs
   exact ⟨_,h,σ,rfl,hf,AftC.refl S⟩
 | .scope c,hl,hpr,σ,st,h,fr,fr',dfr,ex,fr1,st1,S,hf,hs=>by
   simp only [execS] at hs
   simp only [exec]
   exact execS_den hV hi hB hk hp c hl hpr (dfr:=dfr) S hf hs
 | .label l,_,_,σ,st,h,fr,fr',dfr,ex,fr1,st1,S,hf,hs=>by
   simp only [execS] at hs
   injection hs with hs; simp only [Prod.mk.injEq] at hs; obtain ⟨rfl,rfl,rfl⟩:=hs
   exact ⟨_,h,σ,rfl,hf,AftC.refl S⟩
 | .ret,_,_,σ,st,h,fr,fr',dfr,ex,fr1,st1,S,hf,hs=>by
   simp only [execS] at hs
   injection hs with hs; simp only [Prod.mk.injEq] at hs; obtain ⟨rfl,rfl,rfl⟩:=hs
   exact ⟨_,h,σ,rfl,hf,AftC.refl S⟩
 | .rangeFunc _ _ _ _,_,_,_,_,_,_,_,_,_,_,_,_,_,hs=>by simp [execS,Te.sel] at hs
 | .goto _,_,_,_,_,_,_,_,_,_,_,_,_,_,hs=>by simp [execS,Te.sel] at hs
 | .refuse _,_,_,_,_,_,_,_,_,_,_,_,_,_,hs=>by simp [execS,Te.sel] at hs
end
mutual
def mtV:AV→AV→Option (List (Nat × AV))
 | .sym s e,a=>(match e with
   | .v j=>if s.ok a=true then some [(j,a)] else none
   | _=>none)
 | .agg ps,.agg as=>mtVs ps as
 | .tuple ps,.tuple as=>mtVs ps as
 | .ref ps,.ref as=>mtVs ps as
 | .func f ps qs,.func g as bs=>if f=g then (match mtVs ps as,mtVs qs bs with | some x,some y=>some (x++y) | _,_=>none) else none
 | p,a=>if p.eqb a&&p.gnd []&&p.cl then some [] else none
def mtVs:List AV→List AV→Option (List (Nat × AV))
 | [],[]=>some []
 | p::ps,a::as=>(match mtV p a,mtVs ps as with | some x,some y=>some (x++y) | _,_=>none)
 | _,_=>none
end
mutual
def patW:AV→Option (List Nat)
 | .sym s e=>(match e with
   | .v j=>if s.data then some [j] else none
   | _=>none)
 | .agg ps=>patWs ps
 | .tuple ps=>patWs ps
 | .ref ps=>patWs ps
 | .func f ps qs=>(match patWs ps,patWs qs with | some x,some y=>some (x++y) | _,_=>none)
 | p=>if p.eqb p&&p.gnd []&&p.cl then some [] else none
def patWs:List AV→Option (List Nat)
 | []=>some []
 | p::ps=>(match patW p,patWs ps with | some x,some y=>some (x++y) | _,_=>none)
end
section
variable {Ω:Om} {V:X→AV} {σ:Nat→Nat} {Ls:List (Nat × Nat)} {st st1:SSt} {h:Hp} {T:Tab} {n:Nat}
theorem gnd_nosym:∀ {s:Sh} {e:X} {O:List Nat},(AV.sym s e).gnd O=true→False:=by intro s e O h; simp [AV.gnd] at h
mutual
theorem gnd_den {V V':X→AV} {σ σ':Nat→Nat} {O:List Nat} (hO:∀ b,O.contains b=false→σ' b=σ b):∀ {a:AV},a.gnd O=true→a.den V' σ'=a.den V σ
 | .agg _,h=>by simp only [AV.gnd] at h; simp only [AV.den,gnds_den (V:=V) (V':=V') hO h]
 | .tuple _,h=>by simp only [AV.gnd] at h; simp only [AV.den,gnds_den (V:=V) (V':=V') hO h]
 | .ref _,h=>by simp only [AV.gnd] at h; simp only [AV.den,gnds_den (V:=V) (V':=V') hO h]
 | .sl _ _,h=>by simp only [AV.gnd] at h; simp only [AV.den,gndss_den (V:=V) (V':=V') hO h]
 | .im _,h=>by simp only [AV.gnd] at h; simp only [AV.den,gndes_den (V:=V) (V':=V') hO h]
 | .func _ _ _,h=>by simp only [AV.gnd,Bool.and_eq_true] at h; simp only [AV.den,gnds_den (V:=V) (V':=V') hO h.1,gnds_den (V:=V) (V':=V') hO h.2]
 | .iface _ v,h=>by simp only [AV.gnd] at h; simp only [AV.den,gnd_den (V:=V) (V':=V') hO h]
 | .sym _ _,h=>(gnd_nosym h).elim
 | .ptr _ _ _,h=>by simp only [AV.gnd,Bool.not_eq_true'] at h; simp only [AV.den,hO _ h]
 | .it _,h=>by simp only [AV.gnd,Bool.not_eq_true'] at h; simp only [AV.den,hO _ h]
 | .ms _ _ _,h=>by simp only [AV.gnd,Bool.not_eq_true'] at h; simp only [AV.den,hO _ h]
 | .mp _,h=>by simp only [AV.gnd,Bool.not_eq_true'] at h; simp only [AV.den,hO _ h]
 | .yld _,h=>by simp only [AV.gnd,Bool.not_eq_true'] at h; simp only [AV.den,hO _ h]
 | .junk,_=>rfl
 | .bool _,_=>rfl
 | .int _ _,_=>rfl
 | .str _,_=>rfl
 | .nilp,_=>rfl
 | .nils,_=>rfl
 | .nilm,_=>rfl
 | .nilf,_=>rfl
 | .nili,_=>rfl
theorem gnds_den {V V':X→AV} {σ σ':Nat→Nat} {O:List Nat} (hO:∀ b,O.contains b=false→σ' b=σ b):∀ {a:List AV},AV.gnds O a=true→AV.dens V' σ' a=AV.dens V σ a
 | [],_=>rfl
 | _::_,h=>by simp only [AV.gnds,Bool.and_eq_true] at h; simp only [AV.dens,gnd_den (V:=V) (V':=V') hO h.1,gnds_den (V:=V) (V':=V') hO h.2]
theorem gndss_den {V V':X→AV} {σ σ':Nat→Nat} {O:List Nat} (hO:∀ b,O.contains b=false→σ' b=σ b):∀ {a:List (List AV)},AV.gndss O a=true→AV.denss V' σ' a=AV.denss V σ a
 | [],_=>rfl
 | _::_,h=>by simp only [AV.gndss,Bool.and_eq_true] at h; simp only [AV.denss,gnds_den (V:=V) (V':=V') hO h.1,gndss_den (V:=V) (V':=V') hO h.2]
theorem gndes_den {V V':X→AV} {σ σ':Nat→Nat} {O:List Nat} (hO:∀ b,O.contains b=false→σ' b=σ b):∀ {a:List (AV × AV)},AV.gndes O a=true→AV.denes V' σ' a=AV.denes V σ a
 | [],_=>rfl
 | (_,_)::_,h=>by simp only [AV.gndes,Bool.and_eq_true] at h; simp only [AV.denes,gnd_den (V:=V) (V':=V') hO h.1.1,gnd_den (V:=V) (V':=V') hO h.1.2,gndes_den (V:=V) (V':=V') hO h.2]
end
mutual
theorem gnd_okv {V:X→AV} {O:List Nat} {m:Nat}:∀ {a:AV},a.gnd O=true→a.ltB m=true→a.okv V m
 | .agg _,h,hl=>gnds_okv h hl
 | .tuple _,h,hl=>gnds_okv h hl
 | .ref _,h,hl=>gnds_okv h hl
 | .sl _ _,h,hl=>gndss_okv h hl
 | .im _,h,hl=>gndes_okv h hl
 | .func _ _ _,h,hl=>by simp only [AV.gnd,Bool.and_eq_true] at h; simp only [AV.ltB,Bool.and_eq_true] at hl; exact ⟨gnds_okv h.1 hl.1,gnds_okv h.2 hl.2⟩
 | .iface _ v,h,hl=>gnd_okv (a:=v) h hl
 | .sym _ _,h,_=>(gnd_nosym h).elim
 | .ptr _ _ _,_,hl=>by simpa [AV.ltB,AV.okv] using hl
 | .it _,_,hl=>by simpa [AV.ltB,AV.okv] using hl
 | .ms _ _ _,_,hl=>by simpa [AV.ltB,AV.okv] using hl
 | .mp _,_,hl=>by simpa [AV.ltB,AV.okv] using hl
 | .yld _,_,hl=>by simpa [AV.ltB,AV.okv] using hl
 | .junk,_,_=>trivial
 | .bool _,_,_=>trivial
 | .int _ _,_,_=>trivial
 | .str _,_,_=>trivial
 | .nilp,_,_=>trivial
 | .nils,_,_=>trivial
 | .nilm,_,_=>trivial
 | .nilf,_,_=>trivial
 | .nili,_,_=>trivial
theorem gnds_okv {V:X→AV} {O:List Nat} {m:Nat}:∀ {a:List AV},AV.gnds O a=true→AV.ltBs m a=true→AV.okvs V m a
 | [],_,_=>trivial
 | _::_,h,hl=>by simp only [AV.gnds,Bool.and_eq_true] at h; simp only [AV.ltBs,Bool.and_eq_true] at hl; exact ⟨gnd_okv h.1 hl.1,gnds_okv h.2 hl.2⟩
theorem gndss_okv {V:X→AV} {O:List Nat} {m:Nat}:∀ {a:List (List AV)},AV.gndss O a=true→AV.ltBss m a=true→AV.okvss V m a
 | [],_,_=>trivial
 | _::_,h,hl=>by simp only [AV.gndss,Bool.and_eq_true] at h; simp only [AV.ltBss,Bool.and_eq_true] at hl; exact ⟨gnds_okv h.1 hl.1,gndss_okv h.2 hl.2⟩
theorem gndes_okv {V:X→AV} {O:List Nat} {m:Nat}:∀ {a:List (AV × AV)},AV.gndes O a=true→AV.ltBes m a=true→AV.okves V m a
 | [],_,_=>trivial
 | (_,_)::_,h,hl=>by simp only [AV.gndes,Bool.and_eq_true] at h; simp only [AV.ltBes,Bool.and_eq_true] at hl; exact ⟨gnd_okv h.1.1 hl.1.1,gnd_okv h.1.2 hl.1.2,gndes_okv h.2 hl.2⟩
end
mutual
theorem cl_ltB:∀ {a:AV},a.cl=true→a.ltB 0=true
 | .agg _,h=>cls_ltB h
 | .tuple _,h=>cls_ltB h
 | .ref _,h=>cls_ltB h
 | .sl _ _,h=>clss_ltB h
 | .im _,h=>cles_ltB h
 | .func _ _ _,h=>by simp only [AV.cl,Bool.and_eq_true] at h; simp only [AV.ltB,Bool.and_eq_true]; exact ⟨cls_ltB h.1,cls_ltB h.2⟩
 | .iface _ v,h=>cl_ltB (a:=v) h
 | .sym s _,h=>by cases s<;>simp [AV.cl,Sh.data] at h<;>simp [AV.ltB,Sh.mx]
 | .ptr _ _ _,h=>by cases h
 | .it _,h=>by cases h
 | .ms _ _ _,h=>by cases h
 | .mp _,h=>by cases h
 | .yld _,h=>by cases h
 | .junk,_=>rfl
 | .bool _,_=>rfl
 | .int _ _,_=>rfl
 | .str _,_=>rfl
 | .nilp,_=>rfl
 | .nils,_=>rfl
 | .nilm,_=>rfl
 | .nilf,_=>rfl
 | .nili,_=>rfl
theorem cls_ltB:∀ {a:List AV},AV.cls a=true→AV.ltBs 0 a=true
 | [],_=>rfl
 | _::_,h=>by simp only [AV.cls,Bool.and_eq_true] at h; simp only [AV.ltBs,Bool.and_eq_true]; exact ⟨cl_ltB h.1,cls_ltB h.2⟩
theorem clss_ltB:∀ {a:List (List AV)},AV.clss a=true→AV.ltBss 0 a=true
 | [],_=>rfl
 | _::_,h=>by simp only [AV.clss,Bool.and_eq_true] at h; simp only [AV.ltBss,Bool.and_eq_true]; exact ⟨cls_ltB h.1,clss_ltB h.2⟩
theorem cles_ltB:∀ {a:List (AV × AV)},AV.cles a=true→AV.ltBes 0 a=true
 | [],_=>rfl
 | (_,_)::_,h=>by simp only [AV.cles,Bool.and_eq_true] at h; simp only [AV.ltBes,Bool.and_eq_true]; exact ⟨⟨cl_ltB h.1.1,cl_ltB h.1.2⟩,cles_ltB h.2⟩
end
mutual
theorem cg_den {V:X→AV} {σ:Nat→Nat} {O:List Nat}:∀ {a:AV},a.gnd O=true→a.cl=true→a.den V σ=a
 | .agg _,h,hc=>by simp only [AV.gnd] at h; simp only [AV.cl] at hc; simp only [AV.den,cgs_den h hc]
 | .tuple _,h,hc=>by simp only [AV.gnd] at h; simp only [AV.cl] at hc; simp only [AV.den,cgs_den h hc]
 | .ref _,h,hc=>by simp only [AV.gnd] at h; simp only [AV.cl] at hc; simp only [AV.den,cgs_den h hc]
 | .sl _ _,h,hc=>by simp only [AV.gnd] at h; simp only [AV.cl] at hc; simp only [AV.den,cgss_den h hc]
 | .im _,h,hc=>by simp only [AV.gnd] at h; simp only [AV.cl] at hc; simp only [AV.den,cges_den h hc]
 | .func _ _ _,h,hc=>by simp only [AV.gnd,Bool.and_eq_true] at h; simp only [AV.cl,Bool.and_eq_true] at hc; simp only [AV.den,cgs_den h.1 hc.1,cgs_den h.2 hc.2]
 | .iface _ v,h,hc=>by simp only [AV.gnd] at h; simp only [AV.cl] at hc; simp only [AV.den,cg_den h hc]
 | .sym _ _,h,_=>(gnd_nosym h).elim
 | .ptr _ _ _,_,h=>by cases h
 | .it _,_,h=>by cases h
 | .ms _ _ _,_,h=>by cases h
 | .mp _,_,h=>by cases h
 | .yld _,_,h=>by cases h
 | .junk,_,_=>rfl
 | .bool _,_,_=>rfl
 | .int _ _,_,_=>rfl
 | .str _,_,_=>rfl
 | .nilp,_,_=>rfl
 | .nils,_,_=>rfl
 | .nilm,_,_=>rfl
 | .nilf,_,_=>rfl
 | .nili,_,_=>rfl
theorem cgs_den {V:X→AV} {σ:Nat→Nat} {O:List Nat}:∀ {a:List AV},AV.gnds O a=true→AV.cls a=true→AV.dens V σ a=a
 | [],_,_=>rfl
 | _::_,h,hc=>by simp only [AV.gnds,Bool.and_eq_true] at h; simp only [AV.cls,Bool.and_eq_true] at hc; simp only [AV.dens,cg_den h.1 hc.1,cgs_den h.2 hc.2]
theorem cgss_den {V:X→AV} {σ:Nat→Nat} {O:List Nat}:∀ {a:List (List AV)},AV.gndss O a=true→AV.clss a=true→AV.denss V σ a=a
 | [],_,_=>rfl
 | _::_,h,hc=>by simp only [AV.gndss,Bool.and_eq_true] at h; simp only [AV.clss,Bool.and_eq_true] at hc; simp only [AV.denss,cgs_den h.1 hc.1,cgss_den h.2 hc.2]
theorem cges_den {V:X→AV} {σ:Nat→Nat} {O:List Nat}:∀ {a:List (AV × AV)},AV.gndes O a=true→AV.cles a=true→AV.denes V σ a=a
 | [],_,_=>rfl
 | (_,_)::_,h,hc=>by simp only [AV.gndes,Bool.and_eq_true] at h; simp only [AV.cles,Bool.and_eq_true] at hc; simp only [AV.denes,cg_den h.1.1 hc.1.1,cg_den h.1.2 hc.1.2,cges_den h.2 hc.2]
end
theorem mtV_last {V':X→AV} {p a:AV} {l:List (Nat × AV)} (h:(if p.eqb a&&p.gnd []&&p.cl then some [] else none)=some l):p.den V' σ=a∧p.okv V' 0:=by
 split at h
 ·rename_i hc
  simp only [Bool.and_eq_true] at hc
  have:=AV.eqb_eq _ _ hc.1.1; subst this
  exact ⟨cg_den hc.1.2 hc.2,gnd_okv hc.1.2 (cl_ltB hc.2)⟩
 ·cases h
mutual
theorem mtV_den {V':X→AV}:∀ (p a:AV) (l:List (Nat × AV)),mtV p a=some l→(∀ e∈l,V' (.v e.1)=e.2)→p.den V' σ=a∧p.okv V' 0
 | .sym s e,a,l,h,hV=>by
   simp only [mtV] at h
   split at h
   ·split at h
    ·rename_i j hok
     injection h with h; subst h
     have h1:=hV _ (.head _)
     simp only at h1
     have:=den_data (V:=V') (σ:=σ) (n:=0) (s:=s) (e:=.v j) (by rw [h1]; exact hok)
     exact ⟨by rw [this.1,h1],this.2⟩
    ·cases h
   ·cases h
 | .agg ps,a,l,h,hV=>by
   cases a<;>simp only [mtV] at h<;>try (simp [AV.eqb] at h; done)
   obtain ⟨h1,h2⟩:=mtVs_den ps _ l h hV
   exact ⟨by simp only [AV.den,h1],h2⟩
 | .tuple ps,a,l,h,hV=>by
   cases a<;>simp only [mtV] at h<;>try (simp [AV.eqb] at h; done)
   obtain ⟨h1,h2⟩:=mtVs_den ps _ l h hV
   exact ⟨by simp only [AV.den,h1],h2⟩
 | .ref ps,a,l,h,hV=>by
   cases a<;>simp only [mtV] at h<;>try (simp [AV.eqb] at h; done)
   obtain ⟨h1,h2⟩:=mtVs_den ps _ l h hV
   exact ⟨by simp only [AV.den,h1],h2⟩
 | .func f ps qs,a,l,h,hV=>by
   cases a<;>simp only [mtV] at h<;>try (simp [AV.eqb] at h; done)
   split at h
   ·rename_i hf
    split at h
    ·rename_i x y h1 h2
     injection h with h; subst h; subst hf
     obtain ⟨a1,a2⟩:=mtVs_den ps _ x h1 fun e he=>hV e (List.mem_append_left _ he)
     obtain ⟨b1,b2⟩:=mtVs_den qs _ y h2 fun e he=>hV e (List.mem_append_right _ he)
     exact ⟨by simp only [AV.den,a1,b1],a2,b2⟩
    ·cases h
   ·cases h
 | .junk,a,l,h,hV=>mtV_last (l:=l) (by cases a<;>simpa only [mtV] using h)
 | .bool _,a,l,h,hV=>mtV_last (l:=l) (by cases a<;>simpa only [mtV] using h)
 | .int _ _,a,l,h,hV=>mtV_last (l:=l) (by cases a<;>simpa only [mtV] using h)
 | .str _,a,l,h,hV=>mtV_last (l:=l) (by cases a<;>simpa only [mtV] using h)
 | .nilp,a,l,h,hV=>mtV_last (l:=l) (by cases a<;>simpa only [mtV] using h)
 | .ptr _ _ _,a,l,h,hV=>mtV_last (l:=l) (by cases a<;>simpa only [mtV] using h)
 | .it _,a,l,h,hV=>mtV_last (l:=l) (by cases a<;>simpa only [mtV] using h)
 | .nils,a,l,h,hV=>mtV_last (l:=l) (by cases a<;>simpa only [mtV] using h)
 | .sl _ _,a,l,h,hV=>mtV_last (l:=l) (by cases a<;>simpa only [mtV] using h)
 | .ms _ _ _,a,l,h,hV=>mtV_last (l:=l) (by cases a<;>simpa only [mtV] using h)
 | .nilm,a,l,h,hV=>mtV_last (l:=l) (by cases a<;>simpa only [mtV] using h)
 | .mp _,a,l,h,hV=>mtV_last (l:=l) (by cases a<;>simpa only [mtV] using h)
 | .im _,a,l,h,hV=>mtV_last (l:=l) (by cases a<;>simpa only [mtV] using h)
 | .yld _,a,l,h,hV=>mtV_last (l:=l) (by cases a<;>simpa only [mtV] using h)
 | .nilf,a,l,h,hV=>mtV_last (l:=l) (by cases a<;>simpa only [mtV] using h)
 | .iface _ _,a,l,h,hV=>mtV_last (l:=l) (by cases a<;>simpa only [mtV] using h)
 | .nili,a,l,h,hV=>mtV_last (l:=l) (by cases a<;>simpa only [mtV] using h)
theorem mtVs_den {V':X→AV}:∀ (p a:List AV) (l:List (Nat × AV)),mtVs p a=some l→(∀ e∈l,V' (.v e.1)=e.2)→AV.dens V' σ p=a∧AV.okvs V' 0 p
 | [],a,l,h,hV=>by
   cases a with
   | nil=>exact ⟨rfl,trivial⟩
   | cons _ _=>simp [mtVs] at h
 | p::ps,[],l,h,hV=>by simp [mtVs] at h
 | p::ps,a::as,l,h,hV=>by
   simp only [mtVs] at h
   split at h
   ·rename_i x y h1 h2
    injection h with h; subst h
    obtain ⟨a1,a2⟩:=mtV_den p a x h1 fun e he=>hV e (List.mem_append_left _ he)
    obtain ⟨b1,b2⟩:=mtVs_den ps as y h2 fun e he=>hV e (List.mem_append_right _ he)
    exact ⟨by simp only [AV.dens,a1,b1],a2,b2⟩
   ·cases h
end
end
section
variable {Ω:Om} {V:X→AV} {σ:Nat→Nat} {Ls:List (Nat × Nat)} {st st1:SSt} {h:Hp} {T:Tab} {n:Nat}
theorem addO_some {a b:Option Asg} {r:Asg} (h:addO a b=some r):∃ x y,a=some x∧b=some y∧r=x.add y:=by
 unfold addO at h
 split at h
 ·rename_i x y; injection h with h; exact ⟨x,y,rfl,rfl,h.symm⟩
 ·cases h
theorem mtc_last {p a:AV} {r:Asg} {js:List Nat} (h:(if p.eqb a&&p.gnd [] then some noAsg else none)=some r) (hw:(if p.eqb p&&p.gnd []&&p.cl then some ([]:List Nat) else none)=some js) :
  r=noAsg∧(if p.eqb (a.den V σ)&&p.gnd []&&p.cl then some ([]:List (Nat × AV)) else none)=some []:=by
 split at h
 ·rename_i hc
  simp only [Bool.and_eq_true] at hc
  injection h with h
  have:=AV.eqb_eq _ _ hc.1; subst this
  split at hw
  ·rename_i hc2
   simp only [Bool.and_eq_true] at hc2
   refine ⟨h.symm,?_⟩
   rw [cg_den hc.2 hc2.2,if_pos (by simp only [Bool.and_eq_true]; exact hc2)]
  ·cases hw
 ·cases h
mutual
theorem mtc_args (hV:IsV Ω V) {H:Hp}:∀ (p a:AV) (r:Asg) (js:List Nat),mtc H 0 [] p a=some r→patW p=some js→a.okv V n→mtV p (a.den V σ)=some (r.xs.map fun e=>(e.1,V e.2))
 | .sym s e,a,r,js,h,hw,ho=>by
   simp only [patW] at hw
   cases e<;>simp only at hw<;>try (cases hw; done)
   rename_i j
   split at hw
   ·rename_i hd
    cases s<;>simp [Sh.data] at hd<;>(
     simp only [mtc,mtcData,Nat.zero_le,if_true] at h
     split at h
     ·rename_i x hx
      injection h with h; subst h
      obtain ⟨a1,a2,_⟩:=asX_den (σ:=σ) hV hx ho
      simp only [mtV,a1,a2,if_true,asg1,List.map_cons,List.map_nil]
     ·cases h)
   ·cases hw
 | .agg ps,a,r,js,h,hw,ho=>by
   cases a<;>simp only [mtc] at h<;>try (simp [AV.eqb] at h; done)
   simp only [AV.den,mtV]
   exact mtcs_args hV ps _ r js h hw ho
 | .tuple ps,a,r,js,h,hw,ho=>by
   cases a<;>simp only [mtc] at h<;>try (simp [AV.eqb] at h; done)
   simp only [AV.den,mtV]
   exact mtcs_args hV ps _ r js h hw ho
 | .ref ps,a,r,js,h,hw,ho=>by
   cases a<;>simp only [mtc] at h<;>try (simp [AV.eqb] at h; done)
   simp only [AV.den,mtV]
   exact mtcs_args hV ps _ r js h hw ho
 | .func f ps qs,a,r,js,h,hw,ho=>by
   cases a<;>simp only [mtc] at h<;>try (simp [AV.eqb] at h; done)
   split at h
   ·rename_i hf
    obtain ⟨x,y,h1,h2,rfl⟩:=addO_some h
    simp only [patW] at hw
    split at hw
    ·rename_i u w hu hw2
     simp only [AV.den,mtV,if_pos hf]
     rw [mtcs_args hV ps _ x u h1 hu ho.1,mtcs_args hV qs _ y w h2 hw2 ho.2]
     simp [Asg.add]
    ·cases hw
   ·cases h
 | .junk,a,r,js,h,hw,ho=>mtc_fin (by cases a<;>simpa only [mtc] using h) (by simpa only [patW] using hw) (fun b=>by cases b<;>simp only [mtV])
 | .bool _,a,r,js,h,hw,ho=>mtc_fin (by cases a<;>simpa only [mtc] using h) (by simpa only [patW] using hw) (fun b=>by cases b<;>simp only [mtV])
 | .int _ _,a,r,js,h,hw,ho=>mtc_fin (by cases a<;>simpa only [mtc] using h) (by simpa only [patW] using hw) (fun b=>by cases b<;>simp only [mtV])
 | .str _,a,r,js,h,hw,ho=>mtc_fin (by cases a<;>simpa only [mtc] using h) (by simpa only [patW] using hw) (fun b=>by cases b<;>simp only [mtV])
 | .nilp,a,r,js,h,hw,ho=>mtc_fin (by cases a<;>simpa only [mtc] using h) (by simpa only [patW] using hw) (fun b=>by cases b<;>simp only [mtV])
 | .ptr _ _ _,a,r,js,h,hw,ho=>mtc_fin (by cases a<;>simpa only [mtc] using h) (by simpa only [patW] using hw) (fun b=>by cases b<;>simp only [mtV])
 | .it _,a,r,js,h,hw,ho=>mtc_fin (by cases a<;>simpa only [mtc] using h) (by simpa only [patW] using hw) (fun b=>by cases b<;>simp only [mtV])
 | .nils,a,r,js,h,hw,ho=>mtc_fin (by cases a<;>simpa only [mtc] using h) (by simpa only [patW] using hw) (fun b=>by cases b<;>simp only [mtV])
 | .sl _ _,a,r,js,h,hw,ho=>mtc_fin (by cases a<;>simpa only [mtc] using h) (by simpa only [patW] using hw) (fun b=>by cases b<;>simp only [mtV])
 | .ms _ _ _,a,r,js,h,hw,ho=>mtc_fin (by cases a<;>simpa only [mtc] using h) (by simpa only [patW] using hw) (fun b=>by cases b<;>simp only [mtV])
 | .nilm,a,r,js,h,hw,ho=>mtc_fin (by cases a<;>simpa only [mtc] using h) (by simpa only [patW] using hw) (fun b=>by cases b<;>simp only [mtV])
 | .mp _,a,r,js,h,hw,ho=>mtc_fin (by cases a<;>simpa only [mtc] using h) (by simpa only [patW] using hw) (fun b=>by cases b<;>simp only [mtV])
 | .im _,a,r,js,h,hw,ho=>mtc_fin (by cases a<;>simpa only [mtc] using h) (by simpa only [patW] using hw) (fun b=>by cases b<;>simp only [mtV])
 | .yld _,a,r,js,h,hw,ho=>mtc_fin (by cases a<;>simpa only [mtc] using h) (by simpa only [patW] using hw) (fun b=>by cases b<;>simp only [mtV])
 | .nilf,a,r,js,h,hw,ho=>mtc_fin (by cases a<;>simpa only [mtc] using h) (by simpa only [patW] using hw) (fun b=>by cases b<;>simp only [mtV])
 | .iface _ _,a,r,js,h,hw,ho=>mtc_fin (by cases a<;>simpa only [mtc] using h) (by simpa only [patW] using hw) (fun b=>by cases b<;>simp only [mtV])
 | .nili,a,r,js,h,hw,ho=>mtc_fin (by cases a<;>simpa only [mtc] using h) (by simpa only [patW] using hw) (fun b=>by cases b<;>simp only [mtV])
theorem mtcs_args (hV:IsV Ω V) {H:Hp}:∀ (p a:List AV) (r:Asg) (js:List Nat),mtcs H 0 [] p a=some r→patWs p=some js→AV.okvs V n a→mtVs p (AV.dens V σ a)=some (r.xs.map fun e=>(e.1,V e.2))
 | [],a,r,js,h,_,_=>by
   cases a with
   | nil=>simp only [mtcs] at h; injection h with h; subst h; rfl
   | cons _ _=>simp [mtcs] at h
 | p::ps,[],r,js,h,_,_=>by simp [mtcs] at h
 | p::ps,a::as,r,js,h,hw,ho=>by
   simp only [mtcs] at h
   obtain ⟨x,y,h1,h2,rfl⟩:=addO_some h
   simp only [patWs] at hw
   split at hw
   ·rename_i u w hu hw2
    simp only [AV.dens,mtVs]
    rw [mtc_args hV p a x u h1 hu ho.1,mtcs_args hV ps as y w h2 hw2 ho.2]
    simp [Asg.add]
   ·cases hw
theorem mtc_fin {p a:AV} {r:Asg} {js:List Nat} (h:(if p.eqb a&&p.gnd [] then some noAsg else none)=some r) (hw:(if p.eqb p&&p.gnd []&&p.cl then some ([]:List Nat) else none)=some js)
  (hm:∀ b,mtV p b=if p.eqb b&&p.gnd []&&p.cl then some [] else none):mtV p (a.den V σ)=some (r.xs.map fun e=>(e.1,V e.2)):=by
 obtain ⟨h1,h2⟩:=mtc_last (V:=V) (σ:=σ) h hw
 rw [hm,h2,h1]; rfl
end
theorem resV_den (hV:IsV Ω V) {e:X} {r:RS} (h:r.ok (V e)=true):(resV e r).den V σ=V e∧(resV e r).okv V n:=by
 cases r with
 | one s=>exact den_data h
 | agg cs =>
   simp only [RS.ok] at h
   split at h
   ·rename_i vs hvs
    obtain ⟨f1,f2⟩:=fldsX_den (σ:=σ) (n:=n) hV (e:=e) (r:=vs) (by rw [hvs]; rfl) cs 0 (by simpa using h)
    simp only [resV,AV.den,AV.dens_map,f1,hvs,List.drop_zero,AV.okv,okvs_iff]
    exact ⟨trivial,f2⟩
   ·cases h
theorem resVs_den (hV:IsV Ω V) {e:X} {l:List AV} (hl:(V e).tupL=l):∀ (rs:List RS) (i:Nat),RS.oks rs (l.drop i)=true→(resVs e i rs).map (AV.den V σ)=l.drop i∧∀ x∈resVs e i rs,x.okv V n
 | [],i,h=>by
   cases hd:l.drop i with
   | nil=>exact ⟨rfl,fun _ h=>by cases h⟩
   | cons _ _=>rw [hd] at h; simp [RS.oks] at h
 | r::rs,i,h=>by
   cases hd:l.drop i with
   | nil=>rw [hd] at h; simp [RS.oks] at h
   | cons a as =>
     rw [hd] at h
     simp only [RS.oks,Bool.and_eq_true] at h
     have hl2:l.drop (i+1)=as:=by rw [← List.drop_drop,hd]; rfl
     have ha:nth l i=some a:=by
      rw [nth_eq]
      have:=congrArg (fun l=>l[0]?) hd
      simpa using this
     have hv:V (.p (.proj i) [e])=a:=by rw [V_proj hV,hl,ha]; rfl
     obtain ⟨h1,h2⟩:=resVs_den hV hl rs (i+1) (by rw [hl2]; exact h.2)
     obtain ⟨d1,d2⟩:=resV_den (σ:=σ) (n:=n) hV (e:=.p (.proj i) [e]) (r:=r) (by rw [hv]; exact h.1)
     refine ⟨?_,fun x hx=>?_⟩
     ·simp only [resVs,List.map_cons,d1,hv,h1,hl2]
     ·cases hx with
      | head=>exact d2
      | tail _ hx=>exact h2 x hx
theorem resT_den (hV:IsV Ω V) {e:X} {rs:List RS} (h:RS.okr rs (V e)=true):(resT e rs).den V σ=V e∧(resT e rs).okv V n:=by
 have many:∀ {rs:List RS},(match V e with | .tuple vs=>RS.oks rs vs | _=>false)=true→(AV.tuple (resVs e 0 rs)).den V σ=V e∧(AV.tuple (resVs e 0 rs)).okv V n:=by
  intro rs h
  split at h
  ·rename_i vs hvs
   obtain ⟨r1,r2⟩:=resVs_den (σ:=σ) (n:=n) hV (e:=e) (l:=vs) (by rw [hvs]; rfl) rs 0 (by simpa using h)
   simp only [AV.den,AV.dens_map,r1,List.drop_zero,AV.okv,okvs_iff]
   exact ⟨hvs.symm,r2⟩
  ·cases h
 cases rs with
 | nil=>exact many h
 | cons r rs=>cases rs with
   | nil=>exact resV_den hV h
   | cons r' rs=>exact many h
theorem ok_flat {s:Sh} {a:AV} (hs:s.flat=true) (h:s.ok a=true):a.flat=true:=by
 cases s<;>simp [Sh.flat] at hs
 ·rw [ok_bool h]; rfl
 ·rw [ok_int h]; rfl
 ·rw [ok_str h]; rfl
theorem oks_flat:∀ {cs:List Sh} {l:List AV},cs.all (·.flat)=true→Sh.oks cs l=true→flats l=true
 | [],l,_,h=>by cases l with | nil=>rfl | cons _ _=>simp [Sh.oks] at h
 | c::cs,l,hs,h=>by
   cases l with
   | nil=>simp [Sh.oks] at h
   | cons a l =>
     simp only [Sh.oks,Bool.and_eq_true] at h
     simp only [List.all_cons,Bool.and_eq_true] at hs
     simp only [flats,ok_flat hs.1 h.1,oks_flat hs.2 h.2,Bool.and_self]
theorem rs_flat {r:RS} {a:AV} (hs:r.flat=true) (h:r.ok a=true):a.flat=true:=by
 cases r with
 | one s=>exact ok_flat hs h
 | agg cs =>
   simp only [RS.ok] at h
   split at h
   ·simp only [AV.flat]; exact oks_flat hs h
   ·cases h
theorem rss_flat:∀ {rs:List RS} {l:List AV},rs.all (·.flat)=true→RS.oks rs l=true→flats l=true
 | [],l,_,h=>by cases l with | nil=>rfl | cons _ _=>simp [RS.oks] at h
 | c::cs,l,hs,h=>by
   cases l with
   | nil=>simp [RS.oks] at h
   | cons a l =>
     simp only [RS.oks,Bool.and_eq_true] at h
     simp only [List.all_cons,Bool.and_eq_true] at hs
     simp only [flats,rs_flat hs.1 h.1,rss_flat hs.2 h.2,Bool.and_self]
theorem okr_flat {rs:List RS} {a:AV} (hs:rs.all (·.flat)=true) (h:RS.okr rs a=true):a.flat=true:=by
 unfold RS.okr at h
 split at h
 ·simp only [List.all_cons,List.all_nil,Bool.and_true] at hs; exact rs_flat hs h
 ·split at h
  ·simp only [AV.flat]; exact rss_flat hs h
  ·cases h
theorem okr_junk {rs:List RS}:RS.okr rs .junk=false:=by
 unfold RS.okr
 split
 ·rename_i r
  cases r with
  | one s=>cases s<;>rfl
  | agg cs=>rfl
 ·rfl
structure InstR (Ω:Om) (E:Env) (I:Inst):Prop where
 pat:∃ js,patWs I.pats=some js
 ans:∃ (g:List AV→Option AV) (F:List AV→Option AV),E.ext I.f=some g∧(∀ args l,mtVs I.pats args=some l→l.map (·.1)=List.range l.length→g args=F (l.map (·.2)))∧(∀ vs,Ω I.f I.n vs=getJ (F vs))
theorem inOrder_some {l:List (Nat × X)} {xs:List X} (h:inOrder l=some xs):xs=l.map (·.2)∧l.map (·.1)=List.range l.length:=by
 unfold inOrder at h
 split at h
 ·rename_i hc; injection h with h; exact ⟨h.symm,hc⟩
 ·cases h
theorem tryInst_den (hV:IsV Ω V) {E:Env} (S:Sim V σ Ls st h) {I:Inst} (hI:InstR Ω E I) {args:List AV} (ha:∀ x∈args,x.okv V st.hp.nx) {xs:List X} (ht:tryInst st args I=some xs) (hok:RS.okr I.rs (V (.p (.call I.f I.n) xs))=true) :
  extA E I.f (args.map (AV.den V σ)) h=some (V (.p (.call I.f I.n) xs)):=by
 unfold tryInst at ht
 simp only at ht
 split at ht
 ·rename_i hc
  simp only [Bool.and_eq_true,Bool.or_eq_true,beq_iff_eq] at hc
  obtain ⟨hflat,hcl⟩:=hc
  split at ht
  ·rename_i r hr
   obtain ⟨x1,x2⟩:=inOrder_some ht
   obtain ⟨js,hjs⟩:=hI.pat
   obtain ⟨g,F,hg,hgF,hΩ⟩:=hI.ans
   have hlv:∀ c D,prom V σ st c=some D→(0≤c↔0≤σ c):=fun _ _ _=>⟨fun _=>Nat.zero_le _,fun _=>Nat.zero_le _⟩
   have hfz:∀ x∈args,frz h 0 12 (x.den V σ)=(frzS st 0 12 x).den V σ∧(frzS st 0 12 x).okv V st.hp.nx:=fun x hx =>
    frzS_den S hlv 12 x (ha x hx) ((cls_iff _).1 hcl _ (List.mem_map.2 ⟨x,hx,rfl⟩))
   have hmap:(args.map (AV.den V σ)).map (frz h 0 12)=AV.dens V σ (args.map (frzS st 0 12)):=by
    rw [AV.dens_map,List.map_map,List.map_map]
    exact List.map_congr_left fun x hx=>(hfz x hx).1
   have hokv:AV.okvs V st.hp.nx (args.map (frzS st 0 12)):=(okvs_iff _).2 fun y hy=>by
    obtain ⟨x,hx,rfl⟩:=List.mem_map.1 hy
    exact (hfz x hx).2
   have hm:=mtcs_args (σ:=σ) hV I.pats _ r js hr hjs hokv
   have hga:=hgF _ _ hm (by rw [List.map_map,List.length_map]; exact x2)
   have hxs:(r.xs.map fun e=>(e.1,V e.2)).map (·.2)=xs.map V:=by rw [x1,List.map_map,List.map_map]; rfl
   rw [hxs] at hga
   have hVe:V (.p (.call I.f I.n) xs)=getJ (F (xs.map V)):=by rw [hV.p]; exact hΩ _
   rw [hVe] at hok ⊢
   cases hF:F (xs.map V) with
   | none=>rw [hF] at hok; rw [show getJ none=AV.junk from rfl,okr_junk] at hok; cases hok
   | some v =>
     rw [hF] at hok hga
     unfold extA
     simp only [hg,hmap,hga]
     rw [if_pos]
     ·rfl
     ·rcases hflat with h1 | h1
      ·exact .inl (map_mx0 ha h1)
      ·exact .inr (okr_flat h1 hok)
  ·cases ht
 ·cases ht
theorem tryInsts_mem {args:List AV} {I:Inst} {xs:List X}:∀ {l:List Inst},tryInsts st args l=some (I,xs)→I∈l∧tryInst st args I=some xs
 | [],h=>by cases h
 | J::l,h=>by
   simp only [tryInsts] at h
   split at h
   ·rename_i ys hy
    simp only [Option.some.injEq,Prod.mk.injEq] at h; obtain ⟨rfl,rfl⟩:=h
    exact ⟨.head _,hy⟩
   ·obtain ⟨h1,h2⟩:=tryInsts_mem h; exact ⟨.tail _ h1,h2⟩
theorem mx_mem {l:List AV} {x:AV} (hx:x∈l):x.mx≤mxs l:=by
 induction l with
 | nil=>cases hx
 | cons y l ih =>
   simp only [mxs]
   cases hx with
   | head=>omega
   | tail _ h=>have:=ih h; omega
theorem frz_old (h:Hp) (base:Nat):∀ (n:Nat) (v:AV),v.mx≤base→frz h base n v=v
 | 0,v,_=>rfl
 | n+1,v,hv=>by
   have row:∀ {r:List AV},mxs r≤base→frzRow (frz h base n) r=r:=by
    intro r hr
    unfold frzRow
    split
    ·rfl
    ·have:∀ x∈r,frz h base n x=id x:=fun x hx=>frz_old h base n x (Nat.le_trans (mx_mem hx) hr)
     exact (List.map_congr_left this).trans (List.map_id _)
   cases v<;>simp only [frz]<;>simp only [AV.mx] at hv<;>first
    | rfl
    | rw [row hv]
    | rw [row (Nat.le_trans (Nat.le_max_left _ _) hv),row (Nat.le_trans (Nat.le_max_right _ _) hv)]
    | rw [if_neg (by omega)]
theorem resultS_den (S:Sim V σ Ls st h) {M:Nat} {fr fr':List AV} (hf:FrS V σ st.hp.nx fr fr') {r:ResultVar} {v:AV} (hs:(resultS T M st fr r).sel V=some v):resultA T M h fr' r=some (v.den V σ)∧v.okv V st.hp.nx:=by
 have hsl:SlS V σ st.hp.nx ⟨fr,[]⟩ ⟨fr',[]⟩:=⟨hf,.nil⟩
 cases r with
 | tmp t =>
   simp only [resultS] at hs
   split at hs
   ·cases hs
   ·rename_i a hj ha
    injection hs with hs; subst hs
    obtain ⟨a',h1,h2⟩:=slotA_den (M:=M) hsl ha
    rcases h2 with rfl | ⟨h2,rfl⟩
    ·exact (hj rfl).elim
    ·exact ⟨h1,h2⟩
   ·cases hs
 | cell a t =>
   simp only [resultS] at hs
   split at hs
   ·cases hs
   ·rename_i x hj ha
    split at hs
    ·rename_i u hu
     injection hs with hs; subst hs
     obtain ⟨a',h1,h2⟩:=slotA_den (M:=M) hsl ha
     rcases h2 with rfl | ⟨h2,rfl⟩
     ·exact (hj rfl).elim
     ·obtain ⟨l1,l2⟩:=loadA_den S.hg h2 hu
      have h1:slotA M fr' [] a=some (x.den V σ):=h1
      simp only [resultA,h1]
      exact ⟨l1,l2⟩
    ·cases hs
   ·cases hs
theorem resultsS_den (S:Sim V σ Ls st h) {M:Nat} {fr fr':List AV} (hf:FrS V σ st.hp.nx fr fr'):∀ {rs:List ResultVar} {vs:List AV},(resultsS T M st fr rs).sel V=some vs→resultsA T M h fr' rs=some (vs.map (AV.den V σ))∧∀ x∈vs,x.okv V st.hp.nx
 | [],vs,hs=>by injection hs with hs; subst hs; exact ⟨rfl,fun _ h=>by cases h⟩
 | r::rs,vs,hs=>by
   simp only [resultsS] at hs
   rw [sel_bind] at hs
   obtain ⟨v,h1,hs⟩:=hs
   rw [sel_bind] at hs
   obtain ⟨us,h2,hs⟩:=hs
   injection hs with hs; subst hs
   obtain ⟨a1,a2⟩:=resultS_den S hf h1
   obtain ⟨b1,b2⟩:=resultsS_den S hf h2
   refine ⟨by simp only [resultsA,a1,b1,List.map_cons],fun x hx=>?_⟩
   cases hx with
   | head=>exact a2
   | tail _ hx=>exact b2 x hx
theorem oneOf_den (vs:List AV):oneOf (vs.map (AV.den V σ))=(oneOf vs).den V σ:=by
 cases vs with
 | nil=>rfl
 | cons v vs=>cases vs with
   | nil=>rfl
   | cons u us=>simp only [List.map_cons,oneOf,AV.den,AV.dens,AV.dens_map]
theorem oneOf_okv {vs:List AV} (h:∀ x∈vs,x.okv V n):(oneOf vs).okv V n:=by
 cases vs with
 | nil=>trivial
 | cons v vs=>cases vs with
   | nil=>exact h v (.head _)
   | cons u us=>exact (okvs_iff _).2 h
def runBody (T:Tab) (invA:Inv) (kA:Nat) (e:FnE) (code:Code) (keep:Bool) (args:List AV) (h:Hp):Nd (AV × Hp) :=
 (exec T invA kA e.loc none code ⟨args++List.replicate (e.fn.ntmps - args.length) undefA,[]⟩ h.enter).bind fun r =>
  match r.1 with
  | .exit _=>.fail
  | _=>match closeDfr r.2.1.dfr r.2.2 with
    | some h1=>match resultsA T e.loc h1 r.2.1.tmps e.fn.results.toList with
      | some vs=>leaveA h keep (oneOf vs) h1
      | none=>.fail
    | none=>.fail
theorem FrS.append {l1 l1' l2 l2':List AV} (h1:FrS V σ n l1 l1') (h2:FrS V σ n l2 l2'):FrS V σ n (l1++l2) (l1'++l2'):=by
 induction h1 with
 | nil=>exact h2
 | cons a a' l l' ha hl ih=>exact .cons _ _ _ _ ha ih
theorem FrS.vals:∀ {l:List AV},(∀ x∈l,x.okv V n)→FrS V σ n l (l.map (AV.den V σ))
 | [],_=>.nil
 | a::l,h=>.cons _ _ _ _ (.inr ⟨h a (.head _),rfl⟩) (FrS.vals fun x hx=>h x (.tail _ hx))
theorem FrS.undefs:∀ k,FrS V σ n (List.replicate k undefA) (List.replicate k undefA)
 | 0=>.nil
 | k+1=>.cons _ _ _ _ SlD.undef (FrS.undefs k)
variable {inv:InvS} {invA:Inv} {cx:Cx} {k kA:Nat} {nl:Bool}
theorem body_fin (hne:Ls ≠ []) (S:Sim V σ Ls st h) {e:FnE} {code:Code} {as:List AV} {ex2:Ex} {fr2 fr2':List AV} {D:List Nat} {h2 h2c:Hp} {σ2:Nat→Nat} {st2:SSt} {v:AV} (hex:∀ id,ex2 ≠ .exit id)
  (e2:exec T invA kA e.loc none code ⟨as++List.replicate (e.fn.ntmps - as.length) undefA,[]⟩ h.enter = .ok (ex2,⟨fr2',D⟩,h2)) (hcd:closeDfr D h2=some h2c)
  (S2:Sim V σ2 ((st.hp.nx,h.nx)::Ls) st2 h2c) (f2:FrS V σ2 st2.hp.nx fr2 fr2')
  (hs:((resultsS T e.loc st2 fr2 e.fn.results.toList).bind fun vs=>leaveS st (oneOf vs) st2).sel V=some (v,st1)) :
  ∃ h1,runBody T invA kA e code false as h = .ok (v.den V σ2,h1)∧Sim V σ2 Ls st1 h1∧v.cl=true∧v.okv V 0∧st1.hp.nx=st.hp.nx:=by
 rw [sel_bind] at hs
 obtain ⟨vs,h3,hs⟩:=hs
 obtain ⟨r1,r2⟩:=resultsS_den S2 f2 h3
 unfold leaveS at hs
 split at hs
 ·rename_i t rs hrest
  simp only at hs
  split at hs
  ·rename_i hc
   injection hs with hs; simp only [Prod.mk.injEq] at hs; obtain ⟨rfl,rfl⟩:=hs
   have hlv:=(S2.core.lv (st.hp.nx,h.nx) (.head _)).1
   obtain ⟨z1,z2⟩:=frzS_den S2 hlv 12 _ (oneOf_okv r2) hc.1
   have hok0:=cl_okv hc.1 z2
   have hA:∃ tA rsA,h2c.rest=tA::rsA:=by
    have:=S2.segA
    cases hL:Ls with
    | nil=>exact absurd hL hne
    | cons L Ls' =>
      rw [hL] at this
      obtain ⟨_,this⟩:=this
      cases hr:h2c.rest with
      | nil=>rw [hr] at this; exact this.elim
      | cons a b=>exact ⟨a,b,rfl⟩
   obtain ⟨tA,rsA,hrA⟩:=hA
   have hlk:=S2.lk (st.hp.nx,h.nx) (.head _) hc.2
   have hS1:=Sim.leave (lk0:=st.hp.lk) (lk0':=h.lk) S2 hrest hrA (fun L hL=>⟨(S.core.lv L hL).2.1,(S.core.lv L hL).2.2⟩) S.lk
   refine ⟨_,?_,hS1,hc.1,hok0,rfl⟩
   unfold runBody
   rw [e2]
   simp only [Nd.bind]
   have hmx0:((frzS st2 st.hp.nx 12 (oneOf vs)).den V σ2).mx=0:=den_mx0 z2 (cl_mx hc.1)
   have hleave:leaveA h false ((oneOf vs).den V σ2) h2c = .ok ((frzS st2 st.hp.nx 12 (oneOf vs)).den V σ2,{ nx:=h.nx,top:=tA,rest:=rsA,lk:=h.lk }):=by
    unfold leaveA
    rw [hrA]
    simp only [Bool.false_eq_true,if_false]
    by_cases hm:((oneOf vs).den V σ2).mx≤h.nx
    ·rw [if_pos hm]
     have hid:frz h2c h.nx 12 ((oneOf vs).den V σ2)=(oneOf vs).den V σ2:=frz_old _ _ _ _ hm
     rw [← z1,hid] at hmx0 ⊢
     rw [if_pos ⟨hlk,hm⟩]
    ·rw [if_neg hm,z1,if_pos ⟨hlk,by rw [hmx0]; exact Nat.zero_le _⟩]
   cases ex2 with
   | exit id=>exact absurd rfl (hex id)
   | normal=>simp only [hcd,r1,oneOf_den]; exact hleave
   | ret=>simp only [hcd,r1,oneOf_den]; exact hleave
  ·cases hs
 ·cases hs
theorem exec_ro {T:Tab} {inv:Inv} {k M:Nat} (ro:Option Nat):∀ (c:Code),noRF c=true→∀ (fr:Fr) (h:Hp),exec T inv k M ro c fr h=exec T inv k M none c fr h
 | .skip,_,_,_=>rfl
 | .region _ _ _,_,_,_=>rfl
 | .seq a b,hn,fr,h=>by
   simp only [noRF,Bool.and_eq_true] at hn
   simp only [exec,exec_ro ro a hn.1,exec_ro ro b hn.2]
 | .cond c a b,hn,fr,h=>by
   simp only [noRF,Bool.and_eq_true] at hn
   simp only [exec,exec_ro ro a hn.1,exec_ro ro b hn.2]
 | .block id c,hn,fr,h=>by
   simp only [noRF] at hn
   simp only [exec,exec_ro ro c hn]
 | .loop c,hn,fr,h=>by
   simp only [noRF] at hn
   simp only [exec]
   congr 1
   funext fr h
   exact exec_ro ro c hn fr h
 | .scope c,hn,fr,h=>by
   simp only [noRF] at hn
   simp only [exec,exec_ro ro c hn]
 | .rangeFunc _ _ _ _,hn,_,_=>by cases hn
 | .exit _,_,_,_=>rfl
 | .label _,_,_,_=>rfl
 | .goto _,_,_,_=>rfl
 | .ret,_,_,_=>rfl
 | .refuse _,_,_,_=>rfl
theorem leak_zero (h:Hp) (b:Nat):h.leak b 0=h:=by unfold Hp.leak; simp
theorem msk_den (u:Nat):∀ {f f':List AV} {i:Nat},FrS V σ n f f'→mskOk u i f=true→msk u i f'=(msk u i f).map (AV.den V σ)∧∀ x∈msk u i f,x.okv V n
 | [],f',i,hf,_=>by cases hf; exact ⟨rfl,fun _ h=>by cases h⟩
 | a::f,f',i,hf,hn=>by
   cases hf with
   | cons _ a' _ l' ha hl =>
     simp only [mskOk,Bool.and_eq_true] at hn
     obtain ⟨h1,h2⟩:=msk_den u hl hn.2
     cases hb:u.testBit i with
     | false =>
       simp only [msk,hb,Bool.false_eq_true,if_false,List.map_cons,h1]
       refine ⟨by first | trivial | rfl,fun x hx=>?_⟩
       cases hx with
       | head=>trivial
       | tail _ hx=>exact h2 x hx
     | true =>
       have hj:a ≠ .junk:=by rintro rfl; simp [hb] at hn
       rcases ha with ha | ⟨ho,ha⟩
       ·exact absurd ha hj
       ·simp only [msk,hb,if_true,List.map_cons,h1,ha]
        refine ⟨by first | trivial | rfl,fun x hx=>?_⟩
        cases hx with
        | head=>exact ho
        | tail _ hx=>exact h2 x hx
theorem Sim.setL {l:Nat} {mk:Nat} {tm:List AV} {ps:List Tmp} {as bd:Code} {s s':LoopState} {pend pend':Option Code} {d:Nat} (S:Sim V σ Ls st h) (hb:st.hp.get l=some (.loop mk tm ps as bd s pend d)) :
  Sim V σ Ls { st with hp:=st.hp.set l (.loop mk tm ps as bd s' pend' d) } (h.set (σ l) (.loop mk (tm.map (AV.den V σ)) ps as bd s' pend' (σ d))):=by
 have ho:=S.okb l _ hb
 have:=S.set (B:=.loop mk tm ps as bd s' pend' d) hb rfl ho (m:=0) (m':=0) (.inl ⟨rfl,rfl⟩) (fun L hL hlt=>by have:=S.old L hL l _ hlt hb; exact this)
 rw [leak_zero,leak_zero] at this
 exact this
theorem endRF_den {d l:Nat} {fr:List AV} (S:Sim V σ Ls st h) {ex:Ex} {fr1:List AV} {ds:List Nat} (hs:(endRF d l fr st).sel V=some (ex,fr1,st1,ds)) :
  fr1=fr∧ds=[d]∧st1.hp.nx=st.hp.nx∧∃ mk tm ps as bd s pend d',h.get (σ l)=some (.loop mk tm ps as bd s pend d')∧s ≠ .busy∧Sim V σ Ls st1 (h.set (σ l) (.loop mk tm ps as bd .exhausted pend d')) ∧
   ((pend=none∧ex = .normal)∨(pend=some .ret∧ex = .ret)∨(∃ id,pend=some (.exit id)∧ex = .exit id)):=by
 unfold endRF at hs
 split at hs
 ·rename_i mk tm ps as bd s pend d' hb
  split at hs
  ·cases hs
  ·rename_i hbusy
   have hg:=(S.hg l _ hb rfl).1
   simp only [Blk.denB] at hg
   have key:∀ {ex0:Ex},(Te.ok (ex0,fr,{ st with hp:=st.hp.set l (.loop mk tm ps as bd .exhausted pend d') },[d]):OutR).sel V=some (ex,fr1,st1,ds)→((pend=none∧ex0 = .normal)∨(pend=some .ret∧ex0 = .ret)∨(∃ id,pend=some (.exit id)∧ex0 = .exit id)) →
     fr1=fr∧ds=[d]∧st1.hp.nx=st.hp.nx∧∃ mk tm ps as bd s pend d',h.get (σ l)=some (.loop mk tm ps as bd s pend d')∧s ≠ .busy∧Sim V σ Ls st1 (h.set (σ l) (.loop mk tm ps as bd .exhausted pend d')) ∧
     ((pend=none∧ex = .normal)∨(pend=some .ret∧ex = .ret)∨(∃ id,pend=some (.exit id)∧ex = .exit id)):=by
    intro ex0 hs hp
    injection hs with hs; simp only [Prod.mk.injEq] at hs; obtain ⟨rfl,rfl,rfl,rfl⟩:=hs
    exact ⟨rfl,rfl,set_nx _ _ _,_,_,_,_,_,_,_,_,hg,hbusy,S.setL hb,hp⟩
   split at hs
   ·exact key hs (.inl ⟨rfl,rfl⟩)
   ·exact key hs (.inr (.inl ⟨rfl,rfl⟩))
   ·exact key hs (.inr (.inr ⟨_,rfl,rfl⟩))
   ·cases hs
 ·cases hs
theorem rfS_den (hV:IsV Ω V) (hne:Ls ≠ []) (hi:InvR V inv invA) (S:Sim V σ Ls st h) {M:Nat} {fr fr':List AV} (hf:FrS V σ st.hp.nx fr fr') {f:Operand} {params:Array Tmp} {assign body:Code} {ex:Ex} {fr1:List AV} {ds dfr:List Nat}
  (hs:(rfS inv M f params.toList assign body fr st).sel V=some (ex,fr1,st1,ds)) :
  ∃ h1 σ1,exec T invA kA M none (.rangeFunc f params assign body) ⟨fr',dfr⟩ h = .ok (ex,⟨fr',ds.map σ1++dfr⟩,h1)∧FrS V σ1 st1.hp.nx fr1 fr'∧Aft V σ σ1 Ls st st1 h1∧∀ d∈ds,d < st1.hp.nx:=by
 unfold rfS at hs
 split at hs
 ·rename_i hnj
  obtain ⟨n1,n2⟩:=msk_den _ hf hnj
  split at hs
  ·rename_i g first captured hg
   obtain ⟨g1,g2⟩:=evS_den (M:=M) (s:=⟨fr,[]⟩) (s':=⟨fr',[]⟩) ⟨hf,.nil⟩ _ _ hg
   simp only [AV.den,AV.dens_map] at g1
   simp only [AV.okv,okvs_iff] at g2
   rw [sel_bind] at hs
   obtain ⟨⟨u,st2⟩,h1,hs⟩:=hs
   have Sa:=S.push (B:=.dfr false) trivial
   have hag1:=ext1_agr σ st.hp.nx h.nx
   have hd1:ext1 σ st.hp.nx h.nx st.hp.nx=h.nx:=by simp [ext1]
   have hfa:∀ x∈msk (needS params.toList assign body) 0 fr,x.okv V (st.hp.nx+1):=fun x hx=>(n2 x hx).mono (Nat.le_succ _)
   have Sb:=Sa.push (B:=.loop M (msk (needS params.toList assign body) 0 fr) params.toList assign body .ready none st.hp.nx) ⟨hfa,Nat.lt_succ_self _⟩
   have hmap:(msk (needS params.toList assign body) 0 fr).map (AV.den V (ext1 σ st.hp.nx h.nx))=msk (needS params.toList assign body) 0 fr':=by
    rw [n1]; exact List.map_congr_left fun x hx=>den_agr hag1 (n2 x hx)
   simp only [Blk.denB,hmap,hd1] at Sb
   have hnx1:(h.push (.dfr false)).nx=h.nx+1:=rfl
   have hnx2:(st.hp.push (.dfr false)).nx=st.hp.nx+1:=rfl
   have hagr:Agr st.hp.nx σ (ext1 (ext1 σ st.hp.nx h.nx) (st.hp.nx+1) (h.nx+1)):=hag1.trans ((ext1_agr (ext1 σ st.hp.nx h.nx) (st.hp.nx+1) (h.nx+1)).mono (Nat.le_succ _)) (Nat.le_refl _)
   have hl1:ext1 (ext1 σ st.hp.nx h.nx) (st.hp.nx+1) (h.nx+1) (st.hp.nx+1)=h.nx+1:=by simp [ext1]
   have hd2:ext1 (ext1 σ st.hp.nx h.nx) (st.hp.nx+1) (h.nx+1) st.hp.nx=h.nx:=by simp [ext1]
   obtain ⟨h2,σ2,e2,r2⟩:=hi (f:=.func g) (a:=first.map (AV.den V σ)++[.yld (h.nx+1)]) (cap:=captured.map (AV.den V σ)) hne Sb (by
     intro x hx
     have hle:st.hp.nx≤((st.hp.push (.dfr false)).push (.loop M (msk (needS params.toList assign body) 0 fr) params.toList assign body .ready none st.hp.nx)).nx:=Nat.le_succ_of_le (Nat.le_succ _)
     rcases List.mem_append.1 hx with hx | hx
     ·rcases List.mem_append.1 hx with hx | hx
      ·exact (g2.1 x hx).mono hle
      ·simp only [List.mem_singleton] at hx; subst hx
       show st.hp.nx+1 < _
       exact Nat.lt_succ_self _
     ·exact (g2.2 x hx).mono hle) (by
     simp only [List.map_append,List.map_cons,List.map_nil,AV.den]
     rw [show (st.hp.push (.dfr false)).nx=st.hp.nx+1 from rfl,show (h.push (.dfr false)).nx=h.nx+1 from rfl,hl1]
     rw [List.map_congr_left fun x hx=>den_agr hagr (g2.1 x hx),List.map_congr_left fun x hx=>den_agr hagr (g2.2 x hx)]) (fun _ h=>by cases h) h1
   obtain ⟨q1,q2,q3,mk,tm,ps,as,bd,s,pend,d',q4,q5,q6,q7⟩:=endRF_den r2.sim hs
   subst q1; subst q2
   have hle2:st.hp.nx+1+1≤st2.hp.nx:=r2.le
   have hσl:σ2 (st.hp.nx+1)=h.nx+1:=by rw [r2.agr (st.hp.nx+1) (show st.hp.nx+1 < st.hp.nx+1+1 by omega)]; exact hl1
   have hσd:σ2 st.hp.nx=h.nx:=by rw [r2.agr st.hp.nx (show st.hp.nx < st.hp.nx+1+1 by omega)]; exact hd2
   have hagr2:Agr st.hp.nx σ σ2:=hagr.trans r2.agr (show st.hp.nx≤st.hp.nx+1+1 by omega)
   rw [hσl] at q4 q6
   refine ⟨_,σ2,?_,?_,⟨q6,hagr2,by omega⟩,fun d hd=>?_⟩
   ·simp only [fnD] at e2
    simp only [exec,g1,openLoop,e2,Nd.bind,q4,if_neg q5,List.map_cons,List.map_nil,hσd]
    rcases q7 with ⟨rfl,rfl⟩ | ⟨rfl,rfl⟩ | ⟨id,rfl,rfl⟩<;>rfl
   ·rw [q3]; exact hf.mono hagr2 (by omega)
   ·simp only [List.mem_singleton] at hd; subst hd; omega
  ·cases hs
 ·cases hs
theorem execR_den (hV:IsV Ω V) (hi:InvR V inv invA) {base b' M:Nat} (hB:∀ L∈Ls,L.1≤base) (hk:k≤kA) (hu:∀ q,cx.loops q = .unroll):∀ (c:Code) {σ:Nat→Nat} {st:SSt} {h:Hp} {fr fr':List AV} {dfr:List Nat} {ex:Ex} {fr1:List AV} {st1:SSt} {ds:List Nat},
  Sim V σ ((base,b')::Ls) st h→FrS V σ st.hp.nx fr fr'→(execR cx inv k base M c fr st).sel V=some (ex,fr1,st1,ds) →
  ∃ fr1' h1 σ1,exec cx.T invA kA M none c ⟨fr',dfr⟩ h = .ok (ex,⟨fr1',ds.map σ1++dfr⟩,h1)∧FrS V σ1 st1.hp.nx fr1 fr1'∧AftC V true st.hp.nx σ σ1 ((base,b')::Ls) st1 h1∧∀ d∈ds,d < st1.hp.nx
 | .seq a b,σ,st,h,fr,fr',dfr,ex,fr1,st1,ds,S,hf,hs=>by
   simp only [execR] at hs
   have hp:∀ (c:Code),(∀ d∈loopsOf c,∀ L,cx.loops ((keyOf d).getD 0) = .spec L→true=false∧LoopAt V ((base,b')::Ls) cx.T invA kA M L d)∧(∀ d∈loopsOf c,cx.loops ((keyOf d).getD 0) ≠ .probe) :=
    fun c=>⟨fun d _ L hL=>(by rw [hu] at hL; cases hL),fun d _=>by rw [hu]; simp⟩
   split at hs
   ·rw [sel_bind] at hs
    obtain ⟨⟨ex2,fr2,st2⟩,h1,hs⟩:=hs
    obtain ⟨fr2',h2,σ2,e2,f2,a2⟩:=execS_den (nl:=true) hV hi hB hk (fun _=>.inr trivial) a (hp a).1 (hp a).2 (dfr:=dfr) S hf h1
    cases ex2 with
    | normal =>
      simp only at hs
      obtain ⟨fr3',h3,σ3,e3,f3,a3,d3⟩:=execR_den hV hi hB hk hu b (dfr:=dfr) a2.sim f2 hs
      refine ⟨fr3',h3,σ3,?_,f3,a2.trans a3,d3⟩
      simp only [exec,e2,Nd.bind,e3]
    | exit id =>
      simp only at hs
      injection hs with hs; simp only [Prod.mk.injEq] at hs; obtain ⟨rfl,rfl,rfl,rfl⟩:=hs
      refine ⟨fr2',h2,σ2,?_,f2,a2,fun _ h=>by cases h⟩
      simp only [exec,e2,Nd.bind]; rfl
    | ret =>
      simp only at hs
      injection hs with hs; simp only [Prod.mk.injEq] at hs; obtain ⟨rfl,rfl,rfl,rfl⟩:=hs
      refine ⟨fr2',h2,σ2,?_,f2,a2,fun _ h=>by cases h⟩
      simp only [exec,e2,Nd.bind]; rfl
   ·rw [sel_bind] at hs
    obtain ⟨⟨ex2,fr2,st2,ds2⟩,h1,hs⟩:=hs
    obtain ⟨fr2',h2,σ2,e2,f2,a2,d2⟩:=execR_den hV hi hB hk hu a (dfr:=dfr) S hf h1
    cases ex2 with
    | normal =>
      simp only at hs
      split at hs
      ·rw [sel_bind] at hs
       obtain ⟨⟨ex3,fr3,st3⟩,h4,hs⟩:=hs
       injection hs with hs; simp only [Prod.mk.injEq] at hs; obtain ⟨rfl,rfl,rfl,rfl⟩:=hs
       obtain ⟨fr3',h3,σ3,e3,f3,a3⟩:=execS_den (nl:=true) hV hi hB hk (fun _=>.inr trivial) b (hp b).1 (hp b).2 (dfr:=ds2.map σ2++dfr) a2.sim f2 h4
       obtain ⟨ag,le⟩:=a3.agr rfl
       refine ⟨fr3',h3,σ3,?_,f3,a2.trans a3,fun d hd=>Nat.lt_of_lt_of_le (d2 d hd) le⟩
       simp only [exec,e2,Nd.bind,e3]
       rw [List.map_congr_left fun d hd=>ag d (d2 d hd)]
      ·cases hs
    | exit id =>
      simp only at hs
      injection hs with hs; simp only [Prod.mk.injEq] at hs; obtain ⟨rfl,rfl,rfl,rfl⟩:=hs
      refine ⟨fr2',h2,σ2,?_,f2,a2,d2⟩
      simp only [exec,e2,Nd.bind]
    | ret =>
      simp only at hs
      injection hs with hs; simp only [Prod.mk.injEq] at hs; obtain ⟨rfl,rfl,rfl,rfl⟩:=hs
      refine ⟨fr2',h2,σ2,?_,f2,a2,d2⟩
      simp only [exec,e2,Nd.bind]
 | .block id c,σ,st,h,fr,fr',dfr,ex,fr1,st1,ds,S,hf,hs=>by
   simp only [execR] at hs
   rw [sel_bind] at hs
   obtain ⟨⟨ex2,fr2,st2,ds2⟩,h1,hs⟩:=hs
   obtain ⟨fr2',h2,σ2,e2,f2,a2,d2⟩:=execR_den hV hi hB hk hu c (dfr:=dfr) S hf h1
   simp only [exec,e2,Nd.bind]
   cases ex2 with
   | normal =>
     simp only at hs ⊢
     injection hs with hs; simp only [Prod.mk.injEq] at hs; obtain ⟨rfl,rfl,rfl,rfl⟩:=hs
     exact ⟨fr2',h2,σ2,rfl,f2,a2,d2⟩
   | ret =>
     simp only at hs ⊢
     injection hs with hs; simp only [Prod.mk.injEq] at hs; obtain ⟨rfl,rfl,rfl,rfl⟩:=hs
     exact ⟨fr2',h2,σ2,rfl,f2,a2,d2⟩
   | exit id' =>
     simp only at hs ⊢
     split at hs
     ·rename_i hid
      injection hs with hs; simp only [Prod.mk.injEq] at hs; obtain ⟨rfl,rfl,rfl,rfl⟩:=hs
      rw [if_pos hid]
      exact ⟨fr2',h2,σ2,rfl,f2,a2,d2⟩
     ·rename_i hid
      injection hs with hs; simp only [Prod.mk.injEq] at hs; obtain ⟨rfl,rfl,rfl,rfl⟩:=hs
      rw [if_neg hid]
      exact ⟨fr2',h2,σ2,rfl,f2,a2,d2⟩
 | .scope c,σ,st,h,fr,fr',dfr,ex,fr1,st1,ds,S,hf,hs=>by
   simp only [execR] at hs
   simp only [exec]
   exact execR_den hV hi hB hk hu c (dfr:=dfr) S hf hs
 | .rangeFunc f ps as bd,σ,st,h,fr,fr',dfr,ex,fr1,st1,ds,S,hf,hs=>by
   simp only [execR] at hs
   obtain ⟨h1,σ1,e1,f1,a1,d1⟩:=rfS_den (T:=cx.T) (kA:=kA) (dfr:=dfr) hV (by simp) hi S hf hs
   exact ⟨fr',h1,σ1,e1,f1,AftC.of a1,d1⟩
 | .skip,_,_,_,_,_,_,_,_,_,_,_,_,hs=>by simp [execR,Te.sel] at hs
 | .region _ _ _,_,_,_,_,_,_,_,_,_,_,_,_,hs=>by simp [execR,Te.sel] at hs
 | .cond _ _ _,_,_,_,_,_,_,_,_,_,_,_,_,hs=>by simp [execR,Te.sel] at hs
 | .loop _,_,_,_,_,_,_,_,_,_,_,_,_,hs=>by simp [execR,Te.sel] at hs
 | .exit _,_,_,_,_,_,_,_,_,_,_,_,_,hs=>by simp [execR,Te.sel] at hs
 | .label _,_,_,_,_,_,_,_,_,_,_,_,_,hs=>by simp [execR,Te.sel] at hs
 | .goto _,_,_,_,_,_,_,_,_,_,_,_,_,hs=>by simp [execR,Te.sel] at hs
 | .ret,_,_,_,_,_,_,_,_,_,_,_,_,hs=>by simp [execR,Te.sel] at hs
 | .refuse _,_,_,_,_,_,_,_,_,_,_,_,_,hs=>by simp [execR,Te.sel] at hs
theorem closeS_den:∀ {ds:List Nat} {st st1:SSt} {h:Hp},Sim V σ Ls st h→(closeS ds st).sel V=some st1→∃ h1,closeDfr (ds.map σ) h=some h1∧Sim V σ Ls st1 h1∧st1.hp.nx=st.hp.nx
 | [],st,st1,h,S,hs=>by
   injection hs with hs; subst hs
   exact ⟨h,rfl,S,rfl⟩
 | d::ds,st,st1,h,S,hs=>by
   simp only [closeS] at hs
   split at hs
   ·rename_i hb
    have hg:=(S.hg d _ hb rfl).1
    simp only [Blk.denB] at hg
    obtain ⟨h1,e1,S1,n1⟩:=closeS_den (S.killB hb rfl (.dfr true)) hs
    refine ⟨h1,?_,S1,n1.trans (set_nx _ _ _)⟩
    simp only [List.map_cons,closeDfr,hg,e1]
   ·cases hs
theorem setParams_map {f:AV→AV}:∀ (ps:List Tmp) (tm vs:List AV),setParams (tm.map f) ps (vs.map f)=(setParams tm ps vs).map f
 | [],tm,vs=>by cases vs<;>rfl
 | t::ts,tm,[]=>rfl
 | t::ts,tm,v::vs=>by simp only [List.map_cons,setParams,put_map,setParams_map ts]
theorem mem_setParams {x:AV}:∀ {ps:List Tmp} {tm vs:List AV},x∈setParams tm ps vs→x∈tm∨x∈vs
 | [],tm,vs,hx=>by cases vs<;>exact .inl hx
 | t::ts,tm,[],hx=>.inl hx
 | t::ts,tm,v::vs,hx=>by
   simp only [setParams] at hx
   rcases mem_setParams hx with hx | hx
   ·rcases mem_put hx with hx | hx
    ·exact .inl hx
    ·exact .inr (hx ▸ .head _)
   ·exact .inr (.tail _ hx)
theorem leaveY_den (hne:Ls ≠ []) (S:Sim V σ Ls st h) {σ2:Nat→Nat} {st2:SSt} {h2:Hp} (S2:Sim V σ2 ((st.hp.nx,h.nx)::Ls) st2 h2) {b:Bool} {v:AV} (hs:(leaveS st (.bool b) st2).sel V=some (v,st1)) :
  ∃ h1,leaveA h true (.bool b) h2 = .ok (v.den V σ2,h1)∧Sim V σ2 Ls st1 h1∧v.okv V 0∧st1.hp.nx=st.hp.nx:=by
 unfold leaveS at hs
 split at hs
 ·rename_i t rs hrest
  simp only at hs
  split at hs
  ·rename_i hc
   injection hs with hs; simp only [Prod.mk.injEq] at hs; obtain ⟨rfl,rfl⟩:=hs
   have hA:∃ tA rsA,h2.rest=tA::rsA:=by
    have:=S2.segA
    cases hL:Ls with
    | nil=>exact absurd hL hne
    | cons L Ls' =>
      rw [hL] at this
      obtain ⟨_,this⟩:=this
      cases hr:h2.rest with
      | nil=>rw [hr] at this; exact this.elim
      | cons a b=>exact ⟨a,b,rfl⟩
   obtain ⟨tA,rsA,hrA⟩:=hA
   have hlk:=S2.lk (st.hp.nx,h.nx) (.head _) hc.2
   have hS1:=Sim.leave (lk0:=st.hp.lk) (lk0':=h.lk) S2 hrest hrA (fun L hL=>⟨(S.core.lv L hL).2.1,(S.core.lv L hL).2.2⟩) S.lk
   refine ⟨_,?_,hS1,trivial,rfl⟩
   unfold leaveA
   rw [hrA]
   simp only [if_true]
   rw [if_pos ⟨hlk,Nat.zero_le _⟩]
   rfl
  ·cases hs
 ·cases hs
theorem endY_den (hne:Ls ≠ []) (S:Sim V σ Ls st h) {l:Nat} {σ2:Nat→Nat} {st2:SSt} {h2:Hp} (S2:Sim V σ2 ((st.hp.nx,h.nx)::Ls) st2 h2) {ex:Ex} {v:AV} (hs:(endY st l ex st2).sel V=some (v,st1)) :
  ∃ h1 mk tm ps as bd s pend d,h2.get (σ2 l)=some (.loop mk tm ps as bd s pend d)∧Sim V σ2 Ls st1 h1∧v.okv V 0∧st1.hp.nx=st.hp.nx ∧
    (match ex with
     | .normal=>leaveA h true (.bool true) (h2.set (σ2 l) (.loop mk tm ps as bd .ready none d))
     | .ret=>leaveA h true (.bool false) (h2.set (σ2 l) (.loop mk tm ps as bd .done (some .ret) d))
     | .exit id=>leaveA h true (.bool false) (h2.set (σ2 l) (.loop mk tm ps as bd .done (some (.exit id)) d))) = .ok (v.den V σ2,h1):=by
 unfold endY at hs
 split at hs
 ·rename_i mk tm ps as bd s pend d hb
  have hg:=(S2.hg l _ hb rfl).1
  simp only [Blk.denB] at hg
  cases ex with
  | normal =>
    obtain ⟨h1,e1,S1,o1,n1⟩:=leaveY_den hne S (S2.setL hb) hs
    exact ⟨h1,_,_,_,_,_,_,_,_,hg,S1,o1,n1,e1⟩
  | ret =>
    obtain ⟨h1,e1,S1,o1,n1⟩:=leaveY_den hne S (S2.setL hb) hs
    exact ⟨h1,_,_,_,_,_,_,_,_,hg,S1,o1,n1,e1⟩
  | exit id =>
    obtain ⟨h1,e1,S1,o1,n1⟩:=leaveY_den hne S (S2.setL hb) hs
    exact ⟨h1,_,_,_,_,_,_,_,_,hg,S1,o1,n1,e1⟩
 ·cases hs
theorem roundS_den (hV:IsV Ω V) (hi:InvR V inv invA) (hne:Ls ≠ []) (S:Sim V σ Ls st h) (hk:k≤kA) (hu:∀ q,cx.loops q = .unroll) {l:Nat} {args:List AV} {v:AV} (ha:∀ x∈args,x.okv V st.hp.nx) (hs:(roundS cx inv k l args st).sel V=some (v,st1)) :
  ∃ h1 σ1,roundA cx.T invA kA (σ l) (args.map (AV.den V σ)) h = .ok (v.den V σ1,h1)∧Res V σ σ1 Ls st st1 v h1:=by
 unfold roundS at hs
 split at hs
 ·rename_i M tm ps as bd s0 p0 d0 hb
  split at hs
  ·rename_i hc
   obtain ⟨c1,c2,c3⟩:=hc
   have hg:=(S.hg l _ hb rfl).1
   simp only [Blk.denB] at hg
   have hok:=S.okb l _ hb
   have hlt:=(S.core.lt l _ (prom_live (V:=V) (σ:=σ) hb rfl)).1
   have hB:∀ L∈Ls,L.1≤st.hp.nx:=fun L hL=>(S.core.lv L hL).2.1
   have hp:∀ (c:Code),(∀ d∈loopsOf c,∀ L,cx.loops ((keyOf d).getD 0) = .spec L→true=false∧LoopAt V ((st.hp.nx,h.nx)::Ls) cx.T invA kA M L d)∧(∀ d∈loopsOf c,cx.loops ((keyOf d).getD 0) ≠ .probe) :=
    fun c=>⟨fun d _ L hL=>(by rw [hu] at hL; cases hL),fun d _=>by rw [hu]; simp⟩
   rw [sel_bind] at hs
   obtain ⟨⟨ex2,fr2,st2⟩,h1,hs⟩:=hs
   have hfr:FrS V σ st.enter.hp.nx (setParams tm ps args) (setParams (tm.map (AV.den V σ)) ps (args.map (AV.den V σ))):=by
    rw [setParams_map]
    exact FrS.vals (V:=V) (σ:=σ) (n:=st.hp.nx) fun x hx=>by
     rcases mem_setParams hx with hx | hx
     ·exact hok.1 x hx
     ·exact ha x hx
   obtain ⟨fr2',h2,σ2,e2,f2,a2⟩:=execS_den (nl:=true) hV hi hB hk (fun _=>.inr trivial) as (hp as).1 (hp as).2 (dfr:=[]) S.enter hfr h1
   simp only at hs
   split at hs
   ·rename_i mk tm' ps' as' bd' pend d hb2
    have hg2:=(a2.sim.hg l _ hb2 rfl).1
    simp only [Blk.denB] at hg2
    obtain ⟨ag2,le2⟩:=a2.agr rfl
    have hσ2:σ2 l=σ l:=ag2 l hlt
    rw [sel_bind] at hs
    obtain ⟨⟨ex3,fr3,st3⟩,h3,hs⟩:=hs
    have Sb:=a2.sim.setL (s':=.busy) (pend':=pend) hb2
    obtain ⟨fr3',h4,σ3,e3,f3,a3⟩:=execS_den (nl:=true) hV hi hB hk (fun _=>.inr trivial) bd (hp bd).1 (hp bd).2 (dfr:=[]) Sb (by rw [show ({ st2 with hp:=st2.hp.set l (.loop mk tm' ps' as' bd' .busy pend d) }:SSt).hp.nx=st2.hp.nx from set_nx _ _ _]; exact f2) h3
    obtain ⟨ag3,le3⟩:=a3.agr rfl
    have hnx3:({ st2 with hp:=st2.hp.set l (.loop mk tm' ps' as' bd' .busy pend d) }:SSt).hp.nx=st2.hp.nx:=set_nx _ _ _
    have hlt2:l < st2.hp.nx:=Nat.lt_of_lt_of_le hlt le2
    have hσ3:σ3 l=σ l:=by rw [ag3 l (by rw [hnx3]; exact hlt2),hσ2]
    obtain ⟨h5,mk5,tm5,ps5,as5,bd5,s5,pend5,d5,g5,S5,o5,n5,e5⟩:=endY_den hne S a3.sim hs
    rw [hσ3] at g5 e5
    rw [hσ2] at e3 hg2
    refine ⟨h5,σ3,?_,S5,o5.mono (Nat.zero_le _),?_,by rw [n5]; exact Nat.le_refl _⟩
    ·unfold roundA
     simp only [hg,List.length_map,if_pos c1,exec_ro _ as c2,exec_ro _ bd c3,e2,Nd.bind,hg2,e3,g5]
     exact e5
    ·have ag2':Agr st.hp.nx σ σ2:=ag2
     exact ag2'.trans ag3 (by rw [hnx3]; exact le2)
   ·cases hs
  ·cases hs
 ·cases hs
theorem bodyS_den (hV:IsV Ω V) (hi:InvR V inv invA) (hne:Ls ≠ []) (S:Sim V σ Ls st h) (hk:k≤kA) {f:FuncId} {args:List AV} {v:AV} (ha:∀ x∈args,x.okv V st.hp.nx)
  (hl:∀ e code,cx.T.fn.get f=some e→e.fn.body=some code→(∀ d∈loopsOf code,∀ L,cx.loops ((keyOf d).getD 0) = .spec L→nl=false∧LoopAt V ((st.hp.nx,h.nx)::Ls) cx.T invA kA e.loc L d)∧(∀ d∈loopsOf code,cx.loops ((keyOf d).getD 0) ≠ .probe))
  (hs:(bodyS cx inv k f args st).sel V=some (v,st1)) :
  cx.keep f=false∧∃ e code h1 σ1,cx.T.fn.get f=some e∧e.fn.body=some code∧runBody cx.T invA kA e code false (args.map (AV.den V σ)) h = .ok (v.den V σ1,h1)∧Sim V σ1 Ls st1 h1∧v.cl=true∧v.okv V 0∧(nl=true→Agr st.hp.nx σ σ1)∧st1.hp.nx=st.hp.nx:=by
 unfold bodyS at hs
 split at hs
 ·rename_i e he
  split at hs
  ·cases hs
  ·rename_i hkeep
   split at hs
   ·rename_i code hcode
    obtain ⟨hl1,hl2⟩:=hl e code he hcode
    have hB:∀ L∈Ls,L.1≤st.hp.nx:=fun L hL=>(S.core.lv L hL).2.1
    have hfr:FrS V σ st.enter.hp.nx (args++List.replicate (e.fn.ntmps - args.length) undefA) (args.map (AV.den V σ)++List.replicate (e.fn.ntmps - (args.map (AV.den V σ)).length) undefA):=by
     rw [List.length_map]
     exact (FrS.vals (V:=V) (σ:=σ) (n:=st.hp.nx) ha).append (FrS.undefs _)
    refine ⟨by simpa using hkeep,e,code,?_⟩
    split at hs
    ·rw [sel_bind] at hs
     obtain ⟨⟨ex2,fr2,st2⟩,h1,hs⟩:=hs
     obtain ⟨fr2',h2,σ2,e2,f2,a2⟩:=execS_den (nl:=nl) hV hi hB hk (fun _=>.inr trivial) code hl1 hl2 (dfr:=[]) S.enter hfr h1
     cases ex2 with
     | exit id=>cases hs
     | normal=>obtain ⟨h1,x1,x2,x3,x4,x5⟩:=body_fin hne S (by simp) e2 rfl a2.sim f2 hs; exact ⟨h1,σ2,he,hcode,x1,x2,x3,x4,fun hn=>(a2.agr hn).1,x5⟩
     | ret=>obtain ⟨h1,x1,x2,x3,x4,x5⟩:=body_fin hne S (by simp) e2 rfl a2.sim f2 hs; exact ⟨h1,σ2,he,hcode,x1,x2,x3,x4,fun hn=>(a2.agr hn).1,x5⟩
    ·rw [sel_bind] at hs
     obtain ⟨⟨ex2,fr2,st2,ds⟩,h1,hs⟩:=hs
     obtain ⟨fr2',h2,σ2,e2,f2,a2,d2⟩:=execR_den (cx:={ cx with loops:=fun _=>.unroll }) (kA:=kA) hV hi hB hk (fun _=>rfl) code (dfr:=[]) S.enter hfr h1
     rw [List.append_nil] at e2
     have go:(∀ id,ex2 ≠ .exit id)→((closeS ds st2).bind fun st2=>(resultsS cx.T e.loc st2 fr2 e.fn.results.toList).bind fun vs=>leaveS st (oneOf vs) st2).sel V=some (v,st1) →
       ∃ h1 σ1,cx.T.fn.get f=some e∧e.fn.body=some code∧runBody cx.T invA kA e code false (args.map (AV.den V σ)) h = .ok (v.den V σ1,h1)∧Sim V σ1 Ls st1 h1∧v.cl=true∧v.okv V 0∧(nl=true→Agr st.hp.nx σ σ1)∧st1.hp.nx=st.hp.nx:=by
      intro hex hs
      rw [sel_bind] at hs
      obtain ⟨st3,h3,hs⟩:=hs
      obtain ⟨h4,c1,S3,n3⟩:=closeS_den a2.sim h3
      obtain ⟨h1,x1,x2,x3,x4,x5⟩:=body_fin hne S hex e2 c1 S3 (by rw [n3]; exact f2) hs
      exact ⟨h1,σ2,he,hcode,x1,x2,x3,x4,fun _=>(a2.agr rfl).1,x5⟩
     cases ex2 with
     | exit id=>cases hs
     | normal=>exact go (by simp) hs
     | ret=>exact go (by simp) hs
   ·cases hs
 ·cases hs
structure CxR (Ω:Om) (E:Env) (cx:Cx):Prop where
 T:cx.T=E.T
 keep:∀ f,cx.keep f=false→E.keep f=false
 none:∀ f,cx.insts f=[]→E.ext f=none
 insts:∀ f I,I∈cx.insts f→I.f=f∧InstR Ω E I
 gp:∀ f p I,cx.T.gp f=some p→I∈cx.insts f→(∀ as,E.ext f=Option.none∨∃ g,E.ext f=some g∧g as=Option.none)∧(∃ js,patWs p.pats=some js) ∧
  ∃ F:List AV→Option AV,(∀ args l,mtVs p.pats args=some l→l.map (·.1)=List.range l.length→p.g args=F (l.map (·.2)))∧∀ vs,Ω f p.n vs=getJ (F vs)
 fr:∀ f p I,cx.T.fr f=some p→I∈cx.insts f→(∀ as,E.ext f=Option.none∨∃ g,E.ext f=some g∧g as=Option.none)∧(∃ js,patWs p.pats=some js) ∧
  ∃ F:List AV→Option AV,(∀ args l,mtVs p.pats args=some l→l.map (·.1)=List.range l.length→p.g args=F (l.map (·.2)))∧∀ vs,Ω f p.n vs=getJ (F vs)
 ip:∀ f p I,cx.T.ip f=some p→I∈cx.insts f→(∀ x,E.ext f=Option.none∨∃ g,E.ext f=some g∧g [x]=Option.none)∧∀ c,Ω I.f I.n [c]=getJ (ipFn p [c])
theorem runFn_body {E:Env} {inv:Inv} {k:Nat} {f:FuncId} {args:List AV} {h:Hp} {e:FnE} {code:Code} (hx:E.ext f=none) (hip:E.T.ip f=none∧E.T.gp f=none∧E.T.fr f=none) (hpu:E.T.pu f=false) (he:E.T.fn.get f=some e) (hc:e.fn.body=some code):runFn E inv k f args h=runBody E.T inv k e code (E.keep f) args h:=by
 unfold runFn runBody extA frA gpA ipA
 simp only [hx,hip.1,hip.2.1,hip.2.2,hpu,he,hc]
 rfl
theorem ofInts_len (zs:List Int):(ofInts zs).length=zs.length:=by simp [ofInts]
theorem ints_ok:∀ {rows:List (List AV)},(∀ r∈rows,Sh.oks [.int .i64] r=true)→∃ zs,intsOf rows=some zs∧rows.length=zs.length
 | [],_=>⟨[],rfl,rfl⟩
 | r::rows,h=>by
   obtain ⟨zs,h1,h2⟩:=ints_ok fun r hr=>h r (.tail _ hr)
   have h3:=h r (.head _)
   cases r with
   | nil=>simp [Sh.oks] at h3
   | cons a r =>
     cases r with
     | cons _ _=>simp [Sh.oks] at h3
     | nil =>
       simp only [Sh.oks,Bool.and_true] at h3
       have h4:=ok_int h3
       exact ⟨a.nI::zs,by rw [h4]; simp only [intsOf,h1,AV.nI],by simp [h2]⟩
theorem ipS_den (hV:IsV Ω V) {E:Env} (hC:CxR Ω E cx) {p:IpF} {f:FuncId} (hp:cx.T.ip f=some p) (hpu:cx.T.pu f=false) (hgp:cx.T.gp f=none) (hfr:cx.T.fr f=none) (S:Sim V σ Ls st h) {args:List AV} (ha:∀ x∈args,x.okv V st.hp.nx) {v:AV} (hs:(ipS cx p f args st).sel V=some (v,st1)) (inv:Inv) (kA:Nat) :
  ∃ h1 σ1,runFn E inv kA f (args.map (AV.den V σ)) h = .ok (v.den V σ1,h1)∧Res V σ σ1 Ls st st1 v h1:=by
 unfold ipS at hs
 split at hs
 case h_2=>cases hs
 rename_i t cs e I is hins
 split at hs
 case h_2=>cases hs
 rename_i cs' e' hl
 split at hs
 case isFalse=>cases hs
 rename_i hc
 simp only [Bool.and_eq_true] at hc
 obtain ⟨⟨c1,c2⟩,c3⟩:=hc
 have c1:=Sh.eqbs_eq c1; have c2:=Sh.eqbs_eq c2; have c3:=X.eqb_eq c3
 subst c1; subst c2
 obtain ⟨hx1,hx2⟩:=hC.ip f p I hp (by rw [hins]; exact .head _)
 obtain ⟨st2,S2,a1,a2,a3,hs⟩:=needT_den hV S hs
 obtain ⟨st3,S3,b1,b2,b3,hs⟩:=needT_den hV S2 hs
 have g1:(Sh.sl [.int .i64]).ok (V e')=true:=(S.oks _ _ hl).1
 have hown:symD V σ (.own t [.int .i64]) e=symD V σ (.own t [.int .i64]) e':=by
  rw [← hd_own hV t _ 99,c3,hd_own hV t _ 99]
 rw [V_not hV,V_isNil hV] at a3
 have hVc:V (.p (.call I.f I.n) [e'])=getJ (ipFn p [V e']):=by rw [hV.p]; exact hx2 _
 have hokc:(Sh.sl [.int .i64]).ok (V (.p (.call I.f I.n) [e']))=true:=by
  rw [hV.p] at b3
  simpa only [List.map_cons,List.map_nil,Pr.sem,AV.bB,RS.okr,RS.ok] using b3
 rcases ok_sl g1 with h0 | ⟨rows,h0,hr⟩
 ·rw [h0] at a3; simp [AV.nilB,AV.bB] at a3
 have h0:V e' = .sl 1 rows:=h0
 have hprom:(SB.rows [.int .i64] e').prom V=some (.cells 1 rows):=by simp only [SB.prom,h0]
 have hl3:lookS st3.sb t=some (.rows [.int .i64] e'):=by rw [b2,a2]; exact hl
 have hg:=S.core.get t _ (show prom V σ st t=some (.cells 1 rows) by rw [prom_sb S hl]; exact hprom)
 obtain ⟨zs,z1,z2⟩:=ints_ok hr
 have hms:symD V σ (.own t [.int .i64]) e' = .ms (σ t) 0 rows.length:=by simp only [symD,h0]
 have hargs:([.sym (.own t [.int .i64]) e]:List AV).map (AV.den V σ)=[.ms (σ t) 0 rows.length]:=by
  show [symD V σ (.own t [.int .i64]) e]=_
  rw [hown,hms]
 rw [hargs]
 have hext:extA E f [.ms (σ t) 0 rows.length] h=none:=by
  unfold extA
  rcases hx1 (frz h 0 12 (.ms (σ t) 0 rows.length)) with h9 | ⟨g,h9,h10⟩
  ·rw [h9]
  ·simp only [h9,List.map_cons,List.map_nil,h10]
 rw [h0] at hVc
 simp only [ipFn,z1] at hVc
 cases hz:p.g zs with
 | none =>
   rw [hz] at hVc
   rw [hVc] at hokc
   simp [getJ,Sh.ok] at hokc
 | some zs' =>
   rw [hz] at hVc
   have hVc:V (.p (.call I.f I.n) [e']) = .sl 1 (ofInts zs'):=hVc
   have hT:=hC.T
   have hrun:∀ {r},ipRow p (σ t) zs h=some r→runFn E inv kA f [.ms (σ t) 0 rows.length] h = .ok r:=by
    intro r hr
    unfold runFn
    rw [hext]
    simp only [← hT,hpu,Bool.false_eq_true,if_false]
    have hfn:frA cx.T f [.ms (σ t) 0 rows.length] h=none:=by unfold frA; rw [hfr]
    rw [hfn]
    rw [hT]
    have hgn:gpA E.T f [.ms (σ t) 0 rows.length] h=none:=by unfold gpA; rw [← hT,hgp]
    rw [hgn]
    simp only
    have:ipA E.T f [.ms (σ t) 0 rows.length] h=some r:=by
     unfold ipA
     rw [← hT,hp]
     simp only [hg,if_true,z1,hr]
    rw [this]
   split at hs
   ·rename_i he
    injection hs with hs; simp only [Prod.mk.injEq] at hs; obtain ⟨rfl,rfl⟩:=hs
    refine ⟨_,σ,hrun (r:=(.sl 1 (ofInts zs'),h.set (σ t) .dead)) (by unfold ipRow; simp only [hz,he,if_true]) |>.trans ?_,S3.killS hl3 hprom,?_,Agr.refl _ _,?_⟩
    ·show _=Nd.ok (V (.p (.call I.f I.n) [e']),_)
     rw [hVc]
    ·exact hokc
    ·show st.hp.nx≤st3.hp.nx
     rw [b1,a1]; exact Nat.le_refl _
   ·rename_i he
    obtain ⟨st4,S4,d1,d2,d3,hs⟩:=needT_den hV S3 hs
    injection hs with hs; simp only [Prod.mk.injEq] at hs; obtain ⟨rfl,rfl⟩:=hs
    have hlen:zs'.length=zs.length:=by
     rw [hV.p] at d3
     simp only [List.map_cons,List.map_nil,V_len hV,h0,hVc,Pr.sem,AV.nI,AV.lenN,intOpA,getJ,AV.bB,beq_iff_eq] at d3
     rw [ofInts_len] at d3
     omega
    have hl4:lookS st4.sb t=some (.rows [.int .i64] e'):=by rw [d2]; exact hl3
    have hwh:V (.p .whole [e',.p (.call I.f I.n) [e']]) = .sl 1 (ofInts zs'):=by
     rw [hV.p]
     simp only [List.map_cons,List.map_nil,h0,hVc,Pr.sem]
     rw [if_pos (by rw [ofInts_len]; omega)]
    refine ⟨_,σ,hrun (r:=(undefA,h.set (σ t) (.cells 1 (ofInts zs')))) (by unfold ipRow; simp only [hz]; rw [if_neg he,if_pos hlen]),Sim.setS S4 hl4 hprom (B':=.cells 1 (ofInts zs')) (by simp only [SB.prom,hwh]) ?_,?_,Agr.refl _ _,?_⟩
    ·show (Sh.sl [.int .i64]).ok _=true
     rw [hwh,← hVc]; exact hokc
    ·exact (okvs_iff _).2 fun _ h=>by cases h
    ·show st.hp.nx≤st4.hp.nx
     rw [d1,b1,a1]; exact Nat.le_refl _
theorem rows_flat {cs:List Sh} (hf:cs.all (·.flat)=true):∀ {rows:List (List AV)},(∀ r∈rows,Sh.oks cs r=true)→flats rows.flatten=true
 | [],_=>rfl
 | r::rows,h=>by
   have h1:=oks_flat hf (h r (.head _))
   have h2:=rows_flat hf fun q hq=>h q (.tail _ hq)
   have app:∀ {a b:List AV},flats a=true→flats b=true→flats (a++b)=true:=by
    intro a b ha hb
    induction a with
    | nil=>exact hb
    | cons x a ih =>
      simp only [flats,Bool.and_eq_true] at ha
      simp only [List.cons_append,flats,ha.1,ih ha.2,Bool.and_self]
   rw [List.flatten_cons]; exact app h1 h2
theorem gpS_den (hV:IsV Ω V) {E:Env} (hC:CxR Ω E cx) {p:GpF} {f:FuncId} (hp:cx.T.gp f=some p) (hpu:cx.T.pu f=false) (hfr:cx.T.fr f=none) (S:Sim V σ Ls st h) {args:List AV} (ha:∀ x∈args,x.okv V st.hp.nx) {v:AV} (hs:(gpS cx p f args st).sel V=some (v,st1)) (inv:Inv) (kA:Nat) :
  ∃ h1 σ1,runFn E inv kA f (args.map (AV.den V σ)) h = .ok (v.den V σ1,h1)∧Res V σ σ1 Ls st st1 v h1:=by
 unfold gpS at hs
 split at hs
 case h_2=>cases hs
 rename_i t cs e more I is hins
 split at hs
 case h_2=>cases hs
 rename_i cs' e' hl
 split at hs
 case isFalse=>cases hs
 rename_i hc
 simp only [Bool.and_eq_true] at hc
 obtain ⟨⟨⟨⟨c1,c2⟩,c3⟩,c4⟩,c5⟩:=hc
 have c1:=Sh.eqbs_eq c1; have c2:=Sh.eqbs_eq c2; have c3:=X.eqb_eq c3
 subst c1; subst c2
 split at hs
 case h_2=>cases hs
 rename_i r hr
 split at hs
 case h_2=>cases hs
 rename_i xs hxs
 obtain ⟨hx1,⟨js,hjs⟩,F,hgF,hΩ⟩:=hC.gp f p I hp (by rw [hins]; exact .head _)
 obtain ⟨st2,S2,a1,a2,a3,hs⟩:=needT_den hV S hs
 obtain ⟨st3,S3,b1,b2,b3,hs⟩:=needT_den hV S2 hs
 obtain ⟨st4,S4,d1,d2,d3,hs⟩:=needT_den hV S3 hs
 injection hs with hs; simp only [Prod.mk.injEq] at hs; obtain ⟨rfl,rfl⟩:=hs
 have hT:=hC.T
 have g1:(Sh.sl p.cs).ok (V e')=true:=(S.oks _ _ hl).1
 have hown:symD V σ (.own t p.cs) e=symD V σ (.own t p.cs) e':=by
  rw [← hd_own hV t _ 99,c3,hd_own hV t _ 99]
 have hdead:∀ B,st.hp.get t=some B→B.liveS=false:=fun B hB=>S.dj _ _ _ hl hB
 have hl4:lookS st4.sb t=some (.rows p.cs e'):=by rw [d2,b2,a2]; exact hl
 have hlv:∀ (st':SSt) c D,prom V σ st' c=some D→(0≤c↔0≤σ c):=fun _ _ _ _=>⟨fun _=>Nat.zero_le _,fun _=>Nat.zero_le _⟩
 have hokc:(Sh.sl p.cs).ok (V (.p (.call f p.n) xs))=true:=by
  rw [hV.p] at a3
  simpa only [List.map_cons,List.map_nil,Pr.sem,AV.bB,RS.okr,RS.ok] using a3
 have hVc:V (.p (.call f p.n) xs)=getJ (F (xs.map V)):=by rw [hV.p]; exact hΩ _
 have hlen:(V e').lenN=(V (.p (.call f p.n) xs)).lenN:=by
  rw [hV.p] at b3
  simp only [List.map_cons,List.map_nil,V_len hV,Pr.sem,intOpA,getJ,AV.bB,beq_iff_eq,AV.nI] at b3
  omega
 have hnil:(V e').nilB=(V (.p (.call f p.n) xs)).nilB:=by
  rw [hV.p] at d3
  simpa only [List.map_cons,List.map_nil,V_isNil hV,Pr.sem,AV.bB,beq_iff_eq] using d3
 obtain ⟨x1,x2⟩:=inOrder_some hxs
 have fz:∀ {h':Hp},Sim V σ Ls { st with sb:=dropS st.sb t } h'→(more.map (AV.den V σ)).map (frz h' 0 12)=(more.map (frzS { st with sb:=dropS st.sb t } 0 12)).map (AV.den V σ)∧∀ y∈more.map (frzS { st with sb:=dropS st.sb t } 0 12),y.okv V st.hp.nx:=by
  intro h' S'
  have one:∀ x∈more,frz h' 0 12 (x.den V σ)=(frzS { st with sb:=dropS st.sb t } 0 12 x).den V σ∧(frzS { st with sb:=dropS st.sb t } 0 12 x).okv V st.hp.nx:=fun x hx =>
   frzS_den S' (hlv _) 12 x (ha x (.tail _ hx)) ((cls_iff _).1 c5 _ (List.mem_map.2 ⟨x,hx,rfl⟩))
  refine ⟨?_,fun y hy=>?_⟩
  ·rw [List.map_map,List.map_map]
   exact List.map_congr_left fun x hx=>(one x hx).1
  ·obtain ⟨x,hx,rfl⟩:=List.mem_map.1 hy
   exact (one x hx).2
 have ask:∀ {h':Hp},Sim V σ Ls { st with sb:=dropS st.sb t } h'→mxs ((more.map (AV.den V σ)).map (frz h' 0 12))=0∧p.g (V e'::(more.map (AV.den V σ)).map (frz h' 0 12))=F (xs.map V):=by
  intro h' S'
  obtain ⟨q1,q2⟩:=fz S'
  refine ⟨by rw [q1]; exact map_mx0 q2 (cls_mx c5),?_⟩
  have hokv:AV.okvs V st.hp.nx (.sym (.sl p.cs) e'::more.map (frzS { st with sb:=dropS st.sb t } 0 12)):=⟨g1,(okvs_iff _).2 q2⟩
  have hm:=mtcs_args (σ:=σ) hV p.pats _ r js hr hjs hokv
  have:=hgF _ _ hm (by rw [List.map_map,List.length_map]; exact x2)
  rw [List.map_map] at this
  rw [q1,← AV.dens_map,x1,List.map_map]
  exact this
 have hext:∀ as,extA E f as h=none:=fun as=>by
  unfold extA
  rcases hx1 (as.map (frz h 0 12)) with h9 | ⟨g,h9,h10⟩
  ·rw [h9]
  ·simp only [h9,h10]
 have hrun:∀ {as:List AV} {r:AV × Hp},gpA cx.T f as h=some r→runFn E inv kA f as h = .ok r:=by
  intro as r hr
  unfold runFn
  have hfn:frA cx.T f as h=none:=by unfold frA; rw [hfr]
  rw [hext]
  simp only [← hT,hpu,Bool.false_eq_true,if_false,hfn,hr]
 have hnx:st.hp.nx≤st4.hp.nx:=by rw [d1,b1,a1]; exact Nat.le_refl _
 rcases ok_sl g1 with h0 | ⟨rows,h0,hrw⟩
 ·
  have hc0:V (.p (.call f p.n) xs) = .nils:=by
   rcases ok_sl hokc with h9 | ⟨rows',h9,_⟩
   ·exact h9
   ·rw [h0,h9] at hnil; simp [AV.nilB] at hnil
  obtain ⟨q1,q2⟩:=ask (S.forgetS hdead)
  rw [h0] at q2
  have hF:F (xs.map V)=some .nils:=by
   rw [hc0] at hVc
   cases hq:F (xs.map V) with
   | none=>rw [hq] at hVc; simp [getJ] at hVc
   | some u=>rw [hq] at hVc; simp only [getJ] at hVc; rw [hVc]
  rw [hF] at q2
  have hargs:(AV.sym (.own t p.cs) e::more).map (AV.den V σ) = .nils::more.map (AV.den V σ):=by
   show symD V σ (.own t p.cs) e::_=_
   rw [hown]; simp only [symD,h0]
  have hw:V (.p .whole [e',.p (.call f p.n) xs]) = .nils:=by
   rw [hV.p]; simp only [List.map_cons,List.map_nil,h0,hc0,Pr.sem]
  refine ⟨h,σ,?_,Sim.setNone S4 hl4 (by simp only [SB.prom,h0]) (by simp only [SB.prom,hw]) ?_,(okvs_iff _).2 (fun _ h=>by cases h),Agr.refl _ _,hnx⟩
  ·rw [hargs]
   refine (hrun (r:=(undefA,h)) ?_).trans rfl
   unfold gpA
   simp only [hp,q1,if_true,q2]
  ·show (Sh.sl p.cs).ok _=true
   rw [hw]; rfl
 ·
  have hprom:(SB.rows p.cs e').prom V=some (.cells p.cs.length rows):=by simp only [SB.prom,h0]
  have hg:=S.core.get t _ (show prom V σ st t=some (.cells p.cs.length rows) by rw [prom_sb S hl]; exact hprom)
  obtain ⟨rows',hc0,hrw'⟩:∃ rows',V (.p (.call f p.n) xs) = .sl p.cs.length rows'∧∀ r∈rows',Sh.oks p.cs r=true:=by
   rcases ok_sl hokc with h9 | h9
   ·rw [h0,h9] at hnil; simp [AV.nilB] at hnil
   ·exact h9
  have hll:rows'.length=rows.length:=by rw [h0,hc0] at hlen; simp only [AV.lenN] at hlen; exact hlen.symm
  obtain ⟨q1,q2⟩:=ask (S.killS hl hprom)
  rw [h0] at q2
  have hF:F (xs.map V)=some (.sl p.cs.length rows'):=by
   rw [hc0] at hVc
   cases hq:F (xs.map V) with
   | none=>rw [hq] at hVc; simp [getJ] at hVc
   | some u=>rw [hq] at hVc; simp only [getJ] at hVc; rw [hVc]
  rw [hF] at q2
  have hargs:(AV.sym (.own t p.cs) e::more).map (AV.den V σ) = .ms (σ t) 0 rows.length::more.map (AV.den V σ):=by
   show symD V σ (.own t p.cs) e::_=_
   rw [hown]; simp only [symD,h0]
  have hw:V (.p .whole [e',.p (.call f p.n) xs]) = .sl p.cs.length rows':=by
   rw [hV.p]; simp only [List.map_cons,List.map_nil,h0,hc0,Pr.sem]
   rw [if_pos hll.symm]
  refine ⟨_,σ,?_,Sim.setS S4 hl4 hprom (B':=.cells p.cs.length rows') (by simp only [SB.prom,hw]) ?_,(okvs_iff _).2 (fun _ h=>by cases h),Agr.refl _ _,hnx⟩
  ·rw [hargs]
   refine (hrun (r:=(undefA,h.set (σ t) (.cells p.cs.length rows'))) ?_).trans rfl
   unfold gpA
   simp only [hp,hg]
   rw [if_pos ⟨trivial,rows_mx hrw,q1⟩]
   simp only [q2]
   rw [if_pos ⟨trivial,hll,rows_flat c4 hrw'⟩]
  ·show (Sh.sl p.cs).ok _=true
   rw [hw,← hc0]; exact hokc
theorem frS_den (hV:IsV Ω V) {E:Env} (hC:CxR Ω E cx) {p:GpF} {f:FuncId} (hp:cx.T.fr f=some p) (hpu:cx.T.pu f=false) (S:Sim V σ Ls st h) {args:List AV} (ha:∀ x∈args,x.okv V st.hp.nx) {v:AV} (hs:(frS cx p f args st).sel V=some (v,st1)) (inv:Inv) (kA:Nat) :
  ∃ h1 σ1,runFn E inv kA f (args.map (AV.den V σ)) h = .ok (v.den V σ1,h1)∧Res V σ σ1 Ls st st1 v h1:=by
 unfold frS at hs
 split at hs
 case h_2=>cases hs
 rename_i I is hins
 split at hs
 case isFalse=>cases hs
 rename_i hc
 simp only [Bool.and_eq_true] at hc
 obtain ⟨c5,c4⟩:=hc
 split at hs
 case h_2=>cases hs
 rename_i r hr
 split at hs
 case h_2=>cases hs
 rename_i xs hxs
 obtain ⟨hx1,⟨js,hjs⟩,F,hgF,hΩ⟩:=hC.fr f p I hp (by rw [hins]; exact .head _)
 obtain ⟨st2,S2,a1,a2,a3,hs⟩:=needT_den hV S hs
 injection hs with hs; simp only [Prod.mk.injEq] at hs; obtain ⟨rfl,rfl⟩:=hs
 have hT:=hC.T
 have hokc:(Sh.sl p.cs).ok (V (.p (.call f p.n) xs))=true:=by
  rw [hV.p] at a3
  simpa only [List.map_cons,List.map_nil,Pr.sem,AV.bB,RS.okr,RS.ok] using a3
 have hVc:V (.p (.call f p.n) xs)=getJ (F (xs.map V)):=by rw [hV.p]; exact hΩ _
 obtain ⟨x1,x2⟩:=inOrder_some hxs
 have hlv:∀ c D,prom V σ st c=some D→(0≤c↔0≤σ c):=fun _ _ _=>⟨fun _=>Nat.zero_le _,fun _=>Nat.zero_le _⟩
 have one:∀ x∈args,frz h 0 12 (x.den V σ)=(frzS st 0 12 x).den V σ∧(frzS st 0 12 x).okv V st.hp.nx:=fun x hx =>
  frzS_den S hlv 12 x (ha x hx) ((cls_iff _).1 c5 _ (List.mem_map.2 ⟨x,hx,rfl⟩))
 have fz1:(args.map (AV.den V σ)).map (frz h 0 12)=(args.map (frzS st 0 12)).map (AV.den V σ):=by
  rw [List.map_map,List.map_map]
  exact List.map_congr_left fun x hx=>(one x hx).1
 have fz2:∀ y∈args.map (frzS st 0 12),y.okv V st.hp.nx:=fun y hy=>by
  obtain ⟨x,hx,rfl⟩:=List.mem_map.1 hy
  exact (one x hx).2
 have hm:=mtcs_args (σ:=σ) hV p.pats _ r js hr hjs ((okvs_iff _).2 fz2)
 have hg:=hgF _ _ hm (by rw [List.map_map,List.length_map]; exact x2)
 rw [List.map_map,AV.dens_map,← fz1] at hg
 have hg':p.g ((args.map (AV.den V σ)).map (frz h 0 12))=F (xs.map V):=by rw [hg,x1,List.map_map]; rfl
 have hmx:mxs ((args.map (AV.den V σ)).map (frz h 0 12))=0:=by rw [fz1]; exact map_mx0 fz2 (cls_mx c5)
 have hext:∀ as,extA E f as h=none:=fun as=>by
  unfold extA
  rcases hx1 (as.map (frz h 0 12)) with h9 | ⟨g,h9,h10⟩
  ·rw [h9]
  ·simp only [h9,h10]
 have hrun:∀ {as:List AV} {r:AV × Hp},frA cx.T f as h=some r→runFn E inv kA f as h = .ok r:=by
  intro as r hr
  unfold runFn
  rw [hext]
  simp only [← hT,hpu,Bool.false_eq_true,if_false,hr]
 have hnx2:st2.hp.nx=st.hp.nx:=by rw [a1]
 have hle:st.hp.nx≤(st2.make (.rows p.cs (.p (.call f p.n) xs))).hp.nx:=by show st.hp.nx≤st2.hp.nx+1; omega
 have hFs:∀ {u:AV},V (.p (.call f p.n) xs)=u→u ≠ .junk→F (xs.map V)=some u:=by
  intro u hu hj
  rw [hu] at hVc
  cases hq:F (xs.map V) with
  | none=>rw [hq] at hVc; exact absurd hVc hj
  | some w=>rw [hq] at hVc; simp only [getJ] at hVc; rw [hVc]
 rcases ok_sl hokc with h0 | ⟨rows,h0,hrw⟩
 ·have hF:=hFs h0 (by simp)
  refine ⟨h,σ,(hrun (r:=(.nils,h)) ?_).trans ?_,Sim.makeNone S2 (by simp only [SB.prom,h0]) hokc,⟨Nat.lt_succ_self _,hokc⟩,Agr.refl _ _,hle⟩
  ·unfold frA
   simp only [hp,hmx,if_true,hg',hF]
  ·simp only [AV.den,symD,h0]
 ·have hF:=hFs h0 (by simp)
  have hfl:=rows_flat c4 hrw
  have hmk:=Sim.make S2 (s:=.rows p.cs (.p (.call f p.n) xs)) (B:=.cells p.cs.length rows) (fun B' hB'=>by
   simp only [SB.prom,h0] at hB'
   injection hB' with hB'; exact hB'.symm) hokc
  refine ⟨h.push (.cells p.cs.length rows),ext1 σ st2.hp.nx h.nx,(hrun (r:=(.ms h.nx 0 rows.length,h.push (.cells p.cs.length rows))) ?_).trans ?_,hmk,⟨Nat.lt_succ_self _,hokc⟩,by rw [hnx2]; exact ext1_agr _ _ _,hle⟩
  ·unfold frA
   simp only [hp,hmx,if_true,hg',hF,hfl]
  ·simp only [AV.den,symD,h0,ext1,if_true]
theorem invS_den (hV:IsV Ω V) {E:Env} (hC:CxR Ω E cx) (n:Nat):∀ (kA:Nat),n≤kA→InvR V (invS cx n) (AM.inv E kA):=by
 induction n with
 | zero=>intro _ _ σ Ls st h f args v st1 a cap hne S ha hac hcap hs; cases hs
 | succ n ihn =>
   intro kA hn σ Ls st h f args v st1 a cap hne S ha hac hcap hs
   cases kA with
   | zero=>omega
   | succ kA =>
   cases f with
   | method _=>simp [invS,Te.sel] at hs
   | methodOf _ _=>simp [invS,Te.sel] at hs
   | via _ _ _ _=>simp [invS,Te.sel] at hs
   | yield l =>
     simp only [invS] at hs
     have hc0:=hcap l rfl
     subst hc0
     rw [List.append_nil] at hac
     subst hac
     simp only [AM.inv,fnD]
     have hT:cx.T=E.T:=hC.T
     rw [← hT]
     exact roundS_den (cx:={ cx with loops:=fun _=>.unroll }) hV (ihn kA (by omega)) hne S (by omega) (fun _=>rfl) ha hs
   | func f =>
   simp only [invS] at hs
   simp only [AM.inv,fnD]
   rw [hac]
   split at hs
   ·rename_i p hp
    split at hs
    ·cases hs
    rename_i hpu
    exact frS_den hV hC hp (by simpa using hpu) S ha hs _ _
   rename_i hnfr
   split at hs
   ·rename_i p hp
    split at hs
    ·cases hs
    rename_i hpu
    exact gpS_den hV hC hp (by simpa using hpu) hnfr S ha hs _ _
   rename_i hngp
   split at hs
   ·rename_i p hp
    split at hs
    ·cases hs
    rename_i hpu
    exact ipS_den hV hC hp (by simpa using hpu) hngp hnfr S ha hs _ _
   rename_i hnip
   split at hs
   ·rename_i i is hins
    split at hs
    ·rename_i I xs ht
     obtain ⟨hmem,htry⟩:=tryInsts_mem ht
     rw [← hins] at hmem
     obtain ⟨hIf,hIR⟩:=hC.insts f I hmem
     try simp only at hs
     obtain ⟨st2,S2,e1,e2,e3,hs⟩:=needT_den hV S hs
     injection hs with hs; simp only [Prod.mk.injEq] at hs; obtain ⟨rfl,rfl⟩:=hs
     have hok:RS.okr I.rs (V (.p (.call I.f I.n) xs))=true:=by
      rw [hV.p] at e3
      simpa only [List.map_cons,List.map_nil,Pr.sem,AV.bB] using e3
     have hext:=tryInst_den hV S hIR ha htry hok
     obtain ⟨r1,r2⟩:=resT_den (σ:=σ) (n:=st2.hp.nx) hV hok
     refine ⟨h,σ,?_,S2,r2,Agr.refl _ _,by rw [e1]; exact Nat.le_refl _⟩
     unfold runFn
     rw [← hIf,hext,r1]
    ·cases hs
   ·rename_i hins
    split at hs
    ·cases hs
    rename_i hnpu
    obtain ⟨⟨u,st2⟩,h1,h2⟩:=fold_sel hV LeV.refl (fun _ _ _=>LeV.trans) (fun c a b m h=>mgV_le hV c a b m h) hs
    obtain ⟨l1,l2⟩:=h2
    have ih:InvR V (invS cx n) (AM.inv E kA):=ihn kA (by omega)
    obtain ⟨hk,e,code,h3,σ3,he,hcode,hrun,S3,hcl,hok,hagr,hnx⟩:=bodyS_den (nl:=true) (cx:={ cx with loops:=fun _=>.unroll }) (invA:=AM.inv E kA) (kA:=kA) hV ih hne S (by omega) ha
     (fun e code _ _=>⟨fun d _ L hL=>(by simp at hL),fun d _=>by simp⟩) h1
    have hT:cx.T=E.T:=hC.T
    obtain ⟨m1,m2⟩:=l1 (σ:=σ3) (hok.mono (Nat.zero_le _))
    refine ⟨h3,σ3,?_,l2.1 S3,m1,hagr rfl,?_⟩
    ·rw [runFn_body (hC.none f hins) (by rw [← hT]; exact ⟨hnip,hngp,hnfr⟩) (by rw [← hT]; simpa using hnpu) (by rw [← hT]; exact he) hcode,hC.keep f hk]
     simp only at m2
     rw [m2,← hT]
     exact hrun
    ·have:=l2.2
     simp only at this
     omega
end
end Go.Proofs.YtdjngcfnlfgjkaaGreatDoor.AM
