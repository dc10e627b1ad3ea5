/-
  The symbolic machine's soundness (first part).
-/
import Derived.Test.YtdjngcfnlfgjkaaGreatDoorSm1
import Derived.Test.YtdjngcfnlfgjkaaGreatDoorAm1
set_option linter.unusedVariables false
set_option linter.unusedSimpArgs false
set_option linter.unusedSectionVars false
namespace Go.Proofs.YtdjngcfnlfgjkaaGreatDoor.AM
section
variable {α β:Type} {f:α→β}
theorem nth_map (l:List α) (n:Nat):nth (l.map f) n=(nth l n).map f:=by
 induction l generalizing n with
 | nil=>rfl
 | cons a l ih=>cases n with | zero=>rfl | succ n=>exact ih n
theorem put_map (l:List α) (n:Nat) (v:α):put (l.map f) n (f v)=(put l n v).map f:=by
 induction l generalizing n with
 | nil=>rfl
 | cons a l ih=>cases n with | zero=>rfl | succ n=>simp [put,ih]
theorem mem_nth {l:List α} {n:Nat} {x:α} (h:nth l n=some x):x∈l:=by
 induction l generalizing n with
 | nil=>cases h
 | cons a l ih=>cases n with
   | zero=>injection h with h; subst h; exact .head _
   | succ n=>exact .tail _ (ih h)
theorem mem_put {l:List α} {n:Nat} {v x:α} (h:x∈put l n v):x∈l∨x=v:=by
 induction l generalizing n with
 | nil=>exact .inl h
 | cons a l ih=>cases n with
   | zero=>cases h with | head=>exact .inr rfl | tail _ h=>exact .inl (.tail _ h)
   | succ n=>cases h with
     | head=>exact .inl (.head _)
     | tail _ h=>exact (ih h).imp (.tail _) id
end
theorem setCells_map {f:AV→AV} (r vs:List AV) (o:Nat):setCells (r.map f) o (vs.map f)=(setCells r o vs).map f:=by
 induction vs generalizing r o with
 | nil=>rfl
 | cons v vs ih=>simp only [List.map_cons,setCells,put_map,ih]
theorem mem_setCells {r vs:List AV} {o:Nat} {x:AV} (h:x∈setCells r o vs):x∈r∨x∈vs:=by
 induction vs generalizing r o with
 | nil=>exact .inl h
 | cons v vs ih =>
   simp only [setCells] at h
   rcases ih h with h | h
   ·rcases mem_put h with h | h
    ·exact .inl h
    ·exact .inr (h ▸ .head _)
   ·exact .inr (.tail _ h)
def Blk.denB (V:X→AV) (σ:Nat→Nat):Blk→Blk
 | .cells k rows=>.cells k (rows.map fun r=>r.map (AV.den V σ))
 | .map es=>.map (es.map fun e=>(e.1.den V σ,e.2.den V σ))
 | .loop M tmps ps as bd s pend d=>.loop M (tmps.map (AV.den V σ)) ps as bd s pend (σ d)
 | b=>b
def Blk.okB (V:X→AV) (n:Nat):Blk→Prop
 | .cells _ rows=>∀ r∈rows,∀ x∈r,x.okv V n
 | .map es=>∀ e∈es,e.1.okv V n∧e.2.okv V n
 | .loop _ tmps _ _ _ _ _ d=>(∀ x∈tmps,x.okv V n)∧d < n
 | _=>True
def HG (V:X→AV) (σ:Nat→Nat) (n:Nat) (H h:Hp):Prop :=
 ∀ b B,H.get b=some B→B.liveS=true→h.get (σ b)=some (B.denB V σ)∧B.okB V n
def EvD (V:X→AV) (σ:Nat→Nat) (n:Nat) (ev ev':Ev):Prop :=
 ∀ o v,ev o=some v→ev' o=some (v.den V σ)∧v.okv V n
section
variable {V:X→AV} {σ:Nat→Nat} {n:Nat} {T:Tab} {H h:Hp}
theorem evals_den {ev ev':Ev} (he:EvD V σ n ev ev'):∀ {l:List Operand} {vs:List AV},evalsA ev l=some vs→evalsA ev' l=some (vs.map (AV.den V σ))∧∀ x∈vs,x.okv V n
 | [],vs,h=>by injection h with h; subst h; exact ⟨rfl,fun _ h=>by cases h⟩
 | o::l,vs,h=>by
   simp only [evalsA] at h ⊢
   cases h1:ev o with
   | none=>rw [h1] at h; cases h
   | some v =>
     rw [h1] at h
     simp only at h
     cases h2:evalsA ev l with
     | none=>rw [h2] at h; cases h
     | some ws =>
       rw [h2] at h
       injection h with h; subst h
       obtain ⟨a1,a2⟩:=he o v h1
       obtain ⟨b1,b2⟩:=evals_den he h2
       refine ⟨by simp [a1,b1],fun x hx=>?_⟩
       cases hx with
       | head=>exact a2
       | tail _ hx=>exact b2 x hx
theorem takeV_den {ag:Bool} {k:Nat} {cs:List AV} {v:AV} (ho:∀ x∈cs,x.okv V n) (hv:takeV ag k cs=some v):takeV ag k (cs.map (AV.den V σ))=some (v.den V σ)∧v.okv V n:=by
 unfold takeV at hv ⊢
 cases ag with
 | true =>
   simp only [if_true] at hv ⊢
   split at hv
   ·rename_i hl
    injection hv with hv; subst hv
    simp only [List.length_map,hl,if_true,AV.den,AV.dens_map,List.map_take,AV.okv,okvs_iff]
    exact ⟨trivial,fun x hx=>ho x (List.mem_of_mem_take hx)⟩
   ·cases hv
 | false =>
   simp only [Bool.false_eq_true,if_false] at hv ⊢
   cases cs with
   | nil=>cases hv
   | cons c cs=>injection hv with hv; subst hv; exact ⟨rfl,ho _ (.head _)⟩
theorem HG.cells (hg:HG V σ n H h) {b k:Nat} {rows:List (List AV)} (hb:H.get b=some (.cells k rows)):h.get (σ b)=some (.cells k (rows.map fun r=>r.map (AV.den V σ)))∧∀ r∈rows,∀ x∈r,x.okv V n:=hg b _ hb rfl
theorem HG.map (hg:HG V σ n H h) {b:Nat} {es:List (AV × AV)} (hb:H.get b=some (.map es)):h.get (σ b)=some (.map (es.map fun e=>(e.1.den V σ,e.2.den V σ)))∧∀ e∈es,e.1.okv V n∧e.2.okv V n:=hg b _ hb rfl
theorem cellsA_den (hg:HG V σ n H h) {a:AV} {cs:List AV} (ha:a.okv V n) (hc:cellsA H a=some cs):cellsA h (a.den V σ)=some (cs.map (AV.den V σ))∧∀ x∈cs,x.okv V n:=by
 unfold cellsA at hc
 split at hc
 ·rename_i b i o
  split at hc
  ·rename_i k rows hb
   obtain ⟨h1,h2⟩:=hg.cells hb
   split at hc
   ·rename_i r hr
    injection hc with hc; subst hc
    simp only [AV.den,cellsA,h1,nth_map,hr,Option.map_some,List.map_drop]
    exact ⟨trivial,fun x hx=>h2 r (mem_nth hr) x (List.mem_of_mem_drop hx)⟩
   ·cases hc
  ·cases hc
 ·injection hc with hc; subst hc
  simp only [AV.den,cellsA,AV.dens_map]
  simp only [AV.okv,okvs_iff] at ha
  exact ⟨trivial,ha⟩
 ·cases hc
theorem loadA_den (hg:HG V σ n H h) {t:TypeId} {a v:AV} (ha:a.okv V n) (hv:loadA T H t a=some v):loadA T h t (a.den V σ)=some (v.den V σ)∧v.okv V n:=by
 unfold loadA at hv ⊢
 split at hv
 ·rename_i ag k cs h1 h2 h3
  obtain ⟨c1,c2⟩:=cellsA_den hg ha h3
  simp only [h1,h2,c1]
  exact takeV_den c2 hv
 ·cases hv
theorem shift_den {a v:AV} {k:Nat} (ha:a.okv V n) (hv:a.shift k=some v):(a.den V σ).shift k=some (v.den V σ)∧v.okv V n:=by
 cases a<;>simp only [AV.shift] at hv<;>try (cases hv; done)
 ·injection hv with hv; subst hv; exact ⟨rfl,ha⟩
 ·injection hv with hv; subst hv
  simp only [AV.den,AV.shift,AV.dens_map,List.map_drop]
  simp only [AV.okv,okvs_iff] at ha ⊢
  exact ⟨trivial,fun x hx=>ha x (List.mem_of_mem_drop hx)⟩
theorem fieldAddrA_den {s:TypeId} {x v:AV} {f:Nat} (ha:x.okv V n) (hv:fieldAddrA T s x f=some v):fieldAddrA T s (x.den V σ) f=some (v.den V σ)∧v.okv V n:=by
 unfold fieldAddrA at hv ⊢
 split at hv
 ·split at hv
  ·split at hv
   ·cases hv
   ·rename_i h1 _ _ h2 h3
    simp only [h1,h2,h3,if_false]
    exact shift_den ha hv
  ·cases hv
 ·cases hv
theorem indexAddrA_den (hg:HG V σ n H h) {t:TypeId} {x ix v:AV} (ha:x.okv V n) (hv:indexAddrA T H t x ix=some v):indexAddrA T h t (x.den V σ) (ix.den V σ)=some (v.den V σ)∧v.okv V n:=by
 unfold indexAddrA at hv
 split at hv
 ·rename_i k i
  simp only [AV.den]
  unfold indexAddrA
  split at hv
  ·rename_i len elem h1
   simp only [h1]
   split at hv
   ·rename_i sz h2
    try simp only [h2]
    split at hv
    ·rename_i h3
     simp only [h3,and_self,if_true]
     exact shift_den ha hv
    ·cases hv
   ·cases hv
  ·rename_i elem h1
   simp only [h1]
   split at hv
   ·rename_i sz h2
    try simp only [h2]
    split at hv
    ·rename_i b off len
     simp only [AV.den]
     split at hv
     ·rename_i h3
      simp only [h3,and_self,if_true]
      split at hv
      ·rename_i k rows hb
       obtain ⟨c1,c2⟩:=hg.cells hb
       simp only [c1,List.length_map]
       split at hv
       ·rename_i h4
        injection hv with hv; subst hv
        simp only [h4,and_self,if_true]
        exact ⟨rfl,ha⟩
       ·cases hv
      ·cases hv
     ·cases hv
    ·rename_i k rows
     simp only [AV.den,AV.denss_map]
     split at hv
     ·rename_i h3
      simp only [h3,and_self,if_true,nth_map]
      split at hv
      ·rename_i r hr
       injection hv with hv; subst hv
       simp only [hr,Option.map_some,AV.den,AV.dens_map]
       simp only [AV.okv,okvss_iff,okvs_iff] at ha ⊢
       exact ⟨trivial,ha r (mem_nth hr)⟩
      ·cases hv
     ·cases hv
    ·cases hv
   ·cases hv
  ·cases hv
 ·cases hv
theorem partA_den {t:TypeId} {cs:List AV} {off:Nat} {v:AV} (ho:∀ x∈cs,x.okv V n) (hv:partA T t cs off=some v):partA T t (cs.map (AV.den V σ)) off=some (v.den V σ)∧v.okv V n:=by
 unfold partA at hv ⊢
 split at hv
 ·rename_i k h1 h2
  injection hv with hv; subst hv
  simp only [h1,h2,AV.den,AV.dens_map,List.map_drop,List.map_take,AV.okv,okvs_iff]
  exact ⟨trivial,fun x hx=>ho x (List.mem_of_mem_drop (List.mem_of_mem_take hx))⟩
 ·rename_i h1
  simp only [h1,nth_map,hv,Option.map_some]
  exact ⟨trivial,ho _ (mem_nth hv)⟩
 ·cases hv
theorem fieldA_den {s:TypeId} {x v:AV} {f:Nat} (ha:x.okv V n) (hv:fieldA T s x f=some v):fieldA T s (x.den V σ) f=some (v.den V σ)∧v.okv V n:=by
 unfold fieldA at hv
 split at hv
 ·rename_i off t cs h1
  simp only [AV.okv,okvs_iff] at ha
  simp only [AV.den,fieldA,h1,AV.dens_map]
  exact partA_den ha hv
 ·cases hv
theorem indexA_den {t:TypeId} {x ix v:AV} (ha:x.okv V n) (hv:indexA T t x ix=some v):indexA T t (x.den V σ) (ix.den V σ)=some (v.den V σ)∧v.okv V n:=by
 unfold indexA at hv
 split at hv
 ·rename_i len elem cs k i h1
  simp only [AV.okv,okvs_iff] at ha
  simp only [AV.den,indexA,h1,AV.dens_map]
  split at hv
  ·rename_i sz h2
   try simp only [h2]
   split at hv
   ·rename_i h3
    simp only [h3,and_self,if_true]
    exact partA_den ha hv
   ·cases hv
  ·cases hv
 ·rename_i s k i h1
  simp only [AV.den,indexA,h1]
  split at hv
  ·rename_i h3
   simp only [h3,if_true]
   cases hs:s[i.toNat]? with
   | none=>rw [hs] at hv; cases hv
   | some c=>rw [hs] at hv; injection hv with hv; subst hv; exact ⟨rfl,trivial⟩
  ·cases hv
 ·cases hv
theorem parts_den {ev ev':Ev} (he:EvD V σ n ev ev'):∀ {l:List (Nat × Operand)} {ps:List (Nat × AV)},partsA ev l=some ps→partsA ev' l=some (ps.map fun p=>(p.1,p.2.den V σ))∧∀ p∈ps,p.2.okv V n
 | [],ps,h=>by injection h with h; subst h; exact ⟨rfl,fun _ h=>by cases h⟩
 | (i,o)::l,ps,h=>by
   simp only [partsA] at h ⊢
   cases h1:ev o with
   | none=>rw [h1] at h; cases h
   | some v =>
     rw [h1] at h
     simp only at h
     cases h2:partsA ev l with
     | none=>rw [h2] at h; cases h
     | some ws =>
       rw [h2] at h
       injection h with h; subst h
       obtain ⟨a1,a2⟩:=he o v h1
       obtain ⟨b1,b2⟩:=parts_den he h2
       refine ⟨by simp [a1,b1],fun x hx=>?_⟩
       cases hx with
       | head=>exact a2
       | tail _ hx=>exact b2 x hx
theorem fillA_den {pl:Nat→Option (Nat × Nat)}:∀ {ps:List (Nat × AV)} {cs r:List AV},(∀ p∈ps,p.2.okv V n)→(∀ x∈cs,x.okv V n)→fillA pl cs ps=some r →
  fillA pl (cs.map (AV.den V σ)) (ps.map fun p=>(p.1,p.2.den V σ))=some (r.map (AV.den V σ))∧∀ x∈r,x.okv V n
 | [],cs,r,_,hc,h=>by injection h with h; subst h; exact ⟨rfl,hc⟩
 | (i,v)::ps,cs,r,hp,hc,h=>by
   have hv:=hp _ (.head _)
   simp only [fillA,List.map_cons] at h ⊢
   split at h
   ·rename_i off m h1
    try simp only [h1]
    split at h
    ·rename_i h2
     have e1:(v.den V σ).known=true:=den_known hv h2.1
     have e2:=den_cells (σ:=σ) hv
     simp only [e1,e2,List.length_map,h2,and_self,if_true,setCells_map]
     exact fillA_den (fun p hq=>hp p (.tail _ hq)) (fun x hx=>(mem_setCells hx).elim (hc x) (okv_cells hv x)) h
    ·cases h
   ·cases h
theorem buildA_den {t:TypeId} {ps:List (Nat × AV)} {v:AV} (hp:∀ p∈ps,p.2.okv V n) (hv:buildA T t ps=some v):buildA T t (ps.map fun p=>(p.1,p.2.den V σ))=some (v.den V σ)∧v.okv V n:=by
 unfold buildA at hv ⊢
 split at hv
 ·rename_i z hz
  obtain ⟨z1,z2⟩:=den_zeroT (V:=V) (σ:=σ) (n:=n) hz
  have zc:z.cells.map (AV.den V σ)=z.cells:=by rw [← den_cells z2,z1]
  try simp only [hz]
  have fin:∀ {pl:Nat→Option (Nat × Nat)} {v:AV},(fillA pl z.cells ps).map AV.agg=some v→(fillA pl z.cells (ps.map fun p=>(p.1,p.2.den V σ))).map AV.agg=some (v.den V σ)∧v.okv V n:=by
   intro pl v hf
   cases hr:fillA pl z.cells ps with
   | none=>rw [hr] at hf; cases hf
   | some r =>
     rw [hr] at hf; injection hf with hf; subst hf
     obtain ⟨a,b⟩:=fillA_den (σ:=σ) hp (okv_cells z2) hr
     rw [zc] at a
     simp only [a,Option.map_some,AV.den,AV.dens_map,AV.okv,okvs_iff]
     exact ⟨trivial,b⟩
  split at hv
  ·rename_i fs h1
   try simp only [h1]
   split at hv
   ·rename_i pl h2
    try simp only [h2]
    exact fin hv
   ·cases hv
  ·rename_i elem h1
   try simp only [h1]
   split at hv
   ·rename_i sz h2
    try simp only [h2]
    exact fin hv
   ·cases hv
  ·cases hv
 ·cases hv
theorem boundA_den {lim d m:Nat} {o:Option AV} (hb:boundA lim d o=some m):boundA lim d (o.map (AV.den V σ))=some m:=by
 unfold boundA at hb
 split at hb
 ·exact hb
 ·simpa [AV.den,boundA] using hb
 ·cases hb
theorem optA_den {ev ev':Ev} (he:EvD V σ n ev ev') {o:Option Operand} {v:Option AV} (hv:optA ev o=some v):optA ev' o=some (v.map (AV.den V σ)):=by
 cases o with
 | none=>injection hv with hv; subst hv; rfl
 | some x =>
   simp only [optA] at hv ⊢
   cases h1:ev x with
   | none=>rw [h1] at hv; cases hv
   | some a=>rw [h1] at hv; injection hv with hv; subst hv; rw [(he x a h1).1]; rfl
theorem sliceA_den (hg:HG V σ n H h) {t:TypeId} {x v:AV} {lo hi:Option AV} (ha:x.okv V n) (hv:sliceA T H t x lo hi=some v):sliceA T h t (x.den V σ) (lo.map (AV.den V σ)) (hi.map (AV.den V σ))=some (v.den V σ)∧v.okv V n:=by
 unfold sliceA at hv
 split at hv
 ·rename_i s h1
  split at hv
  ·rename_i m h2
   split at hv
   ·rename_i l h3
    injection hv with hv; subst hv
    simp only [AV.den,sliceA,h1,boundA_den h2,boundA_den h3]
    exact ⟨trivial,trivial⟩
   ·cases hv
  ·cases hv
 ·rename_i e b off len h1
  split at hv
  ·rename_i sz k rows h2 hb
   obtain ⟨c1,_⟩:=hg.cells hb
   split at hv
   ·rename_i hk
    subst hk
    split at hv
    ·rename_i m h3
     split at hv
     ·rename_i l h4
      injection hv with hv; subst hv
      simp only [AV.den,sliceA,h1,h2,c1,if_true,boundA_den h3,boundA_den h4]
      exact ⟨trivial,ha⟩
     ·cases hv
    ·cases hv
   ·cases hv
  ·cases hv
 ·rename_i e k rows h1
  split at hv
  ·rename_i sz h2
   split at hv
   ·rename_i hk
    subst hk
    split at hv
    ·rename_i m h3
     split at hv
     ·rename_i l h4
      injection hv with hv; subst hv
      simp only [AV.den,sliceA,h1,h2,AV.denss_map,List.length_map,if_true,boundA_den h3,boundA_den h4,List.map_drop,List.map_take,AV.okv,okvss_iff] at ha ⊢
      exact ⟨trivial,fun r hr=>ha r (List.mem_of_mem_drop (List.mem_of_mem_take hr))⟩
     ·cases hv
    ·cases hv
   ·cases hv
  ·cases hv
 ·rename_i e h1
  split at hv
  ·rename_i sz h2
   split at hv
   ·rename_i m h3
    split at hv
    ·rename_i l h4
     injection hv with hv; subst hv
     simp only [AV.den,sliceA,h1,h2,boundA_den h3,boundA_den h4]
     exact ⟨trivial,trivial⟩
    ·cases hv
   ·cases hv
  ·cases hv
 ·cases hv
theorem eqFields_den {eq:TypeId→AV→AV→Option Bool} (heq:∀ t x y c,x.okv V n→y.okv V n→eq t x y=some c→eq t (x.den V σ) (y.den V σ)=some c) {a b:List AV} (ha:∀ x∈a,x.okv V n) (hb:∀ x∈b,x.okv V n) :
  ∀ {fs:List Field} {c:Bool},eqFieldsA T eq a b fs=some c→eqFieldsA T eq (a.map (AV.den V σ)) (b.map (AV.den V σ)) fs=some c
 | [],c,h=>h
 | f::fs,c,h=>by
   simp only [eqFieldsA] at h ⊢
   split at h
   ·rename_i hf
    simp only [hf,if_true]
    exact eqFields_den heq ha hb h
   ·rename_i hf
    simp only [hf,if_false]
    split at h
    ·rename_i u v h1 h2
     obtain ⟨a1,a2⟩:=partA_den (σ:=σ) ha h1
     obtain ⟨b1,b2⟩:=partA_den (σ:=σ) hb h2
     simp only [a1,b1]
     split at h
     ·rename_i h3
      rw [heq _ _ _ _ a2 b2 h3]
      exact eqFields_den heq ha hb h
     ·rename_i h3
      rw [heq _ _ _ _ a2 b2 h3]
      exact h
     ·cases h
    ·cases h
theorem eqElems_den {eq:TypeId→AV→AV→Option Bool} (heq:∀ t x y c,x.okv V n→y.okv V n→eq t x y=some c→eq t (x.den V σ) (y.den V σ)=some c) {a b:List AV} (ha:∀ x∈a,x.okv V n) (hb:∀ x∈b,x.okv V n) {el k:Nat} :
  ∀ {is:List Nat} {c:Bool},eqElemsA T eq el k a b is=some c→eqElemsA T eq el k (a.map (AV.den V σ)) (b.map (AV.den V σ)) is=some c
 | [],c,h=>h
 | i::is,c,h=>by
   simp only [eqElemsA] at h ⊢
   split at h
   ·rename_i u v h1 h2
    obtain ⟨a1,a2⟩:=partA_den (σ:=σ) ha h1
    obtain ⟨b1,b2⟩:=partA_den (σ:=σ) hb h2
    simp only [a1,b1]
    split at h
    ·rename_i h3
     rw [heq _ _ _ _ a2 b2 h3]
     exact eqElems_den heq ha hb h
    ·rename_i h3
     rw [heq _ _ _ _ a2 b2 h3]
     exact h
    ·cases h
   ·cases h
theorem eqNilP_den {x y:AV} {c:Bool} (h:eqNilP x y=some c):eqNilP (x.den V σ) (y.den V σ)=some c:=by
 cases x<;>cases y<;>simp [eqNilP] at h<;>simp [AV.den,eqNilP,h]
theorem eqNilS_den {x y:AV} {c:Bool} (h:eqNilS x y=some c):eqNilS (x.den V σ) (y.den V σ)=some c:=by
 cases x<;>cases y<;>simp [eqNilS] at h<;>simp [AV.den,eqNilS,h]
theorem eqNilM_den {x y:AV} {c:Bool} (h:eqNilM x y=some c):eqNilM (x.den V σ) (y.den V σ)=some c:=by
 cases x<;>cases y<;>simp [eqNilM] at h<;>simp [AV.den,eqNilM,h]
theorem eqNilF_den {x y:AV} {c:Bool} (h:eqNilF x y=some c):eqNilF (x.den V σ) (y.den V σ)=some c:=by
 cases x<;>cases y<;>simp [eqNilF] at h<;>simp [AV.den,eqNilF,h]
theorem eqBool_den {x y:AV} {c:Bool} (h:eqBool x y=some c):eqBool (x.den V σ) (y.den V σ)=some c:=by
 cases x<;>cases y<;>simp [eqBool] at h<;>simp [AV.den,eqBool,h]
theorem eqInt_den {x y:AV} {c:Bool} (h:eqInt x y=some c):eqInt (x.den V σ) (y.den V σ)=some c:=by
 cases x<;>cases y<;>simp only [eqInt] at h<;>try (cases h; done)
 simpa only [AV.den,eqInt] using h
theorem eqStr_den {x y:AV} {c:Bool} (h:eqStr x y=some c):eqStr (x.den V σ) (y.den V σ)=some c:=by
 cases x<;>cases y<;>simp only [eqStr] at h<;>try (cases h; done)
 simpa only [AV.den,eqStr] using h
theorem eqA_den:∀ (d:Nat) (t:TypeId) (x y:AV) (c:Bool),x.okv V n→y.okv V n→eqA T d t x y=some c→eqA T d t (x.den V σ) (y.den V σ)=some c
 | 0,_,_,_,_,_,_,h=>by cases h
 | d+1,t,x,y,c,hx,hy,h=>by
   unfold eqA at h ⊢
   split at h
   ·rename_i h1; exact eqBool_den h
   ·rename_i h1; exact eqInt_den h
   ·rename_i h1; exact eqStr_den h
   ·rename_i fs h1
    try simp only [h1]
    split at h
    ·rename_i a b
     simp only [AV.okv,okvs_iff] at hx hy
     simp only [AV.den,AV.dens_map]
     split at h
     ·rename_i e he
      try simp only [he]
      split at h
      ·cases h
      ·rename_i hh
       simp only [hh,if_false]
       exact eqFields_den (fun t x y c a b h=>eqA_den d t x y c a b h) hx hy h
     ·cases h
    ·cases h
   ·rename_i len el h1
    try simp only [h1]
    split at h
    ·rename_i a b k h2
     simp only [AV.okv,okvs_iff] at hx hy
     simp only [AV.den,AV.dens_map,h2]
     exact eqElems_den (fun t x y c a b h=>eqA_den d t x y c a b h) hx hy h
    ·cases h
   ·rename_i h1; exact eqNilP_den h
   ·rename_i h1; exact eqNilS_den h
   ·rename_i h1; exact eqNilM_den h
   ·rename_i h1; exact eqNilF_den h
   ·cases h
theorem eqTop_eq {t:TypeId} {x y:AV} {c:Bool} (h:eqTop T t x y=some c):eqA T 10000 t x y=some c∧((∃ l,x = .agg l)→∃ e,T.ty.get t=some e∧e.eqg=false):=by
 unfold eqTop at h
 split at h
 ·split at h
  ·rename_i e he
   split at h
   ·cases h
   ·rename_i hg; exact ⟨h,fun _=>⟨e,he,by simpa using hg⟩⟩
  ·cases h
 ·rename_i hn
  exact ⟨h,fun ⟨l,hl⟩=>absurd hl (hn l)⟩
theorem eqTop_of {t:TypeId} {x y:AV} {c:Bool} (h:eqA T 10000 t x y=some c) (hg:(∃ l,x = .agg l)→∃ e,T.ty.get t=some e∧e.eqg=false):eqTop T t x y=some c:=by
 unfold eqTop
 split
 ·obtain ⟨e,he,hf⟩:=hg ⟨_,rfl⟩
  simp only [he,hf,Bool.false_eq_true,if_false]
  exact h
 ·exact h
theorem den_agg {x:AV} (ho:x.okv V n) {l:List AV} (h:x.den V σ = .agg l):∃ l,x = .agg l:=by
 cases x<;>simp only [AV.den] at h<;>try (cases h; done)
 ·exact ⟨_,rfl⟩
 ·have hc:=symD_cell (σ:=σ) ho; rw [h] at hc; simp [AV.isCell] at hc
theorem eqTop_den {t:TypeId} {x y:AV} {c:Bool} (hx:x.okv V n) (hy:y.okv V n) (h:eqTop T t x y=some c):eqTop T t (x.den V σ) (y.den V σ)=some c:=by
 obtain ⟨h1,h2⟩:=eqTop_eq h
 exact eqTop_of (eqA_den _ _ _ _ _ hx hy h1) fun ⟨l,hl⟩=>h2 (den_agg hx hl)
theorem intOpA_closed {op:BinOp} {k:IntKind} {a b:Int} {v:AV} (h:intOpA op k a b=some v):v.den V σ=v∧v.okv V n:=by
 unfold intOpA at h
 split at h<;>first
  | (injection h with h; subst h; exact ⟨rfl,trivial⟩)
  | (split at h
     ·cases h
     ·injection h with h; subst h; exact ⟨rfl,trivial⟩)
theorem strOpA_closed {op:BinOp} {a b:ByteArray} {v:AV} (h:strOpA op a b=some v):v.den V σ=v∧v.okv V n:=by
 unfold strOpA at h
 split at h<;>first
  | (injection h with h; subst h; exact ⟨rfl,trivial⟩)
  | (split at h
     ·injection h with h; subst h; exact ⟨rfl,trivial⟩
     ·cases h)
  | cases h
omit V σ n H h in
theorem eqA_nosym {d:Nat} {t:TypeId} {x y:AV} {c:Bool} (h4:eqA T (d+1) t x y=some c):(∀ s e,x ≠ .sym s e)∧(∀ s e,y ≠ .sym s e):=by
 unfold eqA at h4
 constructor
 ·rintro s e rfl
  split at h4<;>(cases y<;>simp [eqBool,eqInt,eqStr,eqNilP,eqNilS,eqNilM,eqNilF] at h4)
 ·rintro s e rfl
  split at h4<;>(cases x<;>simp [eqBool,eqInt,eqStr,eqNilP,eqNilS,eqNilM,eqNilF] at h4)
theorem binA_den {op:BinOp} {t:TypeId} {x y v:AV} (hx:x.okv V n) (hy:y.okv V n) (hv:binA T op t x y=some v):binA T op t (x.den V σ) (y.den V σ)=some (v.den V σ)∧v.okv V n:=by
 unfold binA at hv
 split at hv
 ·rename_i k a k' b
  split at hv
  ·rename_i hk
   obtain ⟨e1,e2⟩:=intOpA_closed (V:=V) (σ:=σ) (n:=n) hv
   simp only [AV.den,binA,hk,if_true,e1]
   exact ⟨hv,e2⟩
  ·cases hv
 ·rename_i a b
  obtain ⟨e1,e2⟩:=strOpA_closed (V:=V) (σ:=σ) (n:=n) hv
  simp only [AV.den,binA,e1]
  exact ⟨hv,e2⟩
 ·rename_i h1 h2
  have go:∀ {c:Bool},eqTop T t x y=some c→(∀ k a k' b,x.den V σ = .int k a→y.den V σ = .int k' b→False)∧(∀ a b,x.den V σ = .str a→y.den V σ = .str b→False)∧eqTop T t (x.den V σ) (y.den V σ)=some c:=by
   intro c hc
   have hd:=eqTop_den (σ:=σ) hx hy hc
   obtain ⟨h3,_⟩:=eqTop_eq hc
   obtain ⟨s1,s2⟩:=eqA_nosym h3
   refine ⟨?_,?_,hd⟩
   ·intro k a k' b ha hb
    cases x<;>simp only [AV.den] at ha<;>try (cases ha; done)
    ·cases y<;>simp only [AV.den] at hb<;>try (cases hb; done)
     ·exact h1 _ _ _ _ rfl rfl
     ·exact s2 _ _ rfl
    ·exact s1 _ _ rfl
   ·intro a b ha hb
    cases x<;>simp only [AV.den] at ha<;>try (cases ha; done)
    ·cases y<;>simp only [AV.den] at hb<;>try (cases hb; done)
     ·exact h2 _ _ rfl rfl
     ·exact s2 _ _ rfl
    ·exact s1 _ _ rfl
  split at hv
  ·cases hc:eqTop T t x y with
   | none=>rw [hc] at hv; cases hv
   | some c =>
     rw [hc] at hv; injection hv with hv; subst hv
     obtain ⟨g1,g2,g3⟩:=go hc
     unfold binA
     split
     ·exact (g1 _ _ _ _ ‹_› ‹_›).elim
     ·exact (g2 _ _ ‹_› ‹_›).elim
     ·simp only [g3]; exact ⟨rfl,trivial⟩
  ·cases hc:eqTop T t x y with
   | none=>rw [hc] at hv; cases hv
   | some c =>
     rw [hc] at hv; injection hv with hv; subst hv
     obtain ⟨g1,g2,g3⟩:=go hc
     unfold binA
     split
     ·exact (g1 _ _ _ _ ‹_› ‹_›).elim
     ·exact (g2 _ _ ‹_› ‹_›).elim
     ·simp only [g3]; exact ⟨rfl,trivial⟩
  ·cases hv
theorem unA_den {op:UnOp} {x v:AV} (hv:unA op x=some v):unA op (x.den V σ)=some (v.den V σ)∧v.okv V n:=by
 unfold unA at hv
 split at hv
 ·injection hv with hv; subst hv; exact ⟨rfl,trivial⟩
 ·injection hv with hv; subst hv; exact ⟨rfl,trivial⟩
 ·cases hv
theorem convA_den {s d:TypeId} {x v:AV} (hv:convA T s d x=some v):convA T s d (x.den V σ)=some (v.den V σ)∧v.okv V n:=by
 unfold convA at hv
 split at hv
 ·rename_i k h1 h2
  injection hv with hv; subst hv
  simp only [AV.den,convA, *]
  exact ⟨trivial,trivial⟩
 ·injection hv with hv; subst hv
  simp only [AV.den,convA, *]
  exact ⟨trivial,trivial⟩
 ·cases hv
theorem keyEq_den {a b:AV} {c:Bool} (h:keyEq a b=some c):keyEq (a.den V σ) (b.den V σ)=some c∧a.den V σ=a∧b.den V σ=b:=by
 cases a<;>cases b<;>simp only [keyEq] at h<;>try (cases h; done)
 all_goals exact ⟨h,rfl,rfl⟩
theorem findA_den {k:AV}:∀ {es:List (AV × AV)} {r:Option AV},findA k es=some r→findA (k.den V σ) (es.map fun e=>(e.1.den V σ,e.2.den V σ))=some (r.map (AV.den V σ))
 | [],r,h=>by injection h with h; subst h; rfl
 | (a,v)::es,r,h=>by
   simp only [findA,List.map_cons] at h ⊢
   split at h
   ·rename_i h1
    injection h with h; subst h
    rw [(keyEq_den h1).1]
    rfl
   ·rename_i h1
    rw [(keyEq_den h1).1]
    exact findA_den h
   ·cases h
theorem findA_ok {k v:AV}:∀ {es:List (AV × AV)},(∀ e∈es,e.1.okv V n∧e.2.okv V n)→findA k es=some (some v)→v.okv V n
 | [],_,h=>by injection h with h; cases h
 | (a,u)::es,ho,h=>by
   simp only [findA] at h
   split at h
   ·injection h with h; injection h with h; subst h; exact (ho _ (.head _)).2
   ·exact findA_ok (fun e he=>ho e (.tail _ he)) h
   ·cases h
theorem keyOk_den {kt:TypeId} {k:AV} (h:keyOk T kt k=true):keyOk T kt (k.den V σ)=true:=by
 cases k<;>simp only [keyOk] at h<;>first | exact h | cases h
theorem mapA_den (hg:HG V σ n H h) {m:AV} {es:List (AV × AV)} (hm:m.okv V n) (he:mapA H m=some es):mapA h (m.den V σ)=some (es.map fun e=>(e.1.den V σ,e.2.den V σ))∧∀ e∈es,e.1.okv V n∧e.2.okv V n:=by
 unfold mapA at he
 split at he
 ·injection he with he; subst he; exact ⟨rfl,fun _ h=>by cases h⟩
 ·injection he with he; subst he
  simp only [AV.den,mapA,AV.denes_map]
  simp only [AV.okv,okves_iff] at hm
  exact ⟨trivial,hm⟩
 ·split at he
  ·rename_i b _ hb
   injection he with he; subst he
   obtain ⟨c1,c2⟩:=hg.map hb
   simp only [AV.den,mapA,c1]
   exact ⟨trivial,c2⟩
  ·cases he
 ·cases he
theorem lookupA_den (hg:HG V σ n H h) {t:TypeId} {m k v:AV} {ok:Bool} (hm:m.okv V n) (hv:lookupA T H t m k ok=some v):lookupA T h t (m.den V σ) (k.den V σ) ok=some (v.den V σ)∧v.okv V n:=by
 unfold lookupA at hv ⊢
 split at hv
 ·rename_i kt et h1
  try simp only [h1]
  split at hv
  ·rename_i h2
   simp only [keyOk_den h2,if_true]
   split at hv
   ·rename_i es z h3 h4
    obtain ⟨m1,m2⟩:=mapA_den hg hm h3
    obtain ⟨z1,z2⟩:=den_zeroT (V:=V) (σ:=σ) (n:=n) h4
    simp only [m1,h4]
    split at hv
    ·rename_i w h5
     injection hv with hv; subst hv
     simp only [findA_den h5,Option.map_some]
     have hw:=findA_ok m2 h5
     cases ok with
     | true=>exact ⟨rfl,hw,trivial,trivial⟩
     | false=>exact ⟨rfl,hw⟩
    ·rename_i h5
     injection hv with hv; subst hv
     simp only [findA_den h5,Option.map_none]
     cases ok with
     | true=>simp only [if_true,AV.den,AV.dens,z1]; exact ⟨trivial,z2,trivial,trivial⟩
     | false=>simp only [Bool.false_eq_true,if_false,z1]; exact ⟨trivial,z2⟩
    ·cases hv
   ·cases hv
  ·cases hv
 ·cases hv
end
def SB.okS (V:X→AV):SB→Prop
 | .rows cs e=>(Sh.sl cs).ok (V e)=true
 | .mp key ag cs e=>(Sh.im key ag cs).ok (V e)=true
 | .si s p=>Sh.str.ok (V s)=true∧(Sh.int .i64).ok (V p)=true∧0≤(V p).nI
def SB.prom (V:X→AV):SB→Option Blk
 | .rows _ e=>(match V e with | .sl k r=>some (.cells k r) | _=>none)
 | .mp _ _ _ e=>(match V e with | .im es=>some (.map es) | _=>none)
 | .si s p=>some (.siter (V s).sS (V p).nI.toNat)
def promS (V:X→AV) (sb:List (Nat × SB)) (b:Nat):Option Blk :=
 match lookS sb b with
 | some s=>s.prom V
 | none=>none
def prom (V:X→AV) (σ:Nat→Nat) (st:SSt) (b:Nat):Option Blk :=
 match st.hp.get b with
 | some B=>if B.liveS then some (B.denB V σ) else promS V st.sb b
 | none=>promS V st.sb b
structure Core (nx:Nat) (p:Nat→Option Blk) (σ:Nat→Nat) (h:Hp) (Ls:List (Nat × Nat)):Prop where
 get:∀ b B,p b=some B→h.get (σ b)=some B
 inj:∀ b c B C,p b=some B→p c=some C→σ b=σ c→b=c
 lt:∀ b B,p b=some B→b < nx∧σ b < h.nx
 lv:∀ L∈Ls,(∀ b B,p b=some B→(L.1≤b↔L.2≤σ b))∧L.1≤nx∧L.2≤h.nx
section
variable {nx:Nat} {p p':Nat→Option Blk} {σ:Nat→Nat} {h:Hp} {Ls:List (Nat × Nat)}
theorem Core.sub (C:Core nx p σ h Ls) (hp:∀ b B,p' b=some B→p b=some B) {nx':Nat} (hn:nx≤nx'):Core nx' p' σ h Ls where
 get b B hb:=C.get b B (hp b B hb)
 inj b c B D hb hc e:=C.inj b c B D (hp b B hb) (hp c D hc) e
 lt b B hb:=⟨Nat.lt_of_lt_of_le (C.lt b B (hp b B hb)).1 hn,(C.lt b B (hp b B hb)).2⟩
 lv L hL:=⟨fun b B hb=>(C.lv L hL).1 b B (hp b B hb),Nat.le_trans (C.lv L hL).2.1 hn,(C.lv L hL).2.2⟩
theorem Core.same (C:Core nx p σ h Ls) {h':Hp} (hg:∀ b,h'.get b=h.get b) (hn:h.nx≤h'.nx):Core nx p σ h' Ls where
 get b B hb:=(hg _).trans (C.get b B hb)
 inj:=C.inj
 lt b B hb:=⟨(C.lt b B hb).1,Nat.lt_of_lt_of_le (C.lt b B hb).2 hn⟩
 lv L hL:=⟨(C.lv L hL).1,(C.lv L hL).2.1,Nat.le_trans (C.lv L hL).2.2 hn⟩
def ext1 (σ:Nat→Nat) (t c:Nat):Nat→Nat:=fun b=>if b=t then c else σ b
theorem ext1_agr (σ:Nat→Nat) (t c:Nat):Agr t σ (ext1 σ t c):=fun b hb=>by unfold ext1; rw [if_neg (by omega)]
theorem Core.push (C:Core nx p σ h Ls) (B:Blk) (hp:∀ b D,p' b=some D→(b=nx∧D=B)∨(b < nx∧p b=some D)):Core (nx+1) p' (ext1 σ nx h.nx) (h.push B) Ls where
 get b D hb:=by
  rcases hp b D hb with ⟨rfl,rfl⟩ | ⟨hlt,hb⟩
  ·simp [ext1,get_push]
  ·have:=(C.lt b D hb).2
   simp only [ext1,if_neg (show ¬ b=nx by omega),get_push,if_neg (show ¬ σ b=h.nx by omega)]
   exact C.get b D hb
 inj b c D F hb hc e:=by
  rcases hp b D hb with ⟨rfl,rfl⟩ | ⟨hlt,hb⟩<;>rcases hp c F hc with ⟨rfl,rfl⟩ | ⟨hlt',hc⟩
  ·rfl
  ·have:=(C.lt c F hc).2
   simp only [ext1,if_true,if_neg (show ¬ c=b by omega)] at e; omega
  ·have:=(C.lt b D hb).2
   simp only [ext1,if_true,if_neg (show ¬ b=c by omega)] at e; omega
  ·simp only [ext1,if_neg (show ¬ c=nx by omega),if_neg (show ¬ b=nx by omega)] at e
   exact C.inj b c D F hb hc e
 lt b D hb:=by
  rcases hp b D hb with ⟨rfl,rfl⟩ | ⟨hlt,hb⟩
  ·simp [ext1,Hp.push]
  ·have:=(C.lt b D hb).2
   simp only [ext1,if_neg (show ¬ b=nx by omega),Hp.push]; omega
 lv L hL:=by
  obtain ⟨h1,h2,h3⟩:=C.lv L hL
  refine ⟨fun b D hb=>?_,by omega,by simp [Hp.push]; omega⟩
  rcases hp b D hb with ⟨rfl,rfl⟩ | ⟨hlt,hb⟩
  ·simp only [ext1,if_true]; omega
  ·simp only [ext1,if_neg (show ¬ b=nx by omega)]; exact h1 b D hb
theorem Core.set (C:Core nx p σ h Ls) {t:Nat} {B0:Blk} (ht:p t=some B0) (B:Blk) (hp:∀ b D,p' b=some D→(b=t∧D=B)∨(b ≠ t∧p b=some D)):Core nx p' σ (h.set (σ t) B) Ls where
 get b D hb:=by
  rw [get_set]
  rcases hp b D hb with ⟨rfl,rfl⟩ | ⟨hne,hb⟩
  ·rw [if_pos rfl,C.get b B0 ht]; rfl
  ·rw [if_neg fun e=>hne (C.inj b t D B0 hb ht e)]; exact C.get b D hb
 inj b c D F hb hc e:=by
  have go:∀ b D,p' b=some D→∃ D',p b=some D':=fun b D hb=>by
   rcases hp b D hb with ⟨rfl,_⟩ | ⟨_,hb⟩
   ·exact ⟨_,ht⟩
   ·exact ⟨_,hb⟩
  obtain ⟨_,h1⟩:=go b D hb
  obtain ⟨_,h2⟩:=go c F hc
  exact C.inj _ _ _ _ h1 h2 e
 lt b D hb:=by
  have hn:=(ids_set h (σ t) B).2.2.1
  rw [hn]
  rcases hp b D hb with ⟨rfl,_⟩ | ⟨_,hb⟩
  ·exact C.lt _ _ ht
  ·exact C.lt _ _ hb
 lv L hL:=by
  have hn:=(ids_set h (σ t) B).2.2.1
  rw [hn]
  obtain ⟨h1,h2,h3⟩:=C.lv L hL
  refine ⟨fun b D hb=>?_,h2,h3⟩
  rcases hp b D hb with ⟨rfl,_⟩ | ⟨_,hb⟩
  ·exact h1 _ _ ht
  ·exact h1 _ _ hb
theorem Core.kill (C:Core nx p σ h Ls) {t:Nat} {B0:Blk} (ht:p t=some B0) (B:Blk) (hp:∀ b D,p' b=some D→b ≠ t∧p b=some D):Core nx p' σ (h.set (σ t) B) Ls :=
 C.set ht B fun b D hb=>.inr (hp b D hb)
end
def SegS:List (Nat × Nat)→List (List Nat)→Prop
 | [],_=>True
 | L::Ls,s::ss=>(∀ e∈s,L.1≤e)∧(∀ x∈ss,∀ e∈x,e < L.1)∧SegS Ls ss
 | _::_,[]=>False
def SegA:List (Nat × Nat)→List (List Nat)→Prop
 | [],_=>True
 | L::Ls,s::ss=>(∀ e∈s,L.2≤e)∧SegA Ls ss
 | _::_,[]=>False
def Hp.segs (h:Hp):List (List Nat):=ids h.top::h.rest.map ids
structure Sim (V:X→AV) (σ:Nat→Nat) (Ls:List (Nat × Nat)) (st:SSt) (h:Hp):Prop where
 core:Core st.hp.nx (prom V σ st) σ h Ls
 okb:∀ b B,st.hp.get b=some B→B.okB V st.hp.nx
 oks:∀ t s,lookS st.sb t=some s→s.okS V∧t < st.hp.nx
 dj:∀ t s B,lookS st.sb t=some s→st.hp.get t=some B→B.liveS=false
 segS:SegS Ls st.hp.segs
 segA:SegA Ls h.segs
 lk:∀ L∈Ls,lkOk L.1 st.hp.lk=true→lkOk L.2 h.lk=true
 fx:∀ e∈st.fx,(V e.1).bB=e.2
 ids:∀ s∈st.hp.segs,∀ e∈s,e < st.hp.nx
 old:∀ L∈Ls,∀ b B,b < L.1→st.hp.get b=some B→B.okB V L.1
section
variable {V:X→AV} {σ:Nat→Nat} {Ls:List (Nat × Nat)} {st:SSt} {h:Hp} {T:Tab}
theorem denB_agr {n:Nat} {σ':Nat→Nat} (ha:Agr n σ σ') {B:Blk} (ho:B.okB V n):B.denB V σ'=B.denB V σ:=by
 cases B with
 | cells k rows =>
   simp only [Blk.denB,Blk.okB] at ho ⊢
   congr 1
   exact List.map_congr_left fun r hr=>List.map_congr_left fun x hx=>den_agr ha (ho r hr x hx)
 | map es =>
   simp only [Blk.denB,Blk.okB] at ho ⊢
   congr 1
   exact List.map_congr_left fun e he=>by rw [den_agr ha (ho e he).1,den_agr ha (ho e he).2]
 | loop M tmps ps as bd s pend d =>
   simp only [Blk.denB,Blk.okB] at ho ⊢
   rw [ha d ho.2,List.map_congr_left fun x hx=>den_agr ha (ho.1 x hx)]
 | _=>rfl
theorem Blk.okB.mono {n m:Nat} (hn:n≤m) {B:Blk} (ho:B.okB V n):B.okB V m:=by
 cases B with
 | cells k rows=>exact fun r hr x hx=>(ho r hr x hx).mono hn
 | map es=>exact fun e he=>⟨(ho e he).1.mono hn,(ho e he).2.mono hn⟩
 | loop M tmps ps as bd s pend d=>exact ⟨fun x hx=>(ho.1 x hx).mono hn,Nat.lt_of_lt_of_le ho.2 hn⟩
 | _=>trivial
theorem Sim.hg (S:Sim V σ Ls st h):HG V σ st.hp.nx st.hp h:=fun b B hb hl =>
 ⟨S.core.get b _ (by simp only [prom,hb,hl,if_true]),S.okb b B hb⟩
theorem prom_live {b:Nat} {B:Blk} (hb:st.hp.get b=some B) (hl:B.liveS=true):prom V σ st b=some (B.denB V σ):=by simp only [prom,hb,hl,if_true]
theorem prom_sb {t:Nat} {s:SB} (S:Sim V σ Ls st h) (hs:lookS st.sb t=some s):prom V σ st t=s.prom V:=by
 unfold prom promS
 cases hb:st.hp.get t with
 | none=>simp only [hs]
 | some B=>simp only [S.dj t s B hs hb,Bool.false_eq_true,if_false,hs]
theorem mxs_zero:∀ {l:List AV},mxs l=0↔∀ x∈l,x.mx=0
 | []=>by simp [mxs]
 | a::l=>by simp only [mxs,List.mem_cons,forall_eq_or_imp,← mxs_zero (l:=l)]; omega
theorem symD_mx0 {n:Nat} {s:Sh} {e:X} (ho:symOk V n s e) (h:s.mx=0):(symD V σ s e).mx=0:=by
 cases s<;>simp [Sh.mx] at h<;>exact (ok_cell (s:=_) ho).2.2.2.2.1
mutual
theorem den_mx0 {n:Nat}:∀ {a:AV},a.okv V n→a.mx=0→(a.den V σ).mx=0
 | .agg cs,ho,h=>by simp only [AV.den,AV.mx] at h ⊢; exact dens_mx0 ho h
 | .tuple cs,ho,h=>by simp only [AV.den,AV.mx] at h ⊢; exact dens_mx0 ho h
 | .func f a b,ho,h=>by
   simp only [AV.den,AV.mx] at h ⊢
   rw [dens_mx0 ho.1 (by omega),dens_mx0 ho.2 (by omega)]; rfl
 | .iface t v,ho,h=>by simp only [AV.den,AV.mx] at h ⊢; exact den_mx0 ho h
 | .sym s e,ho,h=>by simp only [AV.den,AV.mx] at h ⊢; exact symD_mx0 ho h
 | .ptr _ _ _,_,h=>by simp [AV.mx] at h
 | .it _,_,h=>by simp [AV.mx] at h
 | .ms _ _ _,_,h=>by simp [AV.mx] at h
 | .mp _,_,h=>by simp [AV.mx] at h
 | .yld _,_,h=>by simp [AV.mx] at h
 | .ref _,_,_=>rfl
 | .sl _ _,_,_=>rfl
 | .im _,_,_=>rfl
 | .junk,_,_=>rfl
 | .bool _,_,_=>rfl
 | .int _ _,_,_=>rfl
 | .str _,_,_=>rfl
 | .nilp,_,_=>rfl
 | .nils,_,_=>rfl
 | .nilm,_,_=>rfl
 | .nilf,_,_=>rfl
 | .nili,_,_=>rfl
theorem dens_mx0 {n:Nat}:∀ {a:List AV},AV.okvs V n a→mxs a=0→mxs (AV.dens V σ a)=0
 | [],_,_=>rfl
 | a::as,ho,h=>by
   simp only [mxs,AV.dens] at h ⊢
   rw [den_mx0 ho.1 (by omega),dens_mx0 ho.2 (by omega)]; rfl
end
theorem map_mx0 {n:Nat} {l:List AV} (ho:∀ x∈l,x.okv V n) (h:mxs l=0):mxs (l.map (AV.den V σ))=0:=by
 rw [← AV.dens_map]; exact dens_mx0 ((okvs_iff _).2 ho) h
theorem lkOk_min {B:Nat} {a:Option Nat} {b:Nat}:lkOk B (minO a b)=true↔lkOk B a=true∧B≤b:=by
 cases a with
 | none=>simp [minO,lkOk]
 | some a=>simp [minO,lkOk]; omega
theorem leak_lk (h:Hp) (b m:Nat):(h.leak b m).lk=if m≤b+1 then h.lk else minO h.lk b:=by unfold Hp.leak; split<;>rfl
theorem leak_nx (h:Hp) (b m:Nat):(h.leak b m).nx=h.nx:=by unfold Hp.leak; split<;>rfl
theorem leak_segs (h:Hp) (b m:Nat):(h.leak b m).segs=h.segs:=by unfold Hp.leak Hp.segs; split<;>rfl
theorem set_segs (h:Hp) (b:Nat) (B:Blk):(h.set b B).segs=h.segs:=by unfold Hp.segs; rw [(ids_set h b B).1,(ids_set h b B).2.1]
theorem set_nx (h:Hp) (b:Nat) (B:Blk):(h.set b B).nx=h.nx:=(ids_set h b B).2.2.1
theorem set_lk (h:Hp) (b:Nat) (B:Blk):(h.set b B).lk=h.lk:=(ids_set h b B).2.2.2
theorem push_segs (h:Hp) (B:Blk):(h.push B).segs=(h.nx::ids h.top)::h.rest.map AM.ids:=rfl
theorem SegS.push {ls:List (Nat × Nat)} {s:List Nat} {ss:List (List Nat)} {n:Nat} (hn:∀ L∈ls,L.1≤n) (h:SegS ls (s::ss)):SegS ls ((n::s)::ss):=by
 cases ls with
 | nil=>trivial
 | cons L ls =>
   obtain ⟨h1,h2,h3⟩:=h
   refine ⟨fun e he=>?_,h2,h3⟩
   cases he with
   | head=>exact hn L (.head _)
   | tail _ he=>exact h1 e he
theorem SegA.push {ls:List (Nat × Nat)} {s:List Nat} {ss:List (List Nat)} {n:Nat} (hn:∀ L∈ls,L.2≤n) (h:SegA ls (s::ss)):SegA ls ((n::s)::ss):=by
 cases ls with
 | nil=>trivial
 | cons L ls =>
   obtain ⟨h1,h3⟩:=h
   refine ⟨fun e he=>?_,h3⟩
   cases he with
   | head=>exact hn L (.head _)
   | tail _ he=>exact h1 e he
structure Res (V:X→AV) (σ σ1:Nat→Nat) (Ls:List (Nat × Nat)) (st st1:SSt) (v:AV) (h1:Hp):Prop where
 sim:Sim V σ1 Ls st1 h1
 ok:v.okv V st1.hp.nx
 agr:Agr st.hp.nx σ σ1
 le:st.hp.nx≤st1.hp.nx
theorem Res.quiet (S:Sim V σ Ls st h) {v:AV} (ho:v.okv V st.hp.nx):Res V σ σ Ls st st v h:=⟨S,ho,Agr.refl _ _,Nat.le_refl _⟩
theorem Sim.push (S:Sim V σ Ls st h) {B:Blk} (ho:B.okB V st.hp.nx):Sim V (ext1 σ st.hp.nx h.nx) Ls { st with hp:=st.hp.push B } (h.push (B.denB V σ)) where
 core:=by
  have hag:=ext1_agr σ st.hp.nx h.nx
  refine S.core.push _ fun b D hb=>?_
  unfold prom at hb
  simp only [get_push] at hb
  by_cases e:b=st.hp.nx
  ·subst e
   simp only [if_true] at hb
   split at hb
   ·injection hb with hb; subst hb
    exact .inl ⟨rfl,denB_agr hag ho⟩
   ·unfold promS at hb
    split at hb
    ·rename_i s hs; have:=(S.oks _ _ hs).2; omega
    ·cases hb
  ·rw [if_neg e] at hb
   have:prom V σ st b=some D:=by
    unfold prom
    cases hg:st.hp.get b with
    | none=>rw [hg] at hb; exact hb
    | some B1 =>
      rw [hg] at hb
      simp only at hb ⊢
      split at hb
      ·rename_i hl
       rw [if_pos hl]; rw [denB_agr hag (S.okb b B1 hg)] at hb; exact hb
      ·rename_i hl; rw [if_neg hl]; exact hb
   exact .inr ⟨(S.core.lt b D this).1,this⟩
 okb b B1 hb:=by
  simp only [get_push] at hb
  split at hb
  ·injection hb with hb; subst hb; exact ho.mono (Nat.le_succ _)
  ·exact (S.okb b B1 hb).mono (Nat.le_succ _)
 oks t s hs:=⟨(S.oks t s hs).1,Nat.lt_succ_of_lt (S.oks t s hs).2⟩
 dj t s B1 hs hb:=by
  simp only [get_push] at hb
  split at hb
  ·have:=(S.oks t s hs).2; omega
  ·exact S.dj t s B1 hs hb
 segS:=by rw [push_segs]; exact SegS.push (fun L hL=>(S.core.lv L hL).2.1) S.segS
 segA:=by rw [push_segs]; exact SegA.push (fun L hL=>(S.core.lv L hL).2.2) S.segA
 lk:=S.lk
 fx:=S.fx
 ids s hs e he:=by
  rw [push_segs] at hs
  have hn:(st.hp.push B).nx=st.hp.nx+1:=rfl
  show e < (st.hp.push B).nx
  rw [hn]
  cases hs with
  | head =>
    cases he with
    | head=>omega
    | tail _ he=>exact Nat.lt_succ_of_lt (S.ids _ (.head _) e he)
  | tail _ hs=>exact Nat.lt_succ_of_lt (S.ids s (.tail _ hs) e he)
 old L hL b B1 hb hg:=by
  have hg:(st.hp.push B).get b=some B1:=hg
  have:=(S.core.lv L hL).2.1
  rw [get_push,if_neg (by omega)] at hg
  exact S.old L hL b B1 hb hg
theorem Res.push (S:Sim V σ Ls st h) {B:Blk} (ho:B.okB V st.hp.nx) {v:AV} (hv:v.okv V (st.hp.nx+1)):Res V σ (ext1 σ st.hp.nx h.nx) Ls st { st with hp:=st.hp.push B } v (h.push (B.denB V σ)) :=
 ⟨S.push ho,hv,ext1_agr _ _ _,Nat.le_succ _⟩
theorem Sim.set (S:Sim V σ Ls st h) {b:Nat} {B0 B:Blk} (hb:st.hp.get b=some B0) (hl0:B0.liveS=true) (ho:B.okB V st.hp.nx) {m m':Nat} (hm:(m=0∧m'=0)∨∀ L∈Ls,L.1≤b) (hold:∀ L∈Ls,b < L.1→B.okB V L.1) :
  Sim V σ Ls { st with hp:=(st.hp.set b B).leak b m } ((h.set (σ b) (B.denB V σ)).leak (σ b) m') where
 core:=by
  have hp0:=prom_live (V:=V) (σ:=σ) hb hl0
  refine Core.same ?_ (fun c=>get_leak _ _ _ c) (Nat.le_of_eq (leak_nx _ _ _).symm)
  have hnx:((st.hp.set b B).leak b m).nx=st.hp.nx:=by rw [leak_nx,set_nx]
  show Core ((st.hp.set b B).leak b m).nx _ _ _ _
  rw [hnx]
  refine S.core.set hp0 _ fun c D hc=>?_
  unfold prom at hc
  simp only [get_leak,get_set] at hc
  by_cases e:c=b
  ·subst e
   simp only [if_true,hb,Option.map_some] at hc
   split at hc
   ·injection hc with hc; exact .inl ⟨rfl,hc.symm⟩
   ·unfold promS at hc
    split at hc
    ·rename_i s hs
     have:=S.dj _ _ _ hs hb
     rw [this] at hl0; cases hl0
    ·cases hc
  ·rw [if_neg e] at hc
   exact .inr ⟨e,hc⟩
 okb c B1 hc:=by
  show B1.okB V ((st.hp.set b B).leak b m).nx
  rw [leak_nx,set_nx]
  simp only [get_leak,get_set] at hc
  split at hc
  ·rw [hb] at hc; injection hc with hc; subst hc; exact ho
  ·exact S.okb c B1 hc
 oks t s hs:=by
  show _∧t < ((st.hp.set b B).leak b m).nx
  rw [leak_nx,set_nx]; exact S.oks t s hs
 dj t s B1 hs hc:=by
  simp only [get_leak,get_set] at hc
  split at hc
  ·rename_i e; subst e; have:=S.dj _ _ _ hs hb; rw [this] at hl0; cases hl0
  ·exact S.dj t s B1 hs hc
 segS:=by show SegS Ls ((st.hp.set b B).leak b m).segs; rw [leak_segs,set_segs]; exact S.segS
 segA:=by rw [leak_segs,set_segs]; exact S.segA
 lk L hL hk:=by
  have hk:lkOk L.1 ((st.hp.set b B).leak b m).lk=true:=hk
  rw [leak_lk,set_lk] at hk ⊢
  have hb0:=(prom_live (V:=V) (σ:=σ) hb hl0)
  have hlv:=(S.core.lv L hL).1 b _ hb0
  have h1:lkOk L.1 st.hp.lk=true:=by
   split at hk
   ·exact hk
   ·exact (lkOk_min.1 hk).1
  have h2:=S.lk L hL h1
  rcases hm with ⟨_,rfl⟩ | hm
  ·simp [h2]
  ·split
   ·exact h2
   ·exact lkOk_min.2 ⟨h2,hlv.1 (hm L hL)⟩
 fx:=S.fx
 ids s hs e he:=by
  have hs:s∈((st.hp.set b B).leak b m).segs:=hs
  rw [leak_segs,set_segs] at hs
  show e < ((st.hp.set b B).leak b m).nx
  rw [leak_nx,set_nx]; exact S.ids s hs e he
 old L hL c B1 hc hg:=by
  have hg:((st.hp.set b B).leak b m).get c=some B1:=hg
  rw [get_leak,get_set] at hg
  split at hg
  ·rename_i e; subst e; rw [hb] at hg; injection hg with hg; subst hg; exact hold L hL hc
  ·exact S.old L hL c B1 hc hg
theorem Sim.killB (S:Sim V σ Ls st h) {b:Nat} {B0:Blk} (hb:st.hp.get b=some B0) (hl0:B0.liveS=true) (B2:Blk) :
  Sim V σ Ls { st with hp:=st.hp.set b .dead } (h.set (σ b) B2) where
 core:=by
  have hp0:=prom_live (V:=V) (σ:=σ) hb hl0
  show Core (st.hp.set b .dead).nx _ _ _ _
  rw [set_nx]
  refine S.core.kill hp0 _ fun c D hc=>?_
  unfold prom at hc
  simp only [get_set] at hc
  by_cases e:c=b
  ·subst e
   simp only [if_true,hb,Option.map_some,Blk.liveS,Bool.false_eq_true,if_false] at hc
   unfold promS at hc
   split at hc
   ·rename_i s hs
    have:=S.dj _ _ _ hs hb
    rw [this] at hl0; cases hl0
   ·cases hc
  ·rw [if_neg e] at hc
   exact ⟨e,hc⟩
 okb c B1 hc:=by
  show B1.okB V (st.hp.set b .dead).nx
  rw [set_nx]
  simp only [get_set] at hc
  split at hc
  ·rw [hb] at hc; injection hc with hc; subst hc; trivial
  ·exact S.okb c B1 hc
 oks t s hs:=by
  show _∧t < (st.hp.set b .dead).nx
  rw [set_nx]; exact S.oks t s hs
 dj t s B1 hs hc:=by
  simp only [get_set] at hc
  split at hc
  ·rename_i e; subst e; have:=S.dj _ _ _ hs hb; rw [this] at hl0; cases hl0
  ·exact S.dj t s B1 hs hc
 segS:=by show SegS Ls (st.hp.set b .dead).segs; rw [set_segs]; exact S.segS
 segA:=by rw [set_segs]; exact S.segA
 lk L hL hk:=by
  have hk:lkOk L.1 (st.hp.set b .dead).lk=true:=hk
  rw [set_lk] at hk ⊢
  exact S.lk L hL hk
 fx:=S.fx
 ids s hs e he:=by
  have hs:s∈(st.hp.set b .dead).segs:=hs
  rw [set_segs] at hs
  show e < (st.hp.set b .dead).nx
  rw [set_nx]; exact S.ids s hs e he
 old L hL c B1 hc hg:=by
  have hg:(st.hp.set b .dead).get c=some B1:=hg
  rw [get_set] at hg
  split at hg
  ·rw [hb] at hg; injection hg with hg; subst hg; trivial
  ·exact S.old L hL c B1 hc hg
theorem Sim.kill (S:Sim V σ Ls st h) {b:Nat} {B0:Blk} (hb:st.hp.get b=some B0) (hl0:B0.liveS=true) :
  Sim V σ Ls { st with hp:=st.hp.set b .dead } (h.set (σ b) .dead):=S.killB hb hl0 .dead
end
section
variable {V:X→AV} {σ:Nat→Nat} {Ls:List (Nat × Nat)} {st:SSt} {h:Hp} {T:Tab}
theorem newRow_den (S:Sim V σ Ls st h) {cs:List AV} (ho:∀ x∈cs,x.okv V st.hp.nx) {v:AV} {H1:Hp} (hv:newRow st.hp cs=some (v,H1)) :
  ∃ h1 σ1,newRow h (cs.map (AV.den V σ))=some (v.den V σ1,h1)∧Res V σ σ1 Ls st { st with hp:=H1 } v h1:=by
 unfold newRow at hv ⊢
 split at hv
 ·rename_i hc
  injection hv with hv
  obtain ⟨rfl,rfl⟩:=Prod.mk.inj hv
  refine ⟨_,ext1 σ st.hp.nx h.nx,?_,Res.push S (B:=.cells cs.length [cs]) (by intro r hr x hx; simp at hr; subst hr; exact ho x hx) (show _ < _ from Nat.lt_succ_self _)⟩
  rw [if_pos ⟨den_all ho hc.1,by simpa using hc.2⟩]
  simp [AV.den,ext1,Blk.denB]
 ·cases hv
theorem opAlloc_den (S:Sim V σ Ls st h) {e:TypeId} {v:AV} {H1:Hp} (hv:opAlloc T st.hp e=some (v,H1)) :
  ∃ h1 σ1,opAlloc T h e=some (v.den V σ1,h1)∧Res V σ σ1 Ls st { st with hp:=H1 } v h1:=by
 unfold opAlloc at hv ⊢
 split at hv
 ·rename_i z hz
  obtain ⟨z1,z2⟩:=den_zeroT (V:=V) (σ:=σ) (n:=st.hp.nx) hz
  have zc:z.cells.map (AV.den V σ)=z.cells:=by rw [← den_cells z2,z1]
  have:=newRow_den S (okv_cells z2) hv
  rw [zc] at this
  exact this
 ·cases hv
variable {ev ev':Ev}
theorem elemT_zero {t e:TypeId} {n b:Nat} {z:List AV} (h:elemT T t=some (e,n,b,z)):z.map (AV.den V σ)=z∧(∀ x∈z,x.okv V st.hp.nx)∧z.length=n∧0 < n∧z.all (·.isCell)=true∧T.underlying t=some (.slice e)∧sizeT T e=some n:=by
 unfold elemT at h
 split at h
 ·split at h
  ·split at h
   ·rename_i e0 h1 _ _ _ _ _ z0 h2 h3 h4 hc
    simp only [Option.some.injEq,Prod.mk.injEq] at h
    obtain ⟨rfl,rfl,rfl,rfl⟩:=h
    obtain ⟨z1,z2⟩:=den_zeroT (V:=V) (σ:=σ) (n:=st.hp.nx) h4
    exact ⟨by rw [← den_cells z2,z1],okv_cells z2,hc.1,hc.2.1,hc.2.2.2,h1,h2⟩
   ·cases h
  ·cases h
 ·cases h
theorem fillRows_den {n m:Nat}:∀ {ps:List (Nat × AV)} {rows r:List (List AV)},(∀ p∈ps,p.2.okv V m)→(∀ r∈rows,∀ x∈r,x.okv V m)→fillRows n rows ps=some r →
  fillRows n (rows.map fun r=>r.map (AV.den V σ)) (ps.map fun p=>(p.1,p.2.den V σ))=some (r.map fun r=>r.map (AV.den V σ))∧∀ q∈r,∀ x∈q,x.okv V m
 | [],rows,r,_,hr,h=>by injection h with h; subst h; exact ⟨rfl,hr⟩
 | (i,v)::ps,rows,r,hp,hr,h=>by
   have hv:=hp _ (.head _)
   simp only [fillRows,List.map_cons] at h ⊢
   split at h
   ·rename_i hc
    have e2:=den_cells (σ:=σ) hv
    have e3:=den_all (σ:=σ) (okv_cells hv) hc.2.2
    rw [← e2] at e3
    rw [if_pos ⟨by rw [e2]; simpa using hc.1,by simpa using hc.2.1,e3⟩,e2,put_map]
    refine fillRows_den (fun p hq=>hp p (.tail _ hq)) (fun q hq x hx=>?_) h
    rcases mem_put hq with hq | rfl
    ·exact hr q hq x hx
    ·exact okv_cells hv x hx
   ·cases h
theorem buildSliceA_den (S:Sim V σ Ls st h) {t:TypeId} {len:Nat} {ps:List (Nat × AV)} (hp:∀ p∈ps,p.2.okv V st.hp.nx) {v:AV} {H1:Hp} (hv:buildSliceA T st.hp t len ps=some (v,H1)) :
  ∃ h1 σ1,buildSliceA T h t len (ps.map fun p=>(p.1,p.2.den V σ))=some (v.den V σ1,h1)∧Res V σ σ1 Ls st { st with hp:=H1 } v h1:=by
 unfold buildSliceA at hv ⊢
 split at hv
 ·rename_i e n b z he
  obtain ⟨z1,z2,_,_,_,_,_⟩:=elemT_zero (V:=V) (σ:=σ) (st:=st) he
  try simp only [he]
  split at hv
  ·rename_i hl
   rw [if_pos hl]
   split at hv
   ·rename_i rows hr
    injection hv with hv
    obtain ⟨rfl,rfl⟩:=Prod.mk.inj hv
    obtain ⟨f1,f2⟩:=fillRows_den (σ:=σ) hp (fun r hr x hx=>by rw [List.mem_replicate] at hr; rw [hr.2] at hx; exact z2 x hx) hr
    rw [List.map_replicate,z1] at f1
    simp only [f1]
    refine ⟨_,ext1 σ st.hp.nx h.nx,?_,Res.push S (B:=.cells n rows) f2 (show _ < _ from Nat.lt_succ_self _)⟩
    simp [AV.den,ext1,Blk.denB]
   ·cases hv
  ·cases hv
 ·cases hv
theorem makeSliceA_den (S:Sim V σ Ls st h) {t:TypeId} {l c v:AV} {H1:Hp} (hv:makeSliceA T st.hp t l c=some (v,H1)) :
  ∃ h1 σ1,makeSliceA T h t (l.den V σ) (c.den V σ)=some (v.den V σ1,h1)∧Res V σ σ1 Ls st { st with hp:=H1 } v h1:=by
 unfold makeSliceA at hv
 split at hv
 ·rename_i e n b z k1 l k2 c he
  obtain ⟨z1,z2,_,_,_,_,_⟩:=elemT_zero (V:=V) (σ:=σ) (st:=st) he
  split at hv
  ·rename_i hl
   split at hv
   ·rename_i hfm
    injection hv with hv
    obtain ⟨rfl,rfl⟩:=Prod.mk.inj hv
    refine ⟨h,σ,?_,S,(okvss_iff _).2 (fun r hr x hx=>by rw [List.mem_replicate] at hr; rw [hr.2] at hx; exact z2 x hx),Agr.refl _ _,Nat.le_refl _⟩
    simp [AV.den,AV.denss_map,makeSliceA,he,hl,z1,hfm]
   rename_i hfm
   injection hv with hv
   obtain ⟨rfl,rfl⟩:=Prod.mk.inj hv
   refine ⟨_,ext1 σ st.hp.nx h.nx,?_,Res.push S (B:=.cells n (List.replicate l.toNat z)) (fun r hr x hx=>by rw [List.mem_replicate] at hr; rw [hr.2] at hx; exact z2 x hx) (show _ < _ from Nat.lt_succ_self _)⟩
   simp [AV.den,ext1,Blk.denB,makeSliceA,he,hl,z1,hfm]
  ·cases hv
 ·cases hv
theorem storeA_den (S:Sim V σ Ls st h) {base:Nat} (hB:∀ L∈Ls,L.1≤base) {t:TypeId} {a v:AV} (hv0:v.okv V st.hp.nx) {H1:Hp} (hs:∀ b i o,a = .ptr b i o→(base≤b || v.cl)=true) (hv:storeA T st.hp t a v=some H1) :
  ∃ h1,storeA T h t (a.den V σ) (v.den V σ)=some h1∧Sim V σ Ls { st with hp:=H1 } h1∧H1.nx=st.hp.nx:=by
 unfold storeA at hv
 split at hv
 ·rename_i b i o n hn
  split at hv
  ·rename_i hc
   split at hv
   ·rename_i k rows hb
    obtain ⟨c1,c2⟩:=S.hg.cells hb
    split at hv
    ·rename_i r hr
     split at hv
     ·rename_i hl
      injection hv with hv; subst hv
      have e2:=den_cells (σ:=σ) hv0
      have e3:=den_all (σ:=σ) (okv_cells hv0) hc.2
      rw [← e2] at e3
      have hsb:=hs b i o rfl
      have hS:=Sim.set S (B:=.cells k (put rows i (setCells r o v.cells))) hb rfl (by
       intro q hq x hx
       rcases mem_put hq with hq | rfl
       ·exact c2 q hq x hx
       ·rcases mem_setCells hx with hx | hx
        ·exact c2 r (mem_nth hr) x hx
        ·exact okv_cells hv0 x hx) (m:=mxs v.cells) (m':=mxs (v.den V σ).cells) (by
       simp only [Bool.or_eq_true,decide_eq_true_eq] at hsb
       rcases hsb with hsb | hsb
       ·exact .inr fun L hL=>Nat.le_trans (hB L hL) hsb
       ·have hz:mxs v.cells=0:=mxs_zero.2 fun x hx=>cl_mx (cl_cells hsb x hx)
        exact .inl ⟨hz,by rw [e2]; exact map_mx0 (okv_cells hv0) hz⟩) (fun L hL hlt q hq x hx=>by
       simp only [Bool.or_eq_true,decide_eq_true_eq] at hsb
       have hcl:v.cl=true:=by
        rcases hsb with hsb | hsb
        ·have:=hB L hL; omega
        ·exact hsb
       have hold:=S.old L hL b _ hlt hb
       rcases mem_put hq with hq | rfl
       ·exact hold q hq x hx
       ·rcases mem_setCells hx with hx | hx
        ·exact hold r (mem_nth hr) x hx
        ·exact (cl_okv (cl_cells hcl x hx) (okv_cells hv0 x hx)).mono (Nat.zero_le _))
      refine ⟨_,?_,hS,by rw [leak_nx,set_nx]⟩
      simp only [AV.den,storeA,hn,c1,nth_map,hr,Option.map_some,List.length_map,hl,if_true]
      rw [if_pos ⟨by rw [e2]; simpa using hc.1,e3⟩,e2,setCells_map,put_map]
      rfl
     ·cases hv
    ·cases hv
   ·cases hv
  ·cases hv
 ·cases hv
theorem updA_den {n:Nat} {k v:AV} (hk:k.okv V n) (hv:v.okv V n):∀ {es r:List (AV × AV)},(∀ e∈es,e.1.okv V n∧e.2.okv V n)→updA k v es=some r →
  updA (k.den V σ) (v.den V σ) (es.map fun e=>(e.1.den V σ,e.2.den V σ))=some (r.map fun e=>(e.1.den V σ,e.2.den V σ))∧∀ e∈r,e.1.okv V n∧e.2.okv V n
 | [],r,_,h=>by
   injection h with h; subst h
   refine ⟨rfl,fun e he=>?_⟩
   simp at he; subst he; exact ⟨hk,hv⟩
 | (a,u)::es,r,ho,h=>by
   simp only [updA,List.map_cons] at h ⊢
   split at h
   ·rename_i h1
    injection h with h; subst h
    rw [(keyEq_den h1).1]
    refine ⟨rfl,fun e he=>?_⟩
    cases he with
    | head=>exact ⟨hk,hv⟩
    | tail _ he=>exact ho e (.tail _ he)
   ·rename_i h1
    rw [(keyEq_den h1).1]
    cases hr:updA k v es with
    | none=>rw [hr] at h; cases h
    | some r1 =>
      rw [hr] at h; injection h with h; subst h
      obtain ⟨a1,a2⟩:=updA_den hk hv (fun e he=>ho e (.tail _ he)) hr
      refine ⟨by simp only [a1]; rfl,fun e he=>?_⟩
      cases he with
      | head=>exact ho _ (.head _)
      | tail _ he=>exact a2 e he
   ·cases h
theorem mapUpdA_den (S:Sim V σ Ls st h) {base:Nat} (hB:∀ L∈Ls,L.1≤base) {t:TypeId} {m k v:AV} (hk0:k.okv V st.hp.nx) (hv0:v.okv V st.hp.nx) {H1:Hp} (hs:∀ b,m = .mp b→(base≤b || v.cl)=true) (hv:mapUpdA T st.hp t m k v=some H1) :
  ∃ h1,mapUpdA T h t (m.den V σ) (k.den V σ) (v.den V σ)=some h1∧Sim V σ Ls { st with hp:=H1 } h1∧H1.nx=st.hp.nx:=by
 unfold mapUpdA at hv
 split at hv
 ·rename_i kt et b h1
  split at hv
  ·rename_i hk
   split at hv
   ·rename_i es hb
    obtain ⟨c1,c2⟩:=S.hg.map hb
    cases hr:updA k v es with
    | none=>rw [hr] at hv; cases hv
    | some r =>
      rw [hr] at hv; injection hv with hv; subst hv
      obtain ⟨u1,u2⟩:=updA_den (σ:=σ) hk0 hv0 c2 hr
      have hsb:=hs b rfl
      have hS:=Sim.set S (B:=.map r) hb rfl u2 (m:=v.mx) (m':=(v.den V σ).mx) (by
        simp only [Bool.or_eq_true,decide_eq_true_eq] at hsb
        rcases hsb with hsb | hsb
        ·exact .inr fun L hL=>Nat.le_trans (hB L hL) hsb
        ·exact .inl ⟨cl_mx hsb,den_mx0 hv0 (cl_mx hsb)⟩) (fun L hL hlt=>by
        simp only [Bool.or_eq_true,decide_eq_true_eq] at hsb
        have hcl:v.cl=true:=by
         rcases hsb with hsb | hsb
         ·have:=hB L hL; omega
         ·exact hsb
        have hold:∀ e∈es,e.1.okv V L.1∧e.2.okv V L.1:=S.old L hL b _ hlt hb
        have hkc:k.okv V L.1:=by
         cases k<;>simp only [keyOk] at hk<;>first | trivial | cases hk
        exact (updA_den (σ:=σ) hkc ((cl_okv hcl hv0).mono (Nat.zero_le _)) hold hr).2)
      refine ⟨_,?_,hS,by rw [leak_nx,set_nx]⟩
      simp only [AV.den,mapUpdA,h1,keyOk_den hk,if_true,c1,u1,Option.map_some]
      rfl
   ·cases hv
  ·cases hv
 ·cases hv
theorem rangeA_den (S:Sim V σ Ls st h) {t:TypeId} {x v:AV} {H1:Hp} (hv:rangeA T st.hp t x=some (v,H1)) :
  ∃ h1 σ1,rangeA T h t (x.den V σ)=some (v.den V σ1,h1)∧Res V σ σ1 Ls st { st with hp:=H1 } v h1:=by
 unfold rangeA at hv
 split at hv
 ·rename_i s h1
  injection hv with hv
  obtain ⟨rfl,rfl⟩:=Prod.mk.inj hv
  refine ⟨_,ext1 σ st.hp.nx h.nx,?_,Res.push S (B:=.siter s 0) trivial (show _ < _ from Nat.lt_succ_self _)⟩
  simp [AV.den,ext1,Blk.denB,rangeA,h1]
 ·cases hv
theorem nextA_den (S:Sim V σ Ls st h) {x v:AV} {isS:Bool} {H1:Hp} (hv:nextA st.hp x isS=some (v,H1)) :
  ∃ h1 σ1,nextA h (x.den V σ) isS=some (v.den V σ1,h1)∧Res V σ σ1 Ls st { st with hp:=H1 } v h1:=by
 unfold nextA at hv
 split at hv
 ·rename_i b
  split at hv
  ·rename_i s pos hb
   have c1:=(S.hg b _ hb rfl).1
   simp only [Blk.denB] at c1
   split at hv
   ·rename_i hp
    injection hv with hv
    obtain ⟨rfl,rfl⟩:=Prod.mk.inj hv
    have hS:=Sim.set S (B:=.siter s (pos+(Utf8.decode s pos).2)) hb rfl trivial (m:=0) (m':=0) (.inl ⟨rfl,rfl⟩) (fun _ _ _=>trivial)
    have e1:∀ (g:Hp) (c:Nat),g.leak c 0=g:=fun g c=>by unfold Hp.leak; simp
    rw [e1,e1] at hS
    refine ⟨_,σ,?_,hS,⟨trivial,trivial,trivial,trivial⟩,Agr.refl _ _,Nat.le_of_eq (set_nx _ _ _).symm⟩
    simp only [AV.den,nextA,c1,hp,if_true]
    rfl
   ·rename_i hp
    injection hv with hv
    obtain ⟨rfl,rfl⟩:=Prod.mk.inj hv
    refine ⟨h,σ,?_,Res.quiet S ⟨trivial,trivial⟩⟩
    simp only [AV.den,nextA,c1,hp,if_false]
    rfl
  ·cases hv
 ·cases hv
theorem withH_den (S:Sim V σ Ls st h) {o o':Option AV} {v:AV} {H1:Hp} (hv:withH st.hp o=some (v,H1)) (hg:∀ v,o=some v→o'=some (v.den V σ)∧v.okv V st.hp.nx) :
  ∃ h1 σ1,withH h o'=some (v.den V σ1,h1)∧Res V σ σ1 Ls st { st with hp:=H1 } v h1:=by
 unfold withH at hv
 split at hv
 ·rename_i u
  injection hv with hv
  obtain ⟨rfl,rfl⟩:=Prod.mk.inj hv
  obtain ⟨g1,g2⟩:=hg u rfl
  exact ⟨h,σ,by rw [g1]; rfl,Res.quiet S g2⟩
 ·cases hv
theorem stored_den (S:Sim V σ Ls st h) {o:Option Hp} {o':Option Hp} {v:AV} {H1:Hp} (hv:stored o=some (v,H1)) (hg:∀ H1,o=some H1→∃ h1,o'=some h1∧Sim V σ Ls { st with hp:=H1 } h1∧H1.nx=st.hp.nx) :
  ∃ h1 σ1,stored o'=some (v.den V σ1,h1)∧Res V σ σ1 Ls st { st with hp:=H1 } v h1:=by
 unfold stored at hv
 split at hv
 ·rename_i H
  injection hv with hv
  obtain ⟨rfl,rfl⟩:=Prod.mk.inj hv
  obtain ⟨h1,g1,g2,g3⟩:=hg H rfl
  exact ⟨h1,σ,by rw [g1]; rfl,g2,(okvs_iff _).2 (fun _ h=>by cases h),Agr.refl _ _,Nat.le_of_eq g3.symm⟩
 ·cases hv
theorem opA_den (S:Sim V σ Ls st h) (he:EvD V σ st.hp.nx ev ev') {base:Nat} (hB:∀ L∈Ls,L.1≤base) {op:Op} {v:AV} {H1:Hp} (hs:storeOk base ev op=true) (hv:opA T ev st.hp op=some (v,H1)) :
  ∃ h1 σ1,opA T ev' h op=some (v.den V σ1,h1)∧Res V σ σ1 Ls st { st with hp:=H1 } v h1:=by
 have one:∀ {x:Operand} {f:AV→Option (AV × Hp)} {g:AV→Option (AV × Hp)},(match ev x with | some a=>f a | none=>none)=some (v,H1)→(∀ a,a.okv V st.hp.nx→f a=some (v,H1)→∃ h1 σ1,g (a.den V σ)=some (v.den V σ1,h1)∧Res V σ σ1 Ls st { st with hp:=H1 } v h1) →
   ∃ h1 σ1,(match ev' x with | some a=>g a | none=>none)=some (v.den V σ1,h1)∧Res V σ σ1 Ls st { st with hp:=H1 } v h1:=by
  intro x f g hf hg
  cases hx:ev x with
  | none=>rw [hx] at hf; cases hf
  | some a =>
    rw [hx] at hf
    obtain ⟨e1,e2⟩:=he x a hx
    rw [e1]; exact hg a e2 hf
 cases op with
 | move x=>simp only [opA,opMove] at hv ⊢; exact withH_den S hv fun v hv=>he x v hv
 | assign x=>simp only [opA,opMove] at hv ⊢; exact withH_den S hv fun v hv=>he x v hv
 | pick c a b =>
   simp only [opA,opPick] at hv ⊢
   cases hc:ev c with
   | none=>rw [hc] at hv; cases hv
   | some cv =>
     have e1:=(he c cv hc).1
     rw [hc] at hv
     cases cv<;>(try simp only at hv)<;>try (cases hv; done)
     rename_i bb
     simp only [AV.den] at e1
     rw [e1]
     cases bb with
     | true=>exact withH_den S hv fun v hv=>he a v hv
     | false=>exact withH_den S hv fun v hv=>he b v hv
 | alloc e=>exact opAlloc_den S hv
 | box e x =>
   simp only [opA,opBox] at hv ⊢
   exact one hv fun a ha hf=>by rw [den_cells ha]; exact newRow_den S (okv_cells ha) hf
 | build t ps =>
   simp only [opA,opBuild] at hv ⊢
   cases hp:partsA ev ps.toList with
   | none=>rw [hp] at hv; cases hv
   | some l =>
     rw [hp] at hv
     obtain ⟨p1,p2⟩:=parts_den he hp
     rw [p1]
     exact withH_den S hv fun v hv=>buildA_den p2 hv
 | buildSlice t len ps =>
   simp only [opA,opBuildSlice] at hv ⊢
   cases hp:partsA ev ps.toList with
   | none=>rw [hp] at hv; cases hv
   | some l =>
     rw [hp] at hv
     obtain ⟨p1,p2⟩:=parts_den he hp
     rw [p1]
     exact buildSliceA_den S p2 hv
 | load t a =>
   simp only [opA,opLoad] at hv ⊢
   exact one hv fun a ha hf=>withH_den S hf fun v hv=>loadA_den S.hg ha hv
 | store t a x =>
   simp only [opA,opStore] at hv ⊢
   cases h1:ev a with
   | none=>rw [h1] at hv; cases hv
   | some av =>
     cases h2:ev x with
     | none=>rw [h1,h2] at hv; cases hv
     | some xv =>
       rw [h1,h2] at hv
       rw [(he a av h1).1,(he x xv h2).1]
       refine stored_den S hv fun H1 hH=>storeA_den S hB (he x xv h2).2 (fun b i o hb=>?_) hH
       simp only [storeOk,h1,h2,hb] at hs
       exact hs
 | nilCheck x =>
   simp only [opA,opNilCheck] at hv ⊢
   cases h1:ev x with
   | none=>rw [h1] at hv; cases hv
   | some a =>
     obtain ⟨e1,e2⟩:=he x a h1
     rw [h1] at hv
     cases a<;>(try simp only at hv)<;>try (cases hv; done)
     ·injection hv with hv
      obtain ⟨rfl,rfl⟩:=Prod.mk.inj hv
      simp only [AV.den] at e1
      exact ⟨h,σ,by rw [e1]; rfl,Res.quiet S e2⟩
     ·injection hv with hv
      obtain ⟨rfl,rfl⟩:=Prod.mk.inj hv
      simp only [AV.den] at e1
      exact ⟨h,σ,by rw [e1]; rfl,Res.quiet S e2⟩
     ·split at hv<;>try (cases hv; done)
      all_goals
       rename_i heq
       injection hv with hv
       obtain ⟨rfl,rfl⟩:=Prod.mk.inj hv
       cases heq<;>(simp only [AV.den] at e1; exact ⟨h,σ,by rw [e1]; rfl,Res.quiet S e2⟩)
     ·injection hv with hv
      obtain ⟨rfl,rfl⟩:=Prod.mk.inj hv
      simp only [AV.den] at e1
      exact ⟨h,σ,by rw [e1]; rfl,Res.quiet S e2⟩
 | binOp op t x y yt =>
   simp only [opA,opBin] at hv ⊢
   cases h1:ev x with
   | none=>rw [h1] at hv; cases hv
   | some av =>
     cases h2:ev y with
     | none=>rw [h1,h2] at hv; cases hv
     | some xv =>
       rw [h1,h2] at hv
       rw [(he x av h1).1,(he y xv h2).1]
       exact withH_den S hv fun v hv=>binA_den (he x av h1).2 (he y xv h2).2 hv
 | unOp op t x =>
   simp only [opA,opUn] at hv ⊢
   exact one hv fun a ha hf=>withH_den S hf fun v hv=>unA_den hv
 | convert s d x =>
   simp only [opA,opConv] at hv ⊢
   exact one hv fun a ha hf=>withH_den S hf fun v hv=>convA_den hv
 | makeFunc fn first captured =>
   simp only [opA,opMakeFunc] at hv ⊢
   split at hv
   ·rename_i a b h1 h2
    injection hv with hv
    obtain ⟨rfl,rfl⟩:=Prod.mk.inj hv
    obtain ⟨a1,a2⟩:=evals_den he h1
    obtain ⟨b1,b2⟩:=evals_den he h2
    refine ⟨h,σ,?_,Res.quiet S ⟨(okvs_iff _).2 a2,(okvs_iff _).2 b2⟩⟩
    simp only [a1,b1,AV.den,AV.dens_map]
   ·cases hv
 | makeMap t r =>
   simp only [opA] at hv ⊢
   cases r with
   | none =>
     simp only [opMakeMap] at hv ⊢
     injection hv with hv
     obtain ⟨rfl,rfl⟩:=Prod.mk.inj hv
     refine ⟨_,ext1 σ st.hp.nx h.nx,?_,Res.push S (B:=.map []) (fun _ h=>by cases h) (show _ < _ from Nat.lt_succ_self _)⟩
     simp [AV.den,ext1,Blk.denB]
   | some x=>cases hv
 | makeSlice t l c =>
   simp only [opA,opMakeSlice] at hv ⊢
   cases h1:ev l with
   | none=>rw [h1] at hv; cases hv
   | some av =>
     cases h2:ev c with
     | none=>rw [h1,h2] at hv; cases hv
     | some xv =>
       rw [h1,h2] at hv
       rw [(he l av h1).1,(he c xv h2).1]
       exact makeSliceA_den S hv
 | slice t x lo hi mx =>
   simp only [opA,opSlice] at hv ⊢
   split at hv
   ·rename_i xv lov hiv h1 h2 h3
    rw [(he x xv h1).1,optA_den he h2,optA_den he h3]
    exact withH_den S hv fun v hv=>sliceA_den S.hg (he x xv h1).2 hv
   ·cases hv
 | fieldAddr s x f =>
   simp only [opA,opFieldAddr] at hv ⊢
   exact one hv fun a ha hf=>withH_den S hf fun v hv=>fieldAddrA_den ha hv
 | field s x f =>
   simp only [opA,opField] at hv ⊢
   exact one hv fun a ha hf=>withH_den S hf fun v hv=>fieldA_den ha hv
 | indexAddr t x ix =>
   simp only [opA,opIndexAddr] at hv ⊢
   cases h1:ev x with
   | none=>rw [h1] at hv; cases hv
   | some av =>
     cases h2:ev ix with
     | none=>rw [h1,h2] at hv; cases hv
     | some xv =>
       rw [h1,h2] at hv
       rw [(he x av h1).1,(he ix xv h2).1]
       exact withH_den S hv fun v hv=>indexAddrA_den S.hg (he x av h1).2 hv
 | index t x ix =>
   simp only [opA,opIndex] at hv ⊢
   cases h1:ev x with
   | none=>rw [h1] at hv; cases hv
   | some av =>
     cases h2:ev ix with
     | none=>rw [h1,h2] at hv; cases hv
     | some xv =>
       rw [h1,h2] at hv
       rw [(he x av h1).1,(he ix xv h2).1]
       exact withH_den S hv fun v hv=>indexA_den (he x av h1).2 hv
 | lookup t m k ok =>
   simp only [opA,opLookup] at hv ⊢
   cases h1:ev m with
   | none=>rw [h1] at hv; cases hv
   | some av =>
     cases h2:ev k with
     | none=>rw [h1,h2] at hv; cases hv
     | some xv =>
       rw [h1,h2] at hv
       rw [(he m av h1).1,(he k xv h2).1]
       exact withH_den S hv fun v hv=>lookupA_den S.hg (he m av h1).2 hv
 | mapUpdate t m k x =>
   simp only [opA,opMapUpd] at hv ⊢
   split at hv
   ·rename_i mv kv xv h1 h2 h3
    rw [(he m mv h1).1,(he k kv h2).1,(he x xv h3).1]
    refine stored_den S hv fun H1 hH=>mapUpdA_den S hB (he k kv h2).2 (he x xv h3).2 (fun b hb=>?_) hH
    simp only [storeOk,h1,h3,hb] at hs
    exact hs
   ·cases hv
 | insert t m k x =>
   simp only [opA,opMapUpd] at hv ⊢
   split at hv
   ·rename_i mv kv xv h1 h2 h3
    rw [(he m mv h1).1,(he k kv h2).1,(he x xv h3).1]
    refine stored_den S hv fun H1 hH=>mapUpdA_den S hB (he k kv h2).2 (he x xv h3).2 (fun b hb=>?_) hH
    simp only [storeOk,h1,h3,hb] at hs
    exact hs
   ·cases hv
 | range t x =>
   simp only [opA,opRange] at hv ⊢
   exact one hv fun a ha hf=>rangeA_den S hf
 | next x isS =>
   simp only [opA,opNext] at hv ⊢
   exact one hv fun a ha hf=>nextA_den S hf
 | extract x i =>
   simp only [opA,opExtract] at hv ⊢
   cases h1:ev x with
   | none=>rw [h1] at hv; cases hv
   | some a =>
     obtain ⟨e1,e2⟩:=he x a h1
     rw [h1] at hv
     cases a<;>(try simp only at hv)<;>try (cases hv; done)
     simp only [AV.den,AV.dens_map] at e1
     rw [e1]
     refine withH_den S hv fun v hv=>?_
     simp only [AV.okv,okvs_iff] at e2
     exact ⟨by rw [nth_map,hv]; rfl,e2 v (mem_nth hv)⟩
 | _=>cases hv
end
end Go.Proofs.YtdjngcfnlfgjkaaGreatDoor.AM
