/-
  Functions, as trees.
-/
import Derived.Test.YtdjngcfnlfgjkaaGreatDoorTab
import Derived.Test.YtdjngcfnlfgjkaaGreatDoorSm6
import Derived.Test.YtdjngcfnlfgjkaaGreatDoorRows0
set_option linter.unusedVariables false
set_option linter.unusedSimpArgs false
set_option linter.unusedSectionVars false
namespace Go.Proofs.YtdjngcfnlfgjkaaGreatDoor.C5
open Go Go.Proofs.YtdjngcfnlfgjkaaGreatDoor.AM Go.Proofs
def KK:Nat:=2097152
@[reducible] def I (n:Int):X:=.i .i64 n
@[reducible] def Q (c a b:X):X:=.p .ite [c,a,b]
@[reducible] def LE (a b:X):X:=.p (.bin .leq .i64) [a,b]
@[reducible] def LT (a b:X):X:=.p (.bin .lss .i64) [a,b]
@[reducible] def EQ (a b:X):X:=.p (.bin .eql .i64) [a,b]
@[reducible] def AD (a b:X):X:=.p (.bin .add .i64) [a,b]
@[reducible] def SB (a b:X):X:=.p (.bin .sub .i64) [a,b]
@[reducible] def C (k:Nat) (a b:X):X:=.p (.cell k) [a,b]
@[reducible] def LN (a:X):X:=.p .len [a]
@[reducible] def PJ (k:Nat) (a:X):X:=.p (.proj k) [a]
@[reducible] def NE (a b:X):X:=.p (.bin .neq .i64) [a,b]
@[reducible] def GT (a b:X):X:=.p (.bin .gtr .i64) [a,b]
@[reducible] def GE (a b:X):X:=.p (.bin .geq .i64) [a,b]
@[reducible] def RM (a b:X):X:=.p (.bin .rem .i64) [a,b]
@[reducible] def QU (a b:X):X:=.p (.bin .quo .i64) [a,b]
@[reducible] def MU (a b:X):X:=.p (.bin .mul .i64) [a,b]
@[reducible] def SE (a b:X):X:=.p (.sbin .eql) [a,b]
@[reducible] def SN (a b:X):X:=.p (.sbin .neq) [a,b]
@[reducible] def SA (a b:X):X:=.p (.sbin .add) [a,b]
@[reducible] def CO (a b:X):X:=.p .catOk [a,b]
@[reducible] def KE (a b:X):X:=.p .keq [a,b]
@[reducible] def BE (a b:X):X:=.p .beq [a,b]
@[reducible] def NO (a:X):X:=.p .not [a]
@[reducible] def OI (a:X):X:=.p (.okr [.one (.int .i64)]) [a]
@[reducible] def OS (a:X):X:=.p (.okr [.one .str]) [a]
@[reducible] def OB (a:X):X:=.p (.okr [.one .bool]) [a]
@[reducible] def FL (k:Nat) (a:X):X:=.p (.fld k) [a]
@[reducible] def K (f:Nat) (l:List X):X:=.p (.call f 0) l
@[reducible] def LO (n:Nat) (l:List X):X:=.p (.call 100000 n) l
@[reducible] def YY:X:=.b true
@[reducible] def v0:X:=.v 0
@[reducible] def v1:X:=.v 1
@[reducible] def v2:X:=.v 2
@[reducible] def v3:X:=.v 3
@[reducible] def v4:X:=.v 4
@[reducible] def v5:X:=.v 5
@[reducible] def v6:X:=.v 6
@[reducible] def v7:X:=.v 7
@[reducible] def v8:X:=.v 8
@[reducible] def v9:X:=.v 9
@[reducible] def v10:X:=.v 10
@[reducible] def v11:X:=.v 11
@[reducible] def v12:X:=.v 12
@[reducible] def v13:X:=.v 13
@[reducible] def v14:X:=.v 14
@[reducible] def v15:X:=.v 15
@[reducible] def v16:X:=.v 16
@[reducible] def v17:X:=.v 17
@[reducible] def v18:X:=.v 18
@[reducible] def v19:X:=.v 19
@[reducible] def v20:X:=.v 20
@[reducible] def v21:X:=.v 21
@[reducible] def v22:X:=.v 22
@[reducible] def v23:X:=.v 23
def Si (n:Nat):AV:=.sym (.int .i64) (.v n)
def Ss (n:Nat):AV:=.sym .str (.v n)
def Sb (n:Nat):AV:=.sym .bool (.v n)
def S1 (n:Nat):AV:=.sym (.sl [.str]) (.v n)
def S2 (n:Nat):AV:=.sym (.sl [.int .i64]) (.v n)
def S3 (n:Nat):AV:=.sym (.sl [.int .i64,.int .i64,.int .i64,.bool]) (.v n)
def S4 (n:Nat):AV:=.sym (.sl [.str,.str,.int .i64,.int .i64,.int .i64,.int .i64,.bool,.bool,.bool,.sl [.int .i64,.int .i64,.int .i64,.bool],.sl [.int .i64]]) (.v n)
def J:Nat→List AV→List AV
 | 0,l=>l
 | n+1,l=>.junk::J n l
def allX (P:Program):List Cal→Prop
 | []=>True
 | c::cs=>(ExtOk P c.I.f (extI c.I c.F)∧∀ p,tab.ip c.I.f=some p→c.I.pats=[]∧∀ v,c.F [v]=ipFn p [v])∧allX P cs
theorem allX_mem {P:Program}:∀ {cs:List Cal},allX P cs→∀ c∈cs,ExtOk P c.I.f (extI c.I c.F)∧∀ p,tab.ip c.I.f=some p→c.I.pats=[]∧∀ v,c.F [v]=ipFn p [v]
 | _::_,h,_,.head _=>h.1
 | _::_,h,_,.tail _ hc=>allX_mem h.2 _ hc
def calF:List Cal→Nat→Nat→Option (List AV→Option AV)
 | [],_,_=>none
 | c::cs,f,n=>if c.I.f=f∧c.I.n=n then some c.F else calF cs f n
abbrev OE (cs:List Cal) (f n:Nat) (F:List AV→Option AV):Prop:=∀ vs,calO cs f n vs=getJ (F vs)
theorem oG {f n:Nat} {F:List AV→Option AV}:∀ {cs:List Cal},calF cs f n=some F→∀ vs,calO cs f n vs=getJ (F vs)
 | [],h,_=>by cases h
 | c::cs,h,vs=>by
   simp only [calF] at h
   simp only [calO]
   split at h
   ·rename_i hc; rw [if_pos hc]; injection h with h; rw [h]
   ·rename_i hc; rw [if_neg hc]; exact oG h vs
abbrev XO (i:Inst) (F:List AV→Option AV):=ExtOk Tryz.prog i.f (extI i F)∧∀ p,tab.ip i.f=some p→i.pats=[]∧∀ v,F [v]=ipFn p [v]
theorem XU {i:Inst} {cs:List Cal} {ds:List LoopD} {t:Te AV} (h:allX Tryz.prog cs) {x:FnE} (h1:tab.fn.get i.f=some x) (h2:x.fn.body.isNone=false) (h3:unitChk tab keep cs ds 40 i.f i.pats t=true):XO i (unitF (omL KK cs ds) t) :=
 ⟨unit_ext tabOf.1 tabOf.2 (fun c hc=>(allX_mem h c hc).1) (fun c hc=>⟨(allX_mem h c hc).2,(fun p hp=>by cases hp),fun p hp=>by cases hp⟩) (fn_known tabOf.1 h1 h2) h3,fun p hp=>by rw [unit_ip h3] at hp; cases hp⟩
theorem XUN {i:Inst} {cs:List Cal} {ds:List LoopD} {t:Te AV} {n:Nat} (h:allX Tryz.prog cs) {x:FnE} (h1:tab.fn.get i.f=some x) (h2:x.fn.body.isNone=false) (h3:unitChk tab keep cs ds n i.f i.pats t=true):XO i (unitF (omL KK cs ds) t) :=
 ⟨unit_ext tabOf.1 tabOf.2 (fun c hc=>(allX_mem h c hc).1) (fun c hc=>⟨(allX_mem h c hc).2,(fun p hp=>by cases hp),fun p hp=>by cases hp⟩) (fn_known tabOf.1 h1 h2) h3,fun p hp=>by rw [unit_ip h3] at hp; cases hp⟩
theorem XUL {i:Inst} {cs:List Cal} {ds:List LoopD} {t:Te AV} (h:allX Tryz.prog cs) {x:FnE} (h1:tab.fn.get i.f=some x) (h2:x.fn.body.isNone=false) (h3:unitChk tabL keep cs ds 40 i.f i.pats t=true):XO i (unitF (omL KK cs ds) t) :=
 ⟨unit_ext tabLOf.1 tabLOf.2 (fun c hc=>(allX_mem h c hc).1) (fun c hc=>⟨(allX_mem h c hc).2,(fun p hp=>by cases hp),fun p hp=>by cases hp⟩) (fn_known tabOf.1 h1 h2) h3,fun p hp=>by rw [show tab.ip i.f=none from unit_ip (T:=tabL) h3] at hp; cases hp⟩
theorem XV {i:Inst} (cs:List Cal) (ds:List LoopD) (t:Te AV) (x:FnE) (h:allX Tryz.prog cs) (h1:tab.fn.get i.f=some x) (h2:x.fn.body.isNone=false) (h3:unitChk tab keep cs ds 40 i.f i.pats t=true):XO i (unitF (omL KK cs ds) t):=XU h h1 h2 h3
theorem cal_cons (c:Cal) (cs:List Cal) (f n:Nat) (vs:List AV):calO (c::cs) f n vs=if c.I.f=f∧c.I.n=n then getJ (c.F vs) else calO cs f n vs:=rfl
def w0:ByteArray:=⟨#[]⟩
def w1:ByteArray:=⟨#[100,110,115]⟩
def w2:ByteArray:=⟨#[100,110,102]⟩
def w3:ByteArray:=⟨#[100,115,113]⟩
def i142:Inst:=⟨142,0,[],[.one (.sl [.int .i64])]⟩
def F142:List AV→Option AV:=ipFn ipSort
def c142:Cal:=⟨i142,F142⟩
def i143:Inst:=⟨143,0,[],[.one (.sl [.int .i64])]⟩
def F143:List AV→Option AV:=ipFn ipComp
def c143:Cal:=⟨i143,F143⟩
def XA (T:Tab) (c:Cal):Prop:=ExtOk Tryz.prog c.I.f (extI c.I c.F)∧(∀ p,T.ip c.I.f=some p→c.I.pats=[]∧∀ v,c.F [v]=ipFn p [v]) ∧
 (∀ p,T.gp c.I.f=some p→c.I.pats=[]∧c.I.n=p.n∧c.F []=none∧(∃ js,patWs p.pats=some js)∧∀ args l,mtVs p.pats args=some l→l.map (·.1)=List.range l.length→p.g args=c.F (l.map (·.2))) ∧
 (∀ p,T.fr c.I.f=some p→c.I.pats=[]∧c.I.n=p.n∧c.F []=none∧(∃ js,patWs p.pats=some js)∧∀ args l,mtVs p.pats args=some l→l.map (·.1)=List.range l.length→p.g args=c.F (l.map (·.2)))
def allA (T:Tab):List Cal→Prop
 | []=>True
 | c::cs=>XA T c∧allA T cs
theorem allA_mem {T:Tab}:∀ {cs:List Cal},allA T cs→∀ c∈cs,XA T c
 | _::_,h,_,.head _=>h.1
 | _::_,h,_,.tail _ hc=>allA_mem h.2 _ hc
theorem XO.up {i:Inst} {F:List AV→Option AV} (h:XO i F) {T:Tab} (h1:T.ip i.f=tab.ip i.f) (h2:T.gp i.f=none) (h3:T.fr i.f=none):XA T ⟨i,F⟩ :=
 ⟨h.1,fun p hp=>h.2 p (h1 ▸ hp),(fun p hp=>by rw [h2] at hp; cases hp),fun p hp=>by rw [h3] at hp; cases hp⟩
def gpF (F:List AV→Option AV):List AV→Option AV
 | []=>none
 | l=>F l
def gpI (f:Nat):Inst:=⟨f,0,[],[]⟩
def gpP (f:Nat) (csh:List Sh) (more:List AV) (F:List AV→Option AV):GpF:=⟨.sym (.sl csh) (.v 0)::more,0,csh,extI ⟨f,0,.sym (.sl csh) (.v 0)::more,[]⟩ F⟩
theorem gp_xa {f:Nat} {csh:List Sh} {more:List AV} {F:List AV→Option AV} {T:Tab} (hk:GpOk Tryz.prog f (gpP f csh more F)) (hip:T.ip f=none) (hgp:T.gp f=some (gpP f csh more F)) (hfr:T.fr f=none) (hj:(patWs (.sym (.sl csh) (.v 0)::more)).isSome=true):XA T ⟨gpI f,gpF F⟩:=by
 have hno:∀ args,extI (gpI f) (gpF F) args=none:=fun args=>by cases args<;>rfl
 refine ⟨⟨hk.1,fun args r h B0 nx0 w ρ vargs _ _ hg _=>by rw [hno] at hg; cases hg⟩,(fun p hp=>by rw [show (Cal.mk (gpI f) (gpF F)).I.f=f from rfl,hip] at hp; cases hp),fun p hp=>?_,fun p hp=>by rw [show (Cal.mk (gpI f) (gpF F)).I.f=f from rfl,hfr] at hp; cases hp⟩
 rw [show (Cal.mk (gpI f) (gpF F)).I.f=f from rfl,hgp] at hp
 injection hp with hp; subst hp
 refine ⟨rfl,rfl,rfl,Option.isSome_iff_exists.1 hj,fun args l hl hr=>?_⟩
 have hl':mtVs (.sym (.sl csh) (.v 0)::more) args=some l:=hl
 show extI ⟨f,0,.sym (.sl csh) (.v 0)::more,[]⟩ F args=gpF F (l.map (·.2))
 unfold extI
 simp only [hl']
 rw [if_pos hr]
 cases l with
 | cons a l=>rfl
 | nil =>
   exfalso
   cases args with
   | nil=>simp [mtVs] at hl'
   | cons a args=>simp only [mtVs,mtV] at hl'; split at hl'<;>simp_all
noncomputable def tabG (f:Nat) (p:GpF) (pu:Nat→Bool):Tab:={ tab with gp:=fun g=>if g=f then some p else none,pu:=pu }
theorem tabG_gp {f:Nat} {p:GpF} {pu:Nat→Bool} (h:GpOk Tryz.prog f p):∀ g q,(tabG f p pu).gp g=some q→GpOk Tryz.prog g q:=by
 intro g q hq
 have hq:(if g=f then some p else none)=some q:=hq
 by_cases e:g=f
 ·rw [if_pos e] at hq; have hq:=Option.some.inj hq; rw [← hq,e]; exact h
 ·rw [if_neg e] at hq; exact absurd hq (by simp)
theorem tabG_of {f:Nat} {p:GpF} {pu:Nat→Bool} (h:GpOk Tryz.prog f p):(tabG f p pu).Of Tryz.prog∧(tabG f p pu).Good Tryz.prog :=
 ⟨⟨tabOf.1.info,tabOf.1.under,tabOf.1.eqg,tabOf.1.held,tabOf.1.fn,tabOf.1.names⟩,⟨tabOf.2.draws,tabOf.2.locs,tabOf.2.ip,tabG_gp h,tabOf.2.fr⟩⟩
def hasBody (T:Tab) (f:Nat):Bool:=match T.fn.get f with
 | some e=>e.fn.body.isSome&&e.fn.results.toList.isEmpty
 | none=>false
theorem XUG {T:Tab} (hT:T.Of Tryz.prog∧T.Good Tryz.prog) {f:Nat} {csh:List Sh} {more:List AV} {cs:List Cal} {ds:List LoopD} {t:Te AV} (h:allA T cs) (hc:unitChkG T keep cs ds 40 f csh more t=true) (hb:hasBody T f=true):GpOk Tryz.prog f (gpP f csh more (unitF (omL KK cs ds) t)) :=
 unit_gp hT.1 hT.2 (fun c hc=>(allA_mem h c hc).1) (fun c hc=>(allA_mem h c hc).2) hc (by
  unfold hasBody at hb
  split at hb
  ·rename_i e he
   simp only [Bool.and_eq_true,List.isEmpty_iff] at hb
   obtain ⟨code,hcode⟩:=Option.isSome_iff_exists.1 hb.1
   exact ⟨e,code,he,hcode,hb.2⟩
  ·cases hb)
theorem XUA {T:Tab} (hT:T.Of Tryz.prog∧T.Good Tryz.prog) (hip:T.ip=tab.ip) {i:Inst} {cs:List Cal} {ds:List LoopD} {t:Te AV} (h:allA T cs) {x:FnE} (h1:T.fn.get i.f=some x) (h2:x.fn.body.isNone=false) (h3:unitChk T keep cs ds 40 i.f i.pats t=true):XO i (unitF (omL KK cs ds) t) :=
 ⟨unit_ext hT.1 hT.2 (fun c hc=>(allA_mem h c hc).1) (fun c hc=>(allA_mem h c hc).2) (fn_known hT.1 h1 h2) h3,fun p hp=>by rw [← hip,unit_ip h3] at hp; cases hp⟩
def frP (f:Nat) (csh:List Sh) (pats:List AV) (F:List AV→Option AV):GpF:=⟨pats,0,csh,extI ⟨f,0,pats,[]⟩ F⟩
theorem fr_xa {f:Nat} {csh:List Sh} {pats:List AV} {F:List AV→Option AV} {T:Tab} (hk:FrOk Tryz.prog f (frP f csh pats F)) (hip:T.ip f=none) (hgp:T.gp f=none) (hfr:T.fr f=some (frP f csh pats F)) (hj:(match patWs pats with | some (_::_)=>true | _=>false)=true):XA T ⟨gpI f,gpF F⟩:=by
 have hno:∀ args,extI (gpI f) (gpF F) args=none:=fun args=>by cases args<;>rfl
 refine ⟨⟨hk.1,fun args r h B0 nx0 w ρ vargs _ _ hg _=>by rw [hno] at hg; cases hg⟩,(fun p hp=>by rw [show (Cal.mk (gpI f) (gpF F)).I.f=f from rfl,hip] at hp; cases hp),(fun p hp=>by rw [show (Cal.mk (gpI f) (gpF F)).I.f=f from rfl,hgp] at hp; cases hp),fun p hp=>?_⟩
 rw [show (Cal.mk (gpI f) (gpF F)).I.f=f from rfl,hfr] at hp
 injection hp with hp; subst hp
 have hj2:∃ j js,patWs pats=some (j::js):=by
  cases h:patWs pats with
  | none=>rw [h] at hj; cases hj
  | some l=>cases l with
    | nil=>rw [h] at hj; cases hj
    | cons j js=>exact ⟨j,js,rfl⟩
 obtain ⟨j,js,hjs⟩:=hj2
 refine ⟨rfl,rfl,rfl,⟨_,hjs⟩,fun args l hl hr=>?_⟩
 have hl':mtVs pats args=some l:=hl
 show extI ⟨f,0,pats,[]⟩ F args=gpF F (l.map (·.2))
 unfold extI
 simp only [hl']
 rw [if_pos hr]
 cases l with
 | cons a l=>rfl
 | nil=>have:=mtVs_len pats args [] (j::js) hl' hjs; simp at this
def n1:Nat→Option GpF:=fun _=>none
def g1 (f:Nat) (p:GpF):Nat→Option GpF:=fun g=>if g=f then some p else none
noncomputable def tabM (gp fr:Nat→Option GpF):Tab:={ tab with gp:=gp,fr:=fr }
theorem n1_ok {Q:Nat→GpF→Prop}:∀ g q,n1 g=some q→Q g q:=fun _ _ h=>by cases h
theorem g1_ok {Q:Nat→GpF→Prop} {f:Nat} {p:GpF} (h:Q f p):∀ g q,g1 f p g=some q→Q g q:=by
 intro g q hq
 have hq:(if g=f then some p else none)=some q:=hq
 by_cases e:g=f
 ·rw [if_pos e] at hq; have hq:=Option.some.inj hq; rw [← hq,e]; exact h
 ·rw [if_neg e] at hq; exact absurd hq (by simp)
theorem tabM_of {gp fr:Nat→Option GpF} (h1:∀ g q,gp g=some q→GpOk Tryz.prog g q) (h2:∀ g q,fr g=some q→FrOk Tryz.prog g q):(tabM gp fr).Of Tryz.prog∧(tabM gp fr).Good Tryz.prog :=
 ⟨⟨tabOf.1.info,tabOf.1.under,tabOf.1.eqg,tabOf.1.held,tabOf.1.fn,tabOf.1.names⟩,⟨tabOf.2.draws,tabOf.2.locs,tabOf.2.ip,h1,h2⟩⟩
def hasBodyF (T:Tab) (f:Nat):Bool:=match T.fn.get f with
 | some e=>e.fn.body.isSome
 | none=>false
theorem XUF {T:Tab} (hT:T.Of Tryz.prog∧T.Good Tryz.prog) {f:Nat} {csh:List Sh} {pats:List AV} {cs:List Cal} {ds:List LoopD} {t:Te AV} (h:allA T cs) (hc:unitChkF T keep cs ds 40 f csh pats t=true) (hb:hasBodyF T f=true):FrOk Tryz.prog f (frP f csh pats (unitF (omL KK cs ds) t)) :=
 unit_fr hT.1 hT.2 (fun c hc=>(allA_mem h c hc).1) (fun c hc=>(allA_mem h c hc).2) hc (by
  unfold hasBodyF at hb
  split at hb
  ·rename_i e he
   obtain ⟨code,hcode⟩:=Option.isSome_iff_exists.1 hb
   exact ⟨e,code,he,hcode⟩
  ·cases hb)
set_option maxRecDepth 100000
abbrev e76_0:=Q (LE (I 0) v2) (LT v2 (LN v0)) (.b false)
abbrev e76_1:=NE (C 0 v0 v2) (I 0)
abbrev e76_2:=LO 7600 [v0,(LN v0),(I 0)]
abbrev e76_3:=PJ 0 e76_2
abbrev e76_4:=EQ e76_3 (I 1)
abbrev e76_5:=EQ e76_3 (I 2)
abbrev e76_6:=Q e76_4 YY e76_5
abbrev e76_7:=PJ 1 e76_2
abbrev e76_8:=Q e76_4 e76_7 (I 0)
def B7600:Te LEnd:=.ite (LT v2 v1) (
 .need e76_0 (
 .ite e76_1 (
 .ok (.out 1 [(C 0 v0 v2)])) (
 .ok (.again [v0,v1,(AD v2 (I 1))])))) (
 .ok (.out 2 []))
def d7600:LoopD:=⟨2,⟨7600,3,(J 5 ((S2 0)::((Si 1)::((Si 2)::(J 7 []))))),⟨⟨0,[],[[]],none⟩,[],[]⟩,
 [(.ret,1,(J 2 ((Si 0)::(J 12 []))),⟨⟨0,[],[[]],none⟩,[],[]⟩),
  (.exit 0,0,(J 15 []),⟨⟨0,[],[[]],none⟩,[],[]⟩)],[(1,[]),(2,[])]⟩,B7600⟩
@[simp] theorem d7600_id:d7600.L.id=7600:=rfl
@[simp] theorem d7600_B:d7600.B=B7600:=rfl
def i76:Inst:=⟨76,0,[(S2 0)],[.one (.int .i64)]⟩
def s76:List Cal:=[]
@[simp] def l76:List LoopD:=[d7600]
def t76:Te AV:=.need e76_6 (
 .ok (.sym (.int .i64) e76_8))
def F76:List AV→Option AV:=unitF (omL KK s76 l76) t76
def c76:Cal:=⟨i76,F76⟩
theorem x76:XO i76 F76:=XV s76 l76 t76 g76 trivial (by kernel_rfl) (by kernel_rfl) (by kernel_rfl)
def i80:Inst:=⟨80,0,[(Sb 0),(Si 1)],[.one (.int .i64)]⟩
def s80:List Cal:=[]
@[simp] def l80:List LoopD:=[]
def t80:Te AV:=.ok (.sym (.int .i64) (Q v0 v1 (I 0)))
def F80:List AV→Option AV:=unitF (omL KK s80 l80) t80
def c80:Cal:=⟨i80,F80⟩
theorem x80:XO i80 F80:=XV s80 l80 t80 g80 trivial (by kernel_rfl) (by kernel_rfl) (by kernel_rfl)
abbrev e88_0:X:=.p (.bin .geq .i32) [(.p .rune [v1,v2]),(.i .i32 (97))]
abbrev e88_1:X:=.p (.bin .leq .i32) [(.p .rune [v1,v2]),(.i .i32 (122))]
abbrev e88_2:X:=.p (.bin .geq .i32) [(.p .rune [v1,v2]),(.i .i32 (65))]
abbrev e88_3:X:=.p (.bin .leq .i32) [(.p .rune [v1,v2]),(.i .i32 (90))]
abbrev e88_4:=Q e88_2 e88_3 (.b false)
abbrev e88_5:=Q e88_1 YY e88_4
abbrev e88_6:=Q e88_0 e88_5 e88_4
abbrev e88_7:=NO e88_6
abbrev e88_8:X:=.p (.bin .neq .i32) [(.p .rune [v1,v2]),(.i .i32 (95))]
abbrev e88_9:X:=.p (.bin .lss .i32) [(.p .rune [v1,v2]),(.i .i32 (48))]
abbrev e88_10:X:=.p (.bin .gtr .i32) [(.p .rune [v1,v2]),(.i .i32 (57))]
abbrev e88_11:=Q e88_9 YY e88_10
abbrev e88_12:=Q e88_8 e88_11 (.b false)
abbrev e88_13:=Q (EQ v2 (I 0)) YY e88_12
abbrev e88_14:=Q e88_7 e88_13 (.b false)
abbrev e88_15:=LO 8800 [v0,v0,(I 0)]
abbrev e88_16:=PJ 0 e88_15
abbrev e88_17:=EQ e88_16 (I 1)
abbrev e88_18:=EQ e88_16 (I 2)
abbrev e88_19:=Q e88_17 YY e88_18
abbrev e88_20:=Q (SN v0 (.s w0)) (LE (LN v0) (I 24)) (.b false)
abbrev e88_21:=Q e88_17 (.b false) e88_20
def B8800:Te LEnd:=.ite (LT v2 (LN v1)) (
 .ite e88_14 (
 .ok (.out 1 [])) (
 .ok (.again [v0,v1,(.p .adv [v1,v2])]))) (
 .ok (.out 2 [v0]))
def d8800:LoopD:=⟨2,⟨8800,3,((Ss 0)::(J 5 ((.sym (.sown 0) YY)::(J 30 [])))),⟨⟨1,[],[[]],none⟩,[(0,.si v1 v2)],[]⟩,
 [(.ret,0,(J 2 ((.bool false)::(J 34 []))),⟨⟨1,[],[[]],none⟩,[],[]⟩),
  (.exit 0,1,((Ss 0)::(J 36 [])),⟨⟨1,[],[[]],none⟩,[],[]⟩)],[(1,[]),(2,[(0,0)])]⟩,B8800⟩
@[simp] theorem d8800_id:d8800.L.id=8800:=rfl
@[simp] theorem d8800_B:d8800.B=B8800:=rfl
def i88:Inst:=⟨88,0,[(Ss 0)],[.one .bool]⟩
def s88:List Cal:=[]
@[simp] def l88:List LoopD:=[d8800]
def t88:Te AV:=.need e88_19 (
 .ok (.sym .bool e88_21))
def F88:List AV→Option AV:=unitF (omL KK s88 l88) t88
def c88:Cal:=⟨i88,F88⟩
theorem x88:XO i88 F88:=XV s88 l88 t88 g88 trivial (by kernel_rfl) (by kernel_rfl) (by kernel_rfl)
abbrev e89_0:=Q (LE (I 0) v1) (LT v1 (LN v0)) (.b false)
abbrev e89_1:X:=.p (.bin .geq .u8) [(.p .byte [v0,v1]),(.i .u8 (97))]
abbrev e89_2:X:=.p (.bin .leq .u8) [(.p .byte [v0,v1]),(.i .u8 (122))]
abbrev e89_3:X:=.p (.bin .geq .u8) [(.p .byte [v0,v1]),(.i .u8 (65))]
abbrev e89_4:X:=.p (.bin .leq .u8) [(.p .byte [v0,v1]),(.i .u8 (90))]
abbrev e89_5:=Q e89_3 e89_4 (.b false)
abbrev e89_6:=Q e89_2 YY e89_5
abbrev e89_7:=Q e89_1 e89_6 e89_5
abbrev e89_8:=NO e89_7
abbrev e89_9:X:=.p (.bin .geq .u8) [(.p .byte [v0,v1]),(.i .u8 (48))]
abbrev e89_10:X:=.p (.bin .leq .u8) [(.p .byte [v0,v1]),(.i .u8 (57))]
abbrev e89_11:X:=.p (.bin .eql .u8) [(.p .byte [v0,v1]),(.i .u8 (95))]
abbrev e89_12:=NO e89_11
abbrev e89_13:=Q e89_10 (.b false) e89_12
abbrev e89_14:=Q e89_9 e89_13 e89_12
abbrev e89_15:=Q (EQ v1 (I 0)) YY e89_14
abbrev e89_16:=Q e89_8 e89_15 (.b false)
abbrev e89_17:=GT (LN v0) (I 24)
abbrev e89_18:=Q (LT (LN v0) (I 1)) YY e89_17
abbrev e89_19:=LO 8900 [v0,(I 0)]
abbrev e89_20:=PJ 0 e89_19
abbrev e89_21:=EQ e89_20 (I 1)
abbrev e89_22:=EQ e89_20 (I 2)
abbrev e89_23:=Q e89_21 YY e89_22
abbrev e89_24:=Q e89_18 YY e89_23
abbrev e89_25:=Q e89_21 (.b false) YY
abbrev e89_26:=Q e89_18 (.b false) e89_25
def B8900:Te LEnd:=.ite (LT v1 (LN v0)) (
 .need e89_0 (
 .ite e89_16 (
 .ok (.out 1 [])) (
 .ok (.again [v0,(AD v1 (I 1))])))) (
 .ok (.out 2 []))
def d8900:LoopD:=⟨4,⟨8900,2,((Ss 0)::(J 2 ((Si 1)::(J 52 [])))),⟨⟨0,[],[[]],none⟩,[],[]⟩,
 [(.ret,0,(J 2 ((.bool false)::(J 53 []))),⟨⟨0,[],[[]],none⟩,[],[]⟩),
  (.exit 0,0,(J 56 []),⟨⟨0,[],[[]],none⟩,[],[]⟩)],[(1,[]),(2,[])]⟩,B8900⟩
@[simp] theorem d8900_id:d8900.L.id=8900:=rfl
@[simp] theorem d8900_B:d8900.B=B8900:=rfl
def i89:Inst:=⟨89,0,[(Ss 0)],[.one .bool]⟩
def s89:List Cal:=[]
@[simp] def l89:List LoopD:=[d8900]
def t89:Te AV:=.need e89_24 (
 .ok (.sym .bool e89_26))
def F89:List AV→Option AV:=unitF (omL KK s89 l89) t89
def c89:Cal:=⟨i89,F89⟩
theorem x89:XO i89 F89:=XV s89 l89 t89 g89 trivial (by kernel_rfl) (by kernel_rfl) (by kernel_rfl)
abbrev e124_0:=Q (LE (I 0) v3) (LT v3 (LN v0)) (.b false)
abbrev e124_1:=SE v1 (C 0 v0 v3)
abbrev e124_2:=LO 12400 [v0,v1,(LN v0),(I 0)]
abbrev e124_3:=PJ 0 e124_2
abbrev e124_4:=EQ e124_3 (I 1)
abbrev e124_5:=EQ e124_3 (I 2)
abbrev e124_6:=Q e124_4 YY e124_5
abbrev e124_7:=PJ 1 e124_2
abbrev e124_8:=Q e124_4 e124_7 (I (-1))
def B12400:Te LEnd:=.ite (LT v3 v2) (
 .need e124_0 (
 .ite e124_1 (
 .ok (.out 1 [v3])) (
 .ok (.again [v0,v1,v2,(AD v3 (I 1))])))) (
 .ok (.out 2 []))
def d12400:LoopD:=⟨2,⟨12400,4,((S1 0)::((Ss 1)::(J 5 ((Si 2)::((Si 3)::(J 10 [])))))),⟨⟨0,[],[[]],none⟩,[],[]⟩,
 [(.ret,1,(J 4 ((Si 0)::(J 14 []))),⟨⟨0,[],[[]],none⟩,[],[]⟩),
  (.exit 0,0,(J 19 []),⟨⟨0,[],[[]],none⟩,[],[]⟩)],[(1,[]),(2,[])]⟩,B12400⟩
@[simp] theorem d12400_id:d12400.L.id=12400:=rfl
@[simp] theorem d12400_B:d12400.B=B12400:=rfl
def i124:Inst:=⟨124,0,[(S1 0),(Ss 1)],[.one (.int .i64)]⟩
def s124:List Cal:=[]
@[simp] def l124:List LoopD:=[d12400]
def t124:Te AV:=.need e124_6 (
 .ok (.sym (.int .i64) e124_8))
def F124:List AV→Option AV:=unitF (omL KK s124 l124) t124
def c124:Cal:=⟨i124,F124⟩
theorem x124:XO i124 F124:=XV s124 l124 t124 g124 trivial (by kernel_rfl) (by kernel_rfl) (by kernel_rfl)
def i125:Inst:=⟨125,0,[],[.one (.sl [.str])]⟩
def s125:List Cal:=[]
@[simp] def l125:List LoopD:=[]
def t125:Te AV:=.ok (.sl 1 [[(.str w0)],[(.str w1)],[(.str w2)],[(.str w3)]])
def F125:List AV→Option AV:=unitF (omL KK s125 l125) t125
def c125:Cal:=⟨i125,F125⟩
theorem x125:XO i125 F125:=XV s125 l125 t125 g125 trivial (by kernel_rfl) (by kernel_rfl) (by kernel_rfl)
abbrev e95_0:=OI (K 124 [v0,v1])
abbrev e95_1:=GE (K 124 [v0,v1]) (I 0)
def i95:Inst:=⟨95,0,[(S1 0),(Ss 1)],[.one .bool]⟩
def s95:List Cal:=[c124]
@[simp] theorem o95_124:OE s95 124 0 F124:=oG rfl
@[simp] def l95:List LoopD:=[]
def t95:Te AV:=.need e95_0 (
 .ok (.sym .bool e95_1))
def F95:List AV→Option AV:=unitF (omL KK s95 l95) t95
def c95:Cal:=⟨i95,F95⟩
theorem x95:XO i95 F95:=XV s95 l95 t95 g95 ⟨x124,trivial⟩ (by kernel_rfl) (by kernel_rfl) (by kernel_rfl)
abbrev e128_0:=GT v0 (I 999999999)
abbrev e128_1:=Q (LT v0 (I (-999999999))) YY e128_0
def i128:Inst:=⟨128,0,[(Si 0)],[.one .bool]⟩
def s128:List Cal:=[]
@[simp] def l128:List LoopD:=[]
def t128:Te AV:=.ok (.sym .bool e128_1)
def F128:List AV→Option AV:=unitF (omL KK s128 l128) t128
def c128:Cal:=⟨i128,F128⟩
theorem x128:XO i128 F128:=XV s128 l128 t128 g128 trivial (by kernel_rfl) (by kernel_rfl) (by kernel_rfl)
abbrev e133_0:=Q (LE (I 0) v2) (LT v2 (LN v0)) (.b false)
abbrev e133_1:=OB (K 128 [(C 0 v0 v2)])
abbrev e133_2:=LO 13300 [v0,(LN v0),(I 0)]
abbrev e133_3:=PJ 0 e133_2
abbrev e133_4:=EQ e133_3 (I 1)
abbrev e133_5:=EQ e133_3 (I 2)
abbrev e133_6:=Q e133_4 YY e133_5
abbrev e133_7:=PJ 1 e133_2
abbrev e133_8:=Q e133_4 e133_7 (I (-1))
def B13300:Te LEnd:=.ite (LT v2 v1) (
 .need e133_0 (
 .need e133_1 (
 .ite (K 128 [(C 0 v0 v2)]) (
 .ok (.out 1 [v2])) (
 .ok (.again [v0,v1,(AD v2 (I 1))]))))) (
 .ok (.out 2 []))
def d13300:LoopD:=⟨2,⟨13300,3,((S2 0)::((.func (.func 128) [] [])::(J 5 ((Si 1)::((Si 2)::(J 10 [])))))),⟨⟨0,[],[[]],none⟩,[],[]⟩,
 [(.ret,1,(J 4 ((Si 0)::(J 14 []))),⟨⟨0,[],[[]],none⟩,[],[]⟩),
  (.exit 0,0,(J 19 []),⟨⟨0,[],[[]],none⟩,[],[]⟩)],[(1,[]),(2,[])]⟩,B13300⟩
@[simp] theorem d13300_id:d13300.L.id=13300:=rfl
@[simp] theorem d13300_B:d13300.B=B13300:=rfl
def i133:Inst:=⟨133,0,[(S2 0),(.func (.func 128) [] [])],[.one (.int .i64)]⟩
def s133:List Cal:=[c128]
@[simp] theorem o133_128:OE s133 128 0 F128:=oG rfl
@[simp] def l133:List LoopD:=[d13300]
def t133:Te AV:=.need e133_6 (
 .ok (.sym (.int .i64) e133_8))
def F133:List AV→Option AV:=unitF (omL KK s133 l133) t133
def c133:Cal:=⟨i133,F133⟩
theorem x133:XO i133 F133:=XV s133 l133 t133 g133 ⟨x128,trivial⟩ (by kernel_rfl) (by kernel_rfl) (by kernel_rfl)
abbrev e96_0:=OI (K 133 [v0])
abbrev e96_1:=GE (K 133 [v0]) (I 0)
def i96:Inst:=⟨96,0,[(S2 0),(.func (.func 128) [] [])],[.one .bool]⟩
def s96:List Cal:=[c133]
@[simp] theorem o96_133:OE s96 133 0 F133:=oG rfl
@[simp] def l96:List LoopD:=[]
def t96:Te AV:=.need e96_0 (
 .ok (.sym .bool e96_1))
def F96:List AV→Option AV:=unitF (omL KK s96 l96) t96
def c96:Cal:=⟨i96,F96⟩
theorem x96:XO i96 F96:=XV s96 l96 t96 g96 ⟨x133,trivial⟩ (by kernel_rfl) (by kernel_rfl) (by kernel_rfl)
def i156:Inst:=⟨156,0,[(Si 0)],[.one .bool]⟩
def s156:List Cal:=[]
@[simp] def l156:List LoopD:=[]
def t156:Te AV:=.ok (.sym .bool (NE v0 v0))
def F156:List AV→Option AV:=unitF (omL KK s156 l156) t156
def c156:Cal:=⟨i156,F156⟩
theorem x156:XO i156 F156:=XV s156 l156 t156 g156 trivial (by kernel_rfl) (by kernel_rfl) (by kernel_rfl)
abbrev e123_0:=OB (K 156 [v0])
abbrev e123_1:=OB (K 156 [v1])
abbrev e123_2:=Q (K 156 [v1]) (I 0) (I (-1))
abbrev e123_3:=Q (GT v0 v1) (I 1) (I 0)
abbrev e123_4:=Q (LT v0 v1) (I (-1)) e123_3
abbrev e123_5:=Q (K 156 [v1]) (I 1) e123_4
abbrev e123_6:=Q (K 156 [v0]) e123_2 e123_5
def i123:Inst:=⟨123,0,[(Si 0),(Si 1)],[.one (.int .i64)]⟩
def s123:List Cal:=[c156]
@[simp] theorem o123_156:OE s123 156 0 F156:=oG rfl
@[simp] def l123:List LoopD:=[]
def t123:Te AV:=.need e123_0 (
 .need e123_1 (
 .ok (.sym (.int .i64) e123_6)))
def F123:List AV→Option AV:=unitF (omL KK s123 l123) t123
def c123:Cal:=⟨i123,F123⟩
theorem x123:XO i123 F123:=XV s123 l123 t123 g123 ⟨x156,trivial⟩ (by kernel_rfl) (by kernel_rfl) (by kernel_rfl)
abbrev e103_0:=Q (LE (I 0) v3) (LT v3 (LN v0)) (.b false)
abbrev e103_1:=GE v3 (LN v1)
abbrev e103_2:=Q (LE (I 0) v3) (LT v3 (LN v1)) (.b false)
abbrev e103_3:=K 123 [(C 0 v0 v3),(C 0 v1 v3)]
abbrev e103_4:=OI e103_3
abbrev e103_5:=NE e103_3 (I 0)
abbrev e103_6:=LO 10300 [v0,v1,(LN v0),(I 0)]
abbrev e103_7:=PJ 0 e103_6
abbrev e103_8:=EQ e103_7 (I 1)
abbrev e103_9:=EQ e103_7 (I 2)
abbrev e103_10:=Q e103_8 YY e103_9
abbrev e103_11:=PJ 1 e103_6
abbrev e103_12:=Q (LT (LN v0) (LN v1)) (I (-1)) (I 0)
abbrev e103_13:=Q e103_8 e103_11 e103_12
def B10300:Te LEnd:=.ite (LT v3 v2) (
 .need e103_0 (
 .ite e103_1 (
 .ok (.out 1 [(I 1)])) (
 .need e103_2 (
 .need e103_4 (
 .ite e103_5 (
 .ok (.out 1 [e103_3])) (
 .ok (.again [v0,v1,v2,(AD v3 (I 1))]))))))) (
 .ok (.out 2 [v0,v1]))
def d10300:LoopD:=⟨2,⟨10300,4,((S2 0)::((S2 1)::(J 7 ((S2 0)::((Si 2)::((Si 3)::(J 24 []))))))),⟨⟨0,[],[[]],none⟩,[],[]⟩,
 [(.ret,1,(J 4 ((Si 0)::(J 31 []))),⟨⟨0,[],[[]],none⟩,[],[]⟩),
  (.exit 0,2,((S2 0)::((S2 1)::(J 34 []))),⟨⟨0,[],[[]],none⟩,[],[]⟩)],[(1,[]),(2,[(0,0),(1,1)])]⟩,B10300⟩
@[simp] theorem d10300_id:d10300.L.id=10300:=rfl
@[simp] theorem d10300_B:d10300.B=B10300:=rfl
def i103:Inst:=⟨103,0,[(S2 0),(S2 1)],[.one (.int .i64)]⟩
def s103:List Cal:=[c123]
@[simp] theorem o103_123:OE s103 123 0 F123:=oG rfl
@[simp] def l103:List LoopD:=[d10300]
def t103:Te AV:=.need e103_10 (
 .ok (.sym (.int .i64) e103_13))
def F103:List AV→Option AV:=unitF (omL KK s103 l103) t103
def c103:Cal:=⟨i103,F103⟩
theorem x103:XO i103 F103:=XV s103 l103 t103 g103 ⟨x123,trivial⟩ (by kernel_rfl) (by kernel_rfl) (by kernel_rfl)
abbrev e75_0:X:=.p (.okr [.one (.sl [.str])]) [(K 125 [])]
abbrev e75_1:=K 124 [(K 125 []),v1]
abbrev e75_2:=OI e75_1
abbrev e75_3:=K 124 [(K 125 []),v4]
abbrev e75_4:=OI e75_3
abbrev e75_5:=K 123 [e75_1,e75_3]
abbrev e75_6:=OI e75_5
abbrev e75_7:=NE e75_5 (I 0)
abbrev e75_8:=OI (K 103 [v5,v2])
abbrev e75_9:=Q e75_7 YY e75_8
abbrev e75_10:=Q e75_7 e75_5 (K 103 [v5,v2])
def i75:Inst:=⟨75,0,[(.agg [(Ss 0),(Ss 1),(S2 2)]),(.agg [(Ss 3),(Ss 4),(S2 5)])],[.one (.int .i64)]⟩
def s75:List Cal:=[c125,c124,c123,c103]
@[simp] theorem o75_125:OE s75 125 0 F125:=oG rfl
@[simp] theorem o75_124:OE s75 124 0 F124:=oG rfl
@[simp] theorem o75_123:OE s75 123 0 F123:=oG rfl
@[simp] theorem o75_103:OE s75 103 0 F103:=oG rfl
@[simp] def l75:List LoopD:=[]
def t75:Te AV:=.need e75_0 (
 .need e75_2 (
 .need e75_4 (
 .need e75_6 (
 .need e75_9 (
 .ok (.sym (.int .i64) e75_10))))))
def F75:List AV→Option AV:=unitF (omL KK s75 l75) t75
def c75:Cal:=⟨i75,F75⟩
theorem x75:XO i75 F75:=XV s75 l75 t75 g75 ⟨x125,x124,x123,x103,trivial⟩ (by kernel_rfl) (by kernel_rfl) (by kernel_rfl)
abbrev e79_0:=OB (K 96 [v2])
abbrev e79_1:=OB (K 88 [v0])
abbrev e79_2:=K 80 [(NO (K 88 [v0])),(I 8)]
abbrev e79_3:=OI e79_2
abbrev e79_4:X:=.p (.okr [.one (.sl [.str])]) [(K 125 [])]
abbrev e79_5:=K 95 [(K 125 []),v1]
abbrev e79_6:=OB e79_5
abbrev e79_7:=NO e79_5
abbrev e79_8:=K 80 [e79_7,(I 13)]
abbrev e79_9:=OI e79_8
abbrev e79_10:=GT (LN v2) (I 0)
abbrev e79_11:=K 80 [e79_10,(I 1)]
abbrev e79_12:=OI e79_11
abbrev e79_13:=Q (SN v1 (.s w0)) e79_12 YY
abbrev e79_14:=GT (LN v2) (I 8)
abbrev e79_15:=K 80 [e79_14,(I 5)]
abbrev e79_16:=OI e79_15
abbrev e79_17:=Q (SN v1 (.s w0)) e79_16 YY
abbrev e79_18:=K 80 [(K 96 [v2]),(I 3)]
abbrev e79_19:=OI e79_18
abbrev e79_20:=Q (SN v1 (.s w0)) e79_19 YY
abbrev e79_21:X:=.sl 1 [[e79_2],[e79_8],[e79_11],[e79_15],[e79_18]]
abbrev e79_22:=K 76 [e79_21]
abbrev e79_23:=OI e79_22
abbrev e79_24:=Q (SN v1 (.s w0)) e79_23 YY
abbrev e79_25:=OI (K 80 [(.b false),(I 1)])
abbrev e79_26:=Q (SN v1 (.s w0)) YY e79_25
abbrev e79_27:=Q (SN v1 (.s w0)) YY e79_16
abbrev e79_28:=Q (SN v1 (.s w0)) YY e79_19
abbrev e79_29:X:=.sl 1 [[e79_2],[e79_8],[(K 80 [(.b false),(I 1)])],[e79_15],[e79_18]]
abbrev e79_30:=K 76 [e79_29]
abbrev e79_31:=OI e79_30
abbrev e79_32:=Q (SN v1 (.s w0)) YY e79_31
abbrev e79_33:=Q (SN v1 (.s w0)) e79_22 e79_30
def i79:Inst:=⟨79,0,[(.agg [(Ss 0),(Ss 1),(S2 2)])],[.one (.int .i64)]⟩
def s79:List Cal:=[c96,c88,c80,c125,c95,c76]
@[simp] theorem o79_96:OE s79 96 0 F96:=oG rfl
@[simp] theorem o79_88:OE s79 88 0 F88:=oG rfl
@[simp] theorem o79_80:OE s79 80 0 F80:=oG rfl
@[simp] theorem o79_125:OE s79 125 0 F125:=oG rfl
@[simp] theorem o79_95:OE s79 95 0 F95:=oG rfl
@[simp] theorem o79_76:OE s79 76 0 F76:=oG rfl
@[simp] def l79:List LoopD:=[]
def t79:Te AV:=.need e79_0 (
 .need e79_1 (
 .need e79_3 (
 .need e79_4 (
 .need e79_6 (
 .need e79_9 (
 .need e79_13 (
 .need e79_17 (
 .need e79_20 (
 .need e79_24 (
 .need e79_26 (
 .need e79_27 (
 .need e79_28 (
 .need e79_32 (
 .ok (.sym (.int .i64) e79_33)))))))))))))))
def F79:List AV→Option AV:=unitF (omL KK s79 l79) t79
def c79:Cal:=⟨i79,F79⟩
theorem x79:XO i79 F79:=XV s79 l79 t79 g79 ⟨x96,x88,x80,x125,x95,x76,trivial⟩ (by kernel_rfl) (by kernel_rfl) (by kernel_rfl)
abbrev e21_0:=Q (LE (I 0) v3) (LT v3 (LN v1)) (.b false)
abbrev e21_1:=K 79 [(C 0 v1 v3),(C 1 v1 v3),(C 2 v1 v3)]
abbrev e21_2:=OI e21_1
abbrev e21_3:X:=.p (.mget false) [v4,(C 0 v1 v3),(.b false)]
abbrev e21_4:=K 80 [e21_3,(I 9)]
abbrev e21_5:=OI e21_4
abbrev e21_6:X:=.sl 1 [[e21_1],[e21_4]]
abbrev e21_7:=K 76 [e21_6]
abbrev e21_8:=OI e21_7
abbrev e21_9:=NE e21_7 (I 0)
abbrev e21_10:=SN (C 1 v1 v3) (.s w0)
abbrev e21_11:X:=.p .mput [v4,(C 0 v1 v3),YY]
abbrev e21_12:=Q (LT v0 (I 0)) (LN (C 2 v1 v3)) v0
abbrev e21_13:=NE (LN (C 2 v1 v3)) e21_12
abbrev e21_14:=GT (LN v0) (I 160)
abbrev e21_15:=LO 2100 [(I (-1)),v0,(LN v0),(I 0),(.p .mnew [])]
abbrev e21_16:=PJ 0 e21_15
abbrev e21_17:=EQ e21_16 (I 1)
abbrev e21_18:=EQ e21_16 (I 2)
abbrev e21_19:=Q e21_17 YY e21_18
abbrev e21_20:=Q e21_14 YY e21_19
abbrev e21_21:=PJ 1 e21_15
abbrev e21_22:=Q e21_17 e21_21 (I 0)
abbrev e21_23:=Q e21_14 (I 5) e21_22
def B2100:Te LEnd:=.ite (LT v3 v2) (
 .need e21_0 (
 .need e21_2 (
 .need e21_5 (
 .need e21_8 (
 .ite e21_9 (
 .ok (.out 1 [e21_7])) (
 .ite e21_10 (
 .ok (.again [v0,v1,v2,(AD v3 (I 1)),e21_11])) (
 .ite e21_13 (
 .ok (.out 1 [(I 2)])) (
 .ok (.again [e21_12,v1,v2,(AD v3 (I 1)),e21_11]))))))))) (
 .ok (.out 2 []))
def d2100:LoopD:=⟨6,⟨2100,5,(J 3 ((.sym (.mown 0 .str false [.bool]) YY)::((Si 0)::(J 7 ((.sym (.sl [.str,.str,(.sl [(.int .i64)])]) v1)::((Si 2)::((Si 3)::(J 32 [])))))))),⟨⟨3,[],[[]],none⟩,[(0,.mp .str false [.bool] v4)],[]⟩,
 [(.ret,1,(J 2 ((Si 0)::(J 44 []))),⟨⟨5,[],[[]],none⟩,[],[]⟩),
  (.exit 0,0,(J 47 []),⟨⟨3,[],[[]],none⟩,[],[]⟩)],[(1,[]),(2,[])]⟩,B2100⟩
@[simp] theorem d2100_id:d2100.L.id=2100:=rfl
@[simp] theorem d2100_B:d2100.B=B2100:=rfl
def i21:Inst:=⟨21,0,[(.sym (.sl [.str,.str,(.sl [(.int .i64)])]) (.v 0))],[.one (.int .i64)]⟩
def s21:List Cal:=[c79,c80,c76]
@[simp] theorem o21_79:OE s21 79 0 F79:=oG rfl
@[simp] theorem o21_80:OE s21 80 0 F80:=oG rfl
@[simp] theorem o21_76:OE s21 76 0 F76:=oG rfl
@[simp] def l21:List LoopD:=[d2100]
def t21:Te AV:=.need e21_20 (
 .ok (.sym (.int .i64) e21_23))
def F21:List AV→Option AV:=unitF (omL KK s21 l21) t21
def c21:Cal:=⟨i21,F21⟩
theorem x21:XO i21 F21:=XV s21 l21 t21 g21 ⟨x79,x80,x76,trivial⟩ (by kernel_rfl) (by kernel_rfl) (by kernel_rfl)
abbrev e100_0:=Q (SE v0 (.s w3)) (I 3) (I (-1))
abbrev e100_1:=Q (SE v0 (.s w2)) (I 2) e100_0
abbrev e100_2:=Q (SE v0 (.s w1)) (I 1) e100_1
abbrev e100_3:=Q (SE v0 (.s w0)) (I 0) e100_2
def i100:Inst:=⟨100,0,[(Ss 0)],[.one (.int .i64)]⟩
def s100:List Cal:=[]
@[simp] def l100:List LoopD:=[]
def t100:Te AV:=.ok (.sym (.int .i64) e100_3)
def F100:List AV→Option AV:=unitF (omL KK s100 l100) t100
def c100:Cal:=⟨i100,F100⟩
theorem x100:XO i100 F100:=XV s100 l100 t100 g100 trivial (by kernel_rfl) (by kernel_rfl) (by kernel_rfl)
abbrev e49_0:=Q (LE (I 0) v0) (LT v0 (LN v3)) (.b false)
abbrev e49_1:=LT (C 0 v3 v0) (I (-999999999))
abbrev e49_2:=GT (C 0 v3 v0) (I 999999999)
abbrev e49_3:=Q e49_1 YY e49_2
abbrev e49_4:=OB (K 89 [v0])
abbrev e49_5:=OI (K 100 [v1])
abbrev e49_6:=Q (NO (K 89 [v0])) YY e49_5
abbrev e49_7:=GT (LN v2) (I 0)
abbrev e49_8:=Q (SN v1 (.s w0)) e49_7 (.b false)
abbrev e49_9:=GT (LN v2) (I 8)
abbrev e49_10:=LO 4900 [(I 0),v0,v1,v2]
abbrev e49_11:=PJ 0 e49_10
abbrev e49_12:=EQ e49_11 (I 1)
abbrev e49_13:=EQ e49_11 (I 2)
abbrev e49_14:=Q e49_12 YY e49_13
abbrev e49_15:=Q e49_9 YY e49_14
abbrev e49_16:=Q e49_8 YY e49_15
abbrev e49_17:=Q (LT (K 100 [v1]) (I 0)) YY e49_16
abbrev e49_18:=Q (NO (K 89 [v0])) YY e49_17
abbrev e49_19:=Q e49_12 (I 3) (I 0)
abbrev e49_20:=Q e49_9 (I 5) e49_19
abbrev e49_21:=Q e49_8 (I 1) e49_20
abbrev e49_22:=Q (LT (K 100 [v1]) (I 0)) (I 13) e49_21
abbrev e49_23:=Q (NO (K 89 [v0])) (I 8) e49_22
def B4900:Te LEnd:=.ite (LT v0 (LN v3)) (
 .need e49_0 (
 .ite e49_3 (
 .ok (.out 1 [])) (
 .ok (.again [(AD v0 (I 1)),v1,v2,v3])))) (
 .ok (.out 2 []))
def d4900:LoopD:=⟨10,⟨4900,4,(J 1 ((.ptr 0 0 0)::(J 1 ((Si 0)::(J 42 []))))),⟨⟨1,[(0,.cells 3 [[(Ss 1),(Ss 2),(S2 3)]])],[[]],none⟩,[],[]⟩,
 [(.ret,0,(J 2 ((.int .i64 (3))::(J 43 []))),⟨⟨1,[],[[]],none⟩,[],[]⟩),
  (.exit 0,0,(J 46 []),⟨⟨1,[],[[]],none⟩,[],[]⟩)],[(1,[]),(2,[])]⟩,B4900⟩
@[simp] theorem d4900_id:d4900.L.id=4900:=rfl
@[simp] theorem d4900_B:d4900.B=B4900:=rfl
def i49:Inst:=⟨49,0,[(.agg [(Ss 0),(Ss 1),(S2 2)])],[.one (.int .i64)]⟩
def s49:List Cal:=[c89,c100]
@[simp] theorem o49_89:OE s49 89 0 F89:=oG rfl
@[simp] theorem o49_100:OE s49 100 0 F100:=oG rfl
@[simp] def l49:List LoopD:=[d4900]
def t49:Te AV:=.need e49_4 (
 .need e49_6 (
 .need e49_18 (
 .ok (.sym (.int .i64) e49_23))))
def F49:List AV→Option AV:=unitF (omL KK s49 l49) t49
def c49:Cal:=⟨i49,F49⟩
theorem x49:XO i49 F49:=XV s49 l49 t49 g49 ⟨x89,x100,trivial⟩ (by kernel_rfl) (by kernel_rfl) (by kernel_rfl)
abbrev e30_0:=Q (LE (I 0) v2) (LT v2 (LN v0)) (.b false)
abbrev e30_1:=SE (C 0 v0 v2) v1
abbrev e30_2:=LO 3000 [v0,v1,(I 0)]
abbrev e30_3:=PJ 0 e30_2
abbrev e30_4:=EQ e30_3 (I 1)
abbrev e30_5:=EQ e30_3 (I 2)
abbrev e30_6:=Q e30_4 YY e30_5
abbrev e30_7:=PJ 1 e30_2
abbrev e30_8:=Q e30_4 e30_7 (I (-1))
def B3000:Te LEnd:=.ite (LT v2 (LN v0)) (
 .need e30_0 (
 .ite e30_1 (
 .ok (.out 1 [v2])) (
 .ok (.again [v0,v1,(AD v2 (I 1))])))) (
 .ok (.out 2 []))
def d3000:LoopD:=⟨2,⟨3000,3,((.sym (.sl [.str,.str,(.sl [(.int .i64)])]) v0)::((Ss 1)::(J 3 ((Si 2)::(J 14 []))))),⟨⟨0,[],[[]],none⟩,[],[]⟩,
 [(.ret,1,(J 4 ((Si 0)::(J 15 []))),⟨⟨0,[],[[]],none⟩,[],[]⟩),
  (.exit 0,0,(J 20 []),⟨⟨0,[],[[]],none⟩,[],[]⟩)],[(1,[]),(2,[])]⟩,B3000⟩
@[simp] theorem d3000_id:d3000.L.id=3000:=rfl
@[simp] theorem d3000_B:d3000.B=B3000:=rfl
def i30:Inst:=⟨30,0,[(.sym (.sl [.str,.str,(.sl [(.int .i64)])]) (.v 0)),(Ss 1)],[.one (.int .i64)]⟩
def s30:List Cal:=[]
@[simp] def l30:List LoopD:=[d3000]
def t30:Te AV:=.need e30_6 (
 .ok (.sym (.int .i64) e30_8))
def F30:List AV→Option AV:=unitF (omL KK s30 l30) t30
def c30:Cal:=⟨i30,F30⟩
theorem x30:XO i30 F30:=XV s30 l30 t30 g30 trivial (by kernel_rfl) (by kernel_rfl) (by kernel_rfl)
abbrev e20_0:=Q (LE (I 0) v2) (LT v2 (LN v0)) (.b false)
abbrev e20_1:=K 49 [(C 0 v0 v2),(C 1 v0 v2),(C 2 v0 v2)]
abbrev e20_2:=OI e20_1
abbrev e20_3:=NE e20_1 (I 0)
abbrev e20_4:=K 30 [(.p .slice [v0,(I 0),v2]),(C 0 v0 v2)]
abbrev e20_5:=OI e20_4
abbrev e20_6:=GE e20_4 (I 0)
abbrev e20_7:=SN (C 1 v0 v2) (.s w0)
abbrev e20_8:=Q (LT v1 (I 0)) (LN (C 2 v0 v2)) v1
abbrev e20_9:=NE (LN (C 2 v0 v2)) e20_8
abbrev e20_10:=GT (LN v0) (I 160)
abbrev e20_11:=LO 2000 [v0,(I (-1)),(I 0)]
abbrev e20_12:=PJ 0 e20_11
abbrev e20_13:=EQ e20_12 (I 1)
abbrev e20_14:=EQ e20_12 (I 2)
abbrev e20_15:=Q e20_13 YY e20_14
abbrev e20_16:=Q e20_10 YY e20_15
abbrev e20_17:=PJ 1 e20_11
abbrev e20_18:=Q e20_13 e20_17 (I 0)
abbrev e20_19:=Q e20_10 (I 5) e20_18
def B2000:Te LEnd:=.ite (LT v2 (LN v0)) (
 .need e20_0 (
 .need e20_2 (
 .ite e20_3 (
 .ok (.out 1 [e20_1])) (
 .need (LE (I 0) v2) (
 .need (LE v2 (LN v0)) (
 .need e20_5 (
 .ite e20_6 (
 .ok (.out 1 [(I 9)])) (
 .ite e20_7 (
 .ok (.again [v0,v1,(AD v2 (I 1))])) (
 .ite e20_9 (
 .ok (.out 1 [(I 2)])) (
 .ok (.again [v0,e20_8,(AD v2 (I 1))]))))))))))) (
 .ok (.out 2 []))
def d2000:LoopD:=⟨5,⟨2000,3,((.sym (.sl [.str,.str,(.sl [(.int .i64)])]) v0)::(J 2 ((Si 1)::((Si 2)::(J 50 []))))),⟨⟨0,[],[[]],none⟩,[],[]⟩,
 [(.ret,1,(J 2 ((Si 0)::(J 52 []))),⟨⟨0,[],[[]],none⟩,[],[]⟩),
  (.exit 0,0,(J 55 []),⟨⟨0,[],[[]],none⟩,[],[]⟩)],[(1,[]),(2,[])]⟩,B2000⟩
@[simp] theorem d2000_id:d2000.L.id=2000:=rfl
@[simp] theorem d2000_B:d2000.B=B2000:=rfl
def i20:Inst:=⟨20,0,[(.sym (.sl [.str,.str,(.sl [(.int .i64)])]) (.v 0))],[.one (.int .i64)]⟩
def s20:List Cal:=[c49,c30]
@[simp] theorem o20_49:OE s20 49 0 F49:=oG rfl
@[simp] theorem o20_30:OE s20 30 0 F30:=oG rfl
@[simp] def l20:List LoopD:=[d2000]
def t20:Te AV:=.need e20_16 (
 .ok (.sym (.int .i64) e20_19))
def F20:List AV→Option AV:=unitF (omL KK s20 l20) t20
def c20:Cal:=⟨i20,F20⟩
theorem x20:XO i20 F20:=XV s20 l20 t20 g20 ⟨x49,x30,trivial⟩ (by kernel_rfl) (by kernel_rfl) (by kernel_rfl)
abbrev e18_0:=Q (LE (I 0) v3) (LT v3 (LN v1)) (.b false)
abbrev e18_1:X:=.p (.app 1) [(.sl 1 []),(C 2 v1 v3)]
abbrev e18_2:=LN e18_1
abbrev e18_3:=LE e18_2 (I 1073741824)
abbrev e18_4:X:=.sl 3 [[(C 0 v1 v3),(C 1 v1 v3),e18_1]]
abbrev e18_5:X:=.p (.app 3) [v0,e18_4]
abbrev e18_6:=LN e18_5
abbrev e18_7:=LE e18_6 (I 1073741824)
abbrev e18_8:=LO 1800 [.nils,v0,(LN v0),(I 0)]
abbrev e18_9:=PJ 0 e18_8
abbrev e18_10:=EQ e18_9 (I 1)
abbrev e18_11:=PJ 1 e18_8
def B1800:Te LEnd:=.ite (LT v3 v2) (
 .need e18_0 (
 .need e18_3 (
 .need e18_7 (
 .ok (.again [e18_5,v1,v2,(AD v3 (I 1))]))))) (
 .ok (.out 1 [v0]))
def d1800:LoopD:=⟨3,⟨1800,4,(J 3 ((.sym (.own 0 [.str,.str,(.sl [(.int .i64)])]) v0)::(J 2 ((.sym (.sl [.str,.str,(.sl [(.int .i64)])]) v1)::((Si 2)::((Si 3)::(J 14 []))))))),⟨⟨5,[],[[]],none⟩,[(0,.rows [.str,.str,(.sl [(.int .i64)])] v0)],[]⟩,
 [(.exit 0,1,(J 3 ((.sym (.own 0 [.str,.str,(.sl [(.int .i64)])]) v0)::(J 19 []))),⟨⟨5,[],[[]],none⟩,[(0,.rows [.str,.str,(.sl [(.int .i64)])] v0)],[]⟩)],[(1,[])]⟩,B1800⟩
@[simp] theorem d1800_id:d1800.L.id=1800:=rfl
@[simp] theorem d1800_B:d1800.B=B1800:=rfl
def i18:Inst:=⟨18,0,[(.sym (.sl [.str,.str,(.sl [(.int .i64)])]) (.v 0))],[.one (.sl [.str,.str,(.sl [(.int .i64)])])]⟩
def s18:List Cal:=[]
@[simp] def l18:List LoopD:=[d1800]
def t18:Te AV:=.need e18_10 (
 .ok (.sym (.sl [.str,.str,(.sl [(.int .i64)])]) e18_11))
def F18:List AV→Option AV:=unitF (omL KK s18 l18) t18
def c18:Cal:=⟨i18,F18⟩
theorem x18:XO i18 F18:=XV s18 l18 t18 g18 trivial (by kernel_rfl) (by kernel_rfl) (by kernel_rfl)
abbrev e15_0:=Q (LE (I 0) v1) (LT v1 (LN v0)) (.b false)
abbrev e15_1:=GT (LN (C 0 v0 v1)) (I 40)
abbrev e15_2:=GT (LN (C 1 v0 v1)) (I 40)
abbrev e15_3:=GT (LN (C 2 v0 v1)) (I 10)
abbrev e15_4:=Q e15_2 YY e15_3
abbrev e15_5:=Q e15_1 YY e15_4
abbrev e15_6:=GT (LN v0) v1
abbrev e15_7:=GT (LN v0) (I 162)
abbrev e15_8:=Q (LE (LN v0) (I 160)) YY e15_7
abbrev e15_9:=Q e15_6 e15_8 e15_7
abbrev e15_10:=LO 1500 [v0,(I 0)]
abbrev e15_11:=PJ 0 e15_10
abbrev e15_12:=EQ e15_11 (I 1)
abbrev e15_13:=EQ e15_11 (I 2)
abbrev e15_14:=Q e15_12 YY e15_13
abbrev e15_15:=Q e15_9 YY e15_14
abbrev e15_16:=Q e15_12 (.b false) YY
abbrev e15_17:=Q e15_9 (.b false) e15_16
def B1500:Te LEnd:=.ite (LT v1 (LN v0)) (
 .need e15_0 (
 .ite e15_5 (
 .ok (.out 1 [])) (
 .ok (.again [v0,(AD v1 (I 1))])))) (
 .ok (.out 2 []))
def d1500:LoopD:=⟨4,⟨1500,2,((.sym (.sl [.str,.str,(.sl [(.int .i64)])]) v0)::(J 4 ((Si 1)::(J 45 [])))),⟨⟨0,[],[[]],none⟩,[],[]⟩,
 [(.ret,0,(J 4 ((.bool false)::(J 46 []))),⟨⟨0,[],[[]],none⟩,[],[]⟩),
  (.exit 0,0,(J 51 []),⟨⟨0,[],[[]],none⟩,[],[]⟩)],[(1,[]),(2,[])]⟩,B1500⟩
@[simp] theorem d1500_id:d1500.L.id=1500:=rfl
@[simp] theorem d1500_B:d1500.B=B1500:=rfl
def i15:Inst:=⟨15,0,[(.sym (.sl [.str,.str,(.sl [(.int .i64)])]) (.v 0)),(Si 1)],[.one .bool]⟩
def s15:List Cal:=[]
@[simp] def l15:List LoopD:=[d1500]
def t15:Te AV:=.need e15_15 (
 .ok (.sym .bool e15_17))
def F15:List AV→Option AV:=unitF (omL KK s15 l15) t15
def c15:Cal:=⟨i15,F15⟩
theorem x15:XO i15 F15:=XUL (cs:=s15) (ds:=l15) (t:=t15) trivial (x:=g15) (by kernel_rfl) (by kernel_rfl) (by kernel_rfl)
def i16:Inst:=⟨16,0,[],[.one .bool]⟩
def F16:List AV→Option AV:=fun _=>some (.bool true)
def c16:Cal:=⟨i16,F16⟩
theorem x16:XO i16 F16:=by
 refine ⟨?_,fun p hp=>by cases hp⟩
 have E:ExtOk Tryz.prog 16 (extTab [(a112,r112)]):=extOk_tab kn16 (fun e he=>by
  simp only [List.mem_singleton] at he; subst he; exact row112)
 refine ⟨E.1,fun args r h B0 nx0 w ρ vargs H hrel hg hfl=>E.2 args r h B0 nx0 w ρ vargs H hrel ?_ hfl⟩
 unfold extI at hg
 split at hg
 ·rename_i l hl
  split at hg
  ·cases ha:args.map (frz h 0 12) with
   | nil=>rw [← hg]; rfl
   | cons x y=>rw [ha] at hl; simp [i16,mtVs] at hl
  ·cases hg
 ·cases hg
abbrev e81_0:=Q (LE (I 0) v2) (LT v2 (LN v0)) (.b false)
abbrev e81_1:X:=.p .mput [v3,(C 0 v0 v2),YY]
abbrev e81_2:=LO 8100 [v0,(LN v0),(I 0),(.p .mnew [])]
abbrev e81_3:=PJ 0 e81_2
abbrev e81_4:=EQ e81_3 (I 1)
abbrev e81_5:=PJ 1 e81_2
def B8100:Te LEnd:=.ite (LT v2 v1) (
 .need e81_0 (
 .ok (.again [v0,v1,(AD v2 (I 1)),e81_1]))) (
 .ok (.out 1 [v3]))
def d8100:LoopD:=⟨3,⟨8100,4,(J 3 ((.sym (.mown 0 .str false [.bool]) YY)::(J 3 ((.sym (.sl [.str,.str,(.sl [(.int .i64)])]) v0)::((Si 1)::((Si 2)::(J 8 []))))))),⟨⟨2,[],[[]],none⟩,[(0,.mp .str false [.bool] v3)],[]⟩,
 [(.exit 0,1,(J 3 ((.sym (.mown 0 .str false [.bool]) YY)::(J 14 []))),⟨⟨2,[],[[]],none⟩,[(0,.mp .str false [.bool] v0)],[]⟩)],[(1,[])]⟩,B8100⟩
@[simp] theorem d8100_id:d8100.L.id=8100:=rfl
@[simp] theorem d8100_B:d8100.B=B8100:=rfl
def i81:Inst:=⟨81,0,[(.sym (.sl [.str,.str,(.sl [(.int .i64)])]) (.v 0))],[.one (.im .str false [.bool])]⟩
def s81:List Cal:=[]
@[simp] def l81:List LoopD:=[d8100]
def t81:Te AV:=.need e81_4 (
 .ok (.sym (.im .str false [.bool]) e81_5))
def F81:List AV→Option AV:=unitF (omL KK s81 l81) t81
def c81:Cal:=⟨i81,F81⟩
theorem x81:XO i81 F81:=XV s81 l81 t81 g81 trivial (by kernel_rfl) (by kernel_rfl) (by kernel_rfl)
abbrev e60_0:=Q (LE (I 0) v3) (LT v3 (LN v1)) (.b false)
abbrev e60_1:X:=.p (.mget false) [v0,(C 0 v1 v3),(.b false)]
abbrev e60_2:=NO e60_1
abbrev e60_3:=K 80 [e60_2,(I 10)]
abbrev e60_4:=OI e60_3
abbrev e60_5:=K 95 [(.p .slice [v1,(I 0),v3]),(C 0 v1 v3)]
abbrev e60_6:=OB e60_5
abbrev e60_7:=K 80 [e60_5,(I 9)]
abbrev e60_8:=OI e60_7
abbrev e60_9:X:=.sl 1 [[e60_3],[e60_7]]
abbrev e60_10:=K 76 [e60_9]
abbrev e60_11:=OI e60_10
abbrev e60_12:=NE e60_10 (I 0)
abbrev e60_13:=Q (LE (I 0) v2) (LT v2 (LN v0)) (.b false)
abbrev e60_14:=OI (K 21 [(C 0 v0 v2)])
abbrev e60_15:=NE (K 21 [(C 0 v0 v2)]) (I 0)
abbrev e60_16:=Q (LE (I 0) (SB v2 (I 1))) (LT (SB v2 (I 1)) (LN v0)) (.b false)
abbrev e60_17:=K 81 [(C 0 v0 (SB v2 (I 1)))]
abbrev e60_18:X:=.p (.okr [.one (.im .str false [.bool])]) [e60_17]
abbrev e60_19:=LO 6001 [e60_17,v0,v1,v2,(C 0 v0 v2),(LN (C 0 v0 v2)),(I 0),v3]
abbrev e60_20:=PJ 0 e60_19
abbrev e60_21:=EQ e60_20 (I 1)
abbrev e60_22:=EQ e60_20 (I 2)
abbrev e60_23:=Q (LE (I 0) v6) (LT v6 (LN v4)) (.b false)
abbrev e60_24:X:=.p (.mget false) [v0,(C 0 v4 v6),(.b false)]
abbrev e60_25:=NO e60_24
abbrev e60_26:=K 80 [(EQ (LN v0) (I 0)),(I 12)]
abbrev e60_27:=OI e60_26
abbrev e60_28:=GT (LN v0) (I 8)
abbrev e60_29:=K 80 [e60_28,(I 5)]
abbrev e60_30:=OI e60_29
abbrev e60_31:X:=.sl 1 [[e60_26],[e60_29]]
abbrev e60_32:=K 76 [e60_31]
abbrev e60_33:=OI e60_32
abbrev e60_34:=NE e60_32 (I 0)
abbrev e60_35:=LO 6000 [v0,(LN v0),(I 0),v1]
abbrev e60_36:=PJ 0 e60_35
abbrev e60_37:=EQ e60_36 (I 1)
abbrev e60_38:=EQ e60_36 (I 2)
abbrev e60_39:=Q e60_37 YY e60_38
abbrev e60_40:=Q e60_34 YY e60_39
abbrev e60_41:=GT (LN v1) (I 160)
abbrev e60_42:=Q e60_41 YY (LT (I 0) (LN v0))
abbrev e60_43:=Q e60_37 YY e60_42
abbrev e60_44:=Q e60_34 YY e60_43
abbrev e60_45:X:=.p (.okr [.one (.im .str false [.bool])]) [(K 81 [(C 0 v0 (I 0))])]
abbrev e60_46:=Q e60_41 YY e60_45
abbrev e60_47:=Q e60_37 YY e60_46
abbrev e60_48:=Q e60_34 YY e60_47
abbrev e60_49:=LO 6002 [(K 81 [(C 0 v0 (I 0))]),v1,(LN v1),(I 0),v0]
abbrev e60_50:=PJ 0 e60_49
abbrev e60_51:=EQ e60_50 (I 1)
abbrev e60_52:=EQ e60_50 (I 2)
abbrev e60_53:=Q e60_51 YY e60_52
abbrev e60_54:=Q e60_41 YY e60_53
abbrev e60_55:=Q e60_37 YY e60_54
abbrev e60_56:=Q e60_34 YY e60_55
abbrev e60_57:=PJ 1 e60_35
abbrev e60_58:=PJ 1 e60_49
abbrev e60_59:=Q e60_51 e60_58 (I 0)
abbrev e60_60:=Q e60_41 (I 5) e60_59
abbrev e60_61:=Q e60_37 e60_57 e60_60
abbrev e60_62:=Q e60_34 e60_32 e60_61
def B6002:Te LEnd:=.ite (LT v3 v2) (
 .need e60_0 (
 .need e60_4 (
 .need (LE (I 0) v3) (
 .need (LE v3 (LN v1)) (
 .need e60_6 (
 .need e60_8 (
 .need e60_11 (
 .ite e60_12 (
 .ok (.out 1 [e60_10])) (
 .ok (.again [v0,v1,v2,(AD v3 (I 1)),v4])))))))))) (
 .ok (.out 2 []))
def d6002:LoopD:=⟨23,⟨6002,5,(J 1 ((.ptr 0 0 0)::(J 8 ((.sym (.im .str false [.bool]) v0)::(J 63 ((S1 1)::((Si 2)::((Si 3)::(J 22 []))))))))),⟨⟨3,[(0,.cells 2 [[(.sym (.sl [(.sl [.str,.str,(.sl [(.int .i64)])])]) v4),(S1 1)]])],[[]],none⟩,[],[]⟩,
 [(.ret,1,(J 2 ((Si 0)::(J 96 []))),⟨⟨4,[],[[]],none⟩,[],[]⟩),
  (.exit 4,0,(J 99 []),⟨⟨3,[],[[]],none⟩,[],[]⟩)],[(1,[]),(2,[])]⟩,B6002⟩
@[simp] theorem d6002_id:d6002.L.id=6002:=rfl
@[simp] theorem d6002_B:d6002.B=B6002:=rfl
def B6000:Te LEnd:=.ite (LT v2 v1) (
 .need e60_13 (
 .need e60_14 (
 .ite e60_15 (
 .ok (.out 1 [(K 21 [(C 0 v0 v2)])])) (
 .ite (EQ v2 (I 0)) (
 .ok (.again [v0,v1,(AD v2 (I 1)),v3])) (
 .need e60_16 (
 .need e60_18 (
 .ite e60_21 (
 .ok (.out 1 [(I 10)])) (
 .need e60_22 (
 .ok (.again [v0,v1,(AD v2 (I 1)),v3])))))))))) (
 .ok (.out 2 [v0,v3]))
def d6000:LoopD:=⟨5,⟨6000,4,(J 1 ((.ptr 0 0 0)::(J 28 ((.sym (.sl [(.sl [.str,.str,(.sl [(.int .i64)])])]) v0)::((Si 1)::((Si 2)::(J 66 []))))))),⟨⟨2,[(0,.cells 2 [[(.sym (.sl [(.sl [.str,.str,(.sl [(.int .i64)])])]) v0),(S1 3)]])],[[]],none⟩,[],[]⟩,
 [(.ret,1,(J 2 ((Si 0)::(J 96 []))),⟨⟨2,[],[[]],none⟩,[],[]⟩),
  (.exit 0,2,(J 1 ((.ptr 0 0 0)::(J 97 []))),⟨⟨2,[(0,.cells 2 [[(.sym (.sl [(.sl [.str,.str,(.sl [(.int .i64)])])]) v0),(S1 1)]])],[[]],none⟩,[],[]⟩)],[(1,[]),(2,[(0,0),(1,3)])]⟩,B6000⟩
@[simp] theorem d6000_id:d6000.L.id=6000:=rfl
@[simp] theorem d6000_B:d6000.B=B6000:=rfl
def B6001:Te LEnd:=.ite (LT v6 v5) (
 .need e60_23 (
 .ite e60_25 (
 .ok (.out 1 [])) (
 .ok (.again [v0,v1,v2,v3,v4,v5,(AD v6 (I 1)),v7])))) (
 .ok (.out 2 [v1,v2,v3,v7]))
def d6001:LoopD:=⟨13,⟨6001,8,(J 1 ((.ptr 0 0 0)::(J 5 ((.sym (.im .str false [.bool]) v0)::(J 22 ((.sym (.sl [(.sl [.str,.str,(.sl [(.int .i64)])])]) v1)::((Si 2)::((Si 3)::(J 18 ((.sym (.sl [.str,.str,(.sl [(.int .i64)])]) v4)::((Si 5)::((Si 6)::(J 45 []))))))))))))),⟨⟨3,[(0,.cells 2 [[(.sym (.sl [(.sl [.str,.str,(.sl [(.int .i64)])])]) v1),(S1 7)]])],[[]],none⟩,[],[]⟩,
 [(.ret,0,(J 2 ((.int .i64 (10))::(J 96 []))),⟨⟨4,[],[[]],none⟩,[],[]⟩),
  (.exit 2,4,(J 1 ((.ptr 0 0 0)::(J 28 ((.sym (.sl [(.sl [.str,.str,(.sl [(.int .i64)])])]) v0)::((Si 1)::((Si 2)::(J 66 []))))))),⟨⟨3,[(0,.cells 2 [[(.sym (.sl [(.sl [.str,.str,(.sl [(.int .i64)])])]) v0),(S1 3)]])],[[]],none⟩,[],[]⟩)],[(1,[]),(2,[(0,1),(1,2),(2,3),(3,7)])]⟩,B6001⟩
@[simp] theorem d6001_id:d6001.L.id=6001:=rfl
@[simp] theorem d6001_B:d6001.B=B6001:=rfl
def i60:Inst:=⟨60,0,[(.agg [(.sym (.sl [(.sl [.str,.str,(.sl [(.int .i64)])])]) (.v 0)),(S1 1)])],[.one (.int .i64)]⟩
def s60:List Cal:=[c80,c76,c81,c21,c95]
@[simp] theorem o60_80:OE s60 80 0 F80:=oG rfl
@[simp] theorem o60_76:OE s60 76 0 F76:=oG rfl
@[simp] theorem o60_81:OE s60 81 0 F81:=oG rfl
@[simp] theorem o60_21:OE s60 21 0 F21:=oG rfl
@[simp] theorem o60_95:OE s60 95 0 F95:=oG rfl
@[simp] def l60:List LoopD:=[d6002,d6000,d6001]
def t60:Te AV:=.need e60_27 (
 .need e60_30 (
 .need e60_33 (
 .need e60_40 (
 .need e60_44 (
 .need e60_48 (
 .need e60_56 (
 .ok (.sym (.int .i64) e60_62))))))))
def F60:List AV→Option AV:=unitF (omL KK s60 l60) t60
def c60:Cal:=⟨i60,F60⟩
theorem x60:XO i60 F60:=XV s60 l60 t60 g60 ⟨x80,x76,x81,x21,x95,trivial⟩ (by kernel_rfl) (by kernel_rfl) (by kernel_rfl)
def i205:Inst:=⟨205,0,[(.agg [(Ss 0),(Ss 1),(S2 2)]),(.ref [(Ss 3)])],[.one .bool]⟩
def s205:List Cal:=[]
@[simp] def l205:List LoopD:=[]
def t205:Te AV:=.ok (.sym .bool (SE v0 v3))
def F205:List AV→Option AV:=unitF (omL KK s205 l205) t205
def c205:Cal:=⟨i205,F205⟩
theorem x205:XO i205 F205:=XV s205 l205 t205 g205 trivial (by kernel_rfl) (by kernel_rfl) (by kernel_rfl)
abbrev e204_0:=Q (LE (I 0) v3) (LT v3 (LN v0)) (.b false)
abbrev e204_1:=K 205 [(C 0 v0 v3),(C 1 v0 v3),(C 2 v0 v3),v1]
abbrev e204_2:=OB e204_1
abbrev e204_3:=LO 20400 [v0,v1,(LN v0),(I 0)]
abbrev e204_4:=PJ 0 e204_3
abbrev e204_5:=EQ e204_4 (I 1)
abbrev e204_6:=EQ e204_4 (I 2)
abbrev e204_7:=Q e204_5 YY e204_6
abbrev e204_8:=PJ 1 e204_3
abbrev e204_9:=Q e204_5 e204_8 (I (-1))
def B20400:Te LEnd:=.ite (LT v3 v2) (
 .need e204_0 (
 .need e204_2 (
 .ite e204_1 (
 .ok (.out 1 [v3])) (
 .ok (.again [v0,v1,v2,(AD v3 (I 1))]))))) (
 .ok (.out 2 []))
def d20400:LoopD:=⟨2,⟨20400,4,((.sym (.sl [.str,.str,(.sl [(.int .i64)])]) v0)::((.func (.func 205) [] [(.ref [(Ss 1)])])::(J 5 ((Si 2)::((Si 3)::(J 10 [])))))),⟨⟨0,[],[[]],none⟩,[],[]⟩,
 [(.ret,1,(J 4 ((Si 0)::(J 14 []))),⟨⟨0,[],[[]],none⟩,[],[]⟩),
  (.exit 0,0,(J 19 []),⟨⟨0,[],[[]],none⟩,[],[]⟩)],[(1,[]),(2,[])]⟩,B20400⟩
@[simp] theorem d20400_id:d20400.L.id=20400:=rfl
@[simp] theorem d20400_B:d20400.B=B20400:=rfl
def i204:Inst:=⟨204,0,[(.sym (.sl [.str,.str,(.sl [(.int .i64)])]) (.v 0)),(.func (.func 205) [] [(.ref [(Ss 1)])])],[.one (.int .i64)]⟩
def s204:List Cal:=[c205]
@[simp] theorem o204_205:OE s204 205 0 F205:=oG rfl
@[simp] def l204:List LoopD:=[d20400]
def t204:Te AV:=.need e204_7 (
 .ok (.sym (.int .i64) e204_9))
def F204:List AV→Option AV:=unitF (omL KK s204 l204) t204
def c204:Cal:=⟨i204,F204⟩
theorem x204:XO i204 F204:=XV s204 l204 t204 g204 ⟨x205,trivial⟩ (by kernel_rfl) (by kernel_rfl) (by kernel_rfl)
abbrev e163_0:=OI (K 204 [v0,v1])
abbrev e163_1:=LT (K 204 [v0,v1]) (I 0)
abbrev e163_2:=LE (I 0) (K 204 [v0,v1])
abbrev e163_3:=LT (K 204 [v0,v1]) (LN v0)
abbrev e163_4:=Q e163_2 e163_3 (.b false)
abbrev e163_5:=Q e163_1 YY e163_4
abbrev e163_6:=C 0 v0 (K 204 [v0,v1])
abbrev e163_7:=Q e163_1 (.s w0) e163_6
abbrev e163_8:=C 1 v0 (K 204 [v0,v1])
abbrev e163_9:=Q e163_1 (.s w0) e163_8
abbrev e163_10:=C 2 v0 (K 204 [v0,v1])
abbrev e163_11:=Q e163_1 .nils e163_10
abbrev e163_12:=Q e163_1 (.b false) YY
def i163:Inst:=⟨163,0,[(.sym (.sl [.str,.str,(.sl [(.int .i64)])]) (.v 0)),(Ss 1)],[.agg [.str,.str,(.sl [(.int .i64)])],.one .bool]⟩
def s163:List Cal:=[c204]
@[simp] theorem o163_204:OE s163 204 0 F204:=oG rfl
@[simp] def l163:List LoopD:=[]
def t163:Te AV:=.need e163_0 (
 .need e163_5 (
 .ok (.tuple [(.agg [(.sym .str e163_7),(.sym .str e163_9),(.sym (.sl [(.int .i64)]) e163_11)]),(.sym .bool e163_12)])))
def F163:List AV→Option AV:=unitF (omL KK s163 l163) t163
def c163:Cal:=⟨i163,F163⟩
theorem x163:XO i163 F163:=XV s163 l163 t163 g163 ⟨x204,trivial⟩ (by kernel_rfl) (by kernel_rfl) (by kernel_rfl)
abbrev e160_0:X:=.p (.okr [.agg [.str,.str,(.sl [(.int .i64)])],.one .bool]) [(K 163 [v0,v1])]
abbrev e160_1:=PJ 1 (K 163 [v0,v1])
abbrev e160_2:=Q e160_1 (I 0) (I 1)
def i160:Inst:=⟨160,0,[(.sym (.sl [.str,.str,(.sl [(.int .i64)])]) (.v 0)),(Ss 1)],[.one (.int .i64)]⟩
def s160:List Cal:=[c163]
@[simp] theorem o160_163:OE s160 163 0 F163:=oG rfl
@[simp] def l160:List LoopD:=[]
def t160:Te AV:=.need e160_0 (
 .ok (.sym (.int .i64) e160_2))
def F160:List AV→Option AV:=unitF (omL KK s160 l160) t160
def c160:Cal:=⟨i160,F160⟩
theorem x160:XO i160 F160:=XV s160 l160 t160 g160 ⟨x163,trivial⟩ (by kernel_rfl) (by kernel_rfl) (by kernel_rfl)
abbrev e159_0:=OI (K 160 [v2,v0])
abbrev e159_1:=OI (K 160 [v2,v1])
abbrev e159_2:=SB (K 160 [v2,v0]) (K 160 [v2,v1])
def i159:Inst:=⟨159,0,[(Ss 0),(Ss 1),(.ref [(.sym (.sl [.str,.str,(.sl [(.int .i64)])]) (.v 2))])],[.one (.int .i64)]⟩
def s159:List Cal:=[c160]
@[simp] theorem o159_160:OE s159 160 0 F160:=oG rfl
@[simp] def l159:List LoopD:=[]
def t159:Te AV:=.need e159_0 (
 .need e159_1 (
 .ok (.sym (.int .i64) e159_2)))
def F159:List AV→Option AV:=unitF (omL KK s159 l159) t159
def c159:Cal:=⟨i159,F159⟩
theorem x159:XO i159 F159:=XV s159 l159 t159 g159 ⟨x160,trivial⟩ (by kernel_rfl) (by kernel_rfl) (by kernel_rfl)
abbrev e162_0:X:=.p (.okr [.agg [.str,.str,(.sl [(.int .i64)])],.one .bool]) [(K 163 [v2,v0])]
abbrev e162_1:X:=.p (.okr [.agg [.str,.str,(.sl [(.int .i64)])],.one .bool]) [(K 163 [v2,v1])]
abbrev e162_2:=PJ 1 (K 163 [v2,v0])
abbrev e162_3:=NO e162_2
abbrev e162_4:=PJ 1 (K 163 [v2,v1])
abbrev e162_5:=NO e162_4
abbrev e162_6:=Q e162_3 YY e162_5
abbrev e162_7:=PJ 0 (K 163 [v2,v0])
abbrev e162_8:=FL 0 e162_7
abbrev e162_9:=FL 1 e162_7
abbrev e162_10:=FL 2 e162_7
abbrev e162_11:=PJ 0 (K 163 [v2,v1])
abbrev e162_12:=FL 0 e162_11
abbrev e162_13:=FL 1 e162_11
abbrev e162_14:=FL 2 e162_11
abbrev e162_15:=K 75 [e162_8,e162_9,e162_10,e162_12,e162_13,e162_14]
abbrev e162_16:=OI e162_15
abbrev e162_17:=Q e162_6 YY e162_16
abbrev e162_18:=Q e162_6 (I 0) e162_15
def i162:Inst:=⟨162,0,[(Ss 0),(Ss 1),(.ref [(.sym (.sl [.str,.str,(.sl [(.int .i64)])]) (.v 2))])],[.one (.int .i64)]⟩
def s162:List Cal:=[c163,c75]
@[simp] theorem o162_163:OE s162 163 0 F163:=oG rfl
@[simp] theorem o162_75:OE s162 75 0 F75:=oG rfl
@[simp] def l162:List LoopD:=[]
def t162:Te AV:=.need e162_0 (
 .need e162_1 (
 .need e162_17 (
 .ok (.sym (.int .i64) e162_18))))
def F162:List AV→Option AV:=unitF (omL KK s162 l162) t162
def c162:Cal:=⟨i162,F162⟩
theorem x162:XO i162 F162:=XV s162 l162 t162 g162 ⟨x163,x75,trivial⟩ (by kernel_rfl) (by kernel_rfl) (by kernel_rfl)
abbrev e164_0:=OI (K 124 [v2,v0])
abbrev e164_1:=GE (K 124 [v2,v0]) (I 0)
abbrev e164_2:=Q e164_1 (K 124 [v2,v0]) (LN v2)
def i164:Inst:=⟨164,0,[(Ss 0),(.ref [(.sym (.sl [(.sl [.str,.str,(.sl [(.int .i64)])])]) (.v 1)),(S1 2)])],[.one (.int .i64)]⟩
def s164:List Cal:=[c124]
@[simp] theorem o164_124:OE s164 124 0 F124:=oG rfl
@[simp] def l164:List LoopD:=[]
def t164:Te AV:=.need e164_0 (
 .ok (.sym (.int .i64) e164_2))
def F164:List AV→Option AV:=unitF (omL KK s164 l164) t164
def c164:Cal:=⟨i164,F164⟩
theorem x164:XO i164 F164:=XV s164 l164 t164 g164 ⟨x124,trivial⟩ (by kernel_rfl) (by kernel_rfl) (by kernel_rfl)
abbrev e165_0:=K 164 [v0,v2,v3]
abbrev e165_1:=OI e165_0
abbrev e165_2:=K 164 [v1,v2,v3]
abbrev e165_3:=OI e165_2
abbrev e165_4:=K 123 [e165_0,e165_2]
abbrev e165_5:=OI e165_4
def i165:Inst:=⟨165,0,[(Ss 0),(Ss 1),(.ref [(.func (.func 164) [] [(.ref [(.sym (.sl [(.sl [.str,.str,(.sl [(.int .i64)])])]) (.v 2)),(S1 3)])])])],[.one (.int .i64)]⟩
def s165:List Cal:=[c164,c123]
@[simp] theorem o165_164:OE s165 164 0 F164:=oG rfl
@[simp] theorem o165_123:OE s165 123 0 F123:=oG rfl
@[simp] def l165:List LoopD:=[]
def t165:Te AV:=.need e165_1 (
 .need e165_3 (
 .need e165_5 (
 .ok (.sym (.int .i64) e165_4))))
def F165:List AV→Option AV:=unitF (omL KK s165 l165) t165
def c165:Cal:=⟨i165,F165⟩
theorem x165:XO i165 F165:=XV s165 l165 t165 g165 ⟨x164,x123,trivial⟩ (by kernel_rfl) (by kernel_rfl) (by kernel_rfl)
abbrev d82 (i:X):X:=K 159 [v2,v3,(C 0 v0 i)]
abbrev b82 (i:X):X:=K 162 [v2,v3,(C 0 v0 i)]
abbrev z82:X:=K 165 [v2,v3,v0,v1]
def end82:Te AV:=.need (OI z82) (.ok (.tuple [(.sym (.int .i64) (Q (NE z82 (I 0)) (LN v0) (I (-1)))),(.sym (.int .i64) (Q (NE z82 (I 0)) z82 (I 0)))]))
def snd82:Nat→X→Te AV
 | 0,_=>.fail 98
 | n+1,x=>.ite (GE x (I 0)) (.need (Q (LE (I 0) x) (LT x (LN v0)) (.b false)) (.need (OI (b82 x)) (.ite (NE (b82 x) (I 0)) (.ok (.tuple [(.sym (.int .i64) x),(.sym (.int .i64) (b82 x))])) (snd82 n (SB x (I 1)))))) end82
def fst82:Nat→Nat→Te AV
 | 0,_=>.fail 98
 | n+1,i=>.ite (LT (I i) (LN v0)) (.need (OI (d82 (I i))) (.ite (NE (d82 (I i)) (I 0)) (.ok (.tuple [(.int .i64 i),(.sym (.int .i64) (d82 (I i)))])) (fst82 n (i+1)))) (snd82 9 (SB (LN v0) (I 1)))
def i82:Inst:=⟨82,0,[(.agg [(.sym (.sl [(.sl [.str,.str,(.sl [(.int .i64)])])]) (.v 0)),(S1 1)]),(Ss 2),(Ss 3)],[.one (.int .i64),.one (.int .i64)]⟩
def s82:List Cal:=[c159,c162,c165]
@[simp] theorem o82_159:OE s82 159 0 F159:=oG rfl
@[simp] theorem o82_162:OE s82 162 0 F162:=oG rfl
@[simp] theorem o82_165:OE s82 165 0 F165:=oG rfl
@[simp] def l82:List LoopD:=[]
def t82:Te AV:=fst82 10 0
def F82:List AV→Option AV:=unitF (omL KK s82 l82) t82
def c82:Cal:=⟨i82,F82⟩
theorem x82:XO i82 F82:=XUN (n:=11) (cs:=s82) (ds:=l82) (t:=t82) ⟨x159,x162,x165,trivial⟩ (x:=g82) (by kernel_rfl) (by kernel_rfl) (by kernel_rfl)
abbrev e83_0:=Q (LE (I 0) v2) (LT v2 (LN v0)) (.b false)
abbrev e83_1:=SE (C 0 v0 v2) v1
abbrev e83_2:=LO 8300 [v0,v1,(I 0)]
abbrev e83_3:=PJ 0 e83_2
abbrev e83_4:=EQ e83_3 (I 1)
abbrev e83_5:=EQ e83_3 (I 2)
abbrev e83_6:=Q e83_4 YY e83_5
abbrev e83_7:=Q e83_4 YY (.b false)
def B8300:Te LEnd:=.ite (LT v2 (LN v0)) (
 .need e83_0 (
 .ite e83_1 (
 .ok (.out 1 [])) (
 .ok (.again [v0,v1,(AD v2 (I 1))])))) (
 .ok (.out 2 []))
def d8300:LoopD:=⟨2,⟨8300,3,((S1 0)::((Ss 1)::(J 3 ((Si 2)::(J 12 []))))),⟨⟨0,[],[[]],none⟩,[],[]⟩,
 [(.ret,0,(J 4 ((.bool true)::(J 13 []))),⟨⟨0,[],[[]],none⟩,[],[]⟩),
  (.exit 0,0,(J 18 []),⟨⟨0,[],[[]],none⟩,[],[]⟩)],[(1,[]),(2,[])]⟩,B8300⟩
@[simp] theorem d8300_id:d8300.L.id=8300:=rfl
@[simp] theorem d8300_B:d8300.B=B8300:=rfl
def i83:Inst:=⟨83,0,[(S1 0),(Ss 1)],[.one .bool]⟩
def s83:List Cal:=[]
@[simp] def l83:List LoopD:=[d8300]
def t83:Te AV:=.need e83_6 (
 .ok (.sym .bool e83_7))
def F83:List AV→Option AV:=unitF (omL KK s83 l83) t83
def c83:Cal:=⟨i83,F83⟩
theorem x83:XO i83 F83:=XV s83 l83 t83 g83 trivial (by kernel_rfl) (by kernel_rfl) (by kernel_rfl)
abbrev e29_0:=Q (LE (I 0) v0) (LT v0 (LN v2)) (.b false)
abbrev e29_1:=K 30 [(C 0 v1 (I 0)),(C 0 v2 v0)]
abbrev e29_2:=OI e29_1
abbrev e29_3:=LT e29_1 (I 0)
abbrev e29_4:=K 83 [(.p .slice [v2,(I 0),v0]),(C 0 v2 v0)]
abbrev e29_5:=OB e29_4
abbrev e29_6:=Q (LE (I 0) v0) (LT v0 (LN v1)) (.b false)
abbrev e29_7:=OI (K 20 [(C 0 v1 v0)])
abbrev e29_8:=NE (K 20 [(C 0 v1 v0)]) (I 0)
abbrev e29_9:=LO 2901 [v0,(I 0),v1,v2]
abbrev e29_10:=PJ 0 e29_9
abbrev e29_11:=EQ e29_10 (I 1)
abbrev e29_12:=EQ e29_10 (I 2)
abbrev e29_13:=Q (GT v0 (I 0)) e29_0 YY
abbrev e29_14:=Q (GT v0 (I 0)) (LT v1 (LN (C 0 v2 v0))) (.b false)
abbrev e29_15:=Q (LE (I 0) (SB v0 (I 1))) (LT (SB v0 (I 1)) (LN v2)) (.b false)
abbrev e29_16:=Q (LE (I 0) v1) (LT v1 (LN (C 0 v2 v0))) (.b false)
abbrev e29_17:=K 30 [(C 0 v2 (SB v0 (I 1))),(C 0 (C 0 v2 v0) v1)]
abbrev e29_18:=OI e29_17
abbrev e29_19:=LT e29_17 (I 0)
abbrev e29_20:=GT (LN v0) (I 8)
abbrev e29_21:=LO 2900 [(I 0),v0,v1]
abbrev e29_22:=PJ 0 e29_21
abbrev e29_23:=EQ e29_22 (I 1)
abbrev e29_24:=EQ e29_22 (I 2)
abbrev e29_25:=Q e29_23 YY e29_24
abbrev e29_26:=Q e29_20 YY e29_25
abbrev e29_27:=Q (EQ (LN v0) (I 0)) YY e29_26
abbrev e29_28:=GT (LN v1) (I 160)
abbrev e29_29:=LO 2902 [(I 0),v0,v1]
abbrev e29_30:=PJ 0 e29_29
abbrev e29_31:=EQ e29_30 (I 1)
abbrev e29_32:=EQ e29_30 (I 2)
abbrev e29_33:=Q e29_31 YY e29_32
abbrev e29_34:=Q e29_28 YY e29_33
abbrev e29_35:=Q e29_23 YY e29_34
abbrev e29_36:=Q e29_20 YY e29_35
abbrev e29_37:=Q (EQ (LN v0) (I 0)) YY e29_36
abbrev e29_38:=PJ 1 e29_21
abbrev e29_39:=PJ 1 e29_29
abbrev e29_40:=Q e29_31 e29_39 (I 0)
abbrev e29_41:=Q e29_28 (I 5) e29_40
abbrev e29_42:=Q e29_23 e29_38 e29_41
abbrev e29_43:=Q e29_20 (I 5) e29_42
abbrev e29_44:=Q (EQ (LN v0) (I 0)) (I 12) e29_43
def B2902:Te LEnd:=.ite (LT v0 (LN v2)) (
 .need (LT (I 0) (LN v1)) (
 .need e29_0 (
 .need e29_2 (
 .ite e29_3 (
 .ok (.out 1 [(I 10)])) (
 .need (LE (I 0) v0) (
 .need (LE v0 (LN v2)) (
 .need e29_5 (
 .ite e29_4 (
 .ok (.out 1 [(I 9)])) (
 .ok (.again [(AD v0 (I 1)),v1,v2])))))))))) (
 .ok (.out 2 []))
def d2902:LoopD:=⟨19,⟨2902,3,(J 1 ((.ptr 0 0 0)::(J 4 ((Si 0)::(J 87 []))))),⟨⟨1,[(0,.cells 2 [[(.sym (.sl [(.sl [.str,.str,(.sl [(.int .i64)])])]) v1),(S1 2)]])],[[]],none⟩,[],[]⟩,
 [(.ret,1,(J 2 ((Si 0)::(J 91 []))),⟨⟨1,[],[[]],none⟩,[],[]⟩),
  (.exit 4,0,(J 94 []),⟨⟨1,[],[[]],none⟩,[],[]⟩)],[(1,[]),(2,[])]⟩,B2902⟩
@[simp] theorem d2902_id:d2902.L.id=2902:=rfl
@[simp] theorem d2902_B:d2902.B=B2902:=rfl
def B2900:Te LEnd:=.ite (LT v0 (LN v1)) (
 .need e29_6 (
 .need e29_7 (
 .ite e29_8 (
 .ok (.out 1 [(K 20 [(C 0 v1 v0)])])) (
 .ite e29_11 (
 .ok (.out 1 [(I 10)])) (
 .need e29_12 (
 .ok (.again [(AD v0 (I 1)),v1,v2]))))))) (
 .ok (.out 2 [v1,v2]))
def d2900:LoopD:=⟨6,⟨2900,3,(J 1 ((.ptr 0 0 0)::(J 1 ((Si 0)::(J 90 []))))),⟨⟨1,[(0,.cells 2 [[(.sym (.sl [(.sl [.str,.str,(.sl [(.int .i64)])])]) v1),(S1 2)]])],[[]],none⟩,[],[]⟩,
 [(.ret,1,(J 2 ((Si 0)::(J 91 []))),⟨⟨1,[],[[]],none⟩,[],[]⟩),
  (.exit 0,2,(J 1 ((.ptr 0 0 0)::(J 92 []))),⟨⟨1,[(0,.cells 2 [[(.sym (.sl [(.sl [.str,.str,(.sl [(.int .i64)])])]) v0),(S1 1)]])],[[]],none⟩,[],[]⟩)],[(1,[]),(2,[(0,1),(1,2)])]⟩,B2900⟩
@[simp] theorem d2900_id:d2900.L.id=2900:=rfl
@[simp] theorem d2900_B:d2900.B=B2900:=rfl
def B2901:Te LEnd:=.need e29_13 (
 .ite e29_14 (
 .need e29_15 (
 .need e29_0 (
 .need e29_16 (
 .need e29_18 (
 .ite e29_19 (
 .ok (.out 1 [])) (
 .ok (.again [v0,(AD v1 (I 1)),v2,v3]))))))) (
 .ok (.out 2 [v0,v2,v3])))
def d2901:LoopD:=⟨12,⟨2901,4,(J 1 ((.ptr 0 0 0)::(J 1 ((Si 0)::(J 1 ((Si 1)::(J 88 []))))))),⟨⟨1,[(0,.cells 2 [[(.sym (.sl [(.sl [.str,.str,(.sl [(.int .i64)])])]) v2),(S1 3)]])],[[]],none⟩,[],[]⟩,
 [(.ret,0,(J 2 ((.int .i64 (10))::(J 91 []))),⟨⟨1,[],[[]],none⟩,[],[]⟩),
  (.exit 2,3,(J 1 ((.ptr 0 0 0)::(J 1 ((Si 0)::(J 90 []))))),⟨⟨1,[(0,.cells 2 [[(.sym (.sl [(.sl [.str,.str,(.sl [(.int .i64)])])]) v1),(S1 2)]])],[[]],none⟩,[],[]⟩)],[(1,[]),(2,[(0,0),(1,2),(2,3)])]⟩,B2901⟩
@[simp] theorem d2901_id:d2901.L.id=2901:=rfl
@[simp] theorem d2901_B:d2901.B=B2901:=rfl
def i29:Inst:=⟨29,0,[(.agg [(.sym (.sl [(.sl [.str,.str,(.sl [(.int .i64)])])]) (.v 0)),(S1 1)])],[.one (.int .i64)]⟩
def s29:List Cal:=[c30,c20,c83]
@[simp] theorem o29_30:OE s29 30 0 F30:=oG rfl
@[simp] theorem o29_20:OE s29 20 0 F20:=oG rfl
@[simp] theorem o29_83:OE s29 83 0 F83:=oG rfl
@[simp] def l29:List LoopD:=[d2902,d2900,d2901]
def t29:Te AV:=.need e29_27 (
 .need e29_37 (
 .ok (.sym (.int .i64) e29_44)))
def F29:List AV→Option AV:=unitF (omL KK s29 l29) t29
def c29:Cal:=⟨i29,F29⟩
theorem x29:XO i29 F29:=XV s29 l29 t29 g29 ⟨x30,x20,x83,trivial⟩ (by kernel_rfl) (by kernel_rfl) (by kernel_rfl)
abbrev e26_0:=Q (LE (I 0) v0) (LT v0 (LN v2)) (.b false)
abbrev e26_1:=GT (LN (C 0 v2 v0)) (I 40)
abbrev e26_2:=Q (LE (I 0) v1) (LT v1 (LN v2)) (.b false)
abbrev e26_3:=K 15 [(C 0 v2 v1),v0]
abbrev e26_4:=OB e26_3
abbrev e26_5:=NO e26_3
abbrev e26_6:=GT (LN v0) (I 10)
abbrev e26_7:=GT (LN v1) (I 20)
abbrev e26_8:=GT (LN v1) (I 162)
abbrev e26_9:=Q (LE (LN v1) (I 160)) YY e26_8
abbrev e26_10:=Q e26_7 e26_9 e26_8
abbrev e26_11:=Q e26_6 YY e26_10
abbrev e26_12:=LO 2600 [v2,(I 0),v0,v1]
abbrev e26_13:=PJ 0 e26_12
abbrev e26_14:=EQ e26_13 (I 1)
abbrev e26_15:=EQ e26_13 (I 2)
abbrev e26_16:=Q e26_14 YY e26_15
abbrev e26_17:=Q e26_11 YY e26_16
abbrev e26_18:=LO 2601 [(I 0),v0,v1]
abbrev e26_19:=PJ 0 e26_18
abbrev e26_20:=EQ e26_19 (I 1)
abbrev e26_21:=EQ e26_19 (I 2)
abbrev e26_22:=Q e26_20 YY e26_21
abbrev e26_23:=Q e26_14 YY e26_22
abbrev e26_24:=Q e26_11 YY e26_23
abbrev e26_25:=Q e26_20 (.b false) YY
abbrev e26_26:=Q e26_14 (.b false) e26_25
abbrev e26_27:=Q e26_11 (.b false) e26_26
def B2601:Te LEnd:=.ite (LT v0 (LN v2)) (
 .need e26_0 (
 .ite e26_1 (
 .ok (.out 1 [])) (
 .ok (.again [(AD v0 (I 1)),v1,v2])))) (
 .ok (.out 2 []))
def d2601:LoopD:=⟨9,⟨2601,3,(J 2 ((.ptr 0 0 0)::(J 3 ((Si 0)::(J 51 []))))),⟨⟨1,[(0,.cells 2 [[(.sym (.sl [(.sl [.str,.str,(.sl [(.int .i64)])])]) v1),(S1 2)]])],[[]],none⟩,[],[]⟩,
 [(.ret,0,(J 4 ((.bool false)::(J 53 []))),⟨⟨1,[],[[]],none⟩,[],[]⟩),
  (.exit 2,0,(J 58 []),⟨⟨1,[],[[]],none⟩,[],[]⟩)],[(1,[]),(2,[])]⟩,B2601⟩
@[simp] theorem d2601_id:d2601.L.id=2601:=rfl
@[simp] theorem d2601_B:d2601.B=B2601:=rfl
def B2600:Te LEnd:=.ite (LT v1 (LN v2)) (
 .need e26_2 (
 .need e26_4 (
 .ite e26_5 (
 .ok (.out 1 [])) (
 .ok (.again [v0,(AD v1 (I 1)),v2,v3]))))) (
 .ok (.out 2 [v2,v3]))
def d2600:LoopD:=⟨4,⟨2600,4,(J 1 ((Si 0)::((.ptr 0 0 0)::(J 2 ((Si 1)::(J 52 [])))))),⟨⟨1,[(0,.cells 2 [[(.sym (.sl [(.sl [.str,.str,(.sl [(.int .i64)])])]) v2),(S1 3)]])],[[]],none⟩,[],[]⟩,
 [(.ret,0,(J 4 ((.bool false)::(J 53 []))),⟨⟨1,[],[[]],none⟩,[],[]⟩),
  (.exit 0,2,(J 2 ((.ptr 0 0 0)::(J 55 []))),⟨⟨1,[(0,.cells 2 [[(.sym (.sl [(.sl [.str,.str,(.sl [(.int .i64)])])]) v0),(S1 1)]])],[[]],none⟩,[],[]⟩)],[(1,[]),(2,[(0,2),(1,3)])]⟩,B2600⟩
@[simp] theorem d2600_id:d2600.L.id=2600:=rfl
@[simp] theorem d2600_B:d2600.B=B2600:=rfl
def i26:Inst:=⟨26,0,[(.agg [(.sym (.sl [(.sl [.str,.str,(.sl [(.int .i64)])])]) (.v 0)),(S1 1)]),(Si 2)],[.one .bool]⟩
def s26:List Cal:=[c15]
@[simp] theorem o26_15:OE s26 15 0 F15:=oG rfl
@[simp] def l26:List LoopD:=[d2601,d2600]
def t26:Te AV:=.need e26_17 (
 .need e26_24 (
 .ok (.sym .bool e26_27)))
def F26:List AV→Option AV:=unitF (omL KK s26 l26) t26
def c26:Cal:=⟨i26,F26⟩
theorem x26:XO i26 F26:=XV s26 l26 t26 g26 ⟨x15,trivial⟩ (by kernel_rfl) (by kernel_rfl) (by kernel_rfl)
abbrev e28_0:=Q (LE (I 0) v2) (LT v2 (LN v0)) (.b false)
abbrev e28_1:X:=.p (.okr [.one (.sl [.str,.str,(.sl [(.int .i64)])])]) [(K 18 [(C 0 v0 v2)])]
abbrev e28_2:X:=.sl 1 [[(K 18 [(C 0 v0 v2)])]]
abbrev e28_3:X:=.p (.app 1) [v3,e28_2]
abbrev e28_4:=LN e28_3
abbrev e28_5:=LE e28_4 (I 1073741824)
abbrev e28_6:=LE (LN (.p (.app 1) [(.sl 1 []),v1])) (I 1073741824)
abbrev e28_7:=LO 2800 [v0,(LN v0),(I 0),.nils,(.p (.app 1) [(.sl 1 []),v1])]
abbrev e28_8:=PJ 0 e28_7
abbrev e28_9:=EQ e28_8 (I 1)
abbrev e28_10:=PJ 1 e28_7
def B2800:Te LEnd:=.ite (LT v2 v1) (
 .need e28_0 (
 .need e28_1 (
 .need e28_5 (
 .ok (.again [v0,v1,(AD v2 (I 1)),e28_3,v4]))))) (
 .ok (.out 1 [v3,v4]))
def d2800:LoopD:=⟨3,⟨2800,5,(J 2 ((.ptr 1 0 0)::((.ptr 4 0 0)::(J 8 ((.sym (.sl [(.sl [.str,.str,(.sl [(.int .i64)])])]) v0)::((Si 1)::((Si 2)::(J 12 [])))))))),⟨⟨7,[(4,.cells 2 [[(.sym (.own 5 [(.sl [.str,.str,(.sl [(.int .i64)])])]) v3),(.sym (.own 3 [.str]) v4)]]),(1,.cells 2 [[.nils,.nils]])],[[]],none⟩,[(5,.rows [(.sl [.str,.str,(.sl [(.int .i64)])])] v3),(3,.rows [.str] v4)],[]⟩,
 [(.exit 0,2,(J 2 ((.ptr 1 0 0)::((.ptr 4 0 0)::(J 23 [])))),⟨⟨7,[(4,.cells 2 [[(.sym (.own 5 [(.sl [.str,.str,(.sl [(.int .i64)])])]) v0),(.sym (.own 3 [.str]) v1)]]),(1,.cells 2 [[.nils,.nils]])],[[]],none⟩,[(3,.rows [.str] v1),(5,.rows [(.sl [.str,.str,(.sl [(.int .i64)])])] v0)],[]⟩)],[(1,[(1,4)])]⟩,B2800⟩
@[simp] theorem d2800_id:d2800.L.id=2800:=rfl
@[simp] theorem d2800_B:d2800.B=B2800:=rfl
def i28:Inst:=⟨28,0,[(.agg [(.sym (.sl [(.sl [.str,.str,(.sl [(.int .i64)])])]) (.v 0)),(S1 1)])],[.agg [(.sl [(.sl [.str,.str,(.sl [(.int .i64)])])]),(.sl [.str])]]⟩
def s28:List Cal:=[c18]
@[simp] theorem o28_18:OE s28 18 0 F18:=oG rfl
@[simp] def l28:List LoopD:=[d2800]
def t28:Te AV:=.need e28_6 (
 .need e28_9 (
 .ok (.agg [(.sym (.sl [(.sl [.str,.str,(.sl [(.int .i64)])])]) e28_10),(.sym (.sl [.str]) (.p (.app 1) [(.sl 1 []),v1]))])))
def F28:List AV→Option AV:=unitF (omL KK s28 l28) t28
def c28:Cal:=⟨i28,F28⟩
theorem x28:XO i28 F28:=XV s28 l28 t28 g28 ⟨x18,trivial⟩ (by kernel_rfl) (by kernel_rfl) (by kernel_rfl)
abbrev e27_0:=OI (K 60 [v0,v1])
abbrev e27_1:=NE (K 60 [v0,v1]) (I 0)
abbrev e27_2:=Q e27_1 YY (LT (I 0) (LN v0))
abbrev e27_3:X:=.p (.okr [.one (.im .str false [.bool])]) [(K 81 [(C 0 v0 (I 0))])]
abbrev e27_4:=Q e27_1 YY e27_3
abbrev e27_5:X:=.p (.mget false) [(K 81 [(C 0 v0 (I 0))]),v2,(.b false)]
abbrev e27_6:=NO e27_5
abbrev e27_7:=OI (K 80 [YY,(I 10)])
abbrev e27_8:=Q e27_6 e27_7 YY
abbrev e27_9:=Q e27_1 YY e27_8
abbrev e27_10:=K 80 [(SE v2 v3),(I 9)]
abbrev e27_11:=OI e27_10
abbrev e27_12:=Q e27_6 e27_11 YY
abbrev e27_13:=Q e27_1 YY e27_12
abbrev e27_14:X:=.sl 1 [[(K 80 [YY,(I 10)])],[e27_10]]
abbrev e27_15:=K 76 [e27_14]
abbrev e27_16:=OI e27_15
abbrev e27_17:=Q e27_6 e27_16 YY
abbrev e27_18:=Q e27_1 YY e27_17
abbrev e27_19:X:=.p (.mget false) [(K 81 [(C 0 v0 (I 0))]),v3,(.b false)]
abbrev e27_20:=NO e27_19
abbrev e27_21:=K 80 [e27_20,(I 10)]
abbrev e27_22:=OI e27_21
abbrev e27_23:=Q e27_6 YY e27_22
abbrev e27_24:=Q e27_1 YY e27_23
abbrev e27_25:=Q e27_6 YY e27_11
abbrev e27_26:=Q e27_1 YY e27_25
abbrev e27_27:X:=.sl 1 [[e27_21],[e27_10]]
abbrev e27_28:=K 76 [e27_27]
abbrev e27_29:=OI e27_28
abbrev e27_30:=Q e27_6 YY e27_29
abbrev e27_31:=Q e27_1 YY e27_30
abbrev e27_32:=Q e27_6 e27_15 e27_28
abbrev e27_33:=NE e27_32 (I 0)
abbrev e27_34:=K 82 [v0,v1,v2,v3]
abbrev e27_35:X:=.p (.okr [.one (.int .i64),.one (.int .i64)]) [e27_34]
abbrev e27_36:=Q e27_33 YY e27_35
abbrev e27_37:=Q e27_1 YY e27_36
abbrev e27_38:=PJ 0 e27_34
abbrev e27_39:=Q e27_33 (I 0) e27_38
abbrev e27_40:=Q e27_1 (I 0) e27_39
abbrev e27_41:=PJ 1 e27_34
abbrev e27_42:=Q e27_33 (I 0) e27_41
abbrev e27_43:=Q e27_1 (I 0) e27_42
abbrev e27_44:=Q e27_33 e27_32 (I 0)
abbrev e27_45:=Q e27_1 (K 60 [v0,v1]) e27_44
def i27:Inst:=⟨27,0,[(.agg [(.sym (.sl [(.sl [.str,.str,(.sl [(.int .i64)])])]) (.v 0)),(S1 1)]),(Ss 2),(Ss 3)],[.one (.int .i64),.one (.int .i64),.one (.int .i64)]⟩
def s27:List Cal:=[c60,c81,c80,c76,c82]
@[simp] theorem o27_60:OE s27 60 0 F60:=oG rfl
@[simp] theorem o27_81:OE s27 81 0 F81:=oG rfl
@[simp] theorem o27_80:OE s27 80 0 F80:=oG rfl
@[simp] theorem o27_76:OE s27 76 0 F76:=oG rfl
@[simp] theorem o27_82:OE s27 82 0 F82:=oG rfl
@[simp] def l27:List LoopD:=[]
def t27:Te AV:=.need e27_0 (
 .need e27_2 (
 .need e27_4 (
 .need e27_9 (
 .need e27_13 (
 .need e27_18 (
 .need e27_24 (
 .need e27_26 (
 .need e27_31 (
 .need e27_37 (
 .ok (.tuple [(.sym (.int .i64) e27_40),(.sym (.int .i64) e27_43),(.sym (.int .i64) e27_45)])))))))))))
def F27:List AV→Option AV:=unitF (omL KK s27 l27) t27
def c27:Cal:=⟨i27,F27⟩
theorem x27:XO i27 F27:=XV s27 l27 t27 g27 ⟨x60,x81,x80,x76,x82,trivial⟩ (by kernel_rfl) (by kernel_rfl) (by kernel_rfl)
abbrev e168_0:=K 82 [v2,v3,v0,v1]
abbrev e168_1:X:=.p (.okr [.one (.int .i64),.one (.int .i64)]) [e168_0]
abbrev e168_2:=PJ 1 e168_0
def i168:Inst:=⟨168,0,[(Ss 0),(Ss 1),(.ref [(.sym (.sl [(.sl [.str,.str,(.sl [(.int .i64)])])]) (.v 2)),(S1 3)])],[.one (.int .i64)]⟩
def s168:List Cal:=[c82]
@[simp] theorem o168_82:OE s168 82 0 F82:=oG rfl
@[simp] def l168:List LoopD:=[]
def t168:Te AV:=.need e168_1 (
 .ok (.sym (.int .i64) e168_2))
def F168:List AV→Option AV:=unitF (omL KK s168 l168) t168
def c168:Cal:=⟨i168,F168⟩
theorem x168:XO i168 F168:=XV s168 l168 t168 g168 ⟨x82,trivial⟩ (by kernel_rfl) (by kernel_rfl) (by kernel_rfl)
abbrev e167_0:=Q (LE (I 0) v5) (LT v5 (LN v0)) (.b false)
abbrev e167_1:=LO 16701 [v0,v1,v2,v3,(C 0 v0 v5),(I 1),v4,v5,(LN v0),(I 0)]
abbrev e167_2:=PJ 0 e167_1
abbrev e167_3:=EQ e167_2 (I 1)
abbrev e167_4:=PJ 5 e167_1
abbrev e167_5:X:=.sl 1 [[e167_4]]
abbrev e167_6:X:=.p (.app 1) [v3,e167_5]
abbrev e167_7:=LN e167_6
abbrev e167_8:=LE e167_7 (I 1073741824)
abbrev e167_9:=Q (LE (I 0) v9) (LT v9 (LN v0)) (.b false)
abbrev e167_10:=K 168 [(C 0 v0 v9),v4,v1,v2]
abbrev e167_11:=OI e167_10
abbrev e167_12:=LT e167_10 (I 0)
abbrev e167_13:=Q e167_12 (AD v5 (I 1)) v5
abbrev e167_14:=LO 16700 [v0,v1,v2,.nils,(LN v0),(I 0)]
abbrev e167_15:=PJ 0 e167_14
abbrev e167_16:=EQ e167_15 (I 1)
abbrev e167_17:=PJ 1 e167_14
def B16700:Te LEnd:=.ite (LT v5 v4) (
 .need e167_0 (
 .need e167_3 (
 .need e167_8 (
 .ok (.again [v0,v1,v2,e167_6,v4,(AD v5 (I 1))]))))) (
 .ok (.out 1 [v3]))
def d16700:LoopD:=⟨3,⟨16700,6,((S1 0)::((.func (.func 168) [] [(.ref [(.sym (.sl [(.sl [.str,.str,(.sl [(.int .i64)])])]) v1),(S1 2)])])::(J 3 ((.sym (.own 0 [(.int .i64)]) v3)::(J 5 ((S1 0)::((Si 4)::((Si 5)::(J 23 []))))))))),⟨⟨2,[],[[]],none⟩,[(0,.rows [(.int .i64)] v3)],[]⟩,
 [(.exit 0,1,(J 5 ((.sym (.own 0 [(.int .i64)]) v0)::(J 31 []))),⟨⟨2,[],[[]],none⟩,[(0,.rows [(.int .i64)] v0)],[]⟩)],[(1,[])]⟩,B16700⟩
@[simp] theorem d16700_id:d16700.L.id=16700:=rfl
@[simp] theorem d16700_B:d16700.B=B16700:=rfl
def B16701:Te LEnd:=.ite (LT v9 v8) (
 .need e167_9 (
 .need e167_11 (
 .ok (.again [v0,v1,v2,v3,v4,e167_13,v6,v7,v8,(AD v9 (I 1))])))) (
 .ok (.out 1 [v0,v1,v2,v3,v5,v6,v7]))
def d16701:LoopD:=⟨7,⟨16701,10,((S1 0)::((.func (.func 168) [] [(.ref [(.sym (.sl [(.sl [.str,.str,(.sl [(.int .i64)])])]) v1),(S1 2)])])::(J 3 ((.sym (.own 0 [(.int .i64)]) v3)::(J 1 ((Ss 4)::((Si 5)::(J 2 ((S1 0)::((Si 6)::((Si 7)::(J 3 ((S1 0)::((Si 8)::((Si 9)::(J 17 [])))))))))))))))),⟨⟨2,[],[[]],none⟩,[(0,.rows [(.int .i64)] v3)],[]⟩,
 [(.exit 2,7,((S1 0)::((.func (.func 168) [] [(.ref [(.sym (.sl [(.sl [.str,.str,(.sl [(.int .i64)])])]) v1),(S1 2)])])::(J 3 ((.sym (.own 0 [(.int .i64)]) v3)::(J 2 ((Si 4)::(J 2 ((S1 0)::((Si 5)::((Si 6)::(J 23 []))))))))))),⟨⟨2,[],[[]],none⟩,[(0,.rows [(.int .i64)] v3)],[]⟩)],[(1,[(0,0),(1,1),(2,2),(3,3),(5,6),(6,7)])]⟩,B16701⟩
@[simp] theorem d16701_id:d16701.L.id=16701:=rfl
@[simp] theorem d16701_B:d16701.B=B16701:=rfl
def m167:List AV:=[(.sym (.sl [.str]) v0),(.func (.func 168) [] [(.ref [(.sym (.sl [(.sl [.str,.str,(.sl [(.int .i64)])])]) v1),(.sym (.sl [.str]) v2)])])]
def s167:List Cal:=[c168]
@[simp] theorem o167_168:OE s167 168 0 F168:=oG rfl
@[simp] def l167:List LoopD:=[d16700,d16701]
def t167:Te AV:=.need e167_16 (
 .ok (.sym (.sl [(.int .i64)]) e167_17))
def F167:List AV→Option AV:=unitF (omL KK s167 l167) t167
def c167:Cal:=⟨gpI 167,gpF F167⟩
def p167:GpF:=frP 167 [(.int .i64)] m167 F167
theorem x167:FrOk Tryz.prog 167 p167:=XUF (T:=tab) tabOf (cs:=s167) (ds:=l167) (t:=t167) ⟨x168.up rfl rfl rfl,trivial⟩ (by kernel_rfl) (by kernel_rfl)
abbrev e139_0:=Q (LE (I 0) v4) (LT v4 (LN v2)) (.b false)
abbrev e139_1:=Q (LE (I 0) v4) (LT v4 (LN v0)) (.b false)
abbrev e139_2:X:=.sl 2 [[(C 0 v0 v4),(C 0 v2 v4)]]
abbrev e139_3:X:=.p (.app 2) [v1,e139_2]
abbrev e139_4:=LN e139_3
abbrev e139_5:=LE e139_4 (I 1073741824)
abbrev e139_6:=Q (LE (I 0) v3) (LT v3 (LN v1)) (.b false)
abbrev e139_7:X:=.p (.app 1) [v0,(.sl 1 [[(C 0 v1 v3)]])]
abbrev e139_8:=LN e139_7
abbrev e139_9:=LE e139_8 (I 1073741824)
abbrev e139_10:=LO 13900 [.nils,(C 0 v0 (I 0)),(LN (C 0 v0 (I 0))),(I 0),v0,v1]
abbrev e139_11:=PJ 0 e139_10
abbrev e139_12:=EQ e139_11 (I 1)
abbrev e139_13:=PJ 1 e139_10
abbrev e139_14:=K 167 [e139_13,v0,v1]
abbrev e139_15:X:=.p (.okr [.one (.sl [(.int .i64)])]) [e139_14]
abbrev e139_16:=LN e139_14
abbrev e139_17:=LO 13901 [e139_13,.nils,e139_14,e139_16,(I 0)]
abbrev e139_18:=PJ 0 e139_17
abbrev e139_19:=EQ e139_18 (I 1)
abbrev e139_20:=PJ 1 e139_17
def B13901:Te LEnd:=.ite (LT v4 v3) (
 .need e139_0 (
 .need e139_1 (
 .need e139_5 (
 .ok (.again [v0,e139_3,v2,v3,(AD v4 (I 1))]))))) (
 .ok (.out 1 [v1]))
def d13901:LoopD:=⟨10,⟨13901,5,(J 3 ((.sym (.own 1 [.str]) v0)::(J 2 ((.sym (.own 5 [.str,(.int .i64)]) v1)::(J 21 ((.sym (.own 4 [(.int .i64)]) v2)::((Si 3)::((Si 4)::(J 15 []))))))))),⟨⟨7,[],[[]],none⟩,[(5,.rows [.str,(.int .i64)] v1),(4,.rows [(.int .i64)] v2),(1,.rows [.str] v0)],[]⟩,
 [(.exit 2,1,(J 6 ((.sym (.own 5 [.str,(.int .i64)]) v0)::(J 39 []))),⟨⟨7,[],[[]],none⟩,[(5,.rows [.str,(.int .i64)] v0)],[]⟩)],[(1,[])]⟩,B13901⟩
@[simp] theorem d13901_id:d13901.L.id=13901:=rfl
@[simp] theorem d13901_B:d13901.B=B13901:=rfl
def B13900:Te LEnd:=.ite (LT v3 v2) (
 .need e139_6 (
 .need e139_9 (
 .ok (.again [e139_7,v1,v2,(AD v3 (I 1)),v4,v5])))) (
 .ok (.out 1 [v0,v4,v5]))
def d13900:LoopD:=⟨3,⟨13900,6,(J 1 ((.ptr 0 0 0)::(J 1 ((.sym (.own 1 [.str]) v0)::(J 9 ((.sym (.sl [.str,.str,(.sl [(.int .i64)])]) v1)::((Si 2)::((Si 3)::(J 30 []))))))))),⟨⟨4,[(0,.cells 2 [[(.sym (.sl [(.sl [.str,.str,(.sl [(.int .i64)])])]) v4),(S1 5)]])],[[]],none⟩,[(1,.rows [.str] v0)],[]⟩,
 [(.exit 0,3,(J 1 ((.ptr 0 0 0)::(J 1 ((.sym (.own 1 [.str]) v0)::(J 42 []))))),⟨⟨4,[(0,.cells 2 [[(.sym (.sl [(.sl [.str,.str,(.sl [(.int .i64)])])]) v1),(S1 2)]])],[[]],none⟩,[(1,.rows [.str] v0)],[]⟩)],[(1,[(1,4),(2,5)])]⟩,B13900⟩
@[simp] theorem d13900_id:d13900.L.id=13900:=rfl
@[simp] theorem d13900_B:d13900.B=B13900:=rfl
def m139:List AV:=[(.agg [(.sym (.sl [(.sl [.str,.str,(.sl [(.int .i64)])])]) v0),(.sym (.sl [.str]) v1)])]
def s139:List Cal:=[c167]
@[simp] theorem o139_167:OE s139 167 0 (gpF F167):=oG rfl
@[simp] def l139:List LoopD:=[d13901,d13900]
def t139:Te AV:=.need (LT (I 0) (LN v0)) (
 .need e139_12 (
 .need e139_15 (
 .need e139_19 (
 .ok (.sym (.sl [.str,(.int .i64)]) e139_20)))))
def F139:List AV→Option AV:=unitF (omL KK s139 l139) t139
def c139:Cal:=⟨gpI 139,gpF F139⟩
def p139:GpF:=frP 139 [.str,(.int .i64)] m139 F139
theorem x139:FrOk Tryz.prog 139 p139:=XUF (T:=(tabM n1 (g1 167 p167))) (tabM_of n1_ok (g1_ok x167)) (cs:=s139) (ds:=l139) (t:=t139) ⟨fr_xa x167 rfl rfl rfl (by kernel_rfl),trivial⟩ (by kernel_rfl) (by kernel_rfl)
abbrev e141_0:=OI (K 123 [v1,v3])
def i141:Inst:=⟨141,0,[(.agg [(Ss 0),(Si 1)]),(.agg [(Ss 2),(Si 3)])],[.one (.int .i64)]⟩
def s141:List Cal:=[c123]
@[simp] theorem o141_123:OE s141 123 0 F123:=oG rfl
@[simp] def l141:List LoopD:=[]
def t141:Te AV:=.need e141_0 (
 .ok (.sym (.int .i64) (K 123 [v1,v3])))
def F141:List AV→Option AV:=unitF (omL KK s141 l141) t141
def c141:Cal:=⟨i141,F141⟩
theorem x141:XO i141 F141:=XV s141 l141 t141 g141 ⟨x123,trivial⟩ (by kernel_rfl) (by kernel_rfl) (by kernel_rfl)
abbrev e206_0:=LO 20601 [v0,v1,v2,v3,v3]
abbrev e206_1:=PJ 0 e206_0
abbrev e206_2:=EQ e206_1 (I 1)
abbrev e206_3:=PJ 1 e206_0
abbrev e206_4:=Q (LE (I 0) v4) (LT v4 (LN v0)) (.b false)
abbrev e206_5:=Q (GT v4 v1) e206_4 YY
abbrev e206_6:=Q (GT v4 v1) (NO (.p .isNil [v0])) YY
abbrev e206_7:=Q (LE (I 0) (SB v4 (I 1))) (LT (SB v4 (I 1)) (LN v0)) (.b false)
abbrev e206_8:=Q (GT v4 v1) e206_7 YY
abbrev e206_9:=K 141 [(C 0 v0 v4),(C 1 v0 v4),(C 0 v0 (SB v4 (I 1))),(C 1 v0 (SB v4 (I 1)))]
abbrev e206_10:=OI e206_9
abbrev e206_11:=Q (GT v4 v1) e206_10 YY
abbrev e206_12:=LT e206_9 (I 0)
abbrev e206_13:=Q (GT v4 v1) e206_12 (.b false)
abbrev e206_14:X:=.p (.setc 0) [v0,v4,(C 0 v0 (SB v4 (I 1))),(C 1 v0 (SB v4 (I 1)))]
abbrev e206_15:=LN e206_14
abbrev e206_16:=LT (SB v4 (I 1)) e206_15
abbrev e206_17:=Q (LE (I 0) (SB v4 (I 1))) e206_16 (.b false)
abbrev e206_18:X:=.p (.setc 0) [e206_14,(SB v4 (I 1)),(C 0 v0 v4),(C 1 v0 v4)]
abbrev e206_19:=LO 20600 [v0,v1,v2,(AD v1 (I 1))]
abbrev e206_20:=PJ 0 e206_19
abbrev e206_21:=EQ e206_20 (I 1)
abbrev e206_22:=PJ 1 e206_19
def B20600:Te LEnd:=.ite (LT v3 v2) (
 .need e206_2 (
 .ok (.again [e206_3,v1,v2,(AD v3 (I 1))]))) (
 .ok (.out 1 [v0]))
def d20600:LoopD:=⟨1,⟨20600,4,((.sym (.own 0 [.str,(.int .i64)]) v0)::((Si 1)::((Si 2)::((.func (.func 141) [] [])::(J 4 ((Si 3)::(J 44 []))))))),⟨⟨1,[],[[]],none⟩,[(0,.rows [.str,(.int .i64)] v0)],[]⟩,
 [(.exit 0,1,((.sym (.own 0 [.str,(.int .i64)]) v0)::(J 52 [])),⟨⟨1,[],[[]],none⟩,[(0,.rows [.str,(.int .i64)] v0)],[]⟩)],[(1,[])]⟩,B20600⟩
@[simp] theorem d20600_id:d20600.L.id=20600:=rfl
@[simp] theorem d20600_B:d20600.B=B20600:=rfl
def B20601:Te LEnd:=.need e206_5 (
 .need e206_6 (
 .need e206_8 (
 .need e206_11 (
 .ite e206_13 (
 .need e206_7 (
 .need (NO (.p .isNil [v0])) (
 .need e206_4 (
 .need e206_17 (
 .ok (.again [e206_18,v1,v2,v3,(SB v4 (I 1))])))))) (
 .ok (.out 1 [v0,v1,v2,v3]))))))
def d20601:LoopD:=⟨4,⟨20601,5,((.sym (.own 0 [.str,(.int .i64)]) v0)::((Si 1)::((Si 2)::((.func (.func 141) [] [])::(J 4 ((Si 3)::((Si 4)::(J 43 [])))))))),⟨⟨1,[],[[]],none⟩,[(0,.rows [.str,(.int .i64)] v0)],[]⟩,
 [(.exit 2,4,((.sym (.own 0 [.str,(.int .i64)]) v0)::((Si 1)::((Si 2)::((.func (.func 141) [] [])::(J 4 ((Si 3)::(J 44 []))))))),⟨⟨1,[],[[]],none⟩,[(0,.rows [.str,(.int .i64)] v0)],[]⟩)],[(1,[(1,1),(2,2),(3,3)])]⟩,B20601⟩
@[simp] theorem d20601_id:d20601.L.id=20601:=rfl
@[simp] theorem d20601_B:d20601.B=B20601:=rfl
def m206:List AV:=[(.sym (.int .i64) v1),(.sym (.int .i64) v2),(.func (.func 141) [] [])]
def s206:List Cal:=[c141]
@[simp] theorem o206_141:OE s206 141 0 F141:=oG rfl
@[simp] def l206:List LoopD:=[d20600,d20601]
def t206:Te AV:=.need e206_21 (
 .ok (.sym (.sl [.str,(.int .i64)]) e206_22))
def F206:List AV→Option AV:=unitF (omL KK s206 l206) t206
def c206:Cal:=⟨gpI 206,gpF F206⟩
def p206:GpF:=gpP 206 [.str,(.int .i64)] m206 F206
theorem x206:GpOk Tryz.prog 206 p206:=XUG (T:=tab) tabOf (cs:=s206) (ds:=l206) (t:=t206) ⟨x141.up rfl rfl rfl,trivial⟩ (by kernel_rfl) (by kernel_rfl)
abbrev e169_0:=LO 16902 [v0,v1]
abbrev e169_1:=PJ 0 e169_0
abbrev e169_2:=EQ e169_1 (I 1)
abbrev e169_3:=K 206 [v0,v2,v3]
abbrev e169_4:X:=.p (.okr [.one (.sl [.str,(.int .i64)])]) [e169_3]
abbrev e169_5:=LN e169_3
abbrev e169_6:=EQ (LN v0) e169_5
abbrev e169_7:X:=.p .isNil [e169_3]
abbrev e169_8:=BE (.p .isNil [v0]) e169_7
abbrev e169_9:X:=.p .whole [v0,e169_3]
abbrev e169_10:=LO 16900 [v0,v1,(I 0),(I 20)]
abbrev e169_11:=PJ 0 e169_10
abbrev e169_12:=EQ e169_11 (I 1)
abbrev e169_13:=PJ 1 e169_10
abbrev e169_14:=PJ 3 e169_10
abbrev e169_15:=K 206 [e169_13,e169_14,v1]
abbrev e169_16:X:=.p (.okr [.one (.sl [.str,(.int .i64)])]) [e169_15]
abbrev e169_17:=LN e169_13
abbrev e169_18:=LN e169_15
abbrev e169_19:=EQ e169_17 e169_18
abbrev e169_20:X:=.p .isNil [e169_13]
abbrev e169_21:X:=.p .isNil [e169_15]
abbrev e169_22:=BE e169_20 e169_21
abbrev e169_23:X:=.p .whole [e169_13,e169_15]
abbrev e169_24:=LO 16901 [e169_23,v1]
abbrev e169_25:=PJ 0 e169_24
abbrev e169_26:=EQ e169_25 (I 1)
def B16901:Te LEnd:=.ite (LT (I 20) v1) (
 .need e169_2 (
 .fail 152)) (
 .ok (.out 1 [v0]))
def d16901:LoopD:=⟨7,⟨16901,2,((.sym (.own 0 [.str,(.int .i64)]) v0)::((Si 1)::((.func (.func 141) [] [])::(J 3 ((.int .i64 (20))::(J 56 [])))))),⟨⟨1,[],[[]],none⟩,[(0,.rows [.str,(.int .i64)] v0)],[]⟩,
 [(.exit 2,1,((.sym (.own 0 [.str,(.int .i64)]) v0)::(J 62 [])),⟨⟨1,[],[[]],none⟩,[(0,.rows [.str,(.int .i64)] v0)],[]⟩)],[(1,[(0,0)])]⟩,B16901⟩
@[simp] theorem d16901_id:d16901.L.id=16901:=rfl
@[simp] theorem d16901_B:d16901.B=B16901:=rfl
def B16902:Te LEnd:=.ite (LE (I 40) v1) (
 .fail 152) (
 .ok (.out 1 [v0,v1]))
def d16902:LoopD:=⟨9,⟨16902,2,((.sym (.own 0 [.str,(.int .i64)]) v0)::((Si 1)::((.func (.func 141) [] [])::(J 3 ((.int .i64 (20))::((.int .i64 (0))::((.int .i64 (40))::(J 54 [])))))))),⟨⟨1,[],[[]],none⟩,[(0,.rows [.str,(.int .i64)] v0)],[]⟩,
 [(.exit 4,2,((.sym (.own 0 [.str,(.int .i64)]) v0)::((Si 1)::((.func (.func 141) [] [])::(J 3 ((.int .i64 (20))::((.int .i64 (0))::(J 55 []))))))),⟨⟨1,[],[[]],none⟩,[(0,.rows [.str,(.int .i64)] v0)],[]⟩)],[(1,[(0,0),(1,1)])]⟩,B16902⟩
@[simp] theorem d16902_id:d16902.L.id=16902:=rfl
@[simp] theorem d16902_B:d16902.B=B16902:=rfl
def B16900:Te LEnd:=.ite (LE v3 v1) (
 .need e169_4 (
 .need e169_6 (
 .need e169_8 (
 .ok (.again [e169_9,v1,v3,(AD v3 (I 20))]))))) (
 .ok (.out 1 [v0,v1,v2]))
def d16900:LoopD:=⟨2,⟨16900,4,((.sym (.own 0 [.str,(.int .i64)]) v0)::((Si 1)::((.func (.func 141) [] [])::(J 3 ((.int .i64 (20))::((Si 2)::((Si 3)::(J 54 [])))))))),⟨⟨1,[],[[]],none⟩,[(0,.rows [.str,(.int .i64)] v0)],[]⟩,
 [(.exit 0,3,((.sym (.own 0 [.str,(.int .i64)]) v0)::((Si 1)::((.func (.func 141) [] [])::(J 3 ((.int .i64 (20))::((Si 2)::(J 55 []))))))),⟨⟨1,[],[[]],none⟩,[(0,.rows [.str,(.int .i64)] v0)],[]⟩)],[(1,[(1,1)])]⟩,B16900⟩
@[simp] theorem d16900_id:d16900.L.id=16900:=rfl
@[simp] theorem d16900_B:d16900.B=B16900:=rfl
def m169:List AV:=[(.sym (.int .i64) v1),(.func (.func 141) [] [])]
def s169:List Cal:=[c206]
@[simp] theorem o169_206:OE s169 206 0 (gpF F206):=oG rfl
@[simp] def l169:List LoopD:=[d16901,d16902,d16900]
def t169:Te AV:=.need e169_12 (
 .need e169_16 (
 .need e169_19 (
 .need e169_22 (
 .need e169_26 (
 .ok (.sym (.sl [.str,(.int .i64)]) e169_23))))))
def F169:List AV→Option AV:=unitF (omL KK s169 l169) t169
def c169:Cal:=⟨gpI 169,gpF F169⟩
def p169:GpF:=gpP 169 [.str,(.int .i64)] m169 F169
theorem x169:GpOk Tryz.prog 169 p169:=XUG (T:=(tabG 206 p206 (fun f=>f == 207))) (tabG_of x206) (cs:=s169) (ds:=l169) (t:=t169) ⟨gp_xa x206 rfl rfl rfl (by kernel_rfl),trivial⟩ (by kernel_rfl) (by kernel_rfl)
abbrev e140_0:X:=.p (.okr [.one (.sl [.str,(.int .i64)])]) [(K 169 [v0,(LN v0)])]
abbrev e140_1:=LN (K 169 [v0,(LN v0)])
abbrev e140_2:=EQ (LN v0) e140_1
abbrev e140_3:X:=.p .isNil [(K 169 [v0,(LN v0)])]
abbrev e140_4:=BE (.p .isNil [v0]) e140_3
abbrev e140_5:X:=.p .whole [v0,(K 169 [v0,(LN v0)])]
def m140:List AV:=[(.func (.func 141) [] [])]
def s140:List Cal:=[c169]
@[simp] theorem o140_169:OE s140 169 0 (gpF F169):=oG rfl
@[simp] def l140:List LoopD:=[]
def t140:Te AV:=.need e140_0 (
 .need e140_2 (
 .need e140_4 (
 .ok (.sym (.sl [.str,(.int .i64)]) e140_5))))
def F140:List AV→Option AV:=unitF (omL KK s140 l140) t140
def c140:Cal:=⟨gpI 140,gpF F140⟩
def p140:GpF:=gpP 140 [.str,(.int .i64)] m140 F140
theorem x140:GpOk Tryz.prog 140 p140:=XUG (T:=(tabG 169 p169 (fun _=>false))) (tabG_of x169) (cs:=s140) (ds:=l140) (t:=t140) ⟨gp_xa x169 rfl rfl rfl (by kernel_rfl),trivial⟩ (by kernel_rfl) (by kernel_rfl)
abbrev e109_0:X:=.p (.okr [.one (.sl [.str,(.int .i64)])]) [(K 139 [v0,v1])]
abbrev e109_1:=K 140 [(K 139 [v0,v1])]
abbrev e109_2:X:=.p (.okr [.one (.sl [.str,(.int .i64)])]) [e109_1]
abbrev e109_3:=LN e109_1
abbrev e109_4:=EQ (LN (K 139 [v0,v1])) e109_3
abbrev e109_5:X:=.p .isNil [(K 139 [v0,v1])]
abbrev e109_6:X:=.p .isNil [e109_1]
abbrev e109_7:=BE e109_5 e109_6
abbrev e109_8:X:=.p .whole [(K 139 [v0,v1]),e109_1]
def i109:Inst:=⟨109,0,[(.agg [(.sym (.sl [(.sl [.str,.str,(.sl [(.int .i64)])])]) (.v 0)),(S1 1)])],[.one (.sl [.str,(.int .i64)])]⟩
def s109:List Cal:=[c139,c140]
@[simp] theorem o109_139:OE s109 139 0 (gpF F139):=oG rfl
@[simp] theorem o109_140:OE s109 140 0 (gpF F140):=oG rfl
@[simp] def l109:List LoopD:=[]
def t109:Te AV:=.need e109_0 (
 .need e109_2 (
 .need e109_4 (
 .need e109_7 (
 .ok (.sym (.sl [.str,(.int .i64)]) e109_8)))))
def F109:List AV→Option AV:=unitF (omL KK s109 l109) t109
def c109:Cal:=⟨i109,F109⟩
theorem x109:XO i109 F109:=XUA (T:=(tabM (g1 140 p140) (g1 139 p139))) (tabM_of (g1_ok x140) (g1_ok x139)) rfl (cs:=s109) (ds:=l109) (t:=t109) ⟨fr_xa x139 rfl rfl rfl (by kernel_rfl),gp_xa x140 rfl rfl rfl (by kernel_rfl),trivial⟩ (x:=g109) (by kernel_rfl) (by kernel_rfl) (by kernel_rfl)
abbrev e58_0:=OI (K 60 [v0,v1])
abbrev e58_1:=NE (K 60 [v0,v1]) (I 0)
abbrev e58_2:X:=.p (.okr [.one (.sl [.str,(.int .i64)])]) [(K 109 [v0,v1])]
abbrev e58_3:=Q e58_1 YY e58_2
abbrev e58_4:=Q e58_1 .nils (K 109 [v0,v1])
abbrev e58_5:=Q e58_1 (K 60 [v0,v1]) (I 0)
def i58:Inst:=⟨58,0,[(.agg [(.sym (.sl [(.sl [.str,.str,(.sl [(.int .i64)])])]) (.v 0)),(S1 1)])],[.one (.sl [.str,(.int .i64)]),.one (.int .i64)]⟩
def s58:List Cal:=[c60,c109]
@[simp] theorem o58_60:OE s58 60 0 F60:=oG rfl
@[simp] theorem o58_109:OE s58 109 0 F109:=oG rfl
@[simp] def l58:List LoopD:=[]
def t58:Te AV:=.need e58_0 (
 .need e58_3 (
 .ok (.tuple [(.sym (.sl [.str,(.int .i64)]) e58_4),(.sym (.int .i64) e58_5)])))
def F58:List AV→Option AV:=unitF (omL KK s58 l58) t58
def c58:Cal:=⟨i58,F58⟩
theorem x58:XO i58 F58:=XV s58 l58 t58 g58 ⟨x60,x109,trivial⟩ (by kernel_rfl) (by kernel_rfl) (by kernel_rfl)
abbrev e59_0:=LO 5901 [v0,v1,v2,v2,.nils]
abbrev e59_1:=PJ 0 e59_0
abbrev e59_2:=EQ e59_1 (I 1)
abbrev e59_3:=PJ 4 e59_0
abbrev e59_4:=LN e59_3
abbrev e59_5:=GT e59_4 (I 1)
abbrev e59_6:X:=.sl 1 [[e59_3]]
abbrev e59_7:X:=.p (.app 1) [v0,e59_6]
abbrev e59_8:=LN e59_7
abbrev e59_9:=LE e59_8 (I 1073741824)
abbrev e59_10:=PJ 3 e59_0
abbrev e59_11:=Q (LE (I 0) v3) (LT v3 (LN v1)) (.b false)
abbrev e59_12:=Q (LT v3 (LN v1)) e59_11 YY
abbrev e59_13:=Q (LE (I 0) v2) (LT v2 (LN v1)) (.b false)
abbrev e59_14:=Q (LT v3 (LN v1)) e59_13 YY
abbrev e59_15:=EQ (C 1 v1 v3) (C 1 v1 v2)
abbrev e59_16:=Q (LT v3 (LN v1)) e59_15 (.b false)
abbrev e59_17:X:=.p (.app 1) [v4,(.sl 1 [[(C 0 v1 v3)]])]
abbrev e59_18:=LN e59_17
abbrev e59_19:=LE e59_18 (I 1073741824)
abbrev e59_20:=OI (K 60 [v0,v1])
abbrev e59_21:=NE (K 60 [v0,v1]) (I 0)
abbrev e59_22:X:=.p (.okr [.one (.sl [.str,(.int .i64)])]) [(K 109 [v0,v1])]
abbrev e59_23:=Q e59_21 YY e59_22
abbrev e59_24:=LO 5900 [.nils,(K 109 [v0,v1]),(I 0)]
abbrev e59_25:=PJ 0 e59_24
abbrev e59_26:=EQ e59_25 (I 1)
abbrev e59_27:=Q e59_21 YY e59_26
abbrev e59_28:=PJ 1 e59_24
abbrev e59_29:=Q e59_21 .nils e59_28
abbrev e59_30:=Q e59_21 (K 60 [v0,v1]) (I 0)
def B5900:Te LEnd:=.ite (LT v2 (LN v1)) (
 .need e59_2 (
 .ite e59_5 (
 .need e59_9 (
 .ok (.again [e59_7,v1,e59_10]))) (
 .ok (.again [v0,v1,e59_10])))) (
 .ok (.out 1 [v0]))
def d5900:LoopD:=⟨7,⟨5900,3,(J 5 ((.sym (.own 1 [(.sl [.str])]) v0)::((.sym (.sl [.str,(.int .i64)]) v1)::((Si 2)::(J 50 []))))),⟨⟨5,[],[[]],none⟩,[(1,.rows [(.sl [.str])] v0)],[]⟩,
 [(.exit 0,1,(J 5 ((.sym (.own 1 [(.sl [.str])]) v0)::(J 52 []))),⟨⟨5,[],[[]],none⟩,[(1,.rows [(.sl [.str])] v0)],[]⟩)],[(1,[])]⟩,B5900⟩
@[simp] theorem d5900_id:d5900.L.id=5900:=rfl
@[simp] theorem d5900_B:d5900.B=B5900:=rfl
def B5901:Te LEnd:=.need e59_12 (
 .need e59_14 (
 .ite e59_16 (
 .need e59_11 (
 .need e59_19 (
 .ok (.again [v0,v1,v2,(AD v3 (I 1)),e59_17])))) (
 .ok (.out 1 [v0,v1,v3,v4]))))
def d5901:LoopD:=⟨10,⟨5901,5,(J 5 ((.sym (.own 1 [(.sl [.str])]) v0)::((.sym (.sl [.str,(.int .i64)]) v1)::((Si 2)::((Si 3)::((.sym (.own 5 [.str]) v4)::(J 48 []))))))),⟨⟨7,[],[[]],none⟩,[(5,.rows [.str] v4),(1,.rows [(.sl [.str])] v0)],[]⟩,
 [(.exit 2,4,(J 5 ((.sym (.own 1 [(.sl [.str])]) v0)::((.sym (.sl [.str,(.int .i64)]) v1)::(J 1 ((Si 2)::((.sym (.own 5 [.str]) v3)::(J 48 []))))))),⟨⟨7,[],[[]],none⟩,[(5,.rows [.str] v3),(1,.rows [(.sl [.str])] v0)],[]⟩)],[(1,[(0,0),(1,1)])]⟩,B5901⟩
@[simp] theorem d5901_id:d5901.L.id=5901:=rfl
@[simp] theorem d5901_B:d5901.B=B5901:=rfl
def i59:Inst:=⟨59,0,[(.agg [(.sym (.sl [(.sl [.str,.str,(.sl [(.int .i64)])])]) (.v 0)),(S1 1)])],[.one (.sl [(.sl [.str])]),.one (.int .i64)]⟩
def s59:List Cal:=[c60,c109]
@[simp] theorem o59_60:OE s59 60 0 F60:=oG rfl
@[simp] theorem o59_109:OE s59 109 0 F109:=oG rfl
@[simp] def l59:List LoopD:=[d5900,d5901]
def t59:Te AV:=.need e59_20 (
 .need e59_23 (
 .need e59_27 (
 .ok (.tuple [(.sym (.sl [(.sl [.str])]) e59_29),(.sym (.int .i64) e59_30)]))))
def F59:List AV→Option AV:=unitF (omL KK s59 l59) t59
def c59:Cal:=⟨i59,F59⟩
theorem x59:XO i59 F59:=XV s59 l59 t59 g59 ⟨x60,x109,trivial⟩ (by kernel_rfl) (by kernel_rfl) (by kernel_rfl)
abbrev e66_0:=GT (LN v0) (I 0)
abbrev e66_1:=Q e66_0 (LT (I 0) (LN v0)) YY
abbrev e66_2:=Q e66_0 (LE (LN (C 0 v0 (I 0))) v2) (.b false)
def i66:Inst:=⟨66,0,[(.agg [(.sym (.sl [(.sl [.str,.str,(.sl [(.int .i64)])])]) (.v 0)),(S1 1)]),(Si 2)],[.one .bool]⟩
def s66:List Cal:=[]
@[simp] def l66:List LoopD:=[]
def t66:Te AV:=.need e66_1 (
 .ok (.sym .bool e66_2))
def F66:List AV→Option AV:=unitF (omL KK s66 l66) t66
def c66:Cal:=⟨i66,F66⟩
theorem x66:XO i66 F66:=XV s66 l66 t66 g66 trivial (by kernel_rfl) (by kernel_rfl) (by kernel_rfl)
abbrev e13_0:=Q (LE (I 0) v4) (LT v4 (LN v2)) (.b false)
abbrev e13_1:=Q (LE (I 0) v4) (LT v4 (LN v0)) (.b false)
abbrev e13_2:=LO 1301 [v0,v1,v2,v4,(.b false),v3,(LN v0),(I 0),(C 0 v0 v4),(C 1 v0 v4),v5,v6]
abbrev e13_3:=PJ 0 e13_2
abbrev e13_4:=EQ e13_3 (I 1)
abbrev e13_5:=EQ e13_3 (I 2)
abbrev e13_6:=PJ 4 e13_2
abbrev e13_7:=Q e13_6 (AD v2 (I 1)) v2
abbrev e13_8:=Q (LE (I 0) v7) (LT v7 (LN v0)) (.b false)
abbrev e13_9:X:=.p (.okr [.agg [(.sl [(.sl [.str,.str,(.sl [(.int .i64)])])]),(.sl [.str])]]) [(K 28 [v10,v11])]
abbrev e13_10:=FL 0 (K 28 [v10,v11])
abbrev e13_11:=FL 1 (K 28 [v10,v11])
abbrev e13_12:=K 27 [e13_10,e13_11,v8,(C 0 v0 v7)]
abbrev e13_13:X:=.p (.okr [.one (.int .i64),.one (.int .i64),.one (.int .i64)]) [e13_12]
abbrev e13_14:=K 27 [e13_10,e13_11,(C 0 v0 v7),v8]
abbrev e13_15:X:=.p (.okr [.one (.int .i64),.one (.int .i64),.one (.int .i64)]) [e13_14]
abbrev e13_16:=PJ 2 e13_12
abbrev e13_17:=PJ 2 e13_14
abbrev e13_18:=AD e13_16 e13_17
abbrev e13_19:=NE e13_18 (I 0)
abbrev e13_20:=PJ 0 e13_12
abbrev e13_21:=PJ 0 e13_14
abbrev e13_22:=NE e13_20 e13_21
abbrev e13_23:=PJ 1 e13_12
abbrev e13_24:=PJ 1 e13_14
abbrev e13_25:X:=.p (.neg .i64) [e13_24]
abbrev e13_26:=NE e13_23 e13_25
abbrev e13_27:=LT e13_23 (I 0)
abbrev e13_28:=BE e13_27 (LT v9 (C 1 v0 v7))
abbrev e13_29:=NO e13_28
abbrev e13_30:=EQ e13_23 (I 0)
abbrev e13_31:=BE e13_30 (EQ v9 (C 1 v0 v7))
abbrev e13_32:=NO e13_31
abbrev e13_33:=EQ e13_20 (I (-1))
abbrev e13_34:=BE e13_30 e13_33
abbrev e13_35:=NO e13_34
abbrev e13_36:=GT e13_20 (LN v10)
abbrev e13_37:=Q e13_35 YY e13_36
abbrev e13_38:=Q e13_32 YY e13_37
abbrev e13_39:=Q e13_29 YY e13_38
abbrev e13_40:=Q e13_26 YY e13_39
abbrev e13_41:=Q e13_22 YY e13_40
abbrev e13_42:=Q e13_19 YY e13_41
abbrev e13_43:=Q v4 YY e13_30
abbrev e13_44:=LO 1302 [v0,v1,v2,v3,e13_43,v5,v6,v7,(LN v10),(I 0),(C 0 v0 v7),(C 1 v0 v7),v8,v9,v10,v11]
abbrev e13_45:=PJ 0 e13_44
abbrev e13_46:=EQ e13_45 (I 1)
abbrev e13_47:=EQ e13_45 (I 2)
abbrev e13_48:=Q (LE (I 0) v9) (LT v9 (LN v14)) (.b false)
abbrev e13_49:=K 30 [(C 0 v14 v9),v12]
abbrev e13_50:=OI e13_49
abbrev e13_51:=GE e13_49 (I 0)
abbrev e13_52:=K 30 [(C 0 v14 v9),v10]
abbrev e13_53:=OI e13_52
abbrev e13_54:=Q e13_51 e13_53 YY
abbrev e13_55:=LT e13_52 (I 0)
abbrev e13_56:=Q e13_55 (GE v13 v11) (.b false)
abbrev e13_57:=Q e13_51 e13_56 (.b false)
abbrev e13_58:=K 26 [v0,v1,(I 7)]
abbrev e13_59:=OB e13_58
abbrev e13_60:=NO e13_58
abbrev e13_61:=OI (K 29 [v0,v1])
abbrev e13_62:=Q e13_60 YY e13_61
abbrev e13_63:=NE (K 29 [v0,v1]) (I 0)
abbrev e13_64:=K 66 [v0,v1,(I 7)]
abbrev e13_65:=OB e13_64
abbrev e13_66:=Q e13_63 YY e13_65
abbrev e13_67:=Q e13_60 YY e13_66
abbrev e13_68:=NO e13_64
abbrev e13_69:=Q e13_63 YY e13_68
abbrev e13_70:=Q e13_60 YY e13_69
abbrev e13_71:=OB (K 16 [])
abbrev e13_72:=Q e13_70 e13_71 YY
abbrev e13_73:X:=.p (.okr [.agg [(.sl [(.sl [.str,.str,(.sl [(.int .i64)])])]),(.sl [.str])]]) [(K 28 [v0,v1])]
abbrev e13_74:=Q e13_70 YY e13_73
abbrev e13_75:=FL 0 (K 28 [v0,v1])
abbrev e13_76:=FL 1 (K 28 [v0,v1])
abbrev e13_77:=K 58 [e13_75,e13_76]
abbrev e13_78:X:=.p (.okr [.one (.sl [.str,(.int .i64)]),.one (.int .i64)]) [e13_77]
abbrev e13_79:=Q e13_70 YY e13_78
abbrev e13_80:=K 59 [e13_75,e13_76]
abbrev e13_81:X:=.p (.okr [.one (.sl [(.sl [.str])]),.one (.int .i64)]) [e13_80]
abbrev e13_82:=Q e13_70 YY e13_81
abbrev e13_83:=PJ 1 e13_77
abbrev e13_84:=PJ 1 e13_80
abbrev e13_85:=AD e13_83 e13_84
abbrev e13_86:=NE e13_85 (I 0)
abbrev e13_87:=Q e13_86 YY (LT (I 0) (LN v0))
abbrev e13_88:=Q e13_70 YY e13_87
abbrev e13_89:=PJ 0 e13_77
abbrev e13_90:=LN e13_89
abbrev e13_91:=NE e13_90 (LN (C 0 v0 (I 0)))
abbrev e13_92:=Q e13_86 YY e13_91
abbrev e13_93:=PJ 0 e13_80
abbrev e13_94:=LO 1300 [e13_89,e13_93,(I 0),e13_90,(I 0),v0,v1]
abbrev e13_95:=PJ 0 e13_94
abbrev e13_96:=EQ e13_95 (I 1)
abbrev e13_97:=EQ e13_95 (I 2)
abbrev e13_98:=Q e13_96 YY e13_97
abbrev e13_99:=Q e13_92 YY e13_98
abbrev e13_100:=Q e13_70 YY e13_99
abbrev e13_101:=PJ 2 e13_94
abbrev e13_102:=LN e13_93
abbrev e13_103:=LO 1303 [e13_101,(I 0),e13_93,e13_102,(I 0)]
abbrev e13_104:=PJ 0 e13_103
abbrev e13_105:=EQ e13_104 (I 1)
abbrev e13_106:=EQ e13_104 (I 2)
abbrev e13_107:=Q e13_105 YY e13_106
abbrev e13_108:=Q e13_96 YY e13_107
abbrev e13_109:=Q e13_92 YY e13_108
abbrev e13_110:=Q e13_70 YY e13_109
abbrev e13_111:=PJ 2 e13_103
abbrev e13_112:=EQ e13_111 e13_101
abbrev e13_113:=Q e13_112 e13_71 YY
abbrev e13_114:=Q e13_105 YY e13_113
abbrev e13_115:=Q e13_96 YY e13_114
abbrev e13_116:=Q e13_92 YY e13_115
abbrev e13_117:=Q e13_70 YY e13_116
abbrev e13_118:=Q e13_112 (K 16 []) (.b false)
abbrev e13_119:=Q e13_105 (.b false) e13_118
abbrev e13_120:=Q e13_96 (.b false) e13_119
abbrev e13_121:=Q e13_92 (.b false) e13_120
abbrev e13_122:=Q e13_70 (K 16 []) e13_121
def B1303:Te LEnd:=.ite (LT v4 v3) (
 .need e13_0 (
 .ite (LT (LN (C 0 v2 v4)) (I 2)) (
 .ok (.out 1 [])) (
 .ok (.again [v0,(AD v1 (LN (C 0 v2 v4))),v2,v3,(AD v4 (I 1))])))) (
 .ok (.out 2 [v0,v1]))
def d1303:LoopD:=⟨33,⟨1303,5,(J 7 ((Si 0)::(J 12 ((Si 1)::(J 174 ((.sym (.sl [(.sl [.str])]) v2)::((Si 3)::((Si 4)::(J 17 []))))))))),⟨⟨4,[],[[]],none⟩,[],[]⟩,
 [(.ret,0,(J 2 ((.bool false)::(J 212 []))),⟨⟨4,[],[[]],none⟩,[],[]⟩),
  (.exit 6,2,(J 7 ((Si 0)::(J 12 ((Si 1)::(J 194 []))))),⟨⟨4,[],[[]],none⟩,[],[]⟩)],[(1,[]),(2,[(0,0)])]⟩,B1303⟩
@[simp] theorem d1303_id:d1303.L.id=1303:=rfl
@[simp] theorem d1303_B:d1303.B=B1303:=rfl
def B1300:Te LEnd:=.ite (LT v4 v3) (
 .need e13_1 (
 .ite e13_4 (
 .ok (.out 1 [])) (
 .need e13_5 (
 .ok (.again [v0,v1,e13_7,v3,(AD v4 (I 1)),v5,v6]))))) (
 .ok (.out 2 [v1,v2]))
def d1300:LoopD:=⟨9,⟨1300,7,(J 1 ((.ptr 0 0 0)::(J 1 ((.sym (.sl [.str,(.int .i64)]) v0)::(J 1 ((.sym (.sl [(.sl [.str])]) v1)::(J 1 ((Si 2)::(J 55 ((.sym (.sl [.str,(.int .i64)]) v0)::((Si 3)::((Si 4)::(J 149 []))))))))))))),⟨⟨4,[(0,.cells 2 [[(.sym (.sl [(.sl [.str,.str,(.sl [(.int .i64)])])]) v5),(S1 6)]])],[[]],none⟩,[],[]⟩,
 [(.ret,0,(J 2 ((.bool false)::(J 212 []))),⟨⟨7,[],[[]],none⟩,[],[]⟩),
  (.exit 0,2,(J 5 ((.sym (.sl [(.sl [.str])]) v0)::(J 1 ((Si 1)::(J 207 []))))),⟨⟨4,[],[[]],none⟩,[],[]⟩)],[(1,[]),(2,[(0,1)])]⟩,B1300⟩
@[simp] theorem d1300_id:d1300.L.id=1300:=rfl
@[simp] theorem d1300_B:d1300.B=B1300:=rfl
def B1301:Te LEnd:=.ite (LT v7 v6) (
 .need e13_8 (
 .ite (EQ v3 v7) (
 .ok (.again [v0,v1,v2,v3,v4,v5,v6,(AD v7 (I 1)),v8,v9,v10,v11])) (
 .need e13_9 (
 .need e13_13 (
 .need e13_15 (
 .ite e13_42 (
 .ok (.out 1 [])) (
 .ite e13_46 (
 .ok (.out 1 [])) (
 .need e13_47 (
 .ok (.again [v0,v1,v2,v3,e13_43,v5,v6,(AD v7 (I 1)),v8,v9,v10,v11])))))))))) (
 .ok (.out 2 [v0,v1,v2,v4,v5,v3,v10,v11]))
def d1301:LoopD:=⟨13,⟨1301,12,(J 1 ((.ptr 0 0 0)::(J 1 ((.sym (.sl [.str,(.int .i64)]) v0)::(J 1 ((.sym (.sl [(.sl [.str])]) v1)::(J 1 ((Si 2)::((Si 3)::((.ptr 4 0 0)::((Sb 4)::(J 52 ((.sym (.sl [.str,(.int .i64)]) v0)::((Si 5)::((Si 3)::(J 4 ((.sym (.sl [.str,(.int .i64)]) v0)::((Si 6)::((Si 7)::(J 142 [])))))))))))))))))))),⟨⟨6,[(4,.cells 2 [[(Ss 8),(Si 9)]]),(0,.cells 2 [[(.sym (.sl [(.sl [.str,.str,(.sl [(.int .i64)])])]) v10),(S1 11)]])],[[]],none⟩,[],[]⟩,
 [(.ret,0,(J 2 ((.bool false)::(J 212 []))),⟨⟨7,[],[[]],none⟩,[],[]⟩),
  (.exit 2,8,(J 1 ((.ptr 0 0 0)::(J 1 ((.sym (.sl [.str,(.int .i64)]) v0)::(J 1 ((.sym (.sl [(.sl [.str])]) v1)::(J 1 ((Si 2)::(J 2 ((Sb 3)::(J 52 ((.sym (.sl [.str,(.int .i64)]) v0)::((Si 4)::((Si 5)::(J 149 []))))))))))))))),⟨⟨6,[(0,.cells 2 [[(.sym (.sl [(.sl [.str,.str,(.sl [(.int .i64)])])]) v6),(S1 7)]])],[[]],none⟩,[],[]⟩)],[(1,[]),(2,[(0,0),(1,1),(2,2),(4,5),(5,3),(6,10),(7,11)])]⟩,B1301⟩
@[simp] theorem d1301_id:d1301.L.id=1301:=rfl
@[simp] theorem d1301_B:d1301.B=B1301:=rfl
def B1302:Te LEnd:=.ite (LT v9 v8) (
 .need e13_48 (
 .need e13_50 (
 .need e13_54 (
 .ite e13_57 (
 .ok (.out 1 [])) (
 .ok (.again [v0,v1,v2,v3,v4,v5,v6,v7,v8,(AD v9 (I 1)),v10,v11,v12,v13,v14,v15])))))) (
 .ok (.out 2 [v0,v1,v2,v3,v4,v5,v6,v7,v12,v13,v14,v15]))
def d1302:LoopD:=⟨22,⟨1302,16,(J 1 ((.ptr 0 0 0)::(J 1 ((.sym (.sl [.str,(.int .i64)]) v0)::(J 1 ((.sym (.sl [(.sl [.str])]) v1)::(J 1 ((Si 2)::((Si 3)::((.ptr 4 0 0)::((Sb 4)::(J 1 ((.ptr 6 0 0)::(J 50 ((.sym (.sl [.str,(.int .i64)]) v0)::((Si 5)::((Si 3)::(J 4 ((.sym (.sl [.str,(.int .i64)]) v0)::((Si 6)::((Si 7)::(J 85 ((Si 8)::((Si 9)::(J 55 []))))))))))))))))))))))))),⟨⟨7,[(6,.cells 2 [[(Ss 10),(Si 11)]]),(4,.cells 2 [[(Ss 12),(Si 13)]]),(0,.cells 2 [[(.sym (.sl [(.sl [.str,.str,(.sl [(.int .i64)])])]) v14),(S1 15)]])],[[]],none⟩,[],[]⟩,
 [(.ret,0,(J 2 ((.bool false)::(J 212 []))),⟨⟨7,[],[[]],none⟩,[],[]⟩),
  (.exit 4,12,(J 1 ((.ptr 0 0 0)::(J 1 ((.sym (.sl [.str,(.int .i64)]) v0)::(J 1 ((.sym (.sl [(.sl [.str])]) v1)::(J 1 ((Si 2)::((Si 3)::((.ptr 4 0 0)::((Sb 4)::(J 52 ((.sym (.sl [.str,(.int .i64)]) v0)::((Si 5)::((Si 3)::(J 4 ((.sym (.sl [.str,(.int .i64)]) v0)::((Si 6)::((Si 7)::(J 142 [])))))))))))))))))))),⟨⟨7,[(4,.cells 2 [[(Ss 8),(Si 9)]]),(0,.cells 2 [[(.sym (.sl [(.sl [.str,.str,(.sl [(.int .i64)])])]) v10),(S1 11)]])],[[]],none⟩,[],[]⟩)],[(1,[]),(2,[(0,0),(1,1),(2,2),(3,3),(4,4),(5,5),(6,6),(7,7),(8,12),(9,13),(10,14),(11,15)])]⟩,B1302⟩
@[simp] theorem d1302_id:d1302.L.id=1302:=rfl
@[simp] theorem d1302_B:d1302.B=B1302:=rfl
def i13:Inst:=⟨13,0,[(.agg [(.sym (.sl [(.sl [.str,.str,(.sl [(.int .i64)])])]) (.v 0)),(.sym (.sl [.str]) (.v 1))])],[.one .bool]⟩
def s13:List Cal:=[c26,c29,c66,c16,c28,c58,c59,c30,c27]
@[simp] theorem o13_26:OE s13 26 0 F26:=oG rfl
@[simp] theorem o13_29:OE s13 29 0 F29:=oG rfl
@[simp] theorem o13_66:OE s13 66 0 F66:=oG rfl
@[simp] theorem o13_16:OE s13 16 0 F16:=oG rfl
@[simp] theorem o13_28:OE s13 28 0 F28:=oG rfl
@[simp] theorem o13_58:OE s13 58 0 F58:=oG rfl
@[simp] theorem o13_59:OE s13 59 0 F59:=oG rfl
@[simp] theorem o13_30:OE s13 30 0 F30:=oG rfl
@[simp] theorem o13_27:OE s13 27 0 F27:=oG rfl
@[simp] def l13:List LoopD:=[d1303,d1300,d1301,d1302]
def t13:Te AV:=.need e13_59 (
 .need e13_62 (
 .need e13_67 (
 .need e13_72 (
 .need e13_74 (
 .need e13_79 (
 .need e13_82 (
 .need e13_88 (
 .need e13_100 (
 .need e13_110 (
 .need e13_117 (
 .ok (.sym .bool e13_122))))))))))))
def F13:List AV→Option AV:=unitF (omL KK s13 l13) t13
def c13:Cal:=⟨i13,F13⟩
theorem x13:XO i13 F13:=XUL (cs:=s13) (ds:=l13) (t:=t13) ⟨x26,x29,x66,x16,x28,x58,x59,x30,x27,trivial⟩ (x:=g13) (by kernel_rfl) (by kernel_rfl) (by kernel_rfl)
end Go.Proofs.YtdjngcfnlfgjkaaGreatDoor.C5
