/-
  The symbolic machine: expressions, trees, the run.
-/
import Derived.Test.YtdjngcfnlfgjkaaGreatDoorAm1
set_option linter.unusedVariables false
set_option linter.unusedSimpArgs false
set_option linter.unusedSectionVars false
namespace Go.Proofs.YtdjngcfnlfgjkaaGreatDoor.AM
def AV.nI:AV→Int | .int _ n=>n | _=>0
def AV.bB:AV→Bool | .bool b=>b | _=>false
def AV.sS:AV→ByteArray | .str s=>s | _=>ByteArray.empty
def AV.rowsL:AV→List (List AV) | .sl _ r=>r | _=>[]
def AV.entsL:AV→List (AV × AV) | .im es=>es | _=>[]
def AV.lenN:AV→Nat | .str s=>s.size | .sl _ r=>r.length | _=>0
def AV.nilB:AV→Bool | .nils=>true | _=>false
def AV.tupL:AV→List AV | .tuple vs=>vs | _=>[]
def AV.aggL:AV→List AV | .agg vs=>vs | _=>[]
def getJ (o:Option AV):AV:=match o with | some a=>a | none=>.junk
def getL {α:Type} (o:Option (List α)):List α:=match o with | some a=>a | none=>[]
mutual
def Sh.ok:Sh→AV→Bool
 | .bool,a=>(match a with | .bool _=>true | _=>false)
 | .int k,a=>(match a with | .int k' _=>decide (k=k') | _=>false)
 | .str,a=>(match a with | .str _=>true | _=>false)
 | .sl cs,a=>(match a with | .nils=>true | .sl k rows=>k == cs.length&&rows.all (Sh.oks cs) | _=>false)
 | .im key ag cs,a=>(match a with
   | .im es=>es.all fun e=>key.ok e.1&&(if ag then (match e.2 with | .agg vs=>Sh.oks cs vs | _=>false) else Sh.oks cs [e.2])
   | _=>false)
 | .own _ _,_=>false
 | .optr _ _ _,_=>false
 | .mown _ _ _ _,_=>false
 | .sown _,_=>false
def Sh.oks:List Sh→List AV→Bool
 | [],l=>(match l with | []=>true | _=>false)
 | s::ss,l=>(match l with | a::as=>s.ok a&&Sh.oks ss as | []=>false)
end
def RS.ok:RS→AV→Bool
 | .one s,a=>s.ok a
 | .agg cs,a=>match a with | .agg vs=>Sh.oks cs vs | _=>false
def RS.oks:List RS→List AV→Bool
 | [],[]=>true
 | r::rs,a::as=>r.ok a&&RS.oks rs as
 | _,_=>false
def RS.okr:List RS→AV→Bool
 | [r],a=>r.ok a
 | rs,a=>match a with | .tuple vs=>RS.oks rs vs | _=>false
abbrev Om:=Nat→Nat→List AV→AV
def Pr.sem (Ω:Om):Pr→List AV→AV
 | .bin op k,[a,b]=>getJ (intOpA op k a.nI b.nI)
 | .sbin op,[a,b]=>getJ (strOpA op a.sS b.sS)
 | .catOk,[a,b]=>.bool (decide (a.sS.size+b.sS.size≤1099511627776))
 | .neg k,[a]=>.int k (k.wrap (0 - a.nI))
 | .not,[a]=>.bool (!a.bB)
 | .beq,[a,b]=>.bool (a.bB == b.bB)
 | .conv k,[a]=>.int k (k.wrap a.nI)
 | .ite,[c,a,b]=>match c.bB with | true=>a | false=>b
 | .len,[a]=>.int .i64 a.lenN
 | .cell o,[a,i]=>getJ (nth (getL (nth a.rowsL i.nI.toNat)) o)
 | .byte,[a,i]=>.int .u8 (match a.sS[i.nI.toNat]? with | some b=>b.toNat | none=>0)
 | .slice,[a,lo,hi]=>(match a with | .sl k rows=>.sl k ((rows.drop lo.nI.toNat).take (hi.nI.toNat - lo.nI.toNat)) | a=>a)
 | .sslice,[a,lo,hi]=>.str (a.sS.extract lo.nI.toNat hi.nI.toNat)
 | .app k,[a,b]=>(match b.rowsL with | []=>a | r::rs=>.sl k (a.rowsL++(r::rs)))
 | .rep k,n::zs=>.sl k (List.replicate n.nI.toNat zs)
 | .isNil,[a]=>.bool a.nilB
 | .proj i,[a]=>getJ (nth a.tupL i)
 | .fld i,[a]=>getJ (nth a.aggL i)
 | .call f n,xs=>Ω f n xs
 | .okr rs,[a]=>.bool (RS.okr rs a)
 | .setc o,a::i::vs=>(match a with | .sl k rows=>.sl k (put rows i.nI.toNat (setCells (getL (nth rows i.nI.toNat)) o vs)) | a=>a)
 | .whole,[a,c]=>(match a,c with | .sl _ rows,.sl k rows'=>if rows.length=rows'.length then .sl k rows' else a | a,_=>a)
 | .mget _,[m,k,z]=>(match findA k m.entsL with | some (some v)=>v | _=>z)
 | .keq,[a,b]=>.bool (match keyEq a b with | some c=>c | none=>false)
 | .mhas,[m,k]=>.bool (match findA k m.entsL with | some (some _)=>true | _=>false)
 | .mput,[m,k,v]=>(match updA k v m.entsL with | some es=>.im es | none=>.junk)
 | .mlen,[m]=>.int .i64 m.entsL.length
 | .mnew,[]=>.im []
 | .rune,[s,p]=>.int .i32 (Utf8.decode s.sS p.nI.toNat).1
 | .adv,[s,p]=>.int .i64 (p.nI+(Utf8.decode s.sS p.nI.toNat).2)
 | _,_=>.junk
mutual
def X.den (Ω:Om) (ρ:List AV):X→AV
 | .v n=>getJ (nth ρ n)
 | .b c=>.bool c
 | .i k n=>.int k n
 | .s c=>.str c
 | .nils=>.nils
 | .sl k rows=>.sl k (X.denss Ω ρ rows)
 | .agg xs=>.agg (X.dens Ω ρ xs)
 | .p o xs=>o.sem Ω (X.dens Ω ρ xs)
def X.dens (Ω:Om) (ρ:List AV):List X→List AV
 | []=>[]
 | x::xs=>x.den Ω ρ::X.dens Ω ρ xs
def X.denss (Ω:Om) (ρ:List AV):List (List X)→List (List AV)
 | []=>[]
 | x::xs=>X.dens Ω ρ x::X.denss Ω ρ xs
end
def symD (V:X→AV) (σ:Nat→Nat) (s:Sh) (e:X):AV :=
 match s with
 | .own t _=>(match V e with | .sl _ rows=>.ms (σ t) 0 rows.length | _=>.nils)
 | .optr t o _=>.ptr (σ t) (V e).nI.toNat o
 | .mown t _ _ _=>.mp (σ t)
 | .sown t=>.it (σ t)
 | _=>V e
mutual
def AV.den (V:X→AV) (σ:Nat→Nat):AV→AV
 | .agg cs=>.agg (AV.dens V σ cs)
 | .tuple vs=>.tuple (AV.dens V σ vs)
 | .ptr b i o=>.ptr (σ b) i o
 | .ref cs=>.ref (AV.dens V σ cs)
 | .it b=>.it (σ b)
 | .sl k rows=>.sl k (AV.denss V σ rows)
 | .ms b o l=>.ms (σ b) o l
 | .mp b=>.mp (σ b)
 | .im es=>.im (AV.denes V σ es)
 | .func fn a b=>.func fn (AV.dens V σ a) (AV.dens V σ b)
 | .yld l=>.yld (σ l)
 | .iface t v=>.iface t (AV.den V σ v)
 | .sym s e=>symD V σ s e
 | .junk=>.junk
 | .bool b=>.bool b
 | .int k n=>.int k n
 | .str s=>.str s
 | .nilp=>.nilp
 | .nils=>.nils
 | .nilm=>.nilm
 | .nilf=>.nilf
 | .nili=>.nili
def AV.dens (V:X→AV) (σ:Nat→Nat):List AV→List AV
 | []=>[]
 | a::as=>AV.den V σ a::AV.dens V σ as
def AV.denss (V:X→AV) (σ:Nat→Nat):List (List AV)→List (List AV)
 | []=>[]
 | a::as=>AV.dens V σ a::AV.denss V σ as
def AV.denes (V:X→AV) (σ:Nat→Nat):List (AV × AV)→List (AV × AV)
 | []=>[]
 | (a,b)::es=>(AV.den V σ a,AV.den V σ b)::AV.denes V σ es
end
mutual
def Sh.eqb:Sh→Sh→Bool
 | .bool,.bool=>true
 | .int a,.int b=>decide (a=b)
 | .str,.str=>true
 | .sl a,.sl b=>Sh.eqbs a b
 | .im a i c,.im b j d=>Sh.eqb a b&&(i == j)&&Sh.eqbs c d
 | .own a c,.own b d=>(a == b)&&Sh.eqbs c d
 | .optr a i c,.optr b j d=>(a == b)&&(i == j)&&Sh.eqbs c d
 | .mown a i k c,.mown b j l d=>(a == b)&&Sh.eqb i j&&(k == l)&&Sh.eqbs c d
 | .sown a,.sown b=>a == b
 | _,_=>false
def Sh.eqbs:List Sh→List Sh→Bool
 | [],[]=>true
 | a::as,b::bs=>Sh.eqb a b&&Sh.eqbs as bs
 | _,_=>false
end
def RS.eqb:RS→RS→Bool
 | .one a,.one b=>Sh.eqb a b
 | .agg a,.agg b=>Sh.eqbs a b
 | _,_=>false
def RS.eqbs:List RS→List RS→Bool
 | [],[]=>true
 | a::as,b::bs=>RS.eqb a b&&RS.eqbs as bs
 | _,_=>false
def Pr.eqb:Pr→Pr→Bool
 | .okr a,.okr b=>RS.eqbs a b
 | .bin a j,.bin b k=>decide (a=b)&&decide (j=k)
 | .sbin a,.sbin b=>decide (a=b)
 | .catOk,.catOk=>true
 | .neg a,.neg b=>decide (a=b)
 | .not,.not=>true
 | .beq,.beq=>true
 | .conv a,.conv b=>decide (a=b)
 | .ite,.ite=>true
 | .len,.len=>true
 | .cell a,.cell b=>a == b
 | .byte,.byte=>true
 | .slice,.slice=>true
 | .sslice,.sslice=>true
 | .app a,.app b=>a == b
 | .rep a,.rep b=>a == b
 | .isNil,.isNil=>true
 | .proj a,.proj b=>a == b
 | .fld a,.fld b=>a == b
 | .call a i,.call b j=>(a == b)&&(i == j)
 | .setc a,.setc b=>a == b
 | .whole,.whole=>true
 | .mget a,.mget b=>a == b
 | .mhas,.mhas=>true
 | .keq,.keq=>true
 | .mput,.mput=>true
 | .mlen,.mlen=>true
 | .mnew,.mnew=>true
 | .rune,.rune=>true
 | .adv,.adv=>true
 | _,_=>false
mutual
def X.eqb:X→X→Bool
 | .v m,.v n=>m == n
 | .b m,.b n=>m == n
 | .i j m,.i k n=>decide (j=k)&&decide (m=n)
 | .s m,.s n=>decide (m=n)
 | .nils,.nils=>true
 | .sl m x,.sl n y=>(m == n)&&X.eqbss x y
 | .agg x,.agg y=>X.eqbs x y
 | .p m x,.p n y=>Pr.eqb m n&&X.eqbs x y
 | _,_=>false
def X.eqbs:List X→List X→Bool
 | [],[]=>true
 | m::ms,n::ns=>X.eqb m n&&X.eqbs ms ns
 | _,_=>false
def X.eqbss:List (List X)→List (List X)→Bool
 | [],[]=>true
 | m::ms,n::ns=>X.eqbs m n&&X.eqbss ms ns
 | _,_=>false
end
mutual
def AV.eqb:AV→AV→Bool
 | .junk,.junk=>true
 | .bool a,.bool b=>a == b
 | .int j a,.int k b=>decide (j=k)&&decide (a=b)
 | .str a,.str b=>decide (a=b)
 | .agg a,.agg b=>AV.eqbs a b
 | .tuple a,.tuple b=>AV.eqbs a b
 | .nilp,.nilp=>true
 | .ptr a i o,.ptr b j p=>(a == b)&&(i == j)&&(o == p)
 | .ref a,.ref b=>AV.eqbs a b
 | .it a,.it b=>a == b
 | .nils,.nils=>true
 | .sl j a,.sl k b=>(j == k)&&AV.eqbss a b
 | .ms a i o,.ms b j p=>(a == b)&&(i == j)&&(o == p)
 | .nilm,.nilm=>true
 | .mp a,.mp b=>a == b
 | .im a,.im b=>AV.eqbes a b
 | .func f a b,.func g c d=>decide (f=g)&&AV.eqbs a c&&AV.eqbs b d
 | .nilf,.nilf=>true
 | .nili,.nili=>true
 | .sym s e,.sym t f=>Sh.eqb s t&&X.eqb e f
 | _,_=>false
def AV.eqbs:List AV→List AV→Bool
 | [],[]=>true
 | a::as,b::bs=>AV.eqb a b&&AV.eqbs as bs
 | _,_=>false
def AV.eqbss:List (List AV)→List (List AV)→Bool
 | [],[]=>true
 | a::as,b::bs=>AV.eqbs a b&&AV.eqbss as bs
 | _,_=>false
def AV.eqbes:List (AV × AV)→List (AV × AV)→Bool
 | [],[]=>true
 | (a,c)::as,(b,d)::bs=>AV.eqb a b&&AV.eqb c d&&AV.eqbes as bs
 | _,_=>false
end
def mapO {α β:Type} (f:α→Option β):List α→Option (List β)
 | []=>some []
 | a::as=>match f a,mapO f as with
   | some b,some bs=>some (b::bs)
   | _,_=>none
def Sh.data:Sh→Bool
 | .own .. | .optr .. | .mown .. | .sown ..=>false
 | _=>true
mutual
def asXc:Sh→AV→Option X
 | .bool,a=>(match a with | .bool b=>some (.b b) | _=>none)
 | .int k,a=>(match a with | .int k' n=>if k=k' then some (.i k n) else none | _=>none)
 | .str,a=>(match a with | .str s=>some (.s s) | _=>none)
 | .sl cs,a=>(match a with
   | .nils=>some .nils
   | .sl k rows=>if k=cs.length then (match mapO (asXs cs) rows with | some r=>some (.sl k r) | none=>none) else none
   | _=>none)
 | _,_=>none
def asXs:List Sh→List AV→Option (List X)
 | [],l=>(match l with | []=>some [] | _=>none)
 | s::ss,l=>(match l with
   | a::as=>match (match a with
     | .sym s' e=>if s.eqb s'&&s.data then some e else none
     | a=>asXc s a),asXs ss as with
     | some x,some xs=>some (x::xs)
     | _,_=>none
   | []=>none)
end
def asX (s:Sh) (a:AV):Option X :=
 match a with
 | .sym s' e=>if s.eqb s'&&s.data then some e else none
 | a=>asXc s a
def asI:AV→Option (IntKind × X)
 | .int k n=>some (k,.i k n)
 | .sym (.int k) e=>some (k,e)
 | _=>none
def asB:AV→Option X
 | .bool b=>some (.b b)
 | .sym .bool e=>some e
 | _=>none
def asS:AV→Option X
 | .str s=>some (.s s)
 | .sym .str e=>some e
 | _=>none
inductive Te (α:Type):Type where
 | ok (a:α)
 | fail (w:Nat)
 | need (p:X) (t:Te α)
 | ite (c:X) (a b:Te α)
 deriving Inhabited
def Te.bind {α β:Type}:Te α→(α→Te β)→Te β
 | .ok a,f=>f a
 | .fail w,_=>.fail w
 | .need p t,f=>.need p (t.bind f)
 | .ite c a b,f=>.ite c (a.bind f) (b.bind f)
def Te.ofO {α:Type} (w:Nat):Option α→Te α
 | some a=>.ok a
 | none=>.fail w
def Te.sel {α:Type} (V:X→AV):Te α→Option α
 | .ok a=>some a
 | .fail _=>none
 | .need p t=>match (V p).bB with | true=>t.sel V | false=>none
 | .ite c a b=>match (V c).bB with | true=>a.sel V | false=>b.sel V
inductive SB:Type where
 | rows (cs:List Sh) (e:X)
 | mp (key:Sh) (ag:Bool) (cs:List Sh) (e:X)
 | si (s pos:X)
 deriving Inhabited
structure SSt where
 hp:Hp
 sb:List (Nat × SB)
 fx:List (X × Bool)
def lookS:List (Nat × SB)→Nat→Option SB
 | [],_=>none
 | (c,x)::l,b=>if b=c then some x else lookS l b
def updS:List (Nat × SB)→Nat→SB→List (Nat × SB)
 | [],_,_=>[]
 | (c,x)::l,b,y=>if b=c then (c,y)::l else (c,x)::updS l b y
def dropS:List (Nat × SB)→Nat→List (Nat × SB)
 | [],_=>[]
 | (c,x)::l,b=>if b=c then dropS l b else (c,x)::dropS l b
def factOf:List (X × Bool)→X→Option Bool
 | [],_=>none
 | (y,b)::l,x=>if y.eqb x then some b else factOf l x
def SSt.fact (st:SSt) (x:X) (b:Bool):SSt:={ st with fx:=(x,b)::st.fx }
def needT {α:Type} (p:X) (st:SSt) (k:SSt→Te α):Te α :=
 match p with
 | .b true=>k st
 | p=>match factOf st.fx p with
   | some true=>k st
   | _=>.need p (k (st.fact p true))
def SSt.make (st:SSt) (b:SB):SSt:={ st with hp:=st.hp.push .dead,sb:=(st.hp.nx,b)::st.sb }
def evS (M:Nat) (fr:List AV) (loc:List (Nat × AV)):Ev:=fun o =>
 match evalA M fr loc o with
 | some .junk=>none
 | r=>r
def xI (n:Int):X:=.i .i64 n
def xLen (e:X):X:=.p .len [e]
def xIte (c a b:X):X :=
 if a.eqb b then a else .p .ite [c,a,b]
def xAnd (a b:X):X :=
 match a with
 | .b true=>b
 | .b false=>.b false
 | a=>match b with | .b true=>a | b=>.p .ite [a,b,.b false]
def xLeK (k:IntKind) (a b:X):X :=
 match a,b with
 | .i _ m,.i _ n=>.b (decide (m≤n))
 | a,b=>if a.eqb b then .b true else .p (.bin .leq k) [a,b]
def xLe (a b:X):X:=xLeK .i64 a b
def xIn (k:IntKind) (i n:X):X:=xAnd (xLeK k (.i k 0) i) (.p (.bin .lss k) [i,n])
mutual
def shT (T:Tab):Nat→TypeId→Option Sh
 | 0,_=>none
 | d+1,t=>match T.underlying t with
   | some .bool=>some .bool
   | some (.int k)=>some (.int k)
   | some .string=>some .str
   | some (.slice e)=>(shsT T d e).map .sl
   | some (.map k e)=>(match shT T d k,shsT T d e,aggT T e with | some s,some cs,some ag=>some (.im s ag cs) | _,_,_=>none)
   | _=>none
def shsT (T:Tab):Nat→TypeId→Option (List Sh)
 | 0,_=>none
 | d+1,t=>match T.underlying t with
   | some (.struct fs)=>(mapO (fun (f:Field)=>shsT T d f.type) fs.toList).map List.flatten
   | some (.array n e)=>(shsT T d e).map fun l=>(List.replicate n l).flatten
   | some .bool=>some [.bool]
   | some (.int k)=>some [.int k]
   | some .string=>some [.str]
   | some (.slice e)=>(shsT T d e).map fun l=>[.sl l]
   | _=>none
end
def rsT (T:Tab) (t:TypeId):Option RS :=
 match aggT T t with
 | some true=>(shsT T 20 t).map .agg
 | some false=>(shT T 20 t).map .one
 | none=>none
def cellsX (e i:X):Nat→List Sh→List AV
 | _,[]=>[]
 | o,c::cs=>.sym c (.p (.cell o) [e,i])::cellsX e i (o+1) cs
def fldsX (e:X):Nat→List Sh→List AV
 | _,[]=>[]
 | o,c::cs=>.sym c (.p (.fld o) [e])::fldsX e (o+1) cs
def resV (e:X):RS→AV
 | .one s=>.sym s e
 | .agg cs=>.agg (fldsX e 0 cs)
def resVs (e:X):Nat→List RS→List AV
 | _,[]=>[]
 | i,r::rs=>resV (.p (.proj i) [e]) r::resVs e (i+1) rs
def resT (e:X):List RS→AV
 | [r]=>resV e r
 | rs=>.tuple (resVs e 0 rs)
def Sh.flat:Sh→Bool
 | .bool | .int _ | .str=>true
 | _=>false
def RS.flat:RS→Bool
 | .one s=>s.flat
 | .agg cs=>cs.all (·.flat)
structure Inst where
 f:FuncId
 n:Nat
 pats:List AV
 rs:List RS
inductive Src where
 | own (t:Nat)
 | nils
 | exp (b:Nat)
 deriving DecidableEq,Inhabited
structure Asg where
 xs:List (Nat × X)
 ts:List (Nat × Src)
structure LSpec where
 id:Nat
 nv:Nat
 fr:List AV
 st:SSt
 outs:List (Ex × Nat × List AV × SSt)
 fix:List (Nat × List (Nat × Nat))
inductive LK where
 | unroll
 | probe
 | spec (L:LSpec)
structure Cx where
 T:Tab
 insts:FuncId→List Inst
 loops:Nat→LK
 keep:FuncId→Bool
mutual
def AV.cl:AV→Bool
 | .agg cs=>AV.cls cs
 | .tuple vs=>AV.cls vs
 | .ref cs=>AV.cls cs
 | .sl _ rows=>AV.clss rows
 | .im es=>AV.cles es
 | .func _ a b=>AV.cls a&&AV.cls b
 | .iface _ v=>v.cl
 | .sym s _=>s.data
 | .ptr _ _ _ | .it _ | .ms _ _ _ | .mp _ | .yld _=>false
 | _=>true
def AV.cls:List AV→Bool
 | []=>true
 | a::as=>a.cl&&AV.cls as
def AV.clss:List (List AV)→Bool
 | []=>true
 | a::as=>AV.cls a&&AV.clss as
def AV.cles:List (AV × AV)→Bool
 | []=>true
 | (a,b)::as=>a.cl&&b.cl&&AV.cles as
end
mutual
def AV.gnd (O:List Nat):AV→Bool
 | .agg cs=>AV.gnds O cs
 | .tuple vs=>AV.gnds O vs
 | .ref cs=>AV.gnds O cs
 | .sl _ rows=>AV.gndss O rows
 | .im es=>AV.gndes O es
 | .func _ a b=>AV.gnds O a&&AV.gnds O b
 | .iface _ v=>v.gnd O
 | .sym _ _=>false
 | .ptr b _ _=>!O.contains b
 | .it b=>!O.contains b
 | .ms b _ _=>!O.contains b
 | .mp b=>!O.contains b
 | .yld b=>!O.contains b
 | _=>true
def AV.gnds (O:List Nat):List AV→Bool
 | []=>true
 | a::as=>a.gnd O&&AV.gnds O as
def AV.gndss (O:List Nat):List (List AV)→Bool
 | []=>true
 | a::as=>AV.gnds O a&&AV.gndss O as
def AV.gndes (O:List Nat):List (AV × AV)→Bool
 | []=>true
 | (a,b)::as=>a.gnd O&&b.gnd O&&AV.gndes O as
end
def Asg.add (a b:Asg):Asg:=⟨a.xs++b.xs,a.ts++b.ts⟩
def addO:Option Asg→Option Asg→Option Asg
 | some a,some b=>some (a.add b)
 | _,_=>none
def noAsg:Asg:=⟨[],[]⟩
def asg1 (j:Nat) (e:X):Asg:=⟨[(j,e)],[]⟩
def mtcOwn (H:Hp) (t:Nat) (cs:List Sh) (j:Nat) (a:AV):Option Asg :=
 match a with
 | .sym (.own t' cs') e=>if Sh.eqbs cs cs' then some ⟨[(j,e)],[(t,.own t')]⟩ else none
 | .nils=>some ⟨[(j,.nils)],[(t,.nils)]⟩
 | .ms b 0 len=>match H.get b with
   | some (.cells k rows)=>if rows.length=len∧k=cs.length then (match mapO (asXs cs) rows with | some r=>some ⟨[(j,.sl k r)],[(t,.exp b)]⟩ | none=>none) else none
   | _=>none
 | _=>none
def mtcData (lo:Nat) (s:Sh) (e:X) (a:AV):Option Asg :=
 match e with
 | .v j=>if lo≤j then (match asX s a with | some x=>some (asg1 j x) | none=>none) else (if (AV.sym s (.v j)).eqb a then some noAsg else none)
 | _=>none
mutual
def mtc (H:Hp) (lo:Nat) (O:List Nat):AV→AV→Option Asg
 | .sym s e,a=>(match s with
   | .own t cs=>(match e with | .v j=>if lo≤j∧O.contains t=true then mtcOwn H t cs j a else none | _=>none)
   | .mown t k ag cs=>if O.contains t then (match a with
     | .sym (.mown t' k' ag' cs') _=>if Sh.eqb k k'&&(ag == ag')&&Sh.eqbs cs cs' then some ⟨[],[(t,.own t')]⟩ else none
     | .mp b=>some ⟨[],[(t,.exp b)]⟩
     | _=>none) else none
   | .sown t=>if O.contains t then (match a with | .sym (.sown t') _=>some ⟨[],[(t,.own t')]⟩ | _=>none) else none
   | .optr _ _ _=>none
   | s=>mtcData lo s e a)
 | .agg ps,.agg as=>mtcs H lo O ps as
 | .tuple ps,.tuple as=>mtcs H lo O ps as
 | .ref ps,.ref as=>mtcs H lo O ps as
 | .func f ps qs,.func g as bs=>if f=g then addO (mtcs H lo O ps as) (mtcs H lo O qs bs) else none
 | p,a=>if p.eqb a&&p.gnd O then some noAsg else none
def mtcs (H:Hp) (lo:Nat) (O:List Nat):List AV→List AV→Option Asg
 | [],[]=>some noAsg
 | p::ps,a::as=>addO (mtc H lo O p a) (mtcs H lo O ps as)
 | _,_=>none
end
def mtcss (H:Hp) (lo:Nat) (O:List Nat):List (List AV)→List (List AV)→Option Asg
 | [],[]=>some noAsg
 | p::ps,a::as=>addO (mtcs H lo O p a) (mtcss H lo O ps as)
 | _,_=>none
def findX:List (Nat × X)→Nat→Option X
 | [],_=>none
 | (j,x)::l,k=>if j=k then some x else findX l k
def pickX (l:List (Nat × X)):Nat→Nat→Option (List X)
 | 0,_=>some []
 | n+1,j=>match findX l j,pickX l n (j+1) with
   | some x,some xs=>some (x::xs)
   | _,_=>none
def agreeX (l:List (Nat × X)):Bool:=l.all fun e=>match findX l e.1 with | some x=>x.eqb e.2 | none=>false
def inR (lo n:Nat) (l:List (Nat × X)):Bool:=l.all fun e=>decide (lo≤e.1)&&decide (e.1 < lo+n)
def inOrder (l:List (Nat × X)):Option (List X):=if l.map (·.1)=List.range l.length then some (l.map (·.2)) else none
def findT:List (Nat × Src)→Nat→Option Src
 | [],_=>none
 | (j,x)::l,k=>if j=k then some x else findT l k
def inO (O:List Nat) (l:List (Nat × Src)):Bool:=l.all fun e=>O.contains e.1
def agreeT (l:List (Nat × Src)):Bool:=l.all fun e=>match findT l e.1 with | some x=>decide (x=e.2) | none=>false
def mtcFr (H:Hp) (lo:Nat) (O:List Nat):List AV→List AV→Option Asg
 | [],[]=>some noAsg
 | .junk::ps,_::as=>mtcFr H lo O ps as
 | p::ps,a::as=>if p.un then none else addO (mtc H lo O p a) (mtcFr H lo O ps as)
 | _,_=>none
def mtcTop (H:Hp) (lo:Nat) (O:List Nat):List (Nat × Blk)→Option Asg
 | []=>some noAsg
 | (b,.dead)::l=>mtcTop H lo O l
 | (b,.cells k rows)::l=>if O.contains b then none else match H.get b with
   | some (.cells k' rows')=>if k=k' then addO (mtcss H lo O rows rows') (mtcTop H lo O l) else none
   | _=>none
 | _=>none
def mtcSb (st:SSt) (lo:Nat) (ts:List (Nat × Src)):List (Nat × SB)→Option Asg
 | []=>some noAsg
 | (t,.rows cs (.v j))::l =>
   if j < lo then none else
   match findT ts t with
   | some .nils=>addO (some (asg1 j .nils)) (mtcSb st lo ts l)
   | some (.own t')=>match lookS st.sb t' with
     | some (.rows cs' e)=>if Sh.eqbs cs cs' then addO (some (asg1 j e)) (mtcSb st lo ts l) else none
     | _=>none
   | some (.exp b)=>match st.hp.get b with
     | some (.cells k rows)=>if k=cs.length then (match mapO (asXs cs) rows with | some r=>addO (some (asg1 j (.sl k r))) (mtcSb st lo ts l) | none=>none) else none
     | _=>none
   | none=>none
 | (t,.mp key ag cs (.v j))::l =>
   if j < lo then none else
   match findT ts t with
   | some (.own t')=>match lookS st.sb t' with
     | some (.mp key' ag' cs' e)=>if Sh.eqb key key'&&(ag == ag')&&Sh.eqbs cs cs' then addO (some (asg1 j e)) (mtcSb st lo ts l) else none
     | _=>none
   | some (.exp b)=>match st.hp.get b with
     | some (.map [])=>addO (some (asg1 j (.p .mnew []))) (mtcSb st lo ts l)
     | _=>none
   | _=>none
 | (t,.si (.v i) (.v j))::l =>
   if j < lo∨i < lo then none else
   match findT ts t with
   | some (.own t')=>match lookS st.sb t' with
     | some (.si s p)=>addO (some ⟨[(i,s),(j,p)],[]⟩) (mtcSb st lo ts l)
     | _=>none
   | _=>none
 | _=>none
def srcId:Src→Option Nat
 | .own t=>some t
 | .exp b=>some b
 | .nils=>none
def nodupN:List Nat→Bool
 | []=>true
 | a::l=>!l.contains a&&nodupN l
def srcsOf (ts:List (Nat × Src)):List (Nat × SB)→List Nat
 | []=>[]
 | (t,_)::l=>match (findT ts t).bind srcId with
   | some b=>b::srcsOf ts l
   | none=>srcsOf ts l
def liveIds:List (Nat × Blk)→List Nat
 | []=>[]
 | (_,.dead)::l=>liveIds l
 | (b,_)::l=>b::liveIds l
def matchSt (lo n:Nat) (pf:List AV) (ph:SSt) (f:List AV) (st:SSt):Option (List X × List (Nat × Src)) :=
 let O:=ph.sb.map (·.1)
 match mtcFr st.hp lo O pf f with
 | some a=>match mtcTop st.hp lo O ph.hp.top with
   | some b =>
     let ts:=a.ts++b.ts
     match mtcSb st lo ts ph.sb with
     | some c =>
       let xs:=a.xs++(b.xs++c.xs)
       if agreeX xs&&inR lo n xs&&agreeT ts&&inO O ts&&nodupN (srcsOf ts ph.sb++liveIds ph.hp.top) then
        match pickX xs n lo with
        | some l=>some (l,ts)
        | none=>none
       else none
     | none=>none
   | none=>none
 | none=>none
mutual
def AV.ltB (m:Nat):AV→Bool
 | .agg cs=>AV.ltBs m cs
 | .tuple vs=>AV.ltBs m vs
 | .ref cs=>AV.ltBs m cs
 | .sl _ rows=>AV.ltBss m rows
 | .im es=>AV.ltBes m es
 | .func _ a b=>AV.ltBs m a&&AV.ltBs m b
 | .iface _ v=>v.ltB m
 | .sym s _=>decide (s.mx≤m)
 | .ptr b _ _=>decide (b < m)
 | .it b=>decide (b < m)
 | .ms b _ _=>decide (b < m)
 | .mp b=>decide (b < m)
 | .yld b=>decide (b < m)
 | _=>true
def AV.ltBs (m:Nat):List AV→Bool
 | []=>true
 | a::as=>a.ltB m&&AV.ltBs m as
def AV.ltBss (m:Nat):List (List AV)→Bool
 | []=>true
 | a::as=>AV.ltBs m a&&AV.ltBss m as
def AV.ltBes (m:Nat):List (AV × AV)→Bool
 | []=>true
 | (a,b)::as=>a.ltB m&&b.ltB m&&AV.ltBes m as
end
def topOk (m:Nat):List (Nat × Blk)→Bool
 | []=>true
 | (b,.dead)::l=>decide (b < m)&&topOk m l
 | (b,.cells _ rows)::l=>decide (b < m)&&AV.ltBss m rows&&topOk m l
 | _=>false
def patOk (fr:List AV) (st:SSt):Bool :=
 (match st.hp.rest with | [[]]=>true | _=>false)&&topOk st.hp.nx st.hp.top&&AV.ltBs st.hp.nx fr&&st.sb.all (fun e=>decide (e.1 < st.hp.nx))&&st.fx.isEmpty
mutual
def X.sub (θ:Nat→X):X→X
 | .v n=>θ n
 | .sl k rows=>.sl k (X.subss θ rows)
 | .agg xs=>.agg (X.subs θ xs)
 | .p o xs=>.p o (X.subs θ xs)
 | .b c=>.b c
 | .i k n=>.i k n
 | .s c=>.s c
 | .nils=>.nils
def X.subs (θ:Nat→X):List X→List X
 | []=>[]
 | x::xs=>x.sub θ::X.subs θ xs
def X.subss (θ:Nat→X):List (List X)→List (List X)
 | []=>[]
 | x::xs=>X.subs θ x::X.subss θ xs
end
mutual
def AV.sub (θ:Nat→X):AV→AV
 | .agg cs=>.agg (AV.subL θ cs)
 | .tuple vs=>.tuple (AV.subL θ vs)
 | .ref cs=>.ref (AV.subL θ cs)
 | .sl k rows=>.sl k (AV.subLL θ rows)
 | .func fn a b=>.func fn (AV.subL θ a) (AV.subL θ b)
 | .iface t v=>.iface t (v.sub θ)
 | .im es=>.im (AV.subE θ es)
 | .sym s e=>.sym s (e.sub θ)
 | .junk=>.junk
 | .bool b=>.bool b
 | .int k n=>.int k n
 | .str s=>.str s
 | .nilp=>.nilp
 | .ptr b i o=>.ptr b i o
 | .it b=>.it b
 | .nils=>.nils
 | .ms b o l=>.ms b o l
 | .nilm=>.nilm
 | .mp b=>.mp b
 | .yld l=>.yld l
 | .nilf=>.nilf
 | .nili=>.nili
def AV.subL (θ:Nat→X):List AV→List AV
 | []=>[]
 | a::as=>a.sub θ::AV.subL θ as
def AV.subLL (θ:Nat→X):List (List AV)→List (List AV)
 | []=>[]
 | a::as=>AV.subL θ a::AV.subLL θ as
def AV.subE (θ:Nat→X):List (AV × AV)→List (AV × AV)
 | []=>[]
 | (a,b)::as=>(a.sub θ,b.sub θ)::AV.subE θ as
end
def SB.sub (θ:Nat→X):SB→SB
 | .rows cs e=>.rows cs (e.sub θ)
 | .mp k ag cs e=>.mp k ag cs (e.sub θ)
 | .si s p=>.si (s.sub θ) (p.sub θ)
def Blk.sub (θ:Nat→X):Blk→Blk
 | .cells k rows=>.cells k (AV.subLL θ rows)
 | .map es=>.map (AV.subE θ es)
 | .loop M tmps ps as bd s pend d=>.loop M (AV.subL θ tmps) ps as bd s pend d
 | b=>b
def SSt.sub (θ:Nat→X) (st:SSt) (fx:List (X × Bool)):SSt :=
 ⟨{ st.hp with top:=st.hp.top.map fun e=>(e.1,e.2.sub θ) },st.sb.map fun e=>(e.1,e.2.sub θ),fx⟩
def shOf (a b:AV):Option Sh :=
 match a with
 | .bool _=>some .bool
 | .int k _=>some (.int k)
 | .str _=>some .str
 | .sym s _=>some s
 | _=>match b with
   | .sym s _=>some s
   | _=>none
def mergeX (c:X) (a b:AV):Option AV :=
 match shOf a b with
 | some s=>match asX s a,asX s b with
   | some x,some y=>some (.sym s (xIte c x y))
   | _,_=>none
 | none=>none
mutual
def mergeV (c:X):AV→AV→Option AV
 | .agg as,.agg bs=>(match mergeVs c as bs with | some l=>some (.agg l) | none=>none)
 | .tuple as,.tuple bs=>(match mergeVs c as bs with | some l=>some (.tuple l) | none=>none)
 | a,b=>if a.eqb b then some a else mergeX c a b
def mergeVs (c:X):List AV→List AV→Option (List AV)
 | [],[]=>some []
 | a::as,b::bs=>(match mergeV c a b,mergeVs c as bs with | some v,some vs=>some (v::vs) | _,_=>none)
 | _,_=>none
end
def mergeVss (c:X):List (List AV)→List (List AV)→Option (List (List AV))
 | [],[]=>some []
 | a::as,b::bs=>(match mergeVs c a b,mergeVss c as bs with | some v,some vs=>some (v::vs) | _,_=>none)
 | _,_=>none
def mergeFr (c:X):List AV→List AV→Option (List AV)
 | [],[]=>some []
 | a::as,b::bs=>match mergeFr c as bs with
   | some vs=>match mergeV c a b with
     | some v=>some (v::vs)
     | none=>if a.un || b.un then some (.junk::vs) else none
   | none=>none
 | _,_=>none
def mergeB (c:X):Blk→Blk→Option Blk
 | .cells j as,.cells k bs=>if j=k then (match mergeVss c as bs with | some r=>some (.cells j r) | none=>none) else none
 | .map as,.map bs=>if AV.eqbes as bs then some (.map as) else none
 | .dead,_=>some .dead
 | _,.dead=>some .dead
 | _,_=>none
mutual
def AV.names (b:Nat):AV→Bool
 | .agg cs=>AV.namesL b cs
 | .tuple vs=>AV.namesL b vs
 | .ptr c _ _=>c == b
 | .ms c _ _=>c == b
 | .mp c=>c == b
 | .it c=>c == b
 | .func _ x y=>AV.namesL b x || AV.namesL b y
 | .sym (.own t _) _=>t == b
 | .sym (.optr t _ _) _=>t == b
 | .sym (.mown t _ _ _) _=>t == b
 | .sym (.sown t) _=>t == b
 | _=>false
def AV.namesL (b:Nat):List AV→Bool
 | []=>false
 | a::as=>a.names b || AV.namesL b as
end
def mergeTop (c:X) (nx0:Nat→Bool) (ga gb:Nat→Option Blk) (l':List (Nat × Blk)):List (Nat × Blk)→Option (List (Nat × Blk))
 | []=>some []
 | (b,_)::l=>match mergeTop c nx0 ga gb l' l with
   | some r=>match look l' b,ga b,gb b with
     | some _,some x,some y=>match mergeB c x y with
       | some z=>some ((b,z)::r)
       | none=>if nx0 b then none else some r
     | _,_,_=>some r
   | none=>none
def mergeRest (c:X) (nx0:Nat→Bool) (ga gb:Nat→Option Blk):List (List (Nat × Blk))→List (List (Nat × Blk))→Option (List (List (Nat × Blk)))
 | [],[]=>some []
 | a::as,b::bs=>match mergeTop c nx0 ga gb b a,mergeRest c nx0 ga gb as bs with
   | some x,some xs=>some (x::xs)
   | _,_=>none
 | _,_=>none
def mergeS (c:X):SB→SB→Option SB
 | .rows cs e,.rows cs' e'=>if Sh.eqbs cs cs' then some (.rows cs (xIte c e e')) else none
 | .mp k ag cs e,.mp k' ag' cs' e'=>if Sh.eqb k k'&&(ag == ag')&&Sh.eqbs cs cs' then some (.mp k ag cs (xIte c e e')) else none
 | .si s p,.si s' p'=>if s.eqb s' then some (.si s (xIte c p p')) else none
 | _,_=>none
def mergeSb (c:X) (nx0:Nat→Bool) (la lb:List (Nat × SB)):List (Nat × SB)→Option (List (Nat × SB))
 | []=>some []
 | (b,_)::l=>match mergeSb c nx0 la lb l with
   | some r=>match lookS la b,lookS lb b with
     | some x,some y=>match mergeS c x y with
       | some z=>some ((b,z)::r)
       | none=>if nx0 b then none else some r
     | _,_=>some r
   | none=>none
def lkMin:Option Nat→Option Nat→Option Nat
 | none,b=>b
 | a,none=>a
 | some a,some b=>some (min a b)
def commonFx (l':List (X × Bool)):List (X × Bool)→List (X × Bool)
 | []=>[]
 | (x,b)::l=>match factOf l' x with
   | some d=>if b == d then (x,b)::commonFx l' l else commonFx l' l
   | none=>commonFx l' l
def mergeSt (c:X) (nx0:Nat→Bool) (a b:SSt):Option SSt :=
 match mergeTop c nx0 a.hp.get b.hp.get b.hp.top a.hp.top,mergeRest c nx0 a.hp.get b.hp.get a.hp.rest b.hp.rest,mergeSb c nx0 a.sb b.sb a.sb with
 | some t,some r,some s=>some ⟨⟨max a.hp.nx b.hp.nx,t,r,lkMin a.hp.lk b.hp.lk⟩,s,commonFx b.fx a.fx⟩
 | _,_,_=>none
def mgEx (nx0:Nat→Bool) (c:X) (a b:Ex × List AV × SSt):Option (Ex × List AV × SSt) :=
 if a.1=b.1 then match mergeFr c a.2.1 b.2.1 with
  | some f=>match mergeSt c (fun b=>nx0 b || AV.namesL b f) a.2.2 b.2.2 with
    | some s=>some (a.1,f,s)
    | none=>none
  | none=>none
 else none
def mgFr (nx0:Nat→Bool) (c:X) (a b:List AV × SSt):Option (List AV × SSt) :=
 match mergeFr c a.1 b.1 with
 | some f=>match mergeSt c (fun b=>nx0 b || AV.namesL b f) a.2 b.2 with
   | some s=>some (f,s)
   | none=>none
 | none=>none
def mgV (nx0:Nat→Bool) (c:X) (a b:AV × SSt):Option (AV × SSt) :=
 match mergeV c a.1 b.1 with
 | some f=>match mergeSt c (fun b=>nx0 b || f.names b) a.2 b.2 with
   | some s=>some (f,s)
   | none=>none
 | none=>none
def Te.lin {α:Type}:Te α→Option (List X × α)
 | .ok a=>some ([],a)
 | .need p t=>match t.lin with
   | some (ps,a)=>some (p::ps,a)
   | none=>none
 | _=>none
def needsT {α:Type}:List X→Te α→Te α
 | [],t=>t
 | p::ps,t=>.need p (needsT ps t)
def Te.join {α:Type} (mg:X→α→α→Option α) (c:X) (a b:Te α):Te α :=
 match a.lin,b.lin with
 | some (ps,x),some (qs,y)=>match mg c x y with
   | some m=>needsT (ps.map fun p=>.p .ite [c,p,.b true]) (needsT (qs.map fun q=>.p .ite [c,.b true,q]) (.ok m))
   | none=>.ite c a b
 | _,_=>.ite c a b
def Te.fold {α:Type} (mg:X→α→α→Option α):Te α→Te α
 | .ite c a b=>Te.join mg c (a.fold mg) (b.fold mg)
 | .need p t=>.need p (t.fold mg)
 | t=>t
def cmpOp:BinOp→Bool
 | .eql | .neq | .lss | .leq | .gtr | .geq=>true
 | _=>false
mutual
def eqS (T:Tab):Nat→TypeId→AV→AV→Option X
 | 0,_,_,_=>none
 | d+1,t,x,y =>
   match T.underlying t with
   | some .bool=>(match asB x,asB y with | some a,some b=>some (.p .beq [a,b]) | _,_=>none)
   | some (.int k)=>(match asI x,asI y with | some (j,a),some (j',b)=>if j=k∧j'=k then some (.p (.bin .eql k) [a,b]) else none | _,_=>none)
   | some .string=>(match asS x,asS y with | some a,some b=>some (.p (.sbin .eql) [a,b]) | _,_=>none)
   | some (.struct fs)=>(match x,y with
     | .agg a,.agg b=>match T.ty.get t with
       | some e=>if e.held then none else eqFieldsS T d a b fs.toList
       | none=>none
     | _,_=>none)
   | some (.slice _)=>(match x,y with
     | .nils,.sym (.sl _) e=>some (.p .isNil [e])
     | .sym (.sl _) e,.nils=>some (.p .isNil [e])
     | .nils,.sym (.own _ _) e=>some (.p .isNil [e])
     | .sym (.own _ _) e,.nils=>some (.p .isNil [e])
     | x,y=>(eqNilS x y).map .b)
   | some (.pointer _)=>(eqNilP x y).map .b
   | some (.map _ _)=>(eqNilM x y).map .b
   | some (.func _ _ _)=>(eqNilF x y).map .b
   | _=>none
def eqFieldsS (T:Tab):Nat→List AV→List AV→List Field→Option X
 | 0,_,_,_=>none
 | _+1,_,_,[]=>some (.b true)
 | d+1,a,b,f::fs =>
   if f.name = "_" then none else
   match partA T f.type a f.offset,partA T f.type b f.offset with
   | some u,some v=>match eqS T d f.type u v,eqFieldsS T d a b fs with
     | some p,some q=>some (xAnd p q)
     | _,_=>none
   | _,_=>none
end
def eqTopS (T:Tab) (t:TypeId) (x y:AV):Option X :=
 match x with
 | .agg _=>match T.ty.get t with | some e=>if e.eqg then none else eqS T 60 t x y | none=>none
 | _=>eqS T 60 t x y
def binS (T:Tab) (st:SSt) (op:BinOp) (t:TypeId) (x y:AV):Te (AV × SSt) :=
 match asI x,asI y with
 | some (k,a),some (k',b) =>
   if k=k'∨op = .shl∨op = .shr then
    match op with
    | .quo | .rem=>needT (.p (.bin .neq k') [b,.i k' 0]) st fun st=>.ok (.sym (.int k) (.p (.bin op k) [a,b]),st)
    | .shl | .shr=>needT (.p (.bin .geq k') [b,.i k' 0]) st fun st=>.ok (.sym (.int k) (.p (.bin op k) [a,b]),st)
    | op=>.ok (.sym (if cmpOp op then .bool else .int k) (.p (.bin op k) [a,b]),st)
   else .fail 1
 | _,_=>match asS x,asS y with
   | some a,some b=>match op with
     | .add=>needT (.p .catOk [a,b]) st fun st=>.ok (.sym .str (.p (.sbin .add) [a,b]),st)
     | op=>if cmpOp op then .ok (.sym .bool (.p (.sbin op) [a,b]),st) else .fail 2
   | _,_=>match op with
     | .eql=>(match eqTopS T t x y with | some e=>.ok (.sym .bool e,st) | none=>.fail 3)
     | .neq=>(match eqTopS T t x y with | some e=>.ok (.sym .bool (.p .not [e]),st) | none=>.fail 3)
     | _=>.fail 4
def unS (st:SSt) (op:UnOp) (x:AV):Te (AV × SSt) :=
 match op with
 | .neg=>(match asI x with | some (k,a)=>.ok (.sym (.int k) (.p (.neg k) [a]),st) | none=>.fail 5)
 | .not=>(match asB x with | some a=>.ok (.sym .bool (.p .not [a]),st) | none=>.fail 6)
 | _=>.fail 7
def convS (T:Tab) (st:SSt) (s d:TypeId) (x:AV):Te (AV × SSt) :=
 match T.underlying s,T.underlying d with
 | some _,some (.int k)=>(match asI x with | some (_,a)=>.ok (.sym (.int k) (.p (.conv k) [a]),st) | none=>.fail 8)
 | some _,some .string=>(match asS x with | some a=>.ok (.sym .str a,st) | none=>.fail 9)
 | _,_=>.fail 10
def lenS (T:Tab) (st:SSt) (t:TypeId) (x:AV):Te (AV × SSt) :=
 match T.underlying t,x with
 | some .string,.sym .str e=>.ok (.sym (.int .i64) (xLen e),st)
 | some (.slice _),.sym (.sl _) e=>.ok (.sym (.int .i64) (xLen e),st)
 | some (.slice _),.sym (.own _ _) e=>.ok (.sym (.int .i64) (xLen e),st)
 | some (.map _ _),.sym (.im _ _ _) e=>.ok (.sym (.int .i64) (.p .mlen [e]),st)
 | some (.map _ _),.sym (.mown t _ _ _) _=>(match lookS st.sb t with | some (.mp _ _ _ e)=>.ok (.sym (.int .i64) (.p .mlen [e]),st) | _=>.fail 11)
 | _,_=>.fail 12
def asSl (T:Tab) (e:TypeId) (x:AV):Option (List Sh × X) :=
 match x with
 | .sym (.sl cs) e=>some (cs,e)
 | x=>match shsT T 20 e with
   | some cs=>match asXc (.sl cs) x with
     | some e=>some (cs,e)
     | none=>none
   | none=>none
def indexAddrS (T:Tab) (st:SSt) (t:TypeId) (x ix:AV):Te (AV × SSt) :=
 match T.underlying t,asI ix with
 | some (.slice elem),some (k,i)=>match sizeT T elem with
   | some n=>match x with
     | .sym (.own b cs) e=>match lookS st.sb b with
       | some (.rows cs' e')=>if cs.length=n∧Sh.eqbs cs cs'=true then
         needT (xIn k i (xLen e)) st fun st=>needT (xIn k i (xLen e')) st fun st=>.ok (.sym (.optr b 0 cs) i,st)
         else .fail 13
       | _=>.fail 14
     | x=>match asSl T elem x with
       | some (cs,e)=>if cs.length=n then needT (xIn k i (xLen e)) st fun st=>.ok (.ref (cellsX e i 0 cs),st) else .fail 15
       | none=>.fail 16
   | none=>.fail 17
 | _,_=>.fail 18
def indexS (T:Tab) (st:SSt) (t:TypeId) (x ix:AV):Te (AV × SSt) :=
 match T.underlying t,asS x,asI ix with
 | some .string,some s,some (k,i)=>needT (xIn k i (xLen s)) st fun st=>.ok (.sym (.int .u8) (.p .byte [s,i]),st)
 | _,_,_=>.fail 19
def boundS (dflt:X):Option AV→Option X
 | none=>some dflt
 | some v=>match asI v with
   | some (.i64,e)=>some e
   | _=>none
def sliceS (T:Tab) (st:SSt) (t:TypeId) (x:AV) (lo hi:Option AV):Te (AV × SSt) :=
 match T.underlying t with
 | some .string=>match asS x with
   | some s=>match boundS (xI 0) lo,boundS (xLen s) hi with
     | some l,some m=>needT (xLe (xI 0) l) st fun st=>needT (xLe l m) st fun st=>needT (xLe m (xLen s)) st fun st=>.ok (.sym .str (.p .sslice [s,l,m]),st)
     | _,_=>.fail 20
   | none=>.fail 21
 | some (.slice elem)=>match asSl T elem x,sizeT T elem with
   | some (cs,e),some n=>match boundS (xI 0) lo,boundS (xLen e) hi with
     | some l,some m=>if cs.length=n then needT (xLe (xI 0) l) st fun st=>needT (xLe l m) st fun st=>needT (xLe m (xLen e)) st fun st=>.ok (.sym (.sl cs) (.p .slice [e,l,m]),st) else .fail 22
     | _,_=>.fail 23
   | _,_=>.fail 24
 | _=>.fail 25
def loadS (T:Tab) (st:SSt) (t:TypeId) (a:AV):Te (AV × SSt) :=
 match a with
 | .sym (.optr b o cs) i=>match lookS st.sb b,aggT T t,sizeT T t with
   | some (.rows cs' e),some ag,some n =>
     if Sh.eqbs cs cs'=true∧o+n≤cs.length∧0 < n then
      needT (xIn .i64 i (xLen e)) st fun st=>match takeV ag n ((cellsX e i 0 cs).drop o) with
       | some v=>.ok (v,st)
       | none=>.fail 26
     else .fail 27
   | _,_,_=>.fail 28
 | _=>.fail 29
def storeS (T:Tab) (st:SSt) (t:TypeId) (a v:AV):Te (AV × SSt) :=
 match a with
 | .sym (.optr b o cs) i=>match lookS st.sb b,sizeT T t,asXs ((cs.drop o).take v.cells.length) v.cells with
   | some (.rows cs' e),some n,some vs =>
     if Sh.eqbs cs cs'=true∧o+n≤cs.length∧v.cells.length=n then
      needT (xIn .i64 i (xLen e)) st fun st=>.ok (undefA,{ st with sb:=updS st.sb b (.rows cs' (.p (.setc o) (e::i::vs))) })
     else .fail 30
   | _,_,_=>.fail 31
 | _=>.fail 32
def fieldAddrS (T:Tab) (st:SSt) (s:TypeId) (x:AV) (f:Nat):Te (AV × SSt) :=
 match x,fieldT T s f with
 | .sym (.optr b o cs) i,some (off,t)=>match sizeT T t with
   | some n=>if n=0 then .fail 33 else .ok (.sym (.optr b (o+off) cs) i,st)
   | none=>.fail 34
 | _,_=>.fail 35
def lookT (ok:Bool) (st:SSt) (z:AV) (s:Sh) (k:X):List (AV × AV)→Te (AV × SSt)
 | []=>.ok (if ok then .tuple [z,.bool false] else z,st)
 | (a,v)::es=>match asX s a with
   | some x =>
     let e:X:=.p .keq [k,x]
     match factOf st.fx e with
     | some true=>.ok (if ok then .tuple [v,.bool true] else v,st)
     | some false=>lookT ok st z s k es
     | none=>.ite e (.ok (if ok then .tuple [v,.bool true] else v,st.fact e true)) (lookT ok (st.fact e false) z s k es)
   | none=>.fail 36
def scal:Sh→Bool
 | .bool | .int _ | .str=>true
 | _=>false
def asMv (ag:Bool) (cs:List Sh) (v:AV):Option X :=
 if ag then match v with | .agg vs=>(asXs cs vs).map .agg | _=>none
 else match asXs cs [v] with | some [x]=>some x | _=>none
def ofMv (ag:Bool) (cs:List Sh) (e:X):Option AV :=
 if ag then some (.agg (fldsX e 0 cs)) else match cs with | [c]=>some (.sym c e) | _=>none
def symMap (st:SSt) (m:AV):Option (Sh × Bool × List Sh × X) :=
 match m with
 | .sym (.im key ag cs) e=>some (key,ag,cs,e)
 | .sym (.mown b _ _ _) _=>match lookS st.sb b with | some (.mp key ag cs e)=>some (key,ag,cs,e) | _=>none
 | _=>none
def lookupS (T:Tab) (st:SSt) (t:TypeId) (m k:AV) (ok:Bool):Te (AV × SSt) :=
 match T.underlying t with
 | some (.map kt et)=>match shT T 20 kt,zeroT T et with
   | some s,some z =>
     if scal s then
      match asX s k with
      | some kx =>
        match symMap st m with
        | some (key,ag,cs,e)=>if Sh.eqb key s=false then .fail 36 else match asMv ag cs z with
          | some zx=>match ofMv ag cs (.p (.mget ag) [e,kx,zx]) with
            | some v=>.ok (if ok then .tuple [v,.sym .bool (.p .mhas [e,kx])] else v,st)
            | none=>.fail 37
          | none=>.fail 38
        | none=>match mapA st.hp m with
          | some es=>lookT ok st z s kx es
          | none=>.fail 39
      | none=>.fail 40
     else .fail 41
   | _,_=>.fail 42
 | _=>.fail 43
def mapUpdS (T:Tab) (st:SSt) (t:TypeId) (m k v:AV):Te (AV × SSt) :=
 match T.underlying t,m with
 | some (.map kt _),.sym (.mown b _ _ _) _=>match shT T 20 kt,lookS st.sb b with
   | some s,some (.mp key ag cs e)=>if Sh.eqb s key&&scal s then
     match asX s k,asMv ag cs v with
     | some kx,some vx=>.ok (undefA,{ st with sb:=updS st.sb b (.mp key ag cs (.p .mput [e,kx,vx])) })
     | _,_=>.fail 44
     else .fail 45
   | _,_=>.fail 46
 | some (.map kt _),.mp b=>match shT T 20 kt,st.hp.get b with
   | some s,some (.map [])=>if scal s&&k.cl&&v.cl then
     match asX s k with
     | some _=>.ok (undefA,{ st with hp:=(st.hp.set b (.map [(k,v)])).leak b 0 })
     | none=>.fail 44
     else .fail 45
   | _,_=>.fail 46
 | _,_=>.fail 47
def rangeS (T:Tab) (st:SSt) (t:TypeId) (x:AV):Te (AV × SSt) :=
 match T.underlying t,asS x with
 | some .string,some s=>.ok (.sym (.sown st.hp.nx) (.b true),st.make (.si s (xI 0)))
 | _,_=>.fail 48
def nextS (st:SSt) (x:AV) (isS:Bool):Te (AV × SSt) :=
 match x,isS with
 | .sym (.sown b) _,true=>match lookS st.sb b with
   | some (.si s p) =>
     let c:X:=.p (.bin .lss .i64) [p,xLen s]
     .ite c (.ok (.tuple [.bool true,.sym (.int .i64) p,.sym (.int .i32) (.p .rune [s,p])],{ st.fact c true with sb:=updS st.sb b (.si s (.p .adv [s,p])) }))
      (.ok (.tuple [.bool false],st.fact c false))
   | _=>.fail 49
 | _,_=>.fail 50
def rowsS (st:SSt) (cs:List Sh) (x:AV):Option X :=
 match x with
 | .nils=>some .nils
 | .sl k rows=>asXc (.sl cs) (.sl k rows)
 | .ms b off len=>match rowsA st.hp cs.length (.ms b off len) with
   | some rows=>asXc (.sl cs) (.sl cs.length rows)
   | none=>none
 | .sym (.sl cs') e=>if Sh.eqbs cs cs' then some e else none
 | .sym (.own b cs') e=>match lookS st.sb b with
   | some (.rows cs'' e')=>if Sh.eqbs cs cs'&&Sh.eqbs cs cs''&&e.eqb e' then some e else none
   | _=>none
 | _=>none
def appendS (T:Tab) (base:Nat) (st:SSt) (ts:List TypeId) (args:List AV):Te (AV × SSt) :=
 match ts,args with
 | t::ts,[s,x]=>match elemT T t,srcT T ts.head? with
   | some (el,n,_,_),true=>match shsT T 20 el with
     | some cs =>
       if cs.length=n then
        match rowsS st cs x with
        | some xx =>
          let r:Option (X × SSt):=match s with
           | .nils=>some (.nils,st)
           | .ms b 0 len=>match st.hp.get b with
             | some (.cells k rows)=>if k=n∧rows.length=len∧base≤b then (match mapO (asXs cs) rows with | some r=>some (.sl n r,{ st with hp:=st.hp.set b .dead }) | none=>none) else none
             | _=>none
           | .sym (.own b cs') e=>match lookS st.sb b with
             | some (.rows cs'' e')=>if Sh.eqbs cs cs'&&Sh.eqbs cs cs''&&e.eqb e'&&decide (base≤b) then some (e,{ st with sb:=dropS st.sb b }) else none
             | _=>none
           | _=>none
          match r with
          | some (sx,st1) =>
            let e:X:=.p (.app n) [sx,xx]
            needT (xLe (xLen e) (xI 1073741824)) st1 fun st=>.ok (.sym (.own st.hp.nx cs) e,st.make (.rows cs e))
          | none=>.fail 51
        | none=>.fail 52
       else .fail 53
     | none=>.fail 54
   | _,_=>.fail 55
 | _,_=>.fail 56
def makeSliceS (T:Tab) (st:SSt) (t:TypeId) (l c:AV):Te (AV × SSt) :=
 match elemT T t,asI l,asI c with
 | some (el,n,_,z),some (.i64,lx),some (.i64,cx)=>match shsT T 20 el with
   | some cs=>match asXs cs z with
     | some zs =>
       if cs.length=n then
        needT (xLe (xI 0) lx) st fun st=>needT (xLe lx cx) st fun st=>needT (xLe cx (xI 1073741824)) st fun st =>
         if T.fm t then .ok (.sym (.sl cs) (.p (.rep n) (lx::zs)),st) else .ok (.sym (.own st.hp.nx cs) (.p (.rep n) (lx::zs)),st.make (.rows cs (.p (.rep n) (lx::zs))))
       else .fail 57
     | none=>.fail 58
   | none=>.fail 59
 | _,_,_=>.fail 60
def mm (op:BinOp):AV→List AV→Option AV
 | a,[]=>some a
 | a,b::l=>match asI a,asI b with
   | some (k,x),some (k',y)=>if k=k' then mm op (.sym (.int k) (.p .ite [.p (.bin op k) [y,x],y,x])) l else none
   | _,_=>none
def ofO (st:SSt) (w:Nat):Option AV→Te (AV × SSt)
 | some v=>.ok (v,st)
 | none=>.fail w
def opSym (T:Tab) (ev:Ev) (st:SSt):Op→Te (AV × SSt)
 | .pick c a b=>(match ev c with
   | some (.sym .bool e)=>(match factOf st.fx e with
     | some true=>ofO st 61 (ev a)
     | some false=>ofO st 61 (ev b)
     | none=>match ev a,ev b with
       | some x,some y=>(match mergeV e x y with
         | some z=>.ok (z,st)
         | none=>.ite e (.ok (x,st.fact e true)) (.ok (y,st.fact e false)))
       | _,_=>.fail 61)
   | _=>.fail 62)
 | .binOp op t x y _=>(match ev x,ev y with | some a,some b=>binS T st op t a b | _,_=>.fail 63)
 | .unOp op _ x=>(match ev x with | some a=>unS st op a | none=>.fail 64)
 | .convert s d x=>(match ev x with | some a=>convS T st s d a | none=>.fail 65)
 | .load t a=>(match ev a with | some a=>loadS T st t a | none=>.fail 66)
 | .store t a x=>(match ev a,ev x with | some a,some v=>storeS T st t a v | _,_=>.fail 67)
 | .makeSlice t l c=>(match ev l,ev c with | some l,some c=>makeSliceS T st t l c | _,_=>.fail 68)
 | .slice t x lo hi mx=>(match mx,ev x,optA ev lo,optA ev hi with | none,some x,some lo,some hi=>sliceS T st t x lo hi | _,_,_,_=>.fail 69)
 | .fieldAddr s x f=>(match ev x with | some x=>fieldAddrS T st s x f | none=>.fail 70)
 | .indexAddr t x ix=>(match ev x,ev ix with | some x,some ix=>indexAddrS T st t x ix | _,_=>.fail 71)
 | .index t x ix=>(match ev x,ev ix with | some x,some ix=>indexS T st t x ix | _,_=>.fail 72)
 | .lookup t m k ok=>(match ev m,ev k with | some m,some k=>lookupS T st t m k ok | _,_=>.fail 73)
 | .mapUpdate t m k v=>(match ev m,ev k,ev v with | some m,some k,some v=>mapUpdS T st t m k v | _,_,_=>.fail 74)
 | .insert t m k v=>(match ev m,ev k,ev v with | some m,some k,some v=>mapUpdS T st t m k v | _,_,_=>.fail 74)
 | .range t x=>(match ev x with | some x=>rangeS T st t x | none=>.fail 75)
 | .next x isS=>(match ev x with | some x=>nextS st x isS | none=>.fail 76)
 | .nilCheck x=>(match ev x with | some (.sym (.optr b o cs) i)=>.ok (.sym (.optr b o cs) i,st) | _=>.fail 77)
 | _=>.fail 78
def storeOk (base:Nat) (ev:Ev):Op→Bool
 | .store _ a x=>(match ev a,ev x with | some (.ptr b _ _),some v=>base≤b || v.cl | _,_=>true)
 | .mapUpdate _ m _ v=>(match ev m,ev v with | some (.mp b),some v=>base≤b || v.cl | _,_=>true)
 | .insert _ m _ v=>(match ev m,ev v with | some (.mp b),some v=>base≤b || v.cl | _,_=>true)
 | _=>true
def opS (T:Tab) (base:Nat) (ev:Ev) (st:SSt) (op:Op):Te (AV × SSt) :=
 match opA T ev st.hp op with
 | some (v,h)=>if storeOk base ev op then .ok (v,{ st with hp:=h }) else .fail 80
 | none=>opSym T ev st op
def appOk (base:Nat):Builtin→List AV→Bool
 | .append,[.ms c _ _,_]=>decide (base≤c)
 | .clear,_=>false
 | _,_=>true
def fzCellS (st:SSt):AV→Option (AV × SSt)
 | .sym (.own t cs) e=>(match lookS st.sb t with
   | some (.rows cs' e')=>if Sh.eqbs cs cs'&&e.eqb e' then some (.sym (.sl cs) e,{ st with sb:=dropS st.sb t }) else none
   | _=>none)
 | .ms b off len=>(match st.hp.get b with
   | some (.cells k rows)=>if off+len≤rows.length∧mxss rows=0 then some (.sl k ((rows.drop off).take len),{ st with hp:=st.hp.set b .dead }) else none
   | _=>none)
 | v=>if v.mx=0 then some (v,st) else none
def fzCellsS:List AV→SSt→Option (List AV × SSt)
 | [],st=>some ([],st)
 | a::as,st=>match fzCellS st a with
   | some (a',st1)=>match fzCellsS as st1 with
     | some (as',st2)=>some (a'::as',st2)
     | none=>none
   | none=>none
def fzRowS (st:SSt) (s:AV) (b off:Nat):Option (List AV × SSt) :=
 match st.hp.get b with
 | some (.cells k rows)=>match nth rows off with
   | some r=>match fzCellsS r st with
     | some (r',st1)=>if mxs r'=0 then
       match st1.hp.get b with
       | some (.cells _ _)=>some ([s,.sl k [r']],{ st1 with hp:=st1.hp.set b .dead })
       | _=>none
       else none
     | none=>none
   | none=>none
 | _=>none
def fzAppS (T:Tab) (st:SSt) (ts:List TypeId) (args:List AV):Option (List AV × SSt) :=
 match ts,args with
 | t::_,[s,x] =>
   if T.fa t then
    match x with
    | .ms b off len=>if len=1 then fzRowS st s b off else none
    | x=>if x.mx=0 then some ([s,x],st) else none
   else some ([s,x],st)
 | _,args=>some (args,st)
def builtinS (T:Tab) (base:Nat) (st:SSt) (b:Builtin) (ts:List TypeId) (args:List AV):Te (AV × SSt) :=
 match b with
 | .append=>match fzAppS T st ts args with
   | some (args,st)=>match appendA T st.hp ts args with
     | some (v,h)=>if appOk base b args then .ok (v,{ st with hp:=h }) else .fail 81
     | none=>appendS T base st ts args
   | none=>.fail 150
 | b=>match builtinA T st.hp b ts args with
   | some (v,h)=>if appOk base b args then .ok (v,{ st with hp:=h }) else .fail 81
   | none=>match b,args with
     | .len,[x]=>(match ts with | t::_=>lenS T st t x | []=>.fail 82)
     | .max,x::l=>ofO st 83 (mm .gtr x l)
     | .min,x::l=>ofO st 84 (mm .lss x l)
     | _,_=>.fail 85
def frzS (st:SSt) (base:Nat):Nat→AV→AV
 | 0,v=>v
 | n+1,v =>
   match v with
   | .agg cs=>.agg (frzRow (frzS st base n) cs)
   | .tuple vs=>.tuple (frzRow (frzS st base n) vs)
   | .func fn a b=>.func fn (frzRow (frzS st base n) a) (frzRow (frzS st base n) b)
   | .ms b off len =>
     if base≤b then
      match st.hp.get b with
      | some (.cells k rows)=>frzSl v k off len rows (((rows.drop off).take len).map (frzRow (frzS st base n)))
      | _=>v
     else v
   | .ptr b i o =>
     if base≤b then
      match st.hp.get b with
      | some (.cells _ rows)=>match nth rows i with
        | some r=>frzRef v ((frzRow (frzS st base n) r).drop o)
        | none=>v
      | _=>v
     else v
   | .mp b =>
     if base≤b then
      match st.hp.get b with
      | some (.map es)=>frzIm v (es.map fun e=>(e.1,frzS st base n e.2))
      | _=>v
     else v
   | .sym (.own t cs) e=>if base≤t then (match lookS st.sb t with
     | some (.rows cs' e')=>if Sh.eqbs cs cs'&&e.eqb e' then .sym (.sl cs) e' else v
     | _=>v) else v
   | .sym (.mown t k ag cs) _=>if base≤t then (match lookS st.sb t with
     | some (.mp k' ag' cs' e')=>if Sh.eqb k k'&&(ag == ag')&&Sh.eqbs cs cs' then .sym (.im k ag cs) e' else v
     | _=>v) else v
   | v=>v
abbrev InvS:=Fn→List AV→SSt→Te (AV × SSt)
def callS (cx:Cx) (inv:InvS) (base:Nat) (ev:Ev) (st:SSt) (c:Call):Te (AV × SSt) :=
 match evalsA ev c.args.toList with
 | none=>.fail 90
 | some args =>
   match c.callee with
   | .value f=>match ev f with
     | some (.func (.func f) first captured)=>inv (.func f) (first++args++captured) st
     | some (.yld l)=>inv (.yield l) args st
     | _=>.fail 91
   | .builtin b=>builtinS cx.T base st b c.argTypes.toList args
   | .invoke _ _=>.fail 92
def doOpS (cx:Cx) (inv:InvS) (base:Nat) (ev:Ev) (st:SSt) (op:Op):Te (AV × SSt) :=
 match op with
 | .call c=>callS cx inv base ev st c
 | op=>opS cx.T base ev st op
inductive Wt where
 | yes
 | no
 | ask (e:X) (want:Bool)
 | bad
def wantedS (M:Nat) (ops:Array Oper) (o:Oper) (s:Sl) (st:SSt):Wt :=
 match o.guard with
 | none=>.yes
 | some (j,want) =>
   match (ops[j]?).bind (·.dst) with
   | some d=>match slotA M s.fr s.loc d with
     | some (.bool b)=>if b == want then .yes else .no
     | some (.tuple [])=>.no
     | some (.sym .bool e)=>match factOf st.fx e with
       | some b=>if b == want then .yes else .no
       | none=>.ask e want
     | _=>.bad
   | none=>.bad
def runOpsS (cx:Cx) (inv:InvS) (base M:Nat) (ops:Array Oper):List Oper→Sl→SSt→Te (Sl × SSt)
 | [],s,st=>.ok (s,st)
 | o::os,s,st =>
   match wantedS M ops o s st with
   | .yes=>(doOpS cx inv base (evS M s.fr s.loc) st o.op).bind fun r=>runOpsS cx inv base M ops os (putA M s o.dst r.1) r.2
   | .no=>runOpsS cx inv base M ops os (putA M s o.dst undefA) st
   | .ask e want =>
     let y:=fun st=>(doOpS cx inv base (evS M s.fr s.loc) st o.op).bind fun r=>runOpsS cx inv base M ops os (putA M s o.dst r.1) r.2
     let n:=fun st=>runOpsS cx inv base M ops os (putA M s o.dst undefA) st
     if want then .ite e (y (st.fact e true)) (n (st.fact e false)) else .ite e (n (st.fact e true)) (y (st.fact e false))
   | .bad=>.fail 93
def hdX:Nat→X→X
 | n+1,.p (.setc _) (a::_::_)=>hdX n a
 | n+1,.p .whole [a,_]=>hdX n a
 | _,e=>e
structure RecS where
 read:Option (Nat × Bool × Option X)
 act:Option (SSt × SSt)
def readS (st:SSt) (full:Bool) (v:AV):Option (Option (Nat × Bool × Option X) × Bool) :=
 match v with
 | .ptr b _ _=>some (some (b,full,none),false)
 | .ms b _ _=>some (some (b,full,none),false)
 | .mp b=>some (some (b,full,none),false)
 | .sym (.own t _) e=>match lookS st.sb t with
   | some (.rows _ e')=>if e.eqb e' || (!full&&(hdX 99 e).eqb (hdX 99 e')) then some (some (t,full,some e'),false) else none
   | _=>none
 | .sym (.optr t _ _) _=>match lookS st.sb t with
   | some (.rows _ e')=>some (some (t,full,some e'),true)
   | _=>none
 | .sym (.mown t _ _ _) _=>some (some (t,full,none),false)
 | _=>some (none,false)
def looksS (ev:Ev) (st:SSt):Op→Option (Option (Nat × Bool × Option X) × Bool)
 | .load _ a=>match ev a with | some v=>readS st true v | none=>none
 | .indexAddr _ x _=>match ev x with | some v=>readS st false v | none=>none
 | .slice _ x _ _ _=>match ev x with | some v=>readS st true v | none=>none
 | .lookup _ m _ _=>match ev m with | some v=>readS st true v | none=>none
 | .call c=>match evalsA ev c.args.toList with
   | some [x]=>readS st true x
   | some _=>some (none,false)
   | none=>none
 | _=>some (none,false)
mutual
def Sh.self:Sh→Bool
 | .bool | .int _ | .str=>true
 | .sl cs=>Sh.selfs cs
 | .own _ cs=>Sh.selfs cs
 | .optr _ _ _=>true
 | _=>false
def Sh.selfs:List Sh→Bool
 | []=>true
 | c::cs=>c.self&&Sh.selfs cs
end
mutual
def AV.self:AV→Bool
 | .bool _ | .int _ _ | .str _ | .nilp | .ptr _ _ _ | .it _ | .nils | .ms _ _ _ | .nilm | .mp _ | .nilf | .nili=>true
 | .agg a=>AV.selfs a
 | .tuple a=>AV.selfs a
 | .ref a=>AV.selfs a
 | .sl _ r=>AV.selfss r
 | .func _ a b=>AV.selfs a&&AV.selfs b
 | .sym s _=>s.self
 | _=>false
def AV.selfs:List AV→Bool
 | []=>true
 | a::as=>a.self&&AV.selfs as
def AV.selfss:List (List AV)→Bool
 | []=>true
 | a::as=>AV.selfs a&&AV.selfss as
end
def sameS (b:Nat) (oe:Option X) (x y:SSt):Bool :=
 match oe with
 | none=>match x.hp.get b,y.hp.get b with
   | some (.cells j u),some (.cells k v)=>j == k&&AV.eqbss u v&&AV.selfss u
   | _,_=>match lookS x.sb b,lookS y.sb b with
     | some (.mp k ag cs e),some (.mp _ _ _ e')=>k.self&&Sh.selfs cs&&e.eqb e'
     | _,_=>false
 | some e=>match lookS x.sb b,lookS y.sb b with
   | some (.rows cs f),some (.rows cs' f')=>Sh.selfs cs&&e.eqb f&&e.eqb f'
   | _,_=>false
def sizS (b:Nat) (oe:Option X) (x y:SSt):Bool :=
 match oe with
 | none=>false
 | some e=>match lookS x.sb b,lookS y.sb b with
   | some (.rows cs f),some (.rows cs' f')=>cs.length == cs'.length&&(hdX 99 e).eqb (hdX 99 f)&&(hdX 99 e).eqb (hdX 99 f')
   | _,_=>false
def hoistS (T:Tab):List Oper→Hp→Option (List AV × Hp)
 | [],h=>some ([],h)
 | o::os,h =>
   match o.op with
   | .alloc e =>
     if o.guard.isNone then
      match opAlloc T h e with
      | some (v,h')=>match hoistS T os h' with
        | some (vs,h'')=>some (v::vs,h'')
        | none=>none
      | none=>none
     else none
   | _=>match hoistS T os h with
     | some (vs,h'')=>some (undefA::vs,h'')
     | none=>none
def puOp (T:Tab) (ev:Ev):Op→Bool
 | .call c=>(match c.callee with
   | .value f=>(match ev f with
     | some (.func (.func g) _ _)=>T.pu g
     | _=>true)
   | _=>false)
 | _=>false
def drawYes (cx:Cx) (inv:InvS) (base M:Nat) (o:Oper) (pre:AV) (s:Sl) (st:SSt):Te (AV × SSt × RecS) :=
 if isAlloc o.op then .ok (pre,st,⟨none,none⟩)
 else if quietOp o.op then
  match looksS (evS M s.fr s.loc) st o.op with
  | some (rd,nd)=>(doOpS cx inv base (evS M s.fr s.loc) st o.op).bind fun r =>
    if r.2.hp.nx=st.hp.nx then
     match rd,nd with
     | some (_,_,some e),true=>needT (.p .not [.p .isNil [e]]) { st with fx:=r.2.fx } fun st=>.ok (r.1,st,⟨rd,none⟩)
     | _,_=>.ok (r.1,{ st with fx:=r.2.fx },⟨rd,none⟩)
    else .fail 116
  | none=>.fail 117
 else if puOp cx.T (evS M s.fr s.loc) o.op then
  if calmOp cx.T (evS M s.fr s.loc) o.op then (doOpS cx inv base (evS M s.fr s.loc) st o.op).bind fun r=>if r.2.hp.nx=st.hp.nx then .ok (r.1,{ st with fx:=r.2.fx },⟨none,none⟩) else .fail 116
  else .fail 151
 else (doOpS cx inv base (evS M s.fr s.loc) st o.op).bind fun r=>.ok (r.1,r.2,⟨none,some (st,r.2)⟩)
def runDrawS (cx:Cx) (inv:InvS) (base M:Nat) (ops:Array Oper):List Oper→List AV→Sl→SSt→Te (Sl × SSt × List RecS)
 | o::os,pre::pres,s,st =>
   let y:=fun st=>(drawYes cx inv base M o pre s st).bind fun r =>
    (runDrawS cx inv base M ops os pres (putA M s o.dst r.1) r.2.1).bind fun q=>.ok (q.1,q.2.1,r.2.2::q.2.2)
   let n:=fun st=>(runDrawS cx inv base M ops os pres (putA M s o.dst undefA) st).bind fun q=>.ok (q.1,q.2.1,⟨none,none⟩::q.2.2)
   match wantedS M ops o s st with
   | .yes=>y st
   | .no=>n st
   | .ask e want=>if want then .ite e (y (st.fact e true)) (n (st.fact e false)) else .ite e (n (st.fact e true)) (y (st.fact e false))
   | .bad=>.fail 94
 | [],_,s,st=>.ok (s,st,[])
 | _,[],_,_=>.fail 95
def actsS (B:Array Nat) (i b:Nat) (full:Bool) (oe:Option X):Nat→List RecS→Bool
 | _,[]=>true
 | j,⟨_,some (x,y)⟩::rs=>(sameS b oe x y || (!full&&sizS b oe x y) || ordered B i j)&&actsS B i b full oe (j+1) rs
 | j,⟨_,none⟩::rs=>actsS B i b full oe (j+1) rs
def recsS (B:Array Nat) (all:List RecS):Nat→List RecS→Bool
 | _,[]=>true
 | i,⟨some (b,full,oe),_⟩::rs=>actsS B i b full oe 0 all&&recsS B all (i+1) rs
 | i,⟨none,_⟩::rs=>recsS B all (i+1) rs
def pairs1S (B:Array Nat) (i:Nat):Nat→List RecS→Bool
 | _,[]=>true
 | j,⟨_,some _⟩::rs=>ordered B i j&&pairs1S B i (j+1) rs
 | j,⟨_,none⟩::rs=>pairs1S B i (j+1) rs
def pairsS (B:Array Nat):Nat→List RecS→Bool
 | _,[]=>true
 | i,⟨_,some _⟩::rs=>pairs1S B i (i+1) rs&&pairsS B (i+1) rs
 | i,⟨_,none⟩::rs=>pairsS B (i+1) rs
def drawS (cx:Cx) (inv:InvS) (base M:Nat) (ops:Array Oper) (fr:List AV) (st:SSt):Te (List AV × SSt) :=
 match hoistS cx.T ops.toList st.hp with
 | some (pres,h1)=>(runDrawS cx inv base M ops ops.toList pres ⟨fr,[]⟩ { st with hp:=h1 }).bind fun r =>
   if (recsS (Region.before ops) r.2.2 0 r.2.2&&pairsS (Region.before ops) 0 r.2.2)=true then .ok (r.1.fr,r.2.1) else .fail 96
 | none=>.fail 97
def regionS (cx:Cx) (inv:InvS) (base M:Nat) (ops:Array Oper) (draw:Bool) (fr:List AV) (st:SSt):Te (List AV × SSt) :=
 Te.fold (mgFr fun b=>decide (b < st.hp.nx)) (if draw then drawS cx inv base M ops fr st else (runOpsS cx inv base M ops ops.toList ⟨fr,[]⟩ st).bind fun r=>.ok (r.1.fr,r.2))
def freshO (sb:List (Nat × SB)):AV→AV
 | .sym (.own t cs) e=>(match lookS sb t with
   | some (.rows cs' e')=>if Sh.eqbs cs cs'&&(hdX 99 e).eqb (hdX 99 e') then .sym (.own t cs) e' else .sym (.own t cs) e
   | _=>.sym (.own t cs) e)
 | v=>v
def SB.stored:SB→Bool
 | .rows _ (.p (.setc _) _)=>true
 | .rows _ (.p .whole _)=>true
 | _=>false
def freshF (sb:List (Nat × SB)) (fr:List AV):List AV:=if sb.any (fun b=>b.2.stored) then fr.map (freshO sb) else fr
def Blk.liveS:Blk→Bool
 | .cells _ _ | .map _ | .siter _ _ | .loop .. | .dfr _=>true
 | _=>false
def fzVS (st:SSt) (u:Nat) (cs:List Sh) (e':X):AV→AV
 | .sym (.own t cs2) e =>
   if t=u then (if Sh.eqbs cs cs2&&(hdX 99 e).eqb (hdX 99 e') then .sym (.sl cs) e' else .junk)
   else (match lookS st.sb t with
    | some (.rows _ e2)=>if (hdX 99 e).eqb (hdX 99 e2) then .sym (.own t cs2) e else .junk
    | _=>.junk)
 | .ms c off len=>(match st.hp.get c with
   | some B=>if B.liveS then .ms c off len else .junk
   | none=>.junk)
 | v=>v
def fzSlotS (M:Nat) (r:List AV × SSt) (t:Nat):Te (List AV × SSt) :=
 if M.testBit t then .ok r else match nth r.1 t with
 | some (.sym (.own u cs) e)=>(match lookS r.2.sb u with
   | some (.rows cs' e')=>if Sh.eqbs cs cs'&&(hdX 99 e).eqb (hdX 99 e') then .ok (r.1.map (fzVS r.2 u cs e'),{ r.2 with sb:=dropS r.2.sb u }) else .fail 130
   | _=>.fail 131)
 | some (.ms _ _ _)=>.fail 132
 | some .junk=>.fail 133
 | _=>.ok r
def fzFoldS (M:Nat):List Nat→List AV × SSt→Te (List AV × SSt)
 | [],r=>.ok r
 | t::l,r=>(fzSlotS M r t).bind (fzFoldS M l)
abbrev OutS:=Te (Ex × List AV × SSt)
def iterS (body:List AV→SSt→OutS):Nat→List AV→SSt→OutS
 | 0,_,_=>.fail 98
 | k+1,fr,st=>(body fr st).bind fun r =>
   match r.1 with
   | .normal=>iterS body k (norm fr r.2.1) r.2.2
   | .exit id=>.ok (.exit id,norm fr r.2.1,r.2.2)
   | .ret=>.ok r
def keyOf:Code→Option Nat
 | .region id _ _=>some id
 | .seq a b=>match keyOf a with | some k=>some k | none=>keyOf b
 | .cond _ a b=>match keyOf a with | some k=>some k | none=>keyOf b
 | .block _ c | .loop c | .scope c=>keyOf c
 | _=>none
def lookN {α:Type}:List (Nat × α)→Nat→Option α
 | [],_=>none
 | (c,x)::l,b=>if b=c then some x else lookN l b
def fixOf (fix:List (Nat × List (Nat × Nat))) (tag:Nat):List (Nat × Nat):=match lookN fix tag with | some m=>m | none=>[]
def loopVar (m:List (Nat × Nat)) (xs:List X) (e:X) (j:Nat):X :=
 match lookN m j with
 | some i=>(match nth xs i with | some x=>x | none=>.p (.proj (j+1)) [e])
 | none=>.p (.proj (j+1)) [e]
def outsS (fix:List (Nat × List (Nat × Nat))) (xs:List X) (e:X) (fx:List (X × Bool)):Nat→List (Ex × Nat × List AV × SSt)→OutS
 | _,[]=>.fail 99
 | tag,(ex,_,fr,st)::l =>
   let leaf:=(ex,AV.subL (loopVar (fixOf fix tag) xs e) fr,st.sub (loopVar (fixOf fix tag) xs e) fx)
   let c:X:=.p (.bin .eql .i64) [.p (.proj 0) [e],xI tag]
   match l with
   | []=>.need c (.ok leaf)
   | l=>.ite c (.ok leaf) (outsS fix xs e fx (tag+1) l)
def loopId:Nat:=100000
def loopS (L:LSpec) (fr:List AV) (st:SSt):OutS :=
 match st.hp.rest with
 | [[]]=>match matchSt 0 L.nv L.fr L.st fr st with
   | some (xs,_)=>outsS L.fix xs (.p (.call loopId L.id) xs) st.fx 1 L.outs
   | none=>.fail 100
 | _=>.fail 101
def condT (c:X) (st:SSt) (x y:SSt→OutS):OutS :=
 match factOf st.fx c with
 | some true=>x st
 | some false=>y st
 | none=>Te.join (mgEx fun b=>decide (b < st.hp.nx)) c (x (st.fact c true)) (y (st.fact c false))
def execS (cx:Cx) (inv:InvS) (k base M:Nat):Code→List AV→SSt→OutS
 | .skip,fr,st=>.ok (.normal,fr,st)
 | .region _ ops draw,fr,st=>(fzFoldS M (fzSlots cx.T ops) (fr,st)).bind fun s=>(regionS cx inv base M ops draw s.1 s.2).bind fun r=>.ok (.normal,freshF r.2.sb r.1,r.2)
 | .seq a b,fr,st=>(execS cx inv k base M a fr st).bind fun r =>
   match r.1 with
   | .normal=>execS cx inv k base M b r.2.1 r.2.2
   | _=>.ok r
 | .cond c x y,fr,st =>
   match evS M fr [] c with
   | some (.bool true)=>execS cx inv k base M x fr st
   | some (.bool false)=>execS cx inv k base M y fr st
   | some (.sym .bool e)=>condT e st (execS cx inv k base M x fr) (execS cx inv k base M y fr)
   | _=>.fail 102
 | .block id c,fr,st=>Te.fold (mgEx fun b=>decide (b < st.hp.nx)) ((execS cx inv k base M c fr st).bind fun r =>
   match r.1 with
   | .exit id'=>if id'=id then .ok (.normal,r.2) else .ok r
   | _=>.ok r)
 | .loop c,fr,st =>
   match cx.loops ((keyOf c).getD 0) with
   | .unroll=>iterS (execS cx inv k base M c) k (norm fr fr) st
   | .probe=>.ok (.exit (1000000+(keyOf c).getD 0),norm fr fr,st)
   | .spec L=>loopS L (norm fr fr) st
 | .exit id,fr,st=>.ok (.exit id,fr,st)
 | .scope c,fr,st=>execS cx inv k base M c fr st
 | .label _,fr,st=>.ok (.normal,fr,st)
 | .ret,fr,st=>.ok (.ret,fr,st)
 | _,_,_=>.fail 103
def tryInst (st:SSt) (args:List AV) (I:Inst):Option (List X) :=
 let as:=args.map (frzS st 0 12)
 if (mxs args == 0 || I.rs.all (·.flat))&&AV.cls as then
  match mtcs st.hp 0 [] I.pats as with
  | some a=>inOrder a.xs
  | none=>none
 else none
def tryInsts (st:SSt) (args:List AV):List Inst→Option (Inst × List X)
 | []=>none
 | I::l=>match tryInst st args I with
   | some xs=>some (I,xs)
   | none=>tryInsts st args l
def dropB (base:Nat):List (Nat × SB)→List (Nat × SB)
 | []=>[]
 | (t,b)::l=>if t < base then (t,b)::dropB base l else dropB base l
def leaveS (h:SSt) (v:AV) (h':SSt):Te (AV × SSt) :=
 match h'.hp.rest with
 | t::rs =>
   let v':=frzS h' h.hp.nx 12 v
   if v'.cl=true∧lkOk h.hp.nx h'.hp.lk=true then
    .ok (v',⟨{ nx:=h.hp.nx,top:=t,rest:=rs,lk:=h.hp.lk },dropB h.hp.nx h'.sb,h'.fx⟩)
   else .fail 104
 | []=>.fail 105
def resultS (T:Tab) (M:Nat) (st:SSt) (tmps:List AV):ResultVar→Te AV
 | .tmp t=>match slotA M tmps [] t with
   | some .junk=>.fail 106
   | some v=>.ok v
   | none=>.fail 107
 | .cell a t=>match slotA M tmps [] a with
   | some .junk=>.fail 108
   | some x=>match loadA T st.hp t x with
     | some v=>.ok v
     | none=>.fail 109
   | none=>.fail 110
def resultsS (T:Tab) (M:Nat) (st:SSt) (tmps:List AV):List ResultVar→Te (List AV)
 | []=>.ok []
 | r::rs=>(resultS T M st tmps r).bind fun v=>(resultsS T M st tmps rs).bind fun vs=>.ok (v::vs)
def SSt.enter (st:SSt):SSt:={ st with hp:=st.hp.enter }
def noRF:Code→Bool
 | .seq a b=>noRF a&&noRF b
 | .cond _ a b=>noRF a&&noRF b
 | .block _ c=>noRF c
 | .loop c=>noRF c
 | .scope c=>noRF c
 | .rangeFunc ..=>false
 | _=>true
def mskOk (u:Nat):Nat→List AV→Bool
 | _,[]=>true
 | i,a::l=>(!u.testBit i || (match a with | .junk=>false | _=>true))&&mskOk u (i+1) l
abbrev OutR:=Te (Ex × List AV × SSt × List Nat)
def endRF (d l:Nat) (fr:List AV) (st:SSt):OutR :=
 match st.hp.get l with
 | some (.loop mk tm ps as bd s pend d') =>
   if s = .busy then .fail 170
   else match pend with
    | none=>.ok (.normal,fr,{ st with hp:=st.hp.set l (.loop mk tm ps as bd .exhausted pend d') },[d])
    | some .ret=>.ok (.ret,fr,{ st with hp:=st.hp.set l (.loop mk tm ps as bd .exhausted pend d') },[d])
    | some (.exit id)=>.ok (.exit id,fr,{ st with hp:=st.hp.set l (.loop mk tm ps as bd .exhausted pend d') },[d])
    | some _=>.fail 171
 | _=>.fail 172
def rfS (inv:InvS) (M:Nat) (f:Operand) (params:List Tmp) (assign body:Code) (fr:List AV) (st:SSt):OutR :=
 if mskOk (needS params assign body) 0 fr then
  match evS M fr [] f with
  | some (.func (.func g) first captured) =>
    (inv (.func g) (first++[.yld (st.hp.nx+1)]++captured) { st with hp:=(st.hp.push (.dfr false)).push (.loop M (msk (needS params assign body) 0 fr) params assign body .ready none st.hp.nx) }).bind fun r=>endRF st.hp.nx (st.hp.nx+1) fr r.2
  | _=>.fail 173
 else .fail 174
def execR (cx:Cx) (inv:InvS) (k base M:Nat):Code→List AV→SSt→OutR
 | .seq a b,fr,st =>
   if noRF a then (execS cx inv k base M a fr st).bind fun r =>
    match r.1 with
    | .normal=>execR cx inv k base M b r.2.1 r.2.2
    | _=>.ok (r.1,r.2.1,r.2.2,[])
   else (execR cx inv k base M a fr st).bind fun r =>
    match r.1 with
    | .normal=>if noRF b then (execS cx inv k base M b r.2.1 r.2.2.1).bind fun q=>.ok (q.1,q.2.1,q.2.2,r.2.2.2) else .fail 175
    | _=>.ok r
 | .block id c,fr,st=>(execR cx inv k base M c fr st).bind fun r =>
   match r.1 with
   | .exit id'=>if id'=id then .ok (.normal,r.2) else .ok r
   | _=>.ok r
 | .scope c,fr,st=>execR cx inv k base M c fr st
 | .rangeFunc f ps as bd,fr,st=>rfS inv M f ps.toList as bd fr st
 | _,_,_=>.fail 176
def closeS:List Nat→SSt→Te SSt
 | [],st=>.ok st
 | d::ds,st=>match st.hp.get d with
   | some (.dfr false)=>closeS ds { st with hp:=st.hp.set d .dead }
   | _=>.fail 177
def bodyS (cx:Cx) (inv:InvS) (k:Nat) (f:FuncId) (args:List AV) (st:SSt):Te (AV × SSt) :=
 match cx.T.fn.get f with
 | some e=>if cx.keep f then .fail 115 else match e.fn.body with
   | some code =>
     if noRF code then
     (execS cx inv k st.hp.nx e.loc code (args++List.replicate (e.fn.ntmps - args.length) undefA) st.enter).bind fun r =>
      match r.1 with
      | .exit _=>.fail 111
      | _=>(resultsS cx.T e.loc r.2.2 r.2.1 e.fn.results.toList).bind fun vs=>leaveS st (oneOf vs) r.2.2
     else
     (execR { cx with loops:=fun _=>.unroll } inv k st.hp.nx e.loc code (args++List.replicate (e.fn.ntmps - args.length) undefA) st.enter).bind fun r =>
      match r.1 with
      | .exit _=>.fail 111
      | _=>(closeS r.2.2.2 r.2.2.1).bind fun st2=>(resultsS cx.T e.loc st2 r.2.1 e.fn.results.toList).bind fun vs=>leaveS st (oneOf vs) st2
   | none=>.fail 112
 | none=>.fail 113
def endY (st:SSt) (l:Nat) (ex:Ex) (st2:SSt):Te (AV × SSt) :=
 match st2.hp.get l with
 | some (.loop mk tm ps as bd _ _ d) =>
   match ex with
   | .normal=>leaveS st (.bool true) { st2 with hp:=st2.hp.set l (.loop mk tm ps as bd .ready none d) }
   | .ret=>leaveS st (.bool false) { st2 with hp:=st2.hp.set l (.loop mk tm ps as bd .done (some .ret) d) }
   | .exit id=>leaveS st (.bool false) { st2 with hp:=st2.hp.set l (.loop mk tm ps as bd .done (some (.exit id)) d) }
 | _=>.fail 180
def roundS (cx:Cx) (inv:InvS) (k:Nat) (l:Nat) (args:List AV) (st:SSt):Te (AV × SSt) :=
 match st.hp.get l with
 | some (.loop M tm ps as bd _ _ _) =>
   if args.length=ps.length∧noRF as=true∧noRF bd=true then
    (execS cx inv k st.hp.nx M as (setParams tm ps args) st.enter).bind fun r =>
     match r.1,r.2.2.hp.get l with
     | .normal,some (.loop mk tm ps as' bd' .ready pend d) =>
       (execS cx inv k st.hp.nx M bd r.2.1 { r.2.2 with hp:=r.2.2.hp.set l (.loop mk tm ps as' bd' .busy pend d) }).bind fun s=>endY st l s.1 s.2.2
     | _,_=>.fail 181
   else .fail 182
 | _=>.fail 183
def ipS (cx:Cx) (p:IpF) (f:FuncId) (args:List AV) (st:SSt):Te (AV × SSt) :=
 match args,cx.insts f with
 | [.sym (.own t cs) e],I::_=>match lookS st.sb t with
   | some (.rows cs' e') =>
     if Sh.eqbs cs [.int .i64]&&Sh.eqbs cs' [.int .i64]&&(hdX 99 e).eqb (hdX 99 e') then
      needT (.p .not [.p .isNil [e']]) st fun st =>
      needT (.p (.okr [.one (.sl [.int .i64])]) [.p (.call I.f I.n) [e']]) st fun st =>
       if p.eat then .ok (.sym (.sl [.int .i64]) (.p (.call I.f I.n) [e']),{ st with sb:=dropS st.sb t })
       else needT (.p (.bin .eql .i64) [xLen e',xLen (.p (.call I.f I.n) [e'])]) st fun st=>.ok (undefA,{ st with sb:=updS st.sb t (.rows [.int .i64] (.p .whole [e',.p (.call I.f I.n) [e']])) })
     else .fail 140
   | _=>.fail 141
 | _,_=>.fail 142
def gpS (cx:Cx) (p:GpF) (f:FuncId) (args:List AV) (st:SSt):Te (AV × SSt) :=
 match args,cx.insts f with
 | .sym (.own t cs) e::more,_::_=>match lookS st.sb t with
   | some (.rows cs' e') =>
     if Sh.eqbs cs p.cs&&Sh.eqbs cs' p.cs&&(hdX 99 e).eqb (hdX 99 e')&&p.cs.all (·.flat)&&AV.cls (more.map (frzS { st with sb:=dropS st.sb t } 0 12)) then
      match mtcs st.hp 0 [] p.pats (.sym (.sl p.cs) e'::more.map (frzS { st with sb:=dropS st.sb t } 0 12)) with
      | some a=>match inOrder a.xs with
        | some xs =>
          needT (.p (.okr [.one (.sl p.cs)]) [.p (.call f p.n) xs]) st fun st =>
          needT (.p (.bin .eql .i64) [xLen e',xLen (.p (.call f p.n) xs)]) st fun st =>
          needT (.p .beq [.p .isNil [e'],.p .isNil [.p (.call f p.n) xs]]) st fun st =>
           .ok (undefA,{ st with sb:=updS st.sb t (.rows p.cs (.p .whole [e',.p (.call f p.n) xs])) })
        | none=>.fail 161
      | none=>.fail 162
     else .fail 163
   | _=>.fail 164
 | _,_=>.fail 165
def frS (cx:Cx) (p:GpF) (f:FuncId) (args:List AV) (st:SSt):Te (AV × SSt) :=
 match cx.insts f with
 | _::_ =>
   if AV.cls (args.map (frzS st 0 12))&&p.cs.all (·.flat) then
    match mtcs st.hp 0 [] p.pats (args.map (frzS st 0 12)) with
    | some a=>match inOrder a.xs with
      | some xs=>needT (.p (.okr [.one (.sl p.cs)]) [.p (.call f p.n) xs]) st fun st=>.ok (.sym (.own st.hp.nx p.cs) (.p (.call f p.n) xs),st.make (.rows p.cs (.p (.call f p.n) xs)))
      | none=>.fail 191
    | none=>.fail 192
   else .fail 193
 | _=>.fail 194
def invS (cx:Cx):Nat→InvS
 | 0,_,_,_=>.fail 114
 | k+1,.yield l,args,st=>roundS { cx with loops:=fun _=>.unroll } (invS cx k) k l args st
 | k+1,.func f,args,st =>
  match cx.T.fr f with
  | some p=>if cx.T.pu f then .fail 152 else frS cx p f args st
  | none =>
  match cx.T.gp f with
  | some p=>if cx.T.pu f then .fail 152 else gpS cx p f args st
  | none =>
  match cx.T.ip f with
  | some p=>if cx.T.pu f then .fail 152 else ipS cx p f args st
  | none =>
   match cx.insts f with
   | i::is=>match tryInsts st args (i::is) with
     | some (I,xs) =>
       let e:X:=.p (.call I.f I.n) xs
       needT (.p (.okr I.rs) [e]) st fun st=>.ok (resT e I.rs,st)
     | none=>.fail 118
   | []=>if cx.T.pu f then .fail 152 else Te.fold (mgV fun b=>decide (b < st.hp.nx)) (bodyS { cx with loops:=fun _=>.unroll } (invS cx k) k f args st)
 | _,_,_,_=>.fail 119
def s0:SSt:=⟨⟨0,[],[],none⟩,[],[]⟩
def unitS (cx:Cx) (k:Nat) (f:FuncId) (pats:List AV):Te (AV × SSt):=Te.fold (mgV fun _=>false) (bodyS cx (invS cx k) k f pats s0)
inductive LEnd where
 | again (ys:List X)
 | out (tag:Nat) (zs:List X)
def outOf (r:Ex × List AV × SSt):Nat→List (Ex × Nat × List AV × SSt)→Option LEnd
 | _,[]=>none
 | tag,(ex,n,fr,st)::l =>
   if r.1=ex then match matchSt 0 n fr st r.2.1 r.2.2 with
    | some (zs,_)=>some (.out tag zs)
    | none=>none
   else outOf r (tag+1) l
def endOf (L:LSpec) (r:Ex × List AV × SSt):Option LEnd :=
 match r.1 with
 | .normal=>match matchSt 0 L.nv L.fr L.st (norm L.fr r.2.1) r.2.2 with
   | some (ys,_)=>some (.again ys)
   | none=>none
 | .exit id=>outOf (.exit id,norm L.fr r.2.1,r.2.2) 1 L.outs
 | .ret=>outOf r 1 L.outs
def stays (i:Nat) (ys:List X):Bool:=match nth ys i with | some (.v k)=>k == i | _=>false
def fixEnd (fix:List (Nat × List (Nat × Nat))):LEnd→Bool
 | .again ys=>fix.all fun e=>e.2.all fun m=>stays m.2 ys
 | .out tag zs=>(fixOf fix tag).all fun m=>match nth zs m.1 with | some (.v k)=>k == m.2 | _=>false
def fixOk (fix:List (Nat × List (Nat × Nat))):Te LEnd→Bool
 | .ok e=>fixEnd fix e
 | .fail _=>true
 | .need _ t=>fixOk fix t
 | .ite _ a b=>fixOk fix a&&fixOk fix b
def loopT (cx:Cx) (n k M:Nat) (L:LSpec) (c:Code):Te LEnd :=
 (execS cx (invS cx n) k 0 M c L.fr L.st).bind fun r=>match endOf L r with
  | some e=>.ok e
  | none=>.fail 120
def unitT (cx:Cx) (k:Nat) (f:FuncId) (pats:List AV):Te AV:=(unitS cx k f pats).bind fun r=>.ok r.1
mutual
theorem Sh.eqb_eq:∀ {a b:Sh},Sh.eqb a b=true→a=b:=by
 intro a b h
 cases a<;>cases b<;>simp only [Sh.eqb,Bool.and_eq_true,beq_iff_eq,decide_eq_true_eq] at h<;>try (cases h; done)
 ·rfl
 ·subst h; rfl
 ·rfl
 ·rw [Sh.eqbs_eq h]
 ·obtain ⟨⟨h1,h2⟩,h3⟩:=h; rw [Sh.eqb_eq h1,h2,Sh.eqbs_eq h3]
 ·obtain ⟨h1,h3⟩:=h; rw [h1,Sh.eqbs_eq h3]
 ·obtain ⟨⟨h1,h2⟩,h3⟩:=h; rw [h1,h2,Sh.eqbs_eq h3]
 ·obtain ⟨⟨⟨h1,h2⟩,h4⟩,h3⟩:=h; rw [h1,Sh.eqb_eq h2,h4,Sh.eqbs_eq h3]
 ·subst h; rfl
theorem Sh.eqbs_eq:∀ {a b:List Sh},Sh.eqbs a b=true→a=b:=by
 intro a b h
 cases a<;>cases b<;>simp only [Sh.eqbs,Bool.and_eq_true] at h<;>try (cases h; done)
 ·rfl
 ·rw [Sh.eqb_eq h.1,Sh.eqbs_eq h.2]
end
theorem RS.eqb_eq {a b:RS} (h:RS.eqb a b=true):a=b:=by
 cases a<;>cases b<;>simp only [RS.eqb] at h<;>first
  | (cases h; done)
  | rw [Sh.eqb_eq h]
  | rw [Sh.eqbs_eq h]
theorem RS.eqbs_eq:∀ {a b:List RS},RS.eqbs a b=true→a=b
 | [],[],_=>rfl
 | [],_::_,h=>by cases h
 | _::_,[],h=>by cases h
 | a::as,b::bs,h=>by simp only [RS.eqbs,Bool.and_eq_true] at h; rw [RS.eqb_eq h.1,RS.eqbs_eq h.2]
theorem Pr.eqb_eq {a b:Pr} (h:Pr.eqb a b=true):a=b:=by
 cases a<;>cases b<;>simp only [Pr.eqb,Bool.and_eq_true,beq_iff_eq,decide_eq_true_eq] at h<;>first
  | rfl
  | (cases h; done)
  | (rw [RS.eqbs_eq h]; done)
  | (subst h; rfl)
  | (obtain ⟨h1,h2⟩:=h; subst h1; subst h2; rfl)
mutual
theorem X.eqb_eq:∀ {a b:X},X.eqb a b=true→a=b:=by
 intro a b h
 cases a<;>cases b<;>simp only [X.eqb,Bool.and_eq_true,beq_iff_eq,decide_eq_true_eq] at h<;>try (cases h; done)
 ·subst h; rfl
 ·subst h; rfl
 ·obtain ⟨h1,h2⟩:=h; subst h1; subst h2; rfl
 ·subst h; rfl
 ·rfl
 ·rw [h.1,X.eqbss_eq h.2]
 ·rw [X.eqbs_eq h]
 ·rw [Pr.eqb_eq h.1,X.eqbs_eq h.2]
theorem X.eqbs_eq:∀ {a b:List X},X.eqbs a b=true→a=b:=by
 intro a b h
 cases a<;>cases b<;>simp only [X.eqbs,Bool.and_eq_true] at h<;>try (cases h; done)
 ·rfl
 ·rw [X.eqb_eq h.1,X.eqbs_eq h.2]
theorem X.eqbss_eq:∀ {a b:List (List X)},X.eqbss a b=true→a=b:=by
 intro a b h
 cases a<;>cases b<;>simp only [X.eqbss,Bool.and_eq_true] at h<;>try (cases h; done)
 ·rfl
 ·rw [X.eqbs_eq h.1,X.eqbss_eq h.2]
end
mutual
theorem AV.eqb_eq:∀ (a b:AV),AV.eqb a b=true→a=b
 | .junk,b,h=>by cases b<;>simp [AV.eqb] at h; rfl
 | .bool _,b,h=>by cases b<;>simp [AV.eqb] at h; subst h; rfl
 | .int _ _,b,h=>by cases b<;>simp [AV.eqb] at h; obtain ⟨h1,h2⟩:=h; subst h1; subst h2; rfl
 | .str _,b,h=>by cases b<;>simp [AV.eqb] at h; subst h; rfl
 | .agg l,b,h=>by cases b<;>simp [AV.eqb] at h; rw [AV.eqbs_eq l _ h]
 | .tuple l,b,h=>by cases b<;>simp [AV.eqb] at h; rw [AV.eqbs_eq l _ h]
 | .nilp,b,h=>by cases b<;>simp [AV.eqb] at h; rfl
 | .ptr _ _ _,b,h=>by cases b<;>simp [AV.eqb] at h; obtain ⟨⟨h1,h2⟩,h3⟩:=h; subst h1; subst h2; subst h3; rfl
 | .ref l,b,h=>by cases b<;>simp [AV.eqb] at h; rw [AV.eqbs_eq l _ h]
 | .it _,b,h=>by cases b<;>simp [AV.eqb] at h; subst h; rfl
 | .nils,b,h=>by cases b<;>simp [AV.eqb] at h; rfl
 | .sl _ l,b,h=>by cases b<;>simp [AV.eqb] at h; rw [h.1,AV.eqbss_eq l _ h.2]
 | .ms _ _ _,b,h=>by cases b<;>simp [AV.eqb] at h; obtain ⟨⟨h1,h2⟩,h3⟩:=h; subst h1; subst h2; subst h3; rfl
 | .nilm,b,h=>by cases b<;>simp [AV.eqb] at h; rfl
 | .mp _,b,h=>by cases b<;>simp [AV.eqb] at h; subst h; rfl
 | .im l,b,h=>by cases b<;>simp [AV.eqb] at h; rw [AV.eqbes_eq l _ h]
 | .func _ l m,b,h=>by cases b<;>simp [AV.eqb] at h; obtain ⟨⟨h1,h2⟩,h3⟩:=h; rw [h1,AV.eqbs_eq l _ h2,AV.eqbs_eq m _ h3]
 | .yld _,b,h=>by cases b<;>simp [AV.eqb] at h
 | .nilf,b,h=>by cases b<;>simp [AV.eqb] at h; rfl
 | .iface _ _,b,h=>by cases b<;>simp [AV.eqb] at h
 | .nili,b,h=>by cases b<;>simp [AV.eqb] at h; rfl
 | .sym _ _,b,h=>by cases b<;>simp [AV.eqb] at h; rw [Sh.eqb_eq h.1,X.eqb_eq h.2]
theorem AV.eqbs_eq:∀ (a b:List AV),AV.eqbs a b=true→a=b
 | [],b,h=>by cases b<;>simp [AV.eqbs] at h; rfl
 | x::xs,b,h=>by
   cases b<;>simp only [AV.eqbs,Bool.and_eq_true] at h<;>try (cases h; done)
   rw [AV.eqb_eq x _ h.1,AV.eqbs_eq xs _ h.2]
theorem AV.eqbss_eq:∀ (a b:List (List AV)),AV.eqbss a b=true→a=b
 | [],b,h=>by cases b<;>simp [AV.eqbss] at h; rfl
 | x::xs,b,h=>by
   cases b<;>simp only [AV.eqbss,Bool.and_eq_true] at h<;>try (cases h; done)
   rw [AV.eqbs_eq x _ h.1,AV.eqbss_eq xs _ h.2]
theorem AV.eqbes_eq:∀ (a b:List (AV × AV)),AV.eqbes a b=true→a=b
 | [],b,h=>by cases b<;>simp [AV.eqbes] at h; rfl
 | (x,x')::xs,b,h=>by
   cases b with
   | nil=>simp [AV.eqbes] at h
   | cons y ys =>
     obtain ⟨y,y'⟩:=y
     simp only [AV.eqbes,Bool.and_eq_true] at h
     rw [AV.eqb_eq x _ h.1.1,AV.eqb_eq x' _ h.1.2,AV.eqbes_eq xs _ h.2]
end
section
variable {Ω:Om} {ρ:List AV}
theorem X.dens_map (l:List X):X.dens Ω ρ l=l.map (X.den Ω ρ):=by
 induction l with
 | nil=>rfl
 | cons a l ih=>simp [X.dens,ih]
theorem X.denss_map (l:List (List X)):X.denss Ω ρ l=l.map fun r=>r.map (X.den Ω ρ):=by
 induction l with
 | nil=>rfl
 | cons a l ih=>simp [X.denss,ih,X.dens_map]
end
section
variable {V:X→AV} {σ:Nat→Nat}
theorem AV.dens_map (l:List AV):AV.dens V σ l=l.map (AV.den V σ):=by
 induction l with
 | nil=>rfl
 | cons a l ih=>simp [AV.dens,ih]
theorem AV.denss_map (l:List (List AV)):AV.denss V σ l=l.map fun r=>r.map (AV.den V σ):=by
 induction l with
 | nil=>rfl
 | cons a l ih=>simp [AV.denss,ih,AV.dens_map]
theorem AV.denes_map (l:List (AV × AV)):AV.denes V σ l=l.map fun e=>(e.1.den V σ,e.2.den V σ):=by
 induction l with
 | nil=>rfl
 | cons a l ih=>obtain ⟨x,y⟩:=a; simp [AV.denes,ih]
end
def symOk (V:X→AV) (n:Nat) (s:Sh) (e:X):Prop :=
 match s with
 | .own t cs=>t < n∧(Sh.sl cs).ok (V e)=true
 | .optr t _ _=>t < n
 | .mown t _ _ _=>t < n
 | .sown t=>t < n
 | s=>s.ok (V e)=true
mutual
def AV.okv (V:X→AV) (n:Nat):AV→Prop
 | .agg cs=>AV.okvs V n cs
 | .tuple vs=>AV.okvs V n vs
 | .ptr b _ _=>b < n
 | .ref cs=>AV.okvs V n cs
 | .it b=>b < n
 | .sl _ rows=>AV.okvss V n rows
 | .ms b _ _=>b < n
 | .mp b=>b < n
 | .im es=>AV.okves V n es
 | .func _ a b=>AV.okvs V n a∧AV.okvs V n b
 | .yld l=>l < n
 | .iface _ v=>AV.okv V n v
 | .sym s e=>symOk V n s e
 | .junk | .bool _ | .int _ _ | .str _ | .nilp | .nils | .nilm | .nilf | .nili=>True
def AV.okvs (V:X→AV) (n:Nat):List AV→Prop
 | []=>True
 | a::as=>a.okv V n∧AV.okvs V n as
def AV.okvss (V:X→AV) (n:Nat):List (List AV)→Prop
 | []=>True
 | a::as=>AV.okvs V n a∧AV.okvss V n as
def AV.okves (V:X→AV) (n:Nat):List (AV × AV)→Prop
 | []=>True
 | (a,b)::es=>a.okv V n∧b.okv V n∧AV.okves V n es
end
section
variable {V:X→AV} {n:Nat}
theorem okvs_iff (l:List AV):AV.okvs V n l↔∀ x∈l,x.okv V n:=by
 induction l with
 | nil=>simp [AV.okvs]
 | cons a l ih=>simp [AV.okvs,ih]
theorem okvss_iff (l:List (List AV)):AV.okvss V n l↔∀ r∈l,∀ x∈r,x.okv V n:=by
 induction l with
 | nil=>simp [AV.okvss]
 | cons a l ih=>simp [AV.okvss,ih,okvs_iff]
theorem okves_iff (l:List (AV × AV)):AV.okves V n l↔∀ e∈l,e.1.okv V n∧e.2.okv V n:=by
 induction l with
 | nil=>simp [AV.okves]
 | cons a l ih=>obtain ⟨x,y⟩:=a; simp [AV.okves,ih,and_assoc]
theorem symOk.mono {m:Nat} (h:n≤m) {s:Sh} {e:X} (ho:symOk V n s e):symOk V m s e:=by
 cases s<;>simp only [symOk] at ho ⊢<;>first | exact ho | omega | exact ⟨by omega,ho.2⟩
mutual
theorem AV.okv.mono {m:Nat} (h:n≤m):∀ {a:AV},a.okv V n→a.okv V m:=by
 intro a ho
 cases a<;>simp only [AV.okv] at ho ⊢<;>first
  | omega
  | exact okvs.mono h ho
  | exact okvss.mono h ho
  | exact okves.mono h ho
  | exact ⟨okvs.mono h ho.1,okvs.mono h ho.2⟩
  | exact AV.okv.mono h ho
  | exact ho.mono h
theorem okvs.mono {m:Nat} (h:n≤m):∀ {a:List AV},AV.okvs V n a→AV.okvs V m a:=by
 intro a ho
 cases a with
 | nil=>trivial
 | cons x xs=>exact ⟨AV.okv.mono h ho.1,okvs.mono h ho.2⟩
theorem okvss.mono {m:Nat} (h:n≤m):∀ {a:List (List AV)},AV.okvss V n a→AV.okvss V m a:=by
 intro a ho
 cases a with
 | nil=>trivial
 | cons x xs=>exact ⟨okvs.mono h ho.1,okvss.mono h ho.2⟩
theorem okves.mono {m:Nat} (h:n≤m):∀ {a:List (AV × AV)},AV.okves V n a→AV.okves V m a:=by
 intro a ho
 cases a with
 | nil=>trivial
 | cons x xs=>obtain ⟨x,y⟩:=x; exact ⟨AV.okv.mono h ho.1,AV.okv.mono h ho.2.1,okves.mono h ho.2.2⟩
end
mutual
theorem cl_okv:∀ {a:AV},a.cl=true→a.okv V n→a.okv V 0
 | .agg _,h,ho=>cls_okv h ho
 | .tuple _,h,ho=>cls_okv h ho
 | .ref _,h,ho=>cls_okv h ho
 | .sl _ _,h,ho=>clss_okv h ho
 | .im _,h,ho=>cles_okv h ho
 | .func _ _ _,h,ho=>by simp only [AV.cl,Bool.and_eq_true] at h; exact ⟨cls_okv h.1 ho.1,cls_okv h.2 ho.2⟩
 | .iface _ v,h,ho=>cl_okv (a:=v) h ho
 | .sym s e,h,ho=>by cases s<;>simp [AV.cl,Sh.data] at h<;>exact ho
 | .ptr _ _ _,h,_=>by cases h
 | .it _,h,_=>by cases h
 | .ms _ _ _,h,_=>by cases h
 | .mp _,h,_=>by cases h
 | .yld _,h,_=>by cases h
 | .junk,_,_=>trivial
 | .bool _,_,_=>trivial
 | .int _ _,_,_=>trivial
 | .str _,_,_=>trivial
 | .nilp,_,_=>trivial
 | .nils,_,_=>trivial
 | .nilm,_,_=>trivial
 | .nilf,_,_=>trivial
 | .nili,_,_=>trivial
theorem cls_okv:∀ {a:List AV},AV.cls a=true→AV.okvs V n a→AV.okvs V 0 a
 | [],_,_=>trivial
 | _::_,h,ho=>by simp only [AV.cls,Bool.and_eq_true] at h; exact ⟨cl_okv h.1 ho.1,cls_okv h.2 ho.2⟩
theorem clss_okv:∀ {a:List (List AV)},AV.clss a=true→AV.okvss V n a→AV.okvss V 0 a
 | [],_,_=>trivial
 | _::_,h,ho=>by simp only [AV.clss,Bool.and_eq_true] at h; exact ⟨cls_okv h.1 ho.1,clss_okv h.2 ho.2⟩
theorem cles_okv:∀ {a:List (AV × AV)},AV.cles a=true→AV.okves V n a→AV.okves V 0 a
 | [],_,_=>trivial
 | (_,_)::_,h,ho=>by simp only [AV.cles,Bool.and_eq_true] at h; exact ⟨cl_okv h.1.1 ho.1,cl_okv h.1.2 ho.2.1,cles_okv h.2 ho.2.2⟩
end
mutual
theorem cl_mx:∀ {a:AV},a.cl=true→a.mx=0
 | .agg _,h=>by simp only [AV.mx]; exact cls_mx h
 | .tuple _,h=>by simp only [AV.mx]; exact cls_mx h
 | .func _ _ _,h=>by simp only [AV.cl,Bool.and_eq_true] at h; simp only [AV.mx,cls_mx h.1,cls_mx h.2]; rfl
 | .iface _ v,h=>by simp only [AV.mx]; exact cl_mx (a:=v) h
 | .sym s e,h=>by cases s<;>simp [AV.cl,Sh.data] at h<;>rfl
 | .ptr _ _ _,h=>by cases h
 | .it _,h=>by cases h
 | .ms _ _ _,h=>by cases h
 | .mp _,h=>by cases h
 | .yld _,h=>by cases h
 | .ref _,_=>rfl
 | .sl _ _,_=>rfl
 | .im _,_=>rfl
 | .junk,_=>rfl
 | .bool _,_=>rfl
 | .int _ _,_=>rfl
 | .str _,_=>rfl
 | .nilp,_=>rfl
 | .nils,_=>rfl
 | .nilm,_=>rfl
 | .nilf,_=>rfl
 | .nili,_=>rfl
theorem cls_mx:∀ {a:List AV},AV.cls a=true→mxs a=0
 | [],_=>rfl
 | _::_,h=>by simp only [AV.cls,Bool.and_eq_true] at h; simp only [mxs,cl_mx h.1,cls_mx h.2]; rfl
end
theorem cls_iff (l:List AV):AV.cls l=true↔∀ x∈l,x.cl=true:=by
 induction l with
 | nil=>simp [AV.cls]
 | cons a l ih=>simp [AV.cls,ih]
theorem cl_cells {a:AV} (h:a.cl=true):∀ x∈a.cells,x.cl=true:=by
 cases a with
 | agg cs=>simpa [AV.cells,AV.cl,cls_iff] using h
 | _=>intro x hx; simp [AV.cells] at hx; subst hx; exact h
def Agr (n:Nat) (σ σ':Nat→Nat):Prop:=∀ b,b < n→σ' b=σ b
theorem Agr.refl (n:Nat) (σ:Nat→Nat):Agr n σ σ:=fun _ _=>rfl
theorem Agr.trans {m:Nat} {σ σ' σ'':Nat→Nat} (h:Agr n σ σ') (h':Agr m σ' σ'') (hm:n≤m):Agr n σ σ'' :=
 fun b hb=>(h' b (by omega)).trans (h b hb)
theorem Agr.mono {m:Nat} {σ σ':Nat→Nat} (h:Agr m σ σ') (hm:n≤m):Agr n σ σ':=fun b hb=>h b (by omega)
theorem symD_agr {σ σ':Nat→Nat} (h:Agr n σ σ') {s:Sh} {e:X} (ho:symOk V n s e):symD V σ' s e=symD V σ s e:=by
 cases s<;>simp only [symOk] at ho<;>simp only [symD]<;>first
  | rw [h _ ho.1]
  | rw [h _ ho]
mutual
theorem den_agr {σ σ':Nat→Nat} (h:Agr n σ σ'):∀ {a:AV},a.okv V n→a.den V σ'=a.den V σ:=by
 intro a ho
 cases a<;>simp only [AV.okv] at ho<;>simp only [AV.den]<;>first
  | rw [dens_agr h ho]
  | rw [denss_agr h ho]
  | rw [denes_agr h ho]
  | rw [dens_agr h ho.1,dens_agr h ho.2]
  | rw [den_agr h ho]
  | rw [h _ ho]
  | rw [symD_agr h ho]
theorem dens_agr {σ σ':Nat→Nat} (h:Agr n σ σ'):∀ {a:List AV},AV.okvs V n a→AV.dens V σ' a=AV.dens V σ a:=by
 intro a ho
 cases a with
 | nil=>rfl
 | cons x xs=>simp only [AV.dens]; rw [den_agr h ho.1,dens_agr h ho.2]
theorem denss_agr {σ σ':Nat→Nat} (h:Agr n σ σ'):∀ {a:List (List AV)},AV.okvss V n a→AV.denss V σ' a=AV.denss V σ a:=by
 intro a ho
 cases a with
 | nil=>rfl
 | cons x xs=>simp only [AV.denss]; rw [dens_agr h ho.1,denss_agr h ho.2]
theorem denes_agr {σ σ':Nat→Nat} (h:Agr n σ σ'):∀ {a:List (AV × AV)},AV.okves V n a→AV.denes V σ' a=AV.denes V σ a:=by
 intro a ho
 cases a with
 | nil=>rfl
 | cons x xs=>obtain ⟨x,y⟩:=x; simp only [AV.denes]; rw [den_agr h ho.1,den_agr h ho.2.1,denes_agr h ho.2.2]
end
end
theorem ok_bool {a:AV} (h:Sh.bool.ok a=true):a = .bool a.bB:=by
 cases a<;>simp [Sh.ok] at h; rfl
theorem ok_int {k:IntKind} {a:AV} (h:(Sh.int k).ok a=true):a = .int k a.nI:=by
 cases a<;>simp [Sh.ok] at h; subst h; rfl
theorem ok_str {a:AV} (h:Sh.str.ok a=true):a = .str a.sS:=by
 cases a<;>simp [Sh.ok] at h; rfl
theorem ok_sl {cs:List Sh} {a:AV} (h:(Sh.sl cs).ok a=true):a = .nils∨∃ rows,a = .sl cs.length rows∧∀ r∈rows,Sh.oks cs r=true:=by
 cases a<;>simp [Sh.ok] at h
 ·exact .inl rfl
 ·rename_i k rows
  exact .inr ⟨rows,by rw [h.1],h.2⟩
theorem ok_im {key:Sh} {ag:Bool} {cs:List Sh} {a:AV} (h:(Sh.im key ag cs).ok a=true):∃ es,a = .im es∧∀ e∈es,key.ok e.1=true∧(if ag then (∃ vs,e.2 = .agg vs∧Sh.oks cs vs=true) else Sh.oks cs [e.2]=true):=by
 cases a<;>simp only [Sh.ok] at h<;>try (cases h; done)
 rename_i es
 refine ⟨es,rfl,fun e he=>?_⟩
 have h1:=List.all_eq_true.1 h e he
 simp only [Bool.and_eq_true] at h1
 refine ⟨h1.1,?_⟩
 cases ag with
 | true =>
   simp only [if_true] at h1 ⊢
   have h2:=h1.2
   split at h2
   ·rename_i vs hvs; exact ⟨vs,hvs,h2⟩
   ·cases h2
 | false=>simpa using h1.2
theorem oks_length {cs:List Sh} {r:List AV} (h:Sh.oks cs r=true):r.length=cs.length:=by
 induction cs generalizing r with
 | nil=>cases r with | nil=>rfl | cons _ _=>simp [Sh.oks] at h
 | cons c cs ih=>cases r with | nil=>simp [Sh.oks] at h | cons a r=>simp [Sh.oks] at h; simp [ih h.2]
theorem oks_get {cs:List Sh} {r:List AV} (h:Sh.oks cs r=true) {o:Nat} {c:Sh} {a:AV} (hc:cs[o]? = some c) (ha:r[o]? = some a):c.ok a=true:=by
 induction cs generalizing r o with
 | nil=>simp at hc
 | cons d cs ih =>
   cases r with
   | nil=>simp [Sh.oks] at h
   | cons b r =>
     simp [Sh.oks] at h
     cases o with
     | zero=>simp at hc ha; subst hc; subst ha; exact h.1
     | succ o=>exact ih h.2 (by simpa using hc) (by simpa using ha)
theorem ok_cell {s:Sh} {a:AV} (h:s.ok a=true):a.isCell=true∧a.cells=[a]∧a.known=true∧a.un=false∧a.mx=0∧(∀ l,a ≠ .agg l)∧a ≠ .junk:=by
 cases s<;>cases a<;>simp [Sh.ok] at h<;>simp [AV.isCell,AV.cells,AV.known,AV.un,AV.mx]
theorem symD_cell {V:X→AV} {σ:Nat→Nat} {n:Nat} {s:Sh} {e:X} (h:symOk V n s e) :
  (symD V σ s e).isCell=true∧(symD V σ s e).cells=[symD V σ s e]∧(symD V σ s e).known=true∧(symD V σ s e).un=false∧symD V σ s e ≠ .junk:=by
 have key:∀ {s:Sh} {a:AV},s.ok a=true→a.isCell=true∧a.cells=[a]∧a.known=true∧a.un=false∧a ≠ .junk:=fun h=>by
  obtain ⟨a,b,c,d,_,_,e⟩:=ok_cell h; exact ⟨a,b,c,d,e⟩
 cases s with
 | own t cs=>simp only [symD]; split<;>simp [AV.isCell,AV.cells,AV.known,AV.un]
 | optr t o cs=>simp [symD,AV.isCell,AV.cells,AV.known,AV.un]
 | mown t k ag cs=>simp [symD,AV.isCell,AV.cells,AV.known,AV.un]
 | sown t=>simp [symD,AV.isCell,AV.cells,AV.known,AV.un]
 | _=>exact key h
section
variable {V:X→AV} {σ:Nat→Nat} {n:Nat}
theorem den_un {a:AV} (ho:a.okv V n) (h:a.un=false):(a.den V σ).un=false:=by
 cases a<;>simp only [AV.den]<;>simp_all [AV.un]
 ·cases ‹List AV›<;>simp_all [AV.dens]
 ·exact (symD_cell ho).2.2.2.1
theorem den_isCell {a:AV} (ho:a.okv V n) (h:a.isCell=true):(a.den V σ).isCell=true:=by
 cases a<;>simp [AV.isCell] at h<;>simp only [AV.den]<;>simp [AV.isCell]
 exact (symD_cell ho).1
theorem den_known {a:AV} (ho:a.okv V n) (h:a.known=true):(a.den V σ).known=true:=by
 cases a<;>simp [AV.known] at h<;>simp only [AV.den]<;>simp [AV.known]
 exact (symD_cell ho).2.2.1
theorem den_cells {a:AV} (ho:a.okv V n):(a.den V σ).cells=a.cells.map (AV.den V σ):=by
 cases a<;>simp only [AV.den,AV.cells,List.map_cons,List.map_nil,AV.dens_map]
 exact (symD_cell ho).2.1
theorem okv_cells {a:AV} (ho:a.okv V n):∀ x∈a.cells,x.okv V n:=by
 cases a with
 | agg cs=>simpa [AV.cells,AV.okv,okvs_iff] using ho
 | _=>intro x hx; simp [AV.cells] at hx; subst hx; exact ho
theorem den_all {l:List AV} (ho:∀ x∈l,x.okv V n) (h:l.all (·.isCell)=true):(l.map (AV.den V σ)).all (·.isCell)=true:=by
 simp only [List.all_map,List.all_eq_true,Function.comp] at h ⊢
 exact fun x hx=>den_isCell (ho x hx) (h x hx)
theorem den_ofValue {v:Value} {a:AV} (h:ofValue v=some a):a.den V σ=a∧a.okv V n:=by
 unfold ofValue at h
 split at h<;>first | (injection h with h; subst h; exact ⟨rfl,trivial⟩) | cases h
theorem den_ofValues:∀ {vs:List Value} {as:List AV},ofValues vs=some as→as.map (AV.den V σ)=as∧∀ x∈as,x.okv V n
 | [],_,h=>by injection h with h; subst h; exact ⟨rfl,fun _ h=>by cases h⟩
 | v::vs,as,h=>by
   unfold ofValues at h
   split at h
   ·rename_i a l h1 h2
    injection h with h; subst h
    obtain ⟨a1,a2⟩:=den_ofValue (V:=V) (σ:=σ) (n:=n) h1
    obtain ⟨b1,b2⟩:=den_ofValues h2
    refine ⟨by simp [a1,b1],fun x hx=>?_⟩
    cases hx with
    | head=>exact a2
    | tail _ hx=>exact b2 x hx
   ·cases h
theorem den_ofZero {v:Value} {a:AV} (h:ofZero v=some a):a.den V σ=a∧a.okv V n:=by
 unfold ofZero at h
 split at h
 ·rename_i cs
  cases hc:ofValues cs.toList with
  | none=>rw [hc] at h; cases h
  | some l =>
    rw [hc] at h; injection h with h; subst h
    obtain ⟨b1,b2⟩:=den_ofValues (V:=V) (σ:=σ) (n:=n) hc
    exact ⟨by simp only [AV.den,AV.dens_map,b1],by simpa [AV.okv,okvs_iff] using b2⟩
 ·exact den_ofValue h
theorem den_zeroT {T:Tab} {t:TypeId} {a:AV} (h:zeroT T t=some a):a.den V σ=a∧a.okv V n:=by
 unfold zeroT at h
 cases h1:T.ty.get t with
 | none=>rw [h1] at h; cases h
 | some e =>
   rw [h1] at h
   simp only [Option.bind_some] at h
   cases h2:e.info.zero with
   | none=>rw [h2] at h; cases h
   | some v=>rw [h2] at h; exact den_ofZero h
end
end Go.Proofs.YtdjngcfnlfgjkaaGreatDoor.AM
