/-
  The abstract machine: values, heap, the run, and what they say of the model's memory. No condition.
-/
import Derived.RangeFuncLeaves
import Derived.Orders
import Derived.OrdersIn
import Derived.Below
import Derived.Laws.AppendOwn
import Derived.Laws.MakeOwn
import Derived.Laws.CopyRow
set_option linter.unusedVariables false
set_option linter.unusedSimpArgs false
set_option linter.unusedSectionVars false
namespace Go.Proofs.YtdjngcfnlfgjkaaGreatDoor.AM
inductive Nd (α:Type):Type where
 | ok (a:α)
 | fail
 | pick (n:Nat) (k:Nat→Nd α)
def Nd.bindR {α β:Type}:Nd α→(α→Nd β)→Nd β
 | .ok a,f=>f a
 | .fail,_=>.fail
 | .pick n k,f=>.pick n fun i=>(k i).bindR f
def Nd.bind {α β:Type} (m:Nd α) (f:α→Nd β):Nd β :=
 match m with
 | .ok a=>f a
 | .fail=>.fail
 | .pick n k=>.pick n fun i=>(k i).bindR f
theorem Nd.bindR_eq {α β:Type} (m:Nd α) (f:α→Nd β):m.bindR f=m.bind f:=by cases m<;>rfl
def Nd.post {α:Type}:Nd α→(α→Prop)→Prop
 | .ok a,Q=>Q a
 | .fail,_=>False
 | .pick n k,Q=>∀ i,i < n→(k i).post Q
def Nd.opt {α:Type}:Option α→Nd α
 | some a=>.ok a
 | none=>.fail
inductive Sh:Type where
 | bool
 | int (k:IntKind)
 | str
 | sl (cs:List Sh)
 | im (key:Sh) (ag:Bool) (cs:List Sh)
 | own (t:Nat) (cs:List Sh)
 | optr (t o:Nat) (cs:List Sh)
 | mown (t:Nat) (key:Sh) (ag:Bool) (cs:List Sh)
 | sown (t:Nat)
 deriving Inhabited
inductive RS:Type where
 | one (s:Sh)
 | agg (cs:List Sh)
 deriving Inhabited
inductive Pr:Type where
 | bin (op:BinOp) (k:IntKind)
 | sbin (op:BinOp)
 | catOk
 | neg (k:IntKind)
 | not
 | beq
 | conv (k:IntKind)
 | ite
 | len
 | cell (o:Nat)
 | byte
 | slice
 | sslice
 | app (k:Nat)
 | rep (k:Nat)
 | isNil
 | proj (i:Nat)
 | fld (i:Nat)
 | call (f n:Nat)
 | okr (rs:List RS)
 | setc (o:Nat)
 | whole
 | mget (ag:Bool)
 | mhas
 | keq
 | mput
 | mlen
 | mnew
 | rune
 | adv
 deriving Inhabited
inductive X:Type where
 | v (n:Nat)
 | b (b:Bool)
 | i (k:IntKind) (n:Int)
 | s (s:ByteArray)
 | nils
 | sl (k:Nat) (rows:List (List X))
 | agg (xs:List X)
 | p (o:Pr) (xs:List X)
 deriving Inhabited
inductive AV:Type where
 | junk
 | bool (b:Bool)
 | int (k:IntKind) (n:Int)
 | str (s:ByteArray)
 | agg (cs:List AV)
 | tuple (vs:List AV)
 | nilp
 | ptr (b i o:Nat)
 | ref (cs:List AV)
 | it (b:Nat)
 | nils
 | sl (k:Nat) (rows:List (List AV))
 | ms (b off len:Nat)
 | nilm
 | mp (b:Nat)
 | im (es:List (AV × AV))
 | func (fn:Fn) (first captured:List AV)
 | yld (l:Nat)
 | nilf
 | iface (t:TypeId) (v:AV)
 | nili
 | sym (s:Sh) (e:X)
 deriving Inhabited
def undefA:AV:=.tuple []
def AV.cells:AV→List AV
 | .agg cs=>cs
 | v=>[v]
def AV.isCell:AV→Bool
 | .junk | .agg _ | .tuple _=>false
 | _=>true
def AV.known:AV→Bool
 | .junk=>false
 | _=>true
def Sh.mx:Sh→Nat
 | .own t _ | .optr t _ _ | .mown t _ _ _ | .sown t=>t+1
 | _=>0
mutual
def AV.mx:AV→Nat
 | .agg cs=>mxs cs
 | .tuple vs=>mxs vs
 | .ptr b _ _=>b+1
 | .it b=>b+1
 | .ms b _ _=>b+1
 | .mp b=>b+1
 | .func _ a b=>max (mxs a) (mxs b)
 | .yld l=>l+1
 | .iface _ v=>v.mx
 | .sym s _=>s.mx
 | _=>0
def mxs:List AV→Nat
 | []=>0
 | v::vs=>max v.mx (mxs vs)
end
mutual
def AV.flat:AV→Bool
 | .bool _ | .int _ _ | .str _ | .nilp | .nils | .nilm | .nilf | .nili=>true
 | .agg cs=>flats cs
 | .tuple vs=>flats vs
 | _=>false
def flats:List AV→Bool
 | []=>true
 | v::vs=>v.flat&&flats vs
end
mutual
def AV.same:AV→AV→Bool
 | .bool a,.bool b=>a == b
 | .int j a,.int k b=>decide (j=k)&&decide (a=b)
 | .str a,.str b=>decide (a=b)
 | .agg a,.agg b=>sames a b
 | .tuple a,.tuple b=>sames a b
 | .nilp,.nilp=>true
 | .ptr a i o,.ptr b j p=>a == b&&i == j&&o == p
 | .ref a,.ref b=>sames a b
 | .it a,.it b=>a == b
 | .nils,.nils=>true
 | .sl j a,.sl k b=>j == k&&samess a b
 | .ms a i o,.ms b j p=>a == b&&i == j&&o == p
 | .nilm,.nilm=>true
 | .mp a,.mp b=>a == b
 | .func f a b,.func g c d=>decide (f=g)&&sames a c&&sames b d
 | .nilf,.nilf=>true
 | .nili,.nili=>true
 | _,_=>false
def sames:List AV→List AV→Bool
 | [],[]=>true
 | a::as,b::bs=>a.same b&&sames as bs
 | _,_=>false
def samess:List (List AV)→List (List AV)→Bool
 | [],[]=>true
 | a::as,b::bs=>sames a b&&samess as bs
 | _,_=>false
end
inductive Blk:Type where
 | cells (k:Nat) (rows:List (List AV))
 | map (es:List (AV × AV))
 | siter (s:ByteArray) (pos:Nat)
 | loop (mask:Nat) (tmps:List AV) (params:List Tmp) (assign body:Code) (st:LoopState) (pend:Option Code) (dfr:Nat)
 | dfr (taken:Bool)
 | dead
 deriving Inhabited
structure Hp where
 nx:Nat
 top:List (Nat × Blk)
 rest:List (List (Nat × Blk))
 lk:Option Nat
def look:List (Nat × Blk)→Nat→Option Blk
 | [],_=>none
 | (c,x)::l,b=>if b=c then some x else look l b
def lookRest:List (List (Nat × Blk))→Nat→Option Blk
 | [],_=>none
 | s::l,b=>match look s b with
   | some x=>some x
   | none=>lookRest l b
def Hp.get (h:Hp) (b:Nat):Option Blk :=
 match look h.top b with
 | some x=>some x
 | none=>lookRest h.rest b
def upd:List (Nat × Blk)→Nat→Blk→List (Nat × Blk)
 | [],_,_=>[]
 | (c,x)::l,b,y=>if b=c then (c,y)::l else (c,x)::upd l b y
def updRest:List (List (Nat × Blk))→Nat→Blk→List (List (Nat × Blk))
 | [],_,_=>[]
 | s::l,b,y=>match look s b with
   | some _=>upd s b y::l
   | none=>s::updRest l b y
def Hp.set (h:Hp) (b:Nat) (y:Blk):Hp :=
 match look h.top b with
 | some _=>{ h with top:=upd h.top b y }
 | none=>{ h with rest:=updRest h.rest b y }
def Hp.push (h:Hp) (y:Blk):Hp:={ h with nx:=h.nx+1,top:=(h.nx,y)::h.top }
def minO:Option Nat→Nat→Option Nat
 | none,b=>some b
 | some a,b=>some (min a b)
def Hp.leak (h:Hp) (b m:Nat):Hp:=if m≤b+1 then h else { h with lk:=minO h.lk b }
def Blk.same:Blk→Blk→Bool
 | .cells j a,.cells k b=>j == k&&samess a b
 | .map a,.map b=>samess (a.map fun e=>[e.1,e.2]) (b.map fun e=>[e.1,e.2])
 | _,_=>false
def Blk.sameLen:Blk→Blk→Bool
 | .cells j a,.cells k b=>j == k&&a.length == b.length
 | _,_=>false
def Blk.shp:Blk→Blk
 | .cells k rows=>.cells k (rows.map fun _=>[])
 | B=>B
def vw (full:Bool) (B:Option Blk):Option Blk:=if full then B else B.map Blk.shp
def ofValue:Value→Option AV
 | .bool b=>some (.bool b)
 | .int k n=>some (.int k n)
 | .string s=>some (.str s)
 | .pointer none=>some .nilp
 | .slice none 0 0=>some .nils
 | .map none=>some .nilm
 | .nilFunc=>some .nilf
 | .nilIface=>some .nili
 | _=>none
def ofValues:List Value→Option (List AV)
 | []=>some []
 | v::vs=>match ofValue v,ofValues vs with
   | some a,some as=>some (a::as)
   | _,_=>none
def ofZero:Value→Option AV
 | .agg cs=>(ofValues cs.toList).map .agg
 | v=>ofValue v
inductive Tr (α:Type):Type where
 | nil
 | node (l:Tr α) (v:Option α) (r:Tr α)
def Tr.find {α:Type}:Tr α→Nat→Nat→Option α
 | .nil,_,_=>none
 | _,0,_=>none
 | .node l v r,k+1,n=>if n=0 then v else if n % 2=1 then l.find k (n / 2) else r.find k (n / 2 - 1)
def Tr.get {α:Type} (t:Tr α) (n:Nat):Option α:=t.find 40 n
structure TyE where
 info:TypeInfo
 under:TypeInfo
 eqg:Bool
 held:Bool
structure FnE where
 fn:Func
 loc:Nat
structure IpF where
 eat:Bool
 g:List Int→Option (List Int)
structure GpF where
 pats:List AV
 n:Nat
 cs:List Sh
 g:List AV→Option AV
structure Tab where
 ty:Tr TyE
 fn:Tr FnE
 fz:Nat→Bool
 fm:Nat→Bool
 ip:Nat→Option IpF
 fa:Nat→Bool
 pu:Nat→Bool
 gp:Nat→Option GpF
 fr:Nat→Option GpF
def Tab.underlying (T:Tab) (t:TypeId):Option TypeDesc:=(T.ty.get t).map (·.under.desc)
structure Tab.Of (T:Tab) (P:Program):Prop where
 info:∀ t e,T.ty.get t=some e→P.info? t=some e.info
 under:∀ t e,T.ty.get t=some e→P.underlying t=some e.under.desc
 eqg:∀ t e,T.ty.get t=some e→e.eqg=false→P.eqGuardType P.depth t=false
 held:∀ t e,T.ty.get t=some e→e.held=false→P.stoodInHeld t=false
 fn:∀ f x,T.fn.get f=some x→P.funcs[f]? = some x.fn
 names:∀ f x,T.fn.get f=some x→x.fn.name ≠ "runtime.NumGoroutine"
def nth {α:Type}:List α→Nat→Option α
 | [],_=>none
 | a::_,0=>some a
 | _::l,n+1=>nth l n
def put {α:Type}:List α→Nat→α→List α
 | [],_,_=>[]
 | _::l,0,v=>v::l
 | a::l,n+1,v=>a::put l n v
abbrev Ev:=Operand→Option AV
def evalsA (ev:Ev):List Operand→Option (List AV)
 | []=>some []
 | x::xs=>match ev x with
   | some v=>match evalsA ev xs with
     | some vs=>some (v::vs)
     | none=>none
   | none=>none
def aggT (T:Tab) (t:TypeId):Option Bool :=
 match T.underlying t with
 | some (.struct _) | some (.array _ _)=>some true
 | some _=>some false
 | none=>none
def sizeT (T:Tab) (t:TypeId):Option Nat:=(T.ty.get t).map (·.info.size)
def bytesT (T:Tab) (t:TypeId):Option Nat:=(T.ty.get t).map (·.info.bytes)
def zeroT (T:Tab) (t:TypeId):Option AV:=(T.ty.get t).bind fun e=>e.info.zero.bind ofZero
def fieldT (T:Tab) (s:TypeId) (f:Nat):Option (Nat × TypeId) :=
 match T.underlying s with
 | some (.struct fs)=>match fs[f]? with
   | some x=>some (x.offset,x.type)
   | none=>none
 | _=>none
def elemT (T:Tab) (t:TypeId):Option (TypeId × Nat × Nat × List AV) :=
 match T.underlying t with
 | some (.slice e)=>match sizeT T e,bytesT T e,zeroT T e with
   | some n,some b,some z=>if z.cells.length=n∧0 < n∧b≤65536∧z.cells.all (·.isCell)=true then some (e,n,b,z.cells) else none
   | _,_,_=>none
 | _=>none
def takeV (ag:Bool) (n:Nat) (cs:List AV):Option AV :=
 if ag then (if n≤cs.length then some (.agg (cs.take n)) else none) else cs.head?
def cellsA (h:Hp):AV→Option (List AV)
 | .ptr b i o=>match h.get b with
   | some (.cells _ rows)=>match nth rows i with
     | some r=>some (r.drop o)
     | none=>none
   | _=>none
 | .ref cs=>some cs
 | _=>none
def loadA (T:Tab) (h:Hp) (t:TypeId) (a:AV):Option AV :=
 match aggT T t,sizeT T t,cellsA h a with
 | some ag,some n,some cs=>takeV ag n cs
 | _,_,_=>none
def setCells:List AV→Nat→List AV→List AV
 | r,_,[]=>r
 | r,o,v::vs=>setCells (put r o v) (o+1) vs
def storeA (T:Tab) (h:Hp) (t:TypeId) (a v:AV):Option Hp :=
 match a,sizeT T t with
 | .ptr b i o,some n =>
   if v.cells.length=n∧v.cells.all (·.isCell)=true then
    match h.get b with
    | some (.cells k rows)=>match nth rows i with
      | some r=>if o+n≤r.length then some ((h.set b (.cells k (put rows i (setCells r o v.cells)))).leak b (mxs v.cells)) else none
      | none=>none
    | _=>none
   else none
 | _,_=>none
def AV.shift:AV→Nat→Option AV
 | .ptr b i o,n=>some (.ptr b i (o+n))
 | .ref cs,n=>some (.ref (cs.drop n))
 | _,_=>none
def fieldAddrA (T:Tab) (s:TypeId) (x:AV) (f:Nat):Option AV :=
 match fieldT T s f with
 | some (off,t)=>match sizeT T t with
   | some n=>if n=0 then none else x.shift off
   | none=>none
 | none=>none
def indexAddrA (T:Tab) (h:Hp) (t:TypeId) (x ix:AV):Option AV :=
 match ix with
 | .int _ i =>
   match T.underlying t with
   | some (.array len elem)=>match sizeT T elem with
     | some n=>if 0≤i∧i < len then x.shift (i.toNat * n) else none
     | none=>none
   | some (.slice elem)=>match sizeT T elem with
     | some n =>
       match x with
       | .ms b off len =>
         if 0≤i∧i < len then
          match h.get b with
          | some (.cells k rows)=>if k=n∧off+i.toNat < rows.length then some (.ptr b (off+i.toNat) 0) else none
          | _=>none
         else none
       | .sl k rows =>
         if 0≤i∧k=n then
          match nth rows i.toNat with
          | some r=>some (.ref r)
          | none=>none
         else none
       | _=>none
     | none=>none
   | _=>none
 | _=>none
def partA (T:Tab) (t:TypeId) (cs:List AV) (off:Nat):Option AV :=
 match aggT T t,sizeT T t with
 | some true,some n=>some (.agg ((cs.drop off).take n))
 | some false,_=>nth cs off
 | _,_=>none
def fieldA (T:Tab) (s:TypeId) (x:AV) (f:Nat):Option AV :=
 match fieldT T s f,x with
 | some (off,t),.agg cs=>partA T t cs off
 | _,_=>none
def indexA (T:Tab) (t:TypeId) (x ix:AV):Option AV :=
 match T.underlying t,x,ix with
 | some (.array len elem),.agg cs,.int _ i=>match sizeT T elem with
   | some n=>if 0≤i∧i < len then partA T elem cs (i.toNat * n) else none
   | none=>none
 | some .string,.str s,.int _ i=>if 0≤i then (s[i.toNat]?).map fun b=>.int .u8 b.toNat else none
 | _,_,_=>none
def fillA (place:Nat→Option (Nat × Nat)) (cells:List AV):List (Nat × AV)→Option (List AV)
 | []=>some cells
 | (i,v)::rest =>
   match place i with
   | some (off,n)=>if v.known=true∧v.cells.length=n∧off+n≤cells.length then fillA place (setCells cells off v.cells) rest else none
   | none=>none
def placesL (T:Tab):List Field→Option (List (Nat × Nat))
 | []=>some []
 | f::fs=>match sizeT T f.type with
   | some n=>match placesL T fs with
     | some l=>some ((f.offset,n)::l)
     | none=>none
   | none=>none
def partsA (ev:Ev):List (Nat × Operand)→Option (List (Nat × AV))
 | []=>some []
 | (i,x)::xs=>match ev x with
   | some v=>match partsA ev xs with
     | some vs=>some ((i,v)::vs)
     | none=>none
   | none=>none
def buildA (T:Tab) (t:TypeId) (parts:List (Nat × AV)):Option AV :=
 match zeroT T t with
 | some z =>
   match T.underlying t with
   | some (.struct fs)=>match placesL T fs.toList with
     | some pl=>(fillA (nth pl) z.cells parts).map .agg
     | none=>none
   | some (.array _ elem)=>match sizeT T elem with
     | some n=>(fillA (fun i=>some (i * n,n)) z.cells parts).map .agg
     | none=>none
   | _=>none
 | none=>none
def fillRows (n:Nat) (rows:List (List AV)):List (Nat × AV)→Option (List (List AV))
 | []=>some rows
 | (i,v)::rest =>
   if v.cells.length=n∧i < rows.length∧v.cells.all (·.isCell)=true then fillRows n (put rows i v.cells) rest else none
def mxss:List (List AV)→Nat
 | []=>0
 | r::rs=>max (mxs r) (mxss rs)
def buildSliceA (T:Tab) (h:Hp) (t:TypeId) (len:Nat) (parts:List (Nat × AV)):Option (AV × Hp) :=
 match elemT T t with
 | some (_,n,_,z) =>
   if len * n≤16777216 then
    match fillRows n (List.replicate len z) parts with
    | some rows=>some (.ms h.nx 0 len,h.push (.cells n rows))
    | none=>none
   else none
 | none=>none
def makeSliceA (T:Tab) (h:Hp) (t:TypeId) (l c:AV):Option (AV × Hp) :=
 match elemT T t,l,c with
 | some (_,n,_,z),.int _ l,.int _ c =>
   if 0≤l∧l≤c∧c≤1073741824 then (if T.fm t then some (.sl n (List.replicate l.toNat z),h) else some (.ms h.nx 0 l.toNat,h.push (.cells n (List.replicate l.toNat z)))) else none
 | _,_,_=>none
def boundA (lim:Nat) (dflt:Nat):Option AV→Option Nat
 | none=>some dflt
 | some (.int _ i)=>if 0≤i∧i≤lim then some i.toNat else none
 | some _=>none
def optA (ev:Ev):Option Operand→Option (Option AV)
 | none=>some none
 | some x=>(ev x).map some
def sliceA (T:Tab) (h:Hp) (t:TypeId) (x:AV) (lo hi:Option AV):Option AV :=
 match T.underlying t,x with
 | some .string,.str s=>match boundA s.size s.size hi with
   | some m=>match boundA m 0 lo with
     | some l=>some (.str (s.extract l m))
     | none=>none
   | none=>none
 | some (.slice e),.ms b off len=>match sizeT T e,h.get b with
   | some n,some (.cells k _) =>
     if k=n then
      match boundA len len hi with
      | some m=>match boundA m 0 lo with
        | some l=>some (.ms b (off+l) (m - l))
        | none=>none
      | none=>none
     else none
   | _,_=>none
 | some (.slice e),.sl k rows=>match sizeT T e with
   | some n =>
     if k=n then
      match boundA rows.length rows.length hi with
      | some m=>match boundA m 0 lo with
        | some l=>some (.sl k ((rows.drop l).take (m - l)))
        | none=>none
      | none=>none
     else none
   | none=>none
 | some (.slice e),.nils=>match sizeT T e with
   | some _=>match boundA 0 0 hi with
     | some m=>match boundA m 0 lo with
       | some _=>some .nils
       | none=>none
     | none=>none
   | none=>none
 | _,_=>none
def rowsA (h:Hp) (n:Nat):AV→Option (List (List AV))
 | .nils=>some []
 | .sl k rows=>if k=n then some rows else none
 | .ms b off len=>match h.get b with
   | some (.cells k rows)=>if off+len≤rows.length∧k=n then some ((rows.drop off).take len) else none
   | _=>none
 | _=>none
def srcT (T:Tab):Option TypeId→Bool
 | none=>true
 | some t=>match T.underlying t with
   | some (.slice _)=>true
   | _=>false
def setRows:List (List AV)→Nat→List (List AV)→List (List AV)
 | rows,_,[]=>rows
 | rows,i,r::rs=>setRows (put rows i r) (i+1) rs
def appendA (T:Tab) (h:Hp) (ts:List TypeId) (args:List AV):Option (AV × Hp) :=
 match ts,args with
 | st::ts,[s,x] =>
   match elemT T st,srcT T ts.head? with
   | some (_,n,_,_),true =>
     match rowsA h n x with
     | some xs =>
       if xs=[] then
        (match s with
         | .nils | .sl _ _ | .ms _ _ _=>some (s,h)
         | _=>none)
       else
        match s with
        | .nils=>if xs.length≤1073741824 then some (.ms h.nx 0 xs.length,h.push (.cells n xs)) else none
        | .ms b off len =>
          match h.get b with
          | some (.cells k rows) =>
            if k=n then
             if off+len=rows.length then
              if len+xs.length≤1073741824 then
               some (.ms h.nx 0 (len+xs.length),(h.set b .dead).push (.cells n (rows.drop off++xs)))
              else none
             else if off+len+xs.length≤rows.length then
              some (.ms b off (len+xs.length),(h.set b (.cells k (setRows rows (off+len) xs))).leak b (mxss xs))
             else none
            else none
          | _=>none
        | _=>none
     | none=>none
   | _,_=>none
 | _,_=>none
def eqFieldsA (T:Tab) (eq:TypeId→AV→AV→Option Bool) (a b:List AV):List Field→Option Bool
 | []=>some true
 | f::fs =>
   if f.name = "_" then eqFieldsA T eq a b fs else
   match partA T f.type a f.offset,partA T f.type b f.offset with
   | some u,some v=>match eq f.type u v with
     | some true=>eqFieldsA T eq a b fs
     | some false=>some false
     | none=>none
   | _,_=>none
def eqElemsA (T:Tab) (eq:TypeId→AV→AV→Option Bool) (elem n:Nat) (a b:List AV):List Nat→Option Bool
 | []=>some true
 | i::is =>
   match partA T elem a (i * n),partA T elem b (i * n) with
   | some u,some v=>match eq elem u v with
     | some true=>eqElemsA T eq elem n a b is
     | some false=>some false
     | none=>none
   | _,_=>none
def eqNilP:AV→AV→Option Bool
 | .nilp,.nilp=>some true
 | .nilp,.ptr .. | .nilp,.ref _ | .ptr ..,.nilp | .ref _,.nilp=>some false
 | _,_=>none
def eqNilS:AV→AV→Option Bool
 | .nils,.nils=>some true
 | .nils,.ms .. | .nils,.sl _ _ | .ms ..,.nils | .sl _ _,.nils=>some false
 | _,_=>none
def eqNilM:AV→AV→Option Bool
 | .nilm,.nilm=>some true
 | .nilm,.mp _ | .nilm,.im _ | .mp _,.nilm | .im _,.nilm=>some false
 | _,_=>none
def eqNilF:AV→AV→Option Bool
 | .nilf,.nilf=>some true
 | .nilf,.func .. | .func ..,.nilf=>some false
 | _,_=>none
def eqBool:AV→AV→Option Bool
 | .bool a,.bool b=>some (a == b)
 | _,_=>none
def eqInt:AV→AV→Option Bool
 | .int j a,.int k b=>if j=k then some (a == b) else none
 | _,_=>none
def eqStr:AV→AV→Option Bool
 | .str a,.str b=>some (a == b)
 | _,_=>none
def eqA (T:Tab):Nat→TypeId→AV→AV→Option Bool
 | 0,_,_,_=>none
 | d+1,t,x,y =>
   match T.underlying t with
   | some .bool=>eqBool x y
   | some (.int _)=>eqInt x y
   | some .string=>eqStr x y
   | some (.struct fs)=>match x,y with
     | .agg a,.agg b=>match T.ty.get t with
       | some e=>if e.held then none else eqFieldsA T (eqA T d) a b fs.toList
       | none=>none
     | _,_=>none
   | some (.array len elem)=>match x,y,sizeT T elem with
     | .agg a,.agg b,some n=>eqElemsA T (eqA T d) elem n a b (List.range len)
     | _,_,_=>none
   | some (.pointer _)=>eqNilP x y
   | some (.slice _)=>eqNilS x y
   | some (.map _ _)=>eqNilM x y
   | some (.func _ _ _)=>eqNilF x y
   | _=>none
def eqTop (T:Tab) (t:TypeId) (x y:AV):Option Bool :=
 match x with
 | .agg _=>match T.ty.get t with | some e=>if e.eqg then none else eqA T 10000 t x y | none=>none
 | _=>eqA T 10000 t x y
def intOpA (op:BinOp) (k:IntKind) (a b:Int):Option AV :=
 match op with
 | .add=>some (.int k (k.wrap (a+b)))
 | .sub=>some (.int k (k.wrap (a - b)))
 | .mul=>some (.int k (k.wrap (a * b)))
 | .quo=>if b=0 then none else some (.int k (k.wrap (a.tdiv b)))
 | .rem=>if b=0 then none else some (.int k (a.tmod b))
 | .and=>some (.int k (k.wrap (BitVec.ofInt k.bits a &&& BitVec.ofInt k.bits b).toNat))
 | .or=>some (.int k (k.wrap (BitVec.ofInt k.bits a ||| BitVec.ofInt k.bits b).toNat))
 | .xor=>some (.int k (k.wrap (BitVec.ofInt k.bits a ^^^ BitVec.ofInt k.bits b).toNat))
 | .andNot=>some (.int k (k.wrap (BitVec.ofInt k.bits a &&& ~~~BitVec.ofInt k.bits b).toNat))
 | .shl=>if b < 0 then none else some (.int k (k.wrap (a * 2 ^ (min b.toNat k.bits))))
 | .shr=>if b < 0 then none else some (.int k (a.fdiv (2 ^ (min b.toNat k.bits))))
 | .eql=>some (.bool (a == b))
 | .neq=>some (.bool (a != b))
 | .lss=>some (.bool (decide (a < b)))
 | .leq=>some (.bool (decide (a≤b)))
 | .gtr=>some (.bool (decide (a > b)))
 | .geq=>some (.bool (decide (a ≥ b)))
def strOpA (op:BinOp) (a b:ByteArray):Option AV :=
 match op with
 | .add=>if a.size+b.size≤1099511627776 then some (.str (a++b)) else none
 | .eql=>some (.bool (a.toList == b.toList))
 | .neq=>some (.bool (!(a.toList == b.toList)))
 | .lss=>some (.bool (Op.bytesLess a.toList b.toList))
 | .leq=>some (.bool (Op.bytesLess a.toList b.toList || a.toList == b.toList))
 | .gtr=>some (.bool (!(Op.bytesLess a.toList b.toList || a.toList == b.toList)))
 | .geq=>some (.bool (!Op.bytesLess a.toList b.toList))
 | _=>none
def binA (T:Tab) (op:BinOp) (t:TypeId) (x y:AV):Option AV :=
 match x,y with
 | .int k a,.int k' b=>if k=k'∨op = .shl∨op = .shr then intOpA op k a b else none
 | .str a,.str b=>strOpA op a b
 | _,_=>match op with
   | .eql=>(eqTop T t x y).map .bool
   | .neq=>(eqTop T t x y).map fun b=>.bool (!b)
   | _=>none
def unA (op:UnOp) (x:AV):Option AV :=
 match op,x with
 | .neg,.int k n=>some (.int k (k.wrap (0 - n)))
 | .not,.bool b=>some (.bool (!b))
 | _,_=>none
def convA (T:Tab) (src dst:TypeId) (x:AV):Option AV :=
 match T.underlying src,T.underlying dst,x with
 | some _,some (.int k),.int _ n=>some (.int k (k.wrap n))
 | some _,some .string,.str s=>some (.str s)
 | _,_,_=>none
def keyKind (T:Tab) (t:TypeId):Bool :=
 match T.underlying t with
 | some (.int _) | some .string | some .bool=>true
 | _=>false
def keyEq:AV→AV→Option Bool
 | .int j a,.int k b=>if j=k then some (a == b) else none
 | .str a,.str b=>some (a == b)
 | .bool a,.bool b=>some (a == b)
 | _,_=>none
def findA (k:AV):List (AV × AV)→Option (Option AV)
 | []=>some none
 | (a,v)::es=>match keyEq k a with
   | some true=>some (some v)
   | some false=>findA k es
   | none=>none
def keyOk (T:Tab) (t:TypeId):AV→Bool
 | .int j _=>match T.underlying t with | some (.int _)=>true | _=>false
 | .str _=>match T.underlying t with | some .string=>true | _=>false
 | .bool _=>match T.underlying t with | some .bool=>true | _=>false
 | _=>false
def mapA (h:Hp):AV→Option (List (AV × AV))
 | .nilm=>some []
 | .im es=>some es
 | .mp b=>match h.get b with
   | some (.map es)=>some es
   | _=>none
 | _=>none
def lookupA (T:Tab) (h:Hp) (t:TypeId) (m k:AV) (ok:Bool):Option AV :=
 match T.underlying t with
 | some (.map kt et) =>
   if keyOk T kt k then
    match mapA h m,zeroT T et with
    | some es,some z=>match findA k es with
      | some (some v)=>some (if ok then .tuple [v,.bool true] else v)
      | some none=>some (if ok then .tuple [z,.bool false] else z)
      | none=>none
    | _,_=>none
   else none
 | _=>none
def updA (k v:AV):List (AV × AV)→Option (List (AV × AV))
 | []=>some [(k,v)]
 | (a,u)::es=>match keyEq k a with
   | some true=>some ((k,v)::es)
   | some false=>(updA k v es).map ((a,u)::·)
   | none=>none
def mapUpdA (T:Tab) (h:Hp) (t:TypeId) (m k v:AV):Option Hp :=
 match T.underlying t,m with
 | some (.map kt _),.mp b =>
   if keyOk T kt k then
    match h.get b with
    | some (.map es)=>(updA k v es).map fun es'=>(h.set b (.map es')).leak b v.mx
    | _=>none
   else none
 | _,_=>none
def rangeA (T:Tab) (h:Hp) (t:TypeId) (x:AV):Option (AV × Hp) :=
 match T.underlying t,x with
 | some .string,.str s=>some (.it h.nx,h.push (.siter s 0))
 | _,_=>none
def nextA (h:Hp) (x:AV) (isString:Bool):Option (AV × Hp) :=
 match x,isString with
 | .it b,true=>match h.get b with
   | some (.siter s pos) =>
     if pos < s.size then
      some (.tuple [.bool true,.int .i64 pos,.int .i32 (Utf8.decode s pos).1],h.set b (.siter s (pos+(Utf8.decode s pos).2)))
     else some (.tuple [.bool false],h)
   | _=>none
 | _,_=>none
def withH (h:Hp):Option AV→Option (AV × Hp)
 | some v=>some (v,h)
 | none=>none
def opMove (ev:Ev) (h:Hp) (x:Operand):Option (AV × Hp):=withH h (ev x)
def opPick (ev:Ev) (h:Hp) (c a b:Operand):Option (AV × Hp) :=
 match ev c with
 | some (.bool true)=>withH h (ev a)
 | some (.bool false)=>withH h (ev b)
 | _=>none
def newRow (h:Hp) (cs:List AV):Option (AV × Hp) :=
 if cs.all (·.isCell)=true∧0 < cs.length then some (.ptr h.nx 0 0,h.push (.cells cs.length [cs])) else none
def opAlloc (T:Tab) (h:Hp) (e:TypeId):Option (AV × Hp) :=
 match zeroT T e with
 | some z=>newRow h z.cells
 | none=>none
def opBox (ev:Ev) (h:Hp) (x:Operand):Option (AV × Hp) :=
 match ev x with
 | some v=>newRow h v.cells
 | none=>none
def opBuild (T:Tab) (ev:Ev) (h:Hp) (t:TypeId) (parts:Array (Nat × Operand)):Option (AV × Hp) :=
 match partsA ev parts.toList with
 | some ps=>withH h (buildA T t ps)
 | none=>none
def opBuildSlice (T:Tab) (ev:Ev) (h:Hp) (t:TypeId) (len:Nat) (parts:Array (Nat × Operand)):Option (AV × Hp) :=
 match partsA ev parts.toList with
 | some ps=>buildSliceA T h t len ps
 | none=>none
def opLoad (T:Tab) (ev:Ev) (h:Hp) (t:TypeId) (a:Operand):Option (AV × Hp) :=
 match ev a with
 | some a=>withH h (loadA T h t a)
 | none=>none
def stored:Option Hp→Option (AV × Hp)
 | some h=>some (undefA,h)
 | none=>none
def opStore (T:Tab) (ev:Ev) (h:Hp) (t:TypeId) (a x:Operand):Option (AV × Hp) :=
 match ev a,ev x with
 | some a,some v=>stored (storeA T h t a v)
 | _,_=>none
def opNilCheck (ev:Ev) (h:Hp) (x:Operand):Option (AV × Hp) :=
 match ev x with
 | some (.ptr b i o)=>some (.ptr b i o,h)
 | some (.ref cs)=>some (.ref cs,h)
 | some (.func (.func f) a b)=>some (.func (.func f) a b,h)
 | some (.yld l)=>some (.yld l,h)
 | _=>none
def opBin (T:Tab) (ev:Ev) (h:Hp) (op:BinOp) (t:TypeId) (x y:Operand):Option (AV × Hp) :=
 match ev x,ev y with
 | some a,some b=>withH h (binA T op t a b)
 | _,_=>none
def opUn (ev:Ev) (h:Hp) (op:UnOp) (x:Operand):Option (AV × Hp) :=
 match ev x with
 | some a=>withH h (unA op a)
 | none=>none
def opConv (T:Tab) (ev:Ev) (h:Hp) (s d:TypeId) (x:Operand):Option (AV × Hp) :=
 match ev x with
 | some a=>withH h (convA T s d a)
 | none=>none
def opMakeFunc (ev:Ev) (h:Hp) (fn:Fn) (first captured:Array Operand):Option (AV × Hp) :=
 match evalsA ev first.toList,evalsA ev captured.toList with
 | some a,some b=>some (.func fn a b,h)
 | _,_=>none
def opMakeMap (h:Hp):Option Operand→Option (AV × Hp)
 | none=>some (.mp h.nx,h.push (.map []))
 | some _=>none
def opMakeSlice (T:Tab) (ev:Ev) (h:Hp) (t:TypeId) (l c:Operand):Option (AV × Hp) :=
 match ev l,ev c with
 | some l,some c=>makeSliceA T h t l c
 | _,_=>none
def opSlice (T:Tab) (ev:Ev) (h:Hp) (t:TypeId) (x:Operand) (lo hi mx:Option Operand):Option (AV × Hp) :=
 match mx,ev x,optA ev lo,optA ev hi with
 | none,some x,some lo,some hi=>withH h (sliceA T h t x lo hi)
 | _,_,_,_=>none
def opFieldAddr (T:Tab) (ev:Ev) (h:Hp) (s:TypeId) (x:Operand) (f:Nat):Option (AV × Hp) :=
 match ev x with
 | some x=>withH h (fieldAddrA T s x f)
 | none=>none
def opField (T:Tab) (ev:Ev) (h:Hp) (s:TypeId) (x:Operand) (f:Nat):Option (AV × Hp) :=
 match ev x with
 | some x=>withH h (fieldA T s x f)
 | none=>none
def opIndexAddr (T:Tab) (ev:Ev) (h:Hp) (t:TypeId) (x ix:Operand):Option (AV × Hp) :=
 match ev x,ev ix with
 | some x,some ix=>withH h (indexAddrA T h t x ix)
 | _,_=>none
def opIndex (T:Tab) (ev:Ev) (h:Hp) (t:TypeId) (x ix:Operand):Option (AV × Hp) :=
 match ev x,ev ix with
 | some x,some ix=>withH h (indexA T t x ix)
 | _,_=>none
def opLookup (T:Tab) (ev:Ev) (h:Hp) (t:TypeId) (m k:Operand) (ok:Bool):Option (AV × Hp) :=
 match ev m,ev k with
 | some m,some k=>withH h (lookupA T h t m k ok)
 | _,_=>none
def opMapUpd (T:Tab) (ev:Ev) (h:Hp) (t:TypeId) (m k v:Operand):Option (AV × Hp) :=
 match ev m,ev k,ev v with
 | some m,some k,some v=>stored (mapUpdA T h t m k v)
 | _,_,_=>none
def opRange (T:Tab) (ev:Ev) (h:Hp) (t:TypeId) (x:Operand):Option (AV × Hp) :=
 match ev x with
 | some x=>rangeA T h t x
 | none=>none
def opNext (ev:Ev) (h:Hp) (x:Operand) (isS:Bool):Option (AV × Hp) :=
 match ev x with
 | some x=>nextA h x isS
 | none=>none
def opExtract (ev:Ev) (h:Hp) (x:Operand) (i:Nat):Option (AV × Hp) :=
 match ev x with
 | some (.tuple vs)=>withH h (nth vs i)
 | _=>none
def opA (T:Tab) (ev:Ev) (h:Hp):Op→Option (AV × Hp)
 | .move x=>opMove ev h x
 | .assign x=>opMove ev h x
 | .pick c a b=>opPick ev h c a b
 | .alloc e=>opAlloc T h e
 | .box _ x=>opBox ev h x
 | .build t parts=>opBuild T ev h t parts
 | .buildSlice t len parts=>opBuildSlice T ev h t len parts
 | .load t a=>opLoad T ev h t a
 | .store t a x=>opStore T ev h t a x
 | .nilCheck x=>opNilCheck ev h x
 | .binOp op t x y _=>opBin T ev h op t x y
 | .unOp op _ x=>opUn ev h op x
 | .convert s d x=>opConv T ev h s d x
 | .makeFunc fn first captured=>opMakeFunc ev h fn first captured
 | .makeMap _ r=>opMakeMap h r
 | .makeSlice t l c=>opMakeSlice T ev h t l c
 | .slice t x lo hi mx=>opSlice T ev h t x lo hi mx
 | .fieldAddr s x f=>opFieldAddr T ev h s x f
 | .field s x f=>opField T ev h s x f
 | .indexAddr t x ix=>opIndexAddr T ev h t x ix
 | .index t x ix=>opIndex T ev h t x ix
 | .lookup t m k ok=>opLookup T ev h t m k ok
 | .mapUpdate t m k v=>opMapUpd T ev h t m k v
 | .insert t m k v=>opMapUpd T ev h t m k v
 | .range t x=>opRange T ev h t x
 | .next x isS=>opNext ev h x isS
 | .extract x i=>opExtract ev h x i
 | _=>none
def lenA (T:Tab) (h:Hp) (t:TypeId) (x:AV):Option AV :=
 match T.underlying t,x with
 | some .string,.str s=>some (.int .i64 s.size)
 | some (.array n _),.agg _=>some (.int .i64 n)
 | some (.slice _),.nils=>some (.int .i64 0)
 | some (.slice _),.ms _ _ n=>some (.int .i64 n)
 | some (.slice _),.sl _ rows=>some (.int .i64 rows.length)
 | some (.map _ _),m=>(mapA h m).map fun es=>.int .i64 es.length
 | _,_=>none
def max2A:AV→AV→Option AV
 | .int k x,.int _ y=>some (.int k (if y > x then y else x))
 | _,_=>none
def min2A:AV→AV→Option AV
 | .int k x,.int _ y=>some (.int k (if y < x then y else x))
 | _,_=>none
def foldA (f:AV→AV→Option AV):AV→List AV→Option AV
 | a,[]=>some a
 | a,b::l=>match f a b with
   | some c=>foldA f c l
   | none=>none
def clearA (T:Tab) (h:Hp) (t:TypeId) (x:AV):Option Hp :=
 match elemT T t with
 | some (_,n,_,z) =>
   (match x with
   | .nils=>some h
   | .ms b off len =>
     (match h.get b with
     | some (.cells k rows)=>if k=n∧off+len≤rows.length then (if len=0 then some h else some (h.set b (.cells k (setRows rows off (List.replicate len z))))) else none
     | _=>none)
   | _=>none)
 | none=>none
def fzCell (h:Hp):AV→AV × Hp
 | .ms b off len=>match h.get b with
   | some (.cells k rows)=>if off+len≤rows.length∧mxss rows=0 then (.sl k ((rows.drop off).take len),h.set b .dead) else (.ms b off len,h)
   | _=>(.ms b off len,h)
 | v=>(v,h)
def fzCells:List AV→Hp→List AV × Hp
 | [],h=>([],h)
 | a::as,h=>((fzCell h a).1::(fzCells as (fzCell h a).2).1,(fzCells as (fzCell h a).2).2)
def fzApp (T:Tab) (h:Hp) (ts:List TypeId) (args:List AV):List AV × Hp :=
 match ts,args with
 | t::_,[s,.ms b off 1] =>
   if T.fa t then
    match h.get b with
    | some (.cells k rows)=>match nth rows off with
      | some r=>if mxs (fzCells r h).1=0 then
        match (fzCells r h).2.get b with
        | some (.cells _ _)=>([s,.sl k [(fzCells r h).1]],(fzCells r h).2.set b .dead)
        | _=>(args,h)
        else (args,h)
      | none=>(args,h)
    | _=>(args,h)
   else (args,h)
 | _,_=>(args,h)
def builtinA (T:Tab) (h:Hp) (b:Builtin) (ts:List TypeId) (args:List AV):Option (AV × Hp) :=
 match b,args with
 | .len,[x]=>match ts with
   | t::_=>(lenA T h t x).map (·,h)
   | []=>none
 | .append,args=>appendA T (fzApp T h ts args).2 ts (fzApp T h ts args).1
 | .max,x::l=>(foldA max2A x l).map (·,h)
 | .min,x::l=>(foldA min2A x l).map (·,h)
 | .clear,[x]=>match ts with
   | t::_=>(clearA T h t x).map (.tuple [],·)
   | []=>none
 | _,_=>none
def AV.un:AV→Bool
 | .junk=>true
 | .tuple vs=>vs.isEmpty
 | _=>false
def norm:List AV→List AV→List AV
 | a::as,b::bs=>(if a.un then .junk else b)::norm as bs
 | _,bs=>bs
def lookL:List (Nat × AV)→Nat→Option AV
 | [],_=>none
 | (c,x)::l,b=>if b=c then some x else lookL l b
def slotA (M:Nat) (fr:List AV) (loc:List (Nat × AV)) (t:Nat):Option AV :=
 if M.testBit t then lookL loc t else nth fr t
def evalA (M:Nat) (fr:List AV) (loc:List (Nat × AV)):Ev
 | .tmp t=>slotA M fr loc t
 | .const v=>ofZero v
 | .global _=>none
 | .func f=>some (.func (.func f) [] [])
structure Sl where
 fr:List AV
 loc:List (Nat × AV)
def putA (M:Nat) (s:Sl) (dst:Option Tmp) (v:AV):Sl :=
 match dst with
 | some d=>if M.testBit d then ⟨s.fr,(d,v)::s.loc⟩ else ⟨put s.fr d v,s.loc⟩
 | none=>s
def wantedA (M:Nat) (ops:Array Oper) (o:Oper) (s:Sl):Option Bool :=
 match o.guard with
 | none=>some true
 | some (j,want) =>
   match (ops[j]?).bind (·.dst) with
   | some d=>match slotA M s.fr s.loc d with
     | some (.bool b)=>some (b == want)
     | some (.tuple [])=>some false
     | _=>none
   | none=>none
structure Env where
 T:Tab
 ext:FuncId→Option (List AV→Option AV)
 keep:FuncId→Bool
abbrev Inv:=Fn→List AV→List AV→Hp→Nd (AV × Hp)
def callA (T:Tab) (inv:Inv) (ev:Ev) (h:Hp) (c:Call):Nd (AV × Hp) :=
 match evalsA ev c.args.toList with
 | none=>.fail
 | some args =>
   match c.callee with
   | .value f=>match ev f with
     | some (.func (.func f) first captured)=>inv (.func f) (first++args) captured h
     | some (.yld l)=>inv (.yield l) args [] h
     | _=>.fail
   | .builtin b=>.opt (builtinA T h b c.argTypes.toList args)
   | .invoke _ _=>.fail
def doOp (T:Tab) (inv:Inv) (ev:Ev) (h:Hp) (op:Op):Nd (AV × Hp) :=
 match op with
 | .call c=>callA T inv ev h c
 | op=>.opt (opA T ev h op)
def stepOp (T:Tab) (inv:Inv) (M:Nat) (ops:Array Oper) (o:Oper) (s:Sl) (h:Hp):Nd (Sl × Hp) :=
 match wantedA M ops o s with
 | some true=>(doOp T inv (evalA M s.fr s.loc) h o.op).bind fun r=>.ok (putA M s o.dst r.1,r.2)
 | some false=>.ok (putA M s o.dst undefA,h)
 | none=>.fail
def runOps (T:Tab) (inv:Inv) (M:Nat) (ops:Array Oper):List Oper→Sl→Hp→Nd (Sl × Hp)
 | [],s,h=>.ok (s,h)
 | o::os,s,h=>(stepOp T inv M ops o s h).bind fun r=>runOps T inv M ops os r.1 r.2
def quietOp:Op→Bool
 | .move _ | .assign _ | .pick .. | .build .. | .load .. | .nilCheck _ | .binOp .. | .unOp .. | .convert .. | .makeFunc .. | .slice .. | .fieldAddr .. | .field .. | .indexAddr ..
 | .index .. | .lookup .. | .extract ..=>true
 | .call c=>match c.callee with
   | .builtin .len | .builtin .max | .builtin .min=>true
   | _=>false
 | _=>false
def calmOp (T:Tab) (ev:Ev):Op→Bool
 | .call c=>(match c.callee with
   | .value f=>(match ev f,evalsA ev c.args.toList with
     | some (.func (.func g) first captured),some args=>T.pu g&&(mxs (first++args++captured) == 0)
     | _,_=>false)
   | _=>false)
 | _=>false
def isAlloc:Op→Bool
 | .alloc _=>true
 | _=>false
def AV.block:AV→Option Nat
 | .ptr b _ _=>some b
 | .ms b _ _=>some b
 | .mp b=>some b
 | _=>none
def AV.look (full:Bool) (v:AV):Option (Nat × Bool):=v.block.map fun b=>(b,full)
def looksInto (ev:Ev):Op→Option (Nat × Bool)
 | .load _ a=>(ev a).bind (AV.look true)
 | .indexAddr _ x _=>(ev x).bind (AV.look false)
 | .slice _ x _ _ _=>(ev x).bind (AV.look true)
 | .lookup _ m _ _=>(ev m).bind (AV.look true)
 | .call c=>(evalsA ev c.args.toList).bind fun l=>match l with
   | [x]=>x.look true
   | _=>none
 | _=>none
structure Rec where
 read:Option (Nat × Bool)
 act:Option (Hp × Hp)
def sameAt (q:Nat × Bool) (x y:Hp):Bool :=
 match x.get q.1,y.get q.1 with
 | some u,some v=>u.same v || (!q.2&&u.sameLen v)
 | none,none=>true
 | _,_=>false
def hoist (T:Tab):List Oper→Hp→Option (List AV × Hp)
 | [],h=>some ([],h)
 | o::os,h =>
   match o.op with
   | .alloc e =>
     if o.guard.isNone then
      match opAlloc T h e with
      | some (v,h')=>match hoist T os h' with
        | some (vs,h'')=>some (v::vs,h'')
        | none=>none
      | none=>none
     else none
   | _=>match hoist T os h with
     | some (vs,h'')=>some (undefA::vs,h'')
     | none=>none
def drawStep (T:Tab) (inv:Inv) (M:Nat) (ops:Array Oper) (o:Oper) (pre:AV) (s:Sl) (h:Hp):Nd (AV × Hp × Rec) :=
 match wantedA M ops o s with
 | some true =>
   if isAlloc o.op then .ok (pre,h,⟨none,none⟩)
   else if quietOp o.op then (doOp T inv (evalA M s.fr s.loc) h o.op).bind fun r=>.ok (r.1,h,⟨looksInto (evalA M s.fr s.loc) o.op,none⟩)
   else if calmOp T (evalA M s.fr s.loc) o.op then (doOp T inv (evalA M s.fr s.loc) h o.op).bind fun r=>.ok (r.1,h,⟨none,none⟩)
   else (doOp T inv (evalA M s.fr s.loc) h o.op).bind fun r=>.ok (r.1,r.2,⟨none,some (h,r.2)⟩)
 | some false=>.ok (undefA,h,⟨none,none⟩)
 | none=>.fail
def runDraw (T:Tab) (inv:Inv) (M:Nat) (ops:Array Oper):List Oper→List AV→Sl→Hp→Nd (Sl × Hp × List Rec)
 | o::os,pre::pres,s,h =>
   (drawStep T inv M ops o pre s h).bind fun r =>
    (runDraw T inv M ops os pres (putA M s o.dst r.1) r.2.1).bind fun q=>.ok (q.1,q.2.1,r.2.2::q.2.2)
 | [],_,s,h=>.ok (s,h,[])
 | _,[],_,_=>.fail
def ordered (B:Array Nat) (i j:Nat):Bool:=(B.getD j 0).testBit i || (B.getD i 0).testBit j
def acyc (md:Region.Mode) (ops:Array Oper):Bool :=
 let l:=Region.linearise md ops 0
 l.length == ops.size&&(List.range ops.size).all fun j =>
  match ops[j]? with
  | none=>false
  | some y=>y.after.all fun e=>!Region.binds md e || decide (l.idxOf e.on < l.idxOf j)
def drawOk (ops:Array Oper):Bool :=
 let B:=Region.before ops
 acyc .any ops&&acyc .text ops&&acyc .gc ops&&(List.range ops.size).all fun j =>
  match ops[j]? with
  | none=>false
  | some y =>
    y.after.all (fun e=>!Region.binds .any e || decide (e.on < j)) &&
    (match y.guard with | some (g,_)=>(B.getD j 0).testBit g | none=>true) &&
    (List.range j).all fun i =>
     match ops[i]? with
     | none=>false
     | some x=>ordered B i j || x.apart ops y
def drawsOk:Code→Bool
 | .region _ ops draw=>!draw || drawOk ops
 | .seq a b=>drawsOk a&&drawsOk b
 | .cond _ a b=>drawsOk a&&drawsOk b
 | .block _ c=>drawsOk c
 | .loop c=>drawsOk c
 | .rangeFunc _ _ a b=>drawsOk a&&drawsOk b
 | .scope c=>drawsOk c
 | _=>true
def actsOk (B:Array Nat) (i:Nat) (b:Nat × Bool):Nat→List Rec→Bool
 | _,[]=>true
 | j,⟨_,some (x,y)⟩::rs=>(sameAt b x y || ordered B i j)&&actsOk B i b (j+1) rs
 | j,⟨_,none⟩::rs=>actsOk B i b (j+1) rs
def recsOk (B:Array Nat) (all:List Rec):Nat→List Rec→Bool
 | _,[]=>true
 | i,⟨some b,_⟩::rs=>actsOk B i b 0 all&&recsOk B all (i+1) rs
 | i,⟨none,_⟩::rs=>recsOk B all (i+1) rs
def pairs1 (B:Array Nat) (i:Nat):Nat→List Rec→Bool
 | _,[]=>true
 | j,⟨_,some _⟩::rs=>ordered B i j&&pairs1 B i (j+1) rs
 | j,⟨_,none⟩::rs=>pairs1 B i (j+1) rs
def pairsOk (B:Array Nat):Nat→List Rec→Bool
 | _,[]=>true
 | i,⟨_,some _⟩::rs=>pairs1 B i (i+1) rs&&pairsOk B (i+1) rs
 | i,⟨_,none⟩::rs=>pairsOk B (i+1) rs
def drawA (T:Tab) (inv:Inv) (M:Nat) (ops:Array Oper) (fr:List AV) (h:Hp):Nd (Sl × Hp) :=
 match hoist T ops.toList h with
 | some (pres,h1)=>match runDraw T inv M ops ops.toList pres ⟨fr,[]⟩ h1 with
   | .ok r=>if (recsOk (Region.before ops) r.2.2 0 r.2.2&&pairsOk (Region.before ops) 0 r.2.2)=true then .ok (r.1,r.2.1) else .fail
   | _=>.fail
 | none=>.fail
inductive Ex where
 | normal
 | exit (id:Nat)
 | ret
 deriving DecidableEq,Inhabited
structure Fr where
 tmps:List AV
 dfr:List Nat
abbrev Out:=Nd (Ex × Fr × Hp)
def iter (body:Fr→Hp→Out):Nat→Fr→Hp→Out
 | 0,_,_=>.fail
 | k+1,fr,h=>(body fr h).bind fun r =>
   match r.1 with
   | .normal=>iter body k ⟨norm fr.tmps r.2.1.tmps,r.2.1.dfr⟩ r.2.2
   | .exit id=>.ok (.exit id,⟨norm fr.tmps r.2.1.tmps,r.2.1.dfr⟩,r.2.2)
   | .ret=>.ok r
def Hp.enter (h:Hp):Hp:={ nx:=h.nx,top:=[],rest:=h.top::h.rest,lk:=none }
def useO (d:Nat):Operand→Nat
 | .tmp t=>if d.testBit t then 0 else 1 <<< t
 | _=>0
def useOps:List Oper→Nat × Nat→Nat × Nat
 | [],r=>r
 | o::os,r=>useOps os (o.op.operands.toList.foldl (fun u x=>u ||| useO r.2 x) r.1,match o.dst with | some t=>r.2 ||| (1 <<< t) | none=>r.2)
def useC:Code→Nat × Nat→Nat × Nat
 | .region _ ops _,r=>useOps ops.toList r
 | .seq a b,r=>useC b (useC a r)
 | .cond c a b,r=>(r.1 ||| useO r.2 c ||| (useC a (0,r.2)).1 ||| (useC b (0,r.2)).1,r.2)
 | .block _ c,r=>(r.1 ||| (useC c (0,r.2)).1,r.2)
 | .loop c,r=>(r.1 ||| (useC c (0,r.2)).1,r.2)
 | .scope c,r=>(r.1 ||| (useC c (0,r.2)).1,r.2)
 | .rangeFunc f _ as bd,r=>(r.1 ||| useO r.2 f ||| (useC bd (useC as (0,r.2))).1,r.2)
 | _,r=>r
def needS (ps:List Tmp) (as bd:Code):Nat:=(useC bd (useC as (0,ps.foldl (fun m t=>m ||| (1 <<< t)) 0))).1
def msk (u:Nat):Nat→List AV→List AV
 | _,[]=>[]
 | i,a::l=>(if u.testBit i then a else .junk)::msk u (i+1) l
def openLoop (M:Nat) (ro:Option Nat) (fr:Fr) (params:List Tmp) (assign body:Code) (h:Hp):Option (Nat × Fr × Hp) :=
 match ro with
 | none=>some (h.nx+1,⟨fr.tmps,h.nx::fr.dfr⟩,(h.push (.dfr false)).push (.loop M (msk (needS params assign body) 0 fr.tmps) params assign body .ready none h.nx))
 | some l₀=>match h.get l₀ with
   | some (.loop _ _ _ _ _ _ _ d)=>some (h.nx,fr,h.push (.loop M (msk (needS params assign body) 0 fr.tmps) params assign body .ready none d))
   | _=>none
def fzV (b k:Nat) (rows:List (List AV)):AV→AV
 | .ms c off len=>if c=b then (if off+len≤rows.length then .sl k ((rows.drop off).take len) else .ms c off len) else .ms c off len
 | v=>v
def fzSlot (M:Nat) (s:List AV × Hp) (t:Nat):List AV × Hp :=
 if M.testBit t then s else match nth s.1 t with
 | some (.ms b _ _)=>(match s.2.get b with
   | some (.cells k rows)=>if mxss rows=0 then (s.1.map (fzV b k rows),s.2.set b .dead) else s
   | _=>s)
 | _=>s
def fzOp (T:Tab) (o:Oper):List Nat :=
 match o.op with
 | .call c=>(match c.callee with
   | .value (.func f)=>if T.fz f then c.args.toList.filterMap (fun x=>match x with | .tmp t=>some t | _=>none) else []
   | _=>[])
 | _=>[]
def fzSlots (T:Tab) (ops:Array Oper):List Nat :=
 match ops.toList.flatMap (fzOp T) with
 | []=>[]
 | l=>ops.toList.filterMap (fun o=>match o.dst,o.op with
   | some d,.move (.tmp t)=>if l.contains d then some t else none
   | _,_=>none)++l
def preFz (T:Tab) (M:Nat) (ops:Array Oper) (fr:List AV) (h:Hp):List AV × Hp:=(fzSlots T ops).foldl (fzSlot M) (fr,h)
def exec (T:Tab) (inv:Inv) (k:Nat) (M:Nat) (ro:Option Nat):Code→Fr→Hp→Out
 | .skip,fr,h=>.ok (.normal,fr,h)
 | .region _ ops draw,fr,h =>
   (if draw then drawA T inv M ops (preFz T M ops fr.tmps h).1 (preFz T M ops fr.tmps h).2 else runOps T inv M ops ops.toList ⟨(preFz T M ops fr.tmps h).1,[]⟩ (preFz T M ops fr.tmps h).2).bind fun r=>.ok (.normal,⟨r.1.fr,fr.dfr⟩,r.2)
 | .seq a b,fr,h=>(exec T inv k M ro a fr h).bind fun r =>
   match r.1 with
   | .normal=>exec T inv k M ro b r.2.1 r.2.2
   | _=>.ok r
 | .cond c x y,fr,h =>
   match evalA M fr.tmps [] c with
   | some (.bool true)=>exec T inv k M ro x fr h
   | some (.bool false)=>exec T inv k M ro y fr h
   | _=>.fail
 | .block id c,fr,h=>(exec T inv k M ro c fr h).bind fun r =>
   match r.1 with
   | .exit id'=>if id'=id then .ok (.normal,r.2) else .ok r
   | _=>.ok r
 | .loop c,fr,h=>iter (exec T inv k M ro c) k ⟨norm fr.tmps fr.tmps,fr.dfr⟩ h
 | .rangeFunc f params assign body,fr,h =>
   match evalA M fr.tmps [] f,openLoop M ro fr params.toList assign body h with
   | some (.func (.func g) first captured),some (l,fr1,h1) =>
     (inv (.func g) (first++[.yld l]) captured h1).bind fun r =>
      match r.2.get l with
      | some (.loop mk tm ps as bd st pend d) =>
        if st = .busy then .fail
        else match pend with
         | none=>.ok (.normal,fr1,r.2.set l (.loop mk tm ps as bd .exhausted pend d))
         | some .ret=>.ok (.ret,fr1,r.2.set l (.loop mk tm ps as bd .exhausted pend d))
         | some (.exit id)=>.ok (.exit id,fr1,r.2.set l (.loop mk tm ps as bd .exhausted pend d))
         | some _=>.fail
      | _=>.fail
   | _,_=>.fail
 | .exit id,fr,h=>.ok (.exit id,fr,h)
 | .scope c,fr,h=>exec T inv k M ro c fr h
 | .label _,fr,h=>.ok (.normal,fr,h)
 | .goto _,_,_=>.fail
 | .ret,fr,h=>.ok (.ret,fr,h)
 | .refuse _,_,_=>.fail
def frzRow (f:AV→AV) (r:List AV):List AV:=if mxs r=0 then r else r.map f
def frzSl (v:AV) (k off len:Nat) (rows rows':List (List AV)):AV:=if off+len≤rows.length∧mxss rows'=0 then .sl k rows' else v
def frzRef (v:AV) (cs:List AV):AV:=if mxs cs=0 then .ref cs else v
def frzIm (v:AV) (es:List (AV × AV)):AV:=if es.all (fun e=>e.1.mx == 0&&e.2.mx == 0) then .im es else v
def frz (h:Hp) (base:Nat):Nat→AV→AV
 | 0,v=>v
 | n+1,v =>
   match v with
   | .agg cs=>.agg (frzRow (frz h base n) cs)
   | .tuple vs=>.tuple (frzRow (frz h base n) vs)
   | .func fn a b=>.func fn (frzRow (frz h base n) a) (frzRow (frz h base n) b)
   | .ms b off len =>
     if base≤b then
      match h.get b with
      | some (.cells k rows)=>frzSl v k off len rows (((rows.drop off).take len).map (frzRow (frz h base n)))
      | _=>v
     else v
   | .ptr b i o =>
     if base≤b then
      match h.get b with
      | some (.cells _ rows)=>match nth rows i with
        | some r=>frzRef v ((frzRow (frz h base n) r).drop o)
        | none=>v
      | _=>v
     else v
   | .mp b =>
     if base≤b then
      match h.get b with
      | some (.map es)=>frzIm v (es.map fun e=>(e.1,frz h base n e.2))
      | _=>v
     else v
   | v=>v
def lkOk (base:Nat):Option Nat→Bool
 | none=>true
 | some b=>decide (base≤b)
def leaveA (h:Hp) (keep:Bool) (v:AV) (h':Hp):Nd (AV × Hp) :=
 match h'.rest with
 | t::rs =>
   let v':=if keep then v else if v.mx≤h.nx then v else frz h' h.nx 12 v
   if lkOk h.nx h'.lk=true∧v'.mx≤h.nx then .ok (v',{ nx:=h.nx,top:=t,rest:=rs,lk:=h.lk })
   else .ok (v,{ nx:=h'.nx,top:=h'.top++t,rest:=rs,lk:=match h'.lk with | none=>h.lk | some b=>minO h.lk b })
 | []=>.fail
def resultA (T:Tab) (M:Nat) (h:Hp) (tmps:List AV):ResultVar→Option AV
 | .tmp t=>slotA M tmps [] t
 | .cell a t=>match slotA M tmps [] a with
   | some x=>loadA T h t x
   | none=>none
def resultsA (T:Tab) (M:Nat) (h:Hp) (tmps:List AV):List ResultVar→Option (List AV)
 | []=>some []
 | r::rs=>match resultA T M h tmps r,resultsA T M h tmps rs with
   | some v,some vs=>some (v::vs)
   | _,_=>none
def oneOf:List AV→AV
 | [v]=>v
 | vs=>.tuple vs
def closeDfr:List Nat→Hp→Option Hp
 | [],h=>some h
 | d::ds,h=>match h.get d with
   | some (.dfr false)=>closeDfr ds (h.set d (.dfr true))
   | _=>none
def extA (E:Env) (f:FuncId) (args:List AV) (h:Hp):Option AV :=
 match E.ext f with
 | some g=>match g (args.map (frz h 0 12)) with
   | some r=>if mxs args=0∨r.flat=true then some r else none
   | none=>none
 | none=>none
def intsOf:List (List AV)→Option (List Int)
 | []=>some []
 | r::rs=>match r with
   | [.int .i64 z]=>(match intsOf rs with | some zs=>some (z::zs) | none=>none)
   | _=>none
def ofInts (zs:List Int):List (List AV):=zs.map fun z=>[.int .i64 z]
def ipRow (p:IpF) (b:Nat) (zs:List Int) (h:Hp):Option (AV × Hp) :=
 match p.g zs with
 | some zs'=>if p.eat then some (.sl 1 (ofInts zs'),h.set b .dead) else if zs'.length=zs.length then some (undefA,h.set b (.cells 1 (ofInts zs'))) else none
 | none=>none
def ipA (T:Tab) (f:FuncId) (args:List AV) (h:Hp):Option (AV × Hp) :=
 match T.ip f with
 | some p=>match args with
   | [.ms b 0 len]=>(match h.get b with
     | some (.cells 1 rows)=>if rows.length=len then (match intsOf rows with
       | some zs=>ipRow p b zs h
       | none=>none) else none
     | _=>none)
   | [.nils]=>if p.eat then none else (match p.g [] with
     | some []=>some (undefA,h)
     | _=>none)
   | _=>none
 | none=>none
def ipFn (p:IpF):List AV→Option AV
 | [.sl 1 rows]=>(match intsOf rows with
   | some zs=>(match p.g zs with
     | some zs'=>some (.sl 1 (ofInts zs'))
     | none=>none)
   | none=>none)
 | _=>none
def gpA (T:Tab) (f:FuncId) (args:List AV) (h:Hp):Option (AV × Hp) :=
 match T.gp f with
 | some p=>(match args with
   | .ms b 0 len::more=>(match h.get b with
     | some (.cells k rows) =>
       if rows.length=len∧mxss rows=0∧mxs (more.map (frz (h.set b .dead) 0 12))=0 then
        (match p.g (.sl k rows::more.map (frz (h.set b .dead) 0 12)) with
        | some (.sl k' rows')=>if k'=k∧rows'.length=len∧flats rows'.flatten=true then some (undefA,h.set b (.cells k rows')) else none
        | _=>none)
       else none
     | _=>none)
   | .nils::more =>
     if mxs (more.map (frz h 0 12))=0 then
      (match p.g (.nils::more.map (frz h 0 12)) with
      | some .nils=>some (undefA,h)
      | _=>none)
     else none
   | _=>none)
 | none=>none
def frA (T:Tab) (f:FuncId) (args:List AV) (h:Hp):Option (AV × Hp) :=
 match T.fr f with
 | some p=>if mxs (args.map (frz h 0 12))=0 then (match p.g (args.map (frz h 0 12)) with
   | some (.sl k rows)=>if flats rows.flatten=true then some (.ms h.nx 0 rows.length,h.push (.cells k rows)) else none
   | some .nils=>some (.nils,h)
   | _=>none) else none
 | none=>none
def runFn (E:Env) (inv:Inv) (k:Nat) (f:FuncId) (args:List AV) (h:Hp):Nd (AV × Hp) :=
 match extA E f args h with
 | some r=>.ok (r,h)
 | none =>
  if E.T.pu f then .fail else
  match frA E.T f args h with
  | some r=>.ok r
  | none =>
  match gpA E.T f args h with
  | some r=>.ok r
  | none =>
  match ipA E.T f args h with
  | some r=>.ok r
  | none =>
   match E.T.fn.get f with
   | some e=>match e.fn.body with
     | some code =>
       (exec E.T inv k e.loc none code ⟨args++List.replicate (e.fn.ntmps - args.length) undefA,[]⟩ h.enter).bind fun r =>
        match r.1 with
        | .exit _=>.fail
        | _=>match closeDfr r.2.1.dfr r.2.2 with
          | some h1=>match resultsA E.T e.loc h1 r.2.1.tmps e.fn.results.toList with
            | some vs=>leaveA h (E.keep f) (oneOf vs) h1
            | none=>.fail
          | none=>.fail
     | none=>.fail
   | none=>.fail
def setParams:List AV→List Tmp→List AV→List AV
 | tm,t::ts,v::vs=>setParams (put tm t v) ts vs
 | tm,_,_=>tm
def roundA (T:Tab) (inv:Inv) (k:Nat) (l:Nat) (args:List AV) (h:Hp):Nd (AV × Hp) :=
 match h.get l with
 | some (.loop M tm ps as bd _ _ _) =>
   if args.length=ps.length then
    (exec T inv k M (some l) as ⟨setParams tm ps args,[]⟩ h.enter).bind fun r =>
     match r.1,r.2.1.dfr,r.2.2.get l with
     | .normal,[],some (.loop mk tm ps as' bd' .ready pend d) =>
       (exec T inv k M (some l) bd r.2.1 (r.2.2.set l (.loop mk tm ps as' bd' .busy pend d))).bind fun s =>
        match s.2.1.dfr,s.2.2.get l with
        | [],some (.loop mk tm ps as bd _ _ d) =>
          match s.1 with
          | .normal=>leaveA h true (.bool true) (s.2.2.set l (.loop mk tm ps as bd .ready none d))
          | .ret=>leaveA h true (.bool false) (s.2.2.set l (.loop mk tm ps as bd .done (some .ret) d))
          | .exit id=>leaveA h true (.bool false) (s.2.2.set l (.loop mk tm ps as bd .done (some (.exit id)) d))
        | _,_=>.fail
     | _,_,_=>.fail
   else .fail
 | _=>.fail
def inv (E:Env):Nat→Fn→List AV→List AV→Hp→Nd (AV × Hp)
 | 0,_,_,_,_=>.fail
 | k+1,fn,args,cap,h =>
   match fn with
   | .func f=>runFn E (inv E k) k f (args++cap) h
   | .yield l=>roundA E.T (inv E k) k l args h
   | _=>.fail
end Go.Proofs.YtdjngcfnlfgjkaaGreatDoor.AM

namespace Go.Proofs.YtdjngcfnlfgjkaaGreatDoor.AM
open Go.RowKit
abbrev cellV (v:Value):Bool:=v.oneCell'
def AV.lit:AV→Option Value
 | .bool b=>some (.bool b)
 | .int k n=>some (.int k n)
 | .str s=>some (.string s)
 | .nilp=>some (.pointer none)
 | .nils=>some (.slice none 0 0)
 | .nilm=>some (.map none)
 | .nilf=>some .nilFunc
 | .nili=>some .nilIface
 | _=>none
structure Loc where
 c:Nat
 base:Nat
 k:Nat
 cap:Nat
class Glob where
 K:World→Prop
structure Rho where
 map:Nat→Option Loc
 X:Nat→Prop
instance : CoeFun Rho fun _ => Nat → Option Loc := ⟨Rho.map⟩
def noRho:Rho:=⟨fun _=>none,fun _=>False⟩
def Seen (w:World) (own:Nat→Prop) (a:Addr) (vs:List Value):Prop :=
 ∀ j v,vs[j]? = some v→w.cell? ⟨a.block,a.off+j,none⟩=some v∧a.spot=none∧¬ own a.block∧cellV v=true
mutual
inductive Rel (w:World) (own:Nat→Prop):Rho→AV→Value→Prop
 | junk (ρ:Rho) (v:Value):Rel w own ρ .junk v
 | lit (ρ:Rho) (a:AV) (v:Value) (h:a.lit=some v):Rel w own ρ a v
 | agg (ρ:Rho) (cs:List AV) (vs:List Value) (h:Rels w own ρ cs vs):Rel w own ρ (.agg cs) (.agg vs.toArray)
 | tuple (ρ:Rho) (cs:List AV) (vs:List Value) (h:Rels w own ρ cs vs):Rel w own ρ (.tuple cs) (.tuple vs.toArray)
 | func (ρ:Rho) (fn:Fn) (a b:List AV) (va vb:List Value) (h1:Rels w own ρ a va) (h2:Rels w own ρ b vb):Rel w own ρ (.func fn a b) (.func fn va.toArray vb.toArray)
 | yld (ρ:Rho) (l:Nat) (x:Loc) (h:ρ l=some x):Rel w own ρ (.yld l) (.func (.yield x.c) #[] #[])
 | iface (ρ:Rho) (t:TypeId) (a:AV) (v:Value) (h:Rel w own ρ a v):Rel w own ρ (.iface t a) (.iface t v)
 | ref (ρ:Rho) (a:Addr) (cs:List AV) (vs:List Value) (h:Rels w own noRho cs vs) (hs:Seen w own a vs):Rel w own ρ (.ref cs) (.pointer (some a))
 | sl (ρ:Rho) (a:Addr) (k:Nat) (rows:List (List AV)) (vs:List Value) (n cap:Nat) (hn:n=rows.length) (hk:∀ r∈rows,r.length=k) (h:Rels w own noRho rows.flatten vs) (hs:Seen w own a vs) (hc:n≤cap) :
   Rel w own ρ (.sl k rows) (.slice (some a) n cap)
 | im (ρ:Rho) (b:Nat) (es:List (AV × AV)) (ents:Array MapEntry) (clock:Nat) (hb:w.heap[b]? = some (.map ents clock)) (hown:¬ own b)
   (hk:Rels w own noRho (es.map (·.1)) (ents.toList.map (·.key))) (hv:Rels w own noRho (es.map (·.2)) (ents.toList.map (·.val))):Rel w own ρ (.im es) (.map (some b))
 | ptr (ρ:Rho) (b i o:Nat) (x:Loc) (h:ρ b=some x) (off:Nat) (ho:off=x.base+i * x.k+o):Rel w own ρ (.ptr b i o) (.pointer (some ⟨x.c,off,none⟩))
 | it (ρ:Rho) (b:Nat) (x:Loc) (h:ρ b=some x):Rel w own ρ (.it b) (.pointer (some ⟨x.c,0,none⟩))
 | ms (ρ:Rho) (b off len:Nat) (x:Loc) (h:ρ b=some x) (hl:off+len≤x.cap) (a cap:Nat) (hcap:off+cap=x.cap) (ha:off < x.cap→a=x.base+off * x.k) :
   Rel w own ρ (.ms b off len) (.slice (some ⟨x.c,a,none⟩) len cap)
 | mp (ρ:Rho) (b:Nat) (x:Loc) (h:ρ b=some x):Rel w own ρ (.mp b) (.map (some x.c))
inductive Rels (w:World) (own:Nat→Prop):Rho→List AV→List Value→Prop
 | nil (ρ:Rho):Rels w own ρ [] []
 | cons (ρ:Rho) (a:AV) (v:Value) (as:List AV) (vs:List Value) (h:Rel w own ρ a v) (hs:Rels w own ρ as vs):Rels w own ρ (a::as) (v::vs)
end
def Stable (w:World) (own:Nat→Prop) (w':World) (own':Nat→Prop):Prop :=
 ∀ b o,¬ own b→w.heap[b]? = some o→w'.heap[b]? = some o∧¬ own' b
theorem Stable.refl (w:World) (own:Nat→Prop):Stable w own w own:=fun _ _ h h'=>⟨h',h⟩
theorem cell_block {w:World} {a:Addr} {v:Value} (h:w.cell? a=some v):∃ o,w.heap[a.block]? = some o:=by
 unfold World.cell? at h
 cases hb:w.heap[a.block]? with
 | none=>rw [hb] at h; cases h
 | some o=>exact ⟨o,rfl⟩
theorem cell_of_block {w w':World} {a:Addr} (h:w'.heap[a.block]? = w.heap[a.block]?):w'.cell? a=w.cell? a:=by
 unfold World.cell?; rw [h]
theorem Seen.mono {w w':World} {own own':Nat→Prop} {a:Addr} {vs:List Value} (h:Seen w own a vs) (hs:Stable w own w' own'):Seen w' own' a vs:=by
 intro j v hj
 obtain ⟨h1,h2,h3,h4⟩:=h j v hj
 obtain ⟨o,ho⟩:=cell_block h1
 obtain ⟨h5,h6⟩:=hs _ o h3 ho
 exact ⟨(cell_of_block (a:=⟨a.block,a.off+j,none⟩) (h5.trans ho.symm)).trans h1,h2,h6,h4⟩
def Rho.le (ρ ρ':Rho):Prop:=∀ b x,ρ b=some x→ρ' b=some x
theorem Rho.le_refl (ρ:Rho):Rho.le ρ ρ:=fun _ _ h=>h
theorem noRho_le (ρ:Rho):Rho.le noRho ρ:=fun _ _ h=>by cases h
mutual
theorem Rel.mono {w w':World} {own own':Nat→Prop} (hs:Stable w own w' own') {ρ ρ':Rho} {a:AV} {v:Value} (hr:Rho.le ρ ρ'):Rel w own ρ a v→Rel w' own' ρ' a v
 | .junk _ _=>.junk _ _
 | .lit _ _ _ h=>.lit _ _ _ h
 | .agg _ _ _ h=>.agg _ _ _ (h.mono hs hr)
 | .tuple _ _ _ h=>.tuple _ _ _ (h.mono hs hr)
 | .func _ _ _ _ _ _ h1 h2=>.func _ _ _ _ _ _ (h1.mono hs hr) (h2.mono hs hr)
 | .yld _ _ _ h=>.yld _ _ _ (hr _ _ h)
 | .iface _ _ _ _ h=>.iface _ _ _ _ (h.mono hs hr)
 | .ref _ _ _ _ h h'=>.ref _ _ _ _ (h.mono hs (Rho.le_refl _)) (h'.mono hs)
 | .sl _ _ _ _ _ _ _ hn hk h h' hc=>.sl _ _ _ _ _ _ _ hn hk (h.mono hs (Rho.le_refl _)) (h'.mono hs) hc
 | .im _ _ _ _ _ hb ho hk hv=>.im _ _ _ _ _ (hs _ _ ho hb).1 (hs _ _ ho hb).2 (hk.mono hs (Rho.le_refl _)) (hv.mono hs (Rho.le_refl _))
 | .ptr _ _ _ _ _ h _ ho=>.ptr _ _ _ _ _ (hr _ _ h) _ ho
 | .it _ _ _ h=>.it _ _ _ (hr _ _ h)
 | .ms _ _ _ _ _ h hl _ _ hc ha=>.ms _ _ _ _ _ (hr _ _ h) hl _ _ hc ha
 | .mp _ _ _ h=>.mp _ _ _ (hr _ _ h)
theorem Rels.mono {w w':World} {own own':Nat→Prop} (hs:Stable w own w' own') {ρ ρ':Rho} {a:List AV} {v:List Value} (hr:Rho.le ρ ρ'):Rels w own ρ a v→Rels w' own' ρ' a v
 | .nil _=>.nil _
 | .cons _ _ _ _ _ h h'=>.cons _ _ _ _ _ (h.mono hs hr) (h'.mono hs hr)
end
def Rho.below (ρ:Rho) (n:Nat):Rho:=⟨fun b=>if b < n then ρ b else none,ρ.X⟩
mutual
theorem Rel.cut {w:World} {own:Nat→Prop} {ρ:Rho} {n:Nat} {a:AV} {v:Value}:Rel w own ρ a v→a.mx≤n→Rel w own (ρ.below n) a v
 | .junk _ _,_=>.junk _ _
 | .lit _ _ _ h,_=>.lit _ _ _ h
 | .agg _ _ _ h,hn=>.agg _ _ _ (h.cut (by simpa [AV.mx] using hn))
 | .tuple _ _ _ h,hn=>.tuple _ _ _ (h.cut (by simpa [AV.mx] using hn))
 | .func _ _ _ _ _ _ h1 h2,hn=>.func _ _ _ _ _ _ (h1.cut (by simp [AV.mx] at hn; omega)) (h2.cut (by simp [AV.mx] at hn; omega))
 | .yld _ _ _ h,hn=>.yld _ _ _ (by simp [AV.mx] at hn; simp [Rho.below,h]; omega)
 | .iface _ _ _ _ h,hn=>.iface _ _ _ _ (h.cut (by simpa [AV.mx] using hn))
 | .ref _ _ _ _ h h',_=>.ref _ _ _ _ h h'
 | .sl _ _ _ _ _ _ _ hn hk h h' hc,_=>.sl _ _ _ _ _ _ _ hn hk h h' hc
 | .im _ _ _ _ _ hb ho hk hv,_=>.im _ _ _ _ _ hb ho hk hv
 | .ptr _ _ _ _ _ h _ ho,hn=>.ptr _ _ _ _ _ (by simp [AV.mx] at hn; simp [Rho.below,h]; omega) _ ho
 | .it _ _ _ h,hn=>.it _ _ _ (by simp [AV.mx] at hn; simp [Rho.below,h]; omega)
 | .ms _ _ _ _ _ h hl _ _ hc ha,hn=>.ms _ _ _ _ _ (by simp [AV.mx] at hn; simp [Rho.below,h]; omega) hl _ _ hc ha
 | .mp _ _ _ h,hn=>.mp _ _ _ (by simp [AV.mx] at hn; simp [Rho.below,h]; omega)
theorem Rels.cut {w:World} {own:Nat→Prop} {ρ:Rho} {n:Nat} {a:List AV} {v:List Value}:Rels w own ρ a v→mxs a≤n→Rels w own (ρ.below n) a v
 | .nil _,_=>.nil _
 | .cons _ _ _ _ _ h h',hn=>.cons _ _ _ _ _ (h.cut (by simp [mxs] at hn; omega)) (h'.cut (by simp [mxs] at hn; omega))
end
theorem below_zero (ρ:Rho):Rho.le (ρ.below 0) noRho:=fun b x h=>by simp [Rho.below] at h
theorem Rels.closed {w:World} {own:Nat→Prop} {ρ:Rho} {a:List AV} {v:List Value} (h:Rels w own ρ a v) (hm:mxs a=0):Rels w own noRho a v:=by
 exact (h.cut (n:=0) (by omega)).mono (Stable.refl _ _) (below_zero ρ)
theorem Rel.closed {w:World} {own:Nat→Prop} {ρ:Rho} {a:AV} {v:Value} (h:Rel w own ρ a v) (hm:a.mx=0):Rel w own noRho a v:=by
 exact (h.cut (n:=0) (by omega)).mono (Stable.refl _ _) (below_zero ρ)
mutual
theorem Rel.mx_le {w:World} {own:Nat→Prop} {ρ:Rho} {n:Nat} (hd:∀ b x,ρ b=some x→b < n) {a:AV} {v:Value}:Rel w own ρ a v→a.mx≤n
 | .junk _ _=>by simp [AV.mx]
 | .lit _ a _ h=>by cases a<;>simp [AV.lit] at h<;>simp [AV.mx]
 | .agg _ _ _ h=>by simpa [AV.mx] using h.mx_le hd
 | .tuple _ _ _ h=>by simpa [AV.mx] using h.mx_le hd
 | .func _ _ _ _ _ _ h1 h2=>by have:=h1.mx_le hd; have:=h2.mx_le hd; simp [AV.mx]; omega
 | .yld _ _ _ h=>by have:=hd _ _ h; simp [AV.mx]; omega
 | .iface _ _ _ _ h=>by simpa [AV.mx] using h.mx_le hd
 | .ref _ _ _ _ _ _=>by simp [AV.mx]
 | .sl _ _ _ _ _ _ _ _ _ _ _ _=>by simp [AV.mx]
 | .im _ _ _ _ _ _ _ _ _=>by simp [AV.mx]
 | .ptr _ _ _ _ _ h _ _=>by have:=hd _ _ h; simp [AV.mx]; omega
 | .it _ _ _ h=>by have:=hd _ _ h; simp [AV.mx]; omega
 | .ms _ _ _ _ _ h _ _ _ _ _=>by have:=hd _ _ h; simp [AV.mx]; omega
 | .mp _ _ _ h=>by have:=hd _ _ h; simp [AV.mx]; omega
theorem Rels.mx_le {w:World} {own:Nat→Prop} {ρ:Rho} {n:Nat} (hd:∀ b x,ρ b=some x→b < n) {a:List AV} {v:List Value}:Rels w own ρ a v→mxs a≤n
 | .nil _=>by simp [mxs]
 | .cons _ _ _ _ _ h h'=>by have:=h.mx_le hd; have:=h'.mx_le hd; simp [mxs]; omega
end
section
variable {w:World} {own:Nat→Prop} {ρ:Rho}
theorem Rels.length {a:List AV} {v:List Value} (h:Rels w own ρ a v):a.length=v.length:=by
 induction a generalizing v with
 | nil=>cases h; rfl
 | cons x xs ih=>cases h with | cons _ _ _ _ _ h1 h2=>simp [ih h2]
theorem Rels.append {a b:List AV} {v u:List Value} (h:Rels w own ρ a v) (h':Rels w own ρ b u):Rels w own ρ (a++b) (v++u):=by
 induction a generalizing v with
 | nil=>cases h; simpa using h'
 | cons x xs ih=>cases h with | cons _ _ _ _ _ h1 h2=>exact .cons _ _ _ _ _ h1 (ih h2)
theorem Rels.get {a:List AV} {v:List Value} (h:Rels w own ρ a v) {n:Nat} {x:AV} (hx:nth a n=some x):∃ y,v[n]? = some y∧Rel w own ρ x y:=by
 induction a generalizing v n with
 | nil=>simp [nth] at hx
 | cons z zs ih =>
   cases h with
   | cons _ _ y _ ys h1 h2 =>
     cases n with
     | zero=>simp [nth] at hx; subst hx; exact ⟨y,by simp,h1⟩
     | succ n=>simp [nth] at hx; obtain ⟨y',hy,hr⟩:=ih h2 hx; exact ⟨y',by simpa using hy,hr⟩
theorem nth_eq {α:Type} (l:List α) (n:Nat):nth l n=l[n]? := by
 induction l generalizing n with
 | nil=>simp [nth]
 | cons a l ih=>cases n<;>simp [nth,ih]
theorem put_eq {α:Type} (l:List α) (n:Nat) (v:α):put l n v=l.set n v:=by
 induction l generalizing n with
 | nil=>simp [put]
 | cons a l ih=>cases n<;>simp [put,ih]
theorem Rels.drop {a:List AV} {v:List Value} (h:Rels w own ρ a v) (n:Nat):Rels w own ρ (a.drop n) (v.drop n):=by
 induction n generalizing a v with
 | zero=>simpa using h
 | succ n ih=>cases h with
   | nil=>simpa using Rels.nil ρ
   | cons _ _ _ _ _ h1 h2=>simpa using ih h2
theorem Rels.take {a:List AV} {v:List Value} (h:Rels w own ρ a v) (n:Nat):Rels w own ρ (a.take n) (v.take n):=by
 induction n generalizing a v with
 | zero=>simpa using Rels.nil ρ
 | succ n ih=>cases h with
   | nil=>simpa using Rels.nil ρ
   | cons _ _ _ _ _ h1 h2=>simpa using Rels.cons _ _ _ _ _ h1 (ih h2)
theorem Rels.replicate {x:AV} {y:Value} (h:Rel w own ρ x y) (n:Nat):Rels w own ρ (List.replicate n x) (List.replicate n y):=by
 induction n with
 | zero=>exact .nil _
 | succ n ih=>exact .cons _ _ _ _ _ h ih
theorem Rel.agg_inv {cs:List AV} {v:Value} (h:Rel w own ρ (.agg cs) v):∃ vs,v = .agg vs.toArray∧Rels w own ρ cs vs:=by
 cases h with
 | lit _ _ _ h=>simp [AV.lit] at h
 | agg _ _ vs h=>exact ⟨vs,rfl,h⟩
theorem Rel.tuple_inv {cs:List AV} {v:Value} (h:Rel w own ρ (.tuple cs) v):∃ vs,v = .tuple vs.toArray∧Rels w own ρ cs vs:=by
 cases h with
 | lit _ _ _ h=>simp [AV.lit] at h
 | tuple _ _ vs h=>exact ⟨vs,rfl,h⟩
theorem Rel.func_inv {fn:Fn} {a b:List AV} {v:Value} (h:Rel w own ρ (.func fn a b) v):∃ va vb,v = .func fn va.toArray vb.toArray∧Rels w own ρ a va∧Rels w own ρ b vb:=by
 cases h with
 | lit _ _ _ h=>simp [AV.lit] at h
 | func _ _ _ _ va vb h1 h2=>exact ⟨va,vb,rfl,h1,h2⟩
theorem Rel.bool_inv {b:Bool} {v:Value} (h:Rel w own ρ (.bool b) v):v = .bool b:=by cases h with | lit _ _ _ h=>simp [AV.lit] at h; exact h.symm
theorem Rel.int_inv {k:IntKind} {n:Int} {v:Value} (h:Rel w own ρ (.int k n) v):v = .int k n:=by cases h with | lit _ _ _ h=>simp [AV.lit] at h; exact h.symm
theorem Rel.str_inv {s:ByteArray} {v:Value} (h:Rel w own ρ (.str s) v):v = .string s:=by cases h with | lit _ _ _ h=>simp [AV.lit] at h; exact h.symm
theorem Rel.nilp_inv {v:Value} (h:Rel w own ρ .nilp v):v = .pointer none:=by cases h with | lit _ _ _ h=>simp [AV.lit] at h; exact h.symm
theorem Rel.nils_inv {v:Value} (h:Rel w own ρ .nils v):v = .slice none 0 0:=by cases h with | lit _ _ _ h=>simp [AV.lit] at h; exact h.symm
theorem Rel.nilm_inv {v:Value} (h:Rel w own ρ .nilm v):v = .map none:=by cases h with | lit _ _ _ h=>simp [AV.lit] at h; exact h.symm
theorem Rel.nilf_inv {v:Value} (h:Rel w own ρ .nilf v):v = .nilFunc:=by cases h with | lit _ _ _ h=>simp [AV.lit] at h; exact h.symm
theorem Rel.ref_inv {cs:List AV} {v:Value} (h:Rel w own ρ (.ref cs) v):∃ a vs,v = .pointer (some a)∧Rels w own noRho cs vs∧Seen w own a vs:=by
 cases h with
 | lit _ _ _ h=>simp [AV.lit] at h
 | ref _ a _ vs h hs=>exact ⟨a,vs,rfl,h,hs⟩
theorem Rel.sl_inv {k:Nat} {rows:List (List AV)} {v:Value} (h:Rel w own ρ (.sl k rows) v):∃ a vs cap,v = .slice (some a) rows.length cap∧(∀ r∈rows,r.length=k)∧Rels w own noRho rows.flatten vs∧Seen w own a vs∧rows.length≤cap:=by
 cases h with
 | lit _ _ _ h=>simp [AV.lit] at h
 | sl _ a _ _ vs n cap hn hk h hs hc=>subst hn; exact ⟨a,vs,cap,rfl,hk,h,hs,hc⟩
theorem Rel.im_inv {es:List (AV × AV)} {v:Value} (h:Rel w own ρ (.im es) v):∃ b ents clock,v = .map (some b)∧w.heap[b]? = some (.map ents clock)∧¬ own b∧Rels w own noRho (es.map (·.1)) (ents.toList.map (·.key))∧Rels w own noRho (es.map (·.2)) (ents.toList.map (·.val)):=by
 cases h with
 | lit _ _ _ h=>simp [AV.lit] at h
 | im _ b _ ents clock hb ho hk hv=>exact ⟨b,ents,clock,rfl,hb,ho,hk,hv⟩
theorem Rel.ptr_inv {b i o:Nat} {v:Value} (h:Rel w own ρ (.ptr b i o) v):∃ x,v = .pointer (some ⟨x.c,x.base+i * x.k+o,none⟩)∧ρ b=some x:=by
 cases h with
 | lit _ _ _ h=>simp [AV.lit] at h
 | ptr _ _ _ _ x h off ho=>subst ho; exact ⟨x,rfl,h⟩
theorem Rel.it_inv {b:Nat} {v:Value} (h:Rel w own ρ (.it b) v):∃ x,v = .pointer (some ⟨x.c,0,none⟩)∧ρ b=some x:=by
 cases h with
 | lit _ _ _ h=>simp [AV.lit] at h
 | it _ _ x h=>exact ⟨x,rfl,h⟩
theorem Rel.ms_inv {b off len:Nat} {v:Value} (h:Rel w own ρ (.ms b off len) v):∃ x a cap,v = .slice (some ⟨x.c,a,none⟩) len cap∧ρ b=some x∧off+len≤x.cap∧off+cap=x.cap∧(off < x.cap→a=x.base+off * x.k):=by
 cases h with
 | lit _ _ _ h=>simp [AV.lit] at h
 | ms _ _ _ _ x h hl a cap hc ha=>exact ⟨x,a,cap,rfl,h,hl,hc,ha⟩
theorem Rel.yld_inv {l:Nat} {v:Value} (h:Rel w own ρ (.yld l) v):∃ x,v = .func (.yield x.c) #[] #[]∧ρ l=some x:=by
 cases h with
 | lit _ _ _ h=>simp [AV.lit] at h
 | yld _ _ x h=>exact ⟨x,rfl,h⟩
theorem Rel.mp_inv {b:Nat} {v:Value} (h:Rel w own ρ (.mp b) v):∃ x,v = .map (some x.c)∧ρ b=some x:=by
 cases h with
 | lit _ _ _ h=>simp [AV.lit] at h
 | mp _ _ x h=>exact ⟨x,rfl,h⟩
theorem Rel.cells {a:AV} {v:Value} (h:Rel w own ρ a v) (hj:a ≠ .junk):Rels w own ρ a.cells v.cells.toList:=by
 cases h with
 | junk=>exact absurd rfl hj
 | agg _ cs vs h=>simpa [AV.cells,Value.cells] using h
 | lit _ _ _ h =>
   have h0:=Rel.lit (w:=w) (own:=own) ρ _ _ h
   cases a<;>simp [AV.lit] at h<;>subst h<;>exact .cons _ _ _ _ _ h0 (.nil _)
 | tuple _ cs vs h=>exact .cons _ _ _ _ _ (.tuple _ _ _ h) (.nil _)
 | func _ _ _ _ _ _ h1 h2=>exact .cons _ _ _ _ _ (.func _ _ _ _ _ _ h1 h2) (.nil _)
 | yld _ _ _ h=>exact .cons _ _ _ _ _ (.yld _ _ _ h) (.nil _)
 | iface _ _ _ _ h=>exact .cons _ _ _ _ _ (.iface _ _ _ _ h) (.nil _)
 | ref _ _ _ _ h h'=>exact .cons _ _ _ _ _ (.ref _ _ _ _ h h') (.nil _)
 | sl _ _ _ _ _ _ _ hn hk h h' hc=>exact .cons _ _ _ _ _ (.sl _ _ _ _ _ _ _ hn hk h h' hc) (.nil _)
 | im _ _ _ _ _ hb ho hk hv=>exact .cons _ _ _ _ _ (.im _ _ _ _ _ hb ho hk hv) (.nil _)
 | ptr _ _ _ _ _ h _ ho=>exact .cons _ _ _ _ _ (.ptr _ _ _ _ _ h _ ho) (.nil _)
 | it _ _ _ h=>exact .cons _ _ _ _ _ (.it _ _ _ h) (.nil _)
 | ms _ _ _ _ _ h hl _ _ hc ha=>exact .cons _ _ _ _ _ (.ms _ _ _ _ _ h hl _ _ hc ha) (.nil _)
 | mp _ _ _ h=>exact .cons _ _ _ _ _ (.mp _ _ _ h) (.nil _)
theorem Rel.cellV {a:AV} {v:Value} (h:Rel w own ρ a v) (hc:a.isCell=true):cellV v=true:=by
 cases h with
 | junk=>simp [AV.isCell] at hc
 | agg=>simp [AV.isCell] at hc
 | tuple=>simp [AV.isCell] at hc
 | lit _ _ _ h=>cases a<;>simp [AV.lit] at h<;>subst h<;>rfl
 | _=>rfl
theorem Rels.cellV {a:List AV} {v:List Value} (h:Rels w own ρ a v) (hc:a.all (·.isCell)=true):∀ x∈v,AM.cellV x=true:=by
 induction a generalizing v with
 | nil=>cases h; intro x hx; cases hx
 | cons y ys ih =>
   cases h with
   | cons _ _ z _ zs h1 h2 =>
     simp at hc
     intro x hx
     cases hx with
     | head=>exact h1.cellV hc.1
     | tail _ hx=>exact ih h2 (by simpa using hc.2) x hx
end
end Go.Proofs.YtdjngcfnlfgjkaaGreatDoor.AM

namespace Go.Proofs.YtdjngcfnlfgjkaaGreatDoor.AM
open Go.RowKit
theorem look_upd (l:List (Nat × Blk)) (b c:Nat) (y:Blk):look (upd l b y) c=if c=b then (look l b).map (fun _=>y) else look l c:=by
 induction l with
 | nil=>simp [upd,look]
 | cons e l ih =>
   obtain ⟨d,x⟩:=e
   simp only [upd]
   by_cases hb:b=d
   ·subst hb; simp only [if_true,look]; by_cases hc:c=b<;>simp [hc]
   ·simp only [hb,if_false,look,ih]
    by_cases hc:c=d
    ·subst hc; have:¬ c=b:=fun h=>hb h.symm; simp [this]
    ·simp [hc]
theorem look_some_mem {l:List (Nat × Blk)} {b:Nat} {x:Blk} (h:look l b=some x):(b,x)∈l:=by
 induction l with
 | nil=>simp [look] at h
 | cons e l ih =>
   obtain ⟨d,y⟩:=e
   simp only [look] at h
   by_cases hb:b=d
   ·simp [hb] at h; subst h; subst hb; exact .head _
   ·simp [hb] at h; exact .tail _ (ih h)
theorem look_none {l:List (Nat × Blk)} {b:Nat} (h:∀ e∈l,e.1 ≠ b):look l b=none:=by
 cases hl:look l b with
 | none=>rfl
 | some x=>exact absurd rfl (h _ (look_some_mem hl))
theorem lookRest_upd (r:List (List (Nat × Blk))) (b c:Nat) (y:Blk):lookRest (updRest r b y) c=if c=b then (lookRest r b).map (fun _=>y) else lookRest r c:=by
 induction r with
 | nil=>simp [updRest,lookRest]
 | cons s r ih =>
   simp only [updRest]
   cases hb:look s b with
   | some x =>
     simp only [lookRest,look_upd,hb]
     by_cases hc:c=b<;>simp [hc]
   | none =>
     simp only [lookRest,ih]
     by_cases hc:c=b
     ·subst hc; simp [hb]
     ·simp [hc]
theorem get_set (h:Hp) (b c:Nat) (y:Blk):(h.set b y).get c=if c=b then (h.get b).map (fun _=>y) else h.get c:=by
 unfold Hp.set Hp.get
 cases hb:look h.top b with
 | some x =>
   simp only [look_upd,hb]
   by_cases hc:c=b<;>simp [hc]
 | none =>
   simp only [lookRest_upd]
   by_cases hc:c=b
   ·subst hc; simp [hb]
   ·simp [hc]
theorem get_push (h:Hp) (c:Nat) (y:Blk):(h.push y).get c=if c=h.nx then some y else h.get c:=by
 unfold Hp.push Hp.get
 simp only [look]
 by_cases hc:c=h.nx<;>simp [hc]
theorem get_leak (h:Hp) (b m c:Nat):(h.leak b m).get c=h.get c:=by unfold Hp.leak; split<;>rfl
theorem get_enter (h:Hp) (c:Nat):h.enter.get c=h.get c:=by
 unfold Hp.enter Hp.get; simp only [look,lookRest]
def ids (l:List (Nat × Blk)):List Nat:=l.map (·.1)
theorem ids_upd (l:List (Nat × Blk)) (b:Nat) (y:Blk):ids (upd l b y)=ids l:=by
 induction l with
 | nil=>rfl
 | cons e l ih=>obtain ⟨d,x⟩:=e; simp only [upd]; split<;>simp_all [ids]
theorem ids_updRest (r:List (List (Nat × Blk))) (b:Nat) (y:Blk):(updRest r b y).map ids=r.map ids:=by
 induction r with
 | nil=>rfl
 | cons s r ih=>simp only [updRest]; split<;>simp_all [ids_upd]
theorem ids_set (h:Hp) (b:Nat) (y:Blk):ids (h.set b y).top=ids h.top∧(h.set b y).rest.map ids=h.rest.map ids∧(h.set b y).nx=h.nx∧(h.set b y).lk=h.lk:=by
 unfold Hp.set; split<;>simp [ids_upd,ids_updRest]
variable [Glob]
def Blk.live:Blk→Bool
 | .dead=>false
 | _=>true
def mxm (M:Nat):Nat→List AV→Nat
 | _,[]=>0
 | t,x::l=>max (if M.testBit t then 0 else x.mx) (mxm M (t+1) l)
theorem mxm_le {M n:Nat}:∀ {l:List AV} {k:Nat},(∀ t x,M.testBit (k+t)=false→l[t]? = some x→x.mx≤n)→mxm M k l≤n
 | [],_,_=>by simp [mxm]
 | a::l,k,h=>by
   have h1:=mxm_le (M:=M) (n:=n) (l:=l) (k:=k+1) fun t x h1 h2=>h (t+1) x (by rw [show k+(t+1)=k+1+t by omega]; exact h1) (by simpa using h2)
   simp only [mxm]
   cases hk:M.testBit k with
   | true=>simp; exact h1
   | false=>have:=h 0 a (by simpa using hk) rfl; simp; omega
theorem le_mxm {M:Nat}:∀ {l:List AV} {k t:Nat} {x:AV},M.testBit (k+t)=false→l[t]? = some x→x.mx≤mxm M k l
 | [],_,_,_,_,h=>by simp at h
 | a::l,k,0,x,hm,h=>by simp at h; subst h; simp at hm; simp [mxm,hm]; omega
 | a::l,k,t+1,x,hm,h=>by
   have:=le_mxm (M:=M) (l:=l) (k:=k+1) (t:=t) (by rw [show k+1+t=k+(t+1) by omega]; exact hm) (by simpa using h)
   simp only [mxm]; omega
def Blk.mx:Blk→Nat
 | .cells _ rows=>mxss rows
 | .map es=>max (mxs (es.map (·.1))) (mxs (es.map (·.2)))
 | .loop mk tm _ _ _ _ _ d=>max (mxm mk 0 tm) (d+1)
 | _=>0
def ownOf (ρ:Rho) (h:Hp) (c:Nat):Prop:=ρ.X c∨∃ b B x,h.get b=some B∧B.live=true∧ρ b=some x∧x.c=c
def FrR (w:World) (own:Nat→Prop) (ρ:Rho) (M:Nat) (tm:List AV) (vs:List Value):Prop :=
 tm.length=vs.length∧(∀ t,M.testBit t=true→t < vs.length)∧∀ t x,M.testBit t=false→tm[t]? = some x→∃ v,vs[t]? = some v∧Rel w own ρ x v
theorem FrR.mono {w w':World} {own own':Nat→Prop} (hs:Stable w own w' own') {ρ ρ':Rho} (hr:Rho.le ρ ρ') {M:Nat} {tm:List AV} {vs:List Value} (h:FrR w own ρ M tm vs):FrR w' own' ρ' M tm vs :=
 ⟨h.1,h.2.1,fun t x h1 h2=>let ⟨v,h3,h4⟩:=h.2.2 t x h1 h2; ⟨v,h3,h4.mono hs hr⟩⟩
theorem FrR.mx_le {w:World} {own:Nat→Prop} {ρ:Rho} {M n:Nat} (hd:∀ b x,ρ b=some x→b < n) {tm:List AV} {vs:List Value} (h:FrR w own ρ M tm vs):mxm M 0 tm≤n :=
 mxm_le fun t x h1 h2=>let ⟨_,_,h4⟩:=h.2.2 t x (by simpa using h1) h2; h4.mx_le hd
theorem FrR.cut {w:World} {own:Nat→Prop} {ρ:Rho} {M n:Nat} {tm:List AV} {vs:List Value} (h:FrR w own ρ M tm vs) (hm:mxm M 0 tm≤n):FrR w own (ρ.below n) M tm vs :=
 ⟨h.1,h.2.1,fun t x h1 h2=>let ⟨v,h3,h4⟩:=h.2.2 t x h1 h2; ⟨v,h3,h4.cut (Nat.le_trans (le_mxm (k:=0) (by simpa using h1) h2) hm)⟩⟩
def BR (w:World) (own:Nat→Prop) (ρ:Rho) (x:Loc):Blk→Prop
 | .cells k rows=>∃ arr e vs,w.heap[x.c]? = some (.cells arr e (0,0))∧(0 < x.k∧x.k=k)∧(∀ r∈rows,r.length=x.k)∧rows.length≤x.cap∧x.base+x.cap * x.k≤arr.size ∧
   Rels w own ρ rows.flatten vs∧(∀ j v,vs[j]? = some v→arr[x.base+j]? = some v∧v.oneCell'=true)
 | .map es=>∃ ents clock,w.heap[x.c]? = some (.map ents clock)∧Rels w own ρ (es.map (·.1)) (ents.toList.map (·.key))∧Rels w own ρ (es.map (·.2)) (ents.toList.map (·.val))
 | .siter s pos=>w.heap[x.c]? = some (.stringIter s pos)
 | .loop mk tm ps as bd st pend d=>∃ fn vs y,w.heap[x.c]? = some (.loop { state:=st,pending:=pend,fn:=fn,tmps:=vs.toArray,params:=ps.toArray,assign:=as,body:=bd,defers:=y }) ∧
   FrR w own ρ mk tm vs∧(∃ z,ρ d=some z∧z.c=y)∧drawsOk as=true∧drawsOk bd=true
 | .dfr taken=>w.heap[x.c]? = some (.deferred (if taken then none else some []))
 | .dead=>True
structure HR (B0 nx0:Nat) (w:World) (ρ:Rho) (h:Hp):Prop where
 dom:∀ b x,ρ b=some x→b < h.nx
 blk:∀ b B x,h.get b=some B→ρ b=some x→BR w (ownOf ρ h) ρ x B
 inj:∀ b b' B B' x x',h.get b=some B→h.get b'=some B'→B.live=true→B'.live=true→ρ b=some x→ρ b'=some x'→x.c=x'.c→b=b'
 low:∀ b B x,h.get b=some B→B.live=true→ρ b=some x→B0≤x.c
 mxb:∀ b B,h.get b=some B→B.mx≤h.nx
 top:∀ i∈ids h.top,nx0≤i∧i < h.nx
 rst:∀ s∈h.rest.map ids,∀ i∈s,i < nx0
 nx:nx0≤h.nx
 sz:B0≤w.heap.size
 xlo:∀ c,ρ.X c→c < B0
 gk:∀ w',(∀ c,c < B0→w'.heap[c]? = w.heap[c]?)→Glob.K w'
structure Ext (w:World) (ρ:Rho) (h:Hp) (w':World) (ρ':Rho) (h':Hp):Prop where
 os:w'.os=w.os
 tape:w'.tape=w.tape
 output:w'.output=w.output
 size:w.heap.size≤w'.heap.size
 rho:∀ b,b < h.nx→ρ' b=ρ b
 frame:∀ c,c < w.heap.size→¬ ownOf ρ h c→w'.heap[c]? = w.heap[c]?
 own:∀ c,ownOf ρ' h' c→ownOf ρ h c∨w.heap.size≤c
 nx:h.nx≤h'.nx
 pend:∀ b,b < h.nx→ρ b=none→h'.get b=h.get b
 rest:h'.rest.map ids=h.rest.map ids
 top:∃ l,ids h'.top=l++ids h.top∧∀ i∈l,h.nx≤i∧i < h'.nx
 grow:∀ b B',b < h.nx→h'.get b=some B'→(∃ B,h.get b=some B∧B'.mx≤max B.mx (b+1))∨∃ l,h'.lk=some l∧l≤b
 lkm:∀ l,h.lk=some l→∃ l',h'.lk=some l'∧l'≤l
 xs:ρ'.X=ρ.X
 xf:∀ c,ρ.X c→w'.heap[c]? = w.heap[c]?
theorem heap_lt {w:World} {c:Nat} {o:Obj} (h:w.heap[c]? = some o):c < w.heap.size:=by
 rcases Nat.lt_or_ge c w.heap.size with h' | h'
 ·exact h'
 ·simp [Array.getElem?_eq_none h'] at h
theorem Ext.stable {w w':World} {ρ ρ':Rho} {h h':Hp} (e:Ext w ρ h w' ρ' h'):Stable w (ownOf ρ h) w' (ownOf ρ' h'):=by
 intro b o hb ho
 have hlt:=heap_lt ho
 refine ⟨(e.frame b hlt hb).trans ho,fun hc=>?_⟩
 rcases e.own b hc with h1 | h1
 ·exact hb h1
 ·omega
theorem Ext.le {w w':World} {ρ ρ':Rho} {h h':Hp} (e:Ext w ρ h w' ρ' h') (hd:∀ b x,ρ b=some x→b < h.nx):Rho.le ρ ρ' :=
 fun b x hb=>(e.rho b (hd b x hb)).trans hb
theorem Ext.refl (w:World) (ρ:Rho) (h:Hp):Ext w ρ h w ρ h :=
 ⟨rfl,rfl,rfl,Nat.le_refl _,fun _ _=>rfl,fun _ _ _=>rfl,fun _ h=>.inl h,Nat.le_refl _,fun _ _ _=>rfl,rfl,⟨[],rfl,fun _ h=>by cases h⟩,fun b B _ hb=>.inl ⟨B,hb,by omega⟩,fun l hl=>⟨l,hl,Nat.le_refl _⟩,rfl,fun _ _=>rfl⟩
theorem Ext.trans {w w' w'':World} {ρ ρ' ρ'':Rho} {h h' h'':Hp} (a:Ext w ρ h w' ρ' h') (b:Ext w' ρ' h' w'' ρ'' h''):Ext w ρ h w'' ρ'' h'' where
 os:=b.os.trans a.os
 tape:=b.tape.trans a.tape
 output:=b.output.trans a.output
 size:=Nat.le_trans a.size b.size
 rho:=fun c hc=>(b.rho c (Nat.lt_of_lt_of_le hc a.nx)).trans (a.rho c hc)
 frame:=fun c hc ho=>by
  have h1:=a.frame c hc ho
  refine (b.frame c (Nat.lt_of_lt_of_le hc a.size) fun h2=>?_).trans h1
  rcases a.own c h2 with h3 | h3
  ·exact ho h3
  ·omega
 own:=fun c hc=>by
  rcases b.own c hc with h1 | h1
  ·exact a.own c h1
  ·exact .inr (Nat.le_trans a.size h1)
 nx:=Nat.le_trans a.nx b.nx
 pend:=fun c hc hn=>(b.pend c (Nat.lt_of_lt_of_le hc a.nx) ((a.rho c hc).trans hn)).trans (a.pend c hc hn)
 rest:=b.rest.trans a.rest
 top:=by
  obtain ⟨l,h1,h2⟩:=a.top
  obtain ⟨m,h3,h4⟩:=b.top
  refine ⟨m++l,by rw [h3,h1,List.append_assoc],fun i hi=>?_⟩
  rcases List.mem_append.1 hi with h | h
  ·exact ⟨Nat.le_trans a.nx (h4 i h).1,(h4 i h).2⟩
  ·exact ⟨(h2 i h).1,Nat.lt_of_lt_of_le (h2 i h).2 b.nx⟩
 grow:=fun c C hc hg=>by
  rcases b.grow c C (Nat.lt_of_lt_of_le hc a.nx) hg with ⟨D,h1,h2⟩ | h1
  ·rcases a.grow c D hc h1 with ⟨D',h3,h4⟩ | ⟨l,h3,h4⟩
   ·exact .inl ⟨D',h3,by omega⟩
   ·obtain ⟨l',h5,h6⟩:=b.lkm l h3
    exact .inr ⟨l',h5,by omega⟩
  ·exact .inr h1
 lkm:=fun l hl=>by
  obtain ⟨l',h1,h2⟩:=a.lkm l hl
  obtain ⟨l'',h3,h4⟩:=b.lkm l' h1
  exact ⟨l'',h3,by omega⟩
 xs:=b.xs.trans a.xs
 xf:=fun c hc=>(b.xf c (by rw [a.xs]; exact hc)).trans (a.xf c hc)
theorem BR.mono {w w':World} {own own':Nat→Prop} {ρ ρ':Rho} {x:Loc} {B:Blk} (hs:Stable w own w' own') (hr:Rho.le ρ ρ') (hb:w'.heap[x.c]? = w.heap[x.c]?) (h:BR w own ρ x B):BR w' own' ρ' x B:=by
 cases B with
 | cells k rows =>
   obtain ⟨arr,e,vs,h1,h2,h3,h4,h5,h6,h7⟩:=h
   exact ⟨arr,e,vs,hb.trans h1,h2,h3,h4,h5,h6.mono hs hr,h7⟩
 | map es =>
   obtain ⟨ents,clock,h1,h2,h3⟩:=h
   exact ⟨ents,clock,hb.trans h1,h2.mono hs hr,h3.mono hs hr⟩
 | siter s pos=>exact hb.trans h
 | loop M tm ps as bd st pend d =>
   obtain ⟨fn,vs,y,h1,h2,⟨z,h3,h4⟩,h5⟩:=h
   exact ⟨fn,vs,y,hb.trans h1,h2.mono hs hr,⟨z,hr _ _ h3,h4⟩,h5⟩
 | dfr taken=>exact hb.trans h
 | dead=>trivial
def Rho.set (ρ:Rho) (b:Nat) (x:Loc):Rho:=⟨fun c=>if c=b then some x else ρ c,ρ.X⟩
theorem HR.ne_nx {B0 nx0:Nat} {w:World} {ρ:Rho} {h:Hp} (H:HR B0 nx0 w ρ h) {b:Nat} {x:Loc} (hb:ρ b=some x):b ≠ h.nx:=by
 have:=H.dom b x hb; omega
theorem HR.get_lt {B0 nx0:Nat} {w:World} {ρ:Rho} {h:Hp} (H:HR B0 nx0 w ρ h) {b:Nat} {B:Blk} (hb:h.get b=some B):b < h.nx:=by
 unfold Hp.get at hb
 cases ht:look h.top b with
 | some x =>
   have:=look_some_mem ht
   exact (H.top b (List.mem_map.2 ⟨_,this,rfl⟩)).2
 | none =>
   rw [ht] at hb
   have key:∀ (r:List (List (Nat × Blk))),lookRest r b=some B→∃ s∈r,∃ e∈s,e.1=b:=by
    intro r
    induction r with
    | nil=>intro h; cases h
    | cons s r ih =>
      intro h
      simp only [lookRest] at h
      cases hs:look s b with
      | some x=>exact ⟨s,.head _,_,look_some_mem hs,rfl⟩
      | none =>
        rw [hs] at h
        obtain ⟨s',h1,h2⟩:=ih h
        exact ⟨s',.tail _ h1,h2⟩
   obtain ⟨s,hs,e,he,rfl⟩:=key _ hb
   have:=H.rst (ids s) (List.mem_map.2 ⟨s,hs,rfl⟩) e.1 (List.mem_map.2 ⟨e,he,rfl⟩)
   exact Nat.lt_of_lt_of_le this H.nx
theorem HR.push {B0 nx0:Nat} {w:World} {ρ:Rho} {h:Hp} (H:HR B0 nx0 w ρ h) (o:Obj) (B:Blk) (x:Loc) (w':World) (hw:w'={ w with heap:=w.heap.push o,drawn:=w'.drawn })
  (hx:x.c=w.heap.size) (hm:B.mx≤h.nx) (hB:∀ (own:Nat→Prop) (ρ':Rho),Stable w (ownOf ρ h) w' own→Rho.le ρ ρ'→BR w' own ρ' x B) :
  HR B0 nx0 w' (ρ.set h.nx x) (h.push B)∧Ext w ρ h w' (ρ.set h.nx x) (h.push B):=by
 have hle:Rho.le ρ (ρ.set h.nx x):=fun b y hb=>by simp [Rho.set,H.ne_nx hb,hb]
 have hheap:w'.heap=w.heap.push o:=by rw [hw]
 have hold:∀ c,c < w.heap.size→w'.heap[c]? = w.heap[c]? := fun c hc=>by rw [hheap,Array.getElem?_push,if_neg (by omega)]
 have hown:∀ c,ownOf (ρ.set h.nx x) (h.push B) c→ownOf ρ h c∨w.heap.size≤c:=by
  rintro c (hX | ⟨b,B',y,h1,h2,h3,h4⟩)
  ·exact .inl (.inl hX)
  rw [get_push] at h1
  by_cases hb:b=h.nx
  ·subst hb; simp [Rho.set] at h3; subst h3; right; omega
  ·simp [hb] at h1; simp [Rho.set,hb] at h3
   exact .inl (.inr ⟨b,B',y,h1,h2,h3,h4⟩)
 have hst:Stable w (ownOf ρ h) w' (ownOf (ρ.set h.nx x) (h.push B)):=by
  intro b o' hb ho
  have hlt:=heap_lt ho
  refine ⟨(hold b hlt).trans ho,fun hc=>?_⟩
  rcases hown b hc with h1 | h1
  ·exact hb h1
  ·omega
 have hlive:∀ b C y,h.get b=some C→ρ b=some y→C.live=true→y.c < w.heap.size:=by
  intro b C y h1 h2 h3
  have hbr:=H.blk b C y h1 h2
  cases C with
  | cells k rows=>obtain ⟨_,_,_,h4,_⟩:=hbr; exact heap_lt h4
  | map es=>obtain ⟨_,_,h4,_⟩:=hbr; exact heap_lt h4
  | siter s pos=>exact heap_lt hbr
  | loop=>obtain ⟨_,_,_,h4,_⟩:=hbr; exact heap_lt h4
  | dfr=>exact heap_lt hbr
  | dead=>simp [Blk.live] at h3
 refine ⟨⟨?_,?_,?_,?_,?_,?_,?_,?_,?_,H.xlo,fun w'' hw=>H.gk w'' fun c hc=>(hw c hc).trans (hold c (Nat.lt_of_lt_of_le hc H.sz))⟩,⟨?_,?_,?_,?_,?_,?_,hown,?_,?_,rfl,?_,?_,fun l hl=>⟨l,hl,Nat.le_refl _⟩,rfl,fun c hc=>hold c (Nat.lt_of_lt_of_le (H.xlo c hc) H.sz)⟩⟩
 ·intro b y hb
  show b < h.nx+1
  by_cases hbn:b=h.nx
  ·omega
  ·simp [Rho.set,hbn] at hb; have:=H.dom b y hb; omega
 ·intro b C y h1 h2
  rw [get_push] at h1
  by_cases hb:b=h.nx
  ·subst hb
   simp at h1; subst h1
   simp [Rho.set] at h2; subst h2
   exact hB _ _ hst hle
  ·simp [hb] at h1; simp [Rho.set,hb] at h2
   have hbr:=H.blk b C y h1 h2
   by_cases hl:C.live=true
   ·exact hbr.mono hst hle (hold _ (hlive b C y h1 h2 hl))
   ·cases C<;>simp [Blk.live] at hl
    trivial
 ·intro b b' C C' y y' h1 h2 h3 h4 h5 h6 h7
  rw [get_push] at h1 h2
  by_cases hb:b=h.nx
  ·by_cases hb':b'=h.nx
   ·omega
   ·subst hb; simp [hb'] at h2; simp [Rho.set,hb'] at h6; simp [Rho.set] at h5; subst h5
    have:=hlive b' C' y' h2 h6 h4; omega
  ·by_cases hb':b'=h.nx
   ·subst hb'; simp [hb] at h1; simp [Rho.set,hb] at h5; simp [Rho.set] at h6; subst h6
    have:=hlive b C y h1 h5 h3; omega
   ·simp [hb] at h1; simp [hb'] at h2; simp [Rho.set,hb] at h5; simp [Rho.set,hb'] at h6
    exact H.inj b b' C C' y y' h1 h2 h3 h4 h5 h6 h7
 ·intro b C y h1 h2 h3
  rw [get_push] at h1
  by_cases hb:b=h.nx
  ·subst hb; simp [Rho.set] at h3; subst h3; have:=H.sz; omega
  ·simp [hb] at h1; simp [Rho.set,hb] at h3; exact H.low b C y h1 h2 h3
 ·intro b C h1
  show C.mx≤h.nx+1
  rw [get_push] at h1
  by_cases hb:b=h.nx
  ·simp [hb] at h1; subst h1; omega
  ·simp [hb] at h1; have:=H.mxb b C h1; omega
 ·intro i hi
  show nx0≤i∧i < h.nx+1
  simp only [Hp.push,ids,List.map_cons,List.mem_cons] at hi
  rcases hi with hi | hi
  ·have:=H.nx; omega
  ·have:=H.top i hi; omega
 ·exact H.rst
 ·show nx0≤h.nx+1; have:=H.nx; omega
 ·rw [hheap]; simp; have:=H.sz; omega
 ·rw [hw]
 ·rw [hw]
 ·rw [hw]
 ·rw [hheap]; simp
 ·intro b hb; simp [Rho.set]; intro h1; omega
 ·intro c hc _; exact hold c hc
 ·show h.nx≤h.nx+1; omega
 ·intro b hb _; rw [get_push,if_neg (by omega)]
 ·exact ⟨[h.nx],by simp [Hp.push,ids],fun i hi=>by simp at hi; subst hi; exact ⟨Nat.le_refl _,Nat.lt_succ_self _⟩⟩
 ·intro b C hb hg
  rw [get_push,if_neg (by omega)] at hg
  exact .inl ⟨C,hg,by omega⟩
theorem HR.newB {B0 nx0:Nat} {w:World} {ρ:Rho} {h:Hp} (H:HR B0 nx0 w ρ h) (B:Blk) (x:Loc) (w':World) (hsz:w.heap.size≤w'.heap.size) (hold:∀ c,c < w.heap.size→w'.heap[c]? = w.heap[c]?) (hos:w'.os=w.os) (htape:w'.tape=w.tape) (hout:w'.output=w.output)
  (hx:w.heap.size≤x.c) (hm:B.mx≤h.nx) (hB:∀ (own:Nat→Prop) (ρ':Rho),Stable w (ownOf ρ h) w' own→Rho.le ρ ρ'→BR w' own ρ' x B) :
  HR B0 nx0 w' (ρ.set h.nx x) (h.push B)∧Ext w ρ h w' (ρ.set h.nx x) (h.push B):=by
 have hle:Rho.le ρ (ρ.set h.nx x):=fun b y hb=>by simp [Rho.set,H.ne_nx hb,hb]
 have hown:∀ c,ownOf (ρ.set h.nx x) (h.push B) c→ownOf ρ h c∨w.heap.size≤c:=by
  rintro c (hX | ⟨b,B',y,h1,h2,h3,h4⟩)
  ·exact .inl (.inl hX)
  rw [get_push] at h1
  by_cases hb:b=h.nx
  ·subst hb; simp [Rho.set] at h3; subst h3; right; omega
  ·simp [hb] at h1; simp [Rho.set,hb] at h3
   exact .inl (.inr ⟨b,B',y,h1,h2,h3,h4⟩)
 have hst:Stable w (ownOf ρ h) w' (ownOf (ρ.set h.nx x) (h.push B)):=by
  intro b o' hb ho
  have hlt:=heap_lt ho
  refine ⟨(hold b hlt).trans ho,fun hc=>?_⟩
  rcases hown b hc with h1 | h1
  ·exact hb h1
  ·omega
 have hlive:∀ b C y,h.get b=some C→ρ b=some y→C.live=true→y.c < w.heap.size:=by
  intro b C y h1 h2 h3
  have hbr:=H.blk b C y h1 h2
  cases C with
  | cells k rows=>obtain ⟨_,_,_,h4,_⟩:=hbr; exact heap_lt h4
  | map es=>obtain ⟨_,_,h4,_⟩:=hbr; exact heap_lt h4
  | siter s pos=>exact heap_lt hbr
  | loop=>obtain ⟨_,_,_,h4,_⟩:=hbr; exact heap_lt h4
  | dfr=>exact heap_lt hbr
  | dead=>simp [Blk.live] at h3
 refine ⟨⟨?_,?_,?_,?_,?_,?_,?_,?_,?_,H.xlo,fun w'' hw=>H.gk w'' fun c hc=>(hw c hc).trans (hold c (Nat.lt_of_lt_of_le hc H.sz))⟩,⟨?_,?_,?_,?_,?_,?_,hown,?_,?_,rfl,?_,?_,fun l hl=>⟨l,hl,Nat.le_refl _⟩,rfl,fun c hc=>hold c (Nat.lt_of_lt_of_le (H.xlo c hc) H.sz)⟩⟩
 ·intro b y hb
  show b < h.nx+1
  by_cases hbn:b=h.nx
  ·omega
  ·simp [Rho.set,hbn] at hb; have:=H.dom b y hb; omega
 ·intro b C y h1 h2
  rw [get_push] at h1
  by_cases hb:b=h.nx
  ·subst hb
   simp at h1; subst h1
   simp [Rho.set] at h2; subst h2
   exact hB _ _ hst hle
  ·simp [hb] at h1; simp [Rho.set,hb] at h2
   have hbr:=H.blk b C y h1 h2
   by_cases hl:C.live=true
   ·exact hbr.mono hst hle (hold _ (hlive b C y h1 h2 hl))
   ·cases C<;>simp [Blk.live] at hl
    trivial
 ·intro b b' C C' y y' h1 h2 h3 h4 h5 h6 h7
  rw [get_push] at h1 h2
  by_cases hb:b=h.nx
  ·by_cases hb':b'=h.nx
   ·omega
   ·subst hb; simp [hb'] at h2; simp [Rho.set,hb'] at h6; simp [Rho.set] at h5; subst h5
    have:=hlive b' C' y' h2 h6 h4; omega
  ·by_cases hb':b'=h.nx
   ·subst hb'; simp [hb] at h1; simp [Rho.set,hb] at h5; simp [Rho.set] at h6; subst h6
    have:=hlive b C y h1 h5 h3; omega
   ·simp [hb] at h1; simp [hb'] at h2; simp [Rho.set,hb] at h5; simp [Rho.set,hb'] at h6
    exact H.inj b b' C C' y y' h1 h2 h3 h4 h5 h6 h7
 ·intro b C y h1 h2 h3
  rw [get_push] at h1
  by_cases hb:b=h.nx
  ·subst hb; simp [Rho.set] at h3; subst h3; have:=H.sz; omega
  ·simp [hb] at h1; simp [Rho.set,hb] at h3; exact H.low b C y h1 h2 h3
 ·intro b C h1
  show C.mx≤h.nx+1
  rw [get_push] at h1
  by_cases hb:b=h.nx
  ·simp [hb] at h1; subst h1; omega
  ·simp [hb] at h1; have:=H.mxb b C h1; omega
 ·intro i hi
  show nx0≤i∧i < h.nx+1
  simp only [Hp.push,ids,List.map_cons,List.mem_cons] at hi
  rcases hi with hi | hi
  ·have:=H.nx; omega
  ·have:=H.top i hi; omega
 ·exact H.rst
 ·show nx0≤h.nx+1; have:=H.nx; omega
 ·have:=H.sz; omega
 ·exact hos
 ·exact htape
 ·exact hout
 ·exact hsz
 ·intro b hb; simp [Rho.set]; intro h1; omega
 ·intro c hc _; exact hold c hc
 ·show h.nx≤h.nx+1; omega
 ·intro b hb _; rw [get_push,if_neg (by omega)]
 ·exact ⟨[h.nx],by simp [Hp.push,ids],fun i hi=>by simp at hi; subst hi; exact ⟨Nat.le_refl _,Nat.lt_succ_self _⟩⟩
 ·intro b C hb hg
  rw [get_push,if_neg (by omega)] at hg
  exact .inl ⟨C,hg,by omega⟩
theorem HR.turn {B0 nx0:Nat} {w:World} {ρ:Rho} {h:Hp} (H:HR B0 nx0 w ρ h) {b:Nat} {B:Blk} {x:Loc} (hb:h.get b=some B) (hl:B.live=true) (hx:ρ b=some x)
  (B':Blk) (hl':B'.live=true) (m:Nat) (hm:B'.mx≤max B.mx m) (hmn:m≤h.nx) (w':World) (hsz:w'.heap.size=w.heap.size) (hoth:∀ c,c ≠ x.c→w'.heap[c]? = w.heap[c]?)
  (hos:w'.os=w.os) (htape:w'.tape=w.tape) (hout:w'.output=w.output)
  (hB:∀ (own:Nat→Prop),Stable w (ownOf ρ h) w' own→BR w' own ρ x B') :
  HR B0 nx0 w' ρ ((h.set b B').leak b m)∧Ext w ρ h w' ρ ((h.set b B').leak b m):=by
 have hget:∀ c,((h.set b B').leak b m).get c=if c=b then some B' else h.get c:=by
  intro c; rw [get_leak,get_set]; split<;>simp_all
 have hnx:((h.set b B').leak b m).nx=h.nx:=by unfold Hp.leak; split<;>exact (ids_set h b B').2.2.1
 have htop:ids ((h.set b B').leak b m).top=ids h.top:=by unfold Hp.leak; split<;>exact (ids_set h b B').1
 have hrest:((h.set b B').leak b m).rest.map ids=h.rest.map ids:=by unfold Hp.leak; split<;>exact (ids_set h b B').2.1
 have hown:∀ c,ownOf ρ ((h.set b B').leak b m) c↔ownOf ρ h c:=by
  intro c
  constructor
  ·rintro (hX | ⟨d,C,y,h1,h2,h3,h4⟩)
   ·exact .inl hX
   rw [hget] at h1
   by_cases hd:d=b
   ·subst hd; exact .inr ⟨d,B,y,hb,hl,h3,h4⟩
   ·simp [hd] at h1; exact .inr ⟨d,C,y,h1,h2,h3,h4⟩
  ·rintro (hX | ⟨d,C,y,h1,h2,h3,h4⟩)
   ·exact .inl hX
   by_cases hd:d=b
   ·subst hd; exact .inr ⟨d,B',y,by rw [hget]; simp,hl',h3,h4⟩
   ·exact .inr ⟨d,C,y,by rw [hget]; simp [hd,h1],h2,h3,h4⟩
 have hxo:ownOf ρ h x.c:=.inr ⟨b,B,x,hb,hl,hx,rfl⟩
 have hst:Stable w (ownOf ρ h) w' (ownOf ρ ((h.set b B').leak b m)):=by
  intro c o hc ho
  have hne:c ≠ x.c:=fun e=>hc (e ▸ hxo)
  exact ⟨(hoth c hne).trans ho,fun h1=>hc ((hown c).1 h1)⟩
 have hlk:∀ l,h.lk=some l→∃ l',((h.set b B').leak b m).lk=some l'∧l'≤l:=by
  intro l hl0
  unfold Hp.leak
  split
  ·exact ⟨l,by rw [(ids_set h b B').2.2.2]; exact hl0,Nat.le_refl _⟩
  ·exact ⟨min l b,by simp [(ids_set h b B').2.2.2,hl0,minO],Nat.min_le_left _ _⟩
 refine ⟨⟨?_,?_,?_,?_,?_,?_,?_,?_,?_,H.xlo,fun w'' hw=>H.gk w'' fun c hc=>(hw c hc).trans (hoth c (fun e=>by have:=H.low b B x hb hl hx; omega))⟩,⟨hos,htape,hout,by omega,fun _ _=>rfl,?_,fun c hc=>.inl ((hown c).1 hc),by omega,?_,hrest,⟨[],by simpa using htop,fun _ h=>by cases h⟩,?_,hlk,rfl,fun c hc=>hoth c (fun e=>by have:=H.xlo c hc; have:=H.low b B x hb hl hx; omega)⟩⟩
 ·intro c y hc; rw [hnx]; exact H.dom c y hc
 ·intro c C y h1 h2
  rw [hget] at h1
  by_cases hc:c=b
  ·subst hc; simp at h1; subst h1
   obtain rfl:x=y:=by rw [hx] at h2; injection h2
   exact hB _ hst
  ·simp [hc] at h1
   have hbr:=H.blk c C y h1 h2
   by_cases hcl:C.live=true
   ·have hne:y.c ≠ x.c:=fun e=>hc (H.inj c b C B y x h1 hb hcl hl h2 hx e)
    exact hbr.mono hst (Rho.le_refl _) (hoth _ hne)
   ·cases C<;>simp [Blk.live] at hcl
    trivial
 ·intro c c' C C' y y' h1 h2 h3 h4 h5 h6 h7
  rw [hget] at h1 h2
  have e1:∃ D,h.get c=some D∧D.live=true:=by
   by_cases hc:c=b
   ·subst hc; exact ⟨B,hb,hl⟩
   ·simp [hc] at h1; exact ⟨C,h1,h3⟩
  have e2:∃ D,h.get c'=some D∧D.live=true:=by
   by_cases hc:c'=b
   ·subst hc; exact ⟨B,hb,hl⟩
   ·simp [hc] at h2; exact ⟨C',h2,h4⟩
  obtain ⟨D,d1,d2⟩:=e1
  obtain ⟨D',d3,d4⟩:=e2
  exact H.inj c c' D D' y y' d1 d3 d2 d4 h5 h6 h7
 ·intro c C y h1 h2 h3
  rw [hget] at h1
  by_cases hc:c=b
  ·subst hc; exact H.low c B y hb hl h3
  ·simp [hc] at h1; exact H.low c C y h1 h2 h3
 ·intro c C h1
  rw [hnx]
  rw [hget] at h1
  by_cases hc:c=b
  ·simp [hc] at h1; subst h1; have:=H.mxb b B hb; omega
  ·simp [hc] at h1; exact H.mxb c C h1
 ·rw [htop,hnx]; exact H.top
 ·rw [hrest]; exact H.rst
 ·rw [hnx]; exact H.nx
 ·rw [hsz]; exact H.sz
 ·intro c hc ho
  exact hoth c fun e=>ho (e ▸ hxo)
 ·intro c _ hc
  rw [hget]
  have:c ≠ b:=fun e=>by rw [e,hx] at hc; cases hc
  simp [this]
 ·intro c C _ h1
  rw [hget] at h1
  by_cases hc:c=b
  ·subst hc
   simp at h1; subst h1
   by_cases hle:m≤c+1
   ·exact .inl ⟨B,hb,by omega⟩
   ·right
    unfold Hp.leak
    simp only [hle,if_false]
    cases hk:(h.set c B').lk with
    | none=>exact ⟨c,rfl,Nat.le_refl _⟩
    | some l=>exact ⟨min l c,rfl,Nat.min_le_right _ _⟩
  ·simp [hc] at h1
   exact .inl ⟨C,h1,by omega⟩
theorem HR.kill {B0 nx0:Nat} {w:World} {ρ:Rho} {h:Hp} (H:HR B0 nx0 w ρ h) {b:Nat} {x:Loc} (hx:ρ b=some x) :
  HR B0 nx0 w ρ (h.set b .dead)∧Ext w ρ h w ρ (h.set b .dead):=by
 have hget:∀ c C,(h.set b .dead).get c=some C→C.live=true→c ≠ b∧h.get c=some C:=by
  intro c C h1 h2
  rw [get_set] at h1
  by_cases hc:c=b
  ·subst hc
   cases hg:h.get c with
   | none=>simp [hg] at h1
   | some D=>simp [hg] at h1; subst h1; simp [Blk.live] at h2
  ·simp [hc] at h1; exact ⟨hc,h1⟩
 obtain ⟨i1,i2,i3,i4⟩:=ids_set h b .dead
 have hown:∀ c,ownOf ρ (h.set b .dead) c→ownOf ρ h c:=by
  rintro c (hX | ⟨d,C,y,h1,h2,h3,h4⟩)
  ·exact .inl hX
  obtain ⟨_,h5⟩:=hget d C h1 h2
  exact .inr ⟨d,C,y,h5,h2,h3,h4⟩
 have hst:Stable w (ownOf ρ h) w (ownOf ρ (h.set b .dead)):=fun c o hc ho=>⟨ho,fun h1=>hc (hown c h1)⟩
 refine ⟨⟨?_,?_,?_,?_,?_,?_,?_,?_,H.sz,H.xlo,H.gk⟩,⟨rfl,rfl,rfl,Nat.le_refl _,fun _ _=>rfl,fun _ _ _=>rfl,fun c hc=>.inl (hown c hc),by omega,?_,i2,⟨[],by simpa using i1,fun _ h=>by cases h⟩,?_,fun l hl=>⟨l,by rw [i4]; exact hl,Nat.le_refl _⟩,rfl,fun _ _=>rfl⟩⟩
 ·intro c y hc; rw [i3]; exact H.dom c y hc
 ·intro c C y h1 h2
  by_cases hl:C.live=true
  ·obtain ⟨_,h3⟩:=hget c C h1 hl
   exact (H.blk c C y h3 h2).mono hst (Rho.le_refl _) rfl
  ·cases C<;>simp [Blk.live] at hl
   trivial
 ·intro c c' C C' y y' h1 h2 h3 h4 h5 h6 h7
  exact H.inj c c' C C' y y' (hget c C h1 h3).2 (hget c' C' h2 h4).2 h3 h4 h5 h6 h7
 ·intro c C y h1 h2 h3; exact H.low c C y (hget c C h1 h2).2 h2 h3
 ·intro c C h1
  rw [i3]
  by_cases hl:C.live=true
  ·exact H.mxb c C (hget c C h1 hl).2
  ·cases C<;>simp [Blk.live] at hl
   simp [Blk.mx]
 ·rw [i1,i3]; exact H.top
 ·rw [i2]; exact H.rst
 ·rw [i3]; exact H.nx
 ·intro c _ hc
  rw [get_set]
  have:c ≠ b:=fun e=>by rw [e,hx] at hc; cases hc
  simp [this]
 ·intro c C _ h1
  rw [get_set] at h1
  by_cases hc:c=b
  ·cases hg:h.get b with
   | none=>simp [hc,hg] at h1
   | some D=>simp [hc,hg] at h1; subst h1; exact .inl ⟨D,by rw [hc]; exact hg,by simp [Blk.mx]⟩
  ·simp [hc] at h1; exact .inl ⟨C,h1,by omega⟩
theorem HR.drew {B0 nx0:Nat} {w w':World} {ρ:Rho} {h:Hp} (H:HR B0 nx0 w ρ h) (hw:w'={ w with drawn:=w'.drawn }):HR B0 nx0 w' ρ h∧Ext w ρ h w' ρ h:=by
 have hh:w'.heap=w.heap:=by rw [hw]
 have hst:Stable w (ownOf ρ h) w' (ownOf ρ h):=fun c o hc ho=>⟨by rw [hh]; exact ho,hc⟩
 exact ⟨⟨H.dom,fun b B x h1 h2=>(H.blk b B x h1 h2).mono hst (Rho.le_refl _) (by rw [hh]),H.inj,H.low,H.mxb,H.top,H.rst,H.nx,by rw [hh]; exact H.sz,H.xlo,fun w'' hw=>H.gk w'' fun c hc=>(hw c hc).trans (by rw [hh])⟩,
  ⟨by rw [hw],by rw [hw],by rw [hw],by rw [hh]; exact Nat.le_refl _,fun _ _=>rfl,fun _ _ _=>by rw [hh],fun _ h=>.inl h,Nat.le_refl _,fun _ _ _=>rfl,rfl,⟨[],rfl,fun _ h=>by cases h⟩,fun b B _ hb=>.inl ⟨B,hb,by omega⟩,fun l hl=>⟨l,hl,Nat.le_refl _⟩,rfl,fun _ _=>by rw [hh]⟩⟩
section
variable {B0 nx0:Nat} {w w':World} {ρ:Rho} {h:Hp}
theorem HR.own_lt (H:HR B0 nx0 w ρ h) {c:Nat} (hc:ownOf ρ h c):c < w.heap.size:=by
 rcases hc with hX | ⟨b,B,x,h1,h2,h3,rfl⟩
 ·have:=H.xlo c hX; have:=H.sz; omega
 ·have hbr:=H.blk b B x h1 h3
  cases B with
  | cells k rows=>obtain ⟨_,_,_,h4,_⟩:=hbr; exact heap_lt h4
  | map es=>obtain ⟨_,_,h4,_⟩:=hbr; exact heap_lt h4
  | siter s pos=>exact heap_lt hbr
  | loop=>obtain ⟨_,_,_,h4,_⟩:=hbr; exact heap_lt h4
  | dfr=>exact heap_lt hbr
  | dead=>simp [Blk.live] at h2
theorem HR.grown (H:HR B0 nx0 w ρ h) (hs:w.heap.size≤w'.heap.size) (hh:∀ c,c < w.heap.size→w'.heap[c]? = w.heap[c]?) (hos:w'.os=w.os) (ht:w'.tape=w.tape) (ho:w'.output=w.output) :
  HR B0 nx0 w' ρ h∧Ext w ρ h w' ρ h:=by
 have hst:Stable w (ownOf ρ h) w' (ownOf ρ h):=fun c o hc hcc=>⟨(hh c (heap_lt hcc)).trans hcc,hc⟩
 refine ⟨⟨H.dom,fun b B x h1 h2=>?_,H.inj,H.low,H.mxb,H.top,H.rst,H.nx,Nat.le_trans H.sz hs,H.xlo,fun w'' hw=>H.gk w'' fun c hc=>(hw c hc).trans (hh c (Nat.lt_of_lt_of_le hc H.sz))⟩,
  ⟨hos,ht,ho,hs,fun _ _=>rfl,fun c hc _=>hh c hc,fun _ h=>.inl h,Nat.le_refl _,fun _ _ _=>rfl,rfl,⟨[],rfl,fun _ h=>by cases h⟩,fun b B _ hb=>.inl ⟨B,hb,by omega⟩,fun l hl=>⟨l,hl,Nat.le_refl _⟩,rfl,fun c hc=>hh c (H.own_lt (.inl hc))⟩⟩
 by_cases hl:B.live=true
 ·exact (H.blk b B x h1 h2).mono hst (Rho.le_refl _) (hh _ (H.own_lt (.inr ⟨b,B,x,h1,hl,h2,rfl⟩)))
 ·cases B<;>simp [Blk.live] at hl
  trivial
end
end Go.Proofs.YtdjngcfnlfgjkaaGreatDoor.AM
