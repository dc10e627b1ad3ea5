/-
  Plain lemmas.
-/
import Derived.Test.YtdjngcfnlfgjkaaGreatDoorF1
import Derived.Lib.DecodeN
set_option linter.unusedVariables false
set_option linter.unusedSimpArgs false
set_option linter.unusedSectionVars false
namespace Go.Proofs.YtdjngcfnlfgjkaaGreatDoor.C5
open Go Go.Proofs.YtdjngcfnlfgjkaaGreatDoor.AM
def stepG (Ω:Om) (vs:List AV):Te LEnd→Option (List AV ⊕ AV)
 | .ok (.again ys)=>some (.inl (X.dens Ω vs ys))
 | .ok (.out tag zs)=>some (.inr (.tuple (.int .i64 tag::X.dens Ω vs zs)))
 | .fail _=>none
 | .need p t=>if (X.den Ω vs p).bB=true then stepG Ω vs t else none
 | .ite c a b=>if (X.den Ω vs c).bB=true then stepG Ω vs a else stepG Ω vs b
theorem stepG_eq (Ω:Om) (vs:List AV):∀ (B:Te LEnd),stepG Ω vs B=(match B.sel (X.den Ω vs) with
  | some (.again ys)=>some (.inl (ys.map (X.den Ω vs)))
  | some (.out tag zs)=>some (.inr (.tuple (.int .i64 tag::zs.map (X.den Ω vs))))
  | none=>none)
 | .ok (.again ys)=>by simp only [stepG,Te.sel,X.dens_map]
 | .ok (.out tag zs)=>by simp only [stepG,Te.sel,X.dens_map]
 | .fail _=>rfl
 | .need p t=>by
   simp only [stepG,Te.sel]
   cases (X.den Ω vs p).bB with
   | true=>simpa using stepG_eq Ω vs t
   | false=>rfl
 | .ite c a b=>by
   simp only [stepG,Te.sel]
   cases (X.den Ω vs c).bB with
   | true=>simpa using stepG_eq Ω vs a
   | false=>simpa using stepG_eq Ω vs b
theorem loopG_again {Ω:Om} {B:Te LEnd} {vs vs':List AV} {K:Nat} (h:stepG Ω vs B=some (.inl vs')):loopG Ω B (K+1) vs=loopG Ω B K vs':=by
 rw [stepG_eq] at h
 simp only [loopG]
 split at h<;>simp_all
theorem loopG_out {Ω:Om} {B:Te LEnd} {vs:List AV} {r:AV} {K:Nat} (h:stepG Ω vs B=some (.inr r)):loopG Ω B (K+1) vs=some r:=by
 rw [stepG_eq] at h
 simp only [loopG]
 split at h<;>simp_all
def valT (Ω:Om) (vs:List AV):Te AV→Option AV
 | .ok a=>some (AV.den (X.den Ω vs) id a)
 | .fail _=>none
 | .need p t=>if (X.den Ω vs p).bB=true then valT Ω vs t else none
 | .ite c a b=>if (X.den Ω vs c).bB=true then valT Ω vs a else valT Ω vs b
theorem unitF_eq (Ω:Om) (vs:List AV):∀ (t:Te AV),unitF Ω t vs=valT Ω vs t
 | .ok a=>rfl
 | .fail _=>rfl
 | .need p t=>by
   have:=unitF_eq Ω vs t
   simp only [unitF,valT,Te.sel] at *
   cases (X.den Ω vs p).bB with
   | true=>simpa using this
   | false=>rfl
 | .ite c a b=>by
   have h1:=unitF_eq Ω vs a
   have h2:=unitF_eq Ω vs b
   simp only [unitF,valT,Te.sel] at *
   cases (X.den Ω vs c).bB with
   | true=>simpa using h1
   | false=>simpa using h2
theorem loop_scan {Ω:Om} {B:Te LEnd} {st:Nat→List AV} {n:Nat} {res:Nat→Option AV} {fin:AV}
  (hs:∀ i,i < n→stepG Ω (st i) B=some (match res i with | some r=>.inr r | none=>.inl (st (i+1))))
  (hf:stepG Ω (st n) B=some (.inr fin)):∀ (j i K:Nat),i+j=n→j < K→loopG Ω B K (st i)=some (((List.range' i j).findSome? res).getD fin)
 | 0,i,K,hi,hK=>by
   obtain ⟨K,rfl⟩:∃ m,K=m+1:=⟨K - 1,by omega⟩
   have:i=n:=by omega
   subst this
   rw [loopG_out hf]; rfl
 | j+1,i,K,hi,hK=>by
   obtain ⟨K,rfl⟩:∃ m,K=m+1:=⟨K - 1,by omega⟩
   have h1:=hs i (by omega)
   cases hr:res i with
   | some r =>
     rw [hr] at h1
     rw [loopG_out h1]
     simp [List.range'_succ,hr]
   | none =>
     rw [hr] at h1
     rw [loopG_again h1,loop_scan hs hf j (i+1) K (by omega) (by omega)]
     simp [List.range'_succ,hr]
theorem range_find {α β:Type} (l:List α) (g:α→Option β) (d:Nat→Option β) (h:∀ i (hi:i < l.length),d i=g l[i]):(List.range' 0 l.length).findSome? d=l.findSome? g:=by
 have:∀ (l:List α) (i:Nat),(∀ j (hj:j < l.length),d (i+j)=g l[j])→(List.range' i l.length).findSome? d=l.findSome? g:=by
  intro l
  induction l with
  | nil=>intro i _; rfl
  | cons a l ih =>
    intro i h
    have h0:=h 0 (by simp)
    simp at h0
    rw [List.length_cons,List.range'_succ,List.findSome?_cons,List.findSome?_cons,h0,ih (i+1) (fun j hj=>by
     have:=h (j+1) (by simp; omega)
     rw [show i+1+j=i+(j+1) by omega,this]; rfl)]
 exact this l 0 (fun j hj=>by rw [Nat.zero_add]; exact h j hj)
def IsL (k:Nat) (rows:List (List AV)) (a:AV):Prop:=a = .sl k rows∨(a = .nils∧rows=[])
theorem IsL.rows {k:Nat} {rows:List (List AV)} {a:AV} (h:IsL k rows a):a.rowsL=rows:=by
 rcases h with rfl | ⟨rfl,rfl⟩<;>rfl
theorem IsL.len {k:Nat} {rows:List (List AV)} {a:AV} (h:IsL k rows a):a.lenN=rows.length:=by
 rcases h with rfl | ⟨rfl,rfl⟩<;>rfl
theorem IsL.ok {k:Nat} {rows:List (List AV)} {a:AV} {cs:List Sh} (h:IsL k rows a) (hk:k=cs.length) (hr:rows.all (Sh.oks cs)=true):(Sh.sl cs).ok a=true:=by
 rcases h with rfl | ⟨rfl,rfl⟩
 ·simp only [Sh.ok,hk,beq_self_eq_true,hr,Bool.and_self]
 ·rfl
theorem i64w {n:Int} (h1 : -9223372036854775808≤n) (h2:n≤9223372036854775807):IntKind.i64.wrap n=n:=by
 rw [IntKind.wrap_i64]; omega
section
variable (Ω:Om) (a b c:AV)
@[simp] theorem s_add (k:IntKind):Pr.sem Ω (.bin .add k) [a,b] = .int k (k.wrap (a.nI+b.nI)):=rfl
@[simp] theorem s_sub (k:IntKind):Pr.sem Ω (.bin .sub k) [a,b] = .int k (k.wrap (a.nI - b.nI)):=rfl
@[simp] theorem s_eql (k:IntKind):Pr.sem Ω (.bin .eql k) [a,b] = .bool (a.nI == b.nI):=rfl
@[simp] theorem s_neq (k:IntKind):Pr.sem Ω (.bin .neq k) [a,b] = .bool (a.nI != b.nI):=rfl
@[simp] theorem s_lss (k:IntKind):Pr.sem Ω (.bin .lss k) [a,b] = .bool (decide (a.nI < b.nI)):=rfl
@[simp] theorem s_leq (k:IntKind):Pr.sem Ω (.bin .leq k) [a,b] = .bool (decide (a.nI≤b.nI)):=rfl
@[simp] theorem s_gtr (k:IntKind):Pr.sem Ω (.bin .gtr k) [a,b] = .bool (decide (a.nI > b.nI)):=rfl
@[simp] theorem s_geq (k:IntKind):Pr.sem Ω (.bin .geq k) [a,b] = .bool (decide (a.nI ≥ b.nI)):=rfl
@[simp] theorem s_seql:Pr.sem Ω (.sbin .eql) [a,b] = .bool (a.sS.toList == b.sS.toList):=rfl
@[simp] theorem s_sneq:Pr.sem Ω (.sbin .neq) [a,b] = .bool (!(a.sS.toList == b.sS.toList)):=rfl
@[simp] theorem s_not:Pr.sem Ω .not [a] = .bool (!a.bB):=rfl
@[simp] theorem s_beq:Pr.sem Ω .beq [a,b] = .bool (a.bB == b.bB):=rfl
@[simp] theorem s_ite:Pr.sem Ω .ite [c,a,b]=if c.bB=true then a else b:=by
  show (match c.bB with | true=>a | false=>b)=_
  cases c.bB<;>rfl
@[simp] theorem s_len:Pr.sem Ω .len [a] = .int .i64 a.lenN:=rfl
@[simp] theorem s_cell (o:Nat):Pr.sem Ω (.cell o) [a,b]=getJ (nth (getL (nth a.rowsL b.nI.toNat)) o):=rfl
@[simp] theorem s_proj (i:Nat):Pr.sem Ω (.proj i) [a]=getJ (nth a.tupL i):=rfl
@[simp] theorem s_fld (i:Nat):Pr.sem Ω (.fld i) [a]=getJ (nth a.aggL i):=rfl
@[simp] theorem s_call (f n:Nat) (xs:List AV):Pr.sem Ω (.call f n) xs=Ω f n xs:=rfl
@[simp] theorem s_okr (rs:List RS):Pr.sem Ω (.okr rs) [a] = .bool (RS.okr rs a):=rfl
@[simp] theorem s_keq:Pr.sem Ω .keq [a,b] = .bool (match keyEq a b with | some c=>c | none=>false):=rfl
@[simp] theorem s_app (k:Nat):Pr.sem Ω (.app k) [a,b]=(match b.rowsL with | []=>a | r::rs=>.sl k (a.rowsL++(r::rs))):=rfl
end
section
variable (a b c:AV) (xs ys:List AV) (n:Int) (k:IntKind)
@[simp] theorem nI_int:AV.nI (.int k n)=n:=rfl
@[simp] theorem bB_bool (b:Bool):AV.bB (.bool b)=b:=rfl
@[simp] theorem sS_str (s:ByteArray):AV.sS (.str s)=s:=rfl
@[simp] theorem tupL_tup:AV.tupL (.tuple xs)=xs:=rfl
@[simp] theorem aggL_agg:AV.aggL (.agg xs)=xs:=rfl
@[simp] theorem lenN_str (s:ByteArray):AV.lenN (.str s)=s.size:=rfl
@[simp] theorem lenN_sl (j:Nat) (r:List (List AV)):AV.lenN (.sl j r)=r.length:=rfl
@[simp] theorem lenN_nils:AV.lenN .nils=0:=rfl
@[simp] theorem rowsL_sl (j:Nat) (r:List (List AV)):AV.rowsL (.sl j r)=r:=rfl
@[simp] theorem rowsL_nils:AV.rowsL .nils=[]:=rfl
@[simp] theorem getJ_some:getJ (some a)=a:=rfl
@[simp] theorem getL_some {α:Type} (l:List α):getL (some l)=l:=rfl
@[simp] theorem nth_nil {α:Type} (n:Nat):nth ([]:List α) n=none:=rfl
@[simp] theorem nth_zero {α:Type} (a:α) (l:List α):nth (a::l) 0=some a:=rfl
@[simp] theorem nth_succ {α:Type} (a:α) (l:List α) (n:Nat):nth (a::l) (n+1)=nth l n:=rfl
@[simp] theorem nth_lit {α:Type} (a:α) (l:List α) (n:Nat):nth (a::l) (OfNat.ofNat (n+1))=nth l n:=rfl
end
section
variable (Ω:Om) (ρ:List AV)
@[simp] theorem d_v (n:Nat):X.den Ω ρ (.v n)=getJ (nth ρ n):=rfl
@[simp] theorem d_b (b:Bool):X.den Ω ρ (.b b) = .bool b:=rfl
@[simp] theorem d_i (k:IntKind) (n:Int):X.den Ω ρ (.i k n) = .int k n:=rfl
@[simp] theorem d_s (s:ByteArray):X.den Ω ρ (.s s) = .str s:=rfl
@[simp] theorem d_nils:X.den Ω ρ .nils = .nils:=rfl
@[simp] theorem d_sl (k:Nat) (r:List (List X)):X.den Ω ρ (.sl k r) = .sl k (X.denss Ω ρ r):=rfl
@[simp] theorem d_agg (l:List X):X.den Ω ρ (.agg l) = .agg (X.dens Ω ρ l):=rfl
@[simp] theorem d_p (o:Pr) (l:List X):X.den Ω ρ (.p o l)=o.sem Ω (X.dens Ω ρ l):=rfl
@[simp] theorem ds_nil:X.dens Ω ρ []=[]:=rfl
@[simp] theorem ds_cons (e:X) (l:List X):X.dens Ω ρ (e::l)=X.den Ω ρ e::X.dens Ω ρ l:=rfl
@[simp] theorem dss_nil:X.denss Ω ρ []=[]:=rfl
@[simp] theorem dss_cons (e:List X) (l:List (List X)):X.denss Ω ρ (e::l)=X.dens Ω ρ e::X.denss Ω ρ l:=rfl
variable {α:Type} (V:X→AV)
@[simp] theorem bB_ite (p:Prop) [Decidable p] (a b:AV):(if p then a else b).bB=if p then a.bB else b.bB:=by split<;>rfl
@[simp] theorem nI_ite (p:Prop) [Decidable p] (a b:AV):(if p then a else b).nI=if p then a.nI else b.nI:=by split<;>rfl
attribute [simp] stepG valT
@[simp] theorem int_ite (p:Prop) [Decidable p] (k:IntKind) (a b:Int):(if p then AV.int k a else AV.int k b)=AV.int k (if p then a else b):=by split<;>rfl
@[simp] theorem bool_ite (p:Prop) [Decidable p] (a b:Bool):(if p then AV.bool a else AV.bool b)=AV.bool (if p then a else b):=by split<;>rfl
@[simp] theorem beqB (a b:ByteArray):(a == b)=decide (a=b):=by
  rcases a with ⟨a⟩
  rcases b with ⟨b⟩
  show (a == b)=decide (ByteArray.mk a=ByteArray.mk b)
  rw [Bool.eq_iff_iff]
  simp
@[simp] theorem v_sym_bool (σ:Nat→Nat) (e:X):AV.den V σ (.sym .bool e)=V e:=rfl
@[simp] theorem v_sym_int (σ:Nat→Nat) (k:IntKind) (e:X):AV.den V σ (.sym (.int k) e)=V e:=rfl
@[simp] theorem v_sym_str (σ:Nat→Nat) (e:X):AV.den V σ (.sym .str e)=V e:=rfl
@[simp] theorem v_sym_sl (σ:Nat→Nat) (cs:List Sh) (e:X):AV.den V σ (.sym (.sl cs) e)=V e:=rfl
@[simp] theorem v_sym_im (σ:Nat→Nat) (k:Sh) (ag:Bool) (cs:List Sh) (e:X):AV.den V σ (.sym (.im k ag cs) e)=V e:=rfl
@[simp] theorem v_tuple (σ:Nat→Nat) (l:List AV):AV.den V σ (.tuple l) = .tuple (AV.dens V σ l):=rfl
@[simp] theorem v_agg (σ:Nat→Nat) (l:List AV):AV.den V σ (.agg l) = .agg (AV.dens V σ l):=rfl
@[simp] theorem vs_nil (σ:Nat→Nat):AV.dens V σ []=[]:=rfl
@[simp] theorem vs_cons (σ:Nat→Nat) (a:AV) (l:List AV):AV.dens V σ (a::l)=AV.den V σ a::AV.dens V σ l:=rfl
@[simp] theorem om_nil (K:Nat) (cs:List Cal):omL K cs []=calO cs:=rfl
@[simp] theorem om_cons (K:Nat) (cs:List Cal) (d:LoopD) (ds:List LoopD) (f n:Nat) (vs:List AV):omL K cs (d::ds) f n vs=if f=loopId∧n=d.L.id then getJ (loopG (omL K cs ds) d.B K vs) else omL K cs ds f n vs:=rfl
@[simp] theorem okr_one (s:Sh) (a:AV):RS.okr [.one s] a=s.ok a:=rfl
@[simp] theorem okr_two (r s:RS) (l:List AV):RS.okr [r,s] (.tuple l)=RS.oks [r,s] l:=rfl
@[simp] theorem oks_cons (r:RS) (rs:List RS) (a:AV) (l:List AV):RS.oks (r::rs) (a::l)=(r.ok a&&RS.oks rs l):=rfl
@[simp] theorem oks_nil:RS.oks [] []=true:=rfl
@[simp] theorem rok_one (s:Sh) (a:AV):(RS.one s).ok a=s.ok a:=rfl
@[simp] theorem ok_bool (b:Bool):Sh.bool.ok (.bool b)=true:=rfl
@[simp] theorem ok_int (k:IntKind) (n:Int):(Sh.int k).ok (.int k n)=true:=by simp [Sh.ok]
@[simp] theorem ok_str (s:ByteArray):Sh.str.ok (.str s)=true:=rfl
@[simp] theorem soks_nil:Sh.oks [] []=true:=rfl
@[simp] theorem soks_cons (s:Sh) (ss:List Sh) (a:AV) (l:List AV):Sh.oks (s::ss) (a::l)=(s.ok a&&Sh.oks ss l):=rfl
@[simp] theorem ok_nils (cs:List Sh):(Sh.sl cs).ok .nils=true:=rfl
@[simp] theorem ok_sl (cs:List Sh) (k:Nat) (r:List (List AV)):(Sh.sl cs).ok (.sl k r)=(k == cs.length&&r.all (Sh.oks cs)):=rfl
end
theorem toList_inj' {a b:ByteArray}:a.toList=b.toList↔a=b:=by
 constructor
 ·intro h
  simp only [ByteArray.toList_eq] at h
  rcases a with ⟨a⟩; rcases b with ⟨b⟩
  simp only at h
  rw [Array.toList_inj.1 h]
 ·rintro rfl; rfl
attribute [simp] loopId toList_inj'
@[reducible] def ia (n:Int):AV:=.int .i64 n
theorem IsL.row {α:Type} {k i:Nat} {f:α→List AV} {l:List α} {a:AV} (h:IsL k (l.map f) a) (hi:i < l.length):nth a.rowsL (Int.toNat (i:Int))=some (f l[i]):=by
 rw [h.rows,nth_eq,Int.toNat_natCast,List.getElem?_map,List.getElem?_eq_getElem hi]; rfl
theorem IsL.lenM {α:Type} {k:Nat} {f:α→List AV} {l:List α} {a:AV} (h:IsL k (l.map f) a):a.lenN=l.length:=by
 rw [h.len,List.length_map]
theorem isL_sl {k:Nat} {r:List (List AV)}:IsL k r (.sl k r):=.inl rfl
theorem isL_nils {k:Nat}:IsL k [] .nils:=.inr ⟨rfl,rfl⟩
theorem isL_nils' {α:Type} {f:α→List AV} {k:Nat}:IsL k (([]:List α).map f) .nils:=.inr ⟨rfl,rfl⟩
theorem KK_eq:KK=2097152:=rfl
theorem wS {i:Nat} (h:i < 2097152):IntKind.i64.wrap ((i:Int)+1)=((i+1:Nat):Int):=by
 rw [i64w (by omega) (by omega)]; omega
theorem loop0 {Ω:Om} {B:Te LEnd} (st:Nat→List AV) (n:Nat) (res:Nat→Option AV) (fin:AV) (hn:n < 2097152)
  (hs:∀ i,i < n→stepG Ω (st i) B=some (match res i with | some r=>.inr r | none=>.inl (st (i+1))))
  (hf:stepG Ω (st n) B=some (.inr fin)):loopG Ω B KK (st 0)=some (((List.range' 0 n).findSome? res).getD fin) :=
 loop_scan hs hf n 0 KK (by omega) (by rw [KK_eq]; omega)
def strR (s:ByteArray):List AV:=[.str s]
theorem loopL {α:Type} {Ω:Om} {B:Te LEnd} (st:Nat→List AV) (l:List α) (g:α→Option AV) (fin:AV) (hn:l.length < 2097152)
  (hs:∀ i (hi:i < l.length),stepG Ω (st i) B=some (match g l[i] with | some r=>.inr r | none=>.inl (st (i+1))))
  (hf:stepG Ω (st l.length) B=some (.inr fin)):loopG Ω B KK (st 0)=some ((l.findSome? g).getD fin):=by
 rw [loop0 st l.length (fun i=>if h:i < l.length then g l[i] else none) fin hn (fun i hi=>by rw [hs i hi,dif_pos hi]) hf,
  range_find l g _ (fun i hi=>by rw [dif_pos hi])]
theorem loopF {Ω:Om} {B:Te LEnd} (st:Nat→List AV) (n:Nat) (fin:AV) (hn:n < 2097152)
  (hs:∀ i,i < n→stepG Ω (st i) B=some (.inl (st (i+1)))) (hf:stepG Ω (st n) B=some (.inr fin)):loopG Ω B KK (st 0)=some fin:=by
 rw [loop0 st n (fun _=>none) fin hn (fun i hi=>hs i hi) hf,List.findSome?_eq_none_iff.2 (fun _ _=>rfl)]
 rfl
def outB (v lo hi:Int):Bool:=decide (v < lo) || decide (v > hi)
def whenI (b:Bool) (n:Int):Int:=if b then n else 0
theorem p80 (b:Bool) (n:Int):F80 [.bool b,ia n]=some (ia (whenI b n)):=by
 cases b<;>simp [F80,unitF_eq,t80,whenI]
def memB (s:ByteArray) (ns:List ByteArray):Bool:=ns.any fun x=>decide (s=x)
def intR (n:Int):List AV:=[ia n]
def firstNz (l:List Int):Int:=(l.find? fun n=>decide (n ≠ 0)).getD 0
theorem G7600 {Ω:Om} {a:AV} {ns:List Int} (h:IsL 1 (ns.map intR) a) (hn:ns.length < 2097152) :
  loopG Ω B7600 KK [a,ia ns.length,ia 0]=some ((ns.findSome? fun n=>if n=0 then none else some (.tuple [ia 1,ia n])).getD (.tuple [ia 2])):=by
 refine loopL (fun i=>[a,ia ns.length,ia i]) ns _ _ hn (fun i hi=>?_) ?_
 ·have hr:nth a.rowsL (Int.toNat (i:Int))=some [ia ns[i]]:=h.row hi
  have hw:=wS (Nat.lt_trans hi hn)
  by_cases hc:ns[i]=0<;>simp_all [B7600,h.lenM]
 ·simp [B7600]
theorem p76 {a:AV} {ns:List Int} (h:IsL 1 (ns.map intR) a) (hn:ns.length < 2097152):F76 [a]=some (ia (firstNz ns)):=by
 have hG:=@G7600 (calO s76) _ _ h hn
 have:(ns.findSome? fun n=>if n=0 then none else some (AV.tuple [ia 1,ia n]))=(ns.find? fun n=>decide (n ≠ 0)).map fun n=>AV.tuple [ia 1,ia n]:=by
  clear h hn hG
  induction ns with
  | nil=>rfl
  | cons n ns ih=>by_cases hc:n=0<;>simp_all
 rw [this] at hG
 unfold firstNz
 cases hf:ns.find? fun n=>decide (n ≠ 0)<;>rw [hf] at hG<;>simp_all [F76,unitF_eq,t76,h.lenM]
set_option maxRecDepth 20000
set_option maxHeartbeats 2000000
def letB (b:Nat):Bool:=(decide (97≤b)&&decide (b≤122)) || (decide (65≤b)&&decide (b≤90))
def goodB (i b:Nat):Bool:=letB b || (decide (i ≠ 0)&&(decide (b=95) || (decide (48≤b)&&decide (b≤57))))
theorem goodB_lt {i b:Nat} (h:goodB i b=true):b < 128:=by
 simp [goodB,letB] at h
 omega
theorem goodB_eq (i b:Nat):goodB i b=decide (((97≤b∧b≤122)∨(65≤b∧b≤90))∨(i ≠ 0∧(b=95∨(48≤b∧b≤57)))):=by
 simp [goodB,letB,Bool.decide_or,Bool.decide_and]
theorem s_byte (Ω:Om) (s:ByteArray) (i:Nat) (hi:i < s.size):Pr.sem Ω .byte [.str s,ia i] = .int .u8 (s[i].toNat:Int):=by
 show AV.int .u8 (match (AV.str s).sS[(ia i).nI.toNat]? with | some b=>b.toNat | none=>0)=_
 simp [hi]
theorem s_rune (Ω:Om) (s:ByteArray) (i:Nat):Pr.sem Ω .rune [.str s,ia i] = .int .i32 (Utf8.decode s i).1:=rfl
theorem s_adv (Ω:Om) (s:ByteArray) (i:Nat):Pr.sem Ω .adv [.str s,ia i] = .int .i64 (i+(Utf8.decode s i).2):=rfl
theorem get_eq {s:ByteArray} {i:Nat} (hi:i < s.size):s.get! i=s[i]:=by
 rcases s with ⟨a⟩
 have hi':i < a.size:=hi
 show a[i]! = a[i]
 rw [getElem!_pos a i hi']
theorem dec_lo {s:ByteArray} {i:Nat} (hi:i < s.size) (h:s[i].toNat < 128):Utf8.decode s i=(s[i].toNat,1):=by
 rw [Lib.decode_at,get_eq hi]
 unfold Lib.decodeN
 rw [if_pos h]
theorem decN_hi (n b0 b1 b2 b3:Nat) (h:¬ b0 < 128):128≤(Lib.decodeN n b0 b1 b2 b3).1:=by
 unfold Lib.decodeN
 rw [if_neg h]
 repeat' split
 all_goals first | (simp only; omega)
theorem dec_hi {s:ByteArray} {i:Nat} (hi:i < s.size) (h:¬ s[i].toNat < 128):128≤(Utf8.decode s i).1:=by
 rw [Lib.decode_at,get_eq hi]
 exact decN_hi _ _ _ _ _ h
def badO (s:ByteArray) (i:Nat):Option AV:=if goodB i (s[i]?.getD 0).toNat then none else some (.tuple [ia 1])
theorem G8900 {Ω:Om} {s:ByteArray} (hs:s.size < 2097152) :
  loopG Ω B8900 KK [.str s,ia 0]=some (((List.range' 0 s.size).findSome? (badO s)).getD (.tuple [ia 2])):=by
 refine loop0 (fun i=>[.str s,ia i]) s.size _ _ hs (fun i hi=>?_) ?_
 ·have hw:=wS (Nat.lt_trans hi hs)
  have hb:badO s i=if goodB i s[i].toNat then none else some (.tuple [ia 1]):=by simp [badO,hi]
  rw [hb]
  generalize hc:s[i].toNat=b
  have hsb:=s_byte Ω s i hi
  rw [hc] at hsb
  have hw0:IntKind.i64.wrap 1=1:=i64w (by omega) (by omega)
  by_cases h1:(97:Int)≤b<;>by_cases h2:(b:Int)≤122<;>by_cases h3:(65:Int)≤b<;>by_cases h4:(b:Int)≤90<;>by_cases h5:(48:Int)≤b<;>by_cases h6:(b:Int)≤57<;>by_cases h7:(b:Int)=95<;>by_cases h8:i=0 <;>
   first
    | (exfalso; omega)
    | (have hg:goodB i b=true:=by rw [goodB_eq,decide_eq_true_eq]; omega
       simp [B8900,hsb,hi,hw,hg,h1,h2,h3,h4,h5,h6,h7,h8]
       done)
    | (have hg:goodB i b=true:=by rw [goodB_eq,decide_eq_true_eq]; omega
       subst h8
       have hsb0:Pr.sem Ω .byte [.str s,ia 0] = .int .u8 b:=hsb
       simp [B8900,hsb0,hi,hw0,hg,h1,h2,h3,h4,h5,h6,h7]
       done)
    | (have hg:goodB i b=false:=by rw [goodB_eq,decide_eq_false_iff_not]; omega
       simp [B8900,hsb,hi,hw,hg,h1,h2,h3,h4,h5,h6,h7,h8]
       done)
    | (have hg:goodB i b=false:=by rw [goodB_eq,decide_eq_false_iff_not]; omega
       subst h8
       have hsb0:Pr.sem Ω .byte [.str s,ia 0] = .int .u8 b:=hsb
       simp [B8900,hsb0,hi,hw0,hg,h1,h2,h3,h4,h5,h6,h7]
       done)
 ·simp [B8900]
theorem G8800 {Ω:Om} {s v:ByteArray} (hs:s.size < 2097152) :
  loopG Ω B8800 KK [.str v,.str s,ia 0]=some (((List.range' 0 s.size).findSome? (badO s)).getD (.tuple [ia 2,.str v])):=by
 refine loop0 (fun i=>[.str v,.str s,ia i]) s.size _ _ hs (fun i hi=>?_) ?_
 ·have hb:badO s i=if goodB i s[i].toNat then none else some (.tuple [ia 1]):=by simp [badO,hi]
  rw [hb]
  obtain ⟨r,k,hrk⟩:∃ r k,Utf8.decode s i=(r,k):=⟨_,_,rfl⟩
  have hsr:Pr.sem Ω .rune [.str s,ia i] = .int .i32 (r:Int):=by rw [s_rune,hrk]
  have hsa:Pr.sem Ω .adv [.str s,ia i] = .int .i64 ((i:Int)+k):=by rw [s_adv,hrk]
  have hm:goodB i s[i].toNat=goodB i r:=by
   by_cases hl:s[i].toNat < 128
   ·have:=dec_lo hi hl
    rw [hrk] at this
    injection this with h1 h2
    rw [h1]
   ·have h1:=dec_hi hi hl
    rw [hrk] at h1
    have h2:goodB i s[i].toNat=false:=by
     cases h:goodB i s[i].toNat with
     | false=>rfl
     | true=>exact absurd (goodB_lt h) hl
    have h3:goodB i r=false:=by
     cases h:goodB i r with
     | false=>rfl
     | true=>have:=goodB_lt h; simp only at h1; omega
    rw [h2,h3]
  have hk:goodB i r=true→k=1:=by
   intro h
   rw [← hm] at h
   have:=dec_lo hi (goodB_lt h)
   rw [hrk] at this
   injection this
  have hw0:IntKind.i64.wrap 1=1:=i64w (by omega) (by omega)
  by_cases h1:(97:Int)≤r<;>by_cases h2:(r:Int)≤122<;>by_cases h3:(65:Int)≤r<;>by_cases h4:(r:Int)≤90<;>by_cases h5:(r:Int) < 48<;>by_cases h6:(57:Int) < r<;>by_cases h7:(r:Int)=95<;>by_cases h8:i=0 <;>
   first
    | (exfalso; omega)
    | (have hg:goodB i r=true:=by rw [goodB_eq,decide_eq_true_eq]; omega
       have hk1:=hk hg
       subst hk1
       rw [show ((1:Nat):Int)=1 from rfl] at hsa
       simp [B8800,hsr,hsa,hi,hg,hm,h1,h2,h3,h4,h5,h6,h7,h8]
       done)
    | (have hg:goodB i r=true:=by rw [goodB_eq,decide_eq_true_eq]; omega
       have hk1:=hk hg
       subst hk1
       subst h8
       have hsr0:Pr.sem Ω .rune [.str s,ia 0] = .int .i32 r:=hsr
       have hsa0:Pr.sem Ω .adv [.str s,ia 0] = .int .i64 1:=hsa
       simp [B8800,hsr0,hsa0,hi,hg,hm,h1,h2,h3,h4,h5,h6,h7]
       done)
    | (have hg:goodB i r=false:=by rw [goodB_eq,decide_eq_false_iff_not]; omega
       simp [B8800,hsr,hi,hg,hm,h1,h2,h3,h4,h5,h6,h7,h8]
       done)
    | (have hg:goodB i r=false:=by rw [goodB_eq,decide_eq_false_iff_not]; omega
       subst h8
       have hsr0:Pr.sem Ω .rune [.str s,ia 0] = .int .i32 r:=hsr
       simp [B8800,hsr0,hi,hg,hm,h1,h2,h3,h4,h5,h6,h7]
       done)
 ·simp [B8800]
theorem size0 {s:ByteArray}:s=w0↔s.size=0:=by
 constructor
 ·rintro rfl; rfl
 ·intro h
  rcases s with ⟨a⟩
  have:a.size=0:=h
  rw [w0,Array.size_eq_zero_iff.1 this]
def isName (s:ByteArray):Bool:=decide (1≤s.size)&&(decide (s.size≤24)&&((List.range' 0 s.size).findSome? (badO s)).isNone)
theorem bad_cases (s:ByteArray):((List.range' 0 s.size).findSome? (badO s)=none)∨((List.range' 0 s.size).findSome? (badO s)=some (.tuple [ia 1])):=by
 cases h:(List.range' 0 s.size).findSome? (badO s) with
 | none=>exact .inl rfl
 | some r =>
   right
   obtain ⟨i,_,hr⟩:=List.exists_of_findSome?_eq_some h
   unfold badO at hr
   split at hr
   ·cases hr
   ·injection hr with hr; rw [← hr]
theorem p89 {s:ByteArray} (hs:s.size < 2097152):F89 [.str s]=some (.bool (isName s)):=by
 have hG:=@G8900 (calO s89) s hs
 by_cases h1:(s.size:Int) < 1<;>by_cases h2:(24:Int) < s.size<;>rcases bad_cases s with h | h<;>rw [h] at hG <;>
  first
   | (exfalso; omega)
   | (have h3:1≤s.size:=by omega
      have h4:s.size≤24:=by omega
      simp [F89,unitF_eq,t89,h1,h2,hG,isName,h,h3,h4]
      done)
   | (have h3:¬ 1≤s.size:=by omega
      simp [F89,unitF_eq,t89,h1,h2,isName,h3]
      done)
   | (have h3:¬ s.size≤24:=by omega
      simp [F89,unitF_eq,t89,h1,h2,isName,h3]
      done)
theorem p88 {s:ByteArray} (hs:s.size < 2097152):F88 [.str s]=some (.bool (isName s)):=by
 have hG:=@G8800 (calO s88) s s hs
 by_cases h1:s.size=0<;>by_cases h2:(s.size:Int)≤24<;>rcases bad_cases s with h | h<;>rw [h] at hG <;>
  first
   | (exfalso; omega)
   | (have h3:1≤s.size:=by omega
      have h4:s.size≤24:=by omega
      simp [F88,unitF_eq,t88,h1,h2,hG,isName,h,h3,h4,size0]
      done)
   | (have h3:¬ 1≤s.size:=by omega
      simp [F88,unitF_eq,t88,h1,h2,hG,isName,h3,size0]
      done)
   | (have h3:¬ s.size≤24:=by omega
      simp [F88,unitF_eq,t88,h1,h2,hG,isName,h3,size0]
      done)
set_option maxHeartbeats 4000000
@[simp] theorem s_isNil (Ω:Om) (a:AV):Pr.sem Ω .isNil [a] = .bool a.nilB:=rfl
theorem tf_or (p:Prop) [Decidable p]:p=True∨p=False:=by
 by_cases h:p
 ·exact .inl (eq_true h)
 ·exact .inr (eq_false h)
theorem fz_cons (a:Int) (l:List Int):firstNz (a::l)=if a=0 then firstNz l else a:=by
 by_cases h:a=0<;>simp [firstNz,h]
theorem fz_nil:firstNz []=0:=rfl
theorem IsL.rowN {α:Type} {k i:Nat} {f:α→List AV} {l:List α} {a:AV} (h:IsL k (l.map f) a) (hi:i < l.length):nth a.rowsL i=some (f l[i]):=by
 have:=h.row hi
 rwa [Int.toNat_natCast] at this
structure Op where
 nm:ByteArray
 lo:Int
 hi:Int
 deriving Inhabited
def Op.row (o:Op):List AV:=[.str o.nm,ia o.lo,ia o.hi]
def cnt (f:Op→Int) (l:List Op) (c v:Int):Nat→Int
 | 0=>0
 | i+1=>cnt f l c v i+(if (i:Int) ≠ c∧f (l.getD i default) > v then 1 else 0)
structure OpsOk (a:AV) (l:List Op):Prop where
 is:IsL 3 (l.map Op.row) a
 n:l.length < 1048577
 sz:∀ o∈l,o.nm.size < 2097152
@[simp] theorem nilB_sl (k:Nat) (r:List (List AV)):AV.nilB (.sl k r)=false:=rfl
@[simp] theorem s_whole (Ω:Om) (k k':Nat) (r r':List (List AV)):Pr.sem Ω .whole [.sl k r,.sl k' r']=if r.length=r'.length then .sl k' r' else .sl k r:=rfl
def pk (own:Op) (l:List Op):Nat→List Int
 | 0=>[own.lo]
 | i+1=>(pk own l i++(if own.lo < (l.getD i default).lo∧(l.getD i default).lo≤own.hi then [(l.getD i default).lo] else []))++(if own.lo < (l.getD i default).hi∧(l.getD i default).hi≤own.hi then [(l.getD i default).hi] else [])
def zs (own:Op) (l:List Op):List Int:=uniqs (isort (pk own l l.length))
def okV (l:List Op) (c r v:Int):Bool:=decide (cnt Op.lo l c v l.length < r)&&decide (r≤cnt Op.hi l c v l.length+1)
def wid (own:Op):Nat:=(own.hi - own.lo+1).toNat
def posB (l:List Op) (own:Op) (c r:Int):Bool:=(List.range' 0 (wid own)).any fun i=>okV l c r (own.lo+i)
structure InR (own:Op):Prop where
 lo:0≤own.lo
 le:own.lo≤own.hi
 hi:own.hi≤99999
def mkI (zs:List Int):AV:=match zs with | []=>.nils | _=>.sl 1 (zs.map intR)
theorem mkI_isL (zs:List Int):IsL 1 (zs.map intR) (mkI zs):=by
 cases zs with
 | nil=>exact .inr ⟨rfl,rfl⟩
 | cons z zs=>exact .inl rfl
theorem mkI_rows (zs:List Int):(mkI zs).rowsL=zs.map intR:=(mkI_isL zs).rows
theorem mkI_snoc (zs:List Int) (z:Int):AV.sl 1 (zs.map intR++[[ia z]])=mkI (zs++[z]):=by
 cases zs<;>simp [mkI,intR]
theorem mkI_ok (zs:List Int):(Sh.sl [.int .i64]).ok (mkI zs)=true:=(mkI_isL zs).ok rfl (by simp [intR])
theorem mkI_len (zs:List Int):(mkI zs).lenN=zs.length:=(mkI_isL zs).lenM
def rks (p:Int→Bool):Nat→List Int
 | 0=>[]
 | i+1=>rks p i++(if p (1+i) then [1+(i:Int)] else [])
set_option maxHeartbeats 8000000
@[simp] theorem s_mget (Ω:Om) (b:Bool) (es:List (AV × AV)) (k z:AV):Pr.sem Ω (.mget b) [.im es,k,z]=(match findA k es with | some (some v)=>v | _=>z):=rfl
theorem s_mput (Ω:Om) (es:List (AV × AV)) (k v:AV):Pr.sem Ω .mput [.im es,k,v]=(match updA k v es with | some es=>.im es | none=>.junk):=rfl
@[simp] theorem s_mnew (Ω:Om):Pr.sem Ω .mnew [] = .im []:=rfl
theorem fz5 (a b c d e:Int):F76 [.sl 1 [[ia a],[ia b],[ia c],[ia d],[ia e]]]=some (ia (firstNz [a,b,c,d,e])) :=
 p76 (ns:=[a,b,c,d,e]) (.inl rfl) (by simp)
theorem fz2 (a b:Int):F76 [.sl 1 [[ia a],[ia b]]]=some (ia (firstNz [a,b])) :=
 p76 (ns:=[a,b]) (.inl rfl) (by simp)
def seen (l:List Op) (i:Nat) (s:ByteArray):Bool:=(List.range' 0 i).any fun k=>decide ((l.getD k default).nm=s)
theorem seen_succ (l:List Op) (i:Nat) (s:ByteArray):seen l (i+1) s=(seen l i s || decide ((l.getD i default).nm=s)):=by
 unfold seen
 rw [List.range'_1_concat,List.any_append]
 simp
def errO (l:List Op) (i:Nat):Int :=
 if isName (l.getD i default).nm=false then 8 else if seen l i (l.getD i default).nm then 9 else if outB (l.getD i default).lo 0 99999 then 3 else if outB (l.getD i default).hi 0 99999 then 3 else if (l.getD i default).lo > (l.getD i default).hi then 11 else 0
def errs (l:List Op):Option Int:=(List.range' 0 l.length).findSome? fun i=>if errO l i=0 then none else some (errO l i)
def endE:Option Int→AV
 | some e=>.tuple [ia 1,ia e]
 | none=>.tuple [ia 2]
theorem find_str (n m:ByteArray) (v:AV) (es:List (AV × AV)):findA (.str n) ((.str m,v)::es)=if n=m then some (some v) else findA (.str n) es:=by
 by_cases h:n=m
 ·subst h; simp [findA,keyEq]
 ·simp [findA,keyEq,h]
theorem upd_str (n m:ByteArray) (u v:AV) (es:List (AV × AV)):updA (.str n) u ((.str m,v)::es)=if n=m then some ((.str m,u)::es) else (updA (.str n) u es).map ((.str m,v)::·):=by
 by_cases h:n=m
 ·subst h; simp [updA,keyEq]
 ·simp [updA,keyEq,h]
theorem upd_set (n:ByteArray):∀ (es:List (AV × AV)),(∀ e∈es,∃ k,e=(.str k,.bool true)) →
  ∃ es',updA (.str n) (.bool true) es=some es'∧(∀ e∈es',∃ k,e=(.str k,.bool true))∧∀ m,findA (.str m) es'=if m=n then some (some (.bool true)) else findA (.str m) es
 | [],_=>by
   refine ⟨[(.str n,.bool true)],by simp [updA],fun e he=>?_,fun m=>by rw [find_str]⟩
   cases he with
   | head=>exact ⟨_,rfl⟩
   | tail _ he=>cases he
 | e::es,hk=>by
   obtain ⟨m,rfl⟩:=hk e (.head _)
   obtain ⟨es',h1,h2,h3⟩:=upd_set n es fun e he=>hk e (.tail _ he)
   by_cases hm:n=m
   ·refine ⟨(.str m,.bool true)::es,by rw [upd_str,if_pos hm],hk,fun k=>?_⟩
    rw [find_str,hm]
    by_cases hn:k=m<;>simp [hn]
   ·refine ⟨(.str m,.bool true)::es',by rw [upd_str,if_neg hm,h1]; rfl,fun e he=>?_,fun k=>?_⟩
    ·cases he with
     | head=>exact ⟨m,rfl⟩
     | tail _ he=>exact h2 e he
    ·rw [find_str,find_str,h3]
     by_cases hn:k=m
     ·subst hn; rw [if_pos rfl,if_neg (fun h=>hm h.symm),if_pos rfl]
     ·rw [if_neg hn,if_neg hn]
def mapS (l:List Op):Nat→List (AV × AV)
 | 0=>[]
 | i+1=>match updA (.str (l.getD i default).nm) (.bool true) (mapS l i) with
   | some es=>es
   | none=>[]
theorem mapS_ok (l:List Op):∀ i,(∀ e∈mapS l i,∃ k,e=(.str k,.bool true))∧(∀ s,findA (.str s) (mapS l i)=some (if seen l i s then some (.bool true) else none)) ∧
  updA (.str (l.getD i default).nm) (.bool true) (mapS l i)=some (mapS l (i+1))
 | 0=>by
   refine ⟨fun e he=>(by cases he),fun s=>rfl,?_⟩
   simp only [mapS,updA]
 | i+1=>by
   obtain ⟨h1,h2,h3⟩:=mapS_ok l i
   obtain ⟨es',g1,g2,g3⟩:=upd_set (l.getD i default).nm (mapS l i) h1
   have e:mapS l (i+1)=es':=by rw [g1] at h3; injection h3 with h3; exact h3.symm
   rw [e]
   refine ⟨g2,fun s=>?_,?_⟩
   ·rw [g3,h2,seen_succ]
    by_cases hs:s=(l.getD i default).nm
    ·rw [if_pos hs,decide_eq_true hs.symm,Bool.or_true,if_pos rfl]
    ·rw [if_neg hs,decide_eq_false (fun h=>hs h.symm),Bool.or_false]
   ·obtain ⟨es'',k1,_,_⟩:=upd_set (l.getD (i+1) default).nm es' g2
    rw [k1]
    simp only [mapS] at e ⊢
    rw [e,k1]
def ckOpen (l:List Op):Int:=if l.length=0 then 12 else if l.length > 160 then 5 else (errs l).getD 0
def bad (l:List Op) (c:Int):Int:=if ckOpen l ≠ 0 then ckOpen l else if c < 0∨c ≥ l.length then 10 else 0
def mkO (l:List Op):AV:=match l with | []=>.nils | _=>.sl 3 (l.map Op.row)
set_option maxHeartbeats 4000000
theorem any_find {α:Type} (p:α→Bool) (l:List α):(l.findSome? fun e=>if p e then some (AV.tuple [ia 1]) else none)=if l.any p then some (.tuple [ia 1]) else none:=by
 induction l with
 | nil=>rfl
 | cons e l ih =>
   rw [List.findSome?_cons,List.any_cons]
   cases h:p e
   ·simpa using ih
   ·rfl
theorem G12400 {Ω:Om} {a:AV} {ns:List ByteArray} (h:IsL 1 (ns.map strR) a) (hn:ns.length < 2097152) (s:ByteArray) :
  loopG Ω B12400 KK [a,.str s,ia ns.length,ia 0]=some (((List.range' 0 ns.length).findSome? fun i=>if s=ns.getD i s then some (.tuple [ia 1,ia i]) else none).getD (.tuple [ia 2])):=by
 refine loop0 (fun i=>[a,.str s,ia ns.length,ia i]) ns.length _ _ hn (fun i hi=>?_) ?_
 ·have hr:nth a.rowsL (Int.toNat (i:Int))=some [.str ns[i]]:=h.row hi
  have hw:=wS (Nat.lt_trans hi hn)
  have hg:ns.getD i s=ns[i]:=by simp [hi]
  simp only [hg]
  by_cases hc:s=ns[i]<;>simp_all [B12400,h.lenM]
 ·simp [B12400]
def stsL:List ByteArray:=[w0,w1,w2,w3]
def gradeI (s:ByteArray):Int:=if s=w0 then 0 else if s=w1 then 1 else if s=w2 then 2 else if s=w3 then 3 else -1
abbrev stA:AV:=.sl 1 [[.str w0],[.str w1],[.str w2],[.str w3]]
theorem p125:F125 []=some stA:=by simp [F125,unitF_eq,t125]; rfl
theorem p124g (s:ByteArray):F124 [stA,.str s]=some (ia (gradeI s)):=by
 have hG:=@G12400 (calO s124) stA stsL (.inl rfl) (by decide) s
 have e:List.range' 0 stsL.length=[0,1,2,3]:=rfl
 rw [e] at hG
 have hl:(stsL.length:Int)=4:=rfl
 rw [hl] at hG
 unfold gradeI
 rcases tf_or (s=w0) with h0 | h0<;>rcases tf_or (s=w1) with h1 | h1<;>rcases tf_or (s=w2) with h2 | h2<;>rcases tf_or (s=w3) with h3 | h3 <;>
  simp [stsL,h0,h1,h2,h3] at hG<;>simp [F124,unitF_eq,t124,hG,h0,h1,h2,h3]
theorem p95g (s:ByteArray):F95 [stA,.str s]=some (.bool (decide (gradeI s ≥ 0))):=by
 simp [F95,unitF_eq,t95,p124g]
def cmpI (a b:Int):Int:=if a < b then -1 else if a > b then 1 else 0
theorem p156 (a:Int):F156 [ia a]=some (.bool false):=by
 simp [F156,unitF_eq,t156]
theorem p123 (a b:Int):F123 [ia a,ia b]=some (ia (cmpI a b)):=by
 by_cases h:a < b<;>simp [F123,unitF_eq,t123,p156,cmpI,h]
def outM (n:Int):Bool:=decide (n < -999999999) || decide (n > 999999999)
theorem p128 (n:Int):F128 [ia n]=some (.bool (outM n)):=by
 by_cases h:n < -999999999<;>simp [F128,unitF_eq,t128,outM,h]
def farV (rs:List Int):Bool:=rs.any outM
theorem G13300 {a:AV} {rs:List Int} (h:IsL 1 (rs.map intR) a) (hn:rs.length < 1048577) :
  ∃ r,loopG (calO s133) B13300 KK [a,ia rs.length,ia 0]=some r∧((farV rs=true∧∃ i:Nat,r = .tuple [ia 1,ia i])∨(farV rs=false∧r = .tuple [ia 2])):=by
 have hG:=loop0 (Ω:=calO s133) (B:=B13300) (fun i=>[a,ia rs.length,ia i]) rs.length (fun i=>if outM (rs.getD i 0) then some (.tuple [ia 1,ia i]) else none) (.tuple [ia 2]) (by omega) (fun i hi=>by
  have hr:nth a.rowsL (Int.toNat (i:Int))=some [ia rs[i]]:=h.row hi
  have hw:=wS (i:=i) (by omega)
  have hg:rs.getD i 0=rs[i]:=by simp [hi]
  have hp:=p128 rs[i]
  simp only [Int.toNat_natCast] at hr
  push_cast at hw
  rw [hg]
  cases hc:outM rs[i]<;>rw [hc] at hp<;>simp [B13300,h.lenM,hr,hi,hw,hp]) (by simp [B13300])
 refine ⟨_,hG,?_⟩
 cases hb:farV rs
 ·right
  refine ⟨rfl,?_⟩
  rw [List.findSome?_eq_none_iff.2 (fun i hi=>?_)]
  ·rfl
  ·have hl:i < rs.length:=by simp only [List.mem_range'_1] at hi; omega
   have:outM rs[i]=false:=by
    have:=List.any_eq_false.1 hb rs[i] (List.getElem_mem hl)
    simpa using this
   simp [hl,this]
 ·left
  refine ⟨rfl,?_⟩
  cases hf:(List.range' 0 rs.length).findSome? fun i=>if outM (rs.getD i 0) then some (AV.tuple [ia 1,ia i]) else none with
  | none =>
    exfalso
    obtain ⟨x,hx,hy⟩:=List.any_eq_true.1 hb
    obtain ⟨i,hi,rfl⟩:=List.getElem_of_mem hx
    have:=List.findSome?_eq_none_iff.1 hf i (by simp only [List.mem_range'_1]; omega)
    simp [hi,hy] at this
  | some r =>
    obtain ⟨i,hi,hr⟩:=List.exists_of_findSome?_eq_some hf
    refine ⟨i,?_⟩
    split at hr
    ·injection hr with hr; rw [← hr]; rfl
    ·cases hr
theorem p96 {a:AV} {rs:List Int} (h:IsL 1 (rs.map intR) a) (hn:rs.length < 1048577):F96 [a]=some (.bool (farV rs)):=by
 obtain ⟨r,hG,hr⟩:=G13300 h hn
 have h1:∃ j:Int,F133 [a]=some (ia j)∧(decide (j ≥ 0)=farV rs):=by
  rcases hr with ⟨h1,i,rfl⟩ | ⟨h1,rfl⟩
  ·exact ⟨i,by simp [F133,unitF_eq,t133,h.lenM,hG],by simp [h1]⟩
  ·exact ⟨-1,by simp [F133,unitF_eq,t133,h.lenM,hG],by simp [h1]⟩
 obtain ⟨j,h1,h2⟩:=h1
 simp [F96,unitF_eq,t96,h1,← h2]
structure Rs where
 nm:ByteArray
 st:ByteArray
 va:AV
 xs:List Int
 deriving Inhabited
def Rs.row (r:Rs):List AV:=[.str r.nm,.str r.st,r.va]
structure RsOk (r:Rs):Prop where
 l:IsL 1 (r.xs.map intR) r.va
 n:r.xs.length < 1048577
 z:r.nm.size < 1048577
def ckRes (r:Rs):Int:=if !isName r.nm then 8 else if gradeI r.st < 0 then 13 else if r.st ≠ w0∧r.xs.length > 0 then 1 else if r.xs.length > 8 then 5 else if farV r.xs then 3 else 0
theorem p79 {r:Rs} (h:RsOk r):F79 r.row=some (ia (ckRes r)):=by
 have h1:=p88 (s:=r.nm) (by have:=h.z; omega)
 have h2:=p96 h.l h.n
 have h3:r.va.lenN=r.xs.length:=h.l.lenM
 unfold ckRes
 generalize r.xs.length=m at *
 generalize farV r.xs=fv at *
 have q1:((8:Int) < m)=(8 < m):=propext (by omega)
 have q4:((m:Int)≤8)=¬ (8 < m):=propext (by omega)
 have q2:((0:Int) < m)=(0 < m):=by simp
 have q3:(0≤gradeI r.st)=¬ gradeI r.st < 0:=by simp
 rcases tf_or (8 < m) with e5 | e5<;>rcases tf_or (0 < m) with e4 | e4<;>cases e1:isName r.nm<;>rcases tf_or (r.st=w0) with e2 | e2<;>rcases tf_or (gradeI r.st < 0) with e3 | e3<;>cases fv <;>
  simp [F79,unitF_eq,t79,Rs.row,h1,h2,h3,p125,p95g,p80,fz5,whenI,fz_cons,fz_nil,e1,e2,e3,e4,e5,q1,q3,q4]
def cmpL:List Int→List Int→Int
 | x::xs,y::ys=>if x=y then cmpL xs ys else cmpI x y
 | _,_=>0
theorem cmpI_ne {x y:Int} (h:x ≠ y):cmpI x y ≠ 0:=by
 unfold cmpI; split
 ·omega
 ·split<;>omega
theorem cmp_find:∀ {xs ys:List Int},xs.length=ys.length→((List.range' 0 xs.length).findSome? fun i=>if xs.getD i 0=ys.getD i 0 then none else some (AV.tuple [ia 1,ia (cmpI (xs.getD i 0) (ys.getD i 0))]))=if cmpL xs ys=0 then none else some (.tuple [ia 1,ia (cmpL xs ys)])
 | [],[],_=>rfl
 | x::xs,y::ys,h=>by
   have ih:=cmp_find (xs:=xs) (ys:=ys) (by simpa using h)
   rw [List.length_cons,List.range'_succ,List.findSome?_cons]
   by_cases e:x=y
   ·subst e
    simp only [List.getD_cons_zero,if_true,cmpL]
    rw [← ih]
    have:∀ (f:Nat→Option AV) (n k:Nat),(List.range' (k+1) n).findSome? f=(List.range' k n).findSome? fun i=>f (i+1):=by
     intro f n
     induction n with
     | zero=>intro k; rfl
     | succ n ih=>intro k; rw [List.range'_succ,List.range'_succ,List.findSome?_cons,List.findSome?_cons,ih (k+1)]
    rw [show (0+1:Nat)=0+1 from rfl,this]
    rfl
   ·have e1:=cmpI_ne e
    simp [cmpL,e,e1]
theorem G10300 {a b:AV} {xs ys:List Int} (h:IsL 1 (xs.map intR) a) (h':IsL 1 (ys.map intR) b) (hl:xs.length=ys.length) (hn:xs.length < 1048577) :
  loopG (calO s103) B10300 KK [a,b,ia xs.length,ia 0]=some (if cmpL xs ys=0 then .tuple [ia 2,a,b] else .tuple [ia 1,ia (cmpL xs ys)]):=by
 have hG:=loop0 (Ω:=calO s103) (B:=B10300) (fun i=>[a,b,ia xs.length,ia i]) xs.length (fun i=>if xs.getD i 0=ys.getD i 0 then none else some (.tuple [ia 1,ia (cmpI (xs.getD i 0) (ys.getD i 0))])) (.tuple [ia 2,a,b]) (by omega) (fun i hi=>by
  have hi':i < ys.length:=by omega
  have hr:nth a.rowsL (Int.toNat (i:Int))=some [ia xs[i]]:=h.row hi
  have hr':nth b.rowsL (Int.toNat (i:Int))=some [ia ys[i]]:=h'.row hi'
  have hw:=wS (i:=i) (by omega)
  have hg:xs.getD i 0=xs[i]:=by simp [hi]
  have hg':ys.getD i 0=ys[i]:=by simp [hi']
  rw [hg,hg']
  have hb:b.lenN=xs.length:=by rw [h'.lenM,hl]
  generalize xs[i]=x at *
  generalize ys[i]=y at *
  have c:=p123 x y
  have hi2:¬ xs.length≤i:=by omega
  simp only [Int.toNat_natCast] at hr hr'
  push_cast at hw
  by_cases e:x=y
  ·subst e
   have e0:cmpI x x=0:=by simp [cmpI]
   simp [B10300,h.lenM,hb,hr,hr',hi,hi2,hw,c,e0]
  ·have e1:=cmpI_ne e
   simp [B10300,h.lenM,hb,hr,hr',hi,hi2,hw,c,e,e1]) (by simp [B10300])
 rw [cmp_find hl] at hG
 refine Eq.trans hG ?_
 split<;>rfl
theorem p103 {a b:AV} {xs ys:List Int} (h:IsL 1 (xs.map intR) a) (h':IsL 1 (ys.map intR) b) (hl:xs.length=ys.length) (hn:xs.length < 1048577):F103 [a,b]=some (ia (cmpL xs ys)):=by
 have hG:=G10300 h h' hl hn
 have h1:a.lenN=xs.length:=h.lenM
 have h2:b.lenN=xs.length:=by rw [h'.lenM,hl]
 by_cases e:cmpL xs ys=0<;>simp [e] at hG<;>simp [F103,unitF_eq,t103,h1,h2,hG,e]
def cmpR (a b:Rs):Int:=if cmpI (gradeI a.st) (gradeI b.st) ≠ 0 then cmpI (gradeI a.st) (gradeI b.st) else cmpL b.xs a.xs
theorem cmpI_0 {x y:Int}:cmpI x y=0↔x=y:=by
 constructor
 ·intro h
  exact Decidable.not_not.1 fun q=>cmpI_ne q h
 ·rintro rfl; simp [cmpI]
theorem p75 {a b:Rs} (ha:RsOk a) (hb:RsOk b) (hl:gradeI a.st=gradeI b.st→b.xs.length=a.xs.length):F75 (a.row++b.row)=some (ia (cmpR a b)):=by
 have c:=p123 (gradeI a.st) (gradeI b.st)
 unfold cmpR
 by_cases e:cmpI (gradeI a.st) (gradeI b.st)=0
 ·have d:=p103 hb.l ha.l (hl (cmpI_0.1 e)) hb.n
  simp [F75,unitF_eq,t75,Rs.row,p125,p124g,c,d,e]
 ·simp [F75,unitF_eq,t75,Rs.row,p125,p124g,c,e]
set_option maxHeartbeats 8000000
structure RssOk (a:AV) (l:List Rs):Prop where
 is:IsL 3 (l.map Rs.row) a
 n:l.length < 1048577
 ok:∀ r∈l,RsOk r
def nmO (l:List Rs):List Op:=l.map fun r=>⟨r.nm,0,0⟩
theorem nmO_get {l:List Rs} {i:Nat} (hi:i < l.length):((nmO l).getD i default).nm=l[i].nm:=by simp [nmO,hi]
def cn (l:List Rs):Nat→Int
 | 0 => -1
 | i+1=>if (l.getD i default).st=w0 then (if cn l i < 0 then ((l.getD i default).xs.length:Int) else cn l i) else cn l i
def errR (l:List Rs) (i:Nat):Int :=
 if ckRes (l.getD i default) ≠ 0 then ckRes (l.getD i default) else if seen (nmO l) i (l.getD i default).nm then 9
 else if (l.getD i default).st=w0∧((l.getD i default).xs.length:Int) ≠ (if cn l i < 0 then ((l.getD i default).xs.length:Int) else cn l i) then 2 else 0
def errsR (l:List Rs):Option Int:=(List.range' 0 l.length).findSome? fun i=>if errR l i=0 then none else some (errR l i)
theorem errsR_end (l:List Rs):((List.range' 0 l.length).findSome? fun i=>if errR l i=0 then none else some (AV.tuple [ia 1,ia (errR l i)])).getD (.tuple [ia 2])=endE (errsR l):=by
 unfold errsR
 generalize List.range' 0 l.length=s
 induction s with
 | nil=>rfl
 | cons i s ih =>
   simp only [List.findSome?_cons]
   by_cases h:errR l i=0
   ·rw [if_pos h,if_pos h]; exact ih
   ·rw [if_neg h,if_neg h]; rfl
theorem G2100 {a:AV} {l:List Rs} (h:RssOk a l):loopG (calO s21) B2100 KK [ia (-1),a,ia l.length,ia 0,.im []]=some (endE (errsR l)):=by
 have hn:=h.n
 rw [← errsR_end]
 refine loop0 (fun i=>[ia (cn l i),a,ia l.length,ia i,.im (mapS (nmO l) i)]) l.length _ _ (by omega) (fun i hi=>?_) ?_
 ·have hr:nth a.rowsL i=some (Rs.row l[i]):=h.is.rowN hi
  have hw:=wS (show i < 2097152 by omega)
  have hg:l.getD i default=l[i]:=by simp [hi]
  obtain ⟨_,m2,m3⟩:=mapS_ok (nmO l) i
  have m2:=m2 l[i].nm
  rw [nmO_get hi] at m3
  have hok:=h.ok _ (List.getElem_mem hi)
  have f:=p79 hok
  have hl:l[i].va.lenN=l[i].xs.length:=hok.l.lenM
  simp only [Rs.row] at f hr
  unfold errR
  simp only [cn,hg]
  generalize ckRes l[i]=e at *
  rcases tf_or (e=0) with e1 | e1<;>rcases Bool.eq_false_or_eq_true (seen (nmO l) i l[i].nm) with e2 | e2<;>rw [e2] at m2<;>simp only [if_true,if_false,Bool.false_eq_true] at m2 <;>
   rcases tf_or (l[i].st=w0) with e3 | e3<;>rcases tf_or (cn l i < 0) with e4 | e4<;>rcases tf_or ((l[i].xs.length:Int)=cn l i) with e5 | e5 <;>
    simp [B2100,h.is.lenM,hr,hi,hw,f,hl,m2,m3,s_mput,p80,fz2,whenI,fz_cons,fz_nil,e1,e2,e3,e4,e5]
 ·simp [B2100]
def ckRound (l:List Rs):Int:=if l.length > 160 then 5 else (errsR l).getD 0
theorem p21 {a:AV} {l:List Rs} (h:RssOk a l):F21 [a]=some (ia (ckRound l)):=by
 have G:=G2100 h
 have lN:=h.is.lenM
 unfold ckRound
 rcases tf_or (160 < l.length) with e2 | e2
 ·have e2:=of_eq_true e2
  have e3:(160:Int) < l.length:=by omega
  simp [F21,unitF_eq,t21,lN,e2,e3]
 ·have e2:=of_eq_false e2
  have e3:¬ ((160:Int) < l.length):=by omega
  cases he:errsR l with
  | none=>rw [he] at G; simp [endE] at G; simp [F21,unitF_eq,t21,lN,e2,e3,G]
  | some e=>rw [he] at G; simp [endE] at G; simp [F21,unitF_eq,t21,lN,e2,e3,G]
structure RoundOk (l:List Rs):Prop where
 n:l.length≤160
 res:∀ i (hi:i < l.length),ckRes l[i]=0
 nms:∀ i (hi:i < l.length),seen (nmO l) i l[i].nm=false
 len:∀ i (hi:i < l.length) k (hk:k < l.length),l[i].st=w0→l[k].st=w0→l[i].xs.length=l[k].xs.length
theorem ckRes0 {r:Rs} (h:ckRes r=0):¬ gradeI r.st < 0∧(r.st ≠ w0→r.xs=[]):=by
 unfold ckRes at h
 split at h
 ·cases h
 split at h
 ·cases h
 rename_i h2
 split at h
 ·cases h
 rename_i h3
 refine ⟨h2,fun hne=>?_⟩
 have:¬ r.xs.length > 0:=fun hp=>h3 ⟨hne,hp⟩
 exact List.length_eq_zero_iff.1 (by omega)
theorem errsR_ne {l:List Rs} {e:Int} (h:errsR l=some e):e ≠ 0:=by
 obtain ⟨i,_,h2⟩:=List.exists_of_findSome?_eq_some h
 split at h2
 ·cases h2
 ·rename_i hne; injection h2 with h2; rw [← h2]; exact hne
theorem ckRound0 {l:List Rs} (h:ckRound l=0):RoundOk l:=by
 unfold ckRound at h
 split at h
 ·cases h
 rename_i h1
 cases he:errsR l with
 | some e=>rw [he] at h; exact (errsR_ne he h).elim
 | none =>
   have hz:∀ i (hi:i < l.length),errR l i=0:=fun i hi=>by
    have h3:=List.findSome?_eq_none_iff.1 he i (by simp only [List.mem_range'_1]; omega)
    split at h3
    ·rename_i h4; exact h4
    ·cases h3
   have hg:∀ i (hi:i < l.length),l.getD i default=l[i]:=fun i hi=>by simp [hi]
   have hall:∀ i (hi:i < l.length),ckRes l[i]=0∧seen (nmO l) i l[i].nm=false∧(l[i].st=w0→((l[i].xs.length:Int)=(if cn l i < 0 then (l[i].xs.length:Int) else cn l i))):=fun i hi=>by
    have h4:=hz i hi
    unfold errR at h4
    rw [hg i hi] at h4
    by_cases e1:ckRes l[i]=0
    ·simp only [e1,ne_eq,not_true_eq_false,if_false] at h4
     cases e2:seen (nmO l) i l[i].nm
     ·simp only [e2,Bool.false_eq_true,if_false] at h4
      refine ⟨e1,rfl,fun hst=>?_⟩
      by_cases e3:(l[i].xs.length:Int)=(if cn l i < 0 then (l[i].xs.length:Int) else cn l i)
      ·exact e3
      ·rw [if_pos ⟨hst,e3⟩] at h4; cases h4
     ·rw [e2] at h4; simp at h4
    ·rw [if_pos e1] at h4; exact (e1 h4).elim
   have inv:∀ n,n≤l.length→(cn l n < 0→∀ i (hi:i < l.length),i < n→l[i].st ≠ w0)∧(∀ i (hi:i < l.length),i < n→l[i].st=w0→(l[i].xs.length:Int)=cn l n):=by
    intro n
    induction n with
    | zero=>exact fun _=>⟨fun _ _ _ h=>by omega,fun _ _ h=>by omega⟩
    | succ n ih =>
      intro hn
      obtain ⟨i1,i2⟩:=ih (by omega)
      obtain ⟨_,_,a3⟩:=hall n (by omega)
      simp only [cn,hg n (by omega)]
      by_cases hst:l[n].st=w0
      ·have a3:=a3 hst
       rw [if_pos hst]
       by_cases hc:cn l n < 0
       ·rw [if_pos hc]
        refine ⟨fun h=>by omega,fun i hi hin hs=>?_⟩
        by_cases e:i < n
        ·exact ((i1 hc i hi e) hs).elim
        ·have:i=n:=by omega
         subst this; rfl
       ·rw [if_neg hc] at a3 ⊢
        refine ⟨fun h=>(hc h).elim,fun i hi hin hs=>?_⟩
        by_cases e:i < n
        ·exact i2 i hi e hs
        ·have:i=n:=by omega
         subst this; exact a3
      ·rw [if_neg hst]
       refine ⟨fun h i hi hin=>?_,fun i hi hin hs=>?_⟩
       ·by_cases e:i < n
        ·exact i1 h i hi e
        ·have:i=n:=by omega
         subst this; exact hst
       ·by_cases e:i < n
        ·exact i2 i hi e hs
        ·have:i=n:=by omega
         subst this; exact (hst hs).elim
   refine ⟨by omega,fun i hi=>(hall i hi).1,fun i hi=>(hall i hi).2.1,fun i hi k hk s1 s2=>?_⟩
   have q1:=(inv l.length (Nat.le_refl _)).2 i hi hi s1
   have q2:=(inv l.length (Nat.le_refl _)).2 k hk hk s2
   omega
theorem grade_w0 {s:ByteArray} (h:gradeI s=0):s=w0:=by
 unfold gradeI at h
 split at h
 ·assumption
 ·split at h
  ·cases h
  ·split at h
   ·cases h
   ·split at h<;>cases h
theorem RoundOk.lens {l:List Rs} (h:RoundOk l) {i k:Nat} (hi:i < l.length) (hk:k < l.length) (hg:gradeI l[k].st=gradeI l[i].st):l[i].xs.length=l[k].xs.length:=by
 by_cases e:l[i].st=w0
 ·have:gradeI l[k].st=0:=by rw [hg,e]; rfl
  exact h.len i hi k hk e (grade_w0 this)
 ·have e2:l[k].st ≠ w0:=fun q=>e (grade_w0 (by rw [← hg,q]; rfl))
  rw [(ckRes0 (h.res i hi)).2 e,(ckRes0 (h.res k hk)).2 e2]
def rkc (l:List Rs) (r:Rs):Nat→Int
 | 0=>1
 | k+1=>rkc l r k+(if cmpR (l.getD k default) r < 0 then 1 else 0)
def rkl (l:List Rs):Nat→List Int
 | 0=>[]
 | i+1=>rkl l i++[rkc l (l.getD i default) l.length]
set_option maxHeartbeats 4000000
def sw (zs:List Int) (j:Nat):List Int:=(zs.set (j+1) (zs.getD j 0)).set j (zs.getD (j+1) 0)
def bub (f:Int→Int):Nat→List Int→List Int
 | 0,zs=>zs
 | j+1,zs=>if f (zs.getD (j+1) 0) < f (zs.getD j 0) then bub f j (sw zs j) else zs
theorem sw_len (zs:List Int) (j:Nat):(sw zs j).length=zs.length:=by simp [sw]
theorem bub_len (f:Int→Int):∀ (j:Nat) (zs:List Int),(bub f j zs).length=zs.length
 | 0,_=>rfl
 | j+1,zs=>by
   simp only [bub]
   split
   ·rw [bub_len f j,sw_len]
   ·rfl
def stn (f:Int→Int) (zs:List Int):Nat→List Int
 | 0=>zs
 | i+1=>bub f i (stn f zs i)
theorem stn_len (f:Int→Int) (zs:List Int):∀ i,(stn f zs i).length=zs.length
 | 0=>rfl
 | i+1=>by rw [stn,bub_len,stn_len f zs i]
def keyF (ks:List Int) (z:Int):Int:=ks.getD z.toNat 0
def InK (ks:List Int) (z:Int):Prop:=0≤z∧z < ks.length
theorem isNil_sl {Ω:Om} (k:Nat) (r:List (List AV)):Pr.sem Ω .isNil [.sl k r] = .bool false:=rfl
theorem cmp_lt (x y:Int):(cmpI x y < 0)=(x < y):=by
 unfold cmpI
 by_cases h:x < y
 ·simp [h]
 ·by_cases h2:x > y<;>simp [h,h2]
def insS (f:Int→Int) (z:Int):List Int→List Int
 | []=>[z]
 | y::l=>if f z < f y then z::y::l else y::insS f z l
def SortedF (f:Int→Int) (l:List Int):Prop:=l.Pairwise fun a b=>f a≤f b
theorem insS_perm (f:Int→Int) (z:Int):∀ l,(insS f z l).Perm (z::l)
 | []=>.refl _
 | y::l=>by
   simp only [insS]
   split
   ·exact .refl _
   ·exact ((insS_perm f z l).cons y).trans (.swap z y l)
theorem insS_sorted (f:Int→Int) (z:Int):∀ {l:List Int},SortedF f l→SortedF f (insS f z l)
 | [],_=>by simp [insS,SortedF]
 | y::l,h=>by
   obtain ⟨h1,h2⟩:=List.pairwise_cons.1 h
   simp only [insS]
   split
   ·rename_i hz
    refine List.pairwise_cons.2 ⟨fun a ha=>?_,h⟩
    rcases List.mem_cons.1 ha with rfl | ha
    ·omega
    ·have:=h1 a ha; omega
   ·rename_i hz
    refine List.pairwise_cons.2 ⟨fun a ha=>?_,insS_sorted f z h2⟩
    rcases List.mem_cons.1 ((insS_perm f z l).mem_iff.1 ha) with rfl | ha
    ·omega
    ·exact h1 a ha
theorem insS_snoc_lt (f:Int→Int) (z y:Int) (h:f z < f y):∀ M:List Int,insS f z (M++[y])=insS f z M++[y]
 | []=>by simp [insS,h]
 | m::M=>by
   simp only [List.cons_append,insS]
   split
   ·rfl
   ·rw [insS_snoc_lt f z y h M]; rfl
theorem insS_last (f:Int→Int) (z:Int):∀ M:List Int,(∀ m∈M,f m≤f z)→insS f z M=M++[z]
 | [],_=>rfl
 | m::M,h=>by
   have h1:=h m (.head _)
   simp only [insS]
   rw [if_neg (by omega),insS_last f z M fun q hq=>h q (.tail _ hq)]; rfl
theorem sorted_snoc {f:Int→Int} {M:List Int} {y:Int} (h:SortedF f (M++[y])):SortedF f M∧∀ m∈M,f m≤f y:=by
 unfold SortedF at h
 rw [List.pairwise_append] at h
 exact ⟨h.1,fun m hm=>h.2.2 m hm y (by simp)⟩
theorem sw_snoc (M:List Int) (y z:Int) (rest:List Int):sw (M++y::z::rest) M.length=M++z::y::rest:=by
 unfold sw
 have h1:(M++y::z::rest).getD M.length 0=y:=by simp [List.getD_eq_getElem?_getD]
 have h2:(M++y::z::rest).getD (M.length+1) 0=z:=by
  rw [List.getD_eq_getElem?_getD,List.getElem?_append_right (by omega)]; simp
 rw [h1,h2,List.set_append_right _ _ (by omega)]
 simp only [Nat.add_sub_cancel_left,List.set_cons_succ,List.set_cons_zero]
 rw [List.set_append_right _ _ (by omega)]
 simp
theorem bub_ins (f:Int→Int) (z:Int) (rest:List Int):∀ (n:Nat) (M:List Int),M.length=n→SortedF f M→bub f n (M++z::rest)=insS f z M++rest
 | 0,M,hM,_=>by
   have:M=[]:=List.length_eq_zero_iff.1 hM
   subst this; rfl
 | n+1,M,hM,hs=>by
   obtain ⟨M',y,rfl⟩:∃ M' y,M=M'++[y]:=by
    have hne:M ≠ []:=by intro h; rw [h] at hM; simp at hM
    exact ⟨M.dropLast,M.getLast hne,(List.dropLast_concat_getLast hne).symm⟩
   have hl:M'.length=n:=by simp at hM; exact hM
   obtain ⟨h1,h2⟩:=sorted_snoc hs
   have e:M'++[y]++z::rest=M'++y::z::rest:=by simp
   have g1:(M'++y::z::rest).getD n 0=y:=by rw [← hl]; simp [List.getD_eq_getElem?_getD]
   have g2:(M'++y::z::rest).getD (n+1) 0=z:=by
    rw [← hl,List.getD_eq_getElem?_getD,List.getElem?_append_right (by omega)]; simp
   rw [e]
   simp only [bub,g1,g2]
   split
   ·rename_i hlt
    rw [insS_snoc_lt f z y hlt,← hl,sw_snoc,hl,bub_ins f z (y::rest) n M' hl h1]
    simp
   ·rename_i hge
    rw [insS_last f z (M'++[y]) fun m hm=>?_]
    ·simp
    ·rcases List.mem_append.1 hm with hm | hm
     ·have:=h2 m hm; omega
     ·have:m=y:=by simpa using hm
      subst this; omega
def iot (n:Nat):List Int:=(List.range n).map fun (i:Nat)=>(i:Int)
def srt (f:Int→Int):Nat→List Int
 | 0=>[]
 | i+1=>insS f i (srt f i)
theorem srt_perm (f:Int→Int):∀ n,(srt f n).Perm (iot n)
 | 0=>.refl _
 | n+1=>by
   have h1:iot (n+1)=iot n++[(n:Int)]:=by simp [iot,List.range_succ]
   rw [h1]
   refine (insS_perm f n _).trans (((srt_perm f n).cons _).trans ?_)
   exact (List.perm_append_singleton _ _).symm
theorem srt_sorted (f:Int→Int):∀ n,SortedF f (srt f n)
 | 0=>by simp [srt,SortedF]
 | n+1=>insS_sorted f _ (srt_sorted f n)
theorem srt_len (f:Int→Int) (n:Nat):(srt f n).length=n:=by rw [(srt_perm f n).length_eq]; simp [iot]
theorem stn_srt (f:Int→Int) (n:Nat):∀ i,i≤n→stn f (iot n) i=srt f i++(iot n).drop i
 | 0,_=>rfl
 | i+1,hi=>by
   rw [stn,stn_srt f n i (by omega)]
   have hd:(iot n).drop i=(i:Int)::(iot n).drop (i+1):=by
    rw [List.drop_eq_getElem_cons (by simp [iot]; omega)]
    simp [iot]
   rw [hd,bub_ins f i _ i (srt f i) (srt_len f i) (srt_sorted f i)]
   rfl
theorem stn_all_srt (f:Int→Int) (n:Nat):stn f (iot n) n=srt f n:=by
 rw [stn_srt f n n (Nat.le_refl _)]
 have:(iot n).drop n=[]:=List.drop_eq_nil_of_le (by simp [iot])
 rw [this,List.append_nil]
def parts (f:Int→Int) (l:List Int):Nat→List Int
 | 0=>[]
 | p+1=>parts f l p++l.filter (fun y=>decide (f y=1+p))
@[simp] theorem gpF_cons (F:List AV→Option AV) (a:AV) (l:List AV):gpF F (a::l)=F (a::l):=rfl
theorem wr1:IntKind.i64.wrap 1=1:=rfl
theorem isNil_nils {Ω:Om}:Pr.sem Ω .isNil [.nils] = .bool true:=rfl
theorem whole_nils {Ω:Om} (c:AV):Pr.sem Ω .whole [.nils,c] = .nils:=by cases c<;>rfl
theorem iot_len (n:Nat):(iot n).length=n:=by simp [iot]
theorem iot_succ (n:Nat):iot (n+1)=iot n++[(n:Int)]:=by simp [iot,List.range_succ]
set_option maxHeartbeats 8000000
theorem p100 (s:ByteArray):F100 [.str s]=some (ia (gradeI s)):=by
 unfold gradeI
 rcases tf_or (s=w0) with h0 | h0<;>rcases tf_or (s=w1) with h1 | h1<;>rcases tf_or (s=w2) with h2 | h2<;>rcases tf_or (s=w3) with h3 | h3 <;>
  simp [F100,unitF_eq,t100,h0,h1,h2,h3]
theorem far_find (rs:List Int):((List.range' 0 rs.length).findSome? fun i=>if outM (rs.getD i 0) then some (AV.tuple [ia 1]) else none)=if farV rs then some (.tuple [ia 1]) else none:=by
 rw [range_find rs (fun x=>if outM x then some (AV.tuple [ia 1]) else none) _ (fun i hi=>by simp [hi])]
 exact any_find outM rs
theorem G4900 {r:Rs} (h:RsOk r):loopG (calO s49) B4900 KK [ia 0,.str r.nm,.str r.st,r.va]=some (if farV r.xs then .tuple [ia 1] else .tuple [ia 2]):=by
 have hG:=loop0 (Ω:=calO s49) (B:=B4900) (fun i=>[ia i,.str r.nm,.str r.st,r.va]) r.xs.length (fun i=>if outM (r.xs.getD i 0) then some (.tuple [ia 1]) else none) (.tuple [ia 2]) (by have:=h.n; omega) (fun i hi=>by
  have hr:nth r.va.rowsL (Int.toNat (i:Int))=some [ia r.xs[i]]:=h.l.row hi
  have hw:=wS (i:=i) (by have:=h.n; omega)
  have hg:r.xs.getD i 0=r.xs[i]:=by simp [hi]
  simp only [Int.toNat_natCast] at hr
  push_cast at hw
  rw [hg]
  rcases tf_or (r.xs[i] < -999999999) with e1 | e1<;>rcases tf_or (999999999 < r.xs[i]) with e2 | e2 <;>
   simp [B4900,h.l.lenM,hr,hi,hw,outM,e1,e2]) (by simp [B4900,h.l.lenM])
 rw [far_find] at hG
 have e:(fun i:Nat=>[ia i,.str r.nm,.str r.st,r.va]) 0=[ia 0,.str r.nm,.str r.st,r.va]:=rfl
 rw [← e,hG]
 by_cases hf:farV r.xs=true<;>simp [hf]
theorem p49 {r:Rs} (h:RsOk r):F49 r.row=some (ia (ckRes r)):=by
 have h1:=p89 (s:=r.nm) (by have:=h.z; omega)
 have h2:=G4900 h
 have h3:r.va.lenN=r.xs.length:=h.l.lenM
 have h4:=p100 r.st
 unfold ckRes
 generalize r.xs.length=m at *
 generalize farV r.xs=fv at *
 have q1:((8:Int) < m)=(8 < m):=propext (by omega)
 have q2:((0:Int) < m)=(0 < m):=by simp
 rcases tf_or (8 < m) with e5 | e5<;>rcases tf_or (0 < m) with e4 | e4<;>cases e1:isName r.nm<;>rcases tf_or (r.st=w0) with e2 | e2<;>rcases tf_or (gradeI r.st < 0) with e3 | e3<;>cases fv <;>
  simp [F49,unitF_eq,t49,Rs.row,h1,h2,h3,h4,e1,e2,e3,e4,e5,q1,q2]
theorem s_slc3 {Ω:Om} {a:AV} {l:List Rs} (h:IsL 3 (l.map Rs.row) a) {i:Nat} (hi:i≤l.length):IsL 3 ((l.take i).map Rs.row) (Pr.sem Ω .slice [a,ia 0,ia i]):=by
 rcases h with rfl | ⟨rfl,h⟩
 ·refine .inl ?_
  show AV.sl 3 (((l.map Rs.row).drop 0).take (i - 0))=_
  simp [List.map_take]
 ·have:l=[]:=by simpa using h
  subst this
  exact .inr ⟨rfl,by simp⟩
theorem G3000 {a:AV} {l:List Rs} (h:IsL 3 (l.map Rs.row) a) (hn:l.length < 1048577) (s:ByteArray) :
  ∃ r,loopG (calO s30) B3000 KK [a,.str s,ia 0]=some r∧((seen (nmO l) l.length s=true∧∃ i:Nat,r = .tuple [ia 1,ia i])∨(seen (nmO l) l.length s=false∧r = .tuple [ia 2])):=by
 have hG:=loop0 (Ω:=calO s30) (B:=B3000) (fun i=>[a,.str s,ia i]) l.length (fun i=>if ((nmO l).getD i default).nm=s then some (.tuple [ia 1,ia i]) else none) (.tuple [ia 2]) (by omega) (fun i hi=>by
  have hr:nth a.rowsL i=some (Rs.row l[i]):=h.rowN hi
  have hw:=wS (i:=i) (by omega)
  have hg:=nmO_get hi
  rw [hg]
  simp only [Rs.row] at hr
  rcases tf_or (l[i].nm=s) with e1 | e1<;>simp [B3000,h.lenM,hr,hi,hw,e1]) (by simp [B3000,h.lenM])
 refine ⟨_,hG,?_⟩
 cases hb:seen (nmO l) l.length s
 ·right
  refine ⟨rfl,?_⟩
  rw [List.findSome?_eq_none_iff.2 (fun i hi=>?_)]
  ·rfl
  ·have:=List.any_eq_false.1 hb i hi
   simp only [decide_eq_true_eq] at this
   rw [if_neg this]
 ·left
  refine ⟨rfl,?_⟩
  cases hf:(List.range' 0 l.length).findSome? fun i=>if ((nmO l).getD i default).nm=s then some (AV.tuple [ia 1,ia i]) else none with
  | none =>
    exfalso
    obtain ⟨i,hi,hy⟩:=List.any_eq_true.1 hb
    have:=List.findSome?_eq_none_iff.1 hf i hi
    simp only [decide_eq_true_eq] at hy
    rw [if_pos hy] at this; cases this
  | some r =>
    obtain ⟨i,hi,hr⟩:=List.exists_of_findSome?_eq_some hf
    refine ⟨i,?_⟩
    split at hr
    ·injection hr with hr; rw [← hr]; rfl
    ·cases hr
theorem p30 {a:AV} {l:List Rs} (h:IsL 3 (l.map Rs.row) a) (hn:l.length < 1048577) (s:ByteArray):∃ j:Int,F30 [a,.str s]=some (ia j)∧(decide (j ≥ 0)=seen (nmO l) l.length s):=by
 obtain ⟨r,hG,hr⟩:=G3000 h hn s
 rcases hr with ⟨h1,i,rfl⟩ | ⟨h1,rfl⟩
 ·exact ⟨i,by simp [F30,unitF_eq,t30,hG],by simp [h1]⟩
 ·exact ⟨-1,by simp [F30,unitF_eq,t30,hG],by simp [h1]⟩
theorem seen_take {l:List Rs} {i:Nat} (hi:i≤l.length) (s:ByteArray):seen (nmO (l.take i)) (l.take i).length s=seen (nmO l) i s:=by
 have hl:(l.take i).length=i:=by simp; omega
 rw [hl]
 unfold seen
 rw [Bool.eq_iff_iff]
 simp only [List.any_eq_true,List.mem_range'_1]
 constructor
 ·rintro ⟨k,hk,h⟩
  refine ⟨k,hk,?_⟩
  have e:(nmO (l.take i)).getD k default=(nmO l).getD k default:=by
   simp [nmO,List.getD_eq_getElem?_getD,List.getElem?_take,show k < i by omega]
  rw [← e]; exact h
 ·rintro ⟨k,hk,h⟩
  refine ⟨k,hk,?_⟩
  have e:(nmO (l.take i)).getD k default=(nmO l).getD k default:=by
   simp [nmO,List.getD_eq_getElem?_getD,List.getElem?_take,show k < i by omega]
  rw [e]; exact h
theorem G2000 {a:AV} {l:List Rs} (h:RssOk a l):loopG (calO s20) B2000 KK [a,ia (-1),ia 0]=some (endE (errsR l)):=by
 have hn:=h.n
 rw [← errsR_end]
 refine loop0 (fun i=>[a,ia (cn l i),ia i]) l.length _ _ (by omega) (fun i hi=>?_) ?_
 ·have hr:nth a.rowsL i=some (Rs.row l[i]):=h.is.rowN hi
  have hw:=wS (show i < 2097152 by omega)
  have hg:l.getD i default=l[i]:=by simp [hi]
  have hok:=h.ok _ (List.getElem_mem hi)
  have f:=p49 hok
  have hl:l[i].va.lenN=l[i].xs.length:=hok.l.lenM
  obtain ⟨j,f2,f3⟩:=p30 (s_slc3 (Ω:=calO s20) h.is (Nat.le_of_lt hi)) (by simp; omega) l[i].nm
  rw [seen_take (Nat.le_of_lt hi)] at f3
  simp only [Rs.row] at f hr
  unfold errR
  simp only [cn,hg]
  rw [← f3]
  have hle:i≤l.length:=Nat.le_of_lt hi
  generalize ckRes l[i]=e at *
  rcases tf_or (e=0) with e1 | e1<;>rcases tf_or (j ≥ 0) with e2 | e2 <;>
   rcases tf_or (l[i].st=w0) with e3 | e3<;>rcases tf_or (cn l i < 0) with e4 | e4<;>rcases tf_or ((l[i].xs.length:Int)=cn l i) with e5 | e5 <;>
    simp [B2000,h.is.lenM,hr,hi,hle,hw,f,f2,hl,e1,e2,e3,e4,e5]
 ·simp [B2000,h.is.lenM]
theorem p20 {a:AV} {l:List Rs} (h:RssOk a l):F20 [a]=some (ia (ckRound l)):=by
 have G:=G2000 h
 have lN:=h.is.lenM
 unfold ckRound
 rcases tf_or (160 < l.length) with e2 | e2
 ·have e2:=of_eq_true e2
  have e3:(160:Int) < l.length:=by omega
  simp [F20,unitF_eq,t20,lN,e2,e3]
 ·have e2:=of_eq_false e2
  have e3:¬ ((160:Int) < l.length):=by omega
  cases he:errsR l with
  | none=>rw [he] at G; simp [endE] at G; simp [F20,unitF_eq,t20,lN,e2,e3,G]
  | some e=>rw [he] at G; simp [endE] at G; simp [F20,unitF_eq,t20,lN,e2,e3,G]
def mkS (ns:List ByteArray):AV:=match ns with | []=>.nils | _=>.sl 1 (ns.map strR)
theorem mkS_isL (ns:List ByteArray):IsL 1 (ns.map strR) (mkS ns):=by
 cases ns with
 | nil=>exact .inr ⟨rfl,rfl⟩
 | cons _ _=>exact .inl rfl
theorem mkS_rows (ns:List ByteArray):(mkS ns).rowsL=ns.map strR:=(mkS_isL ns).rows
theorem mkS_snoc (ns:List ByteArray) (s:ByteArray):AV.sl 1 (ns.map strR++[[.str s]])=mkS (ns++[s]):=by
 cases ns with
 | nil=>rfl
 | cons a l=>simp [mkS,strR]
theorem mkS_len (ns:List ByteArray):(mkS ns).lenN=ns.length:=(mkS_isL ns).lenM
theorem mkS_ok (ns:List ByteArray):(Sh.sl [.str]).ok (mkS ns)=true:=(mkS_isL ns).ok rfl (by simp [strR])
def okS (l:List Rs) (z:Int):Bool:=decide ((l.getD z.toNat default).st=w0)
def nmZ (l:List Rs) (z:Int):ByteArray:=(l.getD z.toNat default).nm
def nms (l:List Rs) (zs:List Int):List ByteArray:=(zs.filter (okS l)).map (nmZ l)
def rkF (l:List Rs) (z:Int):Int:=keyF (rkl l l.length) z
def rowP (l:List Rs) (p:Int) (j:Nat):List Int:=(iot j).filter fun y=>decide (rkF l y=p)
def cpV (va:AV):AV:=match va.rowsL with | []=>.sl 1 [] | r::rs=>.sl 1 (r::rs)
def cp (r:Rs):Rs:=⟨r.nm,r.st,cpV r.va,r.xs⟩
theorem cpV_isL {va:AV} {rows:List (List AV)} (h:IsL 1 rows va):IsL 1 rows (cpV va):=by
 have hr:=h.rows
 unfold cpV
 rw [hr]
 cases rows<;>exact .inl rfl
theorem cp_ok {r:Rs} (h:RsOk r):RsOk (cp r):=⟨cpV_isL h.l,h.n,h.z⟩
def mkR (l:List Rs):AV:=match l with | []=>.nils | _=>.sl 3 (l.map Rs.row)
theorem mkR_isL (l:List Rs):IsL 3 (l.map Rs.row) (mkR l):=by
 cases l with
 | nil=>exact .inr ⟨rfl,rfl⟩
 | cons _ _=>exact .inl rfl
theorem mkR_rows (l:List Rs):(mkR l).rowsL=l.map Rs.row:=(mkR_isL l).rows
theorem mkR_snoc (l:List Rs) (r:Rs):AV.sl 3 (l.map Rs.row++[r.row])=mkR (l++[r]):=by
 cases l with
 | nil=>rfl
 | cons a l=>simp [mkR]
theorem mkR_len (l:List Rs):(mkR l).lenN=l.length:=(mkR_isL l).lenM
theorem cps_ok {a:AV} {l:List Rs} (h:RssOk a l):RssOk (mkR (l.map cp)) (l.map cp) :=
 ⟨mkR_isL _,by rw [List.length_map]; exact h.n,fun r hr=>by
  obtain ⟨q,hq,rfl⟩:=List.mem_map.1 hr
  exact cp_ok (h.ok q hq)⟩
theorem row_ok {r:Rs} (h:RsOk r):Sh.oks [.str,.str,.sl [.int .i64]] r.row=true:=by
 have:(Sh.sl [.int .i64]).ok r.va=true:=h.l.ok rfl (by simp [intR])
 simp [Rs.row,this]
theorem mkR_ok {a:AV} {l:List Rs} (h:RssOk a l):(Sh.sl [.str,.str,.sl [.int .i64]]).ok (mkR l)=true :=
 (mkR_isL l).ok rfl (by
  rw [List.all_eq_true]
  intro x hx
  obtain ⟨r,hr,rfl⟩:=List.mem_map.1 hx
  exact row_ok (h.ok r hr))
theorem G1800 {a:AV} {l:List Rs} (h:RssOk a l):loopG (calO s18) B1800 KK [.nils,a,ia l.length,ia 0]=some (.tuple [ia 1,mkR (l.map cp)]):=by
 have hn:=h.n
 suffices hS:loopG (calO s18) B1800 KK [mkR ((l.take 0).map cp),a,ia l.length,ia 0]=some (.tuple [ia 1,mkR ((l.take l.length).map cp)]) by
  rw [List.take_length] at hS; exact hS
 refine loopF (fun i=>[mkR ((l.take i).map cp),a,ia l.length,ia i]) l.length _ (by omega) (fun i hi=>?_) ?_
 ·have hrow:nth a.rowsL i=some (Rs.row l[i]):=h.is.rowN hi
  have hw:=wS (show i < 2097152 by omega)
  have hok:=h.ok _ (List.getElem_mem hi)
  have ht:l.take (i+1)=l.take i++[l[i]]:=by rw [List.take_add_one,List.getElem?_eq_getElem hi]; rfl
  have hv:∀ Ω,Pr.sem Ω (.app 1) [.sl 1 [],l[i].va]=cpV l[i].va:=fun Ω=>by
   rw [s_app]; unfold cpV
   cases l[i].va.rowsL<;>rfl
  have hvl:(cpV l[i].va).lenN=l[i].xs.length:=(cpV_isL hok.l).lenM
  have hxn:=hok.n
  have hlen:(mkR ((l.take i).map cp)).lenN=i:=by rw [mkR_len,List.length_map,List.length_take]; omega
  have hrw:(mkR ((l.take i).map cp)).rowsL=((l.take i).map cp).map Rs.row:=mkR_rows _
  have hsn:AV.sl 3 (((l.take i).map cp).map Rs.row++[[.str l[i].nm,.str l[i].st,cpV l[i].va]])=mkR ((l.take i).map cp++[cp l[i]]):=mkR_snoc _ (cp l[i])
  have hl2:(((l.take i).map cp).map Rs.row).length=i:=by simp; omega
  have hmp:(l.take i++[l[i]]).map cp=(l.take i).map cp++[cp l[i]]:=by rw [List.map_append]; rfl
  rw [ht,hmp]
  simp only [Rs.row] at hrow
  have hap:∀ Ω,Pr.sem Ω (.app 3) [mkR ((l.take i).map cp),.sl 3 [[.str l[i].nm,.str l[i].st,cpV l[i].va]]]=mkR ((l.take i).map cp++[cp l[i]]):=fun Ω=>by
   rw [s_app,rowsL_sl]; simp only [hrw]; exact hsn
  have hl3:(mkR ((l.take i).map cp++[cp l[i]])).lenN=i+1:=by rw [mkR_len,List.length_append,List.length_map,List.length_take]; simp; omega
  generalize mkR ((l.take i).map cp++[cp l[i]])=nx at *
  generalize mkR ((l.take i).map cp)=cur at *
  have c1:(l[i].xs.length:Int)≤1073741824:=by omega
  have c3:(i:Int)+1≤1073741824:=by omega
  generalize cpV l[i].va=cv at *
  simp [B1800,h.is.lenM,hrow,hi,hw,hv,hvl,hap,hl3,c1,c3, -s_app]
 ·simp [B1800]
theorem p18 {a:AV} {l:List Rs} (h:RssOk a l):F18 [a]=some (mkR (l.map cp)):=by
 have G:=G1800 h
 have ok:=mkR_ok (cps_ok h)
 simp [F18,unitF_eq,t18,h.is.lenM,G,ok]
def eqv (r q:Rs):Prop:=r.nm=q.nm∧r.st=q.st∧r.xs=q.xs
theorem getD_cp (l:List Rs) (i:Nat):eqv ((l.map cp).getD i default) (l.getD i default):=by
 by_cases h:i < l.length
 ·have e1:(l.map cp).getD i default=cp l[i]:=by simp [h]
  have e2:l.getD i default=l[i]:=by simp [h]
  rw [e1,e2]; exact ⟨rfl,rfl,rfl⟩
 ·have e1:(l.map cp).getD i default=default:=by simp [h]
  have e2:l.getD i default=default:=by simp [h]
  rw [e1,e2]; exact ⟨rfl,rfl,rfl⟩
theorem ckRes_eqv {r q:Rs} (h:eqv r q):ckRes r=ckRes q:=by unfold ckRes; rw [h.1,h.2.1,h.2.2]
theorem cmpR_eqv {r q r' q':Rs} (h:eqv r q) (h':eqv r' q'):cmpR r r'=cmpR q q':=by unfold cmpR; rw [h.2.1,h.2.2,h'.2.1,h'.2.2]
theorem cn_cp (l:List Rs):∀ i,cn (l.map cp) i=cn l i
 | 0=>rfl
 | i+1=>by
   have h:=getD_cp l i
   simp only [cn,cn_cp l i]
   rw [h.2.1,h.2.2]
theorem nmO_cp (l:List Rs):nmO (l.map cp)=nmO l:=by simp [nmO,cp]
theorem errR_cp (l:List Rs) (i:Nat):errR (l.map cp) i=errR l i:=by
 have h:=getD_cp l i
 unfold errR
 rw [ckRes_eqv h,nmO_cp,cn_cp,h.1,h.2.1,h.2.2]
theorem ckRound_cp (l:List Rs):ckRound (l.map cp)=ckRound l:=by
 unfold ckRound errsR
 simp only [List.length_map,errR_cp]
def fiB (n:Nat) (c:Nat→Bool):Int:=match (List.range' 0 n).find? c with | some i=>(i:Int) | none => -1
theorem fs_if (c:Nat→Bool) (T:Nat→AV):∀ L:List Nat,(L.findSome? fun i=>if c i=true then some (T i) else none)=(L.find? c).map T
 | []=>rfl
 | i::L=>by
   simp only [List.findSome?_cons,List.find?_cons]
   cases h:c i
   ·simpa using fs_if c T L
   ·rfl
theorem fiB_cases (n:Nat) (c:Nat→Bool):(∃ i,i < n∧c i=true∧(List.range' 0 n).find? c=some i∧fiB n c=i)∨((∀ i,i < n→c i=false)∧(List.range' 0 n).find? c=none∧fiB n c = -1):=by
 unfold fiB
 cases h:(List.range' 0 n).find? c with
 | some i =>
   have h1:=List.find?_some h
   have h2:=List.mem_of_find?_eq_some h
   rw [List.mem_range'_1] at h2
   exact .inl ⟨i,by omega,h1,rfl,rfl⟩
 | none =>
   refine .inr ⟨fun i hi=>?_,rfl,rfl⟩
   have:=List.find?_eq_none.1 h i (by rw [List.mem_range'_1]; omega)
   simpa using this
theorem fiB_congr {n:Nat} {c d:Nat→Bool} (h:∀ i,i < n→c i=d i):fiB n c=fiB n d:=by
 have:(List.range' 0 n).find? c=(List.range' 0 n).find? d:=by
  rcases fiB_cases n c with ⟨i,h1,h2,h3,_⟩ | ⟨h1,h2,_⟩
  ·rcases fiB_cases n d with ⟨j,g1,g2,g3,_⟩ | ⟨g1,g2,_⟩
   ·have e:∀ L:List Nat,(∀ i∈L,i < n)→L.find? c=L.find? d:=by
     intro L
     induction L with
     | nil=>intro _; rfl
     | cons a L ih =>
       intro hL
       simp only [List.find?_cons,h a (hL a (.head _)),ih fun i hi=>hL i (.tail _ hi)]
    exact e _ fun i hi=>by rw [List.mem_range'_1] at hi; omega
   ·have:=g1 i h1; rw [← h i h1,h2] at this; cases this
  ·rcases fiB_cases n d with ⟨j,g1,g2,g3,_⟩ | ⟨g1,g2,_⟩
   ·have:=h1 j g1; rw [h j g1,g2] at this; cases this
   ·rw [h2,g2]
 unfold fiB; rw [this]
def fi (l:List Rs) (s:ByteArray):Int:=fiB l.length fun i=>decide ((l.getD i default).nm=s)
def has (l:List Rs) (s:ByteArray):Bool:=decide (fi l s ≥ 0)
def atR (l:List Rs) (s:ByteArray):Rs:=l.getD (fi l s).toNat default
theorem fi_cases (l:List Rs) (s:ByteArray):(∃ i,∃ h:i < l.length,fi l s=i∧has l s=true∧atR l s=l[i]∧l[i].nm=s)∨(fi l s = -1∧has l s=false∧∀ i (h:i < l.length),l[i].nm ≠ s):=by
 rcases fiB_cases l.length (fun i=>decide ((l.getD i default).nm=s)) with ⟨i,h1,h2,_,h4⟩ | ⟨h1,_,h4⟩
 ·have hg:l.getD i default=l[i]:=by simp [h1]
  have hf:fi l s=i:=h4
  rw [hg] at h2
  exact .inl ⟨i,h1,hf,by unfold has; rw [hf]; simp,by unfold atR; rw [hf,Int.toNat_natCast,hg],of_decide_eq_true h2⟩
 ·have hf:fi l s = -1:=h4
  refine .inr ⟨hf,by unfold has; rw [hf]; rfl,fun i hi e=>?_⟩
  have h1:=h1 i hi
  have hg:l.getD i default=l[i]:=by simp [hi]
  rw [hg,e] at h1
  simp at h1
theorem has_seen (l:List Rs) (s:ByteArray):seen (nmO l) l.length s=has l s:=by
 unfold seen
 rw [Bool.eq_iff_iff,List.any_eq_true]
 rcases fi_cases l s with ⟨i,hi,_,h,_,e⟩ | ⟨_,h,e⟩
 ·rw [h]
  refine ⟨fun _=>rfl,fun _=>⟨i,by rw [List.mem_range'_1]; omega,?_⟩⟩
  rw [nmO_get hi,e]; simp
 ·rw [h]
  refine ⟨fun ⟨i,hi,hn⟩=>?_,fun h=>by cases h⟩
  have hi:i < l.length:=by rw [List.mem_range'_1] at hi; omega
  rw [nmO_get hi] at hn
  exact absurd (of_decide_eq_true hn) (e i hi)
@[simp] theorem ok_ragg (cs:List Sh) (l:List AV):(RS.agg cs).ok (.agg l)=Sh.oks cs l:=rfl
theorem p205 (n:ByteArray) (st va:AV) (s:ByteArray):F205 [.str n,st,va,.str s]=some (.bool (decide (n=s))):=by
 rcases tf_or (n=s) with e1 | e1<;>simp [F205,unitF_eq,t205,e1]
theorem fi_loop (l:List Rs) (s:ByteArray):((List.range' 0 l.length).findSome? fun i=>if decide ((l.getD i default).nm=s)=true then some (AV.tuple [ia 1,ia i]) else none).getD (.tuple [ia 2])=if fi l s < 0 then .tuple [ia 2] else .tuple [ia 1,ia (fi l s)]:=by
 rw [fs_if (fun i=>decide ((l.getD i default).nm=s)) (fun i=>.tuple [ia 1,ia i])]
 rcases fiB_cases l.length (fun i=>decide ((l.getD i default).nm=s)) with ⟨i,_,_,h3,h4⟩ | ⟨_,h3,h4⟩
 ·rw [h3,show fi l s=i from h4,if_neg (by omega)]; rfl
 ·rw [h3,show fi l s = -1 from h4,if_pos (by decide)]; rfl
theorem G20400 {a:AV} {l:List Rs} (h:RssOk a l) (s:ByteArray):loopG (calO s204) B20400 KK [a,.str s,ia l.length,ia 0]=some (if fi l s < 0 then .tuple [ia 2] else .tuple [ia 1,ia (fi l s)]):=by
 have hn:=h.n
 rw [← fi_loop]
 refine loop0 (fun i=>[a,.str s,ia l.length,ia i]) l.length _ _ (by omega) (fun i hi=>?_) ?_
 ·have hr:nth a.rowsL i=some (Rs.row l[i]):=h.is.rowN hi
  have hw:=wS (show i < 2097152 by omega)
  have hg:l.getD i default=l[i]:=by simp [hi]
  rw [hg]
  simp only [Rs.row] at hr
  have f:=p205 l[i].nm (.str l[i].st) l[i].va s
  rcases tf_or (l[i].nm=s) with e1 | e1<;>simp [B20400,h.is.lenM,hr,hi,hw,f,e1]
 ·simp [B20400]
theorem p204 {a:AV} {l:List Rs} (h:RssOk a l) (s:ByteArray):F204 [a,.str s]=some (ia (fi l s)):=by
 have G:=G20400 h s
 rcases fi_cases l s with ⟨i,hi,e,_⟩ | ⟨e,_⟩
 ·rw [e,if_neg (by omega)] at G; simp [F204,unitF_eq,t204,h.is.lenM,G,e]
 ·rw [e,if_pos (by decide)] at G; simp [F204,unitF_eq,t204,h.is.lenM,G,e]
def fdR (l:List Rs) (s:ByteArray):List AV:=if has l s then (atR l s).row else [.str w0,.str w0,.nils]
theorem p163 {a:AV} {l:List Rs} (h:RssOk a l) (s:ByteArray):F163 [a,.str s]=some (.tuple [.agg (fdR l s),.bool (has l s)]):=by
 have f:=p204 h s
 rcases fi_cases l s with ⟨i,hi,e,e2,e3,_⟩ | ⟨e,e2,_⟩
 ·rw [e] at f
  have hr:nth a.rowsL i=some (Rs.row l[i]):=h.is.rowN hi
  simp only [Rs.row] at hr
  unfold fdR
  rw [e2,e3,if_pos rfl]
  simp only [Rs.row]
  have e0:((i:Int) < 0)=False:=by simp
  simp [F163,unitF_eq,t163,f,h.is.lenM,hr,hi,e0]
 ·rw [e] at f
  unfold fdR
  rw [e2]
  simp [F163,unitF_eq,t163,f]
theorem fdR_ok {a:AV} {l:List Rs} (h:RssOk a l) (s:ByteArray):Sh.oks [.str,.str,.sl [.int .i64]] (fdR l s)=true:=by
 unfold fdR
 rcases fi_cases l s with ⟨i,hi,_,e2,e3,_⟩ | ⟨_,e2,_⟩
 ·rw [e2,e3,if_pos rfl]; exact row_ok (h.ok _ (List.getElem_mem hi))
 ·rw [e2,if_neg (by decide)]; rfl
def inI (l:List Rs) (s:ByteArray):Int:=if has l s then 0 else 1
theorem p160 {a:AV} {l:List Rs} (h:RssOk a l) (s:ByteArray):F160 [a,.str s]=some (ia (inI l s)):=by
 have f:=p163 h s
 have ok:=fdR_ok h s
 unfold inI
 generalize fdR l s=fd at *
 cases e:has l s<;>rw [e] at f<;>simp [F160,unitF_eq,t160,f,ok]
def dI (l:List Rs) (s t:ByteArray):Int:=inI l s - inI l t
theorem p159 {a:AV} {l:List Rs} (h:RssOk a l) (s t:ByteArray):F159 [.str s,.str t,a]=some (ia (dI l s t)):=by
 have f:=p160 h s
 have g:=p160 h t
 unfold dI
 have w:IntKind.i64.wrap (inI l s - inI l t)=inI l s - inI l t:=by
  apply i64w<;>(unfold inI; split<;>split<;>omega)
 simp [F159,unitF_eq,t159,f,g,w]
def tellI (l:List Rs) (s t:ByteArray):Int:=if has l s&&has l t then cmpR (atR l s) (atR l t) else 0
theorem has_mem {l:List Rs} {s:ByteArray} (h:has l s=true):∃ i,∃ hi:i < l.length,atR l s=l[i]∧l[i].nm=s:=by
 rcases fi_cases l s with ⟨i,hi,_,_,e3,e4⟩ | ⟨_,e2,_⟩
 ·exact ⟨i,hi,e3,e4⟩
 ·rw [e2] at h; cases h
theorem p162 {a:AV} {l:List Rs} (h:RssOk a l) (hr:RoundOk l) (s t:ByteArray):F162 [.str s,.str t,a]=some (ia (tellI l s t)):=by
 have f:=p163 h s
 have g:=p163 h t
 have okf:=fdR_ok h s
 have okg:=fdR_ok h t
 unfold tellI
 cases e1:has l s
 ·rw [e1] at f
  generalize fdR l s=fs at *
  generalize fdR l t=ft at *
  cases e2:has l t<;>rw [e2] at g<;>simp [F162,unitF_eq,t162,f,g,okf,okg]
 ·cases e2:has l t
  ·rw [e1] at f; rw [e2] at g
   generalize fdR l s=fs at *
   generalize fdR l t=ft at *
   simp [F162,unitF_eq,t162,f,g,okf,okg]
  ·obtain ⟨i,hi,x1,_⟩:=has_mem e1
   obtain ⟨k,hk,y1,_⟩:=has_mem e2
   have c:=p75 (h.ok _ (List.getElem_mem hi)) (h.ok _ (List.getElem_mem hk)) (fun hg=>(hr.lens hi hk hg.symm).symm)
   unfold fdR at f g okf okg
   rw [e1,if_pos rfl,x1] at f okf
   rw [e2,if_pos rfl,y1] at g okg
   rw [x1,y1]
   simp only [Rs.row,List.cons_append,List.nil_append] at f g okf okg c
   simp [F162,unitF_eq,t162,f,g,okf,okg,c]
def siN (ns:List ByteArray) (s:ByteArray):Int:=fiB ns.length fun i=>decide (ns.getD i w0=s)
def hasS (ns:List ByteArray) (s:ByteArray):Bool:=decide (siN ns s ≥ 0)
def sdI (ns:List ByteArray) (s:ByteArray):Int:=if siN ns s ≥ 0 then siN ns s else ns.length
theorem si_range (ns:List ByteArray) (s:ByteArray) : -1≤siN ns s∧siN ns s < ns.length∧(siN ns s < 0→siN ns s = -1):=by
 rcases fiB_cases ns.length (fun i=>decide (ns.getD i w0=s)) with ⟨i,h1,_,_,h4⟩ | ⟨_,_,h4⟩<;>(have h4:siN ns s=_:=h4; rw [h4]; omega)
theorem si_loop (ns:List ByteArray) (s:ByteArray) (T:Nat→AV) (d:AV):((List.range' 0 ns.length).findSome? fun i=>if decide (ns.getD i w0=s)=true then some (T i) else none).getD d=if siN ns s < 0 then d else T (siN ns s).toNat:=by
 rw [fs_if (fun i=>decide (ns.getD i w0=s)) T]
 rcases fiB_cases ns.length (fun i=>decide (ns.getD i w0=s)) with ⟨i,_,_,h3,h4⟩ | ⟨_,h3,h4⟩
 ·rw [h3,show siN ns s=i from h4,if_neg (by omega),Int.toNat_natCast]; rfl
 ·rw [h3,show siN ns s = -1 from h4,if_pos (by decide)]; rfl
theorem p124 {a:AV} {ns:List ByteArray} (h:IsL 1 (ns.map strR) a) (hn:ns.length < 1048577) (s:ByteArray):F124 [a,.str s]=some (ia (siN ns s)):=by
 have G:=loop0 (Ω:=calO s124) (B:=B12400) (fun i=>[a,.str s,ia ns.length,ia i]) ns.length (fun i=>if decide (ns.getD i w0=s)=true then some (AV.tuple [ia 1,ia i]) else none) (.tuple [ia 2]) (by omega) (fun i hi=>by
  have hr:nth a.rowsL i=some (strR ns[i]):=h.rowN hi
  have hw:=wS (show i < 2097152 by omega)
  have hg:ns.getD i w0=ns[i]:=by simp [hi]
  rw [hg]
  by_cases hc:s=ns[i]
  ·have hc':ns[i]=s:=hc.symm
   simp [B12400,h.lenM,hr,strR,hi,hw,hc']
  ·have hc':¬ ns[i]=s:=fun e=>hc e.symm
   simp [B12400,h.lenM,hr,strR,hi,hw,hc,hc']) (by simp [B12400])
 rw [si_loop] at G
 have G:loopG (calO s124) B12400 KK [a,.str s,ia ns.length,ia 0]=_:=G
 obtain ⟨r1,r2,r3⟩:=si_range ns s
 rcases Int.lt_or_le (siN ns s) 0 with e | e
 ·rw [if_pos e] at G; simp [F124,unitF_eq,t124,h.lenM,G,r3 e]
 ·rw [if_neg (by omega),Int.toNat_of_nonneg e] at G; simp [F124,unitF_eq,t124,h.lenM,G]
theorem p95 {a:AV} {ns:List ByteArray} (h:IsL 1 (ns.map strR) a) (hn:ns.length < 1048577) (s:ByteArray):F95 [a,.str s]=some (.bool (hasS ns s)):=by
 have f:=p124 h hn s
 simp [F95,unitF_eq,t95,f,hasS]
theorem p83 {a:AV} {ns:List ByteArray} (h:IsL 1 (ns.map strR) a) (hn:ns.length < 1048577) (s:ByteArray):F83 [a,.str s]=some (.bool (hasS ns s)):=by
 have G:=loop0 (Ω:=calO s83) (B:=B8300) (fun i=>[a,.str s,ia i]) ns.length (fun i=>if decide (ns.getD i w0=s)=true then some (AV.tuple [ia 1]) else none) (.tuple [ia 2]) (by omega) (fun i hi=>by
  have hr:nth a.rowsL i=some (strR ns[i]):=h.rowN hi
  have hw:=wS (show i < 2097152 by omega)
  have hg:ns.getD i w0=ns[i]:=by simp [hi]
  rw [hg]
  rcases tf_or (ns[i]=s) with e1 | e1<;>simp [B8300,h.lenM,hr,strR,hi,hw,e1]) (by simp [B8300,h.lenM])
 rw [si_loop ns s (fun _=>.tuple [ia 1])] at G
 have G:loopG (calO s83) B8300 KK [a,.str s,ia 0]=_:=G
 unfold hasS
 rcases Int.lt_or_le (siN ns s) 0 with e | e
 ·rw [if_pos e] at G; simp [F83,unitF_eq,t83,G,e]
 ·rw [if_neg (by omega)] at G; simp [F83,unitF_eq,t83,G,e]
theorem p164 {ra sa:AV} {ns:List ByteArray} (h:IsL 1 (ns.map strR) sa) (hn:ns.length < 1048577) (s:ByteArray):F164 [.str s,ra,sa]=some (ia (sdI ns s)):=by
 have f:=p124 h hn s
 unfold sdI
 by_cases e:siN ns s ≥ 0<;>simp [F164,unitF_eq,t164,f,h.lenM,e]
theorem p165 {ra sa:AV} {ns:List ByteArray} (h:IsL 1 (ns.map strR) sa) (hn:ns.length < 1048577) (s t:ByteArray):F165 [.str s,.str t,ra,sa]=some (ia (cmpI (sdI ns s) (sdI ns t))):=by
 simp [F165,unitF_eq,t165,p164 h hn,p123]
theorem p30e {a:AV} {l:List Rs} (h:IsL 3 (l.map Rs.row) a) (hn:l.length < 1048577) (s:ByteArray):F30 [a,.str s]=some (ia (fi l s)):=by
 have hG:=loop0 (Ω:=calO s30) (B:=B3000) (fun i=>[a,.str s,ia i]) l.length (fun i=>if decide ((l.getD i default).nm=s)=true then some (.tuple [ia 1,ia i]) else none) (.tuple [ia 2]) (by omega) (fun i hi=>by
  have hr:nth a.rowsL i=some (Rs.row l[i]):=h.rowN hi
  have hw:=wS (i:=i) (by omega)
  have hg:l.getD i default=l[i]:=by simp [hi]
  rw [hg]
  simp only [Rs.row] at hr
  rcases tf_or (l[i].nm=s) with e1 | e1<;>simp [B3000,h.lenM,hr,hi,hw,e1]) (by simp [B3000,h.lenM])
 rw [fi_loop] at hG
 have hG:loopG (calO s30) B3000 KK [a,.str s,ia 0]=_:=hG
 rcases fi_cases l s with ⟨i,hi,e,_⟩ | ⟨e,_⟩
 ·rw [e,if_neg (by omega)] at hG; simp [F30,unitF_eq,t30,hG,e]
 ·rw [e,if_pos (by decide)] at hG; simp [F30,unitF_eq,t30,hG,e]
structure CtOk (ra sa:AV) (rs:List (AV × List Rs)) (sd:List ByteArray):Prop where
 r:IsL 1 (rs.map fun p=>[p.1]) ra
 s:IsL 1 (sd.map strR) sa
 ok:∀ p∈rs,RssOk p.1 p.2
 nr:rs.length < 1048577
 ns:sd.length < 1048577
def Lr (rs:List (AV × List Rs)) (i:Nat):List Rs:=(rs.getD i (default,[])).2
theorem CtOk.row {ra sa:AV} {rs:List (AV × List Rs)} {sd:List ByteArray} (h:CtOk ra sa rs sd) {i:Nat} (hi:i < rs.length) :
  ∃ a,nth ra.rowsL i=some [a]∧RssOk a (Lr rs i):=by
 refine ⟨rs[i].1,h.r.rowN hi,?_⟩
 have:rs.getD i (default,[])=rs[i]:=by simp [hi]
 unfold Lr; rw [this]
 exact h.ok _ (List.getElem_mem hi)
def dnO (t:Nat→Int):Nat→Option Nat
 | 0=>none
 | k+1=>if t k ≠ 0 then some k else dnO t k
def upO (d:Nat→Int) (i j:Nat):Option Nat:=(List.range' i j).find? fun k=>decide (d k ≠ 0)
def pick (u:Nat→Int) (e:AV):Option Nat→AV
 | some k=>.tuple [ia k,ia (u k)]
 | none=>e
abbrev zI (sd:List ByteArray) (a b:ByteArray):Int:=cmpI (sdI sd a) (sdI sd b)
def endV (rs:List (AV × List Rs)) (sd:List ByteArray) (a b:ByteArray):AV :=
 if zI sd a b=0 then .tuple [ia (-1),ia 0] else .tuple [ia rs.length,ia (zI sd a b)]
def decV (rs:List (AV × List Rs)) (sd:List ByteArray) (a b:ByteArray):AV :=
 pick (fun i=>dI (Lr rs i) a b) (pick (fun i=>tellI (Lr rs i) a b) (endV rs sd a b) (dnO (fun i=>tellI (Lr rs i) a b) rs.length)) (upO (fun i=>dI (Lr rs i) a b) 0 rs.length)
section
variable {ra sa:AV} {rs:List (AV × List Rs)} {sd:List ByteArray} {a b:ByteArray}
theorem end_val (h:CtOk ra sa rs sd):valT (calO s82) [ra,sa,.str a,.str b] end82=some (endV rs sd a b):=by
 have f:=p165 (ra:=ra) h.s h.ns a b
 have lN:=h.r.lenM
 unfold endV
 rcases tf_or (zI sd a b=0) with e | e<;>simp [end82,valT,f,lN,e]
theorem snd_val (h:CtOk ra sa rs sd) (hr:∀ i,i < rs.length→RoundOk (Lr rs i)):∀ (n j:Nat) (x:X),X.den (calO s82) [ra,sa,.str a,.str b] x=ia ((j:Int) - 1)→j≤rs.length→j < n →
  valT (calO s82) [ra,sa,.str a,.str b] (snd82 n x)=some (pick (fun i=>tellI (Lr rs i) a b) (endV rs sd a b) (dnO (fun i=>tellI (Lr rs i) a b) j))
 | 0,j,x,hx,hj,hn=>by omega
 | n+1,0,x,hx,hj,hn=>by
   have e:=end_val (a:=a) (b:=b) h
   simp only [snd82,valT]
   rw [if_neg (by simp [hx])]
   exact e
 | n+1,k+1,x,hx,hj,hn=>by
   have lN:=h.r.lenM
   have hnr:=h.nr
   have hx:X.den (calO s82) [ra,sa,.str a,.str b] x=ia k:=by rw [hx]; congr 1; omega
   have w:IntKind.i64.wrap ((k:Int) - 1)=(k:Int) - 1:=i64w (by omega) (by omega)
   have ih:=snd_val h hr n k (SB x (I 1)) (by simp [hx,w]) (by omega) (by omega)
   have hk:k < rs.length:=by omega
   obtain ⟨v,hrow,hv⟩:=h.row hk
   have f:=p162 hv (hr k hk) a b
   have hk':(k:Int) < rs.length:=by omega
   simp only [snd82,valT,dnO]
   rw [if_pos (by simp [hx]),if_pos (by simp [hx,lN,hk']),if_pos (by simp [hx,hrow,f])]
   rcases tf_or (tellI (Lr rs k) a b=0) with e | e
   ·rw [if_neg (by simp [hx,hrow,f,e]),ih,if_neg (by simp [e])]
   ·rw [if_pos (by simp [hx,hrow,f,e]),if_pos (by simp [e])]
    simp [pick,hx,hrow,f]
theorem fst_val (h:CtOk ra sa rs sd) (hr:∀ i,i < rs.length→RoundOk (Lr rs i)) (h8:rs.length≤8):∀ (n i:Nat),i≤rs.length→rs.length - i < n →
  valT (calO s82) [ra,sa,.str a,.str b] (fst82 n i)=some (pick (fun i=>dI (Lr rs i) a b) (pick (fun i=>tellI (Lr rs i) a b) (endV rs sd a b) (dnO (fun i=>tellI (Lr rs i) a b) rs.length)) (upO (fun i=>dI (Lr rs i) a b) i (rs.length - i)))
 | 0,i,hi,hn=>by omega
 | n+1,i,hi,hn=>by
   have lN:=h.r.lenM
   simp only [fst82,valT]
   rcases Nat.lt_or_ge i rs.length with hlt | hge
   ·obtain ⟨v,hrow,hv⟩:=h.row hlt
    have f:=p159 hv a b
    have hi':(i:Int) < rs.length:=by omega
    have ih:=fst_val h hr h8 n (i+1) (by omega) (by omega)
    have hs:rs.length - i=rs.length - (i+1)+1:=by omega
    rw [if_pos (by simp [lN,hi']),if_pos (by simp [hrow,f]),hs]
    unfold upO
    rw [List.range'_succ,List.find?_cons]
    rcases tf_or (dI (Lr rs i) a b=0) with e | e
    ·rw [if_neg (by simp [hrow,f,e]),ih]
     simp [e,upO]
    ·rw [if_pos (by simp [hrow,f,e])]
     simp [e,pick,hrow,f]
     rfl
   ·have hi':i=rs.length:=by omega
    rw [if_neg (by simp [lN,hi'])]
    have w:IntKind.i64.wrap ((rs.length:Int) - 1)=(rs.length:Int) - 1:=i64w (by omega) (by omega)
    rw [snd_val h hr 9 rs.length (SB (LN v0) (I 1)) (by simp [lN,w]) (Nat.le_refl _) (by omega),hi',Nat.sub_self]
    rfl
theorem p82 (h:CtOk ra sa rs sd) (hr:∀ i,i < rs.length→RoundOk (Lr rs i)) (h8:rs.length≤8) (a b:ByteArray):F82 [ra,sa,.str a,.str b]=some (decV rs sd a b):=by
 have:=fst_val (a:=a) (b:=b) h hr h8 10 0 (Nat.zero_le _) (by omega)
 rw [Nat.sub_zero] at this
 simp only [F82,unitF_eq,t82,l82,om_nil]
 exact this
def lst (rs:List (AV × List Rs)) (a:ByteArray):Nat→Nat
 | 0=>0
 | i+1=>if has (Lr rs i) a then i else lst rs a i
theorem dI_has (l:List Rs) (a b:ByteArray):dI l a b=if has l a=has l b then 0 else if has l a=true then -1 else 1:=by
 unfold dI inI
 cases has l a<;>cases has l b<;>rfl
def dnA (t:Nat→Int) (e:AV):Option Nat→AV
 | some k=>.tuple [ia 1,ia k,ia (t k)]
 | none=>e
end
section
variable {ra sa:AV} {rs:List (AV × List Rs)} {sd:List ByteArray} {a b:ByteArray}
theorem has_down (hN:∀ i,i+1 < rs.length→∀ s,has (Lr rs (i+1)) s=true→has (Lr rs i) s=true) {s:ByteArray}:∀ q,q < rs.length→has (Lr rs q) s=true→∀ i,i≤q→has (Lr rs i) s=true
 | 0,_,h,i,hi=>by have:i=0:=by omega
                  rw [this]; exact h
 | q+1,hq,h,i,hi=>by
   rcases Nat.lt_or_ge i (q+1) with hlt | hge
   ·exact has_down hN q (by omega) (hN q hq s h) i (by omega)
   ·have:i=q+1:=by omega
    rw [this]; exact h
theorem up_none {d:Nat→Int} {n:Nat} (h:upO d 0 n=none):∀ i,i < n→d i=0:=by
 intro i hi
 have:=List.find?_eq_none.1 h i (by rw [List.mem_range'_1]; omega)
 simpa using this
end
theorem mapS_sh (l:List Op) (i:Nat):(Sh.im .str false [.bool]).ok (.im (mapS l i))=true:=by
 simp only [Sh.ok,List.all_eq_true]
 intro e he
 obtain ⟨k,rfl⟩:=(mapS_ok l i).1 e he
 rfl
abbrev knM (l:List Rs):AV:=.im (mapS (nmO l) l.length)
theorem kn_get (l:List Rs) (s:ByteArray):findA (.str s) (mapS (nmO l) l.length)=some (if has l s then some (.bool true) else none):=by
 rw [((mapS_ok (nmO l) l.length).2.1 s),has_seen]
theorem G8100 {a:AV} {l:List Rs} (h:RssOk a l):loopG (calO s81) B8100 KK [a,ia l.length,ia 0,.im []]=some (.tuple [ia 1,knM l]):=by
 have hn:=h.n
 refine loopF (fun i=>[a,ia l.length,ia i,.im (mapS (nmO l) i)]) l.length _ (by omega) (fun i hi=>?_) ?_
 ·have hr:nth a.rowsL i=some (Rs.row l[i]):=h.is.rowN hi
  have hw:=wS (show i < 2097152 by omega)
  have m3:=(mapS_ok (nmO l) i).2.2
  rw [nmO_get hi] at m3
  simp only [Rs.row] at hr
  simp [B8100,h.is.lenM,hr,hi,hw,m3,s_mput]
 ·simp [B8100]
theorem p81 {a:AV} {l:List Rs} (h:RssOk a l):F81 [a]=some (knM l):=by
 have G:=G8100 h
 simp [F81,unitF_eq,t81,h.is.lenM,G]
def nw (p l:List Rs):Bool:=l.any fun r=>!has p r.nm
def errC (rs:List (AV × List Rs)) (i:Nat):Int :=
 if ckRound (Lr rs i)=0 then (if i=0 then 0 else if nw (Lr rs (i - 1)) (Lr rs i) then 10 else 0) else ckRound (Lr rs i)
def errD (l0:List Rs) (sd:List ByteArray) (i:Nat):Int :=
 if has l0 (sd.getD i w0)=false then 10 else if hasS (sd.take i) (sd.getD i w0) then 9 else 0
def errsN (n:Nat) (f:Nat→Int):Option Int:=(List.range' 0 n).findSome? fun i=>if f i=0 then none else some (f i)
def endX (fin:AV):Option Int→AV
 | some e=>.tuple [ia 1,ia e]
 | none=>fin
theorem errs_map (f:Nat→Int) (fin:AV) (n:Nat):((List.range' 0 n).findSome? fun i=>if f i=0 then none else some (AV.tuple [ia 1,ia (f i)])).getD fin=endX fin (errsN n f):=by
 unfold errsN
 generalize List.range' 0 n=s
 induction s with
 | nil=>rfl
 | cons i s ih =>
   simp only [List.findSome?_cons]
   by_cases h:f i=0
   ·rw [if_pos h,if_pos h]; exact ih
   ·rw [if_neg h,if_neg h]; rfl
def ckC (rs:List (AV × List Rs)) (sd:List ByteArray):Int :=
 if rs.length=0 then 12 else if 8 < rs.length then 5 else match errsN rs.length (errC rs) with
  | some e=>e
  | none=>if 160 < sd.length then 5 else (errsN sd.length (errD (Lr rs 0) sd)).getD 0
theorem errsN_ne {n:Nat} {f:Nat→Int} {e:Int} (h:errsN n f=some e):e ≠ 0:=by
 obtain ⟨i,_,h2⟩:=List.exists_of_findSome?_eq_some h
 split at h2
 ·cases h2
 ·rename_i hne; injection h2 with h2; rw [← h2]; exact hne
theorem nw_find (p l:List Rs) (fin:AV):(l.findSome? fun r=>if has p r.nm=false then some (AV.tuple [ia 1]) else none).getD fin=if nw p l then .tuple [ia 1] else fin:=by
 have:=any_find (fun r:Rs=>!has p r.nm) l
 have e:(fun r:Rs=>if has p r.nm=false then some (AV.tuple [ia 1]) else none)=fun r=>if (!has p r.nm)=true then some (AV.tuple [ia 1]) else none:=by
  funext r; cases has p r.nm<;>rfl
 rw [e,this]
 unfold nw
 split<;>rfl
theorem s_slc1 {Ω:Om} {a:AV} {l:List ByteArray} (h:IsL 1 (l.map strR) a) {i:Nat} (hi:i≤l.length):IsL 1 ((l.take i).map strR) (Pr.sem Ω .slice [a,ia 0,ia i]):=by
 rcases h with rfl | ⟨rfl,h⟩
 ·refine .inl ?_
  show AV.sl 1 (((l.map strR).drop 0).take (i - 0))=_
  simp [List.map_take]
 ·have:l=[]:=by simpa using h
  subst this
  exact .inr ⟨rfl,by simp⟩
section
variable {ra sa:AV} {rs:List (AV × List Rs)} {sd:List ByteArray}
theorem G6001 {a:AV} {p l:List Rs} (h:RssOk a l) (x1 x2 x3 x7:AV):loopG (calO s60) B6001 KK [knM p,x1,x2,x3,a,ia l.length,ia 0,x7]=some (if nw p l then .tuple [ia 1] else .tuple [ia 2,x1,x2,x3,x7]):=by
 have hn:=h.n
 rw [← nw_find]
 refine loopL (fun i=>[knM p,x1,x2,x3,a,ia l.length,ia i,x7]) l _ _ (by omega) (fun i hi=>?_) ?_
 ·have hr:nth a.rowsL i=some (Rs.row l[i]):=h.is.rowN hi
  have hw:=wS (show i < 2097152 by omega)
  have m2:=kn_get p l[i].nm
  simp only [Rs.row] at hr
  cases e:has p l[i].nm<;>rw [e] at m2<;>simp only [if_true,if_false,Bool.false_eq_true] at m2<;>simp [B6001,h.is.lenM,hr,hi,hw,m2,knM]
 ·simp [B6001]
theorem G6000 (h:CtOk ra sa rs sd):loopG (omL KK s60 [d6001]) B6000 KK [ra,ia rs.length,ia 0,sa]=some (endX (.tuple [ia 2,ra,sa]) (errsN rs.length (errC rs))):=by
 have hn:=h.nr
 have lN:=h.r.lenM
 rw [← errs_map]
 refine loop0 (fun i=>[ra,ia rs.length,ia i,sa]) rs.length _ _ (by omega) (fun i hi=>?_) ?_
 ·obtain ⟨v,hrow,hv⟩:=h.row hi
  have hw:=wS (show i < 2097152 by omega)
  have f:=p21 hv
  have hi':(i:Int) < rs.length:=by omega
  unfold errC
  rcases tf_or (ckRound (Lr rs i)=0) with e | e
  ·cases i with
   | zero =>
     have w1:IntKind.i64.wrap 1=1:=i64w (by omega) (by omega)
     simp [B6000,lN,hrow,hi',hi,hw,f,e,w1]
   | succ k =>
     have hk:k < rs.length:=by omega
     obtain ⟨u,hrow2,hu⟩:=h.row hk
     have g:=p81 hu
     have G:=G6001 (p:=Lr rs k) hv ra (ia rs.length) (ia ((k+1:Nat):Int)) sa
     have lV:=hv.is.lenM
     have ee:((k+1:Nat):Int) - 1=k:=by omega
     have w:IntKind.i64.wrap (k:Int)=k:=i64w (by omega) (by omega)
     have hk':(k:Int) < rs.length:=by omega
     have e0:¬ (((k+1:Nat):Int)=0):=by omega
     have et:Int.toNat ((k+1:Nat):Int)=k+1:=by omega
     have hk2:(0≤((k+1:Nat):Int))=True:=by simp; omega
     have e00:¬ (k+1=0):=by omega
     have sh:=mapS_sh (nmO (Lr rs k)) (Lr rs k).length
     simp only [Nat.add_sub_cancel,if_neg e00]
     generalize ((k+1:Nat):Int)=kk at *
     cases hnw:nw (Lr rs k) (Lr rs (k+1))<;>rw [hnw] at G<;>simp only [if_true,if_false,Bool.false_eq_true] at G <;>
      simp [B6000,lN,lV,hrow,hrow2,et,hk2,hi',hk',hk,hi,hw,f,g,G,e,e0,ee,w,sh]
  ·simp [B6000,lN,hrow,hi',hi,hw,f,e]
 ·simp [B6000]
theorem G6002 {l0:List Rs} (hs:IsL 1 (sd.map strR) sa) (hn:sd.length < 1048577):loopG (omL KK s60 [d6000,d6001]) B6002 KK [knM l0,sa,ia sd.length,ia 0,ra]=some (endX (.tuple [ia 2]) (errsN sd.length (errD l0 sd))):=by
 have lN:=hs.lenM
 rw [← errs_map]
 refine loop0 (fun i=>[knM l0,sa,ia sd.length,ia i,ra]) sd.length _ _ (by omega) (fun i hi=>?_) ?_
 ·have hr:nth sa.rowsL i=some (strR sd[i]):=hs.rowN hi
  have hw:=wS (show i < 2097152 by omega)
  have hg:sd.getD i w0=sd[i]:=by simp [hi]
  have m2:=kn_get l0 sd[i]
  have f:=p95 (s_slc1 (Ω:=omL KK s60 [d6000,d6001]) hs (Nat.le_of_lt hi)) (by simp; omega) sd[i]
  have hle:(i:Int)≤sd.length:=by omega
  unfold errD
  rw [hg]
  simp only [strR] at hr
  cases e:has l0 sd[i]<;>rw [e] at m2<;>simp only [if_true,if_false,Bool.false_eq_true] at m2<;>cases e2:hasS (sd.take i) sd[i]<;>rw [e2] at f <;>
   simp [B6002,lN,hr,hi,hw,m2,knM,f,p80,fz2,whenI,fz_cons,fz_nil,hle,Nat.le_of_lt hi]
 ·simp [B6002]
theorem p60 (h:CtOk ra sa rs sd):F60 [ra,sa]=some (ia (ckC rs sd)):=by
 have G0:=G6000 h
 have lN:=h.r.lenM
 have lS:=h.s.lenM
 unfold ckC
 rcases tf_or (rs.length=0) with e1 | e1
 ·have e1:=of_eq_true e1
  simp [F60,unitF_eq,t60,lN,p80,fz2,whenI,fz_cons,fz_nil,e1]
 ·have e1:=of_eq_false e1
  rcases tf_or (8 < rs.length) with e2 | e2
  ·have e2:=of_eq_true e2
   have e3:(8:Int) < rs.length:=by omega
   simp [F60,unitF_eq,t60,lN,p80,fz2,whenI,fz_cons,fz_nil,e1,e2,e3]
  ·have e2:=of_eq_false e2
   have e3:¬ ((8:Int) < rs.length):=by omega
   have e4:(0:Int) < rs.length:=by omega
   have e5:0 < rs.length:=by omega
   cases he:errsN rs.length (errC rs) with
   | some e =>
     rw [he] at G0
     simp only [endX] at G0
     simp [F60,unitF_eq,t60,lN,p80,fz2,whenI,fz_cons,fz_nil,e1,e2,e3,G0]
   | none =>
     rw [he] at G0
     simp only [endX] at G0
     rcases tf_or (160 < sd.length) with e6 | e6
     ·have e6:=of_eq_true e6
      have e7:(160:Int) < sd.length:=by omega
      simp [F60,unitF_eq,t60,lN,lS,p80,fz2,whenI,fz_cons,fz_nil,e1,e2,e3,G0,e6,e7]
     ·have e6:=of_eq_false e6
      have e7:¬ ((160:Int) < sd.length):=by omega
      obtain ⟨v,hrow,hv⟩:=h.row e5
      have g:=p81 hv
      have sh:=mapS_sh (nmO (Lr rs 0)) (Lr rs 0).length
      have G2:=G6002 (ra:=ra) (l0:=Lr rs 0) h.s h.ns
      cases he2:errsN sd.length (errD (Lr rs 0) sd) with
      | some e=>rw [he2] at G2; simp only [endX] at G2; simp [F60,unitF_eq,t60,lN,lS,p80,fz2,whenI,fz_cons,fz_nil,e1,e2,e3,e4,e5,G0,e6,e7,hrow,g,sh,G2]
      | none=>rw [he2] at G2; simp only [endX] at G2; simp [F60,unitF_eq,t60,lN,lS,p80,fz2,whenI,fz_cons,fz_nil,e1,e2,e3,e4,e5,G0,e6,e7,hrow,g,sh,G2]
theorem G2901 (h:CtOk ra sa rs sd) {k:Nat} (hk:k+1 < rs.length):loopG (calO s29) B2901 KK [ia ((k+1:Nat):Int),ia 0,ra,sa]=some (if nw (Lr rs k) (Lr rs (k+1)) then .tuple [ia 1] else .tuple [ia 2,ia ((k+1:Nat):Int),ra,sa]):=by
 have lN:=h.r.lenM
 have hnr:=h.nr
 obtain ⟨v,hrow,hv⟩:=h.row hk
 obtain ⟨u,hrow2,hu⟩:=h.row (show k < rs.length by omega)
 have hn:=hv.n
 have lV:=hv.is.lenM
 have ee:((k+1:Nat):Int) - 1=k:=by omega
 have et:Int.toNat ((k+1:Nat):Int)=k+1:=by omega
 have w:IntKind.i64.wrap (k:Int)=k:=i64w (by omega) (by omega)
 have hk':(k:Int) < rs.length:=by omega
 have hk1:((k+1:Nat):Int) < rs.length:=by omega
 have hk2:0≤((k+1:Nat):Int):=by omega
 have hk3:0 < ((k+1:Nat):Int):=by omega
 rw [← nw_find]
 generalize ((k+1:Nat):Int)=kk at *
 refine loopL (fun i=>[ia kk,ia i,ra,sa]) (Lr rs (k+1)) _ _ (by omega) (fun i hi=>?_) ?_
 ·have hr:nth v.rowsL i=some (Rs.row (Lr rs (k+1))[i]):=hv.is.rowN hi
  have hw:=wS (show i < 2097152 by omega)
  have f:=p30e hu.is hu.n (Lr rs (k+1))[i].nm
  have hx:has (Lr rs k) (Lr rs (k+1))[i].nm=decide (fi (Lr rs k) (Lr rs (k+1))[i].nm ≥ 0):=rfl
  have hi':(i:Int) < (Lr rs (k+1)).length:=by omega
  simp only [Rs.row] at hr
  rcases tf_or (fi (Lr rs k) (Lr rs (k+1))[i].nm ≥ 0) with e | e
  ·have e':¬ fi (Lr rs k) (Lr rs (k+1))[i].nm < 0:=by have:=of_eq_true e; omega
   rw [hx]
   simp [B2901,lN,lV,hrow,hrow2,hr,et,ee,w,hk',hk1,hk2,hk3,hi',hi,hw,f,e,e']
  ·have e':fi (Lr rs k) (Lr rs (k+1))[i].nm < 0:=by have:=of_eq_false e; omega
   rw [hx]
   simp [B2901,lN,lV,hrow,hrow2,hr,et,ee,w,hk',hk1,hk2,hk3,hi',hi,hw,f,e,e']
 ·simp [B2901,lN,lV,hrow,et,hk1,hk2,hk3]
theorem G2900 (h:CtOk ra sa rs sd):loopG (omL KK s29 [d2901]) B2900 KK [ia 0,ra,sa]=some (endX (.tuple [ia 2,ra,sa]) (errsN rs.length (errC rs))):=by
 have hn:=h.nr
 have lN:=h.r.lenM
 rw [← errs_map]
 refine loop0 (fun i=>[ia i,ra,sa]) rs.length _ _ (by omega) (fun i hi=>?_) ?_
 ·obtain ⟨v,hrow,hv⟩:=h.row hi
  have hw:=wS (show i < 2097152 by omega)
  have f:=p20 hv
  have hi':(i:Int) < rs.length:=by omega
  unfold errC
  rcases tf_or (ckRound (Lr rs i)=0) with e | e
  ·cases i with
   | zero =>
     have G:loopG (calO s29) B2901 KK [ia 0,ia 0,ra,sa]=some (.tuple [ia 2,ia 0,ra,sa]):=by
      have:KK=2097151+1:=rfl
      rw [this]
      refine loopG_out ?_
      simp [B2901]
     have w1:IntKind.i64.wrap 1=1:=i64w (by omega) (by omega)
     simp [B2900,lN,hrow,hi',hi,hw,f,e,G,w1]
   | succ k =>
     have G:=G2901 h hi
     have e00:¬ (k+1=0):=by omega
     have et:Int.toNat ((k+1:Nat):Int)=k+1:=by omega
     have hk2:0≤((k+1:Nat):Int):=by omega
     simp only [Nat.add_sub_cancel,if_neg e00]
     generalize ((k+1:Nat):Int)=kk at *
     cases hnw:nw (Lr rs k) (Lr rs (k+1))<;>rw [hnw] at G<;>simp only [if_true,if_false,Bool.false_eq_true] at G <;>
      simp [B2900,lN,hrow,et,hi',hi,hk2,hw,f,G,e]
  ·simp [B2900,lN,hrow,hi',hi,hw,f,e]
 ·simp [B2900,lN]
theorem G2902 (h:CtOk ra sa rs sd) (h0:0 < rs.length):loopG (omL KK s29 [d2900,d2901]) B2902 KK [ia 0,ra,sa]=some (endX (.tuple [ia 2]) (errsN sd.length (errD (Lr rs 0) sd))):=by
 have lN:=h.r.lenM
 have lS:=h.s.lenM
 have hn:=h.ns
 obtain ⟨v,hrow,hv⟩:=h.row h0
 rw [← errs_map]
 refine loop0 (fun i=>[ia i,ra,sa]) sd.length _ _ (by omega) (fun i hi=>?_) ?_
 ·have hr:nth sa.rowsL i=some (strR sd[i]):=h.s.rowN hi
  have hw:=wS (show i < 2097152 by omega)
  have hg:sd.getD i w0=sd[i]:=by simp [hi]
  have f:=p83 (s_slc1 (Ω:=omL KK s29 [d2900,d2901]) h.s (Nat.le_of_lt hi)) (by simp; omega) sd[i]
  have g:=p30e hv.is hv.n sd[i]
  have hle:(i:Int)≤sd.length:=by omega
  have hi':(i:Int) < sd.length:=by omega
  have h0':(0:Int) < rs.length:=by omega
  have hx:has (Lr rs 0) sd[i]=decide (fi (Lr rs 0) sd[i] ≥ 0):=rfl
  unfold errD
  rw [hg]
  simp only [strR] at hr
  rcases tf_or (fi (Lr rs 0) sd[i] ≥ 0) with e | e
  ·have e':¬ fi (Lr rs 0) sd[i] < 0:=by have:=of_eq_true e; omega
   cases e2:hasS (sd.take i) sd[i]<;>rw [e2] at f<;>simp [B2902,lN,lS,hrow,hr,hi',hi,hle,h0,h0',Nat.le_of_lt hi,hw,f,g,hx,e,e']
  ·have e':fi (Lr rs 0) sd[i] < 0:=by have:=of_eq_false e; omega
   simp [B2902,lN,lS,hrow,hr,hi',hi,hle,h0,h0',hw,g,hx,e,e']
 ·simp [B2902,lS]
theorem p29 (h:CtOk ra sa rs sd):F29 [ra,sa]=some (ia (ckC rs sd)):=by
 have G0:=G2900 h
 have lN:=h.r.lenM
 have lS:=h.s.lenM
 unfold ckC
 rcases tf_or (rs.length=0) with e1 | e1
 ·have e1:=of_eq_true e1
  simp [F29,unitF_eq,t29,lN,e1]
 ·have e1:=of_eq_false e1
  rcases tf_or (8 < rs.length) with e2 | e2
  ·have e2:=of_eq_true e2
   have e3:(8:Int) < rs.length:=by omega
   simp [F29,unitF_eq,t29,lN,e1,e2,e3]
  ·have e2:=of_eq_false e2
   have e3:¬ ((8:Int) < rs.length):=by omega
   cases he:errsN rs.length (errC rs) with
   | some e =>
     rw [he] at G0
     simp only [endX] at G0
     simp [F29,unitF_eq,t29,lN,e1,e2,e3,G0]
   | none =>
     rw [he] at G0
     simp only [endX] at G0
     rcases tf_or (160 < sd.length) with e6 | e6
     ·have e6:=of_eq_true e6
      have e7:(160:Int) < sd.length:=by omega
      simp [F29,unitF_eq,t29,lN,lS,e1,e2,e3,G0,e6,e7]
     ·have e6:=of_eq_false e6
      have e7:¬ ((160:Int) < sd.length):=by omega
      have G2:=G2902 h (by omega)
      cases he2:errsN sd.length (errD (Lr rs 0) sd) with
      | some e=>rw [he2] at G2; simp only [endX] at G2; simp [F29,unitF_eq,t29,lN,lS,e1,e2,e3,G0,e6,e7,G2]
      | none=>rw [he2] at G2; simp only [endX] at G2; simp [F29,unitF_eq,t29,lN,lS,e1,e2,e3,G0,e6,e7,G2]
end
def mkA (l:List AV):AV:=match l with | []=>.nils | _=>.sl 1 (l.map fun x=>[x])
theorem mkA_isL (l:List AV):IsL 1 (l.map fun x=>[x]) (mkA l):=by
 cases l with
 | nil=>exact .inr ⟨rfl,rfl⟩
 | cons _ _=>exact .inl rfl
theorem mkA_app (Ω:Om) (l:List AV) (x:AV):Pr.sem Ω (.app 1) [mkA l,.sl 1 [[x]]]=mkA (l++[x]):=by
 rw [s_app,rowsL_sl,(mkA_isL l).rows]
 cases l with
 | nil=>rfl
 | cons a l=>simp [mkA]
theorem mkA_len (l:List AV):(mkA l).lenN=l.length:=(mkA_isL l).lenM
abbrev cpA (p:AV × List Rs):AV:=mkR (p.2.map cp)
def cpC (rs:List (AV × List Rs)):List (AV × List Rs):=rs.map fun p=>(cpA p,p.2.map cp)
section
variable {ra sa:AV} {rs:List (AV × List Rs)} {sd:List ByteArray} {a b:ByteArray}
theorem cpC_ok (h:CtOk ra sa rs sd):CtOk (mkA (rs.map cpA)) (cpV sa) (cpC rs) sd where
 r:=by
   have:=mkA_isL (rs.map cpA)
   rw [List.map_map] at this
   unfold cpC
   rw [List.map_map]
   exact this
 s:=cpV_isL h.s
 ok p hp:=by
  obtain ⟨q,hq,rfl⟩:=List.mem_map.1 hp
  exact cps_ok (h.ok q hq)
 nr:=by unfold cpC; rw [List.length_map]; exact h.nr
 ns:=h.ns
theorem Lr_cp (rs:List (AV × List Rs)) (i:Nat):Lr (cpC rs) i=(Lr rs i).map cp:=by
 unfold Lr cpC
 by_cases h:i < rs.length<;>simp [h]
theorem fi_cp (l:List Rs) (s:ByteArray):fi (l.map cp) s=fi l s:=by
 unfold fi
 rw [List.length_map]
 exact fiB_congr fun i hi=>by rw [(getD_cp l i).1]
theorem has_cp (l:List Rs) (s:ByteArray):has (l.map cp) s=has l s:=by unfold has; rw [fi_cp]
theorem dI_cp (l:List Rs) (s t:ByteArray):dI (l.map cp) s t=dI l s t:=by unfold dI inI; rw [has_cp,has_cp]
theorem tellI_cp (l:List Rs) (s t:ByteArray):tellI (l.map cp) s t=tellI l s t:=by
 unfold tellI
 rw [has_cp,has_cp]
 have h1:eqv (atR (l.map cp) s) (atR l s):=by unfold atR; rw [fi_cp]; exact getD_cp l _
 have h2:eqv (atR (l.map cp) t) (atR l t):=by unfold atR; rw [fi_cp]; exact getD_cp l _
 rw [cmpR_eqv h1 h2]
theorem cpC_len (rs:List (AV × List Rs)):(cpC rs).length=rs.length:=by simp [cpC]
theorem decV_cp:decV (cpC rs) sd a b=decV rs sd a b:=by
 unfold decV endV
 simp only [Lr_cp,dI_cp,tellI_cp,cpC_len]
theorem nw_cp (p l:List Rs):nw (p.map cp) (l.map cp)=nw p l:=by
 unfold nw
 rw [List.any_map]
 congr 1
 funext r
 simp only [Function.comp,has_cp]
 rfl
theorem ckC_cp:ckC (cpC rs) sd=ckC rs sd:=by
 have h1:errC (cpC rs)=errC rs:=by
  funext i
  unfold errC
  simp only [Lr_cp,ckRound_cp,nw_cp]
 have h2:errD (Lr (cpC rs) 0) sd=errD (Lr rs 0) sd:=by
  funext i
  unfold errD
  simp only [Lr_cp,has_cp]
 unfold ckC
 rw [h1,h2,cpC_len]
abbrev shR3:List Sh:=[.str,.str,.sl [.int .i64]]
theorem mkA_ok (h:CtOk ra sa rs sd):(Sh.sl [.sl shR3]).ok (mkA (rs.map cpA))=true :=
 (mkA_isL _).ok rfl (by
  rw [List.all_eq_true]
  intro x hx
  obtain ⟨y,hy,rfl⟩:=List.mem_map.1 hx
  obtain ⟨q,hq,rfl⟩:=List.mem_map.1 hy
  have:=mkR_ok (cps_ok (h.ok q hq))
  simp [this])
theorem cpV_ok (h:CtOk ra sa rs sd):(Sh.sl [.str]).ok (cpV sa)=true:=(cpV_isL h.s).ok rfl (by simp [strR])
theorem G2800 (h:CtOk ra sa rs sd) (x:AV):loopG (calO s28) B2800 KK [ra,ia rs.length,ia 0,.nils,x]=some (.tuple [ia 1,mkA (rs.map cpA),x]):=by
 have hn:=h.nr
 suffices hS:loopG (calO s28) B2800 KK [ra,ia rs.length,ia 0,mkA ((rs.take 0).map cpA),x]=some (.tuple [ia 1,mkA ((rs.take rs.length).map cpA),x]) by
  rw [List.take_length] at hS; exact hS
 refine loopF (fun i=>[ra,ia rs.length,ia i,mkA ((rs.take i).map cpA),x]) rs.length _ (by omega) (fun i hi=>?_) ?_
 ·have hrow:nth ra.rowsL i=some [rs[i].1]:=h.r.rowN hi
  have hw:=wS (show i < 2097152 by omega)
  have hv:=h.ok _ (List.getElem_mem hi)
  have f:=p18 hv
  have okf:=mkR_ok (cps_ok hv)
  have ht:rs.take (i+1)=rs.take i++[rs[i]]:=by rw [List.take_add_one,List.getElem?_eq_getElem hi]; rfl
  have hap:∀ Ω,Pr.sem Ω (.app 1) [mkA ((rs.take i).map cpA),.sl 1 [[mkR (rs[i].2.map cp)]]]=mkA ((rs.take i).map cpA++[mkR (rs[i].2.map cp)]):=fun Ω=>mkA_app Ω _ _
  have hl3:(mkA ((rs.take i).map cpA++[mkR (rs[i].2.map cp)])).lenN=i+1:=by rw [mkA_len,List.length_append,List.length_map,List.length_take]; simp; omega
  have hmp:(rs.take i++[rs[i]]).map cpA=(rs.take i).map cpA++[mkR (rs[i].2.map cp)]:=by rw [List.map_append]; rfl
  rw [ht,hmp]
  generalize mkA ((rs.take i).map cpA++[mkR (rs[i].2.map cp)])=nx at *
  generalize mkA ((rs.take i).map cpA)=cur at *
  generalize mkR (rs[i].2.map cp)=cv at *
  have c3:(i:Int)+1≤1073741824:=by omega
  simp [B2800,h.r.lenM,hrow,hi,hw,f,okf,hap,hl3,c3, -s_app]
 ·simp [B2800]
theorem p28 (h:CtOk ra sa rs sd):F28 [ra,sa]=some (.agg [mkA (rs.map cpA),cpV sa]):=by
 have hv:∀ Ω,Pr.sem Ω (.app 1) [.sl 1 [],sa]=cpV sa:=fun Ω=>by
  rw [s_app]; unfold cpV
  cases sa.rowsL<;>rfl
 have G:=G2800 h (cpV sa)
 have hl:(cpV sa).lenN=sd.length:=(cpV_isL h.s).lenM
 have hn:=h.ns
 have c1:(sd.length:Int)≤1073741824:=by omega
 generalize cpV sa=cv at *
 simp [F28,unitF_eq,t28,h.r.lenM,hv,hl,c1,G, -s_app]
theorem ckC0 (h:ckC rs sd=0):0 < rs.length∧rs.length≤8∧(∀ i,i < rs.length→RoundOk (Lr rs i))∧∀ i,i+1 < rs.length→∀ s,has (Lr rs (i+1)) s=true→has (Lr rs i) s=true:=by
 unfold ckC at h
 split at h
 ·cases h
 ·rename_i h0
  split at h
  ·cases h
  ·rename_i h8
   split at h
   ·rename_i e he
    exact absurd h (errsN_ne he)
   ·rename_i he
    have hz:∀ i,i < rs.length→errC rs i=0:=fun i hi=>by
     have:=List.findSome?_eq_none_iff.1 he i (by rw [List.mem_range'_1]; omega)
     split at this
     ·assumption
     ·cases this
    have hck:∀ i,i < rs.length→ckRound (Lr rs i)=0:=fun i hi=>by
     have:=hz i hi
     unfold errC at this
     split at this
     ·assumption
     ·exact this
    refine ⟨by omega,by omega,fun i hi=>ckRound0 (hck i hi),fun i hi s hs=>?_⟩
    have:=hz (i+1) hi
    unfold errC at this
    rw [if_pos (hck _ hi),if_neg (by omega),Nat.add_sub_cancel] at this
    split at this
    ·cases this
    ·rename_i hnw
     obtain ⟨k,hk,_,hn⟩:=has_mem hs
     have hnw:nw (Lr rs i) (Lr rs (i+1))=false:=by simpa using hnw
     unfold nw at hnw
     have:=List.any_eq_false.1 hnw _ (List.getElem_mem hk)
     rw [hn] at this
     simpa using this
theorem decV_tup:∃ x y,decV rs sd a b = .tuple [ia x,ia y]:=by
 unfold decV
 cases upO (fun i=>dI (Lr rs i) a b) 0 rs.length with
 | some k=>exact ⟨_,_,rfl⟩
 | none =>
   cases dnO (fun i=>tellI (Lr rs i) a b) rs.length with
   | some k=>exact ⟨_,_,rfl⟩
   | none =>
     simp only [pick]
     unfold endV
     split<;>exact ⟨_,_,rfl⟩
def unk (l0:List Rs) (a b:ByteArray):Int:=if has l0 a=false then 10 else if has l0 b=false then 10 else if a=b then 9 else 0
theorem p27 (h:CtOk ra sa rs sd) (hc:ckC rs sd=0) {x y:Int} (hd:decV rs sd a b = .tuple [ia x,ia y]) :
  F27 [ra,sa,.str a,.str b]=some (if unk (Lr rs 0) a b=0 then .tuple [ia x,ia y,ia 0] else .tuple [ia 0,ia 0,ia (unk (Lr rs 0) a b)]):=by
 obtain ⟨h1,h2,h3,h4⟩:=ckC0 hc
 have f60:=p60 h
 rw [hc] at f60
 obtain ⟨v,hrow,hv⟩:=h.row h1
 have g:=p81 hv
 have sh:=mapS_sh (nmO (Lr rs 0)) (Lr rs 0).length
 have ma:=kn_get (Lr rs 0) a
 have mb:=kn_get (Lr rs 0) b
 have f82:=p82 h h3 h2 a b
 rw [hd] at f82
 have lN:=h.r.lenM
 have h1':(0:Int) < rs.length:=by omega
 unfold unk
 rcases tf_or (a=b) with e3 | e3<;>cases e1:has (Lr rs 0) a<;>rw [e1] at ma<;>cases e2:has (Lr rs 0) b<;>rw [e2] at mb<;>simp only [if_true,if_false,Bool.false_eq_true] at ma mb <;>
  simp [F27,unitF_eq,t27,f60,lN,h1,h1',hrow,g,sh,knM,ma,mb,p80,fz2,whenI,fz_cons,fz_nil,e3,f82]
theorem tag12 {o:Option AV} {t fin:AV} (h:∀ r,o=some r→r=t):o.getD fin=t∨o.getD fin=fin:=by
 cases o with
 | none=>exact .inr rfl
 | some r=>exact .inl (h r rfl)
theorem some_if {n:Nat} {c:Nat→Bool} {t:AV}:∀ r,((List.range' 0 n).findSome? fun i=>if c i then some t else none)=some r→r=t:=by
 intro r hr
 obtain ⟨i,_,hi⟩:=List.exists_of_findSome?_eq_some hr
 split at hi
 ·injection hi with hi; exact hi.symm
 ·cases hi
theorem p15n {a:AV} {l:List Rs} (h:RssOk a l) (c:Int):∃ b:Bool,F15 [a,ia c]=some (.bool b):=by
 have hn:=h.n
 have lN:=h.is.lenM
 have hG:=loop0 (Ω:=calO s15) (B:=B1500) (fun i=>[a,ia i]) l.length (fun i=>if decide ((l.getD i default).nm.size > 40∨(l.getD i default).st.size > 40∨(l.getD i default).xs.length > 10) then some (.tuple [ia 1]) else none) (.tuple [ia 2]) (by omega) (fun i hi=>by
  have hr:nth a.rowsL i=some (Rs.row l[i]):=h.is.rowN hi
  have hw:=wS (i:=i) (by omega)
  have hg:l.getD i default=l[i]:=by simp [hi]
  have hl:l[i].va.lenN=l[i].xs.length:=(h.ok _ (List.getElem_mem hi)).l.lenM
  rw [hg]
  simp only [Rs.row] at hr
  generalize l[i]=r at *
  have q1:((40:Int) < r.nm.size)=(40 < r.nm.size):=propext (by omega)
  have q2:((40:Int) < r.st.size)=(40 < r.st.size):=propext (by omega)
  have q3:((10:Int) < r.xs.length)=(10 < r.xs.length):=propext (by omega)
  rcases tf_or (40 < r.nm.size) with e1 | e1<;>rcases tf_or (40 < r.st.size) with e2 | e2<;>rcases tf_or (10 < r.xs.length) with e3 | e3 <;>
   simp [B1500,lN,hr,hi,hw,hl,q1,q2,q3,e1,e2,e3]) (by simp [B1500,lN])
 have hor:=tag12 (o:=(List.range' 0 l.length).findSome? fun i=>if decide ((l.getD i default).nm.size > 40∨(l.getD i default).st.size > 40∨(l.getD i default).xs.length > 10) then some (.tuple [ia 1]) else none) (fin:=.tuple [ia 2]) some_if
 have hG:loopG (calO s15) B1500 KK [a,ia 0]=some _:=hG
 rcases hor with e4 | e4<;>rw [e4] at hG
 ·exact ⟨false,by by_cases e1:c < l.length<;>by_cases e2:(l.length:Int)≤160<;>by_cases e3:(162:Int) < l.length<;>simp [F15,unitF_eq,t15,lN,hG,e1,e2,e3]⟩
 ·by_cases e1:c < l.length<;>by_cases e2:(l.length:Int)≤160<;>by_cases e3:(162:Int) < l.length<;>first
   | (refine ⟨false,?_⟩; simp [F15,unitF_eq,t15,lN,hG,e1,e2,e3]; done)
   | (refine ⟨true,?_⟩; simp [F15,unitF_eq,t15,lN,hG,e1,e2,e3]; done)
def shB (ra:AV) (c:Int) (i:Nat):Bool:=match F15 [getJ (nth (getL (nth ra.rowsL i)) 0),ia c] with | some (.bool b)=>b | _=>false
theorem p26 (h:CtOk ra sa rs sd) (c:Int):∃ b:Bool,F26 [ra,sa,ia c]=some (.bool b):=by
 have lN:=h.r.lenM
 have lS:=h.s.lenM
 have hnr:=h.nr
 have hns:=h.ns
 have G0:=loop0 (Ω:=omL KK s26 []) (B:=B2600) (fun i=>[ia c,ia i,ra,sa]) rs.length (fun i=>if (!shB ra c i) then some (.tuple [ia 1]) else none) (.tuple [ia 2,ra,sa]) (by omega) (fun i hi=>by
  obtain ⟨v,hrow,hv⟩:=h.row hi
  have hw:=wS (i:=i) (by omega)
  obtain ⟨bb,hb⟩:=p15n hv c
  have hs:shB ra c i=bb:=by unfold shB; rw [hrow]; simp [hb]
  have hi':(i:Int) < rs.length:=by omega
  rw [hs]
  cases bb<;>simp [B2600,lN,hrow,hi',hi,hw,hb]) (by simp [B2600,lN])
 have G1:=loop0 (Ω:=omL KK s26 [d2600]) (B:=B2601) (fun i=>[ia i,ra,sa]) sd.length (fun i=>if decide ((sd.getD i w0).size > 40) then some (.tuple [ia 1]) else none) (.tuple [ia 2]) (by omega) (fun i hi=>by
  have hr:nth sa.rowsL i=some (strR sd[i]):=h.s.rowN hi
  have hw:=wS (i:=i) (by omega)
  have hg:sd.getD i w0=sd[i]:=by simp [hi]
  have hi':(i:Int) < sd.length:=by omega
  have q1:((40:Int) < sd[i].size)=(40 < sd[i].size):=propext (by omega)
  rw [hg]
  simp only [strR] at hr
  rcases tf_or (40 < sd[i].size) with e1 | e1<;>simp [B2601,lS,hr,hi',hi,hw,q1,e1]) (by simp [B2601,lS])
 have o0:=tag12 (o:=(List.range' 0 rs.length).findSome? fun i=>if (!shB ra c i) then some (.tuple [ia 1]) else none) (fin:=.tuple [ia 2,ra,sa]) some_if
 have o1:=tag12 (o:=(List.range' 0 sd.length).findSome? fun i=>if decide ((sd.getD i w0).size > 40) then some (.tuple [ia 1]) else none) (fin:=.tuple [ia 2]) some_if
 have G0:loopG (calO s26) B2600 KK [ia c,ia 0,ra,sa]=some _:=G0
 have G1:loopG (omL KK s26 [d2600]) B2601 KK [ia 0,ra,sa]=some _:=G1
 by_cases e1:(10:Int) < rs.length<;>by_cases e2:(20:Int) < sd.length<;>by_cases e3:(sd.length:Int)≤160<;>by_cases e4:(162:Int) < sd.length <;>
  rcases o0 with k0 | k0<;>rw [k0] at G0<;>rcases o1 with k1 | k1<;>rw [k1] at G1<;>first
  | (refine ⟨false,?_⟩; simp [F26,unitF_eq,t26,lN,lS,G0,G1,e1,e2,e3,e4]; done)
  | (refine ⟨true,?_⟩; simp [F26,unitF_eq,t26,lN,lS,G0,G1,e1,e2,e3,e4]; done)
@[simp] theorem okr_ragg (cs:List Sh) (l:List AV):RS.okr [.agg cs] (.agg l)=Sh.oks cs l:=rfl
@[simp] theorem okr_three (r s t:RS) (l:List AV):RS.okr [r,s,t] (.tuple l)=RS.oks [r,s,t] l:=rfl
end
def plR (nm:Int→ByteArray) (f:Int→Int) (z:Int):List AV:=[.str (nm z),ia (f z)]
section
variable {nm:Int→ByteArray} {f:Int→Int}
theorem s_setc2 {Ω:Om} {zs:List Int} {j:Nat} {v:Int} (hj:j < zs.length):Pr.sem Ω (.setc 0) [.sl 2 (zs.map (plR nm f)),ia j,.str (nm v),ia (f v)] = .sl 2 ((zs.set j v).map (plR nm f)):=by
 have h1:nth (zs.map (plR nm f)) j=some (plR nm f zs[j]):=by simp [nth_eq,hj]
 simp [Pr.sem,h1,setCells,put_eq,put,plR,List.map_set]
theorem p141 (s t:ByteArray) (x y:Int):F141 [.str s,ia x,.str t,ia y]=some (ia (cmpI x y)):=by
 have h:=p123 x y
 simp [F141,unitF_eq,t141,h]
theorem nth_pl {zs:List Int} {j:Nat} (hj:j < zs.length):nth (zs.map (plR nm f)) j=some [.str (nm (zs.getD j 0)),ia (f (zs.getD j 0))]:=by
 simp [nth_eq,plR,hj]
theorem G20601 (n:Int) (i:Nat):∀ (j K:Nat) (zs:List Int),j < K→j < zs.length→zs.length < 1048577 →
  loopG (calO s206) B20601 K [.sl 2 (zs.map (plR nm f)),ia 0,ia n,ia i,ia j]=some (.tuple [ia 1,.sl 2 ((bub f j zs).map (plR nm f)),ia 0,ia n,ia i])
 | 0,K+1,zs,_,hj,_=>by
   refine loopG_out ?_
   simp [B20601,bub]
 | j+1,K+1,zs,hK,hj,hn=>by
   have g:=p141 (nm (zs.getD (j+1) 0)) (nm (zs.getD j 0)) (f (zs.getD (j+1) 0)) (f (zs.getD j 0))
   have r1:=nth_pl (nm:=nm) (f:=f) hj
   have r2:=nth_pl (nm:=nm) (f:=f) (show j < zs.length by omega)
   have s1:∀ Ω,Pr.sem Ω (.setc 0) [.sl 2 (zs.map (plR nm f)),ia ((j+1:Nat):Int),.str (nm (zs.getD j 0)),ia (f (zs.getD j 0))] = .sl 2 ((zs.set (j+1) (zs.getD j 0)).map (plR nm f)):=fun Ω=>s_setc2 hj
   have s2:∀ Ω,Pr.sem Ω (.setc 0) [.sl 2 ((zs.set (j+1) (zs.getD j 0)).map (plR nm f)),ia (j:Int),.str (nm (zs.getD (j+1) 0)),ia (f (zs.getD (j+1) 0))] = .sl 2 ((sw zs j).map (plR nm f)):=fun Ω=>s_setc2 (by simp; omega)
   have hcc:=cmp_lt (f (zs.getD (j+1) 0)) (f (zs.getD j 0))
   obtain ⟨J,hJ⟩:∃ J:Int,J=((j+1:Nat):Int):=⟨_,rfl⟩
   have J0:0 < J:=by omega
   have J1:0≤J:=by omega
   have J2:J < zs.length:=by omega
   have J3:IntKind.i64.wrap (J - 1)=(j:Int):=by rw [hJ,i64w]<;>omega
   have J4:J.toNat=j+1:=by omega
   have j1:(j:Int) < zs.length:=by omega
   rw [← hJ] at s1 ⊢
   by_cases hc:f (zs.getD (j+1) 0) < f (zs.getD j 0)
   ·have ih:=G20601 n i j K (sw zs j) (by omega) (by rw [sw_len]; omega) (by rw [sw_len]; omega)
    have hb:bub f (j+1) zs=bub f j (sw zs j):=by simp only [bub,if_pos hc]
    rw [hb,← ih]
    refine loopG_again ?_
    simp only [hc,eq_iff_iff,iff_true] at hcc
    generalize zs.getD (j+1) 0=y1 at *
    generalize zs.getD j 0=y2 at *
    simp [B20601,J0,J1,J2,J3,J4,j1,r1,r2,g,s1,s2,isNil_sl,hcc, -List.map_set]
   ·have hb:bub f (j+1) zs=zs:=by simp only [bub,if_neg hc]
    rw [hb]
    refine loopG_out ?_
    simp only [hc,eq_iff_iff,iff_false] at hcc
    generalize zs.getD (j+1) 0=y1 at *
    generalize zs.getD j 0=y2 at *
    simp [B20601,J0,J1,J2,J3,J4,j1,r1,r2,g,isNil_sl,hcc, -List.map_set]
theorem G20600 {zs:List Int} (hn:zs.length < 1048577) :
  loopG (omL KK s206 [d20601]) B20600 KK [.sl 2 (zs.map (plR nm f)),ia 0,ia zs.length,ia 1]=some (.tuple [ia 1,.sl 2 ((stn f zs zs.length).map (plR nm f))]):=by
 have hfin:stn f zs (zs.length - 1+1)=stn f zs zs.length:=by
  by_cases e:zs.length=0
  ·have:zs=[]:=List.length_eq_zero_iff.1 e
   subst this; rfl
  ·rw [show zs.length - 1+1=zs.length by omega]
 rw [← hfin]
 refine loopF (fun k=>[.sl 2 ((stn f zs (k+1)).map (plR nm f)),ia 0,ia zs.length,ia ((k+1:Nat):Int)]) (zs.length - 1) _ (by omega) (fun k hk=>?_) ?_
 ·have hl:=stn_len f zs (k+1)
  have G:=G20601 (nm:=nm) (f:=f) zs.length (k+1) (k+1) KK (stn f zs (k+1)) (by rw [KK_eq]; omega) (by omega) (by omega)
  have hlt:((k+1:Nat):Int) < (zs.length:Int):=by omega
  have hw:=wS (i:=k+1) (by omega)
  have e:stn f zs (k+1+1)=bub f (k+1) (stn f zs (k+1)):=rfl
  rw [e]
  generalize ((k+1:Nat):Int)=J at *
  simp [B20600,hlt,hw,G]
 ·have hge:¬ (((zs.length - 1+1:Nat):Int) < (zs.length:Int)):=by omega
  generalize ((zs.length - 1+1:Nat):Int)=J at *
  simp [B20600,hge]
theorem q206 {zs:List Int} (hn:zs.length < 1048577):F206 [.sl 2 (zs.map (plR nm f)),ia 0,ia zs.length]=some (.sl 2 ((stn f zs zs.length).map (plR nm f))):=by
 have G:=G20600 (nm:=nm) (f:=f) hn
 simp [F206,unitF_eq,t206,wr1,G]
theorem q206n:F206 [.nils,ia 0,ia 0]=some .nils:=by
 have G:loopG (omL KK s206 [d20601]) B20600 KK [.nils,ia 0,ia 0,ia 1]=some (.tuple [ia 1,.nils]):=by
  refine loopF (fun _=>[.nils,ia 0,ia 0,ia 1]) 0 _ (by omega) (fun i hi=>by omega) ?_
  simp [B20600]
 simp [F206,unitF_eq,t206,wr1,G]
theorem G16900 (r:AV) {n:Nat} (hn:n < 20):loopG (calO s169) B16900 KK [r,ia n,ia 0,ia 20]=some (.tuple [ia 1,r,ia n,ia 0]):=by
 refine loopF (fun _=>[r,ia n,ia 0,ia 20]) 0 _ (by omega) (fun i hi=>by omega) ?_
 have:¬ ((20:Int)≤n):=by omega
 simp [B16900,this]
theorem G16901 (r:AV) {n:Nat} (hn:n < 20):loopG (omL KK s169 [d16902,d16900]) B16901 KK [r,ia n]=some (.tuple [ia 1,r]):=by
 refine loopF (fun _=>[r,ia n]) 0 _ (by omega) (fun i hi=>by omega) ?_
 have:¬ ((20:Int) < n):=by omega
 simp [B16901,this]
theorem pl_all (ys:List Int):(ys.map (plR nm f)).all (Sh.oks [.str,.int .i64])=true:=by simp [plR]
theorem q169 {zs:List Int} (hn:zs.length < 20):F169 [.sl 2 (zs.map (plR nm f)),ia zs.length]=some (.sl 2 ((stn f zs zs.length).map (plR nm f))):=by
 have g:=q206 (nm:=nm) (f:=f) (zs:=zs) (by omega)
 have hl:=stn_len f zs zs.length
 have G1:=G16900 (.sl 2 (zs.map (plR nm f))) hn
 have G2:=G16901 (.sl 2 ((stn f zs zs.length).map (plR nm f))) hn
 generalize stn f zs zs.length=ys at *
 have ok:=pl_all (nm:=nm) (f:=f) ys
 simp [F169,unitF_eq,t169,G1,g,hl,isNil_sl,G2,ok,s_whole]
theorem q169n:F169 [.nils,ia 0]=some .nils:=by
 have g:=q206n
 have G1:loopG (calO s169) B16900 KK [.nils,ia 0,ia 0,ia 20]=_:=G16900 .nils (n:=0) (by omega)
 have G2:loopG (omL KK s169 [d16902,d16900]) B16901 KK [.nils,ia 0]=_:=G16901 .nils (n:=0) (by omega)
 have z0:(((0:Nat):Int))=0:=rfl
 rw [z0] at G1
 simp [F169,unitF_eq,t169,G1,g,isNil_nils,whole_nils,G2]
theorem q140 {zs:List Int} (hn:zs.length < 20):F140 [.sl 2 (zs.map (plR nm f))]=some (.sl 2 ((stn f zs zs.length).map (plR nm f))):=by
 have g:=q169 (nm:=nm) (f:=f) hn
 have hl:=stn_len f zs zs.length
 generalize stn f zs zs.length=ys at *
 have ok:=pl_all (nm:=nm) (f:=f) ys
 simp [F140,unitF_eq,t140,g,hl,isNil_sl,ok,s_whole]
theorem q140n:F140 [.nils]=some .nils:=by
 have g:=q169n
 simp [F140,unitF_eq,t140,g,isNil_nils,whole_nils]
def mkPl (nm:Int→ByteArray) (f:Int→Int) (zs:List Int):AV:=match zs with | []=>.nils | _=>.sl 2 (zs.map (plR nm f))
theorem mkPl_isL (zs:List Int):IsL 2 (zs.map (plR nm f)) (mkPl nm f zs):=by
 cases zs with
 | nil=>exact .inr ⟨rfl,rfl⟩
 | cons _ _=>exact .inl rfl
theorem mkPl_rows (zs:List Int):(mkPl nm f zs).rowsL=zs.map (plR nm f):=(mkPl_isL zs).rows
theorem mkPl_snoc (zs:List Int) (z:Int):AV.sl 2 (zs.map (plR nm f)++[[.str (nm z),ia (f z)]])=mkPl nm f (zs++[z]):=by
 cases zs with
 | nil=>rfl
 | cons a l=>simp [mkPl,plR]
theorem mkPl_len (zs:List Int):(mkPl nm f zs).lenN=zs.length:=(mkPl_isL zs).lenM
theorem mkPl_ok (zs:List Int):(Sh.sl [.str,.int .i64]).ok (mkPl nm f zs)=true:=(mkPl_isL zs).ok rfl (pl_all zs)
theorem mkPl_app (Ω:Om) (zs:List Int) (z:Int):Pr.sem Ω (.app 2) [mkPl nm f zs,.sl 2 [[.str (nm z),ia (f z)]]]=mkPl nm f (zs++[z]):=by
 rw [s_app,rowsL_sl,mkPl_rows]; exact mkPl_snoc zs z
end
def nmP (rs:List (AV × List Rs)) (z:Int):ByteArray:=((Lr rs 0).getD z.toNat default).nm
def dY (rs:List (AV × List Rs)) (sd:List ByteArray) (a b:ByteArray):Int:=(getJ (nth (decV rs sd a b).tupL 1)).nI
def rkN (d:Nat→Int):Nat→Int
 | 0=>1
 | k+1=>if d k < 0 then rkN d k+1 else rkN d k
theorem rkN_le (d:Nat→Int):∀ k,1≤rkN d k∧rkN d k≤1+k
 | 0=>⟨by simp [rkN],by simp [rkN]⟩
 | k+1=>by
   have:=rkN_le d k
   simp only [rkN]
   split<;>omega
abbrev nP (rs:List (AV × List Rs)):Nat:=(Lr rs 0).length
def rkP (rs:List (AV × List Rs)) (sd:List ByteArray) (z:Int):Int:=rkN (fun k=>dY rs sd (nmP rs k) (nmP rs z)) (nP rs)
structure CtV (rs:List (AV × List Rs)):Prop where
 m:0 < rs.length
 m8:rs.length≤8
 rd:∀ i,i < rs.length→RoundOk (Lr rs i)
 down:∀ i,i+1 < rs.length→∀ s,has (Lr rs (i+1)) s=true→has (Lr rs i) s=true
section
variable {ra sa:AV} {rs:List (AV × List Rs)} {sd:List ByteArray}
theorem decV_y {a b:ByteArray} {x y:Int} (h:decV rs sd a b = .tuple [ia x,ia y]):dY rs sd a b=y:=by unfold dY; rw [h]; rfl
theorem p168 (h:CtOk ra sa rs sd) (v:CtV rs) (a b:ByteArray):F168 [.str a,.str b,ra,sa]=some (ia (dY rs sd a b)):=by
 obtain ⟨x,y,hd⟩:=decV_tup (rs:=rs) (sd:=sd) (a:=a) (b:=b)
 have f:=p82 h v.rd v.m8 a b
 rw [hd] at f
 rw [decV_y hd]
 simp [F168,unitF_eq,t168,f]
theorem nm_l (i:Nat) (hi:i < nP rs):nmP rs i=(Lr rs 0)[i].nm:=by
 unfold nmP
 have:(Lr rs 0).getD ((i:Nat):Int).toNat default=(Lr rs 0)[i]:=by simp [hi]
 rw [this]
theorem has_nm {i:Nat} (hi:i < nP rs):has (Lr rs 0) (nmP rs i)=true:=by
 rw [nm_l i hi]
 rcases fi_cases (Lr rs 0) (Lr rs 0)[i].nm with ⟨_,_,_,h,_⟩ | ⟨_,_,h⟩
 ·exact h
 ·exact absurd rfl (h i hi)
abbrev nsP (rs:List (AV × List Rs)) (k:Nat):List ByteArray:=(iot k).map (nmP rs)
abbrev ksP (rs:List (AV × List Rs)) (sd:List ByteArray) (k:Nat):List Int:=(iot k).map (rkP rs sd)
theorem iot_get {n i:Nat} (hi:i < n):(iot n)[i]? = some (i:Int):=by simp [iot,hi]
theorem nsP_row {k:Nat} (hk:k < nP rs):nth ((nsP rs (nP rs)).map strR) k=some [.str (nmP rs k)]:=by
 rw [nth_eq,List.getElem?_map,List.getElem?_map,iot_get hk]; rfl
theorem ksP_row {k:Nat} (hk:k < nP rs):nth ((ksP rs sd (nP rs)).map intR) k=some [ia (rkP rs sd k)]:=by
 rw [nth_eq,List.getElem?_map,List.getElem?_map,iot_get hk]; rfl
theorem nsP_succ (k:Nat):nsP rs (k+1)=nsP rs k++[nmP rs k]:=by unfold nsP; rw [iot_succ,List.map_append]; rfl
theorem ksP_succ (k:Nat):ksP rs sd (k+1)=ksP rs sd k++[rkP rs sd k]:=by unfold ksP; rw [iot_succ,List.map_append]; rfl
theorem G16701 (h:CtOk ra sa rs sd) (v:CtV rs) {na:AV} (hna:IsL 1 ((nsP rs (nP rs)).map strR) na) (o:AV) (i:Nat) :
  loopG (calO s167) B16701 KK [na,ra,sa,o,.str (nmP rs i),ia 1,ia (nP rs),ia i,ia (nP rs),ia 0]=some (.tuple [ia 1,na,ra,sa,o,ia (rkP rs sd i),ia (nP rs),ia i]):=by
 have hn:nP rs≤160:=(v.rd 0 v.m).n
 refine loopF (fun k=>[na,ra,sa,o,.str (nmP rs i),ia (rkN (fun k=>dY rs sd (nmP rs k) (nmP rs i)) k),ia (nP rs),ia i,ia (nP rs),ia k]) (nP rs) _ (by omega) (fun k hk=>?_) ?_
 ·have hw:=wS (show k < 2097152 by omega)
  have hrow:nth na.rowsL k=some [.str (nmP rs k)]:=by rw [hna.rows]; exact nsP_row hk
  have lN:na.lenN=nP rs:=by rw [hna.lenM,List.length_map,iot_len]
  have f:=p168 h v (nmP rs k) (nmP rs i)
  have b1:=rkN_le (fun k=>dY rs sd (nmP rs k) (nmP rs i)) k
  have hk':(k:Int) < (nP rs:Int):=by omega
  simp only [rkN]
  generalize rkN (fun k=>dY rs sd (nmP rs k) (nmP rs i)) k=c at *
  have wr:IntKind.i64.wrap (c+1)=c+1:=i64w (by omega) (by omega)
  rcases tf_or (dY rs sd (nmP rs k) (nmP rs i) < 0) with e1 | e1<;>simp [B16701,lN,hrow,hk',hk,hw,wr,f,e1]
 ·simp [B16701]; rfl
theorem G16700 (h:CtOk ra sa rs sd) (v:CtV rs) {na:AV} (hna:IsL 1 ((nsP rs (nP rs)).map strR) na) :
  loopG (omL KK s167 [d16701]) B16700 KK [na,ra,sa,.nils,ia (nP rs),ia 0]=some (.tuple [ia 1,mkI (ksP rs sd (nP rs))]):=by
 have hn:nP rs≤160:=(v.rd 0 v.m).n
 refine loopF (fun i=>[na,ra,sa,mkI (ksP rs sd i),ia (nP rs),ia i]) (nP rs) _ (by omega) (fun i hi=>?_) ?_
 ·have hw:=wS (show i < 2097152 by omega)
  have hrow:nth na.rowsL i=some [.str (nmP rs i)]:=by rw [hna.rows]; exact nsP_row hi
  have lN:na.lenN=nP rs:=by rw [hna.lenM,List.length_map,iot_len]
  have G:=G16701 h v hna (mkI (ksP rs sd i)) i
  have hi':(i:Int) < (nP rs:Int):=by omega
  have b2:(ksP rs sd i).length=i:=by rw [List.length_map,iot_len]
  have c1:(((ksP rs sd i).length:Nat):Int)+1≤1073741824:=by omega
  rw [ksP_succ]
  generalize ksP rs sd i=cur at *
  simp [B16700,lN,hrow,hi',hi,hw,G,mkI_rows,mkI_snoc,mkI_len,c1]
 ·simp [B16700]
theorem q167 (h:CtOk ra sa rs sd) (v:CtV rs) {na:AV} (hna:IsL 1 ((nsP rs (nP rs)).map strR) na):F167 [na,ra,sa]=some (mkI (ksP rs sd (nP rs))):=by
 have G:=G16700 h v hna
 have lN:na.lenN=nP rs:=by rw [hna.lenM,List.length_map,iot_len]
 simp [F167,unitF_eq,t167,lN,G]
theorem G13900 {a:AV} (hv:RssOk a (Lr rs 0)) (hn:nP rs≤160) (x y:AV):loopG (calO s139) B13900 KK [.nils,a,ia (nP rs),ia 0,x,y]=some (.tuple [ia 1,mkS (nsP rs (nP rs)),x,y]):=by
 refine loopF (fun i=>[mkS (nsP rs i),a,ia (nP rs),ia i,x,y]) (nP rs) _ (by omega) (fun i hi=>?_) ?_
 ·have hw:=wS (show i < 2097152 by omega)
  have hrow:nth a.rowsL i=some (Rs.row (Lr rs 0)[i]):=hv.is.rowN hi
  have lN:a.lenN=nP rs:=hv.is.lenM
  have hi':(i:Int) < (nP rs:Int):=by omega
  have b2:(nsP rs i).length=i:=by rw [List.length_map,iot_len]
  have c1:(((nsP rs i).length:Nat):Int)+1≤1073741824:=by omega
  have hnm:=nm_l (rs:=rs) i hi
  rw [nsP_succ,hnm]
  simp only [Rs.row] at hrow
  generalize nsP rs i=cur at *
  simp [B13900,lN,hrow,hi',hi,hw,mkS_rows,mkS_snoc,mkS_len,c1]
 ·simp [B13900]
theorem G13901 {na:AV} (hna:IsL 1 ((nsP rs (nP rs)).map strR) na) (hn:nP rs≤160):loopG (omL KK s139 [d13900]) B13901 KK [na,.nils,mkI (ksP rs sd (nP rs)),ia (nP rs),ia 0]=some (.tuple [ia 1,mkPl (nmP rs) (rkP rs sd) (iot (nP rs))]):=by
 refine loopF (fun i=>[na,mkPl (nmP rs) (rkP rs sd) (iot i),mkI (ksP rs sd (nP rs)),ia (nP rs),ia i]) (nP rs) _ (by omega) (fun i hi=>?_) ?_
 ·have hw:=wS (show i < 2097152 by omega)
  have hrow:nth na.rowsL i=some [.str (nmP rs i)]:=by rw [hna.rows]; exact nsP_row hi
  have hk:nth (mkI (ksP rs sd (nP rs))).rowsL i=some [ia (rkP rs sd i)]:=by rw [mkI_rows]; exact ksP_row hi
  have lN:na.lenN=nP rs:=by rw [hna.lenM,List.length_map,iot_len]
  have lK:(mkI (ksP rs sd (nP rs))).lenN=nP rs:=by rw [mkI_len,List.length_map,iot_len]
  have hi':(i:Int) < (nP rs:Int):=by omega
  have b2:=iot_len i
  have c1:(((iot i).length:Nat):Int)+1≤1073741824:=by omega
  have hap:=fun Ω=>mkPl_app (nm:=nmP rs) (f:=rkP rs sd) Ω (iot i) i
  have hl3:(mkPl (nmP rs) (rkP rs sd) (iot i++[(i:Int)])).lenN=i+1:=by rw [mkPl_len,List.length_append,b2]; rfl
  have c3:(i:Int)+1≤1073741824:=by omega
  rw [iot_succ]
  generalize mkPl (nmP rs) (rkP rs sd) (iot i++[(i:Int)])=nx at *
  generalize mkPl (nmP rs) (rkP rs sd) (iot i)=cur at *
  generalize mkI (ksP rs sd (nP rs))=ka at *
  simp [B13901,lN,lK,hrow,hk,hi',hi,hw,hap,hl3,c3, -s_app]
 ·simp [B13901]
theorem q139 (h:CtOk ra sa rs sd) (v:CtV rs):F139 [ra,sa]=some (mkPl (nmP rs) (rkP rs sd) (iot (nP rs))):=by
 obtain ⟨a,hrow,hv⟩:=h.row v.m
 have hn:nP rs≤160:=(v.rd 0 v.m).n
 have G0:=G13900 hv hn ra sa
 have hna:=mkS_isL (nsP rs (nP rs))
 have g:=q167 h v hna
 have G1:=G13901 (sd:=sd) hna hn
 have lN:=h.r.lenM
 have h1':(0:Int) < rs.length:=by have:=v.m; omega
 have lA:a.lenN=nP rs:=hv.is.lenM
 have okI:=mkI_ok (ksP rs sd (nP rs))
 have lK:(mkI (ksP rs sd (nP rs))).lenN=nP rs:=by rw [mkI_len,List.length_map,iot_len]
 generalize mkI (ksP rs sd (nP rs))=ka at *
 generalize mkS (nsP rs (nP rs))=na at *
 have h1:=v.m
 simp [F139,unitF_eq,t139,lN,h1,h1',hrow,lA,G0,g,okI,lK,G1]
theorem q109 (h:CtOk ra sa rs sd) (v:CtV rs) (hn:nP rs < 20):F109 [ra,sa]=some (mkPl (nmP rs) (rkP rs sd) (srt (rkP rs sd) (nP rs))):=by
 have g:=q139 h v
 have ok:=mkPl_ok (nm:=nmP rs) (f:=rkP rs sd) (iot (nP rs))
 rw [← stn_all_srt]
 by_cases e:nP rs=0
 ·have e1:mkPl (nmP rs) (rkP rs sd) (iot 0) = .nils:=rfl
  have e2:mkPl (nmP rs) (rkP rs sd) (stn (rkP rs sd) (iot 0) 0) = .nils:=rfl
  rw [e,e1] at g; rw [e,e2]
  have q:=q140n
  simp [F109,unitF_eq,t109,g,q,isNil_nils,whole_nils]
 ·have hl:=iot_len (nP rs)
  have q:=q140 (nm:=nmP rs) (f:=rkP rs sd) (zs:=iot (nP rs)) (by omega)
  rw [hl] at q
  have hs:∀ {l:List Int},l.length=nP rs→mkPl (nmP rs) (rkP rs sd) l = .sl 2 (l.map (plR (nmP rs) (rkP rs sd))):=fun {l} hl=>by
   cases l with
   | nil=>simp at hl; omega
   | cons _ _=>rfl
  have hy:(stn (rkP rs sd) (iot (nP rs)) (nP rs)).length=nP rs:=by rw [stn_len,hl]
  rw [hs hl] at g ok
  rw [hs hy]
  generalize stn (rkP rs sd) (iot (nP rs)) (nP rs)=ys at *
  have ok2:=pl_all (nm:=nmP rs) (f:=rkP rs sd) ys
  have okx:=pl_all (nm:=nmP rs) (f:=rkP rs sd) (iot (nP rs))
  simp [F109,unitF_eq,t109,g,q,hl,hy,isNil_sl,okx,ok2,s_whole]
theorem cmpI_self (x:Int):cmpI x x=0:=by unfold cmpI; simp
theorem cmpL_self':∀ l:List Int,cmpL l l=0
 | []=>rfl
 | a::l=>by simp only [cmpL]; simp [cmpL_self' l]
theorem cmpR_self' (r:Rs):cmpR r r=0:=by unfold cmpR; rw [cmpI_self,if_neg (by simp),cmpL_self']
theorem dY_self (a:ByteArray):dY rs sd a a=0:=by
 have h1:∀ i,dI (Lr rs i) a a=0:=fun i=>by rw [dI_has]; simp
 have h2:∀ i,tellI (Lr rs i) a a=0:=fun i=>by unfold tellI; split; exact cmpR_self' _; rfl
 have hu:∀ n,upO (fun i=>dI (Lr rs i) a a) 0 n=none:=fun n=>by
  unfold upO; rw [List.find?_eq_none]; intro k _; simp [h1]
 have hd:∀ n,dnO (fun i=>tellI (Lr rs i) a a) n=none:=fun n=>by
  induction n with
  | zero=>rfl
  | succ n ih=>rw [dnO,if_neg (by simp [h2])]; exact ih
 have:decV rs sd a a = .tuple [ia (-1),ia 0]:=by
  unfold decV endV
  rw [hu,hd]
  have hz:zI sd a a=0:=cmpI_self _
  simp only [pick,hz,if_true]
 exact decV_y this
def rowQ (f:Int→Int) (p:Int) (j:Nat):List Int:=(iot j).filter fun y=>decide (f y=p)
end
def mkG (gs:List (List ByteArray)):AV:=match gs with | []=>.nils | _=>.sl 1 (gs.map fun g=>[mkS g])
theorem mkG_isL (gs:List (List ByteArray)):IsL 1 (gs.map fun g=>[mkS g]) (mkG gs):=by
 cases gs with
 | nil=>exact .inr ⟨rfl,rfl⟩
 | cons _ _=>exact .inl rfl
theorem mkG_app (Ω:Om) (gs:List (List ByteArray)) (g:List ByteArray):Pr.sem Ω (.app 1) [mkG gs,.sl 1 [[mkS g]]]=mkG (gs++[g]):=by
 rw [s_app,rowsL_sl,(mkG_isL gs).rows]
 cases gs with
 | nil=>rfl
 | cons a l=>simp [mkG]
theorem mkG_len (gs:List (List ByteArray)):(mkG gs).lenN=gs.length:=(mkG_isL gs).lenM
theorem mkG_ok (gs:List (List ByteArray)):(Sh.sl [.sl [.str]]).ok (mkG gs)=true:=(mkG_isL gs).ok rfl (by
 rw [List.all_eq_true]
 intro x hx
 obtain ⟨g,_,rfl⟩:=List.mem_map.1 hx
 simp [mkS_ok g])
theorem mkS_app (Ω:Om) (ns:List ByteArray) (s:ByteArray):Pr.sem Ω (.app 1) [mkS ns,.sl 1 [[.str s]]]=mkS (ns++[s]):=by
 rw [s_app,rowsL_sl,mkS_rows]; exact mkS_snoc ns s
theorem tw_spec (q:Int→Bool):∀ l:List Int,l.takeWhile q=l.take (l.takeWhile q).length∧(l.takeWhile q).length≤l.length∧(∀ j,j < (l.takeWhile q).length→q (l.getD j 0)=true)∧((l.takeWhile q).length < l.length→q (l.getD (l.takeWhile q).length 0)=false)
 | []=>⟨rfl,Nat.le_refl _,fun j h=>absurd h (Nat.not_lt_zero _),fun h=>absurd h (Nat.not_lt_zero _)⟩
 | a::l=>by
   obtain ⟨h1,h2,h3,h4⟩:=tw_spec q l
   cases e:q a with
   | true =>
     rw [List.takeWhile_cons_of_pos e]
     refine ⟨?_,?_,fun j hj=>?_,fun hl=>?_⟩
     ·rw [List.length_cons,List.take_succ_cons,← h1]
     ·simp only [List.length_cons]; omega
     ·cases j with
      | zero=>exact e
      | succ j=>exact h3 j (by simp only [List.length_cons] at hj; omega)
     ·simp only [List.length_cons] at hl ⊢
      exact h4 (by omega)
   | false =>
     rw [List.takeWhile_cons_of_neg (by simp [e])]
     exact ⟨rfl,Nat.zero_le _,fun j h=>absurd h (Nat.not_lt_zero _),fun _=>e⟩
section
variable {nm:Int→ByteArray} {f:Int→Int}
def sg (f:Int→Int) (zs:List Int) (i:Nat):List Int:=(zs.drop i).takeWhile fun z=>decide (f z=f (zs.getD i 0))
theorem sg_spec {zs:List Int} {i:Nat} (hi:i < zs.length):1≤(sg f zs i).length∧i+(sg f zs i).length≤zs.length∧(∀ j,j < (sg f zs i).length→f (zs.getD (i+j) 0)=f (zs.getD i 0)) ∧
  (i+(sg f zs i).length < zs.length→f (zs.getD (i+(sg f zs i).length) 0) ≠ f (zs.getD i 0))∧sg f zs i=(zs.drop i).take (sg f zs i).length:=by
 obtain ⟨h1,h2,h3,h4⟩:=tw_spec (fun z=>decide (f z=f (zs.getD i 0))) (zs.drop i)
 have hg:∀ j,(zs.drop i).getD j 0=zs.getD (i+j) 0:=fun j=>by simp [List.getD_eq_getElem?_getD]
 simp only [hg,decide_eq_true_eq,decide_eq_false_iff_not,List.length_drop] at h2 h3 h4
 refine ⟨?_,by show i+((zs.drop i).takeWhile _).length≤_; omega,h3,fun h=>h4 (by show ((zs.drop i).takeWhile _).length < _; unfold sg at h; omega),h1⟩
 rcases Nat.eq_zero_or_pos (sg f zs i).length with e | e
 ·have h5:=h4 (by show (sg f zs i).length < _; rw [e]; omega)
  have e':(List.takeWhile (fun z=>decide (f z=f (zs.getD i 0))) (zs.drop i)).length=0:=e
  rw [e'] at h5
  exact absurd rfl h5
 ·exact e
theorem take_sg {zs:List Int} {i j:Nat} (hj:i+j < zs.length):(zs.drop i).take (j+1)=(zs.drop i).take j++[zs.getD (i+j) 0]:=by
 have h:j < (zs.drop i).length:=by rw [List.length_drop]; omega
 rw [List.take_add_one,List.getElem?_eq_getElem h]
 simp [List.getD_eq_getElem?_getD,hj]
theorem pl_row {zs:List Int} {pl:AV} (h:IsL 2 (zs.map (plR nm f)) pl) {k:Nat} (hk:k < zs.length):nth pl.rowsL k=some [.str (nm (zs.getD k 0)),ia (f (zs.getD k 0))]:=by
 rw [h.rows]; exact nth_pl hk
theorem G5901 {Ω:Om} {zs:List Int} {pl:AV} (h:IsL 2 (zs.map (plR nm f)) pl) (hn:zs.length < 1000) (o:AV) {i:Nat} (hi:i < zs.length) :
  loopG Ω B5901 KK [o,pl,ia i,ia i,.nils]=some (.tuple [ia 1,o,pl,ia ((i+(sg f zs i).length:Nat):Int),mkS ((sg f zs i).map nm)]):=by
 obtain ⟨s1,s2,s3,s4,s5⟩:=sg_spec (f:=f) hi
 have lN:=h.lenM
 have hrowi:=pl_row h hi
 have hi':(i:Int) < zs.length:=by omega
 have hfin:mkS ((sg f zs i).map nm)=mkS (((zs.drop i).take (sg f zs i).length).map nm):=by rw [← s5]
 rw [hfin]
 generalize (sg f zs i).length=m at *
 refine loopF (fun j=>[o,pl,ia i,ia ((i+j:Nat):Int),mkS (((zs.drop i).take j).map nm)]) m _ (by omega) (fun j hj=>?_) ?_
 ·have hk:i+j < zs.length:=by omega
  have hrow:=pl_row h hk
  have hw:=wS (i:=i+j) (by omega)
  have e:=s3 j hj
  have hl:((((zs.drop i).take j).map nm).length:Nat)≤1000:=by rw [List.length_map,List.length_take,List.length_drop]; omega
  have hap:=fun Ω=>mkS_app Ω (((zs.drop i).take j).map nm) (nm (zs.getD (i+j) 0))
  have hl3:(((mkS (((zs.drop i).take j).map nm++[nm (zs.getD (i+j) 0)])).lenN:Nat):Int)≤1073741824:=by rw [mkS_len,List.length_append]; simp only [List.length_cons,List.length_nil]; omega
  rw [take_sg hk,List.map_append]
  show stepG Ω _ B5901=some (.inl [o,pl,ia i,ia ((i+(j+1):Nat):Int),mkS (((zs.drop i).take j).map nm++[nm (zs.getD (i+j) 0)])])
  generalize mkS (((zs.drop i).take j).map nm++[nm (zs.getD (i+j) 0)])=nx at *
  generalize mkS (((zs.drop i).take j).map nm)=cur at *
  rw [e] at hrow
  generalize zs.getD (i+j) 0=z at *
  generalize zs.getD i 0=y at *
  have hk':((i+j:Nat):Int) < zs.length:=by omega
  have hk0:0≤((i+j:Nat):Int):=by omega
  have hkt:Int.toNat ((i+j:Nat):Int)=i+j:=by omega
  have hw':IntKind.i64.wrap (((i+j:Nat):Int)+1)=((i+(j+1):Nat):Int):=hw
  generalize ((i+j:Nat):Int)=kk at *
  simp [B5901,lN,hrow,hrowi,hk',hk0,hkt,hi',hi,hw',hap,hl3, -s_app]
 ·rcases Nat.lt_or_ge (i+m) zs.length with hlt | hge
  ·have hrow:=pl_row h hlt
   have e:=s4 hlt
   generalize zs.getD (i+m) 0=z at *
   generalize zs.getD i 0=y at *
   have hk':((i+m:Nat):Int) < zs.length:=by omega
   have hk0:0≤((i+m:Nat):Int):=by omega
   have hkt:Int.toNat ((i+m:Nat):Int)=i+m:=by omega
   generalize ((i+m:Nat):Int)=kk at *
   simp [B5901,lN,hrow,hrowi,hk',hk0,hkt,hi',hi,e]
  ·have hk':¬ (((i+m:Nat):Int) < zs.length):=by omega
   generalize ((i+m:Nat):Int)=kk at *
   simp [B5901,lN,hk']
def gps (nm:Int→ByteArray) (f:Int→Int) (zs:List Int):Nat→Nat→List (List ByteArray)
 | 0,_=>[]
 | k+1,i=>if i < zs.length then (if 1 < (sg f zs i).length then [(sg f zs i).map nm] else [])++gps nm f zs k (i+(sg f zs i).length) else []
theorem gps_len (zs:List Int):∀ k i,(gps nm f zs k i).length≤k
 | 0,i=>by simp [gps]
 | k+1,i=>by
   have:=gps_len zs k (i+(sg f zs i).length)
   simp only [gps]
   split
   ·rw [List.length_append]; split<;>simp<;>omega
   ·simp
theorem G5900 {zs:List Int} {pl:AV} (h:IsL 2 (zs.map (plR nm f)) pl) (hn:zs.length < 1000):∀ (k i K:Nat) (acc:List (List ByteArray)),zs.length≤k+i→i≤zs.length→k < K→acc.length+k≤1000 →
  loopG (omL KK s59 [d5901]) B5900 K [mkG acc,pl,ia i]=some (.tuple [ia 1,mkG (acc++gps nm f zs k i)])
 | k,i,0,acc,h1,h2,h3,h4=>by omega
 | 0,i,K+1,acc,h1,h2,h3,h4=>by
   have lN:=h.lenM
   have:¬ ((i:Int) < zs.length):=by omega
   refine loopG_out ?_
   simp [B5900,lN,this,gps]
 | k+1,i,K+1,acc,h1,h2,h3,h4=>by
   have lN:=h.lenM
   rcases Nat.lt_or_ge i zs.length with hi | hi
   ·have G:=G5901 (Ω:=calO s59) h hn (mkG acc) hi
    obtain ⟨s1,s2,_⟩:=sg_spec (f:=f) hi
    have hi':(i:Int) < zs.length:=by omega
    have hln:(mkS ((sg f zs i).map nm)).lenN=(sg f zs i).length:=by rw [mkS_len,List.length_map]
    simp only [gps,if_pos hi]
    by_cases hc:1 < (sg f zs i).length
    ·have ih:=G5900 h hn k (i+(sg f zs i).length) K (acc++[(sg f zs i).map nm]) (by omega) (by omega) (by omega) (by rw [List.length_append]; simp only [List.length_cons,List.length_nil]; omega)
     have hap:=fun Ω=>mkG_app Ω acc ((sg f zs i).map nm)
     have hl3:(((mkG (acc++[(sg f zs i).map nm])).lenN:Nat):Int)≤1073741824:=by rw [mkG_len,List.length_append]; simp only [List.length_cons,List.length_nil]; omega
     rw [if_pos hc,← List.append_assoc,← ih]
     refine loopG_again ?_
     have hc':(1:Int) < ((sg f zs i).length:Nat):=by omega
     generalize mkG (acc++[(sg f zs i).map nm])=nx at *
     generalize mkG acc=cur at *
     generalize mkS ((sg f zs i).map nm)=g at *
     generalize ((i+(sg f zs i).length:Nat):Int)=jj at *
     generalize (sg f zs i).length=m at *
     simp [B5900,lN,hi',hi,G,hln,hc',hc,hap,hl3, -s_app]
    ·have ih:=G5900 h hn k (i+(sg f zs i).length) K acc (by omega) (by omega) (by omega) (by omega)
     rw [if_neg hc,List.nil_append,← ih]
     refine loopG_again ?_
     have hc':¬ ((1:Int) < ((sg f zs i).length:Nat)):=by omega
     generalize mkG acc=cur at *
     generalize mkS ((sg f zs i).map nm)=g at *
     generalize ((i+(sg f zs i).length:Nat):Int)=jj at *
     generalize (sg f zs i).length=m at *
     simp [B5900,lN,hi',hi,G,hln,hc',hc]
   ·have:¬ ((i:Int) < zs.length):=by omega
    refine loopG_out ?_
    have h0:gps nm f zs (k+1) i=[]:=by simp only [gps]; rw [if_neg (by omega)]
    rw [h0]
    simp [B5900,lN,this]
end
section
variable {ra sa:AV} {rs:List (AV × List Rs)} {sd:List ByteArray}
def pkP (rs:List (AV × List Rs)) (sd:List ByteArray):AV:=mkPl (nmP rs) (rkP rs sd) (srt (rkP rs sd) (nP rs))
def gkP (rs:List (AV × List Rs)) (sd:List ByteArray):List (List ByteArray):=gps (nmP rs) (rkP rs sd) (srt (rkP rs sd) (nP rs)) (nP rs) 0
theorem ctv (h:ckC rs sd=0):CtV rs:=by
 obtain ⟨h1,h2,h3,h4⟩:=ckC0 h
 exact ⟨h1,h2,h3,h4⟩
theorem p58 (h:CtOk ra sa rs sd) (hn:nP rs < 20):F58 [ra,sa]=some (if ckC rs sd=0 then .tuple [pkP rs sd,ia 0] else .tuple [.nils,ia (ckC rs sd)]):=by
 have f60:=p60 h
 by_cases hc:ckC rs sd=0
 ·have g:=q109 h (ctv hc) hn
  have ok:=mkPl_ok (nm:=nmP rs) (f:=rkP rs sd) (srt (rkP rs sd) (nP rs))
  rw [if_pos hc]
  rw [hc] at f60
  show _=some (AV.tuple [mkPl (nmP rs) (rkP rs sd) (srt (rkP rs sd) (nP rs)),ia 0])
  generalize mkPl (nmP rs) (rkP rs sd) (srt (rkP rs sd) (nP rs))=pl at *
  simp [F58,unitF_eq,t58,f60,g,ok]
 ·rw [if_neg hc]
  generalize ckC rs sd=e at *
  simp [F58,unitF_eq,t58,f60,hc]
theorem p59 (h:CtOk ra sa rs sd) (hn:nP rs < 20):F59 [ra,sa]=some (if ckC rs sd=0 then .tuple [mkG (gkP rs sd),ia 0] else .tuple [.nils,ia (ckC rs sd)]):=by
 have f60:=p60 h
 by_cases hc:ckC rs sd=0
 ·have g:=q109 h (ctv hc) hn
  have ok:=mkPl_ok (nm:=nmP rs) (f:=rkP rs sd) (srt (rkP rs sd) (nP rs))
  have hl:=srt_len (rkP rs sd) (nP rs)
  have G:=G5900 (mkPl_isL (nm:=nmP rs) (f:=rkP rs sd) (srt (rkP rs sd) (nP rs))) (by omega) (nP rs) 0 KK [] (by omega) (by omega) (by rw [KK_eq]; omega) (by simp; omega)
  have e0:mkG [] = .nils:=rfl
  rw [e0,List.nil_append] at G
  rw [if_pos hc]
  rw [hc] at f60
  generalize mkPl (nmP rs) (rkP rs sd) (srt (rkP rs sd) (nP rs))=pl at *
  have okG:=mkG_ok (gkP rs sd)
  have G:loopG (omL KK s59 [d5901]) B5900 KK [.nils,pl,ia 0]=some (.tuple [ia 1,mkG (gkP rs sd)]):=G
  generalize mkG (gkP rs sd)=gg at *
  simp [F59,unitF_eq,t59,f60,g,ok,G,okG]
 ·rw [if_neg hc]
  generalize ckC rs sd=e at *
  simp [F59,unitF_eq,t59,f60,hc]
theorem nmP_cp:nmP (cpC rs)=nmP rs:=by
 funext z; unfold nmP; rw [Lr_cp,(getD_cp (Lr rs 0) z.toNat).1]
theorem nP_cp:nP (cpC rs)=nP rs:=by unfold nP; rw [Lr_cp,List.length_map]
theorem rkP_cp:rkP (cpC rs) sd=rkP rs sd:=by
 funext z; unfold rkP dY; rw [nP_cp,nmP_cp]; simp only [decV_cp]
end
structure TP {α:Type} (c:α→α→Int):Prop where
 anti:∀ a b,c b a = - c a b
 tr:∀ a b d,c a b≤0→c b d≤0→c a d≤0
theorem TP.lt {α:Type} {c:α→α→Int} (h:TP c) {a b d:α} (h1:c a b < 0) (h2:c b d≤0):c a d < 0:=by
 have e1:=h.anti a b
 have e2:=h.anti a d
 rcases Int.lt_or_le (c a d) 0 with q | q
 ·exact q
 ·have:=h.tr b d a h2 (by omega); omega
theorem TP.lt' {α:Type} {c:α→α→Int} (h:TP c) {a b d:α} (h1:c a b≤0) (h2:c b d < 0):c a d < 0:=by
 have e1:=h.anti b d
 have e2:=h.anti a d
 rcases Int.lt_or_le (c a d) 0 with q | q
 ·exact q
 ·have:=h.tr d a b (by omega) h1; omega
theorem TP.eq {α:Type} {c:α→α→Int} (h:TP c) {a b d:α} (h1:c a b=0) (h2:c b d=0):c a d=0:=by
 have e1:=h.anti a b
 have e2:=h.anti b d
 have e3:=h.anti a d
 have e4:=h.tr a b d (by omega) (by omega)
 have e5:=h.tr d b a (by omega) (by omega)
 omega
def lexL {α:Type}:List (α→α→Int)→α→α→Int
 | [],_,_=>0
 | c::cs,a,b=>if c a b ≠ 0 then c a b else lexL cs a b
theorem lexL_tp {α:Type}:∀ {cs:List (α→α→Int)},(∀ c∈cs,TP c)→TP (lexL cs)
 | [],_=>⟨fun a b=>rfl,fun a b d _ _=>Int.le_refl _⟩
 | c::cs,h=>by
   have hc:=h c List.mem_cons_self
   have ih:=lexL_tp (cs:=cs) fun c' hc'=>h c' (List.mem_cons_of_mem _ hc')
   refine ⟨fun a b=>?_,fun a b d h1 h2=>?_⟩
   ·have e1:=hc.anti a b
    have e2:=ih.anti a b
    simp only [lexL]
    split<;>split<;>omega
   ·have t1:=hc.tr a b d
    have t2:=@TP.lt _ _ hc a b d
    have t3:=@TP.lt' _ _ hc a b d
    have t4:=@TP.eq _ _ hc a b d
    have t5:=ih.tr a b d
    simp only [lexL] at h1 h2 ⊢
    split at h1<;>split at h2<;>split<;>first | omega | skip
theorem lexL_app {α:Type} (a b:α):∀ (cs ds:List (α→α→Int)),lexL (cs++ds) a b=if lexL cs a b ≠ 0 then lexL cs a b else lexL ds a b
 | [],ds=>by simp [lexL]
 | c::cs,ds=>by
   have ih:=lexL_app a b cs ds
   simp only [List.cons_append,lexL]
   by_cases e:c a b=0
   ·simp only [e,ne_eq,not_true_eq_false,if_false]; exact ih
   ·simp [e]
theorem cmpI_tp:TP cmpI:=by
 refine ⟨fun a b=>?_,fun a b d h1 h2=>?_⟩
 ·unfold cmpI; split<;>split<;>(try split)<;>(try split)<;>omega
 ·unfold cmpI at *
  split at h1<;>split at h2<;>split<;>(try split at h1)<;>(try split at h2)<;>(try split)<;>omega
theorem cmpL_anti:∀ xs ys:List Int,cmpL ys xs = - cmpL xs ys
 | [],[]=>rfl
 | [],_::_=>rfl
 | _::_,[]=>rfl
 | x::xs,y::ys=>by
   have:=cmpL_anti xs ys
   have e2:=cmpI_tp.anti x y
   simp only [cmpL]
   by_cases e:x=y
   ·rw [if_pos e,if_pos e.symm]; exact this
   ·rw [if_neg e,if_neg (Ne.symm e)]; exact e2
theorem cmpI_sgn (x y:Int):(cmpI x y≤0↔x≤y):=by unfold cmpI; split<;>(try split)<;>omega
theorem cmpL_tr:∀ xs ys zs:List Int,xs.length=ys.length→ys.length=zs.length→cmpL xs ys≤0→cmpL ys zs≤0→cmpL xs zs≤0
 | [],_,zs,_,_,_,_=>by cases zs<;>exact Int.le_refl _
 | x::xs,[],_,h,_,_,_=>by simp at h
 | x::xs,y::ys,[],_,h,_,_=>by simp at h
 | x::xs,y::ys,z::zs,h1,h2,h3,h4=>by
   have ih:=cmpL_tr xs ys zs (by simpa using h1) (by simpa using h2)
   have s1:=cmpI_sgn x y
   have s2:=cmpI_sgn y z
   have s3:=cmpI_sgn x z
   simp only [cmpL] at h3 h4 ⊢
   by_cases e1:x=y<;>by_cases e2:y=z
   ·rw [if_pos e1] at h3; rw [if_pos e2] at h4; rw [if_pos (e1.trans e2)]; exact ih h3 h4
   ·subst e1; rw [if_neg e2] at h4; rw [if_neg e2]; exact h4
   ·subst e2; rw [if_neg e1] at h3; rw [if_neg e1]; exact h3
   ·rw [if_neg e1] at h3; rw [if_neg e2] at h4
    rw [if_neg (by omega)]; omega
theorem cmpR_anti (a b:Rs):cmpR b a = - cmpR a b:=by
 have e1:=cmpI_tp.anti (gradeI a.st) (gradeI b.st)
 have e2:=cmpL_anti b.xs a.xs
 unfold cmpR
 split<;>split<;>omega
theorem cmpR_tr {a b d:Rs} (h1:gradeI a.st=gradeI b.st→a.xs.length=b.xs.length) (h2:gradeI b.st=gradeI d.st→b.xs.length=d.xs.length) (h3:cmpR a b≤0) (h4:cmpR b d≤0):cmpR a d≤0:=by
 have t1:=cmpI_tp.tr (gradeI a.st) (gradeI b.st) (gradeI d.st)
 have t2:=@TP.lt _ _ cmpI_tp (gradeI a.st) (gradeI b.st) (gradeI d.st)
 have t3:=@TP.lt' _ _ cmpI_tp (gradeI a.st) (gradeI b.st) (gradeI d.st)
 have t4:=@TP.eq _ _ cmpI_tp (gradeI a.st) (gradeI b.st) (gradeI d.st)
 unfold cmpR at *
 split at h3<;>split at h4<;>split
 ·omega
 ·omega
 ·omega
 ·omega
 ·omega
 ·omega
 ·omega
 ·rename_i e1 e2 e3
  have q1:=cmpI_0.1 (Decidable.not_not.1 e1)
  have q2:=cmpI_0.1 (Decidable.not_not.1 e2)
  exact cmpL_tr d.xs b.xs a.xs (h2 q2).symm (h1 q1).symm h4 h3
def tX (l:List Rs) (a b:ByteArray):Int:=if has l a&&has l b then cmpR (atR l a) (atR l b) else dI l a b
theorem dI_tp (l:List Rs):TP (dI l):=⟨fun a b=>by unfold dI; omega,fun a b d h1 h2=>by unfold dI at *; omega⟩
theorem tX_tp {l:List Rs} (hr:RoundOk l):TP (tX l):=by
 have hl:∀ a b,has l a=true→has l b=true→gradeI (atR l a).st=gradeI (atR l b).st→(atR l a).xs.length=(atR l b).xs.length:=by
  intro a b h1 h2 hg
  obtain ⟨i,hi,e1,_⟩:=has_mem h1
  obtain ⟨k,hk,e2,_⟩:=has_mem h2
  rw [e1,e2] at hg ⊢
  exact hr.lens hi hk hg.symm
 refine ⟨fun a b=>?_,fun a b d h1 h2=>?_⟩
 ·have e1:=cmpR_anti (atR l a) (atR l b)
  have e2:=(dI_tp l).anti a b
  unfold tX
  rw [Bool.and_comm]
  split<;>omega
 ·unfold tX at *
  have q:=fun s=>dI_has l s
  cases e1:has l a<;>cases e2:has l b<;>cases e3:has l d<;>simp only [q,e1,e2,e3,Bool.and_true,Bool.and_false,Bool.true_and,Bool.false_and,if_true,if_false,Bool.false_eq_true] at h1 h2 ⊢<;>first
   | exact cmpR_tr (hl a b e1 e2) (hl b d e2 e3) h1 h2
   | (simp at h1 h2 ⊢; done)
   | (simp at h1; done)
   | (simp at h2; done)
   | skip
section
variable {rs:List (AV × List Rs)} {sd:List ByteArray} {a b:ByteArray}
def aX (rs:List (AV × List Rs)) (sd:List ByteArray) (a b:ByteArray):Int:=(getJ (nth (decV rs sd a b).tupL 0)).nI
theorem upO_lt {d:Nat→Int} {n k:Nat} (h:upO d 0 n=some k):k < n∧d k ≠ 0:=by
 unfold upO at h
 have h1:=List.find?_some h
 have h2:=List.mem_of_find?_eq_some h
 rw [List.mem_range'_1] at h2
 exact ⟨by omega,by simpa using h1⟩
theorem dnO_lt {t:Nat→Int}:∀ {n k:Nat},dnO t n=some k→k < n∧t k ≠ 0
 | n+1,k,h=>by
   simp only [dnO] at h
   split at h
   ·rename_i hne; injection h with h; subst h; exact ⟨Nat.lt_succ_self _,hne⟩
   ·have:=dnO_lt h; exact ⟨by omega,this.2⟩
theorem dec_cases (rs:List (AV × List Rs)) (sd:List ByteArray) (a b:ByteArray) :
  (∃ k,k < rs.length∧upO (fun i=>dI (Lr rs i) a b) 0 rs.length=some k∧decV rs sd a b = .tuple [ia k,ia (dI (Lr rs k) a b)]∧dI (Lr rs k) a b ≠ 0) ∨
  (upO (fun i=>dI (Lr rs i) a b) 0 rs.length=none∧∃ k,k < rs.length∧dnO (fun i=>tellI (Lr rs i) a b) rs.length=some k∧decV rs sd a b = .tuple [ia k,ia (tellI (Lr rs k) a b)]∧tellI (Lr rs k) a b ≠ 0) ∨
  (upO (fun i=>dI (Lr rs i) a b) 0 rs.length=none∧dnO (fun i=>tellI (Lr rs i) a b) rs.length=none∧zI sd a b ≠ 0∧decV rs sd a b = .tuple [ia rs.length,ia (zI sd a b)]) ∨
  (upO (fun i=>dI (Lr rs i) a b) 0 rs.length=none∧dnO (fun i=>tellI (Lr rs i) a b) rs.length=none∧zI sd a b=0∧decV rs sd a b = .tuple [ia (-1),ia 0]):=by
 cases hu:upO (fun i=>dI (Lr rs i) a b) 0 rs.length with
 | some k =>
   obtain ⟨h1,h2⟩:=upO_lt hu
   exact .inl ⟨k,h1,rfl,by unfold decV; rw [hu]; rfl,h2⟩
 | none =>
   refine .inr ?_
   cases hd:dnO (fun i=>tellI (Lr rs i) a b) rs.length with
   | some k =>
     obtain ⟨h1,h2⟩:=dnO_lt hd
     exact .inl ⟨rfl,k,h1,rfl,by unfold decV; rw [hu,hd]; rfl,h2⟩
   | none =>
     refine .inr ?_
     by_cases hz:zI sd a b=0
     ·exact .inr ⟨rfl,rfl,hz,by unfold decV endV; rw [hu,hd,if_pos hz]; rfl⟩
     ·exact .inl ⟨rfl,rfl,hz,by unfold decV endV; rw [hu,hd,if_neg hz]; rfl⟩
theorem tellI_anti (l:List Rs) (a b:ByteArray):tellI l b a = - tellI l a b:=by
 have:=cmpR_anti (atR l a) (atR l b)
 unfold tellI
 rw [Bool.and_comm]
 split<;>omega
theorem zI_tp (sd:List ByteArray):TP fun a b=>zI sd a b:=⟨fun a b=>cmpI_tp.anti _ _,fun a b d=>cmpI_tp.tr _ _ _⟩
theorem upO_neg (d:Nat→Int) (n:Nat):upO (fun i => - d i) 0 n=upO d 0 n:=by
 unfold upO
 congr 1
 funext k
 rw [Bool.eq_iff_iff]; simp
theorem dnO_neg (t:Nat→Int):∀ n,dnO (fun i => - t i) n=dnO t n
 | 0=>rfl
 | n+1=>by
   have:=dnO_neg t n
   simp only [dnO]
   by_cases e:t n=0
   ·rw [if_neg (by simp [e]),if_neg (by simp [e])]; exact this
   ·rw [if_pos (by simpa using e),if_pos e]
theorem dec_ax {x y:Int} (h:decV rs sd a b = .tuple [ia x,ia y]):aX rs sd a b=x∧dY rs sd a b=y:=⟨by unfold aX; rw [h]; rfl,decV_y h⟩
theorem dec_facts (rs:List (AV × List Rs)) (sd:List ByteArray) (a b:ByteArray):aX rs sd b a=aX rs sd a b∧(dY rs sd a b=0↔aX rs sd a b = -1)∧aX rs sd a b≤rs.length∧decV rs sd a b = .tuple [ia (aX rs sd a b),ia (dY rs sd a b)]:=by
 have hu':upO (fun i=>dI (Lr rs i) b a) 0 rs.length=upO (fun i=>dI (Lr rs i) a b) 0 rs.length:=by
  rw [← upO_neg]; congr 1; funext i; have:=(dI_tp (Lr rs i)).anti a b; omega
 have hd':dnO (fun i=>tellI (Lr rs i) b a) rs.length=dnO (fun i=>tellI (Lr rs i) a b) rs.length:=by
  rw [← dnO_neg]; congr 1; funext i; have:=tellI_anti (Lr rs i) a b; omega
 have hz':zI sd b a = - zI sd a b:=(zI_tp sd).anti a b
 rcases dec_cases rs sd a b with ⟨k,hk,hu,hd,hne⟩ | ⟨hu,k,hk,hn,hd,hne⟩ | ⟨hu,hn,hz,hd⟩ | ⟨hu,hn,hz,hd⟩
 ·obtain ⟨e1,e2⟩:=dec_ax hd
  have e3:decV rs sd b a = .tuple [ia k,ia (dI (Lr rs k) b a)]:=by unfold decV; rw [hu',hu]; rfl
  rw [(dec_ax e3).1,e1,e2]
  exact ⟨rfl,⟨fun h=>absurd h hne,fun h=>by omega⟩,by omega,hd⟩
 ·obtain ⟨e1,e2⟩:=dec_ax hd
  have e3:decV rs sd b a = .tuple [ia k,ia (tellI (Lr rs k) b a)]:=by unfold decV; rw [hu',hu,hd',hn]; rfl
  rw [(dec_ax e3).1,e1,e2]
  exact ⟨rfl,⟨fun h=>absurd h hne,fun h=>by omega⟩,by omega,hd⟩
 ·obtain ⟨e1,e2⟩:=dec_ax hd
  have e3:decV rs sd b a = .tuple [ia rs.length,ia (zI sd b a)]:=by unfold decV endV; rw [hu',hu,hd',hn,if_neg (by omega)]; rfl
  rw [(dec_ax e3).1,e1,e2]
  exact ⟨rfl,⟨fun h=>absurd h hz,fun h=>by omega⟩,by omega,hd⟩
 ·obtain ⟨e1,e2⟩:=dec_ax hd
  have e3:decV rs sd b a = .tuple [ia (-1),ia 0]:=by unfold decV endV; rw [hu',hu,hd',hn,if_pos (by omega)]; rfl
  rw [(dec_ax e3).1,e1,e2]
  exact ⟨rfl,⟨fun _=>rfl,fun _=>rfl⟩,by omega,hd⟩
def dnL {α:Type} (C:Nat→α→α→Int):Nat→List (α→α→Int)
 | 0=>[]
 | n+1=>C n::dnL C n
theorem lexL_up {α:Type} (C:Nat→α→α→Int) (a b:α):∀ L:List Nat,lexL (L.map C) a b=match L.find? (fun k=>decide (C k a b ≠ 0)) with | some k=>C k a b | none=>0
 | []=>rfl
 | k::L=>by
   have ih:=lexL_up C a b L
   simp only [List.map_cons,lexL,List.find?_cons]
   by_cases e:C k a b=0
   ·rw [if_neg (by simp [e])]; simp only [e,ne_eq,not_true_eq_false,decide_false]; exact ih
   ·rw [if_pos e]; simp only [ne_eq,e,not_false_eq_true,decide_true]
theorem lexL_dn {α:Type} (C:Nat→α→α→Int) (a b:α):∀ n:Nat,lexL (dnL C n) a b=match dnO (fun i=>C i a b) n with | some k=>C k a b | none=>0
 | 0=>rfl
 | n+1=>by
   have ih:=lexL_dn C a b n
   simp only [dnL,lexL,dnO]
   by_cases e:C n a b=0
   ·rw [if_neg (by simp [e]),if_neg (by simp [e])]; exact ih
   ·rw [if_pos e,if_pos e]
theorem dnO_congr {t u:Nat→Int}:∀ {n:Nat},(∀ i,i < n→t i=u i)→dnO t n=dnO u n
 | 0,_=>rfl
 | n+1,h=>by
   have ih:=dnO_congr (t:=t) (u:=u) (n:=n) fun i hi=>h i (by omega)
   simp only [dnO,h n (Nat.lt_succ_self n),ih]
def lay (rs:List (AV × List Rs)) (sd:List ByteArray):List (ByteArray→ByteArray→Int) :=
 (List.range' 0 rs.length).map (fun i=>dI (Lr rs i))++(dnL (fun i=>tX (Lr rs i)) rs.length++[fun a b=>zI sd a b])
theorem dY_lex (rs:List (AV × List Rs)) (sd:List ByteArray) (a b:ByteArray):dY rs sd a b=lexL (lay rs sd) a b:=by
 unfold lay
 rw [lexL_app,lexL_app,lexL_up,lexL_dn]
 have ht:upO (fun i=>dI (Lr rs i) a b) 0 rs.length=none→dnO (fun i=>tX (Lr rs i) a b) rs.length=dnO (fun i=>tellI (Lr rs i) a b) rs.length:=by
  intro hu
  refine dnO_congr fun i hi=>?_
  have:=up_none hu i hi
  unfold tX tellI
  split
  ·rfl
  ·exact this
 rcases dec_cases rs sd a b with ⟨k,hk,hu,hd,hne⟩ | ⟨hu,k,hk,hn,hd,hne⟩ | ⟨hu,hn,hz,hd⟩ | ⟨hu,hn,hz,hd⟩
 ·rw [(dec_ax hd).2]
  unfold upO at hu
  rw [hu]
  simp only [ne_eq,hne,not_false_eq_true,if_true]
 ·have e:=ht hu
  have ez:=up_none hu k hk
  rw [(dec_ax hd).2,e,hn]
  unfold upO at hu
  rw [hu]
  have e2:tX (Lr rs k) a b=tellI (Lr rs k) a b:=by
   unfold tX tellI; split
   ·rfl
   ·exact ez
  simp only [ne_eq,not_true_eq_false,if_false,e2,hne,not_false_eq_true,if_true]
 ·have e:=ht hu
  rw [(dec_ax hd).2,e,hn]
  unfold upO at hu
  rw [hu]
  simp [lexL,hz]
 ·have e:=ht hu
  rw [(dec_ax hd).2,e,hn]
  unfold upO at hu
  rw [hu]
  simp [lexL,hz]
theorem dnL_all {α:Type} {C:Nat→α→α→Int}:∀ {n:Nat},(∀ i,i < n→TP (C i))→∀ c∈dnL C n,TP c
 | 0,_,c,hc=>by cases hc
 | n+1,h,c,hc=>by
   rcases List.mem_cons.1 hc with e | e
   ·rw [e]; exact h n (Nat.lt_succ_self n)
   ·exact dnL_all (fun i hi=>h i (by omega)) c e
theorem dY_tp (v:CtV rs):TP (dY rs sd):=by
 have h:TP (lexL (lay rs sd)):=lexL_tp fun c hc=>by
  unfold lay at hc
  rcases List.mem_append.1 hc with hc | hc
  ·obtain ⟨i,_,rfl⟩:=List.mem_map.1 hc
   exact dI_tp _
  ·rcases List.mem_append.1 hc with hc | hc
   ·exact dnL_all (fun i hi=>tX_tp (v.rd i hi)) c hc
   ·have e:c=fun a b=>zI sd a b:=by simpa using hc
    rw [e]; exact zI_tp sd
 exact ⟨fun a b=>by rw [dY_lex,dY_lex]; exact h.anti a b,fun a b d=>by rw [dY_lex,dY_lex,dY_lex]; exact h.tr a b d⟩
theorem ahead (v:CtV rs) {r:Nat} (hr:r < rs.length) (h1:has (Lr rs r) a=true) (h2:has (Lr rs r) b=false):dY rs sd a b < 0:=by
 have hno:upO (fun i=>dI (Lr rs i) a b) 0 rs.length ≠ none:=fun hu=>by
  have:=up_none hu r hr
  rw [dI_has,h1,h2] at this
  simp at this
 rcases dec_cases rs sd a b with ⟨k,hk,hu,hd,hne⟩ | ⟨hu,_⟩ | ⟨hu,_⟩ | ⟨hu,_⟩
 ·rw [(dec_ax hd).2]
  rw [dI_has] at hne ⊢
  cases e1:has (Lr rs k) a<;>cases e2:has (Lr rs k) b<;>rw [e1,e2] at hne
  ·simp at hne
  ·rcases Nat.le_total k r with q | q
   ·rw [has_down v.down r hr h1 k q] at e1; cases e1
   ·rw [has_down v.down k hk e2 r q] at h2; cases h2
  ·simp
  ·simp at hne
 ·exact absurd hu hno
 ·exact absurd hu hno
 ·exact absurd hu hno
theorem rkN_mono {d e:Nat→Int}:∀ {n:Nat},(∀ k,k < n→d k < 0→e k < 0)→rkN d n≤rkN e n∧∀ j,j < n→e j < 0→¬ d j < 0→rkN d n < rkN e n
 | 0,_=>⟨Int.le_refl _,fun j h=>absurd h (Nat.not_lt_zero _)⟩
 | n+1,h=>by
   obtain ⟨i1,i2⟩:=rkN_mono (d:=d) (e:=e) (n:=n) fun k hk=>h k (by omega)
   have hn:=h n (Nat.lt_succ_self n)
   simp only [rkN]
   refine ⟨?_,fun j hj h1 h2=>?_⟩
   ·split<;>split<;>first | omega | skip
   ·rcases Nat.lt_or_ge j n with q | q
    ·have:=i2 j q h1 h2
     split<;>split<;>omega
    ·have:j=n:=by omega
     subst this
     rw [if_neg h2,if_pos h1]; omega
theorem rk_lt (v:CtV rs) {i k:Nat} (hi:i < nP rs) (h:dY rs sd (nmP rs i) (nmP rs k) < 0):rkP rs sd i < rkP rs sd k:=by
 have T:=dY_tp (sd:=sd) v
 unfold rkP
 refine (rkN_mono fun q _ hq=>T.lt hq (by omega)).2 i hi h ?_
 have:=dY_self (rs:=rs) (sd:=sd) (nmP rs i)
 omega
theorem rk_eq (v:CtV rs) {i k:Nat} (h:dY rs sd (nmP rs i) (nmP rs k)=0):rkP rs sd i=rkP rs sd k:=by
 have T:=dY_tp (sd:=sd) v
 have h':=T.anti (nmP rs i) (nmP rs k)
 unfold rkP
 refine Int.le_antisymm (rkN_mono fun q _ hq=>T.lt hq (by omega)).1 (rkN_mono fun q _ hq=>T.lt hq (by omega)).1
theorem rk_iff (v:CtV rs) {i k:Nat} (hi:i < nP rs) (hk:k < nP rs):(dY rs sd (nmP rs i) (nmP rs k) < 0↔rkP rs sd i < rkP rs sd k)∧(dY rs sd (nmP rs i) (nmP rs k)=0↔rkP rs sd i=rkP rs sd k):=by
 have T:=dY_tp (sd:=sd) v
 have h':=T.anti (nmP rs i) (nmP rs k)
 rcases Int.lt_trichotomy (dY rs sd (nmP rs i) (nmP rs k)) 0 with e | e | e
 ·have:=rk_lt v hi e; omega
 ·have:=rk_eq v e; omega
 ·have:=rk_lt v hk (show dY rs sd (nmP rs k) (nmP rs i) < 0 by omega); omega
theorem nm_inj (v:CtV rs) {i k:Nat} (hi:i < nP rs) (hk:k < nP rs) (h:nmP rs i=nmP rs k):i=k:=by
 have key:∀ {i k:Nat},i < k→k < nP rs→nmP rs i=nmP rs k→False:=fun {i k} hik hk h=>by
  have hn:=(v.rd 0 v.m).nms k hk
  unfold seen at hn
  rw [List.any_eq_false] at hn
  have:=hn i (by rw [List.mem_range'_1]; omega)
  rw [nmO_get (show i < (Lr rs 0).length by unfold nP at hk; omega)] at this
  rw [nm_l i (by omega),nm_l k hk] at h
  simp [h] at this
 rcases Nat.lt_trichotomy i k with e | e | e
 ·exact (key e hk h).elim
 ·exact e
 ·exact (key e hi h.symm).elim
end
section
variable {nm:Int→ByteArray} {f:Int→Int} {zs:List Int}
def shk (f:Int→Int) (zs:List Int) (i:Nat):Nat→Bool
 | 0=>false
 | k+1=>shk f zs i k || (decide (i ≠ k)&&decide (f (zs.getD i 0)=f (zs.getD k 0)))
theorem shk_iff (f:Int→Int) (zs:List Int) (i:Nat):∀ n,shk f zs i n=true↔∃ k,k < n∧i ≠ k∧f (zs.getD i 0)=f (zs.getD k 0)
 | 0=>by simp [shk]
 | n+1=>by
   have ih:=shk_iff f zs i n
   simp only [shk,Bool.or_eq_true,ih,Bool.and_eq_true,decide_eq_true_eq]
   constructor
   ·rintro (⟨k,h1,h2⟩ | h)
    ·exact ⟨k,by omega,h2⟩
    ·exact ⟨n,by omega,h⟩
   ·rintro ⟨k,h1,h2⟩
    rcases Nat.lt_or_ge k n with q | q
    ·exact .inl ⟨k,q,h2⟩
    ·have:k=n:=by omega
     subst this; exact .inr h2
def tcn (f:Int→Int) (zs:List Int):Nat→Nat
 | 0=>0
 | i+1=>if shk f zs i zs.length then tcn f zs i+1 else tcn f zs i
theorem tcn_le (f:Int→Int) (zs:List Int):∀ i,tcn f zs i≤i
 | 0=>Nat.le_refl _
 | i+1=>by have:=tcn_le f zs i; simp only [tcn]; split<;>omega
def sumG (gs:List (List ByteArray)):Nat:=(gs.map List.length).sum
theorem sorted_le (hs:SortedF f zs) {j l:Nat} (hjl:j≤l) (hl:l < zs.length):f (zs.getD j 0)≤f (zs.getD l 0):=by
 have hj:j < zs.length:=by omega
 have e1:zs.getD j 0=zs[j]:=by simp [hj]
 have e2:zs.getD l 0=zs[l]:=by simp [hl]
 rw [e1,e2]
 rcases Nat.lt_or_ge j l with q | q
 ·exact List.pairwise_iff_getElem.1 hs j l hj hl q
 ·have:j=l:=by omega
  subst this; exact Int.le_refl _
theorem gps_sum (hs:SortedF f zs):∀ (k i:Nat),zs.length≤k+i→i≤zs.length→(∀ j,j < i→∀ l,i≤l→l < zs.length→f (zs.getD j 0) < f (zs.getD l 0)) →
  tcn f zs i+sumG (gps nm f zs k i)=tcn f zs zs.length
 | 0,i,h1,h2,_=>by
   have:i=zs.length:=by omega
   subst this; simp [gps,sumG]
 | k+1,i,h1,h2,hb=>by
   rcases Nat.lt_or_ge i zs.length with hi | hi
   ·obtain ⟨s1,s2,s3,s4,_⟩:=sg_spec (f:=f) hi
    have hlen:((sg f zs i).map nm).length=(sg f zs i).length:=List.length_map ..
    have key:∀ t,t≤(sg f zs i).length→tcn f zs (i+t)=tcn f zs i+if 1 < (sg f zs i).length then t else 0:=by
     intro t
     induction t with
     | zero=>intro _; simp
     | succ t ih =>
       intro ht
       have ih:=ih (by omega)
       rw [← Nat.add_assoc]
       simp only [tcn]
       rw [ih]
       by_cases hc:1 < (sg f zs i).length
       ·rw [if_pos hc,if_pos hc,if_pos]; omega
        rw [shk_iff]
        rcases Nat.eq_zero_or_pos t with e | e
        ·subst e
         exact ⟨i+1,by omega,by omega,by rw [s3 1 hc]; rfl⟩
        ·exact ⟨i,by omega,by omega,s3 t (by omega)⟩
       ·rw [if_neg hc,if_neg hc,if_neg]
        have e:t=0:=by omega
        subst e
        rw [shk_iff]
        rintro ⟨q,q1,q2,q3⟩
        rcases Nat.lt_trichotomy q i with e | e | e
        ·have:=hb q e i (Nat.le_refl _) hi
         rw [Nat.add_zero] at q3; omega
        ·exact q2 (by omega)
        ·have e1:=s4 (by omega)
         have e2:=sorted_le hs (show i≤i+(sg f zs i).length by omega) (show i+(sg f zs i).length < zs.length by omega)
         have e3:=sorted_le hs (show i+(sg f zs i).length≤q by omega) q1
         rw [Nat.add_zero] at q3; omega
    have ih:=gps_sum hs k (i+(sg f zs i).length) (by omega) s2 (by
     intro j hj l hl hlz
     rcases Nat.lt_or_ge j i with q | q
     ·exact hb j q l (by omega) hlz
     ·have e1:=s3 (j - i) (by omega)
      rw [show i+(j - i)=j by omega] at e1
      have e2:=s4 (by omega)
      have e3:=sorted_le hs (show i≤i+(sg f zs i).length by omega) (show i+(sg f zs i).length < zs.length by omega)
      have e4:=sorted_le hs hl hlz
      omega)
    have kk:=key _ (Nat.le_refl _)
    simp only [gps,if_pos hi]
    by_cases hc:1 < (sg f zs i).length
    ·rw [if_pos hc] at kk ⊢
     simp only [sumG,List.map_append,List.sum_append,List.map_cons,List.map_nil,List.sum_cons,List.sum_nil,hlen] at ih ⊢
     omega
    ·rw [if_neg hc] at kk ⊢
     rw [List.nil_append]; omega
   ·have:i=zs.length:=by omega
    subst this
    simp [gps,sumG]
theorem gps_two (nm:Int→ByteArray) (f:Int→Int) (zs:List Int):∀ k i,∀ g∈gps nm f zs k i,2≤g.length
 | 0,i,g,hg=>by simp [gps] at hg
 | k+1,i,g,hg=>by
   simp only [gps] at hg
   split at hg
   ·rcases List.mem_append.1 hg with hg | hg
    ·split at hg
     ·rename_i hc
      have:g=(sg f zs i).map nm:=by simpa using hg
      rw [this,List.length_map]; omega
     ·cases hg
    ·exact gps_two nm f zs k _ g hg
   ·cases hg
end
section
variable {ra sa:AV} {rs:List (AV × List Rs)} {sd:List ByteArray}
theorem cmpI_le (x y:Int) : -1≤cmpI x y∧cmpI x y≤1:=by unfold cmpI; split<;>(try split)<;>omega
theorem cmpL_le:∀ xs ys:List Int, -1≤cmpL xs ys∧cmpL xs ys≤1
 | [],ys=>by cases ys<;>simp [cmpL]
 | _::_,[]=>by simp [cmpL]
 | x::xs,y::ys=>by
   have:=cmpL_le xs ys
   have:=cmpI_le x y
   simp only [cmpL]; split<;>omega
theorem dY_le (rs:List (AV × List Rs)) (sd:List ByteArray) (a b:ByteArray) : -1≤dY rs sd a b∧dY rs sd a b≤1:=by
 rcases dec_cases rs sd a b with ⟨k,_,_,hd,_⟩ | ⟨_,k,_,_,hd,_⟩ | ⟨_,_,_,hd⟩ | ⟨_,_,_,hd⟩<;>rw [(dec_ax hd).2]
 ·rw [dI_has]; split
  ·omega
  ·split<;>omega
 ·unfold tellI
  split
  ·unfold cmpR; split
   ·exact cmpI_le _ _
   ·exact cmpL_le _ _
  ·omega
 ·exact cmpI_le _ _
 ·omega
theorem G1302 (h:CtOk ra sa rs sd) (u0 u1 u2 u3 u4 u5 u6 u7:AV) {x y:ByteArray} {rx ry:Int} (hA:∀ r,r < rs.length→has (Lr rs r) x=true→has (Lr rs r) y=false→rx < ry) :
  loopG (calO s13) B1302 KK [u0,u1,u2,u3,u4,u5,u6,u7,ia rs.length,ia 0,.str y,ia ry,.str x,ia rx,ra,sa]=some (.tuple [ia 2,u0,u1,u2,u3,u4,u5,u6,u7,.str x,ia rx,ra,sa]):=by
 have lN:=h.r.lenM
 have hnr:=h.nr
 refine loopF (fun r=>[u0,u1,u2,u3,u4,u5,u6,u7,ia rs.length,ia r,.str y,ia ry,.str x,ia rx,ra,sa]) rs.length _ (by omega) (fun r hr=>?_) ?_
 ·obtain ⟨a,hrow,hv⟩:=h.row hr
  have fx:=p30e hv.is hv.n x
  have fy:=p30e hv.is hv.n y
  have hw:=wS (show r < 2097152 by omega)
  have hr':(r:Int) < rs.length:=by omega
  have hA':=hA r hr
  by_cases c1:fi (Lr rs r) x ≥ 0
  ·by_cases c2:fi (Lr rs r) y < 0
   ·have hlt:=hA' (decide_eq_true c1) (decide_eq_false (by omega))
    have hn:¬ ry≤rx:=by omega
    simp [B1302,lN,hrow,hr',hr,hw,fx,fy,c1,c2,hn]
   ·simp [B1302,lN,hrow,hr',hr,hw,fx,fy,c1,c2]
  ·simp [B1302,lN,hrow,hr',hr,hw,fx,fy,c1]
 ·simp [B1302]
structure Pair (rs:List (AV × List Rs)) (ca cv:AV) (x y:ByteArray) (rx ry:Int):Prop where
 p:∃ A D:Int,F27 [ca,cv,.str x,.str y]=some (.tuple [ia A,ia D,ia 0])∧F27 [ca,cv,.str y,.str x]=some (.tuple [ia A,ia (-D),ia 0]) ∧
   (D < 0↔rx < ry)∧(D=0↔rx=ry)∧(D=0↔A = -1)∧A≤rs.length ∧ -1≤D∧D≤1
 a:∀ r,r < rs.length→has (Lr rs r) x=true→has (Lr rs r) y=false→rx < ry
theorem G1301 (h:CtOk ra sa rs sd) {nm:Int→ByteArray} {f:Int→Int} {zs:List Int} (hn:zs.length < 1000) {ca cv:AV} (f28:F28 [ra,sa]=some (.agg [ca,cv])) (okA:(Sh.sl [Sh.sl shR3]).ok ca=true) (okV:(Sh.sl [Sh.str]).ok cv=true)
  {i:Nat} (hi:i < zs.length) (hp:∀ k,k < zs.length→i ≠ k→Pair rs ca cv (nm (zs.getD i 0)) (nm (zs.getD k 0)) (f (zs.getD i 0)) (f (zs.getD k 0))) (g t n:AV) :
  loopG (omL KK s13 [d1302]) B1301 KK [mkPl nm f zs,g,t,ia i,.bool false,n,ia zs.length,ia 0,.str (nm (zs.getD i 0)),ia (f (zs.getD i 0)),ra,sa] =
   some (.tuple [ia 2,mkPl nm f zs,g,t,.bool (shk f zs i zs.length),n,ia i,ra,sa]):=by
 have lN:=h.r.lenM
 have hl:=mkPl_isL (nm:=nm) (f:=f) zs
 have lP:=hl.lenM
 generalize mkPl nm f zs=pl at *
 refine loopF (fun k=>[pl,g,t,ia i,.bool (shk f zs i k),n,ia zs.length,ia k,.str (nm (zs.getD i 0)),ia (f (zs.getD i 0)),ra,sa]) zs.length _ (by omega) (fun k hk=>?_) ?_
 ·have hrow:=pl_row hl hk
  have hk':(k:Int) < zs.length:=by omega
  have hw:=wS (show k < 2097152 by omega)
  by_cases e:i=k
  ·have e2:shk f zs i (k+1)=shk f zs i k:=by simp [shk,e]
   have e':((i:Int)=(k:Int))=True:=by simp [e]
   rw [e2]
   generalize shk f zs i k=b at *
   simp [B1301,lP,hk',hk,hw,hrow,e']
  ·obtain ⟨⟨A,D,q1,q2,q3,q4,q5,q6,q7,q8⟩,qa⟩:=hp k hk e
   have e':((i:Int)=(k:Int))=False:=eq_false (by omega)
   have e2:shk f zs i (k+1)=(shk f zs i k || decide (D=0)):=by simp [shk,e,q4]
   rw [e2]
   have G:=fun b=>G1302 h pl g t (ia i) b n (ia zs.length) (ia k) qa
   generalize shk f zs i k=b at *
   generalize f (zs.getD i 0)=rx at *
   generalize f (zs.getD k 0)=ry at *
   generalize nm (zs.getD i 0)=x at *
   generalize nm (zs.getD k 0)=y at *
   have hA:¬ ((rs.length:Int) < A):=by omega
   have w1:∀ Ω,Pr.sem Ω (.neg .i64) [ia (-D)]=ia D:=fun Ω=>by show ia (IntKind.i64.wrap (0 - -D))=ia D; rw [i64w]<;>(try congr 1)<;>omega
   have w2:IntKind.i64.wrap 0=0:=by decide
   have w3:∀ Ω,Pr.sem Ω (.neg .i64) [ia 0]=ia 0:=fun _=>rfl
   rcases Int.lt_trichotomy D 0 with d | d | d
   ·have d1:rx < ry:=q3.1 d
    have d2:¬ D=0:=by omega
    have d3:¬ rx=ry:=by omega
    have d4:¬ A = -1:=fun q=>d2 (q5.2 q)
    have g2:(D == 0)=false:=by simp [d2]
    have g3:(rx == ry)=false:=by simp [d3]
    have g4:(A == -1)=false:=by simp [d4]
    cases b<;>simp [B1301,lP,lN,hk',hk,hw,hrow,e',f28,okA,okV,q1,q2,w1,w2,d,d1,d2,d3,d4,g2,g3,g4,hA,G]
   ·have d1:¬ rx < ry:=by omega
    have d2:=q4.1 d
    have d3:=q5.1 d
    subst d
    subst d2
    subst d3
    cases b<;>simp [B1301,lP,lN,hk',hk,hw,hrow,e',f28,okA,okV,q1,q2,w2,w3,hA,G]
   ·have d1:¬ rx < ry:=fun q=>by have:=q3.2 q; omega
    have d2:¬ D=0:=by omega
    have d3:¬ rx=ry:=by omega
    have d4:¬ A = -1:=fun q=>d2 (q5.2 q)
    have g2:(D == 0)=false:=by simp [d2]
    have g3:(rx == ry)=false:=by simp [d3]
    have g4:(A == -1)=false:=by simp [d4]
    have d5:¬ D < 0:=by omega
    cases b<;>simp [B1301,lP,lN,hk',hk,hw,hrow,e',f28,okA,okV,q1,q2,w1,w2,d1,d2,d3,d4,d5,g2,g3,g4,hA,G]
 ·generalize shk f zs i zs.length=b at *
  simp [B1301]
theorem G1300 (h:CtOk ra sa rs sd) {nm:Int→ByteArray} {f:Int→Int} {zs:List Int} (hn:zs.length < 1000) {ca cv:AV} (f28:F28 [ra,sa]=some (.agg [ca,cv])) (okA:(Sh.sl [Sh.sl shR3]).ok ca=true) (okV:(Sh.sl [Sh.str]).ok cv=true)
  (hp:∀ i,i < zs.length→∀ k,k < zs.length→i ≠ k→Pair rs ca cv (nm (zs.getD i 0)) (nm (zs.getD k 0)) (f (zs.getD i 0)) (f (zs.getD k 0))) (g:AV) :
  loopG (omL KK s13 [d1301,d1302]) B1300 KK [mkPl nm f zs,g,ia 0,ia zs.length,ia 0,ra,sa]=some (.tuple [ia 2,g,ia (tcn f zs zs.length)]):=by
 have hl:=mkPl_isL (nm:=nm) (f:=f) zs
 have lP:=hl.lenM
 have G:=fun i hi t n=>G1301 h hn f28 okA okV (i:=i) hi (hp i hi) g t n
 generalize mkPl nm f zs=pl at *
 refine loopF (fun i=>[pl,g,ia (tcn f zs i),ia zs.length,ia i,ra,sa]) zs.length _ (by omega) (fun i hi=>?_) ?_
 ·have hrow:=pl_row hl hi
  have hi':(i:Int) < zs.length:=by omega
  have hw:=wS (show i < 2097152 by omega)
  have G:=G i hi (ia (tcn f zs i)) (ia zs.length)
  have ht:=tcn_le f zs i
  have hw2:IntKind.i64.wrap ((tcn f zs i:Int)+1)=(tcn f zs i:Int)+1:=by rw [i64w]<;>omega
  simp only [tcn]
  generalize tcn f zs i=t at *
  generalize nm (zs.getD i 0)=x at hrow G
  generalize f (zs.getD i 0)=rx at hrow G
  cases e:shk f zs i zs.length<;>rw [e] at G<;>simp [B1300,lP,hi',hi,hw,hrow,G,hw2]
 ·generalize tcn f zs zs.length=t at *
  simp [B1300]
theorem sumG_take (gs:List (List ByteArray)) {i:Nat} (hi:i < gs.length):sumG (gs.take (i+1))=sumG (gs.take i)+gs[i].length:=by
 unfold sumG
 rw [List.take_add_one,List.getElem?_eq_getElem hi,List.map_append,List.sum_append]
 simp only [Option.toList_some,List.map_cons,List.map_nil,List.sum_cons,List.sum_nil,Nat.add_zero]
theorem sumG_le:∀ (gs:List (List ByteArray)) (i:Nat),sumG (gs.take i)≤sumG gs
 | [],i=>by simp
 | g::gs,0=>by simp [sumG]
 | g::gs,i+1=>by
   have:=sumG_le gs i
   simp only [sumG,List.take_succ_cons,List.map_cons,List.sum_cons] at this ⊢
   omega
theorem G1303 (gs:List (List ByteArray)) (hn:gs.length < 1000) (h2:∀ g∈gs,2≤g.length) (hs:sumG gs < 1000000) (t:AV) :
  loopG (omL KK s13 [d1300,d1301,d1302]) B1303 KK [t,ia 0,mkG gs,ia gs.length,ia 0]=some (.tuple [ia 2,t,ia (sumG gs)]):=by
 have hl:=mkG_isL gs
 have lG:=mkG_len gs
 have e0:sumG (gs.take 0)=0:=rfl
 generalize mkG gs=gg at *
 suffices hS:loopG (omL KK s13 [d1300,d1301,d1302]) B1303 KK [t,ia (sumG (gs.take 0)),gg,ia gs.length,ia 0]=some (.tuple [ia 2,t,ia (sumG gs)]) by
  rw [e0] at hS; exact hS
 refine loopF (fun i=>[t,ia (sumG (gs.take i)),gg,ia gs.length,ia i]) gs.length _ (by omega) (fun i hi=>?_) ?_
 ·have hrow:nth gg.rowsL i=some [mkS gs[i]]:=hl.rowN hi
  have hi':(i:Int) < gs.length:=by omega
  have hw:=wS (show i < 2097152 by omega)
  have h3:=h2 _ (List.getElem_mem hi)
  have lS:=mkS_len gs[i]
  have l1:=sumG_le gs (i+1)
  have l2:=sumG_take gs hi
  have hc:¬ ((gs[i].length:Int) < 2):=by omega
  have hw2:IntKind.i64.wrap ((sumG (gs.take i):Int)+gs[i].length)=(sumG (gs.take (i+1)):Int):=by rw [i64w]<;>omega
  generalize mkS gs[i]=z at *
  generalize gs[i].length=m at *
  generalize sumG (gs.take (i+1))=s1 at *
  generalize sumG (gs.take i)=s0 at *
  simp [B1303,lG,hrow,hi',hi,hw,lS,hc,hw2]
 ·rw [List.take_length]
  simp [B1303]
theorem p66 (h:CtOk ra sa rs sd) (h1:0 < rs.length):F66 [ra,sa,ia 7]=some (.bool (decide (nP rs≤7))):=by
 obtain ⟨a,hrow,hv⟩:=h.row h1
 have lN:=h.r.lenM
 have lA:a.lenN=nP rs:=hv.is.lenM
 have h1':(0:Int) < rs.length:=by omega
 have q:((nP rs:Int)≤7)=(nP rs≤7):=propext (by omega)
 simp [F66,unitF_eq,t66,lN,h1,h1',hrow,lA,q]
theorem zq (f:Int→Int) (n:Nat) {i:Nat} (hi:i < n):∃ q:Nat,q < n∧(srt f n).getD i 0=(q:Int):=by
 have hl:=srt_len f n
 have e:(srt f n).getD i 0=(srt f n)[i]'(by omega):=by simp [hl,hi]
 have hm:(srt f n)[i]'(by omega)∈iot n:=(srt_perm f n).mem_iff.1 (List.getElem_mem _)
 obtain ⟨q,hq,hqe⟩:=List.mem_map.1 hm
 exact ⟨q,List.mem_range.1 hq,by rw [e]; exact hqe.symm⟩
theorem zq_inj (f:Int→Int) (n:Nat) {i k:Nat} (hi:i < n) (hk:k < n) (h:(srt f n).getD i 0=(srt f n).getD k 0):i=k:=by
 have hl:=srt_len f n
 have hd:(srt f n).Nodup:=(srt_perm f n).nodup_iff.2 (by
  unfold iot
  exact List.Pairwise.map _ (fun a b hab e=>hab (Int.ofNat.inj e)) List.nodup_range)
 have e1:(srt f n).getD i 0=(srt f n)[i]'(by omega):=by simp [hl,hi]
 have e2:(srt f n).getD k 0=(srt f n)[k]'(by omega):=by simp [hl,hk]
 rw [e1,e2] at h
 exact (List.getElem_inj hd).1 h
theorem law13 (h:CtOk ra sa rs sd):F13 [ra,sa]=some (.bool true):=by
 obtain ⟨bb,f26⟩:=p26 h 7
 have f16:F16 []=some (.bool true):=rfl
 cases bb
 ·simp [F13,unitF_eq,t13,f26,f16]
 have f29:=p29 h
 by_cases hc:ckC rs sd ≠ 0
 ·generalize ckC rs sd=e at *
  simp [F13,unitF_eq,t13,f26,f16,f29,hc]
 have hc:=Decidable.not_not.1 hc
 have v:=ctv hc
 have f66:=p66 h v.m
 rw [hc] at f29
 by_cases h7:¬ nP rs≤7
 ·rw [decide_eq_false h7] at f66
  simp [F13,unitF_eq,t13,f26,f16,f29,f66]
 have h7:=Decidable.not_not.1 h7
 rw [decide_eq_true h7] at f66
 have f28:=p28 h
 have okA:=mkA_ok h
 have okV:=cpV_ok h
 have h':=cpC_ok h
 have f58:=p58 h' (by rw [nP_cp]; omega)
 have f59:=p59 h' (by rw [nP_cp]; omega)
 simp only [pkP,gkP] at f58 f59
 rw [nP_cp,nmP_cp,rkP_cp,ckC_cp,if_pos hc] at f58 f59
 have hl:=srt_len (rkP rs sd) (nP rs)
 have hp:∀ i,i < (srt (rkP rs sd) (nP rs)).length→∀ k,k < (srt (rkP rs sd) (nP rs)).length→i ≠ k→Pair rs (mkA (rs.map cpA)) (cpV sa) (nmP rs ((srt (rkP rs sd) (nP rs)).getD i 0)) (nmP rs ((srt (rkP rs sd) (nP rs)).getD k 0)) (rkP rs sd ((srt (rkP rs sd) (nP rs)).getD i 0)) (rkP rs sd ((srt (rkP rs sd) (nP rs)).getD k 0)):=by
  intro i hi k hk hik
  rw [hl] at hi hk
  obtain ⟨q,hq,eq⟩:=zq (rkP rs sd) (nP rs) hi
  obtain ⟨p,hp,ep⟩:=zq (rkP rs sd) (nP rs) hk
  have hne:q ≠ p:=fun e=>hik (zq_inj (rkP rs sd) (nP rs) hi hk (by rw [eq,ep,e]))
  rw [eq,ep]
  have key:∀ {q p:Nat},q < nP rs→p < nP rs→q ≠ p→F27 [mkA (rs.map cpA),cpV sa,.str (nmP rs q),.str (nmP rs p)]=some (.tuple [ia (aX rs sd (nmP rs q) (nmP rs p)),ia (dY rs sd (nmP rs q) (nmP rs p)),ia 0]):=by
   intro q p hq hp hne
   have f27:=p27 (a:=nmP rs q) (b:=nmP rs p) h' (by rw [ckC_cp]; exact hc) (by rw [decV_cp]; exact (dec_facts rs sd (nmP rs q) (nmP rs p)).2.2.2)
   have hu:unk (Lr (cpC rs) 0) (nmP rs q) (nmP rs p)=0:=by
    unfold unk
    rw [Lr_cp,has_cp,has_cp,has_nm hq,has_nm hp,if_neg (by decide),if_neg (by decide),if_neg (fun e=>hne (nm_inj v hq hp e))]
   rw [hu,if_pos rfl] at f27
   exact f27
  have k1:=key hq hp hne
  have k2:=key hp hq (Ne.symm hne)
  obtain ⟨a1,a2,a3,_⟩:=dec_facts rs sd (nmP rs q) (nmP rs p)
  obtain ⟨r1,r2⟩:=rk_iff (sd:=sd) v hq hp
  have b:=dY_le rs sd (nmP rs q) (nmP rs p)
  have an:=(dY_tp (sd:=sd) v).anti (nmP rs q) (nmP rs p)
  rw [a1,an] at k2
  exact ⟨⟨_,_,k1,k2,r1,r2,a2,a3,b.1,b.2⟩,fun r hr h1 h2=>r1.1 (ahead v hr h1 h2)⟩
 have G0:=G1300 h (by omega) f28 okA okV hp (mkG (gps (nmP rs) (rkP rs sd) (srt (rkP rs sd) (nP rs)) (nP rs) 0))
 have hs:=gps_sum (nm:=nmP rs) (srt_sorted (rkP rs sd) (nP rs)) (nP rs) 0 (by omega) (by omega) (fun j hj=>by omega)
 have e0:tcn (rkP rs sd) (srt (rkP rs sd) (nP rs)) 0=0:=rfl
 rw [e0,Nat.zero_add,hl] at hs
 have ht:=tcn_le (rkP rs sd) (srt (rkP rs sd) (nP rs)) (srt (rkP rs sd) (nP rs)).length
 rw [hl] at ht
 have gl:=gps_len (nm:=nmP rs) (f:=rkP rs sd) (srt (rkP rs sd) (nP rs)) (nP rs) 0
 have G3:=G1303 (gps (nmP rs) (rkP rs sd) (srt (rkP rs sd) (nP rs)) (nP rs) 0) (by omega) (fun g hg=>gps_two _ _ _ _ _ g hg) (by omega) (ia (tcn (rkP rs sd) (srt (rkP rs sd) (nP rs)) (nP rs)))
 rw [hs] at G3
 have lG:=mkG_len (gps (nmP rs) (rkP rs sd) (srt (rkP rs sd) (nP rs)) (nP rs) 0)
 have ok:=mkPl_ok (nm:=nmP rs) (f:=rkP rs sd) (srt (rkP rs sd) (nP rs))
 have okG:=mkG_ok (gps (nmP rs) (rkP rs sd) (srt (rkP rs sd) (nP rs)) (nP rs) 0)
 have lP:=mkPl_len (nm:=nmP rs) (f:=rkP rs sd) (srt (rkP rs sd) (nP rs))
 rw [hl] at lP G0
 obtain ⟨a,hrow,hv⟩:=h.row v.m
 have lN:=h.r.lenM
 have lA:a.lenN=nP rs:=hv.is.lenM
 have h1:=v.m
 have h1':(0:Int) < rs.length:=by omega
 rw [← lG] at G3
 generalize tcn (rkP rs sd) (srt (rkP rs sd) (nP rs)) (nP rs)=tt at *
 generalize mkPl (nmP rs) (rkP rs sd) (srt (rkP rs sd) (nP rs))=pl at *
 generalize mkG (gps (nmP rs) (rkP rs sd) (srt (rkP rs sd) (nP rs)) (nP rs) 0)=gg at *
 generalize mkA (rs.map cpA)=ca at *
 generalize cpV sa=cv at *
 simp [F13,unitF_eq,t13,f26,f16,f28,okA,okV,f29,f66,f58,f59,ok,okG,lN,lP,lA,h1,h1',hrow,G0,G3,show IntKind.i64.wrap 0=0 by decide]
end
end Go.Proofs.YtdjngcfnlfgjkaaGreatDoor.C5
