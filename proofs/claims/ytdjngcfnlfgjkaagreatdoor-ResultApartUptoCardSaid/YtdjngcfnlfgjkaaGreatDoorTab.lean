/-
  The tables of the translated program.
-/
import Derived.Test.YtdjngcfnlfgjkaaGreatDoorAm5
import Derived.Shelf.Sort.Plain
import Derived.Shelf.Slices.CompactI
import Derived.Shelf.Slices.In.SortNone
import Derived.Lib.SlKeysI
import Derived.Test.YtdjngcfnlfgjkaaGreatDoorProg
set_option linter.unusedVariables false
set_option linter.unusedSimpArgs false
set_option linter.unusedSectionVars false
namespace Go.Proofs
open Go.Shelf
def Tryz.lays189_ren:Go.Shelf.Ren:=⟨fun | 189=>142 | 125=>152 | 257=>170 | 128=>192 | 129=>193 | 294=>208 | 295=>209 | 296=>210 | 297=>211 | 298=>212 | 299=>213 | 216=>214 | 300=>215 | 301=>216 | 328=>240 | 329=>223 | 330=>224 | 331=>241 | 332=>242 | 215=>156 | 343=>255 | n=>n,fun | 28=>25 | 3=>3 | 46=>155 | 0=>0 | 51=>208 | 53=>210 | 4=>4 | 183=>249 | 182=>248 | 131=>143 | 5=>5 | 9=>9 | 218=>284 | 222=>288 | 228=>299 | 229=>49 | n=>n,fun | n=>n⟩
theorem Tryz.lays189:Go.Proofs.Lays.n189 Tryz.prog Tryz.lays189_ren:={
 mixed:=by kernel_rfl,
 f125:=Tryz.func152.trans (congrArg some (by kernel_rfl)),
 f128:=Tryz.func192.trans (congrArg some (by kernel_rfl)),
 f129:=Tryz.func193.trans (congrArg some (by kernel_rfl)),
 f189:=Tryz.func142.trans (congrArg some (by kernel_rfl)),
 f215:=Tryz.func156.trans (congrArg some (by kernel_rfl)),
 f216:=Tryz.func214.trans (congrArg some (by kernel_rfl)),
 f257:=Tryz.func170.trans (congrArg some (by kernel_rfl)),
 f294:=Tryz.func208.trans (congrArg some (by kernel_rfl)),
 f295:=Tryz.func209.trans (congrArg some (by kernel_rfl)),
 f296:=Tryz.func210.trans (congrArg some (by kernel_rfl)),
 f297:=Tryz.func211.trans (congrArg some (by kernel_rfl)),
 f298:=Tryz.func212.trans (congrArg some (by kernel_rfl)),
 f299:=Tryz.func213.trans (congrArg some (by kernel_rfl)),
 f300:=Tryz.func215.trans (congrArg some (by kernel_rfl)),
 f301:=Tryz.func216.trans (congrArg some (by kernel_rfl)),
 f328:=Tryz.func240.trans (congrArg some (by kernel_rfl)),
 f329:=Tryz.func223.trans (congrArg some (by kernel_rfl)),
 f330:=Tryz.func224.trans (congrArg some (by kernel_rfl)),
 f331:=Tryz.func241.trans (congrArg some (by kernel_rfl)),
 f332:=Tryz.func242.trans (congrArg some (by kernel_rfl)),
 f343:=Tryz.func255.trans (congrArg some (by kernel_rfl)),
 t0:=Tryz.underlying0,
 a0:=Tryz.isAgg0,
 z0:=Tryz.sizeOf0,
 v0:=Tryz.zeroValue0,
 t3:=Tryz.underlying3,
 a3:=Tryz.isAgg3,
 z3:=Tryz.sizeOf3,
 v3:=Tryz.zeroValue3,
 t4:=Tryz.underlying4,
 a4:=Tryz.isAgg4,
 z4:=Tryz.sizeOf4,
 v4:=Tryz.zeroValue4,
 t5:=Tryz.underlying5,
 a5:=Tryz.isAgg5,
 z5:=Tryz.sizeOf5,
 v5:=Tryz.zeroValue5,
 t9:=Tryz.underlying9,
 a9:=Tryz.isAgg9,
 z9:=Tryz.sizeOf9,
 v9:=Tryz.zeroValue9,
 t28:=Tryz.underlying25,
 a28:=Tryz.isAgg25,
 z28:=Tryz.sizeOf25,
 v28:=Tryz.zeroValue25,
 t46:=Tryz.underlying155,
 a46:=Tryz.isAgg155,
 z46:=Tryz.sizeOf155,
 v46:=Tryz.zeroValue155,
 t51:=Tryz.underlying208,
 a51:=Tryz.isAgg208,
 z51:=Tryz.sizeOf208,
 v51:=Tryz.zeroValue208,
 t53:=Tryz.underlying210,
 a53:=Tryz.isAgg210,
 z53:=Tryz.sizeOf210,
 v53:=Tryz.zeroValue210,
 t131:=Tryz.underlying143,
 a131:=Tryz.isAgg143,
 z131:=Tryz.sizeOf143,
 v131:=Tryz.zeroValue143,
 t182:=Tryz.underlying248,
 a182:=Tryz.isAgg248,
 z182:=Tryz.sizeOf248,
 v182:=Tryz.zeroValue248,
 t183:=Tryz.underlying249,
 a183:=Tryz.isAgg249,
 z183:=Tryz.sizeOf249,
 v183:=Tryz.zeroValue249,
 t218:=Tryz.underlying284,
 a218:=Tryz.isAgg284,
 z218:=Tryz.sizeOf284,
 v218:=Tryz.zeroValue284,
 t222:=Tryz.underlying288,
 a222:=Tryz.isAgg288,
 z222:=Tryz.sizeOf288,
 v222:=Tryz.zeroValue288,
 t228:=Tryz.underlying299,
 a228:=Tryz.isAgg299,
 z228:=Tryz.sizeOf299,
 v228:=Tryz.zeroValue299,
 t229:=Tryz.underlying49,
 a229:=Tryz.isAgg49,
 z229:=Tryz.sizeOf49,
 v229:=Tryz.zeroValue49 }
def Tryz.lays20_ren:Go.Shelf.Ren:=⟨fun | 20=>143 | n=>n,fun | 22=>25 | 3=>3 | 4=>4 | 0=>0 | n=>n,fun | n=>n⟩
theorem Tryz.lays20:Go.Proofs.Lays2.n20 Tryz.prog Tryz.lays20_ren:={
 mixed:=by kernel_rfl,
 f20:=Tryz.func143.trans (congrArg some (by kernel_rfl)),
 t0:=Tryz.underlying0,
 a0:=Tryz.isAgg0,
 z0:=Tryz.sizeOf0,
 v0:=Tryz.zeroValue0,
 t3:=Tryz.underlying3,
 a3:=Tryz.isAgg3,
 z3:=Tryz.sizeOf3,
 v3:=Tryz.zeroValue3,
 t4:=Tryz.underlying4,
 a4:=Tryz.isAgg4,
 z4:=Tryz.sizeOf4,
 v4:=Tryz.zeroValue4,
 t22:=Tryz.underlying25,
 a22:=Tryz.isAgg25,
 z22:=Tryz.sizeOf25,
 v22:=Tryz.zeroValue25,
 i3:=by kernel_rfl }
end Go.Proofs

namespace Go.Proofs.YtdjngcfnlfgjkaaGreatDoor.C5
open Go Go.Proofs.YtdjngcfnlfgjkaaGreatDoor.AM Go.Proofs Go.RowKit Go.Sort
theorem modify_eq {w:World} {c:Nat} {arr:Array Value} {e:TypeId} (h:w.heap[c]? = some (.cells arr e (0,0))) (f:Array Value→Array Value) :
  w.heap.modify c (onCells f)=w.heap.setIfInBounds c (.cells (f arr) e (0,0)):=by
 apply Array.ext_getElem?
 intro k
 rw [Array.getElem?_modify,Array.getElem?_setIfInBounds]
 by_cases hk:c=k
 ·subst hk
  have hlt:c < w.heap.size:=(Array.getElem?_eq_some_iff.1 h).1
  have he:w.heap[c] = .cells arr e (0,0):=(Array.getElem?_eq_some_iff.1 h).2
  simp [he,hlt,onCells]
 ·simp [hk]
theorem holds_of {w:World} {c a:Nat} {arr:Array Value} {e:TypeId} {zs:List Int} (h:w.heap[c]? = some (.cells arr e (0,0))) (hc:∀ j z,zs[j]? = some z→arr[a+j]? = some (.int .i64 z)) :
  Holds (Value.int .i64) w c a zs.toArray:=by
 intro j hj
 have hj:j < zs.length:=by simpa using hj
 have h1:=hc j zs[j] (List.getElem?_eq_getElem hj)
 refine ⟨?_,by simp [World.frozen?,h]⟩
 simp [World.cell?,h,h1,hj]
theorem put_cells {arr:Array Value} {a:Nat} {d:List Int} {n:Nat} (hn:∀ j,j < n→(arr[a+j]?).isSome=true) (hd:d.length=n) :
  (putCells (Value.int .i64) a d.toArray arr).size=arr.size∧∀ j z,d[j]? = some z→(putCells (Value.int .i64) a d.toArray arr)[a+j]? = some (.int .i64 z):=by
 refine ⟨by simp [putCells],fun j z hj=>?_⟩
 have hlt:j < d.length:=(List.getElem?_eq_some_iff.1 hj).1
 have:=hn j (by omega)
 obtain ⟨v,hv⟩:=Option.isSome_iff_exists.1 this
 simp only [putCells,Array.getElem?_mapIdx,hv,Option.map_some]
 rw [if_pos (by simp; omega)]
 have hz:d[j]=z:=(List.getElem?_eq_some_iff.1 hj).2
 simp [hlt,hz]
theorem isort_merge (zs:List Int):zs.mergeSort (fun x y=>decide (x≤y))=isort zs:=by
 have h:=mergeSort_of_perm_i (isort_perm zs).symm
 have h2:(isort zs).mergeSort (fun x y=>decide (x≤y))=isort zs:=List.mergeSort_of_pairwise ((isort_sorted zs).imp fun h=>by simpa using h)
 exact h.trans h2
theorem ipSortOk:IpOk Tryz.prog 142 ipSort:=by
 refine ⟨⟨_,Tryz.func142,by kernel_rfl,by kernel_rfl⟩,fun zs zs' w c a cap arr e hg hh hc hcap=>?_,fun _ _ w=>?_⟩
 ·simp only [ipSort] at hg
  split at hg
  case isFalse=>cases hg
  rename_i hl
  injection hg with hg; subst hg
  refine CallsIn.mono (callsIn_wide.2 (Any.slices_Sort_int Tryz.lays189 c a cap zs w (holds_of hh hc) (Array.getElem?_eq_some_iff.1 hh).1 (by omega))) fun en w' hp=>?_
  obtain ⟨rfl,n,os,rfl⟩:=hp
  rw [isort_merge]
  have hp:=put_cells (arr:=arr) (a:=a) (d:=isort zs) (n:=zs.length) (fun j hj=>by rw [hc j zs[j] (List.getElem?_eq_getElem hj)]; rfl) (isort_length zs)
  refine ⟨rfl,(fun h=>by cases h),_,w.drawn+n,os,hp.1,hp.2,?_⟩
  simp only [grow,putRow,mapBlock,Sort.ahead]
  rw [modify_eq hh]
 ·refine CallsIn.mono (callsIn_wide.2 (Any.slices_Sort_int_none Tryz.lays189 none 0 w)) fun en w' hp=>?_
  obtain ⟨rfl,hw⟩:=hp
  exact ⟨rfl,w.drawn,#[],by rw [hw]; simp⟩
theorem comp_uniq_go (d:Array Int):∀ (m k:Nat),k+m=d.size→0 < k→((List.range' k m).filter (Lib.keeps d)).map (d[·]!)=uniq d[k - 1]! (d.toList.drop k)
 | 0,k,h,_=>by simp [List.drop_of_length_le (show d.toList.length≤k by simp; omega),uniq]
 | m+1,k,h,h0=>by
   have ih:=comp_uniq_go d m (k+1) (by omega) (by omega)
   have hk:k < d.size:=by omega
   have hd:d.toList.drop k=d[k]! :: d.toList.drop (k+1):=by
    rw [List.drop_eq_getElem_cons (by simpa using hk)]
    simp [hk]
   rw [hd,List.range'_succ]
   simp only [uniq,Nat.add_sub_cancel] at ih ⊢
   by_cases he:d[k - 1]! = d[k]!
   ·rw [if_pos he,List.filter_cons_of_neg (by rw [Lib.keeps_neg h0 he.symm]; simp),ih]
   ·rw [if_neg he,List.filter_cons_of_pos (Lib.keeps_pos (Ne.symm he)),List.map_cons,ih]
theorem compact_uniqs (zs:List Int):Lib.compact zs=uniqs zs:=by
 cases zs with
 | nil=>rfl
 | cons z l =>
   have h:=comp_uniq_go (z::l).toArray l.length 1 (by simp; omega) (by omega)
   have e:(List.range (z::l).length)=0::List.range' 1 l.length:=by
    rw [List.range_eq_range',List.length_cons,List.range'_succ]
   unfold Lib.compact Lib.compactUpTo
   rw [e,List.filter_cons_of_pos (Lib.keeps_lt_one _ 0 (by omega)),List.map_cons,h]
   simp [uniqs]
theorem uniq_len:∀ (l:List Int) (y:Int),(uniq y l).length≤l.length
 | [],_=>Nat.le_refl _
 | z::l,y=>by
   have:=uniq_len l z
   simp only [uniq]
   split<;>simp<;>omega
theorem uniqs_len:∀ (l:List Int),(uniqs l).length≤l.length
 | []=>Nat.le_refl _
 | z::l=>by have:=uniq_len l z; simp [uniqs]; omega
theorem ipCompOk:IpOk Tryz.prog 143 ipComp:=by
 refine ⟨⟨_,Tryz.func143,by kernel_rfl,by kernel_rfl⟩,fun zs zs' w c a cap arr e hg hh hc hcap=>?_,fun h=>by cases h⟩
 simp only [ipComp] at hg
 split at hg
 case isFalse=>cases hg
 rename_i hl
 injection hg with hg; subst hg
 refine CallsIn.mono (callsIn_wide.2 (Any.slices_Compact_int Tryz.lays20 c a cap zs w (holds_of hh hc) (by omega) hcap)) fun en w' hp=>?_
 obtain ⟨rfl,n,rfl⟩:=hp
 rw [compact_uniqs]
 have hle:=uniqs_len zs
 have hp:=put_cells (arr:=arr) (a:=a) (d:=uniqs zs++List.replicate (zs.length - (uniqs zs).length) 0) (n:=zs.length) (fun j hj=>by rw [hc j zs[j] (List.getElem?_eq_getElem hj)]; rfl) (by simp; omega)
 refine ⟨rfl,fun _=>hle,_,w.drawn+n,#[],hp.1,fun j z hj=>hp.2 j z ?_,?_⟩
 ·rw [List.getElem?_append_left (List.getElem?_eq_some_iff.1 hj).1]; exact hj
 ·simp only [putRow,mapBlock,Sort.ahead]
  rw [modify_eq hh]
  simp
def ipT (f:Nat):Option IpF:=match f with | 142=>some ipSort | 143=>some ipComp | _=>none
theorem ipOk:∀ f p,ipT f=some p→IpOk Tryz.prog f p:=by
 intro f p h
 unfold ipT at h
 split at h
 ·injection h with h; subst h; exact ipSortOk
 ·injection h with h; subst h; exact ipCompOk
 ·cases h
end Go.Proofs.YtdjngcfnlfgjkaaGreatDoor.C5

namespace Go.Proofs.YtdjngcfnlfgjkaaGreatDoor.C5
open Go Go.Proofs.YtdjngcfnlfgjkaaGreatDoor.AM Go.Proofs Go.Proofs.Tryz
set_option maxRecDepth 100000
abbrev Y (a b:TypeInfo):TyE:=⟨a,b,true,true⟩
abbrev N {α:Type} (l:Tr α) (v:α) (r:Tr α):Tr α:=.node l (some v) r
abbrev L {α:Type} (v:α):Tr α:=.node .nil (some v) .nil
abbrev O (t:Nat) (e:TyE):=TyOk Tryz.prog t e
abbrev G (t:Nat) (e:FnE):=FnOk Tryz.prog t e
theorem T:True:=trivial
abbrev K0 {α:Type}:Tr α:=.nil
noncomputable def y2:=Y t2 t2
theorem oy2:O 2 y2:=⟨type2,underlying2,tf,tf⟩
noncomputable def y3:=Y t3 t3
theorem oy3:O 3 y3:=⟨type3,underlying3,tf,tf⟩
noncomputable def y4:=Y t4 t4
theorem oy4:O 4 y4:=⟨type4,underlying4,tf,tf⟩
noncomputable def y5:=Y t5 t5
theorem oy5:O 5 y5:=⟨type5,underlying5,tf,tf⟩
noncomputable def y9:=Y t9 t9
theorem oy9:O 9 y9:=⟨type9,underlying9,tf,tf⟩
noncomputable def y21:=Y t21 t21
theorem oy21:O 21 y21:=⟨type21,underlying21,tf,tf⟩
noncomputable def y22:=Y t22 t22
theorem oy22:O 22 y22:=⟨type22,underlying22,tf,tf⟩
noncomputable def y25:=Y t25 t25
theorem oy25:O 25 y25:=⟨type25,underlying25,tf,tf⟩
noncomputable def y26:=Y t26 t3
theorem oy26:O 26 y26:=⟨type26,underlying26,tf,tf⟩
noncomputable def y30:=Y t30 t30
theorem oy30:O 30 y30:=⟨type30,underlying30,tf,tf⟩
noncomputable def y39:=Y t39 t39
theorem oy39:O 39 y39:=⟨type39,underlying39,tf,tf⟩
noncomputable def y40:TyE:=⟨t40,t40,false,false⟩
theorem oy40:O 40 y40:=⟨type40,underlying40,fun _=>eqGuardType40,fun _=>stoodInHeld40⟩
noncomputable def y41:TyE:=⟨t41,t40,false,false⟩
theorem oy41:O 41 y41:=⟨type41,underlying41,fun _=>eqGuardType41,fun _=>stoodInHeld41⟩
noncomputable def y45:TyE:=⟨t45,t40,false,false⟩
theorem oy45:O 45 y45:=⟨type45,underlying45,fun _=>eqGuardType45,fun _=>stoodInHeld45⟩
noncomputable def y52:=Y t52 t52
theorem oy52:O 52 y52:=⟨type52,underlying52,tf,tf⟩
noncomputable def y55:=Y t55 t55
theorem oy55:O 55 y55:=⟨type55,underlying55,tf,tf⟩
noncomputable def y66:=Y t66 t66
theorem oy66:O 66 y66:=⟨type66,underlying66,tf,tf⟩
noncomputable def y67:TyE:=⟨t67,t67,false,false⟩
theorem oy67:O 67 y67:=⟨type67,underlying67,fun _=>eqGuardType67,fun _=>stoodInHeld67⟩
noncomputable def y68:TyE:=⟨t68,t67,false,false⟩
theorem oy68:O 68 y68:=⟨type68,underlying68,fun _=>eqGuardType68,fun _=>stoodInHeld68⟩
noncomputable def y77:TyE:=⟨t77,t77,false,false⟩
theorem oy77:O 77 y77:=⟨type77,underlying77,fun _=>eqGuardType77,fun _=>stoodInHeld77⟩
noncomputable def y78:TyE:=⟨t78,t77,false,false⟩
theorem oy78:O 78 y78:=⟨type78,underlying78,fun _=>eqGuardType78,fun _=>stoodInHeld78⟩
noncomputable def y79:TyE:=⟨t79,t79,false,false⟩
theorem oy79:O 79 y79:=⟨type79,underlying79,fun _=>eqGuardType79,fun _=>stoodInHeld79⟩
noncomputable def y80:TyE:=⟨t80,t79,false,false⟩
theorem oy80:O 80 y80:=⟨type80,underlying80,fun _=>eqGuardType80,fun _=>stoodInHeld80⟩
noncomputable def y85:=Y t85 t85
theorem oy85:O 85 y85:=⟨type85,underlying85,tf,tf⟩
noncomputable def y94:=Y t94 t94
theorem oy94:O 94 y94:=⟨type94,underlying94,tf,tf⟩
noncomputable def y97:=Y t97 t97
theorem oy97:O 97 y97:=⟨type97,underlying97,tf,tf⟩
noncomputable def y102:=Y t102 t102
theorem oy102:O 102 y102:=⟨type102,underlying102,tf,tf⟩
noncomputable def y108:TyE:=⟨t108,t108,false,false⟩
theorem oy108:O 108 y108:=⟨type108,underlying108,fun _=>eqGuardType108,fun _=>stoodInHeld108⟩
noncomputable def y109:TyE:=⟨t109,t108,false,false⟩
theorem oy109:O 109 y109:=⟨type109,underlying109,fun _=>eqGuardType109,fun _=>stoodInHeld109⟩
noncomputable def y110:=Y t110 t110
theorem oy110:O 110 y110:=⟨type110,underlying110,tf,tf⟩
noncomputable def y120:=Y t120 t120
theorem oy120:O 120 y120:=⟨type120,underlying120,tf,tf⟩
noncomputable def y123:=Y t123 t9
theorem oy123:O 123 y123:=⟨type123,underlying123,tf,tf⟩
noncomputable def y124:TyE:=⟨t124,t124,false,false⟩
theorem oy124:O 124 y124:=⟨type124,underlying124,fun _=>eqGuardType124,fun _=>stoodInHeld124⟩
noncomputable def y125:TyE:=⟨t125,t124,false,false⟩
theorem oy125:O 125 y125:=⟨type125,underlying125,fun _=>eqGuardType125,fun _=>stoodInHeld125⟩
noncomputable def y126:TyE:=⟨t126,t77,false,false⟩
theorem oy126:O 126 y126:=⟨type126,underlying126,fun _=>eqGuardType126,fun _=>stoodInHeld126⟩
noncomputable def y127:TyE:=⟨t127,t127,false,false⟩
theorem oy127:O 127 y127:=⟨type127,underlying127,fun _=>eqGuardType127,fun _=>stoodInHeld127⟩
noncomputable def y128:TyE:=⟨t128,t127,false,false⟩
theorem oy128:O 128 y128:=⟨type128,underlying128,fun _=>eqGuardType128,fun _=>stoodInHeld128⟩
noncomputable def y129:TyE:=⟨t129,t129,false,false⟩
theorem oy129:O 129 y129:=⟨type129,underlying129,fun _=>eqGuardType129,fun _=>stoodInHeld129⟩
noncomputable def y130:TyE:=⟨t130,t129,false,false⟩
theorem oy130:O 130 y130:=⟨type130,underlying130,fun _=>eqGuardType130,fun _=>stoodInHeld130⟩
noncomputable def y135:=Y t135 t135
theorem oy135:O 135 y135:=⟨type135,underlying135,tf,tf⟩
noncomputable def y140:=Y t140 t140
theorem oy140:O 140 y140:=⟨type140,underlying140,tf,tf⟩
noncomputable def y141:=Y t141 t141
theorem oy141:O 141 y141:=⟨type141,underlying141,tf,tf⟩
noncomputable def y150:=Y t150 t150
theorem oy150:O 150 y150:=⟨type150,underlying150,tf,tf⟩
noncomputable def y155:=Y t155 t155
theorem oy155:O 155 y155:=⟨type155,underlying155,tf,tf⟩
noncomputable def y161:TyE:=⟨t161,t108,false,false⟩
theorem oy161:O 161 y161:=⟨type161,underlying161,fun _=>eqGuardType161,fun _=>stoodInHeld161⟩
noncomputable def y169:=Y t169 t169
theorem oy169:O 169 y169:=⟨type169,underlying169,tf,tf⟩
noncomputable def y170:TyE:=⟨t170,t170,false,false⟩
theorem oy170:O 170 y170:=⟨type170,underlying170,fun _=>eqGuardType170,fun _=>stoodInHeld170⟩
noncomputable def y171:TyE:=⟨t171,t170,false,false⟩
theorem oy171:O 171 y171:=⟨type171,underlying171,fun _=>eqGuardType171,fun _=>stoodInHeld171⟩
noncomputable def y172:TyE:=⟨t172,t172,false,false⟩
theorem oy172:O 172 y172:=⟨type172,underlying172,fun _=>eqGuardType172,fun _=>stoodInHeld172⟩
noncomputable def y173:TyE:=⟨t173,t172,false,false⟩
theorem oy173:O 173 y173:=⟨type173,underlying173,fun _=>eqGuardType173,fun _=>stoodInHeld173⟩
noncomputable def y175:=Y t175 t175
theorem oy175:O 175 y175:=⟨type175,underlying175,tf,tf⟩
noncomputable def y176:=Y t176 t176
theorem oy176:O 176 y176:=⟨type176,underlying176,tf,tf⟩
noncomputable def y178:=Y t178 t178
theorem oy178:O 178 y178:=⟨type178,underlying178,tf,tf⟩
noncomputable def y179:=Y t179 t179
theorem oy179:O 179 y179:=⟨type179,underlying179,tf,tf⟩
noncomputable def y180:TyE:=⟨t180,t180,false,false⟩
theorem oy180:O 180 y180:=⟨type180,underlying180,fun _=>eqGuardType180,fun _=>stoodInHeld180⟩
noncomputable def y181:TyE:=⟨t181,t180,false,false⟩
theorem oy181:O 181 y181:=⟨type181,underlying181,fun _=>eqGuardType181,fun _=>stoodInHeld181⟩
noncomputable def y183:=Y t183 t183
theorem oy183:O 183 y183:=⟨type183,underlying183,tf,tf⟩
noncomputable def y186:=Y t186 t186
theorem oy186:O 186 y186:=⟨type186,underlying186,tf,tf⟩
noncomputable def y191:=Y t191 t191
theorem oy191:O 191 y191:=⟨type191,underlying191,tf,tf⟩
noncomputable def y196:=Y t196 t196
theorem oy196:O 196 y196:=⟨type196,underlying196,tf,tf⟩
noncomputable def y197:TyE:=⟨t197,t197,false,false⟩
theorem oy197:O 197 y197:=⟨type197,underlying197,fun _=>eqGuardType197,fun _=>stoodInHeld197⟩
noncomputable def y198:TyE:=⟨t198,t197,false,false⟩
theorem oy198:O 198 y198:=⟨type198,underlying198,fun _=>eqGuardType198,fun _=>stoodInHeld198⟩
noncomputable def y200:=Y t200 t200
theorem oy200:O 200 y200:=⟨type200,underlying200,tf,tf⟩
noncomputable def y201:TyE:=⟨t201,t201,false,false⟩
theorem oy201:O 201 y201:=⟨type201,underlying201,fun _=>eqGuardType201,fun _=>stoodInHeld201⟩
noncomputable def y202:TyE:=⟨t202,t201,false,false⟩
theorem oy202:O 202 y202:=⟨type202,underlying202,fun _=>eqGuardType202,fun _=>stoodInHeld202⟩
noncomputable def y205:=Y t205 t205
theorem oy205:O 205 y205:=⟨type205,underlying205,tf,tf⟩
noncomputable def y208:=Y t208 t208
theorem oy208:O 208 y208:=⟨type208,underlying208,tf,tf⟩
noncomputable def y210:=Y t210 t210
theorem oy210:O 210 y210:=⟨type210,underlying210,tf,tf⟩
noncomputable def y213:=Y t213 t213
theorem oy213:O 213 y213:=⟨type213,underlying213,tf,tf⟩
noncomputable def y225:=Y t225 t225
theorem oy225:O 225 y225:=⟨type225,underlying225,tf,tf⟩
noncomputable def y248:=Y t248 t3
theorem oy248:O 248 y248:=⟨type248,underlying248,tf,tf⟩
noncomputable def y259:=Y t259 t259
theorem oy259:O 259 y259:=⟨type259,underlying259,tf,tf⟩
noncomputable def y260:=Y t260 t260
theorem oy260:O 260 y260:=⟨type260,underlying260,tf,tf⟩
noncomputable def y261:TyE:=⟨t261,t261,false,false⟩
theorem oy261:O 261 y261:=⟨type261,underlying261,fun _=>eqGuardType261,fun _=>stoodInHeld261⟩
noncomputable def y262:TyE:=⟨t262,t261,false,false⟩
theorem oy262:O 262 y262:=⟨type262,underlying262,fun _=>eqGuardType262,fun _=>stoodInHeld262⟩
noncomputable def y269:=Y t269 t269
theorem oy269:O 269 y269:=⟨type269,underlying269,tf,tf⟩
noncomputable def y271:=Y t271 t271
theorem oy271:O 271 y271:=⟨type271,underlying271,tf,tf⟩
noncomputable def y302:TyE:=⟨t302,t302,false,true⟩
theorem oy302:O 302 y302:=⟨type302,underlying302,fun _=>eqGuardType302,tf⟩
noncomputable def g3:FnE:=⟨f3,19807038230489354773194599436⟩
theorem og3:G 3 g3:=⟨func3,by kernel_rfl⟩
noncomputable def g4:FnE:=⟨f4,10141204801733457376416968466480⟩
theorem og4:G 4 g4:=⟨func4,by kernel_rfl⟩
noncomputable def g12:FnE:=⟨f12,295147899681794685696⟩
theorem og12:G 12 g12:=⟨func12,by kernel_rfl⟩
noncomputable def g13:FnE:=⟨f13,52642533546846546310999975170948084646837713198404855873675460608⟩
theorem og13:G 13 g13:=⟨func13,by kernel_rfl⟩
noncomputable def g15:FnE:=⟨f15,1125899897929676⟩
theorem og15:G 15 g15:=⟨func15,by kernel_rfl⟩
noncomputable def g16:FnE:=⟨f16,26959946667150639794667015043463487707757021099228622729837144965120⟩
theorem og16:G 16 g16:=⟨func16,by kernel_rfl⟩
noncomputable def g17:FnE:=⟨f17,3810⟩
theorem og17:G 17 g17:=⟨func17,by kernel_rfl⟩
noncomputable def g18:FnE:=⟨f18,8387602⟩
theorem og18:G 18 g18:=⟨func18,by kernel_rfl⟩
noncomputable def g19:FnE:=⟨f19,9002801082137100⟩
theorem og19:G 19 g19:=⟨func19,by kernel_rfl⟩
noncomputable def g20:FnE:=⟨f20,18013019822878402⟩
theorem og20:G 20 g20:=⟨func20,by kernel_rfl⟩
noncomputable def g21:FnE:=⟨f21,105381049076514⟩
theorem og21:G 21 g21:=⟨func21,by kernel_rfl⟩
noncomputable def g22:FnE:=⟨f22,33536972⟩
theorem og22:G 22 g22:=⟨func22,by kernel_rfl⟩
noncomputable def g23:FnE:=⟨f23,68450974594⟩
theorem og23:G 23 g23:=⟨func23,by kernel_rfl⟩
noncomputable def g24:FnE:=⟨f24,33536972⟩
theorem og24:G 24 g24:=⟨func24,by kernel_rfl⟩
noncomputable def g25:FnE:=⟨f25,2249600756350476⟩
theorem og25:G 25 g25:=⟨func25,by kernel_rfl⟩
noncomputable def g26:FnE:=⟨f26,143824908147752840⟩
theorem og26:G 26 g26:=⟨func26,by kernel_rfl⟩
noncomputable def g27:FnE:=⟨f27,9002801208082480⟩
theorem og27:G 27 g27:=⟨func27,by kernel_rfl⟩
noncomputable def g28:FnE:=⟨f28,134156240⟩
theorem og28:G 28 g28:=⟨func28,by kernel_rfl⟩
noncomputable def g29:FnE:=⟨f29,9893847687935168893167319936⟩
theorem og29:G 29 g29:=⟨func29,by kernel_rfl⟩
noncomputable def g30:FnE:=⟨f30,785868⟩
theorem og30:G 30 g30:=⟨func30,by kernel_rfl⟩
noncomputable def g31:FnE:=⟨f31,149904440448367851444568112⟩
theorem og31:G 31 g31:=⟨func31,by kernel_rfl⟩
noncomputable def g32:FnE:=⟨f32,2251799804772300⟩
theorem og32:G 32 g32:=⟨func32,by kernel_rfl⟩
noncomputable def g33:FnE:=⟨f33,67644652044⟩
theorem og33:G 33 g33:=⟨func33,by kernel_rfl⟩
noncomputable def g34:FnE:=⟨f34,261138⟩
theorem og34:G 34 g34:=⟨func34,by kernel_rfl⟩
noncomputable def g35:FnE:=⟨f35,25767706424⟩
theorem og35:G 35 g35:=⟨func35,by kernel_rfl⟩
noncomputable def g36:FnE:=⟨f36,567453552985243426⟩
theorem og36:G 36 g36:=⟨func36,by kernel_rfl⟩
noncomputable def g37:FnE:=⟨f37,2233785139995834050⟩
theorem og37:G 37 g37:=⟨func37,by kernel_rfl⟩
noncomputable def g38:FnE:=⟨f38,4127628⟩
theorem og38:G 38 g38:=⟨func38,by kernel_rfl⟩
noncomputable def g40:FnE:=⟨f40,33545736⟩
theorem og40:G 40 g40:=⟨func40,by kernel_rfl⟩
noncomputable def g42:FnE:=⟨f42,576451948140558384⟩
theorem og42:G 42 g42:=⟨func42,by kernel_rfl⟩
noncomputable def g44:FnE:=⟨f44,141976866082749003550222603776512⟩
theorem og44:G 44 g44:=⟨func44,by kernel_rfl⟩
noncomputable def g49:FnE:=⟨f49,35183817389936⟩
theorem og49:G 49 g49:=⟨func49,by kernel_rfl⟩
noncomputable def g50:FnE:=⟨f50,1125624995372992⟩
theorem og50:G 50 g50:=⟨func50,by kernel_rfl⟩
noncomputable def g51:FnE:=⟨f51,78609192475661493022977159176⟩
theorem og51:G 51 g51:=⟨func51,by kernel_rfl⟩
noncomputable def g54:FnE:=⟨f54,309484991302279513887346744⟩
theorem og54:G 54 g54:=⟨func54,by kernel_rfl⟩
noncomputable def g55:FnE:=⟨f55,18374123521530904816⟩
theorem og55:G 55 g55:=⟨func55,by kernel_rfl⟩
noncomputable def g56:FnE:=⟨f56,139602792354904304⟩
theorem og56:G 56 g56:=⟨func56,by kernel_rfl⟩
noncomputable def g57:FnE:=⟨f57,68718952248⟩
theorem og57:G 57 g57:=⟨func57,by kernel_rfl⟩
noncomputable def g58:FnE:=⟨f58,3808⟩
theorem og58:G 58 g58:=⟨func58,by kernel_rfl⟩
noncomputable def g59:FnE:=⟨f59,285978301459061760⟩
theorem og59:G 59 g59:=⟨func59,by kernel_rfl⟩
noncomputable def g60:FnE:=⟨f60,554596854107947808468154433792⟩
theorem og60:G 60 g60:=⟨func60,by kernel_rfl⟩
noncomputable def g61:FnE:=⟨f61,33536972⟩
theorem og61:G 61 g61:=⟨func61,by kernel_rfl⟩
noncomputable def g62:FnE:=⟨f62,261138⟩
theorem og62:G 62 g62:=⟨func62,by kernel_rfl⟩
noncomputable def g63:FnE:=⟨f63,2198955880320⟩
theorem og63:G 63 g63:=⟨func63,by kernel_rfl⟩
noncomputable def g64:FnE:=⟨f64,67091404⟩
theorem og64:G 64 g64:=⟨func64,by kernel_rfl⟩
noncomputable def g65:FnE:=⟨f65,2234205480148736⟩
theorem og65:G 65 g65:=⟨func65,by kernel_rfl⟩
noncomputable def g66:FnE:=⟨f66,262120⟩
theorem og66:G 66 g66:=⟨func66,by kernel_rfl⟩
noncomputable def g67:FnE:=⟨f67,10139966861638957863675444855352⟩
theorem og67:G 67 g67:=⟨func67,by kernel_rfl⟩
noncomputable def g70:FnE:=⟨f70,20282097700790209832023897374960⟩
theorem og70:G 70 g70:=⟨func70,by kernel_rfl⟩
noncomputable def g71:FnE:=⟨f71,236⟩
theorem og71:G 71 g71:=⟨func71,by kernel_rfl⟩
noncomputable def g72:FnE:=⟨f72,1048574⟩
theorem og72:G 72 g72:=⟨func72,by kernel_rfl⟩
noncomputable def g73:FnE:=⟨f73,170141164445710228031274887397315257356⟩
theorem og73:G 73 g73:=⟨func73,by kernel_rfl⟩
noncomputable def g74:FnE:=⟨f74,137302737484⟩
theorem og74:G 74 g74:=⟨func74,by kernel_rfl⟩
noncomputable def g75:FnE:=⟨f75,8323008⟩
theorem og75:G 75 g75:=⟨func75,by kernel_rfl⟩
noncomputable def g76:FnE:=⟨f76,28170⟩
theorem og76:G 76 g76:=⟨func76,by kernel_rfl⟩
noncomputable def g77:FnE:=⟨f77,65464⟩
theorem og77:G 77 g77:=⟨func77,by kernel_rfl⟩
noncomputable def g78:FnE:=⟨f78,523808⟩
theorem og78:G 78 g78:=⟨func78,by kernel_rfl⟩
noncomputable def g79:FnE:=⟨f79,137438953456⟩
theorem og79:G 79 g79:=⟨func79,by kernel_rfl⟩
noncomputable def g80:FnE:=⟨f80,76⟩
theorem og80:G 80 g80:=⟨func80,by kernel_rfl⟩
noncomputable def g81:FnE:=⟨f81,260178⟩
theorem og81:G 81 g81:=⟨func81,by kernel_rfl⟩
noncomputable def g82:FnE:=⟨f82,132091904⟩
theorem og82:G 82 g82:=⟨func82,by kernel_rfl⟩
noncomputable def g83:FnE:=⟨f83,130508⟩
theorem og83:G 83 g83:=⟨func83,by kernel_rfl⟩
noncomputable def g84:FnE:=⟨f84,876⟩
theorem og84:G 84 g84:=⟨func84,by kernel_rfl⟩
noncomputable def g85:FnE:=⟨f85,16251848⟩
theorem og85:G 85 g85:=⟨func85,by kernel_rfl⟩
noncomputable def g86:FnE:=⟨f86,262124⟩
theorem og86:G 86 g86:=⟨func86,by kernel_rfl⟩
noncomputable def g87:FnE:=⟨f87,240517919032⟩
theorem og87:G 87 g87:=⟨func87,by kernel_rfl⟩
noncomputable def g88:FnE:=⟨f88,136902082082⟩
theorem og88:G 88 g88:=⟨func88,by kernel_rfl⟩
noncomputable def g89:FnE:=⟨f89,36028797018824642⟩
theorem og89:G 89 g89:=⟨func89,by kernel_rfl⟩
noncomputable def g90:FnE:=⟨f90,16360⟩
theorem og90:G 90 g90:=⟨func90,by kernel_rfl⟩
noncomputable def g91:FnE:=⟨f91,648955538673675682620315044643080⟩
theorem og91:G 91 g91:=⟨func91,by kernel_rfl⟩
noncomputable def g92:FnE:=⟨f92,234⟩
theorem og92:G 92 g92:=⟨func92,by kernel_rfl⟩
noncomputable def g93:FnE:=⟨f93,32744⟩
theorem og93:G 93 g93:=⟨func93,by kernel_rfl⟩
noncomputable def g94:FnE:=⟨f94,33521506⟩
theorem og94:G 94 g94:=⟨func94,by kernel_rfl⟩
noncomputable def g95:FnE:=⟨f95,492⟩
theorem og95:G 95 g95:=⟨func95,by kernel_rfl⟩
noncomputable def g96:FnE:=⟨f96,492⟩
theorem og96:G 96 g96:=⟨func96,by kernel_rfl⟩
noncomputable def g97:FnE:=⟨f97,506⟩
theorem og97:G 97 g97:=⟨func97,by kernel_rfl⟩
noncomputable def g98:FnE:=⟨f98,16360⟩
theorem og98:G 98 g98:=⟨func98,by kernel_rfl⟩
noncomputable def g100:FnE:=⟨f100,2722⟩
theorem og100:G 100 g100:=⟨func100,by kernel_rfl⟩
noncomputable def g101:FnE:=⟨f101,250⟩
theorem og101:G 101 g101:=⟨func101,by kernel_rfl⟩
noncomputable def g102:FnE:=⟨f102,18009998449640752⟩
theorem og102:G 102 g102:=⟨func102,by kernel_rfl⟩
noncomputable def g103:FnE:=⟨f103,34090770444⟩
theorem og103:G 103 g103:=⟨func103,by kernel_rfl⟩
noncomputable def g105:FnE:=⟨f105,65464⟩
theorem og105:G 105 g105:=⟨func105,by kernel_rfl⟩
noncomputable def g106:FnE:=⟨f106,135255752760⟩
theorem og106:G 106 g106:=⟨func106,by kernel_rfl⟩
noncomputable def g107:FnE:=⟨f107,1006628408⟩
theorem og107:G 107 g107:=⟨func107,by kernel_rfl⟩
noncomputable def g108:FnE:=⟨f108,1006628408⟩
theorem og108:G 108 g108:=⟨func108,by kernel_rfl⟩
noncomputable def g109:FnE:=⟨f109,496⟩
theorem og109:G 109 g109:=⟨func109,by kernel_rfl⟩
noncomputable def g110:FnE:=⟨f110,8972014605696256⟩
theorem og110:G 110 g110:=⟨func110,by kernel_rfl⟩
noncomputable def g111:FnE:=⟨f111,18005598385994380⟩
theorem og111:G 111 g111:=⟨func111,by kernel_rfl⟩
noncomputable def g112:FnE:=⟨f112,549755776224⟩
theorem og112:G 112 g112:=⟨func112,by kernel_rfl⟩
noncomputable def g113:FnE:=⟨f113,2013386110236884242⟩
theorem og113:G 113 g113:=⟨func113,by kernel_rfl⟩
noncomputable def g114:FnE:=⟨f114,17179868128⟩
theorem og114:G 114 g114:=⟨func114,by kernel_rfl⟩
noncomputable def g115:FnE:=⟨f115,58⟩
theorem og115:G 115 g115:=⟨func115,by kernel_rfl⟩
noncomputable def g116:FnE:=⟨f116,65504⟩
theorem og116:G 116 g116:=⟨func116,by kernel_rfl⟩
noncomputable def g117:FnE:=⟨f117,1125897743506690⟩
theorem og117:G 117 g117:=⟨func117,by kernel_rfl⟩
noncomputable def g118:FnE:=⟨f118,16364⟩
theorem og118:G 118 g118:=⟨func118,by kernel_rfl⟩
noncomputable def g119:FnE:=⟨f119,65504⟩
theorem og119:G 119 g119:=⟨func119,by kernel_rfl⟩
noncomputable def g120:FnE:=⟨f120,137302737484⟩
theorem og120:G 120 g120:=⟨func120,by kernel_rfl⟩
noncomputable def g121:FnE:=⟨f121,520128⟩
theorem og121:G 121 g121:=⟨func121,by kernel_rfl⟩
noncomputable def g122:FnE:=⟨f122,65512⟩
theorem og122:G 122 g122:=⟨func122,by kernel_rfl⟩
noncomputable def g123:FnE:=⟨f123,444300⟩
theorem og123:G 123 g123:=⟨func123,by kernel_rfl⟩
noncomputable def g124:FnE:=⟨f124,457804⟩
theorem og124:G 124 g124:=⟨func124,by kernel_rfl⟩
noncomputable def g125:FnE:=⟨f125,2⟩
theorem og125:G 125 g125:=⟨func125,by kernel_rfl⟩
noncomputable def g126:FnE:=⟨f126,508⟩
theorem og126:G 126 g126:=⟨func126,by kernel_rfl⟩
noncomputable def g127:FnE:=⟨f127,32728⟩
theorem og127:G 127 g127:=⟨func127,by kernel_rfl⟩
noncomputable def g128:FnE:=⟨f128,506⟩
theorem og128:G 128 g128:=⟨func128,by kernel_rfl⟩
noncomputable def g129:FnE:=⟨f129,8⟩
theorem og129:G 129 g129:=⟨func129,by kernel_rfl⟩
noncomputable def g130:FnE:=⟨f130,131066⟩
theorem og130:G 130 g130:=⟨func130,by kernel_rfl⟩
noncomputable def g131:FnE:=⟨f131,129777480⟩
theorem og131:G 131 g131:=⟨func131,by kernel_rfl⟩
noncomputable def g132:FnE:=⟨f132,19787688961014531718121519288⟩
theorem og132:G 132 g132:=⟨func132,by kernel_rfl⟩
noncomputable def g133:FnE:=⟨f133,457804⟩
theorem og133:G 133 g133:=⟨func133,by kernel_rfl⟩
noncomputable def g135:FnE:=⟨f135,34359738362⟩
theorem og135:G 135 g135:=⟨func135,by kernel_rfl⟩
noncomputable def g136:FnE:=⟨f136,492⟩
theorem og136:G 136 g136:=⟨func136,by kernel_rfl⟩
noncomputable def g139:FnE:=⟨f139,70364717521936⟩
theorem og139:G 139 g139:=⟨func139,by kernel_rfl⟩
noncomputable def g140:FnE:=⟨f140,508⟩
theorem og140:G 140 g140:=⟨func140,by kernel_rfl⟩
noncomputable def g141:FnE:=⟨f141,992⟩
theorem og141:G 141 g141:=⟨func141,by kernel_rfl⟩
noncomputable def g142:FnE:=⟨f142,2042⟩
theorem og142:G 142 g142:=⟨func142,by kernel_rfl⟩
noncomputable def g143:FnE:=⟨f143,2305825412699119298⟩
theorem og143:G 143 g143:=⟨func143,by kernel_rfl⟩
noncomputable def g144:FnE:=⟨f144,8184⟩
theorem og144:G 144 g144:=⟨func144,by kernel_rfl⟩
noncomputable def g145:FnE:=⟨f145,56⟩
theorem og145:G 145 g145:=⟨func145,by kernel_rfl⟩
noncomputable def g146:FnE:=⟨f146,147569440192882146304⟩
theorem og146:G 146 g146:=⟨func146,by kernel_rfl⟩
noncomputable def g147:FnE:=⟨f147,17178820288⟩
theorem og147:G 147 g147:=⟨func147,by kernel_rfl⟩
noncomputable def g148:FnE:=⟨f148,73786974078634817536⟩
theorem og148:G 148 g148:=⟨func148,by kernel_rfl⟩
noncomputable def g149:FnE:=⟨f149,26⟩
theorem og149:G 149 g149:=⟨func149,by kernel_rfl⟩
noncomputable def g150:FnE:=⟨f150,480⟩
theorem og150:G 150 g150:=⟨func150,by kernel_rfl⟩
noncomputable def g151:FnE:=⟨f151,356811880641193946689691826088336933575984096⟩
theorem og151:G 151 g151:=⟨func151,by kernel_rfl⟩
noncomputable def g152:FnE:=⟨f152,250⟩
theorem og152:G 152 g152:=⟨func152,by kernel_rfl⟩
noncomputable def g153:FnE:=⟨f153,536334304⟩
theorem og153:G 153 g153:=⟨func153,by kernel_rfl⟩
noncomputable def g154:FnE:=⟨f154,272728293432⟩
theorem og154:G 154 g154:=⟨func154,by kernel_rfl⟩
noncomputable def g155:FnE:=⟨f155,589124870023115943936⟩
theorem og155:G 155 g155:=⟨func155,by kernel_rfl⟩
noncomputable def g156:FnE:=⟨f156,58⟩
theorem og156:G 156 g156:=⟨func156,by kernel_rfl⟩
noncomputable def g157:FnE:=⟨f157,9205357602911804472⟩
theorem og157:G 157 g157:=⟨func157,by kernel_rfl⟩
noncomputable def g158:FnE:=⟨f158,17557352333824⟩
theorem og158:G 158 g158:=⟨func158,by kernel_rfl⟩
noncomputable def g159:FnE:=⟨f159,8152⟩
theorem og159:G 159 g159:=⟨func159,by kernel_rfl⟩
noncomputable def g160:FnE:=⟨f160,8108⟩
theorem og160:G 160 g160:=⟨func160,by kernel_rfl⟩
noncomputable def g161:FnE:=⟨f161,8⟩
theorem og161:G 161 g161:=⟨func161,by kernel_rfl⟩
noncomputable def g162:FnE:=⟨f162,2013264920⟩
theorem og162:G 162 g162:=⟨func162,by kernel_rfl⟩
noncomputable def g163:FnE:=⟨f163,128900⟩
theorem og163:G 163 g163:=⟨func163,by kernel_rfl⟩
noncomputable def g164:FnE:=⟨f164,31716⟩
theorem og164:G 164 g164:=⟨func164,by kernel_rfl⟩
noncomputable def g165:FnE:=⟨f165,8152⟩
theorem og165:G 165 g165:=⟨func165,by kernel_rfl⟩
noncomputable def g166:FnE:=⟨f166,457804⟩
theorem og166:G 166 g166:=⟨func166,by kernel_rfl⟩
noncomputable def g167:FnE:=⟨f167,137302737484⟩
theorem og167:G 167 g167:=⟨func167,by kernel_rfl⟩
noncomputable def g168:FnE:=⟨f168,65368⟩
theorem og168:G 168 g168:=⟨func168,by kernel_rfl⟩
noncomputable def g169:FnE:=⟨f169,9205357602911804472⟩
theorem og169:G 169 g169:=⟨func169,by kernel_rfl⟩
noncomputable def g176:FnE:=⟨f176,120⟩
theorem og176:G 176 g176:=⟨func176,by kernel_rfl⟩
noncomputable def g178:FnE:=⟨f178,8380320⟩
theorem og178:G 178 g178:=⟨func178,by kernel_rfl⟩
noncomputable def g179:FnE:=⟨f179,2096576⟩
theorem og179:G 179 g179:=⟨func179,by kernel_rfl⟩
noncomputable def g180:FnE:=⟨f180,2251799813668876⟩
theorem og180:G 180 g180:=⟨func180,by kernel_rfl⟩
noncomputable def g181:FnE:=⟨f181,1002⟩
theorem og181:G 181 g181:=⟨func181,by kernel_rfl⟩
noncomputable def g183:FnE:=⟨f183,248⟩
theorem og183:G 183 g183:=⟨func183,by kernel_rfl⟩
noncomputable def g184:FnE:=⟨f184,9007182074854640⟩
theorem og184:G 184 g184:=⟨func184,by kernel_rfl⟩
noncomputable def g193:FnE:=⟨f193,33537770⟩
theorem og193:G 193 g193:=⟨func193,by kernel_rfl⟩
noncomputable def g195:FnE:=⟨f195,26⟩
theorem og195:G 195 g195:=⟨func195,by kernel_rfl⟩
noncomputable def g201:FnE:=⟨f201,9007182074854640⟩
theorem og201:G 201 g201:=⟨func201,by kernel_rfl⟩
noncomputable def g203:FnE:=⟨f203,261876⟩
theorem og203:G 203 g203:=⟨func203,by kernel_rfl⟩
noncomputable def g204:FnE:=⟨f204,457804⟩
theorem og204:G 204 g204:=⟨func204,by kernel_rfl⟩
noncomputable def g205:FnE:=⟨f205,240⟩
theorem og205:G 205 g205:=⟨func205,by kernel_rfl⟩
noncomputable def g206:FnE:=⟨f206,9007182074854640⟩
theorem og206:G 206 g206:=⟨func206,by kernel_rfl⟩
noncomputable def g214:FnE:=⟨f214,131052⟩
theorem og214:G 214 g214:=⟨func214,by kernel_rfl⟩
noncomputable def g220:FnE:=⟨f220,472⟩
theorem og220:G 220 g220:=⟨func220,by kernel_rfl⟩
noncomputable def g221:FnE:=⟨f221,19305034181970009853461504⟩
theorem og221:G 221 g221:=⟨func221,by kernel_rfl⟩
noncomputable def g227:FnE:=⟨f227,26⟩
theorem og227:G 227 g227:=⟨func227,by kernel_rfl⟩
noncomputable def g244:FnE:=⟨f244,18014381321090316⟩
theorem og244:G 244 g244:=⟨func244,by kernel_rfl⟩
noncomputable def g245:FnE:=⟨f245,32746⟩
theorem og245:G 245 g245:=⟨func245,by kernel_rfl⟩
noncomputable def tyTab:Tr TyE :=
 (.node (.node (N (.node (.node (.node (.node (L y127) none (L y191)) none K0) none (.node (N (.node (L y271) none K0) y79 K0) none (.node (L y175) none K0))) none (.node (N (.node (L y135) none K0) y39 K0) none (N K0 y55 (.node (L y183) none K0)))) y3 (.node (.node (.node (N (.node (L y259) none K0) y67 K0) none K0) none (.node K0 none (.node (L y179) none K0))) none (.node (.node K0 none (.node (L y171) none K0)) none (.node (.node (L y155) none K0) none (L y123))))) none (N (N (.node (.node (.node (L y129) none K0) none (N (L y161) y97 (L y225))) none K0) y9 (N (N (.node K0 none (L y201)) y41 (.node (L y169) none K0)) y25 K0)) y5 (.node (N (.node (.node (.node (L y261) none K0) none (L y197)) none K0) y21 (.node (N K0 y85 (L y213)) none (.node (L y181) none K0))) none (.node (N (N (N (L y269) y141 K0) y77 (L y205)) y45 (N (L y173) y109 K0)) none (.node K0 none (L y125)))))) none (N (N (.node (.node (.node (.node (L y128) none K0) none K0) none (.node (N K0 y80 (L y208)) none (.node (L y176) none K0))) none (.node (N (.node K0 none (L y200)) y40 K0) none (.node K0 none (N K0 y120 (L y248))))) y4 (.node (.node (.node (N (.node (L y260) none K0) y68 (L y196)) none K0) none (N K0 y52 (.node (L y180) none K0))) none (.node (.node (.node (L y140) none K0) none (N (L y172) y108 K0)) none (.node K0 none (L y124))))) y2 (.node (.node (.node (.node (N (L y130) y66 K0) none K0) none (.node (.node K0 none (L y210)) none (.node (L y178) none K0))) none (N (.node (.node K0 none (L y202)) none (.node (L y170) none K0)) y26 (.node K0 none (.node (L y186) none K0)))) none (.node (N (.node (.node (.node (L y262) none K0) none (L y198)) none (L y102)) y22 (.node (.node (L y150) none K0) none K0)) none (N (.node (L y78) none (N (.node (L y302) none K0) y110 K0)) y30 (.node (L y94) none (L y126)))))))
noncomputable def fnTab:Tr FnE :=
 (.node (.node (N (.node (N (N (N (L g127) g63 K0) g31 (N (L g159) g95 K0)) g15 (.node (N (L g143) g79 K0) none (L g111))) none (N (.node (N (L g135) g71 K0) none (N (L g167) g103 K0)) g23 (N (N (L g151) g87 K0) g55 (N (L g183) g119 K0)))) g3 (.node (N (N (N (L g131) g67 (L g195)) g35 (.node (L g163) none (L g227))) g19 (N (N (L g147) g83 K0) g51 (N (L g179) g115 K0))) none (N (.node (N (L g139) g75 (L g203)) none (L g107)) g27 (N (N (L g155) g91 K0) g59 (L g123))))) none (.node (.node (N (N (N (L g129) g65 (L g193)) g33 (N (L g161) g97 K0)) g17 (N (N (L g145) g81 K0) g49 (L g113))) none (N (.node (N K0 g73 (L g201)) none (N (L g169) g105 K0)) g25 (N (N (L g153) g89 K0) g57 (L g121)))) none (N (N (N (.node (L g133) none K0) g37 (N (L g165) g101 K0)) g21 (.node (N (L g149) g85 K0) none (N (L g181) g117 (L g245)))) g13 (N (.node (N (L g141) g77 (L g205)) none (L g109)) g29 (N (N (L g157) g93 (L g221)) g61 (L g125)))))) none (.node (N (.node (N (N (N (L g128) g64 K0) g32 (N (L g160) g96 K0)) g16 (.node (N (L g144) g80 K0) none (N (L g176) g112 K0))) none (N (N (N (L g136) g72 K0) g40 (.node (L g168) none K0)) g24 (N (N (L g152) g88 K0) g56 (N (L g184) g120 K0)))) g4 (N (N (N (.node (L g132) none K0) g36 (N (L g164) g100 K0)) g20 (.node (N (L g148) g84 K0) none (N (L g180) g116 (L g244)))) g12 (N (N (N (L g140) g76 (L g204)) g44 (L g108)) g28 (N (N (L g156) g92 (L g220)) g60 (L g124))))) none (.node (.node (N (N (N (L g130) g66 K0) g34 (N (L g162) g98 K0)) g18 (N (N (L g146) g82 K0) g50 (N (L g178) g114 K0))) none (N (N (L g74) g42 (L g106)) g26 (N (N (L g154) g90 K0) g58 (L g122)))) none (.node (N (N (L g70) g38 (N (L g166) g102 K0)) g22 (N (N (L g150) g86 (L g214)) g54 (L g118))) none (N (.node (N (L g142) g78 (L g206)) none (L g110)) g30 (N (N (L g158) g94 K0) g62 (L g126)))))))
noncomputable def tab:Tab:=⟨tyTab,fnTab,fun f=>false,fun t=>false,ipT,fun t=>t == 22 || t == 97,fun _=>false,fun _=>none,fun _=>none⟩
theorem tyAll:tyTab.All (TyOk Tryz.prog) id :=
 ⟨T,⟨T,⟨oy3,⟨T,⟨T,⟨T,⟨T,⟨oy127,T,T⟩,⟨oy191,T,T⟩⟩,T⟩,⟨T,⟨oy79,⟨T,⟨oy271,T,T⟩,T⟩,T⟩,⟨T,⟨oy175,T,T⟩,T⟩⟩⟩,⟨T,⟨oy39,⟨T,⟨oy135,T,T⟩,T⟩,T⟩,⟨oy55,T,⟨T,⟨oy183,T,T⟩,T⟩⟩⟩⟩,⟨T,⟨T,⟨T,⟨oy67,⟨T,⟨oy259,T,T⟩,T⟩,T⟩,T⟩,⟨T,T,⟨T,⟨oy179,T,T⟩,T⟩⟩⟩,⟨T,⟨T,T,⟨T,⟨oy171,T,T⟩,T⟩⟩,⟨T,⟨T,⟨oy155,T,T⟩,T⟩,⟨oy123,T,T⟩⟩⟩⟩⟩,⟨oy5,⟨oy9,⟨T,⟨T,⟨T,⟨oy129,T,T⟩,T⟩,⟨oy97,⟨oy161,T,T⟩,⟨oy225,T,T⟩⟩⟩,T⟩,⟨oy25,⟨oy41,⟨T,T,⟨oy201,T,T⟩⟩,⟨T,⟨oy169,T,T⟩,T⟩⟩,T⟩⟩,⟨T,⟨oy21,⟨T,⟨T,⟨T,⟨oy261,T,T⟩,T⟩,⟨oy197,T,T⟩⟩,T⟩,⟨T,⟨oy85,T,⟨oy213,T,T⟩⟩,⟨T,⟨oy181,T,T⟩,T⟩⟩⟩,⟨T,⟨oy45,⟨oy77,⟨oy141,⟨oy269,T,T⟩,T⟩,⟨oy205,T,T⟩⟩,⟨oy109,⟨oy173,T,T⟩,T⟩⟩,⟨T,T,⟨oy125,T,T⟩⟩⟩⟩⟩⟩,⟨oy2,⟨oy4,⟨T,⟨T,⟨T,⟨T,⟨oy128,T,T⟩,T⟩,T⟩,⟨T,⟨oy80,T,⟨oy208,T,T⟩⟩,⟨T,⟨oy176,T,T⟩,T⟩⟩⟩,⟨T,⟨oy40,⟨T,T,⟨oy200,T,T⟩⟩,T⟩,⟨T,T,⟨oy120,T,⟨oy248,T,T⟩⟩⟩⟩⟩,⟨T,⟨T,⟨T,⟨oy68,⟨T,⟨oy260,T,T⟩,T⟩,⟨oy196,T,T⟩⟩,T⟩,⟨oy52,T,⟨T,⟨oy180,T,T⟩,T⟩⟩⟩,⟨T,⟨T,⟨T,⟨oy140,T,T⟩,T⟩,⟨oy108,⟨oy172,T,T⟩,T⟩⟩,⟨T,T,⟨oy124,T,T⟩⟩⟩⟩⟩,⟨T,⟨T,⟨T,⟨T,⟨oy66,⟨oy130,T,T⟩,T⟩,T⟩,⟨T,⟨T,T,⟨oy210,T,T⟩⟩,⟨T,⟨oy178,T,T⟩,T⟩⟩⟩,⟨oy26,⟨T,⟨T,T,⟨oy202,T,T⟩⟩,⟨T,⟨oy170,T,T⟩,T⟩⟩,⟨T,T,⟨T,⟨oy186,T,T⟩,T⟩⟩⟩⟩,⟨T,⟨oy22,⟨T,⟨T,⟨T,⟨oy262,T,T⟩,T⟩,⟨oy198,T,T⟩⟩,⟨oy102,T,T⟩⟩,⟨T,⟨T,⟨oy150,T,T⟩,T⟩,T⟩⟩,⟨oy30,⟨T,⟨oy78,T,T⟩,⟨oy110,⟨T,⟨oy302,T,T⟩,T⟩,T⟩⟩,⟨T,⟨oy94,T,T⟩,⟨oy126,T,T⟩⟩⟩⟩⟩⟩⟩
theorem fnAll:fnTab.All (FnOk Tryz.prog) id :=
 ⟨T,⟨T,⟨og3,⟨T,⟨og15,⟨og31,⟨og63,⟨og127,T,T⟩,T⟩,⟨og95,⟨og159,T,T⟩,T⟩⟩,⟨T,⟨og79,⟨og143,T,T⟩,T⟩,⟨og111,T,T⟩⟩⟩,⟨og23,⟨T,⟨og71,⟨og135,T,T⟩,T⟩,⟨og103,⟨og167,T,T⟩,T⟩⟩,⟨og55,⟨og87,⟨og151,T,T⟩,T⟩,⟨og119,⟨og183,T,T⟩,T⟩⟩⟩⟩,⟨T,⟨og19,⟨og35,⟨og67,⟨og131,T,T⟩,⟨og195,T,T⟩⟩,⟨T,⟨og163,T,T⟩,⟨og227,T,T⟩⟩⟩,⟨og51,⟨og83,⟨og147,T,T⟩,T⟩,⟨og115,⟨og179,T,T⟩,T⟩⟩⟩,⟨og27,⟨T,⟨og75,⟨og139,T,T⟩,⟨og203,T,T⟩⟩,⟨og107,T,T⟩⟩,⟨og59,⟨og91,⟨og155,T,T⟩,T⟩,⟨og123,T,T⟩⟩⟩⟩⟩,⟨T,⟨T,⟨og17,⟨og33,⟨og65,⟨og129,T,T⟩,⟨og193,T,T⟩⟩,⟨og97,⟨og161,T,T⟩,T⟩⟩,⟨og49,⟨og81,⟨og145,T,T⟩,T⟩,⟨og113,T,T⟩⟩⟩,⟨og25,⟨T,⟨og73,T,⟨og201,T,T⟩⟩,⟨og105,⟨og169,T,T⟩,T⟩⟩,⟨og57,⟨og89,⟨og153,T,T⟩,T⟩,⟨og121,T,T⟩⟩⟩⟩,⟨og13,⟨og21,⟨og37,⟨T,⟨og133,T,T⟩,T⟩,⟨og101,⟨og165,T,T⟩,T⟩⟩,⟨T,⟨og85,⟨og149,T,T⟩,T⟩,⟨og117,⟨og181,T,T⟩,⟨og245,T,T⟩⟩⟩⟩,⟨og29,⟨T,⟨og77,⟨og141,T,T⟩,⟨og205,T,T⟩⟩,⟨og109,T,T⟩⟩,⟨og61,⟨og93,⟨og157,T,T⟩,⟨og221,T,T⟩⟩,⟨og125,T,T⟩⟩⟩⟩⟩⟩,⟨T,⟨og4,⟨T,⟨og16,⟨og32,⟨og64,⟨og128,T,T⟩,T⟩,⟨og96,⟨og160,T,T⟩,T⟩⟩,⟨T,⟨og80,⟨og144,T,T⟩,T⟩,⟨og112,⟨og176,T,T⟩,T⟩⟩⟩,⟨og24,⟨og40,⟨og72,⟨og136,T,T⟩,T⟩,⟨T,⟨og168,T,T⟩,T⟩⟩,⟨og56,⟨og88,⟨og152,T,T⟩,T⟩,⟨og120,⟨og184,T,T⟩,T⟩⟩⟩⟩,⟨og12,⟨og20,⟨og36,⟨T,⟨og132,T,T⟩,T⟩,⟨og100,⟨og164,T,T⟩,T⟩⟩,⟨T,⟨og84,⟨og148,T,T⟩,T⟩,⟨og116,⟨og180,T,T⟩,⟨og244,T,T⟩⟩⟩⟩,⟨og28,⟨og44,⟨og76,⟨og140,T,T⟩,⟨og204,T,T⟩⟩,⟨og108,T,T⟩⟩,⟨og60,⟨og92,⟨og156,T,T⟩,⟨og220,T,T⟩⟩,⟨og124,T,T⟩⟩⟩⟩⟩,⟨T,⟨T,⟨og18,⟨og34,⟨og66,⟨og130,T,T⟩,T⟩,⟨og98,⟨og162,T,T⟩,T⟩⟩,⟨og50,⟨og82,⟨og146,T,T⟩,T⟩,⟨og114,⟨og178,T,T⟩,T⟩⟩⟩,⟨og26,⟨og42,⟨og74,T,T⟩,⟨og106,T,T⟩⟩,⟨og58,⟨og90,⟨og154,T,T⟩,T⟩,⟨og122,T,T⟩⟩⟩⟩,⟨T,⟨og22,⟨og38,⟨og70,T,T⟩,⟨og102,⟨og166,T,T⟩,T⟩⟩,⟨og54,⟨og86,⟨og150,T,T⟩,⟨og214,T,T⟩⟩,⟨og118,T,T⟩⟩⟩,⟨og30,⟨T,⟨og78,⟨og142,T,T⟩,⟨og206,T,T⟩⟩,⟨og110,T,T⟩⟩,⟨og62,⟨og94,⟨og158,T,T⟩,T⟩,⟨og126,T,T⟩⟩⟩⟩⟩⟩⟩
theorem tabOf [Glob]:tab.Of Tryz.prog∧tab.Good Tryz.prog:=tab_of tyAll fnAll ipOk (fun f p h=>by cases h) (fun f p h=>by cases h)
end Go.Proofs.YtdjngcfnlfgjkaaGreatDoor.C5

namespace Go.Proofs.YtdjngcfnlfgjkaaGreatDoor.C5
open Go Go.Proofs.YtdjngcfnlfgjkaaGreatDoor.AM Go.Proofs Go.RowKit
instance : Glob := ⟨fun _ => True⟩
def base (f:Nat):Option (List AV→Option AV):=none
def keep (f:Nat):Bool:=match f with | 92 | 139=>true | _=>false
theorem baseOk:∀ f g,base f=some g→ExtOk Tryz.prog f g:=fun f g h=>by cases h
noncomputable def tabL:Tab:={ tab with pu:=fun f=>f == 34,fz:=fun f=>f == 34 || f == 17 }
theorem tabLOf:tabL.Of Tryz.prog∧tabL.Good Tryz.prog :=
 ⟨⟨tabOf.1.info,tabOf.1.under,tabOf.1.eqg,tabOf.1.held,tabOf.1.fn,tabOf.1.names⟩,⟨tabOf.2.draws,tabOf.2.locs,tabOf.2.ip,tabOf.2.gp,tabOf.2.fr⟩⟩
end Go.Proofs.YtdjngcfnlfgjkaaGreatDoor.C5
