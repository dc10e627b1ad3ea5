/-
  The library's functions strings.Join, strings.Repeat and strconv.Itoa, by the shelf's contracts.
-/
import Derived.Test.YtdeaibcebeofiaaGreatDoorAm5
import Derived.Test.YtdeaibcebeofiaaGreatDoorTab
import Derived.Shelf.LaysM
import Derived.Shelf.Strings.OnBuilder
import Derived.Shelf.Strings.Repeat
import Derived.Shelf.Strconv.Itoa3
set_option linter.unusedVariables false
set_option linter.unusedSimpArgs false
set_option linter.unusedSectionVars false
namespace Go.Proofs
open Go.Shelf
def Tryz.lays156_ren : Go.Shelf.Ren := ⟨fun | 156 => 165 | 165 => 210 | 166 => 211 | 169 => 212 | 240 => 229 | 241 => 230 | 276 => 236 | 277 => 237 | n => n, fun | 31 => 22 | 9 => 9 | 3 => 3 | 4 => 4 | 0 => 0 | 20 => 20 | 72 => 276 | 76 => 280 | 70 => 273 | 37 => 274 | 75 => 279 | 127 => 289 | 164 => 295 | 5 => 5 | 80 => 282 | n => n, fun | n => n⟩
theorem Tryz.lays156 : Go.Proofs.Lays.n156 Tryz.prog Tryz.lays156_ren := {
 mixed := by kernel_rfl,
 f156 := Tryz.func165.trans (congrArg some (by kernel_rfl)),
 f165 := Tryz.func210.trans (congrArg some (by kernel_rfl)),
 f166 := Tryz.func211.trans (congrArg some (by kernel_rfl)),
 f169 := Tryz.func212.trans (congrArg some (by kernel_rfl)),
 f240 := Tryz.func229.trans (congrArg some (by kernel_rfl)),
 f241 := Tryz.func230.trans (congrArg some (by kernel_rfl)),
 f276 := Tryz.func236.trans (congrArg some (by kernel_rfl)),
 f277 := Tryz.func237.trans (congrArg some (by kernel_rfl)),
 t0 := Tryz.underlying0,
 a0 := Tryz.isAgg0,
 z0 := Tryz.sizeOf0,
 v0 := Tryz.zeroValue0,
 t3 := Tryz.underlying3,
 a3 := Tryz.isAgg3,
 z3 := Tryz.sizeOf3,
 v3 := Tryz.zeroValue3,
 t4 := Tryz.underlying4,
 a4 := Tryz.isAgg4,
 z4 := Tryz.sizeOf4,
 v4 := Tryz.zeroValue4,
 t9 := Tryz.underlying9,
 a9 := Tryz.isAgg9,
 z9 := Tryz.sizeOf9,
 v9 := Tryz.zeroValue9,
 t20 := Tryz.underlying20,
 a20 := Tryz.isAgg20,
 z20 := Tryz.sizeOf20,
 v20 := Tryz.zeroValue20,
 t31 := Tryz.underlying22,
 a31 := Tryz.isAgg22,
 z31 := Tryz.sizeOf22,
 v31 := Tryz.zeroValue22,
 t37 := Tryz.underlying274,
 a37 := Tryz.isAgg274,
 z37 := Tryz.sizeOf274,
 v37 := Tryz.zeroValue274,
 t70 := Tryz.underlying273,
 a70 := Tryz.isAgg273,
 z70 := Tryz.sizeOf273,
 v70 := Tryz.zeroValue273,
 t72 := Tryz.underlying276,
 a72 := Tryz.isAgg276,
 z72 := Tryz.sizeOf276,
 v72 := Tryz.zeroValue276,
 t75 := Tryz.underlying279,
 a75 := Tryz.isAgg279,
 z75 := Tryz.sizeOf279,
 v75 := Tryz.zeroValue279,
 t76 := Tryz.underlying280,
 a76 := Tryz.isAgg280,
 z76 := Tryz.sizeOf280,
 v76 := Tryz.zeroValue280,
 t127 := Tryz.underlying289,
 a127 := Tryz.isAgg289,
 z127 := Tryz.sizeOf289,
 v127 := Tryz.zeroValue289,
 t164 := Tryz.underlying295,
 a164 := Tryz.isAgg295,
 z164 := Tryz.sizeOf295,
 v164 := Tryz.zeroValue295 }
theorem Tryz.Builder_Extra_156 : Builder.Extra Tryz.prog Tryz.lays156_ren := {
 sizeBuilder := by kernel_rfl,
 liesBuilder := by kernel_rfl,
 t5 := Tryz.underlying5,
 a5 := Tryz.isAgg5,
 z5 := Tryz.sizeOf5,
 v5 := Tryz.zeroValue5,
 infoByte := by kernel_rfl,
 cellsByte := by kernel_rfl,
 sizeByte := by kernel_rfl,
 neB5 := by decide }
def Tryz.lays105_ren : Go.Shelf.Ren := ⟨fun | 105 => 214 | 212 => 232 | 99 => 233 | 165 => 210 | 166 => 211 | 170 => 234 | 169 => 212 | 263 => 239 | 264 => 240 | 206 => 241 | 240 => 229 | 241 => 230 | 276 => 236 | 277 => 237 | n => n, fun | 9 => 9 | 3 => 3 | 4 => 4 | 20 => 20 | 0 => 0 | 46 => 290 | 109 => 291 | 5 => 5 | 72 => 276 | 76 => 280 | 51 => 299 | 146 => 300 | 53 => 302 | 148 => 303 | 70 => 273 | 37 => 274 | 75 => 279 | 127 => 289 | 164 => 295 | 80 => 282 | n => n, fun | n => n⟩
theorem Tryz.lays105 : Go.Proofs.Lays.n105 Tryz.prog Tryz.lays105_ren := {
 mixed := by kernel_rfl,
 f99 := Tryz.func233.trans (congrArg some (by kernel_rfl)),
 f105 := Tryz.func214.trans (congrArg some (by kernel_rfl)),
 f165 := Tryz.func210.trans (congrArg some (by kernel_rfl)),
 f166 := Tryz.func211.trans (congrArg some (by kernel_rfl)),
 f169 := Tryz.func212.trans (congrArg some (by kernel_rfl)),
 f170 := Tryz.func234.trans (congrArg some (by kernel_rfl)),
 f206 := Tryz.func241.trans (congrArg some (by kernel_rfl)),
 f212 := Tryz.func232.trans (congrArg some (by kernel_rfl)),
 f240 := Tryz.func229.trans (congrArg some (by kernel_rfl)),
 f241 := Tryz.func230.trans (congrArg some (by kernel_rfl)),
 f263 := Tryz.func239.trans (congrArg some (by kernel_rfl)),
 f264 := Tryz.func240.trans (congrArg some (by kernel_rfl)),
 f276 := Tryz.func236.trans (congrArg some (by kernel_rfl)),
 f277 := Tryz.func237.trans (congrArg some (by kernel_rfl)),
 t0 := Tryz.underlying0,
 a0 := Tryz.isAgg0,
 z0 := Tryz.sizeOf0,
 v0 := Tryz.zeroValue0,
 t3 := Tryz.underlying3,
 a3 := Tryz.isAgg3,
 z3 := Tryz.sizeOf3,
 v3 := Tryz.zeroValue3,
 t4 := Tryz.underlying4,
 a4 := Tryz.isAgg4,
 z4 := Tryz.sizeOf4,
 v4 := Tryz.zeroValue4,
 t5 := Tryz.underlying5,
 a5 := Tryz.isAgg5,
 z5 := Tryz.sizeOf5,
 v5 := Tryz.zeroValue5,
 t9 := Tryz.underlying9,
 a9 := Tryz.isAgg9,
 z9 := Tryz.sizeOf9,
 v9 := Tryz.zeroValue9,
 t20 := Tryz.underlying20,
 a20 := Tryz.isAgg20,
 z20 := Tryz.sizeOf20,
 v20 := Tryz.zeroValue20,
 t37 := Tryz.underlying274,
 a37 := Tryz.isAgg274,
 z37 := Tryz.sizeOf274,
 v37 := Tryz.zeroValue274,
 t46 := Tryz.underlying290,
 a46 := Tryz.isAgg290,
 z46 := Tryz.sizeOf290,
 v46 := Tryz.zeroValue290,
 t51 := Tryz.underlying299,
 a51 := Tryz.isAgg299,
 z51 := Tryz.sizeOf299,
 v51 := Tryz.zeroValue299,
 t53 := Tryz.underlying302,
 a53 := Tryz.isAgg302,
 z53 := Tryz.sizeOf302,
 v53 := Tryz.zeroValue302,
 t70 := Tryz.underlying273,
 a70 := Tryz.isAgg273,
 z70 := Tryz.sizeOf273,
 v70 := Tryz.zeroValue273,
 t72 := Tryz.underlying276,
 a72 := Tryz.isAgg276,
 z72 := Tryz.sizeOf276,
 v72 := Tryz.zeroValue276,
 t75 := Tryz.underlying279,
 a75 := Tryz.isAgg279,
 z75 := Tryz.sizeOf279,
 v75 := Tryz.zeroValue279,
 t76 := Tryz.underlying280,
 a76 := Tryz.isAgg280,
 z76 := Tryz.sizeOf280,
 v76 := Tryz.zeroValue280,
 t109 := Tryz.underlying291,
 a109 := Tryz.isAgg291,
 z109 := Tryz.sizeOf291,
 v109 := Tryz.zeroValue291,
 t127 := Tryz.underlying289,
 a127 := Tryz.isAgg289,
 z127 := Tryz.sizeOf289,
 v127 := Tryz.zeroValue289,
 t146 := Tryz.underlying300,
 a146 := Tryz.isAgg300,
 z146 := Tryz.sizeOf300,
 v146 := Tryz.zeroValue300,
 t148 := Tryz.underlying303,
 a148 := Tryz.isAgg303,
 z148 := Tryz.sizeOf303,
 v148 := Tryz.zeroValue303,
 t164 := Tryz.underlying295,
 a164 := Tryz.isAgg295,
 z164 := Tryz.sizeOf295,
 v164 := Tryz.zeroValue295 }
theorem Tryz.Builder_Extra_105 : Builder.Extra Tryz.prog Tryz.lays105_ren := {
 sizeBuilder := by kernel_rfl,
 liesBuilder := by kernel_rfl,
 t5 := Tryz.underlying5,
 a5 := Tryz.isAgg5,
 z5 := Tryz.sizeOf5,
 v5 := Tryz.zeroValue5,
 infoByte := by kernel_rfl,
 cellsByte := by kernel_rfl,
 sizeByte := by kernel_rfl,
 neB5 := by decide }
def Tryz.laysM171_ren : Go.Shelf.Ren := ⟨fun | 171 => 213 | 243 => 231 | 246 => 238 | 283 => 242 | 284 => 243 | 285 => 244 | 286 => 245 | 129 => 247 | 317 => 246 | 318 => 248 | 319 => 249 | 320 => 250 | 337 => 251 | 338 => 252 | n => n, fun | 3 => 3 | 9 => 9 | 2 => 2 | 4 => 4 | 171 => 305 | 0 => 0 | 53 => 302 | 37 => 274 | 5 => 5 | 173 => 308 | 212 => 312 | 51 => 299 | 20 => 20 | 213 => 313 | 46 => 290 | 232 => 316 | 233 => 317 | n => n, fun | 17 => 1 | 18 => 2 | 19 => 3 | n => n⟩
theorem Tryz.laysM171 : Go.Proofs.LaysM.n171 Tryz.prog Tryz.laysM171_ren := {
 mixed := by kernel_rfl,
 f129 := Tryz.func247.trans (congrArg some (by kernel_rfl)),
 f171 := Tryz.func213.trans (congrArg some (by kernel_rfl)),
 f243 := Tryz.func231.trans (congrArg some (by kernel_rfl)),
 f246 := Tryz.func238.trans (congrArg some (by kernel_rfl)),
 f283 := Tryz.func242.trans (congrArg some (by kernel_rfl)),
 f284 := Tryz.func243.trans (congrArg some (by kernel_rfl)),
 f285 := Tryz.func244.trans (congrArg some (by kernel_rfl)),
 f286 := Tryz.func245.trans (congrArg some (by kernel_rfl)),
 f317 := Tryz.func246.trans (congrArg some (by kernel_rfl)),
 f318 := Tryz.func248.trans (congrArg some (by kernel_rfl)),
 f319 := Tryz.func249.trans (congrArg some (by kernel_rfl)),
 f320 := Tryz.func250.trans (congrArg some (by kernel_rfl)),
 f337 := Tryz.func251.trans (congrArg some (by kernel_rfl)),
 f338 := Tryz.func252.trans (congrArg some (by kernel_rfl)),
 t0 := Tryz.underlying0,
 a0 := Tryz.isAgg0,
 z0 := Tryz.sizeOf0,
 v0 := Tryz.zeroValue0,
 t2 := Tryz.underlying2,
 a2 := Tryz.isAgg2,
 z2 := Tryz.sizeOf2,
 v2 := Tryz.zeroValue2,
 t3 := Tryz.underlying3,
 a3 := Tryz.isAgg3,
 z3 := Tryz.sizeOf3,
 v3 := Tryz.zeroValue3,
 t4 := Tryz.underlying4,
 a4 := Tryz.isAgg4,
 z4 := Tryz.sizeOf4,
 v4 := Tryz.zeroValue4,
 t5 := Tryz.underlying5,
 a5 := Tryz.isAgg5,
 z5 := Tryz.sizeOf5,
 v5 := Tryz.zeroValue5,
 t9 := Tryz.underlying9,
 a9 := Tryz.isAgg9,
 z9 := Tryz.sizeOf9,
 v9 := Tryz.zeroValue9,
 t20 := Tryz.underlying20,
 a20 := Tryz.isAgg20,
 z20 := Tryz.sizeOf20,
 v20 := Tryz.zeroValue20,
 t37 := Tryz.underlying274,
 a37 := Tryz.isAgg274,
 z37 := Tryz.sizeOf274,
 v37 := Tryz.zeroValue274,
 t46 := Tryz.underlying290,
 a46 := Tryz.isAgg290,
 z46 := Tryz.sizeOf290,
 v46 := Tryz.zeroValue290,
 t51 := Tryz.underlying299,
 a51 := Tryz.isAgg299,
 z51 := Tryz.sizeOf299,
 v51 := Tryz.zeroValue299,
 t53 := Tryz.underlying302,
 a53 := Tryz.isAgg302,
 z53 := Tryz.sizeOf302,
 v53 := Tryz.zeroValue302,
 t171 := Tryz.underlying305,
 a171 := Tryz.isAgg305,
 z171 := Tryz.sizeOf305,
 v171 := Tryz.zeroValue305,
 t173 := Tryz.underlying308,
 a173 := Tryz.isAgg308,
 z173 := Tryz.sizeOf308,
 v173 := Tryz.zeroValue308,
 t212 := Tryz.underlying312,
 a212 := Tryz.isAgg312,
 z212 := Tryz.sizeOf312,
 v212 := Tryz.zeroValue312,
 t213 := Tryz.underlying313,
 a213 := Tryz.isAgg313,
 z213 := Tryz.sizeOf313,
 t232 := Tryz.underlying316,
 a232 := Tryz.isAgg316,
 z232 := Tryz.sizeOf316,
 v232 := Tryz.zeroValue316,
 t233 := Tryz.underlying317,
 a233 := Tryz.isAgg317,
 z233 := Tryz.sizeOf317,
 v233 := Tryz.zeroValue317,
 g17 := by kernel_rfl,
 g18 := by kernel_rfl,
 g19 := by kernel_rfl,
 i0 := by kernel_rfl,
 i2 := by kernel_rfl,
 i3 := by kernel_rfl,
 i4 := by kernel_rfl,
 i5 := by kernel_rfl,
 i9 := by kernel_rfl,
 i20 := by kernel_rfl,
 i37 := by kernel_rfl,
 i46 := by kernel_rfl,
 i51 := by kernel_rfl,
 i53 := by kernel_rfl,
 i171 := by kernel_rfl,
 i173 := by kernel_rfl,
 i212 := by kernel_rfl,
 i232 := by kernel_rfl,
 i233 := by kernel_rfl,
 m17 := by kernel_rfl,
 m18 := by kernel_rfl,
 m19 := by kernel_rfl }
end Go.Proofs
namespace Go.Proofs.YtdeaibcebeofiaaGreatDoor.C5
open Go Go.Proofs.YtdeaibcebeofiaaGreatDoor.AM Go.Proofs Go.RowKit
instance : Glob := ⟨fun w => Lib.TabIs Tryz.prog w "internal/strconv.uint64pow10" .u64 Lib.pow10Tab⟩
def strsOf : List (List AV) → Option (List ByteArray)
 | [] => some []
 | [.str s] :: r => (strsOf r).map (s :: ·)
 | _ => none
def joinB (xs : List ByteArray) (sep : ByteArray) : List UInt8 := Lib.join (xs.map (·.data.toList)) sep.data.toList
def baseJoin : List AV → Option AV
 | [.sl 1 rows, .str s] => match strsOf rows with
   | some xs => if xs.length ≤ 140737488355328 ∧ (joinB xs s).length ≤ 140737488355328 then some (.str ⟨(joinB xs s).toArray⟩) else none
   | none => none
 | [.nils, .str _] => some (.str ⟨#[]⟩)
 | _ => none
def baseRepeat : List AV → Option AV
 | [.str s, .int .i64 n] => if 0 ≤ n ∧ n ≤ 9223372036854775807 ∧ s.size * n.toNat ≤ 140737488355328 then some (.str ⟨(Lib.repeatL s.data.toList n.toNat).toArray⟩) else none
 | _ => none
def baseItoa : List AV → Option AV
 | [.int .i64 n] => if -9223372036854775808 ≤ n ∧ n ≤ 9223372036854775807 then some (.str ⟨(Lib.itoa n).toArray⟩) else none
 | _ => none
def base (f : Nat) : Option (List AV → Option AV) :=
 match f with
 | 165 => some baseJoin
 | 214 => some baseRepeat
 | 213 => some baseItoa
 | _ => none
def keep (f : Nat) : Bool := match f with | 92 | 135 | 136 | 137 | 227 => true | _ => false
theorem frz_weak {B0 nx0 : Nat} {w : World} {ρ : Rho} {h : Hp} (H : HR B0 nx0 w ρ h) : ∀ {l : List AV} {vs : List Value}, Rels w (ownOf ρ h) ρ l vs → Rels w (fun _ => False) ρ (l.map (frz h 0 12)) vs
 | [], vs, h => by cases h; exact .nil _
 | y :: l, vs, h1 => by
   cases h1 with
   | cons _ _ _ _ _ h1 h2 => exact .cons _ _ _ _ _ (frz_sound H (fun c h => h.elim) 12 _ _ h1) (frz_weak H h2)
theorem strs_rel {w : World} {own : Nat → Prop} {ρ : Rho} : ∀ {rows : List (List AV)} {xs : List ByteArray} {vs : List Value}, strsOf rows = some xs → Rels w own ρ rows.flatten vs → vs = xs.map Value.string ∧ rows.length = xs.length
 | [], xs, vs, h, hr => by simp [strsOf] at h; subst h; cases hr; exact ⟨rfl, rfl⟩
 | r :: rows, xs, vs, h, hr => by
   match r, h with
   | [.str s], h =>
     simp only [strsOf, Option.map_eq_some_iff] at h
     obtain ⟨ys, h1, rfl⟩ := h
     simp only [List.flatten_cons, List.cons_append, List.nil_append] at hr
     cases hr with
     | cons _ _ v _ vs hv hvs =>
       obtain ⟨h2, h3⟩ := strs_rel h1 hvs
       exact ⟨by rw [hv.str_inv, h2]; rfl, by simp [h3]⟩
theorem done {P : Program} {B0 nx0 : Nat} {w : World} {ρ : Rho} {h : Hp} (H : HR B0 nx0 w ρ h) {f : FuncId} {args : Array Value} {s : ByteArray}
  (hc : Calls P f args w fun e w' => e = .returned (.string s) ∧ w.heap.size ≤ w'.heap.size ∧ (∀ c, c < w.heap.size → w'.heap[c]? = w.heap[c]?) ∧ w'.os = w.os ∧ w'.tape = w.tape ∧ w'.output = w.output) :
  CallsIn (FW none) 0 P f args w (RetP (fun q => q = (.str s, h)) B0 nx0 w ρ h) := by
 refine CallsIn.mono (callsIn_wide.2 hc) fun e w' hh => ?_
 obtain ⟨rfl, h1, h2, h3, h4, h5⟩ := hh
 obtain ⟨H1, E1⟩ := H.grown h1 h2 h3 h4 h5
 exact ⟨.str s, h, ρ, rfl, H1, E1, .lit _ _ _ rfl⟩
theorem below {w w' : World} (h : Below w.heap.size w w') : w.heap.size ≤ w'.heap.size ∧ (∀ c, c < w.heap.size → w'.heap[c]? = w.heap[c]?) ∧ w'.os = w.os ∧ w'.tape = w.tape ∧ w'.output = w.output := ⟨h.size, h.block, h.os, h.tape, h.output⟩
theorem joinOk : ExtOk Tryz.prog 165 baseJoin := by
 refine ⟨fn_known tabOf.1 (x := g165) (by kernel_rfl) (by kernel_rfl), ?_⟩
 intro args r h B0 nx0 w ρ vargs H hrel hg _
 have hf := frz_weak H hrel
 revert hg
 generalize args.map (frz h 0 12) = fa at hf
 intro hg
 unfold baseJoin at hg
 split at hg
 ·rename_i rows s
  split at hg
  case h_2 => cases hg
  rename_i xs hxs
  split at hg
  case isFalse => cases hg
  rename_i hlen
  injection hg with hg; subst hg
  cases hf with
  | cons _ _ v1 _ vs1 hv1 hf =>
  cases hf with
  | cons _ _ v2 _ vs2 hv2 hf =>
  cases hf
  obtain rfl := hv2.str_inv
  obtain ⟨a, vs, cap, rfl, hk, hr, hs, hcap⟩ := hv1.sl_inv
  obtain ⟨hvs, hl⟩ := strs_rel hxs hr
  subst hvs
  rw [hl] at hcap ⊢
  refine done H ?_
  cases xs with
  | nil =>
    refine (Any.strings_Join_none Tryz.lays156 Tryz.Builder_Extra_156 (some a) cap s w).mono fun e w' ⟨he, hw⟩ => ⟨by rw [he]; rfl, below (hw ▸ Below.refl _ _)⟩
  | cons x xs =>
    have h0 := hs 0 (.string x) rfl
    obtain ⟨b, o, sp⟩ := a
    have hsp : sp = none := h0.2.1
    subst hsp
    have hbk : b < w.heap.size := by
     obtain ⟨o', ho'⟩ := cell_block h0.1
     exact heap_lt ho'
    refine (Any.strings_Join Tryz.lays156 Tryz.Builder_Extra_156 b o cap (x :: xs) s w (fun j y hj => (hs j (.string y) (by rw [List.getElem?_map, hj]; rfl)).1) hbk hlen.1 hcap hlen.2).mono fun e w' ⟨he, hw⟩ => ⟨he, below hw⟩
 ·injection hg with hg; subst hg
  cases hf with
  | cons _ _ v1 _ vs1 hv1 hf =>
  cases hf with
  | cons _ _ v2 _ vs2 hv2 hf =>
  cases hf
  obtain rfl := hv2.str_inv
  obtain rfl := hv1.nils_inv
  exact done H ((Any.strings_Join_none Tryz.lays156 Tryz.Builder_Extra_156 none 0 _ w).mono fun e w' ⟨he, hw⟩ => ⟨he, below (hw ▸ Below.refl _ _)⟩)
 ·cases hg
theorem repeatOk : ExtOk Tryz.prog 214 baseRepeat := by
 refine ⟨fn_known tabOf.1 (x := g214) (by kernel_rfl) (by kernel_rfl), ?_⟩
 intro args r h B0 nx0 w ρ vargs H hrel hg _
 have hf := frz_weak H hrel
 revert hg
 generalize args.map (frz h 0 12) = fa at hf
 intro hg
 unfold baseRepeat at hg
 split at hg
 case h_2 => cases hg
 rename_i s n
 split at hg
 case isFalse => cases hg
 rename_i hn
 injection hg with hg; subst hg
 cases hf with
 | cons _ _ v1 _ vs1 hv1 hf =>
 cases hf with
 | cons _ _ v2 _ vs2 hv2 hf =>
 cases hf
 obtain rfl := hv1.str_inv
 obtain rfl := hv2.int_inv
 refine done H ?_
 have := Any.strings_Repeat Tryz.lays105 Tryz.Builder_Extra_105 s n.toNat w (by omega) hn.2.2
 rw [show ((n.toNat : Nat) : Int) = n by omega] at this
 exact this.mono fun e w' ⟨he, hw⟩ => ⟨he, below hw⟩
theorem itoaOk : ExtOk Tryz.prog 213 baseItoa := by
 refine ⟨fn_known tabOf.1 (x := g213) (by kernel_rfl) (by kernel_rfl), ?_⟩
 intro args r h B0 nx0 w ρ vargs H hrel hg _
 have hf := frz_weak H hrel
 revert hg
 generalize args.map (frz h 0 12) = fa at hf
 intro hg
 unfold baseItoa at hg
 split at hg
 case h_2 => cases hg
 rename_i n
 split at hg
 case isFalse => cases hg
 rename_i hn
 injection hg with hg; subst hg
 cases hf with
 | cons _ _ v1 _ vs1 hv1 hf =>
 cases hf
 obtain rfl := hv1.int_inv
 refine done H ?_
 refine (Any.strconv_Itoa Tryz.laysM171 n hn.1 hn.2 w (H.gk w fun _ _ => rfl)).mono fun e w' ⟨he, k, os, hw⟩ => ⟨he, ?_⟩
 subst hw
 refine ⟨by show w.heap.size ≤ (w.heap ++ os).size; simp, fun c hc => ?_, rfl, rfl, rfl⟩
 show (w.heap ++ os)[c]? = _
 rw [Array.getElem?_append_left hc]
theorem baseOk : ∀ f g, base f = some g → ExtOk Tryz.prog f g := by
 intro f g h
 unfold base at h
 split at h
 ·injection h with h; subst h; exact joinOk
 ·injection h with h; subst h; exact repeatOk
 ·injection h with h; subst h; exact itoaOk
 ·cases h
end Go.Proofs.YtdeaibcebeofiaaGreatDoor.C5
