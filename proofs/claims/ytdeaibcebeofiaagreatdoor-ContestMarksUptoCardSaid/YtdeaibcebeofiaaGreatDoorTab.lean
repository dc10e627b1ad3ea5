/-
  The tables of the translated program.
-/
import Derived.Test.YtdeaibcebeofiaaGreatDoorAm5
import Derived.Test.YtdeaibcebeofiaaGreatDoorProg
set_option linter.unusedVariables false
set_option linter.unusedSimpArgs false
set_option linter.unusedSectionVars false
namespace Go.Proofs.YtdeaibcebeofiaaGreatDoor.C5
open Go Go.Proofs.YtdeaibcebeofiaaGreatDoor.AM Go.Proofs Go.Proofs.Tryz
set_option maxRecDepth 100000
abbrev Y (a b : TypeInfo) : TyE := ⟨a, b, true, true⟩
abbrev N {α : Type} (l : Tr α) (v : α) (r : Tr α) : Tr α := .node l (some v) r
abbrev L {α : Type} (v : α) : Tr α := .node .nil (some v) .nil
abbrev O (t : Nat) (e : TyE) := TyOk Tryz.prog t e
abbrev G (t : Nat) (e : FnE) := FnOk Tryz.prog t e
theorem T : True := trivial
abbrev K0 {α : Type} : Tr α := .nil
noncomputable def y2 := Y t2 t2
theorem oy2 : O 2 y2 := ⟨type2, underlying2, tf, tf⟩
noncomputable def y3 := Y t3 t3
theorem oy3 : O 3 y3 := ⟨type3, underlying3, tf, tf⟩
noncomputable def y4 := Y t4 t4
theorem oy4 : O 4 y4 := ⟨type4, underlying4, tf, tf⟩
noncomputable def y5 := Y t5 t5
theorem oy5 : O 5 y5 := ⟨type5, underlying5, tf, tf⟩
noncomputable def y9 := Y t9 t9
theorem oy9 : O 9 y9 := ⟨type9, underlying9, tf, tf⟩
noncomputable def y21 := Y t21 t21
theorem oy21 : O 21 y21 := ⟨type21, underlying21, tf, tf⟩
noncomputable def y22 := Y t22 t22
theorem oy22 : O 22 y22 := ⟨type22, underlying22, tf, tf⟩
noncomputable def y23 : TyE := ⟨t23, t23, false, false⟩
theorem oy23 : O 23 y23 := ⟨type23, underlying23, fun _ => eqGuardType23, fun _ => stoodInHeld23⟩
noncomputable def y24 : TyE := ⟨t24, t23, false, false⟩
theorem oy24 : O 24 y24 := ⟨type24, underlying24, fun _ => eqGuardType24, fun _ => stoodInHeld24⟩
noncomputable def y25 := Y t25 t25
theorem oy25 : O 25 y25 := ⟨type25, underlying25, tf, tf⟩
noncomputable def y26 : TyE := ⟨t26, t23, false, false⟩
theorem oy26 : O 26 y26 := ⟨type26, underlying26, fun _ => eqGuardType26, fun _ => stoodInHeld26⟩
noncomputable def y27 := Y t27 t27
theorem oy27 : O 27 y27 := ⟨type27, underlying27, tf, tf⟩
noncomputable def y32 := Y t32 t32
theorem oy32 : O 32 y32 := ⟨type32, underlying32, tf, tf⟩
noncomputable def y33 : TyE := ⟨t33, t33, false, false⟩
theorem oy33 : O 33 y33 := ⟨type33, underlying33, fun _ => eqGuardType33, fun _ => stoodInHeld33⟩
noncomputable def y34 : TyE := ⟨t34, t33, false, false⟩
theorem oy34 : O 34 y34 := ⟨type34, underlying34, fun _ => eqGuardType34, fun _ => stoodInHeld34⟩
noncomputable def y35 := Y t35 t35
theorem oy35 : O 35 y35 := ⟨type35, underlying35, tf, tf⟩
noncomputable def y36 := Y t36 t3
theorem oy36 : O 36 y36 := ⟨type36, underlying36, tf, tf⟩
noncomputable def y39 := Y t39 t39
theorem oy39 : O 39 y39 := ⟨type39, underlying39, tf, tf⟩
noncomputable def y44 := Y t44 t44
theorem oy44 : O 44 y44 := ⟨type44, underlying44, tf, tf⟩
noncomputable def y45 : TyE := ⟨t45, t45, false, false⟩
theorem oy45 : O 45 y45 := ⟨type45, underlying45, fun _ => eqGuardType45, fun _ => stoodInHeld45⟩
noncomputable def y46 : TyE := ⟨t46, t45, false, false⟩
theorem oy46 : O 46 y46 := ⟨type46, underlying46, fun _ => eqGuardType46, fun _ => stoodInHeld46⟩
noncomputable def y51 : TyE := ⟨t51, t51, false, false⟩
theorem oy51 : O 51 y51 := ⟨type51, underlying51, fun _ => eqGuardType51, fun _ => stoodInHeld51⟩
noncomputable def y53 : TyE := ⟨t53, t51, false, false⟩
theorem oy53 : O 53 y53 := ⟨type53, underlying53, fun _ => eqGuardType53, fun _ => stoodInHeld53⟩
noncomputable def y58 := Y t58 t58
theorem oy58 : O 58 y58 := ⟨type58, underlying58, tf, tf⟩
noncomputable def y71 := Y t71 t71
theorem oy71 : O 71 y71 := ⟨type71, underlying71, tf, tf⟩
noncomputable def y73 : TyE := ⟨t73, t73, false, false⟩
theorem oy73 : O 73 y73 := ⟨type73, underlying73, fun _ => eqGuardType73, fun _ => stoodInHeld73⟩
noncomputable def y74 : TyE := ⟨t74, t73, false, false⟩
theorem oy74 : O 74 y74 := ⟨type74, underlying74, fun _ => eqGuardType74, fun _ => stoodInHeld74⟩
noncomputable def y75 : TyE := ⟨t75, t75, false, false⟩
theorem oy75 : O 75 y75 := ⟨type75, underlying75, fun _ => eqGuardType75, fun _ => stoodInHeld75⟩
noncomputable def y76 : TyE := ⟨t76, t75, false, false⟩
theorem oy76 : O 76 y76 := ⟨type76, underlying76, fun _ => eqGuardType76, fun _ => stoodInHeld76⟩
noncomputable def y77 : TyE := ⟨t77, t77, false, false⟩
theorem oy77 : O 77 y77 := ⟨type77, underlying77, fun _ => eqGuardType77, fun _ => stoodInHeld77⟩
noncomputable def y78 : TyE := ⟨t78, t77, false, false⟩
theorem oy78 : O 78 y78 := ⟨type78, underlying78, fun _ => eqGuardType78, fun _ => stoodInHeld78⟩
noncomputable def y96 := Y t96 t96
theorem oy96 : O 96 y96 := ⟨type96, underlying96, tf, tf⟩
noncomputable def y97 : TyE := ⟨t97, t97, false, false⟩
theorem oy97 : O 97 y97 := ⟨type97, underlying97, fun _ => eqGuardType97, fun _ => stoodInHeld97⟩
noncomputable def y98 : TyE := ⟨t98, t97, false, false⟩
theorem oy98 : O 98 y98 := ⟨type98, underlying98, fun _ => eqGuardType98, fun _ => stoodInHeld98⟩
noncomputable def y100 := Y t100 t100
theorem oy100 : O 100 y100 := ⟨type100, underlying100, tf, tf⟩
noncomputable def y101 : TyE := ⟨t101, t101, false, false⟩
theorem oy101 : O 101 y101 := ⟨type101, underlying101, fun _ => eqGuardType101, fun _ => stoodInHeld101⟩
noncomputable def y102 : TyE := ⟨t102, t101, false, false⟩
theorem oy102 : O 102 y102 := ⟨type102, underlying102, fun _ => eqGuardType102, fun _ => stoodInHeld102⟩
noncomputable def y108 := Y t108 t108
theorem oy108 : O 108 y108 := ⟨type108, underlying108, tf, tf⟩
noncomputable def y112 := Y t112 t112
theorem oy112 : O 112 y112 := ⟨type112, underlying112, tf, tf⟩
noncomputable def y115 := Y t115 t115
theorem oy115 : O 115 y115 := ⟨type115, underlying115, tf, tf⟩
noncomputable def y120 : TyE := ⟨t120, t120, false, false⟩
theorem oy120 : O 120 y120 := ⟨type120, underlying120, fun _ => eqGuardType120, fun _ => stoodInHeld120⟩
noncomputable def y121 : TyE := ⟨t121, t120, false, false⟩
theorem oy121 : O 121 y121 := ⟨type121, underlying121, fun _ => eqGuardType121, fun _ => stoodInHeld121⟩
noncomputable def y122 : TyE := ⟨t122, t122, false, false⟩
theorem oy122 : O 122 y122 := ⟨type122, underlying122, fun _ => eqGuardType122, fun _ => stoodInHeld122⟩
noncomputable def y123 : TyE := ⟨t123, t122, false, false⟩
theorem oy123 : O 123 y123 := ⟨type123, underlying123, fun _ => eqGuardType123, fun _ => stoodInHeld123⟩
noncomputable def y165 := Y t165 t165
theorem oy165 : O 165 y165 := ⟨type165, underlying165, tf, tf⟩
noncomputable def y171 := Y t171 t171
theorem oy171 : O 171 y171 := ⟨type171, underlying171, tf, tf⟩
noncomputable def y174 := Y t174 t174
theorem oy174 : O 174 y174 := ⟨type174, underlying174, tf, tf⟩
noncomputable def y182 : TyE := ⟨t182, t122, false, false⟩
theorem oy182 : O 182 y182 := ⟨type182, underlying182, fun _ => eqGuardType182, fun _ => stoodInHeld182⟩
noncomputable def y185 := Y t185 t185
theorem oy185 : O 185 y185 := ⟨type185, underlying185, tf, tf⟩
noncomputable def y190 : TyE := ⟨t190, t190, false, false⟩
theorem oy190 : O 190 y190 := ⟨type190, underlying190, fun _ => eqGuardType190, fun _ => stoodInHeld190⟩
noncomputable def y191 : TyE := ⟨t191, t190, false, false⟩
theorem oy191 : O 191 y191 := ⟨type191, underlying191, fun _ => eqGuardType191, fun _ => stoodInHeld191⟩
noncomputable def y195 : TyE := ⟨t195, t190, false, false⟩
theorem oy195 : O 195 y195 := ⟨type195, underlying195, fun _ => eqGuardType195, fun _ => stoodInHeld195⟩
noncomputable def y197 : TyE := ⟨t197, t197, false, false⟩
theorem oy197 : O 197 y197 := ⟨type197, underlying197, fun _ => eqGuardType197, fun _ => stoodInHeld197⟩
noncomputable def y198 : TyE := ⟨t198, t197, false, false⟩
theorem oy198 : O 198 y198 := ⟨type198, underlying198, fun _ => eqGuardType198, fun _ => stoodInHeld198⟩
noncomputable def y215 := Y t215 t215
theorem oy215 : O 215 y215 := ⟨type215, underlying215, tf, tf⟩
noncomputable def y216 := Y t216 t215
theorem oy216 : O 216 y216 := ⟨type216, underlying216, tf, tf⟩
noncomputable def y218 : TyE := ⟨t218, t218, false, true⟩
theorem oy218 : O 218 y218 := ⟨type218, underlying218, fun _ => eqGuardType218, tf⟩
noncomputable def y219 : TyE := ⟨t219, t219, false, true⟩
theorem oy219 : O 219 y219 := ⟨type219, underlying219, fun _ => eqGuardType219, tf⟩
noncomputable def y220 : TyE := ⟨t220, t220, false, true⟩
theorem oy220 : O 220 y220 := ⟨type220, underlying220, fun _ => eqGuardType220, tf⟩
noncomputable def y225 := Y t225 t225
theorem oy225 : O 225 y225 := ⟨type225, underlying225, tf, tf⟩
noncomputable def y226 : TyE := ⟨t226, t226, false, false⟩
theorem oy226 : O 226 y226 := ⟨type226, underlying226, fun _ => eqGuardType226, fun _ => stoodInHeld226⟩
noncomputable def y227 : TyE := ⟨t227, t226, false, false⟩
theorem oy227 : O 227 y227 := ⟨type227, underlying227, fun _ => eqGuardType227, fun _ => stoodInHeld227⟩
noncomputable def y229 := Y t229 t229
theorem oy229 : O 229 y229 := ⟨type229, underlying229, tf, tf⟩
noncomputable def y234 := Y t234 t234
theorem oy234 : O 234 y234 := ⟨type234, underlying234, tf, tf⟩
noncomputable def y235 := Y t235 t235
theorem oy235 : O 235 y235 := ⟨type235, underlying235, tf, tf⟩
noncomputable def y240 := Y t240 t240
theorem oy240 : O 240 y240 := ⟨type240, underlying240, tf, tf⟩
noncomputable def y242 := Y t242 t242
theorem oy242 : O 242 y242 := ⟨type242, underlying242, tf, tf⟩
noncomputable def y243 := Y t243 t243
theorem oy243 : O 243 y243 := ⟨type243, underlying243, tf, tf⟩
noncomputable def y244 : TyE := ⟨t244, t244, false, false⟩
theorem oy244 : O 244 y244 := ⟨type244, underlying244, fun _ => eqGuardType244, fun _ => stoodInHeld244⟩
noncomputable def y245 : TyE := ⟨t245, t244, false, false⟩
theorem oy245 : O 245 y245 := ⟨type245, underlying245, fun _ => eqGuardType245, fun _ => stoodInHeld245⟩
noncomputable def y250 := Y t250 t250
theorem oy250 : O 250 y250 := ⟨type250, underlying250, tf, tf⟩
noncomputable def y251 : TyE := ⟨t251, t251, false, true⟩
theorem oy251 : O 251 y251 := ⟨type251, underlying251, fun _ => eqGuardType251, tf⟩
noncomputable def y255 := Y t255 t255
theorem oy255 : O 255 y255 := ⟨type255, underlying255, tf, tf⟩
noncomputable def y259 := Y t259 t259
theorem oy259 : O 259 y259 := ⟨type259, underlying259, tf, tf⟩
noncomputable def y263 := Y t263 t263
theorem oy263 : O 263 y263 := ⟨type263, underlying263, tf, tf⟩
noncomputable def y266 := Y t266 t266
theorem oy266 : O 266 y266 := ⟨type266, underlying266, tf, tf⟩
noncomputable def y268 := Y t268 t268
theorem oy268 : O 268 y268 := ⟨type268, underlying268, tf, tf⟩
noncomputable def y270 := Y t270 t270
theorem oy270 : O 270 y270 := ⟨type270, underlying270, tf, tf⟩
noncomputable def y273 := Y t273 t273
theorem oy273 : O 273 y273 := ⟨type273, underlying273, tf, tf⟩
noncomputable def y274 := Y t274 t274
theorem oy274 : O 274 y274 := ⟨type274, underlying274, tf, tf⟩
noncomputable def y275 : TyE := ⟨t275, t275, false, false⟩
theorem oy275 : O 275 y275 := ⟨type275, underlying275, fun _ => eqGuardType275, fun _ => stoodInHeld275⟩
noncomputable def y276 : TyE := ⟨t276, t275, false, false⟩
theorem oy276 : O 276 y276 := ⟨type276, underlying276, fun _ => eqGuardType276, fun _ => stoodInHeld276⟩
noncomputable def y285 := Y t285 t285
theorem oy285 : O 285 y285 := ⟨type285, underlying285, tf, tf⟩
noncomputable def y290 := Y t290 t290
theorem oy290 : O 290 y290 := ⟨type290, underlying290, tf, tf⟩
noncomputable def g7 : FnE := ⟨f7, 6962069952251235315968389422793021982498572947430858854394537187552274253555305752313856⟩
theorem og7 : G 7 g7 := ⟨func7, by kernel_rfl⟩
noncomputable def g15 : FnE := ⟨f15, 926336713898108314221893459760768982479317900802470538145410523275897504006144⟩
theorem og15 : G 15 g15 := ⟨func15, by kernel_rfl⟩
noncomputable def g16 : FnE := ⟨f16, 548648517616⟩
theorem og16 : G 16 g16 := ⟨func16, by kernel_rfl⟩
noncomputable def g19 : FnE := ⟨f19, 33537032⟩
theorem og19 : G 19 g19 := ⟨func19, by kernel_rfl⟩
noncomputable def g20 : FnE := ⟨f20, 285978095300613168⟩
theorem og20 : G 20 g20 := ⟨func20, by kernel_rfl⟩
noncomputable def g27 : FnE := ⟨f27, 135274625072⟩
theorem og27 : G 27 g27 := ⟨func27, by kernel_rfl⟩
noncomputable def g28 : FnE := ⟨f28, 1170215309308612968672⟩
theorem og28 : G 28 g28 := ⟨func28, by kernel_rfl⟩
noncomputable def g36 : FnE := ⟨f36, 38684999038369111799119920⟩
theorem og36 : G 36 g36 := ⟨func36, by kernel_rfl⟩
noncomputable def g39 : FnE := ⟨f39, 133151744⟩
theorem og39 : G 39 g39 := ⟨func39, by kernel_rfl⟩
noncomputable def g40 : FnE := ⟨f40, 71459390958333984⟩
theorem og40 : G 40 g40 := ⟨func40, by kernel_rfl⟩
noncomputable def g41 : FnE := ⟨f41, 17591112302560⟩
theorem og41 : G 41 g41 := ⟨func41, by kernel_rfl⟩
noncomputable def g43 : FnE := ⟨f43, 134213600⟩
theorem og43 : G 43 g43 := ⟨func43, by kernel_rfl⟩
noncomputable def g44 : FnE := ⟨f44, 4398046502624⟩
theorem og44 : G 44 g44 := ⟨func44, by kernel_rfl⟩
noncomputable def g45 : FnE := ⟨f45, 2361183166667755023872⟩
theorem og45 : G 45 g45 := ⟨func45, by kernel_rfl⟩
noncomputable def g46 : FnE := ⟨f46, 281474469197824⟩
theorem og46 : G 46 g46 := ⟨func46, by kernel_rfl⟩
noncomputable def g47 : FnE := ⟨f47, 1040850⟩
theorem og47 : G 47 g47 := ⟨func47, by kernel_rfl⟩
noncomputable def g48 : FnE := ⟨f48, 294427328946911500290⟩
theorem og48 : G 48 g48 := ⟨func48, by kernel_rfl⟩
noncomputable def g49 : FnE := ⟨f49, 1040186400⟩
theorem og49 : G 49 g49 := ⟨func49, by kernel_rfl⟩
noncomputable def g50 : FnE := ⟨f50, 33536972⟩
theorem og50 : G 50 g50 := ⟨func50, by kernel_rfl⟩
noncomputable def g51 : FnE := ⟨f51, 524002⟩
theorem og51 : G 51 g51 := ⟨func51, by kernel_rfl⟩
noncomputable def g58 : FnE := ⟨f58, 9222809082841268096⟩
theorem og58 : G 58 g58 := ⟨func58, by kernel_rfl⟩
noncomputable def g59 : FnE := ⟨f59, 144044809665834720⟩
theorem og59 : G 59 g59 := ⟨func59, by kernel_rfl⟩
noncomputable def g60 : FnE := ⟨f60, 1008806308410817536⟩
theorem og60 : G 60 g60 := ⟨func60, by kernel_rfl⟩
noncomputable def g61 : FnE := ⟨f61, 15816⟩
theorem og61 : G 61 g61 := ⟨func61, by kernel_rfl⟩
noncomputable def g68 : FnE := ⟨f68, 18014398509464524⟩
theorem og68 : G 68 g68 := ⟨func68, by kernel_rfl⟩
noncomputable def g75 : FnE := ⟨f75, 33536972⟩
theorem og75 : G 75 g75 := ⟨func75, by kernel_rfl⟩
noncomputable def g76 : FnE := ⟨f76, 4092⟩
theorem og76 : G 76 g76 := ⟨func76, by kernel_rfl⟩
noncomputable def g77 : FnE := ⟨f77, 262140⟩
theorem og77 : G 77 g77 := ⟨func77, by kernel_rfl⟩
noncomputable def g78 : FnE := ⟨f78, 508⟩
theorem og78 : G 78 g78 := ⟨func78, by kernel_rfl⟩
noncomputable def g79 : FnE := ⟨f79, 4293458952⟩
theorem og79 : G 79 g79 := ⟨func79, by kernel_rfl⟩
noncomputable def g80 : FnE := ⟨f80, 126768⟩
theorem og80 : G 80 g80 := ⟨func80, by kernel_rfl⟩
noncomputable def g81 : FnE := ⟨f81, 18889465931478580854528⟩
theorem og81 : G 81 g81 := ⟨func81, by kernel_rfl⟩
noncomputable def g83 : FnE := ⟨f83, 1073741752⟩
theorem og83 : G 83 g83 := ⟨func83, by kernel_rfl⟩
noncomputable def g84 : FnE := ⟨f84, 14648104⟩
theorem og84 : G 84 g84 := ⟨func84, by kernel_rfl⟩
noncomputable def g85 : FnE := ⟨f85, 522322⟩
theorem og85 : G 85 g85 := ⟨func85, by kernel_rfl⟩
noncomputable def g88 : FnE := ⟨f88, 123145302183088⟩
theorem og88 : G 88 g88 := ⟨func88, by kernel_rfl⟩
noncomputable def g89 : FnE := ⟨f89, 32696⟩
theorem og89 : G 89 g89 := ⟨func89, by kernel_rfl⟩
noncomputable def g90 : FnE := ⟨f90, 32696⟩
theorem og90 : G 90 g90 := ⟨func90, by kernel_rfl⟩
noncomputable def g91 : FnE := ⟨f91, 4398046510976⟩
theorem og91 : G 91 g91 := ⟨func91, by kernel_rfl⟩
noncomputable def g92 : FnE := ⟨f92, 9223372036840095616⟩
theorem og92 : G 92 g92 := ⟨func92, by kernel_rfl⟩
noncomputable def g93 : FnE := ⟨f93, 18446739675663039488⟩
theorem og93 : G 93 g93 := ⟨func93, by kernel_rfl⟩
noncomputable def g94 : FnE := ⟨f94, 1069547040⟩
theorem og94 : G 94 g94 := ⟨func94, by kernel_rfl⟩
noncomputable def g95 : FnE := ⟨f95, 62913554⟩
theorem og95 : G 95 g95 := ⟨func95, by kernel_rfl⟩
noncomputable def g96 : FnE := ⟨f96, 288221579804933250⟩
theorem og96 : G 96 g96 := ⟨func96, by kernel_rfl⟩
noncomputable def g97 : FnE := ⟨f97, 274814987072⟩
theorem og97 : G 97 g97 := ⟨func97, by kernel_rfl⟩
noncomputable def g98 : FnE := ⟨f98, 281466386249666⟩
theorem og98 : G 98 g98 := ⟨func98, by kernel_rfl⟩
noncomputable def g99 : FnE := ⟨f99, 231584178366792597750787233802655309335546836759530032678546338626702885765136⟩
theorem og99 : G 99 g99 := ⟨func99, by kernel_rfl⟩
noncomputable def g100 : FnE := ⟨f100, 492⟩
theorem og100 : G 100 g100 := ⟨func100, by kernel_rfl⟩
noncomputable def g101 : FnE := ⟨f101, 56⟩
theorem og101 : G 101 g101 := ⟨func101, by kernel_rfl⟩
noncomputable def g102 : FnE := ⟨f102, 28170⟩
theorem og102 : G 102 g102 := ⟨func102, by kernel_rfl⟩
noncomputable def g103 : FnE := ⟨f103, 76⟩
theorem og103 : G 103 g103 := ⟨func103, by kernel_rfl⟩
noncomputable def g104 : FnE := ⟨f104, 154138023554043064616972352⟩
theorem og104 : G 104 g104 := ⟨func104, by kernel_rfl⟩
noncomputable def g105 : FnE := ⟨f105, 17592177639180⟩
theorem og105 : G 105 g105 := ⟨func105, by kernel_rfl⟩
noncomputable def g106 : FnE := ⟨f106, 147569448990048505858⟩
theorem og106 : G 106 g106 := ⟨func106, by kernel_rfl⟩
noncomputable def g107 : FnE := ⟨f107, 38685552440685241145753544⟩
theorem og107 : G 107 g107 := ⟨func107, by kernel_rfl⟩
noncomputable def g108 : FnE := ⟨f108, 67108852⟩
theorem og108 : G 108 g108 := ⟨func108, by kernel_rfl⟩
noncomputable def g112 : FnE := ⟨f112, 122⟩
theorem og112 : G 112 g112 := ⟨func112, by kernel_rfl⟩
noncomputable def g113 : FnE := ⟨f113, 136902082082⟩
theorem og113 : G 113 g113 := ⟨func113, by kernel_rfl⟩
noncomputable def g114 : FnE := ⟨f114, 492⟩
theorem og114 : G 114 g114 := ⟨func114, by kernel_rfl⟩
noncomputable def g115 : FnE := ⟨f115, 4024⟩
theorem og115 : G 115 g115 := ⟨func115, by kernel_rfl⟩
noncomputable def g116 : FnE := ⟨f116, 674⟩
theorem og116 : G 116 g116 := ⟨func116, by kernel_rfl⟩
noncomputable def g117 : FnE := ⟨f117, 36028797018824642⟩
theorem og117 : G 117 g117 := ⟨func117, by kernel_rfl⟩
noncomputable def g118 : FnE := ⟨f118, 992⟩
theorem og118 : G 118 g118 := ⟨func118, by kernel_rfl⟩
noncomputable def g119 : FnE := ⟨f119, 2097056⟩
theorem og119 : G 119 g119 := ⟨func119, by kernel_rfl⟩
noncomputable def g120 : FnE := ⟨f120, 20282409600958445789185656192016⟩
theorem og120 : G 120 g120 := ⟨func120, by kernel_rfl⟩
noncomputable def g121 : FnE := ⟨f121, 14648104⟩
theorem og121 : G 121 g121 := ⟨func121, by kernel_rfl⟩
noncomputable def g122 : FnE := ⟨f122, 67099744⟩
theorem og122 : G 122 g122 := ⟨func122, by kernel_rfl⟩
noncomputable def g125 : FnE := ⟨f125, 56⟩
theorem og125 : G 125 g125 := ⟨func125, by kernel_rfl⟩
noncomputable def g127 : FnE := ⟨f127, 136365211104⟩
theorem og127 : G 127 g127 := ⟨func127, by kernel_rfl⟩
noncomputable def g128 : FnE := ⟨f128, 32⟩
theorem og128 : G 128 g128 := ⟨func128, by kernel_rfl⟩
noncomputable def g129 : FnE := ⟨f129, 50301900⟩
theorem og129 : G 129 g129 := ⟨func129, by kernel_rfl⟩
noncomputable def g130 : FnE := ⟨f130, 50301900⟩
theorem og130 : G 130 g130 := ⟨func130, by kernel_rfl⟩
noncomputable def g133 : FnE := ⟨f133, 8379328⟩
theorem og133 : G 133 g133 := ⟨func133, by kernel_rfl⟩
noncomputable def g134 : FnE := ⟨f134, 34359738360⟩
theorem og134 : G 134 g134 := ⟨func134, by kernel_rfl⟩
noncomputable def g135 : FnE := ⟨f135, 26⟩
theorem og135 : G 135 g135 := ⟨func135, by kernel_rfl⟩
noncomputable def g136 : FnE := ⟨f136, 26⟩
theorem og136 : G 136 g136 := ⟨func136, by kernel_rfl⟩
noncomputable def g137 : FnE := ⟨f137, 26⟩
theorem og137 : G 137 g137 := ⟨func137, by kernel_rfl⟩
noncomputable def g138 : FnE := ⟨f138, 244⟩
theorem og138 : G 138 g138 := ⟨func138, by kernel_rfl⟩
noncomputable def g139 : FnE := ⟨f139, 8186⟩
theorem og139 : G 139 g139 := ⟨func139, by kernel_rfl⟩
noncomputable def g140 : FnE := ⟨f140, 58⟩
theorem og140 : G 140 g140 := ⟨func140, by kernel_rfl⟩
noncomputable def g141 : FnE := ⟨f141, 2040⟩
theorem og141 : G 141 g141 := ⟨func141, by kernel_rfl⟩
noncomputable def g142 : FnE := ⟨f142, 65528⟩
theorem og142 : G 142 g142 := ⟨func142, by kernel_rfl⟩
noncomputable def g143 : FnE := ⟨f143, 2040⟩
theorem og143 : G 143 g143 := ⟨func143, by kernel_rfl⟩
noncomputable def g144 : FnE := ⟨f144, 4088⟩
theorem og144 : G 144 g144 := ⟨func144, by kernel_rfl⟩
noncomputable def g145 : FnE := ⟨f145, 8176⟩
theorem og145 : G 145 g145 := ⟨func145, by kernel_rfl⟩
noncomputable def g146 : FnE := ⟨f146, 60129480452⟩
theorem og146 : G 146 g146 := ⟨func146, by kernel_rfl⟩
noncomputable def g147 : FnE := ⟨f147, 65504⟩
theorem og147 : G 147 g147 := ⟨func147, by kernel_rfl⟩
noncomputable def g148 : FnE := ⟨f148, 549755742120⟩
theorem og148 : G 148 g148 := ⟨func148, by kernel_rfl⟩
noncomputable def g149 : FnE := ⟨f149, 2040⟩
theorem og149 : G 149 g149 := ⟨func149, by kernel_rfl⟩
noncomputable def g150 : FnE := ⟨f150, 16368⟩
theorem og150 : G 150 g150 := ⟨func150, by kernel_rfl⟩
noncomputable def g151 : FnE := ⟨f151, 16368⟩
theorem og151 : G 151 g151 := ⟨func151, by kernel_rfl⟩
noncomputable def g152 : FnE := ⟨f152, 67108832⟩
theorem og152 : G 152 g152 := ⟨func152, by kernel_rfl⟩
noncomputable def g153 : FnE := ⟨f153, 8388592⟩
theorem og153 : G 153 g153 := ⟨func153, by kernel_rfl⟩
noncomputable def g154 : FnE := ⟨f154, 496⟩
theorem og154 : G 154 g154 := ⟨func154, by kernel_rfl⟩
noncomputable def g155 : FnE := ⟨f155, 2199023251368⟩
theorem og155 : G 155 g155 := ⟨func155, by kernel_rfl⟩
noncomputable def g156 : FnE := ⟨f156, 8388592⟩
theorem og156 : G 156 g156 := ⟨func156, by kernel_rfl⟩
noncomputable def g157 : FnE := ⟨f157, 4088⟩
theorem og157 : G 157 g157 := ⟨func157, by kernel_rfl⟩
noncomputable def g158 : FnE := ⟨f158, 524272⟩
theorem og158 : G 158 g158 := ⟨func158, by kernel_rfl⟩
noncomputable def g159 : FnE := ⟨f159, 262128⟩
theorem og159 : G 159 g159 := ⟨func159, by kernel_rfl⟩
noncomputable def g160 : FnE := ⟨f160, 4127204⟩
theorem og160 : G 160 g160 := ⟨func160, by kernel_rfl⟩
noncomputable def g161 : FnE := ⟨f161, 28170⟩
theorem og161 : G 161 g161 := ⟨func161, by kernel_rfl⟩
noncomputable def g162 : FnE := ⟨f162, 76⟩
theorem og162 : G 162 g162 := ⟨func162, by kernel_rfl⟩
noncomputable def g163 : FnE := ⟨f163, 30⟩
theorem og163 : G 163 g163 := ⟨func163, by kernel_rfl⟩
noncomputable def g164 : FnE := ⟨f164, 253920⟩
theorem og164 : G 164 g164 := ⟨func164, by kernel_rfl⟩
noncomputable def g165 : FnE := ⟨f165, 37640580711207508331084⟩
theorem og165 : G 165 g165 := ⟨func165, by kernel_rfl⟩
noncomputable def g166 : FnE := ⟨f166, 65484⟩
theorem og166 : G 166 g166 := ⟨func166, by kernel_rfl⟩
noncomputable def g167 : FnE := ⟨f167, 1480⟩
theorem og167 : G 167 g167 := ⟨func167, by kernel_rfl⟩
noncomputable def g168 : FnE := ⟨f168, 17592185520120⟩
theorem og168 : G 168 g168 := ⟨func168, by kernel_rfl⟩
noncomputable def g169 : FnE := ⟨f169, 457804⟩
theorem og169 : G 169 g169 := ⟨func169, by kernel_rfl⟩
noncomputable def g170 : FnE := ⟨f170, 2147220748⟩
theorem og170 : G 170 g170 := ⟨func170, by kernel_rfl⟩
noncomputable def g171 : FnE := ⟨f171, 469762034⟩
theorem og171 : G 171 g171 := ⟨func171, by kernel_rfl⟩
noncomputable def g176 : FnE := ⟨f176, 131066⟩
theorem og176 : G 176 g176 := ⟨func176, by kernel_rfl⟩
noncomputable def g177 : FnE := ⟨f177, 457804⟩
theorem og177 : G 177 g177 := ⟨func177, by kernel_rfl⟩
noncomputable def g178 : FnE := ⟨f178, 2658455991569831745807614120560680976⟩
theorem og178 : G 178 g178 := ⟨func178, by kernel_rfl⟩
noncomputable def g181 : FnE := ⟨f181, 402389000⟩
theorem og181 : G 181 g181 := ⟨func181, by kernel_rfl⟩
noncomputable def g183 : FnE := ⟨f183, 520093656⟩
theorem og183 : G 183 g183 := ⟨func183, by kernel_rfl⟩
noncomputable def g184 : FnE := ⟨f184, 16344⟩
theorem og184 : G 184 g184 := ⟨func184, by kernel_rfl⟩
noncomputable def g185 : FnE := ⟨f185, 504⟩
theorem og185 : G 185 g185 := ⟨func185, by kernel_rfl⟩
noncomputable def g186 : FnE := ⟨f186, 131064⟩
theorem og186 : G 186 g186 := ⟨func186, by kernel_rfl⟩
noncomputable def g187 : FnE := ⟨f187, 32760⟩
theorem og187 : G 187 g187 := ⟨func187, by kernel_rfl⟩
noncomputable def g188 : FnE := ⟨f188, 17583596105624⟩
theorem og188 : G 188 g188 := ⟨func188, by kernel_rfl⟩
noncomputable def g189 : FnE := ⟨f189, 32488408⟩
theorem og189 : G 189 g189 := ⟨func189, by kernel_rfl⟩
noncomputable def g190 : FnE := ⟨f190, 248⟩
theorem og190 : G 190 g190 := ⟨func190, by kernel_rfl⟩
noncomputable def g191 : FnE := ⟨f191, 7930⟩
theorem og191 : G 191 g191 := ⟨func191, by kernel_rfl⟩
noncomputable def g192 : FnE := ⟨f192, 260056⟩
theorem og192 : G 192 g192 := ⟨func192, by kernel_rfl⟩
noncomputable def g193 : FnE := ⟨f193, 2008⟩
theorem og193 : G 193 g193 := ⟨func193, by kernel_rfl⟩
noncomputable def g194 : FnE := ⟨f194, 2061047431160⟩
theorem og194 : G 194 g194 := ⟨func194, by kernel_rfl⟩
noncomputable def g195 : FnE := ⟨f195, 248⟩
theorem og195 : G 195 g195 := ⟨func195, by kernel_rfl⟩
noncomputable def g196 : FnE := ⟨f196, 1020⟩
theorem og196 : G 196 g196 := ⟨func196, by kernel_rfl⟩
noncomputable def g197 : FnE := ⟨f197, 35182224601016⟩
theorem og197 : G 197 g197 := ⟨func197, by kernel_rfl⟩
noncomputable def g198 : FnE := ⟨f198, 248⟩
theorem og198 : G 198 g198 := ⟨func198, by kernel_rfl⟩
noncomputable def g199 : FnE := ⟨f199, 248⟩
theorem og199 : G 199 g199 := ⟨func199, by kernel_rfl⟩
noncomputable def g200 : FnE := ⟨f200, 457804⟩
theorem og200 : G 200 g200 := ⟨func200, by kernel_rfl⟩
noncomputable def g201 : FnE := ⟨f201, 58⟩
theorem og201 : G 201 g201 := ⟨func201, by kernel_rfl⟩
noncomputable def g202 : FnE := ⟨f202, 492⟩
theorem og202 : G 202 g202 := ⟨func202, by kernel_rfl⟩
noncomputable def g203 : FnE := ⟨f203, 24⟩
theorem og203 : G 203 g203 := ⟨func203, by kernel_rfl⟩
noncomputable def g204 : FnE := ⟨f204, 4294967288⟩
theorem og204 : G 204 g204 := ⟨func204, by kernel_rfl⟩
noncomputable def g205 : FnE := ⟨f205, 4076⟩
theorem og205 : G 205 g205 := ⟨func205, by kernel_rfl⟩
noncomputable def g206 : FnE := ⟨f206, 130928⟩
theorem og206 : G 206 g206 := ⟨func206, by kernel_rfl⟩
noncomputable def g207 : FnE := ⟨f207, 549755813880⟩
theorem og207 : G 207 g207 := ⟨func207, by kernel_rfl⟩
noncomputable def g208 : FnE := ⟨f208, 2040⟩
theorem og208 : G 208 g208 := ⟨func208, by kernel_rfl⟩
noncomputable def g209 : FnE := ⟨f209, 1964⟩
theorem og209 : G 209 g209 := ⟨func209, by kernel_rfl⟩
noncomputable def g213 : FnE := ⟨f213, 26⟩
theorem og213 : G 213 g213 := ⟨func213, by kernel_rfl⟩
noncomputable def g214 : FnE := ⟨f214, 42524890909723710779775849120990470156⟩
theorem og214 : G 214 g214 := ⟨func214, by kernel_rfl⟩
noncomputable def g215 : FnE := ⟨f215, 524146⟩
theorem og215 : G 215 g215 := ⟨func215, by kernel_rfl⟩
noncomputable def g216 : FnE := ⟨f216, 1048290⟩
theorem og216 : G 216 g216 := ⟨func216, by kernel_rfl⟩
noncomputable def g217 : FnE := ⟨f217, 1016⟩
theorem og217 : G 217 g217 := ⟨func217, by kernel_rfl⟩
noncomputable def g218 : FnE := ⟨f218, 1016⟩
theorem og218 : G 218 g218 := ⟨func218, by kernel_rfl⟩
noncomputable def g219 : FnE := ⟨f219, 492⟩
theorem og219 : G 219 g219 := ⟨func219, by kernel_rfl⟩
noncomputable def g220 : FnE := ⟨f220, 26⟩
theorem og220 : G 220 g220 := ⟨func220, by kernel_rfl⟩
noncomputable def g221 : FnE := ⟨f221, 64563604257983426570⟩
theorem og221 : G 221 g221 := ⟨func221, by kernel_rfl⟩
noncomputable def g224 : FnE := ⟨f224, 16777176⟩
theorem og224 : G 224 g224 := ⟨func224, by kernel_rfl⟩
noncomputable def g225 : FnE := ⟨f225, 56⟩
theorem og225 : G 225 g225 := ⟨func225, by kernel_rfl⟩
noncomputable def g226 : FnE := ⟨f226, 16380⟩
theorem og226 : G 226 g226 := ⟨func226, by kernel_rfl⟩
noncomputable def g227 : FnE := ⟨f227, 234⟩
theorem og227 : G 227 g227 := ⟨func227, by kernel_rfl⟩
noncomputable def g228 : FnE := ⟨f228, 457804⟩
theorem og228 : G 228 g228 := ⟨func228, by kernel_rfl⟩
noncomputable def g235 : FnE := ⟨f235, 457804⟩
theorem og235 : G 235 g235 := ⟨func235, by kernel_rfl⟩
noncomputable def tyTab : Tr TyE :=
 (.node (.node (N (.node (.node (.node (.node (.node (L y255) none K0) none (L y191)) none K0) none K0) none (N (N (N (.node (L y263) none K0) y71 K0) y39 K0) y23 (.node (.node K0 none (L y215)) none K0))) y3 (.node (.node (N (.node (.node (L y259) none K0) none (L y195)) y35 (.node K0 none (L y227))) none (N (.node (.node (L y275) none K0) none K0) y51 (N K0 y115 (L y243)))) none (N (.node (L y75) none (.node (L y171) none (L y235))) y27 (.node (.node K0 none (L y219)) none (N K0 y123 (L y251)))))) none (N (N (.node (N K0 y33 (N K0 y97 (L y225))) none (.node (.node (.node (L y273) none K0) none K0) none K0)) y9 (N (.node (L y73) none K0) y25 (.node K0 none (N (L y185) y121 K0)))) y5 (.node (N (.node (.node K0 none (L y197)) none (N (L y165) y101 (L y229))) y21 (N K0 y53 (.node K0 none (L y245)))) none (.node (N (L y77) y45 K0) none (.node (.node (.node (L y285) none K0) none K0) none K0))))) none (N (N (.node (.node (N K0 y32 (L y96)) none (.node K0 none (N K0 y112 (L y240)))) none (N K0 y24 (.node (.node K0 none (L y216)) none (L y120)))) y4 (.node (.node (N K0 y36 (L y100)) none (.node (.node (.node (L y276) none K0) none K0) none (.node K0 none (L y244)))) none (.node (N (N (.node (L y268) none K0) y76 K0) y44 (L y108)) none (.node (.node K0 none (L y220)) none K0)))) y2 (.node (.node (.node (N K0 y34 (N (.node (L y290) none K0) y98 (L y226))) none (.node (.node (.node (L y274) none K0) none K0) none (.node K0 none (L y242)))) none (N (.node (N (.node (L y266) none K0) y74 K0) none (.node K0 none (L y234))) y26 (N (.node K0 none (L y218)) y58 (N K0 y122 (L y250))))) none (.node (N (.node (.node K0 none (L y198)) none (L y102)) y22 (.node K0 none (.node (L y182) none K0))) none (.node (N (N (.node (L y270) none K0) y78 K0) y46 (.node (L y174) none K0)) none (.node K0 none (.node (L y190) none K0)))))))
noncomputable def fnTab : Tr FnE :=
 (.node (.node (.node (N (N (.node (.node (L g127) none (L g191)) none (N (L g159) g95 K0)) g15 (N (N (L g143) g79 (L g207)) g47 K0)) g7 (.node (N (.node (L g135) none (L g199)) g39 (N (L g167) g103 K0)) none (.node (.node (L g151) none (L g215)) none (N (L g183) g119 K0)))) none (.node (N (.node (.node K0 none (L g195)) none (N (L g163) g99 (L g227))) g19 (N (N (L g147) g83 K0) g51 (L g115))) none (N (N (N (L g139) g75 (L g203)) g43 (N (L g171) g107 (L g235))) g27 (N (N (L g155) g91 (L g219)) g59 (.node (L g187) none K0))))) none (.node (.node (.node (.node (.node (L g129) none (L g193)) none (N (L g161) g97 (L g225))) none (N (N (L g145) g81 (L g209)) g49 (N (L g177) g113 K0))) none (.node (N (.node (L g137) none (L g201)) g41 (N (L g169) g105 K0)) none (.node (N (L g153) g89 (L g217)) none (N (L g185) g121 K0)))) none (.node (.node (.node (.node (L g133) none (L g197)) none (N (L g165) g101 K0)) none (.node (N (L g149) g85 (L g213)) none (N (L g181) g117 K0))) none (.node (N (N (L g141) g77 (L g205)) g45 K0) none (N (N (L g157) g93 (L g221)) g61 (N (L g189) g125 K0)))))) none (.node (.node (.node (N (.node (.node (L g128) none (L g192)) none (N (L g160) g96 (L g224))) g16 (N (N (L g144) g80 (L g208)) g48 (N (L g176) g112 K0))) none (.node (N (.node (L g136) none (L g200)) g40 (N (L g168) g104 K0)) none (.node (N (L g152) g88 (L g216)) none (N (L g184) g120 K0)))) none (.node (N (N (N K0 g68 (L g196)) g36 (N (L g164) g100 (L g228))) g20 (.node (N (L g148) g84 K0) none (L g116))) none (N (N (N (L g140) g76 (L g204)) g44 (L g108)) g28 (N (N (L g156) g92 (L g220)) g60 (.node (L g188) none K0))))) none (.node (.node (.node (.node (.node (L g130) none (L g194)) none (N (L g162) g98 (L g226))) none (N (.node (L g146) none K0) g50 (N (L g178) g114 K0))) none (.node (.node (.node (L g138) none (L g202)) none (N (L g170) g106 K0)) none (N (N (L g154) g90 (L g218)) g58 (N (L g186) g122 K0)))) none (.node (.node (.node (.node (L g134) none (L g198)) none (N (L g166) g102 K0)) none (.node (.node (L g150) none (L g214)) none (L g118))) none (.node (N (N (L g142) g78 (L g206)) g46 K0) none (.node (N (L g158) g94 K0) none (.node (L g190) none K0)))))))
noncomputable def tab : Tab := ⟨tyTab, fnTab, fun f => f == 28 || f == 38 || f == 72, fun t => t == 96 || t == 100⟩
theorem tyAll : tyTab.All (TyOk Tryz.prog) id :=
 ⟨T, ⟨T, ⟨oy3, ⟨T, ⟨T, ⟨T, ⟨T, ⟨T, ⟨oy255, T, T⟩, T⟩, ⟨oy191, T, T⟩⟩, T⟩, T⟩, ⟨oy23, ⟨oy39, ⟨oy71, ⟨T, ⟨oy263, T, T⟩, T⟩, T⟩, T⟩, ⟨T, ⟨T, T, ⟨oy215, T, T⟩⟩, T⟩⟩⟩, ⟨T, ⟨T, ⟨oy35, ⟨T, ⟨T, ⟨oy259, T, T⟩, T⟩, ⟨oy195, T, T⟩⟩, ⟨T, T, ⟨oy227, T, T⟩⟩⟩, ⟨oy51, ⟨T, ⟨T, ⟨oy275, T, T⟩, T⟩, T⟩, ⟨oy115, T, ⟨oy243, T, T⟩⟩⟩⟩, ⟨oy27, ⟨T, ⟨oy75, T, T⟩, ⟨T, ⟨oy171, T, T⟩, ⟨oy235, T, T⟩⟩⟩, ⟨T, ⟨T, T, ⟨oy219, T, T⟩⟩, ⟨oy123, T, ⟨oy251, T, T⟩⟩⟩⟩⟩⟩, ⟨oy5, ⟨oy9, ⟨T, ⟨oy33, T, ⟨oy97, T, ⟨oy225, T, T⟩⟩⟩, ⟨T, ⟨T, ⟨T, ⟨oy273, T, T⟩, T⟩, T⟩, T⟩⟩, ⟨oy25, ⟨T, ⟨oy73, T, T⟩, T⟩, ⟨T, T, ⟨oy121, ⟨oy185, T, T⟩, T⟩⟩⟩⟩, ⟨T, ⟨oy21, ⟨T, ⟨T, T, ⟨oy197, T, T⟩⟩, ⟨oy101, ⟨oy165, T, T⟩, ⟨oy229, T, T⟩⟩⟩, ⟨oy53, T, ⟨T, T, ⟨oy245, T, T⟩⟩⟩⟩, ⟨T, ⟨oy45, ⟨oy77, T, T⟩, T⟩, ⟨T, ⟨T, ⟨T, ⟨oy285, T, T⟩, T⟩, T⟩, T⟩⟩⟩⟩⟩, ⟨oy2, ⟨oy4, ⟨T, ⟨T, ⟨oy32, T, ⟨oy96, T, T⟩⟩, ⟨T, T, ⟨oy112, T, ⟨oy240, T, T⟩⟩⟩⟩, ⟨oy24, T, ⟨T, ⟨T, T, ⟨oy216, T, T⟩⟩, ⟨oy120, T, T⟩⟩⟩⟩, ⟨T, ⟨T, ⟨oy36, T, ⟨oy100, T, T⟩⟩, ⟨T, ⟨T, ⟨T, ⟨oy276, T, T⟩, T⟩, T⟩, ⟨T, T, ⟨oy244, T, T⟩⟩⟩⟩, ⟨T, ⟨oy44, ⟨oy76, ⟨T, ⟨oy268, T, T⟩, T⟩, T⟩, ⟨oy108, T, T⟩⟩, ⟨T, ⟨T, T, ⟨oy220, T, T⟩⟩, T⟩⟩⟩⟩, ⟨T, ⟨T, ⟨T, ⟨oy34, T, ⟨oy98, ⟨T, ⟨oy290, T, T⟩, T⟩, ⟨oy226, T, T⟩⟩⟩, ⟨T, ⟨T, ⟨T, ⟨oy274, T, T⟩, T⟩, T⟩, ⟨T, T, ⟨oy242, T, T⟩⟩⟩⟩, ⟨oy26, ⟨T, ⟨oy74, ⟨T, ⟨oy266, T, T⟩, T⟩, T⟩, ⟨T, T, ⟨oy234, T, T⟩⟩⟩, ⟨oy58, ⟨T, T, ⟨oy218, T, T⟩⟩, ⟨oy122, T, ⟨oy250, T, T⟩⟩⟩⟩⟩, ⟨T, ⟨oy22, ⟨T, ⟨T, T, ⟨oy198, T, T⟩⟩, ⟨oy102, T, T⟩⟩, ⟨T, T, ⟨T, ⟨oy182, T, T⟩, T⟩⟩⟩, ⟨T, ⟨oy46, ⟨oy78, ⟨T, ⟨oy270, T, T⟩, T⟩, T⟩, ⟨T, ⟨oy174, T, T⟩, T⟩⟩, ⟨T, T, ⟨T, ⟨oy190, T, T⟩, T⟩⟩⟩⟩⟩⟩⟩
theorem fnAll : fnTab.All (FnOk Tryz.prog) id :=
 ⟨T, ⟨T, ⟨T, ⟨og7, ⟨og15, ⟨T, ⟨T, ⟨og127, T, T⟩, ⟨og191, T, T⟩⟩, ⟨og95, ⟨og159, T, T⟩, T⟩⟩, ⟨og47, ⟨og79, ⟨og143, T, T⟩, ⟨og207, T, T⟩⟩, T⟩⟩, ⟨T, ⟨og39, ⟨T, ⟨og135, T, T⟩, ⟨og199, T, T⟩⟩, ⟨og103, ⟨og167, T, T⟩, T⟩⟩, ⟨T, ⟨T, ⟨og151, T, T⟩, ⟨og215, T, T⟩⟩, ⟨og119, ⟨og183, T, T⟩, T⟩⟩⟩⟩, ⟨T, ⟨og19, ⟨T, ⟨T, T, ⟨og195, T, T⟩⟩, ⟨og99, ⟨og163, T, T⟩, ⟨og227, T, T⟩⟩⟩, ⟨og51, ⟨og83, ⟨og147, T, T⟩, T⟩, ⟨og115, T, T⟩⟩⟩, ⟨og27, ⟨og43, ⟨og75, ⟨og139, T, T⟩, ⟨og203, T, T⟩⟩, ⟨og107, ⟨og171, T, T⟩, ⟨og235, T, T⟩⟩⟩, ⟨og59, ⟨og91, ⟨og155, T, T⟩, ⟨og219, T, T⟩⟩, ⟨T, ⟨og187, T, T⟩, T⟩⟩⟩⟩⟩, ⟨T, ⟨T, ⟨T, ⟨T, ⟨T, ⟨og129, T, T⟩, ⟨og193, T, T⟩⟩, ⟨og97, ⟨og161, T, T⟩, ⟨og225, T, T⟩⟩⟩, ⟨og49, ⟨og81, ⟨og145, T, T⟩, ⟨og209, T, T⟩⟩, ⟨og113, ⟨og177, T, T⟩, T⟩⟩⟩, ⟨T, ⟨og41, ⟨T, ⟨og137, T, T⟩, ⟨og201, T, T⟩⟩, ⟨og105, ⟨og169, T, T⟩, T⟩⟩, ⟨T, ⟨og89, ⟨og153, T, T⟩, ⟨og217, T, T⟩⟩, ⟨og121, ⟨og185, T, T⟩, T⟩⟩⟩⟩, ⟨T, ⟨T, ⟨T, ⟨T, ⟨og133, T, T⟩, ⟨og197, T, T⟩⟩, ⟨og101, ⟨og165, T, T⟩, T⟩⟩, ⟨T, ⟨og85, ⟨og149, T, T⟩, ⟨og213, T, T⟩⟩, ⟨og117, ⟨og181, T, T⟩, T⟩⟩⟩, ⟨T, ⟨og45, ⟨og77, ⟨og141, T, T⟩, ⟨og205, T, T⟩⟩, T⟩, ⟨og61, ⟨og93, ⟨og157, T, T⟩, ⟨og221, T, T⟩⟩, ⟨og125, ⟨og189, T, T⟩, T⟩⟩⟩⟩⟩⟩, ⟨T, ⟨T, ⟨T, ⟨og16, ⟨T, ⟨T, ⟨og128, T, T⟩, ⟨og192, T, T⟩⟩, ⟨og96, ⟨og160, T, T⟩, ⟨og224, T, T⟩⟩⟩, ⟨og48, ⟨og80, ⟨og144, T, T⟩, ⟨og208, T, T⟩⟩, ⟨og112, ⟨og176, T, T⟩, T⟩⟩⟩, ⟨T, ⟨og40, ⟨T, ⟨og136, T, T⟩, ⟨og200, T, T⟩⟩, ⟨og104, ⟨og168, T, T⟩, T⟩⟩, ⟨T, ⟨og88, ⟨og152, T, T⟩, ⟨og216, T, T⟩⟩, ⟨og120, ⟨og184, T, T⟩, T⟩⟩⟩⟩, ⟨T, ⟨og20, ⟨og36, ⟨og68, T, ⟨og196, T, T⟩⟩, ⟨og100, ⟨og164, T, T⟩, ⟨og228, T, T⟩⟩⟩, ⟨T, ⟨og84, ⟨og148, T, T⟩, T⟩, ⟨og116, T, T⟩⟩⟩, ⟨og28, ⟨og44, ⟨og76, ⟨og140, T, T⟩, ⟨og204, T, T⟩⟩, ⟨og108, T, T⟩⟩, ⟨og60, ⟨og92, ⟨og156, T, T⟩, ⟨og220, T, T⟩⟩, ⟨T, ⟨og188, T, T⟩, T⟩⟩⟩⟩⟩, ⟨T, ⟨T, ⟨T, ⟨T, ⟨T, ⟨og130, T, T⟩, ⟨og194, T, T⟩⟩, ⟨og98, ⟨og162, T, T⟩, ⟨og226, T, T⟩⟩⟩, ⟨og50, ⟨T, ⟨og146, T, T⟩, T⟩, ⟨og114, ⟨og178, T, T⟩, T⟩⟩⟩, ⟨T, ⟨T, ⟨T, ⟨og138, T, T⟩, ⟨og202, T, T⟩⟩, ⟨og106, ⟨og170, T, T⟩, T⟩⟩, ⟨og58, ⟨og90, ⟨og154, T, T⟩, ⟨og218, T, T⟩⟩, ⟨og122, ⟨og186, T, T⟩, T⟩⟩⟩⟩, ⟨T, ⟨T, ⟨T, ⟨T, ⟨og134, T, T⟩, ⟨og198, T, T⟩⟩, ⟨og102, ⟨og166, T, T⟩, T⟩⟩, ⟨T, ⟨T, ⟨og150, T, T⟩, ⟨og214, T, T⟩⟩, ⟨og118, T, T⟩⟩⟩, ⟨T, ⟨og46, ⟨og78, ⟨og142, T, T⟩, ⟨og206, T, T⟩⟩, T⟩, ⟨T, ⟨og94, ⟨og158, T, T⟩, T⟩, ⟨T, ⟨og190, T, T⟩, T⟩⟩⟩⟩⟩⟩⟩
theorem tabOf : tab.Of Tryz.prog ∧ tab.Good := tab_of tyAll fnAll
end Go.Proofs.YtdeaibcebeofiaaGreatDoor.C5
