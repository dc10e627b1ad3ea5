/-
  Closed examples, run by the kernel.
-/
import Derived.Test.YtdeaibcebeofiaaGreatDoorRowsA
set_option linter.unusedVariables false
set_option linter.unusedSimpArgs false
set_option linter.unusedSectionVars false
namespace Go.Proofs.YtdeaibcebeofiaaGreatDoor.C5
open Go Go.Proofs.YtdeaibcebeofiaaGreatDoor.AM Go.Proofs
set_option maxRecDepth 100000
def z182 : List AV := [n 0, z171, n 0, n 12000]
def z183 : AV := .agg z182
def a60 : List AV := [z161, z183]
def r60 : AV := n 0
abbrev e60 := (a60, r60)
theorem row60 : Row Tryz.prog 91 e60 := RW (l := []) trivial (by kernel_rfl)
def z184 : List AV := [n 0, .str ⟨#[105, 110, 99, 105, 100, 101, 110, 116]⟩, n 0, n 13000]
def z185 : AV := .agg z184
def a61 : List AV := [z161, z185]
def r61 : AV := n 0
abbrev e61 := (a61, r61)
theorem row61 : Row Tryz.prog 91 e61 := RW (l := []) trivial (by kernel_rfl)
def z186 : List AV := [n 0, z164, n 0, n 14000]
def z187 : AV := .agg z186
def a62 : List AV := [z161, z187]
def r62 : AV := n 0
abbrev e62 := (a62, r62)
theorem row62 : Row Tryz.prog 91 e62 := RW (l := []) trivial (by kernel_rfl)
def z188 : List AV := [n 0, .str ⟨#[111, 117, 116]⟩, n 0, z22]
def z189 : AV := .agg z188
def a63 : List AV := [z161, z189]
def r63 : AV := n 0
abbrev e63 := (a63, r63)
theorem row63 : Row Tryz.prog 91 e63 := RW (l := []) trivial (by kernel_rfl)
theorem kn121 : Known Tryz.prog 121 := fn_known tabOf.1 (x := g121) (by kernel_rfl) (by kernel_rfl)
def a64 : List AV := [z161, .sl 4 [z162, z165, z167, z169, z172, z174, z176, z178, z180, z182, z184, z186, z188]]
def r64 : AV := n 0
abbrev e64 := (a64, r64)
theorem row64 : Row Tryz.prog 121 e64 := RW (l := [(91, [e51, e52, e53, e54, e55, e56, e57, e58, e59, e60, e61, e62, e63])]) ⟨kn91, ⟨row51, row52, row53, row54, row55, row56, row57, row58, row59, row60, row61, row62, row63, trivial⟩, trivial⟩ (by kernel_rfl)
def z190 : AV := .ref z162
def z191 : List AV := [z25, z26, n 0, n 0, n 0, n 0, z27, z27, z27, .sl 4 [z42, z42], .nils]
def z192 : AV := .ref [z33, z160, n 2, z18, n 0, .sl 11 [z191]]
def z193 : AV := .ref [z192]
def z194 : AV := .ref z191
def z195 : AV := .ref [.func (.func 138) [] [z190]]
def z196 : List AV := [z195, z194]
def z197 : AV := .ref [z18]
def z198 : List AV := [z195, z190, z197]
def z199 : List AV := [z195, z194, z193]
def z200 : List AV := [.func (.func 157) [] [z195, z43]]
def a65 : List AV := [.sl 1 [[.func (.func 141) [] [z190, z193]], [.func (.func 142) [] [z194, z195]], [.func (.func 143) [] [z37, z193]], [.func (.func 144) [] z196], [.func (.func 145) [] [z195, z193, z190]], [.func (.func 147) [] [z195, z193, z194, z190]], [.func (.func 149) [] z196], [.func (.func 150) [] z198], [.func (.func 151) [] z198], [.func (.func 152) [] [z195, z190, z194, z193]], [.func (.func 153) [] z199], [.func (.func 154) [] [z193, z194, z190]], [.func (.func 156) [] [z195, z194, z43]], z200, [.func (.func 158) [] [z195, z190, z194]], [.func (.func 159) [] z199]], z44]
def r65 : AV := n (-1)
abbrev e65 := (a65, r65)
theorem row65 : Row Tryz.prog 200 e65 := RW (l := []) trivial (by kernel_rfl)
def a66 : List AV := [z192, z163]
def r66 : AV := n 0
abbrev e66 := (a66, r66)
theorem row66 : Row Tryz.prog 93 e66 := RW (l := [(200, [e65])]) ⟨kn200, ⟨row65, trivial⟩, trivial⟩ (by kernel_rfl)
def z201 : AV := .ref z165
def z202 : List AV := [n 0, n 0, n 0, z36]
def z203 : List AV := [z45, z26, n 1, n 0, n 0, n 0, z27, z27, z27, .sl 4 [z202, z42], .nils]
def z204 : AV := .ref [z33, z160, n 2, z18, n 0, .sl 11 [z203]]
def z205 : AV := .ref [z204]
def z206 : AV := .ref z203
def z207 : AV := .ref [.func (.func 138) [] [z201]]
def z208 : AV := .sl 1 [[z33]]
def z209 : AV := .ref [z208, z27, .func (.func 186) [] []]
def z210 : List AV := [z207, z206]
def z211 : List AV := [z207, z201, z197]
def z212 : List AV := [z207, z206, z205]
def z213 : AV := .ref z202
def a67 : List AV := [.sl 1 [[.func (.func 141) [] [z201, z205]], [.func (.func 142) [] [z206, z207]], [.func (.func 143) [] [z209, z205]], [.func (.func 144) [] z210], [.func (.func 145) [] [z207, z205, z201]], [.func (.func 147) [] [z207, z205, z206, z201]], [.func (.func 149) [] z210], [.func (.func 150) [] z211], [.func (.func 151) [] z211], [.func (.func 152) [] [z207, z201, z206, z205]], [.func (.func 153) [] z212], [.func (.func 154) [] [z205, z206, z201]], [.func (.func 156) [] [z207, z206, z213]], [.func (.func 157) [] [z207, z213]], [.func (.func 158) [] [z207, z201, z206]], [.func (.func 159) [] z212]], z44]
def r67 : AV := n (-1)
abbrev e67 := (a67, r67)
theorem row67 : Row Tryz.prog 200 e67 := RW (l := []) trivial (by kernel_rfl)
def a68 : List AV := [z204, z166]
def r68 : AV := n 0
abbrev e68 := (a68, r68)
theorem row68 : Row Tryz.prog 93 e68 := RW (l := [(200, [e67])]) ⟨kn200, ⟨row67, trivial⟩, trivial⟩ (by kernel_rfl)
def z214 : AV := .ref z167
def z215 : List AV := [n 1, n 0, n 0, z36]
def z216 : AV := .sl 4 [z215, z42]
def z217 : List AV := [z45, z26, n 1, n 0, n 0, n 0, z27, z27, z36, z216, .nils]
def z218 : AV := .ref [z33, z160, n 2, z18, n 1000, .sl 11 [z217]]
def z219 : AV := .ref [z218]
def z220 : AV := .ref z217
def z221 : AV := .ref [.func (.func 138) [] [z214]]
def z222 : List AV := [z221, z220]
def z223 : List AV := [z221, z214, z197]
def z224 : List AV := [z221, z220, z219]
def z225 : AV := .ref z215
def a69 : List AV := [.sl 1 [[.func (.func 141) [] [z214, z219]], [.func (.func 142) [] [z220, z221]], [.func (.func 143) [] [z73, z219]], [.func (.func 144) [] z222], [.func (.func 145) [] [z221, z219, z214]], [.func (.func 147) [] [z221, z219, z220, z214]], [.func (.func 149) [] z222], [.func (.func 150) [] z223], [.func (.func 151) [] z223], [.func (.func 152) [] [z221, z214, z220, z219]], [.func (.func 153) [] z224], [.func (.func 154) [] [z219, z220, z214]], [.func (.func 156) [] [z221, z220, z225]], [.func (.func 157) [] [z221, z225]], [.func (.func 158) [] [z221, z214, z220]], [.func (.func 159) [] z224]], z44]
def r69 : AV := n (-1)
abbrev e69 := (a69, r69)
theorem row69 : Row Tryz.prog 200 e69 := RW (l := []) trivial (by kernel_rfl)
def a70 : List AV := [z218, z168]
def r70 : AV := n 0
abbrev e70 := (a70, r70)
theorem row70 : Row Tryz.prog 93 e70 := RW (l := [(200, [e69])]) ⟨kn200, ⟨row69, trivial⟩, trivial⟩ (by kernel_rfl)
def z226 : AV := .ref z169
def z227 : List AV := [z45, z26, n 1, n 0, n 0, n 0, z27, z27, z27, z216, .nils]
def z228 : AV := .ref [z33, z160, n 2, z18, n 2000, .sl 11 [z227]]
def z229 : AV := .ref [z228]
def z230 : AV := .ref z227
def z231 : AV := .ref [.func (.func 138) [] [z226]]
def z232 : List AV := [z231, z230]
def z233 : List AV := [z231, z226, z197]
def z234 : List AV := [z231, z230, z229]
def a71 : List AV := [.sl 1 [[.func (.func 141) [] [z226, z229]], [.func (.func 142) [] [z230, z231]], [.func (.func 143) [] [z209, z229]], [.func (.func 144) [] z232], [.func (.func 145) [] [z231, z229, z226]], [.func (.func 147) [] [z231, z229, z230, z226]], [.func (.func 149) [] z232], [.func (.func 150) [] z233], [.func (.func 151) [] z233], [.func (.func 152) [] [z231, z226, z230, z229]], [.func (.func 153) [] z234], [.func (.func 154) [] [z229, z230, z226]], [.func (.func 156) [] [z231, z230, z225]], [.func (.func 157) [] [z231, z225]], [.func (.func 158) [] [z231, z226, z230]], [.func (.func 159) [] z234]], z44]
def r71 : AV := n (-1)
abbrev e71 := (a71, r71)
theorem row71 : Row Tryz.prog 200 e71 := RW (l := []) trivial (by kernel_rfl)
end Go.Proofs.YtdeaibcebeofiaaGreatDoor.C5

namespace Go.Proofs.YtdeaibcebeofiaaGreatDoor.C5
open Go Go.Proofs.YtdeaibcebeofiaaGreatDoor.AM Go.Proofs
set_option maxRecDepth 100000
def a72 : List AV := [z228, z170]
def r72 : AV := n 0
abbrev e72 := (a72, r72)
theorem row72 : Row Tryz.prog 93 e72 := RW (l := [(200, [e71])]) ⟨kn200, ⟨row71, trivial⟩, trivial⟩ (by kernel_rfl)
def z235 : AV := .ref z172
def z236 : List AV := [n 2, n 0, n 0, z36]
def z237 : List AV := [z45, z26, n 1, n 0, n 0, n 0, z27, z27, z36, .sl 4 [z236, z42], .nils]
def z238 : AV := .ref [z33, z160, n 2, z18, n 3000, .sl 11 [z237]]
def z239 : AV := .ref [z238]
def z240 : AV := .ref z237
def z241 : AV := .ref [.func (.func 138) [] [z235]]
def z242 : AV := .ref [z208, z27, .func (.func 187) [] []]
def z243 : List AV := [z241, z240]
def z244 : List AV := [z241, z235, z197]
def z245 : List AV := [z241, z240, z239]
def z246 : AV := .ref z236
def a73 : List AV := [.sl 1 [[.func (.func 141) [] [z235, z239]], [.func (.func 142) [] [z240, z241]], [.func (.func 143) [] [z242, z239]], [.func (.func 144) [] z243], [.func (.func 145) [] [z241, z239, z235]], [.func (.func 147) [] [z241, z239, z240, z235]], [.func (.func 149) [] z243], [.func (.func 150) [] z244], [.func (.func 151) [] z244], [.func (.func 152) [] [z241, z235, z240, z239]], [.func (.func 153) [] z245], [.func (.func 154) [] [z239, z240, z235]], [.func (.func 156) [] [z241, z240, z246]], [.func (.func 157) [] [z241, z246]], [.func (.func 158) [] [z241, z235, z240]], [.func (.func 159) [] z245]], z44]
def r73 : AV := n (-1)
abbrev e73 := (a73, r73)
theorem row73 : Row Tryz.prog 200 e73 := RW (l := []) trivial (by kernel_rfl)
def a74 : List AV := [z238, z173]
def r74 : AV := n 0
abbrev e74 := (a74, r74)
theorem row74 : Row Tryz.prog 93 e74 := RW (l := [(200, [e73])]) ⟨kn200, ⟨row73, trivial⟩, trivial⟩ (by kernel_rfl)
def z247 : AV := .ref z174
def z248 : List AV := [n 2, n 2, n 0, z36]
def z249 : List AV := [z45, z26, n 1, n 0, n 0, n 0, z27, z27, z36, .sl 4 [z248, z42], .nils]
def z250 : AV := .ref [z33, z160, n 2, z18, n 4000, .sl 11 [z249]]
def z251 : AV := .ref [z250]
def z252 : AV := .ref z249
def z253 : AV := .ref [.func (.func 138) [] [z247]]
def z254 : List AV := [z253, z252]
def z255 : List AV := [z253, z247, z197]
def z256 : List AV := [z253, z252, z251]
def z257 : AV := .ref z248
def a75 : List AV := [.sl 1 [[.func (.func 141) [] [z247, z251]], [.func (.func 142) [] [z252, z253]], [.func (.func 143) [] [z123, z251]], [.func (.func 144) [] z254], [.func (.func 145) [] [z253, z251, z247]], [.func (.func 147) [] [z253, z251, z252, z247]], [.func (.func 149) [] z254], [.func (.func 150) [] z255], [.func (.func 151) [] z255], [.func (.func 152) [] [z253, z247, z252, z251]], [.func (.func 153) [] z256], [.func (.func 154) [] [z251, z252, z247]], [.func (.func 156) [] [z253, z252, z257]], [.func (.func 157) [] [z253, z257]], [.func (.func 158) [] [z253, z247, z252]], [.func (.func 159) [] z256]], z44]
def r75 : AV := n (-1)
abbrev e75 := (a75, r75)
theorem row75 : Row Tryz.prog 200 e75 := RW (l := []) trivial (by kernel_rfl)
def a76 : List AV := [z250, z175]
def r76 : AV := n 0
abbrev e76 := (a76, r76)
theorem row76 : Row Tryz.prog 93 e76 := RW (l := [(200, [e75])]) ⟨kn200, ⟨row75, trivial⟩, trivial⟩ (by kernel_rfl)
def z258 : AV := .ref z176
def z259 : List AV := [n 2, n 2, n 2, z36]
def z260 : AV := .sl 4 [z259, z42]
def z261 : List AV := [z45, z26, n 1, n 0, n 0, n 0, z27, z27, z27, z260, .nils]
def z262 : AV := .ref [z33, z160, n 2, z18, n 5000, .sl 11 [z261]]
def z263 : AV := .ref [z262]
def z264 : AV := .ref z261
def z265 : AV := .ref [.func (.func 138) [] [z258]]
def z266 : List AV := [z265, z264]
def z267 : List AV := [z265, z258, z197]
def z268 : List AV := [z265, z264, z263]
def z269 : AV := .ref z259
def a77 : List AV := [.sl 1 [[.func (.func 141) [] [z258, z263]], [.func (.func 142) [] [z264, z265]], [.func (.func 143) [] [.ref [z208, z27, .func (.func 190) [] []], z263]], [.func (.func 144) [] z266], [.func (.func 145) [] [z265, z263, z258]], [.func (.func 147) [] [z265, z263, z264, z258]], [.func (.func 149) [] z266], [.func (.func 150) [] z267], [.func (.func 151) [] z267], [.func (.func 152) [] [z265, z258, z264, z263]], [.func (.func 153) [] z268], [.func (.func 154) [] [z263, z264, z258]], [.func (.func 156) [] [z265, z264, z269]], [.func (.func 157) [] [z265, z269]], [.func (.func 158) [] [z265, z258, z264]], [.func (.func 159) [] z268]], z44]
def r77 : AV := n (-1)
abbrev e77 := (a77, r77)
theorem row77 : Row Tryz.prog 200 e77 := RW (l := []) trivial (by kernel_rfl)
def a78 : List AV := [z262, z177]
def r78 : AV := n 0
abbrev e78 := (a78, r78)
theorem row78 : Row Tryz.prog 93 e78 := RW (l := [(200, [e77])]) ⟨kn200, ⟨row77, trivial⟩, trivial⟩ (by kernel_rfl)
def z270 : AV := .ref z178
def z271 : List AV := [z25, z26, n 0, n 0, n 0, n 0, z27, z27, z27, z260, .nils]
def z272 : AV := .ref [z33, z160, n 2, z18, n 6000, .sl 11 [z271]]
def z273 : AV := .ref [z272]
def z274 : AV := .ref z271
def z275 : AV := .ref [.func (.func 138) [] [z270]]
def z276 : List AV := [z275, z274]
def z277 : List AV := [z275, z270, z197]
def z278 : List AV := [z275, z274, z273]
def a79 : List AV := [.sl 1 [[.func (.func 141) [] [z270, z273]], [.func (.func 142) [] [z274, z275]], [.func (.func 143) [] [z37, z273]], [.func (.func 144) [] z276], [.func (.func 145) [] [z275, z273, z270]], [.func (.func 147) [] [z275, z273, z274, z270]], [.func (.func 149) [] z276], [.func (.func 150) [] z277], [.func (.func 151) [] z277], [.func (.func 152) [] [z275, z270, z274, z273]], [.func (.func 153) [] z278], [.func (.func 154) [] [z273, z274, z270]], [.func (.func 156) [] [z275, z274, z43]], [.func (.func 157) [] [z275, z43]], [.func (.func 158) [] [z275, z270, z274]], [.func (.func 159) [] z278]], z44]
def r79 : AV := n (-1)
abbrev e79 := (a79, r79)
theorem row79 : Row Tryz.prog 200 e79 := RW (l := []) trivial (by kernel_rfl)
def a80 : List AV := [z272, z179]
def r80 : AV := n 0
abbrev e80 := (a80, r80)
theorem row80 : Row Tryz.prog 93 e80 := RW (l := [(200, [e79])]) ⟨kn200, ⟨row79, trivial⟩, trivial⟩ (by kernel_rfl)
def z279 : AV := .ref z180
def z280 : List AV := [z45, z26, n 2, n 10000, n 0, n 0, z27, z27, z27, .sl 4 [z259, z202], .nils]
def z281 : AV := .sl 11 [z280]
def z282 : AV := .ref [z33, z160, n 2, z18, n 10000, z281]
def z283 : AV := .ref [z282]
def z284 : AV := .ref z280
def z285 : AV := .ref [.func (.func 138) [] [z279]]
def z286 : List AV := [z285, z284]
def z287 : AV := .ref [z22]
def z288 : List AV := [z285, z279, z287]
def z289 : List AV := [z285, z284, z283]
def a81 : List AV := [.sl 1 [[.func (.func 141) [] [z279, z283]], [.func (.func 142) [] [z284, z285]], [.func (.func 143) [] [z209, z283]], [.func (.func 144) [] z286], [.func (.func 145) [] [z285, z283, z279]], [.func (.func 147) [] [z285, z283, z284, z279]], [.func (.func 149) [] z286], [.func (.func 150) [] z288], [.func (.func 151) [] z288], [.func (.func 152) [] [z285, z279, z284, z283]], [.func (.func 153) [] z289], [.func (.func 154) [] [z283, z284, z279]], [.func (.func 156) [] [z285, z284, z213]], [.func (.func 157) [] [z285, z213]], [.func (.func 158) [] [z285, z279, z284]], [.func (.func 159) [] z289]], z44]
def r81 : AV := n (-1)
abbrev e81 := (a81, r81)
theorem row81 : Row Tryz.prog 200 e81 := RW (l := []) trivial (by kernel_rfl)
def a82 : List AV := [z282, z181]
def r82 : AV := n 0
abbrev e82 := (a82, r82)
theorem row82 : Row Tryz.prog 93 e82 := RW (l := [(200, [e81])]) ⟨kn200, ⟨row81, trivial⟩, trivial⟩ (by kernel_rfl)
def z290 : AV := .ref z182
def z291 : AV := .sl 4 [z259, z215]
def z292 : List AV := [z45, z26, n 2, n 10000, n 0, n 0, z27, z27, z36, z291, .nils]
def z293 : AV := .sl 11 [z292]
def z294 : AV := .ref [z33, z160, n 2, z18, n 11000, z293]
def z295 : AV := .ref [z294]
def z296 : AV := .ref z292
def z297 : AV := .ref [.func (.func 138) [] [z290]]
def z298 : List AV := [z297, z296]
def z299 : List AV := [z297, z290, z287]
def z300 : List AV := [z297, z296, z295]
def a83 : List AV := [.sl 1 [[.func (.func 141) [] [z290, z295]], [.func (.func 142) [] [z296, z297]], [.func (.func 143) [] [z242, z295]], [.func (.func 144) [] z298], [.func (.func 145) [] [z297, z295, z290]], [.func (.func 147) [] [z297, z295, z296, z290]], [.func (.func 149) [] z298], [.func (.func 150) [] z299], [.func (.func 151) [] z299], [.func (.func 152) [] [z297, z290, z296, z295]], [.func (.func 153) [] z300], [.func (.func 154) [] [z295, z296, z290]], [.func (.func 156) [] [z297, z296, z225]], [.func (.func 157) [] [z297, z225]], [.func (.func 158) [] [z297, z290, z296]], [.func (.func 159) [] z300]], z44]
def r83 : AV := n (-1)
abbrev e83 := (a83, r83)
theorem row83 : Row Tryz.prog 200 e83 := RW (l := []) trivial (by kernel_rfl)
end Go.Proofs.YtdeaibcebeofiaaGreatDoor.C5

namespace Go.Proofs.YtdeaibcebeofiaaGreatDoor.C5
open Go Go.Proofs.YtdeaibcebeofiaaGreatDoor.AM Go.Proofs
set_option maxRecDepth 100000
def a84 : List AV := [z294, z183]
def r84 : AV := n 0
abbrev e84 := (a84, r84)
theorem row84 : Row Tryz.prog 93 e84 := RW (l := [(200, [e83])]) ⟨kn200, ⟨row83, trivial⟩, trivial⟩ (by kernel_rfl)
def z301 : AV := .ref z184
def z302 : List AV := [n 1, n 1, n 0, z36]
def z303 : List AV := [z45, z26, n 2, n 10000, n 0, n 0, z27, z27, z36, .sl 4 [z259, z302], .nils]
def z304 : AV := .ref [z33, z160, n 2, z18, n 12000, .sl 11 [z303]]
def z305 : AV := .ref [z304]
def z306 : AV := .ref z303
def z307 : AV := .ref [.func (.func 138) [] [z301]]
def z308 : List AV := [z307, z306]
def z309 : List AV := [z307, z301, z287]
def z310 : List AV := [z307, z306, z305]
def z311 : AV := .ref z302
def a85 : List AV := [.sl 1 [[.func (.func 141) [] [z301, z305]], [.func (.func 142) [] [z306, z307]], [.func (.func 143) [] [.ref [z35, z27, .func (.func 197) [] []], z305]], [.func (.func 144) [] z308], [.func (.func 145) [] [z307, z305, z301]], [.func (.func 147) [] [z307, z305, z306, z301]], [.func (.func 149) [] z308], [.func (.func 150) [] z309], [.func (.func 151) [] z309], [.func (.func 152) [] [z307, z301, z306, z305]], [.func (.func 153) [] z310], [.func (.func 154) [] [z305, z306, z301]], [.func (.func 156) [] [z307, z306, z311]], [.func (.func 157) [] [z307, z311]], [.func (.func 158) [] [z307, z301, z306]], [.func (.func 159) [] z310]], z44]
def r85 : AV := n (-1)
abbrev e85 := (a85, r85)
theorem row85 : Row Tryz.prog 200 e85 := RW (l := []) trivial (by kernel_rfl)
def a86 : List AV := [z304, z185]
def r86 : AV := n 0
abbrev e86 := (a86, r86)
theorem row86 : Row Tryz.prog 93 e86 := RW (l := [(200, [e85])]) ⟨kn200, ⟨row85, trivial⟩, trivial⟩ (by kernel_rfl)
def z312 : AV := .ref z186
def z313 : AV := .ref [z33, z160, n 2, z18, n 13000, z281]
def z314 : AV := .ref [z313]
def z315 : AV := .ref [.func (.func 138) [] [z312]]
def z316 : List AV := [z315, z284]
def z317 : List AV := [z315, z312, z287]
def z318 : List AV := [z315, z284, z314]
def a87 : List AV := [.sl 1 [[.func (.func 141) [] [z312, z314]], [.func (.func 142) [] [z284, z315]], [.func (.func 143) [] [z209, z314]], [.func (.func 144) [] z316], [.func (.func 145) [] [z315, z314, z312]], [.func (.func 147) [] [z315, z314, z284, z312]], [.func (.func 149) [] z316], [.func (.func 150) [] z317], [.func (.func 151) [] z317], [.func (.func 152) [] [z315, z312, z284, z314]], [.func (.func 153) [] z318], [.func (.func 154) [] [z314, z284, z312]], [.func (.func 156) [] [z315, z284, z213]], [.func (.func 157) [] [z315, z213]], [.func (.func 158) [] [z315, z312, z284]], [.func (.func 159) [] z318]], z44]
def r87 : AV := n (-1)
abbrev e87 := (a87, r87)
theorem row87 : Row Tryz.prog 200 e87 := RW (l := []) trivial (by kernel_rfl)
def a88 : List AV := [z313, z187]
def r88 : AV := n 0
abbrev e88 := (a88, r88)
theorem row88 : Row Tryz.prog 93 e88 := RW (l := [(200, [e87])]) ⟨kn200, ⟨row87, trivial⟩, trivial⟩ (by kernel_rfl)
def z319 : AV := .ref z188
def z320 : AV := .ref [z33, z160, n 2, z18, n 14000, z293]
def z321 : AV := .ref [z320]
def z322 : AV := .ref [.func (.func 138) [] [z319]]
def z323 : List AV := [z322, z296]
def z324 : List AV := [z322, z319, z287]
def z325 : List AV := [z322, z296, z321]
def a89 : List AV := [.sl 1 [[.func (.func 141) [] [z319, z321]], [.func (.func 142) [] [z296, z322]], [.func (.func 143) [] [.ref [z122, z27, .func (.func 192) [] []], z321]], [.func (.func 144) [] z323], [.func (.func 145) [] [z322, z321, z319]], [.func (.func 147) [] [z322, z321, z296, z319]], [.func (.func 149) [] z323], [.func (.func 150) [] z324], [.func (.func 151) [] z324], [.func (.func 152) [] [z322, z319, z296, z321]], [.func (.func 153) [] z325], [.func (.func 154) [] [z321, z296, z319]], [.func (.func 156) [] [z322, z296, z225]], [.func (.func 157) [] [z322, z225]], [.func (.func 158) [] [z322, z319, z296]], [.func (.func 159) [] z325]], z44]
def r89 : AV := n (-1)
abbrev e89 := (a89, r89)
theorem row89 : Row Tryz.prog 200 e89 := RW (l := []) trivial (by kernel_rfl)
def a90 : List AV := [z320, z189]
def r90 : AV := n 0
abbrev e90 := (a90, r90)
theorem row90 : Row Tryz.prog 93 e90 := RW (l := [(200, [e89])]) ⟨kn200, ⟨row89, trivial⟩, trivial⟩ (by kernel_rfl)
def z326 : List AV := [z81, z26, n 0, n 10000, n 0, n 0, z27, z27, z27, z291, .nils]
def z327 : AV := .agg [z22, .sl 11 [z326]]
def a91 : List AV := [z161, .sl 4 [z162, z165, z167, z169, z172, z174, z176, z178, z180, z182, z184, z186, z188]]
def r91 : AV := .tuple [z327, .nils]
abbrev e91 := (a91, r91)
theorem row91 : Row Tryz.prog 79 e91 := RW (l := [(93, [e66, e68, e70, e72, e74, e76, e78, e80, e82, e84, e86, e88, e90])]) ⟨kn93, ⟨row66, row68, row70, row72, row74, row76, row78, row80, row82, row84, row86, row88, row90, trivial⟩, trivial⟩ (by kernel_rfl)
theorem kn221 : Known Tryz.prog 221 := fn_known tabOf.1 (x := g221) (by kernel_rfl) (by kernel_rfl)
def a92 : List AV := [z291]
def r92 : AV := n 0
abbrev e92 := (a92, r92)
theorem row92 : Row Tryz.prog 221 e92 := RW (l := []) trivial (by kernel_rfl)
def z328 : AV := .agg z326
def a93 : List AV := [z161, z22, z328]
def r93 : AV := n 0
abbrev e93 := (a93, r93)
theorem row93 : Row Tryz.prog 178 e93 := RW (l := [(221, [e92])]) ⟨kn221, ⟨row92, trivial⟩, trivial⟩ (by kernel_rfl)
def a94 : List AV := [z161, z327]
def r94 : AV := n 0
abbrev e94 := (a94, r94)
theorem row94 : Row Tryz.prog 60 e94 := RW (l := [(58, [e50]), (178, [e93])]) ⟨kn58, ⟨row50, trivial⟩, kn178, ⟨row93, trivial⟩, trivial⟩ (by kernel_rfl)
theorem kn164 : Known Tryz.prog 164 := fn_known tabOf.1 (x := g164) (by kernel_rfl) (by kernel_rfl)
def z329 : List AV := [z33, n 0, z27, n 2, n 2]
def a95 : List AV := [.agg z329]
def r95 : AV := n 0
abbrev e95 := (a95, r95)
theorem row95 : Row Tryz.prog 164 e95 := RW (l := []) trivial (by kernel_rfl)
end Go.Proofs.YtdeaibcebeofiaaGreatDoor.C5

namespace Go.Proofs.YtdeaibcebeofiaaGreatDoor.C5
open Go Go.Proofs.YtdeaibcebeofiaaGreatDoor.AM Go.Proofs
set_option maxRecDepth 100000
def z330 : List AV := [z33, n 0, z27, n 0, n 0]
def a96 : List AV := [.agg z330]
def r96 : AV := n 0
abbrev e96 := (a96, r96)
theorem row96 : Row Tryz.prog 164 e96 := RW (l := []) trivial (by kernel_rfl)
def a97 : List AV := [.sl 5 [z329, z330]]
def r97 : AV := .tuple [.str ⟨#[84, 50, 32, 90, 50, 32, 47, 32, 45, 32, 45]⟩, n 0]
abbrev e97 := (a97, r97)
theorem row97 : Row Tryz.prog 96 e97 := RW (l := [(164, [e95, e96])]) ⟨kn164, ⟨row95, row96, trivial⟩, trivial⟩ (by kernel_rfl)
theorem kn40 : Known Tryz.prog 40 := fn_known tabOf.1 (x := g40) (by kernel_rfl) (by kernel_rfl)
def a98 : List AV := [z161, z327, n 0]
def r98 : AV := .tuple [.str ⟨#[84, 50, 32, 90, 50, 32, 47, 32, 45, 32, 45]⟩, n 0]
abbrev e98 := (a98, r98)
theorem row98 : Row Tryz.prog 40 e98 := RW (l := [(60, [e94]), (96, [e97])]) ⟨kn60, ⟨row94, trivial⟩, kn96, ⟨row97, trivial⟩, trivial⟩ (by kernel_rfl)
theorem kn104 : Known Tryz.prog 104 := fn_known tabOf.1 (x := g104) (by kernel_rfl) (by kernel_rfl)
def z331 : List AV := [n (-2)]
def a99 : List AV := [z161, z328]
def r99 : AV := .sl 1 [[n 1], [n 1], z331, z331]
abbrev e99 := (a99, r99)
theorem row99 : Row Tryz.prog 104 e99 := RW (l := []) trivial (by kernel_rfl)
def z332 : AV := .sl 1 [[n 1], [n 1], z331, z331]
def z333 : AV := .sl 3 [[z1, z26, z332]]
def a100 : List AV := [z333, z333]
def r100 : AV := z36
abbrev e100 := (a100, r100)
theorem row100 : Row Tryz.prog 68 e100 := RW (l := []) trivial (by kernel_rfl)
def z334 : AV := .agg [z34, z160, n 2, n 1]
def a101 : List AV := [z334]
def r101 : AV := n 0
abbrev e101 := (a101, r101)
theorem row101 : Row Tryz.prog 58 e101 := RW (l := []) trivial (by kernel_rfl)
def a102 : List AV := [z334, z163]
def r102 : AV := n 0
abbrev e102 := (a102, r102)
theorem row102 : Row Tryz.prog 91 e102 := RW (l := []) trivial (by kernel_rfl)
def z335 : List AV := [n 0, .str ⟨#[102, 105, 110, 105, 115, 104]⟩, n 7123, n 8000]
def z336 : AV := .agg z335
def a103 : List AV := [z334, z336]
def r103 : AV := n 0
abbrev e103 := (a103, r103)
theorem row103 : Row Tryz.prog 91 e103 := RW (l := []) trivial (by kernel_rfl)
def z337 : List AV := [n 0, z6, n 2, n 20000]
def z338 : AV := .agg z337
def a104 : List AV := [z334, z338]
def r104 : AV := n 0
abbrev e104 := (a104, r104)
theorem row104 : Row Tryz.prog 91 e104 := RW (l := []) trivial (by kernel_rfl)
def z339 : List AV := [n 0, z12, n 0, n 22000]
def z340 : AV := .agg z339
def a105 : List AV := [z334, z340]
def r105 : AV := n 0
abbrev e105 := (a105, r105)
theorem row105 : Row Tryz.prog 91 e105 := RW (l := []) trivial (by kernel_rfl)
def z341 : AV := .ref [z34, z160, n 2, n 1, n 0, .sl 11 [z28]]
def z342 : AV := .ref [z341]
def z343 : List AV := [z195, z31]
def z344 : AV := .ref [n 1]
def z345 : List AV := [z195, z190, z344]
def z346 : List AV := [z195, z31, z342]
def a106 : List AV := [.sl 1 [[.func (.func 141) [] [z190, z342]], [.func (.func 142) [] [z31, z195]], [.func (.func 143) [] [z37, z342]], [.func (.func 144) [] z343], [.func (.func 145) [] [z195, z342, z190]], [.func (.func 147) [] [z195, z342, z31, z190]], [.func (.func 149) [] z343], [.func (.func 150) [] z345], [.func (.func 151) [] z345], [.func (.func 152) [] [z195, z190, z31, z342]], [.func (.func 153) [] z346], [.func (.func 154) [] [z342, z31, z190]], [.func (.func 156) [] [z195, z31, z43]], z200, [.func (.func 158) [] [z195, z190, z31]], [.func (.func 159) [] z346]], z44]
def r106 : AV := n (-1)
abbrev e106 := (a106, r106)
theorem row106 : Row Tryz.prog 200 e106 := RW (l := []) trivial (by kernel_rfl)
def a107 : List AV := [z341, z163]
def r107 : AV := n 0
abbrev e107 := (a107, r107)
theorem row107 : Row Tryz.prog 93 e107 := RW (l := [(200, [e106])]) ⟨kn200, ⟨row106, trivial⟩, trivial⟩ (by kernel_rfl)
end Go.Proofs.YtdeaibcebeofiaaGreatDoor.C5

namespace Go.Proofs.YtdeaibcebeofiaaGreatDoor.C5
open Go Go.Proofs.YtdeaibcebeofiaaGreatDoor.AM Go.Proofs
set_option maxRecDepth 100000
def z347 : AV := .ref z335
def z348 : List AV := [z45, z26, n 1, n 0, n 0, n 0, z27, z27, z27, .nils, .nils]
def z349 : AV := .ref [z34, z160, n 2, n 1, n 0, .sl 11 [z348]]
def z350 : AV := .ref [z349]
def z351 : AV := .ref z348
def z352 : AV := .ref [.func (.func 138) [] [z347]]
def z353 : List AV := [z352, z351]
def z354 : List AV := [z352, z347, z344]
def z355 : List AV := [z352, z351, z350]
def a108 : List AV := [.sl 1 [[.func (.func 141) [] [z347, z350]], [.func (.func 142) [] [z351, z352]], [.func (.func 143) [] [.ref [.sl 1 [[z34]], z36, .func (.func 193) [] []], z350]], [.func (.func 144) [] z353], [.func (.func 145) [] [z352, z350, z347]], [.func (.func 147) [] [z352, z350, z351, z347]], [.func (.func 149) [] z353], [.func (.func 150) [] z354], [.func (.func 151) [] z354], [.func (.func 152) [] [z352, z347, z351, z350]], [.func (.func 153) [] z355], [.func (.func 154) [] [z350, z351, z347]], [.func (.func 156) [] [z352, z351, z43]], [.func (.func 157) [] [z352, z43]], [.func (.func 158) [] [z352, z347, z351]], [.func (.func 159) [] z355]], z44]
def r108 : AV := n (-1)
abbrev e108 := (a108, r108)
theorem row108 : Row Tryz.prog 200 e108 := RW (l := []) trivial (by kernel_rfl)
def a109 : List AV := [z349, z336]
def r109 : AV := n 0
abbrev e109 := (a109, r109)
theorem row109 : Row Tryz.prog 93 e109 := RW (l := [(200, [e108])]) ⟨kn200, ⟨row108, trivial⟩, trivial⟩ (by kernel_rfl)
def z356 : AV := .ref z337
def z357 : List AV := [n 7123]
def z358 : AV := .sl 1 [z357]
def z359 : List AV := [z25, z26, n 0, n 0, n 0, n 0, z27, z27, z27, .nils, z358]
def z360 : AV := .ref [z34, z160, n 2, n 1, n 8000, .sl 11 [z359]]
def z361 : AV := .ref [z360]
def z362 : AV := .ref z359
def z363 : AV := .ref [.func (.func 138) [] [z356]]
def z364 : List AV := [z363, z362]
def z365 : List AV := [z363, z356, z344]
def z366 : List AV := [z363, z362, z361]
def a110 : List AV := [.sl 1 [[.func (.func 141) [] [z356, z361]], [.func (.func 142) [] [z362, z363]], [.func (.func 143) [] [z37, z361]], [.func (.func 144) [] z364], [.func (.func 145) [] [z363, z361, z356]], [.func (.func 147) [] [z363, z361, z362, z356]], [.func (.func 149) [] z364], [.func (.func 150) [] z365], [.func (.func 151) [] z365], [.func (.func 152) [] [z363, z356, z362, z361]], [.func (.func 153) [] z366], [.func (.func 154) [] [z361, z362, z356]], [.func (.func 156) [] [z363, z362, z43]], [.func (.func 157) [] [z363, z43]], [.func (.func 158) [] [z363, z356, z362]], [.func (.func 159) [] z366]], z44]
def r110 : AV := n (-1)
abbrev e110 := (a110, r110)
theorem row110 : Row Tryz.prog 200 e110 := RW (l := []) trivial (by kernel_rfl)
def a111 : List AV := [z360, z338]
def r111 : AV := n 0
abbrev e111 := (a111, r111)
theorem row111 : Row Tryz.prog 93 e111 := RW (l := [(200, [e110])]) ⟨kn200, ⟨row110, trivial⟩, trivial⟩ (by kernel_rfl)
def z367 : AV := .ref z339
def z368 : List AV := [z45, z26, n 2, n 20000, n 0, n 0, z27, z27, z27, .nils, z358]
def z369 : AV := .ref [z34, z160, n 2, n 1, n 20000, .sl 11 [z368]]
def z370 : AV := .ref [z369]
def z371 : AV := .ref z368
def z372 : AV := .ref [.func (.func 138) [] [z367]]
def z373 : List AV := [z372, z371]
def z374 : List AV := [z372, z367, .ref [n 20001]]
def z375 : List AV := [z372, z371, z370]
def a112 : List AV := [.sl 1 [[.func (.func 141) [] [z367, z370]], [.func (.func 142) [] [z371, z372]], [.func (.func 143) [] [z73, z370]], [.func (.func 144) [] z373], [.func (.func 145) [] [z372, z370, z367]], [.func (.func 147) [] [z372, z370, z371, z367]], [.func (.func 149) [] z373], [.func (.func 150) [] z374], [.func (.func 151) [] z374], [.func (.func 152) [] [z372, z367, z371, z370]], [.func (.func 153) [] z375], [.func (.func 154) [] [z370, z371, z367]], [.func (.func 156) [] [z372, z371, z43]], [.func (.func 157) [] [z372, z43]], [.func (.func 158) [] [z372, z367, z371]], [.func (.func 159) [] z375]], z44]
def r112 : AV := n (-1)
abbrev e112 := (a112, r112)
theorem row112 : Row Tryz.prog 200 e112 := RW (l := []) trivial (by kernel_rfl)
def a113 : List AV := [z369, z340]
def r113 : AV := n 0
abbrev e113 := (a113, r113)
theorem row113 : Row Tryz.prog 93 e113 := RW (l := [(200, [e112])]) ⟨kn200, ⟨row112, trivial⟩, trivial⟩ (by kernel_rfl)
def z376 : List AV := [z81, z26, n 0, n 20000, n 0, n 0, z27, z27, z27, .nils, .sl 1 [z357, [n 0]]]
def z377 : AV := .agg [n 22000, .sl 11 [z376]]
def a114 : List AV := [z334, .sl 4 [z162, z335, z337, z339]]
def r114 : AV := .tuple [z377, .nils]
abbrev e114 := (a114, r114)
theorem row114 : Row Tryz.prog 79 e114 := RW (l := [(93, [e107, e109, e111, e113])]) ⟨kn93, ⟨row107, row109, row111, row113, trivial⟩, trivial⟩ (by kernel_rfl)
def a115 : List AV := [z334, n 22000, .agg z376]
def r115 : AV := n 0
abbrev e115 := (a115, r115)
theorem row115 : Row Tryz.prog 178 e115 := RW (l := []) trivial (by kernel_rfl)
def a116 : List AV := [z334, z377]
def r116 : AV := n 0
abbrev e116 := (a116, r116)
theorem row116 : Row Tryz.prog 60 e116 := RW (l := [(58, [e101]), (178, [e115])]) ⟨kn58, ⟨row101, trivial⟩, kn178, ⟨row115, trivial⟩, trivial⟩ (by kernel_rfl)
def a117 : List AV := [z334, z377, n 0]
def r117 : AV := .tuple [.str ⟨#[55, 46, 49, 50, 51]⟩, n 0]
abbrev e117 := (a117, r117)
theorem row117 : Row Tryz.prog 40 e117 := RW (l := [(60, [e116])]) ⟨kn60, ⟨row116, trivial⟩, trivial⟩ (by kernel_rfl)
def a118 : List AV := [z334, z377]
def r118 : AV := .tuple [.sl 3 [[z1, z26, .sl 1 [[n (-7123)]]]], n 0]
abbrev e118 := (a118, r118)
theorem row118 : Row Tryz.prog 46 e118 := RW (l := [(60, [e116])]) ⟨kn60, ⟨row116, trivial⟩, trivial⟩ (by kernel_rfl)
theorem kn15 : Known Tryz.prog 15 := fn_known tabOf.1 (x := g15) (by kernel_rfl) (by kernel_rfl)
def a119 : List AV := []
def r119 : AV := z36
abbrev e119 := (a119, r119)
theorem row119 : Row Tryz.prog 15 e119 := RW (l := [(28, [e47]), (39, [e29]), (40, [e98, e117]), (46, [e35, e118]), (58, [e0, e50, e101]), (60, [e32, e94]), (68, [e49, e100]), (79, [e22, e91, e114]), (80, [e36, e46]), (88, [e48]), (91, [e1, e2, e3, e4, e5, e6, e7, e102, e103, e104, e105]), (93, [e9, e11, e38, e40, e42, e44]), (96, [e33, e34]), (104, [e99]), (121, [e64])]) ⟨kn28, ⟨row47, trivial⟩, kn39, ⟨row29, trivial⟩, kn40, ⟨row98, row117, trivial⟩, kn46, ⟨row35, row118, trivial⟩, kn58, ⟨row0, row50, row101, trivial⟩, kn60, ⟨row32, row94, trivial⟩, kn68, ⟨row49, row100, trivial⟩, kn79, ⟨row22, row91, row114, trivial⟩, kn80, ⟨row36, row46, trivial⟩, kn88, ⟨row48, trivial⟩, kn91, ⟨row1, row2, row3, row4, row5, row6, row7, row102, row103, row104, row105, trivial⟩, kn93, ⟨row9, row11, row38, row40, row42, row44, trivial⟩, kn96, ⟨row33, row34, trivial⟩, kn104, ⟨row99, trivial⟩, kn121, ⟨row64, trivial⟩, trivial⟩ (by kernel_rfl)
end Go.Proofs.YtdeaibcebeofiaaGreatDoor.C5
