/-
  Closed examples, run by the kernel.
-/
import Derived.Test.YtdeaibcebeofiaaGreatDoorBase
set_option linter.unusedVariables false
set_option linter.unusedSimpArgs false
set_option linter.unusedSectionVars false
namespace Go.Proofs.YtdeaibcebeofiaaGreatDoor.C5
open Go Go.Proofs.YtdeaibcebeofiaaGreatDoor.AM Go.Proofs
set_option maxRecDepth 100000
def n (k : Int) : AV := .int .i64 k
abbrev Ty := FuncId × List (List AV × AV)
theorem RW {l : List Ty} (h : ExtsOk Tryz.prog l) {f : FuncId} {a : List AV} {r : AV} (b : answers ⟨tab, extL base l, keep⟩ 400 f a r = true) : Row Tryz.prog f (a, r) := row_of tabOf.1 tabOf.2 (extL_ok baseOk h) 400 f a r b
theorem kn58 : Known Tryz.prog 58 := fn_known tabOf.1 (x := g58) (by kernel_rfl) (by kernel_rfl)
def z0 : AV := .str ⟨#[108, 101, 97, 100]⟩
def z1 : AV := .str ⟨#[97, 110, 110]⟩
def z2 : AV := .str ⟨#[98, 101, 110]⟩
def z3 : AV := .sl 1 [[z1], [z2]]
def z4 : AV := n 360000
def z5 : AV := .agg [z0, z3, n 30, z4]
def a0 : List AV := [z5]
def r0 : AV := n 0
abbrev e0 := (a0, r0)
theorem row0 : Row Tryz.prog 58 e0 := RW (l := []) trivial (by kernel_rfl)
theorem kn91 : Known Tryz.prog 91 := fn_known tabOf.1 (x := g91) (by kernel_rfl) (by kernel_rfl)
def z6 : AV := .str ⟨#[115, 116, 97, 114, 116]⟩
def z7 : List AV := [n 0, z6, n 0, n 1000]
def a1 : List AV := [z5, .agg z7]
def r1 : AV := n 0
abbrev e1 := (a1, r1)
theorem row1 : Row Tryz.prog 91 e1 := RW (l := []) trivial (by kernel_rfl)
def z8 : AV := .str ⟨#[104, 111, 108, 100]⟩
def z9 : List AV := [n 0, z8, n 10, n 60000]
def a2 : List AV := [z5, .agg z9]
def r2 : AV := n 0
abbrev e2 := (a2, r2)
theorem row2 : Row Tryz.prog 91 e2 := RW (l := []) trivial (by kernel_rfl)
def z10 : List AV := [n 0, .str ⟨#[112, 108, 117, 115]⟩, n 0, n 70000]
def z11 : AV := .agg z10
def a3 : List AV := [z5, z11]
def r3 : AV := n 0
abbrev e3 := (a3, r3)
theorem row3 : Row Tryz.prog 91 e3 := RW (l := []) trivial (by kernel_rfl)
def z12 : AV := .str ⟨#[102, 97, 108, 108]⟩
def z13 : List AV := [n 0, z12, n 0, n 71000]
def z14 : AV := .agg z13
def a4 : List AV := [z5, z14]
def r4 : AV := n 0
abbrev e4 := (a4, r4)
theorem row4 : Row Tryz.prog 91 e4 := RW (l := []) trivial (by kernel_rfl)
def z15 : AV := n 100000
def z16 : List AV := [n 1, z6, n 0, z15]
def z17 : AV := .agg z16
def a5 : List AV := [z5, z17]
def r5 : AV := n 0
abbrev e5 := (a5, r5)
theorem row5 : Row Tryz.prog 91 e5 := RW (l := []) trivial (by kernel_rfl)
def z18 : AV := n 300000
def z19 : List AV := [n 1, z8, n 30, z18]
def z20 : AV := .agg z19
def a6 : List AV := [z5, z20]
def r6 : AV := n 0
abbrev e6 := (a6, r6)
theorem row6 : Row Tryz.prog 91 e6 := RW (l := []) trivial (by kernel_rfl)
def z21 : AV := .str ⟨#[116, 111, 112]⟩
def z22 : AV := n 310000
def z23 : List AV := [n 1, z21, n 0, z22]
def z24 : AV := .agg z23
def a7 : List AV := [z5, z24]
def r7 : AV := n 0
abbrev e7 := (a7, r7)
theorem row7 : Row Tryz.prog 91 e7 := RW (l := []) trivial (by kernel_rfl)
theorem kn200 : Known Tryz.prog 200 := fn_known tabOf.1 (x := g200) (by kernel_rfl) (by kernel_rfl)
def z25 : AV := .str ⟨#[119, 97, 105, 116, 105, 110, 103]⟩
def z26 : AV := .str ⟨#[]⟩
def z27 : AV := .bool false
def z28 : List AV := [z25, z26, n 0, n 0, n 0, n 0, z27, z27, z27, .nils, .nils]
def z29 : AV := .ref [z0, z3, n 30, z4, n 0, .sl 11 [z28, z28]]
def z30 : AV := .ref [z29]
def z31 : AV := .ref z28
def z32 : AV := .ref [.func (.func 138) [] [.ref z7]]
def z33 : AV := .str ⟨#[98, 111, 117, 108, 100, 101, 114]⟩
def z34 : AV := .str ⟨#[115, 112, 101, 101, 100]⟩
def z35 : AV := .sl 1 [[z0], [z33], [z34]]
def z36 : AV := .bool true
def z37 : AV := .ref [z35, z36, .func (.func 183) [] []]
def z38 : List AV := [z32, z31]
def z39 : AV := .ref [z4]
def z40 : List AV := [z32, .ref z7, z39]
def z41 : List AV := [z32, z31, z30]
def z42 : List AV := [n 0, n 0, n 0, z27]
def z43 : AV := .ref z42
def z44 : AV := .func (.func 201) [] []
def a8 : List AV := [.sl 1 [[.func (.func 141) [] [.ref z7, z30]], [.func (.func 142) [] [z31, z32]], [.func (.func 143) [] [z37, z30]], [.func (.func 144) [] z38], [.func (.func 145) [] [z32, z30, .ref z7]], [.func (.func 147) [] [z32, z30, z31, .ref z7]], [.func (.func 149) [] z38], [.func (.func 150) [] z40], [.func (.func 151) [] z40], [.func (.func 152) [] [z32, .ref z7, z31, z30]], [.func (.func 153) [] z41], [.func (.func 154) [] [z30, z31, .ref z7]], [.func (.func 156) [] [z32, z31, z43]], [.func (.func 157) [] [z32, z43]], [.func (.func 158) [] [z32, .ref z7, z31]], [.func (.func 159) [] z41]], z44]
def r8 : AV := n (-1)
abbrev e8 := (a8, r8)
theorem row8 : Row Tryz.prog 200 e8 := RW (l := []) trivial (by kernel_rfl)
theorem kn93 : Known Tryz.prog 93 := fn_known tabOf.1 (x := g93) (by kernel_rfl) (by kernel_rfl)
def a9 : List AV := [z29, .agg z7]
def r9 : AV := n 0
abbrev e9 := (a9, r9)
theorem row9 : Row Tryz.prog 93 e9 := RW (l := [(200, [e8])]) ⟨kn200, ⟨row8, trivial⟩, trivial⟩ (by kernel_rfl)
def z45 : AV := .str ⟨#[111, 110]⟩
def z46 : List AV := [z45, z26, n 0, n 1000, n 0, n 0, z27, z27, z27, .nils, .nils]
def z47 : AV := .ref [z0, z3, n 30, z4, n 1000, .sl 11 [z46, z28]]
def z48 : AV := .ref [z47]
def z49 : AV := .ref z46
def z50 : AV := .ref [.func (.func 138) [] [.ref z9]]
def z51 : AV := .sl 1 [[z0]]
def z52 : AV := .ref [z51, z36, .func (.func 184) [] []]
def z53 : List AV := [z50, z49]
def z54 : AV := .ref [n 361000]
def z55 : List AV := [z50, .ref z9, z54]
def z56 : List AV := [z50, z49, z48]
def a10 : List AV := [.sl 1 [[.func (.func 141) [] [.ref z9, z48]], [.func (.func 142) [] [z49, z50]], [.func (.func 143) [] [z52, z48]], [.func (.func 144) [] z53], [.func (.func 145) [] [z50, z48, .ref z9]], [.func (.func 147) [] [z50, z48, z49, .ref z9]], [.func (.func 149) [] z53], [.func (.func 150) [] z55], [.func (.func 151) [] z55], [.func (.func 152) [] [z50, .ref z9, z49, z48]], [.func (.func 153) [] z56], [.func (.func 154) [] [z48, z49, .ref z9]], [.func (.func 156) [] [z50, z49, z43]], [.func (.func 157) [] [z50, z43]], [.func (.func 158) [] [z50, .ref z9, z49]], [.func (.func 159) [] z56]], z44]
def r10 : AV := n (-1)
abbrev e10 := (a10, r10)
theorem row10 : Row Tryz.prog 200 e10 := RW (l := []) trivial (by kernel_rfl)
def a11 : List AV := [z47, .agg z9]
def r11 : AV := n 0
abbrev e11 := (a11, r11)
theorem row11 : Row Tryz.prog 93 e11 := RW (l := [(200, [e10])]) ⟨kn200, ⟨row10, trivial⟩, trivial⟩ (by kernel_rfl)
end Go.Proofs.YtdeaibcebeofiaaGreatDoor.C5

namespace Go.Proofs.YtdeaibcebeofiaaGreatDoor.C5
open Go Go.Proofs.YtdeaibcebeofiaaGreatDoor.AM Go.Proofs
set_option maxRecDepth 100000
def z57 : AV := .ref z10
def z58 : List AV := [z45, z26, n 0, n 1000, n 0, n 10, z27, z27, z27, .nils, .nils]
def z59 : AV := .sl 11 [z58, z28]
def z60 : AV := .ref [z0, z3, n 30, z4, n 60000, z59]
def z61 : AV := .ref [z60]
def z62 : AV := .ref z58
def z63 : AV := .ref [.func (.func 138) [] [z57]]
def z64 : List AV := [z63, z62]
def z65 : List AV := [z63, z57, z54]
def z66 : List AV := [z63, z62, z61]
def a12 : List AV := [.sl 1 [[.func (.func 141) [] [z57, z61]], [.func (.func 142) [] [z62, z63]], [.func (.func 143) [] [.ref [z51, z27, .func (.func 185) [] []], z61]], [.func (.func 144) [] z64], [.func (.func 145) [] [z63, z61, z57]], [.func (.func 147) [] [z63, z61, z62, z57]], [.func (.func 149) [] z64], [.func (.func 150) [] z65], [.func (.func 151) [] z65], [.func (.func 152) [] [z63, z57, z62, z61]], [.func (.func 153) [] z66], [.func (.func 154) [] [z61, z62, z57]], [.func (.func 156) [] [z63, z62, z43]], [.func (.func 157) [] [z63, z43]], [.func (.func 158) [] [z63, z57, z62]], [.func (.func 159) [] z66]], z44]
def r12 : AV := n (-1)
abbrev e12 := (a12, r12)
theorem row12 : Row Tryz.prog 200 e12 := RW (l := []) trivial (by kernel_rfl)
def a13 : List AV := [z60, z11]
def r13 : AV := n 0
abbrev e13 := (a13, r13)
theorem row13 : Row Tryz.prog 93 e13 := RW (l := [(200, [e12])]) ⟨kn200, ⟨row12, trivial⟩, trivial⟩ (by kernel_rfl)
def z67 : AV := .ref z13
def z68 : List AV := [z45, z26, n 0, n 1000, n 0, n 10, z36, z27, z27, .nils, .nils]
def z69 : AV := .ref [z0, z3, n 30, z4, n 70000, .sl 11 [z68, z28]]
def z70 : AV := .ref [z69]
def z71 : AV := .ref z68
def z72 : AV := .ref [.func (.func 138) [] [z67]]
def z73 : AV := .ref [z35, z27, .func (.func 189) [] []]
def z74 : List AV := [z72, z71]
def z75 : List AV := [z72, z67, z54]
def z76 : List AV := [.func (.func 150) [] z75]
def z77 : List AV := [.func (.func 151) [] z75]
def z78 : List AV := [z72, z71, z70]
def z79 : List AV := [.func (.func 157) [] [z72, z43]]
def a14 : List AV := [.sl 1 [[.func (.func 141) [] [z67, z70]], [.func (.func 142) [] [z71, z72]], [.func (.func 143) [] [z73, z70]], [.func (.func 144) [] z74], [.func (.func 145) [] [z72, z70, z67]], [.func (.func 147) [] [z72, z70, z71, z67]], [.func (.func 149) [] z74], z76, z77, [.func (.func 152) [] [z72, z67, z71, z70]], [.func (.func 153) [] z78], [.func (.func 154) [] [z70, z71, z67]], [.func (.func 156) [] [z72, z71, z43]], z79, [.func (.func 158) [] [z72, z67, z71]], [.func (.func 159) [] z78]], z44]
def r14 : AV := n (-1)
abbrev e14 := (a14, r14)
theorem row14 : Row Tryz.prog 200 e14 := RW (l := []) trivial (by kernel_rfl)
def a15 : List AV := [z69, z14]
def r15 : AV := n 0
abbrev e15 := (a15, r15)
theorem row15 : Row Tryz.prog 93 e15 := RW (l := [(200, [e14])]) ⟨kn200, ⟨row14, trivial⟩, trivial⟩ (by kernel_rfl)
def z80 : AV := .ref z16
def z81 : AV := .str ⟨#[100, 111, 110, 101]⟩
def z82 : List AV := [z81, z26, n 0, n 1000, n 70000, n 10, z36, z27, z27, .nils, .nils]
def z83 : AV := .ref [z0, z3, n 30, z4, n 71000, .sl 11 [z82, z28]]
def z84 : AV := .ref [z83]
def z85 : AV := .ref [.func (.func 138) [] [z80]]
def z86 : List AV := [.func (.func 142) [] [z31, z85]]
def z87 : List AV := [z85, z31]
def z88 : List AV := [.func (.func 144) [] z87]
def z89 : List AV := [.func (.func 149) [] z87]
def z90 : List AV := [z85, z80, z39]
def z91 : List AV := [.func (.func 150) [] z90]
def z92 : List AV := [.func (.func 151) [] z90]
def z93 : List AV := [z85, z31, z84]
def z94 : List AV := [.func (.func 156) [] [z85, z31, z43]]
def z95 : List AV := [.func (.func 157) [] [z85, z43]]
def z96 : List AV := [.func (.func 158) [] [z85, z80, z31]]
def a16 : List AV := [.sl 1 [[.func (.func 141) [] [z80, z84]], z86, [.func (.func 143) [] [z37, z84]], z88, [.func (.func 145) [] [z85, z84, z80]], [.func (.func 147) [] [z85, z84, z31, z80]], z89, z91, z92, [.func (.func 152) [] [z85, z80, z31, z84]], [.func (.func 153) [] z93], [.func (.func 154) [] [z84, z31, z80]], z94, z95, z96, [.func (.func 159) [] z93]], z44]
def r16 : AV := n (-1)
abbrev e16 := (a16, r16)
theorem row16 : Row Tryz.prog 200 e16 := RW (l := []) trivial (by kernel_rfl)
def a17 : List AV := [z83, z17]
def r17 : AV := n 0
abbrev e17 := (a17, r17)
theorem row17 : Row Tryz.prog 93 e17 := RW (l := [(200, [e16])]) ⟨kn200, ⟨row16, trivial⟩, trivial⟩ (by kernel_rfl)
def z97 : AV := .ref z19
def z98 : List AV := [z45, z26, n 0, z15, n 0, n 0, z27, z27, z27, .nils, .nils]
def z99 : AV := .ref [z0, z3, n 30, z4, z15, .sl 11 [z82, z98]]
def z100 : AV := .ref [z99]
def z101 : AV := .ref z98
def z102 : AV := .ref [.func (.func 138) [] [z97]]
def z103 : List AV := [.func (.func 142) [] [z101, z102]]
def z104 : List AV := [z102, z101]
def z105 : List AV := [.func (.func 144) [] z104]
def z106 : List AV := [.func (.func 149) [] z104]
def z107 : AV := .ref [n 460000]
def z108 : List AV := [z102, z97, z107]
def z109 : List AV := [.func (.func 150) [] z108]
def z110 : List AV := [.func (.func 151) [] z108]
def z111 : List AV := [z102, z101, z100]
def z112 : List AV := [.func (.func 156) [] [z102, z101, z43]]
def z113 : List AV := [.func (.func 157) [] [z102, z43]]
def z114 : List AV := [.func (.func 158) [] [z102, z97, z101]]
def a18 : List AV := [.sl 1 [[.func (.func 141) [] [z97, z100]], z103, [.func (.func 143) [] [z52, z100]], z105, [.func (.func 145) [] [z102, z100, z97]], [.func (.func 147) [] [z102, z100, z101, z97]], z106, z109, z110, [.func (.func 152) [] [z102, z97, z101, z100]], [.func (.func 153) [] z111], [.func (.func 154) [] [z100, z101, z97]], z112, z113, z114, [.func (.func 159) [] z111]], z44]
def r18 : AV := n (-1)
abbrev e18 := (a18, r18)
theorem row18 : Row Tryz.prog 200 e18 := RW (l := []) trivial (by kernel_rfl)
def a19 : List AV := [z99, z20]
def r19 : AV := n 0
abbrev e19 := (a19, r19)
theorem row19 : Row Tryz.prog 93 e19 := RW (l := [(200, [e18])]) ⟨kn200, ⟨row18, trivial⟩, trivial⟩ (by kernel_rfl)
def z115 : AV := .ref z23
def z116 : List AV := [z45, z26, n 0, z15, n 0, n 30, z27, z27, z27, .nils, .nils]
def z117 : AV := .ref [z0, z3, n 30, z4, z18, .sl 11 [z82, z116]]
def z118 : AV := .ref [z117]
def z119 : AV := .ref z116
def z120 : AV := .ref [.func (.func 138) [] [z115]]
def z121 : List AV := [.func (.func 142) [] [z119, z120]]
def z122 : AV := .sl 1 [[z0], [z33]]
def z123 : AV := .ref [z122, z27, .func (.func 188) [] []]
def z124 : List AV := [z120, z119]
def z125 : List AV := [.func (.func 144) [] z124]
def z126 : List AV := [.func (.func 149) [] z124]
def z127 : List AV := [z120, z115, z107]
def z128 : List AV := [.func (.func 150) [] z127]
def z129 : List AV := [.func (.func 151) [] z127]
def z130 : List AV := [z120, z119, z118]
def z131 : List AV := [.func (.func 156) [] [z120, z119, z43]]
def z132 : List AV := [.func (.func 157) [] [z120, z43]]
def z133 : List AV := [.func (.func 158) [] [z120, z115, z119]]
def a20 : List AV := [.sl 1 [[.func (.func 141) [] [z115, z118]], z121, [.func (.func 143) [] [z123, z118]], z125, [.func (.func 145) [] [z120, z118, z115]], [.func (.func 147) [] [z120, z118, z119, z115]], z126, z128, z129, [.func (.func 152) [] [z120, z115, z119, z118]], [.func (.func 153) [] z130], [.func (.func 154) [] [z118, z119, z115]], z131, z132, z133, [.func (.func 159) [] z130]], z44]
def r20 : AV := n (-1)
abbrev e20 := (a20, r20)
theorem row20 : Row Tryz.prog 200 e20 := RW (l := []) trivial (by kernel_rfl)
def a21 : List AV := [z117, z24]
def r21 : AV := n 0
abbrev e21 := (a21, r21)
theorem row21 : Row Tryz.prog 93 e21 := RW (l := [(200, [e20])]) ⟨kn200, ⟨row20, trivial⟩, trivial⟩ (by kernel_rfl)
theorem kn79 : Known Tryz.prog 79 := fn_known tabOf.1 (x := g79) (by kernel_rfl) (by kernel_rfl)
def z134 : AV := .sl 4 [z7, z9, z10, z13, z16, z19, z23]
def z135 : List AV := [z81, z26, n 0, z15, n 210000, n 30, z27, z36, z27, .nils, .nils]
def z136 : AV := .agg [z22, .sl 11 [z82, z135]]
def a22 : List AV := [z5, z134]
def r22 : AV := .tuple [z136, .nils]
abbrev e22 := (a22, r22)
theorem row22 : Row Tryz.prog 79 e22 := RW (l := [(93, [e9, e11, e13, e15, e17, e19, e21])]) ⟨kn93, ⟨row9, row11, row13, row15, row17, row19, row21, trivial⟩, trivial⟩ (by kernel_rfl)
theorem kn178 : Known Tryz.prog 178 := fn_known tabOf.1 (x := g178) (by kernel_rfl) (by kernel_rfl)
def a23 : List AV := [z5, n 60000, .agg z58]
def r23 : AV := n 0
abbrev e23 := (a23, r23)
theorem row23 : Row Tryz.prog 178 e23 := RW (l := []) trivial (by kernel_rfl)
end Go.Proofs.YtdeaibcebeofiaaGreatDoor.C5

namespace Go.Proofs.YtdeaibcebeofiaaGreatDoor.C5
open Go Go.Proofs.YtdeaibcebeofiaaGreatDoor.AM Go.Proofs
set_option maxRecDepth 100000
def a24 : List AV := [z5, n 60000, .agg z28]
def r24 : AV := n 0
abbrev e24 := (a24, r24)
theorem row24 : Row Tryz.prog 178 e24 := RW (l := []) trivial (by kernel_rfl)
theorem kn60 : Known Tryz.prog 60 := fn_known tabOf.1 (x := g60) (by kernel_rfl) (by kernel_rfl)
def z137 : AV := .agg [n 60000, z59]
def a25 : List AV := [z5, z137]
def r25 : AV := n 0
abbrev e25 := (a25, r25)
theorem row25 : Row Tryz.prog 60 e25 := RW (l := [(58, [e0]), (178, [e23, e24])]) ⟨kn58, ⟨row0, trivial⟩, kn178, ⟨row23, row24, trivial⟩, trivial⟩ (by kernel_rfl)
def z138 : List AV := [n 0, z8, n 9, n 61000]
def z139 : AV := .agg z138
def a26 : List AV := [z5, z139]
def r26 : AV := n 0
abbrev e26 := (a26, r26)
theorem row26 : Row Tryz.prog 91 e26 := RW (l := []) trivial (by kernel_rfl)
def z140 : AV := .ref z138
def z141 : AV := .ref [.func (.func 138) [] [z140]]
def z142 : List AV := [z141, z62]
def z143 : List AV := [z141, z140, z54]
def z144 : List AV := [z141, z62, z61]
def a27 : List AV := [.sl 1 [[.func (.func 141) [] [z140, z61]], [.func (.func 142) [] [z62, z141]], [.func (.func 143) [] [z52, z61]], [.func (.func 144) [] z142], [.func (.func 145) [] [z141, z61, z140]], [.func (.func 147) [] [z141, z61, z62, z140]], [.func (.func 149) [] z142], [.func (.func 150) [] z143], [.func (.func 151) [] z143], [.func (.func 152) [] [z141, z140, z62, z61]], [.func (.func 153) [] z144], [.func (.func 154) [] [z61, z62, z140]], [.func (.func 156) [] [z141, z62, z43]], [.func (.func 157) [] [z141, z43]], [.func (.func 158) [] [z141, z140, z62]], [.func (.func 159) [] z144]], z44]
def r27 : AV := n 9
abbrev e27 := (a27, r27)
theorem row27 : Row Tryz.prog 200 e27 := RW (l := []) trivial (by kernel_rfl)
def a28 : List AV := [z60, z139]
def r28 : AV := n 10
abbrev e28 := (a28, r28)
theorem row28 : Row Tryz.prog 93 e28 := RW (l := [(200, [e27])]) ⟨kn200, ⟨row27, trivial⟩, trivial⟩ (by kernel_rfl)
theorem kn39 : Known Tryz.prog 39 := fn_known tabOf.1 (x := g39) (by kernel_rfl) (by kernel_rfl)
def a29 : List AV := [z5, z137, z139]
def r29 : AV := .tuple [n 10, n 0]
abbrev e29 := (a29, r29)
theorem row29 : Row Tryz.prog 39 e29 := RW (l := [(60, [e25]), (91, [e26]), (93, [e28])]) ⟨kn60, ⟨row25, trivial⟩, kn91, ⟨row26, trivial⟩, kn93, ⟨row28, trivial⟩, trivial⟩ (by kernel_rfl)
def a30 : List AV := [z5, z22, .agg z82]
def r30 : AV := n 0
abbrev e30 := (a30, r30)
theorem row30 : Row Tryz.prog 178 e30 := RW (l := []) trivial (by kernel_rfl)
def a31 : List AV := [z5, z22, .agg z135]
def r31 : AV := n 0
abbrev e31 := (a31, r31)
theorem row31 : Row Tryz.prog 178 e31 := RW (l := []) trivial (by kernel_rfl)
def a32 : List AV := [z5, z136]
def r32 : AV := n 0
abbrev e32 := (a32, r32)
theorem row32 : Row Tryz.prog 60 e32 := RW (l := [(58, [e0]), (178, [e30, e31])]) ⟨kn58, ⟨row0, trivial⟩, kn178, ⟨row30, row31, trivial⟩, trivial⟩ (by kernel_rfl)
theorem kn96 : Known Tryz.prog 96 := fn_known tabOf.1 (x := g96) (by kernel_rfl) (by kernel_rfl)
def a33 : List AV := [.sl 5 [[z0, n 10, z36, n 0, n 0]]]
def r33 : AV := .tuple [.str ⟨#[49, 48, 43]⟩, n 0]
abbrev e33 := (a33, r33)
theorem row33 : Row Tryz.prog 96 e33 := RW (l := []) trivial (by kernel_rfl)
def a34 : List AV := [.sl 5 [[z0, n 0, z27, n 1, n 0]]]
def r34 : AV := .tuple [.str ⟨#[84, 79, 80]⟩, n 0]
abbrev e34 := (a34, r34)
theorem row34 : Row Tryz.prog 96 e34 := RW (l := []) trivial (by kernel_rfl)
theorem kn46 : Known Tryz.prog 46 := fn_known tabOf.1 (x := g46) (by kernel_rfl) (by kernel_rfl)
def z145 : AV := .sl 3 [[z1, z26, .sl 1 [[n 21], [n (-70000)]]], [z2, z26, .sl 1 [[n 62], [n (-210000)]]]]
def a35 : List AV := [z5, z136]
def r35 : AV := .tuple [z145, n 0]
abbrev e35 := (a35, r35)
theorem row35 : Row Tryz.prog 46 e35 := RW (l := [(60, [e32])]) ⟨kn60, ⟨row32, trivial⟩, trivial⟩ (by kernel_rfl)
end Go.Proofs.YtdeaibcebeofiaaGreatDoor.C5

namespace Go.Proofs.YtdeaibcebeofiaaGreatDoor.C5
open Go Go.Proofs.YtdeaibcebeofiaaGreatDoor.AM Go.Proofs
set_option maxRecDepth 100000
theorem kn80 : Known Tryz.prog 80 := fn_known tabOf.1 (x := g80) (by kernel_rfl) (by kernel_rfl)
def a36 : List AV := [z5, z134, .sl 4 [z7, z9, z13, z16, z19, z23]]
def r36 : AV := n 0
abbrev e36 := (a36, r36)
theorem row36 : Row Tryz.prog 80 e36 := RW (l := [(58, [e0]), (91, [e1, e2, e3, e4, e5, e6, e7])]) ⟨kn58, ⟨row0, trivial⟩, kn91, ⟨row1, row2, row3, row4, row5, row6, row7, trivial⟩, trivial⟩ (by kernel_rfl)
def z146 : List AV := [z72, z62]
def z147 : List AV := [z72, z62, z61]
def a37 : List AV := [.sl 1 [[.func (.func 141) [] [z67, z61]], [.func (.func 142) [] [z62, z72]], [.func (.func 143) [] [z73, z61]], [.func (.func 144) [] z146], [.func (.func 145) [] [z72, z61, z67]], [.func (.func 147) [] [z72, z61, z62, z67]], [.func (.func 149) [] z146], z76, z77, [.func (.func 152) [] [z72, z67, z62, z61]], [.func (.func 153) [] z147], [.func (.func 154) [] [z61, z62, z67]], [.func (.func 156) [] [z72, z62, z43]], z79, [.func (.func 158) [] [z72, z67, z62]], [.func (.func 159) [] z147]], z44]
def r37 : AV := n (-1)
abbrev e37 := (a37, r37)
theorem row37 : Row Tryz.prog 200 e37 := RW (l := []) trivial (by kernel_rfl)
def a38 : List AV := [z60, z14]
def r38 : AV := n 0
abbrev e38 := (a38, r38)
theorem row38 : Row Tryz.prog 93 e38 := RW (l := [(200, [e37])]) ⟨kn200, ⟨row37, trivial⟩, trivial⟩ (by kernel_rfl)
def z148 : List AV := [z81, z26, n 0, n 1000, n 70000, n 10, z27, z27, z27, .nils, .nils]
def z149 : AV := .ref [z0, z3, n 30, z4, n 71000, .sl 11 [z148, z28]]
def z150 : AV := .ref [z149]
def z151 : List AV := [z85, z31, z150]
def a39 : List AV := [.sl 1 [[.func (.func 141) [] [z80, z150]], z86, [.func (.func 143) [] [z37, z150]], z88, [.func (.func 145) [] [z85, z150, z80]], [.func (.func 147) [] [z85, z150, z31, z80]], z89, z91, z92, [.func (.func 152) [] [z85, z80, z31, z150]], [.func (.func 153) [] z151], [.func (.func 154) [] [z150, z31, z80]], z94, z95, z96, [.func (.func 159) [] z151]], z44]
def r39 : AV := n (-1)
abbrev e39 := (a39, r39)
theorem row39 : Row Tryz.prog 200 e39 := RW (l := []) trivial (by kernel_rfl)
def a40 : List AV := [z149, z17]
def r40 : AV := n 0
abbrev e40 := (a40, r40)
theorem row40 : Row Tryz.prog 93 e40 := RW (l := [(200, [e39])]) ⟨kn200, ⟨row39, trivial⟩, trivial⟩ (by kernel_rfl)
def z152 : AV := .ref [z0, z3, n 30, z4, z15, .sl 11 [z148, z98]]
def z153 : AV := .ref [z152]
def z154 : List AV := [z102, z101, z153]
def a41 : List AV := [.sl 1 [[.func (.func 141) [] [z97, z153]], z103, [.func (.func 143) [] [z52, z153]], z105, [.func (.func 145) [] [z102, z153, z97]], [.func (.func 147) [] [z102, z153, z101, z97]], z106, z109, z110, [.func (.func 152) [] [z102, z97, z101, z153]], [.func (.func 153) [] z154], [.func (.func 154) [] [z153, z101, z97]], z112, z113, z114, [.func (.func 159) [] z154]], z44]
def r41 : AV := n (-1)
abbrev e41 := (a41, r41)
theorem row41 : Row Tryz.prog 200 e41 := RW (l := []) trivial (by kernel_rfl)
def a42 : List AV := [z152, z20]
def r42 : AV := n 0
abbrev e42 := (a42, r42)
theorem row42 : Row Tryz.prog 93 e42 := RW (l := [(200, [e41])]) ⟨kn200, ⟨row41, trivial⟩, trivial⟩ (by kernel_rfl)
def z155 : AV := .ref [z0, z3, n 30, z4, z18, .sl 11 [z148, z116]]
def z156 : AV := .ref [z155]
def z157 : List AV := [z120, z119, z156]
def a43 : List AV := [.sl 1 [[.func (.func 141) [] [z115, z156]], z121, [.func (.func 143) [] [z123, z156]], z125, [.func (.func 145) [] [z120, z156, z115]], [.func (.func 147) [] [z120, z156, z119, z115]], z126, z128, z129, [.func (.func 152) [] [z120, z115, z119, z156]], [.func (.func 153) [] z157], [.func (.func 154) [] [z156, z119, z115]], z131, z132, z133, [.func (.func 159) [] z157]], z44]
def r43 : AV := n (-1)
abbrev e43 := (a43, r43)
theorem row43 : Row Tryz.prog 200 e43 := RW (l := []) trivial (by kernel_rfl)
def a44 : List AV := [z155, z24]
def r44 : AV := n 0
abbrev e44 := (a44, r44)
theorem row44 : Row Tryz.prog 93 e44 := RW (l := [(200, [e43])]) ⟨kn200, ⟨row43, trivial⟩, trivial⟩ (by kernel_rfl)
def z158 : List AV := [n 0, z8, n 11, n 70000]
def a45 : List AV := [z5, .agg z158]
def r45 : AV := n 0
abbrev e45 := (a45, r45)
theorem row45 : Row Tryz.prog 91 e45 := RW (l := []) trivial (by kernel_rfl)
def z159 : AV := .sl 4 [z7, z9, z158, z13, z16, z19, z23]
def a46 : List AV := [z5, z134, z159]
def r46 : AV := n 0
abbrev e46 := (a46, r46)
theorem row46 : Row Tryz.prog 80 e46 := RW (l := [(58, [e0]), (91, [e1, e2, e3, e4, e5, e6, e7, e45])]) ⟨kn58, ⟨row0, trivial⟩, kn91, ⟨row1, row2, row3, row4, row5, row6, row7, row45, trivial⟩, trivial⟩ (by kernel_rfl)
theorem kn28 : Known Tryz.prog 28 := fn_known tabOf.1 (x := g28) (by kernel_rfl) (by kernel_rfl)
def a47 : List AV := [z5, z134, z159, .nils]
def r47 : AV := .tuple [.nils, n 24]
abbrev e47 := (a47, r47)
theorem row47 : Row Tryz.prog 28 e47 := RW (l := [(80, [e46])]) ⟨kn80, ⟨row46, trivial⟩, trivial⟩ (by kernel_rfl)
end Go.Proofs.YtdeaibcebeofiaaGreatDoor.C5

namespace Go.Proofs.YtdeaibcebeofiaaGreatDoor.C5
open Go Go.Proofs.YtdeaibcebeofiaaGreatDoor.AM Go.Proofs
set_option maxRecDepth 100000
theorem kn88 : Known Tryz.prog 88 := fn_known tabOf.1 (x := g88) (by kernel_rfl) (by kernel_rfl)
def a48 : List AV := [z5, z134, .sl 9 [[n 0, n 7, n 3, z36, n 0, z26, n 0, n 0, z27], [n 0, n 12, n 2, z36, n 0, z26, n 0, n 0, z36]]]
def r48 : AV := n 0
abbrev e48 := (a48, r48)
theorem row48 : Row Tryz.prog 88 e48 := RW (l := []) trivial (by kernel_rfl)
theorem kn68 : Known Tryz.prog 68 := fn_known tabOf.1 (x := g68) (by kernel_rfl) (by kernel_rfl)
def a49 : List AV := [z145, z145]
def r49 : AV := z36
abbrev e49 := (a49, r49)
theorem row49 : Row Tryz.prog 68 e49 := RW (l := []) trivial (by kernel_rfl)
def z160 : AV := .sl 1 [[z1]]
def z161 : AV := .agg [z33, z160, n 2, z18]
def a50 : List AV := [z161]
def r50 : AV := n 0
abbrev e50 := (a50, r50)
theorem row50 : Row Tryz.prog 58 e50 := RW (l := []) trivial (by kernel_rfl)
def z162 : List AV := [n 0, z6, n 1, n 0]
def z163 : AV := .agg z162
def a51 : List AV := [z161, z163]
def r51 : AV := n 0
abbrev e51 := (a51, r51)
theorem row51 : Row Tryz.prog 91 e51 := RW (l := []) trivial (by kernel_rfl)
def z164 : AV := .str ⟨#[97, 116, 116, 101, 109, 112, 116]⟩
def z165 : List AV := [n 0, z164, n 0, n 1000]
def z166 : AV := .agg z165
def a52 : List AV := [z161, z166]
def r52 : AV := n 0
abbrev e52 := (a52, r52)
theorem row52 : Row Tryz.prog 91 e52 := RW (l := []) trivial (by kernel_rfl)
def z167 : List AV := [n 0, z12, n 0, n 2000]
def z168 : AV := .agg z167
def a53 : List AV := [z161, z168]
def r53 : AV := n 0
abbrev e53 := (a53, r53)
theorem row53 : Row Tryz.prog 91 e53 := RW (l := []) trivial (by kernel_rfl)
def z169 : List AV := [n 0, z164, n 0, n 3000]
def z170 : AV := .agg z169
def a54 : List AV := [z161, z170]
def r54 : AV := n 0
abbrev e54 := (a54, r54)
theorem row54 : Row Tryz.prog 91 e54 := RW (l := []) trivial (by kernel_rfl)
def z171 : AV := .str ⟨#[122, 111, 110, 101]⟩
def z172 : List AV := [n 0, z171, n 0, n 4000]
def z173 : AV := .agg z172
def a55 : List AV := [z161, z173]
def r55 : AV := n 0
abbrev e55 := (a55, r55)
theorem row55 : Row Tryz.prog 91 e55 := RW (l := []) trivial (by kernel_rfl)
def z174 : List AV := [n 0, z21, n 0, n 5000]
def z175 : AV := .agg z174
def a56 : List AV := [z161, z175]
def r56 : AV := n 0
abbrev e56 := (a56, r56)
theorem row56 : Row Tryz.prog 91 e56 := RW (l := []) trivial (by kernel_rfl)
def z176 : List AV := [n 0, .str ⟨#[108, 101, 97, 118, 101]⟩, n 0, n 6000]
def z177 : AV := .agg z176
def a57 : List AV := [z161, z177]
def r57 : AV := n 0
abbrev e57 := (a57, r57)
theorem row57 : Row Tryz.prog 91 e57 := RW (l := []) trivial (by kernel_rfl)
def z178 : List AV := [n 0, z6, n 2, n 10000]
def z179 : AV := .agg z178
def a58 : List AV := [z161, z179]
def r58 : AV := n 0
abbrev e58 := (a58, r58)
theorem row58 : Row Tryz.prog 91 e58 := RW (l := []) trivial (by kernel_rfl)
def z180 : List AV := [n 0, z164, n 0, n 11000]
def z181 : AV := .agg z180
def a59 : List AV := [z161, z181]
def r59 : AV := n 0
abbrev e59 := (a59, r59)
theorem row59 : Row Tryz.prog 91 e59 := RW (l := []) trivial (by kernel_rfl)
end Go.Proofs.YtdeaibcebeofiaaGreatDoor.C5
