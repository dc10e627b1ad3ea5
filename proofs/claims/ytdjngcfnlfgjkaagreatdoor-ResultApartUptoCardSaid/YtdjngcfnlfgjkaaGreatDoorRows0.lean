/-
  Closed examples, run by the kernel.
-/
import Derived.Test.YtdjngcfnlfgjkaaGreatDoorTab
set_option linter.unusedVariables false
set_option linter.unusedSimpArgs false
set_option linter.unusedSectionVars false
namespace Go.Proofs.YtdjngcfnlfgjkaaGreatDoor.C5
open Go Go.Proofs.YtdjngcfnlfgjkaaGreatDoor.AM Go.Proofs
set_option maxRecDepth 100000
def n (k:Int):AV:=.int .i64 k
abbrev Ty:=FuncId × List (List AV × AV)
theorem RW {l:List Ty} (h:ExtsOk Tryz.prog l) {f:FuncId} {a:List AV} {r:AV} (b:answers ⟨tab,extL base l,keep⟩ 400 f a r=true):Row Tryz.prog f (a,r):=row_of tabOf.1 tabOf.2 (extL_ok baseOk h) 400 f a r b
theorem kn79:Known Tryz.prog 79:=fn_known tabOf.1 (x:=g79) (by kernel_rfl) (by kernel_rfl)
def z0:AV:=.str ⟨#[97,110,110]⟩
def z1:AV:=.str ⟨#[]⟩
def z2:AV:=.sl 1 [[n 3],[n 2]]
def z3:List AV:=[z0,z1,z2]
def a0:List AV:=[.agg z3]
def r0:AV:=n 0
abbrev e0:=(a0,r0)
theorem row0:Row Tryz.prog 79 e0:=RW (l:=[]) trivial (by kernel_rfl)
def z4:AV:=.str ⟨#[98,101,97]⟩
def z5:List AV:=[z4,z1,.sl 1 [[n 3],[n 1]]]
def a1:List AV:=[.agg z5]
def r1:AV:=n 0
abbrev e1:=(a1,r1)
theorem row1:Row Tryz.prog 79 e1:=RW (l:=[]) trivial (by kernel_rfl)
def z6:AV:=.str ⟨#[99,97,116]⟩
def z7:List AV:=[z6,z1,z2]
def a2:List AV:=[.agg z7]
def r2:AV:=n 0
abbrev e2:=(a2,r2)
theorem row2:Row Tryz.prog 79 e2:=RW (l:=[]) trivial (by kernel_rfl)
def z8:AV:=.str ⟨#[100,97,110]⟩
def z9:List AV:=[z8,.str ⟨#[100,110,102]⟩,.nils]
def a3:List AV:=[.agg z9]
def r3:AV:=n 0
abbrev e3:=(a3,r3)
theorem row3:Row Tryz.prog 79 e3:=RW (l:=[]) trivial (by kernel_rfl)
theorem kn21:Known Tryz.prog 21:=fn_known tabOf.1 (x:=g21) (by kernel_rfl) (by kernel_rfl)
def a4:List AV:=[.sl 3 [z3,z5,z7,z9]]
def r4:AV:=n 0
abbrev e4:=(a4,r4)
theorem row4:Row Tryz.prog 21 e4:=RW (l:=[(79,[e0,e1,e2,e3])]) ⟨kn79,⟨row0,row1,row2,row3,trivial⟩,trivial⟩ (by kernel_rfl)
theorem kn75:Known Tryz.prog 75:=fn_known tabOf.1 (x:=g75) (by kernel_rfl) (by kernel_rfl)
def a5:List AV:=[.agg z3,.agg z3]
def r5:AV:=n 0
abbrev e5:=(a5,r5)
theorem row5:Row Tryz.prog 75 e5:=RW (l:=[]) trivial (by kernel_rfl)
def a6:List AV:=[.agg z5,.agg z3]
def r6:AV:=n 1
abbrev e6:=(a6,r6)
theorem row6:Row Tryz.prog 75 e6:=RW (l:=[]) trivial (by kernel_rfl)
def a7:List AV:=[.agg z7,.agg z3]
def r7:AV:=n 0
abbrev e7:=(a7,r7)
theorem row7:Row Tryz.prog 75 e7:=RW (l:=[]) trivial (by kernel_rfl)
def a8:List AV:=[.agg z3,.agg z5]
def r8:AV:=n (-1)
abbrev e8:=(a8,r8)
theorem row8:Row Tryz.prog 75 e8:=RW (l:=[]) trivial (by kernel_rfl)
def a9:List AV:=[.agg z5,.agg z5]
def r9:AV:=n 0
abbrev e9:=(a9,r9)
theorem row9:Row Tryz.prog 75 e9:=RW (l:=[]) trivial (by kernel_rfl)
def a10:List AV:=[.agg z7,.agg z5]
def r10:AV:=n (-1)
abbrev e10:=(a10,r10)
theorem row10:Row Tryz.prog 75 e10:=RW (l:=[]) trivial (by kernel_rfl)
def a11:List AV:=[.agg z3,.agg z7]
def r11:AV:=n 0
abbrev e11:=(a11,r11)
theorem row11:Row Tryz.prog 75 e11:=RW (l:=[]) trivial (by kernel_rfl)
def a12:List AV:=[.agg z5,.agg z7]
def r12:AV:=n 1
abbrev e12:=(a12,r12)
theorem row12:Row Tryz.prog 75 e12:=RW (l:=[]) trivial (by kernel_rfl)
def a13:List AV:=[.agg z7,.agg z7]
def r13:AV:=n 0
abbrev e13:=(a13,r13)
theorem row13:Row Tryz.prog 75 e13:=RW (l:=[]) trivial (by kernel_rfl)
theorem kn78:Known Tryz.prog 78:=fn_known tabOf.1 (x:=g78) (by kernel_rfl) (by kernel_rfl)
def a14:List AV:=[.sl 1 [[n 1],[n 3],[n 1],[n 4]]]
def r14:AV:=.sl 1 [[n 0],[n 2],[n 1],[n 3]]
abbrev e14:=(a14,r14)
theorem row14:Row Tryz.prog 78 e14:=RW (l:=[]) trivial (by kernel_rfl)
def z10:AV:=.sl 1 [[n 10]]
def z11:List AV:=[z0,z1,z10]
def a15:List AV:=[.agg z11]
def r15:AV:=n 0
abbrev e15:=(a15,r15)
theorem row15:Row Tryz.prog 79 e15:=RW (l:=[]) trivial (by kernel_rfl)
def z12:List AV:=[z4,z1,.sl 1 [[n 12]]]
def a16:List AV:=[.agg z12]
def r16:AV:=n 0
abbrev e16:=(a16,r16)
theorem row16:Row Tryz.prog 79 e16:=RW (l:=[]) trivial (by kernel_rfl)
def z13:List AV:=[z6,z1,z10]
def a17:List AV:=[.agg z13]
def r17:AV:=n 0
abbrev e17:=(a17,r17)
theorem row17:Row Tryz.prog 79 e17:=RW (l:=[]) trivial (by kernel_rfl)
def z14:AV:=.sl 1 [[n 5]]
def z15:List AV:=[z8,z1,z14]
def a18:List AV:=[.agg z15]
def r18:AV:=n 0
abbrev e18:=(a18,r18)
theorem row18:Row Tryz.prog 79 e18:=RW (l:=[]) trivial (by kernel_rfl)
def a19:List AV:=[.sl 3 [z11,z12,z13,z15]]
def r19:AV:=n 0
abbrev e19:=(a19,r19)
theorem row19:Row Tryz.prog 21 e19:=RW (l:=[(79,[e15,e16,e17,e18])]) ⟨kn79,⟨row15,row16,row17,row18,trivial⟩,trivial⟩ (by kernel_rfl)
def z16:AV:=.sl 1 [[n 7]]
def z17:List AV:=[z0,z1,z16]
def a20:List AV:=[.agg z17]
def r20:AV:=n 0
abbrev e20:=(a20,r20)
theorem row20:Row Tryz.prog 79 e20:=RW (l:=[]) trivial (by kernel_rfl)
def z18:List AV:=[z4,z1,z16]
def a21:List AV:=[.agg z18]
def r21:AV:=n 0
abbrev e21:=(a21,r21)
theorem row21:Row Tryz.prog 79 e21:=RW (l:=[]) trivial (by kernel_rfl)
def z19:List AV:=[z6,z1,.sl 1 [[n 9]]]
def a22:List AV:=[.agg z19]
def r22:AV:=n 0
abbrev e22:=(a22,r22)
theorem row22:Row Tryz.prog 79 e22:=RW (l:=[]) trivial (by kernel_rfl)
def a23:List AV:=[.sl 3 [z17,z18,z19]]
def r23:AV:=n 0
abbrev e23:=(a23,r23)
theorem row23:Row Tryz.prog 21 e23:=RW (l:=[(79,[e20,e21,e22])]) ⟨kn79,⟨row20,row21,row22,trivial⟩,trivial⟩ (by kernel_rfl)
theorem kn60:Known Tryz.prog 60:=fn_known tabOf.1 (x:=g60) (by kernel_rfl) (by kernel_rfl)
def z20:List AV:=[.sl 3 [z11,z12,z13,z15]]
def z21:List AV:=[.sl 3 [z17,z18,z19]]
def z22:AV:=.agg [.sl 1 [z20,z21],.sl 1 [[z8],[z0]]]
def a24:List AV:=[z22]
def r24:AV:=n 0
abbrev e24:=(a24,r24)
theorem row24:Row Tryz.prog 60 e24:=RW (l:=[(21,[e19,e23])]) ⟨kn21,⟨row19,row23,trivial⟩,trivial⟩ (by kernel_rfl)
theorem kn162:Known Tryz.prog 162:=fn_known tabOf.1 (x:=g162) (by kernel_rfl) (by kernel_rfl)
def z23:AV:=.ref z21
def a25:List AV:=[z0,z0,z23]
def r25:AV:=n 0
abbrev e25:=(a25,r25)
theorem row25:Row Tryz.prog 162 e25:=RW (l:=[]) trivial (by kernel_rfl)
def z24:AV:=.ref z20
def a26:List AV:=[z0,z0,z24]
def r26:AV:=n 0
abbrev e26:=(a26,r26)
theorem row26:Row Tryz.prog 162 e26:=RW (l:=[]) trivial (by kernel_rfl)
theorem kn82:Known Tryz.prog 82:=fn_known tabOf.1 (x:=g82) (by kernel_rfl) (by kernel_rfl)
def a27:List AV:=[z22,z0,z0]
def r27:AV:=.tuple [n (-1),n 0]
abbrev e27:=(a27,r27)
theorem row27:Row Tryz.prog 82 e27:=RW (l:=[(162,[e25,e26])]) ⟨kn162,⟨row25,row26,trivial⟩,trivial⟩ (by kernel_rfl)
def a28:List AV:=[z4,z0,z23]
def r28:AV:=n 0
abbrev e28:=(a28,r28)
theorem row28:Row Tryz.prog 162 e28:=RW (l:=[]) trivial (by kernel_rfl)
def a29:List AV:=[z4,z0,z24]
def r29:AV:=n (-1)
abbrev e29:=(a29,r29)
theorem row29:Row Tryz.prog 162 e29:=RW (l:=[]) trivial (by kernel_rfl)
def a30:List AV:=[z22,z4,z0]
def r30:AV:=.tuple [n 0,n (-1)]
abbrev e30:=(a30,r30)
theorem row30:Row Tryz.prog 82 e30:=RW (l:=[(162,[e28,e29])]) ⟨kn162,⟨row28,row29,trivial⟩,trivial⟩ (by kernel_rfl)
def a31:List AV:=[z6,z0,z23]
def r31:AV:=n (-1)
abbrev e31:=(a31,r31)
theorem row31:Row Tryz.prog 162 e31:=RW (l:=[]) trivial (by kernel_rfl)
def a32:List AV:=[z22,z6,z0]
def r32:AV:=.tuple [n 1,n (-1)]
abbrev e32:=(a32,r32)
theorem row32:Row Tryz.prog 82 e32:=RW (l:=[(162,[e31])]) ⟨kn162,⟨row31,trivial⟩,trivial⟩ (by kernel_rfl)
def a33:List AV:=[z22,z8,z0]
def r33:AV:=.tuple [n 1,n 1]
abbrev e33:=(a33,r33)
theorem row33:Row Tryz.prog 82 e33:=RW (l:=[]) trivial (by kernel_rfl)
def a34:List AV:=[z0,z4,z23]
def r34:AV:=n 0
abbrev e34:=(a34,r34)
theorem row34:Row Tryz.prog 162 e34:=RW (l:=[]) trivial (by kernel_rfl)
def a35:List AV:=[z0,z4,z24]
def r35:AV:=n 1
abbrev e35:=(a35,r35)
theorem row35:Row Tryz.prog 162 e35:=RW (l:=[]) trivial (by kernel_rfl)
def z25:List AV:=[n 0,n 1]
def a36:List AV:=[z22,z0,z4]
def r36:AV:=.tuple z25
abbrev e36:=(a36,r36)
theorem row36:Row Tryz.prog 82 e36:=RW (l:=[(162,[e34,e35])]) ⟨kn162,⟨row34,row35,trivial⟩,trivial⟩ (by kernel_rfl)
def a37:List AV:=[z4,z4,z23]
def r37:AV:=n 0
abbrev e37:=(a37,r37)
theorem row37:Row Tryz.prog 162 e37:=RW (l:=[]) trivial (by kernel_rfl)
def a38:List AV:=[z4,z4,z24]
def r38:AV:=n 0
abbrev e38:=(a38,r38)
theorem row38:Row Tryz.prog 162 e38:=RW (l:=[]) trivial (by kernel_rfl)
def a39:List AV:=[z22,z4,z4]
def r39:AV:=.tuple [n (-1),n 0]
abbrev e39:=(a39,r39)
theorem row39:Row Tryz.prog 82 e39:=RW (l:=[(162,[e37,e38])]) ⟨kn162,⟨row37,row38,trivial⟩,trivial⟩ (by kernel_rfl)
def a40:List AV:=[z6,z4,z23]
def r40:AV:=n (-1)
abbrev e40:=(a40,r40)
theorem row40:Row Tryz.prog 162 e40:=RW (l:=[]) trivial (by kernel_rfl)
def a41:List AV:=[z22,z6,z4]
def r41:AV:=.tuple [n 1,n (-1)]
abbrev e41:=(a41,r41)
theorem row41:Row Tryz.prog 82 e41:=RW (l:=[(162,[e40])]) ⟨kn162,⟨row40,trivial⟩,trivial⟩ (by kernel_rfl)
def a42:List AV:=[z22,z8,z4]
def r42:AV:=.tuple [n 1,n 1]
abbrev e42:=(a42,r42)
theorem row42:Row Tryz.prog 82 e42:=RW (l:=[]) trivial (by kernel_rfl)
def a43:List AV:=[z0,z6,z23]
def r43:AV:=n 1
abbrev e43:=(a43,r43)
theorem row43:Row Tryz.prog 162 e43:=RW (l:=[]) trivial (by kernel_rfl)
def a44:List AV:=[z22,z0,z6]
def r44:AV:=.tuple [n 1,n 1]
abbrev e44:=(a44,r44)
theorem row44:Row Tryz.prog 82 e44:=RW (l:=[(162,[e43])]) ⟨kn162,⟨row43,trivial⟩,trivial⟩ (by kernel_rfl)
def a45:List AV:=[z4,z6,z23]
def r45:AV:=n 1
abbrev e45:=(a45,r45)
theorem row45:Row Tryz.prog 162 e45:=RW (l:=[]) trivial (by kernel_rfl)
def a46:List AV:=[z22,z4,z6]
def r46:AV:=.tuple [n 1,n 1]
abbrev e46:=(a46,r46)
theorem row46:Row Tryz.prog 82 e46:=RW (l:=[(162,[e45])]) ⟨kn162,⟨row45,trivial⟩,trivial⟩ (by kernel_rfl)
def a47:List AV:=[z6,z6,z23]
def r47:AV:=n 0
abbrev e47:=(a47,r47)
theorem row47:Row Tryz.prog 162 e47:=RW (l:=[]) trivial (by kernel_rfl)
def a48:List AV:=[z6,z6,z24]
def r48:AV:=n 0
abbrev e48:=(a48,r48)
theorem row48:Row Tryz.prog 162 e48:=RW (l:=[]) trivial (by kernel_rfl)
def a49:List AV:=[z22,z6,z6]
def r49:AV:=.tuple [n (-1),n 0]
abbrev e49:=(a49,r49)
theorem row49:Row Tryz.prog 82 e49:=RW (l:=[(162,[e47,e48])]) ⟨kn162,⟨row47,row48,trivial⟩,trivial⟩ (by kernel_rfl)
theorem kn159:Known Tryz.prog 159:=fn_known tabOf.1 (x:=g159) (by kernel_rfl) (by kernel_rfl)
def a50:List AV:=[z8,z6,z24]
def r50:AV:=n 0
abbrev e50:=(a50,r50)
theorem row50:Row Tryz.prog 159 e50:=RW (l:=[]) trivial (by kernel_rfl)
def a51:List AV:=[z8,z6,z23]
def r51:AV:=n 1
abbrev e51:=(a51,r51)
theorem row51:Row Tryz.prog 159 e51:=RW (l:=[]) trivial (by kernel_rfl)
def a52:List AV:=[z22,z0,z8]
def r52:AV:=.tuple [n 1,n (-1)]
abbrev e52:=(a52,r52)
theorem row52:Row Tryz.prog 82 e52:=RW (l:=[]) trivial (by kernel_rfl)
def a53:List AV:=[z22,z4,z8]
def r53:AV:=.tuple [n 1,n (-1)]
abbrev e53:=(a53,r53)
theorem row53:Row Tryz.prog 82 e53:=RW (l:=[]) trivial (by kernel_rfl)
def a54:List AV:=[z6,z8,z24]
def r54:AV:=n 0
abbrev e54:=(a54,r54)
theorem row54:Row Tryz.prog 159 e54:=RW (l:=[]) trivial (by kernel_rfl)
def a55:List AV:=[z6,z8,z23]
def r55:AV:=n (-1)
abbrev e55:=(a55,r55)
theorem row55:Row Tryz.prog 159 e55:=RW (l:=[]) trivial (by kernel_rfl)
def a56:List AV:=[z8,z8,z24]
def r56:AV:=n 0
abbrev e56:=(a56,r56)
theorem row56:Row Tryz.prog 159 e56:=RW (l:=[]) trivial (by kernel_rfl)
def a57:List AV:=[z8,z8,z23]
def r57:AV:=n 0
abbrev e57:=(a57,r57)
theorem row57:Row Tryz.prog 159 e57:=RW (l:=[]) trivial (by kernel_rfl)
def a58:List AV:=[z8,z8,z24]
def r58:AV:=n 0
abbrev e58:=(a58,r58)
theorem row58:Row Tryz.prog 162 e58:=RW (l:=[]) trivial (by kernel_rfl)
def a59:List AV:=[z22,z8,z8]
def r59:AV:=.tuple [n (-1),n 0]
abbrev e59:=(a59,r59)
theorem row59:Row Tryz.prog 82 e59:=RW (l:=[(159,[e56,e57]),(162,[e58])]) ⟨kn159,⟨row56,row57,trivial⟩,kn162,⟨row58,trivial⟩,trivial⟩ (by kernel_rfl)
theorem kn109:Known Tryz.prog 109:=fn_known tabOf.1 (x:=g109) (by kernel_rfl) (by kernel_rfl)
def a60:List AV:=[z22]
def r60:AV:=.sl 2 [[z6,n 1],[z4,n 2],[z0,n 3],[z8,n 4]]
abbrev e60:=(a60,r60)
theorem row60:Row Tryz.prog 109 e60:=RW (l:=[(82,[e27,e30,e32,e33,e36,e39,e41,e42,e44,e46,e49,e52,e53,e59]),(159,[e50,e51,e54,e55])]) ⟨kn82,⟨row27,row30,row32,row33,row36,row39,row41,row42,row44,row46,row49,row52,row53,row59,trivial⟩,kn159,⟨row50,row51,row54,row55,trivial⟩,trivial⟩ (by kernel_rfl)
def z26:AV:=.sl 1 [[n 3]]
def z27:List AV:=[z0,z1,z26]
def a61:List AV:=[.agg z27]
def r61:AV:=n 0
abbrev e61:=(a61,r61)
theorem row61:Row Tryz.prog 79 e61:=RW (l:=[]) trivial (by kernel_rfl)
def z28:List AV:=[z4,z1,.sl 1 [[n 2]]]
def a62:List AV:=[.agg z28]
def r62:AV:=n 0
abbrev e62:=(a62,r62)
theorem row62:Row Tryz.prog 79 e62:=RW (l:=[]) trivial (by kernel_rfl)
def z29:AV:=.sl 1 [[n 1]]
def z30:List AV:=[z6,z1,z29]
def a63:List AV:=[.agg z30]
def r63:AV:=n 0
abbrev e63:=(a63,r63)
theorem row63:Row Tryz.prog 79 e63:=RW (l:=[]) trivial (by kernel_rfl)
def a64:List AV:=[.sl 3 [z27,z28,z30]]
def r64:AV:=n 0
abbrev e64:=(a64,r64)
theorem row64:Row Tryz.prog 21 e64:=RW (l:=[(79,[e61,e62,e63])]) ⟨kn79,⟨row61,row62,row63,trivial⟩,trivial⟩ (by kernel_rfl)
def z31:List AV:=[z0,z1,z29]
def a65:List AV:=[.agg z31]
def r65:AV:=n 0
abbrev e65:=(a65,r65)
theorem row65:Row Tryz.prog 79 e65:=RW (l:=[]) trivial (by kernel_rfl)
def z32:List AV:=[z4,z1,z14]
def a66:List AV:=[.agg z32]
def r66:AV:=n 0
abbrev e66:=(a66,r66)
theorem row66:Row Tryz.prog 79 e66:=RW (l:=[]) trivial (by kernel_rfl)
def z33:List AV:=[z6,z1,z14]
def a67:List AV:=[.agg z33]
def r67:AV:=n 0
abbrev e67:=(a67,r67)
theorem row67:Row Tryz.prog 79 e67:=RW (l:=[]) trivial (by kernel_rfl)
def a68:List AV:=[.sl 3 [z31,z32,z33]]
def r68:AV:=n 0
abbrev e68:=(a68,r68)
theorem row68:Row Tryz.prog 21 e68:=RW (l:=[(79,[e65,e66,e67])]) ⟨kn79,⟨row65,row66,row67,trivial⟩,trivial⟩ (by kernel_rfl)
theorem kn113:Known Tryz.prog 113:=fn_known tabOf.1 (x:=g113) (by kernel_rfl) (by kernel_rfl)
def z34:List AV:=[.sl 3 [z27,z28,z30]]
def z35:List AV:=[.sl 3 [z31,z32,z33]]
def a69:List AV:=[.sl 1 [z34,z35]]
def r69:AV:=n 0
abbrev e69:=(a69,r69)
theorem row69:Row Tryz.prog 113 e69:=RW (l:=[(21,[e64,e68])]) ⟨kn21,⟨row64,row68,trivial⟩,trivial⟩ (by kernel_rfl)
theorem kn178:Known Tryz.prog 178:=fn_known tabOf.1 (x:=g178) (by kernel_rfl) (by kernel_rfl)
def z36:AV:=.agg [n 1,.nils]
def z37:AV:=.agg [n 2,.nils]
def a70:List AV:=[z36,z37]
def r70:AV:=z36
abbrev e70:=(a70,r70)
theorem row70:Row Tryz.prog 178 e70:=RW (l:=[]) trivial (by kernel_rfl)
theorem kn147:Known Tryz.prog 147:=fn_known tabOf.1 (x:=g147) (by kernel_rfl) (by kernel_rfl)
def a71:List AV:=[z36,z37]
def r71:AV:=.agg [n 1,.nils,n 2,.nils]
abbrev e71:=(a71,r71)
theorem row71:Row Tryz.prog 147 e71:=RW (l:=[(178,[e70])]) ⟨kn178,⟨row70,trivial⟩,trivial⟩ (by kernel_rfl)
def a72:List AV:=[.agg [n 0,.nils],z37]
def r72:AV:=.agg [n 0,.nils,n 1,.nils]
abbrev e72:=(a72,r72)
theorem row72:Row Tryz.prog 147 e72:=RW (l:=[]) trivial (by kernel_rfl)
theorem kn116:Known Tryz.prog 116:=fn_known tabOf.1 (x:=g116) (by kernel_rfl) (by kernel_rfl)
def z38:AV:=.agg [n 0,.nils,n 1,.nils]
def z39:AV:=.agg [n 1,.nils,n 2,.nils]
def a73:List AV:=[z38,z39]
def r73:AV:=z38
abbrev e73:=(a73,r73)
theorem row73:Row Tryz.prog 116 e73:=RW (l:=[(147,[e72])]) ⟨kn147,⟨row72,trivial⟩,trivial⟩ (by kernel_rfl)
def z40:AV:=.agg [n 1,.nils,n 1,.nils]
def a74:List AV:=[z40,z39]
def r74:AV:=z39
abbrev e74:=(a74,r74)
theorem row74:Row Tryz.prog 116 e74:=RW (l:=[(147,[e71])]) ⟨kn147,⟨row71,trivial⟩,trivial⟩ (by kernel_rfl)
def a75:List AV:=[.agg [n 3,.nils],z37]
def r75:AV:=z36
abbrev e75:=(a75,r75)
theorem row75:Row Tryz.prog 178 e75:=RW (l:=[]) trivial (by kernel_rfl)
def a76:List AV:=[.agg [n 3,.nils],z37]
def r76:AV:=.agg [n 3,.nils,n 2,.nils]
abbrev e76:=(a76,r76)
theorem row76:Row Tryz.prog 147 e76:=RW (l:=[(178,[e75])]) ⟨kn178,⟨row75,trivial⟩,trivial⟩ (by kernel_rfl)
theorem kn114:Known Tryz.prog 114:=fn_known tabOf.1 (x:=g114) (by kernel_rfl) (by kernel_rfl)
def a77:List AV:=[z40,z39]
def r77:AV:=.agg [n 3,.nils,n 2,.nils]
abbrev e77:=(a77,r77)
theorem row77:Row Tryz.prog 114 e77:=RW (l:=[(147,[e76])]) ⟨kn147,⟨row76,trivial⟩,trivial⟩ (by kernel_rfl)
def a78:List AV:=[z40,z40]
def r78:AV:=z40
abbrev e78:=(a78,r78)
theorem row78:Row Tryz.prog 116 e78:=RW (l:=[]) trivial (by kernel_rfl)
def z41:AV:=.agg [n 3,.nils,n 1,.nils]
def a79:List AV:=[z40,z41]
def r79:AV:=z41
abbrev e79:=(a79,r79)
theorem row79:Row Tryz.prog 116 e79:=RW (l:=[]) trivial (by kernel_rfl)
theorem kn119:Known Tryz.prog 119:=fn_known tabOf.1 (x:=g119) (by kernel_rfl) (by kernel_rfl)
def a80:List AV:=[z41,z40]
def r80:AV:=n 1
abbrev e80:=(a80,r80)
theorem row80:Row Tryz.prog 119 e80:=RW (l:=[]) trivial (by kernel_rfl)
def z42:AV:=.agg [n 2,.nils,n 1,.nils]
def a81:List AV:=[z40,z42]
def r81:AV:=z42
abbrev e81:=(a81,r81)
theorem row81:Row Tryz.prog 116 e81:=RW (l:=[]) trivial (by kernel_rfl)
def a82:List AV:=[.agg [n 6,.nils],z37]
def r82:AV:=z41
abbrev e82:=(a82,r82)
theorem row82:Row Tryz.prog 147 e82:=RW (l:=[]) trivial (by kernel_rfl)
def z43:AV:=.agg [n 3,.nils,n 2,.nils]
def a83:List AV:=[z42,z43]
def r83:AV:=z41
abbrev e83:=(a83,r83)
theorem row83:Row Tryz.prog 116 e83:=RW (l:=[(147,[e82])]) ⟨kn147,⟨row82,trivial⟩,trivial⟩ (by kernel_rfl)
def a84:List AV:=[z43,z42]
def r84:AV:=n (-1)
abbrev e84:=(a84,r84)
theorem row84:Row Tryz.prog 119 e84:=RW (l:=[]) trivial (by kernel_rfl)
def a85:List AV:=[.agg [n 9,.nils],z37]
def r85:AV:=z36
abbrev e85:=(a85,r85)
theorem row85:Row Tryz.prog 178 e85:=RW (l:=[]) trivial (by kernel_rfl)
def a86:List AV:=[.agg [n 9,.nils],z37]
def r86:AV:=.agg [n 9,.nils,n 2,.nils]
abbrev e86:=(a86,r86)
theorem row86:Row Tryz.prog 147 e86:=RW (l:=[(178,[e85])]) ⟨kn178,⟨row85,trivial⟩,trivial⟩ (by kernel_rfl)
def a87:List AV:=[z41,z43]
def r87:AV:=.agg [n 9,.nils,n 2,.nils]
abbrev e87:=(a87,r87)
theorem row87:Row Tryz.prog 116 e87:=RW (l:=[(147,[e86])]) ⟨kn147,⟨row86,trivial⟩,trivial⟩ (by kernel_rfl)
def a88:List AV:=[z43,z41]
def r88:AV:=n (-1)
abbrev e88:=(a88,r88)
theorem row88:Row Tryz.prog 119 e88:=RW (l:=[]) trivial (by kernel_rfl)
def a89:List AV:=[z41,z41]
def r89:AV:=n 0
abbrev e89:=(a89,r89)
theorem row89:Row Tryz.prog 119 e89:=RW (l:=[]) trivial (by kernel_rfl)
def a90:List AV:=[z40,z40]
def r90:AV:=n 0
abbrev e90:=(a90,r90)
theorem row90:Row Tryz.prog 119 e90:=RW (l:=[]) trivial (by kernel_rfl)
def a91:List AV:=[z43,z40]
def r91:AV:=n 1
abbrev e91:=(a91,r91)
theorem row91:Row Tryz.prog 119 e91:=RW (l:=[]) trivial (by kernel_rfl)
def z44:AV:=.agg [n 9,.nils,n 2,.nils]
def a92:List AV:=[z44,z41]
def r92:AV:=n 1
abbrev e92:=(a92,r92)
theorem row92:Row Tryz.prog 119 e92:=RW (l:=[]) trivial (by kernel_rfl)
def a93:List AV:=[z40,z43]
def r93:AV:=n (-1)
abbrev e93:=(a93,r93)
theorem row93:Row Tryz.prog 119 e93:=RW (l:=[]) trivial (by kernel_rfl)
def a94:List AV:=[z43,z43]
def r94:AV:=n 0
abbrev e94:=(a94,r94)
theorem row94:Row Tryz.prog 119 e94:=RW (l:=[]) trivial (by kernel_rfl)
def a95:List AV:=[z42,z42]
def r95:AV:=n 0
abbrev e95:=(a95,r95)
theorem row95:Row Tryz.prog 119 e95:=RW (l:=[]) trivial (by kernel_rfl)
def a96:List AV:=[z41,z44]
def r96:AV:=n (-1)
abbrev e96:=(a96,r96)
theorem row96:Row Tryz.prog 119 e96:=RW (l:=[]) trivial (by kernel_rfl)
def a97:List AV:=[z44,z44]
def r97:AV:=n 0
abbrev e97:=(a97,r97)
theorem row97:Row Tryz.prog 119 e97:=RW (l:=[]) trivial (by kernel_rfl)
theorem kn201:Known Tryz.prog 201:=fn_known tabOf.1 (x:=g201) (by kernel_rfl) (by kernel_rfl)
def a98:List AV:=[.sl 1 [[n 0],[n 1],[n 2]],n 0,n 3,.func (.func 127) [] [.ref [.sl 1 [[n 1],[n 2],[n 3]]]]]
def r98:AV:=.tuple []
abbrev e98:=(a98,r98)
theorem row98:Row Tryz.prog 201 e98:=RW (l:=[]) trivial (by kernel_rfl)
theorem kn36:Known Tryz.prog 36:=fn_known tabOf.1 (x:=g36) (by kernel_rfl) (by kernel_rfl)
def z45:AV:=.sl 3 [[z0,n 4,n 6],[z4,n 5,n 5],[z6,n 5,n 5]]
def a99:List AV:=[z45]
def r99:AV:=n 0
abbrev e99:=(a99,r99)
theorem row99:Row Tryz.prog 36 e99:=RW (l:=[]) trivial (by kernel_rfl)
theorem kn87:Known Tryz.prog 87:=fn_known tabOf.1 (x:=g87) (by kernel_rfl) (by kernel_rfl)
def z46:AV:=.bool true
def a100:List AV:=[z45,n 0,n 1]
def r100:AV:=.tuple [n 5,z46]
abbrev e100:=(a100,r100)
theorem row100:Row Tryz.prog 87 e100:=RW (l:=[]) trivial (by kernel_rfl)
def z47:AV:=.bool false
def a101:List AV:=[z45,n 0,n 2]
def r101:AV:=.tuple [n 0,z47]
abbrev e101:=(a101,r101)
theorem row101:Row Tryz.prog 87 e101:=RW (l:=[]) trivial (by kernel_rfl)
def a102:List AV:=[z45,n 0,n 3]
def r102:AV:=.tuple [n 4,z46]
abbrev e102:=(a102,r102)
theorem row102:Row Tryz.prog 87 e102:=RW (l:=[]) trivial (by kernel_rfl)
theorem kn70:Known Tryz.prog 70:=fn_known tabOf.1 (x:=g70) (by kernel_rfl) (by kernel_rfl)
def a103:List AV:=[z45,n 0,n 2,.sl 3 [[n 4,n 4,.str ⟨#[97,98,111,118,101]⟩],[n 5,n 6,.str ⟨#[98,101,108,111,119]⟩]]]
def r103:AV:=n 0
abbrev e103:=(a103,r103)
theorem row103:Row Tryz.prog 70 e103:=RW (l:=[(36,[e99])]) ⟨kn36,⟨row99,trivial⟩,trivial⟩ (by kernel_rfl)
theorem kn44:Known Tryz.prog 44:=fn_known tabOf.1 (x:=g44) (by kernel_rfl) (by kernel_rfl)
def z48:AV:=.agg [.sl 1 [[.str ⟨#[97]⟩],[.str ⟨#[98]⟩],[.str ⟨#[99]⟩],[.str ⟨#[100]⟩]],.sl 1 [[n 2],[n 2],[n 1],[n 0]],.sl 2 [z25,[n 2,n 3]]]
def a104:List AV:=[z48]
def r104:AV:=n 0
abbrev e104:=(a104,r104)
theorem row104:Row Tryz.prog 44 e104:=RW (l:=[]) trivial (by kernel_rfl)
theorem kn102:Known Tryz.prog 102:=fn_known tabOf.1 (x:=g102) (by kernel_rfl) (by kernel_rfl)
def a105:List AV:=[z48,n 2,.sl 1 [[n 0]]]
def r105:AV:=z47
abbrev e105:=(a105,r105)
theorem row105:Row Tryz.prog 102 e105:=RW (l:=[]) trivial (by kernel_rfl)
def a106:List AV:=[z48,n 2,z29]
def r106:AV:=z47
abbrev e106:=(a106,r106)
theorem row106:Row Tryz.prog 102 e106:=RW (l:=[]) trivial (by kernel_rfl)
def a107:List AV:=[z48,n 2,.sl 1 [[n 0],[n 1]]]
def r107:AV:=z46
abbrev e107:=(a107,r107)
theorem row107:Row Tryz.prog 102 e107:=RW (l:=[]) trivial (by kernel_rfl)
def a108:List AV:=[z48,n 2,z26]
def r108:AV:=z47
abbrev e108:=(a108,r108)
theorem row108:Row Tryz.prog 102 e108:=RW (l:=[]) trivial (by kernel_rfl)
def a109:List AV:=[z48,n 2,.sl 1 [[n 0],[n 3]]]
def r109:AV:=z47
abbrev e109:=(a109,r109)
theorem row109:Row Tryz.prog 102 e109:=RW (l:=[]) trivial (by kernel_rfl)
def a110:List AV:=[z48,n 2,.sl 1 [[n 1],[n 3]]]
def r110:AV:=z47
abbrev e110:=(a110,r110)
theorem row110:Row Tryz.prog 102 e110:=RW (l:=[]) trivial (by kernel_rfl)
theorem kn42:Known Tryz.prog 42:=fn_known tabOf.1 (x:=g42) (by kernel_rfl) (by kernel_rfl)
def a111:List AV:=[z48,n 1,.sl 1 [[n 1],[n 2]]]
def r111:AV:=n 0
abbrev e111:=(a111,r111)
theorem row111:Row Tryz.prog 42 e111:=RW (l:=[(44,[e104])]) ⟨kn44,⟨row104,trivial⟩,trivial⟩ (by kernel_rfl)
theorem kn16:Known Tryz.prog 16:=fn_known tabOf.1 (x:=g16) (by kernel_rfl) (by kernel_rfl)
def a112:List AV:=[]
def r112:AV:=z46
abbrev e112:=(a112,r112)
theorem row112:Row Tryz.prog 16 e112:=RW (l:=[(21,[e4]),(36,[e99]),(42,[e111]),(44,[e104]),(60,[e24]),(70,[e103]),(75,[e5,e6,e7,e8,e9,e10,e11,e12,e13]),(78,[e14]),(82,[e36]),(87,[e100,e101,e102]),(102,[e105,e106,e107,e108,e109,e110]),(109,[e60]),(113,[e69]),(114,[e77]),(116,[e73,e74,e78,e79,e81,e83,e87]),(119,[e80,e84,e88,e89,e90,e91,e92,e93,e94,e95,e96,e97]),(147,[e71]),(201,[e98])]) ⟨kn21,⟨row4,trivial⟩,kn36,⟨row99,trivial⟩,kn42,⟨row111,trivial⟩,kn44,⟨row104,trivial⟩,kn60,⟨row24,trivial⟩,kn70,⟨row103,trivial⟩,kn75,⟨row5,row6,row7,row8,row9,row10,row11,row12,row13,trivial⟩,kn78,⟨row14,trivial⟩,kn82,⟨row36,trivial⟩,kn87,⟨row100,row101,row102,trivial⟩,kn102,⟨row105,row106,row107,row108,row109,row110,trivial⟩,kn109,⟨row60,trivial⟩,kn113,⟨row69,trivial⟩,kn114,⟨row77,trivial⟩,kn116,⟨row73,row74,row78,row79,row81,row83,row87,trivial⟩,kn119,⟨row80,row84,row88,row89,row90,row91,row92,row93,row94,row95,row96,row97,trivial⟩,kn147,⟨row71,trivial⟩,kn201,⟨row98,trivial⟩,trivial⟩ (by kernel_rfl)
end Go.Proofs.YtdjngcfnlfgjkaaGreatDoor.C5
