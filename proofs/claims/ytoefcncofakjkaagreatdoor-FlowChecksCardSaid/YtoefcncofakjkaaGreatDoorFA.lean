/- Calls that are known. Conditions: none. -/
import Derived.Test.YtoefcncofakjkaaGreatDoorCA
import Derived.Test.YtoefcncofakjkaaGreatDoorSB
set_option linter.unusedVariables false
set_option maxRecDepth 100000
namespace Go.Proofs.YtoefcncofakjkaaGreatDoor
open Go Zv Zv.Ab
def a0:List D:=[(.str [97,98,99,100,101,102,103,104,105,106,107,108,109,110,111,112,113,114,115,116,117,118,119,120,121,122,48,49,50,51,52,53,54,55,56,57,45])]
def d0:D:=(.tup [(.agg (bl 256 10633823807823001954989765380701945856)),(.bool true)])
theorem m0:K 217 a0 d0:=kf (kt:=[]) trivial (by kernel_rfl) (by kernel_rfl) rfl
def a1:List D:=[(.str [108,111,119]),q39]
def d1:D:=(.str [])
theorem m1:K 219 a1 d1:=kf (kt:=[]) trivial (by kernel_rfl) (by kernel_rfl) rfl
def a2:List D:=[q61,q39]
def d2:D:=(.str [])
theorem m2:K 219 a2 d2:=kf (kt:=[]) trivial (by kernel_rfl) (by kernel_rfl) rfl
def a3:List D:=[q66,q39]
def d3:D:=(.str [])
theorem m3:K 219 a3 d3:=kf (kt:=[]) trivial (by kernel_rfl) (by kernel_rfl) rfl
def a4:List D:=[q29]
def d4:D:=q57
theorem m4:K 51 a4 d4:=kf (kt:=[(217,[(a0,d0)]),(219,[(a1,d1),(a2,d2),(a3,d3)])]) ⟨⟨m0,trivial⟩,⟨⟨m1,⟨m2,⟨m3,trivial⟩⟩⟩,trivial⟩⟩ (by kernel_rfl) (by kernel_rfl) rfl
def a5:List D:=[(.iptr [q29,q40] 0)]
def d5:D:=(.agg [(i 3),(.int .u8 7),(.int .u8 6),(.int .u8 4),(.int .u8 0),(.int .u8 0),(.int .u8 0),(.int .u8 0),(.int .u8 0),(.int .u8 1),(.int .u8 3),(.int .u8 7),(.int .u8 0),(.int .u8 0),(.int .u8 0),(.int .u8 0),(.int .u8 0)])
theorem m5:K 53 a5 d5:=kf (kt:=[]) trivial (by kernel_rfl) (by kernel_rfl) rfl
def a6:List D:=[(.agg [(.int .u8 1),(.int .u8 3),(.int .u8 7),(.int .u8 0),(.int .u8 0),(.int .u8 0),(.int .u8 0),(.int .u8 0)]),(i 3),(i 2),(i 2)]
def d6:D:=(i 2)
theorem m6:K 55 a6 d6:=kf (kt:=[]) trivial (by kernel_rfl) (by kernel_rfl) rfl
def a7:List D:=[q19]
def d7:D:=q57
theorem m7:K 29 a7 d7:=kf (kt:=[(51,[(a4,d4)]),(53,[(a5,d5)]),(55,[(a6,d6)])]) ⟨⟨m4,trivial⟩,⟨⟨m5,trivial⟩,⟨⟨m6,trivial⟩,trivial⟩⟩⟩ (by kernel_rfl) (by kernel_rfl) rfl
def a8:List D:=[q62]
def d8:D:=q56
theorem m8:K 56 a8 d8:=kf (kt:=[]) trivial (by kernel_rfl) (by kernel_rfl) rfl
def a9:List D:=[(.iptr [q62,(i 0)] 0),(i 0)]
def d9:D:=(i 8)
theorem m9:K 89 a9 d9:=kf (kt:=[]) trivial (by kernel_rfl) (by kernel_rfl) rfl
def a10:List D:=[(.iptr [q62,(i 1)] 0),(i 1)]
def d10:D:=(i 8)
theorem m10:K 89 a10 d10:=kf (kt:=[]) trivial (by kernel_rfl) (by kernel_rfl) rfl
def a11:List D:=[(.iptr [q62,(i 2)] 0),(i 2)]
def d11:D:=(i 8)
theorem m11:K 89 a11 d11:=kf (kt:=[]) trivial (by kernel_rfl) (by kernel_rfl) rfl
def a12:List D:=[(.iptr [q62,(i 3)] 0),(i 3)]
def d12:D:=(i 8)
theorem m12:K 89 a12 d12:=kf (kt:=[]) trivial (by kernel_rfl) (by kernel_rfl) rfl
def a13:List D:=[(.iptr [q62,(i 4)] 0),(i 4)]
def d13:D:=(i 8)
theorem m13:K 89 a13 d13:=kf (kt:=[]) trivial (by kernel_rfl) (by kernel_rfl) rfl
def a14:List D:=[(.agg [(i 1),(i 0),(i 0),(i 0),q62])]
def d14:D:=(i 0)
theorem m14:K 57 a14 d14:=kf (kt:=[(89,[(a9,d9),(a10,d10),(a11,d11),(a12,d12),(a13,d13)])]) ⟨⟨m9,⟨m10,⟨m11,⟨m12,⟨m13,trivial⟩⟩⟩⟩⟩,trivial⟩ (by kernel_rfl) (by kernel_rfl) rfl
def a15:List D:=[q18,q32]
def d15:D:=(i 0)
theorem m15:K 59 a15 d15:=kf (kt:=[]) trivial (by kernel_rfl) (by kernel_rfl) rfl
def a16:List D:=[q19,q32]
def d16:D:=(i 0)
theorem m16:K 33 a16 d16:=kf (kt:=[(53,[(a5,d5)]),(29,[(a7,d7)]),(59,[(a15,d15)])]) ⟨⟨m5,trivial⟩,⟨⟨m7,trivial⟩,⟨⟨m15,trivial⟩,trivial⟩⟩⟩ (by kernel_rfl) (by kernel_rfl) rfl
def a17:List D:=[q59]
def d17:D:=q56
theorem m17:K 56 a17 d17:=kf (kt:=[]) trivial (by kernel_rfl) (by kernel_rfl) rfl
end Go.Proofs.YtoefcncofakjkaaGreatDoor
namespace Go.Proofs.YtoefcncofakjkaaGreatDoor
open Go Zv Zv.Ab
def a18:List D:=[(.iptr [q59,(i 0)] 0),(i 0)]
def d18:D:=(i 8)
theorem m18:K 89 a18 d18:=kf (kt:=[]) trivial (by kernel_rfl) (by kernel_rfl) rfl
def a19:List D:=[(.iptr [q59,(i 1)] 0),(i 1)]
def d19:D:=(i 8)
theorem m19:K 89 a19 d19:=kf (kt:=[]) trivial (by kernel_rfl) (by kernel_rfl) rfl
def a20:List D:=[(.iptr [q59,(i 2)] 0),(i 2)]
def d20:D:=(i 8)
theorem m20:K 89 a20 d20:=kf (kt:=[]) trivial (by kernel_rfl) (by kernel_rfl) rfl
def a21:List D:=[(.iptr [q59,(i 3)] 0),(i 3)]
def d21:D:=(i 8)
theorem m21:K 89 a21 d21:=kf (kt:=[]) trivial (by kernel_rfl) (by kernel_rfl) rfl
def a22:List D:=[(.iptr [q59,(i 4)] 0),(i 4)]
def d22:D:=(i 8)
theorem m22:K 89 a22 d22:=kf (kt:=[]) trivial (by kernel_rfl) (by kernel_rfl) rfl
def a23:List D:=[(.agg [(i 1),(i 0),(i 0),(i 0),q59])]
def d23:D:=(i 0)
theorem m23:K 57 a23 d23:=kf (kt:=[(89,[(a18,d18),(a19,d19),(a20,d20),(a21,d21),(a22,d22)])]) ⟨⟨m18,⟨m19,⟨m20,⟨m21,⟨m22,trivial⟩⟩⟩⟩⟩,trivial⟩ (by kernel_rfl) (by kernel_rfl) rfl
def a24:List D:=[q18,q36]
def d24:D:=(i 0)
theorem m24:K 59 a24 d24:=kf (kt:=[]) trivial (by kernel_rfl) (by kernel_rfl) rfl
def a25:List D:=[q19,q36]
def d25:D:=(i 0)
theorem m25:K 33 a25 d25:=kf (kt:=[(53,[(a5,d5)]),(29,[(a7,d7)]),(59,[(a24,d24)])]) ⟨⟨m5,trivial⟩,⟨⟨m7,trivial⟩,⟨⟨m24,trivial⟩,trivial⟩⟩⟩ (by kernel_rfl) (by kernel_rfl) rfl
def a26:List D:=[q67]
def d26:D:=q56
theorem m26:K 56 a26 d26:=kf (kt:=[]) trivial (by kernel_rfl) (by kernel_rfl) rfl
def a27:List D:=[(.iptr [q67,(i 0)] 0),(i 0)]
def d27:D:=(i 8)
theorem m27:K 89 a27 d27:=kf (kt:=[]) trivial (by kernel_rfl) (by kernel_rfl) rfl
def a28:List D:=[(.iptr [q67,(i 1)] 0),(i 1)]
def d28:D:=(i 8)
theorem m28:K 89 a28 d28:=kf (kt:=[]) trivial (by kernel_rfl) (by kernel_rfl) rfl
def a29:List D:=[(.iptr [q67,(i 2)] 0),(i 2)]
def d29:D:=(i 8)
theorem m29:K 89 a29 d29:=kf (kt:=[]) trivial (by kernel_rfl) (by kernel_rfl) rfl
def a30:List D:=[(.iptr [q67,(i 3)] 0),(i 3)]
def d30:D:=(i 8)
theorem m30:K 89 a30 d30:=kf (kt:=[]) trivial (by kernel_rfl) (by kernel_rfl) rfl
def a31:List D:=[(.agg [(i 1),(i 0),(i 0),(i 0),q67])]
def d31:D:=(i 0)
theorem m31:K 57 a31 d31:=kf (kt:=[(89,[(a27,d27),(a28,d28),(a29,d29),(a30,d30)])]) ⟨⟨m27,⟨m28,⟨m29,⟨m30,trivial⟩⟩⟩⟩,trivial⟩ (by kernel_rfl) (by kernel_rfl) rfl
def a32:List D:=[q18,q34]
def d32:D:=(i 0)
theorem m32:K 59 a32 d32:=kf (kt:=[]) trivial (by kernel_rfl) (by kernel_rfl) rfl
def a33:List D:=[q19,q34]
def d33:D:=(i 0)
theorem m33:K 33 a33 d33:=kf (kt:=[(53,[(a5,d5)]),(29,[(a7,d7)]),(59,[(a32,d32)])]) ⟨⟨m5,trivial⟩,⟨⟨m7,trivial⟩,⟨⟨m32,trivial⟩,trivial⟩⟩⟩ (by kernel_rfl) (by kernel_rfl) rfl
def a34:List D:=[q68]
def d34:D:=q56
theorem m34:K 56 a34 d34:=kf (kt:=[]) trivial (by kernel_rfl) (by kernel_rfl) rfl
def a35:List D:=[(.iptr [q68,(i 0)] 0),(i 0)]
def d35:D:=(i 8)
theorem m35:K 89 a35 d35:=kf (kt:=[]) trivial (by kernel_rfl) (by kernel_rfl) rfl
def a36:List D:=[(.iptr [q68,(i 1)] 0),(i 1)]
def d36:D:=(i 8)
theorem m36:K 89 a36 d36:=kf (kt:=[]) trivial (by kernel_rfl) (by kernel_rfl) rfl
def a37:List D:=[(.iptr [q68,(i 2)] 0),(i 2)]
def d37:D:=(i 8)
theorem m37:K 89 a37 d37:=kf (kt:=[]) trivial (by kernel_rfl) (by kernel_rfl) rfl
def a38:List D:=[(.iptr [q68,(i 3)] 0),(i 3)]
def d38:D:=(i 8)
theorem m38:K 89 a38 d38:=kf (kt:=[]) trivial (by kernel_rfl) (by kernel_rfl) rfl
def a39:List D:=[(.agg [(i 1),(i 0),(i 0),(i 0),q68])]
def d39:D:=(i 0)
theorem m39:K 57 a39 d39:=kf (kt:=[(89,[(a35,d35),(a36,d36),(a37,d37),(a38,d38)])]) ⟨⟨m35,⟨m36,⟨m37,⟨m38,trivial⟩⟩⟩⟩,trivial⟩ (by kernel_rfl) (by kernel_rfl) rfl
def a40:List D:=[q18,q33]
def d40:D:=(i 0)
theorem m40:K 59 a40 d40:=kf (kt:=[]) trivial (by kernel_rfl) (by kernel_rfl) rfl
def a41:List D:=[q19,q33]
def d41:D:=(i 0)
theorem m41:K 33 a41 d41:=kf (kt:=[(53,[(a5,d5)]),(29,[(a7,d7)]),(59,[(a40,d40)])]) ⟨⟨m5,trivial⟩,⟨⟨m7,trivial⟩,⟨⟨m40,trivial⟩,trivial⟩⟩⟩ (by kernel_rfl) (by kernel_rfl) rfl
def a42:List D:=[(.agg [q29,q40,q9,.nils])]
def d42:D:=(i 0)
theorem m42:K 17 a42 d42:=kf (kt:=[(29,[(a7,d7)]),(56,[(a8,d8),(a17,d17),(a26,d26),(a34,d34)]),(57,[(a14,d14),(a23,d23),(a31,d31),(a39,d39)]),(33,[(a16,d16),(a25,d25),(a33,d33),(a41,d41)])]) ⟨⟨m7,trivial⟩,⟨⟨m8,⟨m17,⟨m26,⟨m34,trivial⟩⟩⟩⟩,⟨⟨m14,⟨m23,⟨m31,⟨m39,trivial⟩⟩⟩⟩,⟨⟨m16,⟨m25,⟨m33,⟨m41,trivial⟩⟩⟩⟩,trivial⟩⟩⟩⟩ (by kernel_rfl) (by kernel_rfl) rfl
end Go.Proofs.YtoefcncofakjkaaGreatDoor
namespace Go.Proofs.YtoefcncofakjkaaGreatDoor
open Go Zv Zv.Ab
def a43:List D:=[(.sl false 6 [(i 0),(i 0),(i 1),(i 0),(i 2),(i 1)]),(.fn (.func 19) [] [(.iptr [q29,q40,q9,.nils,q22,q38,(i 0),(i 0)] 0)])]
def d43:D:=(i (-1))
theorem m43:K 35 a43 d43:=kf (kt:=[]) trivial (by kernel_rfl) (by kernel_rfl) rfl
def a44:List D:=[(.agg [q29,q40,q9,.nils,q22,q38,(i 0),(i 0)])]
def d44:D:=(i 0)
theorem m44:K 8 a44 d44:=kf (kt:=[(17,[(a42,d42)]),(35,[(a43,d43)])]) ⟨⟨m42,trivial⟩,⟨⟨m43,trivial⟩,trivial⟩⟩ (by kernel_rfl) (by kernel_rfl) rfl
def a45:List D:=[(.iptr [q63,(i 0)] 0),(i 0)]
def d45:D:=(i 8)
theorem m45:K 89 a45 d45:=kf (kt:=[]) trivial (by kernel_rfl) (by kernel_rfl) rfl
def a46:List D:=[(.iptr [q63,(i 1)] 0),(i 1)]
def d46:D:=(i 8)
theorem m46:K 89 a46 d46:=kf (kt:=[]) trivial (by kernel_rfl) (by kernel_rfl) rfl
def a47:List D:=[(.iptr [q63,(i 2)] 0),(i 2)]
def d47:D:=(i 8)
theorem m47:K 89 a47 d47:=kf (kt:=[]) trivial (by kernel_rfl) (by kernel_rfl) rfl
def a48:List D:=[(.iptr [q63,(i 3)] 0),(i 3)]
def d48:D:=(i 8)
theorem m48:K 89 a48 d48:=kf (kt:=[]) trivial (by kernel_rfl) (by kernel_rfl) rfl
def a49:List D:=[(.iptr [q63,(i 4)] 0),(i 4)]
def d49:D:=(i 8)
theorem m49:K 89 a49 d49:=kf (kt:=[]) trivial (by kernel_rfl) (by kernel_rfl) rfl
def a50:List D:=[(.agg [(i 1),(i 0),(i 0),(i 0),q63])]
def d50:D:=(i 0)
theorem m50:K 57 a50 d50:=kf (kt:=[(89,[(a45,d45),(a46,d46),(a47,d47),(a48,d48),(a49,d49)])]) ⟨⟨m45,⟨m46,⟨m47,⟨m48,⟨m49,trivial⟩⟩⟩⟩⟩,trivial⟩ (by kernel_rfl) (by kernel_rfl) rfl
def a51:List D:=[(i 12)]
def d51:D:=q55
theorem m51:K 167 a51 d51:=kf (kt:=[]) trivial (by kernel_rfl) (by kernel_rfl) rfl
def a52:List D:=[(.agg [(i 5),(i 12),(i 1),(.str []),(.str []),(i 0),(i 0)])]
def d52:D:=(i 0)
theorem m52:K 95 a52 d52:=kf (kt:=[(167,[(a51,d51)])]) ⟨⟨m51,trivial⟩,trivial⟩ (by kernel_rfl) (by kernel_rfl) rfl
def a53:List D:=[(.agg [(i 4),(i 0),(i 0),q62,(.str []),(i 0),(i 0)])]
def d53:D:=(i 0)
theorem m53:K 95 a53 d53:=kf (kt:=[(56,[(a8,d8)]),(57,[(a14,d14)])]) ⟨⟨m8,trivial⟩,⟨⟨m14,trivial⟩,trivial⟩⟩ (by kernel_rfl) (by kernel_rfl) rfl
def a54:List D:=[q16]
def d54:D:=q57
theorem m54:K 34 a54 d54:=kf (kt:=[(95,[(a52,d52),(a53,d53)])]) ⟨⟨m52,⟨m53,trivial⟩⟩,trivial⟩ (by kernel_rfl) (by kernel_rfl) rfl
def a55:List D:=[q16,.nils]
def d55:D:=q57
theorem m55:K 183 a55 d55:=kf (kt:=[(34,[(a54,d54)])]) ⟨⟨m54,trivial⟩,trivial⟩ (by kernel_rfl) (by kernel_rfl) rfl
def a56:List D:=[(.sl true 2 [.nils,.nils])]
def d56:D := .nils
theorem m56:K 187 a56 d56:=kf (kt:=[]) trivial (by kernel_rfl) (by kernel_rfl) rfl
def a57:List D:=[(.agg [.nils,.nils,q11])]
def d57:D:=q43
theorem m57:K 41 a57 d57:=kf (kt:=[(57,[(a50,d50)]),(183,[(a55,d55)]),(187,[(a56,d56)])]) ⟨⟨m50,trivial⟩,⟨⟨m55,trivial⟩,⟨⟨m56,trivial⟩,trivial⟩⟩⟩ (by kernel_rfl) (by kernel_rfl) rfl
def a58:List D:=[(.str [107,49,105,48]),q64,q64]
def d58:D:=q37
theorem m58:K 292 a58 d58:=kf (kt:=[]) trivial (by kernel_rfl) (by kernel_rfl) rfl
def a59:List D:=[(i 12),q64,q64]
def d59:D:=q42
theorem m59:K 262 a59 d59:=kf (kt:=[(292,[(a58,d58)])]) ⟨⟨m58,trivial⟩,trivial⟩ (by kernel_rfl) (by kernel_rfl) rfl
def a60:List D:=[q13,q50]
def d60:D:=(i 1)
theorem m60:K 328 a60 d60:=kf (kt:=[]) trivial (by kernel_rfl) (by kernel_rfl) rfl
def a61:List D:=[q13,q51]
def d61:D:=(i 0)
theorem m61:K 328 a61 d61:=kf (kt:=[]) trivial (by kernel_rfl) (by kernel_rfl) rfl
def a62:List D:=[q13]
def d62:D:=(.agg [(i 0),(i 0),(i 1),(i 0),(i 1),(i 0),(i 1)])
theorem m62:K 300 a62 d62:=kf (kt:=[(328,[(a60,d60),(a61,d61)])]) ⟨⟨m60,⟨m61,trivial⟩⟩,trivial⟩ (by kernel_rfl) (by kernel_rfl) rfl
def a63:List D:=[q19,(i 12),q30]
def d63:D:=(.tup [q26,(i 0)])
theorem m63:K 191 a63 d63:=kf (kt:=[(53,[(a5,d5)]),(29,[(a7,d7)]),(33,[(a16,d16)]),(262,[(a59,d59)]),(300,[(a62,d62)])]) ⟨⟨m5,trivial⟩,⟨⟨m7,trivial⟩,⟨⟨m16,trivial⟩,⟨⟨m59,trivial⟩,⟨⟨m62,trivial⟩,trivial⟩⟩⟩⟩⟩ (by kernel_rfl) (by kernel_rfl) rfl
def a64:List D:=[q18,q35]
def d64:D:=(i 0)
theorem m64:K 59 a64 d64:=kf (kt:=[]) trivial (by kernel_rfl) (by kernel_rfl) rfl
def a65:List D:=[q19,q35]
def d65:D:=(i 0)
theorem m65:K 33 a65 d65:=kf (kt:=[(53,[(a5,d5)]),(29,[(a7,d7)]),(59,[(a64,d64)])]) ⟨⟨m5,trivial⟩,⟨⟨m7,trivial⟩,⟨⟨m64,trivial⟩,trivial⟩⟩⟩ (by kernel_rfl) (by kernel_rfl) rfl
def a66:List D:=[q19,(i 0),q26]
def d66:D:=q55
theorem m66:K 192 a66 d66:=kf (kt:=[(33,[(a65,d65)])]) ⟨⟨m65,trivial⟩,trivial⟩ (by kernel_rfl) (by kernel_rfl) rfl
def a67:List D:=[q5,(i 1),q31]
def d67:D:=(i 1)
theorem m67:K 45 a67 d67:=kf (kt:=[]) trivial (by kernel_rfl) (by kernel_rfl) rfl
end Go.Proofs.YtoefcncofakjkaaGreatDoor
