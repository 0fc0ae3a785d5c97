/- Calls that are known. Conditions: none. -/
import Derived.Test.YtnpoohbeicakkaaGreatDoorZBD
set_option linter.unusedVariables false
set_option maxRecDepth 100000
namespace Go.Proofs.YtnpoohbeicakkaaGreatDoor
open Go Zv Zv.Ab
def a0:List D:=[(.str [97,98,99,100,101,102,103,104,105,106,107,108,109,110,111,112,113,114,115,116,117,118,119,120,121,122,48,49,50,51,52,53,54,55,56,57,45])]
def d0:D:=(.tup [(.agg [bF,bF,bF,bF,bF,bF,bF,bF,bF,bF,bF,bF,bF,bF,bF,bF,bF,bF,bF,bF,bF,bF,bF,bF,bF,bF,bF,bF,bF,bF,bF,bF,bF,bF,bF,bF,bF,bF,bF,bF,bF,bF,bF,bF,bF,bT,bF,bF,bT,bT,bT,bT,bT,bT,bT,bT,bT,bT,bF,bF,bF,bF,bF,bF,bF,bF,bF,bF,bF,bF,bF,bF,bF,bF,bF,bF,bF,bF,bF,bF,bF,bF,bF,bF,bF,bF,bF,bF,bF,bF,bF,bF,bF,bF,bF,bF,bF,bT,bT,bT,bT,bT,bT,bT,bT,bT,bT,bT,bT,bT,bT,bT,bT,bT,bT,bT,bT,bT,bT,bT,bT,bT,bT,bF,bF,bF,bF,bF,bF,bF,bF,bF,bF,bF,bF,bF,bF,bF,bF,bF,bF,bF,bF,bF,bF,bF,bF,bF,bF,bF,bF,bF,bF,bF,bF,bF,bF,bF,bF,bF,bF,bF,bF,bF,bF,bF,bF,bF,bF,bF,bF,bF,bF,bF,bF,bF,bF,bF,bF,bF,bF,bF,bF,bF,bF,bF,bF,bF,bF,bF,bF,bF,bF,bF,bF,bF,bF,bF,bF,bF,bF,bF,bF,bF,bF,bF,bF,bF,bF,bF,bF,bF,bF,bF,bF,bF,bF,bF,bF,bF,bF,bF,bF,bF,bF,bF,bF,bF,bF,bF,bF,bF,bF,bF,bF,bF,bF,bF,bF,bF,bF,bF,bF,bF,bF,bF,bF,bF,bF,bF,bF,bF,bF,bF,bF,bF]),bT])
theorem m0:K 239 a0 d0:=kf (kt:=[]) trivial
def a1:List D:=[(.str [108,111,119]),q0]
def d1:D:=(.str [])
theorem m1:K 241 a1 d1:=kf (kt:=[]) trivial
def a2:List D:=[(.str [115,116,97,102,102]),q0]
def d2:D:=(.str [])
theorem m2:K 241 a2 d2:=kf (kt:=[]) trivial
def a3:List D:=[(.str [104,105,103,104]),q0]
def d3:D:=(.str [])
theorem m3:K 241 a3 d3:=kf (kt:=[]) trivial
def a4:List D:=[(.sl true 3 [(.str [108,111,119]),(.str [115,116,97,102,102]),(.str [104,105,103,104])])]
def d4:D:=(.tup [(i 0),(i 0)])
theorem m4:K 106 a4 d4:=kf (kt:=[(239,[(a0,d0)]),(241,[(a1,d1),(a2,d2),(a3,d3)])]) ⟨⟨m0,trivial⟩,⟨⟨m1,⟨m2,⟨m3,trivial⟩⟩⟩,trivial⟩⟩
def a5:List D:=[(.iptr [(.sl true 3 [(.str [108,111,119]),(.str [115,116,97,102,102]),(.str [104,105,103,104])]),(.sl true 3 [(.int .u8 7),(.int .u8 6),(.int .u8 4)])] 0)]
def d5:D:=(.agg [(i 3),(.int .u8 7),(.int .u8 6),(.int .u8 4),(.int .u8 0),(.int .u8 0),(.int .u8 0),(.int .u8 0),(.int .u8 0),(.int .u8 1),(.int .u8 3),(.int .u8 7),(.int .u8 0),(.int .u8 0),(.int .u8 0),(.int .u8 0),(.int .u8 0)])
theorem m5:K 81 a5 d5:=kf (kt:=[]) trivial
def a6:List D:=[(.agg [(.int .u8 1),(.int .u8 3),(.int .u8 7),(.int .u8 0),(.int .u8 0),(.int .u8 0),(.int .u8 0),(.int .u8 0)]),(i 3),(i 2),(i 2)]
def d6:D:=(i 2)
theorem m6:K 109 a6 d6:=kf (kt:=[]) trivial
def a7:List D:=[q1]
def d7:D:=(.tup [(i 0),(i 0)])
theorem m7:K 59 a7 d7:=kf (kt:=[(106,[(a4,d4)]),(81,[(a5,d5)]),(109,[(a6,d6)])]) ⟨⟨m4,trivial⟩,⟨⟨m5,trivial⟩,⟨⟨m6,trivial⟩,trivial⟩⟩⟩
def a8:List D:=[(.str [109,97,114,107,115])]
def d8:D:=(.tup [(i 0),(i 4)])
theorem m8:K 110 a8 d8:=kf (kt:=[]) trivial
def a9:List D:=[(.iptr [(.str [109,97,114,107,115]),(i 0)] 0),(i 0)]
def d9:D:=(i 8)
theorem m9:K 156 a9 d9:=kf (kt:=[]) trivial
def a10:List D:=[(.iptr [(.str [109,97,114,107,115]),(i 1)] 0),(i 1)]
def d10:D:=(i 8)
theorem m10:K 156 a10 d10:=kf (kt:=[]) trivial
def a11:List D:=[(.iptr [(.str [109,97,114,107,115]),(i 2)] 0),(i 2)]
def d11:D:=(i 8)
theorem m11:K 156 a11 d11:=kf (kt:=[]) trivial
def a12:List D:=[(.iptr [(.str [109,97,114,107,115]),(i 3)] 0),(i 3)]
def d12:D:=(i 8)
theorem m12:K 156 a12 d12:=kf (kt:=[]) trivial
def a13:List D:=[(.iptr [(.str [109,97,114,107,115]),(i 4)] 0),(i 4)]
def d13:D:=(i 8)
theorem m13:K 156 a13 d13:=kf (kt:=[]) trivial
def a14:List D:=[(.agg [(i 1),(i 0),(i 0),(i 0),(.str [109,97,114,107,115])])]
def d14:D:=(i 0)
theorem m14:K 111 a14 d14:=kf (kt:=[(156,[(a9,d9),(a10,d10),(a11,d11),(a12,d12),(a13,d13)])]) ⟨⟨m9,⟨m10,⟨m11,⟨m12,⟨m13,trivial⟩⟩⟩⟩⟩,trivial⟩
def a15:List D:=[q2,q3]
def d15:D:=(i 0)
theorem m15:K 73 a15 d15:=kf (kt:=[]) trivial
def a16:List D:=[q1,q3]
def d16:D:=(i 0)
theorem m16:K 62 a16 d16:=kf (kt:=[(81,[(a5,d5)]),(59,[(a7,d7)]),(73,[(a15,d15)])]) ⟨⟨m5,trivial⟩,⟨⟨m7,trivial⟩,⟨⟨m15,trivial⟩,trivial⟩⟩⟩
def a17:List D:=[(.str [108,105,109,105,116])]
def d17:D:=(.tup [(i 0),(i 4)])
theorem m17:K 110 a17 d17:=kf (kt:=[]) trivial
def a18:List D:=[(.iptr [(.str [108,105,109,105,116]),(i 0)] 0),(i 0)]
def d18:D:=(i 8)
theorem m18:K 156 a18 d18:=kf (kt:=[]) trivial
def a19:List D:=[(.iptr [(.str [108,105,109,105,116]),(i 1)] 0),(i 1)]
def d19:D:=(i 8)
theorem m19:K 156 a19 d19:=kf (kt:=[]) trivial
def a20:List D:=[(.iptr [(.str [108,105,109,105,116]),(i 2)] 0),(i 2)]
def d20:D:=(i 8)
theorem m20:K 156 a20 d20:=kf (kt:=[]) trivial
def a21:List D:=[(.iptr [(.str [108,105,109,105,116]),(i 3)] 0),(i 3)]
def d21:D:=(i 8)
theorem m21:K 156 a21 d21:=kf (kt:=[]) trivial
def a22:List D:=[(.iptr [(.str [108,105,109,105,116]),(i 4)] 0),(i 4)]
def d22:D:=(i 8)
theorem m22:K 156 a22 d22:=kf (kt:=[]) trivial
def a23:List D:=[(.agg [(i 1),(i 0),(i 0),(i 0),(.str [108,105,109,105,116])])]
def d23:D:=(i 0)
theorem m23:K 111 a23 d23:=kf (kt:=[(156,[(a18,d18),(a19,d19),(a20,d20),(a21,d21),(a22,d22)])]) ⟨⟨m18,⟨m19,⟨m20,⟨m21,⟨m22,trivial⟩⟩⟩⟩⟩,trivial⟩
def a24:List D:=[q2,q4]
def d24:D:=(i 0)
theorem m24:K 73 a24 d24:=kf (kt:=[]) trivial
def a25:List D:=[q1,q4]
def d25:D:=(i 0)
theorem m25:K 62 a25 d25:=kf (kt:=[(81,[(a5,d5)]),(59,[(a7,d7)]),(73,[(a24,d24)])]) ⟨⟨m5,trivial⟩,⟨⟨m7,trivial⟩,⟨⟨m24,trivial⟩,trivial⟩⟩⟩
def a26:List D:=[(.str [111,118,101,114])]
def d26:D:=(.tup [(i 0),(i 4)])
theorem m26:K 110 a26 d26:=kf (kt:=[]) trivial
def a27:List D:=[(.iptr [(.str [111,118,101,114]),(i 0)] 0),(i 0)]
def d27:D:=(i 8)
theorem m27:K 156 a27 d27:=kf (kt:=[]) trivial
def a28:List D:=[(.iptr [(.str [111,118,101,114]),(i 1)] 0),(i 1)]
def d28:D:=(i 8)
theorem m28:K 156 a28 d28:=kf (kt:=[]) trivial
def a29:List D:=[(.iptr [(.str [111,118,101,114]),(i 2)] 0),(i 2)]
def d29:D:=(i 8)
theorem m29:K 156 a29 d29:=kf (kt:=[]) trivial
def a30:List D:=[(.iptr [(.str [111,118,101,114]),(i 3)] 0),(i 3)]
def d30:D:=(i 8)
theorem m30:K 156 a30 d30:=kf (kt:=[]) trivial
def a31:List D:=[(.agg [(i 1),(i 0),(i 0),(i 0),(.str [111,118,101,114])])]
def d31:D:=(i 0)
theorem m31:K 111 a31 d31:=kf (kt:=[(156,[(a27,d27),(a28,d28),(a29,d29),(a30,d30)])]) ⟨⟨m27,⟨m28,⟨m29,⟨m30,trivial⟩⟩⟩⟩,trivial⟩
def a32:List D:=[(.str [120])]
def d32:D:=(.tup [(i 0),(i 4)])
theorem m32:K 110 a32 d32:=kf (kt:=[]) trivial
def a33:List D:=[(.iptr [(.str [120]),(i 0)] 0),(i 0)]
def d33:D:=(i 8)
theorem m33:K 156 a33 d33:=kf (kt:=[]) trivial
def a34:List D:=[(.agg [(i 1),(i 0),(i 0),(i 0),(.str [120])])]
def d34:D:=(i 0)
theorem m34:K 111 a34 d34:=kf (kt:=[(156,[(a33,d33)])]) ⟨⟨m33,trivial⟩,trivial⟩
def a35:List D:=[(.str [121])]
def d35:D:=(.tup [(i 0),(i 4)])
theorem m35:K 110 a35 d35:=kf (kt:=[]) trivial
def a36:List D:=[(.iptr [(.str [121]),(i 0)] 0),(i 0)]
def d36:D:=(i 8)
theorem m36:K 156 a36 d36:=kf (kt:=[]) trivial
def a37:List D:=[(.agg [(i 1),(i 0),(i 0),(i 0),(.str [121])])]
def d37:D:=(i 0)
theorem m37:K 111 a37 d37:=kf (kt:=[(156,[(a36,d36)])]) ⟨⟨m36,trivial⟩,trivial⟩
def a38:List D:=[(i 27)]
def d38:D:=(.tup [(i 2),(i 0)])
theorem m38:K 163 a38 d38:=kf (kt:=[]) trivial
def a39:List D:=[(.agg [(i 5),(i 27),(i 2),(.str []),(.str []),(i 0),(i 0)])]
def d39:D:=(i 0)
theorem m39:K 119 a39 d39:=kf (kt:=[(163,[(a38,d38)])]) ⟨⟨m38,trivial⟩,trivial⟩
def a40:List D:=[(.agg [(i 4),(i 0),(i 0),(.str [120]),(.str []),(i 0),(i 0)])]
def d40:D:=(i 0)
theorem m40:K 119 a40 d40:=kf (kt:=[(110,[(a32,d32)]),(111,[(a34,d34)])]) ⟨⟨m32,trivial⟩,⟨⟨m34,trivial⟩,trivial⟩⟩
def a41:List D:=[(.agg [(i 4),(i 0),(i 0),(.str [121]),(.str []),(i 0),(i 0)])]
def d41:D:=(i 0)
theorem m41:K 119 a41 d41:=kf (kt:=[(110,[(a35,d35)]),(111,[(a37,d37)])]) ⟨⟨m35,trivial⟩,⟨⟨m37,trivial⟩,trivial⟩⟩
def a42:List D:=[(.sl true 3 [(i 5),(i 27),(i 2),(.str []),(.str []),(i 0),(i 0),(i 4),(i 0),(i 0),(.str [120]),(.str []),(i 0),(i 0),(i 4),(i 0),(i 0),(.str [121]),(.str []),(i 0),(i 0)])]
def d42:D:=(.tup [(i 0),(i 0)])
theorem m42:K 42 a42 d42:=kf (kt:=[(119,[(a39,d39),(a40,d40),(a41,d41)])]) ⟨⟨m39,⟨m40,⟨m41,trivial⟩⟩⟩,trivial⟩
def a43:List D:=[(.agg [(.sl true 3 [(.str [108,111,119]),(.str [115,116,97,102,102]),(.str [104,105,103,104])]),(.sl true 3 [(.int .u8 7),(.int .u8 6),(.int .u8 4)]),(.sl true 2 [(.str [109,97,114,107,115]),(i 1),(i 1),(i 1),(i 0),(i 2),(.str [108,105,109,105,116]),(i 1),(i 0),(i 0),(i 0),(i 0)]),(.sl true 1 [(.str [111,118,101,114]),(.sl true 2 [(.str [120]),(.str [121])]),(.sl true 3 [(i 5),(i 27),(i 2),(.str []),(.str []),(i 0),(i 0),(i 4),(i 0),(i 0),(.str [120]),(.str []),(i 0),(i 0),(i 4),(i 0),(i 0),(.str [121]),(.str []),(i 0),(i 0)])])])]
def d43:D:=(i 0)
theorem m43:K 22 a43 d43:=kf (kt:=[(59,[(a7,d7)]),(110,[(a8,d8),(a17,d17),(a26,d26),(a32,d32),(a35,d35)]),(111,[(a14,d14),(a23,d23),(a31,d31),(a34,d34),(a37,d37)]),(62,[(a16,d16),(a25,d25)]),(42,[(a42,d42)])]) ⟨⟨m7,trivial⟩,⟨⟨m8,⟨m17,⟨m26,⟨m32,⟨m35,trivial⟩⟩⟩⟩⟩,⟨⟨m14,⟨m23,⟨m31,⟨m34,⟨m37,trivial⟩⟩⟩⟩⟩,⟨⟨m16,⟨m25,trivial⟩⟩,⟨⟨m42,trivial⟩,trivial⟩⟩⟩⟩⟩
def a44:List D:=[(i 12)]
def d44:D:=(.tup [(i 1),(i 0)])
theorem m44:K 163 a44 d44:=kf (kt:=[]) trivial
def a45:List D:=[(.agg [(i 5),(i 12),(i 1),(.str []),(.str []),(i 0),(i 0)])]
def d45:D:=(i 0)
theorem m45:K 119 a45 d45:=kf (kt:=[(163,[(a44,d44)])]) ⟨⟨m44,trivial⟩,trivial⟩
def a46:List D:=[(.agg [(i 4),(i 0),(i 0),(.str [109,97,114,107,115]),(.str []),(i 0),(i 0)])]
def d46:D:=(i 0)
theorem m46:K 119 a46 d46:=kf (kt:=[(110,[(a8,d8)]),(111,[(a14,d14)])]) ⟨⟨m8,trivial⟩,⟨⟨m14,trivial⟩,trivial⟩⟩
def a47:List D:=[(.sl true 2 [(i 5),(i 12),(i 1),(.str []),(.str []),(i 0),(i 0),(i 4),(i 0),(i 0),(.str [109,97,114,107,115]),(.str []),(i 0),(i 0)])]
def d47:D:=(.tup [(i 0),(i 0)])
theorem m47:K 42 a47 d47:=kf (kt:=[(119,[(a45,d45),(a46,d46)])]) ⟨⟨m45,⟨m46,trivial⟩⟩,trivial⟩
def a48:List D:=[(.str [107,49,105,48]),(.sl false 1 [(i 1)]),(.sl false 1 [(i 1)])]
def d48:D:=q5
theorem m48:K 215 a48 d48:=kf (kt:=[]) trivial
def a49:List D:=[(i 12),(.sl false 1 [(i 1)]),(.sl false 1 [(i 1)])]
def d49:D:=(.tup [(i 1),(i 0),(i 0)])
theorem m49:K 166 a49 d49:=kf (kt:=[(215,[(a48,d48)])]) ⟨⟨m48,trivial⟩,trivial⟩
end Go.Proofs.YtnpoohbeicakkaaGreatDoor
