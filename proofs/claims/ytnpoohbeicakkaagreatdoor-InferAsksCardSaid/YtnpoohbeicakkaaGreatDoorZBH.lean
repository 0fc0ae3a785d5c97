/- Calls that are known. Conditions: none. -/
import Derived.Test.YtnpoohbeicakkaaGreatDoorZBE
set_option linter.unusedVariables false
set_option maxRecDepth 100000
namespace Go.Proofs.YtnpoohbeicakkaaGreatDoor
open Go Zv Zv.Ab
def a50:List D:=[q6,(.sl true 2 [(i 1),(i 0)])]
def d50:D:=(i 1)
theorem m50:K 278 a50 d50:=kf (kt:=[]) trivial
def a51:List D:=[q6,(.sl true 2 [(i 0),(i 0)])]
def d51:D:=(i 0)
theorem m51:K 278 a51 d51:=kf (kt:=[]) trivial
def a52:List D:=[q6]
def d52:D:=(.agg [(i 0),(i 0),(i 1),(i 0),(i 1),(i 0),(i 1)])
theorem m52:K 223 a52 d52:=kf (kt:=[(278,[(a50,d50),(a51,d51)])]) ⟨⟨m50,⟨m51,trivial⟩⟩,trivial⟩
def a53:List D:=[q1,(i 12),q7]
def d53:D:=(.tup [(.agg [(i 1),(i 0),(i 0),(i 0),(i 1),(i 0),(i 1)]),(i 0)])
theorem m53:K 126 a53 d53:=kf (kt:=[(81,[(a5,d5)]),(59,[(a7,d7)]),(62,[(a16,d16)]),(166,[(a49,d49)]),(223,[(a52,d52)])]) ⟨⟨m5,trivial⟩,⟨⟨m7,trivial⟩,⟨⟨m16,trivial⟩,⟨⟨m49,trivial⟩,⟨⟨m52,trivial⟩,trivial⟩⟩⟩⟩⟩
def a54:List D:=[q2,q8]
def d54:D:=(i 0)
theorem m54:K 73 a54 d54:=kf (kt:=[]) trivial
def a55:List D:=[q1,q8]
def d55:D:=(i 0)
theorem m55:K 62 a55 d55:=kf (kt:=[(81,[(a5,d5)]),(59,[(a7,d7)]),(73,[(a54,d54)])]) ⟨⟨m5,trivial⟩,⟨⟨m7,trivial⟩,⟨⟨m54,trivial⟩,trivial⟩⟩⟩
def a56:List D:=[q1,(i 0),(.agg [(i 1),(i 0),(i 0),(i 0),(i 1),(i 0),(i 1)])]
def d56:D:=(.tup [(i 1),(i 0)])
theorem m56:K 127 a56 d56:=kf (kt:=[(62,[(a55,d55)])]) ⟨⟨m55,trivial⟩,trivial⟩
def a57:List D:=[(.agg [(i 4),(i 0),(i 0),(.str [108,105,109,105,116]),(.str []),(i 0),(i 0)])]
def d57:D:=(i 0)
theorem m57:K 119 a57 d57:=kf (kt:=[(110,[(a17,d17)]),(111,[(a23,d23)])]) ⟨⟨m17,trivial⟩,⟨⟨m23,trivial⟩,trivial⟩⟩
def a58:List D:=[(.sl true 3 [(i 5),(i 27),(i 2),(.str []),(.str []),(i 0),(i 0),(i 4),(i 0),(i 0),(.str [109,97,114,107,115]),(.str []),(i 0),(i 0),(i 4),(i 0),(i 0),(.str [108,105,109,105,116]),(.str []),(i 0),(i 0)])]
def d58:D:=(.tup [(i 0),(i 0)])
theorem m58:K 42 a58 d58:=kf (kt:=[(119,[(a39,d39),(a46,d46),(a57,d57)])]) ⟨⟨m39,⟨m46,⟨m57,trivial⟩⟩⟩,trivial⟩
def a59:List D:=[(.str [105,48,105,110,105,110]),(.sl false 2 [(i 1),(i 1)]),(.sl false 2 [(i 1),(i 0)])]
def d59:D:=(.tup [(i 1),(i 0),bT,bF])
theorem m59:K 215 a59 d59:=kf (kt:=[]) trivial
def a60:List D:=[(.str [105,110,105,48,105,110]),(.sl false 2 [(i 1),(i 1)]),(.sl false 2 [(i 1),(i 0)])]
def d60:D:=q9
theorem m60:K 215 a60 d60:=kf (kt:=[]) trivial
def a61:List D:=[(i 27),(.sl false 2 [(i 1),(i 1)]),(.sl false 2 [(i 1),(i 0)])]
def d61:D:=(.tup [(i 1),(i 1),(i 0)])
theorem m61:K 166 a61 d61:=kf (kt:=[(215,[(a59,d59),(a60,d60)])]) ⟨⟨m59,⟨m60,trivial⟩⟩,trivial⟩
def a62:List D:=[q10,(.sl true 2 [(i 1),(i 0)])]
def d62:D:=(i 1)
theorem m62:K 278 a62 d62:=kf (kt:=[]) trivial
def a63:List D:=[q10,(.sl true 2 [(i 0),(i 0)])]
def d63:D:=(i 0)
theorem m63:K 278 a63 d63:=kf (kt:=[]) trivial
def a64:List D:=[q10,(.sl true 2 [(i 2),(i 0)])]
def d64:D:=(i 2)
theorem m64:K 278 a64 d64:=kf (kt:=[]) trivial
def a65:List D:=[q10]
def d65:D:=(.agg [(i 0),(i 0),(i 1),(i 0),(i 2),(i 0),(i 1)])
theorem m65:K 229 a65 d65:=kf (kt:=[(278,[(a62,d62),(a63,d63),(a64,d64)])]) ⟨⟨m62,⟨m63,⟨m64,trivial⟩⟩⟩,trivial⟩
def a66:List D:=[q1,(i 27),(.sl false 2 [(i 1),(i 1),(i 1),(i 0),(i 2),(i 1),(i 0),(i 0),(i 0),(i 0)])]
def d66:D:=(.tup [(.agg [(i 1),(i 1),(i 1),(i 0),(i 2),(i 0),(i 1)]),(i 0)])
theorem m66:K 126 a66 d66:=kf (kt:=[(81,[(a5,d5)]),(59,[(a7,d7)]),(62,[(a16,d16),(a25,d25)]),(166,[(a61,d61)]),(229,[(a65,d65)])]) ⟨⟨m5,trivial⟩,⟨⟨m7,trivial⟩,⟨⟨m16,⟨m25,trivial⟩⟩,⟨⟨m61,trivial⟩,⟨⟨m65,trivial⟩,trivial⟩⟩⟩⟩⟩
def a67:List D:=[q1,(i 0),(.agg [(i 1),(i 1),(i 1),(i 0),(i 2),(i 0),(i 1)])]
def d67:D:=(.tup [(i 1),(i 0)])
theorem m67:K 127 a67 d67:=kf (kt:=[(62,[(a16,d16)])]) ⟨⟨m16,trivial⟩,trivial⟩
def a68:List D:=[(.agg [(i 6),(i 0),(i 2),(.str [111,118,101,114]),(.str []),(i 0),(i 0)])]
def d68:D:=(i 0)
theorem m68:K 119 a68 d68:=kf (kt:=[(110,[(a26,d26)]),(111,[(a31,d31)])]) ⟨⟨m26,trivial⟩,⟨⟨m31,trivial⟩,trivial⟩⟩
def a69:List D:=[(.sl true 3 [(i 6),(i 0),(i 2),(.str [111,118,101,114]),(.str []),(i 0),(i 0),(i 4),(i 0),(i 0),(.str [109,97,114,107,115]),(.str []),(i 0),(i 0),(i 4),(i 0),(i 0),(.str [108,105,109,105,116]),(.str []),(i 0),(i 0)])]
def d69:D:=(.tup [(i 0),(i 0)])
theorem m69:K 42 a69 d69:=kf (kt:=[(119,[(a46,d46),(a57,d57),(a68,d68)])]) ⟨⟨m46,⟨m57,⟨m68,trivial⟩⟩⟩,trivial⟩
def a70:List D:=[(i 9)]
def d70:D:=(.tup [(i 1),(i 0)])
theorem m70:K 163 a70 d70:=kf (kt:=[]) trivial
def a71:List D:=[(.agg [(i 5),(i 9),(i 1),(.str []),(.str []),(i 0),(i 0)])]
def d71:D:=(i 0)
theorem m71:K 119 a71 d71:=kf (kt:=[(163,[(a70,d70)])]) ⟨⟨m70,trivial⟩,trivial⟩
def a72:List D:=[(.sl true 2 [(i 5),(i 9),(i 1),(.str []),(.str []),(i 0),(i 0),(i 4),(i 0),(i 0),(.str [109,97,114,107,115]),(.str []),(i 0),(i 0)])]
def d72:D:=(.tup [(i 0),(i 0)])
theorem m72:K 42 a72 d72:=kf (kt:=[(119,[(a46,d46),(a71,d71)])]) ⟨⟨m46,⟨m71,trivial⟩⟩,trivial⟩
def a73:List D:=[(.str [105,49,105,48]),(.sl false 1 [(i 1)]),(.sl false 1 [(i 1)])]
def d73:D:=q5
theorem m73:K 215 a73 d73:=kf (kt:=[]) trivial
def a74:List D:=[(i 9),(.sl false 1 [(i 1)]),(.sl false 1 [(i 1)])]
def d74:D:=(.tup [(i 1),(i 0),(i 0)])
theorem m74:K 166 a74 d74:=kf (kt:=[(215,[(a73,d73)])]) ⟨⟨m73,trivial⟩,trivial⟩
def a75:List D:=[q6,(.sl true 2 [(i 2),(i 0)])]
def d75:D:=(i 2)
theorem m75:K 278 a75 d75:=kf (kt:=[]) trivial
def a76:List D:=[q6]
def d76:D:=(.agg [(i 0),(i 0),(i 1),(i 0),(i 2),(i 2),(i 1)])
theorem m76:K 216 a76 d76:=kf (kt:=[(278,[(a50,d50),(a51,d51),(a75,d75)])]) ⟨⟨m50,⟨m51,⟨m75,trivial⟩⟩⟩,trivial⟩
def a77:List D:=[q1,(i 9),q7]
def d77:D:=(.tup [(.agg [(i 1),(i 0),(i 0),(i 0),(i 2),(i 2),(i 1)]),(i 0)])
theorem m77:K 126 a77 d77:=kf (kt:=[(81,[(a5,d5)]),(59,[(a7,d7)]),(62,[(a16,d16)]),(166,[(a74,d74)]),(216,[(a76,d76)])]) ⟨⟨m5,trivial⟩,⟨⟨m7,trivial⟩,⟨⟨m16,trivial⟩,⟨⟨m74,trivial⟩,⟨⟨m76,trivial⟩,trivial⟩⟩⟩⟩⟩
def a78:List D:=[q2,q11]
def d78:D:=(i 0)
theorem m78:K 73 a78 d78:=kf (kt:=[]) trivial
def a79:List D:=[q1,q11]
def d79:D:=(i 0)
theorem m79:K 62 a79 d79:=kf (kt:=[(81,[(a5,d5)]),(59,[(a7,d7)]),(73,[(a78,d78)])]) ⟨⟨m5,trivial⟩,⟨⟨m7,trivial⟩,⟨⟨m78,trivial⟩,trivial⟩⟩⟩
def a80:List D:=[q1,(i 0),(.agg [(i 1),(i 0),(i 0),(i 0),(i 2),(i 2),(i 1)])]
def d80:D:=(.tup [(i 2),(i 0)])
theorem m80:K 127 a80 d80:=kf (kt:=[(62,[(a79,d79)])]) ⟨⟨m79,trivial⟩,trivial⟩
def a81:List D:=[(i 15)]
def d81:D:=(.tup [(i 2),(i 0)])
theorem m81:K 163 a81 d81:=kf (kt:=[]) trivial
def a82:List D:=[(.agg [(i 5),(i 15),(i 2),(.str []),(.str []),(i 0),(i 0)])]
def d82:D:=(i 0)
theorem m82:K 119 a82 d82:=kf (kt:=[(163,[(a81,d81)])]) ⟨⟨m81,trivial⟩,trivial⟩
def a83:List D:=[(.sl true 3 [(i 5),(i 15),(i 2),(.str []),(.str []),(i 0),(i 0),(i 4),(i 0),(i 0),(.str [109,97,114,107,115]),(.str []),(i 0),(i 0),(i 4),(i 0),(i 0),(.str [109,97,114,107,115]),(.str []),(i 0),(i 0)])]
def d83:D:=(.tup [(i 0),(i 0)])
theorem m83:K 42 a83 d83:=kf (kt:=[(119,[(a46,d46),(a82,d82)])]) ⟨⟨m46,⟨m82,trivial⟩⟩,trivial⟩
def a84:List D:=[(.str [105,48,105,110,105,110]),(.sl false 2 [(i 1),(i 1)]),(.sl false 2 [(i 1),(i 1)])]
def d84:D:=q12
theorem m84:K 215 a84 d84:=kf (kt:=[]) trivial
def a85:List D:=[(.str [105,110,105,48,105,110]),(.sl false 2 [(i 1),(i 1)]),(.sl false 2 [(i 1),(i 1)])]
def d85:D:=q12
theorem m85:K 215 a85 d85:=kf (kt:=[]) trivial
def a86:List D:=[(.str [105,110,105,110,105,110]),(.sl false 2 [(i 1),(i 1)]),(.sl false 2 [(i 1),(i 1)])]
def d86:D:=q9
theorem m86:K 215 a86 d86:=kf (kt:=[]) trivial
def a87:List D:=[(i 15),(.sl false 2 [(i 1),(i 1)]),(.sl false 2 [(i 1),(i 1)])]
def d87:D:=(.tup [(i 1),(i 1),(i 0)])
theorem m87:K 166 a87 d87:=kf (kt:=[(215,[(a84,d84),(a85,d85),(a86,d86)])]) ⟨⟨m84,⟨m85,⟨m86,trivial⟩⟩⟩,trivial⟩
def a88:List D:=[q13,(.sl true 2 [(i 1),(i 1)])]
def d88:D:=(i 1)
theorem m88:K 278 a88 d88:=kf (kt:=[]) trivial
def a89:List D:=[q13,(.sl true 2 [(i 0),(i 0)])]
def d89:D:=(i 0)
theorem m89:K 278 a89 d89:=kf (kt:=[]) trivial
def a90:List D:=[q13,(.sl true 2 [(i 2),(i 2)])]
def d90:D:=(i 2)
theorem m90:K 278 a90 d90:=kf (kt:=[]) trivial
def a91:List D:=[q13,(.sl true 2 [(i 1),(i 0)])]
def d91:D:=(i 1)
theorem m91:K 278 a91 d91:=kf (kt:=[]) trivial
def a92:List D:=[q13]
def d92:D:=(.agg [(i 0),(i 0),(i 1),(i 0),(i 2),(i 1),(i 1)])
theorem m92:K 229 a92 d92:=kf (kt:=[(278,[(a88,d88),(a89,d89),(a90,d90),(a91,d91)])]) ⟨⟨m88,⟨m89,⟨m90,⟨m91,trivial⟩⟩⟩⟩,trivial⟩
def a93:List D:=[q1,(i 15),(.sl false 2 [(i 1),(i 1),(i 1),(i 0),(i 2),(i 1),(i 1),(i 1),(i 0),(i 2)])]
def d93:D:=(.tup [(.agg [(i 1),(i 1),(i 1),(i 0),(i 2),(i 2),(i 1)]),(i 0)])
theorem m93:K 126 a93 d93:=kf (kt:=[(81,[(a5,d5)]),(59,[(a7,d7)]),(62,[(a16,d16)]),(166,[(a87,d87)]),(278,[(a90,d90)]),(229,[(a92,d92)])]) ⟨⟨m5,trivial⟩,⟨⟨m7,trivial⟩,⟨⟨m16,trivial⟩,⟨⟨m87,trivial⟩,⟨⟨m90,trivial⟩,⟨⟨m92,trivial⟩,trivial⟩⟩⟩⟩⟩⟩
def a94:List D:=[q1,(i 0),(.agg [(i 1),(i 1),(i 1),(i 0),(i 2),(i 2),(i 1)])]
def d94:D:=(.tup [(i 2),(i 0)])
theorem m94:K 127 a94 d94:=kf (kt:=[(62,[(a16,d16)])]) ⟨⟨m16,trivial⟩,trivial⟩
def a95:List D:=[(.str [109,105,115,115,105,110,103])]
def d95:D:=(.tup [(i 0),(i 4)])
theorem m95:K 110 a95 d95:=kf (kt:=[]) trivial
def a96:List D:=[(.iptr [(.str [109,105,115,115,105,110,103]),(i 0)] 0),(i 0)]
def d96:D:=(i 8)
theorem m96:K 156 a96 d96:=kf (kt:=[]) trivial
def a97:List D:=[(.iptr [(.str [109,105,115,115,105,110,103]),(i 1)] 0),(i 1)]
def d97:D:=(i 8)
theorem m97:K 156 a97 d97:=kf (kt:=[]) trivial
def a98:List D:=[(.iptr [(.str [109,105,115,115,105,110,103]),(i 2)] 0),(i 2)]
def d98:D:=(i 8)
theorem m98:K 156 a98 d98:=kf (kt:=[]) trivial
def a99:List D:=[(.iptr [(.str [109,105,115,115,105,110,103]),(i 3)] 0),(i 3)]
def d99:D:=(i 8)
theorem m99:K 156 a99 d99:=kf (kt:=[]) trivial
def a100:List D:=[(.iptr [(.str [109,105,115,115,105,110,103]),(i 4)] 0),(i 4)]
def d100:D:=(i 8)
theorem m100:K 156 a100 d100:=kf (kt:=[]) trivial
def a101:List D:=[(.iptr [(.str [109,105,115,115,105,110,103]),(i 5)] 0),(i 5)]
def d101:D:=(i 8)
theorem m101:K 156 a101 d101:=kf (kt:=[]) trivial
def a102:List D:=[(.iptr [(.str [109,105,115,115,105,110,103]),(i 6)] 0),(i 6)]
def d102:D:=(i 8)
theorem m102:K 156 a102 d102:=kf (kt:=[]) trivial
def a103:List D:=[(.agg [(i 1),(i 0),(i 0),(i 0),(.str [109,105,115,115,105,110,103])])]
def d103:D:=(i 0)
theorem m103:K 111 a103 d103:=kf (kt:=[(156,[(a96,d96),(a97,d97),(a98,d98),(a99,d99),(a100,d100),(a101,d101),(a102,d102)])]) ⟨⟨m96,⟨m97,⟨m98,⟨m99,⟨m100,⟨m101,⟨m102,trivial⟩⟩⟩⟩⟩⟩⟩,trivial⟩
def a104:List D:=[(.agg [(i 4),(i 0),(i 0),(.str [109,105,115,115,105,110,103]),(.str []),(i 0),(i 0)])]
def d104:D:=(i 0)
theorem m104:K 119 a104 d104:=kf (kt:=[(110,[(a95,d95)]),(111,[(a103,d103)])]) ⟨⟨m95,trivial⟩,⟨⟨m103,trivial⟩,trivial⟩⟩
def a105:List D:=[(.sl true 1 [(i 4),(i 0),(i 0),(.str [109,105,115,115,105,110,103]),(.str []),(i 0),(i 0)])]
def d105:D:=(.tup [(i 0),(i 0)])
theorem m105:K 42 a105 d105:=kf (kt:=[(119,[(a104,d104)])]) ⟨⟨m104,trivial⟩,trivial⟩
def a106:List D:=[]
def d106:D:=bT
theorem m106:K 12 a106 d106:=kf (kt:=[(81,[(a5,d5)]),(59,[(a7,d7)]),(119,[(a39,d39),(a40,d40),(a41,d41),(a45,d45),(a46,d46),(a57,d57),(a68,d68),(a71,d71),(a82,d82),(a104,d104)]),(22,[(a43,d43)]),(42,[(a47,d47),(a58,d58),(a69,d69),(a72,d72),(a83,d83),(a105,d105)]),(126,[(a53,d53),(a66,d66),(a77,d77),(a93,d93)]),(127,[(a56,d56),(a67,d67),(a80,d80),(a94,d94)])]) ⟨⟨m5,trivial⟩,⟨⟨m7,trivial⟩,⟨⟨m39,⟨m40,⟨m41,⟨m45,⟨m46,⟨m57,⟨m68,⟨m71,⟨m82,⟨m104,trivial⟩⟩⟩⟩⟩⟩⟩⟩⟩⟩,⟨⟨m43,trivial⟩,⟨⟨m47,⟨m58,⟨m69,⟨m72,⟨m83,⟨m105,trivial⟩⟩⟩⟩⟩⟩,⟨⟨m53,⟨m66,⟨m77,⟨m93,trivial⟩⟩⟩⟩,⟨⟨m56,⟨m67,⟨m80,⟨m94,trivial⟩⟩⟩⟩,trivial⟩⟩⟩⟩⟩⟩⟩
end Go.Proofs.YtnpoohbeicakkaaGreatDoor
