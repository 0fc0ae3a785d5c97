/- Calls that are known. Conditions: none. -/
import Derived.Test.YtoefcncofakjkaaGreatDoorCA
import Derived.Test.YtoefcncofakjkaaGreatDoorFA
set_option linter.unusedVariables false
set_option maxRecDepth 100000
namespace Go.Proofs.YtoefcncofakjkaaGreatDoor
open Go Zv Zv.Ab
def a68:List D:=[q5,(.agg [(i 2),(.str []),q63,(.str []),(.str []),(.str []),(i 0),(i 0),q16,(i 0)]),(i 0),q21]
def d68:D:=(i 0)
theorem m68:K 78 a68 d68:=kf (kt:=[(45,[(a67,d67)])]) ⟨⟨m67,trivial⟩,trivial⟩ (by kernel_rfl) (by kernel_rfl) rfl
def a69:List D:=[(.iptr [q58,(i 0)] 0),(i 0)]
def d69:D:=(i 8)
theorem m69:K 89 a69 d69:=kf (kt:=[]) trivial (by kernel_rfl) (by kernel_rfl) rfl
def a70:List D:=[(.iptr [q58,(i 1)] 0),(i 1)]
def d70:D:=(i 8)
theorem m70:K 89 a70 d70:=kf (kt:=[]) trivial (by kernel_rfl) (by kernel_rfl) rfl
def a71:List D:=[(.iptr [q58,(i 2)] 0),(i 2)]
def d71:D:=(i 8)
theorem m71:K 89 a71 d71:=kf (kt:=[]) trivial (by kernel_rfl) (by kernel_rfl) rfl
def a72:List D:=[(.iptr [q58,(i 3)] 0),(i 3)]
def d72:D:=(i 8)
theorem m72:K 89 a72 d72:=kf (kt:=[]) trivial (by kernel_rfl) (by kernel_rfl) rfl
def a73:List D:=[(.iptr [q58,(i 4)] 0),(i 4)]
def d73:D:=(i 8)
theorem m73:K 89 a73 d73:=kf (kt:=[]) trivial (by kernel_rfl) (by kernel_rfl) rfl
def a74:List D:=[(.iptr [q58,(i 5)] 0),(i 5)]
def d74:D:=(i 8)
theorem m74:K 89 a74 d74:=kf (kt:=[]) trivial (by kernel_rfl) (by kernel_rfl) rfl
def a75:List D:=[(.agg [(i 1),(i 0),(i 0),(i 0),q58])]
def d75:D:=(i 0)
theorem m75:K 57 a75 d75:=kf (kt:=[(89,[(a69,d69),(a70,d70),(a71,d71),(a72,d72),(a73,d73),(a74,d74)])]) ⟨⟨m69,⟨m70,⟨m71,⟨m72,⟨m73,⟨m74,trivial⟩⟩⟩⟩⟩⟩,trivial⟩ (by kernel_rfl) (by kernel_rfl) rfl
def a76:List D:=[(.agg [.nils,.nils,q10])]
def d76:D:=q43
theorem m76:K 41 a76 d76:=kf (kt:=[(183,[(a55,d55)]),(187,[(a56,d56)]),(57,[(a75,d75)])]) ⟨⟨m55,trivial⟩,⟨⟨m56,trivial⟩,⟨⟨m75,trivial⟩,trivial⟩⟩⟩ (by kernel_rfl) (by kernel_rfl) rfl
def a77:List D:=[q4,(i 0),q31]
def d77:D:=(i 1)
theorem m77:K 45 a77 d77:=kf (kt:=[]) trivial (by kernel_rfl) (by kernel_rfl) rfl
def a78:List D:=[q4,(.agg [(i 2),(.str []),q58,(.str []),(.str []),(.str []),(i 0),(i 0),q16,(i 0)]),(i 0),q21]
def d78:D:=(i 25)
theorem m78:K 78 a78 d78:=kf (kt:=[(45,[(a77,d77)])]) ⟨⟨m77,trivial⟩,trivial⟩ (by kernel_rfl) (by kernel_rfl) rfl
def a79:List D:=[(i 9)]
def d79:D:=q55
theorem m79:K 167 a79 d79:=kf (kt:=[]) trivial (by kernel_rfl) (by kernel_rfl) rfl
def a80:List D:=[(.agg [(i 5),(i 9),(i 1),(.str []),(.str []),(i 0),(i 0)])]
def d80:D:=(i 0)
theorem m80:K 95 a80 d80:=kf (kt:=[(167,[(a79,d79)])]) ⟨⟨m79,trivial⟩,trivial⟩ (by kernel_rfl) (by kernel_rfl) rfl
def a81:List D:=[q17]
def d81:D:=q57
theorem m81:K 34 a81 d81:=kf (kt:=[(95,[(a53,d53),(a80,d80)])]) ⟨⟨m53,⟨m80,trivial⟩⟩,trivial⟩ (by kernel_rfl) (by kernel_rfl) rfl
def a82:List D:=[q17,.nils]
def d82:D:=q57
theorem m82:K 183 a82 d82:=kf (kt:=[(34,[(a81,d81)])]) ⟨⟨m81,trivial⟩,trivial⟩ (by kernel_rfl) (by kernel_rfl) rfl
def a83:List D:=[(.agg [(i 1),(i 0),(i 0),(.str []),(.str []),(i 50),(i 0)])]
def d83:D:=(i 0)
theorem m83:K 95 a83 d83:=kf (kt:=[]) trivial (by kernel_rfl) (by kernel_rfl) rfl
def a84:List D:=[q27]
def d84:D:=q57
theorem m84:K 34 a84 d84:=kf (kt:=[(95,[(a83,d83)])]) ⟨⟨m83,trivial⟩,trivial⟩ (by kernel_rfl) (by kernel_rfl) rfl
def a85:List D:=[q27,.nils]
def d85:D:=q57
theorem m85:K 183 a85 d85:=kf (kt:=[(34,[(a84,d84)])]) ⟨⟨m84,trivial⟩,trivial⟩ (by kernel_rfl) (by kernel_rfl) rfl
def a86:List D:=[(.agg [.nils,.nils,q6])]
def d86:D:=q43
theorem m86:K 41 a86 d86:=kf (kt:=[(56,[(a26,d26)]),(57,[(a31,d31),(a50,d50)]),(187,[(a56,d56)]),(183,[(a82,d82),(a85,d85)])]) ⟨⟨m26,trivial⟩,⟨⟨m31,⟨m50,trivial⟩⟩,⟨⟨m56,trivial⟩,⟨⟨m82,⟨m85,trivial⟩⟩,trivial⟩⟩⟩⟩ (by kernel_rfl) (by kernel_rfl) rfl
def a87:List D:=[(.str [105,49,105,48]),q64,q64]
def d87:D:=q37
theorem m87:K 292 a87 d87:=kf (kt:=[]) trivial (by kernel_rfl) (by kernel_rfl) rfl
def a88:List D:=[(i 9),q64,q64]
def d88:D:=q42
theorem m88:K 262 a88 d88:=kf (kt:=[(292,[(a87,d87)])]) ⟨⟨m87,trivial⟩,trivial⟩ (by kernel_rfl) (by kernel_rfl) rfl
def a89:List D:=[q13,q48]
def d89:D:=(i 2)
theorem m89:K 328 a89 d89:=kf (kt:=[]) trivial (by kernel_rfl) (by kernel_rfl) rfl
end Go.Proofs.YtoefcncofakjkaaGreatDoor
namespace Go.Proofs.YtoefcncofakjkaaGreatDoor
open Go Zv Zv.Ab
def a90:List D:=[q13]
def d90:D:=(.agg [(i 0),(i 0),(i 1),(i 0),(i 2),(i 2),(i 1)])
theorem m90:K 293 a90 d90:=kf (kt:=[(328,[(a60,d60),(a61,d61),(a89,d89)])]) ⟨⟨m60,⟨m61,⟨m89,trivial⟩⟩⟩,trivial⟩ (by kernel_rfl) (by kernel_rfl) rfl
def a91:List D:=[q19,(i 9),q30]
def d91:D:=(.tup [q25,(i 0)])
theorem m91:K 191 a91 d91:=kf (kt:=[(53,[(a5,d5)]),(29,[(a7,d7)]),(33,[(a16,d16)]),(262,[(a88,d88)]),(293,[(a90,d90)])]) ⟨⟨m5,trivial⟩,⟨⟨m7,trivial⟩,⟨⟨m16,trivial⟩,⟨⟨m88,trivial⟩,⟨⟨m90,trivial⟩,trivial⟩⟩⟩⟩⟩ (by kernel_rfl) (by kernel_rfl) rfl
def a92:List D:=[q19,(i 0),q25]
def d92:D:=q54
theorem m92:K 192 a92 d92:=kf (kt:=[(33,[(a33,d33)])]) ⟨⟨m33,trivial⟩,trivial⟩ (by kernel_rfl) (by kernel_rfl) rfl
def a93:List D:=[q1,(i 0),q65]
def d93:D:=(i 2)
theorem m93:K 45 a93 d93:=kf (kt:=[]) trivial (by kernel_rfl) (by kernel_rfl) rfl
def a94:List D:=[q9,q67]
def d94:D:=q28
theorem m94:K 190 a94 d94:=kf (kt:=[]) trivial (by kernel_rfl) (by kernel_rfl) rfl
def a95:List D:=[(.agg [q29,q40,(i 0),(i 0)]),(i 2)]
def d95:D:=(i 2)
theorem m95:K 211 a95 d95:=kf (kt:=[]) trivial (by kernel_rfl) (by kernel_rfl) rfl
def a96:List D:=[q19,q34,(i 0)]
def d96:D:=q28
theorem m96:K 131 a96 d96:=kf (kt:=[(53,[(a5,d5)]),(29,[(a7,d7)]),(59,[(a32,d32)]),(211,[(a95,d95)])]) ⟨⟨m5,trivial⟩,⟨⟨m7,trivial⟩,⟨⟨m32,trivial⟩,⟨⟨m95,trivial⟩,trivial⟩⟩⟩⟩ (by kernel_rfl) (by kernel_rfl) rfl
def a97:List D:=[q19,q34,q34]
def d97:D:=q28
theorem m97:K 212 a97 d97:=kf (kt:=[(53,[(a5,d5)]),(29,[(a7,d7)]),(59,[(a32,d32)])]) ⟨⟨m5,trivial⟩,⟨⟨m7,trivial⟩,⟨⟨m32,trivial⟩,trivial⟩⟩⟩ (by kernel_rfl) (by kernel_rfl) rfl
def a98:List D:=[q1,(.agg [(i 1),q67,(.str []),(.str []),(.str []),(.str []),(i 0),(i 0),q17,(i 0)]),(i 0),(.agg [(i 1),(i 0),(i 0),(i 0),(i 2),(i 2),q46,(i 2)])]
def d98:D:=(i 0)
theorem m98:K 76 a98 d98:=kf (kt:=[(17,[(a42,d42)]),(190,[(a94,d94)]),(131,[(a96,d96)]),(212,[(a97,d97)])]) ⟨⟨m42,trivial⟩,⟨⟨m94,trivial⟩,⟨⟨m96,trivial⟩,⟨⟨m97,trivial⟩,trivial⟩⟩⟩⟩ (by kernel_rfl) (by kernel_rfl) rfl
def a99:List D:=[q0,(i 0),q65]
def d99:D:=(i 2)
theorem m99:K 45 a99 d99:=kf (kt:=[]) trivial (by kernel_rfl) (by kernel_rfl) rfl
def a100:List D:=[q0,(i 1),(.sl true 5 [(i 0),(i 0),(i 0),(i 0),(i 2)])]
def d100:D:=(i 2)
theorem m100:K 45 a100 d100:=kf (kt:=[]) trivial (by kernel_rfl) (by kernel_rfl) rfl
def a101:List D:=[q0,(.agg [(i 2),(.str []),q63,(.str []),(.str []),(.str []),(i 0),(i 0),q27,(i 0)]),(i 0),(.agg [(i 1),(i 0),(i 0),(i 0),(i 0),(i 2),q46,(i 1)])]
def d101:D:=(i 25)
theorem m101:K 78 a101 d101:=kf (kt:=[(45,[(a100,d100)])]) ⟨⟨m100,trivial⟩,trivial⟩ (by kernel_rfl) (by kernel_rfl) rfl
def a102:List D:=[(.iptr [q66,(i 0)] 0),(i 0)]
def d102:D:=(i 8)
theorem m102:K 89 a102 d102:=kf (kt:=[]) trivial (by kernel_rfl) (by kernel_rfl) rfl
def a103:List D:=[(.iptr [q66,(i 1)] 0),(i 1)]
def d103:D:=(i 8)
theorem m103:K 89 a103 d103:=kf (kt:=[]) trivial (by kernel_rfl) (by kernel_rfl) rfl
def a104:List D:=[(.iptr [q66,(i 2)] 0),(i 2)]
def d104:D:=(i 8)
theorem m104:K 89 a104 d104:=kf (kt:=[]) trivial (by kernel_rfl) (by kernel_rfl) rfl
def a105:List D:=[(.iptr [q66,(i 3)] 0),(i 3)]
def d105:D:=(i 8)
theorem m105:K 89 a105 d105:=kf (kt:=[]) trivial (by kernel_rfl) (by kernel_rfl) rfl
def a106:List D:=[(.agg [(i 1),(i 0),(i 0),(i 0),q66])]
def d106:D:=(i 0)
theorem m106:K 57 a106 d106:=kf (kt:=[(89,[(a102,d102),(a103,d103),(a104,d104),(a105,d105)])]) ⟨⟨m102,⟨m103,⟨m104,⟨m105,trivial⟩⟩⟩⟩,trivial⟩ (by kernel_rfl) (by kernel_rfl) rfl
def a107:List D:=[(.iptr [q61,(i 0)] 0),(i 0)]
def d107:D:=(i 8)
theorem m107:K 89 a107 d107:=kf (kt:=[]) trivial (by kernel_rfl) (by kernel_rfl) rfl
def a108:List D:=[(.iptr [q61,(i 1)] 0),(i 1)]
def d108:D:=(i 8)
theorem m108:K 89 a108 d108:=kf (kt:=[]) trivial (by kernel_rfl) (by kernel_rfl) rfl
def a109:List D:=[(.iptr [q61,(i 2)] 0),(i 2)]
def d109:D:=(i 8)
theorem m109:K 89 a109 d109:=kf (kt:=[]) trivial (by kernel_rfl) (by kernel_rfl) rfl
def a110:List D:=[(.iptr [q61,(i 3)] 0),(i 3)]
def d110:D:=(i 8)
theorem m110:K 89 a110 d110:=kf (kt:=[]) trivial (by kernel_rfl) (by kernel_rfl) rfl
def a111:List D:=[(.iptr [q61,(i 4)] 0),(i 4)]
def d111:D:=(i 8)
theorem m111:K 89 a111 d111:=kf (kt:=[]) trivial (by kernel_rfl) (by kernel_rfl) rfl
def a112:List D:=[(.agg [(i 1),(i 0),(i 0),(i 0),q61])]
def d112:D:=(i 0)
theorem m112:K 57 a112 d112:=kf (kt:=[(89,[(a107,d107),(a108,d108),(a109,d109),(a110,d110),(a111,d111)])]) ⟨⟨m107,⟨m108,⟨m109,⟨m110,⟨m111,trivial⟩⟩⟩⟩⟩,trivial⟩ (by kernel_rfl) (by kernel_rfl) rfl
def a113:List D:=[(i 27)]
def d113:D:=q54
theorem m113:K 167 a113 d113:=kf (kt:=[]) trivial (by kernel_rfl) (by kernel_rfl) rfl
def a114:List D:=[(.agg [(i 5),(i 27),(i 2),(.str []),(.str []),(i 0),(i 0)])]
def d114:D:=(i 0)
theorem m114:K 95 a114 d114:=kf (kt:=[(167,[(a113,d113)])]) ⟨⟨m113,trivial⟩,trivial⟩ (by kernel_rfl) (by kernel_rfl) rfl
def a115:List D:=[q14]
def d115:D:=q57
theorem m115:K 34 a115 d115:=kf (kt:=[(95,[(a53,d53),(a83,d83),(a114,d114)])]) ⟨⟨m53,⟨m83,⟨m114,trivial⟩⟩⟩,trivial⟩ (by kernel_rfl) (by kernel_rfl) rfl
def a116:List D:=[q14,.nils]
def d116:D:=q57
theorem m116:K 183 a116 d116:=kf (kt:=[(34,[(a115,d115)])]) ⟨⟨m115,trivial⟩,trivial⟩ (by kernel_rfl) (by kernel_rfl) rfl
def a117:List D:=[(.agg [.nils,.nils,q7])]
def d117:D:=q43
theorem m117:K 41 a117 d117:=kf (kt:=[(56,[(a34,d34)]),(57,[(a39,d39),(a106,d106),(a112,d112)]),(187,[(a56,d56)]),(183,[(a116,d116)])]) ⟨⟨m34,trivial⟩,⟨⟨m39,⟨m106,⟨m112,trivial⟩⟩⟩,⟨⟨m56,trivial⟩,⟨⟨m116,trivial⟩,trivial⟩⟩⟩⟩ (by kernel_rfl) (by kernel_rfl) rfl
def a118:List D:=[(.str [105,48,105,110,105,110]),q44,q45]
def d118:D:=(.tup [(i 1),(i 0),(.bool true),(.bool false)])
theorem m118:K 292 a118 d118:=kf (kt:=[]) trivial (by kernel_rfl) (by kernel_rfl) rfl
def a119:List D:=[(.str [105,110,105,48,105,110]),q44,q45]
def d119:D:=(.tup [(i 1),(i 1),(.bool true),(.bool true)])
theorem m119:K 292 a119 d119:=kf (kt:=[]) trivial (by kernel_rfl) (by kernel_rfl) rfl
def a120:List D:=[(i 27),q44,q45]
def d120:D:=q41
theorem m120:K 262 a120 d120:=kf (kt:=[(292,[(a118,d118),(a119,d119)])]) ⟨⟨m118,⟨m119,trivial⟩⟩,trivial⟩ (by kernel_rfl) (by kernel_rfl) rfl
end Go.Proofs.YtoefcncofakjkaaGreatDoor
namespace Go.Proofs.YtoefcncofakjkaaGreatDoor
open Go Zv Zv.Ab
def a121:List D:=[q12,q50]
def d121:D:=(i 1)
theorem m121:K 328 a121 d121:=kf (kt:=[]) trivial (by kernel_rfl) (by kernel_rfl) rfl
def a122:List D:=[q12,q51]
def d122:D:=(i 0)
theorem m122:K 328 a122 d122:=kf (kt:=[]) trivial (by kernel_rfl) (by kernel_rfl) rfl
def a123:List D:=[q12,q48]
def d123:D:=(i 2)
theorem m123:K 328 a123 d123:=kf (kt:=[]) trivial (by kernel_rfl) (by kernel_rfl) rfl
def a124:List D:=[q12]
def d124:D:=(.agg [(i 0),(i 0),(i 1),(i 0),(i 2),(i 0),(i 1)])
theorem m124:K 306 a124 d124:=kf (kt:=[(328,[(a121,d121),(a122,d122),(a123,d123)])]) ⟨⟨m121,⟨m122,⟨m123,trivial⟩⟩⟩,trivial⟩ (by kernel_rfl) (by kernel_rfl) rfl
def a125:List D:=[q19,(i 27),q20]
def d125:D:=(.tup [q24,(i 0)])
theorem m125:K 191 a125 d125:=kf (kt:=[(53,[(a5,d5)]),(29,[(a7,d7)]),(33,[(a16,d16),(a25,d25)]),(262,[(a120,d120)]),(306,[(a124,d124)])]) ⟨⟨m5,trivial⟩,⟨⟨m7,trivial⟩,⟨⟨m16,⟨m25,trivial⟩⟩,⟨⟨m120,trivial⟩,⟨⟨m124,trivial⟩,trivial⟩⟩⟩⟩⟩ (by kernel_rfl) (by kernel_rfl) rfl
def a126:List D:=[q19,(i 0),q24]
def d126:D:=q55
theorem m126:K 192 a126 d126:=kf (kt:=[(33,[(a16,d16)])]) ⟨⟨m16,trivial⟩,trivial⟩ (by kernel_rfl) (by kernel_rfl) rfl
def a127:List D:=[q9,(.fn (.func 261) [] [(.iptr [q68] 0)])]
def d127:D:=(i 3)
theorem m127:K 260 a127 d127:=kf (kt:=[]) trivial (by kernel_rfl) (by kernel_rfl) rfl
def a128:List D:=[q19,q66]
def d128:D:=q54
theorem m128:K 137 a128 d128:=kf (kt:=[(29,[(a7,d7)])]) ⟨⟨m7,trivial⟩,trivial⟩ (by kernel_rfl) (by kernel_rfl) rfl
def a129:List D:=[q19,q61]
def d129:D:=q55
theorem m129:K 137 a129 d129:=kf (kt:=[(29,[(a7,d7)])]) ⟨⟨m7,trivial⟩,trivial⟩ (by kernel_rfl) (by kernel_rfl) rfl
def a130:List D:=[(.sl true 4 [(i 0),(i 0),(i 0),(i 0)]),(.fn (.func 139) [] [])]
def d130:D:=(i (-1))
theorem m130:K 213 a130 d130:=kf (kt:=[]) trivial (by kernel_rfl) (by kernel_rfl) rfl
def a131:List D:=[q2,(i 2),q49]
def d131:D:=(i 2)
theorem m131:K 45 a131 d131:=kf (kt:=[]) trivial (by kernel_rfl) (by kernel_rfl) rfl
def a132:List D:=[q2,(i 1),(.sl true 2 [(i 0),(i 1)])]
def d132:D:=(i 1)
theorem m132:K 45 a132 d132:=kf (kt:=[]) trivial (by kernel_rfl) (by kernel_rfl) rfl
def a133:List D:=[q2,(i 1),(.sl true 1 [(i 1)])]
def d133:D:=(.bool true)
theorem m133:K 135 a133 d133:=kf (kt:=[]) trivial (by kernel_rfl) (by kernel_rfl) rfl
def a134:List D:=[q2,(.agg [(i 5),q68,(.str []),q60,q66,q61,(i 0),(i 0),q14,(i 0)]),(i 0),(.agg [(i 1),(i 1),(i 1),(i 0),(i 2),(i 1),q47,(i 3)])]
def d134:D:=(i 0)
theorem m134:K 82 a134 d134:=kf (kt:=[(17,[(a42,d42)]),(260,[(a127,d127)]),(137,[(a128,d128),(a129,d129)]),(213,[(a130,d130)]),(45,[(a131,d131),(a132,d132)]),(135,[(a133,d133)])]) ⟨⟨m42,trivial⟩,⟨⟨m127,trivial⟩,⟨⟨m128,⟨m129,trivial⟩⟩,⟨⟨m130,trivial⟩,⟨⟨m131,⟨m132,trivial⟩⟩,⟨⟨m133,trivial⟩,trivial⟩⟩⟩⟩⟩⟩ (by kernel_rfl) (by kernel_rfl) rfl
def a135:List D:=[(i 15)]
def d135:D:=q54
theorem m135:K 167 a135 d135:=kf (kt:=[]) trivial (by kernel_rfl) (by kernel_rfl) rfl
def a136:List D:=[(.agg [(i 5),(i 15),(i 2),(.str []),(.str []),(i 0),(i 0)])]
def d136:D:=(i 0)
theorem m136:K 95 a136 d136:=kf (kt:=[(167,[(a135,d135)])]) ⟨⟨m135,trivial⟩,trivial⟩ (by kernel_rfl) (by kernel_rfl) rfl
def a137:List D:=[q15]
def d137:D:=q57
theorem m137:K 34 a137 d137:=kf (kt:=[(95,[(a53,d53),(a83,d83),(a136,d136)])]) ⟨⟨m53,⟨m83,⟨m136,trivial⟩⟩⟩,trivial⟩ (by kernel_rfl) (by kernel_rfl) rfl
def a138:List D:=[q15,.nils]
def d138:D:=q57
theorem m138:K 183 a138 d138:=kf (kt:=[(34,[(a137,d137)])]) ⟨⟨m137,trivial⟩,trivial⟩ (by kernel_rfl) (by kernel_rfl) rfl
def a139:List D:=[(.agg [.nils,.nils,q8])]
def d139:D:=q43
theorem m139:K 41 a139 d139:=kf (kt:=[(56,[(a34,d34)]),(57,[(a39,d39),(a106,d106),(a112,d112)]),(187,[(a56,d56)]),(183,[(a138,d138)])]) ⟨⟨m34,trivial⟩,⟨⟨m39,⟨m106,⟨m112,trivial⟩⟩⟩,⟨⟨m56,trivial⟩,⟨⟨m138,trivial⟩,trivial⟩⟩⟩⟩ (by kernel_rfl) (by kernel_rfl) rfl
def a140:List D:=[(i 15),q44,q45]
def d140:D:=q41
theorem m140:K 262 a140 d140:=kf (kt:=[(292,[(a118,d118),(a119,d119)])]) ⟨⟨m118,⟨m119,trivial⟩⟩,trivial⟩ (by kernel_rfl) (by kernel_rfl) rfl
def a141:List D:=[q19,(i 15),q20]
def d141:D:=(.tup [q23,(i 0)])
theorem m141:K 191 a141 d141:=kf (kt:=[(53,[(a5,d5)]),(29,[(a7,d7)]),(33,[(a16,d16),(a25,d25)]),(328,[(a123,d123)]),(306,[(a124,d124)]),(262,[(a140,d140)])]) ⟨⟨m5,trivial⟩,⟨⟨m7,trivial⟩,⟨⟨m16,⟨m25,trivial⟩⟩,⟨⟨m123,trivial⟩,⟨⟨m124,trivial⟩,⟨⟨m140,trivial⟩,trivial⟩⟩⟩⟩⟩⟩ (by kernel_rfl) (by kernel_rfl) rfl
end Go.Proofs.YtoefcncofakjkaaGreatDoor
namespace Go.Proofs.YtoefcncofakjkaaGreatDoor
open Go Zv Zv.Ab
def a142:List D:=[q19,(i 0),q23]
def d142:D:=q54
theorem m142:K 192 a142 d142:=kf (kt:=[(33,[(a16,d16)])]) ⟨⟨m16,trivial⟩,trivial⟩ (by kernel_rfl) (by kernel_rfl) rfl
def a143:List D:=[q3,(i 0),q65]
def d143:D:=(i 2)
theorem m143:K 45 a143 d143:=kf (kt:=[]) trivial (by kernel_rfl) (by kernel_rfl) rfl
def a144:List D:=[q3,(i 2),q49]
def d144:D:=(i 2)
theorem m144:K 45 a144 d144:=kf (kt:=[]) trivial (by kernel_rfl) (by kernel_rfl) rfl
def a145:List D:=[q3,(i 1),(.sl true 2 [(i 0),(i 2)])]
def d145:D:=(i 2)
theorem m145:K 45 a145 d145:=kf (kt:=[]) trivial (by kernel_rfl) (by kernel_rfl) rfl
def a146:List D:=[q3,(.agg [(i 5),q68,(.str []),q60,q66,q61,(i 0),(i 0),q15,(i 0)]),(i 0),(.agg [(i 1),(i 1),(i 1),(i 0),(i 2),(i 2),q46,(i 3)])]
def d146:D:=(i 25)
theorem m146:K 82 a146 d146:=kf (kt:=[(17,[(a42,d42)]),(260,[(a127,d127)]),(137,[(a128,d128),(a129,d129)]),(213,[(a130,d130)]),(45,[(a144,d144),(a145,d145)])]) ⟨⟨m42,trivial⟩,⟨⟨m127,trivial⟩,⟨⟨m128,⟨m129,trivial⟩⟩,⟨⟨m130,trivial⟩,⟨⟨m144,⟨m145,trivial⟩⟩,trivial⟩⟩⟩⟩⟩ (by kernel_rfl) (by kernel_rfl) rfl
def a147:List D:=[]
def d147:D:=(.bool true)
theorem m147:K 5 a147 d147:=kf (kt:=[(53,[(a5,d5)]),(29,[(a7,d7)]),(17,[(a42,d42)]),(8,[(a44,d44)]),(95,[(a52,d52),(a53,d53),(a80,d80),(a83,d83),(a114,d114),(a136,d136)]),(34,[(a54,d54),(a81,d81),(a84,d84),(a115,d115),(a137,d137)]),(41,[(a57,d57),(a76,d76),(a86,d86),(a117,d117),(a139,d139)]),(191,[(a63,d63),(a91,d91),(a125,d125),(a141,d141)]),(192,[(a66,d66),(a92,d92),(a126,d126),(a142,d142)]),(78,[(a68,d68),(a78,d78),(a101,d101)]),(45,[(a93,d93),(a99,d99),(a143,d143)]),(76,[(a98,d98)]),(82,[(a134,d134),(a146,d146)])]) ⟨⟨m5,trivial⟩,⟨⟨m7,trivial⟩,⟨⟨m42,trivial⟩,⟨⟨m44,trivial⟩,⟨⟨m52,⟨m53,⟨m80,⟨m83,⟨m114,⟨m136,trivial⟩⟩⟩⟩⟩⟩,⟨⟨m54,⟨m81,⟨m84,⟨m115,⟨m137,trivial⟩⟩⟩⟩⟩,⟨⟨m57,⟨m76,⟨m86,⟨m117,⟨m139,trivial⟩⟩⟩⟩⟩,⟨⟨m63,⟨m91,⟨m125,⟨m141,trivial⟩⟩⟩⟩,⟨⟨m66,⟨m92,⟨m126,⟨m142,trivial⟩⟩⟩⟩,⟨⟨m68,⟨m78,⟨m101,trivial⟩⟩⟩,⟨⟨m93,⟨m99,⟨m143,trivial⟩⟩⟩,⟨⟨m98,trivial⟩,⟨⟨m134,⟨m146,trivial⟩⟩,trivial⟩⟩⟩⟩⟩⟩⟩⟩⟩⟩⟩⟩⟩ (by kernel_rfl) (by kernel_rfl) rfl
end Go.Proofs.YtoefcncofakjkaaGreatDoor
