/- Abstract functions. Conditions: none. -/
import Derived.Test.YtnpoohbeicakkaaGreatDoorZAK
import Derived.Test.YtnpoohbeicakkaaGreatDoorZAL
import Derived.Test.YtnpoohbeicakkaaGreatDoorZAM
import Derived.Shelf.GgSortFunc.InsertionK
set_option linter.unusedVariables false
set_option linter.unusedSimpArgs false
set_option maxRecDepth 100000
namespace Zv
open Go Ab
noncomputable section
def A3:AF:=⟨3,B3.b,[(.tmp 6)]⟩
def A7:AF:=⟨3,B7.b,[(.tmp 6)]⟩
def W10:AC:=(s (s (r [c 4 (i 0)]) (.block 4 (.loop (s (s (r [m 26 4,f 27 3 1,l 28 27,o 29 28,b 30 .lss 26 29,m 31 30,my 32 4 31,y 33 31 (.bin .lss (.t 32) (.c (i 30))),p 34 31 33]) (.cond (.t 34) .skip (.exit 4))) (s (.block 6 (s (r [f 37 3 1,l 38 37,m 39 4,j 40 3 38 39,g 41 3 40,u 5 (.new 79 (.c (.agg [(.str []),.nils,.nils]))),w (.st 3 (.t 5) (.t 41))]) (s (s (r [f 42 0 5,l 43 42,u 44 (.len true (.t 43)),d 45 .gtr 44 (i 100),m 46 45,n 47 46 (.fa 1 (.t 5)),n 48 46 (.ld none (.t 47)),n 49 46 (.len false (.t 48)),n 50 46 (.bin .gtr (.t 49) (.c (i 4))),q 51 46 50,m 52 51,n 53 52 (.fa 2 (.t 5)),n 54 52 (.ld none (.t 53)),n 55 52 (.call 11 [(.t 54)]),q 56 52 55]) (.cond (.t 56) (s (r [c 2 bT]) .ret) .skip)) (s (r [c 6 (i 0)]) (.block 8 (.loop (s (s (r [m 57 6,f 58 1 5,l 59 58,o 60 59,b 61 .lss 57 60]) (.cond (.t 61) .skip (.exit 8))) (s (.block 10 (s (r [f 64 1 5,l 65 64,m 66 6,j 67 1 65 66,l 68 67,u 69 (.len true (.t 68)),d 70 .gtr 69 (i 100)]) (.cond (.t 70) (s (r [c 2 bT]) .ret) .skip))) (r [m 62 6,d 63 .add 62 (i 1),m 6 63]))))))))) (r [m 35 4,d 36 .add 35 (i 1),m 4 36])))))) Z10.b)
def B10:AC:=(s (r [k 1 30 0,c 2 bF]) (s (s (r [c 3 (i 0)]) (.block 0 (.loop (s (s (r [m 7 3,f 8 2 1,l 9 8,o 10 9,b 11 .lss 7 10,m 12 11,my 13 3 12,y 14 12 (.bin .lss (.t 13) (.c (i 50))),p 15 12 14]) (.cond (.t 15) .skip (.exit 0))) (s (.block 2 (s (r [f 18 2 1,l 19 18,m 20 3,j 21 6 19 20,f 22 0 21,l 23 22,u 24 (.len true (.t 23)),d 25 .gtr 24 (i 100)]) (.cond (.t 25) (s (r [c 2 bT]) .ret) .skip))) (r [m 16 3,d 17 .add 16 (i 1),m 3 17])))))) W10))
noncomputable def A10:AF:=⟨1,B10,[(.tmp 2)]⟩
def A11:AF:=⟨1,B11.b,[(.tmp 2)]⟩
def B13:AC:=(s Lk1.b (s Lk2.b (s Lk3.b (s Lk4.b (s Lk5.b (s Lk6.b (s Lk7.b (s Lk8.b (s Lk9.b (s Lk10.b (s Lk11.b (s Lk12.b (s Lk13.b (s Lk14.b .ret))))))))))))))
noncomputable def A13:AF:=⟨4,B13,[(.cell 8 (some 8)),(.cell 9 none),(.cell 10 none)]⟩
def A14:AF:=⟨4,B14.b,[(.cell 8 (some 8)),(.tmp 9),(.tmp 10)]⟩
def A15:AF:=⟨2,B15.b,[(.tmp 4)]⟩
def U22:AC:=(s (s (r [f 34 2 1,l 35 34,o 36 35,c 37 (i 0)]) (.block 0 (.loop (s (r [b 38 .lss 37 36]) (s (.cond (.t 38) .skip (.exit 0)) (s (.block 2 (s (r [j 39 6 35 37,g 40 6 39,u 7 (.new 55 (.c (.agg [(.str []),(i 0),(i 0),(i 0),(i 0),(i 0)]))),w (.st 6 (.t 7) (.t 40))]) (s (r [m 41 5,f 42 0 7,l 43 42,u 44 (.callv (.t 41) [(.t 43)])]) (r [f 45 0 1,g 46 2 45,f 47 1 7,g 48 5 47,x 49 62 46 48,u 50 (.call 41 [(.c (i 0)),(.t 49)])])))) (r [d 51 .add 37 (i 1),m 37 51]))))))) W22.b)
def B22:AC:=(s (r [k 1 30 0,u 2 (.new 41 (.c (i 0)))]) (s (r [u 3 (.new 4 (.c (i 0))),w (.st 1 (.t 3) (.c (i 0)))]) (s (r [w (.dfr (.f 40) [(.t 3),(.t 2)])]) (s (r [f 15 0 1,g 16 2 15,v 17 59 16,m 14 17,e 18 0 14,e 19 1 14,w (.st 1 (.t 2) (.t 19))]) (s (r [l 20 2,u 21 (.call 41 [(.c (i 0)),(.t 20)])]) (s (s (r [f 22 2 1,l 23 22,o 24 23,d 25 .gtr 24 (i 32),m 26 25,n 27 26 (.fa 3 (.t 1)),n 28 26 (.ld none (.t 27)),n 29 26 (.len false (.t 28)),n 30 26 (.bin .gtr (.t 29) (.c (i 16))),q 31 26 30]) (.cond (.t 31) (s (r [w (.st 1 (.t 2) (.c (i 3)))]) .ret) .skip)) (s (r [u 32 .mkm,u 4 (.new 107 (.c .nilm)),w (.st 1 (.t 4) (.t 32))]) (s (r [u 33 (.mkfn (.func 60) [] [(.t 4)]),m 5 33]) U22))))))))
noncomputable def A22:AF:=⟨1,B22,[(.cell 2 none)]⟩
def U23:AC:=(s (s (r [c 6 (i 0)]) (.block 0 (.loop (s (s (r [m 33 6,f 34 2 1,l 35 34,o 36 35,b 37 .lss 33 36]) (.cond (.t 37) .skip (.exit 0))) (s (.block 2 (s (r [f 40 2 1,l 41 40,m 42 6,j 43 6 41 42,f 44 0 43,l 45 44,m 46 5,x 47 63 45 46,m 7 47]) (s (s (r [m 48 7,d 49 .eql 48 (i 0)]) (.cond (.t 49) (.reg (some [(0,0),(1,0),(2,0),(3,0),(4,0),(5,0),(6,0),(7,0),(8,0),(9,0)]) [f 50 0 1,g 51 2 50,f 52 2 1,l 53 52,m 54 6,j 55 6 53 54,f 56 1 55,g 57 5 56,x 58 55 51 57,m 7 58]) .skip)) (s (s (r [m 59 7,d 60 .neq 59 (i 0)]) (.cond (.t 60) (s (r [m 61 7,m 2 61]) .ret) .skip)) (r [m 62 5,f 63 2 1,l 64 63,m 65 6,j 66 6 64 65,f 67 0 66,l 68 67,u 69 (.bsl 1 1 [(.str [])] [(0,1,(.t 68))]),u 70 (.app 1 16 10 (.t 62) (.t 69)),m 5 70]))))) (r [m 38 6,d 39 .add 38 (i 1),m 6 39])))))) W23.b)
def B23:AC:=(s (r [k 1 30 0,c 2 (i 0)]) (s (r [f 11 0 1,g 12 2 11,v 13 54 12,m 10 13,e 14 0 10,e 15 1 10,m 3 14,m 4 15]) (s (s (r [m 16 4,d 17 .eql 16 (i 0),m 18 17,y 19 18 (.fa 2 (.t 1)),y 20 18 (.ld none (.t 19)),y 21 18 (.len false (.t 20)),y 22 18 (.bin .gtr (.t 21) (.c (i 32))),my 23 22 18,n 24 23 (.fa 3 (.t 1)),n 25 23 (.ld none (.t 24)),n 26 23 (.len false (.t 25)),n 27 23 (.bin .gtr (.t 26) (.c (i 16))),y 28 18 (.pick (.t 23) (.c bT) (.t 27)),p 29 18 28]) (.cond (.t 29) (r [c 4 (i 3)]) .skip)) (s (s (r [m 30 4,d 31 .neq 30 (i 0)]) (.cond (.t 31) (s (r [m 32 4,m 2 32]) .ret) .skip)) (s (r [c 5 .nils]) U23)))))
noncomputable def A23:AF:=⟨1,B23,[(.tmp 2)]⟩
def A24:AF:=⟨2,B24.b,[(.cell 4 (some 5)),(.tmp 5),(.tmp 6)]⟩
def A25:AF:=⟨2,B25.b,[(.cell 4 (some 5)),(.tmp 5),(.tmp 6)]⟩
def A26:AF:=⟨3,B26.b,[(.tmp 6),(.tmp 7)]⟩
def A27:AF:=⟨3,B27.b,[(.tmp 6),(.tmp 7)]⟩
def A28:AF:=⟨1,B28.b,[(.tmp 2)]⟩
def A33:AF:=⟨2,B33.b,[(.tmp 4)]⟩
def A40:AF:=⟨2,B40.b,[]⟩
def A41:AF:=⟨2,B41.b,[]⟩
def A42:AF:=⟨1,B42.b,[(.tmp 2),(.tmp 3)]⟩
def A43:AF:=⟨1,B43.b,[(.tmp 2),(.tmp 3)]⟩
def B44:AC:=(s (r [u 4 (.new 37 (.c (.agg [(i 0),(i 0),(i 0),(i 0),(i 0)])))]) (s (r [u 13 .mkm,m 14 0,u 15 (.mkfn (.func 83) [(.t 14)] []),w (.mup .int (.t 13) (.c (i 1)) (.t 15)),m 16 0,u 17 (.mkfn (.func 84) [(.t 16)] []),w (.mup .int (.t 13) (.c (i 3)) (.t 17)),m 18 0,u 19 (.mkfn (.func 85) [(.t 18)] []),w (.mup .int (.t 13) (.c (i 2)) (.t 19)),m 20 0,u 21 (.mkfn (.func 86) [(.t 20)] []),w (.mup .int (.t 13) (.c (i 4)) (.t 21)),m 22 0,u 23 (.mkfn (.func 87) [(.t 22)] []),w (.mup .int (.t 13) (.c (i 5)) (.t 23)),m 24 0,u 25 (.mkfn (.func 88) [(.t 24)] []),w (.mup .int (.t 13) (.c (i 6)) (.t 25)),m 26 13,m 5 26]) (s (r [m 28 1,v 29 89 28,m 27 29,e 30 0 27,e 31 1 27,m 6 30,m 7 31]) (s (r [m 32 7,u 33 (.call 41 [(.c (i 0)),(.t 32)])]) (s (r [c 8 .nils]) (s (s (r [m 34 6,o 35 34,c 36 (i 0)]) (.block 0 (.loop (s (r [b 37 .lss 36 35]) (s (.cond (.t 37) .skip (.exit 0)) (s (.block 2 (s La1.b (s La2.b (s La3.b (s La4.b (s La5.b (s La6.b (s La7.b (s La8.b La9.b))))))))) (r [d 106 .add 36 (i 1),m 36 106]))))))) (s (r [m 107 8,u 108 (.iaS 5 (.t 107) (.c (i 0))),g 109 5 108,w (.st 5 (.t 4) (.t 109))]) .ret)))))))
noncomputable def A44:AF:=⟨2,B44,[(.cell 4 (some 5))]⟩
def A47:AF:=⟨2,B47.b,[(.tmp 4)]⟩
def A48:AF:=⟨1,B48.b,[(.tmp 2),(.tmp 3)]⟩
def A49:AF:=⟨4,B49.b,[(.cell 8 (some 8)),(.tmp 9),(.tmp 10)]⟩
def A51:AF:=⟨1,B51.b,[(.tmp 2)]⟩
def A52:AF:=⟨3,B52.b,[(.tmp 6)]⟩
def A54:AF:=⟨1,B54.b,[(.tmp 2),(.tmp 3)]⟩
def A55:AF:=⟨2,B55.b,[(.tmp 4)]⟩
def A56:AF:=⟨3,B56.b,[(.tmp 6)]⟩
def A57:AF:=⟨2,B57.b,[(.cell 4 (some 5)),(.tmp 5)]⟩
def A58:AF:=⟨2,B58.b,[(.cell 4 (some 5)),(.tmp 5)]⟩
def A59:AF:=⟨1,B59.b,[(.tmp 2),(.tmp 3)]⟩
def A60:AF:=⟨2,B60.b,[]⟩
def A61:AF:=⟨1,B61.b,[(.tmp 2)]⟩
def A62:AF:=⟨2,B62.b,[(.tmp 4)]⟩
def A63:AF:=⟨2,B63.b,[(.tmp 4)]⟩
def A64:AF:=⟨1,B64.b,[(.tmp 2)]⟩
def A65:AF:=⟨2,B65.b,[(.cell 4 (some 8)),(.tmp 5),(.tmp 6)]⟩
def A66:AF:=⟨2,B66.b,[(.cell 4 (some 8)),(.tmp 5),(.tmp 6)]⟩
def A67:AF:=⟨3,B67.b,[(.tmp 6),(.tmp 7)]⟩
def A68:AF:=⟨3,B68.b,[(.tmp 6)]⟩
def A69:AF:=⟨2,B69.b,[(.tmp 4)]⟩
def B71:AC:=(s (r [k 3 26 0,k 5 50 2,c 6 .nils]) (s (r [c 7 (i 0)]) (s (.block 0 (.loop (s (s (.reg (some [(0,0),(1,0),(2,0),(3,0),(4,0),(5,0),(6,0),(7,0),(8,0),(9,0),(10,0),(11,0),(12,0),(13,0)]) [m 9 7,m 10 1,o 11 10,b 12 .lss 9 11,m 13 12,my 14 1 13,my 15 7 13,y 16 13 (.iaS 2 (.t 14) (.t 15)),y 17 13 (.fa 0 (.t 16)),y 18 13 (.ld none (.t 17)),y 19 13 (.fa 0 (.t 5)),y 20 13 (.ld none (.t 19)),y 21 13 (.bin .lss (.t 18) (.t 20)),p 22 13 21]) (.cond (.t 22) .skip (.exit 0))) (.block 2 (r [m 23 7,d 24 .add 23 (i 1),m 7 24]))))) (s (r [u 25 (.bsl 0 2 [] []),m 26 1,m 27 7,u 28 (.slV 2 (.t 26) none (some (.t 27)) none),u 29 (.app 2 16 50 (.t 25) (.t 28)),m 8 29]) (s (s (.reg (some [(0,0),(1,0),(2,0),(3,0),(4,0),(5,0),(6,0),(7,0),(8,0),(9,0),(10,0),(11,0),(12,0),(13,0)]) [m 30 7,m 31 1,o 32 31,b 33 .lss 30 32,m 34 33,my 35 1 34,my 36 7 34,y 37 34 (.iaS 2 (.t 35) (.t 36)),y 38 34 (.fa 0 (.t 37)),y 39 34 (.ld none (.t 38)),y 40 34 (.fa 0 (.t 5)),y 41 34 (.ld none (.t 40)),y 42 34 (.bin .eql (.t 39) (.t 41)),p 43 34 42]) (.cond (.t 43) (s (.reg (some [(0,0),(1,0),(2,0),(3,0),(4,0),(5,0),(6,0),(7,0),(8,0),(9,0),(10,0)]) [g 44 2 3,f 45 1 5,l 46 45,m 47 1,m 48 7,j 49 2 47 48,f 50 1 49,l 51 50,z 52 113 44 46 51,f 53 1 5,w (.st 1 (.t 53) (.t 52))]) (r [m 54 7,d 55 .add 54 (i 1),m 7 55])) .skip)) F71.b)))))
noncomputable def A71:AF:=⟨3,B71,[(.tmp 6)]⟩
def A72:AF:=⟨1,B72.b,[(.cell 2 (some 3)),(.tmp 3)]⟩
def A73:AF:=⟨2,B73.b,[(.tmp 4)]⟩
def A74:AF:=⟨2,B74.b,[(.tmp 4)]⟩
def T79:AC:=(s (r [m 74 0,v 75 122 74,m 73 75,e 76 0 73,e 77 1 73,w (.st 4 (.t 2) (.t 76))]) (s (r [c 10 (i 1)]) (s (r [c 11 (i 0)]) (s (.block 10 (.loop (s (s (r [m 78 10,d 79 .gtr 78 (i 0),m 80 79,my 81 11 80,my 82 0 80,y 83 80 (.len false (.t 82)),y 84 80 (.bin .lss (.t 81) (.t 83)),p 85 80 84]) (.cond (.t 85) .skip (.exit 10))) (.block 12 (s (r [m 86 10,d 87 .sub 86 (i 1),m 10 87]) (s (s (r [m 89 0,m 90 11,j 91 7 89 90,g 92 7 91,v 93 123 92,m 88 93,e 94 0 88,e 95 1 88,u 12 (.new 57 (.c (.agg [(i 0),(i 0),(i 0),(.str []),(.str []),(i 0),(i 0)]))),w (.st 7 (.t 12) (.t 94)),m 13 95]) (s (r [m 96 13]) (.cond (.t 96) (r [m 97 10,m 98 0,m 99 11,j 100 7 98 99,f 101 2 100,l 102 101,b 103 .add 97 102,m 10 103]) .skip))) (s (s (r [m 104 0,m 105 11,j 106 7 104 105,f 107 0 106,l 108 107,d 109 .eql 108 (i 3)]) (.cond (.t 109) (r [m 110 11,m 111 0,m 112 11,j 113 7 111 112,f 114 2 113,l 115 114,b 116 .add 110 115,m 11 116]) .skip)) (r [m 117 11,d 118 .add 117 (i 1),m 11 118])))))))) W79.b))))
def U79:AC:=(s (s (r [m 39 0,o 40 39,c 41 (i 0)]) (.block 6 (.loop (s (r [b 42 .lss 41 40]) (s (.cond (.t 42) .skip (.exit 6)) (s (.block 8 (s (r [m 43 41,j 44 7 39 41,g 45 7 44,u 9 (.new 57 (.c (.agg [(i 0),(i 0),(i 0),(.str []),(.str []),(i 0),(i 0)]))),m 8 43,w (.st 7 (.t 9) (.t 45))]) (s (r [f 46 0 9,l 47 46,d 48 .eql 47 (i 3),m 49 48,my 50 8 49,y 51 49 (.fa 2 (.t 9)),y 52 49 (.ld none (.t 51)),y 53 49 (.bin .add (.t 50) (.t 52)),my 54 0 49,y 55 49 (.len false (.t 54)),y 56 49 (.bin .geq (.t 53) (.t 55)),my 57 56 49,mn 58 0 57,mn 59 8 57,n 60 57 (.bin .add (.t 59) (.c (i 1))),mn 61 8 57,n 62 57 (.bin .add (.t 61) (.c (i 1))),n 63 57 (.fa 2 (.t 9)),n 64 57 (.ld none (.t 63)),n 65 57 (.bin .add (.t 62) (.t 64)),n 66 57 (.slV 7 (.t 58) (some (.t 60)) (some (.t 65)) none),n 67 57 (.call 120 [(.t 66),(.f 121)]),y 68 49 (.pick (.t 57) (.c bT) (.t 67)),p 69 49 68]) (.cond (.t 69) (s (r [u 70 (.bld [.nils,.nils,.nils,.nils] []),m 71 8,w (.st 4 (.t 2) (.t 70)),m 3 71,c 4 (i 6)]) .ret) .skip)))) (r [d 72 .add 41 (i 1),m 41 72]))))))) T79)
def B79:AC:=(s (r [u 2 (.new 135 (.c (.agg [.nils,.nils,.nils,.nils]))),c 3 (i 0),c 4 (i 0)]) (s (.block 0 (s (r [m 15 0,o 16 15,d 17 .eql 16 (i 0),m 14 17]) (.cond (.t 14) (s (r [u 18 (.bld [.nils,.nils,.nils,.nils] []),w (.st 4 (.t 2) (.t 18)),c 3 (i 0),c 4 (i 6)]) .ret) (s (r [m 20 0,o 21 20,d 22 .gtr 21 (i 400),m 19 22]) (.cond (.t 19) (s (r [u 23 (.bld [.nils,.nils,.nils,.nils] []),w (.st 4 (.t 2) (.t 23)),c 3 (i 0),c 4 (i 3)]) .ret) .skip))))) (s (s (r [m 24 0,o 25 24,c 26 (i 0)]) (.block 2 (.loop (s (r [b 27 .lss 26 25]) (s (.cond (.t 27) .skip (.exit 2)) (s (.block 4 (s (r [m 28 26,j 29 7 24 26,g 30 7 29,u 6 (.new 57 (.c (.agg [(i 0),(i 0),(i 0),(.str []),(.str []),(i 0),(i 0)]))),m 5 28,w (.st 7 (.t 6) (.t 30))]) (s (r [g 31 7 6,v 32 119 31,m 7 32]) (s (r [m 33 7,d 34 .neq 33 (i 0)]) (.cond (.t 34) (s (r [u 35 (.bld [.nils,.nils,.nils,.nils] []),m 36 5,m 37 7,w (.st 4 (.t 2) (.t 35)),m 3 36,m 4 37]) .ret) .skip))))) (r [d 38 .add 26 (i 1),m 26 38]))))))) U79)))
noncomputable def A79:AF:=⟨1,B79,[(.cell 2 (some 4)),(.tmp 3),(.tmp 4)]⟩
def A80:AF:=⟨2,B80.b,[(.tmp 4)]⟩
def A81:AF:=⟨1,B81.b,[(.cell 2 (some 17))]⟩
def A82:AF:=⟨2,B82.b,[(.tmp 4)]⟩
def A83:AF:=⟨2,B83.b,[(.cell 4 (some 5))]⟩
def A84:AF:=⟨2,B84.b,[(.cell 4 (some 5))]⟩
def A85:AF:=⟨2,B85.b,[(.cell 4 (some 5))]⟩
def A86:AF:=⟨2,B86.b,[(.cell 4 (some 5))]⟩
def A87:AF:=⟨2,B87.b,[(.cell 4 (some 5))]⟩
def B88:AC:=(s Lb1.b (s Lb2.b (s Lb3.b (s Lb4.b (s Lb5.b (s Lb6.b (s Lb7.b (s Lb8.b (s Lb9.b (s Lb10.b (s Lb11.b .ret)))))))))))
noncomputable def A88:AF:=⟨2,B88,[(.cell 4 (some 5))]⟩
def A89:AF:=⟨1,B89.b,[(.tmp 2),(.tmp 3)]⟩
def A90:AF:=⟨1,B90.b,[(.tmp 2)]⟩
def A91:AF:=⟨1,B91.b,[]⟩
def A92:AF:=⟨2,B92.b,[]⟩
def B96:AC:=(s (r [k 1 57 0,c 2 (i 0)]) (s W1.b (s W2.b (s (r [f 26 4 1,l 27 26,v 28 146 27,m 3 28]) (s W3.b (s W4.b (s (r [f 44 1 1,l 45 44,v 46 147 45,m 43 46,e 47 0 43,e 48 1 43,m 4 47,m 5 48]) (s W5.b (s W6.b (s (r [c 2 (i 0)]) .ret))))))))))
noncomputable def A96:AF:=⟨1,B96,[(.tmp 2)]⟩
def A97:AF:=⟨2,B97.b,[(.tmp 4)]⟩
def A98:AF:=⟨2,B98.b,[(.tmp 4)]⟩
def A99:AF:=⟨2,B99.b,[(.tmp 4)]⟩
def A100:AF:=⟨1,B100.b,[(.tmp 2)]⟩
def Ag7:AC:=(s (r [c 18 (i 0)]) (.block 4 (.loop AgL.b)))
def AgB:AC:=(s Ag1.b (s Ag2.b (s Ag3.b (s Ag4.b (s Ag5.b (s Ag6.b (s Ag7 (s Ag8.b (s Ag9.b (s Ag10.b Ag11.b))))))))))
def B101:AC:=(s Al1.b (s Al2.b (s Al3.b (s (s (r [c 14 (i 0)]) (.block 0 (.loop (s (s (r [m 27 14,m 28 11,o 29 28,b 30 .lss 27 29]) (.cond (.t 30) .skip (.exit 0))) (s (.block 2 AgB) (r [m 31 14,d 32 .add 31 (i 1),m 14 32])))))) (s Al4.b .ret)))))
noncomputable def A101:AF:=⟨4,B101,[(.cell 8 (some 5)),(.tmp 9),(.tmp 10)]⟩
def A102:AF:=⟨1,B102.b,[(.tmp 2),(.tmp 3)]⟩
def A103:AF:=⟨2,B103.b,[(.tmp 4)]⟩
def A104:AF:=⟨2,B104.b,[(.tmp 4)]⟩
def A105:AF:=⟨2,B105.b,[(.tmp 3)]⟩
def A106:AF:=⟨1,B106.b,[(.tmp 2),(.tmp 3)]⟩
def A107:AF:=⟨1,B107.b,[(.tmp 2)]⟩
def A108:AF:=⟨4,B108.b,[(.tmp 8)]⟩
def A109:AF:=⟨4,B109.b,[(.tmp 8)]⟩
def A110:AF:=⟨1,B110.b,[(.tmp 2),(.tmp 3)]⟩
def A111:AF:=⟨1,B111.b,[(.tmp 2)]⟩
def A112:AF:=⟨1,B112.b,[(.tmp 2)]⟩
def A113:AF:=⟨3,B113.b,[(.tmp 6)]⟩
def A114:AF:=⟨2,B114.b,[(.tmp 4)]⟩
def A115:AF:=⟨3,B115.b,[(.tmp 4)]⟩
def A116:AF:=⟨3,B116.b,[(.tmp 6)]⟩
def V7:AC:=(s (s (r [f 65 0 1,l 66 65,d 67 .eql 66 (i 5),m 68 67,y 69 68 (.fa 2 (.t 1)),y 70 68 (.ld none (.t 69)),my 71 3 68,y 72 68 (.bin .neq (.t 70) (.t 71)),p 73 68 72,m 64 73]) (.cond (.t 64) .skip (s (r [f 74 0 1,l 75 74,d 76 .eql 75 (i 6),m 77 76,y 78 77 (.fa 2 (.t 1)),y 79 77 (.ld none (.t 78)),y 80 77 (.bin .lss (.t 79) (.c (i 1))),my 81 80 77,n 82 81 (.fa 2 (.t 1)),n 83 81 (.ld none (.t 82)),n 84 81 (.bin .gtr (.t 83) (.c (i 2))),y 85 77 (.pick (.t 81) (.c bT) (.t 84)),p 86 77 85,m 64 86]) (.cond (.t 64) .skip (r [f 87 0 1,l 88 87,d 89 .eql 88 (i 3),m 90 89,y 91 90 (.fa 2 (.t 1)),y 92 90 (.ld none (.t 91)),y 93 90 (.bin .lss (.t 92) (.c (i 0))),p 94 90 93,m 64 94]))))) (.cond (.t 64) (s (r [c 2 (i 23)]) .ret) V8.b))
def V6:AC:=(s (s (r [f 52 4 1,l 53 52,v 54 164 53,d 55 .gtr 54 (i 400),m 51 55]) (.cond (.t 51) .skip (r [f 56 0 1,l 57 56,d 58 .eql 57 (i 3),m 59 58,y 60 59 (.fa 2 (.t 1)),y 61 59 (.ld none (.t 60)),y 62 59 (.bin .geq (.t 61) (.c (i 400))),p 63 59 62,m 51 63]))) (.cond (.t 51) (s (r [c 2 (i 3)]) .ret) V7))
noncomputable def V5:AC:=(s (r [f 47 4 1,l 48 47,v 49 158 48,u 50 (.un .not (.t 49)),m 46 50]) (.cond (.t 46) (s (r [c 2 (i 6)]) .ret) V6))
def V4:AC:=(s (r [f 38 6 1,l 39 38,d 40 .lss 39 (i 0),m 41 40,n 42 41 (.fa 6 (.t 1)),n 43 41 (.ld none (.t 42)),n 44 41 (.bin .gtr (.t 43) (.c (i 1000000000))),q 45 41 44,m 37 45]) (.cond (.t 37) (s (r [c 2 (i 7)]) .ret) V5))
def V3:AC:=(s (r [g 34 7 6,u 35 (.bld [(i 0),(i 0),(i 0),(.str []),(.str []),(i 0),(i 0)] []),u 36 (.cmp true (.ty (.parts [(0,none,.int),(1,none,.int),(2,none,.int),(3,none,.str),(4,none,.str),(5,none,.int),(6,none,.int)])) (.t 34) (.t 35)),m 33 36]) (.cond (.t 33) (s (r [c 2 (i 2)]) .ret) V4))
def B119:AC:=(s (r [k 1 57 0,c 2 (i 0)]) (s V1.b (s (r [c 3 (i 0)]) (s V2.b (s (r [g 29 7 1,v 30 123 29,m 28 30,e 31 0 28,e 32 1 28,u 6 (.new 57 (.c (.agg [(i 0),(i 0),(i 0),(.str []),(.str []),(i 0),(i 0)]))),w (.st 7 (.t 6) (.t 31)),m 7 32]) (s (.block 0 V3) (s (r [c 2 (i 0)]) .ret)))))))
noncomputable def A119:AF:=⟨1,B119,[(.tmp 2)]⟩
def A120:AF:=⟨2,B120.b,[(.tmp 4)]⟩
def A121:AF:=⟨1,B121.b,[(.tmp 2)]⟩
def YN:AC:=(.loop (s (r [b 84 .lss 83 82]) (s (.cond (.t 84) .skip (.exit 12)) (s YB.b (r [d 120 .add 83 (i 1),m 83 120])))))
def YI:AC:=(.block 10 (s (r [m 54 8,d 55 .add 54 (i 1),m 9 55]) (s (s (r [m 56 0,m 57 8,j 58 7 56 57,f 59 0 58,l 60 59,d 61 .eql 60 (i 3)]) (.cond (.t 61) (r [m 62 9,m 63 0,m 64 8,j 65 7 63 64,f 66 2 65,l 67 66,b 68 .add 62 67,m 9 68]) .skip)) (s (s (r [m 70 0,m 71 8,j 72 7 70 71,g 73 7 72,v 74 123 73,m 69 74,e 75 0 69,e 76 1 69,u 10 (.new 57 (.c (.agg [(i 0),(i 0),(i 0),(.str []),(.str []),(i 0),(i 0)]))),w (.st 7 (.t 10) (.t 75)),m 11 76]) (s (r [m 77 11]) (.cond (.t 77) (s (r [m 78 0,m 79 8,j 80 7 78 79,f 81 2 80,l 82 81,c 83 (i 0)]) (.block 12 YN)) .skip))) YT.b))))
def Y1:AC:=(s (s (r [m 48 4,d 49 .sub 48 (i 1),m 8 49]) (.block 8 (.loop (s (s (r [m 50 8,d 51 .geq 50 (i 0)]) (.cond (.t 51) .skip (.exit 8))) (s YI (r [m 52 8,d 53 .sub 52 (i 1),m 8 53])))))) Y2.b)
def B122:AC:=(s (r [u 2 (.new 135 (.c (.agg [.nils,.nils,.nils,.nils]))),c 3 bF]) (s (r [m 12 0,o 13 12,m 4 13]) (s (.reg (some [(0,0),(1,0),(2,0),(3,0),(4,0),(5,0),(6,0),(7,0),(8,0),(9,0)]) [m 14 4,u 15 (.mks 1 8 [(i 0)] (.t 14) (.t 14)),m 16 4,u 17 (.mks 1 8 [(i 0)] (.t 16) (.t 16)),m 18 4,u 19 (.mks 1 24 [.nils] (.t 18) (.t 18)),m 20 4,u 21 (.mks 1 1 [bF] (.t 20) (.t 20)),u 22 (.bld [.nils,.nils,.nils,.nils] [(0,1,(.t 15)),(1,1,(.t 17)),(2,1,(.t 19)),(3,1,(.t 21))]),w (.st 4 (.t 2) (.t 22))]) (s Y0.b Y1))))
noncomputable def A122:AF:=⟨1,B122,[(.cell 2 (some 4)),(.tmp 3)]⟩
def A123:AF:=⟨1,B123.b,[(.cell 2 (some 7)),(.tmp 3)]⟩
def A124:AF:=⟨1,B124.b,[(.tmp 2)]⟩
def A125:AF:=⟨2,B125.b,[(.cell 4 (some 5))]⟩
def A126:AF:=⟨3,B126.b,[(.cell 6 (some 7)),(.tmp 7)]⟩
def A127:AF:=⟨3,B127.b,[(.tmp 6),(.tmp 7)]⟩
def A128:AF:=⟨2,B128.b,[(.tmp 4)]⟩
def A129:AF:=⟨2,B129.b,[(.tmp 3)]⟩
def A130:AF:=⟨3,B130.b,[]⟩
def A131:AF:=⟨1,B131.b,[(.tmp 2)]⟩
def A132:AF:=⟨2,B132.b,[(.tmp 4)]⟩
def A133:AF:=⟨3,B133.b,[(.tmp 6)]⟩
def G1:List cR:=[f 11 0 1,l 12 11,d 13 .neq 12 (i 1),m 14 13,y 15 14 (.fa 5 (.t 1)),y 16 14 (.ld none (.t 15)),y 17 14 (.bin .neq (.t 16) (.c (i 0))),p 18 14 17]
def G2:List cR:=[m 19 18,n 20 19 (.fa 0 (.t 1)),n 21 19 (.ld none (.t 20)),n 22 19 (.bin .neq (.t 21) (.c (i 2))),mn 23 22 19,y 24 23 (.fa 4 (.t 1)),y 25 23 (.ld none (.t 24)),y 26 23 (.bin .neq (.t 25) (.c (.str []))),n 27 19 (.pick (.t 23) (.t 26) (.c bF)),q 28 19 27]
def G3:List cR:=[m 29 28,n 30 29 (.fa 0 (.t 1)),n 31 29 (.ld none (.t 30)),n 32 29 (.bin .neq (.t 31) (.c (i 4))),mn 33 32 29,y 34 33 (.fa 0 (.t 1)),y 35 33 (.ld none (.t 34)),y 36 33 (.bin .neq (.t 35) (.c (i 6))),n 37 29 (.pick (.t 33) (.t 36) (.c bF)),mn 38 37 29,y 39 38 (.fa 3 (.t 1)),y 40 38 (.ld none (.t 39)),y 41 38 (.bin .neq (.t 40) (.c (.str []))),n 42 29 (.pick (.t 38) (.t 41) (.c bF)),q 43 29 42]
def G4:List cR:=[m 44 43,n 45 44 (.fa 0 (.t 1)),n 46 44 (.ld none (.t 45)),n 47 44 (.bin .neq (.t 46) (.c (i 5))),mn 48 47 44,y 49 48 (.fa 1 (.t 1)),y 50 48 (.ld none (.t 49)),y 51 48 (.bin .neq (.t 50) (.c (i 0))),n 52 44 (.pick (.t 48) (.t 51) (.c bF)),q 53 44 52]
def G5:List cR:=[m 54 53,n 55 54 (.fa 0 (.t 1)),n 56 54 (.ld none (.t 55)),n 57 54 (.bin .eql (.t 56) (.c (i 5))),mn 58 57 54,my 59 4 58,y 60 58 (.bin .neq (.t 59) (.c (i 0))),n 61 54 (.pick (.t 58) (.t 60) (.c bF)),q 62 54 61]
def G6:List cR:=[m 63 62,n 64 63 (.fa 0 (.t 1)),n 65 63 (.ld none (.t 64)),n 66 63 (.bin .eql (.t 65) (.c (i 1))),mn 67 66 63,n 68 67 (.fa 0 (.t 1)),n 69 67 (.ld none (.t 68)),n 70 67 (.bin .eql (.t 69) (.c (i 2))),n 71 63 (.pick (.t 67) (.c bT) (.t 70)),mn 72 71 63,n 73 72 (.fa 0 (.t 1)),n 74 72 (.ld none (.t 73)),n 75 72 (.bin .eql (.t 74) (.c (i 4))),n 76 63 (.pick (.t 72) (.c bT) (.t 75)),mn 77 76 63,y 78 77 (.fa 2 (.t 1)),y 79 77 (.ld none (.t 78)),y 80 77 (.bin .neq (.t 79) (.c (i 0))),n 81 63 (.pick (.t 77) (.t 80) (.c bF)),q 82 63 81,m 2 82]
def B145:AC:=(s (r [k 1 57 0,c 2 bF]) (s (r [f 6 1 1,l 7 6,v 8 147 7,m 5 8,e 9 0 5,e 10 1 5,m 3 9,m 4 10]) (s (.reg none (G1++(G2++(G3++(G4++(G5++G6)))))) .ret)))
noncomputable def A145:AF:=⟨1,B145,[(.tmp 2)]⟩
def A146:AF:=⟨1,B146.b,[(.tmp 2)]⟩
def A147:AF:=⟨1,B147.b,[(.tmp 2),(.tmp 3)]⟩
def A148:AF:=⟨1,B148.b,[(.tmp 2)]⟩
def A149:AF:=⟨2,B149.b,[(.tmp 4)]⟩
def A150:AF:=⟨1,B150.b,[(.tmp 2),(.tmp 3)]⟩
def B151:AC:=(s No1.b (s No2.b (s No3.b (s No4.b (s No5.b (s No6.b (s No7.b .ret)))))))
noncomputable def A151:AF:=⟨5,B151,[(.cell 10 (some 5)),(.tmp 11),(.tmp 12)]⟩
def A152:AF:=⟨1,B152.b,[(.tmp 2)]⟩
def A153:AF:=⟨1,B153.b,[(.tmp 2)]⟩
def A154:AF:=⟨2,B154.b,[(.tmp 4)]⟩
noncomputable def A155:AF:=(TP Go.Proofs.Tryz.prog 155).getD ⟨0,.skip,[]⟩
def A156:AF:=⟨2,B156.b,[(.tmp 4)]⟩
def A157:AF:=⟨3,B157.b,[(.tmp 6)]⟩
def A159:AF:=⟨1,B159.b,[(.tmp 2),(.tmp 3)]⟩
def A160:AF:=⟨1,B160.b,[(.tmp 2)]⟩
def A161:AF:=⟨1,B161.b,[(.tmp 2)]⟩
def A162:AF:=⟨2,B162.b,[(.tmp 4)]⟩
def A163:AF:=⟨1,B163.b,[(.tmp 2),(.tmp 3)]⟩
def A164:AF:=⟨1,B164.b,[(.tmp 2)]⟩
def A165:AF:=⟨2,B165.b,[(.tmp 4)]⟩
def wV:AF:=⟨3,B166.b,[(.tmp 6),(.tmp 7),(.tmp 8)]⟩
def A167:AF:=⟨0,B167.b,[(.cell 0 (some 41))]⟩
def B168:AC:=s (r [k 2 64 0,c 4 .nils]) (s (s (r [m 6 1]) (.block 0 (.rfn (.t 6) [7] C5.b C2.b))) (s (r [l 12 2,m 4 12]) .ret))
noncomputable def A168:AF:=⟨2,B168,[(.tmp 4)]⟩
def F2:AC:=.block 2 (s (r [g 15 4 1,m 16 5,x 17 132 15 16]) (.block 4 (.rfn (.t 17) [18] E6.b F6.b)))
def B169:AC:=s (r [k 3 123 0]) (s (s (r [f 7 2 1,l 8 7,l 9 2,j 10 1 8 9,l 11 10,v 12 170 11]) (.block 0 (.rfn (.t 12) [13,14] E5.b F2))) (r [l 23 3,l 24 2,u 25 (.callv (.t 23) [(.t 24)])]))
noncomputable def A169:AF:=⟨3,B169,[]⟩
def A170:AF:=⟨1,B170.b,[(.tmp 2)]⟩
def A176:AF:=⟨2,B176.b,[(.tmp 4),(.tmp 5),(.tmp 6)]⟩
def A177:AF:=⟨2,B177.b,[(.tmp 4)]⟩
def A178:AF:=⟨2,B178.b,[(.tmp 4)]⟩
def A179:AF:=⟨3,B179.b,[(.cell 6 (some 7))]⟩
def A180:AF:=⟨3,B180.b,[(.tmp 6)]⟩
def B181:AC:=(s Qc1.b (s (s (r [c 11 (i 0)]) (.block 0 (.loop (s (s (r [m 14 11,m 15 1,o 16 15,b 17 .lss 14 16]) (.cond (.t 17) .skip (.exit 0))) (s (.block 2 (s Cp1.b (s Cp2.b (s Cp3.b (s Cp4.b (s Cp5.b (s Cp6.b .ret))))))) (r [m 18 11,d 19 .add 18 (i 1),m 11 19])))))) (s Qc3.b .ret)))
noncomputable def A181:AF:=⟨4,B181,[(.cell 8 (some 5)),(.tmp 9),(.tmp 10)]⟩
def A182:AF:=⟨2,B182.b,[]⟩
def A183:AF:=⟨1,B183.b,[(.tmp 2)]⟩
def A184:AF:=⟨1,B184.b,[(.tmp 2)]⟩
def A185:AF:=⟨2,B185.b,[(.tmp 4)]⟩
def A186:AF:=⟨2,B186.b,[(.tmp 4)]⟩
noncomputable def A187:AF:=(TP Go.Proofs.Tryz.prog 187).getD ⟨0,.skip,[]⟩
noncomputable def A199:AF:=(TP Go.Proofs.Tryz.prog 199).getD ⟨0,.skip,[]⟩
noncomputable def A208:AF:=(TP Go.Proofs.Tryz.prog 208).getD ⟨0,.skip,[]⟩
def A210:AF:=⟨0,B210.b,[(.tmp 0)]⟩
def A211:AF:=⟨1,B211.b,[(.tmp 2)]⟩
def A212:AF:=⟨1,B212.b,[(.tmp 2),(.tmp 3)]⟩
def A213:AF:=⟨1,B213.b,[(.cell 2 (some 5)),(.tmp 3)]⟩
def A214:AF:=⟨1,B214.b,[(.tmp 2)]⟩
noncomputable def A215:AF:=(TP Go.Proofs.Tryz.prog 215).getD ⟨0,.skip,[]⟩
def A216:AF:=⟨1,B216.b,[(.cell 2 (some 7))]⟩
def A217:AF:=⟨1,B217.b,[(.cell 2 (some 7))]⟩
def A218:AF:=⟨1,B218.b,[(.cell 2 (some 7))]⟩
def A219:AF:=⟨1,B219.b,[(.cell 2 (some 7))]⟩
def A220:AF:=⟨1,B220.b,[(.cell 2 (some 7))]⟩
def A221:AF:=⟨1,B221.b,[(.cell 2 (some 7))]⟩
def A222:AF:=⟨1,B222.b,[(.cell 2 (some 7))]⟩
def A223:AF:=⟨1,B223.b,[(.cell 2 (some 7))]⟩
def A224:AF:=⟨1,B224.b,[(.cell 2 (some 7))]⟩
def A225:AF:=⟨1,B225.b,[(.cell 2 (some 7))]⟩
def A226:AF:=⟨1,B226.b,[(.cell 2 (some 7))]⟩
def A227:AF:=⟨1,B227.b,[(.cell 2 (some 7))]⟩
def A228:AF:=⟨1,B228.b,[(.cell 2 (some 7))]⟩
def A229:AF:=⟨1,B229.b,[(.cell 2 (some 7))]⟩
def A230:AF:=⟨1,B230.b,[(.cell 2 (some 7))]⟩
def A231:AF:=⟨2,B231.b,[]⟩
def A233:AF:=⟨1,B233.b,[(.tmp 2),(.tmp 3)]⟩
def B234:AC:=(s (r [c 2 bF]) (s (r [c 3 (i 0)]) (s (r [m 9 0,u 10 (.iaS 1 (.t 9) (.c (i 0))),l 11 10,u 12 (.cvI .i64 (.t 11)),m 4 12]) (s (.block 0 (s (r [m 14 4,d 15 .geq 14 (i 192),m 16 15,my 17 4 16,y 18 16 (.bin .lss (.t 17) (.c (i 224))),p 19 16 18,m 13 19]) (.cond (.t 13) (r [c 3 (i 2)]) (s (r [m 21 4,d 22 .geq 21 (i 224),m 23 22,my 24 4 23,y 25 23 (.bin .lss (.t 24) (.c (i 240))),p 26 23 25,m 20 26]) (.cond (.t 20) (r [c 3 (i 3)]) (s (r [m 28 4,d 29 .geq 28 (i 240),m 30 29,my 31 4 30,y 32 30 (.bin .lss (.t 31) (.c (i 248))),p 33 30 32,m 27 33]) (.cond (.t 27) (r [c 3 (i 4)]) .skip))))))) F234.b))))
noncomputable def A234:AF:=⟨1,B234,[(.tmp 2)]⟩
def A235:AF:=⟨3,B235.b,[(.tmp 6),(.tmp 7),(.tmp 8)]⟩
def A236:AF:=⟨5,B236.b,[(.cell 10 (some 7))]⟩
def A240:AF:=⟨2,B240.b,[(.tmp 4)]⟩
def A241:AF:=⟨2,B241.b,[(.tmp 4)]⟩
noncomputable def A270:AF:=(TP Go.Proofs.Tryz.prog 270).getD ⟨0,.skip,[]⟩
noncomputable def A271:AF:=(TP Go.Proofs.Tryz.prog 271).getD ⟨0,.skip,[]⟩
noncomputable def A272:AF:=(TP Go.Proofs.Tryz.prog 272).getD ⟨0,.skip,[]⟩
def A273:AF:=⟨1,B273.b,[(.tmp 2)]⟩
def A274:AF:=⟨1,B274.b,[(.tmp 2)]⟩
def A275:AF:=⟨4,B275.b,[(.cell 8 (some 7))]⟩
def A276:AF:=⟨1,B276.b,[(.tmp 2)]⟩
def A277:AF:=⟨1,B277.b,[(.tmp 2)]⟩
def A278:AF:=⟨2,B278.b,[(.tmp 4)]⟩
def A279:AF:=⟨2,B279.b,[(.tmp 4)]⟩
def A280:AF:=⟨1,B280.b,[(.cell 2 (some 2))]⟩
def A281:AF:=⟨1,B281.b,[(.tmp 2)]⟩
def A282:AF:=⟨1,B282.b,[(.tmp 2)]⟩
def A283:AF:=⟨1,B283.b,[(.tmp 2),(.tmp 3)]⟩
noncomputable def A284:AF:=(TP Go.Proofs.Tryz.prog 284).getD ⟨0,.skip,[]⟩
noncomputable def A285:AF:=(TP Go.Proofs.Tryz.prog 285).getD ⟨0,.skip,[]⟩
noncomputable def A286:AF:=(TP Go.Proofs.Tryz.prog 286).getD ⟨0,.skip,[]⟩
def A287:AF:=⟨3,B287.b,[(.tmp 6)]⟩
def A288:AF:=⟨2,B288.b,[(.tmp 4)]⟩
def A289:AF:=⟨2,B289.b,[(.tmp 4)]⟩
def A290:AF:=⟨1,B290.b,[(.tmp 2)]⟩
def A291:AF:=⟨3,B291.b,[(.cell 6 (some 2))]⟩
def A292:AF:=⟨2,B292.b,[(.tmp 4)]⟩
noncomputable def A305:AF:=(TP Go.Proofs.Tryz.prog 305).getD ⟨0,.skip,[]⟩
noncomputable def A306:AF:=(TP Go.Proofs.Tryz.prog 306).getD ⟨0,.skip,[]⟩
noncomputable def A307:AF:=(TP Go.Proofs.Tryz.prog 307).getD ⟨0,.skip,[]⟩
noncomputable def A317:AF:=(TP Go.Proofs.Tryz.prog 317).getD ⟨0,.skip,[]⟩
noncomputable def A318:AF:=(TP Go.Proofs.Tryz.prog 318).getD ⟨0,.skip,[]⟩
noncomputable def A342:AF:=(TP Go.Proofs.Tryz.prog 342).getD ⟨0,.skip,[]⟩
noncomputable def TT:Tr AF:=(.nd (.nd (.nd (.nd (.nd (.nd (.nd (.ls [(1,A128)]) (.ls [(0,A64)])) (.nd (.nd (.ls [(1,A288)]) (.ls [(0,A160)])) (.nd (.ls [(0,A96)]) (.ls [(0,A224)])))) (.nd (.nd (.ls [(2,A272)]) (.nd (.ls [(0,A80)]) (.ls [(0,A208)]))) (.nd (.nd (.ls [(0,A48)]) (.ls [(0,A176)])) (.nd (.ls [(0,A112)]) (.ls [(0,A240)]))))) (.nd (.nd (.ls [(1,A72)]) (.nd (.nd (.ls [(0,A40)]) (.ls [(0,A168)])) (.ls [(0,A104)]))) (.nd (.nd (.nd (.nd (.ls [(0,A24)]) (.ls [(0,A280)])) (.ls [(0,A152)])) (.nd (.ls [(0,A88)]) (.ls [(0,A216)]))) (.nd (.nd (.ls [(0,A56)]) (.ls [(0,A184)])) (.ls [(0,A120)]))))) (.nd (.nd (.nd (.nd (.ls [(1,A132)]) (.ls [(0,A68)])) (.nd (.nd (.ls [(1,A292)]) (.ls [(0,A164)])) (.nd (.ls [(0,A100)]) (.ls [(0,A228)])))) (.nd (.nd (.nd (.ls [(1,A276)]) (.ls [(0,A148)])) (.nd (.ls [(0,A84)]) (.ls [(0,A212)]))) (.nd (.nd (.ls [(0,A52)]) (.ls [(0,A180)])) (.ls [(0,A116)])))) (.nd (.nd (.ls []) (.nd (.ls [(0,A44)]) (.nd (.ls [(0,A108)]) (.ls [(0,A236)])))) (.nd (.nd (.nd (.nd (.ls [(0,A28)]) (.ls [(0,A284)])) (.ls [(0,A156)])) (.nd (.ls [(0,A92)]) (.ls [(0,A220)]))) (.nd (.ls [(0,A60)]) (.ls [(0,A124)])))))) (.nd (.nd (.nd (.nd (.nd (.ls [(1,A130)]) (.ls [(0,A66)])) (.nd (.nd (.ls [(1,A290)]) (.ls [(0,A162)])) (.nd (.ls [(0,A98)]) (.ls [(0,A226)])))) (.nd (.nd (.nd (.ls [(1,A274)]) (.ls [(0,A146)])) (.nd (.ls [(0,A82)]) (.ls [(0,A210)]))) (.nd (.nd (.ls [(1,A306)]) (.ls [(0,A178)])) (.ls [(0,A114)])))) (.nd (.nd (.nd (.ls [(0,A10)]) (.ls [(0,A74)])) (.nd (.nd (.ls [(0,A42)]) (.ls [(0,A170)])) (.nd (.ls [(0,A106)]) (.ls [(0,A234)])))) (.nd (.nd (.nd (.nd (.ls [(0,A26)]) (.ls [(0,A282)])) (.ls [(0,A154)])) (.nd (.ls [(0,A90)]) (.ls [(0,A218)]))) (.nd (.nd (.ls [(0,A58)]) (.ls [(0,A186)])) (.ls [(0,A122)]))))) (.nd (.nd (.nd (.ls []) (.nd (.ls [(1,wV)]) (.nd (.ls [(0,A102)]) (.ls [(0,A230)])))) (.nd (.nd (.nd (.nd (.ls [(0,A22)]) (.ls [(0,A278)])) (.ls [(0,A150)])) (.nd (.nd (.ls [(0,A86)]) (.ls [(0,A342)])) (.ls [(0,A214)]))) (.nd (.nd (.ls [(0,A54)]) (.ls [(0,A182)])) (.ls [])))) (.nd (.nd (.nd (.nd (.nd (.ls [(0,A14)]) (.ls [(0,A270)])) (.ls [])) (.ls [])) (.ls [(1,A110)])) (.nd (.nd (.ls [(2,A286)]) (.ls [(1,A222)])) (.nd (.nd (.nd (.ls [(0,A62)]) (.ls [(0,A318)])) (.ls [])) (.ls [(0,A126)]))))))) (.nd (.nd (.nd (.nd (.nd (.nd (.ls [(1,A129)]) (.ls [(0,A65)])) (.nd (.nd (.nd (.ls [(0,A33)]) (.ls [(0,A289)])) (.ls [(0,A161)])) (.nd (.ls [(0,A97)]) (.ls [(0,A225)])))) (.nd (.nd (.nd (.ls [(1,A273)]) (.ls [(0,A145)])) (.ls [(0,A81)])) (.nd (.nd (.nd (.ls [(0,A49)]) (.ls [(0,A305)])) (.ls [(0,A177)])) (.nd (.ls [(0,A113)]) (.ls [(0,A241)]))))) (.nd (.nd (.ls [(1,A73)]) (.nd (.nd (.ls [(0,A41)]) (.ls [(0,A169)])) (.nd (.ls [(0,A105)]) (.ls [(0,A233)])))) (.nd (.nd (.nd (.nd (.ls [(0,A25)]) (.ls [(0,A281)])) (.ls [(0,A153)])) (.nd (.ls [(0,A89)]) (.ls [(0,A217)]))) (.nd (.nd (.ls [(0,A57)]) (.ls [(0,A185)])) (.ls [(0,A121)]))))) (.nd (.nd (.nd (.nd (.ls [(1,A133)]) (.ls [(0,A69)])) (.nd (.ls [(1,A165)]) (.nd (.ls [(0,A101)]) (.ls [(0,A229)])))) (.nd (.nd (.nd (.ls [(1,A277)]) (.ls [(0,A149)])) (.nd (.ls [(0,A85)]) (.ls [(0,A213)]))) (.ls [(2,A181)]))) (.nd (.nd (.ls [(0,A13)]) (.ls [(1,A109)])) (.nd (.nd (.nd (.ls [(1,A285)]) (.ls [(0,A157)])) (.ls [(1,A221)])) (.nd (.nd (.nd (.ls [(0,A61)]) (.ls [(0,A317)])) (.ls [])) (.ls [(0,A125)])))))) (.nd (.nd (.nd (.nd (.nd (.nd (.ls [(0,A3)]) (.ls [(0,A131)])) (.ls [(0,A67)])) (.nd (.nd (.ls [(1,A291)]) (.ls [(0,A163)])) (.nd (.ls [(0,A99)]) (.ls [(0,A227)])))) (.nd (.nd (.nd (.ls [(1,A275)]) (.ls [(0,A147)])) (.nd (.ls [(0,A83)]) (.ls [(0,A211)]))) (.nd (.nd (.nd (.ls [(0,A51)]) (.ls [(0,A307)])) (.ls [(0,A179)])) (.ls [(0,A115)])))) (.nd (.nd (.ls [(0,A11)]) (.nd (.ls [(0,A43)]) (.nd (.ls [(0,A107)]) (.ls [(0,A235)])))) (.nd (.nd (.nd (.nd (.ls [(0,A27)]) (.ls [(0,A283)])) (.ls [(0,A155)])) (.nd (.ls [(0,A91)]) (.ls [(0,A219)]))) (.nd (.nd (.ls [(0,A59)]) (.ls [(0,A187)])) (.ls [(0,A123)]))))) (.nd (.nd (.nd (.nd (.ls [(0,A7)]) (.nd (.ls [(0,A71)]) (.ls [(0,A199)]))) (.nd (.ls [(1,A167)]) (.nd (.ls [(0,A103)]) (.ls [(0,A231)])))) (.nd (.nd (.nd (.nd (.ls [(0,A23)]) (.ls [(0,A279)])) (.ls [(0,A151)])) (.nd (.ls [(0,A87)]) (.ls [(0,A215)]))) (.nd (.nd (.ls [(0,A55)]) (.ls [(0,A183)])) (.ls [(0,A119)])))) (.nd (.nd (.nd (.nd (.nd (.ls [(0,A15)]) (.ls [(0,A271)])) (.ls [])) (.ls [(0,A79)])) (.nd (.ls [(0,A47)]) (.ls [(0,A111)]))) (.nd (.nd (.nd (.ls [(1,A287)]) (.ls [(0,A159)])) (.ls [(1,A223)])) (.nd (.ls [(0,A63)]) (.ls [(0,A127)]))))))))
end
end Zv
namespace Zv
open Go
noncomputable def rG(a:Arg)(G:List (Nat×List D))(x:AS):Option (List (D×AS)):=match a.ev G x.t with
 | .it nm=>match sget x.s nm with
  | some (.mit (some m) Ak seen Ap)=>match sget x.s m with
   | some (.mp es c)=>
    bif (seen.isEmpty||es.isEmpty||es.any (fun e=>Nat.blt e.2.2 Ap))&&(Nat.ble 2 (es.filter (fun e=>!seen.any (Nat.beq e.2.2))).length&&(es.filter (fun e=>!seen.any (Nat.beq e.2.2))).all (fun e=>Nat.blt e.2.2 Ak)) then
     some ((es.filter (fun e=>!seen.any (Nat.beq e.2.2))).map fun e=>(.tup [.bool true,e.1,e.2.1],{ x with s:=sset x.s nm (.mit (some m) Ak (seen++[e.2.2]) c) }))
    else none
   | _=>none
  | _=>none
 | _=>none
theorem MEs.nth{M:Nat→Prop}{w:World}{μ:Mu}:∀{es:List (D×D×Nat)} {ents:List MapEntry} {j:Nat} {e:MapEntry},MEs M w μ es ents→ents[j]?=some e →
  ∃k v,es[j]?=some (k,v,e.born)∧aY M w μ k e.key∧aY M w μ v e.val
 | [],_,j,e,h,he=>by grind [MEs]
 | (k,v,n)::r,_,0,e,h,he=>by
  grind [MEs,aV,aD]
 | (k,v,n)::r,_,j+1,e,h,he=>by
  simp only[MEs]at h;obtain⟨e0,r',rfl,h1,h2,h3,h4⟩:=h;obtain⟨k',v',g1,g2,g3⟩:=MEs.nth h4 (by simpa using he)
  grind
theorem run_mapNext{P:Program}{n:Nat}(hn:2≤n)(w:World):∃j,j<n∧(choose (.mapNext n)).run P w = .ok j w.drew:=
 ⟨_,Nat.mod_lt _ (by omega),by
  have hf:¬n≤1:=by omega
  simp only[choose,Sem.run,Question.forced,bZ,hf,iV,Question.cut];rfl⟩
section
variable {E:Env} {M0:Nat→Prop} {w0:World} {N:Nat} {μ:Mu} {M:Nat→Prop} {a:Act} {w:World} {x:AS}
theorem op_nxm_all(h:Rel E M0 w0 N μ a w x){o:Operand}{ar:Arg}(h2:dI o=some ar){ty:TypeId}{l:List (D×AS)}(hs:rG ar E.G x=some l):
  ∃p∈l,gd E M0 w0 N μ w x a p.1 p.2 w (do pure (.value (←Instr.next (a.eval o) false ty))):=by
 have hv:=cW h h2;generalize a.eval o=v at *;unfold rG at hs;split at hs
 ·rename_i nm he;rw[he]at hv;simp only[aY]at hv;obtain⟨l0,b,k1,k2,rfl⟩:=hv;split at hs
  ·rename_i m Ak sn Ap hg;obtain⟨l',b',mo,g1,g2,g3,g4,g5⟩:=h.st nm _ _ k1 hg;rw[k1]at g1;cases g1;rw[k2]at g2;cases g2;obtain⟨lm,bm,m1,m2,rfl⟩:=g5;have Eg:=jP (P:=E.P) g4 (by intro _ _ _ hh;cases hh)
   split at hs
   ·rename_i es c Wa;obtain⟨lm',bm',ents,q1,q2,q3,q4,q5⟩:=h.st m _ _ m1 Wa;rw[m1]at q1;cases q1;rw[m2]at q2;cases q2;have Ii:=jP (P:=E.P) q4 (by intro _ _ _ hh;cases hh)
    cases zT:((sn.isEmpty||es.isEmpty||es.any (fun e=>Nat.blt e.2.2 Ap))&&(Nat.ble 2 (es.filter (fun e=>!sn.any (Nat.beq e.2.2))).length&&(es.filter (fun e=>!sn.any (Nat.beq e.2.2))).all (fun e=>Nat.blt e.2.2 Ak)))<;>rw[zT]at hs
    ·cases hs
    simp only[bG,aD]at hs;subst hs;simp only[bW]at zT;obtain⟨Dt,El,Sq⟩:=zT;have Jr:ents.isEmpty=es.isEmpty:=by
     have hl:ents.toList.length=es.length:=MEs.length q5;rw[fF];simp only[Array.isEmpty_iff,List.isEmpty_iff,←List.length_eq_zero_iff,←hl];simp
    have Hq:(!sn.toArray.isEmpty && !ents.isEmpty&&ents.all fun x=>decide (x.born≥Ap))=false:=by
     have Mw:es.any (fun e=>Nat.blt e.2.2 Ap)=ents.toList.any (fun e=>Nat.blt e.born Ap):=
      MEs.any (p:=fun e=>Nat.blt e.2.2 Ap) (q:=fun e=>Nat.blt e.born Ap) (fun k v n e hh=>by simp only[hh]) q5
     have Aa:ents.all (fun x=>decide (x.born≥Ap)) = !(ents.toList.any (fun e=>Nat.blt e.born Ap)):=by
      rw[←Array.all_toList,fF];simp[Nat.blt_eq]
     rw[Aa,←Mw,Jr,show sn.toArray.isEmpty=sn.isEmpty by simp]
     revert Dt;cases sn.isEmpty<;>cases es.isEmpty<;>cases es.any (fun e=>Nat.blt e.2.2 Ap)<;>simp
    have Ay:=MEs.filter (p:=fun e=>!sn.any (Nat.beq e.2.2)) (q:=fun e=>!sn.toArray.contains e.born) (fun k v n e hh=>by
     subst hh;show(!sn.any (Nat.beq e.born)) = !sn.toArray.contains e.born;rw[fF];simp only[Bool.not_eq_true',List.any_eq_false,Nat.beq_eq,List.contains_toArray,List.elem_eq_mem,cD];exact⟨fun g hm=>g _ hm rfl,fun g x hx e=>g (e▸hx)⟩) q5
    have Bj:(ents.filter fun e=>!sn.toArray.contains e.born).toList=ents.toList.filter fun e=>!sn.toArray.contains e.born:=by simp
    rw[←Bj]at Ay;generalize Yu:ents.filter (fun e=>!sn.toArray.contains e.born)=left at Ay
    generalize es.filter (fun e=>!sn.any (Nat.beq e.2.2))=L at Ay El Sq ⊢
    have zU:left.size=L.length:=by have:=MEs.length Ay;simpa using this
    have Eh:2≤left.size:=by rw[zU];exact cU El
    obtain⟨j,hj,Iq⟩:=run_mapNext (P:=E.P) Eh w;have hej:left.toList[j]?=some (left[j]'hj):=by simp[hj]
    obtain⟨kd,vd,r1,r2,r3⟩:=MEs.nth Ay hej;generalize hee:left[j]'hj=e at hej r1 r2 r3;have Qt:∀e∈left,e.born<Ak:=by
     intro e hm;obtain⟨i,hi,rfl⟩:=Array.mem_iff_getElem.1 hm;obtain⟨kd,vd,t1,_,_⟩:=MEs.nth Ay (j:=i) (e:=left[i]) (by simp[hi])
     have:=cF.1 Sq _ (List.mem_of_getElem? t1);simpa[Nat.blt_eq]using this
    have e1:left.filter (fun x=>decide (x.born<Ak))=left:=Array.filter_eq_self.2 (fun x hx=>by simpa using Qt x hx)
    have e2:left.filter (fun x=>decide (x.born≥Ak)) = #[]:=by
     rw[Array.filter_eq_empty_iff];intro x hx;have:=Qt x hx;simp;omega
    have hb:b<w.heap.size:=(h.own nm l0 b k1 k2).2;have Ka:Rel E M0 w0 N μ a w.drew x:=h.world rfl;have Pd:Ext (Mm M0 μ) w (Mm M0 μ) w.drew:=⟨aK _,fun _ _ _=>rfl,fun _ _ h=>h⟩
    let w':World:={ w.drew with heap:=w.heap.setIfInBounds b (.mapIter (some bm) Ak (sn.toArray.push e.born) c) }
    obtain⟨hx,hR,hf⟩:=Ka.write nm (.mit (some m) Ak (sn++[e.born]) c) l0 b (w':=w') (x':={ x with s:=sset x.s nm (.mit (some m) Ak (sn++[e.born]) c) }) k1 k2 (by rw[hg];rfl) (by show(w.heap.setIfInBounds b _).size=w.heap.size;simp)
     (fun k hk=>by simp only[w'];rw[Array.getElem?_setIfInBounds_ne (fun e=>hk e.symm)];rfl) (fun n=>rfl) (fun n=>by rw[aU]) rfl rfl
     (fun hx=>⟨l0,b,some bm,k1,k2,g3,by simp[w',hb],lm,bm,m1,m2,rfl⟩)
    refine⟨_,cY.2 ⟨_,List.mem_of_getElem? r1,rfl⟩,.tuple #[.bool true,e.key,e.val],w',μ,.inl (bU ?_),?_,hR,⟨hf.size,hf.same,hf.live,hf.mu,hf.cle,hf.kept,hf.new⟩⟩
    ·have Cm:=vZ (P:=E.P) (w:=w.drew) (o':=.mapIter (some bm) Ak (sn.toArray.push e.born) c) (show w.drew.heap[b]?=_ from g4) (by intro _ _ _ hh;cases hh)
     have An:left.isEmpty=false:=by
      rw[Bool.eq_false_iff];intro e0;rw[Array.isEmpty_iff]at e0;rw[e0]at Eh;simp at Eh
     have hje:(left.map some)[j]?=some (some e):=by simp[hj,hee]
     simp only[Instr.next,bJ,Eg,aR,Ii,Hq,cT,iV,Yu,bV,e1,e2,An,Array.append_empty,Array.empty_append,Array.size_map,Iq,hje,Cm];rfl
    ·simp only[aY];exact⟨_,rfl,bI.cons (by simp only[aY]) (bI.cons (aY.mono hx _ _ (gJ.refl _) (aY.mono Pd _ _ (gJ.refl _) r2)) (bI.cons (aY.mono hx _ _ (gJ.refl _) (aY.mono Pd _ _ (gJ.refl _) r3)) bI.nil))⟩
   ·cases hs
  ·cases hs
 ·cases hs
end
theorem cOp_nxm{P:Program}{o:Oper}{ar:Arg}(h:cOp P o=some (.nxm ar)):∃y,o.op = .next y false∧dI y=some ar:=by
 unfold cOp at h;split at h
 ·grind [cExt_kind]
 ·cases ho:o.op
  case next y s=>
   grind [yW,aC,aB,aD,AOp.nxm.injEq,reduceCtorEq]
  all_goals
   exfalso;simp only[yW,ho]at h
   repeat' (first|contradiction|(cases h;done)|(split at h)|(simp only[aC,aB,aD,reduceCtorEq,and_false,exists_false,cond_eq_ite]at h)|(obtain⟨_,_,h⟩:=h))
noncomputable section
def bAlt(o:cR)(G:List (Nat×List D))(x:AS):Option (List (D×AS)):=
 match o.op with
 | .nxm a=>rG a G x
 | _=>none
def oX(l:List R)(f:AS→List R):List R:=l.flatMap fun r=>match r with
 | .ok .normal y=>f y
 | r=>[r]
def oE(cx:Cx)(cl:CL):List cR→AS→List R
 | [],x=>[.ok .normal x]
 | o::r,x=>match wanted o x with
  | none=>[.no]
  | some false=>oE cx cl r (x.put o.dst (.tup []))
  | some true=>match bAlt o cx.G x with
   | some l=>l.flatMap fun p=>oE cx cl r ⟨iO o.dst p.2.t p.1,p.2.s,p.2.c,p.2.d,p.2.r⟩
   | none=>oX [zOp cx cl o x] (oE cx cl r)
def AC.nx:AC→Bool
 | .reg none ops=>ops.any fun o=>match o.op with | .nxm _=>true|_=>false
 | .seq a b=>a.nx||b.nx
 | .cond _ a b=>a.nx||b.nx
 | .block _ a=>a.nx
 | .loop a=>a.nx
 | .scope a=>a.nx
 | _=>false
def bLoop(f:AS→List R):Nat→AS→List R
 | 0,_=>[.no]
 | n+1,x=>oX (f x) (bLoop f n)
def bC(cx:Cx)(cl:CL)(k:Nat):AC→AS→List R
 | .reg none ops,x=>oE cx cl ops x
 | .seq a b,x=>bif a.nx||b.nx then oX (bC cx cl k a x) (bC cx cl k b) else[zC (.seq a b) cx cl k x]
 | .cond c a b,x=>match c.ev cx.G x.t with
  | .bool r=>bif r then bC cx cl k a x else bC cx cl k b x
  | _=>[.no]
 | .block id a,x=>bif a.nx then(bC cx cl k a x).map fun r=>(R.rec .no (zblk id) r:R) else[zC (.block id a) cx cl k x]
 | .loop a,x=>bif a.nx then bLoop (bC cx cl k a) k x else[zC (.loop a) cx cl k x]
 | .scope a,x=>bC cx cl k a x
 | c,x=>[zC c cx cl k x]
section
variable {E:Env} {cx:Cx} {M0:Nat→Prop} {w0:World} {N:Nat} {μ:Mu} {M:Nat→Prop} {a:Act} {w:World} {x:AS} {b:Frame} {k:List Item} {cs:List Frame} {cl:CL}
def DB(E:Env)(M0:Nat→Prop)(w0:World)(N:Nat)(μ:Mu)(w:World)(x:AS)(m:Machine)(b:Frame)(k:List Item)(cs:List Frame)(l:List R):Prop:=
 ∃r∈l,∀zR y,r = .ok zR y→Did E M0 w0 N μ w x m b k cs zR y
theorem DB.one{m:Machine}{r:R}(h:∀zR y,r = .ok zR y→Did E M0 w0 N μ w x m b k cs zR y):DB E M0 w0 N μ w x m b k cs [r]:=⟨r,fV.2 rfl,h⟩
theorem DB.of_steps{m m':Machine}{l:List R}(hs:Steps E.P m m')(h:DB E M0 w0 N μ w x m' b k cs l):DB E M0 w0 N μ w x m b k cs l:=by
 obtain⟨r,h1,h2⟩:=h;exact⟨r,h1,fun zR y e=>(h2 zR y e).of_steps hs⟩
theorem DB.bthen{m:Machine}{it:Item}{l:List R}{f:AS→List R}(hx:∀id,iE id (it::k)=iE id k)(h1:DB E M0 w0 N μ w x m b (it::k) cs l)
  (h2:∀z a' w' μ',Rel E M0 w0 N μ' a' w' z→gJ μ μ'→z.r=x.r→DB E M0 w0 N μ' w' z (lone (fat b a' (it::k)) cs w') b k cs (f z)) :
  DB E M0 w0 N μ w x m b k cs (oX l f):=by
 obtain⟨r,hr,hD⟩:=h1;have Gl:∀q,(q∈(match r with | .ok .normal y=>f y|r=>[r]))→q∈oX l f:=fun q hq=>List.mem_flatMap.2 ⟨r,hr,hq⟩
 cases r with
 | no=>exact⟨.no,Gl _ (fV.2 rfl),fun zR y e=>by cases e⟩
 | ok o z=>
  cases o with
  | normal=>
   obtain⟨a1,w1,μ1,ou1,r1,f1,e1,o1,n1⟩:=hD .normal z rfl;cases o1;obtain⟨q,hq,hQ⟩:=h2 z a1 w1 μ1 r1 f1.mu e1;refine⟨q,Gl _ hq,fun zR y e=>?_⟩
   obtain⟨a2,w2,μ2,ou2,r2,f2,e2,o2,n2⟩:=hQ zR y e;exact⟨a2,w2,μ2,ou2,r2,f1.trans f2,e2.trans e1,o2,n2.of_steps n1⟩
  | exit i=>exact⟨_,Gl _ (fV.2 rfl),fun zR y e=>by cases e;exact(hD _ _ rfl).pass hx nofun⟩
  | ret=>exact⟨_,Gl _ (fV.2 rfl),fun zR y e=>by cases e;exact(hD _ _ rfl).pass hx nofun⟩
  | pan c=>exact⟨_,Gl _ (fV.2 rfl),fun zR y e=>by cases e;exact(hD _ _ rfl).pass hx nofun⟩
theorem bops_did(Bo:oF E cl)(hM:∀t n f,cx.M t n=some f→oT E.P t n=some f)(hG:cx.G=E.G){ops:Array Oper}:
  ∀{l:List Oper} {Ic:List Nat} {az:List cR} {μ:Mu} {a:Act} {w:World} {x:AS},Rel E M0 w0 N μ a w x→gR b x.r μ→Ic.map (ops[·]?)=l.map some→lZ E.P N ops l=some az →
   DB E M0 w0 N μ w x (lone (fat b a (.inRegion ops Ic::k)) cs w) b k cs (oE cx cl az x):=by
 intro l
 induction l with
 | nil=>
  intro Ic az μ a w x h Ai hi hc;simp only[dU,List.map_eq_nil_iff]at hi;subst hi;simp only[lZ,aD]at hc;subst hc;exact DB.one fun zR y e=>by cases e;exact⟨a,w,μ,.normal,h,Fr.refl _ _ _ _,rfl,rfl,.one lI⟩
 | cons o l ih=>
  intro Ic az μ a w x h Ai hi hc;cases Ic with
  | nil=>cases hi
  | cons i rest=>
   simp only[bS,List.cons.injEq]at hi;obtain⟨Iy,hi⟩:=hi;simp only[lZ,aC,aB,aD]at hc;obtain⟨ao,Dh,r,hr,rfl⟩:=hc;obtain⟨Ex,hdst,Gx,hd⟩:=nJ Dh;cases Ns:wanted ao x with
   | none=>
    grind [oE,DB.one]
   | some c=>
    have hw:=kC h Gx Ns;cases c with
    | true=>
     cases Ki:bAlt ao cx.G x with
     | none=>
      have:oE cx cl (ao::r) x=oX [zOp cx cl ao x] (oE cx cl r):=by simp only[oE,Ns,Ki]
      rw[this];exact DB.bthen (it:=.inRegion ops rest) (fun _=>rfl) (DB.one fun zR y hz=>op_did Bo hM hG h Ai Dh Iy hw hz)
       (fun z a' w' μ' g1 g2 g3=>ih g1 (by rw[g3];exact Ai.mono g2) hi hr)
     | some l'=>
      have hbo:oE cx cl (ao::r) x=l'.flatMap fun p=>oE cx cl r ⟨iO ao.dst p.2.t p.1,p.2.s,p.2.c,p.2.d,p.2.r⟩:=by simp only[oE,Ns,Ki]
      rw[hbo];unfold bAlt at Ki;split at Ki
      ·rename_i ar Vk;rw[Vk]at Ex;obtain⟨y,hoy,hay⟩:=cOp_nxm Ex;rw[hG]at Ki;obtain⟨p,hp,v,w',μ',zV,hv,hR,hf⟩:=op_nxm_all (ty:=o.type) h hay Ki;have hpr:p.2.r=x.r:=by
        unfold rG at Ki
        repeat' (first|contradiction|(split at Ki)|(simp only[cond_eq_ite,aD]at Ki))
        subst Ki;obtain⟨e,_,rfl⟩:=cY.1 hp;rfl
       have hg:=mE (P:=E.P) (b:=b) (k:=k) (cs:=cs) (w:=w) (rest:=rest) Iy hw (.inr (fun c e=>by grind))
       have Db:∀a v,(fat b a (.inRegion ops (i::rest)::k)).finish v=fat b (a.put o.dst v) (.inRegion ops rest::k):=fun a v=>by
        grind [nH]
       have Bp:=hR.put (dst:=o.dst) hd hv;have Gg:(execOp a.eval o).run E.P w=(do pure (.value (←Instr.next (a.eval y) false o.type)):Sem Next).run E.P w:=by simp only[execOp,hoy]
       have zZ:Go.step E.P (lone (fat b a (.inRegion ops (i::rest)::k)) cs w) = .next (lone (fat b (a.put o.dst v) (.inRegion ops rest::k)) cs w'):=by
        refine dK ?_;rw[hg,←Db];rcases zV with hr|⟨hr,rfl⟩
        ·grind [pQ]
        ·grind [rU]
       have Ef:Rel E M0 w0 N μ' (a.put o.dst v) w' ⟨iO ao.dst p.2.t p.1,p.2.s,p.2.c,p.2.d,p.2.r⟩:=by
        rw[hdst];revert Bp;cases o.dst<;>exact id
       obtain⟨q,hq,hQ⟩:=ih Ef (by show gR b p.2.r μ';rw[hpr];exact Ai.mono hf.mu) hi hr
       refine⟨q,List.mem_flatMap.2 ⟨p,hp,hq⟩,fun zR z e=>?_⟩
       obtain⟨a2,w2,μ2,ou2,r2,f2,e2,o2,n2⟩:=hQ zR z e;exact⟨a2,w2,μ2,ou2,r2,hf.trans f2,e2.trans hpr,o2,n2.of_steps (.one zZ)⟩
      ·cases Ki
    | false=>
     have Bp:Rel E M0 w0 N μ (a.put o.dst undef) w (x.put ao.dst (.tup [])):=by
      rw[hdst];exact h.put hd (by simp only[aY];exact⟨#[],rfl,rfl⟩)
     have zZ:=lT (P:=E.P) (b:=b) (a:=a) (k:=k) (cs:=cs) (w:=w) (ops:=ops) (i:=i) (rest:=rest) (by simp[Iy,hw])
     simp only[Iy,bE]at zZ;have hbo:oE cx cl (ao::r) x=oE cx cl r (x.put ao.dst (.tup [])):=by simp only[oE,Ns]
     rw[hbo];obtain⟨q,hq,hQ⟩:=ih Bp (by grind [put_r]) hi hr
     refine DB.of_steps (.one zZ) ⟨q,hq,fun zR y e=>?_⟩
     obtain⟨a',w',μ',ou,h1,h2,h3,h4,h5⟩:=hQ zR y e;exact⟨a',w',μ',ou,h1,by revert h2;cases ao.dst<;>exact id,h3.trans (put_r x _ _).1,h4,h5⟩
theorem bloop_did{c:Code}{f:AS→List R}:∀(n:Nat) {μ:Mu} {a:Act} {w:World} {x:AS},
  (∀{μ:Mu} {a:Act} {w:World} {x:AS},Rel E M0 w0 N μ a w x→gR b x.r μ→DB E M0 w0 N μ w x (lone (fat b a (.code c :: .inLoop c::k)) cs w) b (.inLoop c::k) cs (f x)) →
  Rel E M0 w0 N μ a w x→gR b x.r μ→DB E M0 w0 N μ w x (lone (fat b a (.code c :: .inLoop c::k)) cs w) b k cs (bLoop f n x)
 | 0,μ,a,w,x,_,_,_=>DB.one fun zR y e=>by cases e
 | n+1,μ,a,w,x,hf,h,Ai=>
  DB.bthen (it:=.inLoop c) (fun _=>rfl) (hf h Ai) (fun z a' w' μ' g1 g2 g3=>DB.of_steps (.one yI) (bloop_did n hf g1 (by rw[g3];exact Ai.mono g2)))
theorem bcode_did(H:Ctx E cx cl):∀(c:Code) {ac:AC},comp E.P N c=some ac→∀{fuel:Nat} {μ:Mu} {a:Act} {w:World} {x:AS} {b:Frame} {k:List Item},Rel E M0 w0 N μ a w x→gR b x.r μ →
  DB E M0 w0 N μ w x (lone (fat b a (.code c::k)) cs w) b k cs (bC cx cl fuel ac x):=by
 intro c;have Tg:∀(c:Code) {ac:AC},comp E.P N c=some ac→∀{fuel:Nat} {μ:Mu} {a:Act} {w:World} {x:AS} {b:Frame} {k:List Item},Rel E M0 w0 N μ a w x→gR b x.r μ →
   DB E M0 w0 N μ w x (lone (fat b a (.code c::k)) cs w) b k cs [zC ac cx cl fuel x]:=fun c ac hc fuel μ a w x b k h Ai=>DB.one fun zR y e=>qK H c hc h Ai e
 induction c with
 | skip=>grind [comp,aD,bC]
 | label l=>grind [comp,aD,bC,AC.nx]
 | exit id=>grind [comp,aD,bC]
 | ret=>grind [comp,aD,bC]
 | goto l=>grind [comp,aD,bC]
 | refuse s=>grind [comp]
 | rangeFunc f ps p q Gb Ga=>
  intro ac hc fuel μ a w x b k h Ai;have Bw:=hc;simp only[comp,aC,aB]at hc
  grind [Nat.blt,aD,bC]
 | region id ops draw=>
  intro ac hc fuel μ a w x b k h Ai;have Bw:=hc;simp only[comp,aC,aB]at hc;obtain⟨l,hl,hc⟩:=hc;cases draw with
  | false=>
   simp only[cO,aD]at hc;subst hc;simp only[bC];refine DB.of_steps (.one rM) (bops_did H.call H.meth H.glob h Ai ?_ hl);apply List.ext_getElem?
   grind
  | true=>
   grind [nS,ancs,uZ,Nat.ble,aD,bC]
 | seq p q Gb Ga=>
  intro ac hc fuel μ a w x b k h Ai;have Bw:=hc;simp only[comp,aC,aB,aD]at hc;obtain⟨p',hp,q',hq,rfl⟩:=hc;simp only[bC];cases hn:(p'.nx||q'.nx)
  ·grind
  ·simp only[bG];exact DB.of_steps (.one fstep_seq) (DB.bthen (it:=.code q) (fun _=>rfl) (Gb hp h Ai) (fun z a' w' μ' g1 g2 g3=>Ga hq g1 (by rw[g3];exact Ai.mono g2)))
 | cond c p q Gb Ga=>
  intro ac hc fuel μ a w x b k h Ai;simp only[comp,aC,aB,aD]at hc;obtain⟨c',Jb,rfl⟩:=hc;have hv:=cW h Jb;simp only[bC];rw[H.glob];split
  ·rename_i r he;rw[he]at hv;simp only[aY]at hv;refine DB.of_steps (.one (wF hv)) ?_;cases r with
   | true=>
    cases hp:comp E.P N p with
    | none=>exact DB.one (r:=.no) fun zR y e=>by cases e
    | some p'=>exact Gb hp h Ai
   | false=>
    cases hq:comp E.P N q with
    | none=>exact DB.one (r:=.no) fun zR y e=>by cases e
    | some q'=>exact Ga hq h Ai
  grind [DB.one]
 | block id p ih=>
  intro ac hc fuel μ a w x b k h Ai;have Bw:=hc;simp only[comp,aC,aB,aD]at hc;obtain⟨p',hp,rfl⟩:=hc;simp only[bC];cases hn:p'.nx
  ·grind
  ·obtain⟨r,h1,h2⟩:=ih (k:=.inBlock id::k) (fuel:=fuel) hp h Ai;exact⟨_,cY.2 ⟨r,h1,rfl⟩,fun zR y e=>block_did e h2⟩
 | loop p ih=>
  intro ac hc fuel μ a w x b k h Ai;have Bw:=hc;simp only[comp,aC,aB,aD]at hc;obtain⟨p',hp,rfl⟩:=hc;simp only[bC];cases hn:p'.nx
  ·grind
  ·exact DB.of_steps (.one fstep_loop) (bloop_did fuel (fun h Ai=>ih hp h Ai) h Ai)
 | scope p ih=>
  intro ac hc fuel μ a w x b k h Ai;have Bw:=hc;simp only[comp,aC,aB,aD]at hc;obtain⟨p',hp,rfl⟩:=hc;simp only[bC];cases hl:oU p' with
  | nil=>
   simp only[lX];refine DB.of_steps (.one tX) ?_;obtain⟨r,h1,h2⟩:=ih (k:=.inScope p::k) (fuel:=fuel) hp h Ai;refine⟨r,h1,fun zR y e=>?_⟩
   have hD:=h2 zR y e;by_cases ho:zR = .normal
   ·subst ho;refine hD.bind fun a' w' μ' g1 g2 g3=>?_
    exact⟨a',w',μ',.normal,g1,Fr.refl _ _ _ _,rfl,rfl,.one qA⟩
   ·refine hD.pass (fun i=>rL (fun l _=>?_) k) ho
    cases hf:findLabel p l with
    | none=>rfl
    | some z=>
     have:=(lab_of p hp hf).1;rw[hl]at this;cases this
  | cons n ns=>
   rw[hl]at Bw;cases Rv:jG p' n with
   | none=>
    simp only[lX,Rv];exact DB.one (r:=.no) fun zR y e=>by cases e
   | some r=>
    simp only[lX,Rv]at Bw ⊢;simp only[bC];exact Tg _ Bw (fuel:=fuel) h Ai
end
end
end Zv
namespace Zv
open Go
noncomputable section
variable {args:List D} {E:Env}
theorem bThen_ne{l:List R}{f:AS→List R}(h:l≠[])(hf:∀x,f x≠[]):oX l f≠[]:=by
 cases l with
 | nil=>grind
 | cons r l=>
  unfold oX;rw[List.flatMap_cons];intro e;have:=(List.append_eq_nil_iff.1 e).1;split at this
  ·exact hf _ this
  ·cases this
theorem nxmAll_ne{a:Arg}{G:List (Nat×List D)}{x:AS}{l:List (D×AS)}(h:rG a G x=some l):l≠[]:=by
 unfold rG at h
 grind [aD,Nat.ble_eq,List.map_eq_nil_iff]
theorem bOps_ne(cx:Cx)(cl:CL):∀(ops:List cR) (x:AS),oE cx cl ops x≠[]
 | [],x=>by simp[oE]
 | o::r,x=>by
  unfold oE;split
  ·simp
  ·exact bOps_ne cx cl r _
  ·split
   ·rename_i l hl;have An:l≠[]:=by
     unfold bAlt at hl;split at hl
     ·exact nxmAll_ne hl
     ·cases hl
    cases l with
    | nil=>grind
    | cons p l=>
     rw[List.flatMap_cons];intro e;exact bOps_ne cx cl r _ (List.append_eq_nil_iff.1 e).1
   ·exact bThen_ne (by simp) (bOps_ne cx cl r)
theorem bLoop_ne{f:AS→List R}(hf:∀x,f x≠[]):∀(n:Nat) (x:AS),bLoop f n x≠[]
 | 0,x=>by simp[bLoop]
 | n+1,x=>bThen_ne (hf x) (bLoop_ne hf n)
theorem bC_ne(cx:Cx)(cl:CL)(k:Nat):∀(c:AC) (x:AS),bC cx cl k c x≠[]:=by
 intro c
 induction c with
 | reg s ops=>intro x;cases s with
  | none=>exact bOps_ne cx cl ops x
  | some s=>simp[bC]
 | seq a b Dr Ix=>
  grind [bC,bThen_ne]
 | cond c a b Dr Ix=>
  grind [bC]
 | block id a Dr=>
  intro x;unfold bC;cases a.nx
  ·simp
  ·simp[Dr x]
 | loop a Dr=>
  grind [bC,bLoop_ne]
 | scope a Dr=>grind [bC]
 | _=>grind [bC]
def Ord(cx:Cx)(k m f:Nat)(args:List D)(p:D×Bool):Prop:=
 ∃A,cx.T f=some A∧Nat.beq args.length A.np=true∧∀r∈bC cx (zN cx k m).fn k A.body (start args st0 0),pout (zbody (zN cx k m).df A r)=some p
open Classical in
def bev(cx:Cx)(k m f:Nat)(args:List D):Option (D×Bool):=if h:∃p,Ord cx k m f args p then some h.choose else none
theorem bev_eq{cx:Cx}{k m f:Nat}{p:D×Bool}(h:Ord cx k m f args p):bev cx k m f args=some p:=by
 have Gg:∃p,Ord cx k m f args p:=⟨p,h⟩
 unfold bev;rw[dif_pos Gg];obtain⟨A,h1,h2,h3⟩:=Gg.choose_spec;obtain⟨A',g1,g2,g3⟩:=h;rw[h1]at g1;cases g1;cases hl:bC cx (zN cx k m).fn k A.body (start args st0 0) with
 | nil=>grind [absurd,bC_ne]
 | cons r l=>
  simp_all
theorem pout_rel{M:Nat→Prop}{w w':World}{μ':Mu}{s':St}{c':Nat}{r:D}{v:Value}{p:D×Bool}(hM:∀b,M b→b<w.heap.size)(Eu:lW E M w μ' w' s' c')(Hl:aY (Mm M μ') w' μ' r v) 
  (h:(match frz true 20 s' r with|some d=>some (d,true)|none=>(frz false 20 s' r).map fun d=>(d,false))=some p) :
  aY M w' mu0 p.1 v∧(p.2=true→aY (fun b=>b<w.heap.size) w' mu0 p.1 v):=by
 have Mf:∀nm l b,μ' nm=some l→l.blk=some b→¬M b:=fun nm l b h1 h2 hm=>by have:=hM b hm;have:=(Eu.own nm l b h1 h2).1;omega
 have hnw:∀nm l b,μ' nm=some l→l.blk=some b→¬(b<w.heap.size):=fun nm l b h1 h2 hm=>by have:=(Eu.own nm l b h1 h2).1;omega
 split at h
 ·rename_i d hd;cases h;exact⟨rN Eu Mf (fun e=>by cases e) 20 r d v hd Hl,fun _=>rN Eu hnw (fun e=>by cases e) 20 r d v hd Hl⟩
 ·rename_i hd;simp only[aT]at h;obtain⟨d,hd,rfl⟩:=h;exact⟨rN Eu Mf (fun _ b _ hb=>.inl hb) 20 r d v hd Hl,fun e=>by cases e⟩
theorem bev_sound{cx:Cx}(H:POK E cx){k m f:Nat}{p:D×Bool}(h:bev cx k m f args=some p):PureB E f args p.1 p.2:=by
 unfold bev at h;by_cases Gg:∃p,Ord cx k m f args p
 case neg=>grind
 rw[dif_pos Gg]at h;cases h;obtain⟨A,hA,zU,Aa⟩:=Gg.choose_spec;generalize Gg.choose=p at Aa ⊢;intro M w vals hM hG hv;obtain⟨Aw,fn,Dz,hcomp⟩:=H.body.body f A hA;obtain⟨cd,Du,hc,Ba⟩:=rS hcomp;have C:Ctx E cx (zN cx k m).fn:=⟨(zn_ok H k m).1,H.meth,H.glob,H.mixed⟩;refine⟨Aw,?_⟩;have hS:lW E M w mu0 w st0 0:=
  {size:=aK _,old:=fun _ _=>rfl,m0lt:=hM,defers:=by simp only[iR],n:=dM _,tm:=fun n=>by grind [xG,aY]
   st:=fun nm blk l hl=>by simp[mu0]at hl
   lt:=fun nm l hl=>by simp[mu0]at hl
   own:=fun nm l b hl=>by simp[mu0]at hl
   inj:=fun n m l l' b _ _ hl=>by simp[mu0]at hl
   glob:=hG,env:=⟨rfl,rfl⟩ }
 have hx:Ext M w (Mm M mu0) w:=⟨aK _,fun _ _ _=>rfl,fun b hb hm=>by
  rcases hm with hm|⟨nm,l,e,_⟩
  all_goals grind [mu0]⟩
 intro cs;have zZ:=start_rel (N:=fn.ntmps) hS (bI.mono hx _ _ (gJ.refl _) hv);rw[enter_fat Dz Du];obtain⟨r,hr,hD⟩:=bcode_did (b:={ (default:Frame) with fn:=f,kind:=.normal }) (cs:=cs) (k:=[]) C cd hc (fuel:=k) zZ rfl;have hp:=Aa r hr;unfold pout at hp;cases r with
 | no=>simp[zbody]at hp
 | ok zR x=>
  split at hp
  ·rename_i q s' c' hz;obtain⟨e,w',fr,⟨μ',Eu,hF,v,rfl,Hl⟩,h2,h3,h4⟩:=body_one (zn_ok H k m).2 Dz Ba rfl (hD zR x rfl) hz;obtain⟨g1,g2⟩:=pout_rel hM Eu Hl hp;exact⟨_,w',fr,⟨v,rfl,g1,g2,hF.size,Eu.env,fun b hb=>Eu.old b hb⟩,h2,h3,h4⟩
  ·cases hp
/-! Levels. -/
def wev(ms:Nat→Bool)(k m:Nat)(cx:Cx)(f:Nat)(args:List D):Option (D×Bool):=bif ms f then bev cx k m f args else pev cx k m f args
def lw(B:Cx)(ps ms:Nat→Bool)(k m:Nat):Nat→Cx
 | 0=>B
 | n+1=>{ B with X:=fun f=>bif ps f then some (pcall (wev ms k m (lw B ps ms k m n) f)) else B.X f }
theorem wev_sound{cx:Cx}(H:POK E cx){ms:Nat→Bool}{k m f:Nat}{p:D×Bool}(h:wev ms k m cx f args=some p):PureB E f args p.1 p.2:=by
 grind [wev,pev_sound,bev_sound]
theorem lw_ok{E:Env}{B:Cx}(H:POK E B)(ps ms:Nat→Bool)(k m:Nat):∀n,POK E (lw B ps ms k m n)
 | 0=>H
 | n+1=>{H with
   body:=⟨H.body.body⟩
   known:=H.known
   spec:=fun f g h=>by
    have h':(bif ps f then some (pcall (wev ms k m (lw B ps ms k m n) f)) else B.X f)=some g:=h
    cases hp:ps f<;>rw[hp]at h'
    ·intro _ _ _ _ _ _ _ _ _ _ _ h1 h2 h3;exact H.spec f g h' h1 h2 h3
    ·cases h';intro _ _ _ _ _ _ _ _ _ _ _ h1 h2 h3;exact sp_pcall (fun fa p hp=>wev_sound (lw_ok H ps ms k m n) hp) h1 h2 h3 }
theorem pure_of_wev{cx:Cx}(H:POK E cx){ms:Nat→Bool}{k m f:Nat}{p:D×Bool}(h:wev ms k m cx f args=some p):zJ E f args p.1:=fun M w vals hM hG hv=>
 (wev_sound H h M w vals hM hG hv).2.mono fun e w' ⟨v,h1,h2,_,h3,h4,h5⟩=>⟨v,h1,h2,h3,h4,h5⟩
section
variable {B:Cx} {ps ms:Nat→Bool} {k m:Nat}
theorem wcall_pure{f:Nat}(hp:ps f=true)(n j:Nat)(args:List D)(s:St)(c:Nat):(zN (lw B ps ms k m (n+1)) k (j+1)).fn (.fn f) args s c=pcall (wev ms k m (lw B ps ms k m n) f) args s c:=by
 show zspec (lw B ps ms k m (n+1)) f _ args s c=_
 simp_all [zspec,lw,pcall,wev]
theorem yC:∀n,(lw B ps ms k m n).T=B.T∧(lw B ps ms k m n).G=B.G∧(lw B ps ms k m n).M=B.M∧(lw B ps ms k m n).K=B.K
 | 0=>⟨rfl,rfl,rfl,rfl⟩
 | _+1=>⟨rfl,rfl,rfl,rfl⟩
theorem lw_X{f:Nat}(hp:ps f=false)(n:Nat):(lw B ps ms k m n).X f=B.X f:=by
 cases n with
 | zero=>rfl
 | succ n=>
  grind [pcall,wev,lw]
theorem wcall_spec{f:Nat}{g:List D→St→Nat→FR}(hp:ps f=false)(hX:B.X f=some g)(n j:Nat)(args:List D)(s:St)(c:Nat):(zN (lw B ps ms k m n) k (j+1)).fn (.fn f) args s c=g args s c:=by
 show zspec (lw B ps ms k m n) f _ args s c=_
 simp_all [zspec,lw_X]
theorem wcall_in{f:Nat}{A:AF}(hp:ps f=false)(hX:B.X f=none)(hK:B.K f=[])(hT:B.T f=some A)(n j:Nat)(args:List D)(s:St)(c:Nat)(hl:Nat.beq args.length A.np=true):
  (zN (lw B ps ms k m n) k (j+1)).fn (.fn f) args s c=zbody (zN (lw B ps ms k m n) k j).df A (zC A.body (lw B ps ms k m n) (zN (lw B ps ms k m n) k j).fn k (start args s c)):=by
 show zspec (lw B ps ms k m n) f (zmemo (lw B ps ms k m n) f (zcall (lw B ps ms k m n) k (zN (lw B ps ms k m n) k j) f)) args s c=_;unfold zspec
 simp_all [lw_X,zmemo,lw,zcall,zN,yC]
theorem wcall_known{f:Nat}{l:List (List D×D)}{p:List D×D}(hp:ps f=false)(hX:B.X f=none)(hK:B.K f=p::l){args fa:List D}{d:D}{s:St}(hf:args.mapM (fr 20 s)=some fa)(hl:zlook fa (p::l)=some d)(n j:Nat)(c:Nat):
  (zN (lw B ps ms k m n) k (j+1)).fn (.fn f) args s c = .ok (.ret d) s c:=by
 show zspec (lw B ps ms k m n) f (zmemo (lw B ps ms k m n) f (zcall (lw B ps ms k m n) k (zN (lw B ps ms k m n) k j) f)) args s c=_;unfold zspec
 simp_all [lw_X,zmemo,lw,zcall,zN,yC]
theorem wev_run{f:Nat}{A:AF}(hT:B.T f=some A)(hm:ms f=false)(n:Nat)(args:List D)(hl:Nat.beq args.length A.np=true):
  wev ms k m (lw B ps ms k m n) f args=pout (zbody (zN (lw B ps ms k m n) k m).df A (zC A.body (lw B ps ms k m n) (zN (lw B ps ms k m n) k m).fn k (start args st0 0))):=by
 unfold wev;rw[hm,cO];unfold pev zcall;rw[(yC n).1,hT];simp only[hl,bG];rfl
theorem wev_orders{f:Nat}{A:AF}(hT:B.T f=some A)(hm:ms f=true)(n:Nat)(args:List D)(hl:Nat.beq args.length A.np=true){p:D×Bool}
  (h:∀r∈bC (lw B ps ms k m n) (zN (lw B ps ms k m n) k m).fn k A.body (start args st0 0),pout (zbody (zN (lw B ps ms k m n) k m).df A r)=some p) :
  wev ms k m (lw B ps ms k m n) f args=some p:=by
 unfold wev;rw[hm,bG];exact bev_eq ⟨A,by grind [yC],hl,h⟩
end
end
end Zv
namespace Zv
open Go Go.Sort
def row2?:List D→Option (List (Int×Int))
 | []=>some []
 | .int .i64 a :: .int .i64 b::r=>(row2? r).map ((a,b) :: ·)
 | _=>none
def en2:List (Int×Int)→List D
 | []=>[]
 | p::r=>.int .i64 p.1 :: .int .i64 p.2::en2 r
theorem row2_en:∀{cs:List D} {l:List (Int×Int)},row2? cs=some l→cs=en2 l
 | [],l,h=>by simp[row2?]at h;subst h;rfl
 | [d],l,h=>by grind [row2?]
 | d::e::r,l,h=>by
  unfold row2? at h;split at h
  ·grind
  ·rename_i a b r' h0;cases h0;simp only[aT]at h;obtain⟨l',h1,rfl⟩:=h;rw[row2_en h1];rfl
  ·cases h
theorem en2_row:∀(l:List (Int×Int)),row2? (en2 l)=some l
 | []=>rfl
 | p::r=>by simp only[en2,row2?,en2_row r,bR]
theorem jU:∀(l:List (Int×Int)),(en2 l).length=2*l.length
 | []=>rfl
 | p::r=>by simp only[en2,aO,jU r];omega
theorem en2_nag:∀(l:List (Int×Int)),(en2 l).any eG=false
 | []=>rfl
 | p::r=>by simp only[en2,List.any_cons,en2_nag r];rfl
def cAt:List (Int×Int)→Nat→Int
 | [],_=>0
 | p::_,0=>p.1
 | p::_,1=>p.2
 | _::r,t+2=>cAt r t
theorem en2_get:∀(l:List (Int×Int)) (t:Nat),t<2*l.length→(en2 l)[t]?=some (.int .i64 (cAt l t))
 | [],t,h=>by simp at h
 | p::r,0,h=>rfl
 | p::r,1,h=>rfl
 | p::r,t+2,h=>by
  simp only[aO]at h;simpa[en2,cAt]using en2_get r t (by omega)
def nX(x:Int×Int):List Value:=[.int .i64 x.1,.int .i64 x.2]
theorem cAt_get:∀(l:List (Int×Int)) (t:Nat),t<2*l.length→(nX (l.toArray[t / 2]!))[t % 2]! = .int .i64 (cAt l t)
 | [],t,h=>by simp at h
 | p::r,0,h=>by simp[nX,cAt]
 | p::r,1,h=>by simp[nX,cAt]
 | p::r,t+2,h=>by
  simp only[aO]at h;have ih:=cAt_get r t (by omega)
  grind [cAt]
theorem flat_get(l:List (Int×Int))(t:Nat)(h:t<2*l.length):(flatK nX 2 l.toArray)[t]! = .int .i64 (cAt l t):=by
 grind [get_flatK,cAt_get]
def insP(x:Int×Int):List (Int×Int)→List (Int×Int)
 | []=>[x]
 | y::r=>if x.1<y.1 then x::y::r else y::insP x r
def fA:List (Int×Int)→List (Int×Int)
 | []=>[]
 | x::r=>insP x (fA r)
theorem insP_perm(x:Int×Int):∀l,(insP x l).Perm (x::l)
 | []=>.refl _
 | y::r=>by
  unfold insP;split
  ·exact .refl _
  ·exact((insP_perm x r).cons y).trans (.swap x y r)
theorem gL:∀l,(fA l).Perm l
 | []=>.refl _
 | x::r=>(insP_perm x _).trans ((gL r).cons x)
def Asc(l:List (Int×Int)):Prop:=l.Pairwise fun a b=>a.1<b.1
theorem insP_asc(x:Int×Int):∀{l:List (Int×Int)},Asc l→(∀y∈l,y.1≠x.1)→Asc (insP x l)
 | [],_,_=>by simp[insP,Asc]
 | y::r,h,hn=>by
  unfold insP;have h':=List.pairwise_cons.1 h;split
  ·rename_i zQ;refine List.pairwise_cons.2 ⟨fun z hz=>?_,h⟩
   grind
  ·rename_i zQ;refine List.pairwise_cons.2 ⟨fun z hz=>?_,insP_asc x h'.2 fun z hz=>hn z (by simp[hz])⟩
   grind [insP_perm]
theorem nD:∀{l:List (Int×Int)},(l.map Prod.fst).Nodup→Asc (fA l)
 | [],_=>List.Pairwise.nil
 | x::r,h=>by
  rw[bS,List.nodup_cons]at h;refine insP_asc x (nD h.2) fun y hy e=>h.1 ?_
  grind [List.mem_map_of_mem,gL]
theorem asc_unique:∀{l l':List (Int×Int)},Asc l→Asc l'→l.Perm l'→l=l':=fun {l l'} h h' hp=>
 hp.eq_of_pairwise (fun a b _ _ h1 h2=>by omega) h h'
theorem sorted_is{l d:List (Int×Int)}(hn:(l.map Prod.fst).Nodup)(hp:d.Perm l)(hs:d.Pairwise fun a b=>¬b.1<a.1):d=fA l:=by
 have Ij:(d.map Prod.fst).Nodup:=(hp.map Prod.fst).nodup_iff.2 hn;refine asc_unique ?_ (nD hn) (hp.trans (gL l).symm);have h2:d.Pairwise fun a b=>a.1≠b.1:=List.pairwise_map.1 Ij
 exact hs.imp₂ (fun a b h1 h2=>by omega) h2
theorem setAt_get{α:Type}:∀(ds cs:List α) (off i:Nat),(fJ cs off ds)[i]?=if off≤i∧i<off+ds.length∧i<cs.length then ds[i-off]? else cs[i]?
 | [],cs,off,i=>by grind [fJ,aX]
 | d::ds,cs,off,i=>by
  simp only[fJ];rw[setAt_get ds _ (off+1) i,List.length_set,aO]
  grind
theorem tK(off:Nat)(F vs:Array Value)(h:off+F.size≤vs.size):(putCells id off F vs).toList=fJ vs.toList off F.toList:=by
 apply List.ext_getElem?;intro i;rw[setAt_get];simp only[Array.getElem?_toList,putCells,Array.getElem?_mapIdx,gZ]
 grind
noncomputable section
def own2:D→Option (Nat×Nat×Nat)
 | .ms nm off 2 len _=>some (nm,off,len)
 | .gs nm off 2 (len+1)=>some (nm,off,len+1)
 | _=>none
def sortSt(s:St)(nm off len:Nat):Option St:=match sget s nm with
 | some blk=>match eR blk with
  | some cs=>match row2? ((cs.drop off).take (2*len)) with
   | some l=>if(l.map Prod.fst).Nodup∧l.length=len∧len<4611686018427387904 then(stB blk off (en2 (fA l))).map fun b=>sset s nm b else none
   | none=>none
  | none=>none
 | none=>none
def spSort(g:Nat)(args:List D)(s:St)(c:Nat):FR:=
 match args with
 | [a,.fn (.func g') [] []]=>bif Nat.beq g' g then
   match own2 a with
   | some p=>match sortSt s p.1 p.2.1 p.2.2 with
    | some s'=>.ok (.ret (.tup [])) s' c
    | none=>.no
   | none=>.no
  else .no
 | _=>.no
theorem sort_spec{E:Env}{f g:Nat}(hcf:callable E.P f=true)
  (Gs:∀(l:List (Int×Int)) (b off cap:Nat) (w:World),HoldsK nX 2 w b off l.toArray→b<w.heap.size→l.length<4611686018427387904 →
   Calls E.P f #[.slice (some ⟨b,off,none⟩) l.length cap,.func (.func g) #[] #[]] w fun e w'=>e = .returned (.tuple #[])∧∃(d:List (Int×Int)) (n:Nat) (os:Array Obj),d.Perm l∧(d.Pairwise fun a b=>¬b.1<a.1)∧w'=Go.Proofs.sortWorldK nX 2 w b off n d.toArray os) :
  SpOK E f (spSort g):=by
 intro M0 w0 μ w s c args vals o s' c' h hv hs;refine⟨hcf,?_⟩;unfold spSort at hs;split at hs
 ·rename_i a g';cases hg:Nat.beq g' g<;>rw[hg]at hs
  ·cases hs
  have:=bH hg;subst this;simp only[bG]at hs;split at hs
  ·rename_i p hp;obtain⟨nm,off,len⟩:=p;split at hs
   ·rename_i s1 Ax;cases hs;simp only[bI]at hv;obtain⟨v,r,rfl,Ds,v2,r2,rfl,hv2,rfl⟩:=hv;obtain⟨va,vb,rfl,h1,h2⟩:∃va vb,v2 = .func (.func g') va vb∧va.toList=[]∧vb.toList=[]:=by
     grind [aY,bI]
    have e1:va = #[]:=Array.ext' h1;have e2:vb = #[]:=Array.ext' h2;subst e1 e2;obtain⟨loc,b,cap,hl,Be,rfl⟩:∃loc b cap,μ nm=some loc∧loc.blk=some b∧v = .slice (some ⟨b,off,none⟩) len cap:=by
     unfold own2 at hp;split at hp
     ·grind [aY]
     ·cases hp;simp only[aY]at Ds;obtain⟨loc,cap,q1,q3,q4,q5,q6⟩:=Ds;cases hb:loc.blk with
      | none=>grind
      | some b=>grind
     ·cases hp
    unfold sortSt at Ax;split at Ax
    ·rename_i blk Pg;split at Ax
     ·rename_i cs Fc;split at Ax
      ·rename_i l Kf;split at Ax
       ·rename_i zT;obtain⟨Es,zU,Et⟩:=zT;dsimp only at zU Et Kf;simp only[aT]at Ax;obtain⟨Bt,zZ,rfl⟩:=Ax;subst zU;dsimp only at zZ Pg;obtain⟨l',q1,_,q3⟩:=nL h hl Pg Fc;rw[hl]at q1;cases q1;obtain⟨hMb,hbw,vs,e,fz,Bc,hth,Ac,Wj,Mb⟩:=q3 b Be;have zW:=row2_en Kf;have hlens:off+2*l.length≤cs.length∨l.length=0:=by
         have:=congrArg List.length zW;rw[jU,eI,gP]at this;omega
        have Ir:∀t,t<2*l.length→vs[off+t]?=some (.int .i64 (cAt l t)):=fun t ht=>by
         have h1:cs[off+t]?=some (.int .i64 (cAt l t)):=by
          have:=en2_get l t ht;rw[←zW,List.getElem?_take,aS ht,List.getElem?_drop]at this;exact this
         have zQ:off+t<cs.length:=by omega
         have h2:(vs.toList.take cs.length)[off+t]?=some vs[off+t]:=by
          grind
         have:=Mb.at h1 h2
         grind [aY,Array.getElem?_eq_getElem]
        have Wv:HoldsK nX 2 w b off l.toArray:=fun j hj=>by
         rw[size_flatK]at hj;have Ml:j<2*l.length:=by rw[List.size_toArray]at hj;omega
         refine⟨?_,?_⟩
         ·grind [flat_get,World.cell?]
         ·simp only[World.frozen?,Bc];have:=hth (off+j) (by omega)
          grind
        refine(Gs l b off cap w Wv hbw Et).mono ?_;rintro e' w' ⟨rfl,d,n,os,Md,hpw,rfl⟩;have hd:=sorted_is Es Md hpw;subst hd;have Mc:(fA l).length=l.length:=(gL l).length_eq;have hF:(flatK nX 2 (fA l).toArray).size=2*l.length:=by rw[size_flatK,List.size_toArray,Mc];omega
        have Si:off+(flatK nX 2 (fA l).toArray).size≤vs.size∨l.length=0:=by rw[hF];omega
        -- the world in which the row lies in order
        have Ka:(Go.Sort.putRowK nX 2 (Go.Sort.ahead w n) b off (fA l).toArray).heap=w.heap.modify b (onCells (putCells id off (flatK nX 2 (fA l).toArray))):=rfl;have g2:(Go.Sort.putRowK nX 2 (Go.Sort.ahead w n) b off (fA l).toArray).heap.size=w.heap.size:=by grind
        have g3:(Go.Sort.putRowK nX 2 (Go.Sort.ahead w n) b off (fA l).toArray).heap[b]?=some (.cells (putCells id off (flatK nX 2 (fA l).toArray) vs) e fz):=by
         rw[Ka,Array.getElem?_modify,aS rfl,Bc];rfl
        have g4:∀k,k≠b→(Go.Sort.putRowK nX 2 (Go.Sort.ahead w n) b off (fA l).toArray).heap[k]?=w.heap[k]?:=fun k hk=>by
         grind
        have g5:(putCells id off (flatK nX 2 (fA l).toArray) vs).size=vs.size:=by simp[putCells]
        have hus:∀{M:Nat→Prop} {w':World} {μ':Mu},bI M w' μ' (en2 (fA l)) (flatK nX 2 (fA l).toArray).toList:=fun {M w' μ'}=>
         bI.mk (by grind [jU,gZ]) fun i d v hd hv=>by
          have hi:i<2*(fA l).length:=by rw[←jU];exact(dE.1 hd).1
          rw[en2_get _ _ hi]at hd;cases hd;have hf:=flat_get (fA l) i hi
          grind [Array.getElem?_eq_getElem,aY]
        have Jo:=en2_nag (fA l);have Pe:(en2 (fA l)).length=2*l.length:=by rw[jU,Mc]
        have Bd:(sget s nm).isSome=true:=by rw[Pg];rfl
        have hw:∀(Bt:Blk),(Ext (Mm M0 μ) w (Mm M0 μ) (Go.Sort.putRowK nX 2 (Go.Sort.ahead w n) b off (fA l).toArray)→rV E.P (Mm M0 μ) (Go.Sort.putRowK nX 2 (Go.Sort.ahead w n) b off (fA l).toArray) μ nm Bt) →
          uP E M0 w0 μ w c s (.ret (.tup [])) (sset s nm Bt) c (.returned (.tuple #[])) (Go.Proofs.sortWorldK nX 2 w b off n (fA l).toArray os):=fun Bt hB=>by
         obtain⟨hx,hR,hF1⟩:=Rel.write (show Rel E M0 w0 0 μ ⟨#[],[]⟩ w ⟨.ls [],s,c,[],none⟩from h) nm Bt loc b (x':=⟨.ls [],sset s nm Bt,c,[],none⟩) hl Be Bd g2 g4 (fun _=>rfl) (fun k=>by rw[aU]) rfl rfl hB
         obtain⟨hR2,hF2⟩:=Rel.more hR (w':=Go.Proofs.sortWorldK nX 2 w b off n (fA l).toArray os) (by
          show _≤(_++os).size
          grind) ⟨rfl,rfl⟩ (fun q hq=>by
          show(_++os)[q]?=_
          grind)
         exact⟨μ,hR2,hF1.trans hF2,_,rfl,by grind [aY,bI]⟩
        unfold stB at zZ;rw[Jo,cO]at zZ;have hB0:=h.st nm blk loc hl Pg;cases blk with
        | fix ty cs0=>
         simp only[eR,aD]at Fc;subst Fc;cases Gn:Nat.ble (off+(en2 (fA l)).length) cs0.length<;>simp only[Gn,bG,cO,reduceCtorEq,aD]at zZ
         subst zZ;have Oy:=cU Gn;rw[Pe]at Oy;obtain⟨l2,b2,vs2,e2,Tf,p1,p2,p3,p4,p5,p6,p7,p8⟩:=hB0;rw[hl]at p1;cases p1;rw[Be]at p2;cases p2;rw[Bc]at p5;cases p5;exact hw (.fix ty (fJ cs0 off (en2 (fA l)))) fun hx=>⟨loc,b,_,e,fz,hl,Be,by grind [jA],p4,g3,by grind,by
          rw[tK _ _ _ (by rw[hF];omega)]
          exact bI.setAt off (bI.mono hx _ _ (gJ.refl _) p7) hus,p8⟩
        | grow ty cs0=>
         simp only[eR,aD]at Fc;subst Fc;cases Gn:Nat.ble (off+(en2 (fA l)).length) cs0.length<;>simp only[Gn,bG,cO,reduceCtorEq,aD]at zZ
         subst zZ;have Oy:=cU Gn;rw[Pe]at Oy;obtain⟨l2,p1,hh⟩:=hB0;rw[hl]at p1;cases p1;rcases hh with⟨p2,_⟩|⟨b2,vs2,e2,Tf,p2,p4,p5,p6,p7,p8,p9,p10⟩
         ·grind
         rw[Be]at p2;cases p2;rw[Bc]at p5;cases p5;exact hw (.grow ty (fJ cs0 off (en2 (fA l)))) fun hx=>⟨loc,hl,.inr ⟨b,_,e,fz,Be,p4,g3,by grind,by omega,by grind [jA],by
          rw[tK _ _ _ (by rw[hF];omega),jA,rB _ _ _ _ (by grind)]
          exact bI.setAt off (bI.mono hx _ _ (gJ.refl _) p9) hus,p10⟩⟩
        | _=>grind
       ·cases Ax
      ·cases Ax
     ·cases Ax
    ·cases Ax
   ·cases hs
  ·cases hs
 ·cases hs
end
end Zv
