/- Contracts of functions over this translation. No conditions. -/
import Derived.Test.YtegpahkgmealkaaGreatDoorTB
import Derived.KernelRfl
set_option linter.unusedVariables false
set_option linter.unusedSimpArgs false
namespace Go.Proofs.YtegpahkgmealkaaGreatDoor
open Go.Ev
set_option maxRecDepth 1000000
noncomputable section
def A(l m:LU):LU:=List.rec m (fun h _ r=>h::r) l
def S(l:LU):AV:=.str l
def Z:AV:=.sl 0 []
def d19:LU:=[123,34,95,116,121,112,101,34,58,34]
def d15:LU:=[49,57,55,48,45,48,49,45,48,49,84,48,48,58,48,48,58,48,57,90]
def d9:LU:=A [34,44,34,101,120,112,105,114,101,115,34,58,34] (A d15 [34,44,34])
def d2:LU:=[50,57,55,51,100,53,51,54,52,49,56,53,99,48,52,57,52,49,51,102,54,57,49,99,48,53,55,51,50,99,50,55,98,52,101,101,56,50,99,97,48,98,52,98,51,99,51,51,57,56,98,49,48,50,50,97,57,55,102,53,49,53,53,55]
def d13:LU:=[34,44,34,115,99,104,101,109,101,34,58,34,104,109,97,99,45,115,104,97,50,53,54,34,125]
def d1:LU:=[101,55,102,54,51,55,49,51,49,99,54,49,98,101,101,99,101,100,57,97,51,48,99,98,99,97,101,54,55,99,48,99,99,101,98,51,98,52,57,98,49,99,100,100,102,98,51,97,54,102,97,101,56,50,49,51,54,98,97,54,97,53,97,100]
def d16:LU:=[34,93,44,34,116,104,114,101,115,104,111,108,100,34,58,49,125]
def d12:LU:=A [34,58,123,34,107,101,121,105,100,115,34,58,91,34] (A d1 d16)
def d18:LU:=[125,44,34,118,101,114,115,105,111,110,34,58]
def d0:LU:=A d19 (A [114,111,111,116] (A d9 (A [107,101,121,115,34,58,123,34] (A d2 (A [34,58,123,34,112,117,98,108,105,99,34,58,34,48,49] (A d13 (A [44,34] (A d1 (A [34,58,123,34,112,117,98,108,105,99,34,58,34,48,48] (A d13 (A [125,44,34,114,111,108,101,115,34,58,123,34,114,111,111,116] (A d12 (A [44,34,115,110,97,112,115,104,111,116,34,58,123,34,107,101,121,105,100,115,34,58,91,34] (A d2 (A d16 (A [44,34,116,97,114,103,101,116,115] (A d12 (A d18 [49,125]))))))))))))))))))
def d3:LU:=A d19 (A [116,97,114,103,101,116,115] (A d9 (A [116,97,114,103,101,116,115,34,58,123] (A d18 [50,125]))))
def d4:LU:=[52,48,57,100,50,51,98,53,102,50,56,48,57,101,56,100,102,49,53,55,99,52,97,99,99,55,99,57,57,50,50,56,56,55,56,99,50,54,52,97,101,53,100,100,49,52,99,102,100,56,97,57,101,56,54,56,53,101,48,101,52,99,50,51]
def d5:LU:=[98,100,48,55,55,49,97,51,51,99,98,99,55,101,55,55,56,48,52,102,52,53,48,97,97,48,101,50,99,99,57,51,97,102,56,56,49,54,53,56,101,49,97,102,56,56,52,101,97,97,49,50,50,54,53,53,55,101,49,54,56,54,55,57]
def d6:LU:=[55,56,99,52,48,49,57,48,97,99,53,98,99,102,101,98,101,102,54,98,48,49,54,49,97,98,57,57,97,99,102,48,56,98,57,50,98,57,56,51,97,48,97,55,52,53,54,100,54,97,100,100,50,100,49,100,52,48,52,97,52,55,51,49]
def d7:LU:=A d19 (A [115,110,97,112,115,104,111,116] (A d9 (A [109,101,116,97,34,58,123] (A d18 [49,125]))))
def d8:LU:=[54,49,51,100,97,100,48,55,48,97,52,98,54,97,56,98,102,55,55,57,101,53,52,48,54,98,57,56,52,51,55,53,100,100,98,52,98,97,99,97,50,56,101,56,55,48,49,99,97,98,48,102,56,102,54,55,99,98,54,98,48,49,100,51]
def d14:LU:=[123,34,115,105,103,110,97,116,117,114,101,115,34,58,91,123,34,107,101,121,105,100,34,58,34]
def d10:LU:=A d14 (A d1 [34,44,34,115,105,103,34,58,34])
def d11:LU:=A d14 (A d2 [34,44,34,115,105,103,34,58,34])
def d17:LU:=[34,125,93,44,34,115,105,103,110,101,100,34,58]
def s0:LU:=[104,109,97,99,45,115,104,97,50,53,54]
def s1:LU:=d1
def s2:LU:=d15
def s3:LU:=d3
def s4:LU:=[115,105,103,110,97,116,117,114,101,115]
def s5:LU:=d4
def s6:LU:=A d10 (A d4 (A d17 (A d3 [125])))
def s7:LU:=d2
def s8:LU:=[116,104,114,101,115,104,111,108,100]
def s9:LU:=d0
def s10:LU:=d5
def s11:LU:=A d10 (A d5 (A d17 (A d0 [125])))
def s12:LU:=d6
def s13:LU:=A d11 (A d6 (A d17 (A d0 [125])))
def s14:LU:=d7
def s15:LU:=d8
def s16:LU:=A d11 (A d8 (A d17 (A d7 [125])))
def Q0:MM:=M0
def a0:LA:=[(.agg [S s0,S [48,48]])]
def v0:AV:=(.tup [S s1,vi 0])
def Q1:MM:=iK Q0 46 a0 v0
def x0:AV:=(.agg [vi 2,vi 9,Z,Z,Z,vi 0,Z,vi 0,ve])
def a1:LA:=[x0]
def v1:AV:=(.bool true)
def Q2:MM:=iK Q1 93 a1 v1
def x1:AV:=(S [95,116,121,112,101])
def x2:AV:=(S [101,120,112,105,114,101,115])
def x3:AV:=(S [116,97,114,103,101,116,115])
def x4:AV:=(S [118,101,114,115,105,111,110])
def x5:AV:=(.sl 4 [x1,x2,x3,x4])
def x6:AV:=(.sl 4 [vu 3,vi 0,x3,Z,Z,vu 3,vi 0,S s2,Z,Z,vu 5,vi 0,ve,Z,Z,vu 2,vi 2,ve,Z,Z])
def x7:AV:=(.agg [vu 5,vi 0,ve,x5,x6])
def a2:LA:=[x7]
def v2:AV:=(.tup [S s3,vi 0])
def Q3:MM:=iK Q2 87 a2 v2
def a3:LA:=[S [0],S s3]
def v3:AV:=(S [64,157,35,181,242,128,158,141,241,87,196,172,199,201,146,40,135,140,38,74,229,221,20,207,216,169,232,104,94,14,76,35])
def Q4:MM:=iK Q3 91 a3 v3
def x8:AV:=(S [115,105,103,110,101,100])
def x9:AV:=(.sl 2 [S s4,x8])
def x10:AV:=(S [107,101,121,105,100])
def x11:AV:=(.sl 2 [x10,S [115,105,103]])
def x12:AV:=(.sl 2 [vu 3,vi 0,S s1,Z,Z,vu 3,vi 0,S s5,Z,Z])
def x13:AV:=(.sl 1 [vu 5,vi 0,ve,x11,x12])
def x14:AV:=(.sl 2 [vu 4,vi 0,ve,Z,x13,vu 5,vi 0,ve,x5,x6])
def x15:AV:=(.agg [vu 5,vi 0,ve,x9,x14])
def a4:LA:=[x15]
def v4:AV:=(.tup [S s6,vi 0])
def Q5:MM:=iK Q4 87 a4 v4
def a5:LA:=[x7,(.sl 1 [S s0,S [48,48]])]
def v5:AV:=(S s6)
def Q6:MM:=iK Q5 20 a5 v5
def a6:LA:=[]
def x16:AV:=(.func (.func rf) [] [])
def x17:AV:=(.func (.func wL) [] [])
def v6:AV:=(.agg (cqR 34 .nilFunc ((.func (.func wK) [] [])::cqR 8 .nilFunc (x16::(.func (.func xO) [] [])::x16::x16::.nilFunc::cqR 10 x16 ((.func (.func xN) [] [])::cqR 32 .nilFunc ((.func (.func xP) [] [])::.nilFunc::(.func (.func zY) [] [])::.nilFunc::.nilFunc::.nilFunc::cqR 26 x17 ((.func (.func zZ) [] [])::.nilFunc::(.func (.func Aa) [] [])::cqR 130 .nilFunc [])))))))
def Q7:MM:=iK Q6 249 a6 v6
def a7:LA:=[S s6,vi 24]
def v7:AV:=(.tup [S s1,vi 90,vi 0])
def Q8:MM:=iK Q7 309 a7 v7
def a8:LA:=[S s6,vi 97]
def v8:AV:=(.tup [S s5,vi 163,vi 0])
def Q9:MM:=iK Q8 309 a8 v8
def a9:LA:=[S s6,vi 204]
def v9:AV:=(.tup [S s2,vi 226,vi 0])
def Q10:MM:=iK Q9 309 a9 v9
def a10:LA:=[S s6]
def v10:AV:=(.tup [x15,vi 0,vi 0])
def Q11:MM:=iK Q10 80 a10 v10
def a11:LA:=[x15]
def v11:AV:=(.tup [(.agg [vu 5,vi 0,ve,x5,x6,(.sl 1 [S s1,S s5])]),vi 0])
def Q12:MM:=iK Q11 81 a11 v11
def a12:LA:=[x7]
def v12:AV:=(.tup [x0,vi 0])
def Q13:MM:=iK Q12 30 a12 v12
def a13:LA:=[(.agg [S s0,S [48,49]])]
def v13:AV:=(.tup [S s7,vi 0])
def Q14:MM:=iK Q13 46 a13 v13
def x18:AV:=(.sl 2 [S s7,S s1])
def x19:AV:=(S [112,117,98,108,105,99])
def x20:AV:=(S [115,99,104,101,109,101])
def x21:AV:=(.sl 2 [x19,x20])
def x22:AV:=(.sl 2 [vu 3,vi 0,S [48,49],Z,Z,vu 3,vi 0,S s0,Z,Z])
def x23:AV:=(.sl 2 [vu 3,vi 0,S [48,48],Z,Z,vu 3,vi 0,S s0,Z,Z])
def x24:AV:=(.sl 2 [vu 5,vi 0,ve,x21,x22,vu 5,vi 0,ve,x21,x23])
def a14:LA:=[(.agg [vu 5,vi 0,ve,x18,x24])]
def x25:AV:=(.sl 2 [S s0,S [48,49],S s0,S [48,48]])
def v14:AV:=(.tup [x25,vi 0])
def Q15:MM:=iK Q14 59 a14 v14
def x26:AV:=(.agg [vi 1,vi 9,x25,vi 1,(.sl 1 [S s1]),vi 1,(.sl 1 [S s7]),vi 1,(.sl 1 [S s1])])
def a15:LA:=[x26]
def x27:AV:=(S [114,111,108,101,115])
def x28:AV:=(.sl 5 [x1,x2,S [107,101,121,115],x27,x4])
def x29:AV:=(S [115,110,97,112,115,104,111,116])
def x30:AV:=(.sl 3 [S [114,111,111,116],x29,x3])
def x31:AV:=(S [107,101,121,105,100,115])
def x32:AV:=(.sl 2 [x31,S s8])
def x33:AV:=(.sl 1 [vu 3,vi 0,S s1,Z,Z])
def x34:AV:=(.sl 2 [vu 4,vi 0,ve,Z,x33,vu 2,vi 1,ve,Z,Z])
def x35:AV:=(.sl 1 [vu 3,vi 0,S s7,Z,Z])
def x36:AV:=(.sl 2 [vu 4,vi 0,ve,Z,x35,vu 2,vi 1,ve,Z,Z])
def x37:AV:=(.sl 3 [vu 5,vi 0,ve,x32,x34,vu 5,vi 0,ve,x32,x36,vu 5,vi 0,ve,x32,x34])
def x38:AV:=(.sl 5 [vu 3,vi 0,S [114,111,111,116],Z,Z,vu 3,vi 0,S s2,Z,Z,vu 5,vi 0,ve,x18,x24,vu 5,vi 0,ve,x30,x37,vu 2,vi 1,ve,Z,Z])
def x39:AV:=(.agg [vu 5,vi 0,ve,x28,x38])
def v15:AV:=(.tup [x39,vi 0])
def Q16:MM:=iK Q15 23 a15 v15
def a16:LA:=[(.agg [vu 5,vi 0,ve,x9,(.sl 2 [vu 4,vi 0,ve,Z,Z,vu 5,vi 0,ve,x28,x38])])]
def v16:AV:=(.bool true)
def Q17:MM:=iK Q16 67 a16 v16
def a17:LA:=[x39]
def v17:AV:=(.bool true)
def Q18:MM:=iK Q17 67 a17 v17
def a18:LA:=[x39]
def v18:AV:=(.tup [S s9,vi 0])
def Q19:MM:=iK Q18 87 a18 v18
def a19:LA:=[S [0],S s9]
def v19:AV:=(S [189,7,113,163,60,188,126,119,128,79,69,10,160,226,204,147,175,136,22,88,225,175,136,78,170,18,38,85,126,22,134,121])
def Q20:MM:=iK Q19 91 a19 v19
def x40:AV:=(.sl 2 [vu 3,vi 0,S s1,Z,Z,vu 3,vi 0,S s10,Z,Z])
def x41:AV:=(.sl 1 [vu 5,vi 0,ve,x11,x40])
def x42:AV:=(.sl 2 [vu 4,vi 0,ve,Z,x41,vu 5,vi 0,ve,x28,x38])
def x43:AV:=(.agg [vu 5,vi 0,ve,x9,x42])
def a20:LA:=[x43]
def v20:AV:=(.bool true)
def Q21:MM:=iK Q20 67 a20 v20
def a21:LA:=[x43]
def v21:AV:=(.tup [S s11,vi 0])
def Q22:MM:=iK Q21 87 a21 v21
def a22:LA:=[S s11,vi 24]
def v22:AV:=(.tup [S s1,vi 90,vi 0])
def Q23:MM:=iK Q22 309 a22 v22
def a23:LA:=[S s11,vi 97]
def v23:AV:=(.tup [S s10,vi 163,vi 0])
def Q24:MM:=iK Q23 309 a23 v23
def a24:LA:=[S s11,vi 201]
def v24:AV:=(.tup [S s2,vi 223,vi 0])
def Q25:MM:=iK Q24 309 a24 v24
def a25:LA:=[S s11,vi 232]
def v25:AV:=(.tup [S s7,vi 298,vi 0])
def Q26:MM:=iK Q25 309 a25 v25
def a26:LA:=[S s11,vi 338]
def v26:AV:=(.tup [S s1,vi 404,vi 0])
def Q27:MM:=iK Q26 309 a26 v26
def a27:LA:=[S s11,vi 472]
def v27:AV:=(.tup [S s1,vi 538,vi 0])
def Q28:MM:=iK Q27 309 a27 v27
def a28:LA:=[S s11,vi 577]
def v28:AV:=(.tup [S s7,vi 643,vi 0])
def Q29:MM:=iK Q28 309 a28 v28
def a29:LA:=[S s11,vi 681]
def v29:AV:=(.tup [S s1,vi 747,vi 0])
def Q30:MM:=iK Q29 309 a29 v29
def a30:LA:=[S s11]
def v30:AV:=(.tup [x43,vi 0,vi 0])
def Q31:MM:=iK Q30 80 a30 v30
def a31:LA:=[x43]
def v31:AV:=(.tup [(.agg [vu 5,vi 0,ve,x28,x38,(.sl 1 [S s1,S s10])]),vi 0])
def Q32:MM:=iK Q31 81 a31 v31
def a32:LA:=[(.agg [vu 5,vi 0,ve,x30,x37])]
def v32:AV:=(.tup [(.agg [vi 1,(.sl 1 [S s1]),vi 1,(.sl 1 [S s7]),vi 1,(.sl 1 [S s1])]),vi 0])
def Q33:MM:=iK Q32 110 a32 v32
def a33:LA:=[x39]
def v33:AV:=(.tup [x26,vi 0])
def Q34:MM:=iK Q33 61 a33 v33
def a34:LA:=[S [1],S s9]
def v34:AV:=(S [120,196,1,144,172,91,207,235,239,107,1,97,171,153,172,240,139,146,185,131,160,167,69,109,106,221,45,29,64,74,71,49])
def Q35:MM:=iK Q34 91 a34 v34
def x44:AV:=(.sl 2 [vu 3,vi 0,S s7,Z,Z,vu 3,vi 0,S s12,Z,Z])
def x45:AV:=(.sl 1 [vu 5,vi 0,ve,x11,x44])
def x46:AV:=(.sl 2 [vu 4,vi 0,ve,Z,x45,vu 5,vi 0,ve,x28,x38])
def x47:AV:=(.agg [vu 5,vi 0,ve,x9,x46])
def a35:LA:=[x47]
def v35:AV:=(.bool true)
def Q36:MM:=iK Q35 67 a35 v35
def a36:LA:=[x47]
def v36:AV:=(.tup [S s13,vi 0])
def Q37:MM:=iK Q36 87 a36 v36
def a37:LA:=[S s13,vi 24]
def v37:AV:=(.tup [S s7,vi 90,vi 0])
def Q38:MM:=iK Q37 309 a37 v37
def a38:LA:=[S s13,vi 97]
def v38:AV:=(.tup [S s12,vi 163,vi 0])
def Q39:MM:=iK Q38 309 a38 v38
def a39:LA:=[S s13,vi 201]
def v39:AV:=(.tup [S s2,vi 223,vi 0])
def Q40:MM:=iK Q39 309 a39 v39
def a40:LA:=[S s13,vi 232]
def v40:AV:=(.tup [S s7,vi 298,vi 0])
def Q41:MM:=iK Q40 309 a40 v40
def a41:LA:=[S s13,vi 338]
def v41:AV:=(.tup [S s1,vi 404,vi 0])
def Q42:MM:=iK Q41 309 a41 v41
def a42:LA:=[S s13,vi 472]
def v42:AV:=(.tup [S s1,vi 538,vi 0])
def Q43:MM:=iK Q42 309 a42 v42
def a43:LA:=[S s13,vi 577]
def v43:AV:=(.tup [S s7,vi 643,vi 0])
def Q44:MM:=iK Q43 309 a43 v43
def a44:LA:=[S s13,vi 681]
def v44:AV:=(.tup [S s1,vi 747,vi 0])
def Q45:MM:=iK Q44 309 a44 v44
def a45:LA:=[S s13]
def v45:AV:=(.tup [x47,vi 0,vi 0])
def Q46:MM:=iK Q45 80 a45 v45
def a46:LA:=[x47]
def v46:AV:=(.tup [(.agg [vu 5,vi 0,ve,x28,x38,(.sl 1 [S s7,S s12])]),vi 0])
def Q47:MM:=iK Q46 81 a46 v46
def x48:AV:=(.sl 4 [x1,x2,S [109,101,116,97],x4])
def x49:AV:=(.sl 4 [vu 3,vi 0,x29,Z,Z,vu 3,vi 0,S s2,Z,Z,vu 5,vi 0,ve,Z,Z,vu 2,vi 1,ve,Z,Z])
def x50:AV:=(.agg [vu 5,vi 0,ve,x48,x49])
def a47:LA:=[x50]
def v47:AV:=(.tup [S s14,vi 0])
def Q48:MM:=iK Q47 87 a47 v47
def a48:LA:=[S [1],S s14]
def v48:AV:=(S [97,61,173,7,10,75,106,139,247,121,229,64,107,152,67,117,221,180,186,202,40,232,112,28,171,15,143,103,203,107,1,211])
def Q49:MM:=iK Q48 91 a48 v48
def x51:AV:=(.sl 2 [vu 3,vi 0,S s7,Z,Z,vu 3,vi 0,S s15,Z,Z])
def x52:AV:=(.sl 1 [vu 5,vi 0,ve,x11,x51])
def x53:AV:=(.sl 2 [vu 4,vi 0,ve,Z,x52,vu 5,vi 0,ve,x48,x49])
def x54:AV:=(.agg [vu 5,vi 0,ve,x9,x53])
def a49:LA:=[x54]
def v49:AV:=(.tup [S s16,vi 0])
def Q50:MM:=iK Q49 87 a49 v49
def a50:LA:=[x50,(.sl 1 [S s0,S [48,49]])]
def v50:AV:=(S s16)
def Q51:MM:=iK Q50 20 a50 v50
def a51:LA:=[S s16,vi 24]
def v51:AV:=(.tup [S s7,vi 90,vi 0])
def Q52:MM:=iK Q51 309 a51 v51
def a52:LA:=[S s16,vi 97]
def v52:AV:=(.tup [S s15,vi 163,vi 0])
def Q53:MM:=iK Q52 309 a52 v52
def a53:LA:=[S s16,vi 205]
def v53:AV:=(.tup [S s2,vi 227,vi 0])
def Q54:MM:=iK Q53 309 a53 v53
def a54:LA:=[S s16]
def v54:AV:=(.tup [x54,vi 0,vi 0])
def Q55:MM:=iK Q54 80 a54 v54
def a55:LA:=[x54]
def v55:AV:=(.tup [(.agg [vu 5,vi 0,ve,x48,x49,(.sl 1 [S s7,S s15])]),vi 0])
def Q56:MM:=iK Q55 81 a55 v55
def a56:LA:=[x50]
def v56:AV:=(.tup [(.agg [vi 1,vi 9,Z]),vi 0])
def Q57:MM:=iK Q56 44 a56 v56
def a57:LA:=[]
def v57:AV:=(.bool true)
def Q58:MM:=iK Q57 7 a57 v57
end
theorem l0:fF (bY CC (T0 Q0) 5000 Zq a0 []) v0=true:=by kernel_rfl
theorem l1:fF (bY CC (T0 Q1) 5000 abg a1 []) v1=true:=by kernel_rfl
theorem l2:fF (bY CC (T0 Q2) 5000 dR a2 []) v2=true:=by kernel_rfl
theorem l3:fF (bY CC (T0 Q3) 5000 vF a3 []) v3=true:=by kernel_rfl
theorem l4:fF (bY CC (T0 Q4) 5000 dR a4 []) v4=true:=by kernel_rfl
theorem l5:fF (bY CC (T0 Q5) 5000 zU a5 []) v5=true:=by kernel_rfl
theorem l6:fF (bY CC (T0 Q6) 5000 uD a6 []) v6=true:=by kernel_rfl
theorem l7:fF (bY CC (T0 Q7) 5000 bg a7 []) v7=true:=by kernel_rfl
theorem l8:fF (bY CC (T0 Q8) 5000 bg a8 []) v8=true:=by kernel_rfl
theorem l9:fF (bY CC (T0 Q9) 5000 bg a9 []) v9=true:=by kernel_rfl
theorem l10:fF (bY CC (T0 Q10) 5000 fK a10 []) v10=true:=by kernel_rfl
theorem l11:fF (bY CC (T0 Q11) 5000 ql a11 []) v11=true:=by kernel_rfl
theorem l12:fF (bY CC (T0 Q12) 5000 wM a12 []) v12=true:=by kernel_rfl
theorem l13:fF (bY CC (T0 Q13) 5000 Zq a13 []) v13=true:=by kernel_rfl
theorem l14:fF (bY CC (T0 Q14) 5000 abf a14 []) v14=true:=by kernel_rfl
theorem l15:fF (bY CC (T0 Q15) 5000 XB a15 []) v15=true:=by kernel_rfl
theorem l16:fF (bY CC (T0 Q16) 5000 mQ a16 []) v16=true:=by kernel_rfl
theorem l17:fF (bY CC (T0 Q17) 5000 mQ a17 []) v17=true:=by kernel_rfl
theorem l18:fF (bY CC (T0 Q18) 5000 dR a18 []) v18=true:=by kernel_rfl
theorem l19:fF (bY CC (T0 Q19) 5000 vF a19 []) v19=true:=by kernel_rfl
theorem l20:fF (bY CC (T0 Q20) 5000 mQ a20 []) v20=true:=by kernel_rfl
theorem l21:fF (bY CC (T0 Q21) 5000 dR a21 []) v21=true:=by kernel_rfl
theorem l22:fF (bY CC (T0 Q22) 5000 bg a22 []) v22=true:=by kernel_rfl
theorem l23:fF (bY CC (T0 Q23) 5000 bg a23 []) v23=true:=by kernel_rfl
theorem l24:fF (bY CC (T0 Q24) 5000 bg a24 []) v24=true:=by kernel_rfl
end Go.Proofs.YtegpahkgmealkaaGreatDoor
