/- Contracts. No conditions. -/
import Derived.Test.YtpikfmmkcckclaaGreatDoorTB
import Derived.KernelRfl
set_option linter.unusedVariables false
set_option linter.unusedSimpArgs false
set_option linter.defProp false
namespace Go.Proofs.YtpikfmmkcckclaaGreatDoor
open Go.Ev
set_option maxRecDepth 1000000
noncomputable section
def A(l m:LU):LU:=List.rec m (fun h _ r=>h::r) l
def S(l:LU):AV:=.str l
def Z:AV:=.sl 0 []
def d13:LU:=[123,34,95,116,121,112,101,34,58,34]
def d10:LU:=[49,57,55,48,45,48,49,45,48,49,84,48,48,58,48,49,58,52,48,90]
def d8:LU:=A [34,44,34,101,120,112,105,114,101,115,34,58,34] (A d10 [34,44,34])
def d1:LU:=[101,55,102,54,51,55,49,51,49,99,54,49,98,101,101,99,101,100,57,97,51,48,99,98,99,97,101,54,55,99,48,99,99,101,98,51,98,52,57,98,49,99,100,100,102,98,51,97,54,102,97,101,56,50,49,51,54,98,97,54,97,53,97,100]
def d9:LU:=A [34,58,123,34,107,101,121,105,100,115,34,58,91,34] (A d1 [34,93,44,34,116,104,114,101,115,104,111,108,100,34,58,49,125])
def d11:LU:=[34,118,101,114,115,105,111,110,34,58,49,125]
def d0:LU:=A d13 (A [114,111,111,116] (A d8 (A [107,101,121,115,34,58,123,34] (A d1 (A [34,58,123,34,112,117,98,108,105,99,34,58,34,48,48,34,44,34,115,99,104,101,109,101,34,58,34,104,109,97,99,45,115,104,97,50,53,54,34,125,125,44,34,114,111,108,101,115,34,58,123,34,114,111,111,116] (A d9 (A [44,34,115,110,97,112,115,104,111,116] (A d9 (A [44,34,116,97,114,103,101,116,115] (A d9 (A [125,44] d11)))))))))))
def d2:LU:=[49,55,102,57,57,99,55,57,53,99,97,53,51,100,57,57,100,54,49,102,99,57,98,54,48,51,49,56,99,54,54,49,102,51,48,50,55,97,55,50,100,49,57,52,52,56,55,49,98,54,57,48,57,98,97,49,57,56,102,57,48,57,53,56]
def d3:LU:=A d13 (A [115,110,97,112,115,104,111,116] (A d8 (A [109,101,116,97,34,58,123,34,116,97,114,103,101,116,115,46,106,115,111,110,34,58,123] (A d11 (A [125,44] d11)))))
def d4:LU:=[97,97,101,51,100,98,52,51,56,51,56,56,98,99,97,101,54,56,57,52,56,100,49,55,99,97,101,49,102,102,101,99,54,102,50,98,54,101,50,50,101,56,98,101,98,53,50,51,97,52,98,99,102,48,50,51,99,55,48,48,52,48,53,97]
def d5:LU:=A d13 (A [116,97,114,103,101,116,115] (A d8 (A [116,97,114,103,101,116,115,34,58,123,125,44] d11)))
def d6:LU:=[50,56,56,102,97,98,97,102,49,101,53,50,48,102,102,101,54,97,48,52,56,100,102,55,55,53,48,52,52,48,55,55,57,99,49,50,48,57,101,50,100,53,51,49,102,55,50,97,49,97,50,97,102,55,48,101,97,54,54,98,51,101,49,102]
def d7:LU:=A [123,34,115,105,103,110,97,116,117,114,101,115,34,58,91,123,34,107,101,121,105,100,34,58,34] (A d1 [34,44,34,115,105,103,34,58,34])
def d12:LU:=[34,125,93,44,34,115,105,103,110,101,100,34,58]
def s0:LU:=[104,109,97,99,45,115,104,97,50,53,54]
def s1:LU:=d1
def s2:LU:=d10
def s3:LU:=[116,104,114,101,115,104,111,108,100]
def s4:LU:=d0
def s5:LU:=d2
def s6:LU:=[115,105,103,110,97,116,117,114,101,115]
def s7:LU:=A d7 (A d2 (A d12 (A d0 [125])))
def s8:LU:=[116,97,114,103,101,116,115,46,106,115,111,110]
def s9:LU:=d3
def s10:LU:=d4
def s11:LU:=A d7 (A d4 (A d12 (A d3 [125])))
def s12:LU:=d5
def s13:LU:=d6
def s14:LU:=A d7 (A d6 (A d12 (A d5 [125])))
def Q0:MM:=M0
def x0:AV:=(.sl 1 [S s0,S [48,48]])
def x1:AV:=(.agg [vi 1,vi 100,x0,vi 1,(.sl 1 [S s1]),vi 1,(.sl 1 [S s1]),vi 1,(.sl 1 [S s1])])
def a0:LA:=[x1]
def x2:AV:=(S [95,116,121,112,101])
def x3:AV:=(S [101,120,112,105,114,101,115])
def x4:AV:=(S [114,111,108,101,115])
def x5:AV:=(S [118,101,114,115,105,111,110])
def x6:AV:=(.sl 5 [x2,x3,S [107,101,121,115],x4,x5])
def x7:AV:=(S [112,117,98,108,105,99])
def x8:AV:=(S [115,99,104,101,109,101])
def x9:AV:=(.sl 2 [x7,x8])
def x10:AV:=(.sl 2 [vu 3,vi 0,S [48,48],Z,Z,vu 3,vi 0,S s0,Z,Z])
def x11:AV:=(.sl 1 [vu 5,vi 0,ve,x9,x10])
def x12:AV:=(S [115,110,97,112,115,104,111,116])
def x13:AV:=(S [116,97,114,103,101,116,115])
def x14:AV:=(.sl 3 [S [114,111,111,116],x12,x13])
def x15:AV:=(S [107,101,121,105,100,115])
def x16:AV:=(.sl 2 [x15,S s3])
def x17:AV:=(.sl 1 [vu 3,vi 0,S s1,Z,Z])
def x18:AV:=(.sl 2 [vu 4,vi 0,ve,Z,x17,vu 2,vi 1,ve,Z,Z])
def x19:AV:=(.sl 3 [vu 5,vi 0,ve,x16,x18,vu 5,vi 0,ve,x16,x18,vu 5,vi 0,ve,x16,x18])
def x20:AV:=(.sl 5 [vu 3,vi 0,S [114,111,111,116],Z,Z,vu 3,vi 0,S s2,Z,Z,vu 5,vi 0,ve,(.sl 1 [S s1]),x11,vu 5,vi 0,ve,x14,x19,vu 2,vi 1,ve,Z,Z])
def x21:AV:=(.agg [vu 5,vi 0,ve,x6,x20])
def v0:AV:=(.tup [x21,vi 0])
def Q1:MM:=asl Q0 50 a0 v0
def a1:LA:=[(.agg [vi 1,vi 100,Z,Z,Z,vi 0,Z,vi 0,ve])]
def x22:AV:=(.sl 4 [x2,x3,x13,x5])
def x23:AV:=(.sl 4 [vu 3,vi 0,x13,Z,Z,vu 3,vi 0,S s2,Z,Z,vu 5,vi 0,ve,Z,Z,vu 2,vi 1,ve,Z,Z])
def x24:AV:=(.agg [vu 5,vi 0,ve,x22,x23])
def v1:AV:=(.tup [x24,vi 0])
def Q2:MM:=asl Q1 52 a1 v1
def a2:LA:=[x21]
def v2:AV:=(.tup [S s4,vi 0])
def Q3:MM:=asl Q2 89 a2 v2
def a3:LA:=[S [0],S s4]
def v3:AV:=(S [23,249,156,121,92,165,61,153,214,31,201,182,3,24,198,97,243,2,122,114,209,148,72,113,182,144,155,161,152,249,9,88])
def Q4:MM:=asl Q3 134 a3 v3
def x25:AV:=(.sl 1 [S s1,S s5])
def x26:AV:=(.agg [vu 5,vi 0,ve,x6,x20,x25])
def a4:LA:=[x26]
def v4:AV:=(.bool true)
def Q5:MM:=asl Q4 131 a4 v4
def x27:AV:=(S [115,105,103,110,101,100])
def x28:AV:=(.sl 2 [S s6,x27])
def x29:AV:=(S [107,101,121,105,100])
def x30:AV:=(.sl 2 [x29,S [115,105,103]])
def x31:AV:=(.sl 2 [vu 3,vi 0,S s1,Z,Z,vu 3,vi 0,S s5,Z,Z])
def x32:AV:=(.sl 1 [vu 5,vi 0,ve,x30,x31])
def x33:AV:=(.sl 2 [vu 4,vi 0,ve,Z,x32,vu 5,vi 0,ve,x6,x20])
def x34:AV:=(.agg [vu 5,vi 0,ve,x28,x33])
def a5:LA:=[x34]
def v5:AV:=(.tup [S s7,vi 0])
def Q6:MM:=asl Q5 89 a5 v5
def a6:LA:=[x21]
def v6:AV:=(S s7)
def Q7:MM:=asl Q6 53 a6 v6
def x35:AV:=(.sl 4 [x2,x3,S [109,101,116,97],x5])
def x36:AV:=(.sl 1 [x5])
def x37:AV:=(.sl 1 [vu 2,vi 1,ve,Z,Z])
def x38:AV:=(.sl 1 [vu 5,vi 0,ve,x36,x37])
def x39:AV:=(.sl 4 [vu 3,vi 0,x12,Z,Z,vu 3,vi 0,S s2,Z,Z,vu 5,vi 0,ve,(.sl 1 [S s8]),x38,vu 2,vi 1,ve,Z,Z])
def x40:AV:=(.agg [vu 5,vi 0,ve,x35,x39])
def a7:LA:=[x40]
def v7:AV:=(.tup [S s9,vi 0])
def Q8:MM:=asl Q7 89 a7 v7
def a8:LA:=[S [0],S s9]
def v8:AV:=(S [170,227,219,67,131,136,188,174,104,148,141,23,202,225,255,236,111,43,110,34,232,190,181,35,164,188,240,35,199,0,64,90])
def Q9:MM:=asl Q8 134 a8 v8
def x41:AV:=(.sl 2 [vu 3,vi 0,S s1,Z,Z,vu 3,vi 0,S s10,Z,Z])
def x42:AV:=(.sl 1 [vu 5,vi 0,ve,x30,x41])
def x43:AV:=(.sl 2 [vu 4,vi 0,ve,Z,x42,vu 5,vi 0,ve,x35,x39])
def x44:AV:=(.agg [vu 5,vi 0,ve,x28,x43])
def a9:LA:=[x44]
def v9:AV:=(.tup [S s11,vi 0])
def Q10:MM:=asl Q9 89 a9 v9
def a10:LA:=[x40]
def v10:AV:=(S s11)
def Q11:MM:=asl Q10 53 a10 v10
def a11:LA:=[(.agg [vu 5,vi 0,ve,x22,x23,Z])]
def v11:AV:=(.tup [S s12,vi 0])
def Q12:MM:=asl Q11 85 a11 v11
def a12:LA:=[S [0],S s12]
def v12:AV:=(S [40,143,171,175,30,82,15,254,106,4,141,247,117,4,64,119,156,18,9,226,213,49,247,42,26,42,247,14,166,107,62,31])
def Q13:MM:=asl Q12 134 a12 v12
def x45:AV:=(.sl 2 [vu 3,vi 0,S s1,Z,Z,vu 3,vi 0,S s13,Z,Z])
def x46:AV:=(.sl 1 [vu 5,vi 0,ve,x30,x45])
def x47:AV:=(.sl 2 [vu 4,vi 0,ve,Z,x46,vu 5,vi 0,ve,x22,x23])
def x48:AV:=(.agg [vu 5,vi 0,ve,x28,x47])
def a13:LA:=[x48]
def v13:AV:=(.tup [S s14,vi 0])
def Q14:MM:=asl Q13 89 a13 v13
def a14:LA:=[x24]
def v14:AV:=(S s14)
def Q15:MM:=asl Q14 53 a14 v14
def a15:LA:=[]
def v15:AV:=(.agg [S [114],S s7,(.sl 2 [S [115,110,97,112,115,104,111,116,46,106,115,111,110],S s11,S s8,S s14]),(.bool true),Z,vi 99,vi 0,vi 0,vi 5000,vi 6000])
def Q16:MM:=asl Q15 26 a15 v15
def a16:LA:=[]
def x49:AV:=(.func (.func vg) [] [])
def x50:AV:=(.func (.func zK) [] [])
def v16:AV:=(.agg (cqR 34 .nilFunc ((.func (.func zJ) [] [])::cqR 8 .nilFunc (x49::(.func (.func AZ) [] [])::x49::x49::.nilFunc::cqR 10 x49 ((.func (.func AY) [] [])::cqR 32 .nilFunc ((.func (.func A7) [] [])::.nilFunc::(.func (.func DV) [] [])::.nilFunc::.nilFunc::.nilFunc::cqR 26 x50 ((.func (.func DW) [] [])::.nilFunc::(.func (.func DX) [] [])::cqR 130 .nilFunc [])))))))
def Q17:MM:=asl Q16 308 a16 v16
def a17:LA:=[S s7,vi 24]
def v17:AV:=(.tup [S s1,vi 90,vi 0])
def Q18:MM:=asl Q17 348 a17 v17
def a18:LA:=[S s7,vi 97]
def v18:AV:=(.tup [S s5,vi 163,vi 0])
def Q19:MM:=asl Q18 348 a18 v18
def a19:LA:=[S s7,vi 232]
def v19:AV:=(.tup [S s1,vi 298,vi 0])
def Q20:MM:=asl Q19 348 a19 v19
def a20:LA:=[S s7,vi 366]
def v20:AV:=(.tup [S s1,vi 432,vi 0])
def Q21:MM:=asl Q20 348 a20 v20
def a21:LA:=[S s7,vi 471]
def v21:AV:=(.tup [S s1,vi 537,vi 0])
def Q22:MM:=asl Q21 348 a21 v21
def a22:LA:=[S s7,vi 575]
def v22:AV:=(.tup [S s1,vi 641,vi 0])
def Q23:MM:=asl Q22 348 a22 v22
def a23:LA:=[S s7]
def v23:AV:=(.tup [x34,vi 0,vi 0])
def Q24:MM:=asl Q23 150 a23 v23
def a24:LA:=[x34]
def v24:AV:=(.tup [x26,vi 0])
def Q25:MM:=asl Q24 151 a24 v24
def a25:LA:=[(.agg [vu 5,vi 0,ve,(.sl 1 [S s1]),x11])]
def v25:AV:=(.tup [x0,vi 0])
def Q26:MM:=asl Q25 157 a25 v25
def a26:LA:=[(.agg [vu 5,vi 0,ve,x14,x19])]
def v26:AV:=(.tup [(.agg [vi 1,(.sl 1 [S s1]),vi 1,(.sl 1 [S s1]),vi 1,(.sl 1 [S s1])]),vi 0])
def Q27:MM:=asl Q26 159 a26 v26
def a27:LA:=[x21]
def v27:AV:=(.tup [x1,vi 0])
def Q28:MM:=asl Q27 95 a27 v27
def a28:LA:=[S s11,vi 24]
def v28:AV:=(.tup [S s1,vi 90,vi 0])
def Q29:MM:=asl Q28 348 a28 v28
def a29:LA:=[S s11,vi 97]
def v29:AV:=(.tup [S s10,vi 163,vi 0])
def Q30:MM:=asl Q29 348 a29 v29
def a30:LA:=[S s11]
def v30:AV:=(.tup [x44,vi 0,vi 0])
def Q31:MM:=asl Q30 150 a30 v30
def a31:LA:=[x44]
def v31:AV:=(.tup [(.agg [vu 5,vi 0,ve,x35,x39,(.sl 1 [S s1,S s10])]),vi 0])
def Q32:MM:=asl Q31 151 a31 v31
def a32:LA:=[x40]
def v32:AV:=(.tup [(.agg [vi 1,vi 100,(.sl 1 [S s8,vi 1,vi (-1),Z])]),vi 0])
def Q33:MM:=asl Q32 100 a32 v32
def a33:LA:=[S s14,vi 24]
def v33:AV:=(.tup [S s1,vi 90,vi 0])
def Q34:MM:=asl Q33 348 a33 v33
def a34:LA:=[S s14,vi 97]
def v34:AV:=(.tup [S s13,vi 163,vi 0])
def Q35:MM:=asl Q34 348 a34 v34
def a35:LA:=[S s14]
def v35:AV:=(.tup [x48,vi 0,vi 0])
def Q36:MM:=asl Q35 150 a35 v35
def a36:LA:=[x48]
def x51:AV:=(.sl 1 [S s1,S s13])
def x52:AV:=(.agg [vu 5,vi 0,ve,x22,x23,x51])
def v36:AV:=(.tup [x52,vi 0])
def Q37:MM:=asl Q36 151 a36 v36
def a37:LA:=[x52]
def v37:AV:=(.tup [S s12,vi 0])
def Q38:MM:=asl Q37 85 a37 v37
def a38:LA:=[]
def v38:AV:=(.bool true)
def Q39:MM:=asl Q38 8 a38 v38
end
def l0:lI (iC CC (T0 Q0) 5000 aaZ a0 []) v0=true:=by kernel_rfl
def l1:lI (iC CC (T0 Q1) 5000 ab1 a1 []) v1=true:=by kernel_rfl
def l2:lI (iC CC (T0 Q2) 5000 iE a2 []) v2=true:=by kernel_rfl
def l3:lI (iC CC (T0 Q3) 5000 A8 a3 []) v3=true:=by kernel_rfl
def l4:lI (iC CC (T0 Q4) 5000 aez a4 []) v4=true:=by kernel_rfl
def l5:lI (iC CC (T0 Q5) 5000 iE a5 []) v5=true:=by kernel_rfl
def l6:lI (iC CC (T0 Q6) 5000 xA a6 []) v6=true:=by kernel_rfl
def l7:lI (iC CC (T0 Q7) 5000 iE a7 []) v7=true:=by kernel_rfl
def l8:lI (iC CC (T0 Q8) 5000 A8 a8 []) v8=true:=by kernel_rfl
end Go.Proofs.YtpikfmmkcckclaaGreatDoor
