/- The code is the program's. No conditions. -/
import Derived.Test.YtkhhblknjdcphabGreatDoorCA
import Derived.Shelf.Strings.Builder1
import Derived.Test.YtkhhblknjdcphabGreatDoorProg
import Derived.WalkKit
import Derived.WalkLawsBesides
import Derived.WalkSpells
import Derived.Lib.Hide
import Derived.Outline
import Derived.Test.YtkhhblknjdcphabGreatDoorEC
import Derived.KernelRfl
import Derived.Shelf.Strconv.ParseIntPublic10
import Derived.Test.YtkhhblknjdcphabGreatDoorED
set_option linter.unusedVariables false
set_option linter.unusedSimpArgs false
namespace Go.Ev
def Q (l : List XOp) (c : KC) : KC:=.seq (.ops l) c
def xl (d n x : Nat) : XOp:=o d (.load true n (.t x))
def xf (d x : Nat) : XOp:=o d (.load false 1 (.t x))
def xa (d n x : Nat) : XOp:=o d (.fieldAddr n (.t x))
def xe (d x n : Nat) : XOp:=o d (.extract (.t x) n)
def xs (n x y : Nat) : XOp:=u (.store n (.t x) (.t y))
def vi (n : Int) : AV:=.int .i64 n
def vu (n : Int) : AV:=.int .u8 n
def ve : AV:=.str []
def ci (n : Int) : XA:=.c (.int .i64 n)
def cu (n : Int) : XA:=.c (.int .u8 n)
def cs (l : List UInt8) : XA:=.c (.str l)
def rp (n : Nat) (x : AV) : List AV:=List.replicate n x
def K_legatelaw32_awake : KF:=⟨0,76,[(.tmp 0)],(Q [o 0 (.mv (.c (.bool false)))]
(Q [o 9 (.callF f_script_Read [cs [48,58,44,49,58,48,44,53,58,116,97,98,108,101,44,48,58,44,49,54,58,49,58,48,44,49,58,48,44,49,58,48,44,49,58,48,44,44,48,58,44,48,58,44]]),m 8 9,xe 10 8 0,xe 11 8 1,xe 12 8 2,o 1 (.new [ve,.nils,vi 0,(.bool false),.nils,vi 0,vi 0,vi 0,vi 0,.nils] none),xs 10 1 10,m 2 11,m 3 12]
(Q [o 14 (.build [ve,.nils,vi 0,(.bool false),.nils,vi 0,vi 0,vi 0,vi 0,.nils] []),o 15 (.callF f_script_Show [.t 14]),m 13 15,xe 16 13 0,xe 17 13 1,m 4 16,m 5 17]
(Q [o 19 (.buildSl [ve] 1 1 [(0,1,(cs [97]))]),o 20 (.build [ve,.nils,vi 0,(.bool false),.nils,vi 0,vi 0,vi 0,vi 0,.nils] [(9,1,(.t 19))]),o 21 (.callF f_script_Show [.t 20]),m 18 21,xe 22 18 0,xe 23 18 1,m 6 22,m 7 23]
(Q [m 24 2,o 25 (.bin .eql 0 true (.t 24) (ci 0)),m 26 25,og 27 26 true (.mv (.t 3)),og 28 26 true (.bin .eql 0 true (.t 27) (ci 0)),o 29 (.pick (.t 26) (.t 28) (.c (.bool false))),m 30 29,og 31 30 true (.load true 10 (.t 1)),og 32 30 true (.build [ve,.nils,vi 0,(.bool false),.nils,vi 0,vi 0,vi 0,vi 0,.nils] []),og 33 30 true (.callF f_legateref32_Same [.t 31,.t 32]),o 34 (.pick (.t 30) (.t 33) (.c (.bool false))),m 35 34,og 36 35 true (.mv (.t 4)),og 37 35 true (.bin .eql 0 true (.t 36) (cs [48,58,44,49,58,48,44,53,58,116,97,98,108,101,44,48,58,44,49,54,58,49,58,48,44,49,58,48,44,49,58,48,44,49,58,48,44,44,48,58,44,48,58,44])),o 38 (.pick (.t 35) (.t 37) (.c (.bool false))),m 39 38,og 40 39 true (.mv (.t 5)),og 41 39 true (.bin .eql 0 true (.t 40) (ci 0)),o 42 (.pick (.t 39) (.t 41) (.c (.bool false))),m 43 42,og 44 43 true (.mv (.t 6)),og 45 43 true (.sliceStr (cs [48,58,44,49,58,48,44,53,58,116,97,98,108,101,44,48,58,44,49,54,58,49,58,48,44,49,58,48,44,49,58,48,44,49,58,48,44,44,48,58,44,48,58,44]) none (some (ci 41))),og 46 43 true (.bin .add 0 true (.t 45) (cs [52,58,49,58,97,44,44])),og 47 43 true (.bin .eql 0 false (.t 44) (.t 46)),o 48 (.pick (.t 43) (.t 47) (.c (.bool false))),m 49 48,og 50 49 true (.mv (.t 7)),og 51 49 true (.bin .eql 0 true (.t 50) (ci 0)),o 52 (.pick (.t 49) (.t 51) (.c (.bool false))),m 53 52,og 54 53 true (.callF f_script_Run [cs [48,58,44,49,58,48,44,53,58,116,97,98,108,101,44,48,58,44,49,54,58,49,58,48,44,49,58,48,44,49,58,48,44,49,58,48,44,44,48,58,44,48,58,44]]),og 55 53 true (.bin .eql 0 true (.t 54) (cs [])),o 56 (.pick (.t 53) (.t 55) (.c (.bool false))),m 57 56,og 58 57 true (.mv (.t 6)),og 59 57 true (.callF f_script_Run [.t 58]),og 60 57 true (.bin .eql 0 true (.t 59) (cs [50,52,58,49,58,51,44,49,58,49,44,49,58,48,44,48,58,44,48,58,44,48,58,44,48,58,44,44])),o 61 (.pick (.t 57) (.t 60) (.c (.bool false))),m 62 61,og 63 62 true (.callF f_script_Run [cs []]),og 64 62 true (.bin .eql 0 true (.t 63) (cs [49,54,58,53,58,101,114,114,111,114,44,49,58,52,44,49,58,48,44,44])),o 65 (.pick (.t 62) (.t 64) (.c (.bool false))),m 66 65,og 67 66 true (.sliceStr (cs [48,58,44,49,58,48,44,53,58,116,97,98,108,101,44,48,58,44,49,54,58,49,58,48,44,49,58,48,44,49,58,48,44,49,58,48,44,44,48,58,44,48,58,44]) (some (ci 7)) none),og 68 66 true (.bin .add 0 true (cs [48,58,44,50,58,48,48,44]) (.t 67)),og 69 66 true (.callF f_script_Run [.t 68]),og 70 66 true (.bin .eql 0 true (.t 69) (cs [49,54,58,53,58,101,114,114,111,114,44,49,58,51,44,49,58,51,44,44])),o 71 (.pick (.t 66) (.t 70) (.c (.bool false))),m 72 71,og 73 72 true (.callF f_script_Run [cs [48,58,44,49,58,48,44,53,58,116,97,98,108,101,44,48,58,44,49,54,58,49,58,48,44,49,58,48,44,49,58,48,44,49,58,48,44,44,48,58,44,48,58,44,120]]),og 74 72 true (.bin .eql 0 true (.t 73) (cs [49,56,58,53,58,101,114,114,111,114,44,50,58,49,49,44,50,58,52,52,44,44])),o 75 (.pick (.t 72) (.t 74) (.c (.bool false))),m 0 75]
(.ret [0]))))))⟩
def L_script_Show_0 : KC:=
(Q [o 26 (.bin .lss 0 false (.t 25) (.t 24))]
(.seq (.cond (.t 26)
.skip
(.exit [1,4,5,6] 0))
(.seq (.block 1
(Q [o 27 (.idxAddrSl 3 (.t 23) (.t 25)),xl 28 3 27,o 8 (.new [ve,ve,ve] none),xs 3 8 28]
(.ops [m 29 5,xa 30 0 8,xf 31 30,xa 32 1 8,xf 33 32,xa 34 2 8,xf 35 34,o 36 (.buildSl [ve] 3 1 [(0,1,(.t 31)),(1,1,(.t 33)),(2,1,(.t 35))]),o 37 (.callF f_script_nets [.t 36]),o 38 (.buildSl [ve] 1 1 [(0,1,(.t 37))]),o 39 (.app false 1 16 none (.t 29) (.t 38)),m 5 39])))
(.ops [o 40 (.bin .add 0 true (.t 25) (ci 1)),m 25 40]))))
def L_script_Show_1 : KC:=
(Q [o 52 (.bin .lss 0 false (.t 51) (.t 50))]
(.seq (.cond (.t 52)
.skip
(.exit [1,4,5,6,10,11,42,43,44] 4))
(.seq (.block 5
(Q [o 53 (.idxAddrSl 2 (.t 49) (.t 51)),xl 54 2 53,o 13 (.new [ve,ve] none),xs 2 13 54]
(.ops [m 55 11,xa 56 0 13,xf 57 56,xa 58 1 13,xf 59 58,o 60 (.buildSl [ve] 2 1 [(0,1,(.t 57)),(1,1,(.t 59))]),o 61 (.callF f_script_nets [.t 60]),o 62 (.buildSl [ve] 1 1 [(0,1,(.t 61))]),o 63 (.app false 1 16 none (.t 55) (.t 62)),m 11 63])))
(.ops [o 64 (.bin .add 0 true (.t 51) (ci 1)),m 51 64]))))
def L_script_Show_2 : KC:=
(Q [o 45 (.bin .lss 0 false (.t 44) (.t 43))]
(.seq (.cond (.t 45)
.skip
(.exit [1,4,5,6] 2))
(.seq (.block 3
(Q [o 46 (.idxAddrSl 3 (.t 42) (.t 44)),xl 47 3 46,o 10 (.new [ve,ve,.nils] none),xs 3 10 47]
(Q [o 11 (.mv (.c .nils))]
(.seq (Q [xa 48 2 10,xf 49 48,o 50 (.len 1 (.t 49)),o 51 (.mv (ci 0))]
(.block 4
(.loop [1,4,5,6,10,11,42,43,44,49,50,51] L_script_Show_1)))
(.drawn [m 65 6,xa 66 0 10,⟨(some 67),(.load false 1 (.t 66)),none,[6]⟩,xa 68 1 10,⟨(some 69),(.load false 1 (.t 68)),none,[6]⟩,m 70 11,o 71 (.callF f_script_nets [.t 70]),o 72 (.buildSl [ve] 3 1 [(0,1,(.t 67)),(1,1,(.t 69)),(2,1,(.t 71))]),o 73 (.callF f_script_nets [.t 72]),o 74 (.buildSl [ve] 1 1 [(0,1,(.t 73))]),o 75 (.app false 1 16 none (.t 65) (.t 74)),m 6 75])))))
(.ops [o 76 (.bin .add 0 true (.t 44) (ci 1)),m 44 76]))))
def K_script_Show : KF:=⟨1,109,[(.tmp 2),(.tmp 3)],(Q [o 1 (.box (.t 0)),o 2 (.mv (cs [])),o 3 (.mv (ci 0))]
(.seq (Q [xa 16 9 1,xf 17 16,o 18 (.len 1 (.t 17)),o 19 (.bin .gtr 0 true (.t 18) (ci 64))]
(.cond (.t 19)
(Q [o 2 (.mv (cs [])),o 3 (.mv (ci 5))]
(.ret [2,3]))
.skip))
(Q [o 4 (.mv (cs [116,97,98,108,101]))]
(.seq (Q [xa 20 3 1,xf 21 20]
(.cond (.t 21)
(.ops [o 4 (.mv (cs [104,109,97,99]))])
.skip))
(Q [o 5 (.mv (.c .nils)),o 6 (.mv (.c .nils))]
(.seq (Q [xa 22 4 1,xf 23 22,o 24 (.len 1 (.t 23)),o 25 (.mv (ci 0))]
(.block 0
(.loop [1,4,5,6,23,24,25] L_script_Show_0)))
(.seq (Q [xa 41 1 1,xf 42 41,o 43 (.len 1 (.t 42)),o 44 (.mv (ci 0))]
(.block 2
(.loop [1,4,5,6,42,43,44] L_script_Show_2)))
(Q [xa 77 5 1,xl 78 4 77,o 14 (.new [vi 0,vi 0,vi 0,vi 0] none),xs 4 14 78]
(.seq (.drawn [xa 79 0 1,⟨(some 80),(.load false 1 (.t 79)),none,[4,7,17,18,20,23]⟩,xa 81 2 1,xf 82 81,o 83 (.callF f_num_Show [.t 82]),m 84 4,m 85 5,o 86 (.callF f_script_nets [.t 85]),xa 87 0 14,⟨(some 88),(.load false 1 (.t 87)),none,[4,7]⟩,xa 89 1 14,⟨(some 90),(.load false 1 (.t 89)),none,[4,7]⟩,xa 91 2 14,⟨(some 92),(.load false 1 (.t 91)),none,[4,7]⟩,xa 93 3 14,⟨(some 94),(.load false 1 (.t 93)),none,[4,7]⟩,o 95 (.buildSl [vi 0] 4 1 [(0,1,(.t 88)),(1,1,(.t 90)),(2,1,(.t 92)),(3,1,(.t 94))]),o 96 (.callF f_script_numbers [.t 95]),o 97 (.callF f_script_nets [.t 96]),m 98 6,o 99 (.callF f_script_nets [.t 98]),xa 100 9 1,⟨(some 101),(.load false 1 (.t 100)),none,[4,7,17,18,20]⟩,o 102 (.callF f_script_nets [.t 101]),o 103 (.buildSl [ve] 7 1 [(0,1,(.t 80)),(1,1,(.t 83)),(2,1,(.t 84)),(3,1,(.t 86)),(4,1,(.t 97)),(5,1,(.t 99)),(6,1,(.t 102))]),o 104 (.callF f_script_nets [.t 103]),m 15 104])
(.seq (Q [m 105 15,o 106 (.len 0 (.t 105)),o 107 (.bin .gtr 0 true (.t 106) (ci 1048576))]
(.cond (.t 107)
(Q [o 2 (.mv (cs [])),o 3 (.mv (ci 5))]
(.ret [2,3]))
.skip))
(Q [m 108 15,m 2 108,o 3 (.mv (ci 0))]
(.ret [2,3]))))))))))))⟩
def L_legateref32_Same_0 : KC:=
(.seq (Q [m 64 5,xa 65 4 2,xf 66 65,o 67 (.len 1 (.t 66)),o 68 (.bin .lss 0 false (.t 64) (.t 67))]
(.cond (.t 68)
.skip
(.exit [2,3] 0)))
(.seq (.block 1
(.seq (.plain [xa 71 4 2,xf 72 71,m 73 5,o 74 (.idxAddrSl 3 (.t 72) (.t 73)),xl 75 3 74,xa 76 4 3,xf 77 76,m 78 5,o 79 (.idxAddrSl 3 (.t 77) (.t 78)),xl 80 3 79,o 81 (.bin .neq 11 false (.t 75) (.t 80))])
(.cond (.t 81)
(Q [o 4 (.mv (.c (.bool false)))]
(.ret [4]))
.skip)))
(.ops [m 69 5,o 70 (.bin .add 0 true (.t 69) (ci 1)),m 5 70])))
def L_legateref32_Same_1 : KC:=
(.seq (Q [m 120 9,xa 121 2 7,xf 122 121,o 123 (.len 1 (.t 122)),o 124 (.bin .lss 0 false (.t 120) (.t 123))]
(.cond (.t 124)
.skip
(.exit [2,3,6] 4)))
(.seq (.block 5
(.seq (.plain [xa 127 2 7,xf 128 127,m 129 9,o 130 (.idxAddrSl 2 (.t 128) (.t 129)),xl 131 2 130,xa 132 2 8,xf 133 132,m 134 9,o 135 (.idxAddrSl 2 (.t 133) (.t 134)),xl 136 2 135,o 137 (.bin .neq 10 false (.t 131) (.t 136))])
(.cond (.t 137)
(Q [o 4 (.mv (.c (.bool false)))]
(.ret [4]))
.skip)))
(.ops [m 125 9,o 126 (.bin .add 0 true (.t 125) (ci 1)),m 9 126])))
def L_legateref32_Same_2 : KC:=
(.seq (Q [m 82 6,xa 83 1 2,xf 84 83,o 85 (.len 1 (.t 84)),o 86 (.bin .lss 0 false (.t 82) (.t 85))]
(.cond (.t 86)
.skip
(.exit [2,3] 2)))
(.seq (.block 3
(.seq (.drawn [xa 89 1 2,xf 90 89,m 91 6,o 92 (.idxAddrSl 3 (.t 90) (.t 91)),xl 93 3 92,xa 94 1 3,⟨(some 95),(.load false 1 (.t 94)),none,[12]⟩,m 96 6,o 97 (.idxAddrSl 3 (.t 95) (.t 96)),⟨(some 98),(.load true 3 (.t 97)),none,[12]⟩,u .pend,u .pend,o 7 (.fill 10 7 3 (.t 93)),o 8 (.fill 11 8 3 (.t 98))])
(.seq (Q [xa 99 0 7,xf 100 99,xa 101 0 8,xf 102 101,o 103 (.bin .neq 0 false (.t 100) (.t 102)),m 104 103,og 105 104 false (.fieldAddr 1 (.t 7)),og 106 104 false (.load false 1 (.t 105)),og 107 104 false (.fieldAddr 1 (.t 8)),og 108 104 false (.load false 1 (.t 107)),og 109 104 false (.bin .neq 0 false (.t 106) (.t 108)),o 110 (.pick (.t 104) (.c (.bool true)) (.t 109)),m 111 110,og 112 111 false (.fieldAddr 2 (.t 7)),og 113 111 false (.load false 1 (.t 112)),og 114 111 false (.len 1 (.t 113)),og 115 111 false (.fieldAddr 2 (.t 8)),og 116 111 false (.load false 1 (.t 115)),og 117 111 false (.len 1 (.t 116)),og 118 111 false (.bin .neq 0 false (.t 114) (.t 117)),o 119 (.pick (.t 111) (.c (.bool true)) (.t 118))]
(.cond (.t 119)
(Q [o 4 (.mv (.c (.bool false)))]
(.ret [4]))
.skip))
(Q [o 9 (.mv (ci 0))]
(.block 4
(.loop [2,3,6,7,8,9] L_legateref32_Same_1))))))
(.ops [m 87 6,o 88 (.bin .add 0 true (.t 87) (ci 1)),m 6 88])))
def L_legateref32_Same_3 : KC:=
(.seq (Q [m 138 10,xa 139 9 2,xf 140 139,o 141 (.len 1 (.t 140)),o 142 (.bin .lss 0 false (.t 138) (.t 141))]
(.cond (.t 142)
.skip
(.exit [] 6)))
(.seq (.block 7
(.seq (.plain [xa 145 9 2,xf 146 145,m 147 10,o 148 (.idxAddrSl 1 (.t 146) (.t 147)),xf 149 148,xa 150 9 3,xf 151 150,m 152 10,o 153 (.idxAddrSl 1 (.t 151) (.t 152)),xf 154 153,o 155 (.bin .neq 0 false (.t 149) (.t 154))])
(.cond (.t 155)
(Q [o 4 (.mv (.c (.bool false)))]
(.ret [4]))
.skip)))
(.ops [m 143 10,o 144 (.bin .add 0 true (.t 143) (ci 1)),m 10 144])))
def K_legateref32_Same : KF:=⟨2,156,[(.tmp 4)],(Q [o 2 (.box (.t 0)),o 3 (.box (.t 1)),o 4 (.mv (.c (.bool false)))]
(.seq (Q [xa 11 0 2,xf 12 11,xa 13 0 3,xf 14 13,o 15 (.bin .neq 0 false (.t 12) (.t 14)),m 16 15,og 17 16 false (.fieldAddr 2 (.t 2)),og 18 16 false (.load false 1 (.t 17)),og 19 16 false (.fieldAddr 2 (.t 3)),og 20 16 false (.load false 1 (.t 19)),og 21 16 false (.bin .neq 0 false (.t 18) (.t 20)),o 22 (.pick (.t 16) (.c (.bool true)) (.t 21)),m 23 22,og 24 23 false (.fieldAddr 3 (.t 2)),og 25 23 false (.load false 1 (.t 24)),og 26 23 false (.fieldAddr 3 (.t 3)),og 27 23 false (.load false 1 (.t 26)),og 28 23 false (.bin .neq 1 false (.t 25) (.t 27)),o 29 (.pick (.t 23) (.c (.bool true)) (.t 28)),m 30 29,og 31 30 false (.fieldAddr 5 (.t 2)),og 32 30 false (.load true 4 (.t 31)),og 33 30 false (.fieldAddr 5 (.t 3)),og 34 30 false (.load true 4 (.t 33)),og 35 30 false (.bin .neq 81932 false (.t 32) (.t 34)),o 36 (.pick (.t 30) (.c (.bool true)) (.t 35)),m 37 36,og 38 37 false (.fieldAddr 4 (.t 2)),og 39 37 false (.load false 1 (.t 38)),og 40 37 false (.len 1 (.t 39)),og 41 37 false (.fieldAddr 4 (.t 3)),og 42 37 false (.load false 1 (.t 41)),og 43 37 false (.len 1 (.t 42)),og 44 37 false (.bin .neq 0 false (.t 40) (.t 43)),o 45 (.pick (.t 37) (.c (.bool true)) (.t 44)),m 46 45,og 47 46 false (.fieldAddr 1 (.t 2)),og 48 46 false (.load false 1 (.t 47)),og 49 46 false (.len 1 (.t 48)),og 50 46 false (.fieldAddr 1 (.t 3)),og 51 46 false (.load false 1 (.t 50)),og 52 46 false (.len 1 (.t 51)),og 53 46 false (.bin .neq 0 false (.t 49) (.t 52)),o 54 (.pick (.t 46) (.c (.bool true)) (.t 53)),m 55 54,og 56 55 false (.fieldAddr 9 (.t 2)),og 57 55 false (.load false 1 (.t 56)),og 58 55 false (.len 1 (.t 57)),og 59 55 false (.fieldAddr 9 (.t 3)),og 60 55 false (.load false 1 (.t 59)),og 61 55 false (.len 1 (.t 60)),og 62 55 false (.bin .neq 0 false (.t 58) (.t 61)),o 63 (.pick (.t 55) (.c (.bool true)) (.t 62))]
(.cond (.t 63)
(Q [o 4 (.mv (.c (.bool false)))]
(.ret [4]))
.skip))
(.seq (Q [o 5 (.mv (ci 0))]
(.block 0
(.loop [2,3,5] L_legateref32_Same_0)))
(.seq (Q [o 6 (.mv (ci 0))]
(.block 2
(.loop [2,3,6] L_legateref32_Same_2)))
(.seq (Q [o 10 (.mv (ci 0))]
(.block 6
(.loop [2,3,10] L_legateref32_Same_3)))
(Q [o 4 (.mv (.c (.bool true)))]
(.ret [4])))))))⟩
def K_script_Run : KF:=⟨1,31,[(.tmp 2)],(Q [o 2 (.mv (cs []))]
(Q [m 8 0,o 9 (.callF f_script_Read [.t 8]),m 7 9,xe 10 7 0,xe 11 7 1,xe 12 7 2,o 3 (.new [ve,.nils,vi 0,(.bool false),.nils,vi 0,vi 0,vi 0,vi 0,.nils] none),xs 10 3 10,m 4 11,m 5 12]
(.seq (Q [m 13 5,o 14 (.bin .eql 0 true (.t 13) (ci 0))]
(.cond (.t 14)
(Q [o 6 (.mv (cs []))]
(Q [xl 16 10 3,o 17 (.callF f_script_Play [.t 16]),m 15 17,xe 18 15 0,xe 19 15 1,m 6 18,m 5 19]
(Q [m 20 5,o 21 (.bin .eql 0 true (.t 20) (ci 0))]
(.cond (.t 21)
(Q [m 22 6,m 2 22]
(.ret [2]))
.skip))))
.skip))
(Q [m 23 5,o 24 (.callF f_num_Show [.t 23]),m 25 4,o 26 (.callF f_num_Show [.t 25]),o 27 (.buildSl [ve] 3 1 [(0,1,(cs [101,114,114,111,114])),(1,1,(.t 24)),(2,1,(.t 26))]),o 28 (.callF f_script_nets [.t 27]),o 29 (.buildSl [ve] 1 1 [(0,1,(.t 28))]),o 30 (.callF f_script_nets [.t 29]),m 2 30]
(.ret [2])))))⟩
def L_script_nets_0 : KC:=
(Q [o 9 (.bin .lss 0 false (.t 8) (.t 7))]
(.seq (.cond (.t 9)
.skip
(.exit [3] 0))
(.seq (.block 1
(Q [o 10 (.idxAddrSl 1 (.t 6) (.t 8)),xf 11 10,m 5 11]
(Q [m 12 5,o 13 (.len 0 (.t 12)),o 14 (.callF f_num_Show [.t 13]),o 15 (.callF f_strings_Builder_WriteString [.t 3,.t 14])]
(Q [o 16 (.callF f_strings_Builder_WriteByte [.t 3,cu 58])]
(Q [m 17 5,o 18 (.callF f_strings_Builder_WriteString [.t 3,.t 17])]
(.ops [o 19 (.callF f_strings_Builder_WriteByte [.t 3,cu 44])]))))))
(.ops [o 20 (.bin .add 0 true (.t 8) (ci 1)),m 8 20]))))
def K_script_nets : KF:=⟨1,22,[(.tmp 2)],(Q [o 2 (.mv (cs []))]
(Q [o 3 (.new [.nilp,.nils] (some (70,true)))]
(.seq (Q [m 6 0,o 7 (.len 1 (.t 6)),o 8 (.mv (ci 0))]
(.block 0
(.loop [3,6,7,8] L_script_nets_0)))
(Q [o 21 (.callF f_strings_Builder_String [.t 3]),m 2 21]
(.ret [2])))))⟩
def K_num_Show : KF:=⟨1,5,[(.tmp 2)],(Q [o 2 (.mv (cs []))]
(Q [m 3 0,o 4 (.callF f_strconv_FormatInt [.t 3,ci 10]),m 2 4]
(.ret [2])))⟩
def L_script_numbers_0 : KC:=
(Q [o 9 (.bin .lss 0 false (.t 8) (.t 7))]
(.seq (.cond (.t 9)
.skip
(.exit [3] 0))
(.seq (.block 1
(Q [o 10 (.idxAddrSl 1 (.t 6) (.t 8)),xf 11 10,m 5 11]
(.ops [m 12 3,m 13 5,o 14 (.callF f_num_Show [.t 13]),o 15 (.buildSl [ve] 1 1 [(0,1,(.t 14))]),o 16 (.app false 1 16 none (.t 12) (.t 15)),m 3 16])))
(.ops [o 17 (.bin .add 0 true (.t 8) (ci 1)),m 8 17]))))
def K_script_numbers : KF:=⟨1,19,[(.tmp 2)],(Q [o 2 (.mv (.c .nils))]
(Q [o 3 (.mv (.c .nils))]
(.seq (Q [m 6 0,o 7 (.len 1 (.t 6)),o 8 (.mv (ci 0))]
(.block 0
(.loop [3,6,7,8] L_script_numbers_0)))
(Q [m 18 3,m 2 18]
(.ret [2])))))⟩
def L_script_Play_0 : KC:=
(Q [o 21 (.bin .lss 0 false (.t 20) (.t 19))]
(.seq (.cond (.t 21)
.skip
(.exit [5] 0))
(.seq (.block 1
(Q [o 22 (.idxAddrSl 1 (.t 18) (.t 20)),xf 23 22,m 8 23]
(Q [m 24 4,m 25 8,o 26 (.callF f_lookup_Machine_Lookup [.t 24,.t 25]),o 9 (.new [vu 0,vu 0,vu 0,ve,ve,vi 0,.nils,vu 0,vi 0,ve,.nils,.nils] none),xs 12 9 26]
(Q [m 27 4,o 28 (.callF f_lookup_Machine_Fetched [.t 27]),m 10 28]
(.seq (.plain [xl 29 12 9,m 30 10,m 31 6,o 32 (.sliceSl 4 (.t 30) (some (.t 31)) none none),o 33 (.callF f_script_report [.t 29,.t 32]),o 34 (.buildSl [ve] 1 1 [(0,1,(.t 33))]),o 35 (.callF f_script_nets [.t 34]),o 36 (.callF f_strings_Builder_WriteString [.t 5,.t 35])])
(.ops [m 37 10,o 38 (.len 1 (.t 37)),m 6 38]))))))
(.ops [o 39 (.bin .add 0 true (.t 20) (ci 1)),m 20 39]))))
def K_script_Play : KF:=⟨1,41,[(.tmp 2),(.tmp 3)],(Q [o 1 (.box (.t 0)),o 2 (.mv (cs [])),o 3 (.mv (ci 0))]
(.seq (Q [xa 11 9 1,xf 12 11,o 13 (.len 1 (.t 12)),o 14 (.bin .gtr 0 true (.t 13) (ci 64))]
(.cond (.t 14)
(Q [o 2 (.mv (cs [])),o 3 (.mv (ci 5))]
(.ret [2,3]))
.skip))
(Q [xl 15 10 1,o 16 (.callF f_lookup_New [.t 15]),m 4 16]
(Q [o 5 (.new [.nilp,.nils] (some (70,true)))]
(Q [o 6 (.mv (ci 0))]
(.seq (Q [xa 17 9 1,xf 18 17,o 19 (.len 1 (.t 18)),o 20 (.mv (ci 0))]
(.block 0
(.loop [4,5,6,18,19,20] L_script_Play_0)))
(Q [o 40 (.callF f_strings_Builder_String [.t 5]),m 2 40,o 3 (.mv (ci 0))]
(.ret [2,3]))))))))⟩
def K_strings_Builder_WriteString : KF:=⟨2,19,[(.tmp 4),(.tmp 5)],(Q [o 4 (.mv (ci 0)),o 5 (.mv (.c .nilIface))]
(Q [m 6 0,o 7 (.callF f_strings_Builder_copyCheck [.t 6])]
(Q [m 8 0,m 9 0,o 10 (.nilck (.t 9)),xa 11 1 10,xf 12 11,m 13 1,o 14 (.app true 1 1 (some (5,false)) (.t 12) (.t 13)),o 15 (.nilck (.t 8)),xa 16 1 15,xs 1 16 14]
(Q [m 17 1,o 18 (.len 0 (.t 17)),m 4 18,o 5 (.mv (.c .nilIface))]
(.ret [4,5])))))⟩
def K_strings_Builder_WriteByte : KF:=⟨2,17,[(.tmp 4)],(Q [o 4 (.mv (.c .nilIface))]
(Q [m 5 0,o 6 (.callF f_strings_Builder_copyCheck [.t 5])]
(Q [m 7 0,m 8 0,o 9 (.nilck (.t 8)),xa 10 1 9,xf 11 10,m 12 1,o 13 (.buildSl [vu 0] 1 1 [(0,1,(.t 12))]),o 14 (.app false 1 1 (some (5,false)) (.t 11) (.t 13)),o 15 (.nilck (.t 7)),xa 16 1 15,xs 1 16 14]
(Q [o 4 (.mv (.c .nilIface))]
(.ret [4])))))⟩
def K_strings_Builder_String : KF:=⟨1,14,[(.tmp 2)],(Q [o 2 (.mv (cs []))]
(.seq (.plain [m 3 0,o 4 (.nilck (.t 3)),xa 5 1 4,xf 6 5,o 7 .fail,m 8 0,o 9 (.nilck (.t 8)),xa 10 1 9,xf 11 10,o 12 (.len 1 (.t 11)),o 13 .fail,m 2 13])
(.ret [2])))⟩
def K_strconv_FormatInt : KF:=⟨2,8,[(.tmp 4)],(Q [o 4 (.mv (cs []))]
(Q [m 5 0,m 6 1,o 7 (.callF f_internal_strconv_FormatInt [.t 5,.t 6]),m 4 7]
(.ret [4])))⟩
def K_lookup_New : KF:=⟨1,39,[(.tmp 2)],(Q [o 1 (.box (.t 0)),o 2 (.mv (.c .nilp))]
(Q [xa 8 0 1,xf 9 8,o 10 (.callF f_chart_Read [.t 9]),m 7 10,xe 11 7 0,xe 12 7 1,o 3 (.new [.nils,.nils] none),xs 2 3 11,m 4 12]
(.seq (Q [m 13 4,o 14 (.bin .neq 0 true (.t 13) (ci 0)),m 15 14,og 16 15 false (.fieldAddr 5 (.t 1)),og 17 15 false (.load true 4 (.t 16)),og 18 15 false (.callF f_lookup_mayBounds [.t 17]),og 19 15 false (.un .not (.t 18)),o 20 (.pick (.t 15) (.c (.bool true)) (.t 19))]
(.cond (.t 20)
(Q [o 21 (.build [(.bool false),.nils,.nils,vi 0,vi 0,vi 0,vi 0,.nilMap,.nils] []),o 22 (.box (.t 21)),m 2 22]
(.ret [2]))
.skip))
(Q [xl 24 10 1,xl 25 2 3,o 26 (.callF f_lookup_reposOf [.t 24,.t 25]),m 23 26,xe 27 23 0,xe 28 23 1,m 5 27,m 6 28]
(.seq (Q [m 29 6,o 30 (.un .not (.t 29))]
(.cond (.t 30)
(Q [o 31 (.build [(.bool false),.nils,.nils,vi 0,vi 0,vi 0,vi 0,.nilMap,.nils] []),o 32 (.box (.t 31)),m 2 32]
(.ret [2]))
.skip))
(Q [xl 33 2 3,xa 34 5 1,xl 35 4 34,m 36 5,o 37 (.build [(.bool false),.nils,.nils,vi 0,vi 0,vi 0,vi 0,.nilMap,.nils] [(0,1,(.c (.bool true))),(1,2,(.t 33)),(3,4,(.t 35)),(7,1,(.t 36))]),o 38 (.box (.t 37)),m 2 38]
(.ret [2])))))))⟩
def L_lookup_Machine_Lookup_0 : KC:=
(Q [o 24 (.bin .lss 0 false (.t 23) (.t 22))]
(.seq (.cond (.t 24)
.skip
(.exit [4] 0))
(.seq (.block 1
(Q [o 25 (.idxAddrSl 4 (.t 21) (.t 23)),xl 26 4 25,o 6 (.new [.nils,.nils,(.bool false),vi 0] none),xs 4 6 26]
(Q [m 27 0,xl 28 4 6,m 29 1,o 30 (.callF f_lookup_Machine_ask [.t 27,.t 28,.t 29]),o 7 (.new [vu 0,vu 0,vu 0,ve,ve,vi 0,.nils,vu 0,vi 0,ve,.nils,.nils] none),xs 12 7 30]
(Q [xa 31 0 7,xf 32 31,o 33 (.bin .neq 0 true (.t 32) (cu 2))]
(.cond (.t 33)
(Q [xl 34 12 7,xs 12 4 34]
(.ret [4]))
.skip)))))
(.ops [o 35 (.bin .add 0 true (.t 23) (ci 1)),m 23 35]))))
def K_lookup_Machine_Lookup : KF:=⟨2,37,[(.cell 4 true 12)],(Q [o 4 (.new [vu 0,vu 0,vu 0,ve,ve,vi 0,.nils,vu 0,vi 0,ve,.nils,.nils] none)]
(.seq (Q [m 8 0,o 9 (.callF f_lookup_Machine_May [.t 8]),o 10 (.un .not (.t 9))]
(.cond (.t 10)
(Q [o 11 (.build [vu 0,vu 0,vu 0,ve,ve,vi 0,.nils,vu 0,vi 0,ve,.nils,.nils] [(0,1,(cu 3)),(1,1,(cu 1))]),xs 12 4 11]
(.ret [4]))
.skip))
(.seq (Q [m 12 1,o 13 (.callF f_name_Path [.t 12]),o 14 (.un .not (.t 13))]
(.cond (.t 14)
(Q [o 15 (.build [vu 0,vu 0,vu 0,ve,ve,vi 0,.nils,vu 0,vi 0,ve,.nils,.nils] [(0,1,(cu 2))]),xs 12 4 15]
(.ret [4]))
.skip))
(.seq (Q [m 16 0,o 17 (.nilck (.t 16)),xa 18 1 17,xl 19 2 18,m 20 1,o 21 (.callF f_chart_For [.t 19,.t 20]),o 22 (.len 1 (.t 21)),o 23 (.mv (ci 0))]
(.block 0
(.loop [0,1,4,21,22,23] L_lookup_Machine_Lookup_0)))
(Q [o 36 (.build [vu 0,vu 0,vu 0,ve,ve,vi 0,.nils,vu 0,vi 0,ve,.nils,.nils] [(0,1,(cu 2))]),xs 12 4 36]
(.ret [4]))))))⟩
def K_lookup_Machine_Fetched : KF:=⟨1,10,[(.tmp 2)],(Q [o 2 (.mv (.c .nils))]
(.seq (Q [m 3 0,o 4 (.bin .eql 3 true (.t 3) (.c .nilp))]
(.cond (.t 4)
(Q [o 2 (.mv (.c .nils))]
(.ret [2]))
.skip))
(Q [m 5 0,o 6 (.nilck (.t 5)),xa 7 8 6,xf 8 7,o 9 (.callF f_slices_Clone_api_Fetch_api_Fetch [.t 8]),m 2 9]
(.ret [2]))))⟩
def L_script_report_0 : KC:=
(Q [o 11 (.bin .lss 0 false (.t 10) (.t 9))]
(.seq (.cond (.t 11)
.skip
(.exit [2,5] 0))
(.seq (.block 1
(Q [o 12 (.idxAddrSl 4 (.t 8) (.t 10)),xl 13 4 12,o 7 (.new [ve,ve,vi 0,vi 0] none),xs 4 7 13]
(.drawn [m 14 5,xa 15 0 7,⟨(some 16),(.load false 1 (.t 15)),none,[7,10]⟩,xa 17 1 7,⟨(some 18),(.load false 1 (.t 17)),none,[7,10]⟩,xa 19 2 7,xf 20 19,o 21 (.callF f_num_Show [.t 20]),xa 22 3 7,⟨(some 23),(.load false 1 (.t 22)),none,[7]⟩,o 24 (.callF f_num_Show [.t 23]),o 25 (.buildSl [ve] 4 1 [(0,1,(.t 16)),(1,1,(.t 18)),(2,1,(.t 21)),(3,1,(.t 24))]),o 26 (.callF f_script_nets [.t 25]),o 27 (.buildSl [ve] 1 1 [(0,1,(.t 26))]),o 28 (.app false 1 16 none (.t 14) (.t 27)),m 5 28])))
(.ops [o 29 (.bin .add 0 true (.t 10) (ci 1)),m 10 29]))))
def K_script_report : KF:=⟨2,52,[(.tmp 4)],(Q [o 2 (.box (.t 0)),o 4 (.mv (cs []))]
(Q [o 5 (.mv (.c .nils))]
(.seq (Q [m 8 1,o 9 (.len 1 (.t 8)),o 10 (.mv (ci 0))]
(.block 0
(.loop [2,5,8,9,10] L_script_report_0)))
(.seq (.drawn [xa 30 0 2,xf 31 30,o 32 (.i2i .i64 (.t 31)),o 33 (.callF f_num_Show [.t 32]),xa 34 1 2,⟨(some 35),(.load false 1 (.t 34)),none,[3]⟩,o 36 (.i2i .i64 (.t 35)),o 37 (.callF f_num_Show [.t 36]),xa 38 2 2,⟨(some 39),(.load false 1 (.t 38)),none,[3,7]⟩,o 40 (.i2i .i64 (.t 39)),o 41 (.callF f_num_Show [.t 40]),xa 42 3 2,⟨(some 43),(.load false 1 (.t 42)),none,[3,7,11,17,19]⟩,xa 44 4 2,⟨(some 45),(.load false 1 (.t 44)),none,[3,7,11,17,19]⟩,⟨(some 46),(.load true 12 (.t 2)),none,[3,7,11]⟩,o 47 (.callF f_script_recordOf [.t 46]),m 48 5,o 49 (.callF f_script_nets [.t 48]),o 50 (.buildSl [ve] 7 1 [(0,1,(.t 33)),(1,1,(.t 37)),(2,1,(.t 41)),(3,1,(.t 43)),(4,1,(.t 45)),(5,1,(.t 47)),(6,1,(.t 49))]),o 51 (.callF f_script_nets [.t 50]),m 4 51])
(.ret [4])))))⟩
def K_strconv_ParseInt : KF:=⟨3,25,[(.tmp 6),(.tmp 7)],(Q [o 6 (.mv (ci 0)),o 7 (.mv (.c .nilIface))]
(Q [m 10 0,m 11 1,m 12 2,o 13 (.callF f_internal_strconv_ParseInt [.t 10,.t 11,.t 12]),m 9 13,xe 14 9 0,xe 15 9 1,m 8 14,m 7 15]
(.seq (Q [m 16 7,o 17 (.bin .neq 5 true (.t 16) (.c .nilIface))]
(.cond (.t 17)
(Q [m 18 8,m 19 0,m 20 1,m 21 2,m 22 7,o 23 (.callF f_strconv_toError [cs [80,97,114,115,101,73,110,116],.t 19,.t 20,.t 21,.t 22]),m 6 18,m 7 23]
(.ret [6,7]))
.skip))
(Q [m 24 8,m 6 24,o 7 (.mv (.c .nilIface))]
(.ret [6,7])))))⟩
def K_strings_Builder_copyCheck : KF:=⟨1,20,[],(Q [m 2 0,o 3 (.nilck (.t 2)),xa 4 0 3,xf 5 4,o 6 (.bin .eql 3 true (.t 5) (.c .nilp))]
(.cond (.t 6)
(.ops [m 7 0,m 8 0,o 9 .fail,o 10 (.callF f_internal_abi_NoEscape [.t 9]),o 11 .fail,o 12 (.nilck (.t 7)),xa 13 0 12,xs 1 13 11])
(Q [m 14 0,o 15 (.nilck (.t 14)),xa 16 0 15,xf 17 16,m 18 0,o 19 (.bin .neq 3 false (.t 17) (.t 18))]
(.cond (.t 19)
.fail
.skip))))⟩
def K_internal_strconv_FormatInt : KF:=⟨2,54,[(.tmp 4)],(Q [o 4 (.mv (cs []))]
(.seq (Q [m 10 1,o 11 (.bin .eql 0 true (.t 10) (ci 10))]
(.cond (.t 11)
(.seq (Q [m 12 0,o 13 (.bin .leq 0 true (ci 0) (.t 12)),m 14 13,og 15 14 true (.mv (.t 0)),og 16 14 true (.bin .lss 0 true (.t 15) (ci 100)),o 17 (.pick (.t 14) (.t 16) (.c (.bool false)))]
(.cond (.t 17)
(Q [m 18 0,o 19 (.callF f_internal_strconv_small [.t 18]),m 4 19]
(.ret [4]))
.skip))
(Q [o 5 (.new (rp 24 (vu 0)) none)]
(Q [m 20 0,o 21 (.i2i .u64 (.t 20)),m 6 21]
(.seq (Q [m 22 0,o 23 (.bin .lss 0 true (.t 22) (ci 0))]
(.cond (.t 23)
(.ops [m 24 6,o 25 (.un .neg (.t 24)),m 6 25])
.skip))
(Q [m 26 6,o 27 (.callF f_internal_strconv_numDigits [.t 26]),m 7 27]
(Q [m 28 7,o 29 (.bin .add 0 true (ci 1) (.t 28)),o 30 (.sliceArr 24 1 (.t 5) (some (ci 1)) (some (.t 29)) none),m 31 6,o 32 (.callF f_internal_strconv_formatBase10 [.t 30,.t 31])]
(.seq (Q [m 33 0,o 34 (.bin .lss 0 true (.t 33) (ci 0))]
(.cond (.t 34)
(Q [o 35 (.idxAddrArr 24 1 (.t 5) (ci 0)),u (.store 1 (.t 35) (cu 45))]
(Q [m 36 7,o 37 (.bin .add 0 true (ci 1) (.t 36)),o 38 (.sliceArr 24 1 (.t 5) none (some (.t 37)) none),o 39 (.b2s (.t 38)),m 4 39]
(.ret [4])))
.skip))
(Q [m 40 7,o 41 (.bin .add 0 true (ci 1) (.t 40)),o 42 (.sliceArr 24 1 (.t 5) (some (ci 1)) (some (.t 41)) none),o 43 (.b2s (.t 42)),m 4 43]
(.ret [4])))))))))
.skip))
(Q [m 45 0,o 46 (.i2i .u64 (.t 45)),m 47 1,m 48 0,o 49 (.bin .lss 0 true (.t 48) (ci 0)),o 50 (.callF f_internal_strconv_formatBits [(.c .nils),.t 46,.t 47,.t 49,(.c (.bool false))]),m 44 50,xe 51 44 0,xe 52 44 1,m 8 51,m 9 52]
(Q [m 53 9,m 4 53]
(.ret [4])))))⟩
def K_chart_Read : KF:=⟨1,21,[(.cell 2 true 2),(.tmp 3)],(Q [o 2 (.new [.nils,.nils] none),o 3 (.mv (ci 0))]
(Q [m 8 0,o 9 (.callF f_read_Read [.t 8]),m 7 9,xe 10 7 0,xe 11 7 1,xe 12 7 2,o 4 (.new [vu 0,vi 0,ve,.nils,.nils] none),xs 5 4 10,m 5 11,m 6 12]
(.seq (Q [m 13 6,o 14 (.bin .neq 0 true (.t 13) (ci 0))]
(.cond (.t 14)
(Q [o 15 (.build [.nils,.nils] []),m 16 6,xs 2 2 15,m 3 16]
(.ret [2,3]))
.skip))
(Q [xl 17 5 4,o 18 (.callF f_chart_Of [.t 17]),xe 19 18 0,xe 20 18 1,xs 2 2 19,m 3 20]
(.ret [2,3])))))⟩
def K_lookup_Machine_May : KF:=⟨1,11,[(.tmp 2)],(Q [o 2 (.mv (.c (.bool false)))]
(Q [m 3 0,o 4 (.bin .neq 3 true (.t 3) (.c .nilp)),m 5 4,og 6 5 true (.mv (.t 0)),og 7 5 true (.nilck (.t 6)),og 8 5 true (.fieldAddr 0 (.t 7)),og 9 5 true (.load false 1 (.t 8)),o 10 (.pick (.t 5) (.t 9) (.c (.bool false))),m 2 10]
(.ret [2])))⟩
def K_slices_Clone_api_Fetch_api_Fetch : KF:=⟨1,8,[(.tmp 2)],(Q [o 2 (.mv (.c .nils))]
(.seq (Q [m 3 0,o 4 (.bin .eql 7 true (.t 3) (.c .nils))]
(.cond (.t 4)
(Q [o 2 (.mv (.c .nils))]
(.ret [2]))
.skip))
(Q [o 5 (.buildSl [ve,ve,vi 0,vi 0] 0 4 []),m 6 0,o 7 (.app false 4 48 none (.t 5) (.t 6)),m 2 7]
(.ret [2]))))⟩
def K_script_recordOf : KF:=⟨1,25,[(.tmp 2)],(Q [o 1 (.box (.t 0)),o 2 (.mv (cs []))]
(.seq (Q [xa 6 0 1,xf 7 6,o 8 (.bin .neq 0 true (.t 7) (cu 1))]
(.cond (.t 8)
(Q [o 2 (.mv (cs []))]
(.ret [2]))
.skip))
(Q [xa 10 5 1,xl 11 7 10,o 12 (.callF f_record_Value [.t 11]),m 9 12,xe 13 9 0,xe 14 9 1,o 3 (.new [vu 0,vi 0,ve,.nils,.nils] none),xs 5 3 13,m 4 14]
(.seq (Q [m 15 4,o 16 (.bin .neq 0 true (.t 15) (ci 0))]
(.cond (.t 16)
(Q [o 2 (.mv (cs []))]
(.ret [2]))
.skip))
(Q [xl 18 5 3,o 19 (.callF f_canon_Encode [.t 18]),m 17 19,xe 20 17 0,xe 21 17 1,m 5 20,m 4 21]
(.seq (Q [m 22 4,o 23 (.bin .neq 0 true (.t 22) (ci 0))]
(.cond (.t 23)
(Q [o 2 (.mv (cs []))]
(.ret [2]))
.skip))
(Q [m 24 5,m 2 24]
(.ret [2]))))))))⟩
def K_internal_strconv_ParseInt : KF:=⟨3,73,[(.tmp 6),(.tmp 7)],(Q [o 6 (.mv (ci 0)),o 7 (.mv (.c .nilIface))]
(.seq (Q [m 12 0,o 13 (.bin .eql 0 true (.t 12) (cs []))]
(.cond (.t 13)
(Q [o 14 (.mkIface 165 (ci 2)),o 6 (.mv (ci 0)),m 7 14]
(.ret [6,7]))
.skip))
(Q [o 8 (.mv (.c (.bool false)))]
(.seq (Q [m 15 0,o 16 (.idxStr (.t 15) (ci 0))]
(.block 0
(Q [o 18 (.bin .eql 0 true (.t 16) (cu 43)),m 17 18]
(.cond (.t 17)
(.ops [m 19 0,o 20 (.sliceStr (.t 19) (some (ci 1)) none),m 0 20])
(Q [o 22 (.bin .eql 0 true (.t 16) (cu 45)),m 21 22]
(.cond (.t 21)
(Q [m 23 0,o 24 (.sliceStr (.t 23) (some (ci 1)) none),m 0 24]
(.ops [o 8 (.mv (.c (.bool true)))]))
.skip))))))
(Q [o 9 (.mv (.c (.int .u64 0)))]
(Q [m 26 0,m 27 1,m 28 2,o 29 (.callF f_internal_strconv_ParseUint [.t 26,.t 27,.t 28]),m 25 29,xe 30 25 0,xe 31 25 1,m 9 30,m 7 31]
(.seq (Q [m 32 7,o 33 (.bin .neq 5 true (.t 32) (.c .nilIface)),m 34 33,og 35 34 true (.mv (.t 7)),og 36 34 true (.mkIface 165 (ci 1)),og 37 34 true (.bin .neq 5 false (.t 35) (.t 36)),o 38 (.pick (.t 34) (.t 37) (.c (.bool false)))]
(.cond (.t 38)
(Q [m 39 7,o 6 (.mv (ci 0)),m 7 39]
(.ret [6,7]))
.skip))
(.seq (Q [m 40 2,o 41 (.bin .eql 0 true (.t 40) (ci 0))]
(.cond (.t 41)
(.ops [o 2 (.mv (ci 64))])
.skip))
(Q [m 42 2,o 43 (.bin .sub 0 true (.t 42) (ci 1)),o 44 (.i2i .u64 (.t 43)),o 45 (.bin .shl 0 true (.c (.int .u64 1)) (.t 44)),m 10 45]
(.seq (Q [m 46 8,o 47 (.un .not (.t 46)),m 48 47,og 49 48 true (.mv (.t 9)),og 50 48 true (.mv (.t 10)),og 51 48 true (.bin .geq 0 false (.t 49) (.t 50)),o 52 (.pick (.t 48) (.t 51) (.c (.bool false)))]
(.cond (.t 52)
(Q [m 53 10,o 54 (.bin .sub 0 true (.t 53) (.c (.int .u64 1))),o 55 (.i2i .i64 (.t 54)),o 56 (.mkIface 165 (ci 1)),m 6 55,m 7 56]
(.ret [6,7]))
.skip))
(.seq (Q [m 57 8,m 58 57,og 59 58 true (.mv (.t 9)),og 60 58 true (.mv (.t 10)),og 61 58 true (.bin .gtr 0 false (.t 59) (.t 60)),o 62 (.pick (.t 58) (.t 61) (.c (.bool false)))]
(.cond (.t 62)
(Q [m 63 10,o 64 (.i2i .i64 (.t 63)),o 65 (.un .neg (.t 64)),o 66 (.mkIface 165 (ci 1)),m 6 65,m 7 66]
(.ret [6,7]))
.skip))
(Q [m 67 9,o 68 (.i2i .i64 (.t 67)),m 11 68]
(.seq (Q [m 69 8]
(.cond (.t 69)
(.ops [m 70 11,o 71 (.un .neg (.t 70)),m 11 71])
.skip))
(Q [m 72 11,m 6 72,o 7 (.mv (.c .nilIface))]
(.ret [6,7])))))))))))))))⟩
def K_internal_strconv_small : KF:=⟨1,15,[(.tmp 2)],(Q [o 2 (.mv (cs []))]
(.seq (Q [m 3 0,o 4 (.bin .lss 0 true (.t 3) (ci 10))]
(.cond (.t 4)
(Q [m 5 0,m 6 0,o 7 (.bin .add 0 true (.t 6) (ci 1)),o 8 (.sliceStr (cs [48,49,50,51,52,53,54,55,56,57,97,98,99,100,101,102,103,104,105,106,107,108,109,110,111,112,113,114,115,116,117,118,119,120,121,122]) (some (.t 5)) (some (.t 7))),m 2 8]
(.ret [2]))
.skip))
(Q [m 9 0,o 10 (.bin .mul 0 true (.t 9) (ci 2)),m 11 0,o 12 (.bin .mul 0 true (.t 11) (ci 2)),o 13 (.bin .add 0 true (.t 12) (ci 2)),o 14 (.sliceStr (cs [48,48,48,49,48,50,48,51,48,52,48,53,48,54,48,55,48,56,48,57,49,48,49,49,49,50,49,51,49,52,49,53,49,54,49,55,49,56,49,57,50,48,50,49,50,50,50,51,50,52,50,53,50,54,50,55,50,56,50,57,51,48,51,49,51,50,51,51,51,52,51,53,51,54,51,55,51,56,51,57,52,48,52,49,52,50,52,51,52,52,52,53,52,54,52,55,52,56,52,57,53,48,53,49,53,50,53,51,53,52,53,53,53,54,53,55,53,56,53,57,54,48,54,49,54,50,54,51,54,52,54,53,54,54,54,55,54,56,54,57,55,48,55,49,55,50,55,51,55,52,55,53,55,54,55,55,55,56,55,57,56,48,56,49,56,50,56,51,56,52,56,53,56,54,56,55,56,56,56,57,57,48,57,49,57,50,57,51,57,52,57,53,57,54,57,55,57,56,57,57]) (some (.t 10)) (some (.t 13))),m 2 14]
(.ret [2]))))⟩
def K_read_Read : KF:=⟨1,52,[(.cell 2 true 5),(.tmp 3),(.tmp 4)],(Q [o 2 (.new [vu 0,vi 0,ve,.nils,.nils] none),o 3 (.mv (ci 0)),o 4 (.mv (ci 0))]
(.seq (Q [m 6 0,o 7 (.len 0 (.t 6)),o 8 (.bin .gtr 0 true (.t 7) (ci 65536))]
(.cond (.t 8)
(Q [o 9 (.build [vu 0,vi 0,ve,.nils,.nils] []),xs 5 2 9,o 3 (.mv (ci 0)),o 4 (.mv (ci 5))]
(.ret [2,3,4]))
.skip))
(Q [m 10 0,o 11 (.build [ve,vi 0,vu 0,vi 0,vi 0,vi 0,ve,vi 0] [(0,1,(.t 10))]),o 12 (.build [ve,vi 0,vu 0,vi 0,vi 0,vi 0,ve,vi 0,vi 0,vi 0] [(0,8,(.t 11))]),o 5 (.new [ve,vi 0,vu 0,vi 0,vi 0,vi 0,ve,vi 0,vi 0,vi 0] none),xs 10 5 12]
(.seq (Q [xa 13 0 5,o 14 (.callF f_read_tokens_next [.t 13]),m 4 14]
(Q [m 15 4,o 16 (.bin .neq 0 true (.t 15) (ci 0))]
(.cond (.t 16)
(.seq (.drawn [o 17 (.build [vu 0,vi 0,ve,.nils,.nils] []),xa 18 0 5,xa 19 1 18,⟨(some 20),(.load false 1 (.t 19)),none,[5]⟩,m 21 4,xs 5 2 17,m 3 20,m 4 21])
(.ret [2,3,4]))
.skip)))
(.seq (Q [o 23 (.callF f_read_values_value [.t 5]),m 22 23,xe 24 22 0,xe 25 22 1,xs 5 2 24,m 4 25]
(Q [m 26 4,o 27 (.bin .neq 0 true (.t 26) (ci 0))]
(.cond (.t 27)
(.seq (.drawn [o 28 (.build [vu 0,vi 0,ve,.nils,.nils] []),xa 29 0 5,xa 30 1 29,⟨(some 31),(.load false 1 (.t 30)),none,[5]⟩,m 32 4,xs 5 2 28,m 3 31,m 4 32])
(.ret [2,3,4]))
.skip)))
(.seq (Q [xa 33 0 5,o 34 (.callF f_read_tokens_next [.t 33]),m 4 34]
(Q [m 35 4,o 36 (.bin .neq 0 true (.t 35) (ci 0))]
(.cond (.t 36)
(.seq (.drawn [o 37 (.build [vu 0,vi 0,ve,.nils,.nils] []),xa 38 0 5,xa 39 1 38,⟨(some 40),(.load false 1 (.t 39)),none,[5]⟩,m 41 4,xs 5 2 37,m 3 40,m 4 41])
(.ret [2,3,4]))
.skip)))
(.seq (Q [xa 42 0 5,xa 43 2 42,xa 44 0 43,xf 45 44,o 46 (.bin .neq 0 true (.t 45) (cu 11))]
(.cond (.t 46)
(.seq (.drawn [o 47 (.build [vu 0,vi 0,ve,.nils,.nils] []),xa 48 0 5,xa 49 1 48,⟨(some 50),(.load false 1 (.t 49)),none,[4]⟩,xs 5 2 47,m 3 50,o 4 (.mv (ci 11))])
(.ret [2,3,4]))
.skip))
(Q [xl 51 5 2,xs 5 2 51,o 3 (.mv (ci 0)),o 4 (.mv (ci 0))]
(.ret [2,3,4])))))))))⟩
def L_internal_strconv_ParseUint_0 : KC:=
(Q [o 102 (.bin .lss 0 false (.t 101) (.t 100))]
(.seq (.cond (.t 102)
.skip
(.exit [9,12,13] 3))
(.seq (.block 4
(Q [o 103 (.idxAddrSl 1 (.t 99) (.t 101)),xf 104 103,m 15 104]
(Q [o 16 (.mv (cu 0))]
(.seq (.block 5
(Q [m 107 15,o 108 (.bin .eql 0 true (.t 107) (cu 95)),m 109 108,og 110 109 true (.mv (.t 8)),o 111 (.pick (.t 109) (.t 110) (.c (.bool false))),m 106 111]
(.cond (.t 106)
(Q [o 12 (.mv (.c (.bool true)))]
(.exit [1,8,9,10,11,12,13,99,100,101] 4))
(Q [m 113 15,o 114 (.bin .leq 0 true (cu 48) (.t 113)),m 115 114,og 116 115 true (.mv (.t 15)),og 117 115 true (.bin .leq 0 true (.t 116) (cu 57)),o 118 (.pick (.t 115) (.t 117) (.c (.bool false))),m 112 118]
(.cond (.t 112)
(.ops [m 119 15,o 120 (.bin .sub 0 true (.t 119) (cu 48)),m 16 120])
(Q [m 122 15,o 123 (.callF f_internal_strconv_lower [.t 122]),o 124 (.bin .leq 0 true (cu 97) (.t 123)),m 125 124,og 126 125 true (.mv (.t 15)),og 127 125 true (.callF f_internal_strconv_lower [.t 126]),og 128 125 true (.bin .leq 0 true (.t 127) (cu 122)),o 129 (.pick (.t 125) (.t 128) (.c (.bool false))),m 121 129]
(.cond (.t 121)
(.ops [m 130 15,o 131 (.callF f_internal_strconv_lower [.t 130]),o 132 (.bin .sub 0 true (.t 131) (cu 97)),o 133 (.bin .add 0 true (.t 132) (cu 10)),m 16 133])
(Q [o 105 (.mkIface 165 (ci 2)),o 6 (.mv (.c (.int .u64 0))),m 7 105]
(.ret [6,7])))))))))
(.seq (Q [m 134 16,m 135 1,o 136 (.i2i .u8 (.t 135)),o 137 (.bin .geq 0 false (.t 134) (.t 136))]
(.cond (.t 137)
(Q [o 138 (.mkIface 165 (ci 2)),o 6 (.mv (.c (.int .u64 0))),m 7 138]
(.ret [6,7]))
.skip))
(.seq (Q [m 139 13,m 140 10,o 141 (.bin .geq 0 false (.t 139) (.t 140))]
(.cond (.t 141)
(Q [m 142 11,o 143 (.mkIface 165 (ci 1)),m 6 142,m 7 143]
(.ret [6,7]))
.skip))
(Q [m 144 13,m 145 1,o 146 (.i2i .u64 (.t 145)),o 147 (.bin .mul 0 false (.t 144) (.t 146)),m 13 147]
(Q [m 148 13,m 149 16,o 150 (.i2i .u64 (.t 149)),o 151 (.bin .add 0 false (.t 148) (.t 150)),m 17 151]
(.seq (Q [m 152 17,m 153 13,o 154 (.bin .lss 0 false (.t 152) (.t 153)),m 155 154,og 156 155 false (.mv (.t 17)),og 157 155 false (.mv (.t 11)),og 158 155 false (.bin .gtr 0 false (.t 156) (.t 157)),o 159 (.pick (.t 155) (.c (.bool true)) (.t 158))]
(.cond (.t 159)
(Q [m 160 11,o 161 (.mkIface 165 (ci 1)),m 6 160,m 7 161]
(.ret [6,7]))
.skip))
(.ops [m 162 17,m 13 162]))))))))))
(.ops [o 163 (.bin .add 0 true (.t 101) (ci 1)),m 101 163]))))
def K_internal_strconv_ParseUint : KF:=⟨3,172,[(.tmp 6),(.tmp 7)],(Q [o 6 (.mv (.c (.int .u64 0))),o 7 (.mv (.c .nilIface))]
(.seq (Q [m 18 0,o 19 (.bin .eql 0 true (.t 18) (cs []))]
(.cond (.t 19)
(Q [o 20 (.mkIface 165 (ci 2)),o 6 (.mv (.c (.int .u64 0))),m 7 20]
(.ret [6,7]))
.skip))
(Q [m 21 1,o 22 (.bin .eql 0 true (.t 21) (ci 0)),m 8 22]
(Q [m 23 0,m 9 23]
(.seq (.block 0
(Q [m 26 1,o 27 (.bin .leq 0 true (ci 2) (.t 26)),m 28 27,og 29 28 true (.mv (.t 1)),og 30 28 true (.bin .leq 0 true (.t 29) (ci 36)),o 31 (.pick (.t 28) (.t 30) (.c (.bool false))),m 25 31]
(.cond (.t 25)
.skip
(Q [m 33 1,o 34 (.bin .eql 0 true (.t 33) (ci 0)),m 32 34]
(.cond (.t 32)
(Q [o 1 (.mv (ci 10))]
(Q [m 35 0,o 36 (.idxStr (.t 35) (ci 0)),o 37 (.bin .eql 0 true (.t 36) (cu 48))]
(.cond (.t 37)
(.block 1
(Q [m 41 0,o 42 (.len 0 (.t 41)),o 43 (.bin .geq 0 true (.t 42) (ci 3)),m 44 43,og 45 44 true (.mv (.t 0)),og 46 44 true (.idxStr (.t 45) (ci 1)),og 47 44 true (.callF f_internal_strconv_lower [.t 46]),og 48 44 true (.bin .eql 0 true (.t 47) (cu 98)),o 49 (.pick (.t 44) (.t 48) (.c (.bool false))),m 40 49]
(.cond (.t 40)
(Q [o 1 (.mv (ci 2))]
(.ops [m 50 0,o 51 (.sliceStr (.t 50) (some (ci 2)) none),m 0 51]))
(Q [m 53 0,o 54 (.len 0 (.t 53)),o 55 (.bin .geq 0 true (.t 54) (ci 3)),m 56 55,og 57 56 true (.mv (.t 0)),og 58 56 true (.idxStr (.t 57) (ci 1)),og 59 56 true (.callF f_internal_strconv_lower [.t 58]),og 60 56 true (.bin .eql 0 true (.t 59) (cu 111)),o 61 (.pick (.t 56) (.t 60) (.c (.bool false))),m 52 61]
(.cond (.t 52)
(Q [o 1 (.mv (ci 8))]
(.ops [m 62 0,o 63 (.sliceStr (.t 62) (some (ci 2)) none),m 0 63]))
(Q [m 65 0,o 66 (.len 0 (.t 65)),o 67 (.bin .geq 0 true (.t 66) (ci 3)),m 68 67,og 69 68 true (.mv (.t 0)),og 70 68 true (.idxStr (.t 69) (ci 1)),og 71 68 true (.callF f_internal_strconv_lower [.t 70]),og 72 68 true (.bin .eql 0 true (.t 71) (cu 120)),o 73 (.pick (.t 68) (.t 72) (.c (.bool false))),m 64 73]
(.cond (.t 64)
(Q [o 1 (.mv (ci 16))]
(.ops [m 74 0,o 75 (.sliceStr (.t 74) (some (ci 2)) none),m 0 75]))
(Q [o 1 (.mv (ci 8))]
(.ops [m 38 0,o 39 (.sliceStr (.t 38) (some (ci 1)) none),m 0 39])))))))))
.skip)))
(Q [o 24 (.mkIface 165 (ci 3)),o 6 (.mv (.c (.int .u64 0))),m 7 24]
(.ret [6,7])))))))
(.seq (Q [m 76 2,o 77 (.bin .eql 0 true (.t 76) (ci 0))]
(.cond (.t 77)
(.ops [o 2 (.mv (ci 64))])
(Q [m 78 2,o 79 (.bin .lss 0 true (.t 78) (ci 0)),m 80 79,og 81 80 false (.mv (.t 2)),og 82 80 false (.bin .gtr 0 true (.t 81) (ci 64)),o 83 (.pick (.t 80) (.c (.bool true)) (.t 82))]
(.cond (.t 83)
(Q [o 84 (.mkIface 165 (ci 4)),o 6 (.mv (.c (.int .u64 0))),m 7 84]
(.ret [6,7]))
.skip))))
(Q [o 10 (.mv (.c (.int .u64 0)))]
(.seq (Q [m 85 1]
(.block 2
(Q [o 91 (.bin .eql 0 true (.t 85) (ci 10)),m 90 91]
(.cond (.t 90)
(.ops [o 10 (.mv (.c (.int .u64 1844674407370955162)))])
(Q [o 93 (.bin .eql 0 true (.t 85) (ci 16)),m 92 93]
(.cond (.t 92)
(.ops [o 10 (.mv (.c (.int .u64 1152921504606846976)))])
(.ops [m 86 1,o 87 (.i2i .u64 (.t 86)),o 88 (.bin .quo 0 true (.c (.int .u64 18446744073709551615)) (.t 87)),o 89 (.bin .add 0 true (.t 88) (.c (.int .u64 1))),m 10 89])))))))
(Q [m 94 2,o 95 (.i2i .u64 (.t 94)),o 96 (.bin .shl 0 true (.c (.int .u64 1)) (.t 95)),o 97 (.bin .sub 0 true (.t 96) (.c (.int .u64 1))),m 11 97]
(Q [o 12 (.mv (.c (.bool false)))]
(Q [o 13 (.mv (.c (.int .u64 0)))]
(.seq (Q [m 98 0,o 99 (.s2b (.t 98)),o 100 (.len 1 (.t 99)),o 101 (.mv (ci 0))]
(.block 3
(.loop [1,8,9,10,11,12,13,99,100,101] L_internal_strconv_ParseUint_0)))
(.seq (Q [m 164 12,m 165 164,og 166 165 true (.mv (.t 9)),og 167 165 true (.callF f_internal_strconv_underscoreOK [.t 166]),og 168 165 true (.un .not (.t 167)),o 169 (.pick (.t 165) (.t 168) (.c (.bool false)))]
(.cond (.t 169)
(Q [o 170 (.mkIface 165 (ci 2)),o 6 (.mv (.c (.int .u64 0))),m 7 170]
(.ret [6,7]))
.skip))
(Q [m 171 13,m 6 171,o 7 (.mv (.c .nilIface))]
(.ret [6,7])))))))))))))))⟩
def L_read_tokens_next_0 : KC:=
(.seq (.seq (.plain [m 12 0,o 13 (.nilck (.t 12)),xa 14 1 13,xf 15 14,m 16 0,o 17 (.nilck (.t 16)),xa 18 0 17,xf 19 18,o 20 (.len 0 (.t 19)),o 21 (.bin .lss 0 false (.t 15) (.t 20)),m 22 21,og 23 22 true (.mv (.t 0)),og 24 22 true (.nilck (.t 23)),og 25 22 true (.fieldAddr 0 (.t 24)),og 26 22 true (.load false 1 (.t 25)),og 27 22 true (.mv (.t 0)),og 28 22 true (.nilck (.t 27)),og 29 22 true (.fieldAddr 1 (.t 28)),og 30 22 true (.load false 1 (.t 29)),og 31 22 true (.idxStr (.t 26) (.t 30)),og 32 22 true (.callF f_read_space [.t 31]),o 33 (.pick (.t 22) (.t 32) (.c (.bool false)))])
(.cond (.t 33)
.skip
(.exit [0] 0)))
(.block 1
(.ops [m 34 0,o 35 (.nilck (.t 34)),xa 36 1 35,xf 37 36,o 38 (.bin .add 0 true (.t 37) (ci 1)),o 39 (.nilck (.t 34)),xa 40 1 39,xs 1 40 38])))
def K_read_tokens_next : KF:=⟨1,65,[(.tmp 2)],(Q [o 2 (.mv (ci 0))]
(Q [m 5 0,m 6 0,o 7 (.nilck (.t 6)),xa 8 7 7,xf 9 8,o 10 (.nilck (.t 5)),xa 11 1 10,xs 1 11 9]
(.seq (.block 0
(.loop [0] L_read_tokens_next_0))
(.seq (.plain [m 42 0,o 43 (.nilck (.t 42)),xa 44 0 43,xf 45 44,m 46 0,o 47 (.nilck (.t 46)),xa 48 1 47,xf 49 48,o 50 (.callF f_lex_Next [.t 45,.t 49]),m 41 50,xe 51 41 0,xe 52 41 1,u .pend,o 3 (.fill 12 3 5 (.t 51)),m 4 52])
(.seq (Q [m 53 4,o 54 (.bin .neq 0 true (.t 53) (ci 0))]
(.cond (.t 54)
(Q [m 55 4,m 2 55]
(.ret [2]))
.skip))
(.seq (.drawn [m 56 0,m 57 0,xl 58 5 3,xa 59 2 3,⟨(some 60),(.load false 1 (.t 59)),none,[7]⟩,o 61 (.nilck (.t 56)),xa 62 2 61,xs 5 62 58,o 63 (.nilck (.t 57)),xa 64 7 63,xs 1 64 60])
(Q [o 2 (.mv (ci 0))]
(.ret [2]))))))))⟩
def K_read_values_value : KF:=⟨1,104,[(.cell 2 true 5),(.tmp 3)],(Q [o 2 (.new [vu 0,vi 0,ve,.nils,.nils] none),o 3 (.mv (ci 0))]
(.seq (Q [m 6 0,o 7 (.nilck (.t 6)),xa 8 0 7,xa 9 2 8,xa 10 0 9,xf 11 10]
(.block 0
(.seq (Q [o 16 (.bin .eql 0 true (.t 11) (cu 1)),m 15 16]
(.cond (.t 15)
.skip
(Q [o 17 (.bin .eql 0 true (.t 11) (cu 3)),m 15 17]
(.cond (.t 15)
.skip
(Q [o 18 (.bin .eql 0 true (.t 11) (cu 7)),m 15 18]
(.cond (.t 15)
.skip
(Q [o 19 (.bin .eql 0 true (.t 11) (cu 8)),m 15 19]
(.cond (.t 15)
.skip
(Q [o 20 (.bin .eql 0 true (.t 11) (cu 9)),m 15 20]
(.cond (.t 15)
.skip
(.ops [o 21 (.bin .eql 0 true (.t 11) (cu 10)),m 15 21])))))))))))
(.cond (.t 15)
.skip
(Q [o 12 (.build [vu 0,vi 0,ve,.nils,.nils] []),m 13 0,o 14 (.callF f_read_values_wrong [.t 13]),xs 5 2 12,m 3 14]
(.ret [2,3]))))))
(.seq (Q [m 22 0,o 23 (.nilck (.t 22)),xa 24 8 23,xf 25 24,o 26 (.bin .geq 0 true (.t 25) (ci 8192))]
(.cond (.t 26)
(Q [o 27 (.build [vu 0,vi 0,ve,.nils,.nils] []),xs 5 2 27,o 3 (.mv (ci 5))]
(.ret [2,3]))
.skip))
(Q [m 28 0,o 29 (.nilck (.t 28)),xa 30 8 29,xf 31 30,o 32 (.bin .add 0 true (.t 31) (ci 1)),o 33 (.nilck (.t 28)),xa 34 8 33,xs 1 34 32]
(.seq (Q [m 35 0,o 36 (.nilck (.t 35)),xa 37 0 36,xa 38 2 37,xa 39 0 38,xf 40 39]
(.block 1
(Q [o 42 (.bin .eql 0 true (.t 40) (cu 7)),m 41 42]
(.cond (.t 41)
(Q [o 43 (.build [vu 0,vi 0,ve,.nils,.nils] [(0,1,(cu 1)),(1,1,(ci 1))]),xs 5 2 43,o 3 (.mv (ci 0))]
(.ret [2,3]))
(Q [o 45 (.bin .eql 0 true (.t 40) (cu 8)),m 44 45]
(.cond (.t 44)
(Q [o 46 (.build [vu 0,vi 0,ve,.nils,.nils] [(0,1,(cu 1))]),xs 5 2 46,o 3 (.mv (ci 0))]
(.ret [2,3]))
(Q [o 48 (.bin .eql 0 true (.t 40) (cu 9)),m 47 48]
(.cond (.t 47)
(Q [m 49 0,o 50 (.nilck (.t 49)),xa 51 0 50,xa 52 2 51,xa 53 3 52,xf 54 53,o 55 (.build [vu 0,vi 0,ve,.nils,.nils] [(0,1,(cu 2)),(1,1,(.t 54))]),xs 5 2 55,o 3 (.mv (ci 0))]
(.ret [2,3]))
(Q [o 57 (.bin .eql 0 true (.t 40) (cu 10)),m 56 57]
(.cond (.t 56)
(Q [m 58 0,o 59 (.nilck (.t 58)),xa 60 0 59,xa 61 2 60,xa 62 4 61,xf 63 62,o 64 (.build [vu 0,vi 0,ve,.nils,.nils] [(0,1,(cu 3)),(2,1,(.t 63))]),xs 5 2 64,o 3 (.mv (ci 0))]
(.ret [2,3]))
.skip))))))))))
(.seq (Q [m 65 0,o 66 (.nilck (.t 65)),xa 67 9 66,xf 68 67,o 69 (.bin .geq 0 true (.t 68) (ci 12))]
(.cond (.t 69)
(Q [o 70 (.build [vu 0,vi 0,ve,.nils,.nils] []),xs 5 2 70,o 3 (.mv (ci 8))]
(.ret [2,3]))
.skip))
(Q [m 71 0,o 72 (.nilck (.t 71)),xa 73 9 72,xf 74 73,o 75 (.bin .add 0 true (.t 74) (ci 1)),o 76 (.nilck (.t 71)),xa 77 9 76,xs 1 77 75]
(Q [o 4 (.new [vu 0,vi 0,ve,.nils,.nils] none)]
(Q [o 5 (.mv (ci 0))]
(.seq (Q [m 78 0,o 79 (.nilck (.t 78)),xa 80 0 79,xa 81 2 80,xa 82 0 81,xf 83 82,o 84 (.bin .eql 0 true (.t 83) (cu 3))]
(.cond (.t 84)
(.ops [m 86 0,o 87 (.callF f_read_values_list [.t 86]),m 85 87,xe 88 85 0,xe 89 85 1,xs 5 4 88,m 5 89])
(.ops [m 91 0,o 92 (.callF f_read_values_object [.t 91]),m 90 92,xe 93 90 0,xe 94 90 1,xs 5 4 93,m 5 94])))
(Q [m 95 0,o 96 (.nilck (.t 95)),xa 97 9 96,xf 98 97,o 99 (.bin .sub 0 true (.t 98) (ci 1)),o 100 (.nilck (.t 95)),xa 101 9 100,xs 1 101 99]
(Q [xl 102 5 4,m 103 5,xs 5 2 102,m 3 103]
(.ret [2,3])))))))))))))⟩
def K_lex_Next : KF:=⟨2,24,[(.cell 4 true 5),(.tmp 5)],(Q [o 4 (.new [vu 0,vi 0,vi 0,vi 0,ve] none),o 5 (.mv (ci 0))]
(.seq (Q [m 7 1,o 8 (.bin .lss 0 true (.t 7) (ci 0)),m 9 8,og 10 9 false (.mv (.t 1)),og 11 9 false (.mv (.t 0)),og 12 9 false (.len 0 (.t 11)),og 13 9 false (.bin .gtr 0 false (.t 10) (.t 12)),o 14 (.pick (.t 9) (.c (.bool true)) (.t 13))]
(.cond (.t 14)
(Q [o 15 (.build [vu 0,vi 0,vi 0,vi 0,ve] []),xs 5 4 15,o 5 (.mv (ci 1))]
(.ret [4,5]))
.skip))
(Q [o 16 (.callF f_lex_rules []),o 6 (.new (rp 256 .nilFunc) none),xs 256 6 16]
(Q [m 17 0,m 18 0,m 19 1,o 20 (.callF f_lex_skip [.t 18,.t 19]),o 21 (.callF f_lex_token [.t 6,.t 17,.t 20]),xe 22 21 0,xe 23 21 1,xs 5 4 22,m 5 23]
(.ret [4,5])))))⟩
def K_read_values_wrong : KF:=⟨1,10,[(.tmp 2)],(Q [o 2 (.mv (ci 0))]
(.seq (Q [m 3 0,o 4 (.nilck (.t 3)),xa 5 0 4,xa 6 2 5,xa 7 0 6,xf 8 7,o 9 (.bin .eql 0 true (.t 8) (cu 11))]
(.cond (.t 9)
(Q [o 2 (.mv (ci 4))]
(.ret [2]))
.skip))
(Q [o 2 (.mv (ci 3))]
(.ret [2]))))⟩
def L_lex_rules_0 : KC:=
(.seq (Q [m 15 2,o 16 (.bin .leq 0 true (.t 15) (.c (.int .i32 57)))]
(.cond (.t 16)
.skip
(.exit [0,1] 0)))
(.seq (.block 1
(.ops [m 19 2,o 20 (.idxAddrArr 256 1 (.t 1) (.t 19)),xa 21 0 20,u (.store 1 (.t 21) (.c (.func (.func f_lex_number) [] [])))]))
(.ops [m 17 2,o 18 (.bin .add 0 true (.t 17) (.c (.int .i32 1))),m 2 18])))
def L_lex_rules_1 : KC:=
(.seq (Q [m 22 3,o 23 (.bin .leq 0 true (.t 22) (.c (.int .i32 122)))]
(.cond (.t 23)
.skip
(.exit [0,1] 2)))
(.seq (.block 3
(.ops [m 26 3,o 27 (.idxAddrArr 256 1 (.t 1) (.t 26)),xa 28 0 27,u (.store 1 (.t 28) (.c (.func (.func f_lex_word) [] [])))]))
(.ops [m 24 3,o 25 (.bin .add 0 true (.t 24) (.c (.int .i32 1))),m 3 25])))
def K_lex_rules : KF:=⟨0,30,[(.cell 0 true 256)],(Q [o 0 (.new (rp 256 .nilFunc) none)]
(Q [o 4 (.build [.nilFunc] [(0,1,(.c (.func (.func f_lex_open) [] [])))]),o 5 (.build [.nilFunc] [(0,1,(.c (.func (.func f_lex_shut) [] [])))]),o 6 (.build [.nilFunc] [(0,1,(.c (.func (.func f_lex_first) [] [])))]),o 7 (.build [.nilFunc] [(0,1,(.c (.func (.func f_lex_last) [] [])))]),o 8 (.build [.nilFunc] [(0,1,(.c (.func (.func f_lex_comma) [] [])))]),o 9 (.build [.nilFunc] [(0,1,(.c (.func (.func f_lex_colon) [] [])))]),o 10 (.build [.nilFunc] [(0,1,(.c (.func (.func f_lex_number) [] [])))]),o 11 (.build [.nilFunc] [(0,1,(.c (.func (.func f_lex_number) [] [])))]),o 12 (.build [.nilFunc] [(0,1,(.c (.func (.func f_lex_number) [] [])))]),o 13 (.build [.nilFunc] [(0,1,(.c (.func (.func f_lex_text) [] [])))]),o 14 (.build (rp 256 .nilFunc) [(123,1,(.t 4)),(125,1,(.t 5)),(91,1,(.t 6)),(93,1,(.t 7)),(44,1,(.t 8)),(58,1,(.t 9)),(45,1,(.t 10)),(43,1,(.t 11)),(46,1,(.t 12)),(34,1,(.t 13))]),o 1 (.new (rp 256 .nilFunc) none),xs 256 1 14]
(.seq (Q [o 2 (.mv (.c (.int .i32 48)))]
(.block 0
(.loop [0,1,2] L_lex_rules_0)))
(.seq (Q [o 3 (.mv (.c (.int .i32 97)))]
(.block 2
(.loop [0,1,3] L_lex_rules_1)))
(Q [xl 29 256 1,xs 256 0 29]
(.ret [0]))))))⟩
def K_lex_token : KF:=⟨3,33,[(.cell 6 true 5),(.tmp 7)],(Q [o 6 (.new [vu 0,vi 0,vi 0,vi 0,ve] none),o 7 (.mv (ci 0))]
(.seq (Q [m 9 2,m 10 1,o 11 (.len 0 (.t 10)),o 12 (.bin .eql 0 false (.t 9) (.t 11))]
(.cond (.t 12)
(Q [m 13 2,m 14 2,o 15 (.build [vu 0,vi 0,vi 0,vi 0,ve] [(0,1,(cu 11)),(1,1,(.t 13)),(2,1,(.t 14))]),xs 5 6 15,o 7 (.mv (ci 0))]
(.ret [6,7]))
.skip))
(.seq (.plain [m 16 0,m 17 1,m 18 2,o 19 (.idxStr (.t 17) (.t 18)),o 20 (.nilck (.t 16)),o 21 (.idxAddrArr 256 1 (.t 20) (.t 19)),xa 22 0 21,xf 23 22,m 8 23])
(.seq (Q [m 24 8,o 25 (.bin .eql 4 true (.t 24) (.c .nilFunc))]
(.cond (.t 25)
(Q [o 26 (.build [vu 0,vi 0,vi 0,vi 0,ve] []),xs 5 6 26,o 7 (.mv (ci 3))]
(.ret [6,7]))
.skip))
(Q [m 27 8,m 28 1,m 29 2,o 30 (.callV (.t 27) [.t 28,.t 29]),xe 31 30 0,xe 32 30 1,xs 5 6 31,m 7 32]
(.ret [6,7]))))))⟩
def L_lex_skip_0 : KC:=
(.seq (Q [m 5 1,m 6 0,o 7 (.len 0 (.t 6)),o 8 (.bin .lss 0 false (.t 5) (.t 7)),m 9 8,og 10 9 true (.mv (.t 0)),og 11 9 true (.mv (.t 1)),og 12 9 true (.idxStr (.t 10) (.t 11)),og 13 9 true (.bin .eql 0 true (.t 12) (cu 32)),og 14 9 true (.mv (.t 13)),og 15 14 false (.mv (.t 0)),og 16 14 false (.mv (.t 1)),og 17 14 false (.idxStr (.t 15) (.t 16)),og 18 14 false (.bin .eql 0 true (.t 17) (cu 9)),og 19 9 true (.pick (.t 14) (.c (.bool true)) (.t 18)),og 20 9 true (.mv (.t 19)),og 21 20 false (.mv (.t 0)),og 22 20 false (.mv (.t 1)),og 23 20 false (.idxStr (.t 21) (.t 22)),og 24 20 false (.bin .eql 0 true (.t 23) (cu 10)),og 25 9 true (.pick (.t 20) (.c (.bool true)) (.t 24)),og 26 9 true (.mv (.t 25)),og 27 26 false (.mv (.t 0)),og 28 26 false (.mv (.t 1)),og 29 26 false (.idxStr (.t 27) (.t 28)),og 30 26 false (.bin .eql 0 true (.t 29) (cu 13)),og 31 9 true (.pick (.t 26) (.c (.bool true)) (.t 30)),o 32 (.pick (.t 9) (.t 31) (.c (.bool false)))]
(.cond (.t 32)
.skip
(.exit [1] 0)))
(.block 1
(.ops [m 33 1,o 34 (.bin .add 0 true (.t 33) (ci 1)),m 1 34])))
def K_lex_skip : KF:=⟨2,36,[(.tmp 4)],(Q [o 4 (.mv (ci 0))]
(.seq (.block 0
(.loop [0,1] L_lex_skip_0))
(Q [m 35 1,m 4 35]
(.ret [4]))))⟩
end Go.Ev
namespace Go.Proofs.YtkhhblknjdcphabGreatDoor
open Go.Shelf Go.Proofs
def Tryz.lays170_ren : Go.Shelf.Ren:=⟨fun | 170=>307 | n=>n,fun | 70=>67 | 3=>3 | 0=>0 | 72=>70 | 37=>68 | 5=>5 | n=>n,fun | n=>n⟩
theorem Tryz.lays170 : Go.Proofs.Lays.n170 Tryz.prog Tryz.lays170_ren:={
 mixed:=by kernel_rfl
 f170:=Tryz.func307.trans (congrArg some (by kernel_rfl))
 t0:=Tryz.underlying0
 a0:=Tryz.isAgg0
 z0:=Tryz.sizeOf0
 v0:=Tryz.zeroValue0
 t3:=Tryz.underlying3
 a3:=Tryz.isAgg3
 z3:=Tryz.sizeOf3
 v3:=Tryz.zeroValue3
 t37:=Tryz.underlying68
 a37:=Tryz.isAgg68
 z37:=Tryz.sizeOf68
 v37:=Tryz.zeroValue68
 t70:=Tryz.underlying67
 a70:=Tryz.isAgg67
 z70:=Tryz.sizeOf67
 v70:=Tryz.zeroValue67
 t72:=Tryz.underlying70
 a72:=Tryz.isAgg70
 z72:=Tryz.sizeOf70
 v72:=Tryz.zeroValue70 }
open Go.RowKit in
theorem Tryz.Builder_Len (B b : Nat) (bs : List Value) (w : World) (h : Lib.IsBuilder 70 5 B b bs w) :
  Calls Tryz.prog 307 #[.pointer (some ⟨b,0,none⟩)] w fun e w'=>e = .returned (.int .i64 bs.length) ∧ w' = w:=Any.Builder_Len Tryz.lays170 B b bs w h
def Tryz.lays169_ren : Go.Shelf.Ren:=⟨fun | 169=>32 | n=>n,fun | 70=>67 | 9=>9 | 0=>0 | 72=>70 | 37=>68 | 127=>100 | 3=>3 | 5=>5 | n=>n,fun | n=>n⟩
theorem Tryz.lays169 : Go.Proofs.Lays.n169 Tryz.prog Tryz.lays169_ren:={
 mixed:=by kernel_rfl
 f169:=Tryz.func32.trans (congrArg some (by kernel_rfl))
 t0:=Tryz.underlying0
 a0:=Tryz.isAgg0
 z0:=Tryz.sizeOf0
 v0:=Tryz.zeroValue0
 t3:=Tryz.underlying3
 a3:=Tryz.isAgg3
 z3:=Tryz.sizeOf3
 v3:=Tryz.zeroValue3
 t9:=Tryz.underlying9
 a9:=Tryz.isAgg9
 z9:=Tryz.sizeOf9
 v9:=Tryz.zeroValue9
 t37:=Tryz.underlying68
 a37:=Tryz.isAgg68
 z37:=Tryz.sizeOf68
 v37:=Tryz.zeroValue68
 t70:=Tryz.underlying67
 a70:=Tryz.isAgg67
 z70:=Tryz.sizeOf67
 v70:=Tryz.zeroValue67
 t72:=Tryz.underlying70
 a72:=Tryz.isAgg70
 z72:=Tryz.sizeOf70
 v72:=Tryz.zeroValue70
 t127:=Tryz.underlying100
 a127:=Tryz.isAgg100
 z127:=Tryz.sizeOf100
 v127:=Tryz.zeroValue100 }
theorem Tryz.Builder_Extra_169 : Builder.Extra Tryz.prog Tryz.lays169_ren:={
 sizeBuilder:=by kernel_rfl
 liesBuilder:=by kernel_rfl
 t5:=Tryz.underlying5
 a5:=Tryz.isAgg5
 z5:=Tryz.sizeOf5
 v5:=Tryz.zeroValue5
 infoByte:=by kernel_rfl
 cellsByte:=by kernel_rfl
 sizeByte:=by kernel_rfl
 neB5:=by decide }
open Go.RowKit in
theorem Tryz.Builder_String (B b : Nat) (l : List UInt8) (w : World) (h : Lib.IsBuilder 70 5 B b (Lib.byteCells l) w) (h0 : l ≠ []) :
  Calls Tryz.prog 32 #[.pointer (some ⟨b,0,none⟩)] w fun e w'=>e = .returned (.string ⟨l.toArray⟩) ∧ Below B w w':= Any.Builder_String Tryz.lays169 Tryz.Builder_Extra_169 B b l w h h0
open Go.RowKit in
theorem Tryz.Builder_String_empty (B b : Nat) (w : World) (h : Lib.IsBuilder 70 5 B b [] w) (hBw : B ≤ w.heap.size) :
  Calls Tryz.prog 32 #[.pointer (some ⟨b,0,none⟩)] w fun e w'=>e = .returned (.string ⟨#[]⟩) ∧ Below B w w':= Any.Builder_String_empty Tryz.lays169 Tryz.Builder_Extra_169 B b w h hBw
open Go.RowKit in
theorem Tryz.Builder_String_any (B b : Nat) (l : List UInt8) (w : World) (h : Lib.IsBuilder 70 5 B b (Lib.byteCells l) w) (hBw : B ≤ w.heap.size) :
  Calls Tryz.prog 32 #[.pointer (some ⟨b,0,none⟩)] w fun e w'=>e = .returned (.string ⟨l.toArray⟩) ∧ Below B w w':= Any.Builder_String_any Tryz.lays169 Tryz.Builder_Extra_169 B b l w h hBw
end Go.Proofs.YtkhhblknjdcphabGreatDoor
namespace Go.Proofs.YtkhhblknjdcphabGreatDoor
open Go.RowKit
set_option linter.unusedVariables false
set_option maxRecDepth 100000
theorem sizeB : (Tryz.prog.info? 70).map (fun i=>i.size) = some 2:=by kernel_rfl
theorem infoByte : (Tryz.prog.info? 5).map (fun i=>(i.zero,i.size,i.bytes)) = some (some (.int .u8 0),1,1):=by kernel_rfl
theorem liesB : liesAt Tryz.prog Tryz.prog.depth 70 (2 / Tryz.prog.cellsOf 70) 0 70 1 = true:=by kernel_rfl
theorem check_used (b : Nat) (w : World) (h0 : w.cell? ⟨b,0,none⟩ = some (.pointer (some ⟨b,0,none⟩))) :
  Calls Tryz.prog 41 #[.pointer (some ⟨b,0,none⟩)] w fun e w'=>e = .returned (.tuple #[]) ∧ w = w':= by
 obtain ⟨j,hj,_⟩:=Option.map_eq_some_iff.1 sizeB
 have hq:=Lib.run_neq_ptr_same (P:=Tryz.prog) w (⟨b,0,none⟩) Tryz.underlying67 hj
 go_enter Tryz.func41,Tryz.ntmps41
 go_wp2
 go_end0
 exact ⟨rfl,rfl⟩
theorem check_fresh (b : Nat) (w : World) (h0 : w.cell? ⟨b,0,none⟩ = some (.pointer none)) (hsh : w.shape? b = some (70,2)) (hfz : w.frozen? ⟨b,0,none⟩ = false) :
  Calls Tryz.prog 41 #[.pointer (some ⟨b,0,none⟩)] w fun e w'=>e = .returned (.tuple #[]) ∧ w' = w.setCell ⟨b,0,none⟩ (.pointer (some ⟨b,0,none⟩)):=by
 obtain ⟨j,hj,hjs⟩:=Option.map_eq_some_iff.1 sizeB
 have h1:=Lib.run_to_unsafe (P:=Tryz.prog) w ⟨b,0,none⟩ Tryz.underlying67 Tryz.underlying122 hj (by rw [hjs]; decide) hsh (Nat.zero_lt_succ 1)
 have h2:=Lib.run_from_unsafe (P:=Tryz.prog) w ⟨b,0,none⟩ Tryz.underlying122 Tryz.underlying67 hj hsh liesB
 have h3 : (callFunc 54 #[.pointer (some ⟨b,0,none⟩)]).run Tryz.prog w = .ok (Next.value (.pointer (some ⟨b,0,none⟩))) w:=by
  rw [run_callFunc_extern Tryz.func54 (by kernel_rfl) (by kernel_rfl) (by kernel_rfl) (e:=Extern.AbiNoEscape.same) (by kernel_rfl),Lib.run_noEscape]; rfl
 go_enter Tryz.func41,Tryz.ntmps41
 go_wp2
 go_end0
 exact ⟨rfl,rfl⟩
end Go.Proofs.YtkhhblknjdcphabGreatDoor
namespace Go.Proofs.YtkhhblknjdcphabGreatDoor
open Go.Ev Go.RowKit Go.Shelf
set_option maxRecDepth 100000
set_option linter.unusedVariables false
theorem fnCopy : IsFn Tryz.prog 41:=⟨_,Tryz.func41,by decide,rfl⟩
theorem fnString : IsFn Tryz.prog 32:=⟨_,Tryz.func32,by decide,rfl⟩
def pCopy (args : List AV) (σ : St) : Option (AV × St):=
 match args with
 | [.ref o 0]=>match σ[o]? with
   | some (.cells [.nilp,b] ⟨false,some (70,true)⟩)=>some (.undef,σ.set o (.cells [.ref o 0,b] ⟨false,some (70,true)⟩))
   | some (.cells (.ref p 0 :: l) fz)=>match Nat.beq o p with
     | true=>some (.undef,σ)
     | false=>none
   | _=>none
 | _=>none
theorem pokCopy {C : Ctx} (hP : C.P = Tryz.prog) : POK C 41 pCopy:=by
 intro args σ v σ' h g w args' ha hw hg
 unfold pCopy at h
 split at h
 ·rename_i o
  cases ha with
  | cons _ v1 _ l1 x y=>
    cases y
    cases x with
    | ref _ _ ho=>
      split at h
      ·rename_i b hb
       simp at h
       obtain ⟨rfl,rfl⟩:=h
       obtain ⟨c,e,fr,h1,h2,h3,h4,h5,h6⟩:=hw.obj o _ hb
       obtain ⟨he,hx⟩:=h5.2 _ _ rfl
       obtain ⟨u,hu,hr⟩:=h4 0 .nilp rfl
       cases hr
       have hc0 : w.cell? ⟨g.ob o,0,none⟩ = some (.pointer none):=by rw [cell_of_heap h1]; exact hu
       have hsz : c.size = 2:=hx rfl
       have hgo:=goes_cell (P:=C.P) hw hb (off:=0) (.ref o 0 ho) (by simp) rfl
       refine does_of (by rw [hP]; exact fnCopy) ?_
       rw [hP]
       exact (check_fresh (g.ob o) w hc0 (by simp [World.shape?,h1,hsz,he]) (by rw [World.frozen?,h1,h5.1]; rfl)).mono fun e w2 ⟨he2,hw2⟩=>⟨_,he2,g,by rw [hw2]; exact hgo,.tup _ _ .nil⟩
      ·rename_i p l fz hb
       split at h
       ·rename_i hop
        have hop:=Nat.eq_of_beq_eq_true hop
        subst hop
        simp at h
        obtain ⟨rfl,rfl⟩:=h
        obtain ⟨c,e,fr,h1,h2,h3,h4,h5,h6⟩:=hw.obj o _ hb
        obtain ⟨u,hu,hr⟩:=h4 0 (.ref o 0) rfl
        cases hr
        have hc0 : w.cell? ⟨g.ob o,0,none⟩ = some (.pointer (some ⟨g.ob o,0,none⟩)):=by rw [cell_of_heap h1]; exact hu
        refine does_of (by rw [hP]; exact fnCopy) ?_
        rw [hP]
        exact (check_used (g.ob o) w hc0).mono fun e w2 ⟨he2,hw2⟩=>⟨_,he2,g,by rw [← hw2]; exact .refl hw,.tup _ _ .nil⟩
       ·cases h
      ·cases h
 ·cases h
section
variable {P : Program} {ρ : Ren}
set_option maxHeartbeats 1000000 in
theorem string_exact (L : Lays.n169 P ρ) (X : Builder.Extra P ρ) (b g cap : Nat) (p : Value) (cur : Array Value) (l : List UInt8) (w : World) (hbk : w.heap[b]? = some (.cells #[p,.slice (some ⟨g,0,none⟩) l.length cap] (ρ.t 72) (0,0))) (hg : w.heap[g]? = some (.cells cur (ρ.t 5) (0,0)))
  (h0 : l ≠ []) (hnc : l.length ≤ cap) (hcs : l.length ≤ cur.size) (hcm : l.length ≤ 1099511627776) (htake : ∀ (j : Nat) (x : UInt8),l[j]? = some x → cur[j]? = some (Value.int .u8 x.toNat)) :
  Calls P (ρ.f 169) #[.pointer (some ⟨b,0,none⟩)] w fun e w'=>e = .returned (.string ⟨l.toArray⟩) ∧ w' = w.drew.freeze ⟨g,0,none⟩ l.length:=by
 have hl0 : l.length ≠ 0:=by simpa using h0
 have c1 : w.drew.cell? ⟨b,1,none⟩ = some (.slice (some ⟨g,0,none⟩) l.length cap):=by
  have : w.drew.heap[b]? = some (.cells #[p,.slice (some ⟨g,0,none⟩) l.length cap] (ρ.t 72) (0,0)):=hbk
  rw [Lib.cell_of_heap this]; rfl
 have hSD : (Builtin.unsafeSliceData_ #[(ρ.t 37)] (ρ.t 127) #[.slice (some ⟨g,0,none⟩) l.length cap]).run P w.drew = .ok (.pointer (some ⟨g,0,none⟩)) w.drew:=
  Lib.run_unsafeSliceData_row _ _ _ _ _ _ (by omega)
 have hUS : (Builtin.unsafeString_ #[(ρ.t 127),(ρ.t 3)] (ρ.t 9) #[.pointer (some ⟨g,0,none⟩),.int .i64 l.length]).run P w.drew = .ok (.string ⟨l.toArray⟩) (w.drew.freeze ⟨g,0,none⟩ l.length):=by
  refine Lib.run_unsafeString_row w.drew (ρ.t 127) (ρ.t 3) (ρ.t 9) (ρ.t 5) L.t127 X.cellsByte g cur.size (by have hg' : w.drew.heap[g]? = some (.cells cur (ρ.t 5) (0,0)):=hg; simp [World.shape?,hg']) l h0 (by omega) (by omega) ?_
  intro j x hx
  have hg' : w.drew.heap[g]? = some (.cells cur (ρ.t 5) (0,0)):=hg
  have ha : (⟨g,0,none⟩ : Addr).add j = ⟨g,0 + j,none⟩:=by unfold Addr.add; split <;> simp_all
  rw [ha,Lib.cell_of_heap hg',Nat.zero_add]
  exact htake j x hx
 clear htake hcm hcs hnc
 have mixed:=L.mixed
 have t72:=L.t72; have a72:=L.a72; have z72:=L.z72; have v72:=L.v72; have u72:=run_underlying L.t72
 have t70:=L.t70; have a70:=L.a70; have z70:=L.z70; have v70:=L.v70; have u70:=run_underlying L.t70
 have t37:=L.t37; have a37:=L.a37; have z37:=L.z37; have v37:=L.v37; have u37:=run_underlying L.t37
 have t127:=L.t127; have a127:=L.a127; have z127:=L.z127; have v127:=L.v127; have u127:=run_underlying L.t127
 have t3:=L.t3; have a3:=L.a3; have z3:=L.z3; have v3:=L.v3; have u3:=run_underlying L.t3
 have t9:=L.t9; have a9:=L.a9; have z9:=L.z9; have v9:=L.v9; have u9:=run_underlying L.t9
 have t5:=X.t5; have a5:=X.a5; have z5:=X.z5; have v5:=X.v5; have u5:=run_underlying X.t5
 go_enter L.f169,Body.n169_ntmps ρ
 go_wp2
 go_region_o
 all_goals (go_wp2; go_ret; exact ⟨rfl,rfl⟩)
end
noncomputable def pString (args : List AV) (σ : St) : Option (AV × St):=
 match args with
 | [.ref o 0]=>match σ[o]? with
   | some (.cells [p,.nils] ⟨false,some (70,true)⟩)=>some (.str [],σ)
   | some (.cells [p,.msl ob 0 n 1] ⟨false,some (70,true)⟩)=>match σ[ob]? with
     | some (.cells l ⟨false,some (5,x)⟩)=>match bytesX l with
       | some (b :: s)=>match andR (Nat.beq (b :: s).length n) (Nat.ble (b :: s).length 1099511627776) with
         | true=>some (.str (b :: s),σ.set ob .dead)
         | false=>none
       | _=>none
     | _=>none
   | _=>none
 | _=>none
theorem pokString {C : Ctx} (hP : C.P = Tryz.prog) : POK C 32 pString:=by
 intro args σ v σ' h g w args' ha hw hg
 unfold pString at h
 split at h
 ·rename_i o
  cases ha with
  | cons _ v1 _ l1 x y=>
    cases y
    cases x with
    | ref _ _ ho=>
      split at h
      ·rename_i p hb
       simp at h
       obtain ⟨rfl,rfl⟩:=h
       obtain ⟨c,e,fr,h1,h2,h3,h4,h5,h6⟩:=hw.obj o _ hb
       obtain ⟨he,hx⟩:=h5.2 _ _ rfl
       have hfr:=h5.1
       obtain ⟨u0,hu0,hr0⟩:=h4 0 p rfl
       obtain ⟨u1,hu1,hr1⟩:=h4 1 .nils rfl
       cases hr1
       have hsz : c.size = 2:=hx rfl
       have hc : c = #[u0,.slice none 0 0]:=by
        apply Array.ext_getElem?
        intro i
        match i with
        | 0=>exact hu0
        | 1=>exact hu1
        | i + 2=>simp [hsz]
       subst hc he hfr
       refine does_of (by rw [hP]; exact fnString) ?_
       rw [hP]
       exact (Any.Builder_String_nil Tryz.lays169 Tryz.Builder_Extra_169 w.heap.size (g.ob o) u0 w h1).mono fun e w2 ⟨he2,hw2⟩=>⟨_,he2,g,goes_below hw hw2,.str []⟩
      ·rename_i p ob n hb
       split at h
       ·rename_i l x hbl
        split at h
        ·rename_i b s hbx
         split at h
         ·rename_i hn
          rw [andR_is,Bool.and_eq_true] at hn
          have hn1:=Nat.eq_of_beq_eq_true hn.1
          have hn2:=Nat.le_of_ble_eq_true hn.2
          simp only [Option.some.injEq,Prod.mk.injEq] at h
          obtain ⟨rfl,rfl⟩:=h
          obtain ⟨c,e,fr,h1,h2,h3,h4,h5,h6⟩:=hw.obj o _ hb
          obtain ⟨he,hx⟩:=h5.2 _ _ rfl
          have hfr:=h5.1
          obtain ⟨u0,hu0,hr0⟩:=h4 0 p rfl
          obtain ⟨u1,hu1,hr1⟩:=h4 1 (.msl ob 0 n 1) rfl
          cases hr1 with
          | msl _ _ _ _ cap hob hncap hcap=>
          have hsz : c.size = 2:=hx rfl
          have hc : c = #[u0,.slice (some ⟨g.ob ob,0,none⟩) n cap]:=by
           apply Array.ext_getElem?
           intro i
           match i with
           | 0=>exact hu0
           | 1=>exact hu1
           | i + 2=>simp [hsz]
          subst hc he hfr
          obtain ⟨c',e',fr',k1,k2,k3,k4,k5,k6⟩:=hw.obj ob _ hbl
          obtain ⟨he',hx'⟩:=k5.2 _ _ rfl
          have hfr':= k5.1
          subst he' hfr'
          obtain ⟨e1,e2⟩:=bytesX_get hbx
          refine does_of (by rw [hP]; exact fnString) ?_
          rw [hP]
          rw [← hn1] at h1 hncap
          refine (string_exact Tryz.lays169 Tryz.Builder_Extra_169 (g.ob o) (g.ob ob) cap u0 c' (b :: s) w h1 k1 (by simp) hncap (by omega) hn2 (fun j x hx=>?_)).mono fun e w2 ⟨he2,hw2⟩=>⟨_,he2,g,?_,.str (b :: s)⟩
          ·obtain ⟨v,hv,hr⟩:=k4 j _ (e2 j x hx)
           cases hr
           exact hv
          ·subst hw2
           obtain ⟨f1,f2,f3,f4,f5⟩:=freeze_rest w.drew (g.ob ob) (b :: s).length
           exact goes_kill hw hbl f1 f2 f3 f4 f5
         ·cases h
        ·cases h
       ·cases h
      ·cases h
 ·cases h
end Go.Proofs.YtkhhblknjdcphabGreatDoor
namespace Go.Proofs.YtkhhblknjdcphabGreatDoor
open Go.Ev Go.RowKit
set_option maxRecDepth 1000000
set_option linter.unusedVariables false
theorem mixedA : Tryz.prog.follows .mixedOrders = true:=by kernel_rfl
noncomputable section
noncomputable def glT (g : Nat) : Option (List AV):=none
noncomputable def CC : Ctx:=plainC Tryz.prog glT (fun _=>false) (fun _=>none)
theorem glT_closed : ∀ n l,CC.gl n = some l → belows 0 l = true:=fun n l h=>by cases h
noncomputable def CR : Ctx:=plainC Tryz.prog glT (fun _=>true) (fun _=>none)
theorem CR_ev (n : Nat) : CallOK CR (evF CR n):=ev_sound mixedA (plainC_fs _ _ _ _) (fun f h hh=>by simp [plainC] at hh) n
theorem pokClone0 {f : FuncId} (h1 : resQ (evF CR 100 f [.nils] []) .nils = true) (h2 : resQ (evF CR 100 f [.emp] []) (.xsl 0 []) = true) : POK CC f pClone0:=pok_clone0 (C:=CR) (CR_ev 100) glT_closed h1 h2
end
end Go.Proofs.YtkhhblknjdcphabGreatDoor
namespace Go.Proofs.YtkhhblknjdcphabGreatDoor
open Go.Ev
set_option maxRecDepth 1000000
theorem kok_legatelaw32_awake : KOK CC f_legatelaw32_awake K_legatelaw32_awake:=kok_of (by kernel_rfl) (by kernel_rfl) (by kernel_rfl)
theorem kok_script_Read : KOK CC f_script_Read K_script_Read:=kok_of (by kernel_rfl) (by kernel_rfl) (by kernel_rfl)
theorem kok_script_Show : KOK CC f_script_Show K_script_Show:=kok_of (by kernel_rfl) (by kernel_rfl) (by kernel_rfl)
theorem kok_legateref32_Same : KOK CC f_legateref32_Same K_legateref32_Same:=kok_of (by kernel_rfl) (by kernel_rfl) (by kernel_rfl)
theorem kok_script_Run : KOK CC f_script_Run K_script_Run:=kok_of (by kernel_rfl) (by kernel_rfl) (by kernel_rfl)
theorem kok_script_reader_bytes : KOK CC f_script_reader_bytes K_script_reader_bytes:=kok_of (by kernel_rfl) (by kernel_rfl) (by kernel_rfl)
theorem kok_script_reader_number : KOK CC f_script_reader_number K_script_reader_number:=kok_of (by kernel_rfl) (by kernel_rfl) (by kernel_rfl)
theorem kok_script_reader_word : KOK CC f_script_reader_word K_script_reader_word:=kok_of (by kernel_rfl) (by kernel_rfl) (by kernel_rfl)
theorem kok_script_reader_each : KOK CC f_script_reader_each K_script_reader_each:=kok_of (by kernel_rfl) (by kernel_rfl) (by kernel_rfl)
theorem kok_script_reader_bounds : KOK CC f_script_reader_bounds K_script_reader_bounds:=kok_of (by kernel_rfl) (by kernel_rfl) (by kernel_rfl)
theorem kok_script_Read_3 : KOK CC f_script_Read_3 K_script_Read_3:=kok_of (by kernel_rfl) (by kernel_rfl) (by kernel_rfl)
theorem kok_script_reader_fail : KOK CC f_script_reader_fail K_script_reader_fail:=kok_of (by kernel_rfl) (by kernel_rfl) (by kernel_rfl)
theorem kok_script_reader_done : KOK CC f_script_reader_done K_script_reader_done:=kok_of (by kernel_rfl) (by kernel_rfl) (by kernel_rfl)
theorem kok_script_nets : KOK CC f_script_nets K_script_nets:=kok_of (by kernel_rfl) (by kernel_rfl) (by kernel_rfl)
theorem kok_num_Show : KOK CC f_num_Show K_num_Show:=kok_of (by kernel_rfl) (by kernel_rfl) (by kernel_rfl)
theorem kok_script_numbers : KOK CC f_script_numbers K_script_numbers:=kok_of (by kernel_rfl) (by kernel_rfl) (by kernel_rfl)
theorem kok_script_Play : KOK CC f_script_Play K_script_Play:=kok_of (by kernel_rfl) (by kernel_rfl) (by kernel_rfl)
theorem kok_script_reader_net : KOK CC f_script_reader_net K_script_reader_net:=kok_of (by kernel_rfl) (by kernel_rfl) (by kernel_rfl)
theorem kok_num_Read : KOK CC f_num_Read K_num_Read:=kok_of (by kernel_rfl) (by kernel_rfl) (by kernel_rfl)
theorem kok_script_part_left : KOK CC f_script_part_left K_script_part_left:=kok_of (by kernel_rfl) (by kernel_rfl) (by kernel_rfl)
theorem kok_strings_Builder_WriteString : KOK CC f_strings_Builder_WriteString K_strings_Builder_WriteString:=kok_of (by kernel_rfl) (by kernel_rfl) (by kernel_rfl)
theorem kok_strings_Builder_WriteByte : KOK CC f_strings_Builder_WriteByte K_strings_Builder_WriteByte:=kok_of (by kernel_rfl) (by kernel_rfl) (by kernel_rfl)
theorem kok_strconv_FormatInt : KOK CC f_strconv_FormatInt K_strconv_FormatInt:=kok_of (by kernel_rfl) (by kernel_rfl) (by kernel_rfl)
theorem kok_lookup_New : KOK CC f_lookup_New K_lookup_New:=kok_of (by kernel_rfl) (by kernel_rfl) (by kernel_rfl)
theorem kok_lookup_Machine_Lookup : KOK CC f_lookup_Machine_Lookup K_lookup_Machine_Lookup:=kok_of (by kernel_rfl) (by kernel_rfl) (by kernel_rfl)
theorem kok_lookup_Machine_Fetched : KOK CC f_lookup_Machine_Fetched K_lookup_Machine_Fetched:=kok_of (by kernel_rfl) (by kernel_rfl) (by kernel_rfl)
theorem kok_script_report : KOK CC f_script_report K_script_report:=kok_of (by kernel_rfl) (by kernel_rfl) (by kernel_rfl)
theorem kok_script_reader_frame : KOK CC f_script_reader_frame K_script_reader_frame:=kok_of (by kernel_rfl) (by kernel_rfl) (by kernel_rfl)
theorem kok_num_formed : KOK CC f_num_formed K_num_formed:=kok_of (by kernel_rfl) (by kernel_rfl) (by kernel_rfl)
theorem kok_strconv_ParseInt : KOK CC f_strconv_ParseInt K_strconv_ParseInt:=kok_of (by kernel_rfl) (by kernel_rfl) (by kernel_rfl)
theorem kok_internal_strconv_FormatInt : KOK CC f_internal_strconv_FormatInt K_internal_strconv_FormatInt:=kok_of (by kernel_rfl) (by kernel_rfl) (by kernel_rfl)
theorem kok_chart_Read : KOK CC f_chart_Read K_chart_Read:=kok_of (by kernel_rfl) (by kernel_rfl) (by kernel_rfl)
theorem kok_lookup_Machine_May : KOK CC f_lookup_Machine_May K_lookup_Machine_May:=kok_of (by kernel_rfl) (by kernel_rfl) (by kernel_rfl)
theorem kok_slices_Clone_api_Fetch_api_Fetch : KOK CC f_slices_Clone_api_Fetch_api_Fetch K_slices_Clone_api_Fetch_api_Fetch:=kok_of (by kernel_rfl) (by kernel_rfl) (by kernel_rfl)
theorem kok_script_recordOf : KOK CC f_script_recordOf K_script_recordOf:=kok_of (by kernel_rfl) (by kernel_rfl) (by kernel_rfl)
theorem kok_internal_strconv_ParseInt : KOK CC f_internal_strconv_ParseInt K_internal_strconv_ParseInt:=kok_of (by kernel_rfl) (by kernel_rfl) (by kernel_rfl)
theorem kok_internal_strconv_small : KOK CC f_internal_strconv_small K_internal_strconv_small:=kok_of (by kernel_rfl) (by kernel_rfl) (by kernel_rfl)
theorem kok_read_Read : KOK CC f_read_Read K_read_Read:=kok_of (by kernel_rfl) (by kernel_rfl) (by kernel_rfl)
theorem kok_internal_strconv_ParseUint : KOK CC f_internal_strconv_ParseUint K_internal_strconv_ParseUint:=kok_of (by kernel_rfl) (by kernel_rfl) (by kernel_rfl)
theorem kok_read_tokens_next : KOK CC f_read_tokens_next K_read_tokens_next:=kok_of (by kernel_rfl) (by kernel_rfl) (by kernel_rfl)
end Go.Proofs.YtkhhblknjdcphabGreatDoor
namespace Go.Proofs.YtkhhblknjdcphabGreatDoor
open Go.Ev
set_option maxRecDepth 1000000
theorem kok_read_values_value : KOK CC f_read_values_value K_read_values_value:=kok_of (by kernel_rfl) (by kernel_rfl) (by kernel_rfl)
theorem kok_lex_Next : KOK CC f_lex_Next K_lex_Next:=kok_of (by kernel_rfl) (by kernel_rfl) (by kernel_rfl)
theorem kok_read_values_wrong : KOK CC f_read_values_wrong K_read_values_wrong:=kok_of (by kernel_rfl) (by kernel_rfl) (by kernel_rfl)
theorem kok_lex_rules : KOK CC f_lex_rules K_lex_rules:=kok_of (by kernel_rfl) (by kernel_rfl) (by kernel_rfl)
theorem kok_lex_token : KOK CC f_lex_token K_lex_token:=kok_of (by kernel_rfl) (by kernel_rfl) (by kernel_rfl)
theorem kok_lex_skip : KOK CC f_lex_skip K_lex_skip:=kok_of (by kernel_rfl) (by kernel_rfl) (by kernel_rfl)
end Go.Proofs.YtkhhblknjdcphabGreatDoor
namespace Go.Proofs.YtkhhblknjdcphabGreatDoor
open Go.Ev
set_option maxRecDepth 1000000
noncomputable def T0l (M : MM) : Tr2:=.node (.node (.node (.node (.node .nil 4 (.both (memoH (M 4)) K_legatelaw32_awake false true) .nil) 5 (.both (memoH (M 5)) K_script_Read false true) (.node .nil 6 (.both (memoH (M 6)) K_script_Show false true) .nil)) 7 (.code K_legateref32_Same false true) (.node (.node .nil 8 (.both (memoH (M 8)) K_script_Run false true) .nil) 9 (.code K_script_reader_bytes false true) .nil)) 10 (.code K_script_reader_number false true) (.node (.node (.node .nil 11 (.code K_script_reader_word false true) .nil) 12 (.code K_script_reader_each false true) .nil) 15 (.code K_script_reader_bounds false true) (.node (.node .nil 18 (.code K_script_Read_3 false true) .nil) 19 (.code K_script_reader_fail false true) .nil))) 20 (.code K_script_reader_done false true) (.node (.node (.node (.node .nil 21 (.code K_script_nets false true) .nil) 22 (.code K_num_Show false true) .nil) 23 (.code K_script_numbers false true) (.node (.node .nil 24 (.code K_script_Play false true) .nil) 25 (.code K_script_reader_net false true) .nil)) 26 (.code K_num_Read false true) (.node (.node (.node .nil 27 (.code K_script_part_left false true) .nil) 30 (.code K_strings_Builder_WriteString false true) .nil) 31 (.code K_strings_Builder_WriteByte false true) (.node (.node .nil 32 (.prim pString) .nil) 33 (.code K_strconv_FormatInt false true) .nil)))
theorem T0l_ok {M : MM} (hM : MOK CC M) : TOK CC (T0l M):=⟨kok_script_reader_done,⟨kok_script_reader_number,⟨kok_legateref32_Same,⟨⟨memoH_ok hM 5,kok_script_Read⟩,⟨⟨memoH_ok hM 4,kok_legatelaw32_awake⟩,trivial,trivial⟩,⟨⟨memoH_ok hM 6,kok_script_Show⟩,trivial,trivial⟩⟩,⟨kok_script_reader_bytes,⟨⟨memoH_ok hM 8,kok_script_Run⟩,trivial,trivial⟩,trivial⟩⟩,⟨kok_script_reader_bounds,⟨kok_script_reader_each,⟨kok_script_reader_word,trivial,trivial⟩,trivial⟩,⟨kok_script_reader_fail,⟨kok_script_Read_3,trivial,trivial⟩,trivial⟩⟩⟩,⟨kok_num_Read,⟨kok_script_numbers,⟨kok_num_Show,⟨kok_script_nets,trivial,trivial⟩,trivial⟩,⟨kok_script_reader_net,⟨kok_script_Play,trivial,trivial⟩,trivial⟩⟩,⟨kok_strings_Builder_WriteByte,⟨kok_strings_Builder_WriteString,⟨kok_script_part_left,trivial,trivial⟩,trivial⟩,⟨kok_strconv_FormatInt,⟨pokString rfl,trivial,trivial⟩,trivial⟩⟩⟩⟩
noncomputable def T0r (M : MM) : Tr2:=.node (.node (.node (.node (.node .nil 35 (.code K_lookup_Machine_Lookup false true) .nil) 36 (.code K_lookup_Machine_Fetched false true) .nil) 37 (.code K_script_report false true) (.node (.node .nil 38 (.code K_script_reader_frame false true) .nil) 39 (.code K_num_formed false true) .nil)) 40 (.code K_strconv_ParseInt false true) (.node (.node (.node .nil 41 (.prim pCopy) .nil) 42 (.code K_internal_strconv_FormatInt true true) .nil) 43 (.code K_chart_Read false true) (.node (.node .nil 46 (.code K_lookup_Machine_May false true) .nil) 50 (.both pClone0 K_slices_Clone_api_Fetch_api_Fetch true false) .nil))) 51 (.code K_script_recordOf false true) (.node (.node (.node (.node .nil 52 (.code K_internal_strconv_ParseInt true true) .nil) 55 (.code K_internal_strconv_small true true) .nil) 59 (.code K_read_Read false true) (.node (.node .nil 76 (.code K_internal_strconv_ParseUint true true) .nil) 86 (.code K_read_tokens_next false true) .nil)) 87 (.code K_read_values_value false true) (.node (.node (.node .nil 122 (.code K_lex_Next false true) .nil) 123 (.code K_read_values_wrong false true) .nil) 162 (.both (memoH (M 162)) K_lex_rules false true) (.node (.node .nil 163 (.code K_lex_token false true) .nil) 164 (.code K_lex_skip false true) .nil)))
theorem T0r_ok {M : MM} (hM : MOK CC M) : TOK CC (T0r M):=⟨kok_script_recordOf,⟨kok_strconv_ParseInt,⟨kok_script_report,⟨kok_lookup_Machine_Fetched,⟨kok_lookup_Machine_Lookup,trivial,trivial⟩,trivial⟩,⟨kok_num_formed,⟨kok_script_reader_frame,trivial,trivial⟩,trivial⟩⟩,⟨kok_chart_Read,⟨kok_internal_strconv_FormatInt,⟨pokCopy rfl,trivial,trivial⟩,trivial⟩,⟨⟨pokClone0 (by kernel_rfl) (by kernel_rfl),kok_slices_Clone_api_Fetch_api_Fetch⟩,⟨kok_lookup_Machine_May,trivial,trivial⟩,trivial⟩⟩⟩,⟨kok_read_values_value,⟨kok_read_Read,⟨kok_internal_strconv_small,⟨kok_internal_strconv_ParseInt,trivial,trivial⟩,trivial⟩,⟨kok_read_tokens_next,⟨kok_internal_strconv_ParseUint,trivial,trivial⟩,trivial⟩⟩,⟨⟨memoH_ok hM 162,kok_lex_rules⟩,⟨kok_read_values_wrong,⟨kok_lex_Next,trivial,trivial⟩,trivial⟩,⟨kok_lex_skip,⟨kok_lex_token,trivial,trivial⟩,trivial⟩⟩⟩⟩
noncomputable def T0 (M : MM) : Tr2:=.node (T0l M) 34 (.code K_lookup_New false false) (T0r M)
theorem T0_ok {M : MM} (hM : MOK CC M) : TOK CC (T0 M):=⟨kok_lookup_New,(T0l_ok hM),(T0r_ok hM)⟩
theorem T0_tr {M : MM} (hM : MOK CC M) : TrOK2 CC (T0 M):=⟨fun f e h=>tok_find (T0_ok hM) f e h,glT_closed⟩
end Go.Proofs.YtkhhblknjdcphabGreatDoor
namespace Go.Proofs.YtkhhblknjdcphabGreatDoor
open Go.Ev
set_option maxRecDepth 1000000
noncomputable section
def A (l m : List UInt8) : List UInt8:=List.rec m (fun h _ r=>h :: r) l
def S (l : List UInt8) : AV:=.str l
def Z : AV:=.sl 0 []
def d0 : List UInt8:=[48,44,53,58,116,97,98,108,101,44,48,58,44,49,54,58,49,58,48,44,49,58,48,44,49,58,48,44,49,58,48,44,44,48,58,44]
def s0 : List UInt8:=A [48,58,44,49,58] (A d0 [48,58,44])
def s1 : List UInt8:=A [48,58,44,49,58] (A d0 [52,58,49,58,97,44,44])
def Q0 : MM:=M0
def a0 : List AV:=[S s0]
def x0 : AV:=(.agg [ve,Z,vi 0,(.bool false),Z,vi 0,vi 0,vi 0,vi 0,Z])
def v0 : AV:=(.tup [x0,vi 0,vi 0])
def Q1 : MM:=updM Q0 5 a0 v0
def a1 : List AV:=[x0]
def v1 : AV:=(.tup [S s0,vi 0])
def Q2 : MM:=updM Q1 6 a1 v1
def x1 : AV:=(.agg [ve,Z,vi 0,(.bool false),Z,vi 0,vi 0,vi 0,vi 0,(.sl 1 [S [97]])])
def a2 : List AV:=[x1]
def v2 : AV:=(.tup [S s1,vi 0])
def Q3 : MM:=updM Q2 6 a2 v2
def a3 : List AV:=[]
def x2 : AV:=(.func (.func f_lex_number) [] [])
def x3 : AV:=(.func (.func f_lex_word) [] [])
def v3 : AV:=(.agg [.nilFunc,.nilFunc,.nilFunc,.nilFunc,.nilFunc,.nilFunc,.nilFunc,.nilFunc,.nilFunc,.nilFunc,.nilFunc,.nilFunc,.nilFunc,.nilFunc,.nilFunc,.nilFunc,.nilFunc,.nilFunc,.nilFunc,.nilFunc,.nilFunc,.nilFunc,.nilFunc,.nilFunc,.nilFunc,.nilFunc,.nilFunc,.nilFunc,.nilFunc,.nilFunc,.nilFunc,.nilFunc,.nilFunc,.nilFunc,(.func (.func f_lex_text) [] []),.nilFunc,.nilFunc,.nilFunc,.nilFunc,.nilFunc,.nilFunc,.nilFunc,.nilFunc,x2,(.func (.func f_lex_comma) [] []),x2,x2,.nilFunc,x2,x2,x2,x2,x2,x2,x2,x2,x2,x2,(.func (.func f_lex_colon) [] []),.nilFunc,.nilFunc,.nilFunc,.nilFunc,.nilFunc,.nilFunc,.nilFunc,.nilFunc,.nilFunc,.nilFunc,.nilFunc,.nilFunc,.nilFunc,.nilFunc,.nilFunc,.nilFunc,.nilFunc,.nilFunc,.nilFunc,.nilFunc,.nilFunc,.nilFunc,.nilFunc,.nilFunc,.nilFunc,.nilFunc,.nilFunc,.nilFunc,.nilFunc,.nilFunc,.nilFunc,.nilFunc,(.func (.func f_lex_first) [] []),.nilFunc,(.func (.func f_lex_last) [] []),.nilFunc,.nilFunc,.nilFunc,x3,x3,x3,x3,x3,x3,x3,x3,x3,x3,x3,x3,x3,x3,x3,x3,x3,x3,x3,x3,x3,x3,x3,x3,x3,x3,(.func (.func f_lex_open) [] []),.nilFunc,(.func (.func f_lex_shut) [] []),.nilFunc,.nilFunc,.nilFunc,.nilFunc,.nilFunc,.nilFunc,.nilFunc,.nilFunc,.nilFunc,.nilFunc,.nilFunc,.nilFunc,.nilFunc,.nilFunc,.nilFunc,.nilFunc,.nilFunc,.nilFunc,.nilFunc,.nilFunc,.nilFunc,.nilFunc,.nilFunc,.nilFunc,.nilFunc,.nilFunc,.nilFunc,.nilFunc,.nilFunc,.nilFunc,.nilFunc,.nilFunc,.nilFunc,.nilFunc,.nilFunc,.nilFunc,.nilFunc,.nilFunc,.nilFunc,.nilFunc,.nilFunc,.nilFunc,.nilFunc,.nilFunc,.nilFunc,.nilFunc,.nilFunc,.nilFunc,.nilFunc,.nilFunc,.nilFunc,.nilFunc,.nilFunc,.nilFunc,.nilFunc,.nilFunc,.nilFunc,.nilFunc,.nilFunc,.nilFunc,.nilFunc,.nilFunc,.nilFunc,.nilFunc,.nilFunc,.nilFunc,.nilFunc,.nilFunc,.nilFunc,.nilFunc,.nilFunc,.nilFunc,.nilFunc,.nilFunc,.nilFunc,.nilFunc,.nilFunc,.nilFunc,.nilFunc,.nilFunc,.nilFunc,.nilFunc,.nilFunc,.nilFunc,.nilFunc,.nilFunc,.nilFunc,.nilFunc,.nilFunc,.nilFunc,.nilFunc,.nilFunc,.nilFunc,.nilFunc,.nilFunc,.nilFunc,.nilFunc,.nilFunc,.nilFunc,.nilFunc,.nilFunc,.nilFunc,.nilFunc,.nilFunc,.nilFunc,.nilFunc,.nilFunc,.nilFunc,.nilFunc,.nilFunc,.nilFunc,.nilFunc,.nilFunc,.nilFunc,.nilFunc,.nilFunc,.nilFunc,.nilFunc,.nilFunc,.nilFunc,.nilFunc,.nilFunc,.nilFunc,.nilFunc,.nilFunc,.nilFunc,.nilFunc,.nilFunc,.nilFunc,.nilFunc])
def Q4 : MM:=updM Q3 162 a3 v3
def a4 : List AV:=[S s1]
def v4 : AV:=(.tup [x1,vi 0,vi 0])
def Q5 : MM:=updM Q4 5 a4 v4
def a5 : List AV:=[(.str (A [48,58,44,50,58,48] (A d0 [48,58,44])))]
def v5 : AV:=(S [49,54,58,53,58,101,114,114,111,114,44,49,58,51,44,49,58,51,44,44])
def Q6 : MM:=updM Q5 8 a5 v5
def a6 : List AV:=[(.str (A [48,58,44,49,58] (A d0 [48,58,44,120])))]
def v6 : AV:=(.tup [x0,vi 44,vi 11])
def Q7 : MM:=updM Q6 5 a6 v6
def a7 : List AV:=[]
def v7 : AV:=(.bool true)
def Q8 : MM:=updM Q7 4 a7 v7
end
end Go.Proofs.YtkhhblknjdcphabGreatDoor
namespace Go.Proofs.YtkhhblknjdcphabGreatDoor
open Go.Ev
set_option maxRecDepth 1000000
theorem l0 : resQ (callG CC (T0 Q0) 5000 f_script_Read a0 []) v0 = true:=by kernel_rfl
theorem l1 : resQ (callG CC (T0 Q1) 5000 f_script_Show a1 []) v1 = true:=by kernel_rfl
theorem l2 : resQ (callG CC (T0 Q2) 5000 f_script_Show a2 []) v2 = true:=by kernel_rfl
theorem l3 : resQ (callG CC (T0 Q3) 5000 f_lex_rules a3 []) v3 = true:=by kernel_rfl
theorem l4 : resQ (callG CC (T0 Q4) 5000 f_script_Read a4 []) v4 = true:=by kernel_rfl
theorem l5 : resQ (callG CC (T0 Q5) 5000 f_script_Run a5 []) v5 = true:=by kernel_rfl
theorem l6 : resQ (callG CC (T0 Q6) 5000 f_script_Read a6 []) v6 = true:=by kernel_rfl
theorem l7 : resQ (callG CC (T0 Q7) 5000 f_legatelaw32_awake a7 []) v7 = true:=by kernel_rfl
end Go.Proofs.YtkhhblknjdcphabGreatDoor
namespace Go.Proofs.YtkhhblknjdcphabGreatDoor
open Go.Ev
set_option maxRecDepth 1000000
theorem nxq {M : MM} {f : FuncId} {a : List AV} {v : AV} (q : MOK CC M) (c : belows 0 a = true) (l : resQ (callG CC (T0 M) 5000 f a []) v = true) : MOK CC (updM M f a v):=updM_ok q (known_of (callG_sound mixedA (T0_tr q) 5000) glT_closed c l)
theorem q0 : MOK CC Q0:=M0_ok CC
theorem q1 : MOK CC Q1:=nxq q0 (by kernel_rfl) l0
theorem q2 : MOK CC Q2:=nxq q1 (by kernel_rfl) l1
theorem q3 : MOK CC Q3:=nxq q2 (by kernel_rfl) l2
theorem q4 : MOK CC Q4:=nxq q3 (by kernel_rfl) l3
theorem q5 : MOK CC Q5:=nxq q4 (by kernel_rfl) l4
theorem q6 : MOK CC Q6:=nxq q5 (by kernel_rfl) l5
theorem q7 : MOK CC Q7:=nxq q6 (by kernel_rfl) l6
theorem q8 : MOK CC Q8:=nxq q7 (by kernel_rfl) l7
end Go.Proofs.YtkhhblknjdcphabGreatDoor
namespace Go.Proofs.YtkhhblknjdcphabGreatDoor
open Go.Ev
set_option maxRecDepth 1000000
theorem lfin : resQ (callG CC (T0 Q8) 5000 f_legatelaw32_awake [] []) (.bool true) = true:=by kernel_rfl
theorem fin : Known CC f_legatelaw32_awake [] (.bool true):=known_of (callG_sound mixedA (T0_tr q8) 5000) glT_closed (by kernel_rfl) lfin
end Go.Proofs.YtkhhblknjdcphabGreatDoor
namespace Go.Proofs.YtkhhblknjdcphabGreatDoor
open Go.Shelf Go.Proofs
def Tryz.laysPI_ren : Go.Shelf.Ren:=⟨fun | 174=>40 | 247=>52 | 245=>53 | 287=>76 | 279=>77 | 280=>78 | 281=>79 | 282=>80 | 321=>114 | 322=>115 | 316=>116 | 171=>118 | 205=>117 | 243=>161 | 246=>42 | 283=>55 | 284=>56 | 285=>57 | 286=>58 | 129=>82 | 317=>81 | 318=>83 | 319=>84 | 320=>85 | 337=>119 | 338=>120 | n=>n,fun | 9=>9 | 3=>3 | 2=>2 | 75=>72 | 85=>98 | 4=>4 | 167=>165 | 5=>5 | 53=>126 | 175=>166 | 46=>168 | 168=>169 | 37=>68 | 0=>0 | 210=>237 | 21=>21 | 127=>100 | 145=>306 | 143=>304 | 171=>125 | 173=>129 | 212=>174 | 51=>175 | 20=>20 | 213=>176 | 232=>307 | 233=>308 | 80=>76 | n=>n,fun | 15=>1 | 16=>2 | 17=>0 | 18=>3 | 19=>4 | n=>n⟩
theorem Tryz.laysPI : Go.Proofs.LaysC.n174 Tryz.prog Tryz.laysPI_ren:={
 mixed:=by kernel_rfl
 f129:=Tryz.func82.trans (congrArg some (by kernel_rfl))
 f171:=Tryz.func118.trans (congrArg some (by kernel_rfl))
 f174:=Tryz.func40.trans (congrArg some (by kernel_rfl))
 f205:=Tryz.func117.trans (congrArg some (by kernel_rfl))
 f243:=Tryz.func161.trans (congrArg some (by kernel_rfl))
 f245:=Tryz.func53.trans (congrArg some (by kernel_rfl))
 f246:=Tryz.func42.trans (congrArg some (by kernel_rfl))
 f247:=Tryz.func52.trans (congrArg some (by kernel_rfl))
 f279:=Tryz.func77.trans (congrArg some (by kernel_rfl))
 f280:=Tryz.func78.trans (congrArg some (by kernel_rfl))
 f281:=Tryz.func79.trans (congrArg some (by kernel_rfl))
 f282:=Tryz.func80.trans (congrArg some (by kernel_rfl))
 f283:=Tryz.func55.trans (congrArg some (by kernel_rfl))
 f284:=Tryz.func56.trans (congrArg some (by kernel_rfl))
 f285:=Tryz.func57.trans (congrArg some (by kernel_rfl))
 f286:=Tryz.func58.trans (congrArg some (by kernel_rfl))
 f287:=Tryz.func76.trans (congrArg some (by kernel_rfl))
 f316:=Tryz.func116.trans (congrArg some (by kernel_rfl))
 f317:=Tryz.func81.trans (congrArg some (by kernel_rfl))
 f318:=Tryz.func83.trans (congrArg some (by kernel_rfl))
 f319:=Tryz.func84.trans (congrArg some (by kernel_rfl))
 f320:=Tryz.func85.trans (congrArg some (by kernel_rfl))
 f321:=Tryz.func114.trans (congrArg some (by kernel_rfl))
 f322:=Tryz.func115.trans (congrArg some (by kernel_rfl))
 f337:=Tryz.func119.trans (congrArg some (by kernel_rfl))
 f338:=Tryz.func120.trans (congrArg some (by kernel_rfl))
 t0:=Tryz.underlying0
 a0:=Tryz.isAgg0
 z0:=Tryz.sizeOf0
 v0:=Tryz.zeroValue0
 t2:=Tryz.underlying2
 a2:=Tryz.isAgg2
 z2:=Tryz.sizeOf2
 v2:=Tryz.zeroValue2
 t3:=Tryz.underlying3
 a3:=Tryz.isAgg3
 z3:=Tryz.sizeOf3
 v3:=Tryz.zeroValue3
 t4:=Tryz.underlying4
 a4:=Tryz.isAgg4
 z4:=Tryz.sizeOf4
 v4:=Tryz.zeroValue4
 t5:=Tryz.underlying5
 a5:=Tryz.isAgg5
 z5:=Tryz.sizeOf5
 v5:=Tryz.zeroValue5
 t9:=Tryz.underlying9
 a9:=Tryz.isAgg9
 z9:=Tryz.sizeOf9
 v9:=Tryz.zeroValue9
 t20:=Tryz.underlying20
 a20:=Tryz.isAgg20
 z20:=Tryz.sizeOf20
 v20:=Tryz.zeroValue20
 t21:=Tryz.underlying21
 a21:=Tryz.isAgg21
 z21:=Tryz.sizeOf21
 v21:=Tryz.zeroValue21
 t37:=Tryz.underlying68
 a37:=Tryz.isAgg68
 z37:=Tryz.sizeOf68
 v37:=Tryz.zeroValue68
 t46:=Tryz.underlying168
 a46:=Tryz.isAgg168
 z46:=Tryz.sizeOf168
 v46:=Tryz.zeroValue168
 t51:=Tryz.underlying175
 a51:=Tryz.isAgg175
 z51:=Tryz.sizeOf175
 v51:=Tryz.zeroValue175
 t53:=Tryz.underlying126
 a53:=Tryz.isAgg126
 z53:=Tryz.sizeOf126
 v53:=Tryz.zeroValue126
 t75:=Tryz.underlying72
 a75:=Tryz.isAgg72
 z75:=Tryz.sizeOf72
 v75:=Tryz.zeroValue72
 t85:=Tryz.underlying98
 a85:=Tryz.isAgg98
 z85:=Tryz.sizeOf98
 v85:=Tryz.zeroValue98
 t127:=Tryz.underlying100
 a127:=Tryz.isAgg100
 z127:=Tryz.sizeOf100
 v127:=Tryz.zeroValue100
 t143:=Tryz.underlying304
 a143:=Tryz.isAgg304
 z143:=Tryz.sizeOf304
 v143:=Tryz.zeroValue304
 t145:=Tryz.underlying306
 a145:=Tryz.isAgg306
 z145:=Tryz.sizeOf306
 v145:=Tryz.zeroValue306
 t167:=Tryz.underlying165
 a167:=Tryz.isAgg165
 z167:=Tryz.sizeOf165
 v167:=Tryz.zeroValue165
 t168:=Tryz.underlying169
 a168:=Tryz.isAgg169
 z168:=Tryz.sizeOf169
 v168:=Tryz.zeroValue169
 t171:=Tryz.underlying125
 a171:=Tryz.isAgg125
 z171:=Tryz.sizeOf125
 v171:=Tryz.zeroValue125
 t173:=Tryz.underlying129
 a173:=Tryz.isAgg129
 z173:=Tryz.sizeOf129
 v173:=Tryz.zeroValue129
 t175:=Tryz.underlying166
 a175:=Tryz.isAgg166
 z175:=Tryz.sizeOf166
 v175:=Tryz.zeroValue166
 t210:=Tryz.underlying237
 a210:=Tryz.isAgg237
 z210:=Tryz.sizeOf237
 v210:=Tryz.zeroValue237
 t212:=Tryz.underlying174
 a212:=Tryz.isAgg174
 z212:=Tryz.sizeOf174
 v212:=Tryz.zeroValue174
 t213:=Tryz.underlying176
 a213:=Tryz.isAgg176
 z213:=Tryz.sizeOf176
 t232:=Tryz.underlying307
 a232:=Tryz.isAgg307
 z232:=Tryz.sizeOf307
 v232:=Tryz.zeroValue307
 t233:=Tryz.underlying308
 a233:=Tryz.isAgg308
 z233:=Tryz.sizeOf308
 v233:=Tryz.zeroValue308
 g15:=by kernel_rfl
 g16:=by kernel_rfl
 g17:=by kernel_rfl
 g18:=by kernel_rfl
 g19:=by kernel_rfl
 t80:=Tryz.underlying76
 a80:=Tryz.isAgg76
 z80:=Tryz.sizeOf76
 v80:=Tryz.zeroValue76
 i0:=by kernel_rfl
 i2:=by kernel_rfl
 i3:=by kernel_rfl
 i4:=by kernel_rfl
 i5:=by kernel_rfl
 i9:=by kernel_rfl
 i20:=by kernel_rfl
 i21:=by kernel_rfl
 i37:=by kernel_rfl
 i46:=by kernel_rfl
 i51:=by kernel_rfl
 i53:=by kernel_rfl
 i75:=by kernel_rfl
 i80:=by kernel_rfl
 i85:=by kernel_rfl
 i127:=by kernel_rfl
 i143:=by kernel_rfl
 i145:=by kernel_rfl
 i167:=by kernel_rfl
 i168:=by kernel_rfl
 i171:=by kernel_rfl
 i173:=by kernel_rfl
 i175:=by kernel_rfl
 i210:=by kernel_rfl
 i212:=by kernel_rfl
 i232:=by kernel_rfl
 i233:=by kernel_rfl
 m15:=by kernel_rfl
 m16:=by kernel_rfl
 m17:=by kernel_rfl
 m18:=by kernel_rfl
 m19:=by kernel_rfl
 c0:=by kernel_rfl
 c2:=by kernel_rfl
 c3:=by kernel_rfl
 c4:=by kernel_rfl
 c5:=by kernel_rfl
 c9:=by kernel_rfl
 c20:=by kernel_rfl
 c21:=by kernel_rfl
 c37:=by kernel_rfl
 c46:=by kernel_rfl
 c51:=by kernel_rfl
 c53:=by kernel_rfl
 c75:=by kernel_rfl
 c80:=by kernel_rfl
 c85:=by kernel_rfl
 c127:=by kernel_rfl
 c143:=by kernel_rfl
 c145:=by kernel_rfl
 c167:=by kernel_rfl
 c168:=by kernel_rfl
 c171:=by kernel_rfl
 c173:=by kernel_rfl
 c175:=by kernel_rfl
 c210:=by kernel_rfl
 c212:=by kernel_rfl
 c213:=by kernel_rfl
 c232:=by kernel_rfl
 c233:=by kernel_rfl }
end Go.Proofs.YtkhhblknjdcphabGreatDoor
namespace Go.Proofs.YtkhhblknjdcphabGreatDoor
open Go.Ev Go.RowKit Go.Shelf
set_option maxRecDepth 100000
set_option linter.unusedVariables false
theorem fnParse : IsFn Tryz.prog 40:=⟨_,Tryz.func40,by decide,rfl⟩
noncomputable def pInt (args : List AV) (σ : St) : Option (AV × St):=
 match args with
 | [.str s,.int .i64 a,.int .i64 b]=>if a = 10 ∧ b = 64 ∧ s.length ≤ 1099511627776 then match Lib.parseIntB 64 s with
   | .ok v=>some (.tup [.int .i64 v,.nilIface],σ)
   | .range=>some (.tup [.int .i64 (Lib.intSat 64 s),.iface 169 (.eptr [])],σ)
   | _=>some (.tup [.int .i64 0,.iface 169 (.eptr [])],σ)
   else none
 | _=>none
def isIf : AV → Bool
 | .iface _ _=>true
 | _=>false
theorem isIf_at {C : Ctx} {g : Gh} {w : World} {σ : St} (hw : WR g w σ) (hg : GL C g) {n : Nat} {e : AV} (h : C.gl n = some [e]) (hi : isIf e = true) : ∃ ev,w.cell? ⟨n,0,none⟩ = some ev ∧ (ev = .nilIface ∨ ∃ te pe,ev = .iface te pe):=by
 obtain ⟨v,h1,h2⟩:=(hg.1 n _ h).1.get (i:=0) (a:=e) rfl
 refine ⟨v,hw.im _ _ _ h1,?_⟩
 cases h2 <;> first | (cases hi; done) | exact .inr ⟨_,_,rfl⟩
theorem pokInt {C : Ctx} (hP : C.P = Tryz.prog) {e1 e2 : AV} (h1 : C.gl g_strconv_ErrRange = some [e1]) (h2 : C.gl g_strconv_ErrSyntax = some [e2]) (i1 : isIf e1 = true) (i2 : isIf e2 = true) : POK C 40 pInt:=by
 intro args σ v σ' h g w args' ha hw hg
 unfold pInt at h
 split at h
 ·rename_i s a b
  split at h
  ·rename_i hc
   obtain ⟨rfl,rfl,hl⟩:=hc
   cases ha with
   | cons _ v1 _ l1 x1 y1=>
   cases y1 with
   | cons _ v2 _ l2 x2 y2=>
   cases y2 with
   | cons _ v3 _ l3 x3 y3=>
   cases y3
   cases x1
   cases x2
   cases x3
   have hsz : (⟨⟨s⟩⟩ : ByteArray).size = s.length:=rfl
   obtain ⟨ev1,c1,d1⟩:=isIf_at hw hg h1 i1
   obtain ⟨ev2,c2,d2⟩:=isIf_at hw hg h2 i2
   refine does_of (by rw [hP]; exact fnParse) ?_
   rw [hP]
   cases hz : Lib.parseIntB 64 s
   ·rename_i z
    rw [hz] at h
    cases h
    refine (Any.strconv_ParseInt_10_at64_ok Tryz.laysPI ⟨⟨s⟩⟩ (by rw [hsz]; omega) z hz w).mono fun e w' ⟨he,hw'⟩=>⟨_,he,g,?_,.tup _ _ (.cons _ _ _ _ (.int _ _) (.cons _ _ _ _ .nilIface .nil))⟩
    refine goes_below hw ?_
    rcases hw' with rfl | ⟨t,rfl⟩
    ·exact Below.refl _ _
    ·exact Lib.bytesWorld_below _ _ _
   ·rw [hz] at h
    cases h
    exact (Any.strconv_ParseInt_10_at64_syntax Tryz.laysPI ⟨⟨s⟩⟩ (by rw [hsz]; omega) hz ev2 w c2 d2).mono fun e w' ⟨n,he,_,_,hb⟩=>⟨_,he,g,goes_below hw hb,.tup _ _ (.cons _ _ _ _ (.int _ _) (.cons _ _ _ _ (.iface _ _ _ (.eptr _ _ _ (.nil _ _))) .nil))⟩
   ·rw [hz] at h
    cases h
    exact (Any.strconv_ParseInt_10_at64_range Tryz.laysPI ⟨⟨s⟩⟩ (by rw [hsz]; omega) hz ev1 w c1 d1).mono fun e w' ⟨n,he,_,_,hb⟩=>⟨_,he,g,goes_below hw hb,.tup _ _ (.cons _ _ _ _ (.int _ _) (.cons _ _ _ _ (.iface _ _ _ (.eptr _ _ _ (.nil _ _))) .nil))⟩
  ·cases h
 ·cases h
end Go.Proofs.YtkhhblknjdcphabGreatDoor
namespace Go.Proofs.YtkhhblknjdcphabGreatDoor
open Go.Ev Go.RowKit
set_option maxRecDepth 1000000
set_option linter.unusedVariables false
theorem awakeOK : CallOK CC (callG CC (T0 Q8) 5000):=callG_sound mixedA (T0_tr q8) 5000
theorem pok_closed2 {C D : Ctx} {call : CallO} (hc : CallOK C call) (hP : D.P = C.P) (hgl : ∀ n,C.gl n = none) {f : FuncId} {b : Bool} (h : call f [] [] = some (.bool b,[])) :
  POK D f fun args σ=>match args with | []=>some (.bool b,σ) | _=>none:=by
 intro args σ v σ' h1 g w args' ha hw hg
 dsimp only at h1
 split at h1
 ·cases h1
  cases ha
  have hw2 : WR ⟨fun _=>true,0,g.ob,g.bs,fun b i=>none⟩ w []:=⟨rfl,fun b i v hv=>(by cases hv),fun b i v hv=>(by cases hv),fun o x hx=>by simp at hx,fun o o' x x' hx=>by simp at hx⟩
  have hd:=hc f [] [] (.bool b) [] h _ w [] .nil hw2 ⟨fun n l hl=>(by rw [hgl] at hl; cases hl),.inr fun _=>rfl⟩
  rw [← hP] at hd
  have mono : ∀ v' w',(∃ g',Goes ⟨fun _=>true,0,g.ob,g.bs,fun b i=>none⟩ [] w g' [] w' ∧ VR g' (.bool b) v') → ∃ g',Goes g σ w g' σ w' ∧ VR g' (.bool b) v':= by
   rintro v' w' ⟨g',hgo,hr⟩
   cases hr
   exact ⟨g,goes_below hw ⟨hgo.os,hgo.tape,hgo.output,hgo.size,fun k hk=>(hgo.fr k hk (fun o x hx=>by simp at hx)).2.1⟩,.bool _⟩
  unfold Does at hd ⊢
  split at hd
  ·exact Calls.mono hd fun e w' ⟨v2,he,hR⟩=>⟨v2,he,mono _ _ hR⟩
  ·exact mono _ _ hd
  ·exact hd
 ·cases h1
noncomputable section
def pAwake (args : List AV) (σ : St) : Option (AV × St):=match args with | []=>some (.bool true,σ) | _=>none
noncomputable def glE (e1 e2 : AV) (g : Nat) : Option (List AV):=match Nat.beq g g_strconv_ErrRange with
 | true=>some [e1]
 | false=>match Nat.beq g g_strconv_ErrSyntax with
   | true=>some [e2]
   | false=>none
noncomputable def primL (f : FuncId) : Option (List AV → St → Option (AV × St)):=match Nat.beq f f_legatelaw32_awake with
 | true=>some pAwake
 | false=>match Nat.beq f f_strconv_ParseInt with
   | true=>some pInt
   | false=>none
noncomputable def CL (e1 e2 : AV) : Ctx:={ plainC Tryz.prog (glE e1 e2) (fun _=>false) primL with np:=true }
theorem CL_fs (e1 e2 : AV) : FsOK (CL e1 e2):=fun f x h=>plainC_fs Tryz.prog (glE e1 e2) (fun _=>false) primL f x h
theorem CL_prim {e1 e2 : AV} (i1 : isIf e1 = true) (i2 : isIf e2 = true) : PrimOK (CL e1 e2):=by
 intro f h hh
 change primL f = some h at hh
 unfold primL at hh
 split at hh
 ·rename_i hf
  have:=Nat.eq_of_beq_eq_true hf
  subst this
  cases hh
  exact pok_closed2 (C:=CC) (D:=CL e1 e2) awakeOK rfl (fun _=>rfl) (resQ_is lfin)
 ·split at hh
  ·rename_i hf
   have:=Nat.eq_of_beq_eq_true hf
   subst this
   cases hh
   exact pokInt (C:=CL e1 e2) rfl rfl rfl i1 i2
  ·cases hh
theorem CL_sem {e1 e2 : AV} (i1 : isIf e1 = true) (i2 : isIf e2 = true) : CallOK (CL e1 e2) (semF (CL e1 e2)):=sem_sound mixedA (CL_fs e1 e2) (CL_prim i1 i2)
variable {e1 e2 : AV}
theorem has {f : FuncId} {K : KF} (h1 : cF Tryz.prog f = some K.forget) (h2 : fnOk Tryz.prog f = true) (h3 : K.ok = true) (hp : primL f = none) : Has (CL e1 e2) f K:=by
 refine ⟨?_,hp,rfl,h3⟩
 show (plainC Tryz.prog (glE e1 e2) (fun _=>false) primL).fs f = _
 simp only [plainC,h2,h1]
theorem awakeIs : ∀ σ,Ok σ → semF (CL e1 e2) f_legatelaw32_awake [] σ = some (.bool true,σ):=fun σ _=>by
 rw [semF_eq]
 unfold funF
 rfl
theorem pIntIs : PInt (CL e1 e2):=fun s hs=>by
 have e : ∀ τ,semF (CL e1 e2) f_strconv_ParseInt [.str s,.int .i64 10,.int .i64 64] τ = pInt [.str s,.int .i64 10,.int .i64 64] τ:=fun τ=>by
  rw [semF_eq]
  unfold funF
  rfl
 have e2 : ∀ τ,pInt [.str s,.int .i64 10,.int .i64 64] τ = match Lib.parseIntB 64 s with
   | .ok v=>some (.tup [.int .i64 v,.nilIface],τ)
   | .range=>some (.tup [.int .i64 (Lib.intSat 64 s),.iface 169 (.eptr [])],τ)
   | _=>some (.tup [.int .i64 0,.iface 169 (.eptr [])],τ):=fun τ=>by
  show (if (10 : Int) = 10 ∧ (64 : Int) = 64 ∧ s.length ≤ 1099511627776 then _ else none) = _
  rw [if_pos ⟨rfl,rfl,hs⟩]
  all_goals (cases Lib.parseIntB 64 s <;> rfl)
 cases hp : Lib.parseIntB 64 s
 ·rename_i v
  exact ⟨v,.nilIface,fun τ _=>by rw [e,e2,hp],.inl rfl⟩
 ·exact ⟨_,_,fun τ _=>by rw [e,e2,hp],.inr ⟨_,_,rfl⟩⟩
 ·exact ⟨_,_,fun τ _=>by rw [e,e2,hp],.inr ⟨_,_,rfl⟩⟩
theorem firstLaw (e1 e2 : AV) (T B : List UInt8) : semF (CL e1 e2) f_legatelaw32_ScriptFirst [.str T,.str B] [] = some (.bool true,[]):=by
 obtain ⟨N,hN⟩:=numOf (C:=CL e1 e2) (has (by kernel_rfl) (by kernel_rfl) (by kernel_rfl) rfl) (has (by kernel_rfl) (by kernel_rfl) (by kernel_rfl) rfl) pIntIs
 have H : FirstHas (CL e1 e2) N:={
  frame:=has (by kernel_rfl) (by kernel_rfl) (by kernel_rfl) rfl
  net:=has (by kernel_rfl) (by kernel_rfl) (by kernel_rfl) rfl
  bytes:=has (by kernel_rfl) (by kernel_rfl) (by kernel_rfl) rfl
  fail:=has (by kernel_rfl) (by kernel_rfl) (by kernel_rfl) rfl
  left:=has (by kernel_rfl) (by kernel_rfl) (by kernel_rfl) rfl
  num:=hN
  number:=has (by kernel_rfl) (by kernel_rfl) (by kernel_rfl) rfl
  word:=has (by kernel_rfl) (by kernel_rfl) (by kernel_rfl) rfl
  done:=has (by kernel_rfl) (by kernel_rfl) (by kernel_rfl) rfl
  verdict:=has (by kernel_rfl) (by kernel_rfl) (by kernel_rfl) rfl
  file:=has (by kernel_rfl) (by kernel_rfl) (by kernel_rfl) rfl
  bounds:=has (by kernel_rfl) (by kernel_rfl) (by kernel_rfl) rfl
  read1:=has (by kernel_rfl) (by kernel_rfl) (by kernel_rfl) rfl
  store1:=has (by kernel_rfl) (by kernel_rfl) (by kernel_rfl) rfl
  each:=has (by kernel_rfl) (by kernel_rfl) (by kernel_rfl) rfl
  read3:=has (by kernel_rfl) (by kernel_rfl) (by kernel_rfl) rfl
  store:=has (by kernel_rfl) (by kernel_rfl) (by kernel_rfl) rfl
  read2:=has (by kernel_rfl) (by kernel_rfl) (by kernel_rfl) rfl
  read:=has (by kernel_rfl) (by kernel_rfl) (by kernel_rfl) rfl
  law:=has (by kernel_rfl) (by kernel_rfl) (by kernel_rfl) rfl
  awake:=awakeIs }
 exact law32_ScriptFirst H T B [] rfl
end
end Go.Proofs.YtkhhblknjdcphabGreatDoor
