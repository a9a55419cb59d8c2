/- Code of functions as the evaluator has it, and what some of them compute. No conditions. -/
import Derived.Test.YtomedkaiefgbeaaGreatDoorCa
set_option linter.unusedVariables false
set_option linter.unusedSimpArgs false
namespace Go.Ev
def a9k : KC:=
(.block 1
(Q [m 21 2,m 22 1,o 23 (.bin .sub 0 false (.t 21) (.t 22)),m 12 23]
(.seq (Q [m 24 12,o 25 (.bin .leq 0 true (.t 24) (ci 12))]
(.cond (.t 25)
(Q [m 26 0,m 27 1,m 28 2,m 29 4,o 30 (.callF a2r [.t 26,.t 27,.t 28,.t 29])]
(.ret []))
.skip))
(.seq (Q [m 31 3,o 32 (.bin .eql 0 true (.t 31) (ci 0))]
(.cond (.t 32)
(Q [m 33 0,m 34 1,m 35 2,m 36 4,o 37 (.callF b0h [.t 33,.t 34,.t 35,.t 36])]
(.ret []))
.skip))
(.seq (Q [m 38 10,o 39 (.un .not (.t 38))]
(.cond (.t 39)
(Q [m 40 0,m 41 1,m 42 2,m 43 4,o 44 (.callF a7w [.t 40,.t 41,.t 42,.t 43])]
(.ops [m 45 3,o 46 (.bin .sub 0 true (.t 45) (ci 1)),m 3 46]))
.skip))
(Q [m 48 0,m 49 1,m 50 2,m 51 4,o 52 (.callF a8r [.t 48,.t 49,.t 50,.t 51]),m 47 52,xe 53 47 0,xe 54 47 1,m 13 53,m 14 54]
(.seq (Q [m 55 14,o 56 (.bin .eql 0 true (.t 55) (ci 2))]
(.cond (.t 56)
(Q [m 57 0,m 58 1,m 59 2,m 60 4,o 61 (.callF a8c [.t 57,.t 58,.t 59,.t 60])]
(Q [m 62 2,o 63 (.bin .sub 0 true (.t 62) (ci 1)),m 64 13,m 65 1,o 66 (.bin .sub 0 false (.t 64) (.t 65)),o 67 (.bin .sub 0 false (.t 63) (.t 66)),m 13 67]
(.ops [o 14 (.mv (ci 1))])))
.skip))
(.seq (Q [m 68 10,m 69 68,og 70 69 true (.mv (.t 11)),o 71 (.pick (.t 69) (.t 70) (.c (.bool false))),m 72 71,og 73 72 true (.mv (.t 14)),og 74 72 true (.bin .eql 0 true (.t 73) (ci 1)),o 75 (.pick (.t 72) (.t 74) (.c (.bool false)))]
(.cond (.t 75)
(Q [m 76 0,m 77 1,m 78 2,m 79 4,o 80 (.callF a4p [.t 76,.t 77,.t 78,.t 79])]
(.cond (.t 80)
(.ret [])
.skip))
.skip))
(.seq (.seq (.plain [m 81 1,o 82 (.bin .gtr 0 true (.t 81) (ci 0)),m 83 82,og 84 83 true (.mv (.t 4)),og 85 83 true (.mv (.t 0)),og 86 83 true (.mv (.t 1)),og 87 83 true (.bin .sub 0 true (.t 86) (ci 1)),og 88 83 true (.idxAddrSl 6 (.t 85) (.t 87)),og 89 83 true (.load true 6 (.t 88)),og 90 83 true (.mv (.t 0)),og 91 83 true (.mv (.t 13)),og 92 83 true (.idxAddrSl 6 (.t 90) (.t 91)),og 93 83 true (.load true 6 (.t 92)),og 94 83 true (.callV (.t 84) [.t 89,.t 93]),og 95 83 true (.bin .lss 0 true (.t 94) (ci 0)),og 96 83 true (.un .not (.t 95)),o 97 (.pick (.t 83) (.t 96) (.c (.bool false)))])
(.cond (.t 97)
(Q [m 98 0,m 99 1,m 100 2,m 101 13,m 102 4,o 103 (.callF a7d [.t 98,.t 99,.t 100,.t 101,.t 102]),m 15 103]
(Q [m 104 15,m 1 104]
(.exit [0,1,2,3,4,10,11] 1)))
.skip))
(Q [m 106 0,m 107 1,m 108 2,m 109 13,m 110 4,o 111 (.callF a9q [.t 106,.t 107,.t 108,.t 109,.t 110]),m 105 111,xe 112 105 0,xe 113 105 1,m 16 112,m 17 113]
(Q [m 114 17,m 11 114]
(Q [m 115 16,m 116 1,o 117 (.bin .sub 0 false (.t 115) (.t 116)),m 118 2,m 119 16,o 120 (.bin .sub 0 false (.t 118) (.t 119)),m 18 117,m 19 120]
(Q [m 121 12,o 122 (.bin .quo 0 true (.t 121) (ci 8)),m 20 122]
(Q [m 123 18,m 124 19,o 125 (.bin .lss 0 false (.t 123) (.t 124))]
(.cond (.t 125)
(Q [m 126 18,m 127 20,o 128 (.bin .geq 0 false (.t 126) (.t 127)),m 10 128]
(Q [m 129 0,m 130 1,m 131 16,m 132 3,m 133 4,o 134 (.callF a1m [.t 129,.t 130,.t 131,.t 132,.t 133])]
(.ops [m 135 16,o 136 (.bin .add 0 true (.t 135) (ci 1)),m 1 136])))
(Q [m 137 19,m 138 20,o 139 (.bin .geq 0 false (.t 137) (.t 138)),m 10 139]
(Q [m 140 0,m 141 16,o 142 (.bin .add 0 true (.t 141) (ci 1)),m 143 2,m 144 3,m 145 4,o 146 (.callF a1m [.t 140,.t 142,.t 143,.t 144,.t 145])]
(.ops [m 147 16,m 2 147]))))))))))))))))))
def a3z : KF:=⟨5,148,[],(Q [o 10 (.mv (.c (.bool true)))]
(Q [o 11 (.mv (.c (.bool true)))]
(.block 0
(.loop [0,1,2,3,4,10,11] a9k))))⟩
def c4i : KF:=⟨1,8,[(.tmp 2)],(Q [o 2 (.mv (ci 0))]
(.seq (.cond (.c (.bool false))
(Q [m 3 0,o 4 (.i2i .u32 (.t 3)),o 5 (.callF d4s [.t 4]),m 2 5]
(.ret [2]))
.skip)
(Q [m 6 0,o 7 (.callF b1x [.t 6]),m 2 7]
(.ret [2]))))⟩
def e0e : KC:=
(Q [o 10 (.bin .lss 0 false (.t 9) (.t 8))]
(.seq (.cond (.t 10)
.skip
(.exit [2,3] 0))
(.seq (.block 1
(Q [o 11 (.idxAddrSl 1 (.t 7) (.t 9)),xf 12 11,m 5 12]
(.drawn [xa 13 4 3,⟨(some 14),(.load false 1 (.t 13)),none,[3]⟩,m 15 5,o 16 (.callF a1l [.t 15]),o 17 (.buildSl [vu 0,vi 0,ve,.nils,.nils] 1 5 [(0,5,(.t 16))]),o 18 (.app false 5 80 none (.t 14) (.t 17)),xa 19 4 3,xs 1 19 18])))
(.ops [o 20 (.bin .add 0 true (.t 9) (ci 1)),m 9 20]))))
def c8k : KF:=⟨1,22,[(.cell 2 true 5)],(Q [o 2 (.new [vu 0,vi 0,ve,.nils,.nils] none)]
(Q [o 6 (.build [vu 0,vi 0,ve,.nils,.nils] [(0,1,(cu 4))]),o 3 (.new [vu 0,vi 0,ve,.nils,.nils] none),xs 5 3 6]
(.seq (Q [m 7 0,o 8 (.len 1 (.t 7)),o 9 (.mv (ci 0))]
(.block 0
(.loop [2,3,7,8,9] e0e)))
(Q [xl 21 5 3,xs 5 2 21]
(.ret [2])))))⟩
def a8g : KC:=
(.block 1
(Q [m 21 2,m 22 1,o 23 (.bin .sub 0 false (.t 21) (.t 22)),m 12 23]
(.seq (Q [m 24 12,o 25 (.bin .leq 0 true (.t 24) (ci 12))]
(.cond (.t 25)
(Q [m 26 0,m 27 1,m 28 2,m 29 4,o 30 (.callF a2h [.t 26,.t 27,.t 28,.t 29])]
(.ret []))
.skip))
(.seq (Q [m 31 3,o 32 (.bin .eql 0 true (.t 31) (ci 0))]
(.cond (.t 32)
(Q [m 33 0,m 34 1,m 35 2,m 36 4,o 37 (.callF a8u [.t 33,.t 34,.t 35,.t 36])]
(.ret []))
.skip))
(.seq (Q [m 38 10,o 39 (.un .not (.t 38))]
(.cond (.t 39)
(Q [m 40 0,m 41 1,m 42 2,m 43 4,o 44 (.callF a6i [.t 40,.t 41,.t 42,.t 43])]
(.ops [m 45 3,o 46 (.bin .sub 0 true (.t 45) (ci 1)),m 3 46]))
.skip))
(Q [m 48 0,m 49 1,m 50 2,m 51 4,o 52 (.callF a7t [.t 48,.t 49,.t 50,.t 51]),m 47 52,xe 53 47 0,xe 54 47 1,m 13 53,m 14 54]
(.seq (Q [m 55 14,o 56 (.bin .eql 0 true (.t 55) (ci 2))]
(.cond (.t 56)
(Q [m 57 0,m 58 1,m 59 2,m 60 4,o 61 (.callF a7c [.t 57,.t 58,.t 59,.t 60])]
(Q [m 62 2,o 63 (.bin .sub 0 true (.t 62) (ci 1)),m 64 13,m 65 1,o 66 (.bin .sub 0 false (.t 64) (.t 65)),o 67 (.bin .sub 0 false (.t 63) (.t 66)),m 13 67]
(.ops [o 14 (.mv (ci 1))])))
.skip))
(.seq (Q [m 68 10,m 69 68,og 70 69 true (.mv (.t 11)),o 71 (.pick (.t 69) (.t 70) (.c (.bool false))),m 72 71,og 73 72 true (.mv (.t 14)),og 74 72 true (.bin .eql 0 true (.t 73) (ci 1)),o 75 (.pick (.t 72) (.t 74) (.c (.bool false)))]
(.cond (.t 75)
(Q [m 76 0,m 77 1,m 78 2,m 79 4,o 80 (.callF a4a [.t 76,.t 77,.t 78,.t 79])]
(.cond (.t 80)
(.ret [])
.skip))
.skip))
(.seq (.seq (.plain [m 81 1,o 82 (.bin .gtr 0 true (.t 81) (ci 0)),m 83 82,og 84 83 true (.mv (.t 4)),og 85 83 true (.mv (.t 0)),og 86 83 true (.mv (.t 1)),og 87 83 true (.bin .sub 0 true (.t 86) (ci 1)),og 88 83 true (.idxAddrSl 6 (.t 85) (.t 87)),og 89 83 true (.load true 6 (.t 88)),og 90 83 true (.mv (.t 0)),og 91 83 true (.mv (.t 13)),og 92 83 true (.idxAddrSl 6 (.t 90) (.t 91)),og 93 83 true (.load true 6 (.t 92)),og 94 83 true (.callV (.t 84) [.t 89,.t 93]),og 95 83 true (.bin .lss 0 true (.t 94) (ci 0)),og 96 83 true (.un .not (.t 95)),o 97 (.pick (.t 83) (.t 96) (.c (.bool false)))])
(.cond (.t 97)
(Q [m 98 0,m 99 1,m 100 2,m 101 13,m 102 4,o 103 (.callF a5w [.t 98,.t 99,.t 100,.t 101,.t 102]),m 15 103]
(Q [m 104 15,m 1 104]
(.exit [0,1,2,3,4,10,11] 1)))
.skip))
(Q [m 106 0,m 107 1,m 108 2,m 109 13,m 110 4,o 111 (.callF a8q [.t 106,.t 107,.t 108,.t 109,.t 110]),m 105 111,xe 112 105 0,xe 113 105 1,m 16 112,m 17 113]
(Q [m 114 17,m 11 114]
(Q [m 115 16,m 116 1,o 117 (.bin .sub 0 false (.t 115) (.t 116)),m 118 2,m 119 16,o 120 (.bin .sub 0 false (.t 118) (.t 119)),m 18 117,m 19 120]
(Q [m 121 12,o 122 (.bin .quo 0 true (.t 121) (ci 8)),m 20 122]
(Q [m 123 18,m 124 19,o 125 (.bin .lss 0 false (.t 123) (.t 124))]
(.cond (.t 125)
(Q [m 126 18,m 127 20,o 128 (.bin .geq 0 false (.t 126) (.t 127)),m 10 128]
(Q [m 129 0,m 130 1,m 131 16,m 132 3,m 133 4,o 134 (.callF a1f [.t 129,.t 130,.t 131,.t 132,.t 133])]
(.ops [m 135 16,o 136 (.bin .add 0 true (.t 135) (ci 1)),m 1 136])))
(Q [m 137 19,m 138 20,o 139 (.bin .geq 0 false (.t 137) (.t 138)),m 10 139]
(Q [m 140 0,m 141 16,o 142 (.bin .add 0 true (.t 141) (ci 1)),m 143 2,m 144 3,m 145 4,o 146 (.callF a1f [.t 140,.t 142,.t 143,.t 144,.t 145])]
(.ops [m 147 16,m 2 147]))))))))))))))))))
def a3u : KF:=⟨5,148,[],(Q [o 10 (.mv (.c (.bool true)))]
(Q [o 11 (.mv (.c (.bool true)))]
(.block 0
(.loop [0,1,2,3,4,10,11] a8g))))⟩
def a4k : KF:=⟨2,8,[(.tmp 4)],(Q [o 4 (.mv (ci 0))]
(Q [m 5 0,m 6 1,o 7 (.callF a1z [.t 5,.t 6]),m 4 7]
(.ret [4])))⟩
def a6v : KF:=⟨1,8,[(.tmp 2)],(Q [o 2 (.mv (.c .nils))]
(.seq (Q [m 3 0,o 4 (.bin .eql 7 true (.t 3) (.c .nils))]
(.cond (.t 4)
(Q [o 2 (.mv (.c .nils))]
(.ret [2]))
.skip))
(Q [o 5 (.buildSl [ve] 0 1 []),m 6 0,o 7 (.app false 1 16 none (.t 5) (.t 6)),m 2 7]
(.ret [2]))))⟩
def d5d : KC:=
(Q [o 15 (.bin .lss 0 false (.t 14) (.t 13))]
(.seq (.cond (.t 15)
.skip
(.exit [] 0))
(.seq (.block 1
(Q [m 16 14,m 9 16]
(Q [m 17 0,m 18 9,o 19 (.idxAddrSl 5 (.t 17) (.t 18)),m 10 19]
(.seq (Q [m 20 3,m 21 20,og 22 21 true (.mv (.t 10)),og 23 21 true (.nilck (.t 22)),og 24 21 true (.fieldAddr 0 (.t 23)),og 25 21 true (.load false 1 (.t 24)),og 26 21 true (.bin .neq 0 true (.t 25) (cu 4)),o 27 (.pick (.t 21) (.t 26) (.c (.bool false))),m 28 27,og 29 28 true (.mv (.t 10)),og 30 28 true (.nilck (.t 29)),og 31 28 true (.fieldAddr 0 (.t 30)),og 32 28 true (.load false 1 (.t 31)),og 33 28 true (.bin .neq 0 true (.t 32) (cu 5)),o 34 (.pick (.t 28) (.t 33) (.c (.bool false)))]
(.cond (.t 34)
(.exit [0,1,2,3,13,14] 1)
.skip))
(.seq (Q [m 35 10,m 36 2,o 37 (.bin .eql 3 false (.t 35) (.t 36))]
(.cond (.t 37)
(Q [o 8 (.mv (.c (.bool true)))]
(.ret [8]))
.skip))
(Q [m 38 2,m 11 38]
(.seq (Q [m 39 1,m 40 1,o 41 (.bin .sub 0 true (.t 40) (ci 1)),o 42 (.bin .and 0 false (.t 39) (.t 41)),o 43 (.bin .eql 0 true (.t 42) (ci 0))]
(.cond (.t 43)
(.ops [m 44 10,m 11 44])
.skip))
(Q [m 45 10,o 46 (.nilck (.t 45)),xa 47 4 46,xf 48 47,m 49 1,o 50 (.bin .add 0 true (.t 49) (ci 1)),m 51 11,m 52 3,o 53 (.callF b5u [.t 48,.t 50,.t 51,.t 52])]
(.cond (.t 53)
(Q [o 8 (.mv (.c (.bool true)))]
(.ret [8]))
.skip)))))))))
(.ops [o 54 (.bin .add 0 true (.t 14) (ci 1)),m 14 54]))))
def c3n : KF:=⟨4,55,[(.tmp 8)],(Q [o 8 (.mv (.c (.bool false)))]
(.seq (Q [m 12 0,o 13 (.len 1 (.t 12)),o 14 (.mv (ci 0))]
(.block 0
(.loop [0,1,2,3,13,14] d5d)))
(Q [o 8 (.mv (.c (.bool false)))]
(.ret [8]))))⟩
def c8s : KC:=
(Q [o 20 (.bin .lss 0 false (.t 19) (.t 18))]
(.seq (.cond (.t 20)
.skip
(.exit [2,3] 0))
(.seq (.block 1
(Q [o 21 (.idxAddrSl 5 (.t 17) (.t 19)),xl 22 5 21,o 5 (.new [vu 0,vi 0,ve,.nils,.nils] none),xs 5 5 22]
(.drawn [xa 23 4 3,⟨(some 24),(.load false 1 (.t 23)),none,[3]⟩,xl 25 5 5,o 26 (.callF b1o [.t 25]),o 27 (.buildSl [vu 0,vi 0,ve,.nils,.nils] 1 5 [(0,5,(.t 26))]),o 28 (.app false 5 80 none (.t 24) (.t 27)),xa 29 4 3,xs 1 29 28])))
(.ops [o 30 (.bin .add 0 true (.t 19) (ci 1)),m 19 30]))))
def b9i : KF:=⟨1,32,[(.cell 2 true 5)],(Q [o 1 (.box (.t 0)),o 2 (.new [vu 0,vi 0,ve,.nils,.nils] none)]
(.seq (.drawn [xa 6 0 1,⟨(some 7),(.load false 1 (.t 6)),none,[8]⟩,xa 8 1 1,⟨(some 9),(.load false 1 (.t 8)),none,[8]⟩,xa 10 2 1,⟨(some 11),(.load false 1 (.t 10)),none,[8]⟩,xa 12 3 1,xf 13 12,o 14 (.callF a1v [.t 13]),o 15 (.build [vu 0,vi 0,ve,.nils,.nils] [(0,1,(.t 7)),(1,1,(.t 9)),(2,1,(.t 11)),(3,1,(.t 14))]),u .pend,o 3 (.fill 10 3 5 (.t 15))])
(.seq (Q [xa 16 4 1,xf 17 16,o 18 (.len 1 (.t 17)),o 19 (.mv (ci 0))]
(.block 0
(.loop [2,3,17,18,19] c8s)))
(Q [xl 31 5 3,xs 5 2 31]
(.ret [2])))))⟩
def d2h : KF:=⟨1,33,[(.tmp 2)],(Q [o 1 (.box (.t 0)),o 2 (.mv (.c (.bool false)))]
(.seq (Q [xa 4 0 1,xf 5 4,o 6 (.len 0 (.t 5)),o 7 (.bin .neq 0 true (.t 6) (ci 64)),m 8 7,og 9 8 false (.fieldAddr 0 (.t 1)),og 10 8 false (.load false 1 (.t 9)),og 11 8 false (.callF b2a [.t 10]),og 12 8 false (.un .not (.t 11)),o 13 (.pick (.t 8) (.c (.bool true)) (.t 12))]
(.cond (.t 13)
(Q [o 2 (.mv (.c (.bool false)))]
(.ret [2]))
.skip))
(Q [xa 14 1 1,xf 15 14,o 16 (.len 0 (.t 15)),m 3 16]
(Q [m 17 3,o 18 (.bin .gtr 0 true (.t 17) (ci 0)),m 19 18,og 20 19 true (.mv (.t 3)),og 21 19 true (.bin .leq 0 true (.t 20) (ci 128)),o 22 (.pick (.t 19) (.t 21) (.c (.bool false))),m 23 22,og 24 23 true (.mv (.t 3)),og 25 23 true (.bin .rem 0 true (.t 24) (ci 2)),og 26 23 true (.bin .eql 0 true (.t 25) (ci 0)),o 27 (.pick (.t 23) (.t 26) (.c (.bool false))),m 28 27,og 29 28 true (.fieldAddr 1 (.t 1)),og 30 28 true (.load false 1 (.t 29)),og 31 28 true (.callF b2a [.t 30]),o 32 (.pick (.t 28) (.t 31) (.c (.bool false))),m 2 32]
(.ret [2])))))⟩
def d6w : KF:=⟨1,30,[(.tmp 2)],(Q [o 1 (.box (.t 0)),o 2 (.mv (.c (.bool false)))]
(.seq (Q [xa 3 0 1,xf 4 3,o 5 (.bin .lss 0 true (.t 4) (ci 0)),m 6 5,og 7 6 false (.fieldAddr 0 (.t 1)),og 8 6 false (.load false 1 (.t 7)),og 9 6 false (.bin .gtr 0 true (.t 8) (ci 1099511627776)),o 10 (.pick (.t 6) (.c (.bool true)) (.t 9)),m 11 10,og 12 11 false (.fieldAddr 1 (.t 1)),og 13 11 false (.load false 1 (.t 12)),og 14 11 false (.callF a6o [.t 13]),og 15 11 false (.un .not (.t 14)),o 16 (.pick (.t 11) (.c (.bool true)) (.t 15))]
(.cond (.t 16)
(Q [o 2 (.mv (.c (.bool false)))]
(.ret [2]))
.skip))
(.seq (Q [xa 17 2 1,xl 18 5 17,o 19 (.callF b9x [.t 18]),o 20 (.un .not (.t 19)),m 21 20,og 22 21 true (.fieldAddr 2 (.t 1)),og 23 21 true (.load true 5 (.t 22)),og 24 21 true (.callF a0c [.t 23]),og 25 21 true (.un .not (.t 24)),o 26 (.pick (.t 21) (.t 25) (.c (.bool false)))]
(.cond (.t 26)
(Q [o 2 (.mv (.c (.bool false)))]
(.ret [2]))
.skip))
(Q [xl 27 7 1,o 28 (.callF b4y [.t 27]),o 29 (.callF a0c [.t 28]),m 2 29]
(.ret [2])))))⟩
def d4g : KC:=
(Q [o 14 (.bin .lss 0 false (.t 13) (.t 12))]
(.seq (.cond (.t 14)
.skip
(.exit [] 0))
(.seq (.block 1
(Q [o 15 (.idxAddrSl 2 (.t 11) (.t 13)),xl 16 2 15,o 5 (.new [ve,ve] none),xs 2 5 16]
(Q [xl 18 2 5,o 19 (.callF b0o [.t 18]),m 17 19,xe 20 17 0,xe 21 17 1,m 6 20,m 7 21]
(.seq (Q [m 22 7,o 23 (.bin .neq 0 true (.t 22) (ci 0)),m 24 23,og 25 24 false (.mv (.t 6)),og 26 24 false (.mv (.t 3)),og 27 24 false (.bin .leq 0 false (.t 25) (.t 26)),o 28 (.pick (.t 24) (.c (.bool true)) (.t 27))]
(.cond (.t 28)
(Q [o 2 (.mv (.c (.bool false)))]
(.ret [2]))
.skip))
(.ops [m 29 6,m 3 29])))))
(.ops [o 30 (.bin .add 0 true (.t 13) (ci 1)),m 13 30]))))
def c3z : KF:=⟨1,31,[(.tmp 2)],(Q [o 2 (.mv (.c (.bool false)))]
(.seq (Q [m 8 0,o 9 (.len 1 (.t 8)),o 10 (.bin .gtr 0 true (.t 9) (ci 32))]
(.cond (.t 10)
(Q [o 2 (.mv (.c (.bool false)))]
(.ret [2]))
.skip))
(Q [o 3 (.mv (cs []))]
(.seq (Q [m 11 0,o 12 (.len 1 (.t 11)),o 13 (.mv (ci 0))]
(.block 0
(.loop [3,11,12,13] d4g)))
(Q [o 2 (.mv (.c (.bool true)))]
(.ret [2]))))))⟩
def d0v : KC:=
(Q [o 11 (.bin .lss 0 false (.t 10) (.t 9))]
(.seq (.cond (.t 11)
.skip
(.exit [] 0))
(.seq (.block 1
(Q [m 12 10,o 13 (.idxAddrSl 6 (.t 8) (.t 10)),xl 14 6 13,o 4 (.new [ve,vi 0,.nils,(.bool false),.nils,.nils] none),m 3 12,xs 6 4 14]
(.seq (.plain [xl 15 6 4,o 16 (.callF b1b [.t 15]),o 17 (.un .not (.t 16)),m 18 17,og 19 18 false (.mv (.t 0)),og 20 18 false (.mv (.t 3)),og 21 18 false (.sliceSl 6 (.t 19) none (some (.t 20)) none),og 22 18 false (.fieldAddr 0 (.t 4)),og 23 18 false (.load false 1 (.t 22)),og 24 18 false (.callF b6b [.t 21,.t 23]),o 25 (.pick (.t 18) (.c (.bool true)) (.t 24))])
(.cond (.t 25)
(Q [o 2 (.mv (.c (.bool false)))]
(.ret [2]))
.skip))))
(.ops [o 26 (.bin .add 0 true (.t 10) (ci 1)),m 10 26]))))
def c1y : KF:=⟨1,27,[(.tmp 2)],(Q [o 2 (.mv (.c (.bool false)))]
(.seq (Q [m 5 0,o 6 (.len 1 (.t 5)),o 7 (.bin .gtr 0 true (.t 6) (ci 64))]
(.cond (.t 7)
(Q [o 2 (.mv (.c (.bool false)))]
(.ret [2]))
.skip))
(.seq (Q [m 8 0,o 9 (.len 1 (.t 8)),o 10 (.mv (ci 0))]
(.block 0
(.loop [0,8,9,10] d0v)))
(Q [o 2 (.mv (.c (.bool true)))]
(.ret [2])))))⟩
def d9f : KC:=
(Q [o 31 (.bin .lss 0 false (.t 30) (.t 29))]
(.seq (.cond (.t 31)
.skip
(.exit [2,5,6] 0))
(.seq (.block 1
(Q [o 32 (.idxAddrSl 6 (.t 28) (.t 30)),xl 33 6 32,o 8 (.new [ve,vi 0,.nils,(.bool false),.nils,.nils] none),xs 6 8 33]
(.ops [m 34 6,xl 35 6 8,o 36 (.callF b7k [.t 35]),o 37 (.buildSl [vu 0,vi 0,ve,.nils,.nils] 1 5 [(0,5,(.t 36))]),o 38 (.app false 5 80 none (.t 34) (.t 37)),m 6 38])))
(.ops [o 39 (.bin .add 0 true (.t 30) (ci 1)),m 30 39]))))
def c7q : KF:=⟨1,59,[(.cell 2 true 5)],(Q [o 1 (.box (.t 0)),o 2 (.new [vu 0,vi 0,ve,.nils,.nils] none)]
(Q [xa 12 0 1,xf 13 12,o 14 (.callF d0g [.t 13]),m 11 14,xe 15 11 0,xe 16 11 1,o 3 (.new [vu 0,vi 0,ve,.nils,.nils] none),xs 5 3 15,m 4 16]
(Q [xl 17 5 3,o 18 (.build [ve,vu 0,vi 0,ve,.nils,.nils] [(0,1,(cs [107,101,121,115])),(1,5,(.t 17))]),o 19 (.buildSl [ve,vu 0,vi 0,ve,.nils,.nils] 1 6 [(0,6,(.t 18))]),m 5 19]
(.seq (Q [xa 20 2 1,xl 21 4 20,o 22 (.callF b2c [.t 21])]
(.cond (.t 22)
(Q [xa 23 1 1,xf 24 23,o 25 (.len 1 (.t 24)),o 26 (.mkSlice [vu 0,vi 0,ve,.nils,.nils] 5 80 (ci 0) (.t 25)),m 6 26]
(.seq (Q [xa 27 1 1,xf 28 27,o 29 (.len 1 (.t 28)),o 30 (.mv (ci 0))]
(.block 0
(.loop [2,5,6,28,29,30] d9f)))
(.ops [m 40 5,m 41 6,o 42 (.callF d3u [.t 41]),o 43 (.build [ve,vu 0,vi 0,ve,.nils,.nils] [(0,1,(cs [114,111,108,101,115])),(1,5,(.t 42))]),o 44 (.buildSl [ve,vu 0,vi 0,ve,.nils,.nils] 1 6 [(0,6,(.t 43))]),o 45 (.app false 6 96 none (.t 40) (.t 44)),m 5 45])))
(.ops [m 46 5,xa 47 2 1,xl 48 4 47,o 49 (.callF d4b [.t 48]),o 50 (.build [ve,vu 0,vi 0,ve,.nils,.nils] [(0,1,(cs [115,117,99,99,105,110,99,116,95,114,111,108,101,115])),(1,5,(.t 49))]),o 51 (.buildSl [ve,vu 0,vi 0,ve,.nils,.nils] 1 6 [(0,6,(.t 50))]),o 52 (.app false 6 96 none (.t 46) (.t 51)),m 5 52])))
(Q [m 54 5,o 55 (.callF a0l [.t 54]),m 53 55,xe 56 53 0,xe 57 53 1,o 9 (.new [vu 0,vi 0,ve,.nils,.nils] none),xs 5 9 56,m 10 57]
(Q [xl 58 5 9,xs 5 2 58]
(.ret [2])))))))⟩
def g1e : KC:=
(Q [o 37 (.bin .lss 0 false (.t 36) (.t 35))]
(.seq (.cond (.t 37)
.skip
(.exit [] 0))
(.seq (.block 1
(Q [o 38 (.idxAddrSl 5 (.t 34) (.t 36)),xl 39 5 38,o 8 (.new [vu 0,vi 0,ve,.nils,.nils] none),xs 5 8 39]
(Q [xl 40 5 8,m 41 1,o 42 (.bin .sub 0 true (.t 41) (ci 1)),m 43 2,o 44 (.callF c9r [.t 40,.t 42,.t 43]),o 45 (.un .not (.t 44))]
(.cond (.t 45)
(Q [o 6 (.mv (.c (.bool false)))]
(.ret [6]))
.skip))))
(.ops [o 46 (.bin .add 0 true (.t 36) (ci 1)),m 36 46]))))
def e1x : KF:=⟨3,47,[(.tmp 6)],(Q [o 3 (.box (.t 0)),o 6 (.mv (.c (.bool false)))]
(Q [m 9 2,o 10 (.nilck (.t 9)),xf 11 10,o 12 (.bin .sub 0 true (.t 11) (ci 1)),o 13 (.nilck (.t 9)),xs 1 13 12]
(.seq (Q [m 14 2,o 15 (.nilck (.t 14)),xf 16 15,o 17 (.bin .lss 0 true (.t 16) (ci 0)),m 18 17,og 19 18 false (.load true 5 (.t 3)),og 20 18 false (.callF c7z [.t 19]),og 21 18 false (.un .not (.t 20)),o 22 (.pick (.t 18) (.c (.bool true)) (.t 21))]
(.cond (.t 22)
(Q [o 6 (.mv (.c (.bool false)))]
(.ret [6]))
.skip))
(.seq (Q [xa 23 0 3,xf 24 23,o 25 (.bin .neq 0 true (.t 24) (cu 4)),m 26 25,og 27 26 true (.fieldAddr 0 (.t 3)),og 28 26 true (.load false 1 (.t 27)),og 29 26 true (.bin .neq 0 true (.t 28) (cu 5)),o 30 (.pick (.t 26) (.t 29) (.c (.bool false)))]
(.cond (.t 30)
(Q [o 6 (.mv (.c (.bool true)))]
(.ret [6]))
.skip))
(.seq (Q [m 31 1,o 32 (.bin .eql 0 true (.t 31) (ci 0))]
(.cond (.t 32)
(Q [o 6 (.mv (.c (.bool false)))]
(.ret [6]))
.skip))
(.seq (Q [xa 33 4 3,xf 34 33,o 35 (.len 1 (.t 34)),o 36 (.mv (ci 0))]
(.block 0
(.loop [1,2,34,35,36] g1e)))
(Q [o 6 (.mv (.c (.bool true)))]
(.ret [6]))))))))⟩
def c4h : KF:=⟨1,32,[(.cell 2 true 5)],(Q [o 1 (.box (.t 0)),o 2 (.new [vu 0,vi 0,ve,.nils,.nils] none)]
(.seq (.drawn [xa 6 1 1,xf 7 6,o 8 (.callF a7q [.t 7]),o 9 (.build [ve,vu 0,vi 0,ve,.nils,.nils] [(0,1,(cs [104,97,115,104,101,115])),(1,5,(.t 8))]),xa 10 0 1,⟨(some 11),(.load false 1 (.t 10)),none,[2]⟩,o 12 (.callF a4z [.t 11]),o 13 (.build [ve,vu 0,vi 0,ve,.nils,.nils] [(0,1,(cs [108,101,110,103,116,104])),(1,5,(.t 12))]),o 14 (.buildSl [ve,vu 0,vi 0,ve,.nils,.nils] 2 6 [(0,6,(.t 9)),(6,6,(.t 13))]),m 3 14])
(.seq (Q [xa 15 2 1,xl 16 5 15,o 17 (.callF b9x [.t 16]),o 18 (.un .not (.t 17))]
(.cond (.t 18)
(.ops [m 19 3,xa 20 2 1,xl 21 5 20,o 22 (.callF a0h [.t 21]),o 23 (.build [ve,vu 0,vi 0,ve,.nils,.nils] [(0,1,(cs [99,117,115,116,111,109])),(1,5,(.t 22))]),o 24 (.buildSl [ve,vu 0,vi 0,ve,.nils,.nils] 1 6 [(0,6,(.t 23))]),o 25 (.app false 6 96 none (.t 19) (.t 24)),m 3 25])
.skip))
(Q [m 27 3,o 28 (.callF a0l [.t 27]),m 26 28,xe 29 26 0,xe 30 26 1,o 4 (.new [vu 0,vi 0,ve,.nils,.nils] none),xs 5 4 29,m 5 30]
(Q [xl 31 5 4,xs 5 2 31]
(.ret [2]))))))⟩
def d2r : KF:=⟨1,19,[(.tmp 2),(.tmp 3)],(Q [o 2 (.mv (cs [])),o 3 (.mv (ci 0))]
(Q [m 7 0,o 8 (.callF b4w [.t 7,cs [46,106,115,111,110]]),m 6 8,xe 9 6 0,xe 10 6 1,m 4 9,m 5 10]
(.seq (Q [m 11 5,o 12 (.un .not (.t 11)),m 13 12,og 14 13 false (.mv (.t 4)),og 15 13 false (.callF a7i [.t 14]),og 16 13 false (.un .not (.t 15)),o 17 (.pick (.t 13) (.c (.bool true)) (.t 16))]
(.cond (.t 17)
(Q [o 2 (.mv (cs [])),o 3 (.mv (ci 3))]
(.ret [2,3]))
.skip))
(Q [m 18 4,m 2 18,o 3 (.mv (ci 0))]
(.ret [2,3])))))⟩
def c7a : KC:=
(Q [o 16 (.bin .lss 0 false (.t 15) (.t 14))]
(.seq (.cond (.t 16)
.skip
(.exit [] 0))
(.seq (.block 1
(Q [m 17 15,o 18 (.idxAddrSl 2 (.t 13) (.t 15)),xl 19 2 18,o 4 (.new [ve,ve] none),m 3 17,xs 2 4 19]
(.seq (Q [xa 20 0 4,xf 21 20,o 22 (.callF a7i [.t 21]),o 23 (.un .not (.t 22)),m 24 23,og 25 24 false (.fieldAddr 1 (.t 4)),og 26 24 false (.load false 1 (.t 25)),og 27 24 false (.callF b0z [.t 26]),og 28 24 false (.un .not (.t 27)),o 29 (.pick (.t 24) (.c (.bool true)) (.t 28))]
(.cond (.t 29)
(Q [o 2 (.mv (.c (.bool false)))]
(.ret [2]))
.skip))
(.seq (.plain [m 30 3,o 31 (.bin .gtr 0 true (.t 30) (ci 0)),m 32 31,og 33 32 true (.fieldAddr 0 (.t 4)),og 34 32 true (.load false 1 (.t 33)),og 35 32 true (.mv (.t 0)),og 36 32 true (.mv (.t 3)),og 37 32 true (.bin .sub 0 true (.t 36) (ci 1)),og 38 32 true (.idxAddrSl 2 (.t 35) (.t 37)),og 39 32 true (.fieldAddr 0 (.t 38)),og 40 32 true (.load false 1 (.t 39)),og 41 32 true (.bin .leq 0 false (.t 34) (.t 40)),o 42 (.pick (.t 32) (.t 41) (.c (.bool false)))])
(.cond (.t 42)
(Q [o 2 (.mv (.c (.bool false)))]
(.ret [2]))
.skip)))))
(.ops [o 43 (.bin .add 0 true (.t 15) (ci 1)),m 15 43]))))
def b7d : KF:=⟨1,44,[(.tmp 2)],(Q [o 2 (.mv (.c (.bool false)))]
(.seq (Q [m 5 0,o 6 (.len 1 (.t 5)),o 7 (.bin .lss 0 true (.t 6) (ci 1)),m 8 7,og 9 8 false (.mv (.t 0)),og 10 8 false (.len 1 (.t 9)),og 11 8 false (.bin .gtr 0 true (.t 10) (ci 4)),o 12 (.pick (.t 8) (.c (.bool true)) (.t 11))]
(.cond (.t 12)
(Q [o 2 (.mv (.c (.bool false)))]
(.ret [2]))
.skip))
(.seq (Q [m 13 0,o 14 (.len 1 (.t 13)),o 15 (.mv (ci 0))]
(.block 0
(.loop [0,13,14,15] c7a)))
(Q [o 2 (.mv (.c (.bool true)))]
(.ret [2])))))⟩
def c0w : KC:=
(Q [o 14 (.bin .lss 0 false (.t 13) (.t 12))]
(.seq (.cond (.t 14)
.skip
(.exit [2,3] 0))
(.seq (.block 1
(Q [o 15 (.idxAddrSl 2 (.t 11) (.t 13)),xl 16 2 15,o 5 (.new [ve,ve] none),xs 2 5 16]
(.drawn [m 17 3,xa 18 0 5,⟨(some 19),(.load false 1 (.t 18)),none,[5]⟩,xa 20 1 5,xf 21 20,o 22 (.callF a1l [.t 21]),o 23 (.build [ve,vu 0,vi 0,ve,.nils,.nils] [(0,1,(.t 19)),(1,5,(.t 22))]),o 24 (.buildSl [ve,vu 0,vi 0,ve,.nils,.nils] 1 6 [(0,6,(.t 23))]),o 25 (.app false 6 96 none (.t 17) (.t 24)),m 3 25])))
(.ops [o 26 (.bin .add 0 true (.t 13) (ci 1)),m 13 26]))))
def b2p : KF:=⟨1,33,[(.cell 2 true 5)],(Q [o 2 (.new [vu 0,vi 0,ve,.nils,.nils] none)]
(Q [m 8 0,o 9 (.len 1 (.t 8)),o 10 (.mkSlice [ve,vu 0,vi 0,ve,.nils,.nils] 6 96 (ci 0) (.t 9)),m 3 10]
(.seq (Q [m 11 0,o 12 (.len 1 (.t 11)),o 13 (.mv (ci 0))]
(.block 0
(.loop [2,3,11,12,13] c0w)))
(Q [m 28 3,o 29 (.callF a0l [.t 28]),m 27 29,xe 30 27 0,xe 31 27 1,o 6 (.new [vu 0,vi 0,ve,.nils,.nils] none),xs 5 6 30,m 7 31]
(Q [xl 32 5 6,xs 5 2 32]
(.ret [2]))))))⟩
def e3d : KF:=⟨3,32,[(.cell 6 true 4),(.tmp 7),(.tmp 8)],(Q [o 3 (.box (.t 0)),o 6 (.new [ve,vi 0,vi 0,.nils] none),o 7 (.mv (ci 0)),o 8 (.mv (cu 0))]
(Q [xl 11 3 3,m 12 1,o 13 (.callF e8t [.t 11,.t 12]),m 10 13,xe 14 10 0,xe 15 10 1,xs 4 6 14,m 9 15]
(.seq (Q [m 16 9,o 17 (.un .not (.t 16))]
(.cond (.t 17)
(Q [o 18 (.build [ve,vi 0,vi 0,.nils] []),xs 4 6 18,o 7 (.mv (ci 0)),o 8 (.mv (cu 1))]
(.ret [6,7,8]))
.skip))
(.seq (Q [xa 19 2 6,xf 20 19,o 21 (.bin .lss 0 true (.t 20) (ci 0))]
(.cond (.t 21)
(Q [xl 22 4 6,m 23 2,xs 4 6 22,m 7 23,o 8 (.mv (cu 0))]
(.ret [6,7,8]))
.skip))
(.seq (Q [xa 24 2 6,xf 25 24,m 26 2,o 27 (.bin .gtr 0 false (.t 25) (.t 26))]
(.cond (.t 27)
(Q [o 28 (.build [ve,vi 0,vi 0,.nils] []),xs 4 6 28,o 7 (.mv (ci 0)),o 8 (.mv (cu 3))]
(.ret [6,7,8]))
.skip))
(Q [xl 29 4 6,xa 30 2 6,xf 31 30,xs 4 6 29,m 7 31,o 8 (.mv (cu 0))]
(.ret [6,7,8])))))))⟩
def d6y : KF:=⟨7,66,[(.cell 14 true 9),(.tmp 15)],(Q [o 8 (.box (.t 1)),o 9 (.box (.t 2)),o 14 (.new [vi 0,vi 0,.nils,.nils,.nils,vi 0,.nils,vi 0,ve] none),o 15 (.mv (cu 0))]
(Q [m 20 0,xl 21 2 9,m 22 3,xl 23 4 8,m 24 4,m 25 5,m 26 6,o 27 (.build [.nilp,vi 0,.nils,.nils,ve,vi 0,vi 0,.nils,vi 0,ve,vi 0,vu 0,vi 0,ve,.nils,.nils,vu 0,vi 0,ve,.nils,.nils,.nils,vi 0,vi 0] [(0,1,(.t 20)),(1,2,(.t 21)),(3,1,(.t 22)),(4,4,(.t 23)),(8,1,(.t 24)),(9,1,(.t 25)),(10,1,(.t 26))]),o 28 (.box (.t 27)),o 16 (.new [.nilp] none),xs 1 16 28]
(Q [o 17 (.new [vi 0,vi 0,.nils,.nils,.nils,vi 0,.nils,vi 0,ve] none)]
(Q [o 29 (.mkFunc (.func c8h) [] [.t 16,.t 17]),m 18 29]
(Q [xf 30 16,o 31 (.mkFunc (.func a8n) [.t 30] []),o 32 (.build [vu 0,.nilFunc] [(0,1,(cu 2)),(1,1,(.t 31))]),xf 33 16,o 34 (.mkFunc (.func b3i) [.t 33] []),o 35 (.build [vu 0,.nilFunc] [(0,1,(cu 3)),(1,1,(.t 34))]),xf 36 16,o 37 (.mkFunc (.func b7o) [.t 36] []),o 38 (.build [vu 0,.nilFunc] [(0,1,(cu 4)),(1,1,(.t 37))]),xf 39 16,o 40 (.mkFunc (.func a9y) [.t 39] []),o 41 (.build [vu 0,.nilFunc] [(0,1,(cu 5)),(1,1,(.t 40))]),xf 42 16,o 43 (.mkFunc (.func a9j) [.t 42] []),o 44 (.build [vu 0,.nilFunc] [(0,1,(cu 6)),(1,1,(.t 43))]),xf 45 16,o 46 (.mkFunc (.func a5d) [.t 45] []),o 47 (.build [vu 0,.nilFunc] [(0,1,(cu 7)),(1,1,(.t 46))]),m 48 18,o 49 (.build [vu 0,.nilFunc] [(0,1,(cu 7)),(1,1,(.t 48))]),xf 50 16,o 51 (.mkFunc (.func a7s) [.t 50] []),o 52 (.build [vu 0,.nilFunc] [(0,1,(cu 8)),(1,1,(.t 51))]),xf 53 16,o 54 (.mkFunc (.func a8z) [.t 53] []),o 55 (.build [vu 0,.nilFunc] [(0,1,(cu 9)),(1,1,(.t 54))]),xf 56 16,o 57 (.mkFunc (.func a8k) [.t 56] []),o 58 (.build [vu 0,.nilFunc] [(0,1,(cu 10)),(1,1,(.t 57))]),o 59 (.buildSl [vu 0,.nilFunc] 10 2 [(0,2,(.t 32)),(2,2,(.t 35)),(4,2,(.t 38)),(6,2,(.t 41)),(8,2,(.t 44)),(10,2,(.t 47)),(12,2,(.t 49)),(14,2,(.t 52)),(16,2,(.t 55)),(18,2,(.t 58))]),o 60 (.callF c0u [.t 59]),m 19 60]
(.seq (Q [m 61 19,o 62 (.bin .neq 0 true (.t 61) (cu 0))]
(.cond (.t 62)
(Q [o 63 (.build [vi 0,vi 0,.nils,.nils,.nils,vi 0,.nils,vi 0,ve] []),m 64 19,xs 9 14 63,m 15 64]
(.ret [14,15]))
.skip))
(Q [xl 65 9 17,xs 9 14 65,o 15 (.mv (cu 0))]
(.ret [14,15]))))))))⟩
def e1m : KF:=⟨1,9,[(.tmp 2),(.tmp 3)],(Q [o 2 (.mv (cs [])),o 3 (.mv (ci 0))]
(.seq (Q [m 4 0,o 5 (.callF a7i [.t 4]),o 6 (.un .not (.t 5))]
(.cond (.t 6)
(Q [o 2 (.mv (cs [])),o 3 (.mv (ci 3))]
(.ret [2,3]))
.skip))
(Q [m 7 0,o 8 (.bin .add 0 true (.t 7) (cs [46,106,115,111,110])),m 2 8,o 3 (.mv (ci 0))]
(.ret [2,3]))))⟩
def b9u : KF:=⟨3,55,[(.tmp 6),(.tmp 7),(.tmp 8)],(Q [o 6 (.mv (cs [])),o 7 (.mv (ci 0)),o 8 (.mv (ci 0))]
(.seq (Q [m 11 0,o 12 (.callF a6z [.t 11]),o 13 (.un .not (.t 12))]
(.cond (.t 13)
(Q [o 6 (.mv (cs [])),o 7 (.mv (ci 0)),o 8 (.mv (ci 2))]
(.ret [6,7,8]))
.skip))
(.seq (Q [m 14 2,o 15 (.bin .lss 0 true (.t 14) (ci 0)),m 16 15,og 17 16 false (.mv (.t 2)),og 18 16 false (.bin .gtr 0 true (.t 17) (ci 65536)),o 19 (.pick (.t 16) (.c (.bool true)) (.t 18))]
(.cond (.t 19)
(Q [o 6 (.mv (cs [])),o 7 (.mv (ci 0)),o 8 (.mv (ci 1))]
(.ret [6,7,8]))
.skip))
(Q [m 21 0,o 22 (.nilck (.t 21)),xa 23 2 22,xf 24 23,m 25 1,o 26 (.lookup (.agg [vi 0,vi 0,ve]) (.t 24) (.t 25) true),m 20 26,xe 27 20 0,xe 28 20 1,o 9 (.new [vi 0,vi 0,ve] none),xs 3 9 27,m 10 28]
(.seq (Q [m 29 10,o 30 (.un .not (.t 29))]
(.cond (.t 30)
(Q [m 31 0,m 32 1,m 33 2,o 34 (.callF b4u [.t 31,.t 32,.t 33]),xs 3 9 34]
(.seq (.plain [m 35 0,o 36 (.nilck (.t 35)),xa 37 2 36,xf 38 37,m 39 1,xl 40 3 9,u (.mapUpd (.t 38) (.t 39) (.t 40))])
(.ops [m 41 0,m 42 0,o 43 (.nilck (.t 42)),xa 44 3 43,xf 45 44,m 46 1,o 47 (.buildSl [ve] 1 1 [(0,1,(.t 46))]),o 48 (.app false 1 16 none (.t 45) (.t 47)),o 49 (.nilck (.t 41)),xa 50 3 49,xs 1 50 48])))
.skip))
(.seq (.plain [xa 51 2 9,xf 52 51,xa 53 1 9,xf 54 53,m 6 52,m 7 54,o 8 (.mv (ci 0))])
(.ret [6,7,8])))))))⟩
def b7s : KF:=⟨2,20,[(.tmp 2)],(Q [o 2 (.mv (.c (.bool false)))]
(Q [o 3 (.mv (ci 0))]
(Q [xf 5 0,o 6 (.nilck (.t 5)),xa 7 16 6,xa 8 0 7,xl 9 5 8,o 10 (.callF a3s [.t 9]),m 4 10,xe 11 4 0,xe 12 4 1,xs 3 1 11,m 3 12]
(Q [xf 13 0,xa 14 1 1,xf 15 14,o 16 (.nilck (.t 13)),xa 17 23 16,xs 1 17 15]
(Q [m 18 3,o 19 (.bin .neq 0 true (.t 18) (ci 0)),m 2 19]
(.ret [2]))))))⟩
def g9i : KC:=
(Q [o 18 (.bin .lss 0 false (.t 17) (.t 16))]
(.seq (.cond (.t 18)
.skip
(.exit [2,4,5] 0))
(.seq (.block 1
(Q [o 19 (.idxAddrSl 1 (.t 15) (.t 17)),xl 20 1 19,o 7 (.new [.nilFunc] none),xs 1 7 20]
(.ops [xa 21 0 7,xf 22 21,m 23 4,o 24 (.callV (.t 22) [.t 23,.t 5])])))
(.ops [o 25 (.bin .add 0 true (.t 17) (ci 1)),m 17 25]))))
def g7h : KF:=⟨1,33,[(.cell 2 true 3),(.tmp 3)],(Q [o 1 (.box (.t 0)),o 2 (.new [vi 0,vi 0,.nils] none),o 3 (.mv (ci 0))]
(.seq (Q [xl 9 5 1,o 10 (.callF a0c [.t 9]),o 11 (.un .not (.t 10))]
(.cond (.t 11)
(Q [o 12 (.build [vi 0,vi 0,.nils] []),xs 3 2 12,o 3 (.mv (ci 3))]
(.ret [2,3]))
.skip))
(Q [xl 13 5 1,o 14 (.callF a4u [.t 13]),m 4 14]
(Q [o 5 (.new [vi 0,vi 0,.nils] none)]
(.seq (Q [o 15 (.callF d9c []),o 16 (.len 1 (.t 15)),o 17 (.mv (ci 0))]
(.block 0
(.loop [2,4,5,15,16,17] g9i)))
(.seq (Q [m 26 4,o 27 (.callF a1c [.t 26]),m 8 27]
(Q [m 28 8,o 29 (.bin .neq 0 true (.t 28) (ci 0))]
(.cond (.t 29)
(Q [o 30 (.build [vi 0,vi 0,.nils] []),m 31 8,xs 3 2 30,m 3 31]
(.ret [2,3]))
.skip)))
(Q [xl 32 3 5,xs 3 2 32,o 3 (.mv (ci 0))]
(.ret [2,3]))))))))⟩
def e0x : KC:=
(Q [o 8 (.bin .lss 0 false (.t 7) (.t 6))]
(.seq (.cond (.t 8)
.skip
(.exit [] 0))
(.seq (.block 1
(Q [o 9 (.idxAddrSl 2 (.t 5) (.t 7)),xl 10 2 9,o 4 (.new [vu 0,.nilFunc] none),xs 2 4 10]
(Q [xa 11 1 4,xf 12 11,o 13 (.callV (.t 12) [])]
(.cond (.t 13)
(Q [xa 14 0 4,xf 15 14,m 2 15]
(.ret [2]))
.skip))))
(.ops [o 16 (.bin .add 0 true (.t 7) (ci 1)),m 7 16]))))
def d1l : KF:=⟨1,17,[(.tmp 2)],(Q [o 2 (.mv (cu 0))]
(.seq (Q [m 5 0,o 6 (.len 1 (.t 5)),o 7 (.mv (ci 0))]
(.block 0
(.loop [5,6,7] e0x)))
(Q [o 2 (.mv (cu 0))]
(.ret [2]))))⟩
def b4a : KF:=⟨1,8,[(.tmp 2)],(Q [o 2 (.mv (.c (.bool false)))]
(Q [m 3 0,o 4 (.nilck (.t 3)),xa 5 10 4,xf 6 5,o 7 (.bin .eql 0 true (.t 6) (ci (-1))),m 2 7]
(.ret [2])))⟩
def c1n : KF:=⟨1,29,[(.tmp 2)],(Q [o 2 (.mv (.c (.bool false)))]
(.seq (.plain [m 3 0,o 4 (.nilck (.t 3)),xa 5 10 4,xf 6 5,o 7 (.bin .lss 0 true (.t 6) (ci 0)),m 8 7,og 9 8 false (.mv (.t 0)),og 10 8 false (.nilck (.t 9)),og 11 8 false (.fieldAddr 4 (.t 10)),og 12 8 false (.fieldAddr 2 (.t 11)),og 13 8 false (.load false 1 (.t 12)),og 14 8 false (.bin .geq 0 true (.t 13) (ci 0)),og 15 8 false (.mv (.t 14)),og 16 15 true (.mv (.t 0)),og 17 15 true (.nilck (.t 16)),og 18 15 true (.fieldAddr 9 (.t 17)),og 19 15 true (.load false 1 (.t 18)),og 20 15 true (.len 0 (.t 19)),og 21 15 true (.mv (.t 0)),og 22 15 true (.nilck (.t 21)),og 23 15 true (.fieldAddr 4 (.t 22)),og 24 15 true (.fieldAddr 2 (.t 23)),og 25 15 true (.load false 1 (.t 24)),og 26 15 true (.bin .gtr 0 false (.t 20) (.t 25)),og 27 8 false (.pick (.t 15) (.t 26) (.c (.bool false))),o 28 (.pick (.t 8) (.c (.bool true)) (.t 27)),m 2 28])
(.ret [2])))⟩
def b5x : KF:=⟨1,21,[(.tmp 2)],(Q [o 2 (.mv (.c (.bool false)))]
(Q [m 7 0,o 8 (.nilck (.t 7)),xa 9 9 8,xf 10 9,o 11 (.callF a0q [.t 10]),m 6 11,xe 12 6 0,xe 13 6 1,xe 14 6 2,o 3 (.new [vu 0,vi 0,ve,.nils,.nils] none),xs 5 3 12,m 4 13,m 5 14]
(Q [m 15 0,xl 16 5 3,o 17 (.nilck (.t 15)),xa 18 11 17,xs 5 18 16]
(Q [m 19 5,o 20 (.bin .neq 0 true (.t 19) (ci 0)),m 2 20]
(.ret [2])))))⟩
def b0t : KF:=⟨1,19,[(.tmp 2)],(Q [o 2 (.mv (.c (.bool false)))]
(Q [m 6 0,o 7 (.nilck (.t 6)),xa 8 11 7,xl 9 5 8,o 10 (.callF a0z [.t 9]),m 5 10,xe 11 5 0,xe 12 5 1,o 3 (.new [vu 0,vi 0,ve,.nils,.nils,.nils] none),xs 6 3 11,m 4 12]
(Q [m 13 0,xl 14 6 3,o 15 (.nilck (.t 13)),xa 16 16 15,xs 6 16 14]
(Q [m 17 4,o 18 (.bin .neq 0 true (.t 17) (ci 0)),m 2 18]
(.ret [2])))))⟩
def b2g : KF:=⟨1,21,[(.tmp 2)],(Q [o 2 (.mv (.c (.bool false)))]
(.seq (.plain [m 3 0,o 4 (.nilck (.t 3)),xa 5 0 4,xf 6 5,m 7 0,o 8 (.nilck (.t 7)),xa 9 16 8,xl 10 6 9,m 11 0,o 12 (.nilck (.t 11)),xa 13 1 12,xl 14 2 13,m 15 0,o 16 (.nilck (.t 15)),xa 17 3 16,xf 18 17,o 19 (.callF b8a [.t 6,.t 10,.t 14,.t 18]),o 20 (.un .not (.t 19)),m 2 20])
(.ret [2])))⟩
def b3x : KF:=⟨1,12,[(.tmp 2)],(Q [o 2 (.mv (.c (.bool false)))]
(.seq (.plain [m 3 0,o 4 (.nilck (.t 3)),xa 5 23 4,xf 6 5,m 7 0,o 8 (.nilck (.t 7)),xa 9 8 8,xf 10 9,o 11 (.callF e4o [.t 6,.t 10]),m 2 11])
(.ret [2])))⟩
def c5k : KF:=⟨1,40,[(.tmp 2)],(Q [o 1 (.box (.t 0)),o 2 (.mv (.c (.bool false)))]
(.seq (Q [xa 3 0 1,xf 4 3,o 5 (.callF a7i [.t 4]),o 6 (.un .not (.t 5)),m 7 6,og 8 7 false (.fieldAddr 0 (.t 1)),og 9 7 false (.load false 1 (.t 8)),og 10 7 false (.callF g0c [.t 9]),o 11 (.pick (.t 7) (.c (.bool true)) (.t 10)),m 12 11,og 13 12 false (.fieldAddr 1 (.t 1)),og 14 12 false (.load true 2 (.t 13)),og 15 12 false (.callF b4o [.t 14]),og 16 12 false (.un .not (.t 15)),o 17 (.pick (.t 12) (.c (.bool true)) (.t 16))]
(.cond (.t 17)
(Q [o 2 (.mv (.c (.bool false)))]
(.ret [2]))
.skip))
(.seq (Q [xa 18 4 1,xf 19 18,o 20 (.len 1 (.t 19)),o 21 (.bin .gtr 0 true (.t 20) (ci 0))]
(.cond (.t 21)
(Q [xa 22 5 1,xf 23 22,o 24 (.len 1 (.t 23)),o 25 (.bin .eql 0 true (.t 24) (ci 0)),m 26 25,og 27 26 true (.fieldAddr 4 (.t 1)),og 28 26 true (.load false 1 (.t 27)),og 29 26 true (.callF c9k [.t 28,(.c (.func (.func b7w) [] []))]),o 30 (.pick (.t 26) (.t 29) (.c (.bool false))),m 2 30]
(.ret [2]))
.skip))
(Q [xa 31 5 1,xf 32 31,o 33 (.len 1 (.t 32)),o 34 (.bin .gtr 0 true (.t 33) (ci 0)),m 35 34,og 36 35 true (.fieldAddr 5 (.t 1)),og 37 35 true (.load false 1 (.t 36)),og 38 35 true (.callF c9k [.t 37,(.c (.func (.func h7r) [] []))]),o 39 (.pick (.t 35) (.t 38) (.c (.bool false))),m 2 39]
(.ret [2])))))⟩
def b9b : KF:=⟨1,13,[(.tmp 2)],(Q [o 1 (.box (.t 0)),o 2 (.mv (.c .nilIface))]
(.seq (Q [xa 3 4 1,xf 4 3,o 5 (.len 1 (.t 4)),o 6 (.bin .gtr 0 true (.t 5) (ci 0))]
(.cond (.t 6)
(Q [xa 7 4 1,xf 8 7,o 9 (.mkIface 385 (.t 8)),m 2 9]
(.ret [2]))
.skip))
(Q [xa 10 5 1,xf 11 10,o 12 (.mkIface 386 (.t 11)),m 2 12]
(.ret [2]))))⟩
def c6o : KC:=
(.seq (.seq (.plain [m 12 0,o 13 (.nilck (.t 12)),xa 14 1 13,xf 15 14,m 16 0,o 17 (.nilck (.t 16)),xa 18 0 17,xf 19 18,o 20 (.len 0 (.t 19)),o 21 (.bin .lss 0 false (.t 15) (.t 20)),m 22 21,og 23 22 true (.mv (.t 0)),og 24 22 true (.nilck (.t 23)),og 25 22 true (.fieldAddr 0 (.t 24)),og 26 22 true (.load false 1 (.t 25)),og 27 22 true (.mv (.t 0)),og 28 22 true (.nilck (.t 27)),og 29 22 true (.fieldAddr 1 (.t 28)),og 30 22 true (.load false 1 (.t 29)),og 31 22 true (.idxStr (.t 26) (.t 30)),og 32 22 true (.callF d7b [.t 31]),o 33 (.pick (.t 22) (.t 32) (.c (.bool false)))])
(.cond (.t 33)
.skip
(.exit [0] 0)))
(.block 1
(.ops [m 34 0,o 35 (.nilck (.t 34)),xa 36 1 35,xf 37 36,o 38 (.bin .add 0 true (.t 37) (ci 1)),o 39 (.nilck (.t 34)),xa 40 1 39,xs 1 40 38])))
def b7n : KF:=⟨1,65,[(.tmp 2)],(Q [o 2 (.mv (ci 0))]
(Q [m 5 0,m 6 0,o 7 (.nilck (.t 6)),xa 8 7 7,xf 9 8,o 10 (.nilck (.t 5)),xa 11 1 10,xs 1 11 9]
(.seq (.block 0
(.loop [0] c6o))
(.seq (.plain [m 42 0,o 43 (.nilck (.t 42)),xa 44 0 43,xf 45 44,m 46 0,o 47 (.nilck (.t 46)),xa 48 1 47,xf 49 48,o 50 (.callF e9j [.t 45,.t 49]),m 41 50,xe 51 41 0,xe 52 41 1,u .pend,o 3 (.fill 12 3 5 (.t 51)),m 4 52])
(.seq (Q [m 53 4,o 54 (.bin .neq 0 true (.t 53) (ci 0))]
(.cond (.t 54)
(Q [m 55 4,m 2 55]
(.ret [2]))
.skip))
(.seq (.drawn [m 56 0,m 57 0,xl 58 5 3,xa 59 2 3,⟨(some 60),(.load false 1 (.t 59)),none,[7]⟩,o 61 (.nilck (.t 56)),xa 62 2 61,xs 5 62 58,o 63 (.nilck (.t 57)),xa 64 7 63,xs 1 64 60])
(Q [o 2 (.mv (ci 0))]
(.ret [2]))))))))⟩
def b4q : KF:=⟨1,104,[(.cell 2 true 5),(.tmp 3)],(Q [o 2 (.new [vu 0,vi 0,ve,.nils,.nils] none),o 3 (.mv (ci 0))]
(.seq (Q [m 6 0,o 7 (.nilck (.t 6)),xa 8 0 7,xa 9 2 8,xa 10 0 9,xf 11 10]
(.block 0
(.seq (Q [o 16 (.bin .eql 0 true (.t 11) (cu 1)),m 15 16]
(.cond (.t 15)
.skip
(Q [o 17 (.bin .eql 0 true (.t 11) (cu 3)),m 15 17]
(.cond (.t 15)
.skip
(Q [o 18 (.bin .eql 0 true (.t 11) (cu 7)),m 15 18]
(.cond (.t 15)
.skip
(Q [o 19 (.bin .eql 0 true (.t 11) (cu 8)),m 15 19]
(.cond (.t 15)
.skip
(Q [o 20 (.bin .eql 0 true (.t 11) (cu 9)),m 15 20]
(.cond (.t 15)
.skip
(.ops [o 21 (.bin .eql 0 true (.t 11) (cu 10)),m 15 21])))))))))))
(.cond (.t 15)
.skip
(Q [o 12 (.build [vu 0,vi 0,ve,.nils,.nils] []),m 13 0,o 14 (.callF a5k [.t 13]),xs 5 2 12,m 3 14]
(.ret [2,3]))))))
(.seq (Q [m 22 0,o 23 (.nilck (.t 22)),xa 24 8 23,xf 25 24,o 26 (.bin .geq 0 true (.t 25) (ci 8192))]
(.cond (.t 26)
(Q [o 27 (.build [vu 0,vi 0,ve,.nils,.nils] []),xs 5 2 27,o 3 (.mv (ci 5))]
(.ret [2,3]))
.skip))
(Q [m 28 0,o 29 (.nilck (.t 28)),xa 30 8 29,xf 31 30,o 32 (.bin .add 0 true (.t 31) (ci 1)),o 33 (.nilck (.t 28)),xa 34 8 33,xs 1 34 32]
(.seq (Q [m 35 0,o 36 (.nilck (.t 35)),xa 37 0 36,xa 38 2 37,xa 39 0 38,xf 40 39]
(.block 1
(Q [o 42 (.bin .eql 0 true (.t 40) (cu 7)),m 41 42]
(.cond (.t 41)
(Q [o 43 (.build [vu 0,vi 0,ve,.nils,.nils] [(0,1,(cu 1)),(1,1,(ci 1))]),xs 5 2 43,o 3 (.mv (ci 0))]
(.ret [2,3]))
(Q [o 45 (.bin .eql 0 true (.t 40) (cu 8)),m 44 45]
(.cond (.t 44)
(Q [o 46 (.build [vu 0,vi 0,ve,.nils,.nils] [(0,1,(cu 1))]),xs 5 2 46,o 3 (.mv (ci 0))]
(.ret [2,3]))
(Q [o 48 (.bin .eql 0 true (.t 40) (cu 9)),m 47 48]
(.cond (.t 47)
(Q [m 49 0,o 50 (.nilck (.t 49)),xa 51 0 50,xa 52 2 51,xa 53 3 52,xf 54 53,o 55 (.build [vu 0,vi 0,ve,.nils,.nils] [(0,1,(cu 2)),(1,1,(.t 54))]),xs 5 2 55,o 3 (.mv (ci 0))]
(.ret [2,3]))
(Q [o 57 (.bin .eql 0 true (.t 40) (cu 10)),m 56 57]
(.cond (.t 56)
(Q [m 58 0,o 59 (.nilck (.t 58)),xa 60 0 59,xa 61 2 60,xa 62 4 61,xf 63 62,o 64 (.build [vu 0,vi 0,ve,.nils,.nils] [(0,1,(cu 3)),(2,1,(.t 63))]),xs 5 2 64,o 3 (.mv (ci 0))]
(.ret [2,3]))
.skip))))))))))
(.seq (Q [m 65 0,o 66 (.nilck (.t 65)),xa 67 9 66,xf 68 67,o 69 (.bin .geq 0 true (.t 68) (ci 12))]
(.cond (.t 69)
(Q [o 70 (.build [vu 0,vi 0,ve,.nils,.nils] []),xs 5 2 70,o 3 (.mv (ci 8))]
(.ret [2,3]))
.skip))
(Q [m 71 0,o 72 (.nilck (.t 71)),xa 73 9 72,xf 74 73,o 75 (.bin .add 0 true (.t 74) (ci 1)),o 76 (.nilck (.t 71)),xa 77 9 76,xs 1 77 75]
(Q [o 4 (.new [vu 0,vi 0,ve,.nils,.nils] none)]
(Q [o 5 (.mv (ci 0))]
(.seq (Q [m 78 0,o 79 (.nilck (.t 78)),xa 80 0 79,xa 81 2 80,xa 82 0 81,xf 83 82,o 84 (.bin .eql 0 true (.t 83) (cu 3))]
(.cond (.t 84)
(.ops [m 86 0,o 87 (.callF b6q [.t 86]),m 85 87,xe 88 85 0,xe 89 85 1,xs 5 4 88,m 5 89])
(.ops [m 91 0,o 92 (.callF b3t [.t 91]),m 90 92,xe 93 90 0,xe 94 90 1,xs 5 4 93,m 5 94])))
(Q [m 95 0,o 96 (.nilck (.t 95)),xa 97 9 96,xf 98 97,o 99 (.bin .sub 0 true (.t 98) (ci 1)),o 100 (.nilck (.t 95)),xa 101 9 100,xs 1 101 99]
(Q [xl 102 5 4,m 103 5,xs 5 2 102,m 3 103]
(.ret [2,3])))))))))))))⟩
def c4p : KF:=⟨3,11,[(.tmp 6)],(Q [o 5 (.box (.t 2)),o 6 (.mv (.c .nils))]
(Q [m 7 0,m 8 1,o 9 (.mkFunc (.func b9a) [] [.t 5]),o 10 (.callF a9a [.t 7,.t 8,.t 9]),m 6 10]
(.ret [6])))⟩
def d7c : KF:=⟨1,25,[(.cell 2 true 2),(.tmp 3)],(Q [o 1 (.box (.t 0)),o 2 (.new [ve,ve] none),o 3 (.mv (ci 0))]
(Q [xl 7 5 1,o 8 (.callF a4u [.t 7]),m 4 8]
(Q [m 9 4,o 10 (.callF a1g [.t 9,cs [107,101,121,105,100]]),m 11 4,o 12 (.callF a1g [.t 11,cs [115,105,103]]),o 13 (.build [ve,ve] [(0,1,(.t 10)),(1,1,(.t 12))]),o 5 (.new [ve,ve] none),xs 2 5 13]
(.seq (Q [m 14 4,o 15 (.callF a1c [.t 14]),m 6 15]
(Q [m 16 6,o 17 (.bin .neq 0 true (.t 16) (ci 0))]
(.cond (.t 17)
(Q [o 18 (.build [ve,ve] []),m 19 6,xs 2 2 18,m 3 19]
(.ret [2,3]))
.skip)))
(.seq (Q [xl 20 2 5,o 21 (.callF c0k [.t 20]),o 22 (.un .not (.t 21))]
(.cond (.t 22)
(Q [o 23 (.build [ve,ve] []),xs 2 2 23,o 3 (.mv (ci 3))]
(.ret [2,3]))
.skip))
(Q [xl 24 2 5,xs 2 2 24,o 3 (.mv (ci 0))]
(.ret [2,3])))))))⟩
def b7t : KF:=⟨3,50,[(.tmp 6)],(Q [o 6 (.mv (cs []))]
(Q [o 7 (.mv (cs []))]
(.seq (Q [m 12 0,o 13 (.callF a1q [.t 12]),o 14 (.bin .neq 0 true (.t 13) (ci 0))]
(.cond (.t 14)
(Q [m 15 7,m 6 15]
(.ret [6]))
.skip))
(Q [m 17 0,o 18 (.nilck (.t 17)),xa 19 0 18,xl 20 5 19,m 21 1,o 22 (.callF a1e [.t 20,.t 21]),m 16 22,xe 23 16 0,xe 24 16 1,o 8 (.new [vu 0,vi 0,ve,.nils,.nils] none),xs 5 8 23,m 9 24]
(.seq (Q [m 25 9,o 26 (.un .not (.t 25))]
(.cond (.t 26)
(Q [m 27 0,o 28 (.callF a0i [.t 27,ci 6])]
(Q [m 29 7,m 6 29]
(.ret [6])))
.skip))
(Q [m 31 2,xl 32 5 8,o 33 (.callV (.t 31) [.t 32]),m 30 33,xe 34 30 0,xe 35 30 1,m 10 34,m 11 35]
(.seq (Q [m 36 11,o 37 (.bin .neq 0 true (.t 36) (ci 0))]
(.cond (.t 37)
(Q [m 38 0,m 39 11,o 40 (.callF a0i [.t 38,.t 39])]
(Q [m 41 7,m 6 41]
(.ret [6])))
.skip))
(Q [m 42 0,o 43 (.nilck (.t 42)),xa 44 5 43,xf 45 44,m 46 1,o 47 (.lookup (vi 0) (.t 45) (.t 46) false),o 48 (.bin .add 0 true (.t 47) (ci 1)),u (.mapUpd (.t 45) (.t 46) (.t 48))]
(Q [m 49 10,m 6 49]
(.ret [6]))))))))))⟩
def b8s : KF:=⟨1,9,[(.tmp 2),(.tmp 3)],(Q [o 1 (.box (.t 0)),o 2 (.mv (cs [])),o 3 (.mv (ci 0))]
(.seq (Q [xa 4 0 1,xf 5 4,o 6 (.bin .neq 0 true (.t 5) (cu 3))]
(.cond (.t 6)
(Q [o 2 (.mv (cs [])),o 3 (.mv (ci 10))]
(.ret [2,3]))
.skip))
(Q [xa 7 2 1,xf 8 7,m 2 8,o 3 (.mv (ci 0))]
(.ret [2,3]))))⟩
def c7n : KF:=⟨1,22,[(.tmp 2)],(Q [o 2 (.mv (ci 0))]
(.seq (Q [m 3 0,o 4 (.bin .eql 3 true (.t 3) (.c .nilp))]
(.cond (.t 4)
(Q [o 2 (.mv (ci 2))]
(.ret [2]))
.skip))
(.seq (Q [m 5 0,o 6 (.nilck (.t 5)),xa 7 6 6,xf 8 7,o 9 (.bin .eql 0 true (.t 8) (ci 0)),m 10 9,og 11 10 true (.mv (.t 0)),og 12 10 true (.nilck (.t 11)),og 13 10 true (.fieldAddr 0 (.t 12)),og 14 10 true (.fieldAddr 0 (.t 13)),og 15 10 true (.load false 1 (.t 14)),og 16 10 true (.bin .neq 0 true (.t 15) (cu 5)),o 17 (.pick (.t 10) (.t 16) (.c (.bool false)))]
(.cond (.t 17)
(Q [o 2 (.mv (ci 10))]
(.ret [2]))
.skip))
(Q [m 18 0,o 19 (.nilck (.t 18)),xa 20 6 19,xf 21 20,m 2 21]
(.ret [2])))))⟩
def b8o : KF:=⟨3,50,[(.tmp 6)],(Q [o 6 (.mv (ci 0))]
(Q [o 7 (.mv (ci 0))]
(.seq (Q [m 12 0,o 13 (.callF a1q [.t 12]),o 14 (.bin .neq 0 true (.t 13) (ci 0))]
(.cond (.t 14)
(Q [m 15 7,m 6 15]
(.ret [6]))
.skip))
(Q [m 17 0,o 18 (.nilck (.t 17)),xa 19 0 18,xl 20 5 19,m 21 1,o 22 (.callF a1e [.t 20,.t 21]),m 16 22,xe 23 16 0,xe 24 16 1,o 8 (.new [vu 0,vi 0,ve,.nils,.nils] none),xs 5 8 23,m 9 24]
(.seq (Q [m 25 9,o 26 (.un .not (.t 25))]
(.cond (.t 26)
(Q [m 27 0,o 28 (.callF a0i [.t 27,ci 6])]
(Q [m 29 7,m 6 29]
(.ret [6])))
.skip))
(Q [m 31 2,xl 32 5 8,o 33 (.callV (.t 31) [.t 32]),m 30 33,xe 34 30 0,xe 35 30 1,m 10 34,m 11 35]
(.seq (Q [m 36 11,o 37 (.bin .neq 0 true (.t 36) (ci 0))]
(.cond (.t 37)
(Q [m 38 0,m 39 11,o 40 (.callF a0i [.t 38,.t 39])]
(Q [m 41 7,m 6 41]
(.ret [6])))
.skip))
(Q [m 42 0,o 43 (.nilck (.t 42)),xa 44 5 43,xf 45 44,m 46 1,o 47 (.lookup (vi 0) (.t 45) (.t 46) false),o 48 (.bin .add 0 true (.t 47) (ci 1)),u (.mapUpd (.t 45) (.t 46) (.t 48))]
(Q [m 49 10,m 6 49]
(.ret [6]))))))))))⟩
def c2k : KF:=⟨3,21,[(.tmp 4),(.tmp 5)],(Q [o 3 (.box (.t 0)),o 4 (.mv (ci 0)),o 5 (.mv (ci 0))]
(.seq (Q [xa 6 0 3,xf 7 6,o 8 (.bin .neq 0 true (.t 7) (cu 2))]
(.cond (.t 8)
(Q [o 4 (.mv (ci 0)),o 5 (.mv (ci 10))]
(.ret [4,5]))
.skip))
(.seq (Q [xa 9 1 3,xf 10 9,xf 11 1,o 12 (.bin .lss 0 false (.t 10) (.t 11)),m 13 12,og 14 13 false (.fieldAddr 1 (.t 3)),og 15 13 false (.load false 1 (.t 14)),og 16 13 false (.load false 1 (.t 2)),og 17 13 false (.bin .gtr 0 false (.t 15) (.t 16)),o 18 (.pick (.t 13) (.c (.bool true)) (.t 17))]
(.cond (.t 18)
(Q [o 4 (.mv (ci 0)),o 5 (.mv (ci 1))]
(.ret [4,5]))
.skip))
(Q [xa 19 1 3,xf 20 19,m 4 20,o 5 (.mv (ci 0))]
(.ret [4,5])))))⟩
def e5k : KC:=
(Q [o 8 (.bin .lss 0 false (.t 7) (.t 6))]
(.seq (.cond (.t 8)
.skip
(.exit [3] 0))
(.seq (.block 1
(Q [m 9 7,m 4 9]
(.seq (Q [m 10 0,m 11 4,o 12 (.idxStr (.t 10) (.t 11)),o 13 (.bin .lss 0 true (.t 12) (cu 48)),m 14 13,og 15 14 false (.mv (.t 0)),og 16 14 false (.mv (.t 4)),og 17 14 false (.idxStr (.t 15) (.t 16)),og 18 14 false (.bin .gtr 0 true (.t 17) (cu 57)),o 19 (.pick (.t 14) (.c (.bool true)) (.t 18))]
(.cond (.t 19)
(Q [o 2 (.mv (ci (-1)))]
(.ret [2]))
.skip))
(.ops [m 20 3,o 21 (.bin .mul 0 true (ci 10) (.t 20)),m 22 0,m 23 4,o 24 (.idxStr (.t 22) (.t 23)),o 25 (.bin .sub 0 true (.t 24) (cu 48)),o 26 (.i2i .i64 (.t 25)),o 27 (.bin .add 0 false (.t 21) (.t 26)),m 3 27]))))
(.ops [o 28 (.bin .add 0 true (.t 7) (ci 1)),m 7 28]))))
def d0u : KF:=⟨1,30,[(.tmp 2)],(Q [o 2 (.mv (ci 0))]
(Q [o 3 (.mv (ci 0))]
(.seq (Q [m 5 0,o 6 (.len 0 (.t 5)),o 7 (.mv (ci 0))]
(.block 0
(.loop [0,3,6,7] e5k)))
(Q [m 29 3,m 2 29]
(.ret [2])))))⟩
def e1l : KF:=⟨2,12,[(.tmp 4)],(Q [o 4 (.mv (.c (.bool false)))]
(Q [m 5 0,o 6 (.bin .geq 0 true (.t 5) (ci 0)),m 7 6,og 8 7 true (.mv (.t 0)),og 9 7 true (.mv (.t 1)),og 10 7 true (.bin .leq 0 false (.t 8) (.t 9)),o 11 (.pick (.t 7) (.t 10) (.c (.bool false))),m 4 11]
(.ret [4])))⟩
def h5c : KF:=⟨1,29,[(.cell 2 true 2),(.tmp 3)],(Q [o 1 (.box (.t 0)),o 2 (.new [ve,ve] none),o 3 (.mv (ci 0))]
(.seq (Q [xl 7 5 1,o 8 (.callF a0c [.t 7]),o 9 (.un .not (.t 8))]
(.cond (.t 9)
(Q [o 10 (.build [ve,ve] []),xs 2 2 10,o 3 (.mv (ci 3))]
(.ret [2,3]))
.skip))
(Q [xl 11 5 1,o 12 (.callF a4u [.t 11]),m 4 12]
(Q [m 13 4,o 14 (.callF a1g [.t 13,cs [112,117,98,108,105,99]]),m 15 4,o 16 (.callF a1g [.t 15,cs [115,99,104,101,109,101]]),o 17 (.build [ve,ve] [(1,1,(.t 14)),(0,1,(.t 16))]),o 5 (.new [ve,ve] none),xs 2 5 17]
(.seq (Q [m 18 4,o 19 (.callF a1c [.t 18]),m 6 19]
(Q [m 20 6,o 21 (.bin .neq 0 true (.t 20) (ci 0))]
(.cond (.t 21)
(Q [o 22 (.build [ve,ve] []),m 23 6,xs 2 2 22,m 3 23]
(.ret [2,3]))
.skip)))
(.seq (Q [xl 24 2 5,o 25 (.callF e0p [.t 24]),o 26 (.un .not (.t 25))]
(.cond (.t 26)
(Q [o 27 (.build [ve,ve] []),xs 2 2 27,o 3 (.mv (ci 3))]
(.ret [2,3]))
.skip))
(Q [xl 28 2 5,xs 2 2 28,o 3 (.mv (ci 0))]
(.ret [2,3]))))))))⟩
def b3a : KF:=⟨3,50,[(.cell 6 true 5)],(Q [o 6 (.new [vu 0,vi 0,ve,.nils,.nils] none)]
(Q [o 7 (.new [vu 0,vi 0,ve,.nils,.nils] none)]
(.seq (Q [m 12 0,o 13 (.callF a1q [.t 12]),o 14 (.bin .neq 0 true (.t 13) (ci 0))]
(.cond (.t 14)
(Q [xl 15 5 7,xs 5 6 15]
(.ret [6]))
.skip))
(Q [m 17 0,o 18 (.nilck (.t 17)),xa 19 0 18,xl 20 5 19,m 21 1,o 22 (.callF a1e [.t 20,.t 21]),m 16 22,xe 23 16 0,xe 24 16 1,o 8 (.new [vu 0,vi 0,ve,.nils,.nils] none),xs 5 8 23,m 9 24]
(.seq (Q [m 25 9,o 26 (.un .not (.t 25))]
(.cond (.t 26)
(Q [m 27 0,o 28 (.callF a0i [.t 27,ci 6])]
(Q [xl 29 5 7,xs 5 6 29]
(.ret [6])))
.skip))
(Q [m 31 2,xl 32 5 8,o 33 (.callV (.t 31) [.t 32]),m 30 33,xe 34 30 0,xe 35 30 1,o 10 (.new [vu 0,vi 0,ve,.nils,.nils] none),xs 5 10 34,m 11 35]
(.seq (Q [m 36 11,o 37 (.bin .neq 0 true (.t 36) (ci 0))]
(.cond (.t 37)
(Q [m 38 0,m 39 11,o 40 (.callF a0i [.t 38,.t 39])]
(Q [xl 41 5 7,xs 5 6 41]
(.ret [6])))
.skip))
(Q [m 42 0,o 43 (.nilck (.t 42)),xa 44 5 43,xf 45 44,m 46 1,o 47 (.lookup (vi 0) (.t 45) (.t 46) false),o 48 (.bin .add 0 true (.t 47) (ci 1)),u (.mapUpd (.t 45) (.t 46) (.t 48))]
(Q [xl 49 5 10,xs 5 6 49]
(.ret [6]))))))))))⟩
def b4z : KF:=⟨2,16,[(.cell 3 true 5),(.tmp 4)],(Q [o 2 (.box (.t 0)),o 3 (.new [vu 0,vi 0,ve,.nils,.nils] none),o 4 (.mv (ci 0))]
(.seq (Q [xa 5 0 2,xf 6 5,o 7 (.bin .neq 0 true (.t 6) (cu 5))]
(.cond (.t 7)
(Q [o 8 (.build [vu 0,vi 0,ve,.nils,.nils] []),xs 5 3 8,o 4 (.mv (ci 10))]
(.ret [3,4]))
.skip))
(.seq (Q [xa 9 4 2,xf 10 9,o 11 (.len 1 (.t 10)),xf 12 1,o 13 (.bin .gtr 0 false (.t 11) (.t 12))]
(.cond (.t 13)
(Q [o 14 (.build [vu 0,vi 0,ve,.nils,.nils] []),xs 5 3 14,o 4 (.mv (ci 5))]
(.ret [3,4]))
.skip))
(Q [xl 15 5 2,xs 5 3 15,o 4 (.mv (ci 0))]
(.ret [3,4])))))⟩
def g7t : KF:=⟨1,22,[(.cell 2 true 2),(.tmp 3)],(Q [o 1 (.box (.t 0)),o 2 (.new [vi 0,.nils] none),o 3 (.mv (ci 0))]
(.seq (Q [xl 7 5 1,o 8 (.callF a0c [.t 7]),o 9 (.un .not (.t 8))]
(.cond (.t 9)
(Q [o 10 (.build [vi 0,.nils] []),xs 2 2 10,o 3 (.mv (ci 3))]
(.ret [2,3]))
.skip))
(Q [xl 11 5 1,o 12 (.callF a4u [.t 11]),m 4 12]
(Q [m 13 4,o 14 (.callF c8x [.t 13]),o 5 (.new [vi 0,.nils] none),xs 2 5 14]
(.seq (Q [m 15 4,o 16 (.callF a1c [.t 15]),m 6 16]
(Q [m 17 6,o 18 (.bin .neq 0 true (.t 17) (ci 0))]
(.cond (.t 18)
(Q [o 19 (.build [vi 0,.nils] []),m 20 6,xs 2 2 19,m 3 20]
(.ret [2,3]))
.skip)))
(Q [xl 21 2 5,xs 2 2 21,o 3 (.mv (ci 0))]
(.ret [2,3])))))))⟩
def g5a : KC:=
(Q [o 13 (.bin .lss 0 false (.t 12) (.t 11))]
(.seq (.cond (.t 13)
.skip
(.exit [4] 0))
(.seq (.block 1
(Q [o 14 (.idxAddrSl 2 (.t 10) (.t 12)),xl 15 2 14,o 7 (.new [ve,ve] none),xs 2 7 15]
(Q [xl 17 2 7,o 18 (.callF b0o [.t 17]),m 16 18,xe 19 16 0,xe 20 16 1,m 8 19,m 9 20]
(Q [m 21 9,o 22 (.bin .eql 0 true (.t 21) (ci 0)),m 23 22,og 24 23 true (.mv (.t 8)),og 25 23 true (.mv (.t 1)),og 26 23 true (.bin .eql 0 false (.t 24) (.t 25)),o 27 (.pick (.t 23) (.t 26) (.c (.bool false)))]
(.cond (.t 27)
(Q [xl 28 2 7,xs 2 4 28,o 5 (.mv (.c (.bool true)))]
(.ret [4,5]))
.skip)))))
(.ops [o 29 (.bin .add 0 true (.t 12) (ci 1)),m 12 29]))))
def e9i : KF:=⟨2,31,[(.cell 4 true 2),(.tmp 5)],(Q [o 4 (.new [ve,ve] none),o 5 (.mv (.c (.bool false)))]
(.seq (Q [m 10 0,o 11 (.len 1 (.t 10)),o 12 (.mv (ci 0))]
(.block 0
(.loop [1,4,10,11,12] g5a)))
(Q [o 30 (.build [ve,ve] []),xs 2 4 30,o 5 (.mv (.c (.bool false)))]
(.ret [4,5]))))⟩
def c2u : KC:=
(Q [o 16 (.bin .lss 0 false (.t 15) (.t 14))]
(.seq (.cond (.t 16)
.skip
(.exit [] 0))
(.seq (.block 1
(Q [o 17 (.idxAddrSl 2 (.t 13) (.t 15)),xl 18 2 17,o 12 (.new [ve,ve] none),xs 2 12 18]
(Q [xa 19 0 12,xf 20 19,m 21 2,o 22 (.bin .eql 0 false (.t 20) (.t 21)),m 23 22,og 24 23 true (.mv (.t 0)),og 25 23 true (.load true 2 (.t 6)),og 26 23 true (.load true 2 (.t 12)),og 27 23 true (.mv (.t 4)),og 28 23 true (.callF b2v [.t 24,.t 25,.t 26,.t 27]),o 29 (.pick (.t 23) (.t 28) (.c (.bool false)))]
(.cond (.t 29)
(Q [o 10 (.mv (.c (.bool true)))]
(.ret [10]))
.skip))))
(.ops [o 30 (.bin .add 0 true (.t 15) (ci 1)),m 15 30]))))
def b3w : KF:=⟨5,31,[(.tmp 10)],(Q [o 6 (.box (.t 1)),o 10 (.mv (.c (.bool false)))]
(.seq (Q [m 13 3,o 14 (.len 1 (.t 13)),o 15 (.mv (ci 0))]
(.block 0
(.loop [0,2,4,6,13,14,15] c2u)))
(Q [o 10 (.mv (.c (.bool false)))]
(.ret [10]))))⟩
def e4c : KF:=⟨1,20,[],(Q [m 2 0,o 3 (.nilck (.t 2)),xa 4 0 3,xf 5 4,o 6 (.bin .eql 3 true (.t 5) (.c .nilp))]
(.cond (.t 6)
(.ops [m 7 0,m 8 0,o 9 .fail,o 10 (.callF c0e [.t 9]),o 11 .fail,o 12 (.nilck (.t 7)),xa 13 0 12,xs 1 13 11])
(Q [m 14 0,o 15 (.nilck (.t 14)),xa 16 0 15,xf 17 16,m 18 0,o 19 (.bin .neq 3 false (.t 17) (.t 18))]
(.cond (.t 19)
.fail
.skip))))⟩
def b4t : KF:=⟨2,8,[(.tmp 4)],(Q [o 4 (.mv (cs []))]
(Q [m 5 0,m 6 1,o 7 (.callF a3i [.t 5,.t 6]),m 4 7]
(.ret [4])))⟩
def b0j : KF:=⟨1,5,[(.tmp 2)],(Q [o 2 (.mv (cs []))]
(Q [m 3 0,o 4 (.callF a3i [.t 3,ci 10]),m 2 4]
(.ret [2])))⟩
def a6l : KC:=
(.seq (.seq (.plain [m 18 9,m 19 1,o 20 (.bin .gtr 0 false (.t 18) (.t 19)),m 21 20,og 22 21 true (.mv (.t 3)),og 23 21 true (.mv (.t 0)),og 24 21 true (.mv (.t 9)),og 25 21 true (.idxAddrSl 6 (.t 23) (.t 24)),og 26 21 true (.load true 6 (.t 25)),og 27 21 true (.mv (.t 0)),og 28 21 true (.mv (.t 9)),og 29 21 true (.bin .sub 0 true (.t 28) (ci 1)),og 30 21 true (.idxAddrSl 6 (.t 27) (.t 29)),og 31 21 true (.load true 6 (.t 30)),og 32 21 true (.callV (.t 22) [.t 26,.t 31]),og 33 21 true (.bin .lss 0 true (.t 32) (ci 0)),o 34 (.pick (.t 21) (.t 33) (.c (.bool false)))])
(.cond (.t 34)
.skip
(.exit [0,1,2,3,8] 2)))
(.seq (.block 3
(.plain [m 37 0,m 38 9,m 39 0,m 40 9,o 41 (.bin .sub 0 true (.t 40) (ci 1)),m 42 0,m 43 9,o 44 (.bin .sub 0 true (.t 43) (ci 1)),o 45 (.idxAddrSl 6 (.t 42) (.t 44)),xl 46 6 45,m 47 0,m 48 9,o 49 (.idxAddrSl 6 (.t 47) (.t 48)),xl 50 6 49,o 51 (.idxAddrSl 6 (.t 37) (.t 38)),xs 6 51 46,o 52 (.idxAddrSl 6 (.t 39) (.t 41)),xs 6 52 50]))
(.ops [m 35 9,o 36 (.bin .sub 0 true (.t 35) (ci 1)),m 9 36])))
def a6j : KC:=
(.seq (Q [m 12 8,m 13 2,o 14 (.bin .lss 0 false (.t 12) (.t 13))]
(.cond (.t 14)
.skip
(.exit [] 0)))
(.seq (.block 1
(Q [m 17 8,m 9 17]
(.block 2
(.loop [0,1,2,3,8,9] a6l))))
(.ops [m 15 8,o 16 (.bin .add 0 true (.t 15) (ci 1)),m 8 16])))
def a2u : KF:=⟨4,53,[],(Q [m 10 1,o 11 (.bin .add 0 true (.t 10) (ci 1)),m 8 11]
(.block 0
(.loop [0,1,2,3,8] a6j)))⟩
def b9m : KF:=⟨1,25,[(.tmp 2)],(Q [o 2 (.mv (ci 0))]
(.seq (Q [m 3 0,o 4 (.bin .geq 0 true (.t 3) (.c (.int .u64 4294967296)))]
(.cond (.t 4)
(Q [m 5 0,o 6 (.bin .shr 0 true (.t 5) (.c (.int .u64 32))),m 0 6]
(.ops [o 2 (.mv (ci 32))]))
.skip))
(.seq (Q [m 7 0,o 8 (.bin .geq 0 true (.t 7) (.c (.int .u64 65536)))]
(.cond (.t 8)
(Q [m 9 0,o 10 (.bin .shr 0 true (.t 9) (.c (.int .u64 16))),m 0 10]
(.ops [m 11 2,o 12 (.bin .add 0 true (.t 11) (ci 16)),m 2 12]))
.skip))
(.seq (Q [m 13 0,o 14 (.bin .geq 0 true (.t 13) (.c (.int .u64 256)))]
(.cond (.t 14)
(Q [m 15 0,o 16 (.bin .shr 0 true (.t 15) (.c (.int .u64 8))),m 0 16]
(.ops [m 17 2,o 18 (.bin .add 0 true (.t 17) (ci 8)),m 2 18]))
.skip))
(Q [m 19 2,m 20 0,o 21 (.i2i .u8 (.t 20)),o 22 (.idxStr (cs [0,1,2,2,3,3,3,3,4,4,4,4,4,4,4,4,5,5,5,5,5,5,5,5,5,5,5,5,5,5,5,5,6,6,6,6,6,6,6,6,6,6,6,6,6,6,6,6,6,6,6,6,6,6,6,6,6,6,6,6,6,6,6,6,7,7,7,7,7,7,7,7,7,7,7,7,7,7,7,7,7,7,7,7,7,7,7,7,7,7,7,7,7,7,7,7,7,7,7,7,7,7,7,7,7,7,7,7,7,7,7,7,7,7,7,7,7,7,7,7,7,7,7,7,7,7,7,7,8,8,8,8,8,8,8,8,8,8,8,8,8,8,8,8,8,8,8,8,8,8,8,8,8,8,8,8,8,8,8,8,8,8,8,8,8,8,8,8,8,8,8,8,8,8,8,8,8,8,8,8,8,8,8,8,8,8,8,8,8,8,8,8,8,8,8,8,8,8,8,8,8,8,8,8,8,8,8,8,8,8,8,8,8,8,8,8,8,8,8,8,8,8,8,8,8,8,8,8,8,8,8,8,8,8,8,8,8,8,8,8,8,8,8,8,8,8,8,8,8,8,8,8,8,8,8,8]) (.t 21)),o 23 (.i2i .i64 (.t 22)),o 24 (.bin .add 0 false (.t 19) (.t 23)),m 2 24]
(.ret [2]))))))⟩
def a5i : KC:=
(.seq (.seq (.plain [m 18 9,m 19 1,o 20 (.bin .gtr 0 false (.t 18) (.t 19)),m 21 20,og 22 21 true (.mv (.t 3)),og 23 21 true (.mv (.t 0)),og 24 21 true (.mv (.t 9)),og 25 21 true (.idxAddrSl 6 (.t 23) (.t 24)),og 26 21 true (.load true 6 (.t 25)),og 27 21 true (.mv (.t 0)),og 28 21 true (.mv (.t 9)),og 29 21 true (.bin .sub 0 true (.t 28) (ci 1)),og 30 21 true (.idxAddrSl 6 (.t 27) (.t 29)),og 31 21 true (.load true 6 (.t 30)),og 32 21 true (.callV (.t 22) [.t 26,.t 31]),og 33 21 true (.bin .lss 0 true (.t 32) (ci 0)),o 34 (.pick (.t 21) (.t 33) (.c (.bool false)))])
(.cond (.t 34)
.skip
(.exit [0,1,2,3,8] 2)))
(.seq (.block 3
(.plain [m 37 0,m 38 9,m 39 0,m 40 9,o 41 (.bin .sub 0 true (.t 40) (ci 1)),m 42 0,m 43 9,o 44 (.bin .sub 0 true (.t 43) (ci 1)),o 45 (.idxAddrSl 6 (.t 42) (.t 44)),xl 46 6 45,m 47 0,m 48 9,o 49 (.idxAddrSl 6 (.t 47) (.t 48)),xl 50 6 49,o 51 (.idxAddrSl 6 (.t 37) (.t 38)),xs 6 51 46,o 52 (.idxAddrSl 6 (.t 39) (.t 41)),xs 6 52 50]))
(.ops [m 35 9,o 36 (.bin .sub 0 true (.t 35) (ci 1)),m 9 36])))
def a5g : KC:=
(.seq (Q [m 12 8,m 13 2,o 14 (.bin .lss 0 false (.t 12) (.t 13))]
(.cond (.t 14)
.skip
(.exit [] 0)))
(.seq (.block 1
(Q [m 17 8,m 9 17]
(.block 2
(.loop [0,1,2,3,8,9] a5i))))
(.ops [m 15 8,o 16 (.bin .add 0 true (.t 15) (ci 1)),m 8 16])))
def a2e : KF:=⟨4,53,[],(Q [m 10 1,o 11 (.bin .add 0 true (.t 10) (ci 1)),m 8 11]
(.block 0
(.loop [0,1,2,3,8] a5g)))⟩
def d3y : KF:=⟨1,28,[(.tmp 2)],(Q [o 1 (.box (.t 0)),o 2 (.mv (.c (.bool false)))]
(Q [xa 3 0 1,xf 4 3,o 5 (.bin .eql 0 true (.t 4) (cu 0)),m 6 5,og 7 6 true (.fieldAddr 1 (.t 1)),og 8 6 true (.load false 1 (.t 7)),og 9 6 true (.bin .eql 0 true (.t 8) (ci 0)),o 10 (.pick (.t 6) (.t 9) (.c (.bool false))),m 11 10,og 12 11 true (.fieldAddr 2 (.t 1)),og 13 11 true (.load false 1 (.t 12)),og 14 11 true (.bin .eql 0 true (.t 13) (cs [])),o 15 (.pick (.t 11) (.t 14) (.c (.bool false))),m 16 15,og 17 16 true (.fieldAddr 3 (.t 1)),og 18 16 true (.load false 1 (.t 17)),og 19 16 true (.len 1 (.t 18)),og 20 16 true (.bin .eql 0 true (.t 19) (ci 0)),o 21 (.pick (.t 16) (.t 20) (.c (.bool false))),m 22 21,og 23 22 true (.fieldAddr 4 (.t 1)),og 24 22 true (.load false 1 (.t 23)),og 25 22 true (.len 1 (.t 24)),og 26 22 true (.bin .eql 0 true (.t 25) (ci 0)),o 27 (.pick (.t 22) (.t 26) (.c (.bool false))),m 2 27]
(.ret [2])))⟩
def d5s : KC:=
(Q [o 10 (.bin .lss 0 false (.t 9) (.t 8))]
(.seq (.cond (.t 10)
.skip
(.exit [] 0))
(.seq (.block 1
(Q [o 11 (.idxAddrSl 6 (.t 7) (.t 9)),xl 12 6 11,o 6 (.new [ve,vi 0,.nils,(.bool false),.nils,.nils] none),xs 6 6 12]
(Q [xa 13 0 6,xf 14 13,m 15 1,o 16 (.bin .eql 0 false (.t 14) (.t 15))]
(.cond (.t 16)
(Q [o 4 (.mv (.c (.bool true)))]
(.ret [4]))
.skip))))
(.ops [o 17 (.bin .add 0 true (.t 9) (ci 1)),m 9 17]))))
def c3o : KF:=⟨2,18,[(.tmp 4)],(Q [o 4 (.mv (.c (.bool false)))]
(.seq (Q [m 7 0,o 8 (.len 1 (.t 7)),o 9 (.mv (ci 0))]
(.block 0
(.loop [1,7,8,9] d5s)))
(Q [o 4 (.mv (.c (.bool false)))]
(.ret [4]))))⟩
def e9f : KF:=⟨1,13,[(.tmp 2)],(Q [o 2 (.mv (.c (.bool false)))]
(Q [m 3 0,o 4 (.bin .eql 0 true (.t 3) (cs [114,111,111,116])),m 5 4,og 6 5 false (.mv (.t 0)),og 7 5 false (.bin .eql 0 true (.t 6) (cs [115,110,97,112,115,104,111,116])),o 8 (.pick (.t 5) (.c (.bool true)) (.t 7)),m 9 8,og 10 9 false (.mv (.t 0)),og 11 9 false (.bin .eql 0 true (.t 10) (cs [116,97,114,103,101,116,115])),o 12 (.pick (.t 9) (.c (.bool true)) (.t 11)),m 2 12]
(.ret [2])))⟩
def b7g : KF:=⟨1,43,[(.cell 2 true 5)],(Q [o 1 (.box (.t 0)),o 2 (.new [vu 0,vi 0,ve,.nils,.nils] none)]
(.seq (.drawn [xa 6 1 1,xl 7 2 6,o 8 (.callF b8d [.t 7]),xa 9 0 1,⟨(some 10),(.load false 1 (.t 9)),none,[2]⟩,o 11 (.callF a1l [.t 10]),o 12 (.build [ve,vu 0,vi 0,ve,.nils,.nils] [(0,1,(cs [110,97,109,101])),(1,5,(.t 11))]),xa 13 3 1,⟨(some 14),(.load false 1 (.t 13)),none,[2,5]⟩,o 15 (.callF d3n [.t 14]),o 16 (.build [ve,vu 0,vi 0,ve,.nils,.nils] [(0,1,(cs [116,101,114,109,105,110,97,116,105,110,103])),(1,5,(.t 15))]),o 17 (.buildSl [ve,vu 0,vi 0,ve,.nils,.nils] 2 6 [(0,6,(.t 12)),(6,6,(.t 16))]),o 18 (.app false 6 96 none (.t 8) (.t 17)),m 3 18])
(.seq (Q [xa 19 4 1,xf 20 19,o 21 (.len 1 (.t 20)),o 22 (.bin .gtr 0 true (.t 21) (ci 0))]
(.cond (.t 22)
(.ops [m 23 3,xa 24 4 1,xf 25 24,o 26 (.callF b1z [.t 25]),o 27 (.build [ve,vu 0,vi 0,ve,.nils,.nils] [(0,1,(cs [112,97,116,104,115])),(1,5,(.t 26))]),o 28 (.buildSl [ve,vu 0,vi 0,ve,.nils,.nils] 1 6 [(0,6,(.t 27))]),o 29 (.app false 6 96 none (.t 23) (.t 28)),m 3 29])
(.ops [m 30 3,xa 31 5 1,xf 32 31,o 33 (.callF b1z [.t 32]),o 34 (.build [ve,vu 0,vi 0,ve,.nils,.nils] [(0,1,(cs [112,97,116,104,95,104,97,115,104,95,112,114,101,102,105,120,101,115])),(1,5,(.t 33))]),o 35 (.buildSl [ve,vu 0,vi 0,ve,.nils,.nils] 1 6 [(0,6,(.t 34))]),o 36 (.app false 6 96 none (.t 30) (.t 35)),m 3 36])))
(Q [m 38 3,o 39 (.callF a0l [.t 38]),m 37 39,xe 40 37 0,xe 41 37 1,o 4 (.new [vu 0,vi 0,ve,.nils,.nils] none),xs 5 4 40,m 5 41]
(Q [xl 42 5 4,xs 5 2 42]
(.ret [2]))))))⟩
def e2u : KC:=
(Q [o 10 (.bin .lss 0 false (.t 9) (.t 8))]
(.seq (.cond (.t 10)
.skip
(.exit [2,3] 0))
(.seq (.block 1
(Q [o 11 (.idxAddrSl 5 (.t 7) (.t 9)),xl 12 5 11,o 5 (.new [vu 0,vi 0,ve,.nils,.nils] none),xs 5 5 12]
(.drawn [xa 13 4 3,⟨(some 14),(.load false 1 (.t 13)),none,[3]⟩,xl 15 5 5,o 16 (.callF a0h [.t 15]),o 17 (.buildSl [vu 0,vi 0,ve,.nils,.nils] 1 5 [(0,5,(.t 16))]),o 18 (.app false 5 80 none (.t 14) (.t 17)),xa 19 4 3,xs 1 19 18])))
(.ops [o 20 (.bin .add 0 true (.t 9) (ci 1)),m 9 20]))))
def d1c : KF:=⟨1,22,[(.cell 2 true 5)],(Q [o 2 (.new [vu 0,vi 0,ve,.nils,.nils] none)]
(Q [o 6 (.build [vu 0,vi 0,ve,.nils,.nils] [(0,1,(cu 4))]),o 3 (.new [vu 0,vi 0,ve,.nils,.nils] none),xs 5 3 6]
(.seq (Q [m 7 0,o 8 (.len 1 (.t 7)),o 9 (.mv (ci 0))]
(.block 0
(.loop [2,3,7,8,9] e2u)))
(Q [xl 21 5 3,xs 5 2 21]
(.ret [2])))))⟩
def d9h : KC:=
(Q [o 92 (.bin .lss 0 false (.t 91) (.t 90))]
(.seq (.cond (.t 92)
.skip
(.exit [] 1))
(.seq (.block 2
(Q [o 93 (.idxAddrSl 1 (.t 89) (.t 91)),xf 94 93,m 4 94]
(Q [m 95 4,o 96 (.callF b5e [.t 95]),o 97 (.un .not (.t 96))]
(.cond (.t 97)
(Q [o 2 (.mv (.c (.bool false)))]
(.ret [2]))
.skip))))
(.ops [o 98 (.bin .add 0 true (.t 91) (ci 1)),m 91 98]))))
def c8o : KF:=⟨1,99,[(.tmp 2)],(Q [o 1 (.box (.t 0)),o 2 (.mv (.c (.bool false)))]
(.seq (Q [xa 5 0 1,xf 6 5,o 7 (.bin .neq 0 true (.t 6) (cu 1)),m 8 7,og 9 8 true (.fieldAddr 0 (.t 1)),og 10 8 true (.load false 1 (.t 9)),og 11 8 true (.bin .neq 0 true (.t 10) (cu 2)),o 12 (.pick (.t 8) (.t 11) (.c (.bool false))),m 13 12,og 14 13 true (.fieldAddr 1 (.t 1)),og 15 13 true (.load false 1 (.t 14)),og 16 13 true (.bin .neq 0 true (.t 15) (ci 0)),o 17 (.pick (.t 13) (.t 16) (.c (.bool false))),m 18 17,og 19 18 false (.fieldAddr 0 (.t 1)),og 20 18 false (.load false 1 (.t 19)),og 21 18 false (.bin .neq 0 true (.t 20) (cu 3)),og 22 18 false (.mv (.t 21)),og 23 22 true (.fieldAddr 2 (.t 1)),og 24 22 true (.load false 1 (.t 23)),og 25 22 true (.bin .neq 0 true (.t 24) (cs [])),og 26 18 false (.pick (.t 22) (.t 25) (.c (.bool false))),o 27 (.pick (.t 18) (.c (.bool true)) (.t 26))]
(.cond (.t 27)
(Q [o 2 (.mv (.c (.bool false)))]
(.ret [2]))
.skip))
(.seq (Q [xa 28 0 1,xf 29 28,o 30 (.bin .neq 0 true (.t 29) (cu 5)),m 31 30,og 32 31 true (.fieldAddr 3 (.t 1)),og 33 31 true (.load false 1 (.t 32)),og 34 31 true (.len 1 (.t 33)),og 35 31 true (.bin .gtr 0 true (.t 34) (ci 0)),o 36 (.pick (.t 31) (.t 35) (.c (.bool false))),m 37 36,og 38 37 false (.fieldAddr 0 (.t 1)),og 39 37 false (.load false 1 (.t 38)),og 40 37 false (.bin .neq 0 true (.t 39) (cu 5)),og 41 37 false (.mv (.t 40)),og 42 41 true (.fieldAddr 0 (.t 1)),og 43 41 true (.load false 1 (.t 42)),og 44 41 true (.bin .neq 0 true (.t 43) (cu 4)),og 45 37 false (.pick (.t 41) (.t 44) (.c (.bool false))),og 46 37 false (.mv (.t 45)),og 47 46 true (.fieldAddr 4 (.t 1)),og 48 46 true (.load false 1 (.t 47)),og 49 46 true (.len 1 (.t 48)),og 50 46 true (.bin .gtr 0 true (.t 49) (ci 0)),og 51 37 false (.pick (.t 46) (.t 50) (.c (.bool false))),o 52 (.pick (.t 37) (.c (.bool true)) (.t 51))]
(.cond (.t 52)
(Q [o 2 (.mv (.c (.bool false)))]
(.ret [2]))
.skip))
(.seq (Q [xa 53 0 1,xf 54 53]
(.block 0
(Q [o 56 (.bin .eql 0 true (.t 54) (cu 1)),m 55 56]
(.cond (.t 55)
(Q [xa 57 1 1,xf 58 57,o 59 (.bin .eql 0 true (.t 58) (ci 0)),m 60 59,og 61 60 false (.fieldAddr 1 (.t 1)),og 62 60 false (.load false 1 (.t 61)),og 63 60 false (.bin .eql 0 true (.t 62) (ci 1)),o 64 (.pick (.t 60) (.c (.bool true)) (.t 63)),m 2 64]
(.ret [2]))
(.seq (Q [o 66 (.bin .eql 0 true (.t 54) (cu 2)),m 65 66]
(.cond (.t 65)
.skip
(.ops [o 67 (.bin .eql 0 true (.t 54) (cu 4)),m 65 67])))
(.cond (.t 65)
(Q [o 2 (.mv (.c (.bool true)))]
(.ret [2]))
(Q [o 69 (.bin .eql 0 true (.t 54) (cu 3)),m 68 69]
(.cond (.t 68)
(Q [xa 70 2 1,xf 71 70,o 72 (.callF b5e [.t 71]),m 2 72]
(.ret [2]))
(Q [o 74 (.bin .eql 0 true (.t 54) (cu 5)),m 73 74]
(.cond (.t 73)
(.seq (Q [xa 75 3 1,xf 76 75,o 77 (.len 1 (.t 76)),xa 78 4 1,xf 79 78,o 80 (.len 1 (.t 79)),o 81 (.bin .neq 0 false (.t 77) (.t 80)),m 82 81,og 83 82 false (.fieldAddr 3 (.t 1)),og 84 82 false (.load false 1 (.t 83)),og 85 82 false (.callF b1u [.t 84]),og 86 82 false (.un .not (.t 85)),o 87 (.pick (.t 82) (.c (.bool true)) (.t 86))]
(.cond (.t 87)
(Q [o 2 (.mv (.c (.bool false)))]
(.ret [2]))
.skip))
(.seq (Q [xa 88 3 1,xf 89 88,o 90 (.len 1 (.t 89)),o 91 (.mv (ci 0))]
(.block 1
(.loop [89,90,91] d9h)))
(Q [o 2 (.mv (.c (.bool true)))]
(.ret [2]))))
.skip))))))))))
(Q [o 2 (.mv (.c (.bool false)))]
(.ret [2]))))))⟩
def b5m : KF:=⟨2,11,[(.tmp 4),(.tmp 5)],(Q [o 4 (.mv (cs [])),o 5 (.mv (.c (.bool false)))]
(Q [m 6 0,m 7 1,o 8 (.callF a4n [.t 6,.t 7]),xe 9 8 0,xe 10 8 1,m 4 9,m 5 10]
(.ret [4,5])))⟩
def b6v : KF:=⟨1,21,[(.tmp 2)],(Q [o 2 (.mv (.c (.bool false)))]
(Q [m 3 0,o 4 (.len 0 (.t 3)),o 5 (.bin .geq 0 true (.t 4) (ci 2)),m 6 5,og 7 6 true (.mv (.t 0)),og 8 6 true (.len 0 (.t 7)),og 9 6 true (.bin .leq 0 true (.t 8) (ci 128)),o 10 (.pick (.t 6) (.t 9) (.c (.bool false))),m 11 10,og 12 11 true (.mv (.t 0)),og 13 11 true (.len 0 (.t 12)),og 14 11 true (.bin .rem 0 true (.t 13) (ci 2)),og 15 11 true (.bin .eql 0 true (.t 14) (ci 0)),o 16 (.pick (.t 11) (.t 15) (.c (.bool false))),m 17 16,og 18 17 true (.mv (.t 0)),og 19 17 true (.callF b2a [.t 18]),o 20 (.pick (.t 17) (.t 19) (.c (.bool false))),m 2 20]
(.ret [2])))⟩
def g4t : KC:=
(Q [o 22 (.bin .lss 0 false (.t 21) (.t 20))]
(.seq (.cond (.t 22)
.skip
(.exit [4] 0))
(.seq (.block 1
(Q [o 23 (.idxAddrSl 4 (.t 19) (.t 21)),xl 24 4 23,o 9 (.new [ve,vi 0,vi 0,.nils] none),xs 4 9 24]
(Q [xa 25 0 9,xf 26 25,m 27 6,o 28 (.bin .eql 0 false (.t 26) (.t 27))]
(.cond (.t 28)
(Q [xa 29 3 9,xf 30 29,o 31 (.callF a2b [.t 30]),xa 32 3 9,xs 1 32 31]
(Q [xl 33 4 9,xs 4 4 33,o 5 (.mv (.c (.bool true)))]
(.ret [4,5])))
.skip))))
(.ops [o 34 (.bin .add 0 true (.t 21) (ci 1)),m 21 34]))))
def e8y : KF:=⟨2,36,[(.cell 4 true 4),(.tmp 5)],(Q [o 2 (.box (.t 0)),o 4 (.new [ve,vi 0,vi 0,.nils] none),o 5 (.mv (.c (.bool false)))]
(Q [m 11 1,o 12 (.callF d0i [.t 11]),m 10 12,xe 13 10 0,xe 14 10 1,m 6 13,m 7 14]
(.seq (Q [m 15 7,o 16 (.bin .neq 0 true (.t 15) (ci 0))]
(.cond (.t 16)
(Q [o 17 (.build [ve,vi 0,vi 0,.nils] []),xs 4 4 17,o 5 (.mv (.c (.bool false)))]
(.ret [4,5]))
.skip))
(.seq (Q [xa 18 2 2,xf 19 18,o 20 (.len 1 (.t 19)),o 21 (.mv (ci 0))]
(.block 0
(.loop [4,6,19,20,21] g4t)))
(Q [o 35 (.build [ve,vi 0,vi 0,.nils] []),xs 4 4 35,o 5 (.mv (.c (.bool false)))]
(.ret [4,5]))))))⟩
def c7r : KF:=⟨2,25,[(.tmp 2)],(Q [o 2 (.mv (.c (.bool false)))]
(Q [o 3 (.mv (ci 0))]
(Q [xf 5 0,o 6 (.nilck (.t 5)),xa 7 16 6,xa 8 0 7,xl 9 5 8,o 10 (.callF a4s [.t 9]),m 4 10,xe 11 4 0,xe 12 4 1,xs 9 1 11,m 3 12]
(.seq (.drawn [xf 13 0,⟨(some 14),(.load false 1 (.t 0)),none,[8]⟩,xa 15 0 1,xf 16 15,xa 17 1 1,⟨(some 18),(.load false 1 (.t 17)),none,[8]⟩,o 19 (.nilck (.t 13)),xa 20 22 19,xs 1 20 16,o 21 (.nilck (.t 14)),xa 22 23 21,xs 1 22 18])
(Q [m 23 3,o 24 (.bin .neq 0 true (.t 23) (ci 0)),m 2 24]
(.ret [2]))))))⟩
def g4a : KF:=⟨1,61,[(.cell 2 true 9),(.tmp 3)],(Q [o 1 (.box (.t 0)),o 2 (.new [vi 0,vi 0,.nils,.nils,.nils,vi 0,.nils,vi 0,ve] none),o 3 (.mv (ci 0))]
(.seq (Q [xl 8 5 1,o 9 (.callF a0c [.t 8]),o 10 (.un .not (.t 9))]
(.cond (.t 10)
(Q [o 11 (.build [vi 0,vi 0,.nils,.nils,.nils,vi 0,.nils,vi 0,ve] []),xs 9 2 11,o 3 (.mv (ci 3))]
(.ret [2,3]))
.skip))
(Q [xl 12 5 1,o 13 (.callF a4u [.t 12]),m 4 13]
(Q [o 5 (.new [vi 0,vi 0,.nils,.nils,.nils,vi 0,.nils,vi 0,ve] none)]
(Q [o 6 (.mv (ci 0))]
(.seq (Q [m 14 4,o 15 (.callF a1g [.t 14,cs [95,116,121,112,101]]),o 16 (.bin .neq 0 true (.t 15) (cs [116,97,114,103,101,116,115]))]
(.cond (.t 16)
(.ops [m 17 4,o 18 (.callF a0i [.t 17,ci 13])])
.skip))
(Q [m 19 4,o 20 (.callF a3l [.t 19,cs [118,101,114,115,105,111,110],ci 1,ci 1099511627776]),xa 21 0 5,xs 1 21 20]
(Q [m 23 4,o 24 (.callF a1g [.t 23,cs [101,120,112,105,114,101,115]]),o 25 (.callF c0l [.t 24]),m 22 25,xe 26 22 0,xe 27 22 1,xa 28 1 5,xs 1 28 26,m 6 27]
(Q [m 29 4,m 30 6,o 31 (.callF a0i [.t 29,.t 30])]
(Q [m 33 4,o 34 (.callF a0w [.t 33,cs [116,97,114,103,101,116,115],ci 256]),o 35 (.callF d0r [.t 34]),m 32 35,xe 36 32 0,xe 37 32 1,xa 38 2 5,xs 1 38 36,m 6 37]
(Q [m 39 4,m 40 6,o 41 (.callF a0i [.t 39,.t 40])]
(.seq (Q [m 42 4,o 43 (.callF a4f [.t 42,cs [100,101,108,101,103,97,116,105,111,110,115]])]
(.cond (.t 43)
(Q [m 45 4,o 46 (.callF a0w [.t 45,cs [100,101,108,101,103,97,116,105,111,110,115],ci 8192]),o 47 (.callF c6b [.t 46]),m 44 47,xe 48 44 0,xe 49 44 1,xa 50 3 5,xs 6 50 48,m 6 49]
(.ops [m 51 4,m 52 6,o 53 (.callF a0i [.t 51,.t 52])]))
.skip))
(.seq (Q [m 54 4,o 55 (.callF a1c [.t 54]),m 7 55]
(Q [m 56 7,o 57 (.bin .neq 0 true (.t 56) (ci 0))]
(.cond (.t 57)
(Q [o 58 (.build [vi 0,vi 0,.nils,.nils,.nils,vi 0,.nils,vi 0,ve] []),m 59 7,xs 9 2 58,m 3 59]
(.ret [2,3]))
.skip)))
(Q [xl 60 9 5,xs 9 2 60,o 3 (.mv (ci 0))]
(.ret [2,3])))))))))))))))⟩
def b6l : KF:=⟨1,22,[(.tmp 2)],(Q [o 2 (.mv (.c (.bool false)))]
(.seq (.plain [m 3 0,o 4 (.nilck (.t 3)),xa 5 4 4,xa 6 2 5,xf 7 6,o 8 (.bin .geq 0 true (.t 7) (ci 0)),m 9 8,og 10 9 true (.mv (.t 0)),og 11 9 true (.nilck (.t 10)),og 12 9 true (.fieldAddr 9 (.t 11)),og 13 9 true (.load false 1 (.t 12)),og 14 9 true (.len 0 (.t 13)),og 15 9 true (.mv (.t 0)),og 16 9 true (.nilck (.t 15)),og 17 9 true (.fieldAddr 4 (.t 16)),og 18 9 true (.fieldAddr 2 (.t 17)),og 19 9 true (.load false 1 (.t 18)),og 20 9 true (.bin .lss 0 false (.t 14) (.t 19)),o 21 (.pick (.t 9) (.t 20) (.c (.bool false))),m 2 21])
(.ret [2])))⟩
def b0a : KF:=⟨1,32,[(.tmp 2)],(Q [o 2 (.mv (.c (.bool false)))]
(.seq (Q [m 5 0,o 6 (.nilck (.t 5)),xa 7 4 6,xa 8 3 7,xf 9 8,o 10 (.len 1 (.t 9)),o 11 (.bin .eql 0 true (.t 10) (ci 0))]
(.cond (.t 11)
(Q [o 2 (.mv (.c (.bool false)))]
(.ret [2]))
.skip))
(Q [m 13 0,o 14 (.nilck (.t 13)),xa 15 4 14,xa 16 3 15,xf 17 16,o 18 (.callF d2y [.t 17,cs [115,104,97,50,53,54]]),m 12 18,xe 19 12 0,xe 20 12 1,m 3 19,m 4 20]
(Q [m 21 4,o 22 (.un .not (.t 21)),m 23 22,og 24 23 false (.mv (.t 3)),og 25 23 false (.mv (.t 0)),og 26 23 false (.nilck (.t 25)),og 27 23 false (.fieldAddr 9 (.t 26)),og 28 23 false (.load false 1 (.t 27)),og 29 23 false (.callF b2n [.t 28]),og 30 23 false (.bin .neq 0 false (.t 24) (.t 29)),o 31 (.pick (.t 23) (.c (.bool true)) (.t 30)),m 2 31]
(.ret [2])))))⟩
def a9b : KF:=⟨1,13,[(.tmp 2)],(Q [o 2 (.mv (.c (.bool false)))]
(.seq (.plain [m 3 0,o 4 (.nilck (.t 3)),xa 5 22 4,xf 6 5,m 7 0,o 8 (.nilck (.t 7)),xa 9 4 8,xa 10 1 9,xf 11 10,o 12 (.bin .neq 0 false (.t 6) (.t 11)),m 2 12])
(.ret [2])))⟩
def c4q : KC:=
(Q [o 15 (.bin .lss 0 false (.t 14) (.t 13))]
(.seq (.cond (.t 15)
.skip
(.exit [2,6] 0))
(.seq (.block 1
(Q [o 16 (.idxAddrSl 2 (.t 12) (.t 14)),xl 17 2 16,o 8 (.new [ve,ve] none),xs 2 8 17]
(.seq (Q [xa 18 0 8,xf 19 18,m 20 1,o 21 (.bin .neq 0 false (.t 19) (.t 20))]
(.cond (.t 21)
(.exit [1,2,6,12,13,14] 1)
.skip))
(.seq (Q [xa 22 1 8,xf 23 22,o 24 (.len 0 (.t 23)),m 25 2,o 26 (.bin .gtr 0 false (.t 24) (.t 25))]
(.cond (.t 26)
(Q [m 27 2,o 28 (.build [vi 0,vi 0,ve] [(0,1,(.t 27)),(1,1,(ci (-2)))]),xs 3 6 28]
(.ret [6]))
.skip))
(Q [m 29 2,xa 30 1 8,xf 31 30,o 32 (.len 0 (.t 31)),xa 33 1 8,xf 34 33,o 35 (.build [vi 0,vi 0,ve] [(0,1,(.t 29)),(1,1,(.t 32)),(2,1,(.t 34))]),xs 3 6 35]
(.ret [6]))))))
(.ops [o 36 (.bin .add 0 true (.t 14) (ci 1)),m 14 36]))))
def b5p : KF:=⟨3,39,[(.cell 6 true 3)],(Q [o 6 (.new [vi 0,vi 0,ve] none)]
(.seq (Q [m 9 0,o 10 (.nilck (.t 9)),xa 11 1 10,xf 12 11,o 13 (.len 1 (.t 12)),o 14 (.mv (ci 0))]
(.block 0
(.loop [1,2,6,12,13,14] c4q)))
(Q [m 37 2,o 38 (.build [vi 0,vi 0,ve] [(0,1,(.t 37)),(1,1,(ci (-1)))]),xs 3 6 38]
(.ret [6]))))⟩
def d7x : KF:=⟨0,6,[(.tmp 0)],(Q [o 0 (.mv (.c .nils))]
(Q [o 1 (.build [.nilFunc] [(0,1,(.c (.func (.func c2h) [] [])))]),o 2 (.build [.nilFunc] [(0,1,(.c (.func (.func b5d) [] [])))]),o 3 (.build [.nilFunc] [(0,1,(.c (.func (.func b5s) [] [])))]),o 4 (.build [.nilFunc] [(0,1,(.c (.func (.func c1x) [] [])))]),o 5 (.buildSl [.nilFunc] 4 1 [(0,1,(.t 1)),(1,1,(.t 2)),(2,1,(.t 3)),(3,1,(.t 4))]),m 0 5]
(.ret [0])))⟩
def e1k : KF:=⟨2,8,[(.tmp 4)],(Q [o 4 (.mv (.c (.bool false)))]
(Q [m 5 1,m 6 0,o 7 (.bin .geq 0 false (.t 5) (.t 6)),m 4 7]
(.ret [4])))⟩
def g2n : KC:=
(Q [o 13 (.bin .lss 0 false (.t 12) (.t 11))]
(.seq (.cond (.t 13)
.skip
(.exit [] 0))
(.seq (.block 1
(Q [o 14 (.idxAddrSl 1 (.t 10) (.t 12)),xf 15 14,m 6 15]
(Q [m 16 1,m 17 6,o 18 (.callV (.t 16) [.t 17]),o 19 (.un .not (.t 18))]
(.cond (.t 19)
(Q [o 4 (.mv (.c (.bool false)))]
(.ret [4]))
.skip))))
(.ops [o 20 (.bin .add 0 true (.t 12) (ci 1)),m 12 20]))))
def e4w : KF:=⟨2,21,[(.tmp 4)],(Q [o 4 (.mv (.c (.bool false)))]
(.seq (Q [m 7 0,o 8 (.len 1 (.t 7)),o 9 (.bin .gtr 0 true (.t 8) (ci 32))]
(.cond (.t 9)
(Q [o 4 (.mv (.c (.bool false)))]
(.ret [4]))
.skip))
(.seq (Q [m 10 0,o 11 (.len 1 (.t 10)),o 12 (.mv (ci 0))]
(.block 0
(.loop [1,10,11,12] g2n)))
(Q [o 4 (.mv (.c (.bool true)))]
(.ret [4])))))⟩
def c7u : KF:=⟨1,5,[(.tmp 2)],(Q [o 2 (.mv (.c (.bool false)))]
(Q [m 3 0,o 4 (.callF a7h [.t 3]),m 2 4]
(.ret [2])))⟩
def d8v : KF:=⟨1,17,[(.tmp 2)],(Q [o 2 (.mv (.c (.bool false)))]
(Q [m 3 0,o 4 (.bin .eql 0 true (.t 3) (cu 32)),m 5 4,og 6 5 false (.mv (.t 0)),og 7 5 false (.bin .eql 0 true (.t 6) (cu 9)),o 8 (.pick (.t 5) (.c (.bool true)) (.t 7)),m 9 8,og 10 9 false (.mv (.t 0)),og 11 9 false (.bin .eql 0 true (.t 10) (cu 10)),o 12 (.pick (.t 9) (.c (.bool true)) (.t 11)),m 13 12,og 14 13 false (.mv (.t 0)),og 15 13 false (.bin .eql 0 true (.t 14) (cu 13)),o 16 (.pick (.t 13) (.c (.bool true)) (.t 15)),m 2 16]
(.ret [2])))⟩
def g0d : KF:=⟨2,24,[(.cell 4 true 5),(.tmp 5)],(Q [o 4 (.new [vu 0,vi 0,vi 0,vi 0,ve] none),o 5 (.mv (ci 0))]
(.seq (Q [m 7 1,o 8 (.bin .lss 0 true (.t 7) (ci 0)),m 9 8,og 10 9 false (.mv (.t 1)),og 11 9 false (.mv (.t 0)),og 12 9 false (.len 0 (.t 11)),og 13 9 false (.bin .gtr 0 false (.t 10) (.t 12)),o 14 (.pick (.t 9) (.c (.bool true)) (.t 13))]
(.cond (.t 14)
(Q [o 15 (.build [vu 0,vi 0,vi 0,vi 0,ve] []),xs 5 4 15,o 5 (.mv (ci 1))]
(.ret [4,5]))
.skip))
(Q [o 16 (.callF c9q []),o 6 (.new (rp 256 .nilFunc) none),xs 256 6 16]
(Q [m 17 0,m 18 0,m 19 1,o 20 (.callF e9l [.t 18,.t 19]),o 21 (.callF e5m [.t 6,.t 17,.t 20]),xe 22 21 0,xe 23 21 1,xs 5 4 22,m 5 23]
(.ret [4,5])))))⟩
def c6f : KC:=
(.block 1
(Q [m 27 0,o 28 (.callF a5h [.t 27]),m 26 28,xe 29 26 0,xe 30 26 1,o 6 (.new [vu 0,vi 0,ve,.nils,.nils] none),xs 5 6 29,m 7 30]
(.seq (Q [m 31 7,o 32 (.bin .neq 0 true (.t 31) (ci 0))]
(.cond (.t 32)
(Q [o 33 (.build [vu 0,vi 0,ve,.nils,.nils] []),m 34 7,xs 5 2 33,m 3 34]
(.ret [2,3]))
.skip))
(Q [xa 35 4 4,xf 36 35,xl 37 5 6,o 38 (.buildSl [vu 0,vi 0,ve,.nils,.nils] 1 5 [(0,5,(.t 37))]),o 39 (.app false 5 80 none (.t 36) (.t 38)),xa 40 4 4,xs 1 40 39]
(Q [m 42 0,o 43 (.callF b0n [.t 42,cu 4]),m 41 43,xe 44 41 0,xe 45 41 1,m 8 44,m 7 45]
(.seq (Q [m 46 7,o 47 (.bin .neq 0 true (.t 46) (ci 0))]
(.cond (.t 47)
(Q [o 48 (.build [vu 0,vi 0,ve,.nils,.nils] []),m 49 7,xs 5 2 48,m 3 49]
(.ret [2,3]))
.skip))
(Q [m 50 8,o 51 (.un .not (.t 50))]
(.cond (.t 51)
(Q [xl 52 5 4,xs 5 2 52,o 3 (.mv (ci 0))]
(.ret [2,3]))
.skip))))))))
def b7e : KF:=⟨1,53,[(.cell 2 true 5),(.tmp 3)],(Q [o 2 (.new [vu 0,vi 0,ve,.nils,.nils] none),o 3 (.mv (ci 0))]
(Q [o 9 (.build [vu 0,vi 0,ve,.nils,.nils] [(0,1,(cu 4))]),o 4 (.new [vu 0,vi 0,ve,.nils,.nils] none),xs 5 4 9]
(.seq (Q [m 10 0,o 11 (.nilck (.t 10)),xa 12 0 11,o 13 (.callF a1n [.t 12]),m 5 13]
(Q [m 14 5,o 15 (.bin .neq 0 true (.t 14) (ci 0))]
(.cond (.t 15)
(Q [o 16 (.build [vu 0,vi 0,ve,.nils,.nils] []),m 17 5,xs 5 2 16,m 3 17]
(.ret [2,3]))
.skip)))
(.seq (Q [m 18 0,o 19 (.nilck (.t 18)),xa 20 0 19,xa 21 2 20,xa 22 0 21,xf 23 22,o 24 (.bin .eql 0 true (.t 23) (cu 4))]
(.cond (.t 24)
(Q [xl 25 5 4,xs 5 2 25,o 3 (.mv (ci 0))]
(.ret [2,3]))
.skip))
(.block 0
(.loop [0,2,4] c6f))))))⟩
def c2z : KC:=
(.block 1
(Q [m 28 0,m 29 6,o 30 (.callF b3u [.t 28,.t 29]),m 27 30,xe 31 27 0,xe 32 27 1,o 7 (.new [ve,vu 0,vi 0,ve,.nils,.nils] none),xs 6 7 31,m 8 32]
(.seq (Q [m 33 8,o 34 (.bin .neq 0 true (.t 33) (ci 0))]
(.cond (.t 34)
(Q [o 35 (.build [vu 0,vi 0,ve,.nils,.nils] []),m 36 8,xs 5 2 35,m 3 36]
(.ret [2,3]))
.skip))
(Q [m 37 5,xl 38 6 7,o 39 (.buildSl [ve,vu 0,vi 0,ve,.nils,.nils] 1 6 [(0,6,(.t 38))]),o 40 (.app false 6 96 none (.t 37) (.t 39)),m 5 40]
(Q [m 41 6,xa 42 0 7,xf 43 42,o 44 (.lookup (vi 0) (.t 41) (.t 43) false),o 45 (.bin .add 0 true (.t 44) (ci 1)),u (.mapUpd (.t 41) (.t 43) (.t 45))]
(Q [m 47 0,o 48 (.callF b0n [.t 47,cu 2]),m 46 48,xe 49 46 0,xe 50 46 1,m 9 49,m 8 50]
(.seq (Q [m 51 8,o 52 (.bin .neq 0 true (.t 51) (ci 0))]
(.cond (.t 52)
(Q [o 53 (.build [vu 0,vi 0,ve,.nils,.nils] []),m 54 8,xs 5 2 53,m 3 54]
(.ret [2,3]))
.skip))
(Q [m 55 9,o 56 (.un .not (.t 55))]
(.cond (.t 56)
(Q [m 57 5,o 58 (.callF d1p [.t 57]),xs 5 2 58,o 3 (.mv (ci 0))]
(.ret [2,3]))
.skip)))))))))
def b4e : KF:=⟨1,59,[(.cell 2 true 5),(.tmp 3)],(Q [o 2 (.new [vu 0,vi 0,ve,.nils,.nils] none),o 3 (.mv (ci 0))]
(.seq (Q [m 10 0,o 11 (.nilck (.t 10)),xa 12 0 11,o 13 (.callF a1n [.t 12]),m 4 13]
(Q [m 14 4,o 15 (.bin .neq 0 true (.t 14) (ci 0))]
(.cond (.t 15)
(Q [o 16 (.build [vu 0,vi 0,ve,.nils,.nils] []),m 17 4,xs 5 2 16,m 3 17]
(.ret [2,3]))
.skip)))
(.seq (Q [m 18 0,o 19 (.nilck (.t 18)),xa 20 0 19,xa 21 2 20,xa 22 0 21,xf 23 22,o 24 (.bin .eql 0 true (.t 23) (cu 2))]
(.cond (.t 24)
(Q [o 25 (.build [vu 0,vi 0,ve,.nils,.nils] [(0,1,(cu 5))]),xs 5 2 25,o 3 (.mv (ci 0))]
(.ret [2,3]))
.skip))
(Q [o 5 (.mv (.c .nils))]
(Q [o 26 .mkMap,m 6 26]
(.block 0
(.loop [0,2,5,6] c2z)))))))⟩
def a8s : KF:=⟨3,50,[(.tmp 6)],(Q [o 6 (.mv (.c .nils))]
(Q [o 7 (.mv (.c .nils))]
(.seq (Q [m 12 0,o 13 (.callF a1q [.t 12]),o 14 (.bin .neq 0 true (.t 13) (ci 0))]
(.cond (.t 14)
(Q [m 15 7,m 6 15]
(.ret [6]))
.skip))
(Q [m 17 0,o 18 (.nilck (.t 17)),xa 19 0 18,xl 20 5 19,m 21 1,o 22 (.callF a1e [.t 20,.t 21]),m 16 22,xe 23 16 0,xe 24 16 1,o 8 (.new [vu 0,vi 0,ve,.nils,.nils] none),xs 5 8 23,m 9 24]
(.seq (Q [m 25 9,o 26 (.un .not (.t 25))]
(.cond (.t 26)
(Q [m 27 0,o 28 (.callF a0i [.t 27,ci 6])]
(Q [m 29 7,m 6 29]
(.ret [6])))
.skip))
(Q [m 31 2,xl 32 5 8,o 33 (.callV (.t 31) [.t 32]),m 30 33,xe 34 30 0,xe 35 30 1,m 10 34,m 11 35]
(.seq (Q [m 36 11,o 37 (.bin .neq 0 true (.t 36) (ci 0))]
(.cond (.t 37)
(Q [m 38 0,m 39 11,o 40 (.callF a0i [.t 38,.t 39])]
(Q [m 41 7,m 6 41]
(.ret [6])))
.skip))
(Q [m 42 0,o 43 (.nilck (.t 42)),xa 44 5 43,xf 45 44,m 46 1,o 47 (.lookup (vi 0) (.t 45) (.t 46) false),o 48 (.bin .add 0 true (.t 47) (ci 1)),u (.mapUpd (.t 45) (.t 46) (.t 48))]
(Q [m 49 10,m 6 49]
(.ret [6]))))))))))⟩
def b9p : KF:=⟨2,10,[(.tmp 3),(.tmp 4)],(Q [o 2 (.box (.t 0)),o 3 (.mv (.c .nils)),o 4 (.mv (ci 0))]
(Q [xl 5 5 2,xf 6 1,o 7 (.callF c4o [.t 5,.t 6]),xe 8 7 0,xe 9 7 1,m 3 8,m 4 9]
(.ret [3,4])))⟩
def d6t : KF:=⟨2,16,[(.tmp 4),(.tmp 5)],(Q [o 2 (.box (.t 0)),o 4 (.mv (.c .nils)),o 5 (.mv (ci 0))]
(.seq (Q [xa 6 0 2,xf 7 6,o 8 (.bin .neq 0 true (.t 7) (cu 4))]
(.cond (.t 8)
(Q [o 4 (.mv (.c .nils)),o 5 (.mv (ci 10))]
(.ret [4,5]))
.skip))
(.seq (Q [xa 9 4 2,xf 10 9,o 11 (.len 1 (.t 10)),m 12 1,o 13 (.bin .gtr 0 false (.t 11) (.t 12))]
(.cond (.t 13)
(Q [o 4 (.mv (.c .nils)),o 5 (.mv (ci 5))]
(.ret [4,5]))
.skip))
(Q [xa 14 4 2,xf 15 14,m 4 15,o 5 (.mv (ci 0))]
(.ret [4,5])))))⟩
def e1u : KF:=⟨2,35,[(.cell 4 true 5),(.tmp 5)],(Q [o 2 (.box (.t 0)),o 4 (.new [vu 0,vi 0,ve,.nils,.nils] none),o 5 (.mv (.c (.bool false)))]
(.seq (Q [xa 8 0 2,xf 9 8,o 10 (.bin .neq 0 true (.t 9) (cu 5))]
(.cond (.t 10)
(Q [o 11 (.build [vu 0,vi 0,ve,.nils,.nils] []),xs 5 4 11,o 5 (.mv (.c (.bool false)))]
(.ret [4,5]))
.skip))
(Q [xa 13 3 2,xf 14 13,m 15 1,o 16 (.callF d7q [.t 14,.t 15]),m 12 16,xe 17 12 0,xe 18 12 1,m 6 17,m 7 18]
(.seq (Q [m 19 7,o 20 (.un .not (.t 19)),m 21 20,og 22 21 false (.mv (.t 6)),og 23 21 false (.fieldAddr 4 (.t 2)),og 24 21 false (.load false 1 (.t 23)),og 25 21 false (.len 1 (.t 24)),og 26 21 false (.bin .geq 0 false (.t 22) (.t 25)),o 27 (.pick (.t 21) (.c (.bool true)) (.t 26))]
(.cond (.t 27)
(Q [o 28 (.build [vu 0,vi 0,ve,.nils,.nils] []),xs 5 4 28,o 5 (.mv (.c (.bool false)))]
(.ret [4,5]))
.skip))
(Q [xa 29 4 2,xf 30 29,m 31 6,o 32 (.idxAddrSl 5 (.t 30) (.t 31)),xl 33 5 32,o 34 (.callF a0h [.t 33]),xs 5 4 34,o 5 (.mv (.c (.bool true)))]
(.ret [4,5]))))))⟩
def e1r : KF:=⟨1,27,[(.cell 2 true 2)],(Q [o 2 (.new [vi 0,.nils] none)]
(Q [m 5 0,o 6 (.callF a9f [.t 5,cs [107,101,121,105,100,115],ci 16]),m 3 6]
(.seq (Q [m 7 3,o 8 (.len 1 (.t 7)),o 9 (.bin .eql 0 true (.t 8) (ci 0))]
(.cond (.t 9)
(.ops [m 10 0,o 11 (.callF a0i [.t 10,ci 4])])
.skip))
(Q [m 12 0,m 13 3,o 14 (.callF c5g [.t 13]),o 15 (.callF a0i [.t 12,.t 14])]
(Q [m 16 0,m 17 3,o 18 (.len 1 (.t 17)),o 19 (.callF a3l [.t 16,cs [116,104,114,101,115,104,111,108,100],ci 1,.t 18]),m 4 19]
(.seq (Q [m 20 0,o 21 (.callF a1q [.t 20]),o 22 (.bin .neq 0 true (.t 21) (ci 0))]
(.cond (.t 22)
(Q [o 23 (.build [vi 0,.nils] []),xs 2 2 23]
(.ret [2]))
.skip))
(Q [m 24 4,m 25 3,o 26 (.build [vi 0,.nils] [(0,1,(.t 24)),(1,1,(.t 25))]),xs 2 2 26]
(.ret [2]))))))))⟩
def b2y : KF:=⟨4,47,[(.tmp 8)],(Q [o 5 (.box (.t 1)),o 6 (.box (.t 2)),o 8 (.mv (.c (.bool false)))]
(.seq (Q [m 11 0,o 12 (.bin .eql 3 true (.t 11) (.c .nilp)),m 13 12,og 14 13 false (.mv (.t 0)),og 15 13 false (.nilck (.t 14)),og 16 13 false (.fieldAddr 0 (.t 15)),og 17 13 false (.load false 1 (.t 16)),og 18 13 false (.bin .eql 5 true (.t 17) (.c .nilIface)),o 19 (.pick (.t 13) (.c (.bool true)) (.t 18)),m 20 19,og 21 20 false (.fieldAddr 1 (.t 6)),og 22 20 false (.load false 1 (.t 21)),og 23 20 false (.callF c8j [.t 22]),og 24 20 false (.un .not (.t 23)),o 25 (.pick (.t 20) (.c (.bool true)) (.t 24))]
(.cond (.t 25)
(Q [o 8 (.mv (.c (.bool false)))]
(.ret [8]))
.skip))
(Q [xl 27 2 5,o 28 (.callF b0o [.t 27]),m 26 28,xe 29 26 0,xe 30 26 1,m 9 29,m 10 30]
(.seq (Q [m 31 10,o 32 (.bin .neq 0 true (.t 31) (ci 0)),m 33 32,og 34 33 false (.fieldAddr 0 (.t 6)),og 35 33 false (.load false 1 (.t 34)),og 36 33 false (.mv (.t 9)),og 37 33 false (.bin .neq 0 false (.t 35) (.t 36)),o 38 (.pick (.t 33) (.c (.bool true)) (.t 37))]
(.cond (.t 38)
(Q [o 8 (.mv (.c (.bool false)))]
(.ret [8]))
.skip))
(.seq (.plain [m 39 0,o 40 (.nilck (.t 39)),xa 41 0 40,xf 42 41,xl 43 2 5,xl 44 2 6,m 45 3,o 46 (.invoke (.t 42) "legate/judge.good" [.t 43,.t 44,.t 45]),m 8 46])
(.ret [8]))))))⟩
def a6u : KF:=⟨2,54,[(.tmp 4)],(Q [o 4 (.mv (cs []))]
(.seq (Q [m 10 1,o 11 (.bin .eql 0 true (.t 10) (ci 10))]
(.cond (.t 11)
(.seq (Q [m 12 0,o 13 (.bin .leq 0 true (ci 0) (.t 12)),m 14 13,og 15 14 true (.mv (.t 0)),og 16 14 true (.bin .lss 0 true (.t 15) (ci 100)),o 17 (.pick (.t 14) (.t 16) (.c (.bool false)))]
(.cond (.t 17)
(Q [m 18 0,o 19 (.callF b0c [.t 18]),m 4 19]
(.ret [4]))
.skip))
(Q [o 5 (.new (rp 24 (vu 0)) none)]
(Q [m 20 0,o 21 (.i2i .u64 (.t 20)),m 6 21]
(.seq (Q [m 22 0,o 23 (.bin .lss 0 true (.t 22) (ci 0))]
(.cond (.t 23)
(.ops [m 24 6,o 25 (.un .neg (.t 24)),m 6 25])
.skip))
(Q [m 26 6,o 27 (.callF a6p [.t 26]),m 7 27]
(Q [m 28 7,o 29 (.bin .add 0 true (ci 1) (.t 28)),o 30 (.sliceArr 24 1 (.t 5) (some (ci 1)) (some (.t 29)) none),m 31 6,o 32 (.callF a4r [.t 30,.t 31])]
(.seq (Q [m 33 0,o 34 (.bin .lss 0 true (.t 33) (ci 0))]
(.cond (.t 34)
(Q [o 35 (.idxAddrArr 24 1 (.t 5) (ci 0)),u (.store 1 (.t 35) (cu 45))]
(Q [m 36 7,o 37 (.bin .add 0 true (ci 1) (.t 36)),o 38 (.sliceArr 24 1 (.t 5) none (some (.t 37)) none),o 39 (.b2s (.t 38)),m 4 39]
(.ret [4])))
.skip))
(Q [m 40 7,o 41 (.bin .add 0 true (ci 1) (.t 40)),o 42 (.sliceArr 24 1 (.t 5) (some (ci 1)) (some (.t 41)) none),o 43 (.b2s (.t 42)),m 4 43]
(.ret [4])))))))))
.skip))
(Q [m 45 0,o 46 (.i2i .u64 (.t 45)),m 47 1,m 48 0,o 49 (.bin .lss 0 true (.t 48) (ci 0)),o 50 (.callF b3l [(.c .nils),.t 46,.t 47,.t 49,(.c (.bool false))]),m 44 50,xe 51 44 0,xe 52 44 1,m 8 51,m 9 52]
(Q [m 53 9,m 4 53]
(.ret [4])))))⟩
def d1g : KF:=⟨1,6,[(.cell 2 true 5)],(Q [o 2 (.new [vu 0,vi 0,ve,.nils,.nils] none)]
(.seq (Q [m 3 0]
(.cond (.t 3)
(Q [o 4 (.build [vu 0,vi 0,ve,.nils,.nils] [(0,1,(cu 1)),(1,1,(ci 1))]),xs 5 2 4]
(.ret [2]))
.skip))
(Q [o 5 (.build [vu 0,vi 0,ve,.nils,.nils] [(0,1,(cu 1))]),xs 5 2 5]
(.ret [2]))))⟩
def c4c : KF:=⟨1,10,[(.tmp 2)],(Q [o 2 (.mv (.c (.bool false)))]
(Q [m 3 0,o 4 (.len 0 (.t 3)),o 5 (.bin .leq 0 true (.t 4) (ci 4096)),m 6 5,og 7 6 true (.mv (.t 0)),og 8 6 true (.callF e3j [.t 7]),o 9 (.pick (.t 6) (.t 8) (.c (.bool false))),m 2 9]
(.ret [2])))⟩
def c8t : KC:=
(.seq (Q [m 4 3,m 5 0,o 6 (.len 1 (.t 5)),o 7 (.bin .lss 0 false (.t 4) (.t 6))]
(.cond (.t 7)
.skip
(.exit [] 0)))
(.seq (.block 1
(.seq (.plain [m 10 0,m 11 3,o 12 (.bin .sub 0 true (.t 11) (ci 1)),o 13 (.idxAddrSl 1 (.t 10) (.t 12)),xf 14 13,m 15 0,m 16 3,o 17 (.idxAddrSl 1 (.t 15) (.t 16)),xf 18 17,o 19 (.bin .geq 0 false (.t 14) (.t 18))])
(.cond (.t 19)
(Q [o 2 (.mv (.c (.bool false)))]
(.ret [2]))
.skip)))
(.ops [m 8 3,o 9 (.bin .add 0 true (.t 8) (ci 1)),m 3 9])))
def b9h : KF:=⟨1,20,[(.tmp 2)],(Q [o 2 (.mv (.c (.bool false)))]
(.seq (Q [o 3 (.mv (ci 1))]
(.block 0
(.loop [0,3] c8t)))
(Q [o 2 (.mv (.c (.bool true)))]
(.ret [2]))))⟩
def a4m : KF:=⟨2,18,[(.tmp 4),(.tmp 5)],(Q [o 4 (.mv (cs [])),o 5 (.mv (.c (.bool false)))]
(.seq (Q [m 6 0,m 7 1,o 8 (.callF a4o [.t 6,.t 7]),o 9 (.un .not (.t 8))]
(.cond (.t 9)
(Q [m 10 0,m 4 10,o 5 (.mv (.c (.bool false)))]
(.ret [4,5]))
.skip))
(Q [m 11 0,m 12 0,o 13 (.len 0 (.t 12)),m 14 1,o 15 (.len 0 (.t 14)),o 16 (.bin .sub 0 false (.t 13) (.t 15)),o 17 (.sliceStr (.t 11) none (some (.t 16))),m 4 17,o 5 (.mv (.c (.bool true)))]
(.ret [4,5]))))⟩
def e5l : KC:=
(Q [o 13 (.bin .lss 0 false (.t 12) (.t 11))]
(.seq (.cond (.t 13)
.skip
(.exit [4] 0))
(.seq (.block 1
(Q [m 14 12,o 15 (.idxAddrSl 1 (.t 10) (.t 12)),xf 16 15,m 5 14,m 6 16]
(.seq (Q [m 17 6,o 18 (.callF a7h [.t 17]),o 19 (.un .not (.t 18))]
(.cond (.t 19)
(Q [o 2 (.mv (.c .nils)),o 3 (.mv (ci 3))]
(.ret [2,3]))
.skip))
(Q [xa 21 4 1,xf 22 21,m 23 5,o 24 (.idxAddrSl 5 (.t 22) (.t 23)),xl 25 5 24,o 26 (.callF c8r [.t 25]),m 20 26,xe 27 20 0,xe 28 20 1,o 7 (.new [vi 0,.nils,vu 0,vi 0,ve,.nils,.nils] none),xs 7 7 27,m 8 28]
(.seq (Q [m 29 8,o 30 (.bin .neq 0 true (.t 29) (ci 0))]
(.cond (.t 30)
(Q [m 31 8,o 2 (.mv (.c .nils)),m 3 31]
(.ret [2,3]))
.skip))
(.ops [m 32 4,m 33 6,xl 34 7 7,o 35 (.build [ve,vi 0,.nils,vu 0,vi 0,ve,.nils,.nils] [(0,1,(.t 33)),(1,7,(.t 34))]),o 36 (.buildSl [ve,vi 0,.nils,vu 0,vi 0,ve,.nils,.nils] 1 8 [(0,8,(.t 35))]),o 37 (.app false 8 128 none (.t 32) (.t 36)),m 4 37]))))))
(.ops [o 38 (.bin .add 0 true (.t 12) (ci 1)),m 12 38]))))
def d1d : KF:=⟨1,40,[(.tmp 2),(.tmp 3)],(Q [o 1 (.box (.t 0)),o 2 (.mv (.c .nils)),o 3 (.mv (ci 0))]
(Q [o 4 (.mv (.c .nils))]
(.seq (Q [xa 9 3 1,xf 10 9,o 11 (.len 1 (.t 10)),o 12 (.mv (ci 0))]
(.block 0
(.loop [1,4,10,11,12] e5l)))
(Q [m 39 4,m 2 39,o 3 (.mv (ci 0))]
(.ret [2,3])))))⟩
def c7x : KF:=⟨2,20,[(.tmp 4)],(Q [o 4 (.mv (.c (.bool false)))]
(.seq (Q [m 7 0,o 8 (.callF a1q [.t 7]),o 9 (.bin .neq 0 true (.t 8) (ci 0))]
(.cond (.t 9)
(Q [o 4 (.mv (.c (.bool false)))]
(.ret [4]))
.skip))
(Q [m 11 0,o 12 (.nilck (.t 11)),xa 13 0 12,xl 14 5 13,m 15 1,o 16 (.callF a1e [.t 14,.t 15]),m 10 16,xe 17 10 0,xe 18 10 1,o 5 (.new [vu 0,vi 0,ve,.nils,.nils] none),xs 5 5 17,m 6 18]
(Q [m 19 6,m 4 19]
(.ret [4])))))⟩
def e9d : KF:=⟨1,50,[(.cell 2 true 6),(.tmp 3)],(Q [o 1 (.box (.t 0)),o 2 (.new [.nils,.nils,vi 0,.nils,vi 0,ve] none),o 3 (.mv (ci 0))]
(.seq (Q [xl 8 5 1,o 9 (.callF a0c [.t 8]),o 10 (.un .not (.t 9))]
(.cond (.t 10)
(Q [o 11 (.build [.nils,.nils,vi 0,.nils,vi 0,ve] []),xs 6 2 11,o 3 (.mv (ci 3))]
(.ret [2,3]))
.skip))
(Q [xl 12 5 1,o 13 (.callF a4u [.t 12]),m 4 13]
(Q [o 5 (.new [.nils,.nils,vi 0,.nils,vi 0,ve] none)]
(Q [o 6 (.mv (ci 0))]
(Q [m 15 4,o 16 (.callF a0w [.t 15,cs [107,101,121,115],ci 32]),o 17 (.callF c5r [.t 16]),m 14 17,xe 18 14 0,xe 19 14 1,xa 20 0 5,xs 1 20 18,m 6 19]
(Q [m 21 4,m 22 6,o 23 (.callF a0i [.t 21,.t 22])]
(.seq (Q [m 24 4,o 25 (.callF a4f [.t 24,cs [115,117,99,99,105,110,99,116,95,114,111,108,101,115]])]
(.cond (.t 25)
(.ops [m 27 4,o 28 (.callF a0w [.t 27,cs [115,117,99,99,105,110,99,116,95,114,111,108,101,115],ci 8192]),o 29 (.callF e7f [.t 28]),m 26 29,xe 30 26 0,xe 31 26 1,xa 32 2 5,xs 4 32 30,m 6 31])
(.ops [m 34 4,o 35 (.callF b5t [.t 34,cs [114,111,108,101,115],ci 64]),o 36 (.callF c5d [.t 35]),m 33 36,xe 37 33 0,xe 38 33 1,xa 39 1 5,xs 1 39 37,m 6 38])))
(Q [m 40 4,m 41 6,o 42 (.callF a0i [.t 40,.t 41])]
(.seq (Q [m 43 4,o 44 (.callF a1c [.t 43]),m 7 44]
(Q [m 45 7,o 46 (.bin .neq 0 true (.t 45) (ci 0))]
(.cond (.t 46)
(Q [o 47 (.build [.nils,.nils,vi 0,.nils,vi 0,ve] []),m 48 7,xs 6 2 47,m 3 48]
(.ret [2,3]))
.skip)))
(Q [xl 49 6 5,xs 6 2 49,o 3 (.mv (ci 0))]
(.ret [2,3]))))))))))))⟩
def e4d : KC:=
(Q [o 11 (.bin .lss 0 false (.t 10) (.t 9))]
(.seq (.cond (.t 11)
.skip
(.exit [] 0))
(.seq (.block 1
(Q [o 12 (.idxAddrSl 2 (.t 8) (.t 10)),xl 13 2 12,o 7 (.new [ve,ve] none),xs 2 7 13]
(Q [xa 14 0 7,xf 15 14,m 16 1,o 17 (.bin .eql 0 false (.t 15) (.t 16))]
(.cond (.t 17)
(Q [xa 18 1 7,xf 19 18,m 4 19,o 5 (.mv (.c (.bool true)))]
(.ret [4,5]))
.skip))))
(.ops [o 20 (.bin .add 0 true (.t 10) (ci 1)),m 10 20]))))
def d3k : KF:=⟨2,21,[(.tmp 4),(.tmp 5)],(Q [o 4 (.mv (cs [])),o 5 (.mv (.c (.bool false)))]
(.seq (Q [m 8 0,o 9 (.len 1 (.t 8)),o 10 (.mv (ci 0))]
(.block 0
(.loop [1,8,9,10] e4d)))
(Q [o 4 (.mv (cs [])),o 5 (.mv (.c (.bool false)))]
(.ret [4,5]))))⟩
def c1l : KF:=⟨2,9,[],(Q [m 4 0,o 5 (.callF a1g [.t 4,cs [95,116,121,112,101]]),o 6 (.bin .neq 0 true (.t 5) (cs [115,110,97,112,115,104,111,116]))]
(.cond (.t 6)
(.ops [m 7 0,o 8 (.callF a0i [.t 7,ci 13])])
.skip))⟩
def b4v : KF:=⟨2,9,[],(.ops [m 4 1,m 5 0,o 6 (.callF a3l [.t 5,cs [118,101,114,115,105,111,110],ci 1,ci 1099511627776]),o 7 (.nilck (.t 4)),xa 8 0 7,xs 1 8 6])⟩
def b5y : KF:=⟨2,19,[],(Q [m 7 0,o 8 (.callF a1g [.t 7,cs [101,120,112,105,114,101,115]]),o 9 (.callF c0l [.t 8]),m 6 9,xe 10 6 0,xe 11 6 1,m 4 10,m 5 11]
(Q [m 12 0,m 13 5,o 14 (.callF a0i [.t 12,.t 13])]
(.ops [m 15 1,m 16 4,o 17 (.nilck (.t 15)),xa 18 1 17,xs 1 18 16])))⟩
def d1a : KC:=
(Q [o 15 (.bin .lss 0 false (.t 14) (.t 13))]
(.seq (.cond (.t 15)
.skip
(.exit [] 0))
(.seq (.block 1
(Q [m 16 14,o 17 (.idxAddrSl 1 (.t 12) (.t 14)),xf 18 17,m 5 16,m 6 18]
(Q [m 20 6,xa 21 4 4,xf 22 21,m 23 5,o 24 (.idxAddrSl 5 (.t 22) (.t 23)),xl 25 5 24,o 26 (.callF a1b [.t 20,.t 25]),m 19 26,xe 27 19 0,xe 28 19 1,o 7 (.new [ve,vi 0,vi 0,.nils] none),xs 4 7 27,m 8 28]
(.seq (Q [m 29 8,o 30 (.bin .neq 0 true (.t 29) (ci 0))]
(.cond (.t 30)
(Q [m 31 0,m 32 8,o 33 (.callF a0i [.t 31,.t 32])]
(.ret []))
.skip))
(.plain [m 34 1,m 35 1,o 36 (.nilck (.t 35)),xa 37 2 36,xf 38 37,xl 39 4 7,o 40 (.buildSl [ve,vi 0,vi 0,.nils] 1 4 [(0,4,(.t 39))]),o 41 (.app false 4 56 none (.t 38) (.t 40)),o 42 (.nilck (.t 34)),xa 43 2 42,xs 1 43 41])))))
(.ops [o 44 (.bin .add 0 true (.t 14) (ci 1)),m 14 44]))))
def c2e : KF:=⟨2,45,[],(Q [m 9 0,o 10 (.callF a0w [.t 9,cs [109,101,116,97],ci 256]),o 4 (.new [vu 0,vi 0,ve,.nils,.nils] none),xs 5 4 10]
(Q [xa 11 3 4,xf 12 11,o 13 (.len 1 (.t 12)),o 14 (.mv (ci 0))]
(.block 0
(.loop [0,1,4,12,13,14] d1a))))⟩
def g2x : KC:=
(.seq (Q [m 15 2,o 16 (.bin .leq 0 true (.t 15) (.c (.int .i32 57)))]
(.cond (.t 16)
.skip
(.exit [0,1] 0)))
(.seq (.block 1
(.ops [m 19 2,o 20 (.idxAddrArr 256 1 (.t 1) (.t 19)),xa 21 0 20,u (.store 1 (.t 21) (.c (.func (.func a9u) [] [])))]))
(.ops [m 17 2,o 18 (.bin .add 0 true (.t 17) (.c (.int .i32 1))),m 2 18])))
def g1z : KC:=
(.seq (Q [m 22 3,o 23 (.bin .leq 0 true (.t 22) (.c (.int .i32 122)))]
(.cond (.t 23)
.skip
(.exit [0,1] 2)))
(.seq (.block 3
(.ops [m 26 3,o 27 (.idxAddrArr 256 1 (.t 1) (.t 26)),xa 28 0 27,u (.store 1 (.t 28) (.c (.func (.func d5x) [] [])))]))
(.ops [m 24 3,o 25 (.bin .add 0 true (.t 24) (.c (.int .i32 1))),m 3 25])))
def e3f : KF:=⟨0,30,[(.cell 0 true 256)],(Q [o 0 (.new (rp 256 .nilFunc) none)]
(Q [o 4 (.build [.nilFunc] [(0,1,(.c (.func (.func d4m) [] [])))]),o 5 (.build [.nilFunc] [(0,1,(.c (.func (.func d4n) [] [])))]),o 6 (.build [.nilFunc] [(0,1,(.c (.func (.func c9n) [] [])))]),o 7 (.build [.nilFunc] [(0,1,(.c (.func (.func d5w) [] [])))]),o 8 (.build [.nilFunc] [(0,1,(.c (.func (.func d0h) [] [])))]),o 9 (.build [.nilFunc] [(0,1,(.c (.func (.func d0d) [] [])))]),o 10 (.build [.nilFunc] [(0,1,(.c (.func (.func a9u) [] [])))]),o 11 (.build [.nilFunc] [(0,1,(.c (.func (.func a9u) [] [])))]),o 12 (.build [.nilFunc] [(0,1,(.c (.func (.func a9u) [] [])))]),o 13 (.build [.nilFunc] [(0,1,(.c (.func (.func d4u) [] [])))]),o 14 (.build (rp 256 .nilFunc) [(123,1,(.t 4)),(125,1,(.t 5)),(91,1,(.t 6)),(93,1,(.t 7)),(44,1,(.t 8)),(58,1,(.t 9)),(45,1,(.t 10)),(43,1,(.t 11)),(46,1,(.t 12)),(34,1,(.t 13))]),o 1 (.new (rp 256 .nilFunc) none),xs 256 1 14]
(.seq (Q [o 2 (.mv (.c (.int .i32 48)))]
(.block 0
(.loop [0,1,2] g2x)))
(.seq (Q [o 3 (.mv (.c (.int .i32 97)))]
(.block 2
(.loop [0,1,3] g1z)))
(Q [xl 29 256 1,xs 256 0 29]
(.ret [0]))))))⟩
def e4k : KF:=⟨3,33,[(.cell 6 true 5),(.tmp 7)],(Q [o 6 (.new [vu 0,vi 0,vi 0,vi 0,ve] none),o 7 (.mv (ci 0))]
(.seq (Q [m 9 2,m 10 1,o 11 (.len 0 (.t 10)),o 12 (.bin .eql 0 false (.t 9) (.t 11))]
(.cond (.t 12)
(Q [m 13 2,m 14 2,o 15 (.build [vu 0,vi 0,vi 0,vi 0,ve] [(0,1,(cu 11)),(1,1,(.t 13)),(2,1,(.t 14))]),xs 5 6 15,o 7 (.mv (ci 0))]
(.ret [6,7]))
.skip))
(.seq (.plain [m 16 0,m 17 1,m 18 2,o 19 (.idxStr (.t 17) (.t 18)),o 20 (.nilck (.t 16)),o 21 (.idxAddrArr 256 1 (.t 20) (.t 19)),xa 22 0 21,xf 23 22,m 8 23])
(.seq (Q [m 24 8,o 25 (.bin .eql 4 true (.t 24) (.c .nilFunc))]
(.cond (.t 25)
(Q [o 26 (.build [vu 0,vi 0,vi 0,vi 0,ve] []),xs 5 6 26,o 7 (.mv (ci 3))]
(.ret [6,7]))
.skip))
(Q [m 27 8,m 28 1,m 29 2,o 30 (.callV (.t 27) [.t 28,.t 29]),xe 31 30 0,xe 32 30 1,xs 5 6 31,m 7 32]
(.ret [6,7]))))))⟩
def g4w : KC:=
(.seq (Q [m 5 1,m 6 0,o 7 (.len 0 (.t 6)),o 8 (.bin .lss 0 false (.t 5) (.t 7)),m 9 8,og 10 9 true (.mv (.t 0)),og 11 9 true (.mv (.t 1)),og 12 9 true (.idxStr (.t 10) (.t 11)),og 13 9 true (.bin .eql 0 true (.t 12) (cu 32)),og 14 9 true (.mv (.t 13)),og 15 14 false (.mv (.t 0)),og 16 14 false (.mv (.t 1)),og 17 14 false (.idxStr (.t 15) (.t 16)),og 18 14 false (.bin .eql 0 true (.t 17) (cu 9)),og 19 9 true (.pick (.t 14) (.c (.bool true)) (.t 18)),og 20 9 true (.mv (.t 19)),og 21 20 false (.mv (.t 0)),og 22 20 false (.mv (.t 1)),og 23 20 false (.idxStr (.t 21) (.t 22)),og 24 20 false (.bin .eql 0 true (.t 23) (cu 10)),og 25 9 true (.pick (.t 20) (.c (.bool true)) (.t 24)),og 26 9 true (.mv (.t 25)),og 27 26 false (.mv (.t 0)),og 28 26 false (.mv (.t 1)),og 29 26 false (.idxStr (.t 27) (.t 28)),og 30 26 false (.bin .eql 0 true (.t 29) (cu 13)),og 31 9 true (.pick (.t 26) (.c (.bool true)) (.t 30)),o 32 (.pick (.t 9) (.t 31) (.c (.bool false)))]
(.cond (.t 32)
.skip
(.exit [1] 0)))
(.block 1
(.ops [m 33 1,o 34 (.bin .add 0 true (.t 33) (ci 1)),m 1 34])))
def e8a : KF:=⟨2,36,[(.tmp 4)],(Q [o 4 (.mv (ci 0))]
(.seq (.block 0
(.loop [0,1] g4w))
(Q [m 35 1,m 4 35]
(.ret [4]))))⟩
def b7q : KF:=⟨2,35,[(.tmp 4),(.tmp 5)],(Q [o 4 (.mv (.c (.bool false))),o 5 (.mv (ci 0))]
(.seq (Q [m 8 0,o 9 (.nilck (.t 8)),xa 10 0 9,o 11 (.callF a1n [.t 10]),m 6 11]
(Q [m 12 6,o 13 (.bin .neq 0 true (.t 12) (ci 0))]
(.cond (.t 13)
(Q [m 14 6,o 4 (.mv (.c (.bool false))),m 5 14]
(.ret [4,5]))
.skip)))
(.seq (Q [m 15 0,o 16 (.nilck (.t 15)),xa 17 0 16,xa 18 2 17,xa 19 0 18,xf 20 19]
(.block 0
(Q [m 22 1,o 23 (.bin .eql 0 false (.t 20) (.t 22)),m 21 23]
(.cond (.t 21)
(Q [o 4 (.mv (.c (.bool false))),o 5 (.mv (ci 0))]
(.ret [4,5]))
(Q [o 25 (.bin .eql 0 true (.t 20) (cu 5)),m 24 25]
(.cond (.t 24)
(.seq (Q [m 26 0,o 27 (.nilck (.t 26)),xa 28 0 27,o 29 (.callF a1n [.t 28]),m 7 29]
(Q [m 30 7,o 31 (.bin .neq 0 true (.t 30) (ci 0))]
(.cond (.t 31)
(Q [m 32 7,o 4 (.mv (.c (.bool false))),m 5 32]
(.ret [4,5]))
.skip)))
(Q [o 4 (.mv (.c (.bool true))),o 5 (.mv (ci 0))]
(.ret [4,5])))
.skip))))))
(Q [m 33 0,o 34 (.callF a5k [.t 33]),o 4 (.mv (.c (.bool false))),m 5 34]
(.ret [4,5])))))⟩
def b3o : KF:=⟨2,58,[(.cell 4 true 6),(.tmp 5)],(Q [o 4 (.new [ve,vu 0,vi 0,ve,.nils,.nils] none),o 5 (.mv (ci 0))]
(.seq (Q [m 11 0,o 12 (.nilck (.t 11)),xa 13 0 12,xa 14 2 13,xa 15 0 14,xf 16 15,o 17 (.bin .neq 0 true (.t 16) (cu 10))]
(.cond (.t 17)
(Q [o 18 (.build [ve,vu 0,vi 0,ve,.nils,.nils] []),m 19 0,o 20 (.callF a5k [.t 19]),xs 6 4 18,m 5 20]
(.ret [4,5]))
.skip))
(Q [m 21 0,o 22 (.nilck (.t 21)),xa 23 0 22,xa 24 2 23,xa 25 4 24,xf 26 25,m 6 26]
(.seq (Q [m 27 1,m 28 6,o 29 (.lookup (vi 0) (.t 27) (.t 28) false),o 30 (.bin .gtr 0 true (.t 29) (ci 0))]
(.cond (.t 30)
(Q [o 31 (.build [ve,vu 0,vi 0,ve,.nils,.nils] []),xs 6 4 31,o 5 (.mv (ci 7))]
(.ret [4,5]))
.skip))
(.seq (Q [m 32 0,o 33 (.callF b3z [.t 32,cu 6]),m 7 33]
(Q [m 34 7,o 35 (.bin .neq 0 true (.t 34) (ci 0))]
(.cond (.t 35)
(Q [o 36 (.build [ve,vu 0,vi 0,ve,.nils,.nils] []),m 37 7,xs 6 4 36,m 5 37]
(.ret [4,5]))
.skip)))
(.seq (Q [m 38 0,o 39 (.nilck (.t 38)),xa 40 0 39,o 41 (.callF a1n [.t 40]),m 8 41]
(Q [m 42 8,o 43 (.bin .neq 0 true (.t 42) (ci 0))]
(.cond (.t 43)
(Q [o 44 (.build [ve,vu 0,vi 0,ve,.nils,.nils] []),m 45 8,xs 6 4 44,m 5 45]
(.ret [4,5]))
.skip)))
(Q [m 47 0,o 48 (.callF a5h [.t 47]),m 46 48,xe 49 46 0,xe 50 46 1,o 9 (.new [vu 0,vi 0,ve,.nils,.nils] none),xs 5 9 49,m 10 50]
(.seq (Q [m 51 10,o 52 (.bin .neq 0 true (.t 51) (ci 0))]
(.cond (.t 52)
(Q [o 53 (.build [ve,vu 0,vi 0,ve,.nils,.nils] []),m 54 10,xs 6 4 53,m 5 54]
(.ret [4,5]))
.skip))
(Q [m 55 6,xl 56 5 9,o 57 (.build [ve,vu 0,vi 0,ve,.nils,.nils] [(0,1,(.t 55)),(1,5,(.t 56))]),xs 6 4 57,o 5 (.mv (ci 0))]
(.ret [4,5]))))))))))⟩
def e4n : KC:=
(Q [o 12 (.bin .lss 0 false (.t 11) (.t 10))]
(.seq (.cond (.t 12)
.skip
(.exit [2,3] 0))
(.seq (.block 1
(Q [o 13 (.idxAddrSl 6 (.t 9) (.t 11)),xl 14 6 13,o 5 (.new [ve,vu 0,vi 0,ve,.nils,.nils] none),xs 6 5 14]
(Q [xa 15 3 3,xf 16 15,xa 17 0 5,xf 18 17,o 19 (.buildSl [ve] 1 1 [(0,1,(.t 18))]),o 20 (.app false 1 16 none (.t 16) (.t 19)),xa 21 3 3,xs 1 21 20]
(.ops [xa 22 4 3,xf 23 22,xa 24 1 5,xl 25 5 24,o 26 (.buildSl [vu 0,vi 0,ve,.nils,.nils] 1 5 [(0,5,(.t 25))]),o 27 (.app false 5 80 none (.t 23) (.t 26)),xa 28 4 3,xs 1 28 27]))))
(.ops [o 29 (.bin .add 0 true (.t 11) (ci 1)),m 11 29]))))
def d1n : KF:=⟨1,31,[(.cell 2 true 5)],(Q [o 2 (.new [vu 0,vi 0,ve,.nils,.nils] none)]
(Q [m 6 0,o 7 (.callF a2g [.t 6,(.c (.func (.func c3s) [] []))])]
(Q [o 8 (.build [vu 0,vi 0,ve,.nils,.nils] [(0,1,(cu 5))]),o 3 (.new [vu 0,vi 0,ve,.nils,.nils] none),xs 5 3 8]
(.seq (Q [m 9 0,o 10 (.len 1 (.t 9)),o 11 (.mv (ci 0))]
(.block 0
(.loop [2,3,9,10,11] e4n)))
(Q [xl 30 5 3,xs 5 2 30]
(.ret [2]))))))⟩
def d6z : KF:=⟨2,34,[(.tmp 4),(.tmp 5)],(Q [o 2 (.box (.t 0)),o 3 (.box (.t 1)),o 4 (.mv (ci 0)),o 5 (.mv (.c (.bool false)))]
(.seq (Q [xf 8 2,o 9 (.callF b1u [.t 8]),o 10 (.un .not (.t 9))]
(.cond (.t 10)
(Q [xf 11 2,xf 12 3,o 13 (.callF b4m [.t 11,.t 12]),m 6 13]
(Q [m 14 6,m 15 6,o 16 (.bin .geq 0 true (.t 15) (ci 0)),m 4 14,m 5 16]
(.ret [4,5])))
.skip))
(Q [xf 17 2,o 18 (.len 1 (.t 17)),o 19 (.mkFunc (.func c8b) [] [.t 2,.t 3]),o 20 (.callF d4c [.t 18,.t 19]),m 7 20]
(.seq (.plain [m 21 7,m 22 7,xf 23 2,o 24 (.len 1 (.t 23)),o 25 (.bin .lss 0 false (.t 22) (.t 24)),m 26 25,og 27 26 true (.load false 1 (.t 2)),og 28 26 true (.mv (.t 7)),og 29 26 true (.idxAddrSl 1 (.t 27) (.t 28)),og 30 26 true (.load false 1 (.t 29)),og 31 26 true (.load false 1 (.t 3)),og 32 26 true (.bin .eql 0 false (.t 30) (.t 31)),o 33 (.pick (.t 26) (.t 32) (.c (.bool false))),m 4 21,m 5 33])
(.ret [4,5])))))⟩
def c2l : KF:=⟨3,11,[(.tmp 6)],(Q [o 5 (.box (.t 2)),o 6 (.mv (.c .nils))]
(Q [m 7 0,m 8 1,o 9 (.mkFunc (.func b6w) [] [.t 5]),o 10 (.callF b1g [.t 7,.t 8,.t 9]),m 6 10]
(.ret [6])))⟩
def c7l : KF:=⟨1,21,[(.tmp 2)],(Q [o 2 (.mv (.c (.bool false)))]
(Q [m 3 0,o 4 (.len 0 (.t 3)),o 5 (.bin .geq 0 true (.t 4) (ci 2)),m 6 5,og 7 6 true (.mv (.t 0)),og 8 6 true (.len 0 (.t 7)),og 9 6 true (.bin .leq 0 true (.t 8) (ci 128)),o 10 (.pick (.t 6) (.t 9) (.c (.bool false))),m 11 10,og 12 11 true (.mv (.t 0)),og 13 11 true (.len 0 (.t 12)),og 14 11 true (.bin .rem 0 true (.t 13) (ci 2)),og 15 11 true (.bin .eql 0 true (.t 14) (ci 0)),o 16 (.pick (.t 11) (.t 15) (.c (.bool false))),m 17 16,og 18 17 true (.mv (.t 0)),og 19 17 true (.callF b2a [.t 18]),o 20 (.pick (.t 17) (.t 19) (.c (.bool false))),m 2 20]
(.ret [2])))⟩
def a9v : KF:=⟨1,15,[(.tmp 2)],(Q [o 2 (.mv (cs []))]
(.seq (Q [m 3 0,o 4 (.bin .lss 0 true (.t 3) (ci 10))]
(.cond (.t 4)
(Q [m 5 0,m 6 0,o 7 (.bin .add 0 true (.t 6) (ci 1)),o 8 (.sliceStr (cs [48,49,50,51,52,53,54,55,56,57,97,98,99,100,101,102,103,104,105,106,107,108,109,110,111,112,113,114,115,116,117,118,119,120,121,122]) (some (.t 5)) (some (.t 7))),m 2 8]
(.ret [2]))
.skip))
(Q [m 9 0,o 10 (.bin .mul 0 true (.t 9) (ci 2)),m 11 0,o 12 (.bin .mul 0 true (.t 11) (ci 2)),o 13 (.bin .add 0 true (.t 12) (ci 2)),o 14 (.sliceStr (cs [48,48,48,49,48,50,48,51,48,52,48,53,48,54,48,55,48,56,48,57,49,48,49,49,49,50,49,51,49,52,49,53,49,54,49,55,49,56,49,57,50,48,50,49,50,50,50,51,50,52,50,53,50,54,50,55,50,56,50,57,51,48,51,49,51,50,51,51,51,52,51,53,51,54,51,55,51,56,51,57,52,48,52,49,52,50,52,51,52,52,52,53,52,54,52,55,52,56,52,57,53,48,53,49,53,50,53,51,53,52,53,53,53,54,53,55,53,56,53,57,54,48,54,49,54,50,54,51,54,52,54,53,54,54,54,55,54,56,54,57,55,48,55,49,55,50,55,51,55,52,55,53,55,54,55,55,55,56,55,57,56,48,56,49,56,50,56,51,56,52,56,53,56,54,56,55,56,56,56,57,57,48,57,49,57,50,57,51,57,52,57,53,57,54,57,55,57,56,57,57]) (some (.t 10)) (some (.t 13))),m 2 14]
(.ret [2]))))⟩
def a7a : KF:=⟨1,15,[(.tmp 2)],(Q [o 2 (.mv (ci 0))]
(Q [m 4 0,o 5 (.callF b1x [.t 4]),o 6 (.callF a7b [.t 5]),m 3 6]
(Q [m 7 3,m 8 0,m 9 3,o 10 (.idxAddrArr 20 1 (.g a4y) (.t 9)),xf 11 10,o 12 (.bin .geq 0 false (.t 8) (.t 11)),o 13 (.callF a6q [.t 12]),o 14 (.bin .add 0 false (.t 7) (.t 13)),m 2 14]
(.ret [2]))))⟩
def b0y : KC:=
(.seq (Q [m 19 4,o 20 (.bin .geq 0 true (.t 19) (ci 8))]
(.cond (.t 20)
.skip
(.exit [0,1,4] 0)))
(.block 1
(Q [m 21 1,o 22 (.bin .rem 0 true (.t 21) (.c (.int .u64 100000000))),o 23 (.i2i .u32 (.t 22)),m 5 23]
(Q [m 24 1,o 25 (.bin .quo 0 true (.t 24) (.c (.int .u64 100000000))),m 1 25]
(Q [m 26 5,o 27 (.bin .quo 0 true (.t 26) (.c (.int .u32 10000))),m 28 5,o 29 (.bin .rem 0 true (.t 28) (.c (.int .u32 10000))),m 6 27,m 7 29]
(Q [m 30 7,o 31 (.bin .quo 0 true (.t 30) (.c (.int .u32 100))),o 32 (.bin .mul 0 true (.t 31) (.c (.int .u32 2))),m 33 7,o 34 (.bin .rem 0 true (.t 33) (.c (.int .u32 100))),o 35 (.bin .mul 0 true (.t 34) (.c (.int .u32 2))),m 8 32,m 9 35]
(Q [m 36 6,o 37 (.bin .quo 0 true (.t 36) (.c (.int .u32 100))),o 38 (.bin .mul 0 true (.t 37) (.c (.int .u32 2))),m 39 6,o 40 (.bin .rem 0 true (.t 39) (.c (.int .u32 100))),o 41 (.bin .mul 0 true (.t 40) (.c (.int .u32 2))),m 10 38,m 11 41]
(.seq (.plain [m 42 0,m 43 4,o 44 (.bin .sub 0 true (.t 43) (ci 1)),m 45 0,m 46 4,o 47 (.bin .sub 0 true (.t 46) (ci 2)),m 48 9,o 49 (.bin .add 0 true (.t 48) (.c (.int .u32 1))),o 50 (.idxStr (cs [48,48,48,49,48,50,48,51,48,52,48,53,48,54,48,55,48,56,48,57,49,48,49,49,49,50,49,51,49,52,49,53,49,54,49,55,49,56,49,57,50,48,50,49,50,50,50,51,50,52,50,53,50,54,50,55,50,56,50,57,51,48,51,49,51,50,51,51,51,52,51,53,51,54,51,55,51,56,51,57,52,48,52,49,52,50,52,51,52,52,52,53,52,54,52,55,52,56,52,57,53,48,53,49,53,50,53,51,53,52,53,53,53,54,53,55,53,56,53,57,54,48,54,49,54,50,54,51,54,52,54,53,54,54,54,55,54,56,54,57,55,48,55,49,55,50,55,51,55,52,55,53,55,54,55,55,55,56,55,57,56,48,56,49,56,50,56,51,56,52,56,53,56,54,56,55,56,56,56,57,57,48,57,49,57,50,57,51,57,52,57,53,57,54,57,55,57,56,57,57]) (.t 49)),m 51 9,o 52 (.idxStr (cs [48,48,48,49,48,50,48,51,48,52,48,53,48,54,48,55,48,56,48,57,49,48,49,49,49,50,49,51,49,52,49,53,49,54,49,55,49,56,49,57,50,48,50,49,50,50,50,51,50,52,50,53,50,54,50,55,50,56,50,57,51,48,51,49,51,50,51,51,51,52,51,53,51,54,51,55,51,56,51,57,52,48,52,49,52,50,52,51,52,52,52,53,52,54,52,55,52,56,52,57,53,48,53,49,53,50,53,51,53,52,53,53,53,54,53,55,53,56,53,57,54,48,54,49,54,50,54,51,54,52,54,53,54,54,54,55,54,56,54,57,55,48,55,49,55,50,55,51,55,52,55,53,55,54,55,55,55,56,55,57,56,48,56,49,56,50,56,51,56,52,56,53,56,54,56,55,56,56,56,57,57,48,57,49,57,50,57,51,57,52,57,53,57,54,57,55,57,56,57,57]) (.t 51)),o 53 (.idxAddrSl 1 (.t 42) (.t 44)),xs 1 53 50,o 54 (.idxAddrSl 1 (.t 45) (.t 47)),xs 1 54 52])
(.seq (.plain [m 55 0,m 56 4,o 57 (.bin .sub 0 true (.t 56) (ci 3)),m 58 0,m 59 4,o 60 (.bin .sub 0 true (.t 59) (ci 4)),m 61 8,o 62 (.bin .add 0 true (.t 61) (.c (.int .u32 1))),o 63 (.idxStr (cs [48,48,48,49,48,50,48,51,48,52,48,53,48,54,48,55,48,56,48,57,49,48,49,49,49,50,49,51,49,52,49,53,49,54,49,55,49,56,49,57,50,48,50,49,50,50,50,51,50,52,50,53,50,54,50,55,50,56,50,57,51,48,51,49,51,50,51,51,51,52,51,53,51,54,51,55,51,56,51,57,52,48,52,49,52,50,52,51,52,52,52,53,52,54,52,55,52,56,52,57,53,48,53,49,53,50,53,51,53,52,53,53,53,54,53,55,53,56,53,57,54,48,54,49,54,50,54,51,54,52,54,53,54,54,54,55,54,56,54,57,55,48,55,49,55,50,55,51,55,52,55,53,55,54,55,55,55,56,55,57,56,48,56,49,56,50,56,51,56,52,56,53,56,54,56,55,56,56,56,57,57,48,57,49,57,50,57,51,57,52,57,53,57,54,57,55,57,56,57,57]) (.t 62)),m 64 8,o 65 (.idxStr (cs [48,48,48,49,48,50,48,51,48,52,48,53,48,54,48,55,48,56,48,57,49,48,49,49,49,50,49,51,49,52,49,53,49,54,49,55,49,56,49,57,50,48,50,49,50,50,50,51,50,52,50,53,50,54,50,55,50,56,50,57,51,48,51,49,51,50,51,51,51,52,51,53,51,54,51,55,51,56,51,57,52,48,52,49,52,50,52,51,52,52,52,53,52,54,52,55,52,56,52,57,53,48,53,49,53,50,53,51,53,52,53,53,53,54,53,55,53,56,53,57,54,48,54,49,54,50,54,51,54,52,54,53,54,54,54,55,54,56,54,57,55,48,55,49,55,50,55,51,55,52,55,53,55,54,55,55,55,56,55,57,56,48,56,49,56,50,56,51,56,52,56,53,56,54,56,55,56,56,56,57,57,48,57,49,57,50,57,51,57,52,57,53,57,54,57,55,57,56,57,57]) (.t 64)),o 66 (.idxAddrSl 1 (.t 55) (.t 57)),xs 1 66 63,o 67 (.idxAddrSl 1 (.t 58) (.t 60)),xs 1 67 65])
(.seq (.plain [m 68 0,m 69 4,o 70 (.bin .sub 0 true (.t 69) (ci 5)),m 71 0,m 72 4,o 73 (.bin .sub 0 true (.t 72) (ci 6)),m 74 11,o 75 (.bin .add 0 true (.t 74) (.c (.int .u32 1))),o 76 (.idxStr (cs [48,48,48,49,48,50,48,51,48,52,48,53,48,54,48,55,48,56,48,57,49,48,49,49,49,50,49,51,49,52,49,53,49,54,49,55,49,56,49,57,50,48,50,49,50,50,50,51,50,52,50,53,50,54,50,55,50,56,50,57,51,48,51,49,51,50,51,51,51,52,51,53,51,54,51,55,51,56,51,57,52,48,52,49,52,50,52,51,52,52,52,53,52,54,52,55,52,56,52,57,53,48,53,49,53,50,53,51,53,52,53,53,53,54,53,55,53,56,53,57,54,48,54,49,54,50,54,51,54,52,54,53,54,54,54,55,54,56,54,57,55,48,55,49,55,50,55,51,55,52,55,53,55,54,55,55,55,56,55,57,56,48,56,49,56,50,56,51,56,52,56,53,56,54,56,55,56,56,56,57,57,48,57,49,57,50,57,51,57,52,57,53,57,54,57,55,57,56,57,57]) (.t 75)),m 77 11,o 78 (.idxStr (cs [48,48,48,49,48,50,48,51,48,52,48,53,48,54,48,55,48,56,48,57,49,48,49,49,49,50,49,51,49,52,49,53,49,54,49,55,49,56,49,57,50,48,50,49,50,50,50,51,50,52,50,53,50,54,50,55,50,56,50,57,51,48,51,49,51,50,51,51,51,52,51,53,51,54,51,55,51,56,51,57,52,48,52,49,52,50,52,51,52,52,52,53,52,54,52,55,52,56,52,57,53,48,53,49,53,50,53,51,53,52,53,53,53,54,53,55,53,56,53,57,54,48,54,49,54,50,54,51,54,52,54,53,54,54,54,55,54,56,54,57,55,48,55,49,55,50,55,51,55,52,55,53,55,54,55,55,55,56,55,57,56,48,56,49,56,50,56,51,56,52,56,53,56,54,56,55,56,56,56,57,57,48,57,49,57,50,57,51,57,52,57,53,57,54,57,55,57,56,57,57]) (.t 77)),o 79 (.idxAddrSl 1 (.t 68) (.t 70)),xs 1 79 76,o 80 (.idxAddrSl 1 (.t 71) (.t 73)),xs 1 80 78])
(.seq (.plain [m 81 0,m 82 4,o 83 (.bin .sub 0 true (.t 82) (ci 7)),m 84 0,m 85 4,o 86 (.bin .sub 0 true (.t 85) (ci 8)),m 87 10,o 88 (.bin .add 0 true (.t 87) (.c (.int .u32 1))),o 89 (.idxStr (cs [48,48,48,49,48,50,48,51,48,52,48,53,48,54,48,55,48,56,48,57,49,48,49,49,49,50,49,51,49,52,49,53,49,54,49,55,49,56,49,57,50,48,50,49,50,50,50,51,50,52,50,53,50,54,50,55,50,56,50,57,51,48,51,49,51,50,51,51,51,52,51,53,51,54,51,55,51,56,51,57,52,48,52,49,52,50,52,51,52,52,52,53,52,54,52,55,52,56,52,57,53,48,53,49,53,50,53,51,53,52,53,53,53,54,53,55,53,56,53,57,54,48,54,49,54,50,54,51,54,52,54,53,54,54,54,55,54,56,54,57,55,48,55,49,55,50,55,51,55,52,55,53,55,54,55,55,55,56,55,57,56,48,56,49,56,50,56,51,56,52,56,53,56,54,56,55,56,56,56,57,57,48,57,49,57,50,57,51,57,52,57,53,57,54,57,55,57,56,57,57]) (.t 88)),m 90 10,o 91 (.idxStr (cs [48,48,48,49,48,50,48,51,48,52,48,53,48,54,48,55,48,56,48,57,49,48,49,49,49,50,49,51,49,52,49,53,49,54,49,55,49,56,49,57,50,48,50,49,50,50,50,51,50,52,50,53,50,54,50,55,50,56,50,57,51,48,51,49,51,50,51,51,51,52,51,53,51,54,51,55,51,56,51,57,52,48,52,49,52,50,52,51,52,52,52,53,52,54,52,55,52,56,52,57,53,48,53,49,53,50,53,51,53,52,53,53,53,54,53,55,53,56,53,57,54,48,54,49,54,50,54,51,54,52,54,53,54,54,54,55,54,56,54,57,55,48,55,49,55,50,55,51,55,52,55,53,55,54,55,55,55,56,55,57,56,48,56,49,56,50,56,51,56,52,56,53,56,54,56,55,56,56,56,57,57,48,57,49,57,50,57,51,57,52,57,53,57,54,57,55,57,56,57,57]) (.t 90)),o 92 (.idxAddrSl 1 (.t 81) (.t 83)),xs 1 92 89,o 93 (.idxAddrSl 1 (.t 84) (.t 86)),xs 1 93 91])
(.ops [m 94 4,o 95 (.bin .sub 0 true (.t 94) (ci 8)),m 4 95]))))))))))))
def a4v : KF:=⟨2,167,[],(Q [m 17 0,o 18 (.len 1 (.t 17)),m 4 18]
(.seq (.block 0
(.loop [0,1,4] b0y))
(Q [m 96 1,o 97 (.i2i .u32 (.t 96)),m 12 97]
(.seq (Q [m 98 4,o 99 (.bin .geq 0 true (.t 98) (ci 4))]
(.cond (.t 99)
(Q [m 100 12,o 101 (.bin .rem 0 true (.t 100) (.c (.int .u32 10000))),m 13 101]
(Q [m 102 12,o 103 (.bin .quo 0 true (.t 102) (.c (.int .u32 10000))),m 12 103]
(Q [m 104 13,o 105 (.bin .quo 0 true (.t 104) (.c (.int .u32 100))),o 106 (.bin .mul 0 true (.t 105) (.c (.int .u32 2))),m 107 13,o 108 (.bin .rem 0 true (.t 107) (.c (.int .u32 100))),o 109 (.bin .mul 0 true (.t 108) (.c (.int .u32 2))),m 14 106,m 15 109]
(.seq (.plain [m 110 0,m 111 4,o 112 (.bin .sub 0 true (.t 111) (ci 1)),m 113 0,m 114 4,o 115 (.bin .sub 0 true (.t 114) (ci 2)),m 116 15,o 117 (.bin .add 0 true (.t 116) (.c (.int .u32 1))),o 118 (.idxStr (cs [48,48,48,49,48,50,48,51,48,52,48,53,48,54,48,55,48,56,48,57,49,48,49,49,49,50,49,51,49,52,49,53,49,54,49,55,49,56,49,57,50,48,50,49,50,50,50,51,50,52,50,53,50,54,50,55,50,56,50,57,51,48,51,49,51,50,51,51,51,52,51,53,51,54,51,55,51,56,51,57,52,48,52,49,52,50,52,51,52,52,52,53,52,54,52,55,52,56,52,57,53,48,53,49,53,50,53,51,53,52,53,53,53,54,53,55,53,56,53,57,54,48,54,49,54,50,54,51,54,52,54,53,54,54,54,55,54,56,54,57,55,48,55,49,55,50,55,51,55,52,55,53,55,54,55,55,55,56,55,57,56,48,56,49,56,50,56,51,56,52,56,53,56,54,56,55,56,56,56,57,57,48,57,49,57,50,57,51,57,52,57,53,57,54,57,55,57,56,57,57]) (.t 117)),m 119 15,o 120 (.idxStr (cs [48,48,48,49,48,50,48,51,48,52,48,53,48,54,48,55,48,56,48,57,49,48,49,49,49,50,49,51,49,52,49,53,49,54,49,55,49,56,49,57,50,48,50,49,50,50,50,51,50,52,50,53,50,54,50,55,50,56,50,57,51,48,51,49,51,50,51,51,51,52,51,53,51,54,51,55,51,56,51,57,52,48,52,49,52,50,52,51,52,52,52,53,52,54,52,55,52,56,52,57,53,48,53,49,53,50,53,51,53,52,53,53,53,54,53,55,53,56,53,57,54,48,54,49,54,50,54,51,54,52,54,53,54,54,54,55,54,56,54,57,55,48,55,49,55,50,55,51,55,52,55,53,55,54,55,55,55,56,55,57,56,48,56,49,56,50,56,51,56,52,56,53,56,54,56,55,56,56,56,57,57,48,57,49,57,50,57,51,57,52,57,53,57,54,57,55,57,56,57,57]) (.t 119)),o 121 (.idxAddrSl 1 (.t 110) (.t 112)),xs 1 121 118,o 122 (.idxAddrSl 1 (.t 113) (.t 115)),xs 1 122 120])
(.seq (.plain [m 123 0,m 124 4,o 125 (.bin .sub 0 true (.t 124) (ci 3)),m 126 0,m 127 4,o 128 (.bin .sub 0 true (.t 127) (ci 4)),m 129 14,o 130 (.bin .add 0 true (.t 129) (.c (.int .u32 1))),o 131 (.idxStr (cs [48,48,48,49,48,50,48,51,48,52,48,53,48,54,48,55,48,56,48,57,49,48,49,49,49,50,49,51,49,52,49,53,49,54,49,55,49,56,49,57,50,48,50,49,50,50,50,51,50,52,50,53,50,54,50,55,50,56,50,57,51,48,51,49,51,50,51,51,51,52,51,53,51,54,51,55,51,56,51,57,52,48,52,49,52,50,52,51,52,52,52,53,52,54,52,55,52,56,52,57,53,48,53,49,53,50,53,51,53,52,53,53,53,54,53,55,53,56,53,57,54,48,54,49,54,50,54,51,54,52,54,53,54,54,54,55,54,56,54,57,55,48,55,49,55,50,55,51,55,52,55,53,55,54,55,55,55,56,55,57,56,48,56,49,56,50,56,51,56,52,56,53,56,54,56,55,56,56,56,57,57,48,57,49,57,50,57,51,57,52,57,53,57,54,57,55,57,56,57,57]) (.t 130)),m 132 14,o 133 (.idxStr (cs [48,48,48,49,48,50,48,51,48,52,48,53,48,54,48,55,48,56,48,57,49,48,49,49,49,50,49,51,49,52,49,53,49,54,49,55,49,56,49,57,50,48,50,49,50,50,50,51,50,52,50,53,50,54,50,55,50,56,50,57,51,48,51,49,51,50,51,51,51,52,51,53,51,54,51,55,51,56,51,57,52,48,52,49,52,50,52,51,52,52,52,53,52,54,52,55,52,56,52,57,53,48,53,49,53,50,53,51,53,52,53,53,53,54,53,55,53,56,53,57,54,48,54,49,54,50,54,51,54,52,54,53,54,54,54,55,54,56,54,57,55,48,55,49,55,50,55,51,55,52,55,53,55,54,55,55,55,56,55,57,56,48,56,49,56,50,56,51,56,52,56,53,56,54,56,55,56,56,56,57,57,48,57,49,57,50,57,51,57,52,57,53,57,54,57,55,57,56,57,57]) (.t 132)),o 134 (.idxAddrSl 1 (.t 123) (.t 125)),xs 1 134 131,o 135 (.idxAddrSl 1 (.t 126) (.t 128)),xs 1 135 133])
(.ops [m 136 4,o 137 (.bin .sub 0 true (.t 136) (ci 4)),m 4 137]))))))
.skip))
(.seq (Q [m 138 4,o 139 (.bin .geq 0 true (.t 138) (ci 2))]
(.cond (.t 139)
(Q [m 140 12,o 141 (.bin .rem 0 true (.t 140) (.c (.int .u32 100))),o 142 (.bin .mul 0 true (.t 141) (.c (.int .u32 2))),m 16 142]
(Q [m 143 12,o 144 (.bin .quo 0 true (.t 143) (.c (.int .u32 100))),m 12 144]
(.seq (.plain [m 145 0,m 146 4,o 147 (.bin .sub 0 true (.t 146) (ci 1)),m 148 0,m 149 4,o 150 (.bin .sub 0 true (.t 149) (ci 2)),m 151 16,o 152 (.bin .add 0 true (.t 151) (.c (.int .u32 1))),o 153 (.idxStr (cs [48,48,48,49,48,50,48,51,48,52,48,53,48,54,48,55,48,56,48,57,49,48,49,49,49,50,49,51,49,52,49,53,49,54,49,55,49,56,49,57,50,48,50,49,50,50,50,51,50,52,50,53,50,54,50,55,50,56,50,57,51,48,51,49,51,50,51,51,51,52,51,53,51,54,51,55,51,56,51,57,52,48,52,49,52,50,52,51,52,52,52,53,52,54,52,55,52,56,52,57,53,48,53,49,53,50,53,51,53,52,53,53,53,54,53,55,53,56,53,57,54,48,54,49,54,50,54,51,54,52,54,53,54,54,54,55,54,56,54,57,55,48,55,49,55,50,55,51,55,52,55,53,55,54,55,55,55,56,55,57,56,48,56,49,56,50,56,51,56,52,56,53,56,54,56,55,56,56,56,57,57,48,57,49,57,50,57,51,57,52,57,53,57,54,57,55,57,56,57,57]) (.t 152)),m 154 16,o 155 (.idxStr (cs [48,48,48,49,48,50,48,51,48,52,48,53,48,54,48,55,48,56,48,57,49,48,49,49,49,50,49,51,49,52,49,53,49,54,49,55,49,56,49,57,50,48,50,49,50,50,50,51,50,52,50,53,50,54,50,55,50,56,50,57,51,48,51,49,51,50,51,51,51,52,51,53,51,54,51,55,51,56,51,57,52,48,52,49,52,50,52,51,52,52,52,53,52,54,52,55,52,56,52,57,53,48,53,49,53,50,53,51,53,52,53,53,53,54,53,55,53,56,53,57,54,48,54,49,54,50,54,51,54,52,54,53,54,54,54,55,54,56,54,57,55,48,55,49,55,50,55,51,55,52,55,53,55,54,55,55,55,56,55,57,56,48,56,49,56,50,56,51,56,52,56,53,56,54,56,55,56,56,56,57,57,48,57,49,57,50,57,51,57,52,57,53,57,54,57,55,57,56,57,57]) (.t 154)),o 156 (.idxAddrSl 1 (.t 145) (.t 147)),xs 1 156 153,o 157 (.idxAddrSl 1 (.t 148) (.t 150)),xs 1 157 155])
(.ops [m 158 4,o 159 (.bin .sub 0 true (.t 158) (ci 2)),m 4 159]))))
.skip))
(Q [m 160 4,o 161 (.bin .gtr 0 true (.t 160) (ci 0))]
(.cond (.t 161)
(.ops [m 162 0,m 163 12,o 164 (.bin .add 0 true (.c (.int .u32 48)) (.t 163)),o 165 (.i2i .u8 (.t 164)),o 166 (.idxAddrSl 1 (.t 162) (ci 0)),xs 1 166 165])
.skip)))))))⟩
def a4j : KF:=⟨2,21,[(.tmp 4)],(Q [o 4 (.mv (.c (.bool false)))]
(Q [m 5 0,o 6 (.len 0 (.t 5)),m 7 1,o 8 (.len 0 (.t 7)),o 9 (.bin .geq 0 false (.t 6) (.t 8)),m 10 9,og 11 10 true (.mv (.t 0)),og 12 10 true (.mv (.t 0)),og 13 10 true (.len 0 (.t 12)),og 14 10 true (.mv (.t 1)),og 15 10 true (.len 0 (.t 14)),og 16 10 true (.bin .sub 0 false (.t 13) (.t 15)),og 17 10 true (.sliceStr (.t 11) (some (.t 16)) none),og 18 10 true (.mv (.t 1)),og 19 10 true (.bin .eql 0 false (.t 17) (.t 18)),o 20 (.pick (.t 10) (.t 19) (.c (.bool false))),m 4 20]
(.ret [4])))⟩
def e3k : KF:=⟨1,39,[(.cell 2 true 7),(.tmp 3)],(Q [o 1 (.box (.t 0)),o 2 (.new [vi 0,.nils,vu 0,vi 0,ve,.nils,.nils] none),o 3 (.mv (ci 0))]
(.seq (Q [xl 8 5 1,o 9 (.callF a0c [.t 8]),o 10 (.un .not (.t 9))]
(.cond (.t 10)
(Q [o 11 (.build [vi 0,.nils,vu 0,vi 0,ve,.nils,.nils] []),xs 7 2 11,o 3 (.mv (ci 3))]
(.ret [2,3]))
.skip))
(Q [xl 12 5 1,o 13 (.callF a4u [.t 12]),m 4 13]
(Q [o 5 (.new [vi 0,.nils,vu 0,vi 0,ve,.nils,.nils] none)]
(Q [o 6 (.mv (ci 0))]
(Q [m 14 4,o 15 (.callF a3l [.t 14,cs [108,101,110,103,116,104],ci 0,ci 1099511627776]),xa 16 0 5,xs 1 16 15]
(Q [m 18 4,o 19 (.callF a0w [.t 18,cs [104,97,115,104,101,115],ci 4]),o 20 (.callF b1j [.t 19]),m 17 20,xe 21 17 0,xe 22 17 1,xa 23 1 5,xs 1 23 21,m 6 22]
(Q [m 24 4,m 25 6,o 26 (.callF a0i [.t 24,.t 25])]
(.seq (Q [m 27 4,o 28 (.callF a4f [.t 27,cs [99,117,115,116,111,109]])]
(.cond (.t 28)
(.ops [m 29 4,o 30 (.callF e6r [.t 29,cs [99,117,115,116,111,109]]),xa 31 2 5,xs 5 31 30])
.skip))
(.seq (Q [m 32 4,o 33 (.callF a1c [.t 32]),m 7 33]
(Q [m 34 7,o 35 (.bin .neq 0 true (.t 34) (ci 0))]
(.cond (.t 35)
(Q [o 36 (.build [vi 0,.nils,vu 0,vi 0,ve,.nils,.nils] []),m 37 7,xs 7 2 36,m 3 37]
(.ret [2,3]))
.skip)))
(Q [xl 38 7 5,xs 7 2 38,o 3 (.mv (ci 0))]
(.ret [2,3]))))))))))))⟩
def d4e : KC:=
(Q [o 12 (.bin .lss 0 false (.t 11) (.t 10))]
(.seq (.cond (.t 12)
.skip
(.exit [4] 0))
(.seq (.block 1
(Q [o 13 (.idxAddrSl 5 (.t 9) (.t 11)),xl 14 5 13,o 6 (.new [vu 0,vi 0,ve,.nils,.nils] none),xs 5 6 14]
(Q [xl 16 5 6,o 17 (.callF a2n [.t 16]),m 15 17,xe 18 15 0,xe 19 15 1,o 7 (.new [ve,vi 0,.nils,(.bool false),.nils,.nils] none),xs 6 7 18,m 8 19]
(.seq (Q [m 20 8,o 21 (.bin .neq 0 true (.t 20) (ci 0))]
(.cond (.t 21)
(Q [m 22 8,o 2 (.mv (.c .nils)),m 3 22]
(.ret [2,3]))
.skip))
(.seq (Q [m 23 4,xa 24 0 7,xf 25 24,o 26 (.callF b6b [.t 23,.t 25])]
(.cond (.t 26)
(Q [o 2 (.mv (.c .nils)),o 3 (.mv (ci 7))]
(.ret [2,3]))
.skip))
(.ops [m 27 4,xl 28 6 7,o 29 (.buildSl [ve,vi 0,.nils,(.bool false),.nils,.nils] 1 6 [(0,6,(.t 28))]),o 30 (.app false 6 104 none (.t 27) (.t 29)),m 4 30]))))))
(.ops [o 31 (.bin .add 0 true (.t 11) (ci 1)),m 11 31]))))
def c3y : KF:=⟨1,33,[(.tmp 2),(.tmp 3)],(Q [o 2 (.mv (.c .nils)),o 3 (.mv (ci 0))]
(Q [o 4 (.mv (.c .nils))]
(.seq (Q [m 9 0,o 10 (.len 1 (.t 9)),o 11 (.mv (ci 0))]
(.block 0
(.loop [4,9,10,11] d4e)))
(Q [m 32 4,m 2 32,o 3 (.mv (ci 0))]
(.ret [2,3])))))⟩
def d9b : KF:=⟨2,58,[(.cell 4 true 4),(.tmp 5)],(Q [o 3 (.box (.t 1)),o 4 (.new [ve,vi 0,vi 0,.nils] none),o 5 (.mv (ci 0))]
(.seq (Q [m 14 0,o 15 (.callF c1e [.t 14]),m 13 15,xe 16 13 0,xe 17 13 1,m 6 16,m 7 17]
(Q [m 18 7,o 19 (.bin .neq 0 true (.t 18) (ci 0)),m 20 19,og 21 20 false (.load true 5 (.t 3)),og 22 20 false (.callF a0c [.t 21]),og 23 20 false (.un .not (.t 22)),o 24 (.pick (.t 20) (.c (.bool true)) (.t 23))]
(.cond (.t 24)
(Q [o 25 (.build [ve,vi 0,vi 0,.nils] []),xs 4 4 25,o 5 (.mv (ci 3))]
(.ret [4,5]))
.skip)))
(Q [xl 26 5 3,o 27 (.callF a4u [.t 26]),m 8 27]
(Q [m 28 0,o 29 (.build [ve,vi 0,vi 0,.nils] [(0,1,(.t 28)),(2,1,(ci (-1)))]),o 9 (.new [ve,vi 0,vi 0,.nils] none),xs 4 9 29]
(Q [m 30 8,o 31 (.callF a3l [.t 30,cs [118,101,114,115,105,111,110],ci 1,ci 1099511627776]),xa 32 1 9,xs 1 32 31]
(.seq (Q [m 33 8,o 34 (.callF a4f [.t 33,cs [108,101,110,103,116,104]])]
(.cond (.t 34)
(.ops [m 35 8,o 36 (.callF a3l [.t 35,cs [108,101,110,103,116,104],ci 0,ci 1099511627776]),xa 37 2 9,xs 1 37 36])
.skip))
(.seq (Q [m 38 8,o 39 (.callF a4f [.t 38,cs [104,97,115,104,101,115]])]
(.cond (.t 39)
(Q [m 41 8,o 42 (.callF a0w [.t 41,cs [104,97,115,104,101,115],ci 4]),o 43 (.callF b1j [.t 42]),m 40 43,xe 44 40 0,xe 45 40 1,m 10 44,m 11 45]
(Q [m 46 8,m 47 11,o 48 (.callF a0i [.t 46,.t 47])]
(.ops [m 49 10,xa 50 3 9,xs 1 50 49])))
.skip))
(.seq (Q [m 51 8,o 52 (.callF a1c [.t 51]),m 12 52]
(Q [m 53 12,o 54 (.bin .neq 0 true (.t 53) (ci 0))]
(.cond (.t 54)
(Q [o 55 (.build [ve,vi 0,vi 0,.nils] []),m 56 12,xs 4 4 55,m 5 56]
(.ret [4,5]))
.skip)))
(Q [xl 57 4 9,xs 4 4 57,o 5 (.mv (ci 0))]
(.ret [4,5]))))))))))⟩
def e9h : KF:=⟨2,10,[(.cell 4 true 5),(.tmp 5)],(Q [o 4 (.new [vu 0,vi 0,vi 0,vi 0,ve] none),o 5 (.mv (ci 0))]
(Q [m 6 1,o 7 (.callF b1p [cu 1,.t 6]),xe 8 7 0,xe 9 7 1,xs 5 4 8,m 5 9]
(.ret [4,5])))⟩
def e9x : KF:=⟨2,10,[(.cell 4 true 5),(.tmp 5)],(Q [o 4 (.new [vu 0,vi 0,vi 0,vi 0,ve] none),o 5 (.mv (ci 0))]
(Q [m 6 1,o 7 (.callF b1p [cu 2,.t 6]),xe 8 7 0,xe 9 7 1,xs 5 4 8,m 5 9]
(.ret [4,5])))⟩
def e1a : KF:=⟨2,10,[(.cell 4 true 5),(.tmp 5)],(Q [o 4 (.new [vu 0,vi 0,vi 0,vi 0,ve] none),o 5 (.mv (ci 0))]
(Q [m 6 1,o 7 (.callF b1p [cu 3,.t 6]),xe 8 7 0,xe 9 7 1,xs 5 4 8,m 5 9]
(.ret [4,5])))⟩
def g0f : KF:=⟨2,10,[(.cell 4 true 5),(.tmp 5)],(Q [o 4 (.new [vu 0,vi 0,vi 0,vi 0,ve] none),o 5 (.mv (ci 0))]
(Q [m 6 1,o 7 (.callF b1p [cu 4,.t 6]),xe 8 7 0,xe 9 7 1,xs 5 4 8,m 5 9]
(.ret [4,5])))⟩
def e1i : KF:=⟨2,10,[(.cell 4 true 5),(.tmp 5)],(Q [o 4 (.new [vu 0,vi 0,vi 0,vi 0,ve] none),o 5 (.mv (ci 0))]
(Q [m 6 1,o 7 (.callF b1p [cu 5,.t 6]),xe 8 7 0,xe 9 7 1,xs 5 4 8,m 5 9]
(.ret [4,5])))⟩
def e4z : KF:=⟨2,10,[(.cell 4 true 5),(.tmp 5)],(Q [o 4 (.new [vu 0,vi 0,vi 0,vi 0,ve] none),o 5 (.mv (ci 0))]
(Q [m 6 1,o 7 (.callF b1p [cu 6,.t 6]),xe 8 7 0,xe 9 7 1,xs 5 4 8,m 5 9]
(.ret [4,5])))⟩
def d7z : KF:=⟨2,24,[(.cell 4 true 5),(.tmp 5)],(Q [o 4 (.new [vu 0,vi 0,vi 0,vi 0,ve] none),o 5 (.mv (ci 0))]
(Q [m 10 0,m 11 1,o 12 (.callF e9g [.t 10,.t 11]),m 9 12,xe 13 9 0,xe 14 9 1,xe 15 9 2,m 6 13,m 7 14,m 8 15]
(.seq (Q [m 16 8,o 17 (.bin .neq 0 true (.t 16) (ci 0))]
(.cond (.t 17)
(Q [o 18 (.build [vu 0,vi 0,vi 0,vi 0,ve] []),m 19 8,xs 5 4 18,m 5 19]
(.ret [4,5]))
.skip))
(Q [m 20 1,m 21 7,m 22 6,o 23 (.build [vu 0,vi 0,vi 0,vi 0,ve] [(0,1,(cu 9)),(1,1,(.t 20)),(2,1,(.t 21)),(3,1,(.t 22))]),xs 5 4 23,o 5 (.mv (ci 0))]
(.ret [4,5])))))⟩
def e8w : KF:=⟨2,24,[(.cell 4 true 5),(.tmp 5)],(Q [o 4 (.new [vu 0,vi 0,vi 0,vi 0,ve] none),o 5 (.mv (ci 0))]
(Q [m 10 0,m 11 1,o 12 (.callF g4n [.t 10,.t 11]),m 9 12,xe 13 9 0,xe 14 9 1,xe 15 9 2,m 6 13,m 7 14,m 8 15]
(.seq (Q [m 16 8,o 17 (.bin .neq 0 true (.t 16) (ci 0))]
(.cond (.t 17)
(Q [o 18 (.build [vu 0,vi 0,vi 0,vi 0,ve] []),m 19 8,xs 5 4 18,m 5 19]
(.ret [4,5]))
.skip))
(Q [m 20 1,m 21 7,m 22 6,o 23 (.build [vu 0,vi 0,vi 0,vi 0,ve] [(0,1,(cu 10)),(1,1,(.t 20)),(2,1,(.t 21)),(4,1,(.t 22))]),xs 5 4 23,o 5 (.mv (ci 0))]
(.ret [4,5])))))⟩
def g5k : KC:=
(.seq (Q [m 8 6,m 9 0,o 10 (.len 0 (.t 9)),o 11 (.bin .lss 0 false (.t 8) (.t 10)),m 12 11,og 13 12 true (.mv (.t 0)),og 14 12 true (.mv (.t 6)),og 15 12 true (.idxStr (.t 13) (.t 14)),og 16 12 true (.bin .leq 0 true (cu 97) (.t 15)),o 17 (.pick (.t 12) (.t 16) (.c (.bool false))),m 18 17,og 19 18 true (.mv (.t 0)),og 20 18 true (.mv (.t 6)),og 21 18 true (.idxStr (.t 19) (.t 20)),og 22 18 true (.bin .leq 0 true (.t 21) (cu 122)),o 23 (.pick (.t 18) (.t 22) (.c (.bool false)))]
(.cond (.t 23)
.skip
(.exit [0,1,4,6] 0)))
(.block 1
(.ops [m 24 6,o 25 (.bin .add 0 true (.t 24) (ci 1)),m 6 25])))
def e9t : KF:=⟨2,41,[(.cell 4 true 5),(.tmp 5)],(Q [o 4 (.new [vu 0,vi 0,vi 0,vi 0,ve] none),o 5 (.mv (ci 0))]
(Q [m 7 1,m 6 7]
(.seq (.block 0
(.loop [0,1,4,6] g5k))
(.seq (Q [m 26 0,m 27 1,m 28 6,o 29 (.sliceStr (.t 26) (some (.t 27)) (some (.t 28)))]
(.block 2
(Q [o 31 (.bin .eql 0 true (.t 29) (cs [116,114,117,101])),m 30 31]
(.cond (.t 30)
(Q [m 32 1,m 33 6,o 34 (.build [vu 0,vi 0,vi 0,vi 0,ve] [(0,1,(cu 7)),(1,1,(.t 32)),(2,1,(.t 33))]),xs 5 4 34,o 5 (.mv (ci 0))]
(.ret [4,5]))
(Q [o 36 (.bin .eql 0 true (.t 29) (cs [102,97,108,115,101])),m 35 36]
(.cond (.t 35)
(Q [m 37 1,m 38 6,o 39 (.build [vu 0,vi 0,vi 0,vi 0,ve] [(0,1,(cu 8)),(1,1,(.t 37)),(2,1,(.t 38))]),xs 5 4 39,o 5 (.mv (ci 0))]
(.ret [4,5]))
.skip))))))
(Q [o 40 (.build [vu 0,vi 0,vi 0,vi 0,ve] []),xs 5 4 40,o 5 (.mv (ci 3))]
(.ret [4,5]))))))⟩
def b3q : KF:=⟨2,23,[(.tmp 4)],(Q [o 4 (.mv (ci 0))]
(.seq (Q [m 6 0,o 7 (.nilck (.t 6)),xa 8 0 7,o 9 (.callF a1n [.t 8]),m 5 9]
(Q [m 10 5,o 11 (.bin .neq 0 true (.t 10) (ci 0))]
(.cond (.t 11)
(Q [m 12 5,m 4 12]
(.ret [4]))
.skip)))
(.seq (Q [m 13 0,o 14 (.nilck (.t 13)),xa 15 0 14,xa 16 2 15,xa 17 0 16,xf 18 17,m 19 1,o 20 (.bin .neq 0 false (.t 18) (.t 19))]
(.cond (.t 20)
(Q [m 21 0,o 22 (.callF a5k [.t 21]),m 4 22]
(.ret [4]))
.skip))
(Q [o 4 (.mv (ci 0))]
(.ret [4])))))⟩
def a2k : KF:=⟨2,14,[],(Q [m 5 0,o 6 (.len 1 (.t 5)),m 4 6]
(.ops [m 7 0,m 8 4,m 9 4,o 10 (.i2i .u64 (.t 9)),o 11 (.callF b1a [.t 10]),m 12 1,o 13 (.callF a1d [.t 7,ci 0,.t 8,.t 11,.t 12])]))⟩
def c4g : KF:=⟨2,10,[(.tmp 4)],(Q [o 2 (.box (.t 0)),o 3 (.box (.t 1)),o 4 (.mv (ci 0))]
(Q [xa 5 0 2,xf 6 5,xa 7 0 3,xf 8 7,o 9 (.callF b1w [.t 6,.t 8]),m 4 9]
(.ret [4])))⟩
def e2m : KC:=
(.seq (Q [m 9 5,m 10 6,o 11 (.bin .lss 0 false (.t 9) (.t 10))]
(.cond (.t 11)
.skip
(.exit [5] 0)))
(.block 1
(Q [m 12 5,m 13 6,o 14 (.bin .add 0 false (.t 12) (.t 13)),o 15 (.i2i .u64 (.t 14)),o 16 (.bin .shr 0 true (.t 15) (.c (.int .u64 1))),o 17 (.i2i .i64 (.t 16)),m 7 17]
(Q [m 18 1,m 19 7,o 20 (.callV (.t 18) [.t 19]),o 21 (.un .not (.t 20))]
(.cond (.t 21)
(.ops [m 22 7,o 23 (.bin .add 0 true (.t 22) (ci 1)),m 5 23])
(.ops [m 24 7,m 6 24]))))))
def d3x : KF:=⟨2,26,[(.tmp 4)],(Q [o 4 (.mv (ci 0))]
(Q [m 8 0,o 5 (.mv (ci 0)),m 6 8]
(.seq (.block 0
(.loop [1,5,6] e2m))
(Q [m 25 5,m 4 25]
(.ret [4])))))⟩
def c7y : KF:=⟨3,11,[(.tmp 4)],(Q [o 4 (.mv (.c (.bool false)))]
(.seq (.plain [xf 5 1,m 6 0,o 7 (.idxAddrSl 1 (.t 5) (.t 6)),xf 8 7,xf 9 2,o 10 (.bin .geq 0 false (.t 8) (.t 9)),m 4 10])
(.ret [4])))⟩
def b1e : KF:=⟨3,50,[(.tmp 6)],(Q [o 6 (.mv (.c .nils))]
(Q [o 7 (.mv (.c .nils))]
(.seq (Q [m 12 0,o 13 (.callF a1q [.t 12]),o 14 (.bin .neq 0 true (.t 13) (ci 0))]
(.cond (.t 14)
(Q [m 15 7,m 6 15]
(.ret [6]))
.skip))
(Q [m 17 0,o 18 (.nilck (.t 17)),xa 19 0 18,xl 20 5 19,m 21 1,o 22 (.callF a1e [.t 20,.t 21]),m 16 22,xe 23 16 0,xe 24 16 1,o 8 (.new [vu 0,vi 0,ve,.nils,.nils] none),xs 5 8 23,m 9 24]
(.seq (Q [m 25 9,o 26 (.un .not (.t 25))]
(.cond (.t 26)
(Q [m 27 0,o 28 (.callF a0i [.t 27,ci 6])]
(Q [m 29 7,m 6 29]
(.ret [6])))
.skip))
(Q [m 31 2,xl 32 5 8,o 33 (.callV (.t 31) [.t 32]),m 30 33,xe 34 30 0,xe 35 30 1,m 10 34,m 11 35]
(.seq (Q [m 36 11,o 37 (.bin .neq 0 true (.t 36) (ci 0))]
(.cond (.t 37)
(Q [m 38 0,m 39 11,o 40 (.callF a0i [.t 38,.t 39])]
(Q [m 41 7,m 6 41]
(.ret [6])))
.skip))
(Q [m 42 0,o 43 (.nilck (.t 42)),xa 44 5 43,xf 45 44,m 46 1,o 47 (.lookup (vi 0) (.t 45) (.t 46) false),o 48 (.bin .add 0 true (.t 47) (ci 1)),u (.mapUpd (.t 45) (.t 46) (.t 48))]
(Q [m 49 10,m 6 49]
(.ret [6]))))))))))⟩
def c6n : KC:=
(Q [o 22 (.bin .lss 0 false (.t 21) (.t 20))]
(.seq (.cond (.t 22)
.skip
(.exit [7] 0))
(.seq (.block 1
(Q [o 23 (.idxAddrSl 5 (.t 19) (.t 21)),xl 24 5 23,o 9 (.new [vu 0,vi 0,ve,.nils,.nils] none),xs 5 9 24]
(.seq (Q [xa 25 0 9,xf 26 25,o 27 (.bin .neq 0 true (.t 26) (cu 3))]
(.cond (.t 27)
(Q [o 3 (.mv (.c .nils)),o 4 (.mv (ci 10))]
(.ret [3,4]))
.skip))
(.ops [m 28 7,xa 29 2 9,xf 30 29,o 31 (.buildSl [ve] 1 1 [(0,1,(.t 30))]),o 32 (.app false 1 16 none (.t 28) (.t 31)),m 7 32]))))
(.ops [o 33 (.bin .add 0 true (.t 21) (ci 1)),m 21 33]))))
def b7p : KF:=⟨2,35,[(.tmp 3),(.tmp 4)],(Q [o 2 (.box (.t 0)),o 3 (.mv (.c .nils)),o 4 (.mv (ci 0))]
(Q [xl 11 5 2,xf 12 1,o 13 (.callF c4o [.t 11,.t 12]),m 10 13,xe 14 10 0,xe 15 10 1,m 5 14,m 6 15]
(.seq (Q [m 16 6,o 17 (.bin .neq 0 true (.t 16) (ci 0))]
(.cond (.t 17)
(Q [m 18 6,o 3 (.mv (.c .nils)),m 4 18]
(.ret [3,4]))
.skip))
(Q [o 7 (.mv (.c .nils))]
(.seq (Q [m 19 5,o 20 (.len 1 (.t 19)),o 21 (.mv (ci 0))]
(.block 0
(.loop [7,19,20,21] c6n)))
(Q [m 34 7,m 3 34,o 4 (.mv (ci 0))]
(.ret [3,4])))))))⟩
def a6n : KF:=⟨1,6,[(.tmp 2)],(Q [o 2 (.mv (ci 0))]
(Q [m 3 0,o 4 (.bin .mul 0 true (.t 3) (ci 78913)),o 5 (.bin .shr 0 true (.t 4) (.c (.int .u64 18))),m 2 5]
(.ret [2])))⟩
def a6t : KF:=⟨1,4,[(.tmp 2)],(Q [o 2 (.mv (ci 0))]
(.seq (Q [m 3 0]
(.cond (.t 3)
(Q [o 2 (.mv (ci 1))]
(.ret [2]))
.skip))
(Q [o 2 (.mv (ci 0))]
(.ret [2]))))⟩
def d0p : KC:=
(Q [o 30 (.bin .lss 0 false (.t 29) (.t 28))]
(.seq (.cond (.t 30)
.skip
(.exit [4] 0))
(.seq (.block 1
(Q [m 31 29,o 32 (.idxAddrSl 1 (.t 27) (.t 29)),xf 33 32,m 5 31,m 6 33]
(.seq (Q [m 34 6,o 35 (.callF a7i [.t 34]),o 36 (.un .not (.t 35))]
(.cond (.t 36)
(Q [o 2 (.mv (.c .nils)),o 3 (.mv (ci 3))]
(.ret [2,3]))
.skip))
(Q [xa 37 4 1,xf 38 37,m 39 5,o 40 (.idxAddrSl 5 (.t 38) (.t 39)),xl 41 5 40,o 7 (.new [vu 0,vi 0,ve,.nils,.nils] none),xs 5 7 41]
(.seq (Q [xa 42 0 7,xf 43 42,o 44 (.bin .neq 0 true (.t 43) (cu 3))]
(.cond (.t 44)
(Q [o 2 (.mv (.c .nils)),o 3 (.mv (ci 10))]
(.ret [2,3]))
.skip))
(.seq (Q [xa 45 2 7,xf 46 45,o 47 (.callF b0z [.t 46]),o 48 (.un .not (.t 47))]
(.cond (.t 48)
(Q [o 2 (.mv (.c .nils)),o 3 (.mv (ci 3))]
(.ret [2,3]))
.skip))
(.ops [m 49 4,m 50 6,xa 51 2 7,xf 52 51,o 53 (.build [ve,ve] [(0,1,(.t 50)),(1,1,(.t 52))]),o 54 (.buildSl [ve,ve] 1 2 [(0,2,(.t 53))]),o 55 (.app false 2 32 none (.t 49) (.t 54)),m 4 55])))))))
(.ops [o 56 (.bin .add 0 true (.t 29) (ci 1)),m 29 56]))))
def b8m : KF:=⟨1,58,[(.tmp 2),(.tmp 3)],(Q [o 1 (.box (.t 0)),o 2 (.mv (.c .nils)),o 3 (.mv (ci 0))]
(.seq (Q [xl 8 5 1,o 9 (.callF a0c [.t 8]),o 10 (.un .not (.t 9))]
(.cond (.t 10)
(Q [o 2 (.mv (.c .nils)),o 3 (.mv (ci 3))]
(.ret [2,3]))
.skip))
(.seq (Q [xa 11 0 1,xf 12 11,o 13 (.bin .neq 0 true (.t 12) (cu 5))]
(.cond (.t 13)
(Q [o 2 (.mv (.c .nils)),o 3 (.mv (ci 10))]
(.ret [2,3]))
.skip))
(.seq (Q [xa 14 3 1,xf 15 14,o 16 (.len 1 (.t 15)),o 17 (.bin .gtr 0 true (.t 16) (ci 4))]
(.cond (.t 17)
(Q [o 2 (.mv (.c .nils)),o 3 (.mv (ci 5))]
(.ret [2,3]))
.skip))
(.seq (Q [xa 18 3 1,xf 19 18,o 20 (.len 1 (.t 19)),o 21 (.bin .eql 0 true (.t 20) (ci 0))]
(.cond (.t 21)
(Q [o 2 (.mv (.c .nils)),o 3 (.mv (ci 4))]
(.ret [2,3]))
.skip))
(Q [xa 22 3 1,xf 23 22,o 24 (.len 1 (.t 23)),o 25 (.mkSlice [ve,ve] 2 32 (ci 0) (.t 24)),m 4 25]
(.seq (Q [xa 26 3 1,xf 27 26,o 28 (.len 1 (.t 27)),o 29 (.mv (ci 0))]
(.block 0
(.loop [1,4,27,28,29] d0p)))
(Q [m 57 4,m 2 57,o 3 (.mv (ci 0))]
(.ret [2,3])))))))))⟩
def c7s : KF:=⟨1,37,[(.cell 2 true 6),(.tmp 3)],(Q [o 1 (.box (.t 0)),o 2 (.new [ve,vi 0,.nils,(.bool false),.nils,.nils] none),o 3 (.mv (ci 0))]
(Q [xl 7 5 1,o 8 (.callF a4u [.t 7]),m 4 8]
(Q [o 5 (.new [ve,vi 0,.nils,(.bool false),.nils,.nils] none)]
(Q [m 9 4,o 10 (.callF a1g [.t 9,cs [110,97,109,101]]),xa 11 0 5,xs 1 11 10]
(Q [m 12 4,o 13 (.callF c8x [.t 12]),xa 14 1 5,xs 2 14 13]
(Q [m 15 4,o 16 (.callF c4t [.t 15,cs [116,101,114,109,105,110,97,116,105,110,103]]),xa 17 3 5,xs 1 17 16]
(.seq (Q [m 18 4,o 19 (.callF a4f [.t 18,cs [112,97,116,104,95,104,97,115,104,95,112,114,101,102,105,120,101,115]])]
(.cond (.t 19)
(.ops [m 20 4,o 21 (.callF a9f [.t 20,cs [112,97,116,104,95,104,97,115,104,95,112,114,101,102,105,120,101,115],ci 32]),xa 22 5 5,xs 1 22 21])
(.ops [m 23 4,o 24 (.callF a9f [.t 23,cs [112,97,116,104,115],ci 32]),xa 25 4 5,xs 1 25 24])))
(.seq (Q [m 26 4,o 27 (.callF a1c [.t 26]),m 6 27]
(Q [m 28 6,o 29 (.bin .neq 0 true (.t 28) (ci 0))]
(.cond (.t 29)
(Q [o 30 (.build [ve,vi 0,.nils,(.bool false),.nils,.nils] []),m 31 6,xs 6 2 30,m 3 31]
(.ret [2,3]))
.skip)))
(.seq (Q [xl 32 6 5,o 33 (.callF b1b [.t 32]),o 34 (.un .not (.t 33))]
(.cond (.t 34)
(Q [o 35 (.build [ve,vi 0,.nils,(.bool false),.nils,.nils] []),xs 6 2 35,o 3 (.mv (ci 3))]
(.ret [2,3]))
.skip))
(Q [xl 36 6 5,xs 6 2 36,o 3 (.mv (ci 0))]
(.ret [2,3])))))))))))⟩
def e8x : KF:=⟨2,11,[(.cell 4 true 5),(.tmp 5)],(Q [o 4 (.new [vu 0,vi 0,vi 0,vi 0,ve] none),o 5 (.mv (ci 0))]
(Q [m 6 0,m 7 1,m 8 1,o 9 (.bin .add 0 true (.t 8) (ci 1)),o 10 (.build [vu 0,vi 0,vi 0,vi 0,ve] [(0,1,(.t 6)),(1,1,(.t 7)),(2,1,(.t 9))]),xs 5 4 10,o 5 (.mv (ci 0))]
(.ret [4,5])))⟩
end Go.Ev
