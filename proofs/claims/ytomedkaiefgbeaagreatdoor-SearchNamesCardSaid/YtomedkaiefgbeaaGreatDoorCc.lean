/- Code of functions as the evaluator has it, and what some of them compute. No conditions. -/
import Derived.Test.YtomedkaiefgbeaaGreatDoorCb
set_option linter.unusedVariables false
set_option linter.unusedSimpArgs false
namespace Go.Ev
def g4l : KC:=
(.seq (Q [m 18 7,m 19 0,o 20 (.len 0 (.t 19)),o 21 (.bin .lss 0 false (.t 18) (.t 20))]
(.cond (.t 21)
.skip
(.exit [0,1,7] 0)))
(.block 1
(Q [m 22 0,m 23 7,o 24 (.idxStr (.t 22) (.t 23))]
(.block 2
(.seq (Q [o 26 (.bin .eql 0 true (.t 24) (cu 48)),m 25 26]
(.cond (.t 25)
.skip
(Q [o 27 (.bin .eql 0 true (.t 24) (cu 49)),m 25 27]
(.cond (.t 25)
.skip
(Q [o 28 (.bin .eql 0 true (.t 24) (cu 50)),m 25 28]
(.cond (.t 25)
.skip
(Q [o 29 (.bin .eql 0 true (.t 24) (cu 51)),m 25 29]
(.cond (.t 25)
.skip
(Q [o 30 (.bin .eql 0 true (.t 24) (cu 52)),m 25 30]
(.cond (.t 25)
.skip
(Q [o 31 (.bin .eql 0 true (.t 24) (cu 53)),m 25 31]
(.cond (.t 25)
.skip
(Q [o 32 (.bin .eql 0 true (.t 24) (cu 54)),m 25 32]
(.cond (.t 25)
.skip
(Q [o 33 (.bin .eql 0 true (.t 24) (cu 55)),m 25 33]
(.cond (.t 25)
.skip
(Q [o 34 (.bin .eql 0 true (.t 24) (cu 56)),m 25 34]
(.cond (.t 25)
.skip
(Q [o 35 (.bin .eql 0 true (.t 24) (cu 57)),m 25 35]
(.cond (.t 25)
.skip
(Q [o 36 (.bin .eql 0 true (.t 24) (cu 45)),m 25 36]
(.cond (.t 25)
.skip
(Q [o 37 (.bin .eql 0 true (.t 24) (cu 43)),m 25 37]
(.cond (.t 25)
.skip
(Q [o 38 (.bin .eql 0 true (.t 24) (cu 46)),m 25 38]
(.cond (.t 25)
.skip
(Q [o 39 (.bin .eql 0 true (.t 24) (cu 101)),m 25 39]
(.cond (.t 25)
.skip
(.ops [o 40 (.bin .eql 0 true (.t 24) (cu 69)),m 25 40])))))))))))))))))))))))))))))
(.cond (.t 25)
(.ops [m 41 7,o 42 (.bin .add 0 true (.t 41) (ci 1)),m 7 42])
(.exit [0,1,7] 0)))))))
def e8f : KF:=⟨2,61,[(.tmp 4),(.tmp 5),(.tmp 6)],(Q [o 4 (.mv (ci 0)),o 5 (.mv (ci 0)),o 6 (.mv (ci 0))]
(.scope (.seq (Q [m 9 1,o 10 (.bin .lss 0 true (.t 9) (ci 0)),m 11 10,og 12 11 false (.mv (.t 1)),og 13 11 false (.mv (.t 0)),og 14 11 false (.len 0 (.t 13)),og 15 11 false (.bin .gtr 0 false (.t 12) (.t 14)),o 16 (.pick (.t 11) (.c (.bool true)) (.t 15))]
(.cond (.t 16)
(Q [o 4 (.mv (ci 0)),o 5 (.mv (ci 0)),o 6 (.mv (ci 1))]
(.ret [4,5,6]))
.skip))
(Q [m 17 1,m 7 17]
(.seq .skip
(.seq (.block 0
(.loop [0,1,7] g4l))
(.seq (Q [m 43 0,m 44 1,m 45 7,o 46 (.sliceStr (.t 43) (some (.t 44)) (some (.t 45))),o 47 (.callF d7g [.t 46]),o 48 (.un .not (.t 47))]
(.cond (.t 48)
(Q [o 4 (.mv (ci 0)),o 5 (.mv (ci 0)),o 6 (.mv (ci 3))]
(.ret [4,5,6]))
.skip))
(Q [m 50 0,m 51 1,m 52 7,o 53 (.sliceStr (.t 50) (some (.t 51)) (some (.t 52))),o 54 (.callF b6x [.t 53,ci 10,ci 64]),m 49 54,xe 55 49 0,xe 56 49 1,m 4 55,m 8 56]
(.seq (Q [m 57 8,o 58 (.bin .neq 5 true (.t 57) (.c .nilIface))]
(.cond (.t 58)
(Q [o 4 (.mv (ci 0)),o 5 (.mv (ci 0)),o 6 (.mv (ci 9))]
(.ret [4,5,6]))
.skip))
(Q [m 59 4,m 60 7,m 4 59,m 5 60,o 6 (.mv (ci 0))]
(.ret [4,5,6])))))))))))⟩
def a8o : KC:=
(.block 1
(Q [m 21 2,m 22 1,o 23 (.bin .sub 0 false (.t 21) (.t 22)),m 12 23]
(.seq (Q [m 24 12,o 25 (.bin .leq 0 true (.t 24) (ci 12))]
(.cond (.t 25)
(Q [m 26 0,m 27 1,m 28 2,m 29 4,o 30 (.callF a2j [.t 26,.t 27,.t 28,.t 29])]
(.ret []))
.skip))
(.seq (Q [m 31 3,o 32 (.bin .eql 0 true (.t 31) (ci 0))]
(.cond (.t 32)
(Q [m 33 0,m 34 1,m 35 2,m 36 4,o 37 (.callF a9c [.t 33,.t 34,.t 35,.t 36])]
(.ret []))
.skip))
(.seq (Q [m 38 10,o 39 (.un .not (.t 38))]
(.cond (.t 39)
(Q [m 40 0,m 41 1,m 42 2,m 43 4,o 44 (.callF a6k [.t 40,.t 41,.t 42,.t 43])]
(.ops [m 45 3,o 46 (.bin .sub 0 true (.t 45) (ci 1)),m 3 46]))
.skip))
(Q [m 48 0,m 49 1,m 50 2,m 51 4,o 52 (.callF a7n [.t 48,.t 49,.t 50,.t 51]),m 47 52,xe 53 47 0,xe 54 47 1,m 13 53,m 14 54]
(.seq (Q [m 55 14,o 56 (.bin .eql 0 true (.t 55) (ci 2))]
(.cond (.t 56)
(Q [m 57 0,m 58 1,m 59 2,m 60 4,o 61 (.callF a7f [.t 57,.t 58,.t 59,.t 60])]
(Q [m 62 2,o 63 (.bin .sub 0 true (.t 62) (ci 1)),m 64 13,m 65 1,o 66 (.bin .sub 0 false (.t 64) (.t 65)),o 67 (.bin .sub 0 false (.t 63) (.t 66)),m 13 67]
(.ops [o 14 (.mv (ci 1))])))
.skip))
(.seq (Q [m 68 10,m 69 68,og 70 69 true (.mv (.t 11)),o 71 (.pick (.t 69) (.t 70) (.c (.bool false))),m 72 71,og 73 72 true (.mv (.t 14)),og 74 72 true (.bin .eql 0 true (.t 73) (ci 1)),o 75 (.pick (.t 72) (.t 74) (.c (.bool false)))]
(.cond (.t 75)
(Q [m 76 0,m 77 1,m 78 2,m 79 4,o 80 (.callF a4b [.t 76,.t 77,.t 78,.t 79])]
(.cond (.t 80)
(.ret [])
.skip))
.skip))
(.seq (.seq (.plain [m 81 1,o 82 (.bin .gtr 0 true (.t 81) (ci 0)),m 83 82,og 84 83 true (.mv (.t 4)),og 85 83 true (.mv (.t 0)),og 86 83 true (.mv (.t 1)),og 87 83 true (.bin .sub 0 true (.t 86) (ci 1)),og 88 83 true (.idxAddrSl 6 (.t 85) (.t 87)),og 89 83 true (.load true 6 (.t 88)),og 90 83 true (.mv (.t 0)),og 91 83 true (.mv (.t 13)),og 92 83 true (.idxAddrSl 6 (.t 90) (.t 91)),og 93 83 true (.load true 6 (.t 92)),og 94 83 true (.callV (.t 84) [.t 89,.t 93]),og 95 83 true (.bin .lss 0 true (.t 94) (ci 0)),og 96 83 true (.un .not (.t 95)),o 97 (.pick (.t 83) (.t 96) (.c (.bool false)))])
(.cond (.t 97)
(Q [m 98 0,m 99 1,m 100 2,m 101 13,m 102 4,o 103 (.callF a6c [.t 98,.t 99,.t 100,.t 101,.t 102]),m 15 103]
(Q [m 104 15,m 1 104]
(.exit [0,1,2,3,4,10,11] 1)))
.skip))
(Q [m 106 0,m 107 1,m 108 2,m 109 13,m 110 4,o 111 (.callF a8h [.t 106,.t 107,.t 108,.t 109,.t 110]),m 105 111,xe 112 105 0,xe 113 105 1,m 16 112,m 17 113]
(Q [m 114 17,m 11 114]
(Q [m 115 16,m 116 1,o 117 (.bin .sub 0 false (.t 115) (.t 116)),m 118 2,m 119 16,o 120 (.bin .sub 0 false (.t 118) (.t 119)),m 18 117,m 19 120]
(Q [m 121 12,o 122 (.bin .quo 0 true (.t 121) (ci 8)),m 20 122]
(Q [m 123 18,m 124 19,o 125 (.bin .lss 0 false (.t 123) (.t 124))]
(.cond (.t 125)
(Q [m 126 18,m 127 20,o 128 (.bin .geq 0 false (.t 126) (.t 127)),m 10 128]
(Q [m 129 0,m 130 1,m 131 16,m 132 3,m 133 4,o 134 (.callF a1d [.t 129,.t 130,.t 131,.t 132,.t 133])]
(.ops [m 135 16,o 136 (.bin .add 0 true (.t 135) (ci 1)),m 1 136])))
(Q [m 137 19,m 138 20,o 139 (.bin .geq 0 false (.t 137) (.t 138)),m 10 139]
(Q [m 140 0,m 141 16,o 142 (.bin .add 0 true (.t 141) (ci 1)),m 143 2,m 144 3,m 145 4,o 146 (.callF a1d [.t 140,.t 142,.t 143,.t 144,.t 145])]
(.ops [m 147 16,m 2 147]))))))))))))))))))
def a3o : KF:=⟨5,148,[],(Q [o 10 (.mv (.c (.bool true)))]
(Q [o 11 (.mv (.c (.bool true)))]
(.block 0
(.loop [0,1,2,3,4,10,11] a8o))))⟩
def c3j : KF:=⟨2,8,[(.tmp 4)],(Q [o 4 (.mv (.c (.bool false)))]
(Q [m 5 0,m 6 1,o 7 (.callF c2d [.t 5,.t 6,(.c (.func (.func b8u) [] []))]),m 4 7]
(.ret [4])))⟩
def e7c : KC:=
(Q [o 25 (.bin .lss 0 false (.t 24) (.t 23))]
(.seq (.cond (.t 25)
.skip
(.exit [] 0))
(.seq (.block 1
(Q [m 26 24,m 3 26]
(Q [m 27 0,m 28 3,o 29 (.idxStr (.t 27) (.t 28)),o 30 (.bin .lss 0 true (.t 29) (cu 48)),m 31 30,og 32 31 false (.mv (.t 0)),og 33 31 false (.mv (.t 3)),og 34 31 false (.idxStr (.t 32) (.t 33)),og 35 31 false (.bin .gtr 0 true (.t 34) (cu 57)),o 36 (.pick (.t 31) (.c (.bool true)) (.t 35))]
(.cond (.t 36)
(Q [o 2 (.mv (.c (.bool false)))]
(.ret [2]))
.skip))))
(.ops [o 37 (.bin .add 0 true (.t 24) (ci 1)),m 24 37]))))
def d8l : KF:=⟨1,38,[(.tmp 2)],(Q [o 2 (.mv (.c (.bool false)))]
(.seq (Q [m 4 0,o 5 (.bin .eql 0 true (.t 4) (cs [48]))]
(.cond (.t 5)
(Q [o 2 (.mv (.c (.bool true)))]
(.ret [2]))
.skip))
(.seq (Q [m 6 0,o 7 (.bin .neq 0 true (.t 6) (cs [])),m 8 7,og 9 8 true (.mv (.t 0)),og 10 8 true (.idxStr (.t 9) (ci 0)),og 11 8 true (.bin .eql 0 true (.t 10) (cu 45)),o 12 (.pick (.t 8) (.t 11) (.c (.bool false)))]
(.cond (.t 12)
(.ops [m 13 0,o 14 (.sliceStr (.t 13) (some (ci 1)) none),m 0 14])
.skip))
(.seq (Q [m 15 0,o 16 (.bin .eql 0 true (.t 15) (cs [])),m 17 16,og 18 17 false (.mv (.t 0)),og 19 17 false (.idxStr (.t 18) (ci 0)),og 20 17 false (.bin .eql 0 true (.t 19) (cu 48)),o 21 (.pick (.t 17) (.c (.bool true)) (.t 20))]
(.cond (.t 21)
(Q [o 2 (.mv (.c (.bool false)))]
(.ret [2]))
.skip))
(.seq (Q [m 22 0,o 23 (.len 0 (.t 22)),o 24 (.mv (ci 0))]
(.block 0
(.loop [0,23,24] e7c)))
(Q [o 2 (.mv (.c (.bool true)))]
(.ret [2])))))))⟩
def b6o : KF:=⟨3,25,[(.tmp 6),(.tmp 7)],(Q [o 6 (.mv (ci 0)),o 7 (.mv (.c .nilIface))]
(Q [m 10 0,m 11 1,m 12 2,o 13 (.callF a7m [.t 10,.t 11,.t 12]),m 9 13,xe 14 9 0,xe 15 9 1,m 8 14,m 7 15]
(.seq (Q [m 16 7,o 17 (.bin .neq 5 true (.t 16) (.c .nilIface))]
(.cond (.t 17)
(Q [m 18 8,m 19 0,m 20 1,m 21 2,m 22 7,o 23 (.callF d5j [cs [80,97,114,115,101,73,110,116],.t 19,.t 20,.t 21,.t 22]),m 6 18,m 7 23]
(.ret [6,7]))
.skip))
(Q [m 24 8,m 6 24,o 7 (.mv (.c .nilIface))]
(.ret [6,7])))))⟩
def a5f : KC:=
(.seq (.seq (.plain [m 18 9,m 19 1,o 20 (.bin .gtr 0 false (.t 18) (.t 19)),m 21 20,og 22 21 true (.mv (.t 3)),og 23 21 true (.mv (.t 0)),og 24 21 true (.mv (.t 9)),og 25 21 true (.idxAddrSl 6 (.t 23) (.t 24)),og 26 21 true (.load true 6 (.t 25)),og 27 21 true (.mv (.t 0)),og 28 21 true (.mv (.t 9)),og 29 21 true (.bin .sub 0 true (.t 28) (ci 1)),og 30 21 true (.idxAddrSl 6 (.t 27) (.t 29)),og 31 21 true (.load true 6 (.t 30)),og 32 21 true (.callV (.t 22) [.t 26,.t 31]),og 33 21 true (.bin .lss 0 true (.t 32) (ci 0)),o 34 (.pick (.t 21) (.t 33) (.c (.bool false)))])
(.cond (.t 34)
.skip
(.exit [0,1,2,3,8] 2)))
(.seq (.block 3
(.plain [m 37 0,m 38 9,m 39 0,m 40 9,o 41 (.bin .sub 0 true (.t 40) (ci 1)),m 42 0,m 43 9,o 44 (.bin .sub 0 true (.t 43) (ci 1)),o 45 (.idxAddrSl 6 (.t 42) (.t 44)),xl 46 6 45,m 47 0,m 48 9,o 49 (.idxAddrSl 6 (.t 47) (.t 48)),xl 50 6 49,o 51 (.idxAddrSl 6 (.t 37) (.t 38)),xs 6 51 46,o 52 (.idxAddrSl 6 (.t 39) (.t 41)),xs 6 52 50]))
(.ops [m 35 9,o 36 (.bin .sub 0 true (.t 35) (ci 1)),m 9 36])))
def a5p : KC:=
(.seq (Q [m 12 8,m 13 2,o 14 (.bin .lss 0 false (.t 12) (.t 13))]
(.cond (.t 14)
.skip
(.exit [] 0)))
(.seq (.block 1
(Q [m 17 8,m 9 17]
(.block 2
(.loop [0,1,2,3,8,9] a5f))))
(.ops [m 15 8,o 16 (.bin .add 0 true (.t 15) (ci 1)),m 8 16])))
def a2f : KF:=⟨4,53,[],(Q [m 10 1,o 11 (.bin .add 0 true (.t 10) (ci 1)),m 8 11]
(.block 0
(.loop [0,1,2,3,8] a5p)))⟩
def c1z : KF:=⟨3,50,[(.tmp 6)],(Q [o 6 (.mv (.c (.bool false)))]
(Q [o 7 (.mv (.c (.bool false)))]
(.seq (Q [m 12 0,o 13 (.callF a1q [.t 12]),o 14 (.bin .neq 0 true (.t 13) (ci 0))]
(.cond (.t 14)
(Q [m 15 7,m 6 15]
(.ret [6]))
.skip))
(Q [m 17 0,o 18 (.nilck (.t 17)),xa 19 0 18,xl 20 5 19,m 21 1,o 22 (.callF a1e [.t 20,.t 21]),m 16 22,xe 23 16 0,xe 24 16 1,o 8 (.new [vu 0,vi 0,ve,.nils,.nils] none),xs 5 8 23,m 9 24]
(.seq (Q [m 25 9,o 26 (.un .not (.t 25))]
(.cond (.t 26)
(Q [m 27 0,o 28 (.callF a0i [.t 27,ci 6])]
(Q [m 29 7,m 6 29]
(.ret [6])))
.skip))
(Q [m 31 2,xl 32 5 8,o 33 (.callV (.t 31) [.t 32]),m 30 33,xe 34 30 0,xe 35 30 1,m 10 34,m 11 35]
(.seq (Q [m 36 11,o 37 (.bin .neq 0 true (.t 36) (ci 0))]
(.cond (.t 37)
(Q [m 38 0,m 39 11,o 40 (.callF a0i [.t 38,.t 39])]
(Q [m 41 7,m 6 41]
(.ret [6])))
.skip))
(Q [m 42 0,o 43 (.nilck (.t 42)),xa 44 5 43,xf 45 44,m 46 1,o 47 (.lookup (vi 0) (.t 45) (.t 46) false),o 48 (.bin .add 0 true (.t 47) (ci 1)),u (.mapUpd (.t 45) (.t 46) (.t 48))]
(Q [m 49 10,m 6 49]
(.ret [6]))))))))))⟩
def b9s : KF:=⟨1,10,[(.tmp 2),(.tmp 3)],(Q [o 1 (.box (.t 0)),o 2 (.mv (.c (.bool false))),o 3 (.mv (ci 0))]
(.seq (Q [xa 4 0 1,xf 5 4,o 6 (.bin .neq 0 true (.t 5) (cu 1))]
(.cond (.t 6)
(Q [o 2 (.mv (.c (.bool false))),o 3 (.mv (ci 10))]
(.ret [2,3]))
.skip))
(Q [xa 7 1 1,xf 8 7,o 9 (.bin .eql 0 true (.t 8) (ci 1)),m 2 9,o 3 (.mv (ci 0))]
(.ret [2,3]))))⟩
def a7v : KF:=⟨3,73,[(.tmp 6),(.tmp 7)],(Q [o 6 (.mv (ci 0)),o 7 (.mv (.c .nilIface))]
(.seq (Q [m 12 0,o 13 (.bin .eql 0 true (.t 12) (cs []))]
(.cond (.t 13)
(Q [o 14 (.mkIface 489 (ci 2)),o 6 (.mv (ci 0)),m 7 14]
(.ret [6,7]))
.skip))
(Q [o 8 (.mv (.c (.bool false)))]
(.seq (Q [m 15 0,o 16 (.idxStr (.t 15) (ci 0))]
(.block 0
(Q [o 18 (.bin .eql 0 true (.t 16) (cu 43)),m 17 18]
(.cond (.t 17)
(.ops [m 19 0,o 20 (.sliceStr (.t 19) (some (ci 1)) none),m 0 20])
(Q [o 22 (.bin .eql 0 true (.t 16) (cu 45)),m 21 22]
(.cond (.t 21)
(Q [m 23 0,o 24 (.sliceStr (.t 23) (some (ci 1)) none),m 0 24]
(.ops [o 8 (.mv (.c (.bool true)))]))
.skip))))))
(Q [o 9 (.mv (.c (.int .u64 0)))]
(Q [m 26 0,m 27 1,m 28 2,o 29 (.callF a6r [.t 26,.t 27,.t 28]),m 25 29,xe 30 25 0,xe 31 25 1,m 9 30,m 7 31]
(.seq (Q [m 32 7,o 33 (.bin .neq 5 true (.t 32) (.c .nilIface)),m 34 33,og 35 34 true (.mv (.t 7)),og 36 34 true (.mkIface 489 (ci 1)),og 37 34 true (.bin .neq 5 false (.t 35) (.t 36)),o 38 (.pick (.t 34) (.t 37) (.c (.bool false)))]
(.cond (.t 38)
(Q [m 39 7,o 6 (.mv (ci 0)),m 7 39]
(.ret [6,7]))
.skip))
(.seq (Q [m 40 2,o 41 (.bin .eql 0 true (.t 40) (ci 0))]
(.cond (.t 41)
(.ops [o 2 (.mv (ci 64))])
.skip))
(Q [m 42 2,o 43 (.bin .sub 0 true (.t 42) (ci 1)),o 44 (.i2i .u64 (.t 43)),o 45 (.bin .shl 0 true (.c (.int .u64 1)) (.t 44)),m 10 45]
(.seq (Q [m 46 8,o 47 (.un .not (.t 46)),m 48 47,og 49 48 true (.mv (.t 9)),og 50 48 true (.mv (.t 10)),og 51 48 true (.bin .geq 0 false (.t 49) (.t 50)),o 52 (.pick (.t 48) (.t 51) (.c (.bool false)))]
(.cond (.t 52)
(Q [m 53 10,o 54 (.bin .sub 0 true (.t 53) (.c (.int .u64 1))),o 55 (.i2i .i64 (.t 54)),o 56 (.mkIface 489 (ci 1)),m 6 55,m 7 56]
(.ret [6,7]))
.skip))
(.seq (Q [m 57 8,m 58 57,og 59 58 true (.mv (.t 9)),og 60 58 true (.mv (.t 10)),og 61 58 true (.bin .gtr 0 false (.t 59) (.t 60)),o 62 (.pick (.t 58) (.t 61) (.c (.bool false)))]
(.cond (.t 62)
(Q [m 63 10,o 64 (.i2i .i64 (.t 63)),o 65 (.un .neg (.t 64)),o 66 (.mkIface 489 (ci 1)),m 6 65,m 7 66]
(.ret [6,7]))
.skip))
(Q [m 67 9,o 68 (.i2i .i64 (.t 67)),m 11 68]
(.seq (Q [m 69 8]
(.cond (.t 69)
(.ops [m 70 11,o 71 (.un .neg (.t 70)),m 11 71])
.skip))
(Q [m 72 11,m 6 72,o 7 (.mv (.c .nilIface))]
(.ret [6,7])))))))))))))))⟩
def b2i : KC:=
(Q [o 102 (.bin .lss 0 false (.t 101) (.t 100))]
(.seq (.cond (.t 102)
.skip
(.exit [9,12,13] 3))
(.seq (.block 4
(Q [o 103 (.idxAddrSl 1 (.t 99) (.t 101)),xf 104 103,m 15 104]
(Q [o 16 (.mv (cu 0))]
(.seq (.block 5
(Q [m 107 15,o 108 (.bin .eql 0 true (.t 107) (cu 95)),m 109 108,og 110 109 true (.mv (.t 8)),o 111 (.pick (.t 109) (.t 110) (.c (.bool false))),m 106 111]
(.cond (.t 106)
(Q [o 12 (.mv (.c (.bool true)))]
(.exit [1,8,9,10,11,12,13,99,100,101] 4))
(Q [m 113 15,o 114 (.bin .leq 0 true (cu 48) (.t 113)),m 115 114,og 116 115 true (.mv (.t 15)),og 117 115 true (.bin .leq 0 true (.t 116) (cu 57)),o 118 (.pick (.t 115) (.t 117) (.c (.bool false))),m 112 118]
(.cond (.t 112)
(.ops [m 119 15,o 120 (.bin .sub 0 true (.t 119) (cu 48)),m 16 120])
(Q [m 122 15,o 123 (.callF a1o [.t 122]),o 124 (.bin .leq 0 true (cu 97) (.t 123)),m 125 124,og 126 125 true (.mv (.t 15)),og 127 125 true (.callF a1o [.t 126]),og 128 125 true (.bin .leq 0 true (.t 127) (cu 122)),o 129 (.pick (.t 125) (.t 128) (.c (.bool false))),m 121 129]
(.cond (.t 121)
(.ops [m 130 15,o 131 (.callF a1o [.t 130]),o 132 (.bin .sub 0 true (.t 131) (cu 97)),o 133 (.bin .add 0 true (.t 132) (cu 10)),m 16 133])
(Q [o 105 (.mkIface 489 (ci 2)),o 6 (.mv (.c (.int .u64 0))),m 7 105]
(.ret [6,7])))))))))
(.seq (Q [m 134 16,m 135 1,o 136 (.i2i .u8 (.t 135)),o 137 (.bin .geq 0 false (.t 134) (.t 136))]
(.cond (.t 137)
(Q [o 138 (.mkIface 489 (ci 2)),o 6 (.mv (.c (.int .u64 0))),m 7 138]
(.ret [6,7]))
.skip))
(.seq (Q [m 139 13,m 140 10,o 141 (.bin .geq 0 false (.t 139) (.t 140))]
(.cond (.t 141)
(Q [m 142 11,o 143 (.mkIface 489 (ci 1)),m 6 142,m 7 143]
(.ret [6,7]))
.skip))
(Q [m 144 13,m 145 1,o 146 (.i2i .u64 (.t 145)),o 147 (.bin .mul 0 false (.t 144) (.t 146)),m 13 147]
(Q [m 148 13,m 149 16,o 150 (.i2i .u64 (.t 149)),o 151 (.bin .add 0 false (.t 148) (.t 150)),m 17 151]
(.seq (Q [m 152 17,m 153 13,o 154 (.bin .lss 0 false (.t 152) (.t 153)),m 155 154,og 156 155 false (.mv (.t 17)),og 157 155 false (.mv (.t 11)),og 158 155 false (.bin .gtr 0 false (.t 156) (.t 157)),o 159 (.pick (.t 155) (.c (.bool true)) (.t 158))]
(.cond (.t 159)
(Q [m 160 11,o 161 (.mkIface 489 (ci 1)),m 6 160,m 7 161]
(.ret [6,7]))
.skip))
(.ops [m 162 17,m 13 162]))))))))))
(.ops [o 163 (.bin .add 0 true (.t 101) (ci 1)),m 101 163]))))
def a6w : KF:=⟨3,172,[(.tmp 6),(.tmp 7)],(Q [o 6 (.mv (.c (.int .u64 0))),o 7 (.mv (.c .nilIface))]
(.seq (Q [m 18 0,o 19 (.bin .eql 0 true (.t 18) (cs []))]
(.cond (.t 19)
(Q [o 20 (.mkIface 489 (ci 2)),o 6 (.mv (.c (.int .u64 0))),m 7 20]
(.ret [6,7]))
.skip))
(Q [m 21 1,o 22 (.bin .eql 0 true (.t 21) (ci 0)),m 8 22]
(Q [m 23 0,m 9 23]
(.seq (.block 0
(Q [m 26 1,o 27 (.bin .leq 0 true (ci 2) (.t 26)),m 28 27,og 29 28 true (.mv (.t 1)),og 30 28 true (.bin .leq 0 true (.t 29) (ci 36)),o 31 (.pick (.t 28) (.t 30) (.c (.bool false))),m 25 31]
(.cond (.t 25)
.skip
(Q [m 33 1,o 34 (.bin .eql 0 true (.t 33) (ci 0)),m 32 34]
(.cond (.t 32)
(Q [o 1 (.mv (ci 10))]
(Q [m 35 0,o 36 (.idxStr (.t 35) (ci 0)),o 37 (.bin .eql 0 true (.t 36) (cu 48))]
(.cond (.t 37)
(.block 1
(Q [m 41 0,o 42 (.len 0 (.t 41)),o 43 (.bin .geq 0 true (.t 42) (ci 3)),m 44 43,og 45 44 true (.mv (.t 0)),og 46 44 true (.idxStr (.t 45) (ci 1)),og 47 44 true (.callF a1o [.t 46]),og 48 44 true (.bin .eql 0 true (.t 47) (cu 98)),o 49 (.pick (.t 44) (.t 48) (.c (.bool false))),m 40 49]
(.cond (.t 40)
(Q [o 1 (.mv (ci 2))]
(.ops [m 50 0,o 51 (.sliceStr (.t 50) (some (ci 2)) none),m 0 51]))
(Q [m 53 0,o 54 (.len 0 (.t 53)),o 55 (.bin .geq 0 true (.t 54) (ci 3)),m 56 55,og 57 56 true (.mv (.t 0)),og 58 56 true (.idxStr (.t 57) (ci 1)),og 59 56 true (.callF a1o [.t 58]),og 60 56 true (.bin .eql 0 true (.t 59) (cu 111)),o 61 (.pick (.t 56) (.t 60) (.c (.bool false))),m 52 61]
(.cond (.t 52)
(Q [o 1 (.mv (ci 8))]
(.ops [m 62 0,o 63 (.sliceStr (.t 62) (some (ci 2)) none),m 0 63]))
(Q [m 65 0,o 66 (.len 0 (.t 65)),o 67 (.bin .geq 0 true (.t 66) (ci 3)),m 68 67,og 69 68 true (.mv (.t 0)),og 70 68 true (.idxStr (.t 69) (ci 1)),og 71 68 true (.callF a1o [.t 70]),og 72 68 true (.bin .eql 0 true (.t 71) (cu 120)),o 73 (.pick (.t 68) (.t 72) (.c (.bool false))),m 64 73]
(.cond (.t 64)
(Q [o 1 (.mv (ci 16))]
(.ops [m 74 0,o 75 (.sliceStr (.t 74) (some (ci 2)) none),m 0 75]))
(Q [o 1 (.mv (ci 8))]
(.ops [m 38 0,o 39 (.sliceStr (.t 38) (some (ci 1)) none),m 0 39])))))))))
.skip)))
(Q [o 24 (.mkIface 489 (ci 3)),o 6 (.mv (.c (.int .u64 0))),m 7 24]
(.ret [6,7])))))))
(.seq (Q [m 76 2,o 77 (.bin .eql 0 true (.t 76) (ci 0))]
(.cond (.t 77)
(.ops [o 2 (.mv (ci 64))])
(Q [m 78 2,o 79 (.bin .lss 0 true (.t 78) (ci 0)),m 80 79,og 81 80 false (.mv (.t 2)),og 82 80 false (.bin .gtr 0 true (.t 81) (ci 64)),o 83 (.pick (.t 80) (.c (.bool true)) (.t 82))]
(.cond (.t 83)
(Q [o 84 (.mkIface 489 (ci 4)),o 6 (.mv (.c (.int .u64 0))),m 7 84]
(.ret [6,7]))
.skip))))
(Q [o 10 (.mv (.c (.int .u64 0)))]
(.seq (Q [m 85 1]
(.block 2
(Q [o 91 (.bin .eql 0 true (.t 85) (ci 10)),m 90 91]
(.cond (.t 90)
(.ops [o 10 (.mv (.c (.int .u64 1844674407370955162)))])
(Q [o 93 (.bin .eql 0 true (.t 85) (ci 16)),m 92 93]
(.cond (.t 92)
(.ops [o 10 (.mv (.c (.int .u64 1152921504606846976)))])
(.ops [m 86 1,o 87 (.i2i .u64 (.t 86)),o 88 (.bin .quo 0 true (.c (.int .u64 18446744073709551615)) (.t 87)),o 89 (.bin .add 0 true (.t 88) (.c (.int .u64 1))),m 10 89])))))))
(Q [m 94 2,o 95 (.i2i .u64 (.t 94)),o 96 (.bin .shl 0 true (.c (.int .u64 1)) (.t 95)),o 97 (.bin .sub 0 true (.t 96) (.c (.int .u64 1))),m 11 97]
(Q [o 12 (.mv (.c (.bool false)))]
(Q [o 13 (.mv (.c (.int .u64 0)))]
(.seq (Q [m 98 0,o 99 (.s2b (.t 98)),o 100 (.len 1 (.t 99)),o 101 (.mv (ci 0))]
(.block 3
(.loop [1,8,9,10,11,12,13,99,100,101] b2i)))
(.seq (Q [m 164 12,m 165 164,og 166 165 true (.mv (.t 9)),og 167 165 true (.callF b1r [.t 166]),og 168 165 true (.un .not (.t 167)),o 169 (.pick (.t 165) (.t 168) (.c (.bool false)))]
(.cond (.t 169)
(Q [o 170 (.mkIface 489 (ci 2)),o 6 (.mv (.c (.int .u64 0))),m 7 170]
(.ret [6,7]))
.skip))
(Q [m 171 13,m 6 171,o 7 (.mv (.c .nilIface))]
(.ret [6,7])))))))))))))))⟩
def b7r : KF:=⟨4,38,[(.tmp 8)],(Q [o 4 (.box (.t 0)),o 5 (.box (.t 1)),o 6 (.box (.t 2)),o 8 (.mv (.c (.bool false)))]
(.seq (Q [xa 12 0 5,xf 13 12,o 14 (.bin .neq 0 true (.t 13) (cs [104,109,97,99,45,115,104,97,50,53,54]))]
(.cond (.t 14)
(Q [o 8 (.mv (.c (.bool false)))]
(.ret [8]))
.skip))
(Q [xa 16 1 5,xf 17 16,o 18 (.callF b7h [.t 17]),m 15 18,xe 19 15 0,xe 20 15 1,m 9 19,m 10 20]
(.seq (Q [m 21 10,o 22 (.bin .neq 0 true (.t 21) (ci 0))]
(.cond (.t 22)
(Q [o 8 (.mv (.c (.bool false)))]
(.ret [8]))
.skip))
(Q [xa 24 1 6,xf 25 24,o 26 (.callF b7h [.t 25]),m 23 26,xe 27 23 0,xe 28 23 1,m 11 27,m 10 28]
(Q [m 29 10,o 30 (.bin .eql 0 true (.t 29) (ci 0)),m 31 30,og 32 31 true (.mv (.t 11)),og 33 31 true (.mv (.t 9)),og 34 31 true (.mv (.t 3)),og 35 31 true (.callF a1j [.t 33,.t 34]),og 36 31 true (.callF e7p [.t 32,.t 35]),o 37 (.pick (.t 31) (.t 36) (.c (.bool false))),m 8 37]
(.ret [8])))))))⟩
def b4d : KF:=⟨2,8,[(.tmp 4)],(Q [o 4 (.mv (.c (.bool false)))]
(Q [m 5 0,m 6 1,o 7 (.callF g0p [.t 5,.t 6]),m 4 7]
(.ret [4])))⟩
def e8o : KF:=⟨2,14,[(.tmp 4)],(Q [o 4 (.mv (.c (.bool false)))]
(Q [m 8 0,m 9 1,o 10 (.callF d6o [.t 8,.t 9]),m 7 10,xe 11 7 0,xe 12 7 1,m 5 11,m 6 12]
(Q [m 13 6,m 4 13]
(.ret [4]))))⟩
def e6d : KC:=
(Q [o 11 (.bin .lss 0 false (.t 10) (.t 9))]
(.seq (.cond (.t 11)
.skip
(.exit [] 0))
(.seq (.block 1
(Q [m 12 10,o 13 (.idxAddrSl 1 (.t 8) (.t 10)),xf 14 13,m 6 12,m 7 14]
(Q [m 15 7,m 16 1,o 17 (.callF d7m [.t 15,.t 16])]
(.cond (.t 17)
(Q [m 18 6,m 4 18,o 5 (.mv (.c (.bool true)))]
(.ret [4,5]))
.skip))))
(.ops [o 19 (.bin .add 0 true (.t 10) (ci 1)),m 10 19]))))
def d7i : KF:=⟨2,20,[(.tmp 4),(.tmp 5)],(Q [o 4 (.mv (ci 0)),o 5 (.mv (.c (.bool false)))]
(.seq (Q [m 8 0,o 9 (.len 1 (.t 8)),o 10 (.mv (ci 0))]
(.block 0
(.loop [1,8,9,10] e6d)))
(Q [o 4 (.mv (ci 0)),o 5 (.mv (.c (.bool false)))]
(.ret [4,5]))))⟩
def d8o : KF:=⟨2,18,[(.tmp 4)],(Q [o 4 (.mv (.c (.bool false)))]
(.seq (Q [m 5 0,o 6 (.callF b7w [.t 5]),o 7 (.un .not (.t 6)),m 8 7,og 9 8 false (.mv (.t 1)),og 10 8 false (.callF a7h [.t 9]),og 11 8 false (.un .not (.t 10)),o 12 (.pick (.t 8) (.c (.bool true)) (.t 11))]
(.cond (.t 12)
(Q [o 4 (.mv (.c (.bool false)))]
(.ret [4]))
.skip))
(Q [m 13 0,o 14 (.s2r (.t 13)),m 15 1,o 16 (.s2r (.t 15)),o 17 (.callF d8w [.t 14,.t 16]),m 4 17]
(.ret [4]))))⟩
def e5x : KC:=
(.block 1000001
(.seq (.seq .skip
(.seq (Q [m 9 5,m 10 0,o 11 (.len 1 (.t 10)),o 12 (.bin .eql 0 false (.t 9) (.t 11)),m 13 12,og 14 13 true (.mv (.t 6)),og 15 13 true (.mv (.t 1)),og 16 13 true (.len 1 (.t 15)),og 17 13 true (.bin .eql 0 false (.t 14) (.t 16)),o 18 (.pick (.t 13) (.t 17) (.c (.bool false)))]
(.cond (.t 18)
(Q [o 4 (.mv (.c (.bool true)))]
(.ret [4]))
.skip))
(.seq (Q [m 19 5,m 20 0,o 21 (.len 1 (.t 20)),o 22 (.bin .lss 0 false (.t 19) (.t 21)),m 23 22,og 24 23 true (.mv (.t 0)),og 25 23 true (.mv (.t 5)),og 26 23 true (.idxAddrSl 1 (.t 24) (.t 25)),og 27 23 true (.load false 1 (.t 26)),og 28 23 true (.bin .eql 0 true (.t 27) (.c (.int .i32 42))),o 29 (.pick (.t 23) (.t 28) (.c (.bool false)))]
(.cond (.t 29)
(Q [m 30 5,m 31 6,m 7 30,m 8 31]
(Q [m 32 5,o 33 (.bin .add 0 true (.t 32) (ci 1)),m 5 33]
(.exit [0,1,5,6,7,8] 1000001)))
.skip))
(.seq (.seq (.plain [m 34 5,m 35 0,o 36 (.len 1 (.t 35)),o 37 (.bin .lss 0 false (.t 34) (.t 36)),m 38 37,og 39 38 true (.mv (.t 6)),og 40 38 true (.mv (.t 1)),og 41 38 true (.len 1 (.t 40)),og 42 38 true (.bin .lss 0 false (.t 39) (.t 41)),o 43 (.pick (.t 38) (.t 42) (.c (.bool false))),m 44 43,og 45 44 true (.mv (.t 0)),og 46 44 true (.mv (.t 5)),og 47 44 true (.idxAddrSl 1 (.t 45) (.t 46)),og 48 44 true (.load false 1 (.t 47)),og 49 44 true (.mv (.t 1)),og 50 44 true (.mv (.t 6)),og 51 44 true (.idxAddrSl 1 (.t 49) (.t 50)),og 52 44 true (.load false 1 (.t 51)),og 53 44 true (.callF d4l [.t 48,.t 52]),o 54 (.pick (.t 44) (.t 53) (.c (.bool false)))])
(.cond (.t 54)
(Q [m 55 5,o 56 (.bin .add 0 true (.t 55) (ci 1)),m 5 56]
(Q [m 57 6,o 58 (.bin .add 0 true (.t 57) (ci 1)),m 6 58]
(.exit [0,1,5,6,7,8] 1000001)))
.skip))
(.seq (Q [m 59 7,o 60 (.bin .lss 0 true (.t 59) (ci 0)),m 61 60,og 62 61 false (.mv (.t 8)),og 63 61 false (.mv (.t 1)),og 64 61 false (.len 1 (.t 63)),og 65 61 false (.bin .eql 0 false (.t 62) (.t 64)),o 66 (.pick (.t 61) (.c (.bool true)) (.t 65)),m 67 66,og 68 67 false (.mv (.t 1)),og 69 67 false (.mv (.t 8)),og 70 67 false (.idxAddrSl 1 (.t 68) (.t 69)),og 71 67 false (.load false 1 (.t 70)),og 72 67 false (.bin .eql 0 true (.t 71) (.c (.int .i32 47))),o 73 (.pick (.t 67) (.c (.bool true)) (.t 72))]
(.cond (.t 73)
(Q [o 4 (.mv (.c (.bool false)))]
(.ret [4]))
.skip))
(Q [m 74 8,o 75 (.bin .add 0 true (.t 74) (ci 1)),m 8 75]
(Q [m 76 7,o 77 (.bin .add 0 true (.t 76) (ci 1)),m 78 8,m 5 77,m 6 78]
(.exit [0,1,5,6,7,8] 1000001))))))))
(.exit [4] 1000000)))
def d8u : KF:=⟨2,79,[(.tmp 4)],(Q [o 4 (.mv (.c (.bool false)))]
(.block 1000000
(.seq (.block 1000001
(.seq (Q [o 5 (.mv (ci 0)),o 6 (.mv (ci 0))]
(Q [o 7 (.mv (ci (-1))),o 8 (.mv (ci 0))]
(.seq .skip
(.seq (Q [m 9 5,m 10 0,o 11 (.len 1 (.t 10)),o 12 (.bin .eql 0 false (.t 9) (.t 11)),m 13 12,og 14 13 true (.mv (.t 6)),og 15 13 true (.mv (.t 1)),og 16 13 true (.len 1 (.t 15)),og 17 13 true (.bin .eql 0 false (.t 14) (.t 16)),o 18 (.pick (.t 13) (.t 17) (.c (.bool false)))]
(.cond (.t 18)
(Q [o 4 (.mv (.c (.bool true)))]
(.ret [4]))
.skip))
(.seq (Q [m 19 5,m 20 0,o 21 (.len 1 (.t 20)),o 22 (.bin .lss 0 false (.t 19) (.t 21)),m 23 22,og 24 23 true (.mv (.t 0)),og 25 23 true (.mv (.t 5)),og 26 23 true (.idxAddrSl 1 (.t 24) (.t 25)),og 27 23 true (.load false 1 (.t 26)),og 28 23 true (.bin .eql 0 true (.t 27) (.c (.int .i32 42))),o 29 (.pick (.t 23) (.t 28) (.c (.bool false)))]
(.cond (.t 29)
(Q [m 30 5,m 31 6,m 7 30,m 8 31]
(Q [m 32 5,o 33 (.bin .add 0 true (.t 32) (ci 1)),m 5 33]
(.exit [0,1,5,6,7,8] 1000001)))
.skip))
(.seq (.seq (.plain [m 34 5,m 35 0,o 36 (.len 1 (.t 35)),o 37 (.bin .lss 0 false (.t 34) (.t 36)),m 38 37,og 39 38 true (.mv (.t 6)),og 40 38 true (.mv (.t 1)),og 41 38 true (.len 1 (.t 40)),og 42 38 true (.bin .lss 0 false (.t 39) (.t 41)),o 43 (.pick (.t 38) (.t 42) (.c (.bool false))),m 44 43,og 45 44 true (.mv (.t 0)),og 46 44 true (.mv (.t 5)),og 47 44 true (.idxAddrSl 1 (.t 45) (.t 46)),og 48 44 true (.load false 1 (.t 47)),og 49 44 true (.mv (.t 1)),og 50 44 true (.mv (.t 6)),og 51 44 true (.idxAddrSl 1 (.t 49) (.t 50)),og 52 44 true (.load false 1 (.t 51)),og 53 44 true (.callF d4l [.t 48,.t 52]),o 54 (.pick (.t 44) (.t 53) (.c (.bool false)))])
(.cond (.t 54)
(Q [m 55 5,o 56 (.bin .add 0 true (.t 55) (ci 1)),m 5 56]
(Q [m 57 6,o 58 (.bin .add 0 true (.t 57) (ci 1)),m 6 58]
(.exit [0,1,5,6,7,8] 1000001)))
.skip))
(.seq (Q [m 59 7,o 60 (.bin .lss 0 true (.t 59) (ci 0)),m 61 60,og 62 61 false (.mv (.t 8)),og 63 61 false (.mv (.t 1)),og 64 61 false (.len 1 (.t 63)),og 65 61 false (.bin .eql 0 false (.t 62) (.t 64)),o 66 (.pick (.t 61) (.c (.bool true)) (.t 65)),m 67 66,og 68 67 false (.mv (.t 1)),og 69 67 false (.mv (.t 8)),og 70 67 false (.idxAddrSl 1 (.t 68) (.t 69)),og 71 67 false (.load false 1 (.t 70)),og 72 67 false (.bin .eql 0 true (.t 71) (.c (.int .i32 47))),o 73 (.pick (.t 67) (.c (.bool true)) (.t 72))]
(.cond (.t 73)
(Q [o 4 (.mv (.c (.bool false)))]
(.ret [4]))
.skip))
(Q [m 74 8,o 75 (.bin .add 0 true (.t 74) (ci 1)),m 8 75]
(Q [m 76 7,o 77 (.bin .add 0 true (.t 76) (ci 1)),m 78 8,m 5 77,m 6 78]
(.exit [0,1,5,6,7,8] 1000001))))))))))
(.exit [4] 1000000)))
(.loop [0,1,5,6,7,8] e5x))))⟩
def e9a : KF:=⟨2,12,[(.tmp 4)],(Q [o 4 (.mv (.c (.bool false)))]
(.seq (Q [m 5 0,o 6 (.bin .eql 0 true (.t 5) (.c (.int .i32 63)))]
(.cond (.t 6)
(Q [m 7 1,o 8 (.bin .neq 0 true (.t 7) (.c (.int .i32 47))),m 4 8]
(.ret [4]))
.skip))
(Q [m 9 0,m 10 1,o 11 (.bin .eql 0 false (.t 9) (.t 10)),m 4 11]
(.ret [4]))))⟩
end Go.Ev
