/- Code of functions as the evaluator has it, and what some of them compute. No conditions. -/
import Derived.Test.YtjcdkogjdomncaaGreatDoorCn
import Derived.Test.YtjcdkogjdomncaaGreatDoorCo
set_option linter.unusedVariables false
set_option linter.unusedSimpArgs false
namespace Go.Ev
/-! legate/legatelaw27.awake -/
def K_legatelaw27_awake : KF := ⟨0, 162, [(.tmp 0)],
(.seq (.ops [o 0 (.mv (.c (.bool false)))])
(.seq (.ops [o 23 (.callF f_legatelaw27_one [(.c (.str [48, 48]))]),
o 24 (.callF f_legatelaw27_by [(.c (.str [48, 48]))]),
o 1 (.new [(.str []), (.str [])] none),
o 2 (.new [(.int .i64 0), .nils] none),
u (.store 2 (.t 1) (.t 23)),
u (.store 2 (.t 2) (.t 24))])
(.seq (.drawn [o 25 (.callF f_legatelaw27_targets [(.c (.int .i64 2)), (.c (.int .i64 9))]),
⟨(some 26), (.load true 2 (.t 1)), none, [0]⟩,
o 27 (.buildSl [(.str []), (.str [])] 1 2 [(0, 2, (.t 26))]),
o 28 (.callF f_legatelaw27_file [(.t 25), (.t 27)]),
m 3 28])
(.seq (.ops [o 29 (.build [(.str []), (.int .i64 0), (.int .i64 0), .nils] [(0, 1, (.c (.str [97, 46, 106, 115, 111, 110]))), (1, 1, (.c (.int .i64 2))), (2, 1, (.c (.int .i64 (-1))))]),
o 4 (.new [(.str []), (.int .i64 0), (.int .i64 0), .nils] none),
u (.store 4 (.t 4) (.t 29))])
(.seq (.ops [o 30 (.callF f_judge_HMAC []),
m 5 30])
(.seq (.ops [m 32 5,
o 33 (.load true 4 (.t 4)),
o 34 (.load true 2 (.t 2)),
o 35 (.load true 2 (.t 1)),
o 36 (.buildSl [(.str []), (.str [])] 1 2 [(0, 2, (.t 35))]),
m 37 3,
m 38 3,
o 39 (.len 0 (.t 38)),
o 40 (.callF f_check_Role [(.t 32), (.t 33), (.t 34), (.t 36), (.c (.int .i64 8)), (.t 37), (.t 39)]),
m 31 40,
o 41 (.extract (.t 31) 0),
o 42 (.extract (.t 31) 1),
o 6 (.new [(.int .i64 0), (.int .i64 0), .nils, .nils, .nils, (.int .i64 0), .nils, (.int .i64 0), (.str [])] none),
u (.store 9 (.t 6) (.t 41)),
m 7 42])
(.seq (.ops [m 44 5,
o 45 (.load true 4 (.t 4)),
o 46 (.load true 2 (.t 2)),
o 47 (.load true 2 (.t 1)),
o 48 (.buildSl [(.str []), (.str [])] 1 2 [(0, 2, (.t 47))]),
m 49 3,
m 50 3,
o 51 (.len 0 (.t 50)),
o 52 (.callF f_check_Role [(.t 44), (.t 45), (.t 46), (.t 48), (.c (.int .i64 9)), (.t 49), (.t 51)]),
m 43 52,
o 53 (.extract (.t 43) 0),
o 54 (.extract (.t 43) 1),
o 8 (.new [(.int .i64 0), (.int .i64 0), .nils, .nils, .nils, (.int .i64 0), .nils, (.int .i64 0), (.str [])] none),
u (.store 9 (.t 8) (.t 53)),
m 9 54])
(.seq (.drawn [m 56 5,
⟨(some 57), (.load true 4 (.t 4)), none, [2, 4]⟩,
o 58 (.callF f_legatelaw27_by [(.c (.str [48, 49]))]),
⟨(some 59), (.load true 2 (.t 1)), none, [2, 4]⟩,
o 60 (.callF f_legatelaw27_one [(.c (.str [48, 49]))]),
o 61 (.buildSl [(.str []), (.str [])] 2 2 [(0, 2, (.t 59)), (2, 2, (.t 60))]),
m 62 3,
m 63 3,
⟨(some 64), (.len 0 (.t 63)), none, [2, 4]⟩,
o 65 (.callF f_check_Role [(.t 56), (.t 57), (.t 58), (.t 61), (.c (.int .i64 8)), (.t 62), (.t 64)]),
m 55 65,
o 66 (.extract (.t 55) 0),
o 67 (.extract (.t 55) 1),
u .pend,
o 10 (.fill 13 10 9 (.t 66)),
m 11 67])
(.seq (.ops [o 68 (.fieldAddr 1 (.t 4)),
u (.store 1 (.t 68) (.c (.int .i64 3)))])
(.seq (.ops [m 70 5,
o 71 (.load true 4 (.t 4)),
o 72 (.load true 2 (.t 2)),
o 73 (.load true 2 (.t 1)),
o 74 (.buildSl [(.str []), (.str [])] 1 2 [(0, 2, (.t 73))]),
m 75 3,
m 76 3,
o 77 (.len 0 (.t 76)),
o 78 (.callF f_check_Role [(.t 70), (.t 71), (.t 72), (.t 74), (.c (.int .i64 8)), (.t 75), (.t 77)]),
m 69 78,
o 79 (.extract (.t 69) 0),
o 80 (.extract (.t 69) 1),
o 12 (.new [(.int .i64 0), (.int .i64 0), .nils, .nils, .nils, (.int .i64 0), .nils, (.int .i64 0), (.str [])] none),
u (.store 9 (.t 12) (.t 79)),
m 13 80])
(.seq (.drawn [⟨(some 82), (.load true 2 (.t 2)), none, [1]⟩,
o 83 (.callF f_legatelaw27_by [(.c (.str [48, 49]))]),
o 84 (.callF f_legatelaw27_ground [(.t 82), (.t 83)]),
o 85 (.callF f_root_Value [(.t 84)]),
m 81 85,
o 86 (.extract (.t 81) 0),
o 87 (.extract (.t 81) 1),
u .pend,
o 14 (.fill 7 14 5 (.t 86)),
m 15 87])
(.seq (.ops [m 89 5,
o 90 (.load true 5 (.t 14)),
o 91 (.load true 2 (.t 1)),
o 92 (.buildSl [(.str []), (.str [])] 1 2 [(0, 2, (.t 91))]),
o 93 (.callF f_legatelaw27_file [(.t 90), (.t 92)]),
o 94 (.callF f_check_Root [(.t 89), (.t 93)]),
m 88 94,
o 95 (.extract (.t 88) 0),
o 96 (.extract (.t 88) 1),
o 16 (.new [(.int .i64 0), (.int .i64 0), .nils, (.int .i64 0), .nils, (.int .i64 0), .nils, (.int .i64 0), .nils] none),
u (.store 9 (.t 16) (.t 95)),
m 17 96])
(.seq (.drawn [m 98 5,
⟨(some 99), (.load true 5 (.t 14)), none, [2]⟩,
o 100 (.callF f_legatelaw27_one [(.c (.str [48, 49]))]),
o 101 (.buildSl [(.str []), (.str [])] 1 2 [(0, 2, (.t 100))]),
o 102 (.callF f_legatelaw27_file [(.t 99), (.t 101)]),
o 103 (.callF f_check_Root [(.t 98), (.t 102)]),
m 97 103,
o 104 (.extract (.t 97) 0),
o 105 (.extract (.t 97) 1),
u .pend,
o 18 (.fill 9 18 9 (.t 104)),
m 19 105])
(.seq (.ops [o 106 (.callF f_legatelaw27_snapshot [(.c (.int .i64 1)), (.c (.int .i64 9))]),
o 107 (.callF f_legatelaw27_one [(.c (.str [48, 49]))]),
o 108 (.buildSl [(.str []), (.str [])] 1 2 [(0, 2, (.t 107))]),
o 109 (.callF f_legatelaw27_file [(.t 106), (.t 108)]),
m 20 109])
(.seq (.ops [m 111 5,
o 112 (.load true 9 (.t 16)),
m 113 20,
m 114 20,
o 115 (.len 0 (.t 114)),
o 116 (.callF f_check_Snapshot [(.t 111), (.t 112), (.c (.int .i64 8)), (.t 113), (.t 115)]),
m 110 116,
o 117 (.extract (.t 110) 0),
o 118 (.extract (.t 110) 1),
o 21 (.new [(.int .i64 0), (.int .i64 0), .nils] none),
u (.store 3 (.t 21) (.t 117)),
m 22 118])
(.seq (.drawn [m 119 7,
o 120 (.bin .eql 0 true (.t 119) (.c (.int .u8 0))),
m 121 120,
og 122 121 true (.load true 9 (.t 6)),
og 123 121 true (.build [(.int .i64 0), (.int .i64 0), .nils, .nils, .nils, (.int .i64 0), .nils, (.int .i64 0), (.str [])] [(0, 1, (.c (.int .i64 2))), (1, 1, (.c (.int .i64 9)))]),
og 124 121 true (.callF f_legateref24_Same [(.t 122), (.t 123)]),
o 125 (.pick (.t 121) (.t 124) (.c (.bool false))),
m 126 125,
og 127 126 true (.mv (.t 9)),
og 128 126 true (.bin .eql 0 true (.t 127) (.c (.int .u8 10))),
o 129 (.pick (.t 126) (.t 128) (.c (.bool false))),
m 130 129,
og 131 130 true (.mv (.t 11)),
og 132 130 true (.bin .eql 0 true (.t 131) (.c (.int .u8 8))),
o 133 (.pick (.t 130) (.t 132) (.c (.bool false))),
m 134 133,
og 135 134 true (.mv (.t 13)),
og 136 134 true (.bin .eql 0 true (.t 135) (.c (.int .u8 9))),
o 137 (.pick (.t 134) (.t 136) (.c (.bool false))),
m 138 137,
og 139 138 true (.mv (.t 17)),
og 140 138 true (.bin .eql 0 true (.t 139) (.c (.int .i64 0))),
o 141 (.pick (.t 138) (.t 140) (.c (.bool false))),
m 142 141,
⟨(some 143), (.load true 9 (.t 16)), (some (142, true)), [26, 27]⟩,
⟨(some 144), (.load true 2 (.t 2)), (some (142, true)), [26]⟩,
og 145 142 true (.callF f_legatelaw27_by [(.c (.str [48, 49]))]),
og 146 142 true (.callF f_legatelaw27_ground [(.t 144), (.t 145)]),
og 147 142 true (.callF f_legateref22_Same [(.t 143), (.t 146)]),
o 148 (.pick (.t 142) (.t 147) (.c (.bool false))),
m 149 148,
og 150 149 true (.mv (.t 19)),
og 151 149 true (.bin .eql 0 true (.t 150) (.c (.int .i64 4))),
o 152 (.pick (.t 149) (.t 151) (.c (.bool false))),
m 153 152,
og 154 153 true (.mv (.t 22)),
og 155 153 true (.bin .eql 0 true (.t 154) (.c (.int .u8 0))),
o 156 (.pick (.t 153) (.t 155) (.c (.bool false))),
m 157 156,
og 158 157 true (.load true 3 (.t 21)),
og 159 157 true (.build [(.int .i64 0), (.int .i64 0), .nils] [(0, 1, (.c (.int .i64 1))), (1, 1, (.c (.int .i64 9)))]),
og 160 157 true (.callF f_legateref23_Same [(.t 158), (.t 159)]),
o 161 (.pick (.t 157) (.t 160) (.c (.bool false))),
m 0 161])
(.ret [0])))))))))))))))))⟩
/-! legate/legatelaw27.one -/
def K_legatelaw27_one : KF := ⟨1, 5, [(.cell 2 true 2)],
(.seq (.ops [o 2 (.new [(.str []), (.str [])] none)])
(.seq (.ops [m 3 0,
o 4 (.build [(.str []), (.str [])] [(0, 1, (.c (.str [104, 109, 97, 99, 45, 115, 104, 97, 50, 53, 54]))), (1, 1, (.t 3))]),
u (.store 2 (.t 2) (.t 4))])
(.ret [2])))⟩
/-! legate/legatelaw27.by -/
def K_legatelaw27_by : KF := ⟨1, 14, [(.cell 2 true 2)],
(.seq (.ops [o 2 (.new [(.int .i64 0), .nils] none)])
(.seq (.ops [m 6 0,
o 7 (.callF f_legatelaw27_one [(.t 6)]),
o 8 (.callF f_key_ID [(.t 7)]),
m 5 8,
o 9 (.extract (.t 5) 0),
o 10 (.extract (.t 5) 1),
m 3 9,
m 4 10])
(.seq (.ops [m 11 3,
o 12 (.buildSl [(.str [])] 1 1 [(0, 1, (.t 11))]),
o 13 (.build [(.int .i64 0), .nils] [(0, 1, (.c (.int .i64 1))), (1, 1, (.t 12))]),
u (.store 2 (.t 2) (.t 13))])
(.ret [2]))))⟩
/-! legate/legatelaw27.file -/
def L_legatelaw27_file_0 : KC :=
(.seq (.seq (.ops [m 20 8,
m 21 1,
o 22 (.len 1 (.t 21)),
o 23 (.bin .lss 0 false (.t 20) (.t 22))])
(.cond (.t 23)
.skip
(.exit [5] 0)))
(.seq (.block 1
(.seq (.ops [m 27 1,
m 28 8,
o 29 (.idxAddrSl 2 (.t 27) (.t 28)),
o 30 (.load true 2 (.t 29)),
m 31 6,
o 32 (.callF f_judge_Make [(.t 30), (.t 31)]),
m 26 32,
o 33 (.extract (.t 26) 0),
o 34 (.extract (.t 26) 1),
o 9 (.new [(.str []), (.str [])] none),
u (.store 2 (.t 9) (.t 33)),
m 10 34])
(.ops [o 35 (.fieldAddr 5 (.t 5)),
o 36 (.load false 1 (.t 35)),
o 37 (.load true 2 (.t 9)),
o 38 (.buildSl [(.str []), (.str [])] 1 2 [(0, 2, (.t 37))]),
o 39 (.app false 2 32 none (.t 36) (.t 38)),
o 40 (.fieldAddr 5 (.t 5)),
u (.store 1 (.t 40) (.t 39))])))
(.ops [m 24 8,
o 25 (.bin .add 0 true (.t 24) (.c (.int .i64 1))),
m 8 25])))
def K_legatelaw27_file : KF := ⟨2, 47, [(.tmp 4)],
(.seq (.ops [o 2 (.box (.t 0)),
o 4 (.mv (.c (.str [])))])
(.seq (.ops [o 13 (.load true 5 (.t 2)),
o 14 (.build [(.int .u8 0), (.int .i64 0), (.str []), .nils, .nils, .nils] [(0, 5, (.t 13))]),
o 5 (.new [(.int .u8 0), (.int .i64 0), (.str []), .nils, .nils, .nils] none),
u (.store 6 (.t 5) (.t 14))])
(.seq (.ops [o 16 (.load true 6 (.t 5)),
o 17 (.callF f_sign_Signed [(.t 16)]),
m 15 17,
o 18 (.extract (.t 15) 0),
o 19 (.extract (.t 15) 1),
m 6 18,
m 7 19])
(.seq (.seq (.ops [o 8 (.mv (.c (.int .i64 0)))])
(.block 0
(.loop [1, 5, 6, 8] L_legatelaw27_file_0)))
(.seq (.ops [o 42 (.load true 6 (.t 5)),
o 43 (.callF f_sign_Show [(.t 42)]),
m 41 43,
o 44 (.extract (.t 41) 0),
o 45 (.extract (.t 41) 1),
m 11 44,
m 12 45])
(.seq (.ops [m 46 11,
m 4 46])
(.ret [4])))))))⟩
/-! legate/legatelaw27.targets -/
def K_legatelaw27_targets : KF := ⟨2, 15, [(.cell 4 true 5)],
(.seq (.ops [o 4 (.new [(.int .u8 0), (.int .i64 0), (.str []), .nils, .nils] none)])
(.seq (.ops [m 8 0,
m 9 1,
o 10 (.build [(.int .i64 0), (.int .i64 0), .nils, .nils, .nils, (.int .i64 0), .nils, (.int .i64 0), (.str [])] [(0, 1, (.t 8)), (1, 1, (.t 9))]),
o 11 (.callF f_targ_Value [(.t 10)]),
m 7 11,
o 12 (.extract (.t 7) 0),
o 13 (.extract (.t 7) 1),
o 5 (.new [(.int .u8 0), (.int .i64 0), (.str []), .nils, .nils] none),
u (.store 5 (.t 5) (.t 12)),
m 6 13])
(.seq (.ops [o 14 (.load true 5 (.t 5)),
u (.store 5 (.t 4) (.t 14))])
(.ret [4]))))⟩
/-! legate/judge.HMAC -/
def K_judge_HMAC : KF := ⟨0, 5, [(.tmp 0)],
(.seq (.ops [o 0 (.mv (.c .nilp))])
(.seq (.ops [o 1 (.build [] []),
o 2 (.mkIface 91 (.t 1)),
o 3 (.build [.nilIface] [(0, 1, (.t 2))]),
o 4 (.box (.t 3)),
m 0 4])
(.ret [0])))⟩
/-! legate/check.Role -/
def K_check_Role : KF := ⟨7, 66, [(.cell 14 true 9), (.tmp 15)],
(.seq (.ops [o 8 (.box (.t 1)),
o 9 (.box (.t 2)),
o 14 (.new [(.int .i64 0), (.int .i64 0), .nils, .nils, .nils, (.int .i64 0), .nils, (.int .i64 0), (.str [])] none),
o 15 (.mv (.c (.int .u8 0)))])
(.seq (.ops [m 20 0,
o 21 (.load true 2 (.t 9)),
m 22 3,
o 23 (.load true 4 (.t 8)),
m 24 4,
m 25 5,
m 26 6,
o 27 (.build [.nilp, (.int .i64 0), .nils, .nils, (.str []), (.int .i64 0), (.int .i64 0), .nils, (.int .i64 0), (.str []), (.int .i64 0), (.int .u8 0), (.int .i64 0), (.str []), .nils, .nils, (.int .u8 0), (.int .i64 0), (.str []), .nils, .nils, .nils, (.int .i64 0), (.int .i64 0)] [(0, 1, (.t 20)), (1, 2, (.t 21)), (3, 1, (.t 22)), (4, 4, (.t 23)), (8, 1, (.t 24)), (9, 1, (.t 25)), (10, 1, (.t 26))]),
o 28 (.box (.t 27)),
o 16 (.new [.nilp] none),
u (.store 1 (.t 16) (.t 28))])
(.seq (.ops [o 17 (.new [(.int .i64 0), (.int .i64 0), .nils, .nils, .nils, (.int .i64 0), .nils, (.int .i64 0), (.str [])] none)])
(.seq (.ops [o 29 (.mkFunc (.func f_check_Role_1) [] [(.t 16), (.t 17)]),
m 18 29])
(.seq (.ops [o 30 (.load false 1 (.t 16)),
o 31 (.mkFunc (.func f_check_file_missing) [(.t 30)] []),
o 32 (.build [(.int .u8 0), .nilFunc] [(0, 1, (.c (.int .u8 2))), (1, 1, (.t 31))]),
o 33 (.load false 1 (.t 16)),
o 34 (.mkFunc (.func f_check_file_big) [(.t 33)] []),
o 35 (.build [(.int .u8 0), .nilFunc] [(0, 1, (.c (.int .u8 3))), (1, 1, (.t 34))]),
o 36 (.load false 1 (.t 16)),
o 37 (.mkFunc (.func f_check_file_small) [(.t 36)] []),
o 38 (.build [(.int .u8 0), .nilFunc] [(0, 1, (.c (.int .u8 4))), (1, 1, (.t 37))]),
o 39 (.load false 1 (.t 16)),
o 40 (.mkFunc (.func f_check_file_otherDigest) [(.t 39)] []),
o 41 (.build [(.int .u8 0), .nilFunc] [(0, 1, (.c (.int .u8 5))), (1, 1, (.t 40))]),
o 42 (.load false 1 (.t 16)),
o 43 (.mkFunc (.func f_check_file_noText) [(.t 42)] []),
o 44 (.build [(.int .u8 0), .nilFunc] [(0, 1, (.c (.int .u8 6))), (1, 1, (.t 43))]),
o 45 (.load false 1 (.t 16)),
o 46 (.mkFunc (.func f_check_file_noEnvelope) [(.t 45)] []),
o 47 (.build [(.int .u8 0), .nilFunc] [(0, 1, (.c (.int .u8 7))), (1, 1, (.t 46))]),
m 48 18,
o 49 (.build [(.int .u8 0), .nilFunc] [(0, 1, (.c (.int .u8 7))), (1, 1, (.t 48))]),
o 50 (.load false 1 (.t 16)),
o 51 (.mkFunc (.func f_check_file_unsigned) [(.t 50)] []),
o 52 (.build [(.int .u8 0), .nilFunc] [(0, 1, (.c (.int .u8 8))), (1, 1, (.t 51))]),
o 53 (.load false 1 (.t 16)),
o 54 (.mkFunc (.func f_check_file_otherVersion) [(.t 53)] []),
o 55 (.build [(.int .u8 0), .nilFunc] [(0, 1, (.c (.int .u8 9))), (1, 1, (.t 54))]),
o 56 (.load false 1 (.t 16)),
o 57 (.mkFunc (.func f_check_file_expired) [(.t 56)] []),
o 58 (.build [(.int .u8 0), .nilFunc] [(0, 1, (.c (.int .u8 10))), (1, 1, (.t 57))]),
o 59 (.buildSl [(.int .u8 0), .nilFunc] 10 2 [(0, 2, (.t 32)), (2, 2, (.t 35)), (4, 2, (.t 38)), (6, 2, (.t 41)), (8, 2, (.t 44)), (10, 2, (.t 47)), (12, 2, (.t 49)), (14, 2, (.t 52)), (16, 2, (.t 55)), (18, 2, (.t 58))]),
o 60 (.callF f_check_first [(.t 59)]),
m 19 60])
(.seq (.seq (.ops [m 61 19,
o 62 (.bin .neq 0 true (.t 61) (.c (.int .u8 0)))])
(.cond (.t 62)
(.seq (.ops [o 63 (.build [(.int .i64 0), (.int .i64 0), .nils, .nils, .nils, (.int .i64 0), .nils, (.int .i64 0), (.str [])] []),
m 64 19,
u (.store 9 (.t 14) (.t 63)),
m 15 64])
(.ret [14, 15]))
.skip))
(.seq (.ops [o 65 (.load true 9 (.t 17)),
u (.store 9 (.t 14) (.t 65)),
o 15 (.mv (.c (.int .u8 0)))])
(.ret [14, 15]))))))))⟩
/-! legate/root.Value -/
def L_root_Value_0 : KC :=
(.seq (.ops [o 38 (.bin .lss 0 true (.t 37) (.c (.int .i64 3)))])
(.seq (.cond (.t 38)
.skip
(.exit [1, 2, 4, 6, 7] 0))
(.seq (.block 1
(.seq (.ops [m 39 37,
o 40 (.idxArr 3 true 2 (.t 36) (.t 37)),
o 9 (.new [(.int .i64 0), .nils] none),
m 8 39,
u (.store 2 (.t 9) (.t 40))])
(.seq (.ops [o 42 (.load true 2 (.t 9)),
o 43 (.callF f_auth_Value [(.t 42)]),
m 41 43,
o 44 (.extract (.t 41) 0),
o 45 (.extract (.t 41) 1),
o 10 (.new [(.int .u8 0), (.int .i64 0), (.str []), .nils, .nils] none),
u (.store 5 (.t 10) (.t 44)),
m 11 45])
(.seq (.seq (.ops [m 46 11,
o 47 (.bin .neq 0 true (.t 46) (.c (.int .i64 0)))])
(.cond (.t 47)
(.seq (.ops [o 48 (.build [(.int .u8 0), (.int .i64 0), (.str []), .nils, .nils] []),
u (.store 5 (.t 2) (.t 48)),
o 3 (.mv (.c (.int .i64 3)))])
(.ret [2, 3]))
.skip))
(.plain [m 49 7,
m 50 8,
o 51 (.idxAddrArr 3 1 (.g g_root_tops) (.t 50)),
o 52 (.load false 1 (.t 51)),
o 53 (.load true 5 (.t 10)),
o 54 (.build [(.str []), (.int .u8 0), (.int .i64 0), (.str []), .nils, .nils] [(0, 1, (.t 52)), (1, 5, (.t 53))]),
o 55 (.buildSl [(.str []), (.int .u8 0), (.int .i64 0), (.str []), .nils, .nils] 1 6 [(0, 6, (.t 54))]),
o 56 (.app false 6 96 none (.t 49) (.t 55)),
m 7 56])))))
(.ops [o 57 (.bin .add 0 true (.t 37) (.c (.int .i64 1))),
m 37 57]))))
def K_root_Value : KF := ⟨1, 83, [(.cell 2 true 5), (.tmp 3)],
(.seq (.ops [o 1 (.box (.t 0)),
o 2 (.new [(.int .u8 0), (.int .i64 0), (.str []), .nils, .nils] none),
o 3 (.mv (.c (.int .i64 0)))])
(.seq (.seq (.ops [o 13 (.load true 9 (.t 1)),
o 14 (.callF f_root_May [(.t 13)]),
o 15 (.un .not (.t 14))])
(.cond (.t 15)
(.seq (.ops [o 16 (.build [(.int .u8 0), (.int .i64 0), (.str []), .nils, .nils] []),
u (.store 5 (.t 2) (.t 16)),
o 3 (.mv (.c (.int .i64 3)))])
(.ret [2, 3]))
.skip))
(.seq (.ops [o 18 (.fieldAddr 1 (.t 1)),
o 19 (.load false 1 (.t 18)),
o 20 (.callF f_when_Show [(.t 19)]),
m 17 20,
o 21 (.extract (.t 17) 0),
o 22 (.extract (.t 17) 1),
m 4 21,
m 5 22])
(.seq (.seq (.ops [m 23 5,
o 24 (.bin .neq 0 true (.t 23) (.c (.int .i64 0)))])
(.cond (.t 24)
(.seq (.ops [o 25 (.build [(.int .u8 0), (.int .i64 0), (.str []), .nils, .nils] []),
u (.store 5 (.t 2) (.t 25)),
o 3 (.mv (.c (.int .i64 3)))])
(.ret [2, 3]))
.skip))
(.seq (.ops [o 27 (.fieldAddr 2 (.t 1)),
o 28 (.load false 1 (.t 27)),
o 29 (.callF f_key_Table [(.t 28)]),
m 26 29,
o 30 (.extract (.t 26) 0),
o 31 (.extract (.t 26) 1),
o 6 (.new [(.int .u8 0), (.int .i64 0), (.str []), .nils, .nils] none),
u (.store 5 (.t 6) (.t 30)),
m 5 31])
(.seq (.seq (.ops [m 32 5,
o 33 (.bin .neq 0 true (.t 32) (.c (.int .i64 0)))])
(.cond (.t 33)
(.seq (.ops [o 34 (.build [(.int .u8 0), (.int .i64 0), (.str []), .nils, .nils] []),
u (.store 5 (.t 2) (.t 34)),
o 3 (.mv (.c (.int .i64 3)))])
(.ret [2, 3]))
.skip))
(.seq (.ops [o 7 (.mv (.c .nils))])
(.seq (.seq (.ops [o 35 (.load true 9 (.t 1)),
o 36 (.callF f_root_auths [(.t 35)]),
o 37 (.mv (.c (.int .i64 0)))])
(.block 0
(.loop [1, 2, 4, 6, 7, 36, 37] L_root_Value_0)))
(.seq (.ops [m 59 7,
o 60 (.callF f_pick_ObjectOf [(.t 59)]),
m 58 60,
o 61 (.extract (.t 58) 0),
o 62 (.extract (.t 58) 1),
o 12 (.new [(.int .u8 0), (.int .i64 0), (.str []), .nils, .nils] none),
u (.store 5 (.t 12) (.t 61)),
m 5 62])
(.seq (.seq (.ops [m 63 5,
o 64 (.bin .neq 0 true (.t 63) (.c (.int .i64 0)))])
(.cond (.t 64)
(.seq (.ops [o 65 (.build [(.int .u8 0), (.int .i64 0), (.str []), .nils, .nils] []),
u (.store 5 (.t 2) (.t 65)),
o 3 (.mv (.c (.int .i64 3)))])
(.ret [2, 3]))
.skip))
(.seq (.drawn [o 66 (.callF f_pick_TextOf [(.c (.str [114, 111, 111, 116]))]),
o 67 (.build [(.str []), (.int .u8 0), (.int .i64 0), (.str []), .nils, .nils] [(0, 1, (.c (.str [95, 116, 121, 112, 101]))), (1, 5, (.t 66))]),
o 68 (.fieldAddr 0 (.t 1)),
⟨(some 69), (.load false 1 (.t 68)), none, [0]⟩,
o 70 (.callF f_pick_NumOf [(.t 69)]),
o 71 (.build [(.str []), (.int .u8 0), (.int .i64 0), (.str []), .nils, .nils] [(0, 1, (.c (.str [118, 101, 114, 115, 105, 111, 110]))), (1, 5, (.t 70))]),
m 72 4,
o 73 (.callF f_pick_TextOf [(.t 72)]),
o 74 (.build [(.str []), (.int .u8 0), (.int .i64 0), (.str []), .nils, .nils] [(0, 1, (.c (.str [101, 120, 112, 105, 114, 101, 115]))), (1, 5, (.t 73))]),
⟨(some 75), (.load true 5 (.t 6)), none, [0, 4, 7]⟩,
o 76 (.build [(.str []), (.int .u8 0), (.int .i64 0), (.str []), .nils, .nils] [(0, 1, (.c (.str [107, 101, 121, 115]))), (1, 5, (.t 75))]),
⟨(some 77), (.load true 5 (.t 12)), none, [0, 4, 7]⟩,
o 78 (.build [(.str []), (.int .u8 0), (.int .i64 0), (.str []), .nils, .nils] [(0, 1, (.c (.str [114, 111, 108, 101, 115]))), (1, 5, (.t 77))]),
o 79 (.buildSl [(.str []), (.int .u8 0), (.int .i64 0), (.str []), .nils, .nils] 5 6 [(0, 6, (.t 67)), (6, 6, (.t 71)), (12, 6, (.t 74)), (18, 6, (.t 76)), (24, 6, (.t 78))]),
o 80 (.callF f_pick_ObjectOf [(.t 79)]),
o 81 (.extract (.t 80) 0),
o 82 (.extract (.t 80) 1),
u (.store 5 (.t 2) (.t 81)),
m 3 82])
(.ret [2, 3]))))))))))))⟩
/-! legate/legatelaw27.ground -/
def K_legatelaw27_ground : KF := ⟨2, 26, [(.cell 4 true 9)],
(.seq (.ops [o 2 (.box (.t 0)),
o 3 (.box (.t 1)),
o 4 (.new [(.int .i64 0), (.int .i64 0), .nils, (.int .i64 0), .nils, (.int .i64 0), .nils, (.int .i64 0), .nils] none)])
(.seq (.ops [o 10 (.callF f_legatelaw27_one [(.c (.str [48, 48]))]),
o 11 (.callF f_legatelaw27_one [(.c (.str [48, 49]))]),
o 12 (.buildSl [(.str []), (.str [])] 2 2 [(0, 2, (.t 10)), (2, 2, (.t 11))]),
o 13 (.callF f_key_Table [(.t 12)]),
m 9 13,
o 14 (.extract (.t 9) 0),
o 15 (.extract (.t 9) 1),
o 5 (.new [(.int .u8 0), (.int .i64 0), (.str []), .nils, .nils] none),
u (.store 5 (.t 5) (.t 14)),
m 6 15])
(.seq (.ops [o 17 (.load true 5 (.t 5)),
o 18 (.callF f_key_Keys [(.t 17)]),
m 16 18,
o 19 (.extract (.t 16) 0),
o 20 (.extract (.t 16) 1),
m 7 19,
m 8 20])
(.seq (.ops [m 21 7,
o 22 (.load true 2 (.t 2)),
o 23 (.load true 2 (.t 3)),
o 24 (.load true 2 (.t 2)),
o 25 (.build [(.int .i64 0), (.int .i64 0), .nils, (.int .i64 0), .nils, (.int .i64 0), .nils, (.int .i64 0), .nils] [(0, 1, (.c (.int .i64 1))), (1, 1, (.c (.int .i64 9))), (2, 1, (.t 21)), (3, 2, (.t 22)), (5, 2, (.t 23)), (7, 2, (.t 24))]),
u (.store 9 (.t 4) (.t 25))])
(.ret [4])))))⟩
/-! legate/check.Root -/
def K_check_Root : KF := ⟨2, 38, [(.cell 4 true 9), (.tmp 5)],
(.seq (.ops [o 4 (.new [(.int .i64 0), (.int .i64 0), .nils, (.int .i64 0), .nils, (.int .i64 0), .nils, (.int .i64 0), .nils] none),
o 5 (.mv (.c (.int .i64 0)))])
(.seq (.ops [m 10 1,
o 11 (.callF f_sign_Read [(.t 10)]),
m 9 11,
o 12 (.extract (.t 9) 0),
o 13 (.extract (.t 9) 1),
o 6 (.new [(.int .u8 0), (.int .i64 0), (.str []), .nils, .nils, .nils] none),
u (.store 6 (.t 6) (.t 12)),
m 7 13])
(.seq (.seq (.ops [m 14 7,
o 15 (.bin .neq 0 true (.t 14) (.c (.int .i64 0)))])
(.cond (.t 15)
(.seq (.ops [o 16 (.build [(.int .i64 0), (.int .i64 0), .nils, (.int .i64 0), .nils, (.int .i64 0), .nils, (.int .i64 0), .nils] []),
m 17 7,
u (.store 9 (.t 4) (.t 16)),
m 5 17])
(.ret [4, 5]))
.skip))
(.seq (.ops [o 19 (.fieldAddr 0 (.t 6)),
o 20 (.load true 5 (.t 19)),
o 21 (.callF f_root_Of [(.t 20)]),
m 18 21,
o 22 (.extract (.t 18) 0),
o 23 (.extract (.t 18) 1),
o 8 (.new [(.int .i64 0), (.int .i64 0), .nils, (.int .i64 0), .nils, (.int .i64 0), .nils, (.int .i64 0), .nils] none),
u (.store 9 (.t 8) (.t 22)),
m 7 23])
(.seq (.seq (.ops [m 24 7,
o 25 (.bin .neq 0 true (.t 24) (.c (.int .i64 0)))])
(.cond (.t 25)
(.seq (.ops [o 26 (.build [(.int .i64 0), (.int .i64 0), .nils, (.int .i64 0), .nils, (.int .i64 0), .nils, (.int .i64 0), .nils] []),
m 27 7,
u (.store 9 (.t 4) (.t 26)),
m 5 27])
(.ret [4, 5]))
.skip))
(.seq (.seq (.ops [m 28 0,
o 29 (.load true 6 (.t 6)),
o 30 (.fieldAddr 3 (.t 8)),
o 31 (.load true 2 (.t 30)),
o 32 (.fieldAddr 2 (.t 8)),
o 33 (.load false 1 (.t 32)),
o 34 (.callF f_judge_Enough [(.t 28), (.t 29), (.t 31), (.t 33)]),
o 35 (.un .not (.t 34))])
(.cond (.t 35)
(.seq (.ops [o 36 (.build [(.int .i64 0), (.int .i64 0), .nils, (.int .i64 0), .nils, (.int .i64 0), .nils, (.int .i64 0), .nils] []),
u (.store 9 (.t 4) (.t 36)),
o 5 (.mv (.c (.int .i64 4)))])
(.ret [4, 5]))
.skip))
(.seq (.ops [o 37 (.load true 9 (.t 8)),
u (.store 9 (.t 4) (.t 37)),
o 5 (.mv (.c (.int .i64 0)))])
(.ret [4, 5]))))))))⟩
/-! legate/legatelaw27.snapshot -/
def K_legatelaw27_snapshot : KF := ⟨2, 15, [(.cell 4 true 5)],
(.seq (.ops [o 4 (.new [(.int .u8 0), (.int .i64 0), (.str []), .nils, .nils] none)])
(.seq (.ops [m 8 0,
m 9 1,
o 10 (.build [(.int .i64 0), (.int .i64 0), .nils] [(0, 1, (.t 8)), (1, 1, (.t 9))]),
o 11 (.callF f_snap_Value [(.t 10)]),
m 7 11,
o 12 (.extract (.t 7) 0),
o 13 (.extract (.t 7) 1),
o 5 (.new [(.int .u8 0), (.int .i64 0), (.str []), .nils, .nils] none),
u (.store 5 (.t 5) (.t 12)),
m 6 13])
(.seq (.ops [o 14 (.load true 5 (.t 5)),
u (.store 5 (.t 4) (.t 14))])
(.ret [4]))))⟩
/-! legate/check.Snapshot -/
def K_check_Snapshot : KF := ⟨5, 55, [(.cell 10 true 3), (.tmp 11)],
(.seq (.ops [o 6 (.box (.t 1)),
o 10 (.new [(.int .i64 0), (.int .i64 0), .nils] none),
o 11 (.mv (.c (.int .u8 0)))])
(.seq (.ops [m 16 0,
o 17 (.fieldAddr 5 (.t 6)),
o 18 (.load true 2 (.t 17)),
o 19 (.fieldAddr 2 (.t 6)),
o 20 (.load false 1 (.t 19)),
o 21 (.build [(.str []), (.int .i64 0), (.int .i64 0), .nils] [(2, 1, (.c (.int .i64 (-1))))]),
m 22 2,
m 23 3,
m 24 4,
o 25 (.build [.nilp, (.int .i64 0), .nils, .nils, (.str []), (.int .i64 0), (.int .i64 0), .nils, (.int .i64 0), (.str []), (.int .i64 0), (.int .u8 0), (.int .i64 0), (.str []), .nils, .nils, (.int .u8 0), (.int .i64 0), (.str []), .nils, .nils, .nils, (.int .i64 0), (.int .i64 0)] [(0, 1, (.t 16)), (1, 2, (.t 18)), (3, 1, (.t 20)), (4, 4, (.t 21)), (8, 1, (.t 22)), (9, 1, (.t 23)), (10, 1, (.t 24))]),
o 26 (.box (.t 25)),
o 12 (.new [.nilp] none),
u (.store 1 (.t 12) (.t 26))])
(.seq (.ops [o 13 (.new [(.int .i64 0), (.int .i64 0), .nils] none)])
(.seq (.ops [o 27 (.mkFunc (.func f_check_Snapshot_1) [] [(.t 12), (.t 13)]),
m 14 27])
(.seq (.ops [o 28 (.load false 1 (.t 12)),
o 29 (.mkFunc (.func f_check_file_missing) [(.t 28)] []),
o 30 (.build [(.int .u8 0), .nilFunc] [(0, 1, (.c (.int .u8 2))), (1, 1, (.t 29))]),
o 31 (.load false 1 (.t 12)),
o 32 (.mkFunc (.func f_check_file_big) [(.t 31)] []),
o 33 (.build [(.int .u8 0), .nilFunc] [(0, 1, (.c (.int .u8 3))), (1, 1, (.t 32))]),
o 34 (.load false 1 (.t 12)),
o 35 (.mkFunc (.func f_check_file_noText) [(.t 34)] []),
o 36 (.build [(.int .u8 0), .nilFunc] [(0, 1, (.c (.int .u8 6))), (1, 1, (.t 35))]),
o 37 (.load false 1 (.t 12)),
o 38 (.mkFunc (.func f_check_file_noEnvelope) [(.t 37)] []),
o 39 (.build [(.int .u8 0), .nilFunc] [(0, 1, (.c (.int .u8 7))), (1, 1, (.t 38))]),
m 40 14,
o 41 (.build [(.int .u8 0), .nilFunc] [(0, 1, (.c (.int .u8 7))), (1, 1, (.t 40))]),
o 42 (.load false 1 (.t 12)),
o 43 (.mkFunc (.func f_check_file_unsigned) [(.t 42)] []),
o 44 (.build [(.int .u8 0), .nilFunc] [(0, 1, (.c (.int .u8 8))), (1, 1, (.t 43))]),
o 45 (.load false 1 (.t 12)),
o 46 (.mkFunc (.func f_check_file_expired) [(.t 45)] []),
o 47 (.build [(.int .u8 0), .nilFunc] [(0, 1, (.c (.int .u8 10))), (1, 1, (.t 46))]),
o 48 (.buildSl [(.int .u8 0), .nilFunc] 7 2 [(0, 2, (.t 30)), (2, 2, (.t 33)), (4, 2, (.t 36)), (6, 2, (.t 39)), (8, 2, (.t 41)), (10, 2, (.t 44)), (12, 2, (.t 47))]),
o 49 (.callF f_check_first [(.t 48)]),
m 15 49])
(.seq (.seq (.ops [m 50 15,
o 51 (.bin .neq 0 true (.t 50) (.c (.int .u8 0)))])
(.cond (.t 51)
(.seq (.ops [o 52 (.build [(.int .i64 0), (.int .i64 0), .nils] []),
m 53 15,
u (.store 3 (.t 10) (.t 52)),
m 11 53])
(.ret [10, 11]))
.skip))
(.seq (.ops [o 54 (.load true 3 (.t 13)),
u (.store 3 (.t 10) (.t 54)),
o 11 (.mv (.c (.int .u8 0)))])
(.ret [10, 11]))))))))⟩
/-! legate/legateref24.Same -/
def L_legateref24_Same_0 : KC :=
(.seq (.seq (.ops [m 35 5,
o 36 (.fieldAddr 2 (.t 2)),
o 37 (.load false 1 (.t 36)),
o 38 (.len 1 (.t 37)),
o 39 (.bin .lss 0 false (.t 35) (.t 38))])
(.cond (.t 39)
.skip
(.exit [] 0)))
(.seq (.block 1
(.seq (.plain [o 42 (.fieldAddr 2 (.t 2)),
o 43 (.load false 1 (.t 42)),
m 44 5,
o 45 (.idxAddrSl 8 (.t 43) (.t 44)),
o 46 (.fieldAddr 0 (.t 45)),
o 47 (.load false 1 (.t 46)),
o 48 (.fieldAddr 2 (.t 3)),
o 49 (.load false 1 (.t 48)),
m 50 5,
o 51 (.idxAddrSl 8 (.t 49) (.t 50)),
o 52 (.fieldAddr 0 (.t 51)),
o 53 (.load false 1 (.t 52)),
o 54 (.bin .neq 0 false (.t 47) (.t 53)),
m 55 54,
og 56 55 false (.fieldAddr 2 (.t 2)),
og 57 55 false (.load false 1 (.t 56)),
og 58 55 false (.mv (.t 5)),
og 59 55 false (.idxAddrSl 8 (.t 57) (.t 58)),
og 60 55 false (.fieldAddr 1 (.t 59)),
og 61 55 false (.load true 7 (.t 60)),
og 62 55 false (.fieldAddr 2 (.t 3)),
og 63 55 false (.load false 1 (.t 62)),
og 64 55 false (.mv (.t 5)),
og 65 55 false (.idxAddrSl 8 (.t 63) (.t 64)),
og 66 55 false (.fieldAddr 1 (.t 65)),
og 67 55 false (.load true 7 (.t 66)),
og 68 55 false (.callF f_legateref21_Same [(.t 61), (.t 67)]),
og 69 55 false (.un .not (.t 68)),
o 70 (.pick (.t 55) (.c (.bool true)) (.t 69))])
(.cond (.t 70)
(.seq (.ops [o 4 (.mv (.c (.bool false)))])
(.ret [4]))
.skip)))
(.ops [m 40 5,
o 41 (.bin .add 0 true (.t 40) (.c (.int .i64 1))),
m 5 41])))
def K_legateref24_Same : KF := ⟨2, 71, [(.tmp 4)],
(.seq (.ops [o 2 (.box (.t 0)),
o 3 (.box (.t 1)),
o 4 (.mv (.c (.bool false)))])
(.seq (.seq (.ops [o 6 (.fieldAddr 0 (.t 2)),
o 7 (.load false 1 (.t 6)),
o 8 (.fieldAddr 0 (.t 3)),
o 9 (.load false 1 (.t 8)),
o 10 (.bin .neq 0 false (.t 7) (.t 9)),
m 11 10,
og 12 11 false (.fieldAddr 1 (.t 2)),
og 13 11 false (.load false 1 (.t 12)),
og 14 11 false (.fieldAddr 1 (.t 3)),
og 15 11 false (.load false 1 (.t 14)),
og 16 11 false (.bin .neq 0 false (.t 13) (.t 15)),
o 17 (.pick (.t 11) (.c (.bool true)) (.t 16)),
m 18 17,
og 19 18 false (.fieldAddr 2 (.t 2)),
og 20 18 false (.load false 1 (.t 19)),
og 21 18 false (.len 1 (.t 20)),
og 22 18 false (.fieldAddr 2 (.t 3)),
og 23 18 false (.load false 1 (.t 22)),
og 24 18 false (.len 1 (.t 23)),
og 25 18 false (.bin .neq 0 false (.t 21) (.t 24)),
o 26 (.pick (.t 18) (.c (.bool true)) (.t 25)),
m 27 26,
og 28 27 false (.fieldAddr 3 (.t 2)),
og 29 27 false (.load true 6 (.t 28)),
og 30 27 false (.fieldAddr 3 (.t 3)),
og 31 27 false (.load true 6 (.t 30)),
og 32 27 false (.callF f_legateref20_Same [(.t 29), (.t 31)]),
og 33 27 false (.un .not (.t 32)),
o 34 (.pick (.t 27) (.c (.bool true)) (.t 33))])
(.cond (.t 34)
(.seq (.ops [o 4 (.mv (.c (.bool false)))])
(.ret [4]))
.skip))
(.seq (.seq (.ops [o 5 (.mv (.c (.int .i64 0)))])
(.block 0
(.loop [2, 3, 5] L_legateref24_Same_0)))
(.seq (.ops [o 4 (.mv (.c (.bool true)))])
(.ret [4])))))⟩
/-! legate/legateref22.Same -/
def K_legateref22_Same : KF := ⟨2, 45, [(.tmp 4)],
(.seq (.ops [o 2 (.box (.t 0)),
o 3 (.box (.t 1)),
o 4 (.mv (.c (.bool false)))])
(.seq (.ops [o 5 (.fieldAddr 0 (.t 2)),
o 6 (.load false 1 (.t 5)),
o 7 (.fieldAddr 0 (.t 3)),
o 8 (.load false 1 (.t 7)),
o 9 (.bin .eql 0 false (.t 6) (.t 8)),
m 10 9,
og 11 10 true (.fieldAddr 1 (.t 2)),
og 12 10 true (.load false 1 (.t 11)),
og 13 10 true (.fieldAddr 1 (.t 3)),
og 14 10 true (.load false 1 (.t 13)),
og 15 10 true (.bin .eql 0 false (.t 12) (.t 14)),
o 16 (.pick (.t 10) (.t 15) (.c (.bool false))),
m 17 16,
og 18 17 true (.fieldAddr 2 (.t 2)),
og 19 17 true (.load false 1 (.t 18)),
og 20 17 true (.fieldAddr 2 (.t 3)),
og 21 17 true (.load false 1 (.t 20)),
og 22 17 true (.callF f_legateref14_Same [(.t 19), (.t 21)]),
o 23 (.pick (.t 17) (.t 22) (.c (.bool false))),
m 24 23,
og 25 24 true (.fieldAddr 3 (.t 2)),
og 26 24 true (.load true 2 (.t 25)),
og 27 24 true (.fieldAddr 3 (.t 3)),
og 28 24 true (.load true 2 (.t 27)),
og 29 24 true (.callF f_legateref15_Same [(.t 26), (.t 28)]),
o 30 (.pick (.t 24) (.t 29) (.c (.bool false))),
m 31 30,
og 32 31 true (.fieldAddr 5 (.t 2)),
og 33 31 true (.load true 2 (.t 32)),
og 34 31 true (.fieldAddr 5 (.t 3)),
og 35 31 true (.load true 2 (.t 34)),
og 36 31 true (.callF f_legateref15_Same [(.t 33), (.t 35)]),
o 37 (.pick (.t 31) (.t 36) (.c (.bool false))),
m 38 37,
og 39 38 true (.fieldAddr 7 (.t 2)),
og 40 38 true (.load true 2 (.t 39)),
og 41 38 true (.fieldAddr 7 (.t 3)),
og 42 38 true (.load true 2 (.t 41)),
og 43 38 true (.callF f_legateref15_Same [(.t 40), (.t 42)]),
o 44 (.pick (.t 38) (.t 43) (.c (.bool false))),
m 4 44])
(.ret [4])))⟩
/-! legate/legateref23.Same -/
def L_legateref23_Same_0 : KC :=
(.seq (.seq (.ops [m 27 5,
o 28 (.fieldAddr 2 (.t 2)),
o 29 (.load false 1 (.t 28)),
o 30 (.len 1 (.t 29)),
o 31 (.bin .lss 0 false (.t 27) (.t 30))])
(.cond (.t 31)
.skip
(.exit [] 0)))
(.seq (.block 1
(.seq (.plain [o 34 (.fieldAddr 2 (.t 2)),
o 35 (.load false 1 (.t 34)),
m 36 5,
o 37 (.idxAddrSl 4 (.t 35) (.t 36)),
o 38 (.load true 4 (.t 37)),
o 39 (.fieldAddr 2 (.t 3)),
o 40 (.load false 1 (.t 39)),
m 41 5,
o 42 (.idxAddrSl 4 (.t 40) (.t 41)),
o 43 (.load true 4 (.t 42)),
o 44 (.callF f_legateref23_SamePin [(.t 38), (.t 43)]),
o 45 (.un .not (.t 44))])
(.cond (.t 45)
(.seq (.ops [o 4 (.mv (.c (.bool false)))])
(.ret [4]))
.skip)))
(.ops [m 32 5,
o 33 (.bin .add 0 true (.t 32) (.c (.int .i64 1))),
m 5 33])))
def K_legateref23_Same : KF := ⟨2, 46, [(.tmp 4)],
(.seq (.ops [o 2 (.box (.t 0)),
o 3 (.box (.t 1)),
o 4 (.mv (.c (.bool false)))])
(.seq (.seq (.ops [o 6 (.fieldAddr 0 (.t 2)),
o 7 (.load false 1 (.t 6)),
o 8 (.fieldAddr 0 (.t 3)),
o 9 (.load false 1 (.t 8)),
o 10 (.bin .neq 0 false (.t 7) (.t 9)),
m 11 10,
og 12 11 false (.fieldAddr 1 (.t 2)),
og 13 11 false (.load false 1 (.t 12)),
og 14 11 false (.fieldAddr 1 (.t 3)),
og 15 11 false (.load false 1 (.t 14)),
og 16 11 false (.bin .neq 0 false (.t 13) (.t 15)),
o 17 (.pick (.t 11) (.c (.bool true)) (.t 16)),
m 18 17,
og 19 18 false (.fieldAddr 2 (.t 2)),
og 20 18 false (.load false 1 (.t 19)),
og 21 18 false (.len 1 (.t 20)),
og 22 18 false (.fieldAddr 2 (.t 3)),
og 23 18 false (.load false 1 (.t 22)),
og 24 18 false (.len 1 (.t 23)),
og 25 18 false (.bin .neq 0 false (.t 21) (.t 24)),
o 26 (.pick (.t 18) (.c (.bool true)) (.t 25))])
(.cond (.t 26)
(.seq (.ops [o 4 (.mv (.c (.bool false)))])
(.ret [4]))
.skip))
(.seq (.seq (.ops [o 5 (.mv (.c (.int .i64 0)))])
(.block 0
(.loop [2, 3, 5] L_legateref23_Same_0)))
(.seq (.ops [o 4 (.mv (.c (.bool true)))])
(.ret [4])))))⟩
/-! legate/key.ID -/
def K_key_ID : KF := ⟨1, 25, [(.tmp 2), (.tmp 3)],
(.seq (.ops [o 1 (.box (.t 0)),
o 2 (.mv (.c (.str []))),
o 3 (.mv (.c (.int .i64 0)))])
(.seq (.ops [o 8 (.load true 2 (.t 1)),
o 9 (.callF f_key_Value [(.t 8)]),
m 7 9,
o 10 (.extract (.t 7) 0),
o 11 (.extract (.t 7) 1),
o 4 (.new [(.int .u8 0), (.int .i64 0), (.str []), .nils, .nils] none),
u (.store 5 (.t 4) (.t 10)),
m 5 11])
(.seq (.seq (.ops [m 12 5,
o 13 (.bin .neq 0 true (.t 12) (.c (.int .i64 0)))])
(.cond (.t 13)
(.seq (.ops [m 14 5,
o 2 (.mv (.c (.str []))),
m 3 14])
(.ret [2, 3]))
.skip))
(.seq (.ops [o 16 (.load true 5 (.t 4)),
o 17 (.callF f_canon_Encode [(.t 16)]),
m 15 17,
o 18 (.extract (.t 15) 0),
o 19 (.extract (.t 15) 1),
m 6 18,
m 5 19])
(.seq (.seq (.ops [m 20 5,
o 21 (.bin .neq 0 true (.t 20) (.c (.int .i64 0)))])
(.cond (.t 21)
(.seq (.ops [m 22 5,
o 2 (.mv (.c (.str []))),
m 3 22])
(.ret [2, 3]))
.skip))
(.seq (.ops [m 23 6,
o 24 (.callF f_sha_Digest [(.t 23)]),
m 2 24,
o 3 (.mv (.c (.int .i64 0)))])
(.ret [2, 3])))))))⟩
/-! legate/sign.Signed -/
def K_sign_Signed : KF := ⟨1, 12, [(.tmp 2), (.tmp 3)],
(.seq (.ops [o 1 (.box (.t 0)),
o 2 (.mv (.c (.str []))),
o 3 (.mv (.c (.int .i64 0)))])
(.seq (.seq (.ops [o 4 (.load true 6 (.t 1)),
o 5 (.callF f_sign_May [(.t 4)]),
o 6 (.un .not (.t 5))])
(.cond (.t 6)
(.seq (.ops [o 2 (.mv (.c (.str []))),
o 3 (.mv (.c (.int .i64 3)))])
(.ret [2, 3]))
.skip))
(.seq (.ops [o 7 (.fieldAddr 0 (.t 1)),
o 8 (.load true 5 (.t 7)),
o 9 (.callF f_canon_Encode [(.t 8)]),
o 10 (.extract (.t 9) 0),
o 11 (.extract (.t 9) 1),
m 2 10,
m 3 11])
(.ret [2, 3]))))⟩
/-! legate/judge.Make -/
def K_judge_Make : KF := ⟨2, 36, [(.cell 4 true 2), (.tmp 5)],
(.seq (.ops [o 2 (.box (.t 0)),
o 4 (.new [(.str []), (.str [])] none),
o 5 (.mv (.c (.int .i64 0)))])
(.seq (.ops [o 10 (.load true 2 (.t 2)),
o 11 (.callF f_key_ID [(.t 10)]),
m 9 11,
o 12 (.extract (.t 9) 0),
o 13 (.extract (.t 9) 1),
m 6 12,
m 7 13])
(.seq (.seq (.ops [m 14 7,
o 15 (.bin .neq 0 true (.t 14) (.c (.int .i64 0)))])
(.cond (.t 15)
(.seq (.ops [o 16 (.build [(.str []), (.str [])] []),
u (.store 2 (.t 4) (.t 16)),
o 5 (.mv (.c (.int .i64 3)))])
(.ret [4, 5]))
.skip))
(.seq (.seq (.ops [o 17 (.fieldAddr 0 (.t 2)),
o 18 (.load false 1 (.t 17)),
o 19 (.bin .neq 0 true (.t 18) (.c (.str [104, 109, 97, 99, 45, 115, 104, 97, 50, 53, 54])))])
(.cond (.t 19)
(.seq (.ops [o 20 (.build [(.str []), (.str [])] []),
u (.store 2 (.t 4) (.t 20)),
o 5 (.mv (.c (.int .i64 10)))])
(.ret [4, 5]))
.skip))
(.seq (.ops [o 22 (.fieldAddr 1 (.t 2)),
o 23 (.load false 1 (.t 22)),
o 24 (.callF f_hex_Decode [(.t 23)]),
m 21 24,
o 25 (.extract (.t 21) 0),
o 26 (.extract (.t 21) 1),
m 8 25,
m 7 26])
(.seq (.seq (.ops [m 27 7,
o 28 (.bin .neq 0 true (.t 27) (.c (.int .i64 0)))])
(.cond (.t 28)
(.seq (.ops [o 29 (.build [(.str []), (.str [])] []),
u (.store 2 (.t 4) (.t 29)),
o 5 (.mv (.c (.int .i64 3)))])
(.ret [4, 5]))
.skip))
(.seq (.ops [m 30 6,
m 31 8,
m 32 1,
o 33 (.callF f_mac_Of [(.t 31), (.t 32)]),
o 34 (.callF f_hex_Encode [(.t 33)]),
o 35 (.build [(.str []), (.str [])] [(0, 1, (.t 30)), (1, 1, (.t 34))]),
u (.store 2 (.t 4) (.t 35)),
o 5 (.mv (.c (.int .i64 0)))])
(.ret [4, 5]))))))))⟩
/-! legate/sign.Show -/
def K_sign_Show : KF := ⟨1, 12, [(.tmp 2), (.tmp 3)],
(.seq (.ops [o 1 (.box (.t 0)),
o 2 (.mv (.c (.str []))),
o 3 (.mv (.c (.int .i64 0)))])
(.seq (.seq (.ops [o 4 (.load true 6 (.t 1)),
o 5 (.callF f_sign_May [(.t 4)]),
o 6 (.un .not (.t 5))])
(.cond (.t 6)
(.seq (.ops [o 2 (.mv (.c (.str []))),
o 3 (.mv (.c (.int .i64 3)))])
(.ret [2, 3]))
.skip))
(.seq (.ops [o 7 (.load true 6 (.t 1)),
o 8 (.callF f_sign_object [(.t 7)]),
o 9 (.callF f_canon_Encode [(.t 8)]),
o 10 (.extract (.t 9) 0),
o 11 (.extract (.t 9) 1),
m 2 10,
m 3 11])
(.ret [2, 3]))))⟩
/-! legate/targ.Value -/
def K_targ_Value : KF := ⟨1, 19, [(.cell 2 true 5), (.tmp 3)],
(.seq (.ops [o 1 (.box (.t 0)),
o 2 (.new [(.int .u8 0), (.int .i64 0), (.str []), .nils, .nils] none),
o 3 (.mv (.c (.int .i64 0)))])
(.seq (.seq (.ops [o 6 (.load true 9 (.t 1)),
o 7 (.callF f_targ_May [(.t 6)]),
o 8 (.un .not (.t 7))])
(.cond (.t 8)
(.seq (.ops [o 9 (.build [(.int .u8 0), (.int .i64 0), (.str []), .nils, .nils] []),
u (.store 5 (.t 2) (.t 9)),
o 3 (.mv (.c (.int .i64 3)))])
(.ret [2, 3]))
.skip))
(.seq (.ops [o 11 (.load true 9 (.t 1)),
o 12 (.callF f_targ_object [(.t 11)]),
m 10 12,
o 13 (.extract (.t 10) 0),
o 14 (.extract (.t 10) 1),
o 4 (.new [(.int .u8 0), (.int .i64 0), (.str []), .nils, .nils] none),
u (.store 5 (.t 4) (.t 13)),
m 5 14])
(.seq (.seq (.ops [m 15 5,
o 16 (.bin .neq 0 true (.t 15) (.c (.int .i64 0)))])
(.cond (.t 16)
(.seq (.ops [o 17 (.build [(.int .u8 0), (.int .i64 0), (.str []), .nils, .nils] []),
u (.store 5 (.t 2) (.t 17)),
o 3 (.mv (.c (.int .i64 3)))])
(.ret [2, 3]))
.skip))
(.seq (.ops [o 18 (.load true 5 (.t 4)),
u (.store 5 (.t 2) (.t 18)),
o 3 (.mv (.c (.int .i64 0)))])
(.ret [2, 3]))))))⟩
/-! legate/check.Role$1 -/
def K_check_Role_1 : KF := ⟨2, 25, [(.tmp 2)],
(.seq (.ops [o 2 (.mv (.c (.bool false)))])
(.seq (.ops [o 3 (.mv (.c (.int .i64 0)))])
(.seq (.ops [o 5 (.load false 1 (.t 0)),
o 6 (.nilck (.t 5)),
o 7 (.fieldAddr 16 (.t 6)),
o 8 (.fieldAddr 0 (.t 7)),
o 9 (.load true 5 (.t 8)),
o 10 (.callF f_targ_Of [(.t 9)]),
m 4 10,
o 11 (.extract (.t 4) 0),
o 12 (.extract (.t 4) 1),
u (.store 9 (.t 1) (.t 11)),
m 3 12])
(.seq (.drawn [o 13 (.load false 1 (.t 0)),
⟨(some 14), (.load false 1 (.t 0)), none, [8]⟩,
o 15 (.fieldAddr 0 (.t 1)),
o 16 (.load false 1 (.t 15)),
o 17 (.fieldAddr 1 (.t 1)),
⟨(some 18), (.load false 1 (.t 17)), none, [8]⟩,
o 19 (.nilck (.t 13)),
o 20 (.fieldAddr 22 (.t 19)),
u (.store 1 (.t 20) (.t 16)),
o 21 (.nilck (.t 14)),
o 22 (.fieldAddr 23 (.t 21)),
u (.store 1 (.t 22) (.t 18))])
(.seq (.ops [m 23 3,
o 24 (.bin .neq 0 true (.t 23) (.c (.int .i64 0))),
m 2 24])
(.ret [2]))))))⟩
/-! legate/targ.Of -/
def K_targ_Of : KF := ⟨1, 61, [(.cell 2 true 9), (.tmp 3)],
(.seq (.ops [o 1 (.box (.t 0)),
o 2 (.new [(.int .i64 0), (.int .i64 0), .nils, .nils, .nils, (.int .i64 0), .nils, (.int .i64 0), (.str [])] none),
o 3 (.mv (.c (.int .i64 0)))])
(.seq (.seq (.ops [o 8 (.load true 5 (.t 1)),
o 9 (.callF f_value_May [(.t 8)]),
o 10 (.un .not (.t 9))])
(.cond (.t 10)
(.seq (.ops [o 11 (.build [(.int .i64 0), (.int .i64 0), .nils, .nils, .nils, (.int .i64 0), .nils, (.int .i64 0), (.str [])] []),
u (.store 9 (.t 2) (.t 11)),
o 3 (.mv (.c (.int .i64 3)))])
(.ret [2, 3]))
.skip))
(.seq (.ops [o 12 (.load true 5 (.t 1)),
o 13 (.callF f_pick_Of [(.t 12)]),
m 4 13])
(.seq (.ops [o 5 (.new [(.int .i64 0), (.int .i64 0), .nils, .nils, .nils, (.int .i64 0), .nils, (.int .i64 0), (.str [])] none)])
(.seq (.ops [o 6 (.mv (.c (.int .i64 0)))])
(.seq (.seq (.ops [m 14 4,
o 15 (.callF f_pick_Obj_Text [(.t 14), (.c (.str [95, 116, 121, 112, 101]))]),
o 16 (.bin .neq 0 true (.t 15) (.c (.str [116, 97, 114, 103, 101, 116, 115])))])
(.cond (.t 16)
(.ops [m 17 4,
o 18 (.callF f_pick_Obj_Fail [(.t 17), (.c (.int .i64 13))])])
.skip))
(.seq (.ops [m 19 4,
o 20 (.callF f_pick_Obj_Num [(.t 19), (.c (.str [118, 101, 114, 115, 105, 111, 110])), (.c (.int .i64 1)), (.c (.int .i64 1099511627776))]),
o 21 (.fieldAddr 0 (.t 5)),
u (.store 1 (.t 21) (.t 20))])
(.seq (.ops [m 23 4,
o 24 (.callF f_pick_Obj_Text [(.t 23), (.c (.str [101, 120, 112, 105, 114, 101, 115]))]),
o 25 (.callF f_when_Read [(.t 24)]),
m 22 25,
o 26 (.extract (.t 22) 0),
o 27 (.extract (.t 22) 1),
o 28 (.fieldAddr 1 (.t 5)),
u (.store 1 (.t 28) (.t 26)),
m 6 27])
(.seq (.ops [m 29 4,
m 30 6,
o 31 (.callF f_pick_Obj_Fail [(.t 29), (.t 30)])])
(.seq (.ops [m 33 4,
o 34 (.callF f_pick_Obj_Object [(.t 33), (.c (.str [116, 97, 114, 103, 101, 116, 115])), (.c (.int .i64 256))]),
o 35 (.callF f_targ_listOf [(.t 34)]),
m 32 35,
o 36 (.extract (.t 32) 0),
o 37 (.extract (.t 32) 1),
o 38 (.fieldAddr 2 (.t 5)),
u (.store 1 (.t 38) (.t 36)),
m 6 37])
(.seq (.ops [m 39 4,
m 40 6,
o 41 (.callF f_pick_Obj_Fail [(.t 39), (.t 40)])])
(.seq (.seq (.ops [m 42 4,
o 43 (.callF f_pick_Obj_Has [(.t 42), (.c (.str [100, 101, 108, 101, 103, 97, 116, 105, 111, 110, 115]))])])
(.cond (.t 43)
(.seq (.ops [m 45 4,
o 46 (.callF f_pick_Obj_Object [(.t 45), (.c (.str [100, 101, 108, 101, 103, 97, 116, 105, 111, 110, 115])), (.c (.int .i64 8192))]),
o 47 (.callF f_deleg_Of [(.t 46)]),
m 44 47,
o 48 (.extract (.t 44) 0),
o 49 (.extract (.t 44) 1),
o 50 (.fieldAddr 3 (.t 5)),
u (.store 6 (.t 50) (.t 48)),
m 6 49])
(.ops [m 51 4,
m 52 6,
o 53 (.callF f_pick_Obj_Fail [(.t 51), (.t 52)])]))
.skip))
(.seq (.seq (.ops [m 54 4,
o 55 (.callF f_pick_Obj_Done [(.t 54)]),
m 7 55])
(.seq (.ops [m 56 7,
o 57 (.bin .neq 0 true (.t 56) (.c (.int .i64 0)))])
(.cond (.t 57)
(.seq (.ops [o 58 (.build [(.int .i64 0), (.int .i64 0), .nils, .nils, .nils, (.int .i64 0), .nils, (.int .i64 0), (.str [])] []),
m 59 7,
u (.store 9 (.t 2) (.t 58)),
m 3 59])
(.ret [2, 3]))
.skip)))
(.seq (.ops [o 60 (.load true 9 (.t 5)),
u (.store 9 (.t 2) (.t 60)),
o 3 (.mv (.c (.int .i64 0)))])
(.ret [2, 3])))))))))))))))⟩
/-! legate/check.first -/
def L_check_first_0 : KC :=
(.seq (.ops [o 8 (.bin .lss 0 false (.t 7) (.t 6))])
(.seq (.cond (.t 8)
.skip
(.exit [] 0))
(.seq (.block 1
(.seq (.ops [o 9 (.idxAddrSl 2 (.t 5) (.t 7)),
o 10 (.load true 2 (.t 9)),
o 4 (.new [(.int .u8 0), .nilFunc] none),
u (.store 2 (.t 4) (.t 10))])
(.seq (.ops [o 11 (.fieldAddr 1 (.t 4)),
o 12 (.load false 1 (.t 11)),
o 13 (.callV (.t 12) [])])
(.cond (.t 13)
(.seq (.ops [o 14 (.fieldAddr 0 (.t 4)),
o 15 (.load false 1 (.t 14)),
m 2 15])
(.ret [2]))
.skip))))
(.ops [o 16 (.bin .add 0 true (.t 7) (.c (.int .i64 1))),
m 7 16]))))
def K_check_first : KF := ⟨1, 17, [(.tmp 2)],
(.seq (.ops [o 2 (.mv (.c (.int .u8 0)))])
(.seq (.seq (.ops [m 5 0,
o 6 (.len 1 (.t 5)),
o 7 (.mv (.c (.int .i64 0)))])
(.block 0
(.loop [5, 6, 7] L_check_first_0)))
(.seq (.ops [o 2 (.mv (.c (.int .u8 0)))])
(.ret [2]))))⟩
/-! (*legate/check.file).missing -/
def K_check_file_missing : KF := ⟨1, 8, [(.tmp 2)],
(.seq (.ops [o 2 (.mv (.c (.bool false)))])
(.seq (.ops [m 3 0,
o 4 (.nilck (.t 3)),
o 5 (.fieldAddr 10 (.t 4)),
o 6 (.load false 1 (.t 5)),
o 7 (.bin .eql 0 true (.t 6) (.c (.int .i64 (-1)))),
m 2 7])
(.ret [2])))⟩
/-! (*legate/check.file).big -/
def K_check_file_big : KF := ⟨1, 29, [(.tmp 2)],
(.seq (.ops [o 2 (.mv (.c (.bool false)))])
(.seq (.plain [m 3 0,
o 4 (.nilck (.t 3)),
o 5 (.fieldAddr 10 (.t 4)),
o 6 (.load false 1 (.t 5)),
o 7 (.bin .lss 0 true (.t 6) (.c (.int .i64 0))),
m 8 7,
og 9 8 false (.mv (.t 0)),
og 10 8 false (.nilck (.t 9)),
og 11 8 false (.fieldAddr 4 (.t 10)),
og 12 8 false (.fieldAddr 2 (.t 11)),
og 13 8 false (.load false 1 (.t 12)),
og 14 8 false (.bin .geq 0 true (.t 13) (.c (.int .i64 0))),
og 15 8 false (.mv (.t 14)),
og 16 15 true (.mv (.t 0)),
og 17 15 true (.nilck (.t 16)),
og 18 15 true (.fieldAddr 9 (.t 17)),
og 19 15 true (.load false 1 (.t 18)),
og 20 15 true (.len 0 (.t 19)),
og 21 15 true (.mv (.t 0)),
og 22 15 true (.nilck (.t 21)),
og 23 15 true (.fieldAddr 4 (.t 22)),
og 24 15 true (.fieldAddr 2 (.t 23)),
og 25 15 true (.load false 1 (.t 24)),
og 26 15 true (.bin .gtr 0 false (.t 20) (.t 25)),
og 27 8 false (.pick (.t 15) (.t 26) (.c (.bool false))),
o 28 (.pick (.t 8) (.c (.bool true)) (.t 27)),
m 2 28])
(.ret [2])))⟩
/-! (*legate/check.file).small -/
def K_check_file_small : KF := ⟨1, 22, [(.tmp 2)],
(.seq (.ops [o 2 (.mv (.c (.bool false)))])
(.seq (.plain [m 3 0,
o 4 (.nilck (.t 3)),
o 5 (.fieldAddr 4 (.t 4)),
o 6 (.fieldAddr 2 (.t 5)),
o 7 (.load false 1 (.t 6)),
o 8 (.bin .geq 0 true (.t 7) (.c (.int .i64 0))),
m 9 8,
og 10 9 true (.mv (.t 0)),
og 11 9 true (.nilck (.t 10)),
og 12 9 true (.fieldAddr 9 (.t 11)),
og 13 9 true (.load false 1 (.t 12)),
og 14 9 true (.len 0 (.t 13)),
og 15 9 true (.mv (.t 0)),
og 16 9 true (.nilck (.t 15)),
og 17 9 true (.fieldAddr 4 (.t 16)),
og 18 9 true (.fieldAddr 2 (.t 17)),
og 19 9 true (.load false 1 (.t 18)),
og 20 9 true (.bin .lss 0 false (.t 14) (.t 19)),
o 21 (.pick (.t 9) (.t 20) (.c (.bool false))),
m 2 21])
(.ret [2])))⟩
/-! (*legate/check.file).otherDigest -/
def K_check_file_otherDigest : KF := ⟨1, 32, [(.tmp 2)],
(.seq (.ops [o 2 (.mv (.c (.bool false)))])
(.seq (.seq (.ops [m 5 0,
o 6 (.nilck (.t 5)),
o 7 (.fieldAddr 4 (.t 6)),
o 8 (.fieldAddr 3 (.t 7)),
o 9 (.load false 1 (.t 8)),
o 10 (.len 1 (.t 9)),
o 11 (.bin .eql 0 true (.t 10) (.c (.int .i64 0)))])
(.cond (.t 11)
(.seq (.ops [o 2 (.mv (.c (.bool false)))])
(.ret [2]))
.skip))
(.seq (.ops [m 13 0,
o 14 (.nilck (.t 13)),
o 15 (.fieldAddr 4 (.t 14)),
o 16 (.fieldAddr 3 (.t 15)),
o 17 (.load false 1 (.t 16)),
o 18 (.callF f_record_Hash [(.t 17), (.c (.str [115, 104, 97, 50, 53, 54]))]),
m 12 18,
o 19 (.extract (.t 12) 0),
o 20 (.extract (.t 12) 1),
m 3 19,
m 4 20])
(.seq (.ops [m 21 4,
o 22 (.un .not (.t 21)),
m 23 22,
og 24 23 false (.mv (.t 3)),
og 25 23 false (.mv (.t 0)),
og 26 23 false (.nilck (.t 25)),
og 27 23 false (.fieldAddr 9 (.t 26)),
og 28 23 false (.load false 1 (.t 27)),
og 29 23 false (.callF f_sha_Digest [(.t 28)]),
og 30 23 false (.bin .neq 0 false (.t 24) (.t 29)),
o 31 (.pick (.t 23) (.c (.bool true)) (.t 30)),
m 2 31])
(.ret [2])))))⟩
/-! (*legate/check.file).noText -/
def K_check_file_noText : KF := ⟨1, 21, [(.tmp 2)],
(.seq (.ops [o 2 (.mv (.c (.bool false)))])
(.seq (.ops [m 7 0,
o 8 (.nilck (.t 7)),
o 9 (.fieldAddr 9 (.t 8)),
o 10 (.load false 1 (.t 9)),
o 11 (.callF f_read_Read [(.t 10)]),
m 6 11,
o 12 (.extract (.t 6) 0),
o 13 (.extract (.t 6) 1),
o 14 (.extract (.t 6) 2),
o 3 (.new [(.int .u8 0), (.int .i64 0), (.str []), .nils, .nils] none),
u (.store 5 (.t 3) (.t 12)),
m 4 13,
m 5 14])
(.seq (.ops [m 15 0,
o 16 (.load true 5 (.t 3)),
o 17 (.nilck (.t 15)),
o 18 (.fieldAddr 11 (.t 17)),
u (.store 5 (.t 18) (.t 16))])
(.seq (.ops [m 19 5,
o 20 (.bin .neq 0 true (.t 19) (.c (.int .i64 0))),
m 2 20])
(.ret [2])))))⟩
/-! (*legate/check.file).noEnvelope -/
def K_check_file_noEnvelope : KF := ⟨1, 19, [(.tmp 2)],
(.seq (.ops [o 2 (.mv (.c (.bool false)))])
(.seq (.ops [m 6 0,
o 7 (.nilck (.t 6)),
o 8 (.fieldAddr 11 (.t 7)),
o 9 (.load true 5 (.t 8)),
o 10 (.callF f_sign_Of [(.t 9)]),
m 5 10,
o 11 (.extract (.t 5) 0),
o 12 (.extract (.t 5) 1),
o 3 (.new [(.int .u8 0), (.int .i64 0), (.str []), .nils, .nils, .nils] none),
u (.store 6 (.t 3) (.t 11)),
m 4 12])
(.seq (.ops [m 13 0,
o 14 (.load true 6 (.t 3)),
o 15 (.nilck (.t 13)),
o 16 (.fieldAddr 16 (.t 15)),
u (.store 6 (.t 16) (.t 14))])
(.seq (.ops [m 17 4,
o 18 (.bin .neq 0 true (.t 17) (.c (.int .i64 0))),
m 2 18])
(.ret [2])))))⟩
/-! (*legate/check.file).unsigned -/
def K_check_file_unsigned : KF := ⟨1, 21, [(.tmp 2)],
(.seq (.ops [o 2 (.mv (.c (.bool false)))])
(.seq (.plain [m 3 0,
o 4 (.nilck (.t 3)),
o 5 (.fieldAddr 0 (.t 4)),
o 6 (.load false 1 (.t 5)),
m 7 0,
o 8 (.nilck (.t 7)),
o 9 (.fieldAddr 16 (.t 8)),
o 10 (.load true 6 (.t 9)),
m 11 0,
o 12 (.nilck (.t 11)),
o 13 (.fieldAddr 1 (.t 12)),
o 14 (.load true 2 (.t 13)),
m 15 0,
o 16 (.nilck (.t 15)),
o 17 (.fieldAddr 3 (.t 16)),
o 18 (.load false 1 (.t 17)),
o 19 (.callF f_judge_Enough [(.t 6), (.t 10), (.t 14), (.t 18)]),
o 20 (.un .not (.t 19)),
m 2 20])
(.ret [2])))⟩
/-! (*legate/check.file).otherVersion -/
def K_check_file_otherVersion : KF := ⟨1, 13, [(.tmp 2)],
(.seq (.ops [o 2 (.mv (.c (.bool false)))])
(.seq (.plain [m 3 0,
o 4 (.nilck (.t 3)),
o 5 (.fieldAddr 22 (.t 4)),
o 6 (.load false 1 (.t 5)),
m 7 0,
o 8 (.nilck (.t 7)),
o 9 (.fieldAddr 4 (.t 8)),
o 10 (.fieldAddr 1 (.t 9)),
o 11 (.load false 1 (.t 10)),
o 12 (.bin .neq 0 false (.t 6) (.t 11)),
m 2 12])
(.ret [2])))⟩
/-! (*legate/check.file).expired -/
def K_check_file_expired : KF := ⟨1, 12, [(.tmp 2)],
(.seq (.ops [o 2 (.mv (.c (.bool false)))])
(.seq (.plain [m 3 0,
o 4 (.nilck (.t 3)),
o 5 (.fieldAddr 23 (.t 4)),
o 6 (.load false 1 (.t 5)),
m 7 0,
o 8 (.nilck (.t 7)),
o 9 (.fieldAddr 8 (.t 8)),
o 10 (.load false 1 (.t 9)),
o 11 (.callF f_when_Over [(.t 6), (.t 10)]),
m 2 11])
(.ret [2])))⟩
/-! legate/root.May -/
def L_root_May_0 : KC :=
(.seq (.ops [o 30 (.bin .lss 0 true (.t 29) (.c (.int .i64 3)))])
(.seq (.cond (.t 30)
.skip
(.exit [] 0))
(.seq (.block 1
(.seq (.ops [o 31 (.idxArr 3 true 2 (.t 28) (.t 29)),
o 6 (.new [(.int .i64 0), .nils] none),
u (.store 2 (.t 6) (.t 31))])
(.seq (.ops [o 32 (.load true 2 (.t 6)),
o 33 (.callF f_auth_May [(.t 32)]),
o 34 (.un .not (.t 33))])
(.cond (.t 34)
(.seq (.ops [o 2 (.mv (.c (.bool false)))])
(.ret [2]))
.skip))))
(.ops [o 35 (.bin .add 0 true (.t 29) (.c (.int .i64 1))),
m 29 35]))))
def K_root_May : KF := ⟨1, 36, [(.tmp 2)],
(.seq (.ops [o 1 (.box (.t 0)),
o 2 (.mv (.c (.bool false)))])
(.seq (.seq (.ops [o 7 (.fieldAddr 0 (.t 1)),
o 8 (.load false 1 (.t 7)),
o 9 (.bin .lss 0 true (.t 8) (.c (.int .i64 1))),
m 10 9,
og 11 10 false (.fieldAddr 0 (.t 1)),
og 12 10 false (.load false 1 (.t 11)),
og 13 10 false (.bin .gtr 0 true (.t 12) (.c (.int .i64 1099511627776))),
o 14 (.pick (.t 10) (.c (.bool true)) (.t 13))])
(.cond (.t 14)
(.seq (.ops [o 2 (.mv (.c (.bool false)))])
(.ret [2]))
.skip))
(.seq (.seq (.ops [o 16 (.fieldAddr 1 (.t 1)),
o 17 (.load false 1 (.t 16)),
o 18 (.callF f_when_Show [(.t 17)]),
m 15 18,
o 19 (.extract (.t 15) 0),
o 20 (.extract (.t 15) 1),
m 3 19,
m 4 20])
(.seq (.ops [m 21 4,
o 22 (.bin .neq 0 true (.t 21) (.c (.int .i64 0)))])
(.cond (.t 22)
(.seq (.ops [o 2 (.mv (.c (.bool false)))])
(.ret [2]))
.skip)))
(.seq (.seq (.ops [o 23 (.fieldAddr 2 (.t 1)),
o 24 (.load false 1 (.t 23)),
o 25 (.callF f_root_keysMay [(.t 24)]),
o 26 (.un .not (.t 25))])
(.cond (.t 26)
(.seq (.ops [o 2 (.mv (.c (.bool false)))])
(.ret [2]))
.skip))
(.seq (.seq (.ops [o 27 (.load true 9 (.t 1)),
o 28 (.callF f_root_auths [(.t 27)]),
o 29 (.mv (.c (.int .i64 0)))])
(.block 0
(.loop [28, 29] L_root_May_0)))
(.seq (.ops [o 2 (.mv (.c (.bool true)))])
(.ret [2])))))))⟩
/-! legate/when.Show -/
def L_when_Show_0 : KC :=
(.seq (.seq (.ops [m 19 6,
o 20 (.bin .lss 0 true (.t 19) (.c (.int .i64 9999))),
m 21 20,
og 22 21 true (.mv (.t 4)),
og 23 21 true (.mv (.t 6)),
og 24 21 true (.bin .add 0 true (.t 23) (.c (.int .i64 1))),
og 25 21 true (.callF f_when_start [(.t 24)]),
og 26 21 true (.bin .geq 0 false (.t 22) (.t 25)),
o 27 (.pick (.t 21) (.t 26) (.c (.bool false)))])
(.cond (.t 27)
.skip
(.exit [4, 5, 6] 0)))
(.block 1
(.ops [m 28 6,
o 29 (.bin .add 0 true (.t 28) (.c (.int .i64 1))),
m 6 29])))
def L_when_Show_1 : KC :=
(.seq (.seq (.ops [m 34 7,
o 35 (.bin .lss 0 true (.t 34) (.c (.int .i64 12))),
m 36 35,
og 37 36 true (.mv (.t 4)),
og 38 36 true (.mv (.t 6)),
og 39 36 true (.mv (.t 7)),
og 40 36 true (.callF f_when_Days [(.t 38), (.t 39)]),
og 41 36 true (.bin .geq 0 false (.t 37) (.t 40)),
o 42 (.pick (.t 36) (.t 41) (.c (.bool false)))])
(.cond (.t 42)
.skip
(.exit [4, 5, 6, 7] 2)))
(.block 3
(.seq (.ops [m 43 4,
m 44 6,
m 45 7,
o 46 (.callF f_when_Days [(.t 44), (.t 45)]),
o 47 (.bin .sub 0 false (.t 43) (.t 46)),
m 4 47])
(.ops [m 48 7,
o 49 (.bin .add 0 true (.t 48) (.c (.int .i64 1))),
m 7 49]))))
def K_when_Show : KF := ⟨1, 79, [(.tmp 2), (.tmp 3)],
(.seq (.ops [o 2 (.mv (.c (.str []))),
o 3 (.mv (.c (.int .i64 0)))])
(.seq (.seq (.ops [m 9 0,
o 10 (.bin .lss 0 true (.t 9) (.c (.int .i64 0))),
m 11 10,
og 12 11 false (.mv (.t 0)),
og 13 11 false (.bin .gtr 0 true (.t 12) (.c (.int .i64 253402300799))),
o 14 (.pick (.t 11) (.c (.bool true)) (.t 13))])
(.cond (.t 14)
(.seq (.ops [o 2 (.mv (.c (.str []))),
o 3 (.mv (.c (.int .i64 1)))])
(.ret [2, 3]))
.skip))
(.seq (.ops [m 15 0,
o 16 (.bin .quo 0 true (.t 15) (.c (.int .i64 86400))),
m 17 0,
o 18 (.bin .rem 0 true (.t 17) (.c (.int .i64 86400))),
m 4 16,
m 5 18])
(.seq (.ops [o 6 (.mv (.c (.int .i64 1970)))])
(.seq (.block 0
(.loop [4, 5, 6] L_when_Show_0))
(.seq (.ops [m 30 4,
m 31 6,
o 32 (.callF f_when_start [(.t 31)]),
o 33 (.bin .sub 0 false (.t 30) (.t 32)),
m 4 33])
(.seq (.ops [o 7 (.mv (.c (.int .i64 1)))])
(.seq (.block 2
(.loop [4, 5, 6, 7] L_when_Show_1))
(.seq (.ops [m 50 6,
o 51 (.callF f_when_pad [(.t 50), (.c (.int .i64 4))]),
o 52 (.bin .add 0 true (.t 51) (.c (.str [45]))),
m 53 7,
o 54 (.callF f_when_pad [(.t 53), (.c (.int .i64 2))]),
o 55 (.bin .add 0 false (.t 52) (.t 54)),
o 56 (.bin .add 0 true (.t 55) (.c (.str [45]))),
m 57 4,
o 58 (.bin .add 0 true (.t 57) (.c (.int .i64 1))),
o 59 (.callF f_when_pad [(.t 58), (.c (.int .i64 2))]),
o 60 (.bin .add 0 false (.t 56) (.t 59)),
m 8 60])
(.seq (.ops [m 61 8,
o 62 (.bin .add 0 true (.t 61) (.c (.str [84]))),
m 63 5,
o 64 (.bin .quo 0 true (.t 63) (.c (.int .i64 3600))),
o 65 (.callF f_when_pad [(.t 64), (.c (.int .i64 2))]),
o 66 (.bin .add 0 false (.t 62) (.t 65)),
o 67 (.bin .add 0 true (.t 66) (.c (.str [58]))),
m 68 5,
o 69 (.bin .quo 0 true (.t 68) (.c (.int .i64 60))),
o 70 (.bin .rem 0 true (.t 69) (.c (.int .i64 60))),
o 71 (.callF f_when_pad [(.t 70), (.c (.int .i64 2))]),
o 72 (.bin .add 0 false (.t 67) (.t 71)),
o 73 (.bin .add 0 true (.t 72) (.c (.str [58]))),
m 74 5,
o 75 (.bin .rem 0 true (.t 74) (.c (.int .i64 60))),
o 76 (.callF f_when_pad [(.t 75), (.c (.int .i64 2))]),
o 77 (.bin .add 0 false (.t 73) (.t 76)),
o 78 (.bin .add 0 true (.t 77) (.c (.str [90]))),
m 2 78,
o 3 (.mv (.c (.int .i64 0)))])
(.ret [2, 3])))))))))))⟩
/-! legate/key.Table -/
def L_key_Table_0 : KC :=
(.seq (.ops [o 36 (.bin .lss 0 false (.t 35) (.t 34))])
(.seq (.cond (.t 36)
.skip
(.exit [2, 4, 7, 18, 19, 20] 2))
(.seq (.block 3
(.seq (.ops [o 37 (.idxAddrSl 6 (.t 33) (.t 35)),
o 38 (.load true 6 (.t 37)),
o 10 (.new [(.str []), (.int .u8 0), (.int .i64 0), (.str []), .nils, .nils] none),
u (.store 6 (.t 10) (.t 38))])
(.seq (.ops [o 39 (.fieldAddr 0 (.t 10)),
o 40 (.load false 1 (.t 39)),
o 41 (.fieldAddr 0 (.t 7)),
o 42 (.load false 1 (.t 41)),
o 43 (.bin .eql 0 false (.t 40) (.t 42))])
(.cond (.t 43)
(.seq (.ops [o 44 (.build [(.int .u8 0), (.int .i64 0), (.str []), .nils, .nils] []),
u (.store 5 (.t 2) (.t 44)),
o 3 (.mv (.c (.int .i64 7)))])
(.ret [2, 3]))
.skip))))
(.ops [o 45 (.bin .add 0 true (.t 35) (.c (.int .i64 1))),
m 35 45]))))
def L_key_Table_1 : KC :=
(.seq (.ops [o 21 (.bin .lss 0 false (.t 20) (.t 19))])
(.seq (.cond (.t 21)
.skip
(.exit [2, 4] 0))
(.seq (.block 1
(.seq (.ops [o 22 (.idxAddrSl 2 (.t 18) (.t 20)),
o 23 (.load true 2 (.t 22)),
o 6 (.new [(.str []), (.str [])] none),
u (.store 2 (.t 6) (.t 23))])
(.seq (.ops [o 25 (.load true 2 (.t 6)),
o 26 (.callF f_key_entryOf [(.t 25)]),
m 24 26,
o 27 (.extract (.t 24) 0),
o 28 (.extract (.t 24) 1),
o 7 (.new [(.str []), (.int .u8 0), (.int .i64 0), (.str []), .nils, .nils] none),
u (.store 6 (.t 7) (.t 27)),
m 8 28])
(.seq (.seq (.ops [m 29 8,
o 30 (.bin .neq 0 true (.t 29) (.c (.int .i64 0)))])
(.cond (.t 30)
(.seq (.ops [o 31 (.build [(.int .u8 0), (.int .i64 0), (.str []), .nils, .nils] []),
m 32 8,
u (.store 5 (.t 2) (.t 31)),
m 3 32])
(.ret [2, 3]))
.skip))
(.seq (.seq (.ops [m 33 4,
o 34 (.len 1 (.t 33)),
o 35 (.mv (.c (.int .i64 0)))])
(.block 2
(.loop [2, 4, 7, 18, 19, 20, 33, 34, 35] L_key_Table_0)))
(.ops [m 46 4,
o 47 (.load true 6 (.t 7)),
o 48 (.buildSl [(.str []), (.int .u8 0), (.int .i64 0), (.str []), .nils, .nils] 1 6 [(0, 6, (.t 47))]),
o 49 (.app false 6 96 none (.t 46) (.t 48)),
m 4 49]))))))
(.ops [o 50 (.bin .add 0 true (.t 20) (.c (.int .i64 1))),
m 20 50]))))
def L_key_Table_2 : KC :=
(.seq (.ops [o 57 (.bin .lss 0 false (.t 56) (.t 55))])
(.seq (.cond (.t 57)
.skip
(.exit [2, 11] 4))
(.seq (.block 5
(.seq (.ops [o 58 (.idxAddrSl 6 (.t 54) (.t 56)),
o 59 (.load true 6 (.t 58)),
o 13 (.new [(.str []), (.int .u8 0), (.int .i64 0), (.str []), .nils, .nils] none),
u (.store 6 (.t 13) (.t 59))])
(.seq (.ops [o 60 (.fieldAddr 3 (.t 11)),
o 61 (.load false 1 (.t 60)),
o 62 (.fieldAddr 0 (.t 13)),
o 63 (.load false 1 (.t 62)),
o 64 (.buildSl [(.str [])] 1 1 [(0, 1, (.t 63))]),
o 65 (.app false 1 16 none (.t 61) (.t 64)),
o 66 (.fieldAddr 3 (.t 11)),
u (.store 1 (.t 66) (.t 65))])
(.ops [o 67 (.fieldAddr 4 (.t 11)),
o 68 (.load false 1 (.t 67)),
o 69 (.fieldAddr 1 (.t 13)),
o 70 (.load true 5 (.t 69)),
o 71 (.buildSl [(.int .u8 0), (.int .i64 0), (.str []), .nils, .nils] 1 5 [(0, 5, (.t 70))]),
o 72 (.app false 5 80 none (.t 68) (.t 71)),
o 73 (.fieldAddr 4 (.t 11)),
u (.store 1 (.t 73) (.t 72))]))))
(.ops [o 74 (.bin .add 0 true (.t 56) (.c (.int .i64 1))),
m 56 74]))))
def K_key_Table : KF := ⟨1, 76, [(.cell 2 true 5), (.tmp 3)],
(.seq (.ops [o 2 (.new [(.int .u8 0), (.int .i64 0), (.str []), .nils, .nils] none),
o 3 (.mv (.c (.int .i64 0)))])
(.seq (.seq (.ops [m 14 0,
o 15 (.len 1 (.t 14)),
o 16 (.bin .gtr 0 true (.t 15) (.c (.int .i64 32)))])
(.cond (.t 16)
(.seq (.ops [o 17 (.build [(.int .u8 0), (.int .i64 0), (.str []), .nils, .nils] []),
u (.store 5 (.t 2) (.t 17)),
o 3 (.mv (.c (.int .i64 5)))])
(.ret [2, 3]))
.skip))
(.seq (.ops [o 4 (.mv (.c .nils))])
(.seq (.seq (.ops [m 18 0,
o 19 (.len 1 (.t 18)),
o 20 (.mv (.c (.int .i64 0)))])
(.block 0
(.loop [2, 4, 18, 19, 20] L_key_Table_1)))
(.seq (.ops [m 51 4,
o 52 (.callF f_slices_SortFunc_key_entry_key_entry [(.t 51), (.c (.func (.func f_key_entry_compare) [] []))])])
(.seq (.ops [o 53 (.build [(.int .u8 0), (.int .i64 0), (.str []), .nils, .nils] [(0, 1, (.c (.int .u8 5)))]),
o 11 (.new [(.int .u8 0), (.int .i64 0), (.str []), .nils, .nils] none),
u (.store 5 (.t 11) (.t 53))])
(.seq (.seq (.ops [m 54 4,
o 55 (.len 1 (.t 54)),
o 56 (.mv (.c (.int .i64 0)))])
(.block 4
(.loop [2, 11, 54, 55, 56] L_key_Table_2)))
(.seq (.ops [o 75 (.load true 5 (.t 11)),
u (.store 5 (.t 2) (.t 75)),
o 3 (.mv (.c (.int .i64 0)))])
(.ret [2, 3])))))))))⟩
/-! legate/root.auths -/
def K_root_auths : KF := ⟨1, 10, [(.cell 2 true 6)],
(.seq (.ops [o 1 (.box (.t 0)),
o 2 (.new [(.int .i64 0), .nils, (.int .i64 0), .nils, (.int .i64 0), .nils] none)])
(.seq (.ops [o 3 (.fieldAddr 3 (.t 1)),
o 4 (.load true 2 (.t 3)),
o 5 (.fieldAddr 5 (.t 1)),
o 6 (.load true 2 (.t 5)),
o 7 (.fieldAddr 7 (.t 1)),
o 8 (.load true 2 (.t 7)),
o 9 (.build [(.int .i64 0), .nils, (.int .i64 0), .nils, (.int .i64 0), .nils] [(0, 2, (.t 4)), (2, 2, (.t 6)), (4, 2, (.t 8))]),
u (.store 6 (.t 2) (.t 9))])
(.ret [2])))⟩
/-! legate/auth.Value -/
def K_auth_Value : KF := ⟨1, 13, [(.cell 2 true 5), (.tmp 3)],
(.seq (.ops [o 1 (.box (.t 0)),
o 2 (.new [(.int .u8 0), (.int .i64 0), (.str []), .nils, .nils] none),
o 3 (.mv (.c (.int .i64 0)))])
(.seq (.seq (.ops [o 4 (.load true 2 (.t 1)),
o 5 (.callF f_auth_May [(.t 4)]),
o 6 (.un .not (.t 5))])
(.cond (.t 6)
(.seq (.ops [o 7 (.build [(.int .u8 0), (.int .i64 0), (.str []), .nils, .nils] []),
u (.store 5 (.t 2) (.t 7)),
o 3 (.mv (.c (.int .i64 3)))])
(.ret [2, 3]))
.skip))
(.seq (.ops [o 8 (.load true 2 (.t 1)),
o 9 (.callF f_auth_Members [(.t 8)]),
o 10 (.callF f_pick_ObjectOf [(.t 9)]),
o 11 (.extract (.t 10) 0),
o 12 (.extract (.t 10) 1),
u (.store 5 (.t 2) (.t 11)),
m 3 12])
(.ret [2, 3]))))⟩
/-! legate/pick.ObjectOf -/
def L_pick_ObjectOf_0 : KC :=
(.seq (.ops [o 16 (.bin .lss 0 false (.t 15) (.t 14))])
(.seq (.cond (.t 16)
.skip
(.exit [2, 5] 0))
(.seq (.block 1
(.seq (.ops [m 17 15,
o 18 (.idxAddrSl 6 (.t 13) (.t 15)),
o 19 (.load true 6 (.t 18)),
o 7 (.new [(.str []), (.int .u8 0), (.int .i64 0), (.str []), .nils, .nils] none),
m 6 17,
u (.store 6 (.t 7) (.t 19))])
(.seq (.seq (.plain [m 20 6,
o 21 (.bin .gtr 0 true (.t 20) (.c (.int .i64 0))),
m 22 21,
og 23 22 true (.mv (.t 4)),
og 24 22 true (.mv (.t 6)),
og 25 22 true (.bin .sub 0 true (.t 24) (.c (.int .i64 1))),
og 26 22 true (.idxAddrSl 6 (.t 23) (.t 25)),
og 27 22 true (.fieldAddr 0 (.t 26)),
og 28 22 true (.load false 1 (.t 27)),
og 29 22 true (.fieldAddr 0 (.t 7)),
og 30 22 true (.load false 1 (.t 29)),
og 31 22 true (.bin .eql 0 false (.t 28) (.t 30)),
o 32 (.pick (.t 22) (.t 31) (.c (.bool false)))])
(.cond (.t 32)
(.seq (.ops [o 33 (.build [(.int .u8 0), (.int .i64 0), (.str []), .nils, .nils] []),
u (.store 5 (.t 2) (.t 33)),
o 3 (.mv (.c (.int .i64 7)))])
(.ret [2, 3]))
.skip))
(.seq (.ops [o 34 (.fieldAddr 3 (.t 5)),
o 35 (.load false 1 (.t 34)),
o 36 (.fieldAddr 0 (.t 7)),
o 37 (.load false 1 (.t 36)),
o 38 (.buildSl [(.str [])] 1 1 [(0, 1, (.t 37))]),
o 39 (.app false 1 16 none (.t 35) (.t 38)),
o 40 (.fieldAddr 3 (.t 5)),
u (.store 1 (.t 40) (.t 39))])
(.drawn [o 41 (.fieldAddr 4 (.t 5)),
⟨(some 42), (.load false 1 (.t 41)), none, [4]⟩,
o 43 (.fieldAddr 1 (.t 7)),
o 44 (.load true 5 (.t 43)),
o 45 (.callF f_value_Copy [(.t 44)]),
o 46 (.buildSl [(.int .u8 0), (.int .i64 0), (.str []), .nils, .nils] 1 5 [(0, 5, (.t 45))]),
o 47 (.app false 5 80 none (.t 42) (.t 46)),
o 48 (.fieldAddr 4 (.t 5)),
u (.store 1 (.t 48) (.t 47))])))))
(.ops [o 49 (.bin .add 0 true (.t 15) (.c (.int .i64 1))),
m 15 49]))))
def K_pick_ObjectOf : KF := ⟨1, 51, [(.cell 2 true 5), (.tmp 3)],
(.seq (.ops [o 2 (.new [(.int .u8 0), (.int .i64 0), (.str []), .nils, .nils] none),
o 3 (.mv (.c (.int .i64 0)))])
(.seq (.ops [m 8 0,
o 9 (.callF f_slices_Clone_pick_Member_pick_Member [(.t 8)]),
m 4 9])
(.seq (.ops [m 10 4,
o 11 (.callF f_slices_SortFunc_pick_Member_pick_Member [(.t 10), (.c (.func (.func f_pick_ObjectOf_1) [] []))])])
(.seq (.ops [o 12 (.build [(.int .u8 0), (.int .i64 0), (.str []), .nils, .nils] [(0, 1, (.c (.int .u8 5)))]),
o 5 (.new [(.int .u8 0), (.int .i64 0), (.str []), .nils, .nils] none),
u (.store 5 (.t 5) (.t 12))])
(.seq (.seq (.ops [m 13 4,
o 14 (.len 1 (.t 13)),
o 15 (.mv (.c (.int .i64 0)))])
(.block 0
(.loop [2, 4, 5, 13, 14, 15] L_pick_ObjectOf_0)))
(.seq (.ops [o 50 (.load true 5 (.t 5)),
u (.store 5 (.t 2) (.t 50)),
o 3 (.mv (.c (.int .i64 0)))])
(.ret [2, 3])))))))⟩
/-! legate/pick.TextOf -/
def K_pick_TextOf : KF := ⟨1, 5, [(.cell 2 true 5)],
(.seq (.ops [o 2 (.new [(.int .u8 0), (.int .i64 0), (.str []), .nils, .nils] none)])
(.seq (.ops [m 3 0,
o 4 (.build [(.int .u8 0), (.int .i64 0), (.str []), .nils, .nils] [(0, 1, (.c (.int .u8 3))), (2, 1, (.t 3))]),
u (.store 5 (.t 2) (.t 4))])
(.ret [2])))⟩
/-! legate/pick.NumOf -/
def K_pick_NumOf : KF := ⟨1, 5, [(.cell 2 true 5)],
(.seq (.ops [o 2 (.new [(.int .u8 0), (.int .i64 0), (.str []), .nils, .nils] none)])
(.seq (.ops [m 3 0,
o 4 (.build [(.int .u8 0), (.int .i64 0), (.str []), .nils, .nils] [(0, 1, (.c (.int .u8 2))), (1, 1, (.t 3))]),
u (.store 5 (.t 2) (.t 4))])
(.ret [2])))⟩
/-! legate/key.Keys -/
def L_key_Keys_0 : KC :=
(.seq (.ops [o 24 (.bin .lss 0 false (.t 23) (.t 22))])
(.seq (.cond (.t 24)
.skip
(.exit [4] 0))
(.seq (.block 1
(.seq (.ops [m 25 23,
o 26 (.idxAddrSl 1 (.t 21) (.t 23)),
o 27 (.load false 1 (.t 26)),
m 5 25,
m 6 27])
(.seq (.ops [o 29 (.fieldAddr 4 (.t 1)),
o 30 (.load false 1 (.t 29)),
m 31 5,
o 32 (.idxAddrSl 5 (.t 30) (.t 31)),
o 33 (.load true 5 (.t 32)),
o 34 (.callF f_key_Of [(.t 33)]),
m 28 34,
o 35 (.extract (.t 28) 0),
o 36 (.extract (.t 28) 1),
o 7 (.new [(.str []), (.str [])] none),
u (.store 2 (.t 7) (.t 35)),
m 8 36])
(.seq (.seq (.ops [m 37 8,
o 38 (.bin .neq 0 true (.t 37) (.c (.int .i64 0)))])
(.cond (.t 38)
(.seq (.ops [m 39 8,
o 2 (.mv (.c .nils)),
m 3 39])
(.ret [2, 3]))
.skip))
(.seq (.ops [o 41 (.load true 2 (.t 7)),
o 42 (.callF f_key_ID [(.t 41)]),
m 40 42,
o 43 (.extract (.t 40) 0),
o 44 (.extract (.t 40) 1),
m 9 43,
m 8 44])
(.seq (.seq (.ops [m 45 8,
o 46 (.bin .neq 0 true (.t 45) (.c (.int .i64 0)))])
(.cond (.t 46)
(.seq (.ops [m 47 8,
o 2 (.mv (.c .nils)),
m 3 47])
(.ret [2, 3]))
.skip))
(.seq (.seq (.ops [m 48 9,
m 49 6,
o 50 (.bin .neq 0 false (.t 48) (.t 49))])
(.cond (.t 50)
(.seq (.ops [o 2 (.mv (.c .nils)),
o 3 (.mv (.c (.int .i64 3)))])
(.ret [2, 3]))
.skip))
(.ops [m 51 4,
o 52 (.load true 2 (.t 7)),
o 53 (.buildSl [(.str []), (.str [])] 1 2 [(0, 2, (.t 52))]),
o 54 (.app false 2 32 none (.t 51) (.t 53)),
m 4 54]))))))))
(.ops [o 55 (.bin .add 0 true (.t 23) (.c (.int .i64 1))),
m 23 55]))))
def K_key_Keys : KF := ⟨1, 57, [(.tmp 2), (.tmp 3)],
(.seq (.ops [o 1 (.box (.t 0)),
o 2 (.mv (.c .nils)),
o 3 (.mv (.c (.int .i64 0)))])
(.seq (.seq (.ops [o 10 (.load true 5 (.t 1)),
o 11 (.callF f_value_May [(.t 10)]),
o 12 (.un .not (.t 11))])
(.cond (.t 12)
(.seq (.ops [o 2 (.mv (.c .nils)),
o 3 (.mv (.c (.int .i64 3)))])
(.ret [2, 3]))
.skip))
(.seq (.seq (.ops [o 13 (.fieldAddr 0 (.t 1)),
o 14 (.load false 1 (.t 13)),
o 15 (.bin .neq 0 true (.t 14) (.c (.int .u8 5)))])
(.cond (.t 15)
(.seq (.ops [o 2 (.mv (.c .nils)),
o 3 (.mv (.c (.int .i64 10)))])
(.ret [2, 3]))
.skip))
(.seq (.seq (.ops [o 16 (.fieldAddr 3 (.t 1)),
o 17 (.load false 1 (.t 16)),
o 18 (.len 1 (.t 17)),
o 19 (.bin .gtr 0 true (.t 18) (.c (.int .i64 32)))])
(.cond (.t 19)
(.seq (.ops [o 2 (.mv (.c .nils)),
o 3 (.mv (.c (.int .i64 5)))])
(.ret [2, 3]))
.skip))
(.seq (.ops [o 4 (.mv (.c .nils))])
(.seq (.seq (.ops [o 20 (.fieldAddr 3 (.t 1)),
o 21 (.load false 1 (.t 20)),
o 22 (.len 1 (.t 21)),
o 23 (.mv (.c (.int .i64 0)))])
(.block 0
(.loop [1, 4, 21, 22, 23] L_key_Keys_0)))
(.seq (.ops [m 56 4,
m 2 56,
o 3 (.mv (.c (.int .i64 0)))])
(.ret [2, 3]))))))))⟩
/-! legate/sign.Read -/
def K_sign_Read : KF := ⟨1, 21, [(.cell 2 true 6), (.tmp 3)],
(.seq (.ops [o 2 (.new [(.int .u8 0), (.int .i64 0), (.str []), .nils, .nils, .nils] none),
o 3 (.mv (.c (.int .i64 0)))])
(.seq (.ops [m 8 0,
o 9 (.callF f_read_Read [(.t 8)]),
m 7 9,
o 10 (.extract (.t 7) 0),
o 11 (.extract (.t 7) 1),
o 12 (.extract (.t 7) 2),
o 4 (.new [(.int .u8 0), (.int .i64 0), (.str []), .nils, .nils] none),
u (.store 5 (.t 4) (.t 10)),
m 5 11,
m 6 12])
(.seq (.seq (.ops [m 13 6,
o 14 (.bin .neq 0 true (.t 13) (.c (.int .i64 0)))])
(.cond (.t 14)
(.seq (.ops [o 15 (.build [(.int .u8 0), (.int .i64 0), (.str []), .nils, .nils, .nils] []),
m 16 6,
u (.store 6 (.t 2) (.t 15)),
m 3 16])
(.ret [2, 3]))
.skip))
(.seq (.ops [o 17 (.load true 5 (.t 4)),
o 18 (.callF f_sign_Of [(.t 17)]),
o 19 (.extract (.t 18) 0),
o 20 (.extract (.t 18) 1),
u (.store 6 (.t 2) (.t 19)),
m 3 20])
(.ret [2, 3])))))⟩
/-! legate/root.Of -/
def K_root_Of : KF := ⟨1, 68, [(.cell 2 true 9), (.tmp 3)],
(.seq (.ops [o 1 (.box (.t 0)),
o 2 (.new [(.int .i64 0), (.int .i64 0), .nils, (.int .i64 0), .nils, (.int .i64 0), .nils, (.int .i64 0), .nils] none),
o 3 (.mv (.c (.int .i64 0)))])
(.seq (.seq (.ops [o 9 (.load true 5 (.t 1)),
o 10 (.callF f_value_May [(.t 9)]),
o 11 (.un .not (.t 10))])
(.cond (.t 11)
(.seq (.ops [o 12 (.build [(.int .i64 0), (.int .i64 0), .nils, (.int .i64 0), .nils, (.int .i64 0), .nils, (.int .i64 0), .nils] []),
u (.store 9 (.t 2) (.t 12)),
o 3 (.mv (.c (.int .i64 3)))])
(.ret [2, 3]))
.skip))
(.seq (.ops [o 13 (.load true 5 (.t 1)),
o 14 (.callF f_pick_Of [(.t 13)]),
m 4 14])
(.seq (.ops [o 5 (.new [(.int .i64 0), (.int .i64 0), .nils, (.int .i64 0), .nils, (.int .i64 0), .nils, (.int .i64 0), .nils] none)])
(.seq (.ops [o 6 (.mv (.c (.int .i64 0)))])
(.seq (.seq (.ops [m 15 4,
o 16 (.callF f_pick_Obj_Text [(.t 15), (.c (.str [95, 116, 121, 112, 101]))]),
o 17 (.bin .neq 0 true (.t 16) (.c (.str [114, 111, 111, 116])))])
(.cond (.t 17)
(.ops [m 18 4,
o 19 (.callF f_pick_Obj_Fail [(.t 18), (.c (.int .i64 13))])])
.skip))
(.seq (.ops [m 20 4,
o 21 (.callF f_pick_Obj_Num [(.t 20), (.c (.str [118, 101, 114, 115, 105, 111, 110])), (.c (.int .i64 1)), (.c (.int .i64 1099511627776))]),
o 22 (.fieldAddr 0 (.t 5)),
u (.store 1 (.t 22) (.t 21))])
(.seq (.ops [m 24 4,
o 25 (.callF f_pick_Obj_Text [(.t 24), (.c (.str [101, 120, 112, 105, 114, 101, 115]))]),
o 26 (.callF f_when_Read [(.t 25)]),
m 23 26,
o 27 (.extract (.t 23) 0),
o 28 (.extract (.t 23) 1),
o 29 (.fieldAddr 1 (.t 5)),
u (.store 1 (.t 29) (.t 27)),
m 6 28])
(.seq (.ops [m 30 4,
m 31 6,
o 32 (.callF f_pick_Obj_Fail [(.t 30), (.t 31)])])
(.seq (.ops [m 34 4,
o 35 (.callF f_pick_Obj_Object [(.t 34), (.c (.str [107, 101, 121, 115])), (.c (.int .i64 32))]),
o 36 (.callF f_key_Keys [(.t 35)]),
m 33 36,
o 37 (.extract (.t 33) 0),
o 38 (.extract (.t 33) 1),
o 39 (.fieldAddr 2 (.t 5)),
u (.store 1 (.t 39) (.t 37)),
m 6 38])
(.seq (.ops [m 40 4,
m 41 6,
o 42 (.callF f_pick_Obj_Fail [(.t 40), (.t 41)])])
(.seq (.ops [m 44 4,
o 45 (.callF f_pick_Obj_Object [(.t 44), (.c (.str [114, 111, 108, 101, 115])), (.c (.int .i64 8192))]),
o 46 (.callF f_root_authsOf [(.t 45)]),
m 43 46,
o 47 (.extract (.t 43) 0),
o 48 (.extract (.t 43) 1),
o 7 (.new [(.int .i64 0), .nils, (.int .i64 0), .nils, (.int .i64 0), .nils] none),
u (.store 6 (.t 7) (.t 47)),
m 6 48])
(.seq (.ops [m 49 4,
m 50 6,
o 51 (.callF f_pick_Obj_Fail [(.t 49), (.t 50)])])
(.seq (.drawn [o 52 (.idxAddrArr 3 2 (.t 7) (.c (.int .i64 0))),
o 53 (.load true 2 (.t 52)),
o 54 (.idxAddrArr 3 2 (.t 7) (.c (.int .i64 1))),
⟨(some 55), (.load true 2 (.t 54)), none, [7]⟩,
o 56 (.idxAddrArr 3 2 (.t 7) (.c (.int .i64 2))),
⟨(some 57), (.load true 2 (.t 56)), none, [7, 9]⟩,
o 58 (.fieldAddr 3 (.t 5)),
u (.store 2 (.t 58) (.t 53)),
o 59 (.fieldAddr 5 (.t 5)),
u (.store 2 (.t 59) (.t 55)),
o 60 (.fieldAddr 7 (.t 5)),
u (.store 2 (.t 60) (.t 57))])
(.seq (.seq (.ops [m 61 4,
o 62 (.callF f_pick_Obj_Done [(.t 61)]),
m 8 62])
(.seq (.ops [m 63 8,
o 64 (.bin .neq 0 true (.t 63) (.c (.int .i64 0)))])
(.cond (.t 64)
(.seq (.ops [o 65 (.build [(.int .i64 0), (.int .i64 0), .nils, (.int .i64 0), .nils, (.int .i64 0), .nils, (.int .i64 0), .nils] []),
m 66 8,
u (.store 9 (.t 2) (.t 65)),
m 3 66])
(.ret [2, 3]))
.skip)))
(.seq (.ops [o 67 (.load true 9 (.t 5)),
u (.store 9 (.t 2) (.t 67)),
o 3 (.mv (.c (.int .i64 0)))])
(.ret [2, 3])))))))))))))))))⟩
/-! legate/judge.Enough -/
def K_judge_Enough : KF := ⟨4, 21, [(.tmp 8)],
(.seq (.ops [o 5 (.box (.t 1)),
o 6 (.box (.t 2)),
o 8 (.mv (.c (.bool false)))])
(.seq (.drawn [o 9 (.load true 2 (.t 6)),
o 10 (.callF f_auth_May [(.t 9)]),
m 11 10,
og 12 11 true (.mv (.t 0)),
og 13 11 true (.load true 6 (.t 5)),
og 14 11 true (.load true 2 (.t 6)),
og 15 11 true (.mv (.t 3)),
og 16 11 true (.callF f_judge_Count [(.t 12), (.t 13), (.t 14), (.t 15)]),
og 17 11 true (.fieldAddr 0 (.t 6)),
⟨(some 18), (.load false 1 (.t 17)), (some (11, true)), [7]⟩,
og 19 11 true (.bin .geq 0 false (.t 16) (.t 18)),
o 20 (.pick (.t 11) (.t 19) (.c (.bool false))),
m 8 20])
(.ret [8])))⟩
/-! legate/snap.Value -/
def L_snap_Value_0 : KC :=
(.seq (.ops [o 33 (.bin .lss 0 false (.t 32) (.t 31))])
(.seq (.cond (.t 33)
.skip
(.exit [1, 2, 4, 6] 0))
(.seq (.block 1
(.seq (.ops [o 34 (.idxAddrSl 4 (.t 30) (.t 32)),
o 35 (.load true 4 (.t 34)),
o 8 (.new [(.str []), (.int .i64 0), (.int .i64 0), .nils] none),
u (.store 4 (.t 8) (.t 35))])
(.seq (.ops [o 37 (.load true 4 (.t 8)),
o 38 (.callF f_snap_PinValue [(.t 37)]),
m 36 38,
o 39 (.extract (.t 36) 0),
o 40 (.extract (.t 36) 1),
o 9 (.new [(.int .u8 0), (.int .i64 0), (.str []), .nils, .nils] none),
u (.store 5 (.t 9) (.t 39)),
m 10 40])
(.seq (.seq (.ops [m 41 10,
o 42 (.bin .neq 0 true (.t 41) (.c (.int .i64 0)))])
(.cond (.t 42)
(.seq (.ops [o 43 (.build [(.int .u8 0), (.int .i64 0), (.str []), .nils, .nils] []),
u (.store 5 (.t 2) (.t 43)),
o 3 (.mv (.c (.int .i64 3)))])
(.ret [2, 3]))
.skip))
(.ops [m 44 6,
o 45 (.fieldAddr 0 (.t 8)),
o 46 (.load false 1 (.t 45)),
o 47 (.load true 5 (.t 9)),
o 48 (.build [(.str []), (.int .u8 0), (.int .i64 0), (.str []), .nils, .nils] [(0, 1, (.t 46)), (1, 5, (.t 47))]),
o 49 (.buildSl [(.str []), (.int .u8 0), (.int .i64 0), (.str []), .nils, .nils] 1 6 [(0, 6, (.t 48))]),
o 50 (.app false 6 96 none (.t 44) (.t 49)),
m 6 50])))))
(.ops [o 51 (.bin .add 0 true (.t 32) (.c (.int .i64 1))),
m 32 51]))))
def K_snap_Value : KF := ⟨1, 75, [(.cell 2 true 5), (.tmp 3)],
(.seq (.ops [o 1 (.box (.t 0)),
o 2 (.new [(.int .u8 0), (.int .i64 0), (.str []), .nils, .nils] none),
o 3 (.mv (.c (.int .i64 0)))])
(.seq (.seq (.ops [o 12 (.load true 3 (.t 1)),
o 13 (.callF f_snap_May [(.t 12)]),
o 14 (.un .not (.t 13))])
(.cond (.t 14)
(.seq (.ops [o 15 (.build [(.int .u8 0), (.int .i64 0), (.str []), .nils, .nils] []),
u (.store 5 (.t 2) (.t 15)),
o 3 (.mv (.c (.int .i64 3)))])
(.ret [2, 3]))
.skip))
(.seq (.ops [o 17 (.fieldAddr 1 (.t 1)),
o 18 (.load false 1 (.t 17)),
o 19 (.callF f_when_Show [(.t 18)]),
m 16 19,
o 20 (.extract (.t 16) 0),
o 21 (.extract (.t 16) 1),
m 4 20,
m 5 21])
(.seq (.seq (.ops [m 22 5,
o 23 (.bin .neq 0 true (.t 22) (.c (.int .i64 0)))])
(.cond (.t 23)
(.seq (.ops [o 24 (.build [(.int .u8 0), (.int .i64 0), (.str []), .nils, .nils] []),
u (.store 5 (.t 2) (.t 24)),
o 3 (.mv (.c (.int .i64 3)))])
(.ret [2, 3]))
.skip))
(.seq (.ops [o 25 (.fieldAddr 2 (.t 1)),
o 26 (.load false 1 (.t 25)),
o 27 (.len 1 (.t 26)),
o 28 (.mkSlice [(.str []), (.int .u8 0), (.int .i64 0), (.str []), .nils, .nils] 6 96 (.c (.int .i64 0)) (.t 27)),
m 6 28])
(.seq (.seq (.ops [o 29 (.fieldAddr 2 (.t 1)),
o 30 (.load false 1 (.t 29)),
o 31 (.len 1 (.t 30)),
o 32 (.mv (.c (.int .i64 0)))])
(.block 0
(.loop [1, 2, 4, 6, 30, 31, 32] L_snap_Value_0)))
(.seq (.ops [m 53 6,
o 54 (.callF f_pick_ObjectOf [(.t 53)]),
m 52 54,
o 55 (.extract (.t 52) 0),
o 56 (.extract (.t 52) 1),
o 11 (.new [(.int .u8 0), (.int .i64 0), (.str []), .nils, .nils] none),
u (.store 5 (.t 11) (.t 55)),
m 5 56])
(.seq (.seq (.ops [m 57 5,
o 58 (.bin .neq 0 true (.t 57) (.c (.int .i64 0)))])
(.cond (.t 58)
(.seq (.ops [o 59 (.build [(.int .u8 0), (.int .i64 0), (.str []), .nils, .nils] []),
u (.store 5 (.t 2) (.t 59)),
o 3 (.mv (.c (.int .i64 3)))])
(.ret [2, 3]))
.skip))
(.seq (.drawn [o 60 (.callF f_pick_TextOf [(.c (.str [115, 110, 97, 112, 115, 104, 111, 116]))]),
o 61 (.build [(.str []), (.int .u8 0), (.int .i64 0), (.str []), .nils, .nils] [(0, 1, (.c (.str [95, 116, 121, 112, 101]))), (1, 5, (.t 60))]),
o 62 (.fieldAddr 0 (.t 1)),
⟨(some 63), (.load false 1 (.t 62)), none, [0]⟩,
o 64 (.callF f_pick_NumOf [(.t 63)]),
o 65 (.build [(.str []), (.int .u8 0), (.int .i64 0), (.str []), .nils, .nils] [(0, 1, (.c (.str [118, 101, 114, 115, 105, 111, 110]))), (1, 5, (.t 64))]),
m 66 4,
o 67 (.callF f_pick_TextOf [(.t 66)]),
o 68 (.build [(.str []), (.int .u8 0), (.int .i64 0), (.str []), .nils, .nils] [(0, 1, (.c (.str [101, 120, 112, 105, 114, 101, 115]))), (1, 5, (.t 67))]),
⟨(some 69), (.load true 5 (.t 11)), none, [0, 4, 7]⟩,
o 70 (.build [(.str []), (.int .u8 0), (.int .i64 0), (.str []), .nils, .nils] [(0, 1, (.c (.str [109, 101, 116, 97]))), (1, 5, (.t 69))]),
o 71 (.buildSl [(.str []), (.int .u8 0), (.int .i64 0), (.str []), .nils, .nils] 4 6 [(0, 6, (.t 61)), (6, 6, (.t 65)), (12, 6, (.t 68)), (18, 6, (.t 70))]),
o 72 (.callF f_pick_ObjectOf [(.t 71)]),
o 73 (.extract (.t 72) 0),
o 74 (.extract (.t 72) 1),
u (.store 5 (.t 2) (.t 73)),
m 3 74])
(.ret [2, 3]))))))))))⟩
/-! legate/check.Snapshot$1 -/
def K_check_Snapshot_1 : KF := ⟨2, 20, [(.tmp 2)],
(.seq (.ops [o 2 (.mv (.c (.bool false)))])
(.seq (.ops [o 3 (.mv (.c (.int .i64 0)))])
(.seq (.ops [o 5 (.load false 1 (.t 0)),
o 6 (.nilck (.t 5)),
o 7 (.fieldAddr 16 (.t 6)),
o 8 (.fieldAddr 0 (.t 7)),
o 9 (.load true 5 (.t 8)),
o 10 (.callF f_snap_Of [(.t 9)]),
m 4 10,
o 11 (.extract (.t 4) 0),
o 12 (.extract (.t 4) 1),
u (.store 3 (.t 1) (.t 11)),
m 3 12])
(.seq (.ops [o 13 (.load false 1 (.t 0)),
o 14 (.fieldAddr 1 (.t 1)),
o 15 (.load false 1 (.t 14)),
o 16 (.nilck (.t 13)),
o 17 (.fieldAddr 23 (.t 16)),
u (.store 1 (.t 17) (.t 15))])
(.seq (.ops [m 18 3,
o 19 (.bin .neq 0 true (.t 18) (.c (.int .i64 0))),
m 2 19])
(.ret [2]))))))⟩
/-! legate/snap.Of -/
def L_snap_Of_0 : KC :=
(.seq (.ops [o 18 (.bin .lss 0 false (.t 17) (.t 16))])
(.seq (.cond (.t 18)
.skip
(.exit [2, 4, 5] 0))
(.seq (.block 1
(.seq (.ops [o 19 (.idxAddrSl 1 (.t 15) (.t 17)),
o 20 (.load true 1 (.t 19)),
o 7 (.new [.nilFunc] none),
u (.store 1 (.t 7) (.t 20))])
(.ops [o 21 (.fieldAddr 0 (.t 7)),
o 22 (.load false 1 (.t 21)),
m 23 4,
o 24 (.callV (.t 22) [(.t 23), (.t 5)])])))
(.ops [o 25 (.bin .add 0 true (.t 17) (.c (.int .i64 1))),
m 17 25]))))
def K_snap_Of : KF := ⟨1, 33, [(.cell 2 true 3), (.tmp 3)],
(.seq (.ops [o 1 (.box (.t 0)),
o 2 (.new [(.int .i64 0), (.int .i64 0), .nils] none),
o 3 (.mv (.c (.int .i64 0)))])
(.seq (.seq (.ops [o 9 (.load true 5 (.t 1)),
o 10 (.callF f_value_May [(.t 9)]),
o 11 (.un .not (.t 10))])
(.cond (.t 11)
(.seq (.ops [o 12 (.build [(.int .i64 0), (.int .i64 0), .nils] []),
u (.store 3 (.t 2) (.t 12)),
o 3 (.mv (.c (.int .i64 3)))])
(.ret [2, 3]))
.skip))
(.seq (.ops [o 13 (.load true 5 (.t 1)),
o 14 (.callF f_pick_Of [(.t 13)]),
m 4 14])
(.seq (.ops [o 5 (.new [(.int .i64 0), (.int .i64 0), .nils] none)])
(.seq (.seq (.ops [o 15 (.callF f_snap_parts []),
o 16 (.len 1 (.t 15)),
o 17 (.mv (.c (.int .i64 0)))])
(.block 0
(.loop [2, 4, 5, 15, 16, 17] L_snap_Of_0)))
(.seq (.seq (.ops [m 26 4,
o 27 (.callF f_pick_Obj_Done [(.t 26)]),
m 8 27])
(.seq (.ops [m 28 8,
o 29 (.bin .neq 0 true (.t 28) (.c (.int .i64 0)))])
(.cond (.t 29)
(.seq (.ops [o 30 (.build [(.int .i64 0), (.int .i64 0), .nils] []),
m 31 8,
u (.store 3 (.t 2) (.t 30)),
m 3 31])
(.ret [2, 3]))
.skip)))
(.seq (.ops [o 32 (.load true 3 (.t 5)),
u (.store 3 (.t 2) (.t 32)),
o 3 (.mv (.c (.int .i64 0)))])
(.ret [2, 3]))))))))⟩
/-! legate/legateref20.Same -/
def L_legateref20_Same_0 : KC :=
(.seq (.seq (.ops [m 51 5,
o 52 (.fieldAddr 1 (.t 2)),
o 53 (.load false 1 (.t 52)),
o 54 (.len 1 (.t 53)),
o 55 (.bin .lss 0 false (.t 51) (.t 54))])
(.cond (.t 55)
.skip
(.exit [] 0)))
(.seq (.block 1
(.seq (.drawn [o 58 (.fieldAddr 1 (.t 2)),
o 59 (.load false 1 (.t 58)),
m 60 5,
o 61 (.idxAddrSl 6 (.t 59) (.t 60)),
o 62 (.load true 6 (.t 61)),
o 63 (.fieldAddr 1 (.t 3)),
⟨(some 64), (.load false 1 (.t 63)), none, [12]⟩,
m 65 5,
o 66 (.idxAddrSl 6 (.t 64) (.t 65)),
⟨(some 67), (.load true 6 (.t 66)), none, [12]⟩,
u .pend,
u .pend,
o 6 (.fill 10 6 6 (.t 62)),
o 7 (.fill 11 7 6 (.t 67))])
(.seq (.ops [o 68 (.fieldAddr 0 (.t 6)),
o 69 (.load false 1 (.t 68)),
o 70 (.fieldAddr 0 (.t 7)),
o 71 (.load false 1 (.t 70)),
o 72 (.bin .neq 0 false (.t 69) (.t 71)),
m 73 72,
og 74 73 false (.fieldAddr 3 (.t 6)),
og 75 73 false (.load false 1 (.t 74)),
og 76 73 false (.fieldAddr 3 (.t 7)),
og 77 73 false (.load false 1 (.t 76)),
og 78 73 false (.bin .neq 1 false (.t 75) (.t 77)),
o 79 (.pick (.t 73) (.c (.bool true)) (.t 78)),
m 80 79,
og 81 80 false (.fieldAddr 1 (.t 6)),
og 82 80 false (.load true 2 (.t 81)),
og 83 80 false (.fieldAddr 1 (.t 7)),
og 84 80 false (.load true 2 (.t 83)),
og 85 80 false (.callF f_legateref15_Same [(.t 82), (.t 84)]),
og 86 80 false (.un .not (.t 85)),
o 87 (.pick (.t 80) (.c (.bool true)) (.t 86)),
m 88 87,
og 89 88 false (.fieldAddr 4 (.t 6)),
og 90 88 false (.load false 1 (.t 89)),
og 91 88 false (.fieldAddr 4 (.t 7)),
og 92 88 false (.load false 1 (.t 91)),
og 93 88 false (.callF f_legateref20_Texts [(.t 90), (.t 92)]),
og 94 88 false (.un .not (.t 93)),
o 95 (.pick (.t 88) (.c (.bool true)) (.t 94)),
m 96 95,
og 97 96 false (.fieldAddr 5 (.t 6)),
og 98 96 false (.load false 1 (.t 97)),
og 99 96 false (.fieldAddr 5 (.t 7)),
og 100 96 false (.load false 1 (.t 99)),
og 101 96 false (.callF f_legateref20_Texts [(.t 98), (.t 100)]),
og 102 96 false (.un .not (.t 101)),
o 103 (.pick (.t 96) (.c (.bool true)) (.t 102))])
(.cond (.t 103)
(.seq (.ops [o 4 (.mv (.c (.bool false)))])
(.ret [4]))
.skip))))
(.ops [m 56 5,
o 57 (.bin .add 0 true (.t 56) (.c (.int .i64 1))),
m 5 57])))
def K_legateref20_Same : KF := ⟨2, 104, [(.tmp 4)],
(.seq (.ops [o 2 (.box (.t 0)),
o 3 (.box (.t 1)),
o 4 (.mv (.c (.bool false)))])
(.seq (.seq (.ops [o 8 (.fieldAddr 0 (.t 2)),
o 9 (.load false 1 (.t 8)),
o 10 (.fieldAddr 0 (.t 3)),
o 11 (.load false 1 (.t 10)),
o 12 (.callF f_legateref14_Same [(.t 9), (.t 11)]),
o 13 (.un .not (.t 12)),
m 14 13,
og 15 14 false (.fieldAddr 1 (.t 2)),
og 16 14 false (.load false 1 (.t 15)),
og 17 14 false (.len 1 (.t 16)),
og 18 14 false (.fieldAddr 1 (.t 3)),
og 19 14 false (.load false 1 (.t 18)),
og 20 14 false (.len 1 (.t 19)),
og 21 14 false (.bin .neq 0 false (.t 17) (.t 20)),
o 22 (.pick (.t 14) (.c (.bool true)) (.t 21)),
m 23 22,
og 24 23 false (.fieldAddr 2 (.t 2)),
og 25 23 false (.fieldAddr 2 (.t 24)),
og 26 23 false (.load false 1 (.t 25)),
og 27 23 false (.fieldAddr 2 (.t 3)),
og 28 23 false (.fieldAddr 2 (.t 27)),
og 29 23 false (.load false 1 (.t 28)),
og 30 23 false (.bin .neq 0 false (.t 26) (.t 29)),
o 31 (.pick (.t 23) (.c (.bool true)) (.t 30)),
m 32 31,
og 33 32 false (.fieldAddr 2 (.t 2)),
og 34 32 false (.fieldAddr 3 (.t 33)),
og 35 32 false (.load false 1 (.t 34)),
og 36 32 false (.fieldAddr 2 (.t 3)),
og 37 32 false (.fieldAddr 3 (.t 36)),
og 38 32 false (.load false 1 (.t 37)),
og 39 32 false (.bin .neq 0 false (.t 35) (.t 38)),
o 40 (.pick (.t 32) (.c (.bool true)) (.t 39)),
m 41 40,
og 42 41 false (.fieldAddr 2 (.t 2)),
og 43 41 false (.fieldAddr 0 (.t 42)),
og 44 41 false (.load true 2 (.t 43)),
og 45 41 false (.fieldAddr 2 (.t 3)),
og 46 41 false (.fieldAddr 0 (.t 45)),
og 47 41 false (.load true 2 (.t 46)),
og 48 41 false (.callF f_legateref15_Same [(.t 44), (.t 47)]),
og 49 41 false (.un .not (.t 48)),
o 50 (.pick (.t 41) (.c (.bool true)) (.t 49))])
(.cond (.t 50)
(.seq (.ops [o 4 (.mv (.c (.bool false)))])
(.ret [4]))
.skip))
(.seq (.seq (.ops [o 5 (.mv (.c (.int .i64 0)))])
(.block 0
(.loop [2, 3, 5] L_legateref20_Same_0)))
(.seq (.ops [o 4 (.mv (.c (.bool true)))])
(.ret [4])))))⟩
/-! legate/legateref14.Same -/
def L_legateref14_Same_0 : KC :=
(.seq (.seq (.ops [m 11 5,
m 12 0,
o 13 (.len 1 (.t 12)),
o 14 (.bin .lss 0 false (.t 11) (.t 13))])
(.cond (.t 14)
.skip
(.exit [] 0)))
(.seq (.block 1
(.seq (.plain [m 17 0,
m 18 5,
o 19 (.idxAddrSl 2 (.t 17) (.t 18)),
o 20 (.load true 2 (.t 19)),
m 21 1,
m 22 5,
o 23 (.idxAddrSl 2 (.t 21) (.t 22)),
o 24 (.load true 2 (.t 23)),
o 25 (.bin .neq 10 false (.t 20) (.t 24))])
(.cond (.t 25)
(.seq (.ops [o 4 (.mv (.c (.bool false)))])
(.ret [4]))
.skip)))
(.ops [m 15 5,
o 16 (.bin .add 0 true (.t 15) (.c (.int .i64 1))),
m 5 16])))
def K_legateref14_Same : KF := ⟨2, 26, [(.tmp 4)],
(.seq (.ops [o 4 (.mv (.c (.bool false)))])
(.seq (.seq (.ops [m 6 0,
o 7 (.len 1 (.t 6)),
m 8 1,
o 9 (.len 1 (.t 8)),
o 10 (.bin .neq 0 false (.t 7) (.t 9))])
(.cond (.t 10)
(.seq (.ops [o 4 (.mv (.c (.bool false)))])
(.ret [4]))
.skip))
(.seq (.seq (.ops [o 5 (.mv (.c (.int .i64 0)))])
(.block 0
(.loop [0, 1, 5] L_legateref14_Same_0)))
(.seq (.ops [o 4 (.mv (.c (.bool true)))])
(.ret [4])))))⟩
/-! legate/legateref15.Same -/
def L_legateref15_Same_0 : KC :=
(.seq (.seq (.ops [m 20 5,
o 21 (.fieldAddr 1 (.t 2)),
o 22 (.load false 1 (.t 21)),
o 23 (.len 1 (.t 22)),
o 24 (.bin .lss 0 false (.t 20) (.t 23))])
(.cond (.t 24)
.skip
(.exit [] 0)))
(.seq (.block 1
(.seq (.plain [o 27 (.fieldAddr 1 (.t 2)),
o 28 (.load false 1 (.t 27)),
m 29 5,
o 30 (.idxAddrSl 1 (.t 28) (.t 29)),
o 31 (.load false 1 (.t 30)),
o 32 (.fieldAddr 1 (.t 3)),
o 33 (.load false 1 (.t 32)),
m 34 5,
o 35 (.idxAddrSl 1 (.t 33) (.t 34)),
o 36 (.load false 1 (.t 35)),
o 37 (.bin .neq 0 false (.t 31) (.t 36))])
(.cond (.t 37)
(.seq (.ops [o 4 (.mv (.c (.bool false)))])
(.ret [4]))
.skip)))
(.ops [m 25 5,
o 26 (.bin .add 0 true (.t 25) (.c (.int .i64 1))),
m 5 26])))
def K_legateref15_Same : KF := ⟨2, 38, [(.tmp 4)],
(.seq (.ops [o 2 (.box (.t 0)),
o 3 (.box (.t 1)),
o 4 (.mv (.c (.bool false)))])
(.seq (.seq (.ops [o 6 (.fieldAddr 0 (.t 2)),
o 7 (.load false 1 (.t 6)),
o 8 (.fieldAddr 0 (.t 3)),
o 9 (.load false 1 (.t 8)),
o 10 (.bin .neq 0 false (.t 7) (.t 9)),
m 11 10,
og 12 11 false (.fieldAddr 1 (.t 2)),
og 13 11 false (.load false 1 (.t 12)),
og 14 11 false (.len 1 (.t 13)),
og 15 11 false (.fieldAddr 1 (.t 3)),
og 16 11 false (.load false 1 (.t 15)),
og 17 11 false (.len 1 (.t 16)),
og 18 11 false (.bin .neq 0 false (.t 14) (.t 17)),
o 19 (.pick (.t 11) (.c (.bool true)) (.t 18))])
(.cond (.t 19)
(.seq (.ops [o 4 (.mv (.c (.bool false)))])
(.ret [4]))
.skip))
(.seq (.seq (.ops [o 5 (.mv (.c (.int .i64 0)))])
(.block 0
(.loop [2, 3, 5] L_legateref15_Same_0)))
(.seq (.ops [o 4 (.mv (.c (.bool true)))])
(.ret [4])))))⟩
/-! legate/key.Value -/
def K_key_Value : KF := ⟨1, 20, [(.cell 2 true 5), (.tmp 3)],
(.seq (.ops [o 1 (.box (.t 0)),
o 2 (.new [(.int .u8 0), (.int .i64 0), (.str []), .nils, .nils] none),
o 3 (.mv (.c (.int .i64 0)))])
(.seq (.seq (.ops [o 4 (.load true 2 (.t 1)),
o 5 (.callF f_key_May [(.t 4)]),
o 6 (.un .not (.t 5))])
(.cond (.t 6)
(.seq (.ops [o 7 (.build [(.int .u8 0), (.int .i64 0), (.str []), .nils, .nils] []),
u (.store 5 (.t 2) (.t 7)),
o 3 (.mv (.c (.int .i64 3)))])
(.ret [2, 3]))
.skip))
(.seq (.drawn [o 8 (.fieldAddr 1 (.t 1)),
o 9 (.load false 1 (.t 8)),
o 10 (.callF f_pick_TextOf [(.t 9)]),
o 11 (.build [(.str []), (.int .u8 0), (.int .i64 0), (.str []), .nils, .nils] [(0, 1, (.c (.str [112, 117, 98, 108, 105, 99]))), (1, 5, (.t 10))]),
o 12 (.fieldAddr 0 (.t 1)),
⟨(some 13), (.load false 1 (.t 12)), none, [2]⟩,
o 14 (.callF f_pick_TextOf [(.t 13)]),
o 15 (.build [(.str []), (.int .u8 0), (.int .i64 0), (.str []), .nils, .nils] [(0, 1, (.c (.str [115, 99, 104, 101, 109, 101]))), (1, 5, (.t 14))]),
o 16 (.buildSl [(.str []), (.int .u8 0), (.int .i64 0), (.str []), .nils, .nils] 2 6 [(0, 6, (.t 11)), (6, 6, (.t 15))]),
o 17 (.callF f_pick_ObjectOf [(.t 16)]),
o 18 (.extract (.t 17) 0),
o 19 (.extract (.t 17) 1),
u (.store 5 (.t 2) (.t 18)),
m 3 19])
(.ret [2, 3]))))⟩
/-! legate/canon.Encode -/
def K_canon_Encode : KF := ⟨1, 16, [(.tmp 2), (.tmp 3)],
(.seq (.ops [o 1 (.box (.t 0)),
o 2 (.mv (.c (.str []))),
o 3 (.mv (.c (.int .i64 0)))])
(.seq (.seq (.ops [o 7 (.load true 5 (.t 1)),
o 8 (.callF f_value_May [(.t 7)]),
o 9 (.un .not (.t 8))])
(.cond (.t 9)
(.seq (.ops [o 2 (.mv (.c (.str []))),
o 3 (.mv (.c (.int .i64 3)))])
(.ret [2, 3]))
.skip))
(.seq (.ops [o 4 (.new [.nilp, .nils] (some (206, true)))])
(.seq (.ops [o 10 (.mkFunc (.func f_canon_Encode_1) [] [(.t 4)]),
o 5 (.new [.nilFunc] none),
u (.store 1 (.t 5) (.t 10))])
(.seq (.ops [o 6 (.new [.nilFunc] none)])
(.seq (.ops [o 11 (.mkFunc (.func f_canon_Encode_2) [] [(.t 4), (.t 5), (.t 6)]),
u (.store 1 (.t 6) (.t 11))])
(.seq (.ops [o 12 (.load false 1 (.t 6)),
o 13 (.load true 5 (.t 1)),
o 14 (.callV (.t 12) [(.t 13)])])
(.seq (.ops [o 15 (.callF f_strings_Builder_String [(.t 4)]),
m 2 15,
o 3 (.mv (.c (.int .i64 0)))])
(.ret [2, 3])))))))))⟩
/-! legate/sign.May -/
def L_sign_May_0 : KC :=
(.seq (.ops [o 19 (.bin .lss 0 false (.t 18) (.t 17))])
(.seq (.cond (.t 19)
.skip
(.exit [1] 0))
(.seq (.block 1
(.seq (.ops [o 20 (.idxAddrSl 2 (.t 16) (.t 18)),
o 21 (.load true 2 (.t 20)),
o 4 (.new [(.str []), (.str [])] none),
u (.store 2 (.t 4) (.t 21))])
(.seq (.ops [o 22 (.load true 2 (.t 4)),
o 23 (.callF f_sign_maySig [(.t 22)]),
o 24 (.un .not (.t 23))])
(.cond (.t 24)
(.seq (.ops [o 2 (.mv (.c (.bool false)))])
(.ret [2]))
.skip))))
(.ops [o 25 (.bin .add 0 true (.t 18) (.c (.int .i64 1))),
m 18 25]))))
def K_sign_May : KF := ⟨1, 29, [(.tmp 2)],
(.seq (.ops [o 1 (.box (.t 0)),
o 2 (.mv (.c (.bool false)))])
(.seq (.seq (.ops [o 5 (.fieldAddr 5 (.t 1)),
o 6 (.load false 1 (.t 5)),
o 7 (.len 1 (.t 6)),
o 8 (.bin .gtr 0 true (.t 7) (.c (.int .i64 32))),
m 9 8,
og 10 9 false (.fieldAddr 0 (.t 1)),
og 11 9 false (.fieldAddr 0 (.t 10)),
og 12 9 false (.load false 1 (.t 11)),
og 13 9 false (.bin .neq 0 true (.t 12) (.c (.int .u8 5))),
o 14 (.pick (.t 9) (.c (.bool true)) (.t 13))])
(.cond (.t 14)
(.seq (.ops [o 2 (.mv (.c (.bool false)))])
(.ret [2]))
.skip))
(.seq (.seq (.ops [o 15 (.fieldAddr 5 (.t 1)),
o 16 (.load false 1 (.t 15)),
o 17 (.len 1 (.t 16)),
o 18 (.mv (.c (.int .i64 0)))])
(.block 0
(.loop [1, 16, 17, 18] L_sign_May_0)))
(.seq (.ops [o 26 (.load true 6 (.t 1)),
o 27 (.callF f_sign_object [(.t 26)]),
o 28 (.callF f_value_May [(.t 27)]),
m 2 28])
(.ret [2])))))⟩
/-! legate/sign.object -/
def L_sign_object_0 : KC :=
(.seq (.ops [o 11 (.bin .lss 0 false (.t 10) (.t 9))])
(.seq (.cond (.t 11)
.skip
(.exit [1, 2, 3] 0))
(.seq (.block 1
(.seq (.ops [o 12 (.idxAddrSl 2 (.t 8) (.t 10)),
o 13 (.load true 2 (.t 12)),
o 5 (.new [(.str []), (.str [])] none),
u (.store 2 (.t 5) (.t 13))])
(.drawn [o 14 (.fieldAddr 4 (.t 3)),
⟨(some 15), (.load false 1 (.t 14)), none, [5, 8]⟩,
o 16 (.buildSl [(.str [])] 2 1 [(0, 1, (.c (.str [107, 101, 121, 105, 100]))), (1, 1, (.c (.str [115, 105, 103])))]),
o 17 (.fieldAddr 0 (.t 5)),
o 18 (.load false 1 (.t 17)),
o 19 (.callF f_pick_TextOf [(.t 18)]),
o 20 (.fieldAddr 1 (.t 5)),
⟨(some 21), (.load false 1 (.t 20)), none, [5]⟩,
o 22 (.callF f_pick_TextOf [(.t 21)]),
o 23 (.buildSl [(.int .u8 0), (.int .i64 0), (.str []), .nils, .nils] 2 5 [(0, 5, (.t 19)), (5, 5, (.t 22))]),
o 24 (.build [(.int .u8 0), (.int .i64 0), (.str []), .nils, .nils] [(0, 1, (.c (.int .u8 5))), (3, 1, (.t 16)), (4, 1, (.t 23))]),
o 25 (.buildSl [(.int .u8 0), (.int .i64 0), (.str []), .nils, .nils] 1 5 [(0, 5, (.t 24))]),
o 26 (.app false 5 80 none (.t 15) (.t 25)),
o 27 (.fieldAddr 4 (.t 3)),
u (.store 1 (.t 27) (.t 26))])))
(.ops [o 28 (.bin .add 0 true (.t 10) (.c (.int .i64 1))),
m 10 28]))))
def K_sign_object : KF := ⟨1, 35, [(.cell 2 true 5)],
(.seq (.ops [o 1 (.box (.t 0)),
o 2 (.new [(.int .u8 0), (.int .i64 0), (.str []), .nils, .nils] none)])
(.seq (.ops [o 6 (.build [(.int .u8 0), (.int .i64 0), (.str []), .nils, .nils] [(0, 1, (.c (.int .u8 4)))]),
o 3 (.new [(.int .u8 0), (.int .i64 0), (.str []), .nils, .nils] none),
u (.store 5 (.t 3) (.t 6))])
(.seq (.seq (.ops [o 7 (.fieldAddr 5 (.t 1)),
o 8 (.load false 1 (.t 7)),
o 9 (.len 1 (.t 8)),
o 10 (.mv (.c (.int .i64 0)))])
(.block 0
(.loop [1, 2, 3, 8, 9, 10] L_sign_object_0)))
(.seq (.ops [o 29 (.buildSl [(.str [])] 2 1 [(0, 1, (.c (.str [115, 105, 103, 110, 97, 116, 117, 114, 101, 115]))), (1, 1, (.c (.str [115, 105, 103, 110, 101, 100])))]),
o 30 (.load true 5 (.t 3)),
o 31 (.fieldAddr 0 (.t 1)),
o 32 (.load true 5 (.t 31)),
o 33 (.buildSl [(.int .u8 0), (.int .i64 0), (.str []), .nils, .nils] 2 5 [(0, 5, (.t 30)), (5, 5, (.t 32))]),
o 34 (.build [(.int .u8 0), (.int .i64 0), (.str []), .nils, .nils] [(0, 1, (.c (.int .u8 5))), (3, 1, (.t 29)), (4, 1, (.t 33))]),
u (.store 5 (.t 2) (.t 34))])
(.ret [2])))))⟩
/-! legate/targ.May -/
def K_targ_May : KF := ⟨1, 44, [(.tmp 2)],
(.seq (.ops [o 1 (.box (.t 0)),
o 2 (.mv (.c (.bool false)))])
(.seq (.seq (.ops [o 7 (.fieldAddr 0 (.t 1)),
o 8 (.load false 1 (.t 7)),
o 9 (.bin .lss 0 true (.t 8) (.c (.int .i64 1))),
m 10 9,
og 11 10 false (.fieldAddr 0 (.t 1)),
og 12 10 false (.load false 1 (.t 11)),
og 13 10 false (.bin .gtr 0 true (.t 12) (.c (.int .i64 1099511627776))),
o 14 (.pick (.t 10) (.c (.bool true)) (.t 13))])
(.cond (.t 14)
(.seq (.ops [o 2 (.mv (.c (.bool false)))])
(.ret [2]))
.skip))
(.seq (.seq (.ops [o 16 (.fieldAddr 1 (.t 1)),
o 17 (.load false 1 (.t 16)),
o 18 (.callF f_when_Show [(.t 17)]),
m 15 18,
o 19 (.extract (.t 15) 0),
o 20 (.extract (.t 15) 1),
m 3 19,
m 4 20])
(.seq (.ops [m 21 4,
o 22 (.bin .neq 0 true (.t 21) (.c (.int .i64 0)))])
(.cond (.t 22)
(.seq (.ops [o 2 (.mv (.c (.bool false)))])
(.ret [2]))
.skip)))
(.seq (.seq (.ops [o 23 (.fieldAddr 2 (.t 1)),
o 24 (.load false 1 (.t 23)),
o 25 (.callF f_targ_listMay [(.t 24)]),
o 26 (.un .not (.t 25)),
m 27 26,
og 28 27 false (.fieldAddr 3 (.t 1)),
og 29 27 false (.load true 6 (.t 28)),
og 30 27 false (.callF f_deleg_May [(.t 29)]),
og 31 27 false (.un .not (.t 30)),
o 32 (.pick (.t 27) (.c (.bool true)) (.t 31))])
(.cond (.t 32)
(.seq (.ops [o 2 (.mv (.c (.bool false)))])
(.ret [2]))
.skip))
(.seq (.ops [o 34 (.load true 9 (.t 1)),
o 35 (.callF f_targ_object [(.t 34)]),
m 33 35,
o 36 (.extract (.t 33) 0),
o 37 (.extract (.t 33) 1),
o 5 (.new [(.int .u8 0), (.int .i64 0), (.str []), .nils, .nils] none),
u (.store 5 (.t 5) (.t 36)),
m 6 37])
(.seq (.ops [m 38 6,
o 39 (.bin .eql 0 true (.t 38) (.c (.int .i64 0))),
m 40 39,
og 41 40 true (.load true 5 (.t 5)),
og 42 40 true (.callF f_value_May [(.t 41)]),
o 43 (.pick (.t 40) (.t 42) (.c (.bool false))),
m 2 43])
(.ret [2])))))))⟩
/-! legate/targ.object -/
def L_targ_object_0 : KC :=
(.seq (.ops [o 33 (.bin .lss 0 false (.t 32) (.t 31))])
(.seq (.cond (.t 33)
.skip
(.exit [1, 2, 4, 6] 0))
(.seq (.block 1
(.seq (.ops [o 34 (.idxAddrSl 8 (.t 30) (.t 32)),
o 35 (.load true 8 (.t 34)),
o 8 (.new [(.str []), (.int .i64 0), .nils, (.int .u8 0), (.int .i64 0), (.str []), .nils, .nils] none),
u (.store 8 (.t 8) (.t 35))])
(.seq (.ops [o 37 (.fieldAddr 1 (.t 8)),
o 38 (.load true 7 (.t 37)),
o 39 (.callF f_record_Value [(.t 38)]),
m 36 39,
o 40 (.extract (.t 36) 0),
o 41 (.extract (.t 36) 1),
o 9 (.new [(.int .u8 0), (.int .i64 0), (.str []), .nils, .nils] none),
u (.store 5 (.t 9) (.t 40)),
m 10 41])
(.seq (.seq (.ops [m 42 10,
o 43 (.bin .neq 0 true (.t 42) (.c (.int .i64 0)))])
(.cond (.t 43)
(.seq (.ops [o 44 (.build [(.int .u8 0), (.int .i64 0), (.str []), .nils, .nils] []),
m 45 10,
u (.store 5 (.t 2) (.t 44)),
m 3 45])
(.ret [2, 3]))
.skip))
(.ops [m 46 6,
o 47 (.fieldAddr 0 (.t 8)),
o 48 (.load false 1 (.t 47)),
o 49 (.load true 5 (.t 9)),
o 50 (.build [(.str []), (.int .u8 0), (.int .i64 0), (.str []), .nils, .nils] [(0, 1, (.t 48)), (1, 5, (.t 49))]),
o 51 (.buildSl [(.str []), (.int .u8 0), (.int .i64 0), (.str []), .nils, .nils] 1 6 [(0, 6, (.t 50))]),
o 52 (.app false 6 96 none (.t 46) (.t 51)),
m 6 52])))))
(.ops [o 53 (.bin .add 0 true (.t 32) (.c (.int .i64 1))),
m 32 53]))))
def K_targ_object : KF := ⟨1, 98, [(.cell 2 true 5), (.tmp 3)],
(.seq (.ops [o 1 (.box (.t 0)),
o 2 (.new [(.int .u8 0), (.int .i64 0), (.str []), .nils, .nils] none),
o 3 (.mv (.c (.int .i64 0)))])
(.seq (.ops [o 16 (.fieldAddr 1 (.t 1)),
o 17 (.load false 1 (.t 16)),
o 18 (.callF f_when_Show [(.t 17)]),
m 15 18,
o 19 (.extract (.t 15) 0),
o 20 (.extract (.t 15) 1),
m 4 19,
m 5 20])
(.seq (.seq (.ops [m 21 5,
o 22 (.bin .neq 0 true (.t 21) (.c (.int .i64 0)))])
(.cond (.t 22)
(.seq (.ops [o 23 (.build [(.int .u8 0), (.int .i64 0), (.str []), .nils, .nils] []),
m 24 5,
u (.store 5 (.t 2) (.t 23)),
m 3 24])
(.ret [2, 3]))
.skip))
(.seq (.ops [o 25 (.fieldAddr 2 (.t 1)),
o 26 (.load false 1 (.t 25)),
o 27 (.len 1 (.t 26)),
o 28 (.mkSlice [(.str []), (.int .u8 0), (.int .i64 0), (.str []), .nils, .nils] 6 96 (.c (.int .i64 0)) (.t 27)),
m 6 28])
(.seq (.seq (.ops [o 29 (.fieldAddr 2 (.t 1)),
o 30 (.load false 1 (.t 29)),
o 31 (.len 1 (.t 30)),
o 32 (.mv (.c (.int .i64 0)))])
(.block 0
(.loop [1, 2, 4, 6, 30, 31, 32] L_targ_object_0)))
(.seq (.ops [m 55 6,
o 56 (.callF f_pick_ObjectOf [(.t 55)]),
m 54 56,
o 57 (.extract (.t 54) 0),
o 58 (.extract (.t 54) 1),
o 11 (.new [(.int .u8 0), (.int .i64 0), (.str []), .nils, .nils] none),
u (.store 5 (.t 11) (.t 57)),
m 5 58])
(.seq (.seq (.ops [m 59 5,
o 60 (.bin .neq 0 true (.t 59) (.c (.int .i64 0)))])
(.cond (.t 60)
(.seq (.ops [o 61 (.build [(.int .u8 0), (.int .i64 0), (.str []), .nils, .nils] []),
m 62 5,
u (.store 5 (.t 2) (.t 61)),
m 3 62])
(.ret [2, 3]))
.skip))
(.seq (.drawn [o 63 (.callF f_pick_TextOf [(.c (.str [116, 97, 114, 103, 101, 116, 115]))]),
o 64 (.build [(.str []), (.int .u8 0), (.int .i64 0), (.str []), .nils, .nils] [(0, 1, (.c (.str [95, 116, 121, 112, 101]))), (1, 5, (.t 63))]),
o 65 (.fieldAddr 0 (.t 1)),
⟨(some 66), (.load false 1 (.t 65)), none, [0]⟩,
o 67 (.callF f_pick_NumOf [(.t 66)]),
o 68 (.build [(.str []), (.int .u8 0), (.int .i64 0), (.str []), .nils, .nils] [(0, 1, (.c (.str [118, 101, 114, 115, 105, 111, 110]))), (1, 5, (.t 67))]),
m 69 4,
o 70 (.callF f_pick_TextOf [(.t 69)]),
o 71 (.build [(.str []), (.int .u8 0), (.int .i64 0), (.str []), .nils, .nils] [(0, 1, (.c (.str [101, 120, 112, 105, 114, 101, 115]))), (1, 5, (.t 70))]),
⟨(some 72), (.load true 5 (.t 11)), none, [0, 4, 7]⟩,
o 73 (.build [(.str []), (.int .u8 0), (.int .i64 0), (.str []), .nils, .nils] [(0, 1, (.c (.str [116, 97, 114, 103, 101, 116, 115]))), (1, 5, (.t 72))]),
o 74 (.buildSl [(.str []), (.int .u8 0), (.int .i64 0), (.str []), .nils, .nils] 4 6 [(0, 6, (.t 64)), (6, 6, (.t 68)), (12, 6, (.t 71)), (18, 6, (.t 73))]),
m 12 74])
(.seq (.seq (.ops [o 75 (.fieldAddr 3 (.t 1)),
o 76 (.load true 6 (.t 75)),
o 77 (.callF f_targ_empty [(.t 76)]),
o 78 (.un .not (.t 77))])
(.cond (.t 78)
(.seq (.ops [o 80 (.fieldAddr 3 (.t 1)),
o 81 (.load true 6 (.t 80)),
o 82 (.callF f_deleg_Value [(.t 81)]),
m 79 82,
o 83 (.extract (.t 79) 0),
o 84 (.extract (.t 79) 1),
o 13 (.new [(.int .u8 0), (.int .i64 0), (.str []), .nils, .nils] none),
u (.store 5 (.t 13) (.t 83)),
m 14 84])
(.seq (.seq (.ops [m 85 14,
o 86 (.bin .neq 0 true (.t 85) (.c (.int .i64 0)))])
(.cond (.t 86)
(.seq (.ops [o 87 (.build [(.int .u8 0), (.int .i64 0), (.str []), .nils, .nils] []),
m 88 14,
u (.store 5 (.t 2) (.t 87)),
m 3 88])
(.ret [2, 3]))
.skip))
(.ops [m 89 12,
o 90 (.load true 5 (.t 13)),
o 91 (.build [(.str []), (.int .u8 0), (.int .i64 0), (.str []), .nils, .nils] [(0, 1, (.c (.str [100, 101, 108, 101, 103, 97, 116, 105, 111, 110, 115]))), (1, 5, (.t 90))]),
o 92 (.buildSl [(.str []), (.int .u8 0), (.int .i64 0), (.str []), .nils, .nils] 1 6 [(0, 6, (.t 91))]),
o 93 (.app false 6 96 none (.t 89) (.t 92)),
m 12 93])))
.skip))
(.seq (.ops [m 94 12,
o 95 (.callF f_pick_ObjectOf [(.t 94)]),
o 96 (.extract (.t 95) 0),
o 97 (.extract (.t 95) 1),
u (.store 5 (.t 2) (.t 96)),
m 3 97])
(.ret [2, 3])))))))))))⟩
/-! legate/value.May -/
def K_value_May : KF := ⟨1, 6, [(.tmp 2)],
(.seq (.ops [o 1 (.box (.t 0)),
o 2 (.mv (.c (.bool false)))])
(.seq (.ops [o 3 (.new [(.int .i64 0)] none),
u (.store 1 (.t 3) (.c (.int .i64 8192)))])
(.seq (.ops [o 4 (.load true 5 (.t 1)),
o 5 (.callF f_value_may [(.t 4), (.c (.int .i64 12)), (.t 3)]),
m 2 5])
(.ret [2]))))⟩
/-! legate/pick.Of -/
def L_pick_Of_0 : KC :=
(.seq (.seq (.ops [m 18 3,
o 19 (.fieldAddr 3 (.t 1)),
o 20 (.load false 1 (.t 19)),
o 21 (.len 1 (.t 20)),
o 22 (.bin .lss 0 false (.t 18) (.t 21))])
(.cond (.t 22)
.skip
(.exit [1] 0)))
(.seq (.block 1
(.seq (.plain [o 25 (.fieldAddr 3 (.t 1)),
o 26 (.load false 1 (.t 25)),
m 27 3,
o 28 (.bin .sub 0 true (.t 27) (.c (.int .i64 1))),
o 29 (.idxAddrSl 1 (.t 26) (.t 28)),
o 30 (.load false 1 (.t 29)),
o 31 (.fieldAddr 3 (.t 1)),
o 32 (.load false 1 (.t 31)),
m 33 3,
o 34 (.idxAddrSl 1 (.t 32) (.t 33)),
o 35 (.load false 1 (.t 34)),
o 36 (.bin .geq 0 false (.t 30) (.t 35))])
(.cond (.t 36)
(.seq (.ops [o 37 (.build [(.int .u8 0), (.int .i64 0), (.str []), .nils, .nils, .nilMap, (.int .i64 0)] [(6, 1, (.c (.int .i64 3)))]),
o 38 (.box (.t 37)),
m 2 38])
(.ret [2]))
.skip)))
(.ops [m 23 3,
o 24 (.bin .add 0 true (.t 23) (.c (.int .i64 1))),
m 3 24])))
def K_pick_Of : KF := ⟨1, 44, [(.tmp 2)],
(.seq (.ops [o 1 (.box (.t 0)),
o 2 (.mv (.c .nilp))])
(.seq (.seq (.ops [o 4 (.fieldAddr 0 (.t 1)),
o 5 (.load false 1 (.t 4)),
o 6 (.bin .neq 0 true (.t 5) (.c (.int .u8 5)))])
(.cond (.t 6)
(.seq (.ops [o 7 (.build [(.int .u8 0), (.int .i64 0), (.str []), .nils, .nils, .nilMap, (.int .i64 0)] [(6, 1, (.c (.int .i64 10)))]),
o 8 (.box (.t 7)),
m 2 8])
(.ret [2]))
.skip))
(.seq (.seq (.ops [o 9 (.fieldAddr 3 (.t 1)),
o 10 (.load false 1 (.t 9)),
o 11 (.len 1 (.t 10)),
o 12 (.fieldAddr 4 (.t 1)),
o 13 (.load false 1 (.t 12)),
o 14 (.len 1 (.t 13)),
o 15 (.bin .neq 0 false (.t 11) (.t 14))])
(.cond (.t 15)
(.seq (.ops [o 16 (.build [(.int .u8 0), (.int .i64 0), (.str []), .nils, .nils, .nilMap, (.int .i64 0)] [(6, 1, (.c (.int .i64 3)))]),
o 17 (.box (.t 16)),
m 2 17])
(.ret [2]))
.skip))
(.seq (.seq (.ops [o 3 (.mv (.c (.int .i64 1)))])
(.block 0
(.loop [1, 3] L_pick_Of_0)))
(.seq (.ops [o 39 (.load true 5 (.t 1)),
o 40 (.callF f_value_Copy [(.t 39)]),
o 41 .mkMap,
o 42 (.build [(.int .u8 0), (.int .i64 0), (.str []), .nils, .nils, .nilMap, (.int .i64 0)] [(0, 5, (.t 40)), (5, 1, (.t 41))]),
o 43 (.box (.t 42)),
m 2 43])
(.ret [2]))))))⟩
/-! (*legate/pick.Obj).Text -/
def K_pick_Obj_Text : KF := ⟨2, 8, [(.tmp 4)],
(.seq (.ops [o 4 (.mv (.c (.str [])))])
(.seq (.ops [m 5 0,
m 6 1,
o 7 (.callF f_pick_take_string [(.t 5), (.t 6), (.c (.func (.func f_pick_Obj_Text_1) [] []))]),
m 4 7])
(.ret [4])))⟩
/-! (*legate/pick.Obj).Fail -/
def K_pick_Obj_Fail : KF := ⟨2, 11, [],
(.seq (.ops [m 4 0,
o 5 (.callF f_pick_Obj_Err [(.t 4)]),
o 6 (.bin .eql 0 true (.t 5) (.c (.int .i64 0)))])
(.cond (.t 6)
(.ops [m 7 0,
m 8 1,
o 9 (.nilck (.t 7)),
o 10 (.fieldAddr 6 (.t 9)),
u (.store 1 (.t 10) (.t 8))])
.skip))⟩
/-! (*legate/pick.Obj).Num -/
def K_pick_Obj_Num : KF := ⟨4, 13, [(.tmp 8)],
(.seq (.ops [o 6 (.box (.t 2)),
o 7 (.box (.t 3)),
o 8 (.mv (.c (.int .i64 0)))])
(.seq (.ops [m 9 0,
m 10 1,
o 11 (.mkFunc (.func f_pick_Obj_Num_1) [] [(.t 6), (.t 7)]),
o 12 (.callF f_pick_take_int64 [(.t 9), (.t 10), (.t 11)]),
m 8 12])
(.ret [8])))⟩
/-! legate/when.Read -/
def K_when_Read : KF := ⟨1, 110, [(.tmp 2), (.tmp 3)],
(.seq (.ops [o 2 (.mv (.c (.int .i64 0))),
o 3 (.mv (.c (.int .i64 0)))])
(.seq (.seq (.ops [m 11 0,
o 12 (.len 0 (.t 11)),
o 13 (.bin .neq 0 true (.t 12) (.c (.int .i64 20)))])
(.cond (.t 13)
(.seq (.ops [o 2 (.mv (.c (.int .i64 0))),
o 3 (.mv (.c (.int .i64 3)))])
(.ret [2, 3]))
.skip))
(.seq (.seq (.ops [m 14 0,
o 15 (.idxStr (.t 14) (.c (.int .i64 4))),
o 16 (.bin .neq 0 true (.t 15) (.c (.int .u8 45))),
m 17 16,
og 18 17 false (.mv (.t 0)),
og 19 17 false (.idxStr (.t 18) (.c (.int .i64 7))),
og 20 17 false (.bin .neq 0 true (.t 19) (.c (.int .u8 45))),
o 21 (.pick (.t 17) (.c (.bool true)) (.t 20)),
m 22 21,
og 23 22 false (.mv (.t 0)),
og 24 22 false (.idxStr (.t 23) (.c (.int .i64 10))),
og 25 22 false (.bin .neq 0 true (.t 24) (.c (.int .u8 84))),
o 26 (.pick (.t 22) (.c (.bool true)) (.t 25)),
m 27 26,
og 28 27 false (.mv (.t 0)),
og 29 27 false (.idxStr (.t 28) (.c (.int .i64 13))),
og 30 27 false (.bin .neq 0 true (.t 29) (.c (.int .u8 58))),
o 31 (.pick (.t 27) (.c (.bool true)) (.t 30)),
m 32 31,
og 33 32 false (.mv (.t 0)),
og 34 32 false (.idxStr (.t 33) (.c (.int .i64 16))),
og 35 32 false (.bin .neq 0 true (.t 34) (.c (.int .u8 58))),
o 36 (.pick (.t 32) (.c (.bool true)) (.t 35)),
m 37 36,
og 38 37 false (.mv (.t 0)),
og 39 37 false (.idxStr (.t 38) (.c (.int .i64 19))),
og 40 37 false (.bin .neq 0 true (.t 39) (.c (.int .u8 90))),
o 41 (.pick (.t 37) (.c (.bool true)) (.t 40))])
(.cond (.t 41)
(.seq (.ops [o 2 (.mv (.c (.int .i64 0))),
o 3 (.mv (.c (.int .i64 3)))])
(.ret [2, 3]))
.skip))
(.seq (.plain [m 42 0,
o 43 (.sliceStr (.t 42) (some (.c (.int .i64 0))) (some (.c (.int .i64 4)))),
o 44 (.callF f_when_digits [(.t 43)]),
m 45 0,
o 46 (.sliceStr (.t 45) (some (.c (.int .i64 5))) (some (.c (.int .i64 7)))),
o 47 (.callF f_when_digits [(.t 46)]),
m 48 0,
o 49 (.sliceStr (.t 48) (some (.c (.int .i64 8))) (some (.c (.int .i64 10)))),
o 50 (.callF f_when_digits [(.t 49)]),
m 4 44,
m 5 47,
m 6 50])
(.seq (.seq (.ops [m 51 6,
o 52 (.bin .lss 0 true (.t 51) (.c (.int .i64 1))),
m 53 52,
og 54 53 false (.mv (.t 6)),
og 55 53 false (.mv (.t 4)),
og 56 53 false (.mv (.t 5)),
og 57 53 false (.callF f_when_Days [(.t 55), (.t 56)]),
og 58 53 false (.bin .gtr 0 false (.t 54) (.t 57)),
o 59 (.pick (.t 53) (.c (.bool true)) (.t 58))])
(.cond (.t 59)
(.seq (.ops [o 2 (.mv (.c (.int .i64 0))),
o 3 (.mv (.c (.int .i64 3)))])
(.ret [2, 3]))
.skip))
(.seq (.plain [m 60 0,
o 61 (.sliceStr (.t 60) (some (.c (.int .i64 11))) (some (.c (.int .i64 13)))),
o 62 (.callF f_when_digits [(.t 61)]),
m 63 0,
o 64 (.sliceStr (.t 63) (some (.c (.int .i64 14))) (some (.c (.int .i64 16)))),
o 65 (.callF f_when_digits [(.t 64)]),
m 66 0,
o 67 (.sliceStr (.t 66) (some (.c (.int .i64 17))) (some (.c (.int .i64 19)))),
o 68 (.callF f_when_digits [(.t 67)]),
m 7 62,
m 8 65,
m 9 68])
(.seq (.seq (.ops [m 69 7,
o 70 (.callF f_when_upTo [(.t 69), (.c (.int .i64 23))]),
o 71 (.un .not (.t 70)),
m 72 71,
og 73 72 false (.mv (.t 8)),
og 74 72 false (.callF f_when_upTo [(.t 73), (.c (.int .i64 59))]),
og 75 72 false (.un .not (.t 74)),
o 76 (.pick (.t 72) (.c (.bool true)) (.t 75)),
m 77 76,
og 78 77 false (.mv (.t 9)),
og 79 77 false (.callF f_when_upTo [(.t 78), (.c (.int .i64 59))]),
og 80 77 false (.un .not (.t 79)),
o 81 (.pick (.t 77) (.c (.bool true)) (.t 80))])
(.cond (.t 81)
(.seq (.ops [o 2 (.mv (.c (.int .i64 0))),
o 3 (.mv (.c (.int .i64 3)))])
(.ret [2, 3]))
.skip))
(.seq (.drawn [m 82 4,
o 83 (.callF f_when_start [(.t 82)]),
m 84 5,
o 85 (.bin .sub 0 true (.t 84) (.c (.int .i64 1))),
o 86 (.idxAddrArr 13 1 (.g g_when_before) (.t 85)),
⟨(some 87), (.load false 1 (.t 86)), none, [1]⟩,
o 88 (.bin .add 0 false (.t 83) (.t 87)),
m 89 6,
o 90 (.bin .add 0 false (.t 88) (.t 89)),
o 91 (.bin .sub 0 true (.t 90) (.c (.int .i64 1))),
m 10 91])
(.seq (.seq (.ops [m 92 5,
o 93 (.bin .gtr 0 true (.t 92) (.c (.int .i64 2))),
m 94 93,
og 95 94 true (.mv (.t 4)),
og 96 94 true (.callF f_when_leap [(.t 95)]),
o 97 (.pick (.t 94) (.t 96) (.c (.bool false)))])
(.cond (.t 97)
(.ops [m 98 10,
o 99 (.bin .add 0 true (.t 98) (.c (.int .i64 1))),
m 10 99])
.skip))
(.seq (.ops [m 100 10,
o 101 (.bin .mul 0 true (.t 100) (.c (.int .i64 86400))),
m 102 7,
o 103 (.bin .mul 0 true (.t 102) (.c (.int .i64 3600))),
m 104 8,
o 105 (.bin .mul 0 true (.t 104) (.c (.int .i64 60))),
o 106 (.bin .add 0 false (.t 103) (.t 105)),
m 107 9,
o 108 (.bin .add 0 false (.t 106) (.t 107)),
o 109 (.bin .add 0 false (.t 101) (.t 108)),
m 2 109,
o 3 (.mv (.c (.int .i64 0)))])
(.ret [2, 3])))))))))))⟩
/-! legate/targ.listOf -/
def L_targ_listOf_0 : KC :=
(.seq (.ops [o 13 (.bin .lss 0 false (.t 12) (.t 11))])
(.seq (.cond (.t 13)
.skip
(.exit [4] 0))
(.seq (.block 1
(.seq (.ops [m 14 12,
o 15 (.idxAddrSl 1 (.t 10) (.t 12)),
o 16 (.load false 1 (.t 15)),
m 5 14,
m 6 16])
(.seq (.seq (.ops [m 17 6,
o 18 (.callF f_name_Path [(.t 17)]),
o 19 (.un .not (.t 18))])
(.cond (.t 19)
(.seq (.ops [o 2 (.mv (.c .nils)),
o 3 (.mv (.c (.int .i64 3)))])
(.ret [2, 3]))
.skip))
(.seq (.ops [o 21 (.fieldAddr 4 (.t 1)),
o 22 (.load false 1 (.t 21)),
m 23 5,
o 24 (.idxAddrSl 5 (.t 22) (.t 23)),
o 25 (.load true 5 (.t 24)),
o 26 (.callF f_record_Of [(.t 25)]),
m 20 26,
o 27 (.extract (.t 20) 0),
o 28 (.extract (.t 20) 1),
o 7 (.new [(.int .i64 0), .nils, (.int .u8 0), (.int .i64 0), (.str []), .nils, .nils] none),
u (.store 7 (.t 7) (.t 27)),
m 8 28])
(.seq (.seq (.ops [m 29 8,
o 30 (.bin .neq 0 true (.t 29) (.c (.int .i64 0)))])
(.cond (.t 30)
(.seq (.ops [m 31 8,
o 2 (.mv (.c .nils)),
m 3 31])
(.ret [2, 3]))
.skip))
(.ops [m 32 4,
m 33 6,
o 34 (.load true 7 (.t 7)),
o 35 (.build [(.str []), (.int .i64 0), .nils, (.int .u8 0), (.int .i64 0), (.str []), .nils, .nils] [(0, 1, (.t 33)), (1, 7, (.t 34))]),
o 36 (.buildSl [(.str []), (.int .i64 0), .nils, (.int .u8 0), (.int .i64 0), (.str []), .nils, .nils] 1 8 [(0, 8, (.t 35))]),
o 37 (.app false 8 128 none (.t 32) (.t 36)),
m 4 37]))))))
(.ops [o 38 (.bin .add 0 true (.t 12) (.c (.int .i64 1))),
m 12 38]))))
def K_targ_listOf : KF := ⟨1, 40, [(.tmp 2), (.tmp 3)],
(.seq (.ops [o 1 (.box (.t 0)),
o 2 (.mv (.c .nils)),
o 3 (.mv (.c (.int .i64 0)))])
(.seq (.ops [o 4 (.mv (.c .nils))])
(.seq (.seq (.ops [o 9 (.fieldAddr 3 (.t 1)),
o 10 (.load false 1 (.t 9)),
o 11 (.len 1 (.t 10)),
o 12 (.mv (.c (.int .i64 0)))])
(.block 0
(.loop [1, 4, 10, 11, 12] L_targ_listOf_0)))
(.seq (.ops [m 39 4,
m 2 39,
o 3 (.mv (.c (.int .i64 0)))])
(.ret [2, 3])))))⟩
/-! (*legate/pick.Obj).Object -/
def K_pick_Obj_Object : KF := ⟨3, 11, [(.cell 6 true 5)],
(.seq (.ops [o 5 (.box (.t 2)),
o 6 (.new [(.int .u8 0), (.int .i64 0), (.str []), .nils, .nils] none)])
(.seq (.ops [m 7 0,
m 8 1,
o 9 (.mkFunc (.func f_pick_Obj_Object_1) [] [(.t 5)]),
o 10 (.callF f_pick_take_api_Value [(.t 7), (.t 8), (.t 9)]),
u (.store 5 (.t 6) (.t 10))])
(.ret [6])))⟩
/-! (*legate/pick.Obj).Has -/
def K_pick_Obj_Has : KF := ⟨2, 20, [(.tmp 4)],
(.seq (.ops [o 4 (.mv (.c (.bool false)))])
(.seq (.seq (.ops [m 7 0,
o 8 (.callF f_pick_Obj_Err [(.t 7)]),
o 9 (.bin .neq 0 true (.t 8) (.c (.int .i64 0)))])
(.cond (.t 9)
(.seq (.ops [o 4 (.mv (.c (.bool false)))])
(.ret [4]))
.skip))
(.seq (.ops [m 11 0,
o 12 (.nilck (.t 11)),
o 13 (.fieldAddr 0 (.t 12)),
o 14 (.load true 5 (.t 13)),
m 15 1,
o 16 (.callF f_value_Get [(.t 14), (.t 15)]),
m 10 16,
o 17 (.extract (.t 10) 0),
o 18 (.extract (.t 10) 1),
o 5 (.new [(.int .u8 0), (.int .i64 0), (.str []), .nils, .nils] none),
u (.store 5 (.t 5) (.t 17)),
m 6 18])
(.seq (.ops [m 19 6,
m 4 19])
(.ret [4])))))⟩
/-! (*legate/pick.Obj).Done -/
def L_pick_Obj_Done_0 : KC :=
(.seq (.ops [o 18 (.bin .lss 0 false (.t 17) (.t 16))])
(.seq (.cond (.t 18)
.skip
(.exit [] 0))
(.seq (.block 1
(.seq (.ops [o 19 (.idxAddrSl 1 (.t 15) (.t 17)),
o 20 (.load false 1 (.t 19)),
m 5 20])
(.seq (.ops [m 21 0,
o 22 (.nilck (.t 21)),
o 23 (.fieldAddr 5 (.t 22)),
o 24 (.load false 1 (.t 23)),
m 25 5,
o 26 (.lookup (.int .i64 0) (.t 24) (.t 25) false),
o 27 (.bin .eql 0 true (.t 26) (.c (.int .i64 0)))])
(.cond (.t 27)
(.seq (.ops [o 2 (.mv (.c (.int .i64 11)))])
(.ret [2]))
.skip))))
(.ops [o 28 (.bin .add 0 true (.t 17) (.c (.int .i64 1))),
m 17 28]))))
def K_pick_Obj_Done : KF := ⟨1, 29, [(.tmp 2)],
(.seq (.ops [o 2 (.mv (.c (.int .i64 0)))])
(.seq (.seq (.ops [m 6 0,
o 7 (.callF f_pick_Obj_Err [(.t 6)]),
m 3 7])
(.seq (.ops [m 8 3,
o 9 (.bin .neq 0 true (.t 8) (.c (.int .i64 0)))])
(.cond (.t 9)
(.seq (.ops [m 10 3,
m 2 10])
(.ret [2]))
.skip)))
(.seq (.seq (.ops [m 11 0,
o 12 (.nilck (.t 11)),
o 13 (.fieldAddr 0 (.t 12)),
o 14 (.fieldAddr 3 (.t 13)),
o 15 (.load false 1 (.t 14)),
o 16 (.len 1 (.t 15)),
o 17 (.mv (.c (.int .i64 0)))])
(.block 0
(.loop [0, 15, 16, 17] L_pick_Obj_Done_0)))
(.seq (.ops [o 2 (.mv (.c (.int .i64 0)))])
(.ret [2])))))⟩
/-! legate/read.Read -/
def K_read_Read : KF := ⟨1, 52, [(.cell 2 true 5), (.tmp 3), (.tmp 4)],
(.seq (.ops [o 2 (.new [(.int .u8 0), (.int .i64 0), (.str []), .nils, .nils] none),
o 3 (.mv (.c (.int .i64 0))),
o 4 (.mv (.c (.int .i64 0)))])
(.seq (.seq (.ops [m 6 0,
o 7 (.len 0 (.t 6)),
o 8 (.bin .gtr 0 true (.t 7) (.c (.int .i64 65536)))])
(.cond (.t 8)
(.seq (.ops [o 9 (.build [(.int .u8 0), (.int .i64 0), (.str []), .nils, .nils] []),
u (.store 5 (.t 2) (.t 9)),
o 3 (.mv (.c (.int .i64 0))),
o 4 (.mv (.c (.int .i64 5)))])
(.ret [2, 3, 4]))
.skip))
(.seq (.ops [m 10 0,
o 11 (.build [(.str []), (.int .i64 0), (.int .u8 0), (.int .i64 0), (.int .i64 0), (.int .i64 0), (.str []), (.int .i64 0)] [(0, 1, (.t 10))]),
o 12 (.build [(.str []), (.int .i64 0), (.int .u8 0), (.int .i64 0), (.int .i64 0), (.int .i64 0), (.str []), (.int .i64 0), (.int .i64 0), (.int .i64 0)] [(0, 8, (.t 11))]),
o 5 (.new [(.str []), (.int .i64 0), (.int .u8 0), (.int .i64 0), (.int .i64 0), (.int .i64 0), (.str []), (.int .i64 0), (.int .i64 0), (.int .i64 0)] none),
u (.store 10 (.t 5) (.t 12))])
(.seq (.seq (.ops [o 13 (.fieldAddr 0 (.t 5)),
o 14 (.callF f_read_tokens_next [(.t 13)]),
m 4 14])
(.seq (.ops [m 15 4,
o 16 (.bin .neq 0 true (.t 15) (.c (.int .i64 0)))])
(.cond (.t 16)
(.seq (.drawn [o 17 (.build [(.int .u8 0), (.int .i64 0), (.str []), .nils, .nils] []),
o 18 (.fieldAddr 0 (.t 5)),
o 19 (.fieldAddr 1 (.t 18)),
⟨(some 20), (.load false 1 (.t 19)), none, [5]⟩,
m 21 4,
u (.store 5 (.t 2) (.t 17)),
m 3 20,
m 4 21])
(.ret [2, 3, 4]))
.skip)))
(.seq (.seq (.ops [o 23 (.callF f_read_values_value [(.t 5)]),
m 22 23,
o 24 (.extract (.t 22) 0),
o 25 (.extract (.t 22) 1),
u (.store 5 (.t 2) (.t 24)),
m 4 25])
(.seq (.ops [m 26 4,
o 27 (.bin .neq 0 true (.t 26) (.c (.int .i64 0)))])
(.cond (.t 27)
(.seq (.drawn [o 28 (.build [(.int .u8 0), (.int .i64 0), (.str []), .nils, .nils] []),
o 29 (.fieldAddr 0 (.t 5)),
o 30 (.fieldAddr 1 (.t 29)),
⟨(some 31), (.load false 1 (.t 30)), none, [5]⟩,
m 32 4,
u (.store 5 (.t 2) (.t 28)),
m 3 31,
m 4 32])
(.ret [2, 3, 4]))
.skip)))
(.seq (.seq (.ops [o 33 (.fieldAddr 0 (.t 5)),
o 34 (.callF f_read_tokens_next [(.t 33)]),
m 4 34])
(.seq (.ops [m 35 4,
o 36 (.bin .neq 0 true (.t 35) (.c (.int .i64 0)))])
(.cond (.t 36)
(.seq (.drawn [o 37 (.build [(.int .u8 0), (.int .i64 0), (.str []), .nils, .nils] []),
o 38 (.fieldAddr 0 (.t 5)),
o 39 (.fieldAddr 1 (.t 38)),
⟨(some 40), (.load false 1 (.t 39)), none, [5]⟩,
m 41 4,
u (.store 5 (.t 2) (.t 37)),
m 3 40,
m 4 41])
(.ret [2, 3, 4]))
.skip)))
(.seq (.seq (.ops [o 42 (.fieldAddr 0 (.t 5)),
o 43 (.fieldAddr 2 (.t 42)),
o 44 (.fieldAddr 0 (.t 43)),
o 45 (.load false 1 (.t 44)),
o 46 (.bin .neq 0 true (.t 45) (.c (.int .u8 11)))])
(.cond (.t 46)
(.seq (.drawn [o 47 (.build [(.int .u8 0), (.int .i64 0), (.str []), .nils, .nils] []),
o 48 (.fieldAddr 0 (.t 5)),
o 49 (.fieldAddr 1 (.t 48)),
⟨(some 50), (.load false 1 (.t 49)), none, [4]⟩,
u (.store 5 (.t 2) (.t 47)),
m 3 50,
o 4 (.mv (.c (.int .i64 11)))])
(.ret [2, 3, 4]))
.skip))
(.seq (.ops [o 51 (.load true 5 (.t 2)),
u (.store 5 (.t 2) (.t 51)),
o 3 (.mv (.c (.int .i64 0))),
o 4 (.mv (.c (.int .i64 0)))])
(.ret [2, 3, 4])))))))))⟩
/-! legate/sign.Of -/
def L_sign_Of_0 : KC :=
(.seq (.ops [o 21 (.bin .lss 0 false (.t 20) (.t 19))])
(.seq (.cond (.t 21)
.skip
(.exit [2, 4, 5] 0))
(.seq (.block 1
(.seq (.ops [o 22 (.idxAddrSl 5 (.t 18) (.t 20)),
o 23 (.load true 5 (.t 22)),
o 7 (.new [(.int .u8 0), (.int .i64 0), (.str []), .nils, .nils] none),
u (.store 5 (.t 7) (.t 23))])
(.seq (.ops [o 25 (.load true 5 (.t 7)),
o 26 (.callF f_sign_sigOf [(.t 25)]),
m 24 26,
o 27 (.extract (.t 24) 0),
o 28 (.extract (.t 24) 1),
o 8 (.new [(.str []), (.str [])] none),
u (.store 2 (.t 8) (.t 27)),
m 9 28])
(.seq (.ops [m 29 9])
(.block 2
(.seq (.ops [o 34 (.bin .eql 0 true (.t 29) (.c (.int .i64 0))),
m 33 34])
(.cond (.t 33)
(.ops [o 35 (.fieldAddr 5 (.t 5)),
o 36 (.load false 1 (.t 35)),
o 37 (.load true 2 (.t 8)),
o 38 (.buildSl [(.str []), (.str [])] 1 2 [(0, 2, (.t 37))]),
o 39 (.app false 2 32 none (.t 36) (.t 38)),
o 40 (.fieldAddr 5 (.t 5)),
u (.store 1 (.t 40) (.t 39))])
(.seq (.ops [m 30 4,
m 31 9,
o 32 (.callF f_pick_Obj_Fail [(.t 30), (.t 31)])])
(.exit [2, 4, 5] 0)))))))))
(.ops [o 41 (.bin .add 0 true (.t 20) (.c (.int .i64 1))),
m 20 41]))))
def K_sign_Of : KF := ⟨1, 52, [(.cell 2 true 6), (.tmp 3)],
(.seq (.ops [o 1 (.box (.t 0)),
o 2 (.new [(.int .u8 0), (.int .i64 0), (.str []), .nils, .nils, .nils] none),
o 3 (.mv (.c (.int .i64 0)))])
(.scope (.seq (.seq (.ops [o 11 (.load true 5 (.t 1)),
o 12 (.callF f_value_May [(.t 11)]),
o 13 (.un .not (.t 12))])
(.cond (.t 13)
(.seq (.ops [o 14 (.build [(.int .u8 0), (.int .i64 0), (.str []), .nils, .nils, .nils] []),
u (.store 6 (.t 2) (.t 14)),
o 3 (.mv (.c (.int .i64 3)))])
(.ret [2, 3]))
.skip))
(.seq (.ops [o 15 (.load true 5 (.t 1)),
o 16 (.callF f_pick_Of [(.t 15)]),
m 4 16])
(.seq (.ops [o 5 (.new [(.int .u8 0), (.int .i64 0), (.str []), .nils, .nils, .nils] none)])
(.seq .skip
(.seq (.seq (.ops [m 17 4,
o 18 (.callF f_pick_Obj_List [(.t 17), (.c (.str [115, 105, 103, 110, 97, 116, 117, 114, 101, 115])), (.c (.int .i64 32))]),
o 19 (.len 1 (.t 18)),
o 20 (.mv (.c (.int .i64 0)))])
(.block 0
(.loop [2, 4, 5, 18, 19, 20] L_sign_Of_0)))
(.seq (.ops [m 42 4,
o 43 (.callF f_pick_Obj_Object [(.t 42), (.c (.str [115, 105, 103, 110, 101, 100])), (.c (.int .i64 8192))]),
o 44 (.fieldAddr 0 (.t 5)),
u (.store 5 (.t 44) (.t 43))])
(.seq (.seq (.ops [m 45 4,
o 46 (.callF f_pick_Obj_Done [(.t 45)]),
m 10 46])
(.seq (.ops [m 47 10,
o 48 (.bin .neq 0 true (.t 47) (.c (.int .i64 0)))])
(.cond (.t 48)
(.seq (.ops [o 49 (.build [(.int .u8 0), (.int .i64 0), (.str []), .nils, .nils, .nils] []),
m 50 10,
u (.store 6 (.t 2) (.t 49)),
m 3 50])
(.ret [2, 3]))
.skip)))
(.seq (.ops [o 51 (.load true 6 (.t 5)),
u (.store 6 (.t 2) (.t 51)),
o 3 (.mv (.c (.int .i64 0)))])
(.ret [2, 3])))))))))))⟩
/-! legate/when.Over -/
def K_when_Over : KF := ⟨2, 8, [(.tmp 4)],
(.seq (.ops [o 4 (.mv (.c (.bool false)))])
(.seq (.ops [m 5 1,
m 6 0,
o 7 (.bin .geq 0 false (.t 5) (.t 6)),
m 4 7])
(.ret [4])))⟩
/-! legate/root.keysMay -/
def L_root_keysMay_0 : KC :=
(.seq (.ops [o 14 (.bin .lss 0 false (.t 13) (.t 12))])
(.seq (.cond (.t 14)
.skip
(.exit [] 0))
(.seq (.block 1
(.seq (.ops [o 15 (.idxAddrSl 2 (.t 11) (.t 13)),
o 16 (.load true 2 (.t 15)),
o 5 (.new [(.str []), (.str [])] none),
u (.store 2 (.t 5) (.t 16))])
(.seq (.ops [o 18 (.load true 2 (.t 5)),
o 19 (.callF f_key_ID [(.t 18)]),
m 17 19,
o 20 (.extract (.t 17) 0),
o 21 (.extract (.t 17) 1),
m 6 20,
m 7 21])
(.seq (.seq (.ops [m 22 7,
o 23 (.bin .neq 0 true (.t 22) (.c (.int .i64 0))),
m 24 23,
og 25 24 false (.mv (.t 6)),
og 26 24 false (.mv (.t 3)),
og 27 24 false (.bin .leq 0 false (.t 25) (.t 26)),
o 28 (.pick (.t 24) (.c (.bool true)) (.t 27))])
(.cond (.t 28)
(.seq (.ops [o 2 (.mv (.c (.bool false)))])
(.ret [2]))
.skip))
(.ops [m 29 6,
m 3 29])))))
(.ops [o 30 (.bin .add 0 true (.t 13) (.c (.int .i64 1))),
m 13 30]))))
def K_root_keysMay : KF := ⟨1, 31, [(.tmp 2)],
(.seq (.ops [o 2 (.mv (.c (.bool false)))])
(.seq (.seq (.ops [m 8 0,
o 9 (.len 1 (.t 8)),
o 10 (.bin .gtr 0 true (.t 9) (.c (.int .i64 32)))])
(.cond (.t 10)
(.seq (.ops [o 2 (.mv (.c (.bool false)))])
(.ret [2]))
.skip))
(.seq (.ops [o 3 (.mv (.c (.str [])))])
(.seq (.seq (.ops [m 11 0,
o 12 (.len 1 (.t 11)),
o 13 (.mv (.c (.int .i64 0)))])
(.block 0
(.loop [3, 11, 12, 13] L_root_keysMay_0)))
(.seq (.ops [o 2 (.mv (.c (.bool true)))])
(.ret [2]))))))⟩
/-! legate/auth.May -/
def K_auth_May : KF := ⟨1, 28, [(.tmp 2)],
(.seq (.ops [o 1 (.box (.t 0)),
o 2 (.mv (.c (.bool false)))])
(.seq (.ops [o 4 (.fieldAddr 1 (.t 1)),
o 5 (.load false 1 (.t 4)),
o 6 (.len 1 (.t 5)),
m 3 6])
(.seq (.seq (.ops [m 7 3,
o 8 (.bin .lss 0 true (.t 7) (.c (.int .i64 1))),
m 9 8,
og 10 9 false (.mv (.t 3)),
og 11 9 false (.bin .gtr 0 true (.t 10) (.c (.int .i64 16))),
o 12 (.pick (.t 9) (.c (.bool true)) (.t 11)),
m 13 12,
og 14 13 false (.fieldAddr 0 (.t 1)),
og 15 13 false (.load false 1 (.t 14)),
og 16 13 false (.bin .lss 0 true (.t 15) (.c (.int .i64 1))),
o 17 (.pick (.t 13) (.c (.bool true)) (.t 16)),
m 18 17,
og 19 18 false (.fieldAddr 0 (.t 1)),
og 20 18 false (.load false 1 (.t 19)),
og 21 18 false (.mv (.t 3)),
og 22 18 false (.bin .gtr 0 false (.t 20) (.t 21)),
o 23 (.pick (.t 18) (.c (.bool true)) (.t 22))])
(.cond (.t 23)
(.seq (.ops [o 2 (.mv (.c (.bool false)))])
(.ret [2]))
.skip))
(.seq (.ops [o 24 (.fieldAddr 1 (.t 1)),
o 25 (.load false 1 (.t 24)),
o 26 (.callF f_auth_wrong [(.t 25)]),
o 27 (.bin .eql 0 true (.t 26) (.c (.int .i64 0))),
m 2 27])
(.ret [2])))))⟩
/-! legate/when.start -/
def K_when_start : KF := ⟨1, 12, [(.tmp 2)],
(.seq (.ops [o 2 (.mv (.c (.int .i64 0)))])
(.seq (.ops [m 3 0,
o 4 (.bin .sub 0 true (.t 3) (.c (.int .i64 1970))),
o 5 (.bin .mul 0 true (.c (.int .i64 365)) (.t 4)),
m 6 0,
o 7 (.bin .sub 0 true (.t 6) (.c (.int .i64 1))),
o 8 (.callF f_when_leaps [(.t 7)]),
o 9 (.bin .add 0 false (.t 5) (.t 8)),
o 10 (.callF f_when_leaps [(.c (.int .i64 1969))]),
o 11 (.bin .sub 0 false (.t 9) (.t 10)),
m 2 11])
(.ret [2])))⟩
/-! legate/when.Days -/
def K_when_Days : KF := ⟨2, 37, [(.tmp 4)],
(.seq (.ops [o 4 (.mv (.c (.int .i64 0)))])
(.seq (.seq (.ops [m 6 0,
o 7 (.bin .lss 0 true (.t 6) (.c (.int .i64 1970))),
m 8 7,
og 9 8 false (.mv (.t 0)),
og 10 8 false (.bin .gtr 0 true (.t 9) (.c (.int .i64 9999))),
o 11 (.pick (.t 8) (.c (.bool true)) (.t 10)),
m 12 11,
og 13 12 false (.mv (.t 1)),
og 14 12 false (.bin .lss 0 true (.t 13) (.c (.int .i64 1))),
o 15 (.pick (.t 12) (.c (.bool true)) (.t 14)),
m 16 15,
og 17 16 false (.mv (.t 1)),
og 18 16 false (.bin .gtr 0 true (.t 17) (.c (.int .i64 12))),
o 19 (.pick (.t 16) (.c (.bool true)) (.t 18))])
(.cond (.t 19)
(.seq (.ops [o 4 (.mv (.c (.int .i64 0)))])
(.ret [4]))
.skip))
(.seq (.plain [m 20 1,
o 21 (.idxAddrArr 13 1 (.g g_when_before) (.t 20)),
o 22 (.load false 1 (.t 21)),
m 23 1,
o 24 (.bin .sub 0 true (.t 23) (.c (.int .i64 1))),
o 25 (.idxAddrArr 13 1 (.g g_when_before) (.t 24)),
o 26 (.load false 1 (.t 25)),
o 27 (.bin .sub 0 false (.t 22) (.t 26)),
m 5 27])
(.seq (.seq (.ops [m 28 1,
o 29 (.bin .eql 0 true (.t 28) (.c (.int .i64 2))),
m 30 29,
og 31 30 true (.mv (.t 0)),
og 32 30 true (.callF f_when_leap [(.t 31)]),
o 33 (.pick (.t 30) (.t 32) (.c (.bool false)))])
(.cond (.t 33)
(.ops [m 34 5,
o 35 (.bin .add 0 true (.t 34) (.c (.int .i64 1))),
m 5 35])
.skip))
(.seq (.ops [m 36 5,
m 4 36])
(.ret [4]))))))⟩
/-! legate/when.pad -/
def K_when_pad : KF := ⟨2, 20, [(.tmp 4)],
(.seq (.ops [o 4 (.mv (.c (.str [])))])
(.seq (.ops [m 6 0,
o 7 (.callF f_strconv_Itoa [(.t 6)]),
m 5 7])
(.seq (.seq (.ops [m 8 5,
o 9 (.len 0 (.t 8)),
m 10 1,
o 11 (.bin .lss 0 false (.t 9) (.t 10))])
(.cond (.t 11)
(.ops [m 12 1,
m 13 5,
o 14 (.len 0 (.t 13)),
o 15 (.bin .sub 0 false (.t 12) (.t 14)),
o 16 (.callF f_strings_Repeat [(.c (.str [48])), (.t 15)]),
m 17 5,
o 18 (.bin .add 0 false (.t 16) (.t 17)),
m 5 18])
.skip))
(.seq (.ops [m 19 5,
m 4 19])
(.ret [4])))))⟩
/-! legate/key.entryOf -/
def K_key_entryOf : KF := ⟨1, 28, [(.cell 2 true 6), (.tmp 3)],
(.seq (.ops [o 1 (.box (.t 0)),
o 2 (.new [(.str []), (.int .u8 0), (.int .i64 0), (.str []), .nils, .nils] none),
o 3 (.mv (.c (.int .i64 0)))])
(.seq (.ops [o 8 (.load true 2 (.t 1)),
o 9 (.callF f_key_ID [(.t 8)]),
m 7 9,
o 10 (.extract (.t 7) 0),
o 11 (.extract (.t 7) 1),
m 4 10,
m 5 11])
(.seq (.seq (.ops [m 12 5,
o 13 (.bin .neq 0 true (.t 12) (.c (.int .i64 0)))])
(.cond (.t 13)
(.seq (.ops [o 14 (.build [(.str []), (.int .u8 0), (.int .i64 0), (.str []), .nils, .nils] []),
m 15 5,
u (.store 6 (.t 2) (.t 14)),
m 3 15])
(.ret [2, 3]))
.skip))
(.seq (.ops [o 17 (.load true 2 (.t 1)),
o 18 (.callF f_key_Value [(.t 17)]),
m 16 18,
o 19 (.extract (.t 16) 0),
o 20 (.extract (.t 16) 1),
o 6 (.new [(.int .u8 0), (.int .i64 0), (.str []), .nils, .nils] none),
u (.store 5 (.t 6) (.t 19)),
m 5 20])
(.seq (.seq (.ops [m 21 5,
o 22 (.bin .neq 0 true (.t 21) (.c (.int .i64 0)))])
(.cond (.t 22)
(.seq (.ops [o 23 (.build [(.str []), (.int .u8 0), (.int .i64 0), (.str []), .nils, .nils] []),
m 24 5,
u (.store 6 (.t 2) (.t 23)),
m 3 24])
(.ret [2, 3]))
.skip))
(.seq (.ops [m 25 4,
o 26 (.load true 5 (.t 6)),
o 27 (.build [(.str []), (.int .u8 0), (.int .i64 0), (.str []), .nils, .nils] [(0, 1, (.t 25)), (1, 5, (.t 26))]),
u (.store 6 (.t 2) (.t 27)),
o 3 (.mv (.c (.int .i64 0)))])
(.ret [2, 3])))))))⟩
/-! slices.SortFunc[[]legate/key.entry,legate/key.entry] -/
def K_slices_SortFunc_key_entry_key_entry : KF := ⟨2, 14, [],
(.seq (.ops [m 5 0,
o 6 (.len 1 (.t 5)),
m 4 6])
(.ops [m 7 0,
m 8 4,
m 9 4,
o 10 (.i2i .u64 (.t 9)),
o 11 (.callF f_math_bits_Len [(.t 10)]),
m 12 1,
o 13 (.callF f_slices_pdqsortCmpFunc_key_entry [(.t 7), (.c (.int .i64 0)), (.t 8), (.t 11), (.t 12)])]))⟩
/-! (legate/key.entry).compare -/
def K_key_entry_compare : KF := ⟨2, 10, [(.tmp 4)],
(.seq (.ops [o 2 (.box (.t 0)),
o 3 (.box (.t 1)),
o 4 (.mv (.c (.int .i64 0)))])
(.seq (.ops [o 5 (.fieldAddr 0 (.t 2)),
o 6 (.load false 1 (.t 5)),
o 7 (.fieldAddr 0 (.t 3)),
o 8 (.load false 1 (.t 7)),
o 9 (.callF f_strings_Compare [(.t 6), (.t 8)]),
m 4 9])
(.ret [4])))⟩
/-! legate/auth.Members -/
def K_auth_Members : KF := ⟨1, 12, [(.tmp 2)],
(.seq (.ops [o 1 (.box (.t 0)),
o 2 (.mv (.c .nils))])
(.seq (.drawn [o 3 (.fieldAddr 1 (.t 1)),
o 4 (.load false 1 (.t 3)),
o 5 (.callF f_pick_TextsOf [(.t 4)]),
o 6 (.build [(.str []), (.int .u8 0), (.int .i64 0), (.str []), .nils, .nils] [(0, 1, (.c (.str [107, 101, 121, 105, 100, 115]))), (1, 5, (.t 5))]),
o 7 (.fieldAddr 0 (.t 1)),
⟨(some 8), (.load false 1 (.t 7)), none, [2]⟩,
o 9 (.callF f_pick_NumOf [(.t 8)]),
o 10 (.build [(.str []), (.int .u8 0), (.int .i64 0), (.str []), .nils, .nils] [(0, 1, (.c (.str [116, 104, 114, 101, 115, 104, 111, 108, 100]))), (1, 5, (.t 9))]),
o 11 (.buildSl [(.str []), (.int .u8 0), (.int .i64 0), (.str []), .nils, .nils] 2 6 [(0, 6, (.t 6)), (6, 6, (.t 10))]),
m 2 11])
(.ret [2])))⟩
/-! slices.Clone[[]legate/pick.Member,legate/pick.Member] -/
def K_slices_Clone_pick_Member_pick_Member : KF := ⟨1, 8, [(.tmp 2)],
(.seq (.ops [o 2 (.mv (.c .nils))])
(.seq (.seq (.ops [m 3 0,
o 4 (.bin .eql 7 true (.t 3) (.c .nils))])
(.cond (.t 4)
(.seq (.ops [o 2 (.mv (.c .nils))])
(.ret [2]))
.skip))
(.seq (.ops [o 5 (.buildSl [(.str []), (.int .u8 0), (.int .i64 0), (.str []), .nils, .nils] 0 6 []),
m 6 0,
o 7 (.app false 6 96 none (.t 5) (.t 6)),
m 2 7])
(.ret [2]))))⟩
/-! slices.SortFunc[[]legate/pick.Member,legate/pick.Member] -/
def K_slices_SortFunc_pick_Member_pick_Member : KF := ⟨2, 14, [],
(.seq (.ops [m 5 0,
o 6 (.len 1 (.t 5)),
m 4 6])
(.ops [m 7 0,
m 8 4,
m 9 4,
o 10 (.i2i .u64 (.t 9)),
o 11 (.callF f_math_bits_Len [(.t 10)]),
m 12 1,
o 13 (.callF f_slices_pdqsortCmpFunc_pick_Member [(.t 7), (.c (.int .i64 0)), (.t 8), (.t 11), (.t 12)])]))⟩
/-! legate/pick.ObjectOf$1 -/
def K_pick_ObjectOf_1 : KF := ⟨2, 10, [(.tmp 4)],
(.seq (.ops [o 2 (.box (.t 0)),
o 3 (.box (.t 1)),
o 4 (.mv (.c (.int .i64 0)))])
(.seq (.ops [o 5 (.fieldAddr 0 (.t 2)),
o 6 (.load false 1 (.t 5)),
o 7 (.fieldAddr 0 (.t 3)),
o 8 (.load false 1 (.t 7)),
o 9 (.callF f_strings_Compare [(.t 6), (.t 8)]),
m 4 9])
(.ret [4])))⟩
/-! strings.Compare -/
def K_strings_Compare : KF := ⟨2, 8, [(.tmp 4)],
(.seq (.ops [o 4 (.mv (.c (.int .i64 0)))])
(.seq (.ops [m 5 0,
m 6 1,
o 7 (.callF f_internal_bytealg_CompareString [(.t 5), (.t 6)]),
m 4 7])
(.ret [4])))⟩
/-! legate/value.Copy -/
def L_value_Copy_0 : KC :=
(.seq (.ops [o 20 (.bin .lss 0 false (.t 19) (.t 18))])
(.seq (.cond (.t 20)
.skip
(.exit [2, 3] 0))
(.seq (.block 1
(.seq (.ops [o 21 (.idxAddrSl 5 (.t 17) (.t 19)),
o 22 (.load true 5 (.t 21)),
o 5 (.new [(.int .u8 0), (.int .i64 0), (.str []), .nils, .nils] none),
u (.store 5 (.t 5) (.t 22))])
(.seq (.seq (.ops [o 23 (.fieldAddr 4 (.t 5)),
o 24 (.load false 1 (.t 23)),
o 25 (.callF f_value_endless [(.t 24), (.c (.int .i64 1)), (.c .nilp), (.c (.bool false))])])
(.cond (.t 25)
(.ops [o 26 (.build [(.int .u8 0), (.int .i64 0), (.str []), .nils, .nils] []),
u (.store 5 (.t 5) (.t 26))])
.skip))
(.drawn [o 27 (.fieldAddr 4 (.t 3)),
⟨(some 28), (.load false 1 (.t 27)), none, [3]⟩,
o 29 (.load true 5 (.t 5)),
o 30 (.callF f_value_duplicate [(.t 29)]),
o 31 (.buildSl [(.int .u8 0), (.int .i64 0), (.str []), .nils, .nils] 1 5 [(0, 5, (.t 30))]),
o 32 (.app false 5 80 none (.t 28) (.t 31)),
o 33 (.fieldAddr 4 (.t 3)),
u (.store 1 (.t 33) (.t 32))]))))
(.ops [o 34 (.bin .add 0 true (.t 19) (.c (.int .i64 1))),
m 19 34]))))
def K_value_Copy : KF := ⟨1, 36, [(.cell 2 true 5)],
(.seq (.ops [o 1 (.box (.t 0)),
o 2 (.new [(.int .u8 0), (.int .i64 0), (.str []), .nils, .nils] none)])
(.seq (.drawn [o 6 (.fieldAddr 0 (.t 1)),
⟨(some 7), (.load false 1 (.t 6)), none, [8]⟩,
o 8 (.fieldAddr 1 (.t 1)),
⟨(some 9), (.load false 1 (.t 8)), none, [8]⟩,
o 10 (.fieldAddr 2 (.t 1)),
⟨(some 11), (.load false 1 (.t 10)), none, [8]⟩,
o 12 (.fieldAddr 3 (.t 1)),
o 13 (.load false 1 (.t 12)),
o 14 (.callF f_slices_Clone_string_string [(.t 13)]),
o 15 (.build [(.int .u8 0), (.int .i64 0), (.str []), .nils, .nils] [(0, 1, (.t 7)), (1, 1, (.t 9)), (2, 1, (.t 11)), (3, 1, (.t 14))]),
u .pend,
o 3 (.fill 10 3 5 (.t 15))])
(.seq (.seq (.ops [o 16 (.fieldAddr 4 (.t 1)),
o 17 (.load false 1 (.t 16)),
o 18 (.len 1 (.t 17)),
o 19 (.mv (.c (.int .i64 0)))])
(.block 0
(.loop [2, 3, 17, 18, 19] L_value_Copy_0)))
(.seq (.ops [o 35 (.load true 5 (.t 3)),
u (.store 5 (.t 2) (.t 35))])
(.ret [2])))))⟩
/-! legate/key.Of -/
def K_key_Of : KF := ⟨1, 29, [(.cell 2 true 2), (.tmp 3)],
(.seq (.ops [o 1 (.box (.t 0)),
o 2 (.new [(.str []), (.str [])] none),
o 3 (.mv (.c (.int .i64 0)))])
(.seq (.seq (.ops [o 7 (.load true 5 (.t 1)),
o 8 (.callF f_value_May [(.t 7)]),
o 9 (.un .not (.t 8))])
(.cond (.t 9)
(.seq (.ops [o 10 (.build [(.str []), (.str [])] []),
u (.store 2 (.t 2) (.t 10)),
o 3 (.mv (.c (.int .i64 3)))])
(.ret [2, 3]))
.skip))
(.seq (.ops [o 11 (.load true 5 (.t 1)),
o 12 (.callF f_pick_Of [(.t 11)]),
m 4 12])
(.seq (.ops [m 13 4,
o 14 (.callF f_pick_Obj_Text [(.t 13), (.c (.str [112, 117, 98, 108, 105, 99]))]),
m 15 4,
o 16 (.callF f_pick_Obj_Text [(.t 15), (.c (.str [115, 99, 104, 101, 109, 101]))]),
o 17 (.build [(.str []), (.str [])] [(1, 1, (.t 14)), (0, 1, (.t 16))]),
o 5 (.new [(.str []), (.str [])] none),
u (.store 2 (.t 5) (.t 17))])
(.seq (.seq (.ops [m 18 4,
o 19 (.callF f_pick_Obj_Done [(.t 18)]),
m 6 19])
(.seq (.ops [m 20 6,
o 21 (.bin .neq 0 true (.t 20) (.c (.int .i64 0)))])
(.cond (.t 21)
(.seq (.ops [o 22 (.build [(.str []), (.str [])] []),
m 23 6,
u (.store 2 (.t 2) (.t 22)),
m 3 23])
(.ret [2, 3]))
.skip)))
(.seq (.seq (.ops [o 24 (.load true 2 (.t 5)),
o 25 (.callF f_key_May [(.t 24)]),
o 26 (.un .not (.t 25))])
(.cond (.t 26)
(.seq (.ops [o 27 (.build [(.str []), (.str [])] []),
u (.store 2 (.t 2) (.t 27)),
o 3 (.mv (.c (.int .i64 3)))])
(.ret [2, 3]))
.skip))
(.seq (.ops [o 28 (.load true 2 (.t 5)),
u (.store 2 (.t 2) (.t 28)),
o 3 (.mv (.c (.int .i64 0)))])
(.ret [2, 3]))))))))⟩
/-! legate/root.authsOf -/
def L_root_authsOf_0 : KC :=
(.seq (.ops [o 15 (.bin .lss 0 true (.t 14) (.c (.int .i64 3)))])
(.seq (.cond (.t 15)
.skip
(.exit [2, 4, 5] 0))
(.seq (.block 1
(.seq (.ops [m 16 14,
o 17 (.idxArr 3 false 1 (.t 13) (.t 14)),
m 6 16,
m 7 17])
(.seq (.ops [m 19 4,
m 20 7,
o 21 (.callF f_pick_Obj_Object [(.t 19), (.t 20), (.c (.int .i64 8192))]),
o 22 (.callF f_auth_Of [(.t 21)]),
m 18 22,
o 23 (.extract (.t 18) 0),
o 24 (.extract (.t 18) 1),
o 8 (.new [(.int .i64 0), .nils] none),
u (.store 2 (.t 8) (.t 23)),
m 9 24])
(.seq (.ops [m 25 4,
m 26 9,
o 27 (.callF f_pick_Obj_Fail [(.t 25), (.t 26)])])
(.ops [m 28 6,
o 29 (.load true 2 (.t 8)),
o 30 (.idxAddrArr 3 2 (.t 5) (.t 28)),
u (.store 2 (.t 30) (.t 29))])))))
(.ops [o 31 (.bin .add 0 true (.t 14) (.c (.int .i64 1))),
m 14 31]))))
def K_root_authsOf : KF := ⟨1, 39, [(.cell 2 true 6), (.tmp 3)],
(.seq (.ops [o 1 (.box (.t 0)),
o 2 (.new [(.int .i64 0), .nils, (.int .i64 0), .nils, (.int .i64 0), .nils] none),
o 3 (.mv (.c (.int .i64 0)))])
(.seq (.ops [o 11 (.load true 5 (.t 1)),
o 12 (.callF f_pick_Of [(.t 11)]),
m 4 12])
(.seq (.ops [o 5 (.new [(.int .i64 0), .nils, (.int .i64 0), .nils, (.int .i64 0), .nils] none)])
(.seq (.seq (.ops [o 13 (.load true 3 (.g g_root_tops)),
o 14 (.mv (.c (.int .i64 0)))])
(.block 0
(.loop [2, 4, 5, 13, 14] L_root_authsOf_0)))
(.seq (.seq (.ops [m 32 4,
o 33 (.callF f_pick_Obj_Done [(.t 32)]),
m 10 33])
(.seq (.ops [m 34 10,
o 35 (.bin .neq 0 true (.t 34) (.c (.int .i64 0)))])
(.cond (.t 35)
(.seq (.ops [o 36 (.build [(.int .i64 0), .nils, (.int .i64 0), .nils, (.int .i64 0), .nils] []),
m 37 10,
u (.store 6 (.t 2) (.t 36)),
m 3 37])
(.ret [2, 3]))
.skip)))
(.seq (.ops [o 38 (.load true 6 (.t 5)),
u (.store 6 (.t 2) (.t 38)),
o 3 (.mv (.c (.int .i64 0)))])
(.ret [2, 3])))))))⟩
/-! legate/judge.Count -/
def L_judge_Count_0 : KC :=
(.seq (.ops [o 30 (.bin .lss 0 false (.t 29) (.t 28))])
(.seq (.cond (.t 30)
.skip
(.exit [11] 0))
(.seq (.block 1
(.seq (.ops [o 31 (.idxAddrSl 1 (.t 27) (.t 29)),
o 32 (.load false 1 (.t 31)),
m 13 32])
(.seq (.ops [m 34 3,
m 35 13,
o 36 (.callF f_key_Find [(.t 34), (.t 35)]),
m 33 36,
o 37 (.extract (.t 33) 0),
o 38 (.extract (.t 33) 1),
o 14 (.new [(.str []), (.str [])] none),
u (.store 2 (.t 14) (.t 37)),
m 15 38])
(.seq (.ops [m 39 15,
m 40 39,
og 41 40 true (.mv (.t 0)),
og 42 40 true (.load true 2 (.t 14)),
og 43 40 true (.mv (.t 13)),
og 44 40 true (.fieldAddr 5 (.t 5)),
og 45 40 true (.load false 1 (.t 44)),
og 46 40 true (.mv (.t 9)),
og 47 40 true (.callF f_judge_Verifier_has [(.t 41), (.t 42), (.t 43), (.t 45), (.t 46)]),
o 48 (.pick (.t 40) (.t 47) (.c (.bool false)))])
(.cond (.t 48)
(.ops [m 49 11,
o 50 (.bin .add 0 true (.t 49) (.c (.int .i64 1))),
m 11 50])
.skip)))))
(.ops [o 51 (.bin .add 0 true (.t 29) (.c (.int .i64 1))),
m 29 51]))))
def K_judge_Count : KF := ⟨4, 53, [(.tmp 8)],
(.seq (.ops [o 5 (.box (.t 1)),
o 6 (.box (.t 2)),
o 8 (.mv (.c (.int .i64 0)))])
(.seq (.seq (.ops [o 16 (.load true 2 (.t 6)),
o 17 (.callF f_auth_May [(.t 16)]),
o 18 (.un .not (.t 17))])
(.cond (.t 18)
(.seq (.ops [o 8 (.mv (.c (.int .i64 0)))])
(.ret [8]))
.skip))
(.seq (.ops [o 20 (.load true 6 (.t 5)),
o 21 (.callF f_sign_Signed [(.t 20)]),
m 19 21,
o 22 (.extract (.t 19) 0),
o 23 (.extract (.t 19) 1),
m 9 22,
m 10 23])
(.seq (.seq (.ops [m 24 10,
o 25 (.bin .neq 0 true (.t 24) (.c (.int .i64 0)))])
(.cond (.t 25)
(.seq (.ops [o 8 (.mv (.c (.int .i64 0)))])
(.ret [8]))
.skip))
(.seq (.ops [o 11 (.mv (.c (.int .i64 0)))])
(.seq (.seq (.ops [o 26 (.fieldAddr 1 (.t 6)),
o 27 (.load false 1 (.t 26)),
o 28 (.len 1 (.t 27)),
o 29 (.mv (.c (.int .i64 0)))])
(.block 0
(.loop [0, 3, 5, 9, 11, 27, 28, 29] L_judge_Count_0)))
(.seq (.ops [m 52 11,
m 8 52])
(.ret [8]))))))))⟩
/-! legate/snap.May -/
def L_snap_May_0 : KC :=
(.seq (.ops [o 31 (.bin .lss 0 false (.t 30) (.t 29))])
(.seq (.cond (.t 31)
.skip
(.exit [] 0))
(.seq (.block 1
(.seq (.ops [m 32 30,
o 33 (.idxAddrSl 4 (.t 28) (.t 30)),
o 34 (.load true 4 (.t 33)),
o 6 (.new [(.str []), (.int .i64 0), (.int .i64 0), .nils] none),
m 5 32,
u (.store 4 (.t 6) (.t 34))])
(.seq (.seq (.ops [o 35 (.load true 4 (.t 6)),
o 36 (.callF f_snap_MayPin [(.t 35)]),
o 37 (.un .not (.t 36))])
(.cond (.t 37)
(.seq (.ops [o 2 (.mv (.c (.bool false)))])
(.ret [2]))
.skip))
(.seq (.plain [m 38 5,
o 39 (.bin .gtr 0 true (.t 38) (.c (.int .i64 0))),
m 40 39,
og 41 40 true (.fieldAddr 0 (.t 6)),
og 42 40 true (.load false 1 (.t 41)),
og 43 40 true (.fieldAddr 2 (.t 1)),
og 44 40 true (.load false 1 (.t 43)),
og 45 40 true (.mv (.t 5)),
og 46 40 true (.bin .sub 0 true (.t 45) (.c (.int .i64 1))),
og 47 40 true (.idxAddrSl 4 (.t 44) (.t 46)),
og 48 40 true (.fieldAddr 0 (.t 47)),
og 49 40 true (.load false 1 (.t 48)),
og 50 40 true (.bin .leq 0 false (.t 42) (.t 49)),
o 51 (.pick (.t 40) (.t 50) (.c (.bool false)))])
(.cond (.t 51)
(.seq (.ops [o 2 (.mv (.c (.bool false)))])
(.ret [2]))
.skip)))))
(.ops [o 52 (.bin .add 0 true (.t 30) (.c (.int .i64 1))),
m 30 52]))))
def K_snap_May : KF := ⟨1, 53, [(.tmp 2)],
(.seq (.ops [o 1 (.box (.t 0)),
o 2 (.mv (.c (.bool false)))])
(.seq (.seq (.ops [o 7 (.fieldAddr 0 (.t 1)),
o 8 (.load false 1 (.t 7)),
o 9 (.bin .lss 0 true (.t 8) (.c (.int .i64 1))),
m 10 9,
og 11 10 false (.fieldAddr 0 (.t 1)),
og 12 10 false (.load false 1 (.t 11)),
og 13 10 false (.bin .gtr 0 true (.t 12) (.c (.int .i64 1099511627776))),
o 14 (.pick (.t 10) (.c (.bool true)) (.t 13))])
(.cond (.t 14)
(.seq (.ops [o 2 (.mv (.c (.bool false)))])
(.ret [2]))
.skip))
(.seq (.seq (.ops [o 16 (.fieldAddr 1 (.t 1)),
o 17 (.load false 1 (.t 16)),
o 18 (.callF f_when_Show [(.t 17)]),
m 15 18,
o 19 (.extract (.t 15) 0),
o 20 (.extract (.t 15) 1),
m 3 19,
m 4 20])
(.seq (.ops [m 21 4,
o 22 (.bin .neq 0 true (.t 21) (.c (.int .i64 0)))])
(.cond (.t 22)
(.seq (.ops [o 2 (.mv (.c (.bool false)))])
(.ret [2]))
.skip)))
(.seq (.seq (.ops [o 23 (.fieldAddr 2 (.t 1)),
o 24 (.load false 1 (.t 23)),
o 25 (.len 1 (.t 24)),
o 26 (.bin .gtr 0 true (.t 25) (.c (.int .i64 256)))])
(.cond (.t 26)
(.seq (.ops [o 2 (.mv (.c (.bool false)))])
(.ret [2]))
.skip))
(.seq (.seq (.ops [o 27 (.fieldAddr 2 (.t 1)),
o 28 (.load false 1 (.t 27)),
o 29 (.len 1 (.t 28)),
o 30 (.mv (.c (.int .i64 0)))])
(.block 0
(.loop [1, 28, 29, 30] L_snap_May_0)))
(.seq (.ops [o 2 (.mv (.c (.bool true)))])
(.ret [2])))))))⟩
/-! legate/snap.parts -/
def K_snap_parts : KF := ⟨0, 6, [(.tmp 0)],
(.seq (.ops [o 0 (.mv (.c .nils))])
(.seq (.ops [o 1 (.build [.nilFunc] [(0, 1, (.c (.func (.func f_snap_parseType) [] [])))]),
o 2 (.build [.nilFunc] [(0, 1, (.c (.func (.func f_snap_parseVersion) [] [])))]),
o 3 (.build [.nilFunc] [(0, 1, (.c (.func (.func f_snap_parseExpires) [] [])))]),
o 4 (.build [.nilFunc] [(0, 1, (.c (.func (.func f_snap_parseMeta) [] [])))]),
o 5 (.buildSl [.nilFunc] 4 1 [(0, 1, (.t 1)), (1, 1, (.t 2)), (2, 1, (.t 3)), (3, 1, (.t 4))]),
m 0 5])
(.ret [0])))⟩
/-! legate/key.May -/
def K_key_May : KF := ⟨1, 27, [(.tmp 2)],
(.seq (.ops [o 1 (.box (.t 0)),
o 2 (.mv (.c (.bool false)))])
(.seq (.seq (.ops [o 4 (.fieldAddr 0 (.t 1)),
o 5 (.load false 1 (.t 4)),
o 6 (.callF f_name_Role [(.t 5)]),
o 7 (.un .not (.t 6))])
(.cond (.t 7)
(.seq (.ops [o 2 (.mv (.c (.bool false)))])
(.ret [2]))
.skip))
(.seq (.ops [o 8 (.fieldAddr 1 (.t 1)),
o 9 (.load false 1 (.t 8)),
o 10 (.len 0 (.t 9)),
m 3 10])
(.seq (.ops [m 11 3,
o 12 (.bin .gtr 0 true (.t 11) (.c (.int .i64 0))),
m 13 12,
og 14 13 true (.mv (.t 3)),
og 15 13 true (.bin .leq 0 true (.t 14) (.c (.int .i64 128))),
o 16 (.pick (.t 13) (.t 15) (.c (.bool false))),
m 17 16,
og 18 17 true (.mv (.t 3)),
og 19 17 true (.bin .rem 0 true (.t 18) (.c (.int .i64 2))),
og 20 17 true (.bin .eql 0 true (.t 19) (.c (.int .i64 0))),
o 21 (.pick (.t 17) (.t 20) (.c (.bool false))),
m 22 21,
og 23 22 true (.fieldAddr 1 (.t 1)),
og 24 22 true (.load false 1 (.t 23)),
og 25 22 true (.callF f_hex_Is [(.t 24)]),
o 26 (.pick (.t 22) (.t 25) (.c (.bool false))),
m 2 26])
(.ret [2])))))⟩
/-! legate/canon.Encode$1 -/
def K_canon_Encode_1 : KF := ⟨2, 12, [],
(.seq (.ops [m 6 0,
o 7 (.callF f_quote_Quote [(.t 6)]),
m 5 7,
o 8 (.extract (.t 5) 0),
o 9 (.extract (.t 5) 1),
m 3 8,
m 4 9])
(.ops [m 10 3,
o 11 (.callF f_strings_Builder_WriteString [(.t 1), (.t 10)])]))⟩
/-! (*strings.Builder).WriteString -/
def K_strings_Builder_WriteString : KF := ⟨2, 19, [(.tmp 4), (.tmp 5)],
(.seq (.ops [o 4 (.mv (.c (.int .i64 0))),
o 5 (.mv (.c .nilIface))])
(.seq (.ops [m 6 0,
o 7 (.callF f_strings_Builder_copyCheck [(.t 6)])])
(.seq (.ops [m 8 0,
m 9 0,
o 10 (.nilck (.t 9)),
o 11 (.fieldAddr 1 (.t 10)),
o 12 (.load false 1 (.t 11)),
m 13 1,
o 14 (.app true 1 1 (some (5, false)) (.t 12) (.t 13)),
o 15 (.nilck (.t 8)),
o 16 (.fieldAddr 1 (.t 15)),
u (.store 1 (.t 16) (.t 14))])
(.seq (.ops [m 17 1,
o 18 (.len 0 (.t 17)),
m 4 18,
o 5 (.mv (.c .nilIface))])
(.ret [4, 5])))))⟩
/-! legate/canon.Encode$2 -/
def L_canon_Encode_2_0 : KC :=
(.seq (.ops [o 37 (.bin .lss 0 false (.t 36) (.t 35))])
(.seq (.cond (.t 37)
.skip
(.exit [1] 1))
(.seq (.block 2
(.seq (.ops [m 38 36,
o 39 (.idxAddrSl 5 (.t 34) (.t 36)),
o 40 (.load true 5 (.t 39)),
o 6 (.new [(.int .u8 0), (.int .i64 0), (.str []), .nils, .nils] none),
m 5 38,
u (.store 5 (.t 6) (.t 40))])
(.seq (.seq (.ops [m 41 5,
o 42 (.bin .gtr 0 true (.t 41) (.c (.int .i64 0)))])
(.cond (.t 42)
(.ops [o 43 (.callF f_strings_Builder_WriteByte [(.t 1), (.c (.int .u8 44))])])
.skip))
(.ops [o 44 (.load false 1 (.t 3)),
o 45 (.load true 5 (.t 6)),
o 46 (.callV (.t 44) [(.t 45)])]))))
(.ops [o 47 (.bin .add 0 true (.t 36) (.c (.int .i64 1))),
m 36 47]))))
def L_canon_Encode_2_1 : KC :=
(.seq (.ops [o 56 (.bin .lss 0 false (.t 55) (.t 54))])
(.seq (.cond (.t 56)
.skip
(.exit [1] 3))
(.seq (.block 4
(.seq (.ops [m 57 55,
o 58 (.idxAddrSl 5 (.t 53) (.t 55)),
o 59 (.load true 5 (.t 58)),
o 8 (.new [(.int .u8 0), (.int .i64 0), (.str []), .nils, .nils] none),
m 7 57,
u (.store 5 (.t 8) (.t 59))])
(.seq (.seq (.ops [m 60 7,
o 61 (.bin .gtr 0 true (.t 60) (.c (.int .i64 0)))])
(.cond (.t 61)
(.ops [o 62 (.callF f_strings_Builder_WriteByte [(.t 1), (.c (.int .u8 44))])])
.skip))
(.seq (.plain [o 63 (.load false 1 (.t 2)),
o 64 (.fieldAddr 3 (.t 4)),
o 65 (.load false 1 (.t 64)),
m 66 7,
o 67 (.idxAddrSl 1 (.t 65) (.t 66)),
o 68 (.load false 1 (.t 67)),
o 69 (.callV (.t 63) [(.t 68)])])
(.seq (.ops [o 70 (.callF f_strings_Builder_WriteByte [(.t 1), (.c (.int .u8 58))])])
(.ops [o 71 (.load false 1 (.t 3)),
o 72 (.load true 5 (.t 8)),
o 73 (.callV (.t 71) [(.t 72)])]))))))
(.ops [o 74 (.bin .add 0 true (.t 55) (.c (.int .i64 1))),
m 55 74]))))
def K_canon_Encode_2 : KF := ⟨4, 76, [],
(.seq (.ops [o 4 (.box (.t 0))])
(.seq (.ops [o 9 (.fieldAddr 0 (.t 4)),
o 10 (.load false 1 (.t 9))])
(.block 0
(.seq (.ops [o 12 (.bin .eql 0 true (.t 10) (.c (.int .u8 1))),
m 11 12])
(.cond (.t 11)
(.seq (.ops [o 13 (.fieldAddr 1 (.t 4)),
o 14 (.load false 1 (.t 13)),
o 15 (.bin .eql 0 true (.t 14) (.c (.int .i64 1)))])
(.cond (.t 15)
(.ops [o 16 (.callF f_strings_Builder_WriteString [(.t 1), (.c (.str [116, 114, 117, 101]))])])
(.ops [o 17 (.callF f_strings_Builder_WriteString [(.t 1), (.c (.str [102, 97, 108, 115, 101]))])])))
(.seq (.ops [o 19 (.bin .eql 0 true (.t 10) (.c (.int .u8 2))),
m 18 19])
(.cond (.t 18)
(.ops [o 20 (.fieldAddr 1 (.t 4)),
o 21 (.load false 1 (.t 20)),
o 22 (.callF f_num_Show [(.t 21)]),
o 23 (.callF f_strings_Builder_WriteString [(.t 1), (.t 22)])])
(.seq (.ops [o 25 (.bin .eql 0 true (.t 10) (.c (.int .u8 3))),
m 24 25])
(.cond (.t 24)
(.ops [o 26 (.load false 1 (.t 2)),
o 27 (.fieldAddr 2 (.t 4)),
o 28 (.load false 1 (.t 27)),
o 29 (.callV (.t 26) [(.t 28)])])
(.seq (.ops [o 31 (.bin .eql 0 true (.t 10) (.c (.int .u8 4))),
m 30 31])
(.cond (.t 30)
(.seq (.ops [o 32 (.callF f_strings_Builder_WriteByte [(.t 1), (.c (.int .u8 91))])])
(.seq (.seq (.ops [o 33 (.fieldAddr 4 (.t 4)),
o 34 (.load false 1 (.t 33)),
o 35 (.len 1 (.t 34)),
o 36 (.mv (.c (.int .i64 0)))])
(.block 1
(.loop [1, 3, 34, 35, 36] L_canon_Encode_2_0)))
(.ops [o 48 (.callF f_strings_Builder_WriteByte [(.t 1), (.c (.int .u8 93))])])))
(.seq (.ops [o 50 (.bin .eql 0 true (.t 10) (.c (.int .u8 5))),
m 49 50])
(.cond (.t 49)
(.seq (.ops [o 51 (.callF f_strings_Builder_WriteByte [(.t 1), (.c (.int .u8 123))])])
(.seq (.seq (.ops [o 52 (.fieldAddr 4 (.t 4)),
o 53 (.load false 1 (.t 52)),
o 54 (.len 1 (.t 53)),
o 55 (.mv (.c (.int .i64 0)))])
(.block 3
(.loop [1, 2, 3, 4, 53, 54, 55] L_canon_Encode_2_1)))
(.ops [o 75 (.callF f_strings_Builder_WriteByte [(.t 1), (.c (.int .u8 125))])])))
.skip)))))))))))))⟩
/-! legate/num.Show -/
def K_num_Show : KF := ⟨1, 5, [(.tmp 2)],
(.seq (.ops [o 2 (.mv (.c (.str [])))])
(.seq (.ops [m 3 0,
o 4 (.callF f_strconv_FormatInt [(.t 3), (.c (.int .i64 10))]),
m 2 4])
(.ret [2])))⟩
/-! (*strings.Builder).WriteByte -/
def K_strings_Builder_WriteByte : KF := ⟨2, 17, [(.tmp 4)],
(.seq (.ops [o 4 (.mv (.c .nilIface))])
(.seq (.ops [m 5 0,
o 6 (.callF f_strings_Builder_copyCheck [(.t 5)])])
(.seq (.ops [m 7 0,
m 8 0,
o 9 (.nilck (.t 8)),
o 10 (.fieldAddr 1 (.t 9)),
o 11 (.load false 1 (.t 10)),
m 12 1,
o 13 (.buildSl [(.int .u8 0)] 1 1 [(0, 1, (.t 12))]),
o 14 (.app false 1 1 (some (5, false)) (.t 11) (.t 13)),
o 15 (.nilck (.t 7)),
o 16 (.fieldAddr 1 (.t 15)),
u (.store 1 (.t 16) (.t 14))])
(.seq (.ops [o 4 (.mv (.c .nilIface))])
(.ret [4])))))⟩
/-! (*strings.Builder).String -/
def K_strings_Builder_String : KF := ⟨1, 14, [(.tmp 2)],
(.seq (.ops [o 2 (.mv (.c (.str [])))])
(.seq (.plain [m 3 0,
o 4 (.nilck (.t 3)),
o 5 (.fieldAddr 1 (.t 4)),
o 6 (.load false 1 (.t 5)),
o 7 .fail,
m 8 0,
o 9 (.nilck (.t 8)),
o 10 (.fieldAddr 1 (.t 9)),
o 11 (.load false 1 (.t 10)),
o 12 (.len 1 (.t 11)),
o 13 .fail,
m 2 13])
(.ret [2])))⟩
/-! legate/sign.maySig -/
def K_sign_maySig : KF := ⟨1, 33, [(.tmp 2)],
(.seq (.ops [o 1 (.box (.t 0)),
o 2 (.mv (.c (.bool false)))])
(.seq (.seq (.ops [o 4 (.fieldAddr 0 (.t 1)),
o 5 (.load false 1 (.t 4)),
o 6 (.len 0 (.t 5)),
o 7 (.bin .neq 0 true (.t 6) (.c (.int .i64 64))),
m 8 7,
og 9 8 false (.fieldAddr 0 (.t 1)),
og 10 8 false (.load false 1 (.t 9)),
og 11 8 false (.callF f_hex_Is [(.t 10)]),
og 12 8 false (.un .not (.t 11)),
o 13 (.pick (.t 8) (.c (.bool true)) (.t 12))])
(.cond (.t 13)
(.seq (.ops [o 2 (.mv (.c (.bool false)))])
(.ret [2]))
.skip))
(.seq (.ops [o 14 (.fieldAddr 1 (.t 1)),
o 15 (.load false 1 (.t 14)),
o 16 (.len 0 (.t 15)),
m 3 16])
(.seq (.ops [m 17 3,
o 18 (.bin .gtr 0 true (.t 17) (.c (.int .i64 0))),
m 19 18,
og 20 19 true (.mv (.t 3)),
og 21 19 true (.bin .leq 0 true (.t 20) (.c (.int .i64 128))),
o 22 (.pick (.t 19) (.t 21) (.c (.bool false))),
m 23 22,
og 24 23 true (.mv (.t 3)),
og 25 23 true (.bin .rem 0 true (.t 24) (.c (.int .i64 2))),
og 26 23 true (.bin .eql 0 true (.t 25) (.c (.int .i64 0))),
o 27 (.pick (.t 23) (.t 26) (.c (.bool false))),
m 28 27,
og 29 28 true (.fieldAddr 1 (.t 1)),
og 30 28 true (.load false 1 (.t 29)),
og 31 28 true (.callF f_hex_Is [(.t 30)]),
o 32 (.pick (.t 28) (.t 31) (.c (.bool false))),
m 2 32])
(.ret [2])))))⟩
/-! legate/targ.listMay -/
def L_targ_listMay_0 : KC :=
(.seq (.ops [o 11 (.bin .lss 0 false (.t 10) (.t 9))])
(.seq (.cond (.t 11)
.skip
(.exit [] 0))
(.seq (.block 1
(.seq (.ops [m 12 10,
o 13 (.idxAddrSl 8 (.t 8) (.t 10)),
o 14 (.load true 8 (.t 13)),
o 4 (.new [(.str []), (.int .i64 0), .nils, (.int .u8 0), (.int .i64 0), (.str []), .nils, .nils] none),
m 3 12,
u (.store 8 (.t 4) (.t 14))])
(.seq (.seq (.ops [o 15 (.fieldAddr 0 (.t 4)),
o 16 (.load false 1 (.t 15)),
o 17 (.callF f_name_Path [(.t 16)]),
o 18 (.un .not (.t 17)),
m 19 18,
og 20 19 false (.fieldAddr 1 (.t 4)),
og 21 19 false (.load true 7 (.t 20)),
og 22 19 false (.callF f_record_May [(.t 21)]),
og 23 19 false (.un .not (.t 22)),
o 24 (.pick (.t 19) (.c (.bool true)) (.t 23))])
(.cond (.t 24)
(.seq (.ops [o 2 (.mv (.c (.bool false)))])
(.ret [2]))
.skip))
(.seq (.plain [m 25 3,
o 26 (.bin .gtr 0 true (.t 25) (.c (.int .i64 0))),
m 27 26,
og 28 27 true (.fieldAddr 0 (.t 4)),
og 29 27 true (.load false 1 (.t 28)),
og 30 27 true (.mv (.t 0)),
og 31 27 true (.mv (.t 3)),
og 32 27 true (.bin .sub 0 true (.t 31) (.c (.int .i64 1))),
og 33 27 true (.idxAddrSl 8 (.t 30) (.t 32)),
og 34 27 true (.fieldAddr 0 (.t 33)),
og 35 27 true (.load false 1 (.t 34)),
og 36 27 true (.bin .leq 0 false (.t 29) (.t 35)),
o 37 (.pick (.t 27) (.t 36) (.c (.bool false)))])
(.cond (.t 37)
(.seq (.ops [o 2 (.mv (.c (.bool false)))])
(.ret [2]))
.skip)))))
(.ops [o 38 (.bin .add 0 true (.t 10) (.c (.int .i64 1))),
m 10 38]))))
def K_targ_listMay : KF := ⟨1, 39, [(.tmp 2)],
(.seq (.ops [o 2 (.mv (.c (.bool false)))])
(.seq (.seq (.ops [m 5 0,
o 6 (.len 1 (.t 5)),
o 7 (.bin .gtr 0 true (.t 6) (.c (.int .i64 256)))])
(.cond (.t 7)
(.seq (.ops [o 2 (.mv (.c (.bool false)))])
(.ret [2]))
.skip))
(.seq (.seq (.ops [m 8 0,
o 9 (.len 1 (.t 8)),
o 10 (.mv (.c (.int .i64 0)))])
(.block 0
(.loop [0, 8, 9, 10] L_targ_listMay_0)))
(.seq (.ops [o 2 (.mv (.c (.bool true)))])
(.ret [2])))))⟩
/-! legate/deleg.May -/
def K_deleg_May : KF := ⟨1, 27, [(.tmp 2)],
(.seq (.ops [o 1 (.box (.t 0)),
o 2 (.mv (.c (.bool false)))])
(.seq (.seq (.ops [o 3 (.fieldAddr 0 (.t 1)),
o 4 (.load false 1 (.t 3)),
o 5 (.callF f_deleg_keysMay [(.t 4)]),
o 6 (.un .not (.t 5))])
(.cond (.t 6)
(.seq (.ops [o 2 (.mv (.c (.bool false)))])
(.ret [2]))
.skip))
(.seq (.seq (.ops [o 7 (.fieldAddr 2 (.t 1)),
o 8 (.load true 4 (.t 7)),
o 9 (.callF f_deleg_noBins [(.t 8)])])
(.cond (.t 9)
(.seq (.ops [o 10 (.fieldAddr 1 (.t 1)),
o 11 (.load false 1 (.t 10)),
o 12 (.callF f_deleg_rolesMay [(.t 11)]),
o 13 (.un .not (.t 12))])
(.cond (.t 13)
(.seq (.ops [o 2 (.mv (.c (.bool false)))])
(.ret [2]))
.skip))
(.seq (.ops [o 14 (.fieldAddr 1 (.t 1)),
o 15 (.load false 1 (.t 14)),
o 16 (.len 1 (.t 15)),
o 17 (.bin .gtr 0 true (.t 16) (.c (.int .i64 0))),
m 18 17,
og 19 18 false (.fieldAddr 2 (.t 1)),
og 20 18 false (.load true 4 (.t 19)),
og 21 18 false (.callF f_deleg_binsMay [(.t 20)]),
og 22 18 false (.un .not (.t 21)),
o 23 (.pick (.t 18) (.c (.bool true)) (.t 22))])
(.cond (.t 23)
(.seq (.ops [o 2 (.mv (.c (.bool false)))])
(.ret [2]))
.skip))))
(.seq (.ops [o 24 (.load true 6 (.t 1)),
o 25 (.callF f_deleg_object [(.t 24)]),
o 26 (.callF f_value_May [(.t 25)]),
m 2 26])
(.ret [2])))))⟩
/-! legate/targ.empty -/
def K_targ_empty : KF := ⟨1, 19, [(.tmp 2)],
(.seq (.ops [o 1 (.box (.t 0)),
o 2 (.mv (.c (.bool false)))])
(.seq (.ops [o 3 (.fieldAddr 0 (.t 1)),
o 4 (.load false 1 (.t 3)),
o 5 (.len 1 (.t 4)),
o 6 (.bin .eql 0 true (.t 5) (.c (.int .i64 0))),
m 7 6,
og 8 7 true (.fieldAddr 1 (.t 1)),
og 9 7 true (.load false 1 (.t 8)),
og 10 7 true (.len 1 (.t 9)),
og 11 7 true (.bin .eql 0 true (.t 10) (.c (.int .i64 0))),
o 12 (.pick (.t 7) (.t 11) (.c (.bool false))),
m 13 12,
og 14 13 true (.fieldAddr 2 (.t 1)),
og 15 13 true (.fieldAddr 2 (.t 14)),
og 16 13 true (.load false 1 (.t 15)),
og 17 13 true (.bin .eql 0 true (.t 16) (.c (.int .i64 0))),
o 18 (.pick (.t 13) (.t 17) (.c (.bool false))),
m 2 18])
(.ret [2])))⟩
/-! legate/value.may -/
def L_value_may_0 : KC :=
(.seq (.ops [o 37 (.bin .lss 0 false (.t 36) (.t 35))])
(.seq (.cond (.t 37)
.skip
(.exit [] 0))
(.seq (.block 1
(.seq (.ops [o 38 (.idxAddrSl 5 (.t 34) (.t 36)),
o 39 (.load true 5 (.t 38)),
o 8 (.new [(.int .u8 0), (.int .i64 0), (.str []), .nils, .nils] none),
u (.store 5 (.t 8) (.t 39))])
(.seq (.ops [o 40 (.load true 5 (.t 8)),
m 41 1,
o 42 (.bin .sub 0 true (.t 41) (.c (.int .i64 1))),
m 43 2,
o 44 (.callF f_value_may [(.t 40), (.t 42), (.t 43)]),
o 45 (.un .not (.t 44))])
(.cond (.t 45)
(.seq (.ops [o 6 (.mv (.c (.bool false)))])
(.ret [6]))
.skip))))
(.ops [o 46 (.bin .add 0 true (.t 36) (.c (.int .i64 1))),
m 36 46]))))
def K_value_may : KF := ⟨3, 47, [(.tmp 6)],
(.seq (.ops [o 3 (.box (.t 0)),
o 6 (.mv (.c (.bool false)))])
(.seq (.ops [m 9 2,
o 10 (.nilck (.t 9)),
o 11 (.load false 1 (.t 10)),
o 12 (.bin .sub 0 true (.t 11) (.c (.int .i64 1))),
o 13 (.nilck (.t 9)),
u (.store 1 (.t 13) (.t 12))])
(.seq (.seq (.ops [m 14 2,
o 15 (.nilck (.t 14)),
o 16 (.load false 1 (.t 15)),
o 17 (.bin .lss 0 true (.t 16) (.c (.int .i64 0))),
m 18 17,
og 19 18 false (.load true 5 (.t 3)),
og 20 18 false (.callF f_value_proper [(.t 19)]),
og 21 18 false (.un .not (.t 20)),
o 22 (.pick (.t 18) (.c (.bool true)) (.t 21))])
(.cond (.t 22)
(.seq (.ops [o 6 (.mv (.c (.bool false)))])
(.ret [6]))
.skip))
(.seq (.seq (.ops [o 23 (.fieldAddr 0 (.t 3)),
o 24 (.load false 1 (.t 23)),
o 25 (.bin .neq 0 true (.t 24) (.c (.int .u8 4))),
m 26 25,
og 27 26 true (.fieldAddr 0 (.t 3)),
og 28 26 true (.load false 1 (.t 27)),
og 29 26 true (.bin .neq 0 true (.t 28) (.c (.int .u8 5))),
o 30 (.pick (.t 26) (.t 29) (.c (.bool false)))])
(.cond (.t 30)
(.seq (.ops [o 6 (.mv (.c (.bool true)))])
(.ret [6]))
.skip))
(.seq (.seq (.ops [m 31 1,
o 32 (.bin .eql 0 true (.t 31) (.c (.int .i64 0)))])
(.cond (.t 32)
(.seq (.ops [o 6 (.mv (.c (.bool false)))])
(.ret [6]))
.skip))
(.seq (.seq (.ops [o 33 (.fieldAddr 4 (.t 3)),
o 34 (.load false 1 (.t 33)),
o 35 (.len 1 (.t 34)),
o 36 (.mv (.c (.int .i64 0)))])
(.block 0
(.loop [1, 2, 34, 35, 36] L_value_may_0)))
(.seq (.ops [o 6 (.mv (.c (.bool true)))])
(.ret [6]))))))))⟩
/-! legate/pick.take[string] -/
def K_pick_take_string : KF := ⟨3, 50, [(.tmp 6)],
(.seq (.ops [o 6 (.mv (.c (.str [])))])
(.seq (.ops [o 7 (.mv (.c (.str [])))])
(.seq (.seq (.ops [m 12 0,
o 13 (.callF f_pick_Obj_Err [(.t 12)]),
o 14 (.bin .neq 0 true (.t 13) (.c (.int .i64 0)))])
(.cond (.t 14)
(.seq (.ops [m 15 7,
m 6 15])
(.ret [6]))
.skip))
(.seq (.ops [m 17 0,
o 18 (.nilck (.t 17)),
o 19 (.fieldAddr 0 (.t 18)),
o 20 (.load true 5 (.t 19)),
m 21 1,
o 22 (.callF f_value_Get [(.t 20), (.t 21)]),
m 16 22,
o 23 (.extract (.t 16) 0),
o 24 (.extract (.t 16) 1),
o 8 (.new [(.int .u8 0), (.int .i64 0), (.str []), .nils, .nils] none),
u (.store 5 (.t 8) (.t 23)),
m 9 24])
(.seq (.seq (.ops [m 25 9,
o 26 (.un .not (.t 25))])
(.cond (.t 26)
(.seq (.ops [m 27 0,
o 28 (.callF f_pick_Obj_Fail [(.t 27), (.c (.int .i64 6))])])
(.seq (.ops [m 29 7,
m 6 29])
(.ret [6])))
.skip))
(.seq (.ops [m 31 2,
o 32 (.load true 5 (.t 8)),
o 33 (.callV (.t 31) [(.t 32)]),
m 30 33,
o 34 (.extract (.t 30) 0),
o 35 (.extract (.t 30) 1),
m 10 34,
m 11 35])
(.seq (.seq (.ops [m 36 11,
o 37 (.bin .neq 0 true (.t 36) (.c (.int .i64 0)))])
(.cond (.t 37)
(.seq (.ops [m 38 0,
m 39 11,
o 40 (.callF f_pick_Obj_Fail [(.t 38), (.t 39)])])
(.seq (.ops [m 41 7,
m 6 41])
(.ret [6])))
.skip))
(.seq (.ops [m 42 0,
o 43 (.nilck (.t 42)),
o 44 (.fieldAddr 5 (.t 43)),
o 45 (.load false 1 (.t 44)),
m 46 1,
o 47 (.lookup (.int .i64 0) (.t 45) (.t 46) false),
o 48 (.bin .add 0 true (.t 47) (.c (.int .i64 1))),
u (.mapUpd (.t 45) (.t 46) (.t 48))])
(.seq (.ops [m 49 10,
m 6 49])
(.ret [6]))))))))))⟩
/-! (*legate/pick.Obj).Text$1 -/
def K_pick_Obj_Text_1 : KF := ⟨1, 9, [(.tmp 2), (.tmp 3)],
(.seq (.ops [o 1 (.box (.t 0)),
o 2 (.mv (.c (.str []))),
o 3 (.mv (.c (.int .i64 0)))])
(.seq (.seq (.ops [o 4 (.fieldAddr 0 (.t 1)),
o 5 (.load false 1 (.t 4)),
o 6 (.bin .neq 0 true (.t 5) (.c (.int .u8 3)))])
(.cond (.t 6)
(.seq (.ops [o 2 (.mv (.c (.str []))),
o 3 (.mv (.c (.int .i64 10)))])
(.ret [2, 3]))
.skip))
(.seq (.ops [o 7 (.fieldAddr 2 (.t 1)),
o 8 (.load false 1 (.t 7)),
m 2 8,
o 3 (.mv (.c (.int .i64 0)))])
(.ret [2, 3]))))⟩
/-! (*legate/pick.Obj).Err -/
def K_pick_Obj_Err : KF := ⟨1, 22, [(.tmp 2)],
(.seq (.ops [o 2 (.mv (.c (.int .i64 0)))])
(.seq (.seq (.ops [m 3 0,
o 4 (.bin .eql 3 true (.t 3) (.c .nilp))])
(.cond (.t 4)
(.seq (.ops [o 2 (.mv (.c (.int .i64 2)))])
(.ret [2]))
.skip))
(.seq (.seq (.ops [m 5 0,
o 6 (.nilck (.t 5)),
o 7 (.fieldAddr 6 (.t 6)),
o 8 (.load false 1 (.t 7)),
o 9 (.bin .eql 0 true (.t 8) (.c (.int .i64 0))),
m 10 9,
og 11 10 true (.mv (.t 0)),
og 12 10 true (.nilck (.t 11)),
og 13 10 true (.fieldAddr 0 (.t 12)),
og 14 10 true (.fieldAddr 0 (.t 13)),
og 15 10 true (.load false 1 (.t 14)),
og 16 10 true (.bin .neq 0 true (.t 15) (.c (.int .u8 5))),
o 17 (.pick (.t 10) (.t 16) (.c (.bool false)))])
(.cond (.t 17)
(.seq (.ops [o 2 (.mv (.c (.int .i64 10)))])
(.ret [2]))
.skip))
(.seq (.ops [m 18 0,
o 19 (.nilck (.t 18)),
o 20 (.fieldAddr 6 (.t 19)),
o 21 (.load false 1 (.t 20)),
m 2 21])
(.ret [2])))))⟩
/-! legate/pick.take[int64] -/
def K_pick_take_int64 : KF := ⟨3, 50, [(.tmp 6)],
(.seq (.ops [o 6 (.mv (.c (.int .i64 0)))])
(.seq (.ops [o 7 (.mv (.c (.int .i64 0)))])
(.seq (.seq (.ops [m 12 0,
o 13 (.callF f_pick_Obj_Err [(.t 12)]),
o 14 (.bin .neq 0 true (.t 13) (.c (.int .i64 0)))])
(.cond (.t 14)
(.seq (.ops [m 15 7,
m 6 15])
(.ret [6]))
.skip))
(.seq (.ops [m 17 0,
o 18 (.nilck (.t 17)),
o 19 (.fieldAddr 0 (.t 18)),
o 20 (.load true 5 (.t 19)),
m 21 1,
o 22 (.callF f_value_Get [(.t 20), (.t 21)]),
m 16 22,
o 23 (.extract (.t 16) 0),
o 24 (.extract (.t 16) 1),
o 8 (.new [(.int .u8 0), (.int .i64 0), (.str []), .nils, .nils] none),
u (.store 5 (.t 8) (.t 23)),
m 9 24])
(.seq (.seq (.ops [m 25 9,
o 26 (.un .not (.t 25))])
(.cond (.t 26)
(.seq (.ops [m 27 0,
o 28 (.callF f_pick_Obj_Fail [(.t 27), (.c (.int .i64 6))])])
(.seq (.ops [m 29 7,
m 6 29])
(.ret [6])))
.skip))
(.seq (.ops [m 31 2,
o 32 (.load true 5 (.t 8)),
o 33 (.callV (.t 31) [(.t 32)]),
m 30 33,
o 34 (.extract (.t 30) 0),
o 35 (.extract (.t 30) 1),
m 10 34,
m 11 35])
(.seq (.seq (.ops [m 36 11,
o 37 (.bin .neq 0 true (.t 36) (.c (.int .i64 0)))])
(.cond (.t 37)
(.seq (.ops [m 38 0,
m 39 11,
o 40 (.callF f_pick_Obj_Fail [(.t 38), (.t 39)])])
(.seq (.ops [m 41 7,
m 6 41])
(.ret [6])))
.skip))
(.seq (.ops [m 42 0,
o 43 (.nilck (.t 42)),
o 44 (.fieldAddr 5 (.t 43)),
o 45 (.load false 1 (.t 44)),
m 46 1,
o 47 (.lookup (.int .i64 0) (.t 45) (.t 46) false),
o 48 (.bin .add 0 true (.t 47) (.c (.int .i64 1))),
u (.mapUpd (.t 45) (.t 46) (.t 48))])
(.seq (.ops [m 49 10,
m 6 49])
(.ret [6]))))))))))⟩
/-! (*legate/pick.Obj).Num$1 -/
def K_pick_Obj_Num_1 : KF := ⟨3, 21, [(.tmp 4), (.tmp 5)],
(.seq (.ops [o 3 (.box (.t 0)),
o 4 (.mv (.c (.int .i64 0))),
o 5 (.mv (.c (.int .i64 0)))])
(.seq (.seq (.ops [o 6 (.fieldAddr 0 (.t 3)),
o 7 (.load false 1 (.t 6)),
o 8 (.bin .neq 0 true (.t 7) (.c (.int .u8 2)))])
(.cond (.t 8)
(.seq (.ops [o 4 (.mv (.c (.int .i64 0))),
o 5 (.mv (.c (.int .i64 10)))])
(.ret [4, 5]))
.skip))
(.seq (.seq (.ops [o 9 (.fieldAddr 1 (.t 3)),
o 10 (.load false 1 (.t 9)),
o 11 (.load false 1 (.t 1)),
o 12 (.bin .lss 0 false (.t 10) (.t 11)),
m 13 12,
og 14 13 false (.fieldAddr 1 (.t 3)),
og 15 13 false (.load false 1 (.t 14)),
og 16 13 false (.load false 1 (.t 2)),
og 17 13 false (.bin .gtr 0 false (.t 15) (.t 16)),
o 18 (.pick (.t 13) (.c (.bool true)) (.t 17))])
(.cond (.t 18)
(.seq (.ops [o 4 (.mv (.c (.int .i64 0))),
o 5 (.mv (.c (.int .i64 1)))])
(.ret [4, 5]))
.skip))
(.seq (.ops [o 19 (.fieldAddr 1 (.t 3)),
o 20 (.load false 1 (.t 19)),
m 4 20,
o 5 (.mv (.c (.int .i64 0)))])
(.ret [4, 5])))))⟩
/-! legate/when.digits -/
def L_when_digits_0 : KC :=
(.seq (.ops [o 8 (.bin .lss 0 false (.t 7) (.t 6))])
(.seq (.cond (.t 8)
.skip
(.exit [3] 0))
(.seq (.block 1
(.seq (.ops [m 9 7,
m 4 9])
(.seq (.seq (.ops [m 10 0,
m 11 4,
o 12 (.idxStr (.t 10) (.t 11)),
o 13 (.bin .lss 0 true (.t 12) (.c (.int .u8 48))),
m 14 13,
og 15 14 false (.mv (.t 0)),
og 16 14 false (.mv (.t 4)),
og 17 14 false (.idxStr (.t 15) (.t 16)),
og 18 14 false (.bin .gtr 0 true (.t 17) (.c (.int .u8 57))),
o 19 (.pick (.t 14) (.c (.bool true)) (.t 18))])
(.cond (.t 19)
(.seq (.ops [o 2 (.mv (.c (.int .i64 (-1))))])
(.ret [2]))
.skip))
(.ops [m 20 3,
o 21 (.bin .mul 0 true (.c (.int .i64 10)) (.t 20)),
m 22 0,
m 23 4,
o 24 (.idxStr (.t 22) (.t 23)),
o 25 (.bin .sub 0 true (.t 24) (.c (.int .u8 48))),
o 26 (.i2i .i64 (.t 25)),
o 27 (.bin .add 0 false (.t 21) (.t 26)),
m 3 27]))))
(.ops [o 28 (.bin .add 0 true (.t 7) (.c (.int .i64 1))),
m 7 28]))))
def K_when_digits : KF := ⟨1, 30, [(.tmp 2)],
(.seq (.ops [o 2 (.mv (.c (.int .i64 0)))])
(.seq (.ops [o 3 (.mv (.c (.int .i64 0)))])
(.seq (.seq (.ops [m 5 0,
o 6 (.len 0 (.t 5)),
o 7 (.mv (.c (.int .i64 0)))])
(.block 0
(.loop [0, 3, 6, 7] L_when_digits_0)))
(.seq (.ops [m 29 3,
m 2 29])
(.ret [2])))))⟩
/-! legate/when.upTo -/
def K_when_upTo : KF := ⟨2, 12, [(.tmp 4)],
(.seq (.ops [o 4 (.mv (.c (.bool false)))])
(.seq (.ops [m 5 0,
o 6 (.bin .geq 0 true (.t 5) (.c (.int .i64 0))),
m 7 6,
og 8 7 true (.mv (.t 0)),
og 9 7 true (.mv (.t 1)),
og 10 7 true (.bin .leq 0 false (.t 8) (.t 9)),
o 11 (.pick (.t 7) (.t 10) (.c (.bool false))),
m 4 11])
(.ret [4])))⟩
/-! legate/pick.take[legate/api.Value] -/
def K_pick_take_api_Value : KF := ⟨3, 50, [(.cell 6 true 5)],
(.seq (.ops [o 6 (.new [(.int .u8 0), (.int .i64 0), (.str []), .nils, .nils] none)])
(.seq (.ops [o 7 (.new [(.int .u8 0), (.int .i64 0), (.str []), .nils, .nils] none)])
(.seq (.seq (.ops [m 12 0,
o 13 (.callF f_pick_Obj_Err [(.t 12)]),
o 14 (.bin .neq 0 true (.t 13) (.c (.int .i64 0)))])
(.cond (.t 14)
(.seq (.ops [o 15 (.load true 5 (.t 7)),
u (.store 5 (.t 6) (.t 15))])
(.ret [6]))
.skip))
(.seq (.ops [m 17 0,
o 18 (.nilck (.t 17)),
o 19 (.fieldAddr 0 (.t 18)),
o 20 (.load true 5 (.t 19)),
m 21 1,
o 22 (.callF f_value_Get [(.t 20), (.t 21)]),
m 16 22,
o 23 (.extract (.t 16) 0),
o 24 (.extract (.t 16) 1),
o 8 (.new [(.int .u8 0), (.int .i64 0), (.str []), .nils, .nils] none),
u (.store 5 (.t 8) (.t 23)),
m 9 24])
(.seq (.seq (.ops [m 25 9,
o 26 (.un .not (.t 25))])
(.cond (.t 26)
(.seq (.ops [m 27 0,
o 28 (.callF f_pick_Obj_Fail [(.t 27), (.c (.int .i64 6))])])
(.seq (.ops [o 29 (.load true 5 (.t 7)),
u (.store 5 (.t 6) (.t 29))])
(.ret [6])))
.skip))
(.seq (.ops [m 31 2,
o 32 (.load true 5 (.t 8)),
o 33 (.callV (.t 31) [(.t 32)]),
m 30 33,
o 34 (.extract (.t 30) 0),
o 35 (.extract (.t 30) 1),
o 10 (.new [(.int .u8 0), (.int .i64 0), (.str []), .nils, .nils] none),
u (.store 5 (.t 10) (.t 34)),
m 11 35])
(.seq (.seq (.ops [m 36 11,
o 37 (.bin .neq 0 true (.t 36) (.c (.int .i64 0)))])
(.cond (.t 37)
(.seq (.ops [m 38 0,
m 39 11,
o 40 (.callF f_pick_Obj_Fail [(.t 38), (.t 39)])])
(.seq (.ops [o 41 (.load true 5 (.t 7)),
u (.store 5 (.t 6) (.t 41))])
(.ret [6])))
.skip))
(.seq (.ops [m 42 0,
o 43 (.nilck (.t 42)),
o 44 (.fieldAddr 5 (.t 43)),
o 45 (.load false 1 (.t 44)),
m 46 1,
o 47 (.lookup (.int .i64 0) (.t 45) (.t 46) false),
o 48 (.bin .add 0 true (.t 47) (.c (.int .i64 1))),
u (.mapUpd (.t 45) (.t 46) (.t 48))])
(.seq (.ops [o 49 (.load true 5 (.t 10)),
u (.store 5 (.t 6) (.t 49))])
(.ret [6]))))))))))⟩
/-! (*legate/pick.Obj).Object$1 -/
def K_pick_Obj_Object_1 : KF := ⟨2, 16, [(.cell 3 true 5), (.tmp 4)],
(.seq (.ops [o 2 (.box (.t 0)),
o 3 (.new [(.int .u8 0), (.int .i64 0), (.str []), .nils, .nils] none),
o 4 (.mv (.c (.int .i64 0)))])
(.seq (.seq (.ops [o 5 (.fieldAddr 0 (.t 2)),
o 6 (.load false 1 (.t 5)),
o 7 (.bin .neq 0 true (.t 6) (.c (.int .u8 5)))])
(.cond (.t 7)
(.seq (.ops [o 8 (.build [(.int .u8 0), (.int .i64 0), (.str []), .nils, .nils] []),
u (.store 5 (.t 3) (.t 8)),
o 4 (.mv (.c (.int .i64 10)))])
(.ret [3, 4]))
.skip))
(.seq (.seq (.ops [o 9 (.fieldAddr 4 (.t 2)),
o 10 (.load false 1 (.t 9)),
o 11 (.len 1 (.t 10)),
o 12 (.load false 1 (.t 1)),
o 13 (.bin .gtr 0 false (.t 11) (.t 12))])
(.cond (.t 13)
(.seq (.ops [o 14 (.build [(.int .u8 0), (.int .i64 0), (.str []), .nils, .nils] []),
u (.store 5 (.t 3) (.t 14)),
o 4 (.mv (.c (.int .i64 5)))])
(.ret [3, 4]))
.skip))
(.seq (.ops [o 15 (.load true 5 (.t 2)),
u (.store 5 (.t 3) (.t 15)),
o 4 (.mv (.c (.int .i64 0)))])
(.ret [3, 4])))))⟩
/-! legate/value.Get -/
def K_value_Get : KF := ⟨2, 35, [(.cell 4 true 5), (.tmp 5)],
(.seq (.ops [o 2 (.box (.t 0)),
o 4 (.new [(.int .u8 0), (.int .i64 0), (.str []), .nils, .nils] none),
o 5 (.mv (.c (.bool false)))])
(.seq (.seq (.ops [o 8 (.fieldAddr 0 (.t 2)),
o 9 (.load false 1 (.t 8)),
o 10 (.bin .neq 0 true (.t 9) (.c (.int .u8 5)))])
(.cond (.t 10)
(.seq (.ops [o 11 (.build [(.int .u8 0), (.int .i64 0), (.str []), .nils, .nils] []),
u (.store 5 (.t 4) (.t 11)),
o 5 (.mv (.c (.bool false)))])
(.ret [4, 5]))
.skip))
(.seq (.ops [o 13 (.fieldAddr 3 (.t 2)),
o 14 (.load false 1 (.t 13)),
m 15 1,
o 16 (.callF f_value_find [(.t 14), (.t 15)]),
m 12 16,
o 17 (.extract (.t 12) 0),
o 18 (.extract (.t 12) 1),
m 6 17,
m 7 18])
(.seq (.seq (.ops [m 19 7,
o 20 (.un .not (.t 19)),
m 21 20,
og 22 21 false (.mv (.t 6)),
og 23 21 false (.fieldAddr 4 (.t 2)),
og 24 21 false (.load false 1 (.t 23)),
og 25 21 false (.len 1 (.t 24)),
og 26 21 false (.bin .geq 0 false (.t 22) (.t 25)),
o 27 (.pick (.t 21) (.c (.bool true)) (.t 26))])
(.cond (.t 27)
(.seq (.ops [o 28 (.build [(.int .u8 0), (.int .i64 0), (.str []), .nils, .nils] []),
u (.store 5 (.t 4) (.t 28)),
o 5 (.mv (.c (.bool false)))])
(.ret [4, 5]))
.skip))
(.seq (.ops [o 29 (.fieldAddr 4 (.t 2)),
o 30 (.load false 1 (.t 29)),
m 31 6,
o 32 (.idxAddrSl 5 (.t 30) (.t 31)),
o 33 (.load true 5 (.t 32)),
o 34 (.callF f_value_Copy [(.t 33)]),
u (.store 5 (.t 4) (.t 34)),
o 5 (.mv (.c (.bool true)))])
(.ret [4, 5]))))))⟩
/-! (*legate/pick.Obj).List -/
def K_pick_Obj_List : KF := ⟨3, 11, [(.tmp 6)],
(.seq (.ops [o 5 (.box (.t 2)),
o 6 (.mv (.c .nils))])
(.seq (.ops [m 7 0,
m 8 1,
o 9 (.mkFunc (.func f_pick_Obj_List_1) [] [(.t 5)]),
o 10 (.callF f_pick_take_api_Value_200 [(.t 7), (.t 8), (.t 9)]),
m 6 10])
(.ret [6])))⟩
/-! (*legate/read.tokens).next -/
def L_read_tokens_next_0 : KC :=
(.seq (.seq (.plain [m 12 0,
o 13 (.nilck (.t 12)),
o 14 (.fieldAddr 1 (.t 13)),
o 15 (.load false 1 (.t 14)),
m 16 0,
o 17 (.nilck (.t 16)),
o 18 (.fieldAddr 0 (.t 17)),
o 19 (.load false 1 (.t 18)),
o 20 (.len 0 (.t 19)),
o 21 (.bin .lss 0 false (.t 15) (.t 20)),
m 22 21,
og 23 22 true (.mv (.t 0)),
og 24 22 true (.nilck (.t 23)),
og 25 22 true (.fieldAddr 0 (.t 24)),
og 26 22 true (.load false 1 (.t 25)),
og 27 22 true (.mv (.t 0)),
og 28 22 true (.nilck (.t 27)),
og 29 22 true (.fieldAddr 1 (.t 28)),
og 30 22 true (.load false 1 (.t 29)),
og 31 22 true (.idxStr (.t 26) (.t 30)),
og 32 22 true (.callF f_read_space [(.t 31)]),
o 33 (.pick (.t 22) (.t 32) (.c (.bool false)))])
(.cond (.t 33)
.skip
(.exit [0] 0)))
(.block 1
(.ops [m 34 0,
o 35 (.nilck (.t 34)),
o 36 (.fieldAddr 1 (.t 35)),
o 37 (.load false 1 (.t 36)),
o 38 (.bin .add 0 true (.t 37) (.c (.int .i64 1))),
o 39 (.nilck (.t 34)),
o 40 (.fieldAddr 1 (.t 39)),
u (.store 1 (.t 40) (.t 38))])))
def K_read_tokens_next : KF := ⟨1, 65, [(.tmp 2)],
(.seq (.ops [o 2 (.mv (.c (.int .i64 0)))])
(.seq (.ops [m 5 0,
m 6 0,
o 7 (.nilck (.t 6)),
o 8 (.fieldAddr 7 (.t 7)),
o 9 (.load false 1 (.t 8)),
o 10 (.nilck (.t 5)),
o 11 (.fieldAddr 1 (.t 10)),
u (.store 1 (.t 11) (.t 9))])
(.seq (.block 0
(.loop [0] L_read_tokens_next_0))
(.seq (.plain [m 42 0,
o 43 (.nilck (.t 42)),
o 44 (.fieldAddr 0 (.t 43)),
o 45 (.load false 1 (.t 44)),
m 46 0,
o 47 (.nilck (.t 46)),
o 48 (.fieldAddr 1 (.t 47)),
o 49 (.load false 1 (.t 48)),
o 50 (.callF f_lex_Next [(.t 45), (.t 49)]),
m 41 50,
o 51 (.extract (.t 41) 0),
o 52 (.extract (.t 41) 1),
u .pend,
o 3 (.fill 12 3 5 (.t 51)),
m 4 52])
(.seq (.seq (.ops [m 53 4,
o 54 (.bin .neq 0 true (.t 53) (.c (.int .i64 0)))])
(.cond (.t 54)
(.seq (.ops [m 55 4,
m 2 55])
(.ret [2]))
.skip))
(.seq (.drawn [m 56 0,
m 57 0,
o 58 (.load true 5 (.t 3)),
o 59 (.fieldAddr 2 (.t 3)),
⟨(some 60), (.load false 1 (.t 59)), none, [7]⟩,
o 61 (.nilck (.t 56)),
o 62 (.fieldAddr 2 (.t 61)),
u (.store 5 (.t 62) (.t 58)),
o 63 (.nilck (.t 57)),
o 64 (.fieldAddr 7 (.t 63)),
u (.store 1 (.t 64) (.t 60))])
(.seq (.ops [o 2 (.mv (.c (.int .i64 0)))])
(.ret [2]))))))))⟩
/-! (*legate/read.values).value -/
def K_read_values_value : KF := ⟨1, 104, [(.cell 2 true 5), (.tmp 3)],
(.seq (.ops [o 2 (.new [(.int .u8 0), (.int .i64 0), (.str []), .nils, .nils] none),
o 3 (.mv (.c (.int .i64 0)))])
(.seq (.seq (.ops [m 6 0,
o 7 (.nilck (.t 6)),
o 8 (.fieldAddr 0 (.t 7)),
o 9 (.fieldAddr 2 (.t 8)),
o 10 (.fieldAddr 0 (.t 9)),
o 11 (.load false 1 (.t 10))])
(.block 0
(.seq (.seq (.ops [o 16 (.bin .eql 0 true (.t 11) (.c (.int .u8 1))),
m 15 16])
(.cond (.t 15)
.skip
(.seq (.ops [o 17 (.bin .eql 0 true (.t 11) (.c (.int .u8 3))),
m 15 17])
(.cond (.t 15)
.skip
(.seq (.ops [o 18 (.bin .eql 0 true (.t 11) (.c (.int .u8 7))),
m 15 18])
(.cond (.t 15)
.skip
(.seq (.ops [o 19 (.bin .eql 0 true (.t 11) (.c (.int .u8 8))),
m 15 19])
(.cond (.t 15)
.skip
(.seq (.ops [o 20 (.bin .eql 0 true (.t 11) (.c (.int .u8 9))),
m 15 20])
(.cond (.t 15)
.skip
(.ops [o 21 (.bin .eql 0 true (.t 11) (.c (.int .u8 10))),
m 15 21])))))))))))
(.cond (.t 15)
.skip
(.seq (.ops [o 12 (.build [(.int .u8 0), (.int .i64 0), (.str []), .nils, .nils] []),
m 13 0,
o 14 (.callF f_read_values_wrong [(.t 13)]),
u (.store 5 (.t 2) (.t 12)),
m 3 14])
(.ret [2, 3]))))))
(.seq (.seq (.ops [m 22 0,
o 23 (.nilck (.t 22)),
o 24 (.fieldAddr 8 (.t 23)),
o 25 (.load false 1 (.t 24)),
o 26 (.bin .geq 0 true (.t 25) (.c (.int .i64 8192)))])
(.cond (.t 26)
(.seq (.ops [o 27 (.build [(.int .u8 0), (.int .i64 0), (.str []), .nils, .nils] []),
u (.store 5 (.t 2) (.t 27)),
o 3 (.mv (.c (.int .i64 5)))])
(.ret [2, 3]))
.skip))
(.seq (.ops [m 28 0,
o 29 (.nilck (.t 28)),
o 30 (.fieldAddr 8 (.t 29)),
o 31 (.load false 1 (.t 30)),
o 32 (.bin .add 0 true (.t 31) (.c (.int .i64 1))),
o 33 (.nilck (.t 28)),
o 34 (.fieldAddr 8 (.t 33)),
u (.store 1 (.t 34) (.t 32))])
(.seq (.seq (.ops [m 35 0,
o 36 (.nilck (.t 35)),
o 37 (.fieldAddr 0 (.t 36)),
o 38 (.fieldAddr 2 (.t 37)),
o 39 (.fieldAddr 0 (.t 38)),
o 40 (.load false 1 (.t 39))])
(.block 1
(.seq (.ops [o 42 (.bin .eql 0 true (.t 40) (.c (.int .u8 7))),
m 41 42])
(.cond (.t 41)
(.seq (.ops [o 43 (.build [(.int .u8 0), (.int .i64 0), (.str []), .nils, .nils] [(0, 1, (.c (.int .u8 1))), (1, 1, (.c (.int .i64 1)))]),
u (.store 5 (.t 2) (.t 43)),
o 3 (.mv (.c (.int .i64 0)))])
(.ret [2, 3]))
(.seq (.ops [o 45 (.bin .eql 0 true (.t 40) (.c (.int .u8 8))),
m 44 45])
(.cond (.t 44)
(.seq (.ops [o 46 (.build [(.int .u8 0), (.int .i64 0), (.str []), .nils, .nils] [(0, 1, (.c (.int .u8 1)))]),
u (.store 5 (.t 2) (.t 46)),
o 3 (.mv (.c (.int .i64 0)))])
(.ret [2, 3]))
(.seq (.ops [o 48 (.bin .eql 0 true (.t 40) (.c (.int .u8 9))),
m 47 48])
(.cond (.t 47)
(.seq (.ops [m 49 0,
o 50 (.nilck (.t 49)),
o 51 (.fieldAddr 0 (.t 50)),
o 52 (.fieldAddr 2 (.t 51)),
o 53 (.fieldAddr 3 (.t 52)),
o 54 (.load false 1 (.t 53)),
o 55 (.build [(.int .u8 0), (.int .i64 0), (.str []), .nils, .nils] [(0, 1, (.c (.int .u8 2))), (1, 1, (.t 54))]),
u (.store 5 (.t 2) (.t 55)),
o 3 (.mv (.c (.int .i64 0)))])
(.ret [2, 3]))
(.seq (.ops [o 57 (.bin .eql 0 true (.t 40) (.c (.int .u8 10))),
m 56 57])
(.cond (.t 56)
(.seq (.ops [m 58 0,
o 59 (.nilck (.t 58)),
o 60 (.fieldAddr 0 (.t 59)),
o 61 (.fieldAddr 2 (.t 60)),
o 62 (.fieldAddr 4 (.t 61)),
o 63 (.load false 1 (.t 62)),
o 64 (.build [(.int .u8 0), (.int .i64 0), (.str []), .nils, .nils] [(0, 1, (.c (.int .u8 3))), (2, 1, (.t 63))]),
u (.store 5 (.t 2) (.t 64)),
o 3 (.mv (.c (.int .i64 0)))])
(.ret [2, 3]))
.skip))))))))))
(.seq (.seq (.ops [m 65 0,
o 66 (.nilck (.t 65)),
o 67 (.fieldAddr 9 (.t 66)),
o 68 (.load false 1 (.t 67)),
o 69 (.bin .geq 0 true (.t 68) (.c (.int .i64 12)))])
(.cond (.t 69)
(.seq (.ops [o 70 (.build [(.int .u8 0), (.int .i64 0), (.str []), .nils, .nils] []),
u (.store 5 (.t 2) (.t 70)),
o 3 (.mv (.c (.int .i64 8)))])
(.ret [2, 3]))
.skip))
(.seq (.ops [m 71 0,
o 72 (.nilck (.t 71)),
o 73 (.fieldAddr 9 (.t 72)),
o 74 (.load false 1 (.t 73)),
o 75 (.bin .add 0 true (.t 74) (.c (.int .i64 1))),
o 76 (.nilck (.t 71)),
o 77 (.fieldAddr 9 (.t 76)),
u (.store 1 (.t 77) (.t 75))])
(.seq (.ops [o 4 (.new [(.int .u8 0), (.int .i64 0), (.str []), .nils, .nils] none)])
(.seq (.ops [o 5 (.mv (.c (.int .i64 0)))])
(.seq (.seq (.ops [m 78 0,
o 79 (.nilck (.t 78)),
o 80 (.fieldAddr 0 (.t 79)),
o 81 (.fieldAddr 2 (.t 80)),
o 82 (.fieldAddr 0 (.t 81)),
o 83 (.load false 1 (.t 82)),
o 84 (.bin .eql 0 true (.t 83) (.c (.int .u8 3)))])
(.cond (.t 84)
(.ops [m 86 0,
o 87 (.callF f_read_values_list [(.t 86)]),
m 85 87,
o 88 (.extract (.t 85) 0),
o 89 (.extract (.t 85) 1),
u (.store 5 (.t 4) (.t 88)),
m 5 89])
(.ops [m 91 0,
o 92 (.callF f_read_values_object [(.t 91)]),
m 90 92,
o 93 (.extract (.t 90) 0),
o 94 (.extract (.t 90) 1),
u (.store 5 (.t 4) (.t 93)),
m 5 94])))
(.seq (.ops [m 95 0,
o 96 (.nilck (.t 95)),
o 97 (.fieldAddr 9 (.t 96)),
o 98 (.load false 1 (.t 97)),
o 99 (.bin .sub 0 true (.t 98) (.c (.int .i64 1))),
o 100 (.nilck (.t 95)),
o 101 (.fieldAddr 9 (.t 100)),
u (.store 1 (.t 101) (.t 99))])
(.seq (.ops [o 102 (.load true 5 (.t 4)),
m 103 5,
u (.store 5 (.t 2) (.t 102)),
m 3 103])
(.ret [2, 3])))))))))))))⟩
/-! legate/sign.sigOf -/
def K_sign_sigOf : KF := ⟨1, 25, [(.cell 2 true 2), (.tmp 3)],
(.seq (.ops [o 1 (.box (.t 0)),
o 2 (.new [(.str []), (.str [])] none),
o 3 (.mv (.c (.int .i64 0)))])
(.seq (.ops [o 7 (.load true 5 (.t 1)),
o 8 (.callF f_pick_Of [(.t 7)]),
m 4 8])
(.seq (.ops [m 9 4,
o 10 (.callF f_pick_Obj_Text [(.t 9), (.c (.str [107, 101, 121, 105, 100]))]),
m 11 4,
o 12 (.callF f_pick_Obj_Text [(.t 11), (.c (.str [115, 105, 103]))]),
o 13 (.build [(.str []), (.str [])] [(0, 1, (.t 10)), (1, 1, (.t 12))]),
o 5 (.new [(.str []), (.str [])] none),
u (.store 2 (.t 5) (.t 13))])
(.seq (.seq (.ops [m 14 4,
o 15 (.callF f_pick_Obj_Done [(.t 14)]),
m 6 15])
(.seq (.ops [m 16 6,
o 17 (.bin .neq 0 true (.t 16) (.c (.int .i64 0)))])
(.cond (.t 17)
(.seq (.ops [o 18 (.build [(.str []), (.str [])] []),
m 19 6,
u (.store 2 (.t 2) (.t 18)),
m 3 19])
(.ret [2, 3]))
.skip)))
(.seq (.seq (.ops [o 20 (.load true 2 (.t 5)),
o 21 (.callF f_sign_maySig [(.t 20)]),
o 22 (.un .not (.t 21))])
(.cond (.t 22)
(.seq (.ops [o 23 (.build [(.str []), (.str [])] []),
u (.store 2 (.t 2) (.t 23)),
o 3 (.mv (.c (.int .i64 3)))])
(.ret [2, 3]))
.skip))
(.seq (.ops [o 24 (.load true 2 (.t 5)),
u (.store 2 (.t 2) (.t 24)),
o 3 (.mv (.c (.int .i64 0)))])
(.ret [2, 3])))))))⟩
/-! legate/auth.wrong -/
def L_auth_wrong_0 : KC :=
(.seq (.ops [o 10 (.bin .lss 0 false (.t 9) (.t 8))])
(.seq (.cond (.t 10)
.skip
(.exit [] 0))
(.seq (.block 1
(.seq (.ops [o 11 (.idxAddrSl 1 (.t 7) (.t 9)),
o 12 (.load false 1 (.t 11)),
m 5 12])
(.seq (.seq (.ops [m 13 5,
o 14 (.len 0 (.t 13)),
o 15 (.bin .neq 0 true (.t 14) (.c (.int .i64 64))),
m 16 15,
og 17 16 false (.mv (.t 5)),
og 18 16 false (.callF f_hex_Is [(.t 17)]),
og 19 16 false (.un .not (.t 18)),
o 20 (.pick (.t 16) (.c (.bool true)) (.t 19))])
(.cond (.t 20)
(.seq (.ops [o 2 (.mv (.c (.int .i64 3)))])
(.ret [2]))
.skip))
(.seq (.seq (.ops [m 21 3,
m 22 5,
o 23 (.lookup (.int .i64 0) (.t 21) (.t 22) false),
o 24 (.bin .gtr 0 true (.t 23) (.c (.int .i64 0)))])
(.cond (.t 24)
(.seq (.ops [o 2 (.mv (.c (.int .i64 7)))])
(.ret [2]))
.skip))
(.ops [m 25 3,
m 26 5,
o 27 (.lookup (.int .i64 0) (.t 25) (.t 26) false),
o 28 (.bin .add 0 true (.t 27) (.c (.int .i64 1))),
u (.mapUpd (.t 25) (.t 26) (.t 28))])))))
(.ops [o 29 (.bin .add 0 true (.t 9) (.c (.int .i64 1))),
m 9 29]))))
def K_auth_wrong : KF := ⟨1, 30, [(.tmp 2)],
(.seq (.ops [o 2 (.mv (.c (.int .i64 0)))])
(.seq (.ops [o 6 .mkMap,
m 3 6])
(.seq (.seq (.ops [m 7 0,
o 8 (.len 1 (.t 7)),
o 9 (.mv (.c (.int .i64 0)))])
(.block 0
(.loop [3, 7, 8, 9] L_auth_wrong_0)))
(.seq (.ops [o 2 (.mv (.c (.int .i64 0)))])
(.ret [2])))))⟩
/-! legate/when.leaps -/
def K_when_leaps : KF := ⟨1, 11, [(.tmp 2)],
(.seq (.ops [o 2 (.mv (.c (.int .i64 0)))])
(.seq (.ops [m 3 0,
o 4 (.bin .quo 0 true (.t 3) (.c (.int .i64 4))),
m 5 0,
o 6 (.bin .quo 0 true (.t 5) (.c (.int .i64 100))),
o 7 (.bin .sub 0 false (.t 4) (.t 6)),
m 8 0,
o 9 (.bin .quo 0 true (.t 8) (.c (.int .i64 400))),
o 10 (.bin .add 0 false (.t 7) (.t 9)),
m 2 10])
(.ret [2])))⟩
/-! strconv.Itoa -/
def K_strconv_Itoa : KF := ⟨1, 5, [(.tmp 2)],
(.seq (.ops [o 2 (.mv (.c (.str [])))])
(.seq (.ops [m 3 0,
o 4 (.callF f_internal_strconv_Itoa [(.t 3)]),
m 2 4])
(.ret [2])))⟩
/-! slices.pdqsortCmpFunc[legate/key.entry] -/
def L_slices_pdqsortCmpFunc_key_entry_0 : KC :=
(.block 1
(.seq (.ops [m 21 2,
m 22 1,
o 23 (.bin .sub 0 false (.t 21) (.t 22)),
m 12 23])
(.seq (.seq (.ops [m 24 12,
o 25 (.bin .leq 0 true (.t 24) (.c (.int .i64 12)))])
(.cond (.t 25)
(.seq (.ops [m 26 0,
m 27 1,
m 28 2,
m 29 4,
o 30 (.callF f_slices_insertionSortCmpFunc_key_entry [(.t 26), (.t 27), (.t 28), (.t 29)])])
(.ret []))
.skip))
(.seq (.seq (.ops [m 31 3,
o 32 (.bin .eql 0 true (.t 31) (.c (.int .i64 0)))])
(.cond (.t 32)
(.seq (.ops [m 33 0,
m 34 1,
m 35 2,
m 36 4,
o 37 (.callF f_slices_heapSortCmpFunc_key_entry [(.t 33), (.t 34), (.t 35), (.t 36)])])
(.ret []))
.skip))
(.seq (.seq (.ops [m 38 10,
o 39 (.un .not (.t 38))])
(.cond (.t 39)
(.seq (.ops [m 40 0,
m 41 1,
m 42 2,
m 43 4,
o 44 (.callF f_slices_breakPatternsCmpFunc_key_entry [(.t 40), (.t 41), (.t 42), (.t 43)])])
(.ops [m 45 3,
o 46 (.bin .sub 0 true (.t 45) (.c (.int .i64 1))),
m 3 46]))
.skip))
(.seq (.ops [m 48 0,
m 49 1,
m 50 2,
m 51 4,
o 52 (.callF f_slices_choosePivotCmpFunc_key_entry [(.t 48), (.t 49), (.t 50), (.t 51)]),
m 47 52,
o 53 (.extract (.t 47) 0),
o 54 (.extract (.t 47) 1),
m 13 53,
m 14 54])
(.seq (.seq (.ops [m 55 14,
o 56 (.bin .eql 0 true (.t 55) (.c (.int .i64 2)))])
(.cond (.t 56)
(.seq (.ops [m 57 0,
m 58 1,
m 59 2,
m 60 4,
o 61 (.callF f_slices_reverseRangeCmpFunc_key_entry [(.t 57), (.t 58), (.t 59), (.t 60)])])
(.seq (.ops [m 62 2,
o 63 (.bin .sub 0 true (.t 62) (.c (.int .i64 1))),
m 64 13,
m 65 1,
o 66 (.bin .sub 0 false (.t 64) (.t 65)),
o 67 (.bin .sub 0 false (.t 63) (.t 66)),
m 13 67])
(.ops [o 14 (.mv (.c (.int .i64 1)))])))
.skip))
(.seq (.seq (.ops [m 68 10,
m 69 68,
og 70 69 true (.mv (.t 11)),
o 71 (.pick (.t 69) (.t 70) (.c (.bool false))),
m 72 71,
og 73 72 true (.mv (.t 14)),
og 74 72 true (.bin .eql 0 true (.t 73) (.c (.int .i64 1))),
o 75 (.pick (.t 72) (.t 74) (.c (.bool false)))])
(.cond (.t 75)
(.seq (.ops [m 76 0,
m 77 1,
m 78 2,
m 79 4,
o 80 (.callF f_slices_partialInsertionSortCmpFunc_key_entry [(.t 76), (.t 77), (.t 78), (.t 79)])])
(.cond (.t 80)
(.ret [])
.skip))
.skip))
(.seq (.seq (.plain [m 81 1,
o 82 (.bin .gtr 0 true (.t 81) (.c (.int .i64 0))),
m 83 82,
og 84 83 true (.mv (.t 4)),
og 85 83 true (.mv (.t 0)),
og 86 83 true (.mv (.t 1)),
og 87 83 true (.bin .sub 0 true (.t 86) (.c (.int .i64 1))),
og 88 83 true (.idxAddrSl 6 (.t 85) (.t 87)),
og 89 83 true (.load true 6 (.t 88)),
og 90 83 true (.mv (.t 0)),
og 91 83 true (.mv (.t 13)),
og 92 83 true (.idxAddrSl 6 (.t 90) (.t 91)),
og 93 83 true (.load true 6 (.t 92)),
og 94 83 true (.callV (.t 84) [(.t 89), (.t 93)]),
og 95 83 true (.bin .lss 0 true (.t 94) (.c (.int .i64 0))),
og 96 83 true (.un .not (.t 95)),
o 97 (.pick (.t 83) (.t 96) (.c (.bool false)))])
(.cond (.t 97)
(.seq (.ops [m 98 0,
m 99 1,
m 100 2,
m 101 13,
m 102 4,
o 103 (.callF f_slices_partitionEqualCmpFunc_key_entry [(.t 98), (.t 99), (.t 100), (.t 101), (.t 102)]),
m 15 103])
(.seq (.ops [m 104 15,
m 1 104])
(.exit [0, 1, 2, 3, 4, 10, 11] 1)))
.skip))
(.seq (.ops [m 106 0,
m 107 1,
m 108 2,
m 109 13,
m 110 4,
o 111 (.callF f_slices_partitionCmpFunc_key_entry [(.t 106), (.t 107), (.t 108), (.t 109), (.t 110)]),
m 105 111,
o 112 (.extract (.t 105) 0),
o 113 (.extract (.t 105) 1),
m 16 112,
m 17 113])
(.seq (.ops [m 114 17,
m 11 114])
(.seq (.ops [m 115 16,
m 116 1,
o 117 (.bin .sub 0 false (.t 115) (.t 116)),
m 118 2,
m 119 16,
o 120 (.bin .sub 0 false (.t 118) (.t 119)),
m 18 117,
m 19 120])
(.seq (.ops [m 121 12,
o 122 (.bin .quo 0 true (.t 121) (.c (.int .i64 8))),
m 20 122])
(.seq (.ops [m 123 18,
m 124 19,
o 125 (.bin .lss 0 false (.t 123) (.t 124))])
(.cond (.t 125)
(.seq (.ops [m 126 18,
m 127 20,
o 128 (.bin .geq 0 false (.t 126) (.t 127)),
m 10 128])
(.seq (.ops [m 129 0,
m 130 1,
m 131 16,
m 132 3,
m 133 4,
o 134 (.callF f_slices_pdqsortCmpFunc_key_entry [(.t 129), (.t 130), (.t 131), (.t 132), (.t 133)])])
(.ops [m 135 16,
o 136 (.bin .add 0 true (.t 135) (.c (.int .i64 1))),
m 1 136])))
(.seq (.ops [m 137 19,
m 138 20,
o 139 (.bin .geq 0 false (.t 137) (.t 138)),
m 10 139])
(.seq (.ops [m 140 0,
m 141 16,
o 142 (.bin .add 0 true (.t 141) (.c (.int .i64 1))),
m 143 2,
m 144 3,
m 145 4,
o 146 (.callF f_slices_pdqsortCmpFunc_key_entry [(.t 140), (.t 142), (.t 143), (.t 144), (.t 145)])])
(.ops [m 147 16,
m 2 147]))))))))))))))))))
def K_slices_pdqsortCmpFunc_key_entry : KF := ⟨5, 148, [],
(.seq (.ops [o 10 (.mv (.c (.bool true)))])
(.seq (.ops [o 11 (.mv (.c (.bool true)))])
(.block 0
(.loop [0, 1, 2, 3, 4, 10, 11] L_slices_pdqsortCmpFunc_key_entry_0))))⟩
/-! math/bits.Len -/
def K_math_bits_Len : KF := ⟨1, 8, [(.tmp 2)],
(.seq (.ops [o 2 (.mv (.c (.int .i64 0)))])
(.seq (.cond (.c (.bool false))
(.seq (.ops [m 3 0,
o 4 (.i2i .u32 (.t 3)),
o 5 (.callF f_math_bits_Len32 [(.t 4)]),
m 2 5])
(.ret [2]))
.skip)
(.seq (.ops [m 6 0,
o 7 (.callF f_math_bits_Len64 [(.t 6)]),
m 2 7])
(.ret [2]))))⟩
/-! legate/pick.TextsOf -/
def L_pick_TextsOf_0 : KC :=
(.seq (.ops [o 10 (.bin .lss 0 false (.t 9) (.t 8))])
(.seq (.cond (.t 10)
.skip
(.exit [2, 3] 0))
(.seq (.block 1
(.seq (.ops [o 11 (.idxAddrSl 1 (.t 7) (.t 9)),
o 12 (.load false 1 (.t 11)),
m 5 12])
(.drawn [o 13 (.fieldAddr 4 (.t 3)),
⟨(some 14), (.load false 1 (.t 13)), none, [3]⟩,
m 15 5,
o 16 (.callF f_pick_TextOf [(.t 15)]),
o 17 (.buildSl [(.int .u8 0), (.int .i64 0), (.str []), .nils, .nils] 1 5 [(0, 5, (.t 16))]),
o 18 (.app false 5 80 none (.t 14) (.t 17)),
o 19 (.fieldAddr 4 (.t 3)),
u (.store 1 (.t 19) (.t 18))])))
(.ops [o 20 (.bin .add 0 true (.t 9) (.c (.int .i64 1))),
m 9 20]))))
def K_pick_TextsOf : KF := ⟨1, 22, [(.cell 2 true 5)],
(.seq (.ops [o 2 (.new [(.int .u8 0), (.int .i64 0), (.str []), .nils, .nils] none)])
(.seq (.ops [o 6 (.build [(.int .u8 0), (.int .i64 0), (.str []), .nils, .nils] [(0, 1, (.c (.int .u8 4)))]),
o 3 (.new [(.int .u8 0), (.int .i64 0), (.str []), .nils, .nils] none),
u (.store 5 (.t 3) (.t 6))])
(.seq (.seq (.ops [m 7 0,
o 8 (.len 1 (.t 7)),
o 9 (.mv (.c (.int .i64 0)))])
(.block 0
(.loop [2, 3, 7, 8, 9] L_pick_TextsOf_0)))
(.seq (.ops [o 21 (.load true 5 (.t 3)),
u (.store 5 (.t 2) (.t 21))])
(.ret [2])))))⟩
/-! slices.pdqsortCmpFunc[legate/pick.Member] -/
def L_slices_pdqsortCmpFunc_pick_Member_0 : KC :=
(.block 1
(.seq (.ops [m 21 2,
m 22 1,
o 23 (.bin .sub 0 false (.t 21) (.t 22)),
m 12 23])
(.seq (.seq (.ops [m 24 12,
o 25 (.bin .leq 0 true (.t 24) (.c (.int .i64 12)))])
(.cond (.t 25)
(.seq (.ops [m 26 0,
m 27 1,
m 28 2,
m 29 4,
o 30 (.callF f_slices_insertionSortCmpFunc_pick_Member [(.t 26), (.t 27), (.t 28), (.t 29)])])
(.ret []))
.skip))
(.seq (.seq (.ops [m 31 3,
o 32 (.bin .eql 0 true (.t 31) (.c (.int .i64 0)))])
(.cond (.t 32)
(.seq (.ops [m 33 0,
m 34 1,
m 35 2,
m 36 4,
o 37 (.callF f_slices_heapSortCmpFunc_pick_Member [(.t 33), (.t 34), (.t 35), (.t 36)])])
(.ret []))
.skip))
(.seq (.seq (.ops [m 38 10,
o 39 (.un .not (.t 38))])
(.cond (.t 39)
(.seq (.ops [m 40 0,
m 41 1,
m 42 2,
m 43 4,
o 44 (.callF f_slices_breakPatternsCmpFunc_pick_Member [(.t 40), (.t 41), (.t 42), (.t 43)])])
(.ops [m 45 3,
o 46 (.bin .sub 0 true (.t 45) (.c (.int .i64 1))),
m 3 46]))
.skip))
(.seq (.ops [m 48 0,
m 49 1,
m 50 2,
m 51 4,
o 52 (.callF f_slices_choosePivotCmpFunc_pick_Member [(.t 48), (.t 49), (.t 50), (.t 51)]),
m 47 52,
o 53 (.extract (.t 47) 0),
o 54 (.extract (.t 47) 1),
m 13 53,
m 14 54])
(.seq (.seq (.ops [m 55 14,
o 56 (.bin .eql 0 true (.t 55) (.c (.int .i64 2)))])
(.cond (.t 56)
(.seq (.ops [m 57 0,
m 58 1,
m 59 2,
m 60 4,
o 61 (.callF f_slices_reverseRangeCmpFunc_pick_Member [(.t 57), (.t 58), (.t 59), (.t 60)])])
(.seq (.ops [m 62 2,
o 63 (.bin .sub 0 true (.t 62) (.c (.int .i64 1))),
m 64 13,
m 65 1,
o 66 (.bin .sub 0 false (.t 64) (.t 65)),
o 67 (.bin .sub 0 false (.t 63) (.t 66)),
m 13 67])
(.ops [o 14 (.mv (.c (.int .i64 1)))])))
.skip))
(.seq (.seq (.ops [m 68 10,
m 69 68,
og 70 69 true (.mv (.t 11)),
o 71 (.pick (.t 69) (.t 70) (.c (.bool false))),
m 72 71,
og 73 72 true (.mv (.t 14)),
og 74 72 true (.bin .eql 0 true (.t 73) (.c (.int .i64 1))),
o 75 (.pick (.t 72) (.t 74) (.c (.bool false)))])
(.cond (.t 75)
(.seq (.ops [m 76 0,
m 77 1,
m 78 2,
m 79 4,
o 80 (.callF f_slices_partialInsertionSortCmpFunc_pick_Member [(.t 76), (.t 77), (.t 78), (.t 79)])])
(.cond (.t 80)
(.ret [])
.skip))
.skip))
(.seq (.seq (.plain [m 81 1,
o 82 (.bin .gtr 0 true (.t 81) (.c (.int .i64 0))),
m 83 82,
og 84 83 true (.mv (.t 4)),
og 85 83 true (.mv (.t 0)),
og 86 83 true (.mv (.t 1)),
og 87 83 true (.bin .sub 0 true (.t 86) (.c (.int .i64 1))),
og 88 83 true (.idxAddrSl 6 (.t 85) (.t 87)),
og 89 83 true (.load true 6 (.t 88)),
og 90 83 true (.mv (.t 0)),
og 91 83 true (.mv (.t 13)),
og 92 83 true (.idxAddrSl 6 (.t 90) (.t 91)),
og 93 83 true (.load true 6 (.t 92)),
og 94 83 true (.callV (.t 84) [(.t 89), (.t 93)]),
og 95 83 true (.bin .lss 0 true (.t 94) (.c (.int .i64 0))),
og 96 83 true (.un .not (.t 95)),
o 97 (.pick (.t 83) (.t 96) (.c (.bool false)))])
(.cond (.t 97)
(.seq (.ops [m 98 0,
m 99 1,
m 100 2,
m 101 13,
m 102 4,
o 103 (.callF f_slices_partitionEqualCmpFunc_pick_Member [(.t 98), (.t 99), (.t 100), (.t 101), (.t 102)]),
m 15 103])
(.seq (.ops [m 104 15,
m 1 104])
(.exit [0, 1, 2, 3, 4, 10, 11] 1)))
.skip))
(.seq (.ops [m 106 0,
m 107 1,
m 108 2,
m 109 13,
m 110 4,
o 111 (.callF f_slices_partitionCmpFunc_pick_Member [(.t 106), (.t 107), (.t 108), (.t 109), (.t 110)]),
m 105 111,
o 112 (.extract (.t 105) 0),
o 113 (.extract (.t 105) 1),
m 16 112,
m 17 113])
(.seq (.ops [m 114 17,
m 11 114])
(.seq (.ops [m 115 16,
m 116 1,
o 117 (.bin .sub 0 false (.t 115) (.t 116)),
m 118 2,
m 119 16,
o 120 (.bin .sub 0 false (.t 118) (.t 119)),
m 18 117,
m 19 120])
(.seq (.ops [m 121 12,
o 122 (.bin .quo 0 true (.t 121) (.c (.int .i64 8))),
m 20 122])
(.seq (.ops [m 123 18,
m 124 19,
o 125 (.bin .lss 0 false (.t 123) (.t 124))])
(.cond (.t 125)
(.seq (.ops [m 126 18,
m 127 20,
o 128 (.bin .geq 0 false (.t 126) (.t 127)),
m 10 128])
(.seq (.ops [m 129 0,
m 130 1,
m 131 16,
m 132 3,
m 133 4,
o 134 (.callF f_slices_pdqsortCmpFunc_pick_Member [(.t 129), (.t 130), (.t 131), (.t 132), (.t 133)])])
(.ops [m 135 16,
o 136 (.bin .add 0 true (.t 135) (.c (.int .i64 1))),
m 1 136])))
(.seq (.ops [m 137 19,
m 138 20,
o 139 (.bin .geq 0 false (.t 137) (.t 138)),
m 10 139])
(.seq (.ops [m 140 0,
m 141 16,
o 142 (.bin .add 0 true (.t 141) (.c (.int .i64 1))),
m 143 2,
m 144 3,
m 145 4,
o 146 (.callF f_slices_pdqsortCmpFunc_pick_Member [(.t 140), (.t 142), (.t 143), (.t 144), (.t 145)])])
(.ops [m 147 16,
m 2 147]))))))))))))))))))
def K_slices_pdqsortCmpFunc_pick_Member : KF := ⟨5, 148, [],
(.seq (.ops [o 10 (.mv (.c (.bool true)))])
(.seq (.ops [o 11 (.mv (.c (.bool true)))])
(.block 0
(.loop [0, 1, 2, 3, 4, 10, 11] L_slices_pdqsortCmpFunc_pick_Member_0))))⟩
/-! internal/bytealg.CompareString -/
def K_internal_bytealg_CompareString : KF := ⟨2, 8, [(.tmp 4)],
(.seq (.ops [o 4 (.mv (.c (.int .i64 0)))])
(.seq (.ops [m 5 0,
m 6 1,
o 7 (.callF f_internal_bytealg_abigen_runtime_cmpstring [(.t 5), (.t 6)]),
m 4 7])
(.ret [4])))⟩
/-! slices.Clone[[]string,string] -/
def K_slices_Clone_string_string : KF := ⟨1, 8, [(.tmp 2)],
(.seq (.ops [o 2 (.mv (.c .nils))])
(.seq (.seq (.ops [m 3 0,
o 4 (.bin .eql 7 true (.t 3) (.c .nils))])
(.cond (.t 4)
(.seq (.ops [o 2 (.mv (.c .nils))])
(.ret [2]))
.skip))
(.seq (.ops [o 5 (.buildSl [(.str [])] 0 1 []),
m 6 0,
o 7 (.app false 1 16 none (.t 5) (.t 6)),
m 2 7])
(.ret [2]))))⟩
/-! legate/value.endless -/
def L_value_endless_0 : KC :=
(.seq (.ops [o 15 (.bin .lss 0 false (.t 14) (.t 13))])
(.seq (.cond (.t 15)
.skip
(.exit [] 0))
(.seq (.block 1
(.seq (.ops [m 16 14,
m 9 16])
(.seq (.ops [m 17 0,
m 18 9,
o 19 (.idxAddrSl 5 (.t 17) (.t 18)),
m 10 19])
(.seq (.seq (.ops [m 20 3,
m 21 20,
og 22 21 true (.mv (.t 10)),
og 23 21 true (.nilck (.t 22)),
og 24 21 true (.fieldAddr 0 (.t 23)),
og 25 21 true (.load false 1 (.t 24)),
og 26 21 true (.bin .neq 0 true (.t 25) (.c (.int .u8 4))),
o 27 (.pick (.t 21) (.t 26) (.c (.bool false))),
m 28 27,
og 29 28 true (.mv (.t 10)),
og 30 28 true (.nilck (.t 29)),
og 31 28 true (.fieldAddr 0 (.t 30)),
og 32 28 true (.load false 1 (.t 31)),
og 33 28 true (.bin .neq 0 true (.t 32) (.c (.int .u8 5))),
o 34 (.pick (.t 28) (.t 33) (.c (.bool false)))])
(.cond (.t 34)
(.exit [0, 1, 2, 3, 13, 14] 1)
.skip))
(.seq (.seq (.ops [m 35 10,
m 36 2,
o 37 (.bin .eql 3 false (.t 35) (.t 36))])
(.cond (.t 37)
(.seq (.ops [o 8 (.mv (.c (.bool true)))])
(.ret [8]))
.skip))
(.seq (.ops [m 38 2,
m 11 38])
(.seq (.seq (.ops [m 39 1,
m 40 1,
o 41 (.bin .sub 0 true (.t 40) (.c (.int .i64 1))),
o 42 (.bin .and 0 false (.t 39) (.t 41)),
o 43 (.bin .eql 0 true (.t 42) (.c (.int .i64 0)))])
(.cond (.t 43)
(.ops [m 44 10,
m 11 44])
.skip))
(.seq (.ops [m 45 10,
o 46 (.nilck (.t 45)),
o 47 (.fieldAddr 4 (.t 46)),
o 48 (.load false 1 (.t 47)),
m 49 1,
o 50 (.bin .add 0 true (.t 49) (.c (.int .i64 1))),
m 51 11,
m 52 3,
o 53 (.callF f_value_endless [(.t 48), (.t 50), (.t 51), (.t 52)])])
(.cond (.t 53)
(.seq (.ops [o 8 (.mv (.c (.bool true)))])
(.ret [8]))
.skip)))))))))
(.ops [o 54 (.bin .add 0 true (.t 14) (.c (.int .i64 1))),
m 14 54]))))
def K_value_endless : KF := ⟨4, 55, [(.tmp 8)],
(.seq (.ops [o 8 (.mv (.c (.bool false)))])
(.seq (.seq (.ops [m 12 0,
o 13 (.len 1 (.t 12)),
o 14 (.mv (.c (.int .i64 0)))])
(.block 0
(.loop [0, 1, 2, 3, 13, 14] L_value_endless_0)))
(.seq (.ops [o 8 (.mv (.c (.bool false)))])
(.ret [8]))))⟩
/-! legate/value.duplicate -/
def L_value_duplicate_0 : KC :=
(.seq (.ops [o 20 (.bin .lss 0 false (.t 19) (.t 18))])
(.seq (.cond (.t 20)
.skip
(.exit [2, 3] 0))
(.seq (.block 1
(.seq (.ops [o 21 (.idxAddrSl 5 (.t 17) (.t 19)),
o 22 (.load true 5 (.t 21)),
o 5 (.new [(.int .u8 0), (.int .i64 0), (.str []), .nils, .nils] none),
u (.store 5 (.t 5) (.t 22))])
(.drawn [o 23 (.fieldAddr 4 (.t 3)),
⟨(some 24), (.load false 1 (.t 23)), none, [3]⟩,
o 25 (.load true 5 (.t 5)),
o 26 (.callF f_value_duplicate [(.t 25)]),
o 27 (.buildSl [(.int .u8 0), (.int .i64 0), (.str []), .nils, .nils] 1 5 [(0, 5, (.t 26))]),
o 28 (.app false 5 80 none (.t 24) (.t 27)),
o 29 (.fieldAddr 4 (.t 3)),
u (.store 1 (.t 29) (.t 28))])))
(.ops [o 30 (.bin .add 0 true (.t 19) (.c (.int .i64 1))),
m 19 30]))))
def K_value_duplicate : KF := ⟨1, 32, [(.cell 2 true 5)],
(.seq (.ops [o 1 (.box (.t 0)),
o 2 (.new [(.int .u8 0), (.int .i64 0), (.str []), .nils, .nils] none)])
(.seq (.drawn [o 6 (.fieldAddr 0 (.t 1)),
⟨(some 7), (.load false 1 (.t 6)), none, [8]⟩,
o 8 (.fieldAddr 1 (.t 1)),
⟨(some 9), (.load false 1 (.t 8)), none, [8]⟩,
o 10 (.fieldAddr 2 (.t 1)),
⟨(some 11), (.load false 1 (.t 10)), none, [8]⟩,
o 12 (.fieldAddr 3 (.t 1)),
o 13 (.load false 1 (.t 12)),
o 14 (.callF f_slices_Clone_string_string [(.t 13)]),
o 15 (.build [(.int .u8 0), (.int .i64 0), (.str []), .nils, .nils] [(0, 1, (.t 7)), (1, 1, (.t 9)), (2, 1, (.t 11)), (3, 1, (.t 14))]),
u .pend,
o 3 (.fill 10 3 5 (.t 15))])
(.seq (.seq (.ops [o 16 (.fieldAddr 4 (.t 1)),
o 17 (.load false 1 (.t 16)),
o 18 (.len 1 (.t 17)),
o 19 (.mv (.c (.int .i64 0)))])
(.block 0
(.loop [2, 3, 17, 18, 19] L_value_duplicate_0)))
(.seq (.ops [o 31 (.load true 5 (.t 3)),
u (.store 5 (.t 2) (.t 31))])
(.ret [2])))))⟩
/-! legate/auth.Of -/
def K_auth_Of : KF := ⟨1, 22, [(.cell 2 true 2), (.tmp 3)],
(.seq (.ops [o 1 (.box (.t 0)),
o 2 (.new [(.int .i64 0), .nils] none),
o 3 (.mv (.c (.int .i64 0)))])
(.seq (.seq (.ops [o 7 (.load true 5 (.t 1)),
o 8 (.callF f_value_May [(.t 7)]),
o 9 (.un .not (.t 8))])
(.cond (.t 9)
(.seq (.ops [o 10 (.build [(.int .i64 0), .nils] []),
u (.store 2 (.t 2) (.t 10)),
o 3 (.mv (.c (.int .i64 3)))])
(.ret [2, 3]))
.skip))
(.seq (.ops [o 11 (.load true 5 (.t 1)),
o 12 (.callF f_pick_Of [(.t 11)]),
m 4 12])
(.seq (.ops [m 13 4,
o 14 (.callF f_auth_Part [(.t 13)]),
o 5 (.new [(.int .i64 0), .nils] none),
u (.store 2 (.t 5) (.t 14))])
(.seq (.seq (.ops [m 15 4,
o 16 (.callF f_pick_Obj_Done [(.t 15)]),
m 6 16])
(.seq (.ops [m 17 6,
o 18 (.bin .neq 0 true (.t 17) (.c (.int .i64 0)))])
(.cond (.t 18)
(.seq (.ops [o 19 (.build [(.int .i64 0), .nils] []),
m 20 6,
u (.store 2 (.t 2) (.t 19)),
m 3 20])
(.ret [2, 3]))
.skip)))
(.seq (.ops [o 21 (.load true 2 (.t 5)),
u (.store 2 (.t 2) (.t 21)),
o 3 (.mv (.c (.int .i64 0)))])
(.ret [2, 3])))))))⟩
/-! legate/key.Find -/
def L_key_Find_0 : KC :=
(.seq (.ops [o 13 (.bin .lss 0 false (.t 12) (.t 11))])
(.seq (.cond (.t 13)
.skip
(.exit [4] 0))
(.seq (.block 1
(.seq (.ops [o 14 (.idxAddrSl 2 (.t 10) (.t 12)),
o 15 (.load true 2 (.t 14)),
o 7 (.new [(.str []), (.str [])] none),
u (.store 2 (.t 7) (.t 15))])
(.seq (.ops [o 17 (.load true 2 (.t 7)),
o 18 (.callF f_key_ID [(.t 17)]),
m 16 18,
o 19 (.extract (.t 16) 0),
o 20 (.extract (.t 16) 1),
m 8 19,
m 9 20])
(.seq (.ops [m 21 9,
o 22 (.bin .eql 0 true (.t 21) (.c (.int .i64 0))),
m 23 22,
og 24 23 true (.mv (.t 8)),
og 25 23 true (.mv (.t 1)),
og 26 23 true (.bin .eql 0 false (.t 24) (.t 25)),
o 27 (.pick (.t 23) (.t 26) (.c (.bool false)))])
(.cond (.t 27)
(.seq (.ops [o 28 (.load true 2 (.t 7)),
u (.store 2 (.t 4) (.t 28)),
o 5 (.mv (.c (.bool true)))])
(.ret [4, 5]))
.skip)))))
(.ops [o 29 (.bin .add 0 true (.t 12) (.c (.int .i64 1))),
m 12 29]))))
def K_key_Find : KF := ⟨2, 31, [(.cell 4 true 2), (.tmp 5)],
(.seq (.ops [o 4 (.new [(.str []), (.str [])] none),
o 5 (.mv (.c (.bool false)))])
(.seq (.seq (.ops [m 10 0,
o 11 (.len 1 (.t 10)),
o 12 (.mv (.c (.int .i64 0)))])
(.block 0
(.loop [1, 4, 10, 11, 12] L_key_Find_0)))
(.seq (.ops [o 30 (.build [(.str []), (.str [])] []),
u (.store 2 (.t 4) (.t 30)),
o 5 (.mv (.c (.bool false)))])
(.ret [4, 5]))))⟩
/-! (*legate/judge.Verifier).has -/
def L_judge_Verifier_has_0 : KC :=
(.seq (.ops [o 16 (.bin .lss 0 false (.t 15) (.t 14))])
(.seq (.cond (.t 16)
.skip
(.exit [] 0))
(.seq (.block 1
(.seq (.ops [o 17 (.idxAddrSl 2 (.t 13) (.t 15)),
o 18 (.load true 2 (.t 17)),
o 12 (.new [(.str []), (.str [])] none),
u (.store 2 (.t 12) (.t 18))])
(.seq (.ops [o 19 (.fieldAddr 0 (.t 12)),
o 20 (.load false 1 (.t 19)),
m 21 2,
o 22 (.bin .eql 0 false (.t 20) (.t 21)),
m 23 22,
og 24 23 true (.mv (.t 0)),
og 25 23 true (.load true 2 (.t 6)),
og 26 23 true (.load true 2 (.t 12)),
og 27 23 true (.mv (.t 4)),
og 28 23 true (.callF f_judge_Verifier_Good [(.t 24), (.t 25), (.t 26), (.t 27)]),
o 29 (.pick (.t 23) (.t 28) (.c (.bool false)))])
(.cond (.t 29)
(.seq (.ops [o 10 (.mv (.c (.bool true)))])
(.ret [10]))
.skip))))
(.ops [o 30 (.bin .add 0 true (.t 15) (.c (.int .i64 1))),
m 15 30]))))
def K_judge_Verifier_has : KF := ⟨5, 31, [(.tmp 10)],
(.seq (.ops [o 6 (.box (.t 1)),
o 10 (.mv (.c (.bool false)))])
(.seq (.seq (.ops [m 13 3,
o 14 (.len 1 (.t 13)),
o 15 (.mv (.c (.int .i64 0)))])
(.block 0
(.loop [0, 2, 4, 6, 13, 14, 15] L_judge_Verifier_has_0)))
(.seq (.ops [o 10 (.mv (.c (.bool false)))])
(.ret [10]))))⟩
/-! legate/snap.parseType -/
def K_snap_parseType : KF := ⟨2, 9, [],
(.seq (.ops [m 4 0,
o 5 (.callF f_pick_Obj_Text [(.t 4), (.c (.str [95, 116, 121, 112, 101]))]),
o 6 (.bin .neq 0 true (.t 5) (.c (.str [115, 110, 97, 112, 115, 104, 111, 116])))])
(.cond (.t 6)
(.ops [m 7 0,
o 8 (.callF f_pick_Obj_Fail [(.t 7), (.c (.int .i64 13))])])
.skip))⟩
/-! legate/snap.parseVersion -/
def K_snap_parseVersion : KF := ⟨2, 9, [],
(.ops [m 4 1,
m 5 0,
o 6 (.callF f_pick_Obj_Num [(.t 5), (.c (.str [118, 101, 114, 115, 105, 111, 110])), (.c (.int .i64 1)), (.c (.int .i64 1099511627776))]),
o 7 (.nilck (.t 4)),
o 8 (.fieldAddr 0 (.t 7)),
u (.store 1 (.t 8) (.t 6))])⟩
/-! legate/snap.parseExpires -/
def K_snap_parseExpires : KF := ⟨2, 19, [],
(.seq (.ops [m 7 0,
o 8 (.callF f_pick_Obj_Text [(.t 7), (.c (.str [101, 120, 112, 105, 114, 101, 115]))]),
o 9 (.callF f_when_Read [(.t 8)]),
m 6 9,
o 10 (.extract (.t 6) 0),
o 11 (.extract (.t 6) 1),
m 4 10,
m 5 11])
(.seq (.ops [m 12 0,
m 13 5,
o 14 (.callF f_pick_Obj_Fail [(.t 12), (.t 13)])])
(.ops [m 15 1,
m 16 4,
o 17 (.nilck (.t 15)),
o 18 (.fieldAddr 1 (.t 17)),
u (.store 1 (.t 18) (.t 16))])))⟩
/-! legate/snap.parseMeta -/
def L_snap_parseMeta_0 : KC :=
(.seq (.ops [o 15 (.bin .lss 0 false (.t 14) (.t 13))])
(.seq (.cond (.t 15)
.skip
(.exit [] 0))
(.seq (.block 1
(.seq (.ops [m 16 14,
o 17 (.idxAddrSl 1 (.t 12) (.t 14)),
o 18 (.load false 1 (.t 17)),
m 5 16,
m 6 18])
(.seq (.ops [m 20 6,
o 21 (.fieldAddr 4 (.t 4)),
o 22 (.load false 1 (.t 21)),
m 23 5,
o 24 (.idxAddrSl 5 (.t 22) (.t 23)),
o 25 (.load true 5 (.t 24)),
o 26 (.callF f_snap_PinOf [(.t 20), (.t 25)]),
m 19 26,
o 27 (.extract (.t 19) 0),
o 28 (.extract (.t 19) 1),
o 7 (.new [(.str []), (.int .i64 0), (.int .i64 0), .nils] none),
u (.store 4 (.t 7) (.t 27)),
m 8 28])
(.seq (.seq (.ops [m 29 8,
o 30 (.bin .neq 0 true (.t 29) (.c (.int .i64 0)))])
(.cond (.t 30)
(.seq (.ops [m 31 0,
m 32 8,
o 33 (.callF f_pick_Obj_Fail [(.t 31), (.t 32)])])
(.ret []))
.skip))
(.plain [m 34 1,
m 35 1,
o 36 (.nilck (.t 35)),
o 37 (.fieldAddr 2 (.t 36)),
o 38 (.load false 1 (.t 37)),
o 39 (.load true 4 (.t 7)),
o 40 (.buildSl [(.str []), (.int .i64 0), (.int .i64 0), .nils] 1 4 [(0, 4, (.t 39))]),
o 41 (.app false 4 56 none (.t 38) (.t 40)),
o 42 (.nilck (.t 34)),
o 43 (.fieldAddr 2 (.t 42)),
u (.store 1 (.t 43) (.t 41))])))))
(.ops [o 44 (.bin .add 0 true (.t 14) (.c (.int .i64 1))),
m 14 44]))))
def K_snap_parseMeta : KF := ⟨2, 45, [],
(.seq (.ops [m 9 0,
o 10 (.callF f_pick_Obj_Object [(.t 9), (.c (.str [109, 101, 116, 97])), (.c (.int .i64 256))]),
o 4 (.new [(.int .u8 0), (.int .i64 0), (.str []), .nils, .nils] none),
u (.store 5 (.t 4) (.t 10))])
(.seq (.ops [o 11 (.fieldAddr 3 (.t 4)),
o 12 (.load false 1 (.t 11)),
o 13 (.len 1 (.t 12)),
o 14 (.mv (.c (.int .i64 0)))])
(.block 0
(.loop [0, 1, 4, 12, 13, 14] L_snap_parseMeta_0))))⟩
/-! (*strings.Builder).copyCheck -/
def K_strings_Builder_copyCheck : KF := ⟨1, 20, [],
(.seq (.ops [m 2 0,
o 3 (.nilck (.t 2)),
o 4 (.fieldAddr 0 (.t 3)),
o 5 (.load false 1 (.t 4)),
o 6 (.bin .eql 3 true (.t 5) (.c .nilp))])
(.cond (.t 6)
(.ops [m 7 0,
m 8 0,
o 9 .fail,
o 10 (.callF f_internal_abi_NoEscape [(.t 9)]),
o 11 .fail,
o 12 (.nilck (.t 7)),
o 13 (.fieldAddr 0 (.t 12)),
u (.store 1 (.t 13) (.t 11))])
(.seq (.ops [m 14 0,
o 15 (.nilck (.t 14)),
o 16 (.fieldAddr 0 (.t 15)),
o 17 (.load false 1 (.t 16)),
m 18 0,
o 19 (.bin .neq 3 false (.t 17) (.t 18))])
(.cond (.t 19)
.fail
.skip))))⟩
/-! strconv.FormatInt -/
def K_strconv_FormatInt : KF := ⟨2, 8, [(.tmp 4)],
(.seq (.ops [o 4 (.mv (.c (.str [])))])
(.seq (.ops [m 5 0,
m 6 1,
o 7 (.callF f_internal_strconv_FormatInt [(.t 5), (.t 6)]),
m 4 7])
(.ret [4])))⟩
/-! legate/deleg.keysMay -/
def L_deleg_keysMay_0 : KC :=
(.seq (.ops [o 14 (.bin .lss 0 false (.t 13) (.t 12))])
(.seq (.cond (.t 14)
.skip
(.exit [] 0))
(.seq (.block 1
(.seq (.ops [o 15 (.idxAddrSl 2 (.t 11) (.t 13)),
o 16 (.load true 2 (.t 15)),
o 5 (.new [(.str []), (.str [])] none),
u (.store 2 (.t 5) (.t 16))])
(.seq (.ops [o 18 (.load true 2 (.t 5)),
o 19 (.callF f_key_ID [(.t 18)]),
m 17 19,
o 20 (.extract (.t 17) 0),
o 21 (.extract (.t 17) 1),
m 6 20,
m 7 21])
(.seq (.seq (.ops [m 22 7,
o 23 (.bin .neq 0 true (.t 22) (.c (.int .i64 0))),
m 24 23,
og 25 24 false (.mv (.t 6)),
og 26 24 false (.mv (.t 3)),
og 27 24 false (.bin .leq 0 false (.t 25) (.t 26)),
o 28 (.pick (.t 24) (.c (.bool true)) (.t 27))])
(.cond (.t 28)
(.seq (.ops [o 2 (.mv (.c (.bool false)))])
(.ret [2]))
.skip))
(.ops [m 29 6,
m 3 29])))))
(.ops [o 30 (.bin .add 0 true (.t 13) (.c (.int .i64 1))),
m 13 30]))))
def K_deleg_keysMay : KF := ⟨1, 31, [(.tmp 2)],
(.seq (.ops [o 2 (.mv (.c (.bool false)))])
(.seq (.seq (.ops [m 8 0,
o 9 (.len 1 (.t 8)),
o 10 (.bin .gtr 0 true (.t 9) (.c (.int .i64 32)))])
(.cond (.t 10)
(.seq (.ops [o 2 (.mv (.c (.bool false)))])
(.ret [2]))
.skip))
(.seq (.ops [o 3 (.mv (.c (.str [])))])
(.seq (.seq (.ops [m 11 0,
o 12 (.len 1 (.t 11)),
o 13 (.mv (.c (.int .i64 0)))])
(.block 0
(.loop [3, 11, 12, 13] L_deleg_keysMay_0)))
(.seq (.ops [o 2 (.mv (.c (.bool true)))])
(.ret [2]))))))⟩
/-! legate/deleg.noBins -/
def K_deleg_noBins : KF := ⟨1, 24, [(.tmp 2)],
(.seq (.ops [o 1 (.box (.t 0)),
o 2 (.mv (.c (.bool false)))])
(.seq (.ops [o 3 (.fieldAddr 2 (.t 1)),
o 4 (.load false 1 (.t 3)),
o 5 (.bin .eql 0 true (.t 4) (.c (.int .i64 0))),
m 6 5,
og 7 6 true (.fieldAddr 3 (.t 1)),
og 8 6 true (.load false 1 (.t 7)),
og 9 6 true (.bin .eql 0 true (.t 8) (.c (.str []))),
o 10 (.pick (.t 6) (.t 9) (.c (.bool false))),
m 11 10,
og 12 11 true (.fieldAddr 0 (.t 1)),
og 13 11 true (.fieldAddr 0 (.t 12)),
og 14 11 true (.load false 1 (.t 13)),
og 15 11 true (.bin .eql 0 true (.t 14) (.c (.int .i64 0))),
o 16 (.pick (.t 11) (.t 15) (.c (.bool false))),
m 17 16,
og 18 17 true (.fieldAddr 0 (.t 1)),
og 19 17 true (.fieldAddr 1 (.t 18)),
og 20 17 true (.load false 1 (.t 19)),
og 21 17 true (.len 1 (.t 20)),
og 22 17 true (.bin .eql 0 true (.t 21) (.c (.int .i64 0))),
o 23 (.pick (.t 17) (.t 22) (.c (.bool false))),
m 2 23])
(.ret [2])))⟩
/-! legate/deleg.rolesMay -/
def L_deleg_rolesMay_0 : KC :=
(.seq (.ops [o 11 (.bin .lss 0 false (.t 10) (.t 9))])
(.seq (.cond (.t 11)
.skip
(.exit [] 0))
(.seq (.block 1
(.seq (.ops [m 12 10,
o 13 (.idxAddrSl 6 (.t 8) (.t 10)),
o 14 (.load true 6 (.t 13)),
o 4 (.new [(.str []), (.int .i64 0), .nils, (.bool false), .nils, .nils] none),
m 3 12,
u (.store 6 (.t 4) (.t 14))])
(.seq (.plain [o 15 (.load true 6 (.t 4)),
o 16 (.callF f_deleg_roleMay [(.t 15)]),
o 17 (.un .not (.t 16)),
m 18 17,
og 19 18 false (.mv (.t 0)),
og 20 18 false (.mv (.t 3)),
og 21 18 false (.sliceSl 6 (.t 19) none (some (.t 20)) none),
og 22 18 false (.fieldAddr 0 (.t 4)),
og 23 18 false (.load false 1 (.t 22)),
og 24 18 false (.callF f_deleg_hasName [(.t 21), (.t 23)]),
o 25 (.pick (.t 18) (.c (.bool true)) (.t 24))])
(.cond (.t 25)
(.seq (.ops [o 2 (.mv (.c (.bool false)))])
(.ret [2]))
.skip))))
(.ops [o 26 (.bin .add 0 true (.t 10) (.c (.int .i64 1))),
m 10 26]))))
def K_deleg_rolesMay : KF := ⟨1, 27, [(.tmp 2)],
(.seq (.ops [o 2 (.mv (.c (.bool false)))])
(.seq (.seq (.ops [m 5 0,
o 6 (.len 1 (.t 5)),
o 7 (.bin .gtr 0 true (.t 6) (.c (.int .i64 64)))])
(.cond (.t 7)
(.seq (.ops [o 2 (.mv (.c (.bool false)))])
(.ret [2]))
.skip))
(.seq (.seq (.ops [m 8 0,
o 9 (.len 1 (.t 8)),
o 10 (.mv (.c (.int .i64 0)))])
(.block 0
(.loop [0, 8, 9, 10] L_deleg_rolesMay_0)))
(.seq (.ops [o 2 (.mv (.c (.bool true)))])
(.ret [2])))))⟩
end Go.Ev

