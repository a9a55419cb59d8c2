/- Code of functions as the evaluator has it, and what some of them compute. No conditions. -/
import Derived.Test.YtlmipikebibmaaaGreatDoorEvD
import Derived.Test.YtlmipikebibmaaaGreatDoorCn
import Derived.Test.YtlmipikebibmaaaGreatDoorEvC
set_option linter.unusedVariables false
set_option linter.unusedSimpArgs false

namespace Go.Ev
/-! legate/check.Cap -/
def K_check_Cap : KF := ⟨3,32,[(.cell 6 true 4),(.tmp 7),(.tmp 8)],
(.seq (.ops [o 3 (.box (.t 0)),
o 6 (.new [(.str []),(.int .i64 0),(.int .i64 0),.nils] none),
o 7 (.mv (.c (.int .i64 0))),
o 8 (.mv (.c (.int .u8 0)))])
(.seq (.ops [o 11 (.load true 3 (.t 3)),
m 12 1,
o 13 (.callF f_snap_Pin [(.t 11),(.t 12)]),
m 10 13,
o 14 (.extract (.t 10) 0),
o 15 (.extract (.t 10) 1),
u (.store 4 (.t 6) (.t 14)),
m 9 15])
(.seq (.seq (.ops [m 16 9,
o 17 (.un .not (.t 16))])
(.cond (.t 17)
(.seq (.ops [o 18 (.build [(.str []),(.int .i64 0),(.int .i64 0),.nils] []),
u (.store 4 (.t 6) (.t 18)),
o 7 (.mv (.c (.int .i64 0))),
o 8 (.mv (.c (.int .u8 1)))])
(.ret [6,7,8]))
.skip))
(.seq (.seq (.ops [o 19 (.fieldAddr 2 (.t 6)),
o 20 (.load false 1 (.t 19)),
o 21 (.bin .lss 0 true (.t 20) (.c (.int .i64 0)))])
(.cond (.t 21)
(.seq (.ops [o 22 (.load true 4 (.t 6)),
m 23 2,
u (.store 4 (.t 6) (.t 22)),
m 7 23,
o 8 (.mv (.c (.int .u8 0)))])
(.ret [6,7,8]))
.skip))
(.seq (.seq (.ops [o 24 (.fieldAddr 2 (.t 6)),
o 25 (.load false 1 (.t 24)),
m 26 2,
o 27 (.bin .gtr 0 false (.t 25) (.t 26))])
(.cond (.t 27)
(.seq (.ops [o 28 (.build [(.str []),(.int .i64 0),(.int .i64 0),.nils] []),
u (.store 4 (.t 6) (.t 28)),
o 7 (.mv (.c (.int .i64 0))),
o 8 (.mv (.c (.int .u8 3)))])
(.ret [6,7,8]))
.skip))
(.seq (.ops [o 29 (.load true 4 (.t 6)),
o 30 (.fieldAddr 2 (.t 6)),
o 31 (.load false 1 (.t 30)),
u (.store 4 (.t 6) (.t 29)),
m 7 31,
o 8 (.mv (.c (.int .u8 0)))])
(.ret [6,7,8])))))))⟩
/-! legate/check.Role -/
def K_check_Role : KF := ⟨7,66,[(.cell 14 true 9),(.tmp 15)],
(.seq (.ops [o 8 (.box (.t 1)),
o 9 (.box (.t 2)),
o 14 (.new [(.int .i64 0),(.int .i64 0),.nils,.nils,.nils,(.int .i64 0),.nils,(.int .i64 0),(.str [])] none),
o 15 (.mv (.c (.int .u8 0)))])
(.seq (.ops [m 20 0,
o 21 (.load true 2 (.t 9)),
m 22 3,
o 23 (.load true 4 (.t 8)),
m 24 4,
m 25 5,
m 26 6,
o 27 (.build [.nilp,(.int .i64 0),.nils,.nils,(.str []),(.int .i64 0),(.int .i64 0),.nils,(.int .i64 0),(.str []),(.int .i64 0),(.int .u8 0),(.int .i64 0),(.str []),.nils,.nils,(.int .u8 0),(.int .i64 0),(.str []),.nils,.nils,.nils,(.int .i64 0),(.int .i64 0)] [(0,1,(.t 20)),(1,2,(.t 21)),(3,1,(.t 22)),(4,4,(.t 23)),(8,1,(.t 24)),(9,1,(.t 25)),(10,1,(.t 26))]),
o 28 (.box (.t 27)),
o 16 (.new [.nilp] none),
u (.store 1 (.t 16) (.t 28))])
(.seq (.ops [o 17 (.new [(.int .i64 0),(.int .i64 0),.nils,.nils,.nils,(.int .i64 0),.nils,(.int .i64 0),(.str [])] none)])
(.seq (.ops [o 29 (.mkFunc (.func f_check_Role_1) [] [(.t 16),(.t 17)]),
m 18 29])
(.seq (.ops [o 30 (.load false 1 (.t 16)),
o 31 (.mkFunc (.func f_check_file_missing) [(.t 30)] []),
o 32 (.build [(.int .u8 0),.nilFunc] [(0,1,(.c (.int .u8 2))),(1,1,(.t 31))]),
o 33 (.load false 1 (.t 16)),
o 34 (.mkFunc (.func f_check_file_big) [(.t 33)] []),
o 35 (.build [(.int .u8 0),.nilFunc] [(0,1,(.c (.int .u8 3))),(1,1,(.t 34))]),
o 36 (.load false 1 (.t 16)),
o 37 (.mkFunc (.func f_check_file_small) [(.t 36)] []),
o 38 (.build [(.int .u8 0),.nilFunc] [(0,1,(.c (.int .u8 4))),(1,1,(.t 37))]),
o 39 (.load false 1 (.t 16)),
o 40 (.mkFunc (.func f_check_file_otherDigest) [(.t 39)] []),
o 41 (.build [(.int .u8 0),.nilFunc] [(0,1,(.c (.int .u8 5))),(1,1,(.t 40))]),
o 42 (.load false 1 (.t 16)),
o 43 (.mkFunc (.func f_check_file_noText) [(.t 42)] []),
o 44 (.build [(.int .u8 0),.nilFunc] [(0,1,(.c (.int .u8 6))),(1,1,(.t 43))]),
o 45 (.load false 1 (.t 16)),
o 46 (.mkFunc (.func f_check_file_noEnvelope) [(.t 45)] []),
o 47 (.build [(.int .u8 0),.nilFunc] [(0,1,(.c (.int .u8 7))),(1,1,(.t 46))]),
m 48 18,
o 49 (.build [(.int .u8 0),.nilFunc] [(0,1,(.c (.int .u8 7))),(1,1,(.t 48))]),
o 50 (.load false 1 (.t 16)),
o 51 (.mkFunc (.func f_check_file_unsigned) [(.t 50)] []),
o 52 (.build [(.int .u8 0),.nilFunc] [(0,1,(.c (.int .u8 8))),(1,1,(.t 51))]),
o 53 (.load false 1 (.t 16)),
o 54 (.mkFunc (.func f_check_file_otherVersion) [(.t 53)] []),
o 55 (.build [(.int .u8 0),.nilFunc] [(0,1,(.c (.int .u8 9))),(1,1,(.t 54))]),
o 56 (.load false 1 (.t 16)),
o 57 (.mkFunc (.func f_check_file_expired) [(.t 56)] []),
o 58 (.build [(.int .u8 0),.nilFunc] [(0,1,(.c (.int .u8 10))),(1,1,(.t 57))]),
o 59 (.buildSl [(.int .u8 0),.nilFunc] 10 2 [(0,2,(.t 32)),(2,2,(.t 35)),(4,2,(.t 38)),(6,2,(.t 41)),(8,2,(.t 44)),(10,2,(.t 47)),(12,2,(.t 49)),(14,2,(.t 52)),(16,2,(.t 55)),(18,2,(.t 58))]),
o 60 (.callF f_check_first [(.t 59)]),
m 19 60])
(.seq (.seq (.ops [m 61 19,
o 62 (.bin .neq 0 true (.t 61) (.c (.int .u8 0)))])
(.cond (.t 62)
(.seq (.ops [o 63 (.build [(.int .i64 0),(.int .i64 0),.nils,.nils,.nils,(.int .i64 0),.nils,(.int .i64 0),(.str [])] []),
m 64 19,
u (.store 9 (.t 14) (.t 63)),
m 15 64])
(.ret [14,15]))
.skip))
(.seq (.ops [o 65 (.load true 9 (.t 17)),
u (.store 9 (.t 14) (.t 65)),
o 15 (.mv (.c (.int .u8 0)))])
(.ret [14,15]))))))))⟩
/-! legate/check.Snapshot -/
def K_check_Snapshot : KF := ⟨5,55,[(.cell 10 true 3),(.tmp 11)],
(.seq (.ops [o 6 (.box (.t 1)),
o 10 (.new [(.int .i64 0),(.int .i64 0),.nils] none),
o 11 (.mv (.c (.int .u8 0)))])
(.seq (.ops [m 16 0,
o 17 (.fieldAddr 5 (.t 6)),
o 18 (.load true 2 (.t 17)),
o 19 (.fieldAddr 2 (.t 6)),
o 20 (.load false 1 (.t 19)),
o 21 (.build [(.str []),(.int .i64 0),(.int .i64 0),.nils] [(2,1,(.c (.int .i64 (-1))))]),
m 22 2,
m 23 3,
m 24 4,
o 25 (.build [.nilp,(.int .i64 0),.nils,.nils,(.str []),(.int .i64 0),(.int .i64 0),.nils,(.int .i64 0),(.str []),(.int .i64 0),(.int .u8 0),(.int .i64 0),(.str []),.nils,.nils,(.int .u8 0),(.int .i64 0),(.str []),.nils,.nils,.nils,(.int .i64 0),(.int .i64 0)] [(0,1,(.t 16)),(1,2,(.t 18)),(3,1,(.t 20)),(4,4,(.t 21)),(8,1,(.t 22)),(9,1,(.t 23)),(10,1,(.t 24))]),
o 26 (.box (.t 25)),
o 12 (.new [.nilp] none),
u (.store 1 (.t 12) (.t 26))])
(.seq (.ops [o 13 (.new [(.int .i64 0),(.int .i64 0),.nils] none)])
(.seq (.ops [o 27 (.mkFunc (.func f_check_Snapshot_1) [] [(.t 12),(.t 13)]),
m 14 27])
(.seq (.ops [o 28 (.load false 1 (.t 12)),
o 29 (.mkFunc (.func f_check_file_missing) [(.t 28)] []),
o 30 (.build [(.int .u8 0),.nilFunc] [(0,1,(.c (.int .u8 2))),(1,1,(.t 29))]),
o 31 (.load false 1 (.t 12)),
o 32 (.mkFunc (.func f_check_file_big) [(.t 31)] []),
o 33 (.build [(.int .u8 0),.nilFunc] [(0,1,(.c (.int .u8 3))),(1,1,(.t 32))]),
o 34 (.load false 1 (.t 12)),
o 35 (.mkFunc (.func f_check_file_noText) [(.t 34)] []),
o 36 (.build [(.int .u8 0),.nilFunc] [(0,1,(.c (.int .u8 6))),(1,1,(.t 35))]),
o 37 (.load false 1 (.t 12)),
o 38 (.mkFunc (.func f_check_file_noEnvelope) [(.t 37)] []),
o 39 (.build [(.int .u8 0),.nilFunc] [(0,1,(.c (.int .u8 7))),(1,1,(.t 38))]),
m 40 14,
o 41 (.build [(.int .u8 0),.nilFunc] [(0,1,(.c (.int .u8 7))),(1,1,(.t 40))]),
o 42 (.load false 1 (.t 12)),
o 43 (.mkFunc (.func f_check_file_unsigned) [(.t 42)] []),
o 44 (.build [(.int .u8 0),.nilFunc] [(0,1,(.c (.int .u8 8))),(1,1,(.t 43))]),
o 45 (.load false 1 (.t 12)),
o 46 (.mkFunc (.func f_check_file_expired) [(.t 45)] []),
o 47 (.build [(.int .u8 0),.nilFunc] [(0,1,(.c (.int .u8 10))),(1,1,(.t 46))]),
o 48 (.buildSl [(.int .u8 0),.nilFunc] 7 2 [(0,2,(.t 30)),(2,2,(.t 33)),(4,2,(.t 36)),(6,2,(.t 39)),(8,2,(.t 41)),(10,2,(.t 44)),(12,2,(.t 47))]),
o 49 (.callF f_check_first [(.t 48)]),
m 15 49])
(.seq (.seq (.ops [m 50 15,
o 51 (.bin .neq 0 true (.t 50) (.c (.int .u8 0)))])
(.cond (.t 51)
(.seq (.ops [o 52 (.build [(.int .i64 0),(.int .i64 0),.nils] []),
m 53 15,
u (.store 3 (.t 10) (.t 52)),
m 11 53])
(.ret [10,11]))
.skip))
(.seq (.ops [o 54 (.load true 3 (.t 13)),
u (.store 3 (.t 10) (.t 54)),
o 11 (.mv (.c (.int .u8 0)))])
(.ret [10,11]))))))))⟩
/-! (*legate/check.file).big -/
def K_check_file_big : KF := ⟨1,29,[(.tmp 2)],
(.seq (.ops [o 2 (.mv (.c (.bool false)))])
(.seq (.plain [m 3 0,
o 4 (.nilck (.t 3)),
o 5 (.fieldAddr 10 (.t 4)),
o 6 (.load false 1 (.t 5)),
o 7 (.bin .lss 0 true (.t 6) (.c (.int .i64 0))),
m 8 7,
og 9 8 false (.mv (.t 0)),
og 10 8 false (.nilck (.t 9)),
og 11 8 false (.fieldAddr 4 (.t 10)),
og 12 8 false (.fieldAddr 2 (.t 11)),
og 13 8 false (.load false 1 (.t 12)),
og 14 8 false (.bin .geq 0 true (.t 13) (.c (.int .i64 0))),
og 15 8 false (.mv (.t 14)),
og 16 15 true (.mv (.t 0)),
og 17 15 true (.nilck (.t 16)),
og 18 15 true (.fieldAddr 9 (.t 17)),
og 19 15 true (.load false 1 (.t 18)),
og 20 15 true (.len 0 (.t 19)),
og 21 15 true (.mv (.t 0)),
og 22 15 true (.nilck (.t 21)),
og 23 15 true (.fieldAddr 4 (.t 22)),
og 24 15 true (.fieldAddr 2 (.t 23)),
og 25 15 true (.load false 1 (.t 24)),
og 26 15 true (.bin .gtr 0 false (.t 20) (.t 25)),
og 27 8 false (.pick (.t 15) (.t 26) (.c (.bool false))),
o 28 (.pick (.t 8) (.c (.bool true)) (.t 27)),
m 2 28])
(.ret [2])))⟩
/-! (*legate/check.file).missing -/
def K_check_file_missing : KF := ⟨1,8,[(.tmp 2)],
(.seq (.ops [o 2 (.mv (.c (.bool false)))])
(.seq (.ops [m 3 0,
o 4 (.nilck (.t 3)),
o 5 (.fieldAddr 10 (.t 4)),
o 6 (.load false 1 (.t 5)),
o 7 (.bin .eql 0 true (.t 6) (.c (.int .i64 (-1)))),
m 2 7])
(.ret [2])))⟩
/-! legate/check.first -/
def L_check_first_0 : KC :=
(.seq (.ops [o 8 (.bin .lss 0 false (.t 7) (.t 6))])
(.seq (.cond (.t 8)
.skip
(.exit [] 0))
(.seq (.block 1
(.seq (.ops [o 9 (.idxAddrSl 2 (.t 5) (.t 7)),
o 10 (.load true 2 (.t 9)),
o 4 (.new [(.int .u8 0),.nilFunc] none),
u (.store 2 (.t 4) (.t 10))])
(.seq (.ops [o 11 (.fieldAddr 1 (.t 4)),
o 12 (.load false 1 (.t 11)),
o 13 (.callV (.t 12) [])])
(.cond (.t 13)
(.seq (.ops [o 14 (.fieldAddr 0 (.t 4)),
o 15 (.load false 1 (.t 14)),
m 2 15])
(.ret [2]))
.skip))))
(.ops [o 16 (.bin .add 0 true (.t 7) (.c (.int .i64 1))),
m 7 16]))))
def K_check_first : KF := ⟨1,17,[(.tmp 2)],
(.seq (.ops [o 2 (.mv (.c (.int .u8 0)))])
(.seq (.seq (.ops [m 5 0,
o 6 (.len 1 (.t 5)),
o 7 (.mv (.c (.int .i64 0)))])
(.block 0
(.loop [5,6,7] L_check_first_0)))
(.seq (.ops [o 2 (.mv (.c (.int .u8 0)))])
(.ret [2]))))⟩
/-! legate/legatelaw15.Long -/
def L_legatelaw15_Long_0 : KC :=
(.seq (.seq (.ops [m 12 5,
m 13 0,
m 14 4,
o 15 (.idxAddrSl 2 (.t 13) (.t 14)),
o 16 (.fieldAddr 1 (.t 15)),
o 17 (.load false 1 (.t 16)),
o 18 (.len 1 (.t 17)),
o 19 (.bin .lss 0 false (.t 12) (.t 18)),
m 20 19,
og 21 20 true (.mv (.t 3)),
og 22 20 true (.bin .lss 0 true (.t 21) (.c (.int .i64 5000))),
o 23 (.pick (.t 20) (.t 22) (.c (.bool false)))])
(.cond (.t 23)
.skip
(.exit [0,3,4] 2)))
(.seq (.block 3
(.ops [m 26 3,
o 27 (.bin .add 0 true (.t 26) (.c (.int .i64 10))),
m 28 0,
m 29 4,
o 30 (.idxAddrSl 2 (.t 28) (.t 29)),
o 31 (.fieldAddr 1 (.t 30)),
o 32 (.load false 1 (.t 31)),
m 33 5,
o 34 (.idxAddrSl 1 (.t 32) (.t 33)),
o 35 (.load false 1 (.t 34)),
o 36 (.len 0 (.t 35)),
o 37 (.minmax false (.c (.int .i64 5000)) (.t 36)),
o 38 (.bin .add 0 false (.t 27) (.t 37)),
m 3 38]))
(.ops [m 24 5,
o 25 (.bin .add 0 true (.t 24) (.c (.int .i64 1))),
m 5 25])))
def L_legatelaw15_Long_1 : KC :=
(.seq (.seq (.ops [m 6 4,
m 7 0,
o 8 (.len 1 (.t 7)),
o 9 (.bin .lss 0 false (.t 6) (.t 8))])
(.cond (.t 9)
.skip
(.exit [3] 0)))
(.seq (.block 1
(.seq (.ops [o 5 (.mv (.c (.int .i64 0)))])
(.block 2
(.loop [0,3,4,5] L_legatelaw15_Long_0))))
(.ops [m 10 4,
o 11 (.bin .add 0 true (.t 10) (.c (.int .i64 1))),
m 4 11])))
def K_legatelaw15_Long : KF := ⟨1,41,[(.tmp 2)],
(.seq (.ops [o 2 (.mv (.c (.bool false)))])
(.seq (.ops [o 3 (.mv (.c (.int .i64 0)))])
(.seq (.seq (.ops [o 4 (.mv (.c (.int .i64 0)))])
(.block 0
(.loop [0,3,4] L_legatelaw15_Long_1)))
(.seq (.ops [m 39 3,
o 40 (.bin .geq 0 true (.t 39) (.c (.int .i64 5000))),
m 2 40])
(.ret [2])))))⟩
/-! legate/legatelaw17.LongKeys -/
def L_legatelaw17_LongKeys_0 : KC :=
(.seq (.seq (.ops [m 7 3,
m 8 0,
o 9 (.len 1 (.t 8)),
o 10 (.bin .lss 0 false (.t 7) (.t 9))])
(.cond (.t 10)
.skip
(.exit [] 0)))
(.seq (.block 1
(.seq (.ops [m 13 0,
m 14 3,
o 15 (.idxAddrSl 2 (.t 13) (.t 14)),
o 16 (.fieldAddr 0 (.t 15)),
o 17 (.load false 1 (.t 16)),
o 18 (.len 0 (.t 17)),
o 19 (.bin .gtr 0 true (.t 18) (.c (.int .i64 300))),
m 20 19,
og 21 20 false (.mv (.t 0)),
og 22 20 false (.mv (.t 3)),
og 23 20 false (.idxAddrSl 2 (.t 21) (.t 22)),
og 24 20 false (.fieldAddr 1 (.t 23)),
og 25 20 false (.load false 1 (.t 24)),
og 26 20 false (.len 0 (.t 25)),
og 27 20 false (.bin .gtr 0 true (.t 26) (.c (.int .i64 300))),
o 28 (.pick (.t 20) (.c (.bool true)) (.t 27))])
(.cond (.t 28)
(.seq (.ops [o 2 (.mv (.c (.bool true)))])
(.ret [2]))
.skip)))
(.ops [m 11 3,
o 12 (.bin .add 0 true (.t 11) (.c (.int .i64 1))),
m 3 12])))
def K_legatelaw17_LongKeys : KF := ⟨1,29,[(.tmp 2)],
(.seq (.ops [o 2 (.mv (.c (.bool false)))])
(.seq (.seq (.ops [m 4 0,
o 5 (.len 1 (.t 4)),
o 6 (.bin .gtr 0 true (.t 5) (.c (.int .i64 40)))])
(.cond (.t 6)
(.seq (.ops [o 2 (.mv (.c (.bool true)))])
(.ret [2]))
.skip))
(.seq (.seq (.ops [o 3 (.mv (.c (.int .i64 0)))])
(.block 0
(.loop [0,3] L_legatelaw17_LongKeys_0)))
(.seq (.ops [o 2 (.mv (.c (.bool false)))])
(.ret [2])))))⟩
/-! legate/legatelaw17.LongVerdicts -/
def L_legatelaw17_LongVerdicts_0 : KC :=
(.seq (.seq (.ops [m 7 3,
m 8 0,
o 9 (.len 1 (.t 8)),
o 10 (.bin .lss 0 false (.t 7) (.t 9))])
(.cond (.t 10)
.skip
(.exit [] 0)))
(.seq (.block 1
(.seq (.ops [m 13 0,
m 14 3,
o 15 (.idxAddrSl 3 (.t 13) (.t 14)),
o 16 (.fieldAddr 0 (.t 15)),
o 17 (.load false 1 (.t 16)),
o 18 (.len 0 (.t 17)),
o 19 (.bin .gtr 0 true (.t 18) (.c (.int .i64 300))),
m 20 19,
og 21 20 false (.mv (.t 0)),
og 22 20 false (.mv (.t 3)),
og 23 20 false (.idxAddrSl 3 (.t 21) (.t 22)),
og 24 20 false (.fieldAddr 1 (.t 23)),
og 25 20 false (.load false 1 (.t 24)),
og 26 20 false (.len 0 (.t 25)),
og 27 20 false (.bin .gtr 0 true (.t 26) (.c (.int .i64 300))),
o 28 (.pick (.t 20) (.c (.bool true)) (.t 27)),
m 29 28,
og 30 29 false (.mv (.t 0)),
og 31 29 false (.mv (.t 3)),
og 32 29 false (.idxAddrSl 3 (.t 30) (.t 31)),
og 33 29 false (.fieldAddr 2 (.t 32)),
og 34 29 false (.load false 1 (.t 33)),
og 35 29 false (.len 0 (.t 34)),
og 36 29 false (.bin .gtr 0 true (.t 35) (.c (.int .i64 300))),
o 37 (.pick (.t 29) (.c (.bool true)) (.t 36))])
(.cond (.t 37)
(.seq (.ops [o 2 (.mv (.c (.bool true)))])
(.ret [2]))
.skip)))
(.ops [m 11 3,
o 12 (.bin .add 0 true (.t 11) (.c (.int .i64 1))),
m 3 12])))
def K_legatelaw17_LongVerdicts : KF := ⟨1,38,[(.tmp 2)],
(.seq (.ops [o 2 (.mv (.c (.bool false)))])
(.seq (.seq (.ops [m 4 0,
o 5 (.len 1 (.t 4)),
o 6 (.bin .gtr 0 true (.t 5) (.c (.int .i64 60)))])
(.cond (.t 6)
(.seq (.ops [o 2 (.mv (.c (.bool true)))])
(.ret [2]))
.skip))
(.seq (.seq (.ops [o 3 (.mv (.c (.int .i64 0)))])
(.block 0
(.loop [0,3] L_legatelaw17_LongVerdicts_0)))
(.seq (.ops [o 2 (.mv (.c (.bool false)))])
(.ret [2])))))⟩
/-! legate/legatelaw21.LongHashes -/
def L_legatelaw21_LongHashes_0 : KC :=
(.seq (.seq (.ops [m 5 4,
m 6 0,
o 7 (.len 1 (.t 6)),
o 8 (.bin .lss 0 false (.t 5) (.t 7)),
m 9 8,
og 10 9 true (.mv (.t 3)),
og 11 9 true (.bin .lss 0 true (.t 10) (.c (.int .i64 5000))),
o 12 (.pick (.t 9) (.t 11) (.c (.bool false)))])
(.cond (.t 12)
.skip
(.exit [3] 0)))
(.seq (.block 1
(.plain [m 15 3,
o 16 (.bin .add 0 true (.t 15) (.c (.int .i64 10))),
m 17 0,
m 18 4,
o 19 (.idxAddrSl 2 (.t 17) (.t 18)),
o 20 (.fieldAddr 0 (.t 19)),
o 21 (.load false 1 (.t 20)),
o 22 (.len 0 (.t 21)),
o 23 (.minmax false (.c (.int .i64 5000)) (.t 22)),
o 24 (.bin .add 0 false (.t 16) (.t 23)),
m 25 0,
m 26 4,
o 27 (.idxAddrSl 2 (.t 25) (.t 26)),
o 28 (.fieldAddr 1 (.t 27)),
o 29 (.load false 1 (.t 28)),
o 30 (.len 0 (.t 29)),
o 31 (.minmax false (.c (.int .i64 5000)) (.t 30)),
o 32 (.bin .add 0 false (.t 24) (.t 31)),
m 3 32]))
(.ops [m 13 4,
o 14 (.bin .add 0 true (.t 13) (.c (.int .i64 1))),
m 4 14])))
def K_legatelaw21_LongHashes : KF := ⟨1,35,[(.tmp 2)],
(.seq (.ops [o 2 (.mv (.c (.bool false)))])
(.seq (.ops [o 3 (.mv (.c (.int .i64 0)))])
(.seq (.seq (.ops [o 4 (.mv (.c (.int .i64 0)))])
(.block 0
(.loop [0,3,4] L_legatelaw21_LongHashes_0)))
(.seq (.ops [m 33 3,
o 34 (.bin .geq 0 true (.t 33) (.c (.int .i64 5000))),
m 2 34])
(.ret [2])))))⟩
/-! legate/legatelaw23.Long -/
def L_legatelaw23_Long_0 : KC :=
(.seq (.seq (.ops [m 12 5,
m 13 0,
m 14 4,
o 15 (.idxAddrSl 3 (.t 13) (.t 14)),
o 16 (.fieldAddr 2 (.t 15)),
o 17 (.load false 1 (.t 16)),
o 18 (.len 1 (.t 17)),
o 19 (.bin .lss 0 false (.t 12) (.t 18))])
(.cond (.t 19)
.skip
(.exit [0,3,4] 2)))
(.seq (.block 3
(.seq (.ops [m 22 3,
o 23 (.bin .add 0 true (.t 22) (.c (.int .i64 1))),
m 3 23])
(.seq (.ops [m 24 3,
o 25 (.bin .gtr 0 true (.t 24) (.c (.int .i64 600))),
m 26 25,
og 27 26 false (.mv (.t 0)),
og 28 26 false (.mv (.t 4)),
og 29 26 false (.idxAddrSl 3 (.t 27) (.t 28)),
og 30 26 false (.fieldAddr 2 (.t 29)),
og 31 26 false (.load false 1 (.t 30)),
og 32 26 false (.mv (.t 5)),
og 33 26 false (.idxAddrSl 4 (.t 31) (.t 32)),
og 34 26 false (.load true 4 (.t 33)),
og 35 26 false (.callF f_legatelaw23_LongPin [(.t 34)]),
o 36 (.pick (.t 26) (.c (.bool true)) (.t 35))])
(.cond (.t 36)
(.seq (.ops [o 2 (.mv (.c (.bool true)))])
(.ret [2]))
.skip))))
(.ops [m 20 5,
o 21 (.bin .add 0 true (.t 20) (.c (.int .i64 1))),
m 5 21])))
def L_legatelaw23_Long_1 : KC :=
(.seq (.seq (.ops [m 6 4,
m 7 0,
o 8 (.len 1 (.t 7)),
o 9 (.bin .lss 0 false (.t 6) (.t 8))])
(.cond (.t 9)
.skip
(.exit [] 0)))
(.seq (.block 1
(.seq (.ops [o 5 (.mv (.c (.int .i64 0)))])
(.block 2
(.loop [0,3,4,5] L_legatelaw23_Long_0))))
(.ops [m 10 4,
o 11 (.bin .add 0 true (.t 10) (.c (.int .i64 1))),
m 4 11])))
def K_legatelaw23_Long : KF := ⟨1,37,[(.tmp 2)],
(.seq (.ops [o 2 (.mv (.c (.bool false)))])
(.seq (.ops [o 3 (.mv (.c (.int .i64 0)))])
(.seq (.seq (.ops [o 4 (.mv (.c (.int .i64 0)))])
(.block 0
(.loop [0,3,4] L_legatelaw23_Long_1)))
(.seq (.ops [o 2 (.mv (.c (.bool false)))])
(.ret [2])))))⟩
/-! legate/legatelaw23.LongPin -/
def K_legatelaw23_LongPin : KF := ⟨1,12,[(.tmp 2)],
(.seq (.ops [o 1 (.box (.t 0)),
o 2 (.mv (.c (.bool false)))])
(.seq (.ops [o 3 (.fieldAddr 0 (.t 1)),
o 4 (.load false 1 (.t 3)),
o 5 (.len 0 (.t 4)),
o 6 (.bin .gtr 0 true (.t 5) (.c (.int .i64 1000))),
m 7 6,
og 8 7 false (.fieldAddr 3 (.t 1)),
og 9 7 false (.load false 1 (.t 8)),
og 10 7 false (.callF f_legatelaw21_LongHashes [(.t 9)]),
o 11 (.pick (.t 7) (.c (.bool true)) (.t 10)),
m 2 11])
(.ret [2])))⟩
/-! legate/legatelaw27.CheckNothing -/
def K_legatelaw27_CheckNothing : KF := ⟨10,189,[(.tmp 20)],
(.seq (.ops [o 10 (.box (.t 0)),
o 11 (.box (.t 1)),
o 12 (.box (.t 2)),
o 17 (.box (.t 7)),
o 20 (.mv (.c (.bool false)))])
(.seq (.seq (.ops [o 30 (.load true 2 (.t 10)),
m 31 5,
o 32 (.callF f_legatelaw27_long [(.t 30),(.t 31)]),
m 33 32,
og 34 33 false (.load true 4 (.t 11)),
og 35 33 false (.load true 2 (.t 12)),
og 36 33 false (.mv (.t 3)),
og 37 33 false (.callF f_legatelaw27_longBy [(.t 34),(.t 35),(.t 36)]),
o 38 (.pick (.t 33) (.c (.bool true)) (.t 37)),
m 39 38,
og 40 39 false (.load true 2 (.t 12)),
og 41 39 false (.buildSl [(.int .i64 0),.nils] 1 2 [(0,2,(.t 40))]),
og 42 39 false (.callF f_legatelaw15_Long [(.t 41)]),
o 43 (.pick (.t 39) (.c (.bool true)) (.t 42)),
m 44 43,
og 45 44 false (.mv (.t 3)),
og 46 44 false (.callF f_legatelaw17_LongKeys [(.t 45)]),
o 47 (.pick (.t 44) (.c (.bool true)) (.t 46)),
m 48 47,
og 49 48 false (.load true 3 (.t 17)),
og 50 48 false (.buildSl [(.int .i64 0),(.int .i64 0),.nils] 1 3 [(0,3,(.t 49))]),
og 51 48 false (.callF f_legatelaw23_Long [(.t 50)]),
o 52 (.pick (.t 48) (.c (.bool true)) (.t 51)),
m 53 52,
og 54 53 false (.mv (.t 8)),
og 55 53 false (.len 0 (.t 54)),
og 56 53 false (.bin .gtr 0 true (.t 55) (.c (.int .i64 1000))),
o 57 (.pick (.t 53) (.c (.bool true)) (.t 56)),
m 58 57,
og 59 58 false (.callF f_legatelaw27_awake []),
og 60 58 false (.un .not (.t 59)),
o 61 (.pick (.t 58) (.c (.bool true)) (.t 60))])
(.cond (.t 61)
(.seq (.ops [o 62 (.callF f_legatelaw27_awake []),
m 20 62])
(.ret [20]))
.skip))
(.seq (.seq (.ops [m 63 6,
o 64 (.bin .lss 0 true (.t 63) (.c (.int .i64 0)))])
(.cond (.t 64)
(.seq (.drawn [o 66 (.load true 2 (.t 10)),
o 67 (.callF f_legatelaw27_verifier [(.t 66)]),
⟨(some 68),(.load true 4 (.t 11)),none,[1]⟩,
⟨(some 69),(.load true 2 (.t 12)),none,[1]⟩,
m 70 3,
m 71 4,
m 72 5,
m 73 6,
o 74 (.callF f_check_Role [(.t 67),(.t 68),(.t 69),(.t 70),(.t 71),(.t 72),(.t 73)]),
m 65 74,
o 75 (.extract (.t 65) 0),
o 76 (.extract (.t 65) 1),
u .pend,
o 21 (.fill 12 21 9 (.t 75)),
m 22 76])
(.seq (.drawn [o 78 (.load true 2 (.t 10)),
o 79 (.callF f_legatelaw27_verifier [(.t 78)]),
m 80 3,
⟨(some 81),(.load true 2 (.t 12)),none,[1]⟩,
o 82 (.build [(.int .i64 0),(.int .i64 0),.nils,(.int .i64 0),.nils,(.int .i64 0),.nils,(.int .i64 0),.nils] [(2,1,(.t 80)),(5,2,(.t 81))]),
m 83 4,
m 84 5,
m 85 6,
o 86 (.callF f_check_Snapshot [(.t 79),(.t 82),(.t 83),(.t 84),(.t 85)]),
m 77 86,
o 87 (.extract (.t 77) 0),
o 88 (.extract (.t 77) 1),
u .pend,
o 23 (.fill 12 23 3 (.t 87)),
m 24 88])
(.seq (.ops [m 89 22,
m 90 24,
o 91 (.bin .neq 0 false (.t 89) (.t 90)),
m 92 91,
og 93 92 false (.mv (.t 22)),
og 94 92 false (.bin .eql 0 true (.t 93) (.c (.int .u8 2))),
og 95 92 false (.mv (.t 6)),
og 96 92 false (.bin .eql 0 true (.t 95) (.c (.int .i64 (-1)))),
og 97 92 false (.bin .neq 1 false (.t 94) (.t 96)),
o 98 (.pick (.t 92) (.c (.bool true)) (.t 97)),
m 99 98,
og 100 99 false (.mv (.t 22)),
og 101 99 false (.bin .eql 0 true (.t 100) (.c (.int .u8 3))),
og 102 99 false (.mv (.t 6)),
og 103 99 false (.bin .neq 0 true (.t 102) (.c (.int .i64 (-1)))),
og 104 99 false (.bin .neq 1 false (.t 101) (.t 103)),
o 105 (.pick (.t 99) (.c (.bool true)) (.t 104))])
(.cond (.t 105)
(.seq (.ops [o 20 (.mv (.c (.bool false)))])
(.ret [20]))
.skip))))
.skip))
(.seq (.ops [o 107 (.load true 3 (.t 17)),
m 108 8,
o 109 (.callF f_snap_Pin [(.t 107),(.t 108)]),
m 106 109,
o 110 (.extract (.t 106) 0),
o 111 (.extract (.t 106) 1),
o 25 (.new [(.str []),(.int .i64 0),(.int .i64 0),.nils] none),
u (.store 4 (.t 25) (.t 110)),
m 26 111])
(.seq (.ops [o 113 (.load true 3 (.t 17)),
m 114 8,
m 115 9,
o 116 (.callF f_check_Cap [(.t 113),(.t 114),(.t 115)]),
m 112 116,
o 117 (.extract (.t 112) 0),
o 118 (.extract (.t 112) 1),
o 119 (.extract (.t 112) 2),
o 27 (.new [(.str []),(.int .i64 0),(.int .i64 0),.nils] none),
u (.store 4 (.t 27) (.t 117)),
m 28 118,
m 29 119])
(.seq (.block 0
(.seq (.ops [m 121 26,
o 122 (.un .not (.t 121)),
m 120 122])
(.cond (.t 120)
(.seq (.ops [m 123 29,
o 124 (.bin .eql 0 true (.t 123) (.c (.int .u8 1))),
m 125 124,
og 126 125 true (.mv (.t 28)),
og 127 125 true (.bin .eql 0 true (.t 126) (.c (.int .i64 0))),
o 128 (.pick (.t 125) (.t 127) (.c (.bool false))),
m 129 128,
og 130 129 true (.load true 4 (.t 27)),
og 131 129 true (.build [(.str []),(.int .i64 0),(.int .i64 0),.nils] []),
og 132 129 true (.callF f_legateref23_SamePin [(.t 130),(.t 131)]),
o 133 (.pick (.t 129) (.t 132) (.c (.bool false))),
m 20 133])
(.ret [20]))
(.seq (.ops [o 135 (.fieldAddr 2 (.t 25)),
o 136 (.load false 1 (.t 135)),
m 137 9,
o 138 (.bin .gtr 0 false (.t 136) (.t 137)),
m 139 138,
og 140 139 true (.fieldAddr 2 (.t 25)),
og 141 139 true (.load false 1 (.t 140)),
og 142 139 true (.bin .geq 0 true (.t 141) (.c (.int .i64 0))),
o 143 (.pick (.t 139) (.t 142) (.c (.bool false))),
m 134 143])
(.cond (.t 134)
(.seq (.ops [m 144 29,
o 145 (.bin .eql 0 true (.t 144) (.c (.int .u8 3))),
m 146 145,
og 147 146 true (.mv (.t 28)),
og 148 146 true (.bin .eql 0 true (.t 147) (.c (.int .i64 0))),
o 149 (.pick (.t 146) (.t 148) (.c (.bool false))),
m 150 149,
og 151 150 true (.load true 4 (.t 27)),
og 152 150 true (.build [(.str []),(.int .i64 0),(.int .i64 0),.nils] []),
og 153 150 true (.callF f_legateref23_SamePin [(.t 151),(.t 152)]),
o 154 (.pick (.t 150) (.t 153) (.c (.bool false))),
m 20 154])
(.ret [20]))
(.seq (.ops [o 156 (.fieldAddr 2 (.t 25)),
o 157 (.load false 1 (.t 156)),
o 158 (.bin .lss 0 true (.t 157) (.c (.int .i64 0))),
m 155 158])
(.cond (.t 155)
(.seq (.ops [m 159 29,
o 160 (.bin .eql 0 true (.t 159) (.c (.int .u8 0))),
m 161 160,
og 162 161 true (.mv (.t 28)),
og 163 161 true (.mv (.t 9)),
og 164 161 true (.bin .eql 0 false (.t 162) (.t 163)),
o 165 (.pick (.t 161) (.t 164) (.c (.bool false))),
m 166 165,
og 167 166 true (.load true 4 (.t 27)),
og 168 166 true (.load true 4 (.t 25)),
og 169 166 true (.callF f_legateref23_SamePin [(.t 167),(.t 168)]),
o 170 (.pick (.t 166) (.t 169) (.c (.bool false))),
m 20 170])
(.ret [20]))
.skip)))))))
(.seq (.ops [m 171 29,
o 172 (.bin .eql 0 true (.t 171) (.c (.int .u8 0))),
m 173 172,
og 174 173 true (.mv (.t 28)),
og 175 173 true (.fieldAddr 2 (.t 25)),
og 176 173 true (.load false 1 (.t 175)),
og 177 173 true (.bin .eql 0 false (.t 174) (.t 176)),
o 178 (.pick (.t 173) (.t 177) (.c (.bool false))),
m 179 178,
og 180 179 true (.mv (.t 28)),
og 181 179 true (.mv (.t 9)),
og 182 179 true (.bin .leq 0 false (.t 180) (.t 181)),
o 183 (.pick (.t 179) (.t 182) (.c (.bool false))),
m 184 183,
og 185 184 true (.load true 4 (.t 27)),
og 186 184 true (.load true 4 (.t 25)),
og 187 184 true (.callF f_legateref23_SamePin [(.t 185),(.t 186)]),
o 188 (.pick (.t 184) (.t 187) (.c (.bool false))),
m 20 188])
(.ret [20]))))))))⟩
/-! legate/legatelaw27.long -/
def K_legatelaw27_long : KF := ⟨2,13,[(.tmp 4)],
(.seq (.ops [o 2 (.box (.t 0)),
o 4 (.mv (.c (.bool false)))])
(.seq (.ops [o 5 (.fieldAddr 1 (.t 2)),
o 6 (.load false 1 (.t 5)),
o 7 (.callF f_legatelaw17_LongVerdicts [(.t 6)]),
m 8 7,
og 9 8 false (.mv (.t 1)),
og 10 8 false (.len 0 (.t 9)),
og 11 8 false (.bin .gtr 0 true (.t 10) (.c (.int .i64 12000))),
o 12 (.pick (.t 8) (.c (.bool true)) (.t 11)),
m 4 12])
(.ret [4])))⟩
/-! legate/legatelaw27.longBy -/
def K_legatelaw27_longBy : KF := ⟨3,25,[(.tmp 6)],
(.seq (.ops [o 3 (.box (.t 0)),
o 4 (.box (.t 1)),
o 6 (.mv (.c (.bool false)))])
(.seq (.ops [o 7 (.fieldAddr 0 (.t 3)),
o 8 (.load false 1 (.t 7)),
o 9 (.len 0 (.t 8)),
o 10 (.bin .gtr 0 true (.t 9) (.c (.int .i64 1000))),
m 11 10,
og 12 11 false (.fieldAddr 3 (.t 3)),
og 13 11 false (.load false 1 (.t 12)),
og 14 11 false (.callF f_legatelaw21_LongHashes [(.t 13)]),
o 15 (.pick (.t 11) (.c (.bool true)) (.t 14)),
m 16 15,
og 17 16 false (.load true 2 (.t 4)),
og 18 16 false (.buildSl [(.int .i64 0),.nils] 1 2 [(0,2,(.t 17))]),
og 19 16 false (.callF f_legatelaw15_Long [(.t 18)]),
o 20 (.pick (.t 16) (.c (.bool true)) (.t 19)),
m 21 20,
og 22 21 false (.mv (.t 2)),
og 23 21 false (.callF f_legatelaw17_LongKeys [(.t 22)]),
o 24 (.pick (.t 21) (.c (.bool true)) (.t 23)),
m 6 24])
(.ret [6])))⟩
/-! legate/legateref21.SameHashes -/
def L_legateref21_SameHashes_0 : KC :=
(.seq (.seq (.ops [m 11 5,
m 12 0,
o 13 (.len 1 (.t 12)),
o 14 (.bin .lss 0 false (.t 11) (.t 13))])
(.cond (.t 14)
.skip
(.exit [] 0)))
(.seq (.block 1
(.seq (.plain [m 17 0,
m 18 5,
o 19 (.idxAddrSl 2 (.t 17) (.t 18)),
o 20 (.fieldAddr 0 (.t 19)),
o 21 (.load false 1 (.t 20)),
m 22 1,
m 23 5,
o 24 (.idxAddrSl 2 (.t 22) (.t 23)),
o 25 (.fieldAddr 0 (.t 24)),
o 26 (.load false 1 (.t 25)),
o 27 (.bin .neq 0 false (.t 21) (.t 26)),
m 28 27,
og 29 28 false (.mv (.t 0)),
og 30 28 false (.mv (.t 5)),
og 31 28 false (.idxAddrSl 2 (.t 29) (.t 30)),
og 32 28 false (.fieldAddr 1 (.t 31)),
og 33 28 false (.load false 1 (.t 32)),
og 34 28 false (.mv (.t 1)),
og 35 28 false (.mv (.t 5)),
og 36 28 false (.idxAddrSl 2 (.t 34) (.t 35)),
og 37 28 false (.fieldAddr 1 (.t 36)),
og 38 28 false (.load false 1 (.t 37)),
og 39 28 false (.bin .neq 0 false (.t 33) (.t 38)),
o 40 (.pick (.t 28) (.c (.bool true)) (.t 39))])
(.cond (.t 40)
(.seq (.ops [o 4 (.mv (.c (.bool false)))])
(.ret [4]))
.skip)))
(.ops [m 15 5,
o 16 (.bin .add 0 true (.t 15) (.c (.int .i64 1))),
m 5 16])))
def K_legateref21_SameHashes : KF := ⟨2,41,[(.tmp 4)],
(.seq (.ops [o 4 (.mv (.c (.bool false)))])
(.seq (.seq (.ops [m 6 0,
o 7 (.len 1 (.t 6)),
m 8 1,
o 9 (.len 1 (.t 8)),
o 10 (.bin .neq 0 false (.t 7) (.t 9))])
(.cond (.t 10)
(.seq (.ops [o 4 (.mv (.c (.bool false)))])
(.ret [4]))
.skip))
(.seq (.seq (.ops [o 5 (.mv (.c (.int .i64 0)))])
(.block 0
(.loop [0,1,5] L_legateref21_SameHashes_0)))
(.seq (.ops [o 4 (.mv (.c (.bool true)))])
(.ret [4])))))⟩
/-! legate/legateref23.SamePin -/
def K_legateref23_SamePin : KF := ⟨2,31,[(.tmp 4)],
(.seq (.ops [o 2 (.box (.t 0)),
o 3 (.box (.t 1)),
o 4 (.mv (.c (.bool false)))])
(.seq (.ops [o 5 (.fieldAddr 0 (.t 2)),
o 6 (.load false 1 (.t 5)),
o 7 (.fieldAddr 0 (.t 3)),
o 8 (.load false 1 (.t 7)),
o 9 (.bin .eql 0 false (.t 6) (.t 8)),
m 10 9,
og 11 10 true (.fieldAddr 1 (.t 2)),
og 12 10 true (.load false 1 (.t 11)),
og 13 10 true (.fieldAddr 1 (.t 3)),
og 14 10 true (.load false 1 (.t 13)),
og 15 10 true (.bin .eql 0 false (.t 12) (.t 14)),
o 16 (.pick (.t 10) (.t 15) (.c (.bool false))),
m 17 16,
og 18 17 true (.fieldAddr 2 (.t 2)),
og 19 17 true (.load false 1 (.t 18)),
og 20 17 true (.fieldAddr 2 (.t 3)),
og 21 17 true (.load false 1 (.t 20)),
og 22 17 true (.bin .eql 0 false (.t 19) (.t 21)),
o 23 (.pick (.t 17) (.t 22) (.c (.bool false))),
m 24 23,
og 25 24 true (.fieldAddr 3 (.t 2)),
og 26 24 true (.load false 1 (.t 25)),
og 27 24 true (.fieldAddr 3 (.t 3)),
og 28 24 true (.load false 1 (.t 27)),
og 29 24 true (.callF f_legateref21_SameHashes [(.t 26),(.t 28)]),
o 30 (.pick (.t 24) (.t 29) (.c (.bool false))),
m 4 30])
(.ret [4])))⟩
/-! legate/name.File -/
def K_name_File : KF := ⟨1,9,[(.tmp 2),(.tmp 3)],
(.seq (.ops [o 2 (.mv (.c (.str []))),
o 3 (.mv (.c (.int .i64 0)))])
(.seq (.seq (.ops [m 4 0,
o 5 (.callF f_name_Role [(.t 4)]),
o 6 (.un .not (.t 5))])
(.cond (.t 6)
(.seq (.ops [o 2 (.mv (.c (.str []))),
o 3 (.mv (.c (.int .i64 3)))])
(.ret [2,3]))
.skip))
(.seq (.ops [m 7 0,
o 8 (.bin .add 0 true (.t 7) (.c (.str [46,106,115,111,110]))),
m 2 8,
o 3 (.mv (.c (.int .i64 0)))])
(.ret [2,3]))))⟩
/-! legate/name.Role -/
def L_name_Role_0 : KC :=
(.seq (.ops [o 19 (.bin .lss 0 false (.t 18) (.t 17))])
(.seq (.cond (.t 19)
.skip
(.exit [] 0))
(.seq (.block 1
(.seq (.ops [m 20 18,
m 3 20])
(.seq (.ops [m 21 0,
m 22 3,
o 23 (.idxStr (.t 21) (.t 22)),
o 24 (.callF f_name_allowed [(.t 23)]),
o 25 (.un .not (.t 24))])
(.cond (.t 25)
(.seq (.ops [o 2 (.mv (.c (.bool false)))])
(.ret [2]))
.skip))))
(.ops [o 26 (.bin .add 0 true (.t 18) (.c (.int .i64 1))),
m 18 26]))))
def K_name_Role : KF := ⟨1,27,[(.tmp 2)],
(.seq (.ops [o 2 (.mv (.c (.bool false)))])
(.seq (.seq (.ops [m 4 0,
o 5 (.bin .eql 0 true (.t 4) (.c (.str []))),
m 6 5,
og 7 6 false (.mv (.t 0)),
og 8 6 false (.len 0 (.t 7)),
og 9 6 false (.bin .gtr 0 true (.t 8) (.c (.int .i64 64))),
o 10 (.pick (.t 6) (.c (.bool true)) (.t 9)),
m 11 10,
og 12 11 false (.mv (.t 0)),
og 13 11 false (.idxStr (.t 12) (.c (.int .i64 0))),
og 14 11 false (.bin .eql 0 true (.t 13) (.c (.int .u8 46))),
o 15 (.pick (.t 11) (.c (.bool true)) (.t 14))])
(.cond (.t 15)
(.seq (.ops [o 2 (.mv (.c (.bool false)))])
(.ret [2]))
.skip))
(.seq (.seq (.ops [m 16 0,
o 17 (.len 0 (.t 16)),
o 18 (.mv (.c (.int .i64 0)))])
(.block 0
(.loop [0,17,18] L_name_Role_0)))
(.seq (.ops [o 2 (.mv (.c (.bool true)))])
(.ret [2])))))⟩
/-! legate/name.allowed -/
def K_name_allowed : KF := ⟨1,32,[(.tmp 2)],
(.seq (.ops [o 2 (.mv (.c (.bool false)))])
(.seq (.block 0
(.seq (.seq (.ops [m 4 0,
o 5 (.bin .geq 0 true (.t 4) (.c (.int .u8 97))),
m 6 5,
og 7 6 true (.mv (.t 0)),
og 8 6 true (.bin .leq 0 true (.t 7) (.c (.int .u8 122))),
o 9 (.pick (.t 6) (.t 8) (.c (.bool false))),
m 3 9])
(.cond (.t 3)
.skip
(.seq (.ops [m 10 0,
o 11 (.bin .geq 0 true (.t 10) (.c (.int .u8 65))),
m 12 11,
og 13 12 true (.mv (.t 0)),
og 14 12 true (.bin .leq 0 true (.t 13) (.c (.int .u8 90))),
o 15 (.pick (.t 12) (.t 14) (.c (.bool false))),
m 3 15])
(.cond (.t 3)
.skip
(.ops [m 16 0,
o 17 (.bin .geq 0 true (.t 16) (.c (.int .u8 48))),
m 18 17,
og 19 18 true (.mv (.t 0)),
og 20 18 true (.bin .leq 0 true (.t 19) (.c (.int .u8 57))),
o 21 (.pick (.t 18) (.t 20) (.c (.bool false))),
m 3 21])))))
(.cond (.t 3)
(.seq (.ops [o 2 (.mv (.c (.bool true)))])
(.ret [2]))
.skip)))
(.seq (.ops [m 22 0,
o 23 (.bin .eql 0 true (.t 22) (.c (.int .u8 46))),
m 24 23,
og 25 24 false (.mv (.t 0)),
og 26 24 false (.bin .eql 0 true (.t 25) (.c (.int .u8 95))),
o 27 (.pick (.t 24) (.c (.bool true)) (.t 26)),
m 28 27,
og 29 28 false (.mv (.t 0)),
og 30 28 false (.bin .eql 0 true (.t 29) (.c (.int .u8 45))),
o 31 (.pick (.t 28) (.c (.bool true)) (.t 30)),
m 2 31])
(.ret [2]))))⟩
/-! legate/snap.Pin -/
def L_snap_Pin_0 : KC :=
(.seq (.ops [o 22 (.bin .lss 0 false (.t 21) (.t 20))])
(.seq (.cond (.t 22)
.skip
(.exit [4] 0))
(.seq (.block 1
(.seq (.ops [o 23 (.idxAddrSl 4 (.t 19) (.t 21)),
o 24 (.load true 4 (.t 23)),
o 9 (.new [(.str []),(.int .i64 0),(.int .i64 0),.nils] none),
u (.store 4 (.t 9) (.t 24))])
(.seq (.ops [o 25 (.fieldAddr 0 (.t 9)),
o 26 (.load false 1 (.t 25)),
m 27 6,
o 28 (.bin .eql 0 false (.t 26) (.t 27))])
(.cond (.t 28)
(.seq (.ops [o 29 (.fieldAddr 3 (.t 9)),
o 30 (.load false 1 (.t 29)),
o 31 (.callF f_slices_Clone_api_Hash_api_Hash [(.t 30)]),
o 32 (.fieldAddr 3 (.t 9)),
u (.store 1 (.t 32) (.t 31))])
(.seq (.ops [o 33 (.load true 4 (.t 9)),
u (.store 4 (.t 4) (.t 33)),
o 5 (.mv (.c (.bool true)))])
(.ret [4,5])))
.skip))))
(.ops [o 34 (.bin .add 0 true (.t 21) (.c (.int .i64 1))),
m 21 34]))))
def K_snap_Pin : KF := ⟨2,36,[(.cell 4 true 4),(.tmp 5)],
(.seq (.ops [o 2 (.box (.t 0)),
o 4 (.new [(.str []),(.int .i64 0),(.int .i64 0),.nils] none),
o 5 (.mv (.c (.bool false)))])
(.seq (.ops [m 11 1,
o 12 (.callF f_name_File [(.t 11)]),
m 10 12,
o 13 (.extract (.t 10) 0),
o 14 (.extract (.t 10) 1),
m 6 13,
m 7 14])
(.seq (.seq (.ops [m 15 7,
o 16 (.bin .neq 0 true (.t 15) (.c (.int .i64 0)))])
(.cond (.t 16)
(.seq (.ops [o 17 (.build [(.str []),(.int .i64 0),(.int .i64 0),.nils] []),
u (.store 4 (.t 4) (.t 17)),
o 5 (.mv (.c (.bool false)))])
(.ret [4,5]))
.skip))
(.seq (.seq (.ops [o 18 (.fieldAddr 2 (.t 2)),
o 19 (.load false 1 (.t 18)),
o 20 (.len 1 (.t 19)),
o 21 (.mv (.c (.int .i64 0)))])
(.block 0
(.loop [4,6,19,20,21] L_snap_Pin_0)))
(.seq (.ops [o 35 (.build [(.str []),(.int .i64 0),(.int .i64 0),.nils] []),
u (.store 4 (.t 4) (.t 35)),
o 5 (.mv (.c (.bool false)))])
(.ret [4,5]))))))⟩
/-! slices.Clone[[]legate/api.Hash,legate/api.Hash] -/
def K_slices_Clone_api_Hash_api_Hash : KF := ⟨1,8,[(.tmp 2)],
(.seq (.ops [o 2 (.mv (.c .nils))])
(.seq (.seq (.ops [m 3 0,
o 4 (.bin .eql 7 true (.t 3) (.c .nils))])
(.cond (.t 4)
(.seq (.ops [o 2 (.mv (.c .nils))])
(.ret [2]))
.skip))
(.seq (.ops [o 5 (.buildSl [(.str []),(.str [])] 0 2 []),
m 6 0,
o 7 (.app false 2 32 none (.t 5) (.t 6)),
m 2 7])
(.ret [2]))))⟩
/-! legate/legatelaw27.both -/
def K_legatelaw27_both : KF := ⟨1,16,[(.tmp 2),(.tmp 3)],
(.seq (.ops [o 1 (.box (.t 0)),
o 2 (.mv (.c .nilp)),
o 3 (.mv (.c .nilp))])
(.seq (.seq (.ops [o 4 (.fieldAddr 0 (.t 1)),
o 5 (.load false 1 (.t 4))])
(.cond (.t 5)
(.seq (.ops [o 6 (.callF f_judge_HMAC []),
o 7 (.build [(.bool false),.nils] [(0,1,(.c (.bool true)))]),
o 8 (.box (.t 7)),
m 2 6,
m 3 8])
(.ret [2,3]))
.skip))
(.seq (.seq (.drawn [o 9 (.fieldAddr 1 (.t 1)),
o 10 (.load false 1 (.t 9)),
o 11 (.callF f_judge_Table [(.t 10)]),
o 12 (.fieldAddr 1 (.t 1)),
⟨(some 13),(.load false 1 (.t 12)),none,[2]⟩,
o 14 (.build [(.bool false),.nils] [(1,1,(.t 13))]),
u .pend,
m 2 11,
u .pend])
(.ops [o 15 (.fill 0 15 2 (.t 14)),
m 3 15]))
(.ret [2,3]))))⟩
/-! legate/legatelaw27.verifier -/
def K_legatelaw27_verifier : KF := ⟨1,11,[(.tmp 2)],
(.seq (.ops [o 1 (.box (.t 0)),
o 2 (.mv (.c .nilp))])
(.seq (.ops [o 6 (.load true 2 (.t 1)),
o 7 (.callF f_legatelaw27_both [(.t 6)]),
m 5 7,
o 8 (.extract (.t 5) 0),
o 9 (.extract (.t 5) 1),
m 3 8,
m 4 9])
(.seq (.ops [m 10 3,
m 2 10])
(.ret [2]))))⟩
/-! legate/judge.HMAC -/
def K_judge_HMAC : KF := ⟨0,5,[(.tmp 0)],
(.seq (.ops [o 0 (.mv (.c .nilp))])
(.seq (.ops [o 1 (.build [] []),
o 2 (.mkIface 121 (.t 1)),
o 3 (.build [.nilIface] [(0,1,(.t 2))]),
o 4 (.box (.t 3)),
m 0 4])
(.ret [0])))⟩
/-! legate/judge.Table -/
def K_judge_Table : KF := ⟨1,9,[(.tmp 2)],
(.seq (.ops [o 2 (.mv (.c .nilp))])
(.seq (.ops [m 3 0,
o 4 (.callF f_slices_Clone_api_Verdict_api_Verdict [(.t 3)]),
o 5 (.build [.nils] [(0,1,(.t 4))]),
o 6 (.mkIface 251 (.t 5)),
o 7 (.build [.nilIface] [(0,1,(.t 6))]),
o 8 (.box (.t 7)),
m 2 8])
(.ret [2])))⟩
/-! slices.Clone[[]legate/api.Verdict,legate/api.Verdict] -/
def K_slices_Clone_api_Verdict_api_Verdict : KF := ⟨1,8,[(.tmp 2)],
(.seq (.ops [o 2 (.mv (.c .nils))])
(.seq (.seq (.ops [m 3 0,
o 4 (.bin .eql 7 true (.t 3) (.c .nils))])
(.cond (.t 4)
(.seq (.ops [o 2 (.mv (.c .nils))])
(.ret [2]))
.skip))
(.seq (.ops [o 5 (.buildSl [(.str []),(.str []),(.str [])] 0 3 []),
m 6 0,
o 7 (.app false 3 48 none (.t 5) (.t 6)),
m 2 7])
(.ret [2]))))⟩
end Go.Ev

namespace Go.Ev
set_option maxRecDepth 100000
set_option linter.unusedSimpArgs false
variable {C : Ctx}
def nameB (b : UInt8) : Bool := (97 ≤ b.toNat && b.toNat ≤ 122) || (65 ≤ b.toNat && b.toNat ≤ 90) || (48 ≤ b.toNat && b.toNat ≤ 57) || b.toNat == 46 || b.toNat == 95 || b.toNat == 45
theorem name_allowed (hC : Has C f_name_allowed K_name_allowed) (b : UInt8) (σ : St) : semF C f_name_allowed [.int .u8 b.toNat] σ = some (.bool (nameB b),σ) := by
  rw [hC.go (NVs.hand (.cons (.int _ _) .nil) _) (by simp [K_name_allowed])]
  simp only [K_name_allowed,EVC,EVD,EVB,Nat.reduceEqDiff,eqOp,eqA,eqNil,lenA,asNat,optNat,pt,tupleOf,Nat.reduceSub,Nat.reduceGT,Nat.reduceLT,hand,norms,normVs,normV,freeze,reduceIte,reduceCtorEq,srcCells,slCells,isStr,fillA,rep,Nat.reduceMul,Nat.reduceLeDiff,Int.reduceToNat,Int.reduceLE,Int.reduceLT,Int.reduceEq,Nat.reduceAdd,Int.reduceBNe,Int.reduceBEq,Int.reduceNeg]
  repeat' (first | rw [condN_m] | rw [condK_m] | rw [ogN_m] | rw [ogK_m]); split <;> (try simp only [*,EVC,EVD,EVB,Nat.reduceEqDiff,eqOp,eqA,eqNil,lenA,asNat,optNat,pt,tupleOf,Nat.reduceSub,Nat.reduceGT,Nat.reduceLT,hand,norms,normVs,normV,freeze,reduceIte,reduceCtorEq,srcCells,slCells,isStr,fillA,rep,Nat.reduceMul,Nat.reduceLeDiff,Int.reduceToNat,Int.reduceLE,Int.reduceLT,Int.reduceEq,Nat.reduceAdd,Int.reduceBNe,Int.reduceBEq,Int.reduceNeg])
  all_goals (simp only [decide_eq_true_eq,decide_eq_false_iff_not,beq_iff_eq,beq_eq_false_iff_ne,ne_eq] at *; rw [Option.some.injEq,Prod.mk.injEq,AV.bool.injEq,Bool.eq_iff_iff]; simp [nameB]; omega)
theorem name_Role_loop (ha : Has C f_name_allowed K_name_allowed) (s : List UInt8) (hs : s.length ≤ 64) (σ : St) : ∀ (n i : Nat),i + n = s.length →
    loopK C (semF C) 27 [0,17,18] L_name_Role_0 [(0,.str s),(17,.int .i64 s.length),(18,.int .i64 i)] σ =
      if (s.drop i).all nameB then some (.exit 0,[],σ) else some (.ret,[(2,.bool false)],σ)
  | 0,i,hi => by
    rw [loop_eq (he := rfl)]
    have h : ¬ ((i : Int) < (s.length : Int)) := by omega
    have h' : s.drop i = [] := List.drop_eq_nil_of_le (by omega)
    simp only [L_name_Role_0,h,h',EVC,EVD,EVB,Nat.reduceEqDiff,eqOp,eqA,eqNil,lenA,asNat,optNat,pt,tupleOf,Nat.reduceSub,Nat.reduceGT,Nat.reduceLT,hand,norms,normVs,normV,freeze,reduceIte,reduceCtorEq,srcCells,slCells,isStr,fillA,rep,Nat.reduceMul,Nat.reduceLeDiff,Int.reduceToNat,Int.reduceLE,Int.reduceLT,Int.reduceEq,Nat.reduceAdd,Int.reduceBNe,Int.reduceBEq,Int.reduceNeg]
  | n + 1,i,hi => by
    rw [loop_eq (he := rfl)]
    generalize hk : loopK C (semF C) 27 [0,17,18] L_name_Role_0 = k
    have h : ((i : Int) < (s.length : Int)) := by omega
    have h2 : i < s.length := by omega
    have hb : s[i]? = some s[i] := List.getElem?_eq_getElem h2
    have h' : s.drop i = s[i] :: s.drop (i + 1) := List.drop_eq_getElem_cons h2
    have hw : IntKind.i64.wrap ((i : Int) + 1) = ((i + 1 : Nat) : Int) := by rw [w64] <;> omega
    have h3 : (0 : Int) ≤ i := by omega
    cases hx : nameB s[i]
    · simp only [L_name_Role_0,h,h',h3,hb,hw,hx,Bool.false_and,name_allowed ha,EVC,EVD,EVB,Nat.reduceEqDiff,eqOp,eqA,eqNil,lenA,asNat,optNat,pt,tupleOf,Nat.reduceSub,Nat.reduceGT,Nat.reduceLT,hand,norms,normVs,normV,freeze,reduceIte,reduceCtorEq,srcCells,slCells,isStr,fillA,rep,Nat.reduceMul,Nat.reduceLeDiff,Int.reduceToNat,Int.reduceLE,Int.reduceLT,Int.reduceEq,Nat.reduceAdd,Int.reduceBNe,Int.reduceBEq,Int.reduceNeg]
    · simp only [L_name_Role_0,h,h',h3,hb,hw,hx,Bool.true_and,name_allowed ha,EVC,EVD,EVB,Nat.reduceEqDiff,eqOp,eqA,eqNil,lenA,asNat,optNat,pt,tupleOf,Nat.reduceSub,Nat.reduceGT,Nat.reduceLT,hand,norms,normVs,normV,freeze,reduceIte,reduceCtorEq,srcCells,slCells,isStr,fillA,rep,Nat.reduceMul,Nat.reduceLeDiff,Int.reduceToNat,Int.reduceLE,Int.reduceLT,Int.reduceEq,Nat.reduceAdd,Int.reduceBNe,Int.reduceBEq,Int.reduceNeg]
      rw [← hk,name_Role_loop ha s hs σ n (i + 1) (by omega)]
def role (s : List UInt8) : Bool := !s.isEmpty && s.length ≤ 64 && s.head? != some 46 && s.all nameB
theorem name_Role (hC : Has C f_name_Role K_name_Role) (ha : Has C f_name_allowed K_name_allowed) (s : List UInt8) (σ : St) : semF C f_name_Role [.str s] σ = some (.bool (role s),σ) := by
  rw [hC.go (NVs.hand (.cons (.str _) .nil) _) (by simp [K_name_Role])]
  cases s with
  | nil =>
    simp only [K_name_Role,EVC,EVD,EVB,Nat.reduceEqDiff,eqOp,eqA,eqNil,lenA,asNat,optNat,pt,tupleOf,Nat.reduceSub,Nat.reduceGT,Nat.reduceLT,hand,norms,normVs,normV,freeze,reduceIte,reduceCtorEq,srcCells,slCells,isStr,fillA,rep,Nat.reduceMul,Nat.reduceLeDiff,Int.reduceToNat,Int.reduceLE,Int.reduceLT,Int.reduceEq,Nat.reduceAdd,Int.reduceBNe,Int.reduceBEq,Int.reduceNeg]
    rfl
  | cons b l =>
    have h0 : (b :: l) ≠ [] := by simp
    have hb : (b :: l)[0]? = some b := rfl
    have hr : role (b :: l) = ((b :: l).length ≤ 64 && b.toNat != 46 && (b :: l).all nameB) := by
      have : (b.toNat = 46) ↔ (b = 46) := by rw [← UInt8.toNat_inj]; rfl
      have e : (b == 46) = (b.toNat == 46) := by rw [Bool.eq_iff_iff]; simp [this]
      simp [role,bne,e]
    rw [hr]
    have lp := fun hl => name_Role_loop ha (b :: l) hl σ (b :: l).length 0 (by omega)
    generalize b :: l = s at *
    simp only [K_name_Role,h0,hb,Int.toNat_zero,EVC,EVD,EVB,Nat.reduceEqDiff,eqOp,eqA,eqNil,lenA,asNat,optNat,pt,tupleOf,Nat.reduceSub,Nat.reduceGT,Nat.reduceLT,hand,norms,normVs,normV,freeze,reduceIte,reduceCtorEq,srcCells,slCells,isStr,fillA,rep,Nat.reduceMul,Nat.reduceLeDiff,Int.reduceToNat,Int.reduceLE,Int.reduceLT,Int.reduceEq,Nat.reduceAdd,Int.reduceBNe,Int.reduceBEq,Int.reduceNeg]
    by_cases hl : s.length ≤ 64
    · have hl' : ¬ (64 : Int) < (s.length : Int) := by omega
      have lp := lp hl
      simp only [List.drop_zero,Int.natCast_zero,Int.cast_ofNat_Int] at lp
      simp only [hl',hb,EVC,EVD,EVB,Nat.reduceEqDiff,eqOp,eqA,eqNil,lenA,asNat,optNat,pt,tupleOf,Nat.reduceSub,Nat.reduceGT,Nat.reduceLT,hand,norms,normVs,normV,freeze,reduceIte,reduceCtorEq,srcCells,slCells,isStr,fillA,rep,Nat.reduceMul,Nat.reduceLeDiff,Int.reduceToNat,Int.reduceLE,Int.reduceLT,Int.reduceEq,Nat.reduceAdd,Int.reduceBNe,Int.reduceBEq,Int.reduceNeg]
      rw [condK_if]; split <;> rename_i h5 <;> simp only [beq_iff_eq] at h5
      · have : (b.toNat != 46) = false := by simp; omega
        simp only [this,Bool.and_false,Bool.false_and,EVC,EVD,EVB,Nat.reduceEqDiff,eqOp,eqA,eqNil,lenA,asNat,optNat,pt,tupleOf,Nat.reduceSub,Nat.reduceGT,Nat.reduceLT,hand,norms,normVs,normV,freeze,reduceIte,reduceCtorEq,srcCells,slCells,isStr,fillA,rep,Nat.reduceMul,Nat.reduceLeDiff,Int.reduceToNat,Int.reduceLE,Int.reduceLT,Int.reduceEq,Nat.reduceAdd,Int.reduceBNe,Int.reduceBEq,Int.reduceNeg]
      · have : (b.toNat != 46) = true := by simp; omega
        simp only [this,hl,Bool.and_true,Bool.true_and,Int.natCast_zero,lp,EVC,EVD,EVB,Nat.reduceEqDiff,eqOp,eqA,eqNil,lenA,asNat,optNat,pt,tupleOf,Nat.reduceSub,Nat.reduceGT,Nat.reduceLT,hand,norms,normVs,normV,freeze,reduceIte,reduceCtorEq,srcCells,slCells,isStr,fillA,rep,Nat.reduceMul,Nat.reduceLeDiff,Int.reduceToNat,Int.reduceLE,Int.reduceLT,Int.reduceEq,Nat.reduceAdd,Int.reduceBNe,Int.reduceBEq,Int.reduceNeg]
        cases s.all nameB <;> simp only [lp,EVC,EVD,EVB,Nat.reduceEqDiff,eqOp,eqA,eqNil,lenA,asNat,optNat,pt,tupleOf,Nat.reduceSub,Nat.reduceGT,Nat.reduceLT,hand,norms,normVs,normV,freeze,reduceIte,reduceCtorEq,srcCells,slCells,isStr,fillA,rep,Nat.reduceMul,Nat.reduceLeDiff,Int.reduceToNat,Int.reduceLE,Int.reduceLT,Int.reduceEq,Nat.reduceAdd,Int.reduceBNe,Int.reduceBEq,Int.reduceNeg]
    · have hl' : (64 : Int) < (s.length : Int) := by omega
      simp only [hl',hl,Bool.false_and,EVC,EVD,EVB,Nat.reduceEqDiff,eqOp,eqA,eqNil,lenA,asNat,optNat,pt,tupleOf,Nat.reduceSub,Nat.reduceGT,Nat.reduceLT,hand,norms,normVs,normV,freeze,reduceIte,reduceCtorEq,srcCells,slCells,isStr,fillA,rep,Nat.reduceMul,Nat.reduceLeDiff,Int.reduceToNat,Int.reduceLE,Int.reduceLT,Int.reduceEq,Nat.reduceAdd,Int.reduceBNe,Int.reduceBEq,Int.reduceNeg]
end Go.Ev

namespace Go.Ev
set_option maxRecDepth 100000
set_option linter.unusedSimpArgs false
variable {C : Ctx}
def jsonB : List UInt8 := [46,106,115,111,110]
def fileA (s : List UInt8) : AV := if role s then .tup [.str (s ++ jsonB),.int .i64 0] else .tup [.str [],.int .i64 3]
theorem role_len {s : List UInt8} (h : role s = true) : s.length ≤ 64 := by simp [role] at h; exact h.1.1.2
theorem name_File (hC : Has C f_name_File K_name_File) (hr : Has C f_name_Role K_name_Role) (ha : Has C f_name_allowed K_name_allowed) (s : List UInt8) (σ : St) : semF C f_name_File [.str s] σ = some (fileA s,σ) := by
  rw [hC.go (NVs.hand (.cons (.str _) .nil) _) (by simp [K_name_File])]
  unfold fileA
  cases h : role s
  · simp only [K_name_File,name_Role hr ha,h,EVC,EVD,EVB,Nat.reduceEqDiff,eqOp,eqA,eqNil,lenA,asNat,optNat,pt,tupleOf,Nat.reduceSub,Nat.reduceGT,Nat.reduceLT,hand,norms,normVs,normV,freeze,reduceIte,reduceCtorEq,srcCells,slCells,isStr,fillA,rep,Nat.reduceMul,Nat.reduceLeDiff,Int.reduceToNat,Int.reduceLE,Int.reduceLT,Int.reduceEq,Nat.reduceAdd,Int.reduceBNe,Int.reduceBEq,Int.reduceNeg]
  · have hb : binStr .add s [46,106,115,111,110] = some (.str (s ++ jsonB)) := bs_add (by have := role_len h; simp; omega)
    simp only [K_name_File,name_Role hr ha,h,hb,EVC,EVD,EVB,Nat.reduceEqDiff,eqOp,eqA,eqNil,lenA,asNat,optNat,pt,tupleOf,Nat.reduceSub,Nat.reduceGT,Nat.reduceLT,hand,norms,normVs,normV,freeze,reduceIte,reduceCtorEq,srcCells,slCells,isStr,fillA,rep,Nat.reduceMul,Nat.reduceLeDiff,Int.reduceToNat,Int.reduceLE,Int.reduceLT,Int.reduceEq,Nat.reduceAdd,Int.reduceBNe,Int.reduceBEq,Int.reduceNeg]
end Go.Ev

namespace Go.Ev
set_option maxRecDepth 100000
set_option linter.unusedSimpArgs false
variable {C : Ctx}
structure HashV where
  alg : List UInt8
  hex : List UInt8
def HashV.cs (h : HashV) : List AV := [.str h.alg,.str h.hex]
def hashesA (l : List HashV) : AV := .sl l.length (l.flatMap HashV.cs)
structure PinV where
  name : List UInt8
  version : Int
  length : Int
  hashes : List HashV
def PinV.cs (p : PinV) : List AV := [.str p.name,.int .i64 p.version,.int .i64 p.length,hashesA p.hashes]
def pinsA (l : List PinV) : AV := .sl l.length (l.flatMap PinV.cs)
theorem HashV.len (h : HashV) : h.cs.length = 2 := rfl
theorem PinV.len (h : PinV) : h.cs.length = 4 := rfl
theorem HashV.below (h : HashV) : belows 0 h.cs = true := rfl
theorem hashes_nv (l : List HashV) : NV (hashesA l) := .sl _ (flat_below HashV.below l)
theorem PinV.below (h : PinV) : belows 0 h.cs = true := by
  simp only [PinV.cs,belows,(hashes_nv h.hashes).cl]; rfl
theorem pins_nv (l : List PinV) : NV (pinsA l) := .sl _ (flat_below PinV.below l)
def zeroPin : List AV := [.str [],.int .i64 0,.int .i64 0,.nils]
theorem snap_Pin_loop (hc : SameSl C f_slices_Clone_api_Hash_api_Hash 2) (l : List PinV) (hl : l.length ≤ 1099511627776) (hh : ∀ p ∈ l,p.hashes.length ≤ 1099511627776) (file : List UInt8) (σ : St) (X : AO) : ∀ (n i : Nat) (G : St),i + n = l.length →
    ∃ G',loopK C (semF C) 36 [4,6,19,20,21] L_snap_Pin_0 [(4,.ref (σ.length + 1) 0),(6,.str file),(19,.sl l.length (l.flatMap PinV.cs)),(20,.int .i64 l.length),(21,.int .i64 i)] (σ ++ X :: .cells zeroPin ⟨false,none⟩ :: G) =
      match (l.drop i).find? (fun p => decide (p.name = file)) with
      | none => some (.exit 0,[(4,.ref (σ.length + 1) 0)],σ ++ X :: .cells zeroPin ⟨false,none⟩ :: G')
      | some p => some (.ret,[(4,.ref (σ.length + 1) 0),(5,.bool true)],σ ++ X :: .cells p.cs ⟨false,none⟩ :: G')
  | 0,i,G,hi => by
    rw [loop_eq (he := rfl)]
    have h : ¬ ((i : Int) < (l.length : Int)) := by omega
    have h' : l.drop i = [] := List.drop_eq_nil_of_le (by omega)
    refine ⟨G,?_⟩
    simp only [L_snap_Pin_0,h,h',List.find?_nil,EVC,EVD,EVB,Nat.reduceEqDiff,eqOp,eqA,eqNil,lenA,asNat,optNat,pt,tupleOf,Nat.reduceSub,Nat.reduceGT,Nat.reduceLT,hand,norms,normVs,normV,freeze,reduceIte,reduceCtorEq,srcCells,slCells,isStr,fillA,rep,Nat.reduceMul,Nat.reduceLeDiff,Int.reduceToNat,Int.reduceLE,Int.reduceLT,Int.reduceEq,Nat.reduceAdd,Int.reduceBNe,Int.reduceBEq,Int.reduceNeg]
  | n + 1,i,G,hi => by
    rw [loop_eq (he := rfl)]
    have h : ((i : Int) < (l.length : Int)) := by omega
    have h2 : i < l.length := by omega
    have hb : l[i]? = some l[i] := List.getElem?_eq_getElem h2
    have h' : l.drop i = l[i] :: l.drop (i + 1) := List.drop_eq_getElem_cons h2
    have hw : IntKind.i64.wrap ((i : Int) + 1) = ((i + 1 : Nat) : Int) := by rw [w64] <;> omega
    have h3 : (0 : Int) ≤ i := by omega
    have fl := flat_len PinV.len l
    have fd := flat_at PinV.len hb
    have hp := hh _ (List.getElem_mem h2)
    obtain ⟨p,hpe⟩ : ∃ p,p = l[i] := ⟨_,rfl⟩
    rw [← hpe] at fd h' hp
    have hcl := fun τ => hc p.hashes.length (p.hashes.flatMap HashV.cs) τ (flat_len HashV.len _) hp (flat_scal (f := HashV.cs) (fun x => rfl) _)
    cases hx : decide (p.name = file)
    · obtain ⟨G',ih⟩ := snap_Pin_loop hc l hl hh file σ X n (i + 1) (G ++ [.cells p.cs ⟨false,none⟩]) (by omega)
      refine ⟨G',?_⟩
      rw [h',List.find?_cons,hx]
      dsimp only
      rw [← ih]
      generalize hk : loopK C (semF C) 36 [4,6,19,20,21] L_snap_Pin_0 = k
      simp only [L_snap_Pin_0,h,h2,h3,hw,hx,fl,fd,PinV.cs,hashesA,last_get',last_set',List.cons_append,List.set_cons_succ,List.set_cons_zero,List.append_assoc,List.length_append,Nat.le_add_left,AV.cells,flat_sl,EVC,EVD,EVB,Nat.reduceEqDiff,eqOp,eqA,eqNil,lenA,asNat,optNat,pt,tupleOf,Nat.reduceSub,Nat.reduceGT,Nat.reduceLT,hand,norms,normVs,normV,freeze,reduceIte,reduceCtorEq,srcCells,slCells,isStr,fillA,rep,Nat.reduceMul,Nat.reduceLeDiff,Int.reduceToNat,Int.reduceLE,Int.reduceLT,Int.reduceEq,Nat.reduceAdd,Int.reduceBNe,Int.reduceBEq,Int.reduceNeg]
    · refine ⟨G ++ [.cells p.cs ⟨false,none⟩],?_⟩
      rw [h',List.find?_cons,hx]
      dsimp only
      generalize hk : loopK C (semF C) 36 [4,6,19,20,21] L_snap_Pin_0 = k
      simp only [L_snap_Pin_0,h,h2,h3,hw,hx,fl,fd,hcl,PinV.cs,hashesA,zeroPin,last_get',last_set',List.cons_append,List.set_cons_succ,List.set_cons_zero,List.append_assoc,List.length_append,Nat.le_add_left,AV.cells,flat_sl,EVC,EVD,EVB,Nat.reduceEqDiff,eqOp,eqA,eqNil,lenA,asNat,optNat,pt,tupleOf,Nat.reduceSub,Nat.reduceGT,Nat.reduceLT,hand,norms,normVs,normV,freeze,reduceIte,reduceCtorEq,srcCells,slCells,isStr,fillA,rep,Nat.reduceMul,Nat.reduceLeDiff,Int.reduceToNat,Int.reduceLE,Int.reduceLT,Int.reduceEq,Nat.reduceAdd,Int.reduceBNe,Int.reduceBEq,Int.reduceNeg]
end Go.Ev

namespace Go.Ev
set_option maxRecDepth 100000
set_option linter.unusedSimpArgs false
variable {C : Ctx}
theorem scal_nv {a : AV} (h : scal a = true) : NV a := by
  cases a <;> first | (cases h; done) | exact .bool _ | exact .int _ _ | exact .str _
theorem scal_nvs {l : List AV} (h : l.all scal = true) : NVs l := fun v hv => scal_nv (List.all_eq_true.mp h v hv)
theorem scal_flat {l : List AV} (h : l.all scal = true) : l.all AV.flat = true := by
  rw [List.all_eq_true] at *
  intro v hv
  have := h v hv
  cases v <;> first | (cases this; done) | rfl
/-- slices.Clone of hashes: where there are any -/
theorem clone_some (hC : Has C f_slices_Clone_api_Hash_api_Hash K_slices_Clone_api_Hash_api_Hash) (n : Nat) (l : List AV) (hl : l.length = n * 2) (h0 : 0 < n) (hn : n ≤ 1099511627776) (hs : l.all scal = true) (σ : St) (hσ : Ok σ) : semF C f_slices_Clone_api_Hash_api_Hash [.sl n l] σ = some (.sl n l,σ) := by
  have ns := scal_nvs hs
  rw [hC.go (NVs.hand (.cons (.sl n ns.cl) .nil) _) (by simp [K_slices_Clone_api_Hash_api_Hash])]
  have fa := scal_flat hs
  have h1 : ¬ n = 0 := by omega
  have ap := fun τ : St => ap_xsl τ none (sz := 2) (bytes := 32) (n := 0) (m := n) (l := []) l h1 rfl (by omega) (by omega)
  simp only [Nat.zero_add,List.nil_append] at ap
  have ft : l.take (n * 2) = l := List.take_of_length_le (by omega)
  have nr : ∀ τ,norms τ 11 l = some (l,[]) := fun τ => by
    show normVs τ (norms τ 10) l = _
    exact ns.nf _ _
  have hd : ∀ τ : St,hand false [.msl τ.length 0 n 2] (τ ++ [.cells l ⟨false,none⟩]) = some ([.sl n l],τ ++ [.cells l ⟨true,none⟩]) := fun τ => by
    have hle : 0 + n * 2 ≤ l.length := by omega
    have : normV (τ ++ [.cells l ⟨false,none⟩]) (norms (τ ++ [.cells l ⟨false,none⟩]) 11) (.msl τ.length 0 n 2) = some (.sl n l,[τ.length]) := by
      unfold normV
      rw [st_get0]
      show (if 0 + n * 2 ≤ l.length then match norms _ 11 ((l.drop 0).take (n * 2)) with | some (l,fs) => some (AV.sl n l,τ.length :: fs) | none => none else none) = _
      rw [if_pos hle,List.drop_zero,ft,nr]
    rw [hand_is,nvs_cons,this,nvs_nil]
    show some ([AV.sl n l],freeze (τ ++ [.cells l ⟨false,none⟩]) [τ.length]) = _
    unfold freeze
    rw [st_get0]
    show some ([AV.sl n l],freeze ((τ ++ [AO.cells l ⟨false,none⟩]).set τ.length (AO.cells l ⟨true,none⟩)) []) = _
    rw [st_set0]
    rfl
  have ty := fun L => st_tidy hσ (vs := [.sl n l]) (by rw [belows,below,ns.cl]; rfl) L
  have e : ∀ (E : As) (τ : St),look E 2 = .msl σ.length 0 n 2 → τ = σ ++ [AO.cells l ⟨false,none⟩] → endR σ.length [.tmp 2] (some (.ret,E,τ)) = some (.sl n l,σ) := fun E τ hE hτ => by
    subst hτ
    rw [endR_ret,show resL E (σ ++ [AO.cells l ⟨false,none⟩]) [.tmp 2] = some [look E 2] from rfl,hE]
    dsimp only
    rw [hd]
    dsimp only
    rw [ty]
    rfl
  have fin : ∀ b : KC,True := fun _ => trivial
  generalize hK : endR = eR at *
  simp only [K_slices_Clone_api_Hash_api_Hash,hl,h0,h1,fa,ap,EVC,EVD,EVB,Nat.reduceEqDiff,eqOp,eqA,eqNil,lenA,asNat,optNat,pt,tupleOf,Nat.reduceSub,Nat.reduceGT,Nat.reduceLT,hand,norms,normVs,normV,freeze,reduceIte,reduceCtorEq,srcCells,slCells,isStr,fillA,rep,Nat.reduceMul,Nat.reduceLeDiff,Int.reduceToNat,Int.reduceLE,Int.reduceLT,Int.reduceEq,Nat.reduceAdd,Int.reduceBNe,Int.reduceBEq,Int.reduceNeg]
  rw [← hK] at *
  exact e _ _ rfl rfl
end Go.Ev

namespace Go.Ev
set_option maxRecDepth 100000
set_option linter.unusedSimpArgs false
variable {C : Ctx}
structure SnapV where
  version : Int
  expires : Int
  pins : List PinV
def snapA (s : SnapV) : AV := .agg [.int .i64 s.version,.int .i64 s.expires,.sl s.pins.length (s.pins.flatMap PinV.cs)]
theorem snap_nv (s : SnapV) : NV (snapA s) := .agg (.cons (.int _ _) (.cons (.int _ _) (.cons (pins_nv s.pins) .nil)))
def findPin (s : SnapV) (r : List UInt8) : Option PinV := if role r then s.pins.find? (fun p => decide (p.name = r ++ jsonB)) else none
def zeroPin' : List AV := [.str [],.int .i64 0,.int .i64 0,.sl 0 []]
def pinR : Option PinV → AV
  | none => .tup [.agg zeroPin',.bool false]
  | some p => .tup [.agg p.cs,.bool true]
structure PinHas (C : Ctx) : Prop where
  allowed : Has C f_name_allowed K_name_allowed
  role : Has C f_name_Role K_name_Role
  file : Has C f_name_File K_name_File
  clone : SameSl C f_slices_Clone_api_Hash_api_Hash 2
  pin : Has C f_snap_Pin K_snap_Pin
  cap : Has C f_check_Cap K_check_Cap
structure SnapSmall (s : SnapV) : Prop where
  pins : s.pins.length ≤ 1099511627776
  hashes : ∀ p ∈ s.pins,p.hashes.length ≤ 1099511627776
theorem snap_Pin (h : PinHas C) (s : SnapV) (hs : SnapSmall s) (r : List UInt8) (σ : St) (hσ : Ok σ) : semF C f_snap_Pin [snapA s,.str r] σ = some (pinR (findPin s r),σ) := by
  rw [h.pin.go (NVs.hand (.cons (snap_nv s) (.cons (.str _) .nil)) _) (by simp [K_snap_Pin])]
  unfold findPin snapA
  have ty := fun (vs : List AV) (hv : belows 0 vs = true) (L : St) => st_tidy hσ hv L
  cases hr : role r
  · have fa : fileA r = .tup [.str [],.int .i64 3] := by simp [fileA,hr]
    have t1 := ty [.agg zeroPin',.bool false] rfl
    unfold zeroPin' at t1
    simp only [K_snap_Pin,name_File h.file h.role h.allowed,fa,hr,resL,nv_agg,nv_nils,pinR,zeroPin',t1,AV.cells,AV.flat,List.cons_append,List.set_cons_succ,List.set_cons_zero,Nat.le_add_left,EVC,EVD,EVB,Nat.reduceEqDiff,eqOp,eqA,eqNil,lenA,asNat,optNat,pt,tupleOf,Nat.reduceSub,Nat.reduceGT,Nat.reduceLT,hand,norms,normVs,normV,freeze,reduceIte,reduceCtorEq,srcCells,slCells,isStr,fillA,rep,Nat.reduceMul,Nat.reduceLeDiff,Int.reduceToNat,Int.reduceLE,Int.reduceLT,Int.reduceEq,Nat.reduceAdd,Int.reduceBNe,Int.reduceBEq,Int.reduceNeg]
  · have fa : fileA r = .tup [.str (r ++ jsonB),.int .i64 0] := by simp [fileA,hr]
    obtain ⟨G,lp⟩ := snap_Pin_loop h.clone s.pins hs.pins hs.hashes (r ++ jsonB) σ (.cells [.int .i64 s.version,.int .i64 s.expires,.sl s.pins.length (s.pins.flatMap PinV.cs)] ⟨false,none⟩) s.pins.length 0 [] (by omega)
    rw [List.drop_zero] at lp
    simp only [Int.natCast_zero,Int.cast_ofNat_Int,zeroPin] at lp
    rw [if_pos rfl]
    cases hf : s.pins.find? (fun p => decide (p.name = r ++ jsonB)) with
    | none =>
      rw [hf] at lp
      have t1 := ty [.agg zeroPin',.bool false] rfl
      unfold zeroPin' at t1
      simp only [K_snap_Pin,name_File h.file h.role h.allowed,fa,lp,resL,nv_agg,nv_nils,pinR,zeroPin',t1,AV.cells,AV.flat,List.cons_append,List.set_cons_succ,List.set_cons_zero,Nat.le_add_left,EVC,EVD,EVB,Nat.reduceEqDiff,eqOp,eqA,eqNil,lenA,asNat,optNat,pt,tupleOf,Nat.reduceSub,Nat.reduceGT,Nat.reduceLT,hand,norms,normVs,normV,freeze,reduceIte,reduceCtorEq,srcCells,slCells,isStr,fillA,rep,Nat.reduceMul,Nat.reduceLeDiff,Int.reduceToNat,Int.reduceLE,Int.reduceLT,Int.reduceEq,Nat.reduceAdd,Int.reduceBNe,Int.reduceBEq,Int.reduceNeg]
    | some p =>
      rw [hf] at lp
      have t1 := ty [.agg p.cs,.bool true] (by simp only [belows,below,PinV.below]; rfl)
      unfold PinV.cs hashesA at t1
      simp only [K_snap_Pin,name_File h.file h.role h.allowed,fa,lp,resL,nv_agg,nv_nils,pinR,PinV.cs,hashesA,t1,AV.cells,AV.flat,List.cons_append,List.set_cons_succ,List.set_cons_zero,Nat.le_add_left,EVC,EVD,EVB,Nat.reduceEqDiff,eqOp,eqA,eqNil,lenA,asNat,optNat,pt,tupleOf,Nat.reduceSub,Nat.reduceGT,Nat.reduceLT,hand,norms,normVs,normV,freeze,reduceIte,reduceCtorEq,srcCells,slCells,isStr,fillA,rep,Nat.reduceMul,Nat.reduceLeDiff,Int.reduceToNat,Int.reduceLE,Int.reduceLT,Int.reduceEq,Nat.reduceAdd,Int.reduceBNe,Int.reduceBEq,Int.reduceNeg]
end Go.Ev

namespace Go.Ev
set_option maxRecDepth 100000
set_option linter.unusedSimpArgs false
variable {C : Ctx}
def capR (o : Option PinV) (most : Int) : AV := match o with
  | none => .tup [.agg zeroPin',.int .i64 0,.int .u8 1]
  | some p => if p.length < 0 then .tup [.agg p.cs,.int .i64 most,.int .u8 0] else if p.length > most then .tup [.agg zeroPin',.int .i64 0,.int .u8 3] else .tup [.agg p.cs,.int .i64 p.length,.int .u8 0]
theorem snap_ok {σ : St} (hσ : Ok σ) (a b : List AV) (ha : belows 0 a = true) (hb : belows 0 b = true) (x y : Fz) : Ok (σ ++ [.cells a x,.cells b y]) :=
  st_ok hσ (by simp [AO.below,belows_mono (Nat.zero_le _) _ ha,belows_mono (Nat.zero_le _) _ hb])
theorem check_Cap (h : PinHas C) (s : SnapV) (hs : SnapSmall s) (r : List UInt8) (most : Int) (σ : St) (hσ : Ok σ) : semF C f_check_Cap [snapA s,.str r,.int .i64 most] σ = some (capR (findPin s r) most,σ) := by
  rw [h.cap.go (NVs.hand (.cons (snap_nv s) (.cons (.str _) (.cons (.int _ _) .nil))) _) (by simp [K_check_Cap])]
  have ok1 := snap_ok hσ [.int .i64 s.version,.int .i64 s.expires,.sl s.pins.length (s.pins.flatMap PinV.cs)] zeroPin (by have := (snap_nv s).cl; unfold snapA at this; rw [below] at this; exact this) rfl ⟨false,none⟩ ⟨false,none⟩
  have q := snap_Pin h s hs r _ ok1
  have ty := fun (vs : List AV) (hv : belows 0 vs = true) (L : St) => st_tidy hσ hv L
  unfold snapA zeroPin at *
  have t1 := fun a b => ty [.agg zeroPin',.int .i64 a,.int .u8 b] rfl
  unfold zeroPin' at t1
  cases hf : findPin s r with
  | none =>
    rw [hf] at q
    unfold pinR zeroPin' at q
    dsimp only at q
    simp only [K_check_Cap,q,resL,nv_agg,nv_nils,capR,zeroPin',t1,AV.cells,AV.flat,List.cons_append,List.set_cons_succ,List.set_cons_zero,Nat.le_add_left,EVC,EVD,EVB,Nat.reduceEqDiff,eqOp,eqA,eqNil,lenA,asNat,optNat,pt,tupleOf,Nat.reduceSub,Nat.reduceGT,Nat.reduceLT,hand,norms,normVs,normV,freeze,reduceIte,reduceCtorEq,srcCells,slCells,isStr,fillA,rep,Nat.reduceMul,Nat.reduceLeDiff,Int.reduceToNat,Int.reduceLE,Int.reduceLT,Int.reduceEq,Nat.reduceAdd,Int.reduceBNe,Int.reduceBEq,Int.reduceNeg]
  | some p =>
    rw [hf] at q
    have pc : p.cs = [.str p.name,.int .i64 p.version,.int .i64 p.length,.sl p.hashes.length (p.hashes.flatMap HashV.cs)] := rfl
    unfold pinR at q
    dsimp only at q
    rw [pc] at q
    have t2 := fun a b => ty [.agg p.cs,.int .i64 a,.int .u8 b] (by simp only [belows,below,PinV.below]; rfl)
    rw [pc] at t2
    by_cases h1 : p.length < 0
    · simp only [K_check_Cap,q,h1,resL,nv_agg,nv_nils,capR,pc,t2,AV.cells,AV.flat,List.cons_append,List.set_cons_succ,List.set_cons_zero,Nat.le_add_left,EVC,EVD,EVB,Nat.reduceEqDiff,eqOp,eqA,eqNil,lenA,asNat,optNat,pt,tupleOf,Nat.reduceSub,Nat.reduceGT,Nat.reduceLT,hand,norms,normVs,normV,freeze,reduceIte,reduceCtorEq,srcCells,slCells,isStr,fillA,rep,Nat.reduceMul,Nat.reduceLeDiff,Int.reduceToNat,Int.reduceLE,Int.reduceLT,Int.reduceEq,Nat.reduceAdd,Int.reduceBNe,Int.reduceBEq,Int.reduceNeg]
    · by_cases h2 : most < p.length
      · simp only [K_check_Cap,q,h1,h2,resL,nv_agg,nv_nils,capR,zeroPin',t1,pc,t2,AV.cells,AV.flat,List.cons_append,List.set_cons_succ,List.set_cons_zero,Nat.le_add_left,EVC,EVD,EVB,Nat.reduceEqDiff,eqOp,eqA,eqNil,lenA,asNat,optNat,pt,tupleOf,Nat.reduceSub,Nat.reduceGT,Nat.reduceLT,hand,norms,normVs,normV,freeze,reduceIte,reduceCtorEq,srcCells,slCells,isStr,fillA,rep,Nat.reduceMul,Nat.reduceLeDiff,Int.reduceToNat,Int.reduceLE,Int.reduceLT,Int.reduceEq,Nat.reduceAdd,Int.reduceBNe,Int.reduceBEq,Int.reduceNeg]
      · simp only [K_check_Cap,q,h1,h2,resL,nv_agg,nv_nils,capR,pc,t2,AV.cells,AV.flat,List.cons_append,List.set_cons_succ,List.set_cons_zero,Nat.le_add_left,EVC,EVD,EVB,Nat.reduceEqDiff,eqOp,eqA,eqNil,lenA,asNat,optNat,pt,tupleOf,Nat.reduceSub,Nat.reduceGT,Nat.reduceLT,hand,norms,normVs,normV,freeze,reduceIte,reduceCtorEq,srcCells,slCells,isStr,fillA,rep,Nat.reduceMul,Nat.reduceLeDiff,Int.reduceToNat,Int.reduceLE,Int.reduceLT,Int.reduceEq,Nat.reduceAdd,Int.reduceBNe,Int.reduceBEq,Int.reduceNeg]
end Go.Ev

namespace Go.Ev
set_option maxRecDepth 100000
set_option linter.unusedSimpArgs false
variable {C : Ctx}
theorem ref21_SameHashes_loop (l : List HashV) (hl : l.length ≤ 1099511627776) (σ : St) : ∀ (n i : Nat),i + n = l.length →
    loopK C (semF C) 41 [0,1,5] L_legateref21_SameHashes_0 [(0,.sl l.length (l.flatMap HashV.cs)),(1,.sl l.length (l.flatMap HashV.cs)),(5,.int .i64 i)] σ = some (.exit 0,[],σ)
  | 0,i,hi => by
    rw [loop_eq (he := rfl)]
    have h : ¬ ((i : Int) < (l.length : Int)) := by omega
    have fl := flat_len HashV.len l
    simp only [L_legateref21_SameHashes_0,h,fl,lenA,EVC,EVD,EVB,Nat.reduceEqDiff,eqOp,eqA,eqNil,lenA,asNat,optNat,pt,tupleOf,Nat.reduceSub,Nat.reduceGT,Nat.reduceLT,hand,norms,normVs,normV,freeze,reduceIte,reduceCtorEq,srcCells,slCells,isStr,fillA,rep,Nat.reduceMul,Nat.reduceLeDiff,Int.reduceToNat,Int.reduceLE,Int.reduceLT,Int.reduceEq,Nat.reduceAdd,Int.reduceBNe,Int.reduceBEq,Int.reduceNeg]
  | n + 1,i,hi => by
    rw [loop_eq (he := rfl)]
    have h : ((i : Int) < (l.length : Int)) := by omega
    have h2 : i < l.length := by omega
    have hb : l[i]? = some l[i] := List.getElem?_eq_getElem h2
    have hw : IntKind.i64.wrap ((i : Int) + 1) = ((i + 1 : Nat) : Int) := by rw [w64] <;> omega
    have h3 : (0 : Int) ≤ i := by omega
    have fl := flat_len HashV.len l
    have fd := flat_at HashV.len hb
    obtain ⟨p,hpe⟩ : ∃ p,p = l[i] := ⟨_,rfl⟩
    rw [← hpe] at fd
    have pc : p.cs = [.str p.alg,.str p.hex] := rfl
    have ih := ref21_SameHashes_loop l hl σ n (i + 1) (by omega)
    generalize hk : loopK C (semF C) 41 [0,1,5] L_legateref21_SameHashes_0 = k at *
    simp only [L_legateref21_SameHashes_0,h,h2,h3,hw,fl,fd,pc,lenA,ih,AV.cells,flat_sl,List.cons_append,Nat.le_add_left,EVC,EVD,EVB,Nat.reduceEqDiff,eqOp,eqA,eqNil,lenA,asNat,optNat,pt,tupleOf,Nat.reduceSub,Nat.reduceGT,Nat.reduceLT,hand,norms,normVs,normV,freeze,reduceIte,reduceCtorEq,srcCells,slCells,isStr,fillA,rep,Nat.reduceMul,Nat.reduceLeDiff,Int.reduceToNat,Int.reduceLE,Int.reduceLT,Int.reduceEq,Nat.reduceAdd,Int.reduceBNe,Int.reduceBEq,Int.reduceNeg]
theorem ref21_SameHashes (hC : Has C f_legateref21_SameHashes K_legateref21_SameHashes) (l : List HashV) (hl : l.length ≤ 1099511627776) (σ : St) : semF C f_legateref21_SameHashes [.sl l.length (l.flatMap HashV.cs),.sl l.length (l.flatMap HashV.cs)] σ = some (.bool true,σ) := by
  change semF C f_legateref21_SameHashes [hashesA l,hashesA l] σ = _
  rw [hC.go (NVs.hand (.cons (hashes_nv l) (.cons (hashes_nv l) .nil)) _) (by simp [K_legateref21_SameHashes])]
  have lp := ref21_SameHashes_loop (C := C) l hl σ l.length 0 (by omega)
  simp only [Int.natCast_zero,Int.cast_ofNat_Int] at lp
  have fl := flat_len HashV.len l
  unfold hashesA
  simp only [K_legateref21_SameHashes,lp,fl,lenA,EVC,EVD,EVB,Nat.reduceEqDiff,eqOp,eqA,eqNil,lenA,asNat,optNat,pt,tupleOf,Nat.reduceSub,Nat.reduceGT,Nat.reduceLT,hand,norms,normVs,normV,freeze,reduceIte,reduceCtorEq,srcCells,slCells,isStr,fillA,rep,Nat.reduceMul,Nat.reduceLeDiff,Int.reduceToNat,Int.reduceLE,Int.reduceLT,Int.reduceEq,Nat.reduceAdd,Int.reduceBNe,Int.reduceBEq,Int.reduceNeg]
theorem ref23_SamePin (hC : Has C f_legateref23_SamePin K_legateref23_SamePin) (hh : Has C f_legateref21_SameHashes K_legateref21_SameHashes) (p : PinV) (hl : p.hashes.length ≤ 1099511627776) (σ : St) (hσ : Ok σ) : semF C f_legateref23_SamePin [.agg p.cs,.agg p.cs] σ = some (.bool true,σ) := by
  have np : NV (.agg p.cs) := .agg (.cons (.str _) (.cons (.int _ _) (.cons (.int _ _) (.cons (hashes_nv _) .nil))))
  rw [hC.go (NVs.hand (.cons np (.cons np .nil)) _) (by simp [K_legateref23_SamePin])]
  have pc : p.cs = [.str p.name,.int .i64 p.version,.int .i64 p.length,.sl p.hashes.length (p.hashes.flatMap HashV.cs)] := rfl
  have ty := st_tidy hσ (vs := [.bool true]) rfl
  simp only [K_legateref23_SamePin,pc,ref21_SameHashes hh p.hashes hl,ty,AV.cells,flat_sl,List.cons_append,Nat.le_add_left,EVC,EVD,EVB,Nat.reduceEqDiff,eqOp,eqA,eqNil,lenA,asNat,optNat,pt,tupleOf,Nat.reduceSub,Nat.reduceGT,Nat.reduceLT,hand,norms,normVs,normV,freeze,reduceIte,reduceCtorEq,srcCells,slCells,isStr,fillA,rep,Nat.reduceMul,Nat.reduceLeDiff,Int.reduceToNat,Int.reduceLE,Int.reduceLT,Int.reduceEq,Nat.reduceAdd,Int.reduceBNe,Int.reduceBEq,Int.reduceNeg]
end Go.Ev

namespace Go.Ev
set_option maxRecDepth 100000
set_option linter.unusedSimpArgs false
variable {C : Ctx}
def lhN : List HashV → Nat → Nat
  | [],n => n
  | h :: l,n => if n < 5000 then lhN l (n + 10 + min 5000 h.alg.length + min 5000 h.hex.length) else n
theorem lhN_ge : ∀ (l : List HashV) (n : Nat),n ≤ lhN l n
  | [],n => Nat.le_refl _
  | h :: l,n => by
    unfold lhN
    split
    · exact Nat.le_trans (by omega) (lhN_ge l _)
    · exact Nat.le_refl _
theorem lhN_len : ∀ (l : List HashV) (n : Nat),lhN l n < 5000 → n + 10 * l.length ≤ lhN l n
  | [],n,_ => by simp [lhN]
  | h :: l,n,hl => by
    unfold lhN at *
    split at hl
    · rename_i hn
      rw [if_pos hn]
      have := lhN_len l _ hl
      simp only [List.length_cons]
      omega
    · omega
theorem law21_LongHashes_loop (l : List HashV) (σ : St) : ∀ (n i acc : Nat),i + n = l.length → acc ≤ 15010 → (acc < 5000 → 10 * i ≤ acc) →
    loopK C (semF C) 35 [0,3,4] L_legatelaw21_LongHashes_0 [(0,.sl l.length (l.flatMap HashV.cs)),(3,.int .i64 acc),(4,.int .i64 i)] σ = some (.exit 0,[(3,.int .i64 (lhN (l.drop i) acc : Nat))],σ)
  | 0,i,acc,hi,ha,hb => by
    rw [loop_eq (he := rfl)]
    have h : ¬ ((i : Int) < (l.length : Int)) := by omega
    have h' : l.drop i = [] := List.drop_eq_nil_of_le (by omega)
    have fl := flat_len HashV.len l
    simp only [L_legatelaw21_LongHashes_0,h,h',fl,lhN,lenA,EVC,EVD,EVB,Nat.reduceEqDiff,eqOp,eqA,eqNil,lenA,asNat,optNat,pt,tupleOf,Nat.reduceSub,Nat.reduceGT,Nat.reduceLT,hand,norms,normVs,normV,freeze,reduceIte,reduceCtorEq,srcCells,slCells,isStr,fillA,rep,Nat.reduceMul,Nat.reduceLeDiff,Int.reduceToNat,Int.reduceLE,Int.reduceLT,Int.reduceEq,Nat.reduceAdd,Int.reduceBNe,Int.reduceBEq,Int.reduceNeg]
  | n + 1,i,acc,hi,ha,hbb => by
    rw [loop_eq (he := rfl)]
    have h : ((i : Int) < (l.length : Int)) := by omega
    have h2 : i < l.length := by omega
    have hb : l[i]? = some l[i] := List.getElem?_eq_getElem h2
    have h' : l.drop i = l[i] :: l.drop (i + 1) := List.drop_eq_getElem_cons h2
    have h3 : (0 : Int) ≤ i := by omega
    have fl := flat_len HashV.len l
    have fd := flat_at HashV.len hb
    obtain ⟨p,hpe⟩ : ∃ p,p = l[i] := ⟨_,rfl⟩
    rw [← hpe] at fd h'
    have pc : p.cs = [.str p.alg,.str p.hex] := rfl
    rw [h',lhN]
    by_cases hc : acc < 5000
    · have hc' : ((acc : Int) < 5000) := by omega
      have hw : IntKind.i64.wrap ((i : Int) + 1) = ((i + 1 : Nat) : Int) := by rw [w64] <;> omega
      have w1 : IntKind.i64.wrap ((acc : Int) + 10) = ((acc + 10 : Nat) : Int) := by rw [w64] <;> omega
      have w2 : IntKind.i64.wrap (((acc + 10 : Nat) : Int) + ((min 5000 p.alg.length : Nat) : Int)) = ((acc + 10 + min 5000 p.alg.length : Nat) : Int) := by rw [w64] <;> omega
      have w3 : IntKind.i64.wrap (((acc + 10 + min 5000 p.alg.length : Nat) : Int) + ((min 5000 p.hex.length : Nat) : Int)) = ((acc + 10 + min 5000 p.alg.length + min 5000 p.hex.length : Nat) : Int) := by rw [w64] <;> omega
      have ih := law21_LongHashes_loop l σ n (i + 1) (acc + 10 + min 5000 p.alg.length + min 5000 p.hex.length) (by omega) (by omega) (by omega)
      rw [if_pos hc,← ih]
      generalize hk : loopK C (semF C) 35 [0,3,4] L_legatelaw21_LongHashes_0 = k at *
      simp only [L_legatelaw21_LongHashes_0,h,h2,h3,hc',hw,w1,w2,w3,min_wrap,fl,fd,pc,lenA,AV.cells,flat_sl,List.cons_append,Nat.le_add_left,EVC,EVD,EVB,Nat.reduceEqDiff,eqOp,eqA,eqNil,lenA,asNat,optNat,pt,tupleOf,Nat.reduceSub,Nat.reduceGT,Nat.reduceLT,hand,norms,normVs,normV,freeze,reduceIte,reduceCtorEq,srcCells,slCells,isStr,fillA,rep,Nat.reduceMul,Nat.reduceLeDiff,Int.reduceToNat,Int.reduceLE,Int.reduceLT,Int.reduceEq,Nat.reduceAdd,Int.reduceBNe,Int.reduceBEq,Int.reduceNeg]
    · have hc' : ¬ ((acc : Int) < 5000) := by omega
      rw [if_neg hc]
      simp only [L_legatelaw21_LongHashes_0,h,hc',fl,lenA,EVC,EVD,EVB,Nat.reduceEqDiff,eqOp,eqA,eqNil,lenA,asNat,optNat,pt,tupleOf,Nat.reduceSub,Nat.reduceGT,Nat.reduceLT,hand,norms,normVs,normV,freeze,reduceIte,reduceCtorEq,srcCells,slCells,isStr,fillA,rep,Nat.reduceMul,Nat.reduceLeDiff,Int.reduceToNat,Int.reduceLE,Int.reduceLT,Int.reduceEq,Nat.reduceAdd,Int.reduceBNe,Int.reduceBEq,Int.reduceNeg]
def longH (l : List HashV) : Bool := decide (5000 ≤ lhN l 0)
theorem law21_LongHashes (hC : Has C f_legatelaw21_LongHashes K_legatelaw21_LongHashes) (l : List HashV) (σ : St) : semF C f_legatelaw21_LongHashes [.sl l.length (l.flatMap HashV.cs)] σ = some (.bool (longH l),σ) := by
  change semF C f_legatelaw21_LongHashes [hashesA l] σ = _
  rw [hC.go (NVs.hand (.cons (hashes_nv l) .nil) _) (by simp [K_legatelaw21_LongHashes])]
  have lp := law21_LongHashes_loop (C := C) l σ l.length 0 0 (by omega) (by omega) (by omega)
  simp only [Int.natCast_zero,Int.cast_ofNat_Int,List.drop_zero] at lp
  have e : decide ((5000 : Int) ≤ (lhN l 0 : Int)) = longH l := by unfold longH; rw [Bool.eq_iff_iff]; simp; omega
  unfold hashesA
  simp only [K_legatelaw21_LongHashes,lp,e,lenA,EVC,EVD,EVB,Nat.reduceEqDiff,eqOp,eqA,eqNil,lenA,asNat,optNat,pt,tupleOf,Nat.reduceSub,Nat.reduceGT,Nat.reduceLT,hand,norms,normVs,normV,freeze,reduceIte,reduceCtorEq,srcCells,slCells,isStr,fillA,rep,Nat.reduceMul,Nat.reduceLeDiff,Int.reduceToNat,Int.reduceLE,Int.reduceLT,Int.reduceEq,Nat.reduceAdd,Int.reduceBNe,Int.reduceBEq,Int.reduceNeg]
def longP (p : PinV) : Bool := decide (1000 < p.name.length) || longH p.hashes
theorem pin_nv (p : PinV) : NV (.agg p.cs) := .agg (.cons (.str _) (.cons (.int _ _) (.cons (.int _ _) (.cons (hashes_nv _) .nil))))
theorem law23_LongPin (hC : Has C f_legatelaw23_LongPin K_legatelaw23_LongPin) (hh : Has C f_legatelaw21_LongHashes K_legatelaw21_LongHashes) (p : PinV) (σ : St) (hσ : Ok σ) : semF C f_legatelaw23_LongPin [.agg p.cs] σ = some (.bool (longP p),σ) := by
  rw [hC.go (NVs.hand (.cons (pin_nv p) .nil) _) (by simp [K_legatelaw23_LongPin])]
  have pc : p.cs = [.str p.name,.int .i64 p.version,.int .i64 p.length,.sl p.hashes.length (p.hashes.flatMap HashV.cs)] := rfl
  have ty := fun b => st_tidy hσ (vs := [.bool b]) rfl
  unfold longP
  by_cases h : 1000 < p.name.length
  · have h' : (1000 : Int) < (p.name.length : Int) := by omega
    simp only [K_legatelaw23_LongPin,pc,h,h',law21_LongHashes hh p.hashes,ty,Bool.true_or,AV.cells,flat_sl,List.cons_append,Nat.le_add_left,EVC,EVD,EVB,Nat.reduceEqDiff,eqOp,eqA,eqNil,lenA,asNat,optNat,pt,tupleOf,Nat.reduceSub,Nat.reduceGT,Nat.reduceLT,hand,norms,normVs,normV,freeze,reduceIte,reduceCtorEq,srcCells,slCells,isStr,fillA,rep,Nat.reduceMul,Nat.reduceLeDiff,Int.reduceToNat,Int.reduceLE,Int.reduceLT,Int.reduceEq,Nat.reduceAdd,Int.reduceBNe,Int.reduceBEq,Int.reduceNeg]
  · have h' : ¬ (1000 : Int) < (p.name.length : Int) := by omega
    simp only [K_legatelaw23_LongPin,pc,h,h',law21_LongHashes hh p.hashes,ty,Bool.false_or,AV.cells,flat_sl,List.cons_append,Nat.le_add_left,EVC,EVD,EVB,Nat.reduceEqDiff,eqOp,eqA,eqNil,lenA,asNat,optNat,pt,tupleOf,Nat.reduceSub,Nat.reduceGT,Nat.reduceLT,hand,norms,normVs,normV,freeze,reduceIte,reduceCtorEq,srcCells,slCells,isStr,fillA,rep,Nat.reduceMul,Nat.reduceLeDiff,Int.reduceToNat,Int.reduceLE,Int.reduceLT,Int.reduceEq,Nat.reduceAdd,Int.reduceBNe,Int.reduceBEq,Int.reduceNeg]
end Go.Ev

namespace Go.Ev
set_option maxRecDepth 100000
set_option linter.unusedSimpArgs false
variable {C : Ctx}
def longFrom : List PinV → Nat → Bool
  | [],_ => false
  | p :: l,n => if 600 < n + 1 then true else longP p || longFrom l (n + 1)
structure LongHas (C : Ctx) : Prop where
  hashes : Has C f_legatelaw21_LongHashes K_legatelaw21_LongHashes
  pin : Has C f_legatelaw23_LongPin K_legatelaw23_LongPin
  long : Has C f_legatelaw23_Long K_legatelaw23_Long
def snapC (s : SnapV) : List AV := [.int .i64 s.version,.int .i64 s.expires,.sl s.pins.length (s.pins.flatMap PinV.cs)]
theorem law23_Long_loop0 (h : LongHas C) (s : SnapV) (σ : St) (hσ : Ok σ) : ∀ (n i : Nat),i + n = s.pins.length → i ≤ 600 → ∃ k,
    loopK C (semF C) 37 [0,3,4,5] L_legatelaw23_Long_0 [(0,.sl 1 (snapC s)),(3,.int .i64 i),(4,.int .i64 0),(5,.int .i64 i)] σ =
      if longFrom (s.pins.drop i) i then some (.ret,[(2,.bool true)],σ) else some (.exit 2,[(0,.sl 1 (snapC s)),(3,.int .i64 k),(4,.int .i64 0)],σ)
  | 0,i,hi,_ => by
    rw [loop_eq (he := rfl)]
    have h1 : ¬ ((i : Int) < (s.pins.length : Int)) := by omega
    have h' : s.pins.drop i = [] := List.drop_eq_nil_of_le (by omega)
    have fl := flat_len PinV.len s.pins
    refine ⟨i,?_⟩
    simp only [L_legatelaw23_Long_0,snapC,h1,h',longFrom,fl,lenA,Nat.le_add_left,EVC,EVD,EVB,Nat.reduceEqDiff,eqOp,eqA,eqNil,lenA,asNat,optNat,pt,tupleOf,Nat.reduceSub,Nat.reduceGT,Nat.reduceLT,hand,norms,normVs,normV,freeze,reduceIte,reduceCtorEq,srcCells,slCells,isStr,fillA,rep,Nat.reduceMul,Nat.reduceLeDiff,Int.reduceToNat,Int.reduceLE,Int.reduceLT,Int.reduceEq,Nat.reduceAdd,Int.reduceBNe,Int.reduceBEq,Int.reduceNeg]
  | n + 1,i,hi,h6 => by
    rw [loop_eq (he := rfl)]
    have h1 : ((i : Int) < (s.pins.length : Int)) := by omega
    have h2 : i < s.pins.length := by omega
    have hb : s.pins[i]? = some s.pins[i] := List.getElem?_eq_getElem h2
    have h' : s.pins.drop i = s.pins[i] :: s.pins.drop (i + 1) := List.drop_eq_getElem_cons h2
    have h3 : (0 : Int) ≤ i := by omega
    have hw : IntKind.i64.wrap ((i : Int) + 1) = ((i + 1 : Nat) : Int) := by rw [w64] <;> omega
    have fl := flat_len PinV.len s.pins
    have fd := flat_at PinV.len hb
    obtain ⟨p,hpe⟩ : ∃ p,p = s.pins[i] := ⟨_,rfl⟩
    rw [← hpe] at fd h'
    have q := law23_LongPin h.pin h.hashes p σ hσ
    have pc : p.cs = [.str p.name,.int .i64 p.version,.int .i64 p.length,.sl p.hashes.length (p.hashes.flatMap HashV.cs)] := rfl
    rw [pc] at q
    rw [h',longFrom]
    by_cases hc : 600 < i + 1
    · have hc' : (600 : Int) < ((i + 1 : Nat) : Int) := by omega
      refine ⟨0,?_⟩
      rw [if_pos hc]
      generalize hk : loopK C (semF C) 37 [0,3,4,5] L_legatelaw23_Long_0 = k at *
      simp only [L_legatelaw23_Long_0,snapC,h1,h2,h3,hc',hw,fl,fd,pc,lenA,AV.cells,flat_sl,List.cons_append,Nat.le_add_left,EVC,EVD,EVB,Nat.reduceEqDiff,eqOp,eqA,eqNil,lenA,asNat,optNat,pt,tupleOf,Nat.reduceSub,Nat.reduceGT,Nat.reduceLT,hand,norms,normVs,normV,freeze,reduceIte,reduceCtorEq,srcCells,slCells,isStr,fillA,rep,Nat.reduceMul,Nat.reduceLeDiff,Int.reduceToNat,Int.reduceLE,Int.reduceLT,Int.reduceEq,Nat.reduceAdd,Int.reduceBNe,Int.reduceBEq,Int.reduceNeg]
    · have hc' : ¬ (600 : Int) < ((i + 1 : Nat) : Int) := by omega
      rw [if_neg hc]
      obtain ⟨k0,ih⟩ := law23_Long_loop0 h s σ hσ n (i + 1) (by omega) (by omega)
      refine ⟨k0,?_⟩
      cases hl : longP p
      · rw [Bool.false_or,← ih]
        generalize hk : loopK C (semF C) 37 [0,3,4,5] L_legatelaw23_Long_0 = k at *
        simp only [L_legatelaw23_Long_0,snapC,h1,h2,h3,hc',hw,q,hl,fl,fd,pc,lenA,AV.cells,flat_sl,List.cons_append,Nat.le_add_left,EVC,EVD,EVB,Nat.reduceEqDiff,eqOp,eqA,eqNil,lenA,asNat,optNat,pt,tupleOf,Nat.reduceSub,Nat.reduceGT,Nat.reduceLT,hand,norms,normVs,normV,freeze,reduceIte,reduceCtorEq,srcCells,slCells,isStr,fillA,rep,Nat.reduceMul,Nat.reduceLeDiff,Int.reduceToNat,Int.reduceLE,Int.reduceLT,Int.reduceEq,Nat.reduceAdd,Int.reduceBNe,Int.reduceBEq,Int.reduceNeg]
      · rw [Bool.true_or]
        generalize hk : loopK C (semF C) 37 [0,3,4,5] L_legatelaw23_Long_0 = k at *
        simp only [L_legatelaw23_Long_0,snapC,h1,h2,h3,hc',hw,q,hl,fl,fd,pc,lenA,AV.cells,flat_sl,List.cons_append,Nat.le_add_left,EVC,EVD,EVB,Nat.reduceEqDiff,eqOp,eqA,eqNil,lenA,asNat,optNat,pt,tupleOf,Nat.reduceSub,Nat.reduceGT,Nat.reduceLT,hand,norms,normVs,normV,freeze,reduceIte,reduceCtorEq,srcCells,slCells,isStr,fillA,rep,Nat.reduceMul,Nat.reduceLeDiff,Int.reduceToNat,Int.reduceLE,Int.reduceLT,Int.reduceEq,Nat.reduceAdd,Int.reduceBNe,Int.reduceBEq,Int.reduceNeg]
theorem snapC_below (s : SnapV) : belows 0 (snapC s) = true := by
  have := (snap_nv s).cl
  unfold snapA at this
  rw [below] at this
  exact this
theorem law23_Long (h : LongHas C) (s : SnapV) (σ : St) (hσ : Ok σ) : semF C f_legatelaw23_Long [.xsl 1 (snapC s)] σ = some (.bool (longFrom s.pins 0),σ) := by
  have hn : hand false [.xsl 1 (snapC s)] σ = some ([.sl 1 (snapC s)],σ) := by
    have ns : NVs (snapC s) := .cons (.int _ _) (.cons (.int _ _) (.cons (pins_nv s.pins) .nil))
    show (match norms σ 12 [.xsl 1 (snapC s)] with | some (l,fs) => some (l,freeze σ fs) | none => none) = _
    have : normV σ (norms σ 11) (.xsl 1 (snapC s)) = some (.sl 1 (snapC s),[]) := by
      show (match normVs σ (norms σ 11) (snapC s) with | some (l,fs) => some (AV.sl 1 l,fs) | none => none) = _
      rw [ns.nf]
    rw [show norms σ 12 [.xsl 1 (snapC s)] = (match normV σ (norms σ 11) (.xsl 1 (snapC s)),normVs σ (norms σ 11) [] with | some (v,fs),some (l,gs) => some (v :: l,fs ++ gs) | _,_ => none) from rfl,this]
    rfl
  rw [h.long.go hn (by simp [K_legatelaw23_Long])]
  obtain ⟨k,lp⟩ := law23_Long_loop0 h s σ hσ s.pins.length 0 (by omega) (by omega)
  simp only [Int.natCast_zero,Int.cast_ofNat_Int,List.drop_zero] at lp
  have h1 : ¬ ((1 : Int) < 1) := by omega
  have l3 : (snapC s).length = 3 := rfl
  have lp1 : loopK C (semF C) 37 [0,3,4] L_legatelaw23_Long_1 [(0,.sl 1 (snapC s)),(3,.int .i64 0),(4,.int .i64 0)] σ = if longFrom s.pins 0 then some (.ret,[(2,.bool true)],σ) else some (.exit 0,[],σ) := by
    rw [loop_eq (he := rfl)]
    have hw : IntKind.i64.wrap ((0 : Int) + 1) = 1 := by rw [w64] <;> omega
    cases hl : longFrom s.pins 0
    · rw [hl] at lp
      have : loopK C (semF C) 37 [0,3,4] L_legatelaw23_Long_1 [(0,.sl 1 (snapC s)),(3,.int .i64 k),(4,.int .i64 1)] σ = some (.exit 0,[],σ) := by
        rw [loop_eq (he := rfl)]
        simp only [L_legatelaw23_Long_1,l3,lenA,EVC,EVD,EVB,Nat.reduceEqDiff,eqOp,eqA,eqNil,lenA,asNat,optNat,pt,tupleOf,Nat.reduceSub,Nat.reduceGT,Nat.reduceLT,hand,norms,normVs,normV,freeze,reduceIte,reduceCtorEq,srcCells,slCells,isStr,fillA,rep,Nat.reduceMul,Nat.reduceLeDiff,Int.reduceToNat,Int.reduceLE,Int.reduceLT,Int.reduceEq,Nat.reduceAdd,Int.reduceBNe,Int.reduceBEq,Int.reduceNeg]
      generalize hk : loopK C (semF C) 37 [0,3,4] L_legatelaw23_Long_1 = kk at *
      simp only [L_legatelaw23_Long_1,lp,this,hw,l3,lenA,EVC,EVD,EVB,Nat.reduceEqDiff,eqOp,eqA,eqNil,lenA,asNat,optNat,pt,tupleOf,Nat.reduceSub,Nat.reduceGT,Nat.reduceLT,hand,norms,normVs,normV,freeze,reduceIte,reduceCtorEq,srcCells,slCells,isStr,fillA,rep,Nat.reduceMul,Nat.reduceLeDiff,Int.reduceToNat,Int.reduceLE,Int.reduceLT,Int.reduceEq,Nat.reduceAdd,Int.reduceBNe,Int.reduceBEq,Int.reduceNeg]
    · rw [hl] at lp
      simp only [L_legatelaw23_Long_1,lp,hw,l3,lenA,EVC,EVD,EVB,Nat.reduceEqDiff,eqOp,eqA,eqNil,lenA,asNat,optNat,pt,tupleOf,Nat.reduceSub,Nat.reduceGT,Nat.reduceLT,hand,norms,normVs,normV,freeze,reduceIte,reduceCtorEq,srcCells,slCells,isStr,fillA,rep,Nat.reduceMul,Nat.reduceLeDiff,Int.reduceToNat,Int.reduceLE,Int.reduceLT,Int.reduceEq,Nat.reduceAdd,Int.reduceBNe,Int.reduceBEq,Int.reduceNeg]
  cases hl : longFrom s.pins 0
  · rw [hl] at lp1
    simp only [K_legatelaw23_Long,lp1,l3,lenA,EVC,EVD,EVB,Nat.reduceEqDiff,eqOp,eqA,eqNil,lenA,asNat,optNat,pt,tupleOf,Nat.reduceSub,Nat.reduceGT,Nat.reduceLT,hand,norms,normVs,normV,freeze,reduceIte,reduceCtorEq,srcCells,slCells,isStr,fillA,rep,Nat.reduceMul,Nat.reduceLeDiff,Int.reduceToNat,Int.reduceLE,Int.reduceLT,Int.reduceEq,Nat.reduceAdd,Int.reduceBNe,Int.reduceBEq,Int.reduceNeg]
  · rw [hl] at lp1
    simp only [K_legatelaw23_Long,lp1,l3,lenA,EVC,EVD,EVB,Nat.reduceEqDiff,eqOp,eqA,eqNil,lenA,asNat,optNat,pt,tupleOf,Nat.reduceSub,Nat.reduceGT,Nat.reduceLT,hand,norms,normVs,normV,freeze,reduceIte,reduceCtorEq,srcCells,slCells,isStr,fillA,rep,Nat.reduceMul,Nat.reduceLeDiff,Int.reduceToNat,Int.reduceLE,Int.reduceLT,Int.reduceEq,Nat.reduceAdd,Int.reduceBNe,Int.reduceBEq,Int.reduceNeg]
theorem longFrom_len : ∀ (l : List PinV) (n : Nat),longFrom l n = false → n ≤ 600 → n + l.length ≤ 600 ∧ ∀ p ∈ l,longP p = false
  | [],n,_,h => ⟨by simpa using h,fun p hp => by cases hp⟩
  | p :: l,n,h,hn => by
    unfold longFrom at h
    split at h
    · cases h
    · rename_i h6
      rw [Bool.or_eq_false_iff] at h
      obtain ⟨a,b⟩ := longFrom_len l (n + 1) h.2 (by omega)
      refine ⟨by simp only [List.length_cons]; omega,fun q hq => ?_⟩
      rcases List.mem_cons.mp hq with rfl | hq
      · exact h.1
      · exact b q hq
theorem small_of {s : SnapV} (h : longFrom s.pins 0 = false) : SnapSmall s := by
  obtain ⟨a,b⟩ := longFrom_len s.pins 0 h (by omega)
  refine ⟨by omega,fun p hp => ?_⟩
  have := b p hp
  unfold longP longH at this
  rw [Bool.or_eq_false_iff] at this
  have h5 : lhN p.hashes 0 < 5000 := by simpa using this.2
  have := lhN_len p.hashes 0 h5
  omega
end Go.Ev

namespace Go.Ev
set_option maxRecDepth 100000
set_option linter.unusedSimpArgs false
variable {C : Ctx}
/-- the file's cells: 24, the size in the tenth -/
structure FileC (l : List AV) (size : Int) : Prop where
  len : l.length = 24
  size : l[10]? = some (.int .i64 size)
theorem check_missing (hC : Has C f_check_file_missing K_check_file_missing) {σ : St} {o : Nat} {l : List AV} {fz : Fz} {size : Int} (ho : σ[o]? = some (.cells l fz)) (hl : FileC l size) : semF C f_check_file_missing [.ref o 0] σ = some (.bool (size == -1),σ) := by
  have hn : hand false [.ref o 0] σ = some ([.ref o 0],σ) := rfl
  rw [hC.go hn (by simp [K_check_file_missing])]
  obtain ⟨r,hr⟩ := drop_at hl.size
  simp only [K_check_file_missing,ho,hr,EVC,EVD,EVB,Nat.reduceEqDiff,eqOp,eqA,eqNil,lenA,asNat,optNat,pt,tupleOf,Nat.reduceSub,Nat.reduceGT,Nat.reduceLT,hand,norms,normVs,normV,freeze,reduceIte,reduceCtorEq,srcCells,slCells,isStr,fillA,rep,Nat.reduceMul,Nat.reduceLeDiff,Int.reduceToNat,Int.reduceLE,Int.reduceLT,Int.reduceEq,Nat.reduceAdd,Int.reduceBNe,Int.reduceBEq,Int.reduceNeg]
theorem check_big (hC : Has C f_check_file_big K_check_file_big) {σ : St} {o : Nat} {l : List AV} {fz : Fz} {size : Int} (ho : σ[o]? = some (.cells l fz)) (hl : FileC l size) (hs : size < 0) : semF C f_check_file_big [.ref o 0] σ = some (.bool true,σ) := by
  have hn : hand false [.ref o 0] σ = some ([.ref o 0],σ) := rfl
  rw [hC.go hn (by simp [K_check_file_big])]
  obtain ⟨r,hr⟩ := drop_at hl.size
  simp only [K_check_file_big,ho,hr,hs,EVC,EVD,EVB,Nat.reduceEqDiff,eqOp,eqA,eqNil,lenA,asNat,optNat,pt,tupleOf,Nat.reduceSub,Nat.reduceGT,Nat.reduceLT,hand,norms,normVs,normV,freeze,reduceIte,reduceCtorEq,srcCells,slCells,isStr,fillA,rep,Nat.reduceMul,Nat.reduceLeDiff,Int.reduceToNat,Int.reduceLE,Int.reduceLT,Int.reduceEq,Nat.reduceAdd,Int.reduceBNe,Int.reduceBEq,Int.reduceNeg]
theorem check_first (hC : Has C f_check_first K_check_first) (hm : Has C f_check_file_missing K_check_file_missing) (hb : Has C f_check_file_big K_check_file_big) {σ : St} {o : Nat} {l : List AV} {fz : Fz} {size : Int} (ho : σ[o]? = some (.cells l fz)) (hl : FileC l size) (hs : size < 0) (n : Nat) (ts ts' : List AV) (hn2 : 2 ≤ n) (hts : ts'.length + 4 = n * 2)
    (hnt : ∀ τ r,normVs τ r ts = some (ts',[])) (hσ : Ok σ) :
    semF C f_check_first [.xsl n (.int .u8 2 :: .func (.func f_check_file_missing) [.ref o 0] [] :: .int .u8 3 :: .func (.func f_check_file_big) [.ref o 0] [] :: ts)] σ = some (.int .u8 (if size = -1 then 2 else 3),σ) := by
  have hn : hand false [.xsl n (.int .u8 2 :: .func (.func f_check_file_missing) [.ref o 0] [] :: .int .u8 3 :: .func (.func f_check_file_big) [.ref o 0] [] :: ts)] σ = some ([.sl n (.int .u8 2 :: .func (.func f_check_file_missing) [.ref o 0] [] :: .int .u8 3 :: .func (.func f_check_file_big) [.ref o 0] [] :: ts')],σ) := by
    simp only [hand_is,nvs_cons,nvs_nil,nv_xsl,nv_int,nv_func,nv_ref,hnt,freeze,List.append_nil]
  rw [hC.go hn (by simp [K_check_first])]
  have h1 : (0 : Int) < (n : Int) := by omega
  have h2 : (1 : Int) < (n : Int) := by omega
  have h1n : 0 < n := by omega
  have h2n : 1 < n := by omega
  have w1 : IntKind.i64.wrap ((0 : Int) + 1) = 1 := by rw [w64] <;> omega
  have ho2 : ∀ L : St,(σ ++ L)[o]? = some (.cells l fz) := fun L => by rw [List.getElem?_append_left (List.getElem?_eq_some_iff.mp ho).1]; exact ho
  have ty := fun v => st_tidy hσ (vs := [.int .u8 v]) rfl
  have hc : ∀ L,semF C f_check_file_missing [.ref o 0] (σ ++ L) = some (.bool (size == -1),σ ++ L) := fun L => check_missing hm (ho2 L) hl
  have hd : ∀ L,semF C f_check_file_big [.ref o 0] (σ ++ L) = some (.bool true,σ ++ L) := fun L => check_big hb (ho2 L) hl hs
  have ln : ts'.length + 1 + 1 + 1 + 1 = n * 2 := by omega
  have l2 : 2 ≤ n * 2 := by omega
  by_cases hz : size = -1
  · have hz' : (size == -1) = true := by simp [hz]
    have lp : loopK C (semF C) 17 [5,6,7] L_check_first_0 [(5,.sl n (.int .u8 2 :: .func (.func f_check_file_missing) [.ref o 0] [] :: .int .u8 3 :: .func (.func f_check_file_big) [.ref o 0] [] :: ts')),(6,.int .i64 n),(7,.int .i64 0)] σ = some (.ret,[(2,.int .u8 2)],σ ++ [.cells [.int .u8 2,.func (.func f_check_file_missing) [.ref o 0] []] ⟨false,none⟩]) := by
      rw [loop_eq (he := rfl)]
      generalize hk : loopK C (semF C) 17 [5,6,7] L_check_first_0 = k
      simp only [L_check_first_0,h1,h1n,ln,l2,hc,hz',cv_func,Nat.zero_mul,Nat.le_add_left,EVC,EVD,EVB,Nat.reduceEqDiff,eqOp,eqA,eqNil,lenA,asNat,optNat,pt,tupleOf,Nat.reduceSub,Nat.reduceGT,Nat.reduceLT,hand,norms,normVs,normV,freeze,reduceIte,reduceCtorEq,srcCells,slCells,isStr,fillA,rep,Nat.reduceMul,Nat.reduceLeDiff,Int.reduceToNat,Int.reduceLE,Int.reduceLT,Int.reduceEq,Nat.reduceAdd,Int.reduceBNe,Int.reduceBEq,Int.reduceNeg]
    simp only [K_check_first,lp,ln,ty,hz,EVC,EVD,EVB,Nat.reduceEqDiff,eqOp,eqA,eqNil,lenA,asNat,optNat,pt,tupleOf,Nat.reduceSub,Nat.reduceGT,Nat.reduceLT,hand,norms,normVs,normV,freeze,reduceIte,reduceCtorEq,srcCells,slCells,isStr,fillA,rep,Nat.reduceMul,Nat.reduceLeDiff,Int.reduceToNat,Int.reduceLE,Int.reduceLT,Int.reduceEq,Nat.reduceAdd,Int.reduceBNe,Int.reduceBEq,Int.reduceNeg]
  · have hz' : (size == -1) = false := by simp [hz]
    have lp2 : loopK C (semF C) 17 [5,6,7] L_check_first_0 [(5,.sl n (.int .u8 2 :: .func (.func f_check_file_missing) [.ref o 0] [] :: .int .u8 3 :: .func (.func f_check_file_big) [.ref o 0] [] :: ts')),(6,.int .i64 n),(7,.int .i64 1)] (σ ++ [.cells [.int .u8 2,.func (.func f_check_file_missing) [.ref o 0] []] ⟨false,none⟩]) = some (.ret,[(2,.int .u8 3)],σ ++ [.cells [.int .u8 2,.func (.func f_check_file_missing) [.ref o 0] []] ⟨false,none⟩,.cells [.int .u8 3,.func (.func f_check_file_big) [.ref o 0] []] ⟨false,none⟩]) := by
      rw [loop_eq (he := rfl)]
      generalize hk : loopK C (semF C) 17 [5,6,7] L_check_first_0 = k
      simp only [L_check_first_0,h2,h2n,ln,l2,hd,cv_func,Nat.one_mul,Nat.le_add_left,EVC,EVD,EVB,Nat.reduceEqDiff,eqOp,eqA,eqNil,lenA,asNat,optNat,pt,tupleOf,Nat.reduceSub,Nat.reduceGT,Nat.reduceLT,hand,norms,normVs,normV,freeze,reduceIte,reduceCtorEq,srcCells,slCells,isStr,fillA,rep,Nat.reduceMul,Nat.reduceLeDiff,Int.reduceToNat,Int.reduceLE,Int.reduceLT,Int.reduceEq,Nat.reduceAdd,Int.reduceBNe,Int.reduceBEq,Int.reduceNeg]
    have lp : loopK C (semF C) 17 [5,6,7] L_check_first_0 [(5,.sl n (.int .u8 2 :: .func (.func f_check_file_missing) [.ref o 0] [] :: .int .u8 3 :: .func (.func f_check_file_big) [.ref o 0] [] :: ts')),(6,.int .i64 n),(7,.int .i64 0)] σ = some (.ret,[(2,.int .u8 3)],σ ++ [.cells [.int .u8 2,.func (.func f_check_file_missing) [.ref o 0] []] ⟨false,none⟩,.cells [.int .u8 3,.func (.func f_check_file_big) [.ref o 0] []] ⟨false,none⟩]) := by
      rw [loop_eq (he := rfl)]
      generalize hk : loopK C (semF C) 17 [5,6,7] L_check_first_0 = k at *
      simp only [L_check_first_0,h1,h1n,ln,l2,hc,hz',w1,lp2,cv_func,Nat.zero_mul,Nat.le_add_left,EVC,EVD,EVB,Nat.reduceEqDiff,eqOp,eqA,eqNil,lenA,asNat,optNat,pt,tupleOf,Nat.reduceSub,Nat.reduceGT,Nat.reduceLT,hand,norms,normVs,normV,freeze,reduceIte,reduceCtorEq,srcCells,slCells,isStr,fillA,rep,Nat.reduceMul,Nat.reduceLeDiff,Int.reduceToNat,Int.reduceLE,Int.reduceLT,Int.reduceEq,Nat.reduceAdd,Int.reduceBNe,Int.reduceBEq,Int.reduceNeg]
    simp only [K_check_first,lp,ln,ty,hz,EVC,EVD,EVB,Nat.reduceEqDiff,eqOp,eqA,eqNil,lenA,asNat,optNat,pt,tupleOf,Nat.reduceSub,Nat.reduceGT,Nat.reduceLT,hand,norms,normVs,normV,freeze,reduceIte,reduceCtorEq,srcCells,slCells,isStr,fillA,rep,Nat.reduceMul,Nat.reduceLeDiff,Int.reduceToNat,Int.reduceLE,Int.reduceLT,Int.reduceEq,Nat.reduceAdd,Int.reduceBNe,Int.reduceBEq,Int.reduceNeg]
end Go.Ev

namespace Go.Ev
set_option maxRecDepth 100000
set_option linter.unusedSimpArgs false
variable {C : Ctx}
structure RoleHas (C : Ctx) : Prop where
  missing : Has C f_check_file_missing K_check_file_missing
  big : Has C f_check_file_big K_check_file_big
  first : Has C f_check_first K_check_first
  role : Has C f_check_Role K_check_Role
  snap : Has C f_check_Snapshot K_check_Snapshot
def zeroTargets : List AV := [.int .i64 0,.int .i64 0,.sl 0 [],.sl 0 [],.sl 0 [],.int .i64 0,.sl 0 [],.int .i64 0,.str []]
def roleL (n o0 : Nat) (n1 : List UInt8) (v1 l1 : Int) (hn : Nat) (hl : List AV) (th : Int) (an : Nat) (al : List AV) (kn : Nat) (kl : List AV) (now : Int) (data : List UInt8) (size : Int) (f0 : Nat) : St :=
  [.cells [.str n1,.int .i64 v1,.int .i64 l1,.sl hn hl] ⟨false,none⟩,.cells [.int .i64 th,.sl an al] ⟨false,none⟩,
   .cells [.int .i64 0,.int .i64 0,.nils,.nils,.nils,.int .i64 0,.nils,.int .i64 0,.str []] ⟨false,none⟩,
   .cells [.ref o0 f0,.int .i64 th,.sl an al,.sl kn kl,.str n1,.int .i64 v1,.int .i64 l1,.sl hn hl,.int .i64 now,.str data,.int .i64 size,.int .u8 0,.int .i64 0,.str [],.nils,.nils,.int .u8 0,.int .i64 0,.str [],.nils,.nils,.nils,.int .i64 0,.int .i64 0] ⟨false,none⟩,
   .cells [.ref (n + 3) 0] ⟨false,none⟩,.cells [.int .i64 0,.int .i64 0,.nils,.nils,.nils,.int .i64 0,.nils,.int .i64 0,.str []] ⟨false,none⟩]
theorem check_Role_none (h : RoleHas C) (o0 f0 : Nat) (n1 : List UInt8) (v1 l1 : Int) (hn : Nat) (hl : List AV) (th : Int) (an : Nat) (al : List AV) (kn : Nat) (kl : List AV) (now : Int) (data : List UInt8) (size : Int) (hs : size < 0) (σ : St) (hσ : Ok σ) (ho : o0 < σ.length) (hh : belows 0 hl = true) (ha : belows 0 al = true) (hk : belows 0 kl = true) :
    semF C f_check_Role [.ref o0 f0,.agg [.str n1,.int .i64 v1,.int .i64 l1,.sl hn hl],.agg [.int .i64 th,.sl an al],.sl kn kl,.int .i64 now,.str data,.int .i64 size] σ = some (.tup [.agg zeroTargets,.int .u8 (if size = -1 then 2 else 3)],σ) := by
  have hn0 : hand false [.ref o0 f0,.agg [.str n1,.int .i64 v1,.int .i64 l1,.sl hn hl],.agg [.int .i64 th,.sl an al],.sl kn kl,.int .i64 now,.str data,.int .i64 size] σ = some ([.ref o0 f0,.agg [.str n1,.int .i64 v1,.int .i64 l1,.sl hn hl],.agg [.int .i64 th,.sl an al],.sl kn kl,.int .i64 now,.str data,.int .i64 size],σ) := by
    simp only [hand_is,nvs_cons,nvs_nil,nv_agg,nv_str,nv_sl,nv_int,nv_ref,freeze,List.append_nil]
  rw [h.role.go hn0 (by simp [K_check_Role])]
  have mono := fun (l : List AV) (h : belows 0 l = true) => belows_mono (Nat.zero_le (σ.length + 6)) l h
  have oLt : o0 < σ.length + 6 := by omega
  have ok6 : Ok (σ ++ roleL σ.length o0 n1 v1 l1 hn hl th an al kn kl now data size f0) := st_ok hσ (by
    simp [roleL,AO.below,belows,below,mono hl hh,mono al ha,mono kl hk,oLt])
  have h3 : (σ ++ roleL σ.length o0 n1 v1 l1 hn hl th an al kn kl now data size f0)[σ.length + 3]? = some (.cells [.ref o0 f0,.int .i64 th,.sl an al,.sl kn kl,.str n1,.int .i64 v1,.int .i64 l1,.sl hn hl,.int .i64 now,.str data,.int .i64 size,.int .u8 0,.int .i64 0,.str [],.nils,.nils,.int .u8 0,.int .i64 0,.str [],.nils,.nils,.nils,.int .i64 0,.int .i64 0] ⟨false,none⟩) := by
    rw [st_get]; rfl
  have q := fun (ts : List AV) (ht : ts.length = 16) (hnt : ∀ τ r,normVs τ r ts = some (ts,[])) => check_first h.first h.missing h.big h3 ⟨rfl,rfl⟩ hs 10 ts ts (by decide) (by omega) hnt ok6
  unfold roleL at q
  have ty := fun c => st_tidy hσ (vs := [.agg zeroTargets,.int .u8 c]) rfl
  unfold zeroTargets at ty
  have hr : ∀ ts' : List AV,ts'.length = 16 → ts'.length + 4 = 10 * 2 := fun ts' h => by omega
  unfold zeroTargets
  by_cases hz : size = -1
  · simp only [hz,if_true] at q
    simp only [K_check_Role,hz,AV.cells,AV.flat,EVC,EVD,EVB,Nat.reduceEqDiff,eqOp,eqA,eqNil,lenA,asNat,optNat,pt,tupleOf,Nat.reduceSub,Nat.reduceGT,Nat.reduceLT,hand,norms,normVs,normV,freeze,reduceIte,reduceCtorEq,srcCells,slCells,isStr,fillA,rep,Nat.reduceMul,Nat.reduceLeDiff,Int.reduceToNat,Int.reduceLE,Int.reduceLT,Int.reduceEq,Nat.reduceAdd,Int.reduceBNe,Int.reduceBEq,Int.reduceNeg]
    rw [q]
    · simp only [resL,nv_agg,nv_nils,ty,AV.cells,AV.flat,EVC,EVD,EVB,Nat.reduceEqDiff,eqOp,eqA,eqNil,lenA,asNat,optNat,pt,tupleOf,Nat.reduceSub,Nat.reduceGT,Nat.reduceLT,hand,norms,normVs,normV,freeze,reduceIte,reduceCtorEq,srcCells,slCells,isStr,fillA,rep,Nat.reduceMul,Nat.reduceLeDiff,Int.reduceToNat,Int.reduceLE,Int.reduceLT,Int.reduceEq,Nat.reduceAdd,Int.reduceBNe,Int.reduceBEq,Int.reduceNeg]
    · rfl
    · intro τ r
      simp only [nvs_cons,nvs_nil,nv_func,nv_ref,nv_int,List.append_nil]
  · simp only [hz,if_false] at q
    simp only [K_check_Role,hz,AV.cells,AV.flat,EVC,EVD,EVB,Nat.reduceEqDiff,eqOp,eqA,eqNil,lenA,asNat,optNat,pt,tupleOf,Nat.reduceSub,Nat.reduceGT,Nat.reduceLT,hand,norms,normVs,normV,freeze,reduceIte,reduceCtorEq,srcCells,slCells,isStr,fillA,rep,Nat.reduceMul,Nat.reduceLeDiff,Int.reduceToNat,Int.reduceLE,Int.reduceLT,Int.reduceEq,Nat.reduceAdd,Int.reduceBNe,Int.reduceBEq,Int.reduceNeg]
    rw [q]
    · simp only [resL,nv_agg,nv_nils,ty,AV.cells,AV.flat,EVC,EVD,EVB,Nat.reduceEqDiff,eqOp,eqA,eqNil,lenA,asNat,optNat,pt,tupleOf,Nat.reduceSub,Nat.reduceGT,Nat.reduceLT,hand,norms,normVs,normV,freeze,reduceIte,reduceCtorEq,srcCells,slCells,isStr,fillA,rep,Nat.reduceMul,Nat.reduceLeDiff,Int.reduceToNat,Int.reduceLE,Int.reduceLT,Int.reduceEq,Nat.reduceAdd,Int.reduceBNe,Int.reduceBEq,Int.reduceNeg]
    · rfl
    · intro τ r
      simp only [nvs_cons,nvs_nil,nv_func,nv_ref,nv_int,List.append_nil]
end Go.Ev

namespace Go.Ev
set_option maxRecDepth 100000
set_option linter.unusedSimpArgs false
variable {C : Ctx}
def zeroSnap : List AV := [.int .i64 0,.int .i64 0,.sl 0 []]
def rootC (th : Int) (an : Nat) (al : List AV) (kn : Nat) (kl : List AV) (z : AV) : List AV := [.int .i64 0,.int .i64 0,.sl kn kl,.int .i64 0,z,.int .i64 th,.sl an al,.int .i64 0,z]
def snapL (n o0 : Nat) (th : Int) (an : Nat) (al : List AV) (kn : Nat) (kl : List AV) (now : Int) (data : List UInt8) (size : Int) (f0 : Nat) : St :=
  [.cells (rootC th an al kn kl (.sl 0 [])) ⟨false,none⟩,.cells [.int .i64 0,.int .i64 0,.nils] ⟨false,none⟩,
   .cells [.ref o0 f0,.int .i64 th,.sl an al,.sl kn kl,.str [],.int .i64 0,.int .i64 (-1),.nils,.int .i64 now,.str data,.int .i64 size,.int .u8 0,.int .i64 0,.str [],.nils,.nils,.int .u8 0,.int .i64 0,.str [],.nils,.nils,.nils,.int .i64 0,.int .i64 0] ⟨false,none⟩,
   .cells [.ref (n + 2) 0] ⟨false,none⟩,.cells [.int .i64 0,.int .i64 0,.nils] ⟨false,none⟩]
theorem check_Snapshot_none (h : RoleHas C) (o0 f0 : Nat) (th : Int) (an : Nat) (al : List AV) (kn : Nat) (kl : List AV) (now : Int) (data : List UInt8) (size : Int) (hs : size < 0) (σ : St) (hσ : Ok σ) (ho : o0 < σ.length) (ha : belows 0 al = true) (hk : belows 0 kl = true) :
    semF C f_check_Snapshot [.ref o0 f0,.agg (rootC th an al kn kl .nils),.int .i64 now,.str data,.int .i64 size] σ = some (.tup [.agg zeroSnap,.int .u8 (if size = -1 then 2 else 3)],σ) := by
  have hn0 : hand false [.ref o0 f0,.agg (rootC th an al kn kl .nils),.int .i64 now,.str data,.int .i64 size] σ = some ([.ref o0 f0,.agg (rootC th an al kn kl (.sl 0 [])),.int .i64 now,.str data,.int .i64 size],σ) := by
    simp only [rootC,hand_is,nvs_cons,nvs_nil,nv_agg,nv_str,nv_sl,nv_int,nv_ref,nv_nils,freeze,List.append_nil]
  rw [h.snap.go hn0 (by simp [K_check_Snapshot])]
  have mono := fun (l : List AV) (h : belows 0 l = true) => belows_mono (Nat.zero_le (σ.length + 5)) l h
  have oLt : o0 < σ.length + 5 := by omega
  have ok6 : Ok (σ ++ snapL σ.length o0 th an al kn kl now data size f0) := st_ok hσ (by
    simp [snapL,rootC,AO.below,belows,below,mono al ha,mono kl hk,oLt])
  have h3 : (σ ++ snapL σ.length o0 th an al kn kl now data size f0)[σ.length + 2]? = some (.cells [.ref o0 f0,.int .i64 th,.sl an al,.sl kn kl,.str [],.int .i64 0,.int .i64 (-1),.nils,.int .i64 now,.str data,.int .i64 size,.int .u8 0,.int .i64 0,.str [],.nils,.nils,.int .u8 0,.int .i64 0,.str [],.nils,.nils,.nils,.int .i64 0,.int .i64 0] ⟨false,none⟩) := by
    rw [st_get]; rfl
  have q := fun (ts : List AV) (ht : ts.length = 10) (hnt : ∀ τ r,normVs τ r ts = some (ts,[])) => check_first h.first h.missing h.big h3 ⟨rfl,rfl⟩ hs 7 ts ts (by decide) (by omega) hnt ok6
  unfold snapL rootC at q
  have ty := fun c => st_tidy hσ (vs := [.agg zeroSnap,.int .u8 c]) rfl
  unfold zeroSnap at ty
  unfold zeroSnap
  by_cases hz : size = -1
  · simp only [hz,if_true] at q
    simp only [K_check_Snapshot,rootC,hz,AV.cells,AV.flat,EVC,EVD,EVB,Nat.reduceEqDiff,eqOp,eqA,eqNil,lenA,asNat,optNat,pt,tupleOf,Nat.reduceSub,Nat.reduceGT,Nat.reduceLT,hand,norms,normVs,normV,freeze,reduceIte,reduceCtorEq,srcCells,slCells,isStr,fillA,rep,Nat.reduceMul,Nat.reduceLeDiff,Int.reduceToNat,Int.reduceLE,Int.reduceLT,Int.reduceEq,Nat.reduceAdd,Int.reduceBNe,Int.reduceBEq,Int.reduceNeg]
    rw [q]
    · simp only [resL,nv_agg,nv_nils,ty,AV.cells,AV.flat,EVC,EVD,EVB,Nat.reduceEqDiff,eqOp,eqA,eqNil,lenA,asNat,optNat,pt,tupleOf,Nat.reduceSub,Nat.reduceGT,Nat.reduceLT,hand,norms,normVs,normV,freeze,reduceIte,reduceCtorEq,srcCells,slCells,isStr,fillA,rep,Nat.reduceMul,Nat.reduceLeDiff,Int.reduceToNat,Int.reduceLE,Int.reduceLT,Int.reduceEq,Nat.reduceAdd,Int.reduceBNe,Int.reduceBEq,Int.reduceNeg]
    · rfl
    · intro τ r
      simp only [nvs_cons,nvs_nil,nv_func,nv_ref,nv_int,List.append_nil]
  · simp only [hz,if_false] at q
    simp only [K_check_Snapshot,rootC,hz,AV.cells,AV.flat,EVC,EVD,EVB,Nat.reduceEqDiff,eqOp,eqA,eqNil,lenA,asNat,optNat,pt,tupleOf,Nat.reduceSub,Nat.reduceGT,Nat.reduceLT,hand,norms,normVs,normV,freeze,reduceIte,reduceCtorEq,srcCells,slCells,isStr,fillA,rep,Nat.reduceMul,Nat.reduceLeDiff,Int.reduceToNat,Int.reduceLE,Int.reduceLT,Int.reduceEq,Nat.reduceAdd,Int.reduceBNe,Int.reduceBEq,Int.reduceNeg]
    rw [q]
    · simp only [resL,nv_agg,nv_nils,ty,AV.cells,AV.flat,EVC,EVD,EVB,Nat.reduceEqDiff,eqOp,eqA,eqNil,lenA,asNat,optNat,pt,tupleOf,Nat.reduceSub,Nat.reduceGT,Nat.reduceLT,hand,norms,normVs,normV,freeze,reduceIte,reduceCtorEq,srcCells,slCells,isStr,fillA,rep,Nat.reduceMul,Nat.reduceLeDiff,Int.reduceToNat,Int.reduceLE,Int.reduceLT,Int.reduceEq,Nat.reduceAdd,Int.reduceBNe,Int.reduceBEq,Int.reduceNeg]
    · rfl
    · intro τ r
      simp only [nvs_cons,nvs_nil,nv_func,nv_ref,nv_int,List.append_nil]
end Go.Ev

namespace Go.Ev
set_option maxRecDepth 100000
set_option linter.unusedSimpArgs false
variable {C : Ctx}
def strC (s : List UInt8) : List AV := [.str s]
structure AuthV where
  th : Int
  ids : List (List UInt8)
def AuthV.cs (a : AuthV) : List AV := [.int .i64 a.th,.sl a.ids.length (a.ids.flatMap strC)]
theorem strC_len (s : List UInt8) : (strC s).length = 1 := rfl
theorem AuthV.len (a : AuthV) : a.cs.length = 2 := rfl
theorem strs_below (l : List (List UInt8)) : belows 0 (l.flatMap strC) = true := flat_below (fun _ => rfl) l
theorem AuthV.below (a : AuthV) : belows 0 a.cs = true := by
  simp only [AuthV.cs,belows,Ev.below,strs_below]; rfl
theorem auth_nv (a : AuthV) : NV (.agg a.cs) := .agg (.cons (.int _ _) (.cons (.sl _ (strs_below _)) .nil))
def liN : List (List UInt8) → Nat → Nat
  | [],n => n
  | s :: l,n => if n < 5000 then liN l (n + 10 + min 5000 s.length) else n
def laN : List AuthV → Nat → Nat
  | [],n => n
  | a :: l,n => laN l (liN a.ids n)
theorem liN_ge : ∀ (l : List (List UInt8)) (n : Nat),n ≤ liN l n
  | [],n => Nat.le_refl _
  | h :: l,n => by
    unfold liN
    split
    · exact Nat.le_trans (by omega) (liN_ge l _)
    · exact Nat.le_refl _
theorem liN_le : ∀ (l : List (List UInt8)) (n : Nat),n ≤ 10010 → liN l n ≤ 10010
  | [],n,h => h
  | s :: l,n,h => by
    unfold liN
    split
    · exact liN_le l _ (by omega)
    · exact h
theorem law15_Long_in (as : List AuthV) (m : Nat) (a : AuthV) (hm : as[m]? = some a) (σ : St) : ∀ (n i acc : Nat),i + n = a.ids.length → acc ≤ 10010 → (acc < 5000 → 10 * i ≤ acc) →
    loopK C (semF C) 41 [0,3,4,5] L_legatelaw15_Long_0 [(0,.sl as.length (as.flatMap AuthV.cs)),(3,.int .i64 acc),(4,.int .i64 m),(5,.int .i64 i)] σ = some (.exit 2,[(0,.sl as.length (as.flatMap AuthV.cs)),(3,.int .i64 (liN (a.ids.drop i) acc : Nat)),(4,.int .i64 m)],σ)
  | 0,i,acc,hi,ha,hb => by
    rw [loop_eq (he := rfl)]
    have hml : m < as.length := (List.getElem?_eq_some_iff.mp hm).1
    have h : ¬ ((i : Int) < (a.ids.length : Int)) := by omega
    have h' : a.ids.drop i = [] := List.drop_eq_nil_of_le (by omega)
    have h0 : (0 : Int) ≤ m := by omega
    have fl := flat_len AuthV.len as
    have fd := flat_at AuthV.len hm
    have fi := flat_len strC_len a.ids
    have pc : a.cs = [.int .i64 a.th,.sl a.ids.length (a.ids.flatMap strC)] := rfl
    simp only [L_legatelaw15_Long_0,h,h',h0,hml,fl,fd,fi,pc,liN,lenA,EVC,EVD,EVB,Nat.reduceEqDiff,eqOp,eqA,eqNil,lenA,asNat,optNat,pt,tupleOf,Nat.reduceSub,Nat.reduceGT,Nat.reduceLT,hand,norms,normVs,normV,freeze,reduceIte,reduceCtorEq,srcCells,slCells,isStr,fillA,rep,Nat.reduceMul,Nat.reduceLeDiff,Int.reduceToNat,Int.reduceLE,Int.reduceLT,Int.reduceEq,Nat.reduceAdd,Int.reduceBNe,Int.reduceBEq,Int.reduceNeg]
  | n + 1,i,acc,hi,ha,hbb => by
    rw [loop_eq (he := rfl)]
    have hml : m < as.length := (List.getElem?_eq_some_iff.mp hm).1
    have h : ((i : Int) < (a.ids.length : Int)) := by omega
    have h2 : i < a.ids.length := by omega
    have hb : a.ids[i]? = some a.ids[i] := List.getElem?_eq_getElem h2
    have h' : a.ids.drop i = a.ids[i] :: a.ids.drop (i + 1) := List.drop_eq_getElem_cons h2
    have h0 : (0 : Int) ≤ m := by omega
    have h3 : (0 : Int) ≤ i := by omega
    have fl := flat_len AuthV.len as
    have fd := flat_at AuthV.len hm
    have fi := flat_len strC_len a.ids
    have fe := flat_at strC_len hb
    rw [Nat.mul_one] at fe fi
    obtain ⟨p,hpe⟩ : ∃ p,p = a.ids[i] := ⟨_,rfl⟩
    rw [← hpe] at fe h'
    have pc : a.cs = [.int .i64 a.th,.sl a.ids.length (a.ids.flatMap strC)] := rfl
    have ps : strC p = [.str p] := rfl
    rw [h',liN]
    by_cases hc : acc < 5000
    · have hc' : ((acc : Int) < 5000) := by omega
      have hw : IntKind.i64.wrap ((i : Int) + 1) = ((i + 1 : Nat) : Int) := by rw [w64] <;> omega
      have w1 : IntKind.i64.wrap ((acc : Int) + 10) = ((acc + 10 : Nat) : Int) := by rw [w64] <;> omega
      have w2 : IntKind.i64.wrap (((acc + 10 : Nat) : Int) + ((min 5000 p.length : Nat) : Int)) = ((acc + 10 + min 5000 p.length : Nat) : Int) := by rw [w64] <;> omega
      have ih := law15_Long_in as m a hm σ n (i + 1) (acc + 10 + min 5000 p.length) (by omega) (by omega) (by omega)
      rw [if_pos hc,← ih]
      generalize hk : loopK C (semF C) 41 [0,3,4,5] L_legatelaw15_Long_0 = k at *
      simp only [L_legatelaw15_Long_0,h,h2,h3,h0,hml,hc',hw,w1,w2,min_wrap,fl,fd,fi,fe,pc,ps,lenA,AV.cells,flat_sl,Nat.mul_one,EVC,EVD,EVB,Nat.reduceEqDiff,eqOp,eqA,eqNil,lenA,asNat,optNat,pt,tupleOf,Nat.reduceSub,Nat.reduceGT,Nat.reduceLT,hand,norms,normVs,normV,freeze,reduceIte,reduceCtorEq,srcCells,slCells,isStr,fillA,rep,Nat.reduceMul,Nat.reduceLeDiff,Int.reduceToNat,Int.reduceLE,Int.reduceLT,Int.reduceEq,Nat.reduceAdd,Int.reduceBNe,Int.reduceBEq,Int.reduceNeg]
    · have hc' : ¬ ((acc : Int) < 5000) := by omega
      rw [if_neg hc]
      simp only [L_legatelaw15_Long_0,h,h0,hml,hc',fl,fd,fi,pc,lenA,EVC,EVD,EVB,Nat.reduceEqDiff,eqOp,eqA,eqNil,lenA,asNat,optNat,pt,tupleOf,Nat.reduceSub,Nat.reduceGT,Nat.reduceLT,hand,norms,normVs,normV,freeze,reduceIte,reduceCtorEq,srcCells,slCells,isStr,fillA,rep,Nat.reduceMul,Nat.reduceLeDiff,Int.reduceToNat,Int.reduceLE,Int.reduceLT,Int.reduceEq,Nat.reduceAdd,Int.reduceBNe,Int.reduceBEq,Int.reduceNeg]
theorem law15_Long_out (as : List AuthV) (hl : as.length ≤ 100) (σ : St) : ∀ (n m acc : Nat),m + n = as.length → acc ≤ 10010 →
    loopK C (semF C) 41 [0,3,4] L_legatelaw15_Long_1 [(0,.sl as.length (as.flatMap AuthV.cs)),(3,.int .i64 acc),(4,.int .i64 m)] σ = some (.exit 0,[(3,.int .i64 (laN (as.drop m) acc : Nat))],σ)
  | 0,m,acc,hi,ha => by
    rw [loop_eq (he := rfl)]
    have h : ¬ ((m : Int) < (as.length : Int)) := by omega
    have h' : as.drop m = [] := List.drop_eq_nil_of_le (by omega)
    have fl := flat_len AuthV.len as
    simp only [L_legatelaw15_Long_1,h,h',fl,laN,lenA,EVC,EVD,EVB,Nat.reduceEqDiff,eqOp,eqA,eqNil,lenA,asNat,optNat,pt,tupleOf,Nat.reduceSub,Nat.reduceGT,Nat.reduceLT,hand,norms,normVs,normV,freeze,reduceIte,reduceCtorEq,srcCells,slCells,isStr,fillA,rep,Nat.reduceMul,Nat.reduceLeDiff,Int.reduceToNat,Int.reduceLE,Int.reduceLT,Int.reduceEq,Nat.reduceAdd,Int.reduceBNe,Int.reduceBEq,Int.reduceNeg]
  | n + 1,m,acc,hi,ha => by
    rw [loop_eq (he := rfl)]
    have h : ((m : Int) < (as.length : Int)) := by omega
    have h2 : m < as.length := by omega
    have hb : as[m]? = some as[m] := List.getElem?_eq_getElem h2
    have h' : as.drop m = as[m] :: as.drop (m + 1) := List.drop_eq_getElem_cons h2
    have fl := flat_len AuthV.len as
    have hw : IntKind.i64.wrap ((m : Int) + 1) = ((m + 1 : Nat) : Int) := by rw [w64] <;> omega
    obtain ⟨a,hae⟩ : ∃ a,a = as[m] := ⟨_,rfl⟩
    rw [← hae] at h' hb
    have lp := law15_Long_in (C := C) as m a hb σ a.ids.length 0 acc (by omega) ha (by omega)
    simp only [Int.natCast_zero,Int.cast_ofNat_Int,List.drop_zero] at lp
    have ih := law15_Long_out as hl σ n (m + 1) (liN a.ids acc) (by omega) (liN_le _ _ ha)
    rw [h',laN,← ih]
    generalize hk : loopK C (semF C) 41 [0,3,4] L_legatelaw15_Long_1 = k at *
    simp only [L_legatelaw15_Long_1,h,hw,lp,fl,lenA,EVC,EVD,EVB,Nat.reduceEqDiff,eqOp,eqA,eqNil,lenA,asNat,optNat,pt,tupleOf,Nat.reduceSub,Nat.reduceGT,Nat.reduceLT,hand,norms,normVs,normV,freeze,reduceIte,reduceCtorEq,srcCells,slCells,isStr,fillA,rep,Nat.reduceMul,Nat.reduceLeDiff,Int.reduceToNat,Int.reduceLE,Int.reduceLT,Int.reduceEq,Nat.reduceAdd,Int.reduceBNe,Int.reduceBEq,Int.reduceNeg]
def longA (as : List AuthV) : Bool := decide (5000 ≤ laN as 0)
theorem law15_Long (hC : Has C f_legatelaw15_Long K_legatelaw15_Long) (as : List AuthV) (hl : as.length ≤ 100) (σ : St) : semF C f_legatelaw15_Long [.xsl as.length (as.flatMap AuthV.cs)] σ = some (.bool (longA as),σ) := by
  have hn : hand false [.xsl as.length (as.flatMap AuthV.cs)] σ = some ([.sl as.length (as.flatMap AuthV.cs)],σ) := by
    have ns : NVs (as.flatMap AuthV.cs) := fun v hv => by
      obtain ⟨a,_,ha⟩ := List.mem_flatMap.mp hv
      simp only [AuthV.cs,List.mem_cons,List.not_mem_nil,or_false] at ha
      rcases ha with rfl | rfl
      · exact .int _ _
      · exact .sl _ (strs_below _)
    show (match norms σ 12 [.xsl as.length (as.flatMap AuthV.cs)] with | some (l,fs) => some (l,freeze σ fs) | none => none) = _
    have : normV σ (norms σ 11) (.xsl as.length (as.flatMap AuthV.cs)) = some (.sl as.length (as.flatMap AuthV.cs),[]) := by
      show (match normVs σ (norms σ 11) (as.flatMap AuthV.cs) with | some (l,fs) => some (AV.sl as.length l,fs) | none => none) = _
      rw [ns.nf]
    rw [show norms σ 12 [.xsl as.length (as.flatMap AuthV.cs)] = (match normV σ (norms σ 11) (.xsl as.length (as.flatMap AuthV.cs)),normVs σ (norms σ 11) [] with | some (v,fs),some (l,gs) => some (v :: l,fs ++ gs) | _,_ => none) from rfl,this]
    rfl
  rw [hC.go hn (by simp [K_legatelaw15_Long])]
  have lp := law15_Long_out (C := C) as hl σ as.length 0 0 (by omega) (by omega)
  simp only [Int.natCast_zero,Int.cast_ofNat_Int,List.drop_zero] at lp
  have e : decide ((5000 : Int) ≤ (laN as 0 : Int)) = longA as := by unfold longA; rw [Bool.eq_iff_iff]; simp; omega
  simp only [K_legatelaw15_Long,lp,e,lenA,EVC,EVD,EVB,Nat.reduceEqDiff,eqOp,eqA,eqNil,lenA,asNat,optNat,pt,tupleOf,Nat.reduceSub,Nat.reduceGT,Nat.reduceLT,hand,norms,normVs,normV,freeze,reduceIte,reduceCtorEq,srcCells,slCells,isStr,fillA,rep,Nat.reduceMul,Nat.reduceLeDiff,Int.reduceToNat,Int.reduceLE,Int.reduceLT,Int.reduceEq,Nat.reduceAdd,Int.reduceBNe,Int.reduceBEq,Int.reduceNeg]
end Go.Ev

namespace Go.Ev
set_option maxRecDepth 100000
set_option linter.unusedSimpArgs false
variable {C : Ctx}
structure KeyV where
  scheme : List UInt8
  pub : List UInt8
def KeyV.cs (k : KeyV) : List AV := [.str k.scheme,.str k.pub]
structure VerdV where
  id : List UInt8
  sig : List UInt8
  dig : List UInt8
def VerdV.cs (k : VerdV) : List AV := [.str k.id,.str k.sig,.str k.dig]
theorem KeyV.len (k : KeyV) : k.cs.length = 2 := rfl
theorem VerdV.len (k : VerdV) : k.cs.length = 3 := rfl
theorem keys_nv (l : List KeyV) : NV (.sl l.length (l.flatMap KeyV.cs)) := .sl _ (flat_below (fun _ => rfl) l)
theorem verds_nv (l : List VerdV) : NV (.sl l.length (l.flatMap VerdV.cs)) := .sl _ (flat_below (fun _ => rfl) l)
def longK (k : KeyV) : Bool := decide (300 < k.scheme.length) || decide (300 < k.pub.length)
def longKs (l : List KeyV) : Bool := decide (40 < l.length) || l.any longK
def longV (k : VerdV) : Bool := decide (300 < k.id.length) || decide (300 < k.sig.length) || decide (300 < k.dig.length)
def longVs (l : List VerdV) : Bool := decide (60 < l.length) || l.any longV
theorem law17_LongKeys_loop (l : List KeyV) (hl : l.length ≤ 40) (σ : St) : ∀ (n i : Nat),i + n = l.length →
    loopK C (semF C) 29 [0,3] L_legatelaw17_LongKeys_0 [(0,.sl l.length (l.flatMap KeyV.cs)),(3,.int .i64 i)] σ = if (l.drop i).any longK then some (.ret,[(2,.bool true)],σ) else some (.exit 0,[],σ)
  | 0,i,hi => by
    rw [loop_eq (he := rfl)]
    have h : ¬ ((i : Int) < (l.length : Int)) := by omega
    have h' : l.drop i = [] := List.drop_eq_nil_of_le (by omega)
    have fl := flat_len KeyV.len l
    simp only [L_legatelaw17_LongKeys_0,h,h',fl,List.any_nil,lenA,EVC,EVD,EVB,Nat.reduceEqDiff,eqOp,eqA,eqNil,lenA,asNat,optNat,pt,tupleOf,Nat.reduceSub,Nat.reduceGT,Nat.reduceLT,hand,norms,normVs,normV,freeze,reduceIte,reduceCtorEq,srcCells,slCells,isStr,fillA,rep,Nat.reduceMul,Nat.reduceLeDiff,Int.reduceToNat,Int.reduceLE,Int.reduceLT,Int.reduceEq,Nat.reduceAdd,Int.reduceBNe,Int.reduceBEq,Int.reduceNeg]
  | n + 1,i,hi => by
    rw [loop_eq (he := rfl)]
    have h : ((i : Int) < (l.length : Int)) := by omega
    have h2 : i < l.length := by omega
    have hb : l[i]? = some l[i] := List.getElem?_eq_getElem h2
    have h' : l.drop i = l[i] :: l.drop (i + 1) := List.drop_eq_getElem_cons h2
    have h3 : (0 : Int) ≤ i := by omega
    have hw : IntKind.i64.wrap ((i : Int) + 1) = ((i + 1 : Nat) : Int) := by rw [w64] <;> omega
    have fl := flat_len KeyV.len l
    have fd := flat_at KeyV.len hb
    obtain ⟨p,hpe⟩ : ∃ p,p = l[i] := ⟨_,rfl⟩
    rw [← hpe] at fd h'
    have pc : p.cs = [.str p.scheme,.str p.pub] := rfl
    have ih := law17_LongKeys_loop l hl σ n (i + 1) (by omega)
    rw [h',List.any_cons,longK]
    generalize hk : loopK C (semF C) 29 [0,3] L_legatelaw17_LongKeys_0 = k at *
    by_cases c1 : 300 < p.scheme.length
    · have c1' : (300 : Int) < (p.scheme.length : Int) := by omega
      simp only [L_legatelaw17_LongKeys_0,h,h2,h3,hw,c1,c1',fl,fd,pc,lenA,Bool.true_or,EVC,EVD,EVB,Nat.reduceEqDiff,eqOp,eqA,eqNil,lenA,asNat,optNat,pt,tupleOf,Nat.reduceSub,Nat.reduceGT,Nat.reduceLT,hand,norms,normVs,normV,freeze,reduceIte,reduceCtorEq,srcCells,slCells,isStr,fillA,rep,Nat.reduceMul,Nat.reduceLeDiff,Int.reduceToNat,Int.reduceLE,Int.reduceLT,Int.reduceEq,Nat.reduceAdd,Int.reduceBNe,Int.reduceBEq,Int.reduceNeg]
    · have c1' : ¬ (300 : Int) < (p.scheme.length : Int) := by omega
      by_cases c2 : 300 < p.pub.length
      · have c2' : (300 : Int) < (p.pub.length : Int) := by omega
        simp only [L_legatelaw17_LongKeys_0,h,h2,h3,hw,c1,c1',c2,c2',fl,fd,pc,lenA,Bool.true_or,Bool.or_true,EVC,EVD,EVB,Nat.reduceEqDiff,eqOp,eqA,eqNil,lenA,asNat,optNat,pt,tupleOf,Nat.reduceSub,Nat.reduceGT,Nat.reduceLT,hand,norms,normVs,normV,freeze,reduceIte,reduceCtorEq,srcCells,slCells,isStr,fillA,rep,Nat.reduceMul,Nat.reduceLeDiff,Int.reduceToNat,Int.reduceLE,Int.reduceLT,Int.reduceEq,Nat.reduceAdd,Int.reduceBNe,Int.reduceBEq,Int.reduceNeg]
      · have c2' : ¬ (300 : Int) < (p.pub.length : Int) := by omega
        simp only [L_legatelaw17_LongKeys_0,h,h2,h3,hw,c1,c1',c2,c2',ih,fl,fd,pc,lenA,EVC,EVD,EVB,Nat.reduceEqDiff,eqOp,eqA,eqNil,lenA,asNat,optNat,pt,tupleOf,Nat.reduceSub,Nat.reduceGT,Nat.reduceLT,hand,norms,normVs,normV,freeze,reduceIte,reduceCtorEq,srcCells,slCells,isStr,fillA,rep,Nat.reduceMul,Nat.reduceLeDiff,Int.reduceToNat,Int.reduceLE,Int.reduceLT,Int.reduceEq,Nat.reduceAdd,Int.reduceBNe,Int.reduceBEq,Int.reduceNeg]
theorem law17_LongKeys (hC : Has C f_legatelaw17_LongKeys K_legatelaw17_LongKeys) (l : List KeyV) (σ : St) : semF C f_legatelaw17_LongKeys [.sl l.length (l.flatMap KeyV.cs)] σ = some (.bool (longKs l),σ) := by
  rw [hC.go (NVs.hand (.cons (keys_nv l) .nil) _) (by simp [K_legatelaw17_LongKeys])]
  have fl := flat_len KeyV.len l
  unfold longKs
  by_cases c : 40 < l.length
  · have c' : (40 : Int) < (l.length : Int) := by omega
    simp only [K_legatelaw17_LongKeys,c,c',fl,lenA,Bool.true_or,EVC,EVD,EVB,Nat.reduceEqDiff,eqOp,eqA,eqNil,lenA,asNat,optNat,pt,tupleOf,Nat.reduceSub,Nat.reduceGT,Nat.reduceLT,hand,norms,normVs,normV,freeze,reduceIte,reduceCtorEq,srcCells,slCells,isStr,fillA,rep,Nat.reduceMul,Nat.reduceLeDiff,Int.reduceToNat,Int.reduceLE,Int.reduceLT,Int.reduceEq,Nat.reduceAdd,Int.reduceBNe,Int.reduceBEq,Int.reduceNeg]
  · have c' : ¬ (40 : Int) < (l.length : Int) := by omega
    have lp := law17_LongKeys_loop (C := C) l (by omega) σ l.length 0 (by omega)
    simp only [Int.natCast_zero,Int.cast_ofNat_Int,List.drop_zero] at lp
    cases ha : l.any longK <;> rw [ha] at lp <;> simp only [K_legatelaw17_LongKeys,c,c',lp,fl,lenA,EVC,EVD,EVB,Nat.reduceEqDiff,eqOp,eqA,eqNil,lenA,asNat,optNat,pt,tupleOf,Nat.reduceSub,Nat.reduceGT,Nat.reduceLT,hand,norms,normVs,normV,freeze,reduceIte,reduceCtorEq,srcCells,slCells,isStr,fillA,rep,Nat.reduceMul,Nat.reduceLeDiff,Int.reduceToNat,Int.reduceLE,Int.reduceLT,Int.reduceEq,Nat.reduceAdd,Int.reduceBNe,Int.reduceBEq,Int.reduceNeg]
theorem law17_LongVerdicts_loop (l : List VerdV) (hl : l.length ≤ 60) (σ : St) : ∀ (n i : Nat),i + n = l.length →
    loopK C (semF C) 38 [0,3] L_legatelaw17_LongVerdicts_0 [(0,.sl l.length (l.flatMap VerdV.cs)),(3,.int .i64 i)] σ = if (l.drop i).any longV then some (.ret,[(2,.bool true)],σ) else some (.exit 0,[],σ)
  | 0,i,hi => by
    rw [loop_eq (he := rfl)]
    have h : ¬ ((i : Int) < (l.length : Int)) := by omega
    have h' : l.drop i = [] := List.drop_eq_nil_of_le (by omega)
    have fl := flat_len VerdV.len l
    simp only [L_legatelaw17_LongVerdicts_0,h,h',fl,List.any_nil,lenA,EVC,EVD,EVB,Nat.reduceEqDiff,eqOp,eqA,eqNil,lenA,asNat,optNat,pt,tupleOf,Nat.reduceSub,Nat.reduceGT,Nat.reduceLT,hand,norms,normVs,normV,freeze,reduceIte,reduceCtorEq,srcCells,slCells,isStr,fillA,rep,Nat.reduceMul,Nat.reduceLeDiff,Int.reduceToNat,Int.reduceLE,Int.reduceLT,Int.reduceEq,Nat.reduceAdd,Int.reduceBNe,Int.reduceBEq,Int.reduceNeg]
  | n + 1,i,hi => by
    rw [loop_eq (he := rfl)]
    have h : ((i : Int) < (l.length : Int)) := by omega
    have h2 : i < l.length := by omega
    have hb : l[i]? = some l[i] := List.getElem?_eq_getElem h2
    have h' : l.drop i = l[i] :: l.drop (i + 1) := List.drop_eq_getElem_cons h2
    have h3 : (0 : Int) ≤ i := by omega
    have hw : IntKind.i64.wrap ((i : Int) + 1) = ((i + 1 : Nat) : Int) := by rw [w64] <;> omega
    have fl := flat_len VerdV.len l
    have fd := flat_at VerdV.len hb
    obtain ⟨p,hpe⟩ : ∃ p,p = l[i] := ⟨_,rfl⟩
    rw [← hpe] at fd h'
    have pc : p.cs = [.str p.id,.str p.sig,.str p.dig] := rfl
    have ih := law17_LongVerdicts_loop l hl σ n (i + 1) (by omega)
    rw [h',List.any_cons,longV]
    generalize hk : loopK C (semF C) 38 [0,3] L_legatelaw17_LongVerdicts_0 = k at *
    by_cases c1 : 300 < p.id.length
    · have c1' : (300 : Int) < (p.id.length : Int) := by omega
      simp only [L_legatelaw17_LongVerdicts_0,h,h2,h3,hw,c1,c1',fl,fd,pc,lenA,Bool.true_or,EVC,EVD,EVB,Nat.reduceEqDiff,eqOp,eqA,eqNil,lenA,asNat,optNat,pt,tupleOf,Nat.reduceSub,Nat.reduceGT,Nat.reduceLT,hand,norms,normVs,normV,freeze,reduceIte,reduceCtorEq,srcCells,slCells,isStr,fillA,rep,Nat.reduceMul,Nat.reduceLeDiff,Int.reduceToNat,Int.reduceLE,Int.reduceLT,Int.reduceEq,Nat.reduceAdd,Int.reduceBNe,Int.reduceBEq,Int.reduceNeg]
    · have c1' : ¬ (300 : Int) < (p.id.length : Int) := by omega
      by_cases c2 : 300 < p.sig.length
      · have c2' : (300 : Int) < (p.sig.length : Int) := by omega
        simp only [L_legatelaw17_LongVerdicts_0,h,h2,h3,hw,c1,c1',c2,c2',fl,fd,pc,lenA,Bool.true_or,Bool.or_true,EVC,EVD,EVB,Nat.reduceEqDiff,eqOp,eqA,eqNil,lenA,asNat,optNat,pt,tupleOf,Nat.reduceSub,Nat.reduceGT,Nat.reduceLT,hand,norms,normVs,normV,freeze,reduceIte,reduceCtorEq,srcCells,slCells,isStr,fillA,rep,Nat.reduceMul,Nat.reduceLeDiff,Int.reduceToNat,Int.reduceLE,Int.reduceLT,Int.reduceEq,Nat.reduceAdd,Int.reduceBNe,Int.reduceBEq,Int.reduceNeg]
      · have c2' : ¬ (300 : Int) < (p.sig.length : Int) := by omega
        by_cases c3 : 300 < p.dig.length
        · have c3' : (300 : Int) < (p.dig.length : Int) := by omega
          simp only [L_legatelaw17_LongVerdicts_0,h,h2,h3,hw,c1,c1',c2,c2',c3,c3',fl,fd,pc,lenA,Bool.true_or,Bool.or_true,EVC,EVD,EVB,Nat.reduceEqDiff,eqOp,eqA,eqNil,lenA,asNat,optNat,pt,tupleOf,Nat.reduceSub,Nat.reduceGT,Nat.reduceLT,hand,norms,normVs,normV,freeze,reduceIte,reduceCtorEq,srcCells,slCells,isStr,fillA,rep,Nat.reduceMul,Nat.reduceLeDiff,Int.reduceToNat,Int.reduceLE,Int.reduceLT,Int.reduceEq,Nat.reduceAdd,Int.reduceBNe,Int.reduceBEq,Int.reduceNeg]
        · have c3' : ¬ (300 : Int) < (p.dig.length : Int) := by omega
          simp only [L_legatelaw17_LongVerdicts_0,h,h2,h3,hw,c1,c1',c2,c2',c3,c3',ih,fl,fd,pc,lenA,EVC,EVD,EVB,Nat.reduceEqDiff,eqOp,eqA,eqNil,lenA,asNat,optNat,pt,tupleOf,Nat.reduceSub,Nat.reduceGT,Nat.reduceLT,hand,norms,normVs,normV,freeze,reduceIte,reduceCtorEq,srcCells,slCells,isStr,fillA,rep,Nat.reduceMul,Nat.reduceLeDiff,Int.reduceToNat,Int.reduceLE,Int.reduceLT,Int.reduceEq,Nat.reduceAdd,Int.reduceBNe,Int.reduceBEq,Int.reduceNeg]
theorem law17_LongVerdicts (hC : Has C f_legatelaw17_LongVerdicts K_legatelaw17_LongVerdicts) (l : List VerdV) (σ : St) : semF C f_legatelaw17_LongVerdicts [.sl l.length (l.flatMap VerdV.cs)] σ = some (.bool (longVs l),σ) := by
  rw [hC.go (NVs.hand (.cons (verds_nv l) .nil) _) (by simp [K_legatelaw17_LongVerdicts])]
  have fl := flat_len VerdV.len l
  unfold longVs
  by_cases c : 60 < l.length
  · have c' : (60 : Int) < (l.length : Int) := by omega
    simp only [K_legatelaw17_LongVerdicts,c,c',fl,lenA,Bool.true_or,EVC,EVD,EVB,Nat.reduceEqDiff,eqOp,eqA,eqNil,lenA,asNat,optNat,pt,tupleOf,Nat.reduceSub,Nat.reduceGT,Nat.reduceLT,hand,norms,normVs,normV,freeze,reduceIte,reduceCtorEq,srcCells,slCells,isStr,fillA,rep,Nat.reduceMul,Nat.reduceLeDiff,Int.reduceToNat,Int.reduceLE,Int.reduceLT,Int.reduceEq,Nat.reduceAdd,Int.reduceBNe,Int.reduceBEq,Int.reduceNeg]
  · have c' : ¬ (60 : Int) < (l.length : Int) := by omega
    have lp := law17_LongVerdicts_loop (C := C) l (by omega) σ l.length 0 (by omega)
    simp only [Int.natCast_zero,Int.cast_ofNat_Int,List.drop_zero] at lp
    cases ha : l.any longV <;> rw [ha] at lp <;> simp only [K_legatelaw17_LongVerdicts,c,c',lp,fl,lenA,EVC,EVD,EVB,Nat.reduceEqDiff,eqOp,eqA,eqNil,lenA,asNat,optNat,pt,tupleOf,Nat.reduceSub,Nat.reduceGT,Nat.reduceLT,hand,norms,normVs,normV,freeze,reduceIte,reduceCtorEq,srcCells,slCells,isStr,fillA,rep,Nat.reduceMul,Nat.reduceLeDiff,Int.reduceToNat,Int.reduceLE,Int.reduceLT,Int.reduceEq,Nat.reduceAdd,Int.reduceBNe,Int.reduceBEq,Int.reduceNeg]
/-- by what signatures are good -/
def byA (h : Bool) (l : List VerdV) : List AV := [.bool h,.sl l.length (l.flatMap VerdV.cs)]
theorem by_nv (h : Bool) (l : List VerdV) : NV (.agg (byA h l)) := .agg (.cons (.bool _) (.cons (verds_nv l) .nil))
theorem law27_long (hC : Has C f_legatelaw27_long K_legatelaw27_long) (hv : Has C f_legatelaw17_LongVerdicts K_legatelaw17_LongVerdicts) (h : Bool) (l : List VerdV) (data : List UInt8) (σ : St) (hσ : Ok σ) :
    semF C f_legatelaw27_long [.agg (byA h l),.str data] σ = some (.bool (longVs l || decide (12000 < data.length)),σ) := by
  rw [hC.go (NVs.hand (.cons (by_nv h l) (.cons (.str _) .nil)) _) (by simp [K_legatelaw27_long])]
  have ty := fun b => st_tidy hσ (vs := [.bool b]) rfl
  have e : decide ((12000 : Int) < (data.length : Int)) = decide (12000 < data.length) := by rw [Bool.eq_iff_iff]; simp; omega
  unfold byA
  cases hl : longVs l <;> simp only [K_legatelaw27_long,Bool.true_or,law17_LongVerdicts hv,hl,e,ty,AV.cells,EVC,EVD,EVB,Nat.reduceEqDiff,eqOp,eqA,eqNil,lenA,asNat,optNat,pt,tupleOf,Nat.reduceSub,Nat.reduceGT,Nat.reduceLT,hand,norms,normVs,normV,freeze,reduceIte,reduceCtorEq,srcCells,slCells,isStr,fillA,rep,Nat.reduceMul,Nat.reduceLeDiff,Int.reduceToNat,Int.reduceLE,Int.reduceLT,Int.reduceEq,Nat.reduceAdd,Int.reduceBNe,Int.reduceBEq,Int.reduceNeg]
end Go.Ev

namespace Go.Ev
set_option maxRecDepth 100000
set_option linter.unusedSimpArgs false
variable {C : Ctx}
structure LongByHas (C : Ctx) : Prop where
  hashes : Has C f_legatelaw21_LongHashes K_legatelaw21_LongHashes
  auth : Has C f_legatelaw15_Long K_legatelaw15_Long
  keys : Has C f_legatelaw17_LongKeys K_legatelaw17_LongKeys
  by_ : Has C f_legatelaw27_longBy K_legatelaw27_longBy
def longBy (p : PinV) (a : AuthV) (ks : List KeyV) : Bool := decide (1000 < p.name.length) || (longH p.hashes || (longA [a] || longKs ks))
theorem law27_longBy (h : LongByHas C) (p : PinV) (a : AuthV) (ks : List KeyV) (σ : St) (hσ : Ok σ) :
    semF C f_legatelaw27_longBy [.agg p.cs,.agg a.cs,.sl ks.length (ks.flatMap KeyV.cs)] σ = some (.bool (longBy p a ks),σ) := by
  rw [h.by_.go (NVs.hand (.cons (pin_nv p) (.cons (auth_nv a) (.cons (keys_nv ks) .nil))) _) (by simp [K_legatelaw27_longBy])]
  have ty := fun b => st_tidy hσ (vs := [.bool b]) rfl
  have pc : p.cs = [.str p.name,.int .i64 p.version,.int .i64 p.length,.sl p.hashes.length (p.hashes.flatMap HashV.cs)] := rfl
  have ac : a.cs = [.int .i64 a.th,.sl a.ids.length (a.ids.flatMap strC)] := rfl
  have q1 := fun τ => law21_LongHashes h.hashes p.hashes τ
  have q2 : ∀ τ,semF C f_legatelaw15_Long [.xsl 1 a.cs] τ = some (.bool (longA [a]),τ) := fun τ => by
    have := law15_Long h.auth [a] (by simp) τ
    simpa using this
  have q3 := fun τ => law17_LongKeys h.keys ks τ
  rw [ac] at q2
  unfold longBy
  by_cases c : 1000 < p.name.length
  · have c' : (1000 : Int) < (p.name.length : Int) := by omega
    simp only [K_legatelaw27_longBy,pc,ac,c,c',ty,Bool.true_or,AV.cells,EVC,EVD,EVB,Nat.reduceEqDiff,eqOp,eqA,eqNil,lenA,asNat,optNat,pt,tupleOf,Nat.reduceSub,Nat.reduceGT,Nat.reduceLT,hand,norms,normVs,normV,freeze,reduceIte,reduceCtorEq,srcCells,slCells,isStr,fillA,rep,Nat.reduceMul,Nat.reduceLeDiff,Int.reduceToNat,Int.reduceLE,Int.reduceLT,Int.reduceEq,Nat.reduceAdd,Int.reduceBNe,Int.reduceBEq,Int.reduceNeg]
  · have c' : ¬ (1000 : Int) < (p.name.length : Int) := by omega
    cases c1 : longH p.hashes <;> cases c2 : longA [a] <;> simp only [K_legatelaw27_longBy,pc,ac,c,c',c1,c2,q1,q2,q3,ty,Bool.true_or,Bool.false_or,AV.cells,AV.flat,EVC,EVD,EVB,Nat.reduceEqDiff,eqOp,eqA,eqNil,lenA,asNat,optNat,pt,tupleOf,Nat.reduceSub,Nat.reduceGT,Nat.reduceLT,hand,norms,normVs,normV,freeze,reduceIte,reduceCtorEq,srcCells,slCells,isStr,fillA,rep,Nat.reduceMul,Nat.reduceLeDiff,Int.reduceToNat,Int.reduceLE,Int.reduceLT,Int.reduceEq,Nat.reduceAdd,Int.reduceBNe,Int.reduceBEq,Int.reduceNeg]
end Go.Ev

namespace Go.Ev
set_option maxRecDepth 100000
/-- the law's last part -/
def T_noth : KC :=
(.seq (.ops [o 107 (.load true 3 (.t 17)),
m 108 8,
o 109 (.callF f_snap_Pin [(.t 107),(.t 108)]),
m 106 109,
o 110 (.extract (.t 106) 0),
o 111 (.extract (.t 106) 1),
o 25 (.new [(.str []),(.int .i64 0),(.int .i64 0),.nils] none),
u (.store 4 (.t 25) (.t 110)),
m 26 111])
(.seq (.ops [o 113 (.load true 3 (.t 17)),
m 114 8,
m 115 9,
o 116 (.callF f_check_Cap [(.t 113),(.t 114),(.t 115)]),
m 112 116,
o 117 (.extract (.t 112) 0),
o 118 (.extract (.t 112) 1),
o 119 (.extract (.t 112) 2),
o 27 (.new [(.str []),(.int .i64 0),(.int .i64 0),.nils] none),
u (.store 4 (.t 27) (.t 117)),
m 28 118,
m 29 119])
(.seq (.block 0
(.seq (.ops [m 121 26,
o 122 (.un .not (.t 121)),
m 120 122])
(.cond (.t 120)
(.seq (.ops [m 123 29,
o 124 (.bin .eql 0 true (.t 123) (.c (.int .u8 1))),
m 125 124,
og 126 125 true (.mv (.t 28)),
og 127 125 true (.bin .eql 0 true (.t 126) (.c (.int .i64 0))),
o 128 (.pick (.t 125) (.t 127) (.c (.bool false))),
m 129 128,
og 130 129 true (.load true 4 (.t 27)),
og 131 129 true (.build [(.str []),(.int .i64 0),(.int .i64 0),.nils] []),
og 132 129 true (.callF f_legateref23_SamePin [(.t 130),(.t 131)]),
o 133 (.pick (.t 129) (.t 132) (.c (.bool false))),
m 20 133])
(.ret [20]))
(.seq (.ops [o 135 (.fieldAddr 2 (.t 25)),
o 136 (.load false 1 (.t 135)),
m 137 9,
o 138 (.bin .gtr 0 false (.t 136) (.t 137)),
m 139 138,
og 140 139 true (.fieldAddr 2 (.t 25)),
og 141 139 true (.load false 1 (.t 140)),
og 142 139 true (.bin .geq 0 true (.t 141) (.c (.int .i64 0))),
o 143 (.pick (.t 139) (.t 142) (.c (.bool false))),
m 134 143])
(.cond (.t 134)
(.seq (.ops [m 144 29,
o 145 (.bin .eql 0 true (.t 144) (.c (.int .u8 3))),
m 146 145,
og 147 146 true (.mv (.t 28)),
og 148 146 true (.bin .eql 0 true (.t 147) (.c (.int .i64 0))),
o 149 (.pick (.t 146) (.t 148) (.c (.bool false))),
m 150 149,
og 151 150 true (.load true 4 (.t 27)),
og 152 150 true (.build [(.str []),(.int .i64 0),(.int .i64 0),.nils] []),
og 153 150 true (.callF f_legateref23_SamePin [(.t 151),(.t 152)]),
o 154 (.pick (.t 150) (.t 153) (.c (.bool false))),
m 20 154])
(.ret [20]))
(.seq (.ops [o 156 (.fieldAddr 2 (.t 25)),
o 157 (.load false 1 (.t 156)),
o 158 (.bin .lss 0 true (.t 157) (.c (.int .i64 0))),
m 155 158])
(.cond (.t 155)
(.seq (.ops [m 159 29,
o 160 (.bin .eql 0 true (.t 159) (.c (.int .u8 0))),
m 161 160,
og 162 161 true (.mv (.t 28)),
og 163 161 true (.mv (.t 9)),
og 164 161 true (.bin .eql 0 false (.t 162) (.t 163)),
o 165 (.pick (.t 161) (.t 164) (.c (.bool false))),
m 166 165,
og 167 166 true (.load true 4 (.t 27)),
og 168 166 true (.load true 4 (.t 25)),
og 169 166 true (.callF f_legateref23_SamePin [(.t 167),(.t 168)]),
o 170 (.pick (.t 166) (.t 169) (.c (.bool false))),
m 20 170])
(.ret [20]))
.skip)))))))
(.seq (.ops [m 171 29,
o 172 (.bin .eql 0 true (.t 171) (.c (.int .u8 0))),
m 173 172,
og 174 173 true (.mv (.t 28)),
og 175 173 true (.fieldAddr 2 (.t 25)),
og 176 173 true (.load false 1 (.t 175)),
og 177 173 true (.bin .eql 0 false (.t 174) (.t 176)),
o 178 (.pick (.t 173) (.t 177) (.c (.bool false))),
m 179 178,
og 180 179 true (.mv (.t 28)),
og 181 179 true (.mv (.t 9)),
og 182 179 true (.bin .leq 0 false (.t 180) (.t 181)),
o 183 (.pick (.t 179) (.t 182) (.c (.bool false))),
m 184 183,
og 185 184 true (.load true 4 (.t 27)),
og 186 184 true (.load true 4 (.t 25)),
og 187 184 true (.callF f_legateref23_SamePin [(.t 185),(.t 186)]),
o 188 (.pick (.t 184) (.t 187) (.c (.bool false))),
m 20 188])
(.ret [20])))))
theorem K_noth : K_legatelaw27_CheckNothing = ⟨10,189,[(.tmp 20)],
(.seq (.ops [o 10 (.box (.t 0)),
o 11 (.box (.t 1)),
o 12 (.box (.t 2)),
o 17 (.box (.t 7)),
o 20 (.mv (.c (.bool false)))])
(.seq (.seq (.ops [o 30 (.load true 2 (.t 10)),
m 31 5,
o 32 (.callF f_legatelaw27_long [(.t 30),(.t 31)]),
m 33 32,
og 34 33 false (.load true 4 (.t 11)),
og 35 33 false (.load true 2 (.t 12)),
og 36 33 false (.mv (.t 3)),
og 37 33 false (.callF f_legatelaw27_longBy [(.t 34),(.t 35),(.t 36)]),
o 38 (.pick (.t 33) (.c (.bool true)) (.t 37)),
m 39 38,
og 40 39 false (.load true 2 (.t 12)),
og 41 39 false (.buildSl [(.int .i64 0),.nils] 1 2 [(0,2,(.t 40))]),
og 42 39 false (.callF f_legatelaw15_Long [(.t 41)]),
o 43 (.pick (.t 39) (.c (.bool true)) (.t 42)),
m 44 43,
og 45 44 false (.mv (.t 3)),
og 46 44 false (.callF f_legatelaw17_LongKeys [(.t 45)]),
o 47 (.pick (.t 44) (.c (.bool true)) (.t 46)),
m 48 47,
og 49 48 false (.load true 3 (.t 17)),
og 50 48 false (.buildSl [(.int .i64 0),(.int .i64 0),.nils] 1 3 [(0,3,(.t 49))]),
og 51 48 false (.callF f_legatelaw23_Long [(.t 50)]),
o 52 (.pick (.t 48) (.c (.bool true)) (.t 51)),
m 53 52,
og 54 53 false (.mv (.t 8)),
og 55 53 false (.len 0 (.t 54)),
og 56 53 false (.bin .gtr 0 true (.t 55) (.c (.int .i64 1000))),
o 57 (.pick (.t 53) (.c (.bool true)) (.t 56)),
m 58 57,
og 59 58 false (.callF f_legatelaw27_awake []),
og 60 58 false (.un .not (.t 59)),
o 61 (.pick (.t 58) (.c (.bool true)) (.t 60))])
(.cond (.t 61)
(.seq (.ops [o 62 (.callF f_legatelaw27_awake []),
m 20 62])
(.ret [20]))
.skip))
(.seq (.seq (.ops [m 63 6,
o 64 (.bin .lss 0 true (.t 63) (.c (.int .i64 0)))])
(.cond (.t 64)
(.seq (.drawn [o 66 (.load true 2 (.t 10)),
o 67 (.callF f_legatelaw27_verifier [(.t 66)]),
⟨(some 68),(.load true 4 (.t 11)),none,[1]⟩,
⟨(some 69),(.load true 2 (.t 12)),none,[1]⟩,
m 70 3,
m 71 4,
m 72 5,
m 73 6,
o 74 (.callF f_check_Role [(.t 67),(.t 68),(.t 69),(.t 70),(.t 71),(.t 72),(.t 73)]),
m 65 74,
o 75 (.extract (.t 65) 0),
o 76 (.extract (.t 65) 1),
u .pend,
o 21 (.fill 12 21 9 (.t 75)),
m 22 76])
(.seq (.drawn [o 78 (.load true 2 (.t 10)),
o 79 (.callF f_legatelaw27_verifier [(.t 78)]),
m 80 3,
⟨(some 81),(.load true 2 (.t 12)),none,[1]⟩,
o 82 (.build [(.int .i64 0),(.int .i64 0),.nils,(.int .i64 0),.nils,(.int .i64 0),.nils,(.int .i64 0),.nils] [(2,1,(.t 80)),(5,2,(.t 81))]),
m 83 4,
m 84 5,
m 85 6,
o 86 (.callF f_check_Snapshot [(.t 79),(.t 82),(.t 83),(.t 84),(.t 85)]),
m 77 86,
o 87 (.extract (.t 77) 0),
o 88 (.extract (.t 77) 1),
u .pend,
o 23 (.fill 12 23 3 (.t 87)),
m 24 88])
(.seq (.ops [m 89 22,
m 90 24,
o 91 (.bin .neq 0 false (.t 89) (.t 90)),
m 92 91,
og 93 92 false (.mv (.t 22)),
og 94 92 false (.bin .eql 0 true (.t 93) (.c (.int .u8 2))),
og 95 92 false (.mv (.t 6)),
og 96 92 false (.bin .eql 0 true (.t 95) (.c (.int .i64 (-1)))),
og 97 92 false (.bin .neq 1 false (.t 94) (.t 96)),
o 98 (.pick (.t 92) (.c (.bool true)) (.t 97)),
m 99 98,
og 100 99 false (.mv (.t 22)),
og 101 99 false (.bin .eql 0 true (.t 100) (.c (.int .u8 3))),
og 102 99 false (.mv (.t 6)),
og 103 99 false (.bin .neq 0 true (.t 102) (.c (.int .i64 (-1)))),
og 104 99 false (.bin .neq 1 false (.t 101) (.t 103)),
o 105 (.pick (.t 99) (.c (.bool true)) (.t 104))])
(.cond (.t 105)
(.seq (.ops [o 20 (.mv (.c (.bool false)))])
(.ret [20]))
.skip))))
.skip))
T_noth)))⟩ := rfl
end Go.Ev

namespace Go.Ev
set_option maxRecDepth 100000
set_option linter.unusedSimpArgs false
variable {C : Ctx}
theorem Ok.more {τ : St} (h : Ok τ) {L : St} (hl : L.all (AO.below 0) = true) : Ok (τ ++ L) := h.app (by
  rw [List.all_eq_true] at *
  exact fun x hx => AO.below_mono (Nat.zero_le _) x (hl x hx))
/-- a verifier is made -/
def MakesVer (C : Ctx) : Prop := ∀ (h : Bool) (l : List VerdV) (τ : St),l.length ≤ 60 → Ok τ → ∃ o f L,semF C f_legatelaw27_verifier [.agg (byA h l)] τ = some (.ref o f,τ ++ L) ∧ Ok (τ ++ L) ∧ o < (τ ++ L).length
structure NothHas (C : Ctx) : Prop where
  pin : PinHas C
  long : LongHas C
  lby : LongByHas C
  verd : Has C f_legatelaw17_LongVerdicts K_legatelaw17_LongVerdicts
  lng : Has C f_legatelaw27_long K_legatelaw27_long
  role : RoleHas C
  same : Has C f_legateref23_SamePin K_legateref23_SamePin
  hashes : Has C f_legateref21_SameHashes K_legateref21_SameHashes
  awake : ∀ σ,Ok σ → semF C f_legatelaw27_awake [] σ = some (.bool true,σ)
  ver : MakesVer C
  law : Has C f_legatelaw27_CheckNothing K_legatelaw27_CheckNothing
def nothB (h : Bool) (l : List VerdV) (p : PinV) (a : AuthV) (s : SnapV) : St := [.cells (byA h l) ⟨false,none⟩,.cells p.cs ⟨false,none⟩,.cells a.cs ⟨false,none⟩,.cells (snapC s) ⟨false,none⟩]
theorem nothB_below (h : Bool) (l : List VerdV) (p : PinV) (a : AuthV) (s : SnapV) : (nothB h l p a s).all (AO.below 0) = true := by
  have hb : belows 0 (byA h l) = true := by
    have := (by_nv h l).cl
    rw [below] at this
    exact this
  simp [nothB,AO.below,hb,p.below,a.below,snapC_below]
theorem hand_eq {f : FuncId} {K : KF} (h : Has C f K) {args args' : List AV} {σ : St} (h1 : hand false args σ = some (args',σ)) (h2 : hand false args' σ = some (args',σ)) : semF C f args σ = semF C f args' σ := by
  rw [h.run,h.run]
  unfold runK
  rw [h1,h2]
theorem sames_all : ∀ l : List AV,(∀ v ∈ l,same v v = true) → sames l l = true
  | [],_ => by simp [sames]
  | v :: l,h => by
    rw [sames,h v (by simp),sames_all l fun x hx => h x (by simp [hx])]; rfl
theorem same_sl (n : Nat) (l : List AV) (h : ∀ v ∈ l,same v v = true) : same (.sl n l) (.sl n l) = true := by
  rw [same,sames_all l h]; simp
theorem same_agg (l : List AV) (h : ∀ v ∈ l,same v v = true) : same (.agg l) (.agg l) = true := by
  rw [same,sames_all l h]
theorem same_pin (p : PinV) : same (.agg p.cs) (.agg p.cs) = true := same_agg _ fun v hv => by
  simp only [PinV.cs,List.mem_cons,List.not_mem_nil,or_false,hashesA] at hv
  rcases hv with rfl | rfl | rfl | rfl
  · exact same_str _
  · exact same_int _ _
  · exact same_int _ _
  · refine same_sl _ _ fun v hv => ?_
    obtain ⟨x,_,hx⟩ := List.mem_flatMap.mp hv
    simp only [HashV.cs,List.mem_cons,List.not_mem_nil,or_false] at hx
    rcases hx with rfl | rfl <;> exact same_str _
theorem same_auth (a : AuthV) : same (.agg a.cs) (.agg a.cs) = true := same_agg _ fun v hv => by
  simp only [AuthV.cs,List.mem_cons,List.not_mem_nil,or_false] at hv
  rcases hv with rfl | rfl
  · exact same_int _ _
  · refine same_sl _ _ fun v hv => ?_
    obtain ⟨x,_,hx⟩ := List.mem_flatMap.mp hv
    simp only [strC,List.mem_cons,List.not_mem_nil,or_false] at hx
    rw [hx]; exact same_str _
theorem same_zero (H : NothHas C) (τ : St) (hτ : Ok τ) : semF C f_legateref23_SamePin [.agg zeroPin',.agg [.str [],.int .i64 0,.int .i64 0,.nils]] τ = some (.bool true,τ) := by
  have h1 : hand false [.agg zeroPin',.agg [.str [],.int .i64 0,.int .i64 0,.nils]] τ = some ([.agg zeroPin',.agg zeroPin'],τ) := by
    simp only [zeroPin',hand_is,nvs_cons,nvs_nil,nv_agg,nv_str,nv_sl,nv_int,nv_nils,freeze,List.append_nil]
  have h2 : hand false [.agg zeroPin',.agg zeroPin'] τ = some ([.agg zeroPin',.agg zeroPin'],τ) := by
    simp only [zeroPin',hand_is,nvs_cons,nvs_nil,nv_agg,nv_str,nv_sl,nv_int,nv_nils,freeze,List.append_nil]
  rw [hand_eq H.same h1 h2]
  exact ref23_SamePin H.same H.hashes ⟨[],0,0,[]⟩ (by simp) τ hτ
theorem noth_tail (H : NothHas C) (s : SnapV) (sm : SnapSmall s) (r : List UInt8) (most : Int) (σ : St) (hσ : Ok σ) (E : As) (b0 b1 b2 : AO) (G : St) (hG : Ok (σ ++ b0 :: b1 :: b2 :: .cells (snapC s) ⟨false,none⟩ :: G))
    (h17 : look E 17 = .ref (σ.length + 3) 0) (h8 : look E 8 = .str r) (h9 : look E 9 = .int .i64 most) :
    endR σ.length [.tmp 20] (semK C (semF C) 189 T_noth E (σ ++ b0 :: b1 :: b2 :: .cells (snapC s) ⟨false,none⟩ :: G)) = some (.bool true,σ) := by
  have s3 : (snapC s).length = 3 := rfl
  have st3 : (snapC s).take 3 = snapC s := rfl
  have ty := fun b => st_tidy hσ (vs := [.bool b]) rfl
  have qp : semF C f_snap_Pin [.agg (snapC s),.str r] _ = _ := snap_Pin H.pin s sm r _ hG
  have zc : (.agg zeroPin' : AV) = .agg (PinV.cs ⟨[],0,0,[]⟩) := rfl
  have okm : ∀ q : PinV,Ok ((σ ++ b0 :: b1 :: b2 :: .cells (snapC s) ⟨false,none⟩ :: G) ++ [.cells q.cs ⟨false,none⟩]) := fun q => hG.more (by simp [AO.below,q.below])
  have okn : ∀ q q' : PinV,Ok ((σ ++ b0 :: b1 :: b2 :: .cells (snapC s) ⟨false,none⟩ :: G) ++ [.cells q.cs ⟨false,none⟩,.cells q'.cs ⟨false,none⟩]) := fun q q' => hG.more (by simp [AO.below,q.below,q'.below])
  have q4 : ∀ q : PinV,q.cs.length = 4 := fun _ => rfl
  have qt : ∀ q : PinV,q.cs.take 4 = q.cs := fun _ => rfl
  have qf : ∀ q : PinV,q.cs.all AV.flat = true := fun _ => rfl
  have qs : ∀ q : PinV,splice [.str [],.int .i64 0,.int .i64 0,.nils] 0 q.cs = q.cs := fun _ => rfl
  obtain ⟨z,hz⟩ : ∃ z : PinV,z = ⟨[],0,0,[]⟩ := ⟨_,rfl⟩
  rw [← hz] at zc
  have zs : ∀ τ,Ok τ → semF C f_legateref23_SamePin [.agg z.cs,.agg [.str [],.int .i64 0,.int .i64 0,.nils]] τ = some (.bool true,τ) := fun τ h => by rw [← zc]; exact same_zero H τ h
  cases hf : findPin s r with
  | none =>
    have qc : semF C f_check_Cap [.agg (snapC s),.str r,.int .i64 most] _ = _ := check_Cap H.pin s sm r most _ (okm z)
    have qz := zs _ (okn z z)
    rw [hf] at qp qc
    unfold pinR at qp
    unfold capR at qc
    dsimp only at qp qc
    rw [zc] at qp qc
    simp only [List.append_assoc,List.cons_append] at qc qz
    simp only [T_noth,h17,h8,h9,qp,qc,qz,s3,st3,q4,qt,qf,qs,ty,AV.cells,EVC,EVD,EVB,Nat.reduceEqDiff,eqOp,eqA,eqNil,lenA,asNat,optNat,pt,tupleOf,Nat.reduceSub,Nat.reduceGT,Nat.reduceLT,hand,norms,normVs,normV,freeze,reduceIte,reduceCtorEq,srcCells,slCells,isStr,fillA,rep,Nat.reduceMul,Nat.reduceLeDiff,Int.reduceToNat,Int.reduceLE,Int.reduceLT,Int.reduceEq,Nat.reduceAdd,Int.reduceBNe,Int.reduceBEq,Int.reduceNeg]
  | some q =>
    have hqh : q.hashes.length ≤ 1099511627776 := by
      unfold findPin at hf
      split at hf
      · exact sm.hashes q (List.mem_of_find?_eq_some hf)
      · cases hf
    have qc : semF C f_check_Cap [.agg (snapC s),.str r,.int .i64 most] _ = _ := check_Cap H.pin s sm r most _ (okm q)
    have qz := zs _ (okn q z)
    have qq := ref23_SamePin H.same H.hashes q hqh _ (okn q q)
    have ql : ∃ a b : AV,∃ rest,q.cs = a :: b :: .int .i64 q.length :: rest := ⟨_,_,_,rfl⟩
    have qd : q.cs.drop 2 = [.int .i64 q.length,hashesA q.hashes] := rfl
    rw [hf] at qp qc
    unfold pinR at qp
    unfold capR at qc
    dsimp only at qp qc
    rw [zc] at qc
    simp only [List.append_assoc,List.cons_append] at qc qz qq
    by_cases l1 : q.length < 0
    · have l2 : ¬ (0 ≤ q.length) := by omega
      simp only [l1,if_true] at qc
      by_cases l3 : most < q.length
      · simp only [T_noth,h17,h8,h9,qp,qc,qq,l1,l2,l3,s3,st3,q4,qt,qf,qs,qd,ty,AV.cells,EVC,EVD,EVB,Nat.reduceEqDiff,eqOp,eqA,eqNil,lenA,asNat,optNat,pt,tupleOf,Nat.reduceSub,Nat.reduceGT,Nat.reduceLT,hand,norms,normVs,normV,freeze,reduceIte,reduceCtorEq,srcCells,slCells,isStr,fillA,rep,Nat.reduceMul,Nat.reduceLeDiff,Int.reduceToNat,Int.reduceLE,Int.reduceLT,Int.reduceEq,Nat.reduceAdd,Int.reduceBNe,Int.reduceBEq,Int.reduceNeg]
      · simp only [T_noth,h17,h8,h9,qp,qc,qq,l1,l2,l3,s3,st3,q4,qt,qf,qs,qd,ty,AV.cells,EVC,EVD,EVB,Nat.reduceEqDiff,eqOp,eqA,eqNil,lenA,asNat,optNat,pt,tupleOf,Nat.reduceSub,Nat.reduceGT,Nat.reduceLT,hand,norms,normVs,normV,freeze,reduceIte,reduceCtorEq,srcCells,slCells,isStr,fillA,rep,Nat.reduceMul,Nat.reduceLeDiff,Int.reduceToNat,Int.reduceLE,Int.reduceLT,Int.reduceEq,Nat.reduceAdd,Int.reduceBNe,Int.reduceBEq,Int.reduceNeg]
    · have l2 : 0 ≤ q.length := by omega
      by_cases l3 : most < q.length
      · simp only [l1,l3,gt_iff_lt,if_true,if_false] at qc
        simp only [T_noth,h17,h8,h9,qp,qc,qz,l1,l2,l3,s3,st3,q4,qt,qf,qs,qd,ty,AV.cells,EVC,EVD,EVB,Nat.reduceEqDiff,eqOp,eqA,eqNil,lenA,asNat,optNat,pt,tupleOf,Nat.reduceSub,Nat.reduceGT,Nat.reduceLT,hand,norms,normVs,normV,freeze,reduceIte,reduceCtorEq,srcCells,slCells,isStr,fillA,rep,Nat.reduceMul,Nat.reduceLeDiff,Int.reduceToNat,Int.reduceLE,Int.reduceLT,Int.reduceEq,Nat.reduceAdd,Int.reduceBNe,Int.reduceBEq,Int.reduceNeg]
      · have l4 : q.length ≤ most := by omega
        simp only [l1,l3,gt_iff_lt,if_false] at qc
        simp only [T_noth,h17,h8,h9,qp,qc,qq,l1,l2,l3,l4,s3,st3,q4,qt,qf,qs,qd,ty,AV.cells,EVC,EVD,EVB,Nat.reduceEqDiff,eqOp,eqA,eqNil,lenA,asNat,optNat,pt,tupleOf,Nat.reduceSub,Nat.reduceGT,Nat.reduceLT,hand,norms,normVs,normV,freeze,reduceIte,reduceCtorEq,srcCells,slCells,isStr,fillA,rep,Nat.reduceMul,Nat.reduceLeDiff,Int.reduceToNat,Int.reduceLE,Int.reduceLT,Int.reduceEq,Nat.reduceAdd,Int.reduceBNe,Int.reduceBEq,Int.reduceNeg]
set_option maxHeartbeats 2000000 in
theorem law27_CheckNothing (H : NothHas C) (h : Bool) (l : List VerdV) (p : PinV) (a : AuthV) (ks : List KeyV) (now : Int) (data : List UInt8) (size : Int) (s : SnapV) (r : List UInt8) (most : Int) (σ : St) (hσ : Ok σ) :
    semF C f_legatelaw27_CheckNothing [.agg (byA h l),.agg p.cs,.agg a.cs,.sl ks.length (ks.flatMap KeyV.cs),.int .i64 now,.str data,.int .i64 size,snapA s,.str r,.int .i64 most] σ = some (.bool true,σ) := by
  have sn : snapA s = .agg (snapC s) := rfl
  rw [H.law.go (NVs.hand (.cons (by_nv h l) (.cons (pin_nv p) (.cons (auth_nv a) (.cons (keys_nv ks) (.cons (.int _ _) (.cons (.str _) (.cons (.int _ _) (.cons (snap_nv s) (.cons (.str _) (.cons (.int _ _) .nil)))))))))) _) (by simp [K_legatelaw27_CheckNothing]),sn]
  have okB : Ok (σ ++ nothB h l p a s) := hσ.more (nothB_below h l p a s)
  have ty := fun b => st_tidy hσ (vs := [.bool b]) rfl
  have q1 := law27_long H.lng H.verd h l data _ okB
  have q2 := law27_longBy H.lby p a ks _ okB
  have q3 : ∀ τ,semF C f_legatelaw15_Long [.xsl 1 a.cs] τ = some (.bool (longA [a]),τ) := fun τ => by
    have := law15_Long H.lby.auth [a] (by simp) τ
    simpa using this
  have q4 := fun τ => law17_LongKeys H.lby.keys ks τ
  have q5 := law23_Long H.long s _ okB
  have q6 := H.awake _ okB
  have e6 : decide ((1000 : Int) < (r.length : Int)) = decide (1000 < r.length) := by rw [Bool.eq_iff_iff]; simp; omega
  have p4 : p.cs.length = 4 := rfl
  have ptk : p.cs.take 4 = p.cs := rfl
  have a2 : a.cs.length = 2 := rfl
  have at2 : a.cs.take 2 = a.cs := rfl
  have s3 : (snapC s).length = 3 := rfl
  have st3 : (snapC s).take 3 = snapC s := rfl
  have b2 : (byA h l).length = 2 := rfl
  have bt2 : (byA h l).take 2 = byA h l := rfl
  unfold nothB at q1 q2 q5 q6
  cases c1 : (longVs l || decide (12000 < data.length))
  case true =>
    rw [c1] at q1
    simp only [K_noth,q1,q6,ty,p4,ptk,a2,at2,s3,st3,b2,bt2,AV.cells,EVC,EVD,EVB,Nat.reduceEqDiff,eqOp,eqA,eqNil,lenA,asNat,optNat,pt,tupleOf,Nat.reduceSub,Nat.reduceGT,Nat.reduceLT,hand,norms,normVs,normV,freeze,reduceIte,reduceCtorEq,srcCells,slCells,isStr,fillA,rep,Nat.reduceMul,Nat.reduceLeDiff,Int.reduceToNat,Int.reduceLE,Int.reduceLT,Int.reduceEq,Nat.reduceAdd,Int.reduceBNe,Int.reduceBEq,Int.reduceNeg]
  rw [c1] at q1
  cases c2 : longBy p a ks
  case true =>
    rw [c2] at q2
    simp only [K_noth,q1,q2,q6,ty,p4,ptk,a2,at2,s3,st3,b2,bt2,AV.cells,EVC,EVD,EVB,Nat.reduceEqDiff,eqOp,eqA,eqNil,lenA,asNat,optNat,pt,tupleOf,Nat.reduceSub,Nat.reduceGT,Nat.reduceLT,hand,norms,normVs,normV,freeze,reduceIte,reduceCtorEq,srcCells,slCells,isStr,fillA,rep,Nat.reduceMul,Nat.reduceLeDiff,Int.reduceToNat,Int.reduceLE,Int.reduceLT,Int.reduceEq,Nat.reduceAdd,Int.reduceBNe,Int.reduceBEq,Int.reduceNeg]
  rw [c2] at q2
  cases c3 : longA [a]
  case true =>
    rw [c3] at q3
    simp only [K_noth,q1,q2,q3,q6,ty,p4,ptk,a2,at2,s3,st3,b2,bt2,sp_all,AV.cells,EVC,EVD,EVB,Nat.reduceEqDiff,eqOp,eqA,eqNil,lenA,asNat,optNat,pt,tupleOf,Nat.reduceSub,Nat.reduceGT,Nat.reduceLT,hand,norms,normVs,normV,freeze,reduceIte,reduceCtorEq,srcCells,slCells,isStr,fillA,rep,Nat.reduceMul,Nat.reduceLeDiff,Int.reduceToNat,Int.reduceLE,Int.reduceLT,Int.reduceEq,Nat.reduceAdd,Int.reduceBNe,Int.reduceBEq,Int.reduceNeg]
  rw [c3] at q3
  cases c4 : longKs ks
  case true =>
    rw [c4] at q4
    simp only [K_noth,q1,q2,q3,q4,q6,ty,p4,ptk,a2,at2,s3,st3,b2,bt2,sp_all,AV.cells,EVC,EVD,EVB,Nat.reduceEqDiff,eqOp,eqA,eqNil,lenA,asNat,optNat,pt,tupleOf,Nat.reduceSub,Nat.reduceGT,Nat.reduceLT,hand,norms,normVs,normV,freeze,reduceIte,reduceCtorEq,srcCells,slCells,isStr,fillA,rep,Nat.reduceMul,Nat.reduceLeDiff,Int.reduceToNat,Int.reduceLE,Int.reduceLT,Int.reduceEq,Nat.reduceAdd,Int.reduceBNe,Int.reduceBEq,Int.reduceNeg]
  rw [c4] at q4
  cases c5 : longFrom s.pins 0
  case true =>
    rw [c5] at q5
    simp only [K_noth,q1,q2,q3,q4,q5,q6,ty,p4,ptk,a2,at2,s3,st3,b2,bt2,sp_all,AV.cells,EVC,EVD,EVB,Nat.reduceEqDiff,eqOp,eqA,eqNil,lenA,asNat,optNat,pt,tupleOf,Nat.reduceSub,Nat.reduceGT,Nat.reduceLT,hand,norms,normVs,normV,freeze,reduceIte,reduceCtorEq,srcCells,slCells,isStr,fillA,rep,Nat.reduceMul,Nat.reduceLeDiff,Int.reduceToNat,Int.reduceLE,Int.reduceLT,Int.reduceEq,Nat.reduceAdd,Int.reduceBNe,Int.reduceBEq,Int.reduceNeg]
  rw [c5] at q5
  have sm := small_of c5
  by_cases c6 : (1000 : Int) < (r.length : Int)
  · simp only [K_noth,q1,q2,q3,q4,q5,q6,c6,ty,p4,ptk,a2,at2,s3,st3,b2,bt2,sp_all,AV.cells,EVC,EVD,EVB,Nat.reduceEqDiff,eqOp,eqA,eqNil,lenA,asNat,optNat,pt,tupleOf,Nat.reduceSub,Nat.reduceGT,Nat.reduceLT,hand,norms,normVs,normV,freeze,reduceIte,reduceCtorEq,srcCells,slCells,isStr,fillA,rep,Nat.reduceMul,Nat.reduceLeDiff,Int.reduceToNat,Int.reduceLE,Int.reduceLT,Int.reduceEq,Nat.reduceAdd,Int.reduceBNe,Int.reduceBEq,Int.reduceNeg]
  have nb := nothB_below h l p a s
  by_cases hs : size < 0
  · have hl60 : l.length ≤ 60 := by
      simp only [longVs,Bool.or_eq_false_iff,decide_eq_false_iff_not] at c1
      omega
    obtain ⟨o1,f1,L1,v1,k1,t1⟩ := H.ver h l _ hl60 okB
    have hb : belows 0 (p.hashes.flatMap HashV.cs) = true := flat_below HashV.below _
    have kb : belows 0 (ks.flatMap KeyV.cs) = true := flat_below (fun _ => rfl) _
    have r1 : semF C f_check_Role [.ref o1 f1,.agg p.cs,.agg a.cs,.sl ks.length (ks.flatMap KeyV.cs),.int .i64 now,.str data,.int .i64 size] _ = _ := check_Role_none H.role o1 f1 p.name p.version p.length _ _ a.th _ _ _ _ now data size hs _ k1 t1 hb (strs_below _) kb
    have k2 : Ok (σ ++ nothB h l p a s ++ L1 ++ [.cells zeroTargets ⟨false,none⟩]) := k1.more rfl
    obtain ⟨o2,f2,L2,v2,k3,t3⟩ := H.ver h l _ hl60 k2
    have r2 : semF C f_check_Snapshot [.ref o2 f2,.agg [.int .i64 0,.int .i64 0,.sl ks.length (ks.flatMap KeyV.cs),.int .i64 0,.nils,.int .i64 a.th,.sl a.ids.length (a.ids.flatMap strC),.int .i64 0,.nils],.int .i64 now,.str data,.int .i64 size] _ = _ := check_Snapshot_none H.role o2 f2 a.th a.ids.length (a.ids.flatMap strC) _ _ now data size hs _ k3 t3 (strs_below _) kb
    have k4 : Ok (σ ++ nothB h l p a s ++ L1 ++ [.cells zeroTargets ⟨false,none⟩] ++ L2 ++ [.cells zeroSnap ⟨false,none⟩]) := k3.more rfl
    unfold nothB at v1 r1 v2 r2
    simp only [List.append_assoc,List.cons_append,List.nil_append] at v1 r1 v2 r2
    have ac : a.cs = [.int .i64 a.th,.sl a.ids.length (a.ids.flatMap strC)] := rfl
    have zl : zeroTargets.length = 9 := rfl
    have zs : zeroSnap.length = 3 := rfl
    have zf : zeroTargets.all AV.flat = true := rfl
    have zg : zeroSnap.all AV.flat = true := rfl
    have sm1 := same_pin p
    have sm2 := same_auth a
    have spx : splice [.int .i64 0,.int .i64 0,.sl ks.length (ks.flatMap KeyV.cs),.int .i64 0,.nils,.int .i64 0,.nils,.int .i64 0,.nils] 5 a.cs = [.int .i64 0,.int .i64 0,.sl ks.length (ks.flatMap KeyV.cs),.int .i64 0,.nils,.int .i64 a.th,.sl a.ids.length (a.ids.flatMap strC),.int .i64 0,.nils] := rfl
    by_cases hz : size = -1
    · simp only [hz,if_true] at r1 r2
      simp only [K_noth,q1,q2,q3,q4,q5,q6,v1,r1,v2,r2,c6,hs,hz,sm1,sm2,spx,ty,zl,zs,zf,zg,p4,ptk,a2,at2,s3,st3,b2,bt2,sp_all,AV.cells,AV.flat,List.append_assoc,EVC,EVD,EVB,Nat.reduceEqDiff,eqOp,eqA,eqNil,lenA,asNat,optNat,pt,tupleOf,Nat.reduceSub,Nat.reduceGT,Nat.reduceLT,hand,norms,normVs,normV,freeze,reduceIte,reduceCtorEq,srcCells,slCells,isStr,fillA,rep,Nat.reduceMul,Nat.reduceLeDiff,Int.reduceToNat,Int.reduceLE,Int.reduceLT,Int.reduceEq,Nat.reduceAdd,Int.reduceBNe,Int.reduceBEq,Int.reduceNeg]
      refine noth_tail H s sm r most σ hσ _ _ _ _ _ ?_ ?_ ?_ ?_
      · simpa only [nothB,List.append_assoc,List.cons_append,List.nil_append] using k4
      · rfl
      · rfl
      · rfl
    · have hz' : (size == -1) = false := by simp [hz]
      have hz2 : (size != -1) = true := by simp [hz]
      simp only [hz,if_false] at r1 r2
      simp only [K_noth,q1,q2,q3,q4,q5,q6,v1,r1,v2,r2,c6,hs,hz,hz',hz2,sm1,sm2,spx,ty,zl,zs,zf,zg,p4,ptk,a2,at2,s3,st3,b2,bt2,sp_all,AV.cells,AV.flat,List.append_assoc,EVC,EVD,EVB,Nat.reduceEqDiff,eqOp,eqA,eqNil,lenA,asNat,optNat,pt,tupleOf,Nat.reduceSub,Nat.reduceGT,Nat.reduceLT,hand,norms,normVs,normV,freeze,reduceIte,reduceCtorEq,srcCells,slCells,isStr,fillA,rep,Nat.reduceMul,Nat.reduceLeDiff,Int.reduceToNat,Int.reduceLE,Int.reduceLT,Int.reduceEq,Nat.reduceAdd,Int.reduceBNe,Int.reduceBEq,Int.reduceNeg]
      refine noth_tail H s sm r most σ hσ _ _ _ _ _ ?_ ?_ ?_ ?_
      · simpa only [nothB,List.append_assoc,List.cons_append,List.nil_append] using k4
      · rfl
      · rfl
      · rfl
  · simp only [K_noth,q1,q2,q3,q4,q5,q6,c6,hs,ty,p4,ptk,a2,at2,s3,st3,b2,bt2,sp_all,AV.cells,EVC,EVD,EVB,Nat.reduceEqDiff,eqOp,eqA,eqNil,lenA,asNat,optNat,pt,tupleOf,Nat.reduceSub,Nat.reduceGT,Nat.reduceLT,hand,norms,normVs,normV,freeze,reduceIte,reduceCtorEq,srcCells,slCells,isStr,fillA,rep,Nat.reduceMul,Nat.reduceLeDiff,Int.reduceToNat,Int.reduceLE,Int.reduceLT,Int.reduceEq,Nat.reduceAdd,Int.reduceBNe,Int.reduceBEq,Int.reduceNeg]
    refine noth_tail H s sm r most σ hσ _ _ _ _ [] ?_ ?_ ?_ ?_
    · exact okB
    · rfl
    · rfl
    · rfl
end Go.Ev

namespace Go.Ev
set_option maxRecDepth 100000
set_option linter.unusedSimpArgs false
variable {C : Ctx}
structure VerHas (C : Ctx) : Prop where
  hmac : Has C f_judge_HMAC K_judge_HMAC
  table : Has C f_judge_Table K_judge_Table
  clone : SameSl C f_slices_Clone_api_Verdict_api_Verdict 3
  both : Has C f_legatelaw27_both K_legatelaw27_both
  ver : Has C f_legatelaw27_verifier K_legatelaw27_verifier
def verL (l : List VerdV) : AV := .sl l.length (l.flatMap VerdV.cs)
theorem verL_nv (l : List VerdV) : NV (verL l) := verds_nv l
theorem verL_below (l : List VerdV) : below 0 (verL l) = true := (verL_nv l).cl
def hmacO : AO := .cells [.iface 121 (.agg [])] ⟨false,none⟩
def tableO (l : List VerdV) : AO := .cells [.iface 251 (.agg [verL l])] ⟨false,none⟩
theorem hmac_is (H : VerHas C) (σ : St) : semF C f_judge_HMAC [] σ = some (.ref σ.length 0,σ ++ [hmacO]) := by
  have hn : hand false [] σ = some ([],σ) := rfl
  have tk : ∀ τ,tidy σ.length [.ref σ.length 0] τ = τ := fun τ => tidy_keep (by simp [belows,below]) τ
  rw [H.hmac.go hn (by simp [K_judge_HMAC])]
  simp only [K_judge_HMAC,hmacO,tk,EVC,EVD,EVB,Nat.reduceEqDiff,eqOp,eqA,eqNil,lenA,asNat,optNat,pt,tupleOf,Nat.reduceSub,Nat.reduceGT,Nat.reduceLT,hand,norms,normVs,normV,freeze,reduceIte,reduceCtorEq,srcCells,slCells,isStr,fillA,rep,Nat.reduceMul,Nat.reduceLeDiff,Int.reduceToNat,Int.reduceLE,Int.reduceLT,Int.reduceEq,Nat.reduceAdd,Int.reduceBNe,Int.reduceBEq,Int.reduceNeg]
theorem table_is (H : VerHas C) (l : List VerdV) (hl : l.length ≤ 60) (σ : St) : semF C f_judge_Table [verL l] σ = some (.ref σ.length 0,σ ++ [tableO l]) := by
  have tk : ∀ τ,tidy σ.length [.ref σ.length 0] τ = τ := fun τ => tidy_keep (by simp [belows,below]) τ
  have hs : (l.flatMap VerdV.cs).all scal = true := by
    rw [List.all_eq_true]
    intro x hx
    obtain ⟨v,_,hv⟩ := List.mem_flatMap.mp hx
    simp only [VerdV.cs,List.mem_cons,List.not_mem_nil,or_false] at hv
    rcases hv with rfl | rfl | rfl <;> rfl
  have hc := fun τ => H.clone l.length (l.flatMap VerdV.cs) τ (by rw [flat_len VerdV.len]) (by omega) hs
  rw [H.table.go (NVs.hand (.cons (verL_nv l) .nil) _) (by simp [K_judge_Table])]
  simp only [K_judge_Table,verL,tableO,hc,tk,EVC,EVD,EVB,Nat.reduceEqDiff,eqOp,eqA,eqNil,lenA,asNat,optNat,pt,tupleOf,Nat.reduceSub,Nat.reduceGT,Nat.reduceLT,hand,norms,normVs,normV,freeze,reduceIte,reduceCtorEq,srcCells,slCells,isStr,fillA,rep,Nat.reduceMul,Nat.reduceLeDiff,Int.reduceToNat,Int.reduceLE,Int.reduceLT,Int.reduceEq,Nat.reduceAdd,Int.reduceBNe,Int.reduceBEq,Int.reduceNeg]
def verO (h : Bool) (l : List VerdV) : AO := match h with
  | true => hmacO
  | false => tableO l
def refO (h : Bool) (l : List VerdV) : AO := .cells [.bool h,match h with
  | true => .nils
  | false => verL l] ⟨false,none⟩
theorem both_is (H : VerHas C) (h : Bool) (l : List VerdV) (hl : l.length ≤ 60) (σ : St) (hσ : Ok σ) :
    semF C f_legatelaw27_both [.agg (byA h l)] σ = some (.tup [.ref (σ.length + 1) 0,.ref (σ.length + 2) 0],σ ++ [.cells (byA h l) ⟨false,none⟩,verO h l,refO h l]) := by
  have tk : ∀ τ,tidy σ.length [.ref (σ.length + 1) 0,.ref (σ.length + 2) 0] τ = τ := fun τ => tidy_keep (by simp [belows,below]) τ
  have b2 : (byA h l).length = 2 := rfl
  have bl : byA h l = [.bool h,verL l] := rfl
  have q1 := hmac_is H (σ ++ [.cells (byA h l) ⟨false,none⟩])
  have q2 := table_is H l hl (σ ++ [.cells (byA h l) ⟨false,none⟩])
  have sl : same (verL l) (verL l) = true := by
    refine same_sl _ _ fun v hv => ?_
    obtain ⟨x,_,hx⟩ := List.mem_flatMap.mp hv
    simp only [VerdV.cs,List.mem_cons,List.not_mem_nil,or_false] at hx
    rcases hx with rfl | rfl | rfl <;> exact same_str _
  have fl : AV.flat (verL l) = true := rfl
  have cl : AV.cells (verL l) = [verL l] := rfl
  have ca : ∀ l,AV.cells (.agg l) = l := fun _ => rfl
  have ct : List.take 1 [verL l] = [verL l] := rfl
  have cs : ∀ x : AV,splice [.bool false,.nils] 1 [x] = [.bool false,x] := fun _ => rfl
  rw [H.both.go (NVs.hand (.cons (by_nv h l) .nil) _) (by simp [K_legatelaw27_both])]
  cases h
  · simp only [K_legatelaw27_both,bl,AV.cells,EVC,EVD,EVB,Nat.reduceEqDiff,eqOp,eqA,eqNil,lenA,asNat,optNat,pt,tupleOf,Nat.reduceSub,Nat.reduceGT,Nat.reduceLT,hand,norms,normVs,normV,freeze,reduceIte,reduceCtorEq,srcCells,slCells,isStr,fillA,rep,Nat.reduceMul,Nat.reduceLeDiff,Int.reduceToNat,Int.reduceLE,Int.reduceLT,Int.reduceEq,Nat.reduceAdd,Int.reduceBNe,Int.reduceBEq,Int.reduceNeg]
    simp only [bl] at q2
    simp only [q2,verO,refO,sl,fl,cl,ct,cs,ca,tk,EVC,EVD,EVB,Nat.reduceEqDiff,eqOp,eqA,eqNil,lenA,asNat,optNat,pt,tupleOf,Nat.reduceSub,Nat.reduceGT,Nat.reduceLT,hand,norms,normVs,normV,freeze,reduceIte,reduceCtorEq,srcCells,slCells,isStr,fillA,rep,Nat.reduceMul,Nat.reduceLeDiff,Int.reduceToNat,Int.reduceLE,Int.reduceLT,Int.reduceEq,Nat.reduceAdd,Int.reduceBNe,Int.reduceBEq,Int.reduceNeg]
  · simp only [K_legatelaw27_both,bl,AV.cells,EVC,EVD,EVB,Nat.reduceEqDiff,eqOp,eqA,eqNil,lenA,asNat,optNat,pt,tupleOf,Nat.reduceSub,Nat.reduceGT,Nat.reduceLT,hand,norms,normVs,normV,freeze,reduceIte,reduceCtorEq,srcCells,slCells,isStr,fillA,rep,Nat.reduceMul,Nat.reduceLeDiff,Int.reduceToNat,Int.reduceLE,Int.reduceLT,Int.reduceEq,Nat.reduceAdd,Int.reduceBNe,Int.reduceBEq,Int.reduceNeg]
    simp only [bl] at q1
    simp only [q1,verO,refO,tk,AV.cells,EVC,EVD,EVB,Nat.reduceEqDiff,eqOp,eqA,eqNil,lenA,asNat,optNat,pt,tupleOf,Nat.reduceSub,Nat.reduceGT,Nat.reduceLT,hand,norms,normVs,normV,freeze,reduceIte,reduceCtorEq,srcCells,slCells,isStr,fillA,rep,Nat.reduceMul,Nat.reduceLeDiff,Int.reduceToNat,Int.reduceLE,Int.reduceLT,Int.reduceEq,Nat.reduceAdd,Int.reduceBNe,Int.reduceBEq,Int.reduceNeg]
theorem ver_is (H : VerHas C) (h : Bool) (l : List VerdV) (hl : l.length ≤ 60) (σ : St) (hσ : Ok σ) :
    semF C f_legatelaw27_verifier [.agg (byA h l)] σ = some (.ref (σ.length + 2) 0,σ ++ [.cells (byA h l) ⟨false,none⟩,.cells (byA h l) ⟨false,none⟩,verO h l,refO h l]) := by
  have tk : ∀ τ,tidy σ.length [.ref (σ.length + 2) 0] τ = τ := fun τ => tidy_keep (by simp [belows,below]) τ
  have b2 : (byA h l).length = 2 := rfl
  have bt : (byA h l).take 2 = byA h l := rfl
  have ca : ∀ l,AV.cells (.agg l) = l := fun _ => rfl
  have nb : (AO.cells (byA h l) ⟨false,none⟩).below 0 = true := by
    have := (by_nv h l).cl
    rw [below] at this
    exact this
  have q1 := both_is H h l hl (σ ++ [.cells (byA h l) ⟨false,none⟩]) (hσ.more (by simp only [List.all_cons,List.all_nil,nb,Bool.and_true]))
  rw [H.ver.go (NVs.hand (.cons (by_nv h l) .nil) _) (by simp [K_legatelaw27_verifier])]
  simp only [K_legatelaw27_verifier,ca,b2,bt,q1,tk,EVC,EVD,EVB,Nat.reduceEqDiff,eqOp,eqA,eqNil,lenA,asNat,optNat,pt,tupleOf,Nat.reduceSub,Nat.reduceGT,Nat.reduceLT,hand,norms,normVs,normV,freeze,reduceIte,reduceCtorEq,srcCells,slCells,isStr,fillA,rep,Nat.reduceMul,Nat.reduceLeDiff,Int.reduceToNat,Int.reduceLE,Int.reduceLT,Int.reduceEq,Nat.reduceAdd,Int.reduceBNe,Int.reduceBEq,Int.reduceNeg]
theorem makesVer (H : VerHas C) : MakesVer C := fun h l τ hl hτ => ⟨_,_,_,ver_is H h l hl τ hτ,by
  have nb : (AO.cells (byA h l) ⟨false,none⟩).below 0 = true := by
    have := (by_nv h l).cl
    rw [below] at this
    exact this
  have vb : (verO h l).below 0 = true := by
    cases h
    · simp [verO,tableO,AO.below,belows,below,verL_below]
    · rfl
  have rb : (refO h l).below 0 = true := by
    cases h
    · simp [refO,AO.below,belows,below,verL_below]
    · rfl
  exact hτ.more (by simp only [List.all_cons,List.all_nil,nb,vb,rb,Bool.and_true]),by simp⟩
end Go.Ev

namespace Go.Ev
set_option maxRecDepth 100000
set_option linter.unusedSimpArgs false
variable {C : Ctx}
/-- slices.Clone of verdicts: where there are any -/
theorem clone_verd (hC : Has C f_slices_Clone_api_Verdict_api_Verdict K_slices_Clone_api_Verdict_api_Verdict) (n : Nat) (l : List AV) (hl : l.length = n * 3) (h0 : 0 < n) (hn : n ≤ 1099511627776) (hs : l.all scal = true) (σ : St) (hσ : Ok σ) : semF C f_slices_Clone_api_Verdict_api_Verdict [.sl n l] σ = some (.sl n l,σ) := by
  have ns := scal_nvs hs
  rw [hC.go (NVs.hand (.cons (.sl n ns.cl) .nil) _) (by simp [K_slices_Clone_api_Verdict_api_Verdict])]
  have fa := scal_flat hs
  have h1 : ¬ n = 0 := by omega
  have ap := fun τ : St => ap_xsl τ none (sz := 3) (bytes := 48) (n := 0) (m := n) (l := []) l h1 rfl (by omega) (by omega)
  simp only [Nat.zero_add,List.nil_append] at ap
  have ft : l.take (n * 3) = l := List.take_of_length_le (by omega)
  have nr : ∀ τ,norms τ 11 l = some (l,[]) := fun τ => by
    show normVs τ (norms τ 10) l = _
    exact ns.nf _ _
  have hd : ∀ τ : St,hand false [.msl τ.length 0 n 3] (τ ++ [.cells l ⟨false,none⟩]) = some ([.sl n l],τ ++ [.cells l ⟨true,none⟩]) := fun τ => by
    have hle : 0 + n * 3 ≤ l.length := by omega
    have : normV (τ ++ [.cells l ⟨false,none⟩]) (norms (τ ++ [.cells l ⟨false,none⟩]) 11) (.msl τ.length 0 n 3) = some (.sl n l,[τ.length]) := by
      unfold normV
      rw [st_get0]
      show (if 0 + n * 3 ≤ l.length then match norms _ 11 ((l.drop 0).take (n * 3)) with | some (l,fs) => some (AV.sl n l,τ.length :: fs) | none => none else none) = _
      rw [if_pos hle,List.drop_zero,ft,nr]
    rw [hand_is,nvs_cons,this,nvs_nil]
    show some ([AV.sl n l],freeze (τ ++ [.cells l ⟨false,none⟩]) [τ.length]) = _
    unfold freeze
    rw [st_get0]
    show some ([AV.sl n l],freeze ((τ ++ [AO.cells l ⟨false,none⟩]).set τ.length (AO.cells l ⟨true,none⟩)) []) = _
    rw [st_set0]
    rfl
  have ty := fun L => st_tidy hσ (vs := [.sl n l]) (by rw [belows,below,ns.cl]; rfl) L
  have e : ∀ (E : As) (τ : St),look E 2 = .msl σ.length 0 n 3 → τ = σ ++ [AO.cells l ⟨false,none⟩] → endR σ.length [.tmp 2] (some (.ret,E,τ)) = some (.sl n l,σ) := fun E τ hE hτ => by
    subst hτ
    rw [endR_ret,show resL E (σ ++ [AO.cells l ⟨false,none⟩]) [.tmp 2] = some [look E 2] from rfl,hE]
    dsimp only
    rw [hd]
    dsimp only
    rw [ty]
    rfl
  have fin : ∀ b : KC,True := fun _ => trivial
  generalize hK : endR = eR at *
  simp only [K_slices_Clone_api_Verdict_api_Verdict,hl,h0,h1,fa,ap,EVC,EVD,EVB,Nat.reduceEqDiff,eqOp,eqA,eqNil,lenA,asNat,optNat,pt,tupleOf,Nat.reduceSub,Nat.reduceGT,Nat.reduceLT,hand,norms,normVs,normV,freeze,reduceIte,reduceCtorEq,srcCells,slCells,isStr,fillA,rep,Nat.reduceMul,Nat.reduceLeDiff,Int.reduceToNat,Int.reduceLE,Int.reduceLT,Int.reduceEq,Nat.reduceAdd,Int.reduceBNe,Int.reduceBEq,Int.reduceNeg]
  rw [← hK] at *
  exact e _ _ rfl rfl
end Go.Ev

