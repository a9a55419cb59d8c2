/- Code of functions as the evaluator has it, and what some of them compute. No conditions. -/
import Derived.Test.YtjcdkogjdomncaaGreatDoorEvC
import Derived.Test.YtjcdkogjdomncaaGreatDoorCn
set_option linter.unusedVariables false
set_option linter.unusedSimpArgs false

namespace Go.Ev
/-! legate/name.allowed -/
def K_name_allowed : KF := ⟨1, 32, [(.tmp 2)],
(.seq (.ops [o 2 (.mv (.c (.bool false)))])
(.seq (.block 0
(.seq (.seq (.ops [m 4 0,
o 5 (.bin .geq 0 true (.t 4) (.c (.int .u8 97))),
m 6 5,
og 7 6 true (.mv (.t 0)),
og 8 6 true (.bin .leq 0 true (.t 7) (.c (.int .u8 122))),
o 9 (.pick (.t 6) (.t 8) (.c (.bool false))),
m 3 9])
(.cond (.t 3)
.skip
(.seq (.ops [m 10 0,
o 11 (.bin .geq 0 true (.t 10) (.c (.int .u8 65))),
m 12 11,
og 13 12 true (.mv (.t 0)),
og 14 12 true (.bin .leq 0 true (.t 13) (.c (.int .u8 90))),
o 15 (.pick (.t 12) (.t 14) (.c (.bool false))),
m 3 15])
(.cond (.t 3)
.skip
(.ops [m 16 0,
o 17 (.bin .geq 0 true (.t 16) (.c (.int .u8 48))),
m 18 17,
og 19 18 true (.mv (.t 0)),
og 20 18 true (.bin .leq 0 true (.t 19) (.c (.int .u8 57))),
o 21 (.pick (.t 18) (.t 20) (.c (.bool false))),
m 3 21])))))
(.cond (.t 3)
(.seq (.ops [o 2 (.mv (.c (.bool true)))])
(.ret [2]))
.skip)))
(.seq (.ops [m 22 0,
o 23 (.bin .eql 0 true (.t 22) (.c (.int .u8 46))),
m 24 23,
og 25 24 false (.mv (.t 0)),
og 26 24 false (.bin .eql 0 true (.t 25) (.c (.int .u8 95))),
o 27 (.pick (.t 24) (.c (.bool true)) (.t 26)),
m 28 27,
og 29 28 false (.mv (.t 0)),
og 30 28 false (.bin .eql 0 true (.t 29) (.c (.int .u8 45))),
o 31 (.pick (.t 28) (.c (.bool true)) (.t 30)),
m 2 31])
(.ret [2]))))⟩
/-! legate/name.Role -/
def L_name_Role_0 : KC :=
(.seq (.ops [o 19 (.bin .lss 0 false (.t 18) (.t 17))])
(.seq (.cond (.t 19)
.skip
(.exit [] 0))
(.seq (.block 1
(.seq (.ops [m 20 18,
m 3 20])
(.seq (.ops [m 21 0,
m 22 3,
o 23 (.idxStr (.t 21) (.t 22)),
o 24 (.callF f_name_allowed [(.t 23)]),
o 25 (.un .not (.t 24))])
(.cond (.t 25)
(.seq (.ops [o 2 (.mv (.c (.bool false)))])
(.ret [2]))
.skip))))
(.ops [o 26 (.bin .add 0 true (.t 18) (.c (.int .i64 1))),
m 18 26]))))
def K_name_Role : KF := ⟨1, 27, [(.tmp 2)],
(.seq (.ops [o 2 (.mv (.c (.bool false)))])
(.seq (.seq (.ops [m 4 0,
o 5 (.bin .eql 0 true (.t 4) (.c (.str []))),
m 6 5,
og 7 6 false (.mv (.t 0)),
og 8 6 false (.len 0 (.t 7)),
og 9 6 false (.bin .gtr 0 true (.t 8) (.c (.int .i64 64))),
o 10 (.pick (.t 6) (.c (.bool true)) (.t 9)),
m 11 10,
og 12 11 false (.mv (.t 0)),
og 13 11 false (.idxStr (.t 12) (.c (.int .i64 0))),
og 14 11 false (.bin .eql 0 true (.t 13) (.c (.int .u8 46))),
o 15 (.pick (.t 11) (.c (.bool true)) (.t 14))])
(.cond (.t 15)
(.seq (.ops [o 2 (.mv (.c (.bool false)))])
(.ret [2]))
.skip))
(.seq (.seq (.ops [m 16 0,
o 17 (.len 0 (.t 16)),
o 18 (.mv (.c (.int .i64 0)))])
(.block 0
(.loop [0, 17, 18] L_name_Role_0)))
(.seq (.ops [o 2 (.mv (.c (.bool true)))])
(.ret [2])))))⟩
/-! legate/name.File -/
def K_name_File : KF := ⟨1, 9, [(.tmp 2), (.tmp 3)],
(.seq (.ops [o 2 (.mv (.c (.str []))),
o 3 (.mv (.c (.int .i64 0)))])
(.seq (.seq (.ops [m 4 0,
o 5 (.callF f_name_Role [(.t 4)]),
o 6 (.un .not (.t 5))])
(.cond (.t 6)
(.seq (.ops [o 2 (.mv (.c (.str []))),
o 3 (.mv (.c (.int .i64 3)))])
(.ret [2, 3]))
.skip))
(.seq (.ops [m 7 0,
o 8 (.bin .add 0 true (.t 7) (.c (.str [46, 106, 115, 111, 110]))),
m 2 8,
o 3 (.mv (.c (.int .i64 0)))])
(.ret [2, 3]))))⟩
/-! legate/snap.Pin -/
def L_snap_Pin_0 : KC :=
(.seq (.ops [o 22 (.bin .lss 0 false (.t 21) (.t 20))])
(.seq (.cond (.t 22)
.skip
(.exit [4] 0))
(.seq (.block 1
(.seq (.ops [o 23 (.idxAddrSl 4 (.t 19) (.t 21)),
o 24 (.load true 4 (.t 23)),
o 9 (.new [(.str []), (.int .i64 0), (.int .i64 0), .nils] none),
u (.store 4 (.t 9) (.t 24))])
(.seq (.ops [o 25 (.fieldAddr 0 (.t 9)),
o 26 (.load false 1 (.t 25)),
m 27 6,
o 28 (.bin .eql 0 false (.t 26) (.t 27))])
(.cond (.t 28)
(.seq (.ops [o 29 (.fieldAddr 3 (.t 9)),
o 30 (.load false 1 (.t 29)),
o 31 (.callF f_slices_Clone_api_Hash_api_Hash [(.t 30)]),
o 32 (.fieldAddr 3 (.t 9)),
u (.store 1 (.t 32) (.t 31))])
(.seq (.ops [o 33 (.load true 4 (.t 9)),
u (.store 4 (.t 4) (.t 33)),
o 5 (.mv (.c (.bool true)))])
(.ret [4, 5])))
.skip))))
(.ops [o 34 (.bin .add 0 true (.t 21) (.c (.int .i64 1))),
m 21 34]))))
def K_snap_Pin : KF := ⟨2, 36, [(.cell 4 true 4), (.tmp 5)],
(.seq (.ops [o 2 (.box (.t 0)),
o 4 (.new [(.str []), (.int .i64 0), (.int .i64 0), .nils] none),
o 5 (.mv (.c (.bool false)))])
(.seq (.ops [m 11 1,
o 12 (.callF f_name_File [(.t 11)]),
m 10 12,
o 13 (.extract (.t 10) 0),
o 14 (.extract (.t 10) 1),
m 6 13,
m 7 14])
(.seq (.seq (.ops [m 15 7,
o 16 (.bin .neq 0 true (.t 15) (.c (.int .i64 0)))])
(.cond (.t 16)
(.seq (.ops [o 17 (.build [(.str []), (.int .i64 0), (.int .i64 0), .nils] []),
u (.store 4 (.t 4) (.t 17)),
o 5 (.mv (.c (.bool false)))])
(.ret [4, 5]))
.skip))
(.seq (.seq (.ops [o 18 (.fieldAddr 2 (.t 2)),
o 19 (.load false 1 (.t 18)),
o 20 (.len 1 (.t 19)),
o 21 (.mv (.c (.int .i64 0)))])
(.block 0
(.loop [4, 6, 19, 20, 21] L_snap_Pin_0)))
(.seq (.ops [o 35 (.build [(.str []), (.int .i64 0), (.int .i64 0), .nils] []),
u (.store 4 (.t 4) (.t 35)),
o 5 (.mv (.c (.bool false)))])
(.ret [4, 5]))))))⟩
/-! legate/check.Cap -/
def K_check_Cap : KF := ⟨3, 32, [(.cell 6 true 4), (.tmp 7), (.tmp 8)],
(.seq (.ops [o 3 (.box (.t 0)),
o 6 (.new [(.str []), (.int .i64 0), (.int .i64 0), .nils] none),
o 7 (.mv (.c (.int .i64 0))),
o 8 (.mv (.c (.int .u8 0)))])
(.seq (.ops [o 11 (.load true 3 (.t 3)),
m 12 1,
o 13 (.callF f_snap_Pin [(.t 11), (.t 12)]),
m 10 13,
o 14 (.extract (.t 10) 0),
o 15 (.extract (.t 10) 1),
u (.store 4 (.t 6) (.t 14)),
m 9 15])
(.seq (.seq (.ops [m 16 9,
o 17 (.un .not (.t 16))])
(.cond (.t 17)
(.seq (.ops [o 18 (.build [(.str []), (.int .i64 0), (.int .i64 0), .nils] []),
u (.store 4 (.t 6) (.t 18)),
o 7 (.mv (.c (.int .i64 0))),
o 8 (.mv (.c (.int .u8 1)))])
(.ret [6, 7, 8]))
.skip))
(.seq (.seq (.ops [o 19 (.fieldAddr 2 (.t 6)),
o 20 (.load false 1 (.t 19)),
o 21 (.bin .lss 0 true (.t 20) (.c (.int .i64 0)))])
(.cond (.t 21)
(.seq (.ops [o 22 (.load true 4 (.t 6)),
m 23 2,
u (.store 4 (.t 6) (.t 22)),
m 7 23,
o 8 (.mv (.c (.int .u8 0)))])
(.ret [6, 7, 8]))
.skip))
(.seq (.seq (.ops [o 24 (.fieldAddr 2 (.t 6)),
o 25 (.load false 1 (.t 24)),
m 26 2,
o 27 (.bin .gtr 0 false (.t 25) (.t 26))])
(.cond (.t 27)
(.seq (.ops [o 28 (.build [(.str []), (.int .i64 0), (.int .i64 0), .nils] []),
u (.store 4 (.t 6) (.t 28)),
o 7 (.mv (.c (.int .i64 0))),
o 8 (.mv (.c (.int .u8 3)))])
(.ret [6, 7, 8]))
.skip))
(.seq (.ops [o 29 (.load true 4 (.t 6)),
o 30 (.fieldAddr 2 (.t 6)),
o 31 (.load false 1 (.t 30)),
u (.store 4 (.t 6) (.t 29)),
m 7 31,
o 8 (.mv (.c (.int .u8 0)))])
(.ret [6, 7, 8])))))))⟩
/-! legate/legateref13.part -/
def K_legateref13_part : KF := ⟨1, 37, [(.tmp 2)],
(.seq (.ops [o 2 (.mv (.c (.bool false)))])
(.seq (.ops [m 3 0,
o 4 (.bin .geq 0 true (.t 3) (.c (.int .u8 97))),
m 5 4,
og 6 5 true (.mv (.t 0)),
og 7 5 true (.bin .leq 0 true (.t 6) (.c (.int .u8 122))),
o 8 (.pick (.t 5) (.t 7) (.c (.bool false))),
m 9 8,
og 10 9 false (.mv (.t 0)),
og 11 9 false (.bin .geq 0 true (.t 10) (.c (.int .u8 65))),
og 12 9 false (.mv (.t 11)),
og 13 12 true (.mv (.t 0)),
og 14 12 true (.bin .leq 0 true (.t 13) (.c (.int .u8 90))),
og 15 9 false (.pick (.t 12) (.t 14) (.c (.bool false))),
o 16 (.pick (.t 9) (.c (.bool true)) (.t 15)),
m 17 16,
og 18 17 false (.mv (.t 0)),
og 19 17 false (.bin .geq 0 true (.t 18) (.c (.int .u8 48))),
og 20 17 false (.mv (.t 19)),
og 21 20 true (.mv (.t 0)),
og 22 20 true (.bin .leq 0 true (.t 21) (.c (.int .u8 57))),
og 23 17 false (.pick (.t 20) (.t 22) (.c (.bool false))),
o 24 (.pick (.t 17) (.c (.bool true)) (.t 23)),
m 25 24,
og 26 25 false (.mv (.t 0)),
og 27 25 false (.bin .eql 0 true (.t 26) (.c (.int .u8 46))),
o 28 (.pick (.t 25) (.c (.bool true)) (.t 27)),
m 29 28,
og 30 29 false (.mv (.t 0)),
og 31 29 false (.bin .eql 0 true (.t 30) (.c (.int .u8 95))),
o 32 (.pick (.t 29) (.c (.bool true)) (.t 31)),
m 33 32,
og 34 33 false (.mv (.t 0)),
og 35 33 false (.bin .eql 0 true (.t 34) (.c (.int .u8 45))),
o 36 (.pick (.t 33) (.c (.bool true)) (.t 35)),
m 2 36])
(.ret [2])))⟩
/-! legate/legateref13.Role -/
def L_legateref13_Role_0 : KC :=
(.seq (.seq (.ops [m 17 3,
m 18 0,
o 19 (.len 0 (.t 18)),
o 20 (.bin .lss 0 false (.t 17) (.t 19))])
(.cond (.t 20)
.skip
(.exit [] 0)))
(.seq (.block 1
(.seq (.ops [m 23 0,
m 24 3,
o 25 (.idxStr (.t 23) (.t 24)),
o 26 (.callF f_legateref13_part [(.t 25)]),
o 27 (.un .not (.t 26))])
(.cond (.t 27)
(.seq (.ops [o 2 (.mv (.c (.bool false)))])
(.ret [2]))
.skip)))
(.ops [m 21 3,
o 22 (.bin .add 0 true (.t 21) (.c (.int .i64 1))),
m 3 22])))
def K_legateref13_Role : KF := ⟨1, 28, [(.tmp 2)],
(.seq (.ops [o 2 (.mv (.c (.bool false)))])
(.seq (.seq (.ops [m 4 0,
o 5 (.len 0 (.t 4)),
o 6 (.bin .lss 0 true (.t 5) (.c (.int .i64 1))),
m 7 6,
og 8 7 false (.mv (.t 0)),
og 9 7 false (.len 0 (.t 8)),
og 10 7 false (.bin .gtr 0 true (.t 9) (.c (.int .i64 64))),
o 11 (.pick (.t 7) (.c (.bool true)) (.t 10)),
m 12 11,
og 13 12 false (.mv (.t 0)),
og 14 12 false (.idxStr (.t 13) (.c (.int .i64 0))),
og 15 12 false (.bin .eql 0 true (.t 14) (.c (.int .u8 46))),
o 16 (.pick (.t 12) (.c (.bool true)) (.t 15))])
(.cond (.t 16)
(.seq (.ops [o 2 (.mv (.c (.bool false)))])
(.ret [2]))
.skip))
(.seq (.seq (.ops [o 3 (.mv (.c (.int .i64 0)))])
(.block 0
(.loop [0, 3] L_legateref13_Role_0)))
(.seq (.ops [o 2 (.mv (.c (.bool true)))])
(.ret [2])))))⟩
/-! legate/legateref13.File -/
def K_legateref13_File : KF := ⟨1, 9, [(.tmp 2), (.tmp 3)],
(.seq (.ops [o 2 (.mv (.c (.str []))),
o 3 (.mv (.c (.int .i64 0)))])
(.seq (.seq (.ops [m 4 0,
o 5 (.callF f_legateref13_Role [(.t 4)]),
o 6 (.un .not (.t 5))])
(.cond (.t 6)
(.seq (.ops [o 2 (.mv (.c (.str []))),
o 3 (.mv (.c (.int .i64 3)))])
(.ret [2, 3]))
.skip))
(.seq (.ops [m 7 0,
o 8 (.bin .add 0 true (.t 7) (.c (.str [46, 106, 115, 111, 110]))),
m 2 8,
o 3 (.mv (.c (.int .i64 0)))])
(.ret [2, 3]))))⟩
/-! legate/legateref23.Pin -/
def L_legateref23_Pin_0 : KC :=
(.seq (.seq (.ops [m 17 8,
o 18 (.fieldAddr 2 (.t 2)),
o 19 (.load false 1 (.t 18)),
o 20 (.len 1 (.t 19)),
o 21 (.bin .lss 0 false (.t 17) (.t 20))])
(.cond (.t 21)
.skip
(.exit [4] 0)))
(.seq (.block 1
(.seq (.ops [o 24 (.fieldAddr 2 (.t 2)),
o 25 (.load false 1 (.t 24)),
m 26 8,
o 27 (.idxAddrSl 4 (.t 25) (.t 26)),
o 28 (.fieldAddr 0 (.t 27)),
o 29 (.load false 1 (.t 28)),
m 30 6,
o 31 (.bin .eql 0 false (.t 29) (.t 30))])
(.cond (.t 31)
(.seq (.ops [o 32 (.fieldAddr 2 (.t 2)),
o 33 (.load false 1 (.t 32)),
m 34 8,
o 35 (.idxAddrSl 4 (.t 33) (.t 34)),
o 36 (.load true 4 (.t 35)),
u (.store 4 (.t 4) (.t 36)),
o 5 (.mv (.c (.bool true)))])
(.ret [4, 5]))
.skip)))
(.ops [m 22 8,
o 23 (.bin .add 0 true (.t 22) (.c (.int .i64 1))),
m 8 23])))
def K_legateref23_Pin : KF := ⟨2, 38, [(.cell 4 true 4), (.tmp 5)],
(.seq (.ops [o 2 (.box (.t 0)),
o 4 (.new [(.str []), (.int .i64 0), (.int .i64 0), .nils] none),
o 5 (.mv (.c (.bool false)))])
(.seq (.ops [m 10 1,
o 11 (.callF f_legateref13_File [(.t 10)]),
m 9 11,
o 12 (.extract (.t 9) 0),
o 13 (.extract (.t 9) 1),
m 6 12,
m 7 13])
(.seq (.seq (.ops [m 14 7,
o 15 (.bin .neq 0 true (.t 14) (.c (.int .i64 0)))])
(.cond (.t 15)
(.seq (.ops [o 16 (.build [(.str []), (.int .i64 0), (.int .i64 0), .nils] []),
u (.store 4 (.t 4) (.t 16)),
o 5 (.mv (.c (.bool false)))])
(.ret [4, 5]))
.skip))
(.seq (.seq (.ops [o 8 (.mv (.c (.int .i64 0)))])
(.block 0
(.loop [2, 4, 6, 8] L_legateref23_Pin_0)))
(.seq (.ops [o 37 (.build [(.str []), (.int .i64 0), (.int .i64 0), .nils] []),
u (.store 4 (.t 4) (.t 37)),
o 5 (.mv (.c (.bool false)))])
(.ret [4, 5]))))))⟩
/-! legate/legateref27.Cap -/
def K_legateref27_Cap : KF := ⟨3, 33, [(.cell 6 true 4), (.tmp 7), (.tmp 8)],
(.seq (.ops [o 3 (.box (.t 0)),
o 6 (.new [(.str []), (.int .i64 0), (.int .i64 0), .nils] none),
o 7 (.mv (.c (.int .i64 0))),
o 8 (.mv (.c (.int .u8 0)))])
(.seq (.ops [o 12 (.load true 3 (.t 3)),
m 13 1,
o 14 (.callF f_legateref23_Pin [(.t 12), (.t 13)]),
m 11 14,
o 15 (.extract (.t 11) 0),
o 16 (.extract (.t 11) 1),
o 9 (.new [(.str []), (.int .i64 0), (.int .i64 0), .nils] none),
u (.store 4 (.t 9) (.t 15)),
m 10 16])
(.seq (.seq (.ops [m 17 10,
o 18 (.un .not (.t 17))])
(.cond (.t 18)
(.seq (.ops [o 19 (.build [(.str []), (.int .i64 0), (.int .i64 0), .nils] []),
u (.store 4 (.t 6) (.t 19)),
o 7 (.mv (.c (.int .i64 0))),
o 8 (.mv (.c (.int .u8 1)))])
(.ret [6, 7, 8]))
.skip))
(.seq (.seq (.ops [o 20 (.fieldAddr 2 (.t 9)),
o 21 (.load false 1 (.t 20)),
o 22 (.bin .lss 0 true (.t 21) (.c (.int .i64 0)))])
(.cond (.t 22)
(.seq (.ops [o 23 (.load true 4 (.t 9)),
m 24 2,
u (.store 4 (.t 6) (.t 23)),
m 7 24,
o 8 (.mv (.c (.int .u8 0)))])
(.ret [6, 7, 8]))
.skip))
(.seq (.seq (.ops [o 25 (.fieldAddr 2 (.t 9)),
o 26 (.load false 1 (.t 25)),
m 27 2,
o 28 (.bin .gtr 0 false (.t 26) (.t 27))])
(.cond (.t 28)
(.seq (.ops [o 29 (.build [(.str []), (.int .i64 0), (.int .i64 0), .nils] []),
u (.store 4 (.t 6) (.t 29)),
o 7 (.mv (.c (.int .i64 0))),
o 8 (.mv (.c (.int .u8 3)))])
(.ret [6, 7, 8]))
.skip))
(.seq (.drawn [o 30 (.load true 4 (.t 9)),
o 31 (.fieldAddr 2 (.t 9)),
⟨(some 32), (.load false 1 (.t 31)), none, [3]⟩,
u (.store 4 (.t 6) (.t 30)),
m 7 32,
o 8 (.mv (.c (.int .u8 0)))])
(.ret [6, 7, 8])))))))⟩
/-! legate/legateref23.SamePin -/
def K_legateref23_SamePin : KF := ⟨2, 31, [(.tmp 4)],
(.seq (.ops [o 2 (.box (.t 0)),
o 3 (.box (.t 1)),
o 4 (.mv (.c (.bool false)))])
(.seq (.ops [o 5 (.fieldAddr 0 (.t 2)),
o 6 (.load false 1 (.t 5)),
o 7 (.fieldAddr 0 (.t 3)),
o 8 (.load false 1 (.t 7)),
o 9 (.bin .eql 0 false (.t 6) (.t 8)),
m 10 9,
og 11 10 true (.fieldAddr 1 (.t 2)),
og 12 10 true (.load false 1 (.t 11)),
og 13 10 true (.fieldAddr 1 (.t 3)),
og 14 10 true (.load false 1 (.t 13)),
og 15 10 true (.bin .eql 0 false (.t 12) (.t 14)),
o 16 (.pick (.t 10) (.t 15) (.c (.bool false))),
m 17 16,
og 18 17 true (.fieldAddr 2 (.t 2)),
og 19 17 true (.load false 1 (.t 18)),
og 20 17 true (.fieldAddr 2 (.t 3)),
og 21 17 true (.load false 1 (.t 20)),
og 22 17 true (.bin .eql 0 false (.t 19) (.t 21)),
o 23 (.pick (.t 17) (.t 22) (.c (.bool false))),
m 24 23,
og 25 24 true (.fieldAddr 3 (.t 2)),
og 26 24 true (.load false 1 (.t 25)),
og 27 24 true (.fieldAddr 3 (.t 3)),
og 28 24 true (.load false 1 (.t 27)),
og 29 24 true (.callF f_legateref21_SameHashes [(.t 26), (.t 28)]),
o 30 (.pick (.t 24) (.t 29) (.c (.bool false))),
m 4 30])
(.ret [4])))⟩
/-! legate/legateref21.SameHashes -/
def L_legateref21_SameHashes_0 : KC :=
(.seq (.seq (.ops [m 11 5,
m 12 0,
o 13 (.len 1 (.t 12)),
o 14 (.bin .lss 0 false (.t 11) (.t 13))])
(.cond (.t 14)
.skip
(.exit [] 0)))
(.seq (.block 1
(.seq (.plain [m 17 0,
m 18 5,
o 19 (.idxAddrSl 2 (.t 17) (.t 18)),
o 20 (.fieldAddr 0 (.t 19)),
o 21 (.load false 1 (.t 20)),
m 22 1,
m 23 5,
o 24 (.idxAddrSl 2 (.t 22) (.t 23)),
o 25 (.fieldAddr 0 (.t 24)),
o 26 (.load false 1 (.t 25)),
o 27 (.bin .neq 0 false (.t 21) (.t 26)),
m 28 27,
og 29 28 false (.mv (.t 0)),
og 30 28 false (.mv (.t 5)),
og 31 28 false (.idxAddrSl 2 (.t 29) (.t 30)),
og 32 28 false (.fieldAddr 1 (.t 31)),
og 33 28 false (.load false 1 (.t 32)),
og 34 28 false (.mv (.t 1)),
og 35 28 false (.mv (.t 5)),
og 36 28 false (.idxAddrSl 2 (.t 34) (.t 35)),
og 37 28 false (.fieldAddr 1 (.t 36)),
og 38 28 false (.load false 1 (.t 37)),
og 39 28 false (.bin .neq 0 false (.t 33) (.t 38)),
o 40 (.pick (.t 28) (.c (.bool true)) (.t 39))])
(.cond (.t 40)
(.seq (.ops [o 4 (.mv (.c (.bool false)))])
(.ret [4]))
.skip)))
(.ops [m 15 5,
o 16 (.bin .add 0 true (.t 15) (.c (.int .i64 1))),
m 5 16])))
def K_legateref21_SameHashes : KF := ⟨2, 41, [(.tmp 4)],
(.seq (.ops [o 4 (.mv (.c (.bool false)))])
(.seq (.seq (.ops [m 6 0,
o 7 (.len 1 (.t 6)),
m 8 1,
o 9 (.len 1 (.t 8)),
o 10 (.bin .neq 0 false (.t 7) (.t 9))])
(.cond (.t 10)
(.seq (.ops [o 4 (.mv (.c (.bool false)))])
(.ret [4]))
.skip))
(.seq (.seq (.ops [o 5 (.mv (.c (.int .i64 0)))])
(.block 0
(.loop [0, 1, 5] L_legateref21_SameHashes_0)))
(.seq (.ops [o 4 (.mv (.c (.bool true)))])
(.ret [4])))))⟩
/-! legate/legatelaw23.Long -/
def L_legatelaw23_Long_0 : KC :=
(.seq (.seq (.ops [m 12 5,
m 13 0,
m 14 4,
o 15 (.idxAddrSl 3 (.t 13) (.t 14)),
o 16 (.fieldAddr 2 (.t 15)),
o 17 (.load false 1 (.t 16)),
o 18 (.len 1 (.t 17)),
o 19 (.bin .lss 0 false (.t 12) (.t 18))])
(.cond (.t 19)
.skip
(.exit [0, 3, 4] 2)))
(.seq (.block 3
(.seq (.ops [m 22 3,
o 23 (.bin .add 0 true (.t 22) (.c (.int .i64 1))),
m 3 23])
(.seq (.ops [m 24 3,
o 25 (.bin .gtr 0 true (.t 24) (.c (.int .i64 600))),
m 26 25,
og 27 26 false (.mv (.t 0)),
og 28 26 false (.mv (.t 4)),
og 29 26 false (.idxAddrSl 3 (.t 27) (.t 28)),
og 30 26 false (.fieldAddr 2 (.t 29)),
og 31 26 false (.load false 1 (.t 30)),
og 32 26 false (.mv (.t 5)),
og 33 26 false (.idxAddrSl 4 (.t 31) (.t 32)),
og 34 26 false (.load true 4 (.t 33)),
og 35 26 false (.callF f_legatelaw23_LongPin [(.t 34)]),
o 36 (.pick (.t 26) (.c (.bool true)) (.t 35))])
(.cond (.t 36)
(.seq (.ops [o 2 (.mv (.c (.bool true)))])
(.ret [2]))
.skip))))
(.ops [m 20 5,
o 21 (.bin .add 0 true (.t 20) (.c (.int .i64 1))),
m 5 21])))
def L_legatelaw23_Long_1 : KC :=
(.seq (.seq (.ops [m 6 4,
m 7 0,
o 8 (.len 1 (.t 7)),
o 9 (.bin .lss 0 false (.t 6) (.t 8))])
(.cond (.t 9)
.skip
(.exit [] 0)))
(.seq (.block 1
(.seq (.ops [o 5 (.mv (.c (.int .i64 0)))])
(.block 2
(.loop [0, 3, 4, 5] L_legatelaw23_Long_0))))
(.ops [m 10 4,
o 11 (.bin .add 0 true (.t 10) (.c (.int .i64 1))),
m 4 11])))
def K_legatelaw23_Long : KF := ⟨1, 37, [(.tmp 2)],
(.seq (.ops [o 2 (.mv (.c (.bool false)))])
(.seq (.ops [o 3 (.mv (.c (.int .i64 0)))])
(.seq (.seq (.ops [o 4 (.mv (.c (.int .i64 0)))])
(.block 0
(.loop [0, 3, 4] L_legatelaw23_Long_1)))
(.seq (.ops [o 2 (.mv (.c (.bool false)))])
(.ret [2])))))⟩
/-! legate/legatelaw23.LongPin -/
def K_legatelaw23_LongPin : KF := ⟨1, 12, [(.tmp 2)],
(.seq (.ops [o 1 (.box (.t 0)),
o 2 (.mv (.c (.bool false)))])
(.seq (.ops [o 3 (.fieldAddr 0 (.t 1)),
o 4 (.load false 1 (.t 3)),
o 5 (.len 0 (.t 4)),
o 6 (.bin .gtr 0 true (.t 5) (.c (.int .i64 1000))),
m 7 6,
og 8 7 false (.fieldAddr 3 (.t 1)),
og 9 7 false (.load false 1 (.t 8)),
og 10 7 false (.callF f_legatelaw21_LongHashes [(.t 9)]),
o 11 (.pick (.t 7) (.c (.bool true)) (.t 10)),
m 2 11])
(.ret [2])))⟩
/-! legate/legatelaw21.LongHashes -/
def L_legatelaw21_LongHashes_0 : KC :=
(.seq (.seq (.ops [m 5 4,
m 6 0,
o 7 (.len 1 (.t 6)),
o 8 (.bin .lss 0 false (.t 5) (.t 7)),
m 9 8,
og 10 9 true (.mv (.t 3)),
og 11 9 true (.bin .lss 0 true (.t 10) (.c (.int .i64 5000))),
o 12 (.pick (.t 9) (.t 11) (.c (.bool false)))])
(.cond (.t 12)
.skip
(.exit [3] 0)))
(.seq (.block 1
(.plain [m 15 3,
o 16 (.bin .add 0 true (.t 15) (.c (.int .i64 10))),
m 17 0,
m 18 4,
o 19 (.idxAddrSl 2 (.t 17) (.t 18)),
o 20 (.fieldAddr 0 (.t 19)),
o 21 (.load false 1 (.t 20)),
o 22 (.len 0 (.t 21)),
o 23 (.minmax false (.c (.int .i64 5000)) (.t 22)),
o 24 (.bin .add 0 false (.t 16) (.t 23)),
m 25 0,
m 26 4,
o 27 (.idxAddrSl 2 (.t 25) (.t 26)),
o 28 (.fieldAddr 1 (.t 27)),
o 29 (.load false 1 (.t 28)),
o 30 (.len 0 (.t 29)),
o 31 (.minmax false (.c (.int .i64 5000)) (.t 30)),
o 32 (.bin .add 0 false (.t 24) (.t 31)),
m 3 32]))
(.ops [m 13 4,
o 14 (.bin .add 0 true (.t 13) (.c (.int .i64 1))),
m 4 14])))
def K_legatelaw21_LongHashes : KF := ⟨1, 35, [(.tmp 2)],
(.seq (.ops [o 2 (.mv (.c (.bool false)))])
(.seq (.ops [o 3 (.mv (.c (.int .i64 0)))])
(.seq (.seq (.ops [o 4 (.mv (.c (.int .i64 0)))])
(.block 0
(.loop [0, 3, 4] L_legatelaw21_LongHashes_0)))
(.seq (.ops [m 33 3,
o 34 (.bin .geq 0 true (.t 33) (.c (.int .i64 5000))),
m 2 34])
(.ret [2])))))⟩
/-! legate/legatelaw27.CheckCaps -/
def K_legatelaw27_CheckCaps : KF := ⟨3, 54, [(.tmp 6)],
(.seq (.ops [o 3 (.box (.t 0)),
o 6 (.mv (.c (.bool false)))])
(.seq (.seq (.ops [o 13 (.load true 3 (.t 3)),
o 14 (.buildSl [(.int .i64 0), (.int .i64 0), .nils] 1 3 [(0, 3, (.t 13))]),
o 15 (.callF f_legatelaw23_Long [(.t 14)]),
m 16 15,
og 17 16 false (.mv (.t 1)),
og 18 16 false (.len 0 (.t 17)),
og 19 16 false (.bin .gtr 0 true (.t 18) (.c (.int .i64 1000))),
o 20 (.pick (.t 16) (.c (.bool true)) (.t 19))])
(.cond (.t 20)
(.seq (.ops [o 21 (.callF f_legatelaw27_awake []),
m 6 21])
(.ret [6]))
.skip))
(.seq (.ops [o 23 (.load true 3 (.t 3)),
m 24 1,
m 25 2,
o 26 (.callF f_check_Cap [(.t 23), (.t 24), (.t 25)]),
m 22 26,
o 27 (.extract (.t 22) 0),
o 28 (.extract (.t 22) 1),
o 29 (.extract (.t 22) 2),
o 7 (.new [(.str []), (.int .i64 0), (.int .i64 0), .nils] none),
u (.store 4 (.t 7) (.t 27)),
m 8 28,
m 9 29])
(.seq (.ops [o 31 (.load true 3 (.t 3)),
m 32 1,
m 33 2,
o 34 (.callF f_legateref27_Cap [(.t 31), (.t 32), (.t 33)]),
m 30 34,
o 35 (.extract (.t 30) 0),
o 36 (.extract (.t 30) 1),
o 37 (.extract (.t 30) 2),
o 10 (.new [(.str []), (.int .i64 0), (.int .i64 0), .nils] none),
u (.store 4 (.t 10) (.t 35)),
m 11 36,
m 12 37])
(.seq (.ops [o 38 (.load true 4 (.t 7)),
o 39 (.load true 4 (.t 10)),
o 40 (.callF f_legateref23_SamePin [(.t 38), (.t 39)]),
m 41 40,
og 42 41 true (.mv (.t 8)),
og 43 41 true (.mv (.t 11)),
og 44 41 true (.bin .eql 0 false (.t 42) (.t 43)),
o 45 (.pick (.t 41) (.t 44) (.c (.bool false))),
m 46 45,
og 47 46 true (.mv (.t 9)),
og 48 46 true (.mv (.t 12)),
og 49 46 true (.bin .eql 0 false (.t 47) (.t 48)),
o 50 (.pick (.t 46) (.t 49) (.c (.bool false))),
m 51 50,
og 52 51 true (.callF f_legatelaw27_awake []),
o 53 (.pick (.t 51) (.t 52) (.c (.bool false))),
m 6 53])
(.ret [6]))))))⟩
/-! slices.Clone[[]legate/api.Hash,legate/api.Hash] -/
def K_slices_Clone_api_Hash_api_Hash : KF := ⟨1, 8, [(.tmp 2)],
(.seq (.ops [o 2 (.mv (.c .nils))])
(.seq (.seq (.ops [m 3 0,
o 4 (.bin .eql 7 true (.t 3) (.c .nils))])
(.cond (.t 4)
(.seq (.ops [o 2 (.mv (.c .nils))])
(.ret [2]))
.skip))
(.seq (.ops [o 5 (.buildSl [(.str []), (.str [])] 0 2 []),
m 6 0,
o 7 (.app false 2 32 none (.t 5) (.t 6)),
m 2 7])
(.ret [2]))))⟩
end Go.Ev

namespace Go.Ev
set_option maxRecDepth 100000
set_option linter.unusedSimpArgs false
variable {C : Ctx}
def nameB (b : UInt8) : Bool := (97 ≤ b.toNat && b.toNat ≤ 122) || (65 ≤ b.toNat && b.toNat ≤ 90) || (48 ≤ b.toNat && b.toNat ≤ 57) || b.toNat == 46 || b.toNat == 95 || b.toNat == 45
theorem name_allowed (hC : Has C f_name_allowed K_name_allowed) (b : UInt8) (σ : St) : semF C f_name_allowed [.int .u8 b.toNat] σ = some (.bool (nameB b), σ) := by
  rw [hC.go (NVs.hand (.cons (.int _ _) .nil) _) (by simp [K_name_allowed])]
  simp only [K_name_allowed, EVC, EVD, EVB, Nat.reduceEqDiff, eqOp, eqA, eqNil, lenA, asNat, optNat, pt, tupleOf, Nat.reduceSub, Nat.reduceGT, Nat.reduceLT, hand, norms, normVs, normV, freeze, reduceIte, reduceCtorEq, srcCells, slCells, isStr, fillA, rep, Nat.reduceMul, Nat.reduceLeDiff, Int.reduceToNat, Int.reduceLE, Int.reduceLT, Int.reduceEq, Nat.reduceAdd, Int.reduceBNe, Int.reduceBEq, Int.reduceNeg]
  repeat' (first | rw [condN_m] | rw [condK_m] | rw [ogN_m] | rw [ogK_m]); split <;> (try simp only [*, EVC, EVD, EVB, Nat.reduceEqDiff, eqOp, eqA, eqNil, lenA, asNat, optNat, pt, tupleOf, Nat.reduceSub, Nat.reduceGT, Nat.reduceLT, hand, norms, normVs, normV, freeze, reduceIte, reduceCtorEq, srcCells, slCells, isStr, fillA, rep, Nat.reduceMul, Nat.reduceLeDiff, Int.reduceToNat, Int.reduceLE, Int.reduceLT, Int.reduceEq, Nat.reduceAdd, Int.reduceBNe, Int.reduceBEq, Int.reduceNeg])
  all_goals (simp only [decide_eq_true_eq, decide_eq_false_iff_not, beq_iff_eq, beq_eq_false_iff_ne, ne_eq] at *; rw [Option.some.injEq, Prod.mk.injEq, AV.bool.injEq, Bool.eq_iff_iff]; simp [nameB]; omega)
theorem name_Role_loop (ha : Has C f_name_allowed K_name_allowed) (s : List UInt8) (hs : s.length ≤ 64) (σ : St) : ∀ (n i : Nat), i + n = s.length →
    loopK C (semF C) 27 [0, 17, 18] L_name_Role_0 [(0, .str s), (17, .int .i64 s.length), (18, .int .i64 i)] σ =
      if (s.drop i).all nameB then some (.exit 0, [], σ) else some (.ret, [(2, .bool false)], σ)
  | 0, i, hi => by
    rw [loop_eq (he := rfl)]
    have h : ¬ ((i : Int) < (s.length : Int)) := by omega
    have h' : s.drop i = [] := List.drop_eq_nil_of_le (by omega)
    simp only [L_name_Role_0, h, h', EVC, EVD, EVB, Nat.reduceEqDiff, eqOp, eqA, eqNil, lenA, asNat, optNat, pt, tupleOf, Nat.reduceSub, Nat.reduceGT, Nat.reduceLT, hand, norms, normVs, normV, freeze, reduceIte, reduceCtorEq, srcCells, slCells, isStr, fillA, rep, Nat.reduceMul, Nat.reduceLeDiff, Int.reduceToNat, Int.reduceLE, Int.reduceLT, Int.reduceEq, Nat.reduceAdd, Int.reduceBNe, Int.reduceBEq, Int.reduceNeg]
  | n + 1, i, hi => by
    rw [loop_eq (he := rfl)]
    generalize hk : loopK C (semF C) 27 [0, 17, 18] L_name_Role_0 = k
    have h : ((i : Int) < (s.length : Int)) := by omega
    have h2 : i < s.length := by omega
    have hb : s[i]? = some s[i] := List.getElem?_eq_getElem h2
    have h' : s.drop i = s[i] :: s.drop (i + 1) := List.drop_eq_getElem_cons h2
    have hw : IntKind.i64.wrap ((i : Int) + 1) = ((i + 1 : Nat) : Int) := by rw [w64] <;> omega
    have h3 : (0 : Int) ≤ i := by omega
    cases hx : nameB s[i]
    · simp only [L_name_Role_0, h, h', h3, hb, hw, hx, Bool.false_and, name_allowed ha, EVC, EVD, EVB, Nat.reduceEqDiff, eqOp, eqA, eqNil, lenA, asNat, optNat, pt, tupleOf, Nat.reduceSub, Nat.reduceGT, Nat.reduceLT, hand, norms, normVs, normV, freeze, reduceIte, reduceCtorEq, srcCells, slCells, isStr, fillA, rep, Nat.reduceMul, Nat.reduceLeDiff, Int.reduceToNat, Int.reduceLE, Int.reduceLT, Int.reduceEq, Nat.reduceAdd, Int.reduceBNe, Int.reduceBEq, Int.reduceNeg]
    · simp only [L_name_Role_0, h, h', h3, hb, hw, hx, Bool.true_and, name_allowed ha, EVC, EVD, EVB, Nat.reduceEqDiff, eqOp, eqA, eqNil, lenA, asNat, optNat, pt, tupleOf, Nat.reduceSub, Nat.reduceGT, Nat.reduceLT, hand, norms, normVs, normV, freeze, reduceIte, reduceCtorEq, srcCells, slCells, isStr, fillA, rep, Nat.reduceMul, Nat.reduceLeDiff, Int.reduceToNat, Int.reduceLE, Int.reduceLT, Int.reduceEq, Nat.reduceAdd, Int.reduceBNe, Int.reduceBEq, Int.reduceNeg]
      rw [← hk, name_Role_loop ha s hs σ n (i + 1) (by omega)]
def role (s : List UInt8) : Bool := !s.isEmpty && s.length ≤ 64 && s.head? != some 46 && s.all nameB
theorem name_Role (hC : Has C f_name_Role K_name_Role) (ha : Has C f_name_allowed K_name_allowed) (s : List UInt8) (σ : St) : semF C f_name_Role [.str s] σ = some (.bool (role s), σ) := by
  rw [hC.go (NVs.hand (.cons (.str _) .nil) _) (by simp [K_name_Role])]
  cases s with
  | nil =>
    simp only [K_name_Role, EVC, EVD, EVB, Nat.reduceEqDiff, eqOp, eqA, eqNil, lenA, asNat, optNat, pt, tupleOf, Nat.reduceSub, Nat.reduceGT, Nat.reduceLT, hand, norms, normVs, normV, freeze, reduceIte, reduceCtorEq, srcCells, slCells, isStr, fillA, rep, Nat.reduceMul, Nat.reduceLeDiff, Int.reduceToNat, Int.reduceLE, Int.reduceLT, Int.reduceEq, Nat.reduceAdd, Int.reduceBNe, Int.reduceBEq, Int.reduceNeg]
    rfl
  | cons b l =>
    have h0 : (b :: l) ≠ [] := by simp
    have hb : (b :: l)[0]? = some b := rfl
    have hr : role (b :: l) = ((b :: l).length ≤ 64 && b.toNat != 46 && (b :: l).all nameB) := by
      have : (b.toNat = 46) ↔ (b = 46) := by rw [← UInt8.toNat_inj]; rfl
      have e : (b == 46) = (b.toNat == 46) := by rw [Bool.eq_iff_iff]; simp [this]
      simp [role, bne, e]
    rw [hr]
    have lp := fun hl => name_Role_loop ha (b :: l) hl σ (b :: l).length 0 (by omega)
    generalize b :: l = s at *
    simp only [K_name_Role, h0, hb, Int.toNat_zero, EVC, EVD, EVB, Nat.reduceEqDiff, eqOp, eqA, eqNil, lenA, asNat, optNat, pt, tupleOf, Nat.reduceSub, Nat.reduceGT, Nat.reduceLT, hand, norms, normVs, normV, freeze, reduceIte, reduceCtorEq, srcCells, slCells, isStr, fillA, rep, Nat.reduceMul, Nat.reduceLeDiff, Int.reduceToNat, Int.reduceLE, Int.reduceLT, Int.reduceEq, Nat.reduceAdd, Int.reduceBNe, Int.reduceBEq, Int.reduceNeg]
    by_cases hl : s.length ≤ 64
    · have hl' : ¬ (64 : Int) < (s.length : Int) := by omega
      have lp := lp hl
      simp only [List.drop_zero, Int.natCast_zero, Int.cast_ofNat_Int] at lp
      simp only [hl', hb, EVC, EVD, EVB, Nat.reduceEqDiff, eqOp, eqA, eqNil, lenA, asNat, optNat, pt, tupleOf, Nat.reduceSub, Nat.reduceGT, Nat.reduceLT, hand, norms, normVs, normV, freeze, reduceIte, reduceCtorEq, srcCells, slCells, isStr, fillA, rep, Nat.reduceMul, Nat.reduceLeDiff, Int.reduceToNat, Int.reduceLE, Int.reduceLT, Int.reduceEq, Nat.reduceAdd, Int.reduceBNe, Int.reduceBEq, Int.reduceNeg]
      rw [condK_if]; split <;> rename_i h5 <;> simp only [beq_iff_eq] at h5
      · have : (b.toNat != 46) = false := by simp; omega
        simp only [this, Bool.and_false, Bool.false_and, EVC, EVD, EVB, Nat.reduceEqDiff, eqOp, eqA, eqNil, lenA, asNat, optNat, pt, tupleOf, Nat.reduceSub, Nat.reduceGT, Nat.reduceLT, hand, norms, normVs, normV, freeze, reduceIte, reduceCtorEq, srcCells, slCells, isStr, fillA, rep, Nat.reduceMul, Nat.reduceLeDiff, Int.reduceToNat, Int.reduceLE, Int.reduceLT, Int.reduceEq, Nat.reduceAdd, Int.reduceBNe, Int.reduceBEq, Int.reduceNeg]
      · have : (b.toNat != 46) = true := by simp; omega
        simp only [this, hl, Bool.and_true, Bool.true_and, Int.natCast_zero, lp, EVC, EVD, EVB, Nat.reduceEqDiff, eqOp, eqA, eqNil, lenA, asNat, optNat, pt, tupleOf, Nat.reduceSub, Nat.reduceGT, Nat.reduceLT, hand, norms, normVs, normV, freeze, reduceIte, reduceCtorEq, srcCells, slCells, isStr, fillA, rep, Nat.reduceMul, Nat.reduceLeDiff, Int.reduceToNat, Int.reduceLE, Int.reduceLT, Int.reduceEq, Nat.reduceAdd, Int.reduceBNe, Int.reduceBEq, Int.reduceNeg]
        cases s.all nameB <;> simp only [lp, EVC, EVD, EVB, Nat.reduceEqDiff, eqOp, eqA, eqNil, lenA, asNat, optNat, pt, tupleOf, Nat.reduceSub, Nat.reduceGT, Nat.reduceLT, hand, norms, normVs, normV, freeze, reduceIte, reduceCtorEq, srcCells, slCells, isStr, fillA, rep, Nat.reduceMul, Nat.reduceLeDiff, Int.reduceToNat, Int.reduceLE, Int.reduceLT, Int.reduceEq, Nat.reduceAdd, Int.reduceBNe, Int.reduceBEq, Int.reduceNeg]
    · have hl' : (64 : Int) < (s.length : Int) := by omega
      simp only [hl', hl, Bool.false_and, EVC, EVD, EVB, Nat.reduceEqDiff, eqOp, eqA, eqNil, lenA, asNat, optNat, pt, tupleOf, Nat.reduceSub, Nat.reduceGT, Nat.reduceLT, hand, norms, normVs, normV, freeze, reduceIte, reduceCtorEq, srcCells, slCells, isStr, fillA, rep, Nat.reduceMul, Nat.reduceLeDiff, Int.reduceToNat, Int.reduceLE, Int.reduceLT, Int.reduceEq, Nat.reduceAdd, Int.reduceBNe, Int.reduceBEq, Int.reduceNeg]
end Go.Ev

namespace Go.Ev
set_option maxRecDepth 100000
set_option linter.unusedSimpArgs false
variable {C : Ctx}
def jsonB : List UInt8 := [46, 106, 115, 111, 110]
def fileA (s : List UInt8) : AV := if role s then .tup [.str (s ++ jsonB), .int .i64 0] else .tup [.str [], .int .i64 3]
theorem role_len {s : List UInt8} (h : role s = true) : s.length ≤ 64 := by simp [role] at h; exact h.1.1.2
theorem name_File (hC : Has C f_name_File K_name_File) (hr : Has C f_name_Role K_name_Role) (ha : Has C f_name_allowed K_name_allowed) (s : List UInt8) (σ : St) : semF C f_name_File [.str s] σ = some (fileA s, σ) := by
  rw [hC.go (NVs.hand (.cons (.str _) .nil) _) (by simp [K_name_File])]
  unfold fileA
  cases h : role s
  · simp only [K_name_File, name_Role hr ha, h, EVC, EVD, EVB, Nat.reduceEqDiff, eqOp, eqA, eqNil, lenA, asNat, optNat, pt, tupleOf, Nat.reduceSub, Nat.reduceGT, Nat.reduceLT, hand, norms, normVs, normV, freeze, reduceIte, reduceCtorEq, srcCells, slCells, isStr, fillA, rep, Nat.reduceMul, Nat.reduceLeDiff, Int.reduceToNat, Int.reduceLE, Int.reduceLT, Int.reduceEq, Nat.reduceAdd, Int.reduceBNe, Int.reduceBEq, Int.reduceNeg]
  · have hb : binStr .add s [46, 106, 115, 111, 110] = some (.str (s ++ jsonB)) := bs_add (by have := role_len h; simp; omega)
    simp only [K_name_File, name_Role hr ha, h, hb, EVC, EVD, EVB, Nat.reduceEqDiff, eqOp, eqA, eqNil, lenA, asNat, optNat, pt, tupleOf, Nat.reduceSub, Nat.reduceGT, Nat.reduceLT, hand, norms, normVs, normV, freeze, reduceIte, reduceCtorEq, srcCells, slCells, isStr, fillA, rep, Nat.reduceMul, Nat.reduceLeDiff, Int.reduceToNat, Int.reduceLE, Int.reduceLT, Int.reduceEq, Nat.reduceAdd, Int.reduceBNe, Int.reduceBEq, Int.reduceNeg]
end Go.Ev

namespace Go.Ev
set_option maxRecDepth 100000
set_option linter.unusedSimpArgs false
variable {C : Ctx}
set_option maxHeartbeats 4000000 in
theorem ref13_part (hC : Has C f_legateref13_part K_legateref13_part) (b : UInt8) (σ : St) : semF C f_legateref13_part [.int .u8 b.toNat] σ = some (.bool (nameB b), σ) := by
  rw [hC.go (NVs.hand (.cons (.int _ _) .nil) _) (by simp [K_legateref13_part])]
  simp only [K_legateref13_part, EVC, EVD, EVB, Nat.reduceEqDiff, eqOp, eqA, eqNil, lenA, asNat, optNat, pt, tupleOf, Nat.reduceSub, Nat.reduceGT, Nat.reduceLT, hand, norms, normVs, normV, freeze, reduceIte, reduceCtorEq, srcCells, slCells, isStr, fillA, rep, Nat.reduceMul, Nat.reduceLeDiff, Int.reduceToNat, Int.reduceLE, Int.reduceLT, Int.reduceEq, Nat.reduceAdd, Int.reduceBNe, Int.reduceBEq, Int.reduceNeg]
  repeat' (first | rw [condN_m] | rw [condK_m] | rw [ogN_m] | rw [ogK_m]); split <;> (try simp only [*, EVC, EVD, EVB, Nat.reduceEqDiff, eqOp, eqA, eqNil, lenA, asNat, optNat, pt, tupleOf, Nat.reduceSub, Nat.reduceGT, Nat.reduceLT, hand, norms, normVs, normV, freeze, reduceIte, reduceCtorEq, srcCells, slCells, isStr, fillA, rep, Nat.reduceMul, Nat.reduceLeDiff, Int.reduceToNat, Int.reduceLE, Int.reduceLT, Int.reduceEq, Nat.reduceAdd, Int.reduceBNe, Int.reduceBEq, Int.reduceNeg])
  all_goals (simp only [decide_eq_true_eq, decide_eq_false_iff_not, beq_iff_eq, beq_eq_false_iff_ne, ne_eq] at *; rw [Option.some.injEq, Prod.mk.injEq, AV.bool.injEq, Bool.eq_iff_iff]; simp [nameB]; omega)

theorem ref13_Role_loop (ha : Has C f_legateref13_part K_legateref13_part) (s : List UInt8) (hs : s.length ≤ 64) (σ : St) : ∀ (n i : Nat), i + n = s.length →
    loopK C (semF C) 28 [0, 3] L_legateref13_Role_0 [(0, .str s), (3, .int .i64 i)] σ =
      if (s.drop i).all nameB then some (.exit 0, [], σ) else some (.ret, [(2, .bool false)], σ)
  | 0, i, hi => by
    rw [loop_eq (he := rfl)]
    have h : ¬ ((i : Int) < (s.length : Int)) := by omega
    have h' : s.drop i = [] := List.drop_eq_nil_of_le (by omega)
    simp only [L_legateref13_Role_0, h, h', lenA, EVC, EVD, EVB, Nat.reduceEqDiff, eqOp, eqA, eqNil, lenA, asNat, optNat, pt, tupleOf, Nat.reduceSub, Nat.reduceGT, Nat.reduceLT, hand, norms, normVs, normV, freeze, reduceIte, reduceCtorEq, srcCells, slCells, isStr, fillA, rep, Nat.reduceMul, Nat.reduceLeDiff, Int.reduceToNat, Int.reduceLE, Int.reduceLT, Int.reduceEq, Nat.reduceAdd, Int.reduceBNe, Int.reduceBEq, Int.reduceNeg]
  | n + 1, i, hi => by
    rw [loop_eq (he := rfl)]
    generalize hk : loopK C (semF C) 28 [0, 3] L_legateref13_Role_0 = k
    have h : ((i : Int) < (s.length : Int)) := by omega
    have h2 : i < s.length := by omega
    have hb : s[i]? = some s[i] := List.getElem?_eq_getElem h2
    have h' : s.drop i = s[i] :: s.drop (i + 1) := List.drop_eq_getElem_cons h2
    have hw : IntKind.i64.wrap ((i : Int) + 1) = ((i + 1 : Nat) : Int) := by rw [w64] <;> omega
    have h3 : (0 : Int) ≤ i := by omega
    cases hx : nameB s[i]
    · simp only [L_legateref13_Role_0, h, h', h3, hb, hw, hx, Bool.false_and, ref13_part ha, EVC, EVD, EVB, Nat.reduceEqDiff, eqOp, eqA, eqNil, lenA, asNat, optNat, pt, tupleOf, Nat.reduceSub, Nat.reduceGT, Nat.reduceLT, hand, norms, normVs, normV, freeze, reduceIte, reduceCtorEq, srcCells, slCells, isStr, fillA, rep, Nat.reduceMul, Nat.reduceLeDiff, Int.reduceToNat, Int.reduceLE, Int.reduceLT, Int.reduceEq, Nat.reduceAdd, Int.reduceBNe, Int.reduceBEq, Int.reduceNeg]
    · simp only [L_legateref13_Role_0, h, h', h3, hb, hw, hx, Bool.true_and, ref13_part ha, EVC, EVD, EVB, Nat.reduceEqDiff, eqOp, eqA, eqNil, lenA, asNat, optNat, pt, tupleOf, Nat.reduceSub, Nat.reduceGT, Nat.reduceLT, hand, norms, normVs, normV, freeze, reduceIte, reduceCtorEq, srcCells, slCells, isStr, fillA, rep, Nat.reduceMul, Nat.reduceLeDiff, Int.reduceToNat, Int.reduceLE, Int.reduceLT, Int.reduceEq, Nat.reduceAdd, Int.reduceBNe, Int.reduceBEq, Int.reduceNeg]
      rw [← hk, ref13_Role_loop ha s hs σ n (i + 1) (by omega)]
theorem ref13_Role (hC : Has C f_legateref13_Role K_legateref13_Role) (ha : Has C f_legateref13_part K_legateref13_part) (s : List UInt8) (σ : St) : semF C f_legateref13_Role [.str s] σ = some (.bool (role s), σ) := by
  rw [hC.go (NVs.hand (.cons (.str _) .nil) _) (by simp [K_legateref13_Role])]
  cases s with
  | nil =>
    simp only [K_legateref13_Role, EVC, EVD, EVB, Nat.reduceEqDiff, eqOp, eqA, eqNil, lenA, asNat, optNat, pt, tupleOf, Nat.reduceSub, Nat.reduceGT, Nat.reduceLT, hand, norms, normVs, normV, freeze, reduceIte, reduceCtorEq, srcCells, slCells, isStr, fillA, rep, Nat.reduceMul, Nat.reduceLeDiff, Int.reduceToNat, Int.reduceLE, Int.reduceLT, Int.reduceEq, Nat.reduceAdd, Int.reduceBNe, Int.reduceBEq, Int.reduceNeg]
    rfl
  | cons b l =>
    have h0 : ¬ ((b :: l).length : Int) < 1 := by simp; omega
    have hb : (b :: l)[0]? = some b := rfl
    have hr : role (b :: l) = ((b :: l).length ≤ 64 && b.toNat != 46 && (b :: l).all nameB) := by
      have : (b.toNat = 46) ↔ (b = 46) := by rw [← UInt8.toNat_inj]; rfl
      have e : (b == 46) = (b.toNat == 46) := by rw [Bool.eq_iff_iff]; simp [this]
      simp [role, bne, e]
    rw [hr]
    have lp := fun hl => ref13_Role_loop ha (b :: l) hl σ (b :: l).length 0 (by omega)
    generalize b :: l = s at *
    simp only [K_legateref13_Role, h0, hb, Int.toNat_zero, EVC, EVD, EVB, Nat.reduceEqDiff, eqOp, eqA, eqNil, lenA, asNat, optNat, pt, tupleOf, Nat.reduceSub, Nat.reduceGT, Nat.reduceLT, hand, norms, normVs, normV, freeze, reduceIte, reduceCtorEq, srcCells, slCells, isStr, fillA, rep, Nat.reduceMul, Nat.reduceLeDiff, Int.reduceToNat, Int.reduceLE, Int.reduceLT, Int.reduceEq, Nat.reduceAdd, Int.reduceBNe, Int.reduceBEq, Int.reduceNeg]
    by_cases hl : s.length ≤ 64
    · have hl' : ¬ (64 : Int) < (s.length : Int) := by omega
      have lp := lp hl
      simp only [List.drop_zero, Int.natCast_zero, Int.cast_ofNat_Int] at lp
      simp only [hl', hb, EVC, EVD, EVB, Nat.reduceEqDiff, eqOp, eqA, eqNil, lenA, asNat, optNat, pt, tupleOf, Nat.reduceSub, Nat.reduceGT, Nat.reduceLT, hand, norms, normVs, normV, freeze, reduceIte, reduceCtorEq, srcCells, slCells, isStr, fillA, rep, Nat.reduceMul, Nat.reduceLeDiff, Int.reduceToNat, Int.reduceLE, Int.reduceLT, Int.reduceEq, Nat.reduceAdd, Int.reduceBNe, Int.reduceBEq, Int.reduceNeg]
      rw [condK_if]; split <;> rename_i h5 <;> simp only [beq_iff_eq] at h5
      · have : (b.toNat != 46) = false := by simp; omega
        simp only [this, Bool.and_false, Bool.false_and, EVC, EVD, EVB, Nat.reduceEqDiff, eqOp, eqA, eqNil, lenA, asNat, optNat, pt, tupleOf, Nat.reduceSub, Nat.reduceGT, Nat.reduceLT, hand, norms, normVs, normV, freeze, reduceIte, reduceCtorEq, srcCells, slCells, isStr, fillA, rep, Nat.reduceMul, Nat.reduceLeDiff, Int.reduceToNat, Int.reduceLE, Int.reduceLT, Int.reduceEq, Nat.reduceAdd, Int.reduceBNe, Int.reduceBEq, Int.reduceNeg]
      · have : (b.toNat != 46) = true := by simp; omega
        simp only [this, hl, Bool.and_true, Bool.true_and, Int.natCast_zero, lp, EVC, EVD, EVB, Nat.reduceEqDiff, eqOp, eqA, eqNil, lenA, asNat, optNat, pt, tupleOf, Nat.reduceSub, Nat.reduceGT, Nat.reduceLT, hand, norms, normVs, normV, freeze, reduceIte, reduceCtorEq, srcCells, slCells, isStr, fillA, rep, Nat.reduceMul, Nat.reduceLeDiff, Int.reduceToNat, Int.reduceLE, Int.reduceLT, Int.reduceEq, Nat.reduceAdd, Int.reduceBNe, Int.reduceBEq, Int.reduceNeg]
        cases s.all nameB <;> simp only [lp, EVC, EVD, EVB, Nat.reduceEqDiff, eqOp, eqA, eqNil, lenA, asNat, optNat, pt, tupleOf, Nat.reduceSub, Nat.reduceGT, Nat.reduceLT, hand, norms, normVs, normV, freeze, reduceIte, reduceCtorEq, srcCells, slCells, isStr, fillA, rep, Nat.reduceMul, Nat.reduceLeDiff, Int.reduceToNat, Int.reduceLE, Int.reduceLT, Int.reduceEq, Nat.reduceAdd, Int.reduceBNe, Int.reduceBEq, Int.reduceNeg]
    · have hl' : (64 : Int) < (s.length : Int) := by omega
      simp only [hl', hl, Bool.false_and, EVC, EVD, EVB, Nat.reduceEqDiff, eqOp, eqA, eqNil, lenA, asNat, optNat, pt, tupleOf, Nat.reduceSub, Nat.reduceGT, Nat.reduceLT, hand, norms, normVs, normV, freeze, reduceIte, reduceCtorEq, srcCells, slCells, isStr, fillA, rep, Nat.reduceMul, Nat.reduceLeDiff, Int.reduceToNat, Int.reduceLE, Int.reduceLT, Int.reduceEq, Nat.reduceAdd, Int.reduceBNe, Int.reduceBEq, Int.reduceNeg]
theorem ref13_File (hC : Has C f_legateref13_File K_legateref13_File) (hr : Has C f_legateref13_Role K_legateref13_Role) (ha : Has C f_legateref13_part K_legateref13_part) (s : List UInt8) (σ : St) : semF C f_legateref13_File [.str s] σ = some (fileA s, σ) := by
  rw [hC.go (NVs.hand (.cons (.str _) .nil) _) (by simp [K_legateref13_File])]
  unfold fileA
  cases h : role s
  · simp only [K_legateref13_File, ref13_Role hr ha, h, EVC, EVD, EVB, Nat.reduceEqDiff, eqOp, eqA, eqNil, lenA, asNat, optNat, pt, tupleOf, Nat.reduceSub, Nat.reduceGT, Nat.reduceLT, hand, norms, normVs, normV, freeze, reduceIte, reduceCtorEq, srcCells, slCells, isStr, fillA, rep, Nat.reduceMul, Nat.reduceLeDiff, Int.reduceToNat, Int.reduceLE, Int.reduceLT, Int.reduceEq, Nat.reduceAdd, Int.reduceBNe, Int.reduceBEq, Int.reduceNeg]
  · have hb : binStr .add s [46, 106, 115, 111, 110] = some (.str (s ++ jsonB)) := bs_add (by have := role_len h; simp; omega)
    simp only [K_legateref13_File, ref13_Role hr ha, h, hb, EVC, EVD, EVB, Nat.reduceEqDiff, eqOp, eqA, eqNil, lenA, asNat, optNat, pt, tupleOf, Nat.reduceSub, Nat.reduceGT, Nat.reduceLT, hand, norms, normVs, normV, freeze, reduceIte, reduceCtorEq, srcCells, slCells, isStr, fillA, rep, Nat.reduceMul, Nat.reduceLeDiff, Int.reduceToNat, Int.reduceLE, Int.reduceLT, Int.reduceEq, Nat.reduceAdd, Int.reduceBNe, Int.reduceBEq, Int.reduceNeg]
end Go.Ev

namespace Go.Ev
set_option maxRecDepth 100000
set_option linter.unusedSimpArgs false
variable {C : Ctx}
structure HashV where
  alg : List UInt8
  hex : List UInt8
def HashV.cs (h : HashV) : List AV := [.str h.alg, .str h.hex]
def hashesA (l : List HashV) : AV := .sl l.length (l.flatMap HashV.cs)
structure PinV where
  name : List UInt8
  version : Int
  length : Int
  hashes : List HashV
def PinV.cs (p : PinV) : List AV := [.str p.name, .int .i64 p.version, .int .i64 p.length, hashesA p.hashes]
def pinsA (l : List PinV) : AV := .sl l.length (l.flatMap PinV.cs)
theorem HashV.len (h : HashV) : h.cs.length = 2 := rfl
theorem PinV.len (h : PinV) : h.cs.length = 4 := rfl
theorem HashV.below (h : HashV) : belows 0 h.cs = true := rfl
theorem hashes_nv (l : List HashV) : NV (hashesA l) := .sl _ (flat_below HashV.below l)
theorem PinV.below (h : PinV) : belows 0 h.cs = true := by
  simp only [PinV.cs, belows, (hashes_nv h.hashes).cl]; rfl
theorem pins_nv (l : List PinV) : NV (pinsA l) := .sl _ (flat_below PinV.below l)
def zeroPin : List AV := [.str [], .int .i64 0, .int .i64 0, .nils]
theorem snap_Pin_loop (hc : SameSl C f_slices_Clone_api_Hash_api_Hash 2) (l : List PinV) (hl : l.length ≤ 1099511627776) (hh : ∀ p ∈ l, p.hashes.length ≤ 1099511627776) (file : List UInt8) (σ : St) (X : AO) : ∀ (n i : Nat) (G : St), i + n = l.length →
    ∃ G', loopK C (semF C) 36 [4, 6, 19, 20, 21] L_snap_Pin_0 [(4, .ref (σ.length + 1) 0), (6, .str file), (19, .sl l.length (l.flatMap PinV.cs)), (20, .int .i64 l.length), (21, .int .i64 i)] (σ ++ X :: .cells zeroPin ⟨false, none⟩ :: G) =
      match (l.drop i).find? (fun p => decide (p.name = file)) with
      | none => some (.exit 0, [(4, .ref (σ.length + 1) 0)], σ ++ X :: .cells zeroPin ⟨false, none⟩ :: G')
      | some p => some (.ret, [(4, .ref (σ.length + 1) 0), (5, .bool true)], σ ++ X :: .cells p.cs ⟨false, none⟩ :: G')
  | 0, i, G, hi => by
    rw [loop_eq (he := rfl)]
    have h : ¬ ((i : Int) < (l.length : Int)) := by omega
    have h' : l.drop i = [] := List.drop_eq_nil_of_le (by omega)
    refine ⟨G, ?_⟩
    simp only [L_snap_Pin_0, h, h', List.find?_nil, EVC, EVD, EVB, Nat.reduceEqDiff, eqOp, eqA, eqNil, lenA, asNat, optNat, pt, tupleOf, Nat.reduceSub, Nat.reduceGT, Nat.reduceLT, hand, norms, normVs, normV, freeze, reduceIte, reduceCtorEq, srcCells, slCells, isStr, fillA, rep, Nat.reduceMul, Nat.reduceLeDiff, Int.reduceToNat, Int.reduceLE, Int.reduceLT, Int.reduceEq, Nat.reduceAdd, Int.reduceBNe, Int.reduceBEq, Int.reduceNeg]
  | n + 1, i, G, hi => by
    rw [loop_eq (he := rfl)]
    have h : ((i : Int) < (l.length : Int)) := by omega
    have h2 : i < l.length := by omega
    have hb : l[i]? = some l[i] := List.getElem?_eq_getElem h2
    have h' : l.drop i = l[i] :: l.drop (i + 1) := List.drop_eq_getElem_cons h2
    have hw : IntKind.i64.wrap ((i : Int) + 1) = ((i + 1 : Nat) : Int) := by rw [w64] <;> omega
    have h3 : (0 : Int) ≤ i := by omega
    have fl := flat_len PinV.len l
    have fd := flat_at PinV.len hb
    have hp := hh _ (List.getElem_mem h2)
    obtain ⟨p, hpe⟩ : ∃ p, p = l[i] := ⟨_, rfl⟩
    rw [← hpe] at fd h' hp
    have hcl := fun τ => hc p.hashes.length (p.hashes.flatMap HashV.cs) τ (flat_len HashV.len _) hp (flat_scal (f := HashV.cs) (fun x => rfl) _)
    cases hx : decide (p.name = file)
    · obtain ⟨G', ih⟩ := snap_Pin_loop hc l hl hh file σ X n (i + 1) (G ++ [.cells p.cs ⟨false, none⟩]) (by omega)
      refine ⟨G', ?_⟩
      rw [h', List.find?_cons, hx]
      dsimp only
      rw [← ih]
      generalize hk : loopK C (semF C) 36 [4, 6, 19, 20, 21] L_snap_Pin_0 = k
      simp only [L_snap_Pin_0, h, h2, h3, hw, hx, fl, fd, PinV.cs, hashesA, last_get', last_set', List.cons_append, List.set_cons_succ, List.set_cons_zero, List.append_assoc, List.length_append, Nat.le_add_left, AV.cells, flat_sl, EVC, EVD, EVB, Nat.reduceEqDiff, eqOp, eqA, eqNil, lenA, asNat, optNat, pt, tupleOf, Nat.reduceSub, Nat.reduceGT, Nat.reduceLT, hand, norms, normVs, normV, freeze, reduceIte, reduceCtorEq, srcCells, slCells, isStr, fillA, rep, Nat.reduceMul, Nat.reduceLeDiff, Int.reduceToNat, Int.reduceLE, Int.reduceLT, Int.reduceEq, Nat.reduceAdd, Int.reduceBNe, Int.reduceBEq, Int.reduceNeg]
    · refine ⟨G ++ [.cells p.cs ⟨false, none⟩], ?_⟩
      rw [h', List.find?_cons, hx]
      dsimp only
      generalize hk : loopK C (semF C) 36 [4, 6, 19, 20, 21] L_snap_Pin_0 = k
      simp only [L_snap_Pin_0, h, h2, h3, hw, hx, fl, fd, hcl, PinV.cs, hashesA, zeroPin, last_get', last_set', List.cons_append, List.set_cons_succ, List.set_cons_zero, List.append_assoc, List.length_append, Nat.le_add_left, AV.cells, flat_sl, EVC, EVD, EVB, Nat.reduceEqDiff, eqOp, eqA, eqNil, lenA, asNat, optNat, pt, tupleOf, Nat.reduceSub, Nat.reduceGT, Nat.reduceLT, hand, norms, normVs, normV, freeze, reduceIte, reduceCtorEq, srcCells, slCells, isStr, fillA, rep, Nat.reduceMul, Nat.reduceLeDiff, Int.reduceToNat, Int.reduceLE, Int.reduceLT, Int.reduceEq, Nat.reduceAdd, Int.reduceBNe, Int.reduceBEq, Int.reduceNeg]
end Go.Ev

namespace Go.Ev
set_option maxRecDepth 100000
set_option linter.unusedSimpArgs false
variable {C : Ctx}
theorem scal_nv {a : AV} (h : scal a = true) : NV a := by
  cases a <;> first | (cases h; done) | exact .bool _ | exact .int _ _ | exact .str _
theorem scal_nvs {l : List AV} (h : l.all scal = true) : NVs l := fun v hv => scal_nv (List.all_eq_true.mp h v hv)
theorem scal_flat {l : List AV} (h : l.all scal = true) : l.all AV.flat = true := by
  rw [List.all_eq_true] at *
  intro v hv
  have := h v hv
  cases v <;> first | (cases this; done) | rfl
/-- slices.Clone of hashes: where there are any -/
theorem clone_some (hC : Has C f_slices_Clone_api_Hash_api_Hash K_slices_Clone_api_Hash_api_Hash) (n : Nat) (l : List AV) (hl : l.length = n * 2) (h0 : 0 < n) (hn : n ≤ 1099511627776) (hs : l.all scal = true) (σ : St) (hσ : Ok σ) : semF C f_slices_Clone_api_Hash_api_Hash [.sl n l] σ = some (.sl n l, σ) := by
  have ns := scal_nvs hs
  rw [hC.go (NVs.hand (.cons (.sl n ns.cl) .nil) _) (by simp [K_slices_Clone_api_Hash_api_Hash])]
  have fa := scal_flat hs
  have h1 : ¬ n = 0 := by omega
  have ap := fun τ : St => ap_xsl τ none (sz := 2) (bytes := 32) (n := 0) (m := n) (l := []) l h1 rfl (by omega) (by omega)
  simp only [Nat.zero_add, List.nil_append] at ap
  have ft : l.take (n * 2) = l := List.take_of_length_le (by omega)
  have nr : ∀ τ, norms τ 11 l = some (l, []) := fun τ => by
    show normVs τ (norms τ 10) l = _
    exact ns.nf _ _
  have hd : ∀ τ : St, hand false [.msl τ.length 0 n 2] (τ ++ [.cells l ⟨false, none⟩]) = some ([.sl n l], τ ++ [.cells l ⟨true, none⟩]) := fun τ => by
    have hle : 0 + n * 2 ≤ l.length := by omega
    have : normV (τ ++ [.cells l ⟨false, none⟩]) (norms (τ ++ [.cells l ⟨false, none⟩]) 11) (.msl τ.length 0 n 2) = some (.sl n l, [τ.length]) := by
      unfold normV
      rw [st_get0]
      show (if 0 + n * 2 ≤ l.length then match norms _ 11 ((l.drop 0).take (n * 2)) with | some (l, fs) => some (AV.sl n l, τ.length :: fs) | none => none else none) = _
      rw [if_pos hle, List.drop_zero, ft, nr]
    rw [hand_is, nvs_cons, this, nvs_nil]
    show some ([AV.sl n l], freeze (τ ++ [.cells l ⟨false, none⟩]) [τ.length]) = _
    unfold freeze
    rw [st_get0]
    show some ([AV.sl n l], freeze ((τ ++ [AO.cells l ⟨false, none⟩]).set τ.length (AO.cells l ⟨true, none⟩)) []) = _
    rw [st_set0]
    rfl
  have ty := fun L => st_tidy hσ (vs := [.sl n l]) (by rw [belows, below, ns.cl]; rfl) L
  have e : ∀ (E : As) (τ : St), look E 2 = .msl σ.length 0 n 2 → τ = σ ++ [AO.cells l ⟨false, none⟩] → endR σ.length [.tmp 2] (some (.ret, E, τ)) = some (.sl n l, σ) := fun E τ hE hτ => by
    subst hτ
    rw [endR_ret, show resL E (σ ++ [AO.cells l ⟨false, none⟩]) [.tmp 2] = some [look E 2] from rfl, hE]
    dsimp only
    rw [hd]
    dsimp only
    rw [ty]
    rfl
  have fin : ∀ b : KC, True := fun _ => trivial
  generalize hK : endR = eR at *
  simp only [K_slices_Clone_api_Hash_api_Hash, hl, h0, h1, fa, ap, EVC, EVD, EVB, Nat.reduceEqDiff, eqOp, eqA, eqNil, lenA, asNat, optNat, pt, tupleOf, Nat.reduceSub, Nat.reduceGT, Nat.reduceLT, hand, norms, normVs, normV, freeze, reduceIte, reduceCtorEq, srcCells, slCells, isStr, fillA, rep, Nat.reduceMul, Nat.reduceLeDiff, Int.reduceToNat, Int.reduceLE, Int.reduceLT, Int.reduceEq, Nat.reduceAdd, Int.reduceBNe, Int.reduceBEq, Int.reduceNeg]
  rw [← hK] at *
  exact e _ _ rfl rfl
end Go.Ev

namespace Go.Ev
set_option maxRecDepth 100000
set_option linter.unusedSimpArgs false
variable {C : Ctx}
structure SnapV where
  version : Int
  expires : Int
  pins : List PinV
def snapA (s : SnapV) : AV := .agg [.int .i64 s.version, .int .i64 s.expires, .sl s.pins.length (s.pins.flatMap PinV.cs)]
theorem snap_nv (s : SnapV) : NV (snapA s) := .agg (.cons (.int _ _) (.cons (.int _ _) (.cons (pins_nv s.pins) .nil)))
def findPin (s : SnapV) (r : List UInt8) : Option PinV := if role r then s.pins.find? (fun p => decide (p.name = r ++ jsonB)) else none
def zeroPin' : List AV := [.str [], .int .i64 0, .int .i64 0, .sl 0 []]
def pinR : Option PinV → AV
  | none => .tup [.agg zeroPin', .bool false]
  | some p => .tup [.agg p.cs, .bool true]
structure PinHas (C : Ctx) : Prop where
  allowed : Has C f_name_allowed K_name_allowed
  role : Has C f_name_Role K_name_Role
  file : Has C f_name_File K_name_File
  clone : SameSl C f_slices_Clone_api_Hash_api_Hash 2
  pin : Has C f_snap_Pin K_snap_Pin
  cap : Has C f_check_Cap K_check_Cap
structure SnapSmall (s : SnapV) : Prop where
  pins : s.pins.length ≤ 1099511627776
  hashes : ∀ p ∈ s.pins, p.hashes.length ≤ 1099511627776
theorem snap_Pin (h : PinHas C) (s : SnapV) (hs : SnapSmall s) (r : List UInt8) (σ : St) (hσ : Ok σ) : semF C f_snap_Pin [snapA s, .str r] σ = some (pinR (findPin s r), σ) := by
  rw [h.pin.go (NVs.hand (.cons (snap_nv s) (.cons (.str _) .nil)) _) (by simp [K_snap_Pin])]
  unfold findPin snapA
  have ty := fun (vs : List AV) (hv : belows 0 vs = true) (L : St) => st_tidy hσ hv L
  cases hr : role r
  · have fa : fileA r = .tup [.str [], .int .i64 3] := by simp [fileA, hr]
    have t1 := ty [.agg zeroPin', .bool false] rfl
    unfold zeroPin' at t1
    simp only [K_snap_Pin, name_File h.file h.role h.allowed, fa, hr, resL, nv_agg, nv_nils, pinR, zeroPin', t1, AV.cells, AV.flat, List.cons_append, List.set_cons_succ, List.set_cons_zero, Nat.le_add_left, EVC, EVD, EVB, Nat.reduceEqDiff, eqOp, eqA, eqNil, lenA, asNat, optNat, pt, tupleOf, Nat.reduceSub, Nat.reduceGT, Nat.reduceLT, hand, norms, normVs, normV, freeze, reduceIte, reduceCtorEq, srcCells, slCells, isStr, fillA, rep, Nat.reduceMul, Nat.reduceLeDiff, Int.reduceToNat, Int.reduceLE, Int.reduceLT, Int.reduceEq, Nat.reduceAdd, Int.reduceBNe, Int.reduceBEq, Int.reduceNeg]
  · have fa : fileA r = .tup [.str (r ++ jsonB), .int .i64 0] := by simp [fileA, hr]
    obtain ⟨G, lp⟩ := snap_Pin_loop h.clone s.pins hs.pins hs.hashes (r ++ jsonB) σ (.cells [.int .i64 s.version, .int .i64 s.expires, .sl s.pins.length (s.pins.flatMap PinV.cs)] ⟨false, none⟩) s.pins.length 0 [] (by omega)
    rw [List.drop_zero] at lp
    simp only [Int.natCast_zero, Int.cast_ofNat_Int, zeroPin] at lp
    rw [if_pos rfl]
    cases hf : s.pins.find? (fun p => decide (p.name = r ++ jsonB)) with
    | none =>
      rw [hf] at lp
      have t1 := ty [.agg zeroPin', .bool false] rfl
      unfold zeroPin' at t1
      simp only [K_snap_Pin, name_File h.file h.role h.allowed, fa, lp, resL, nv_agg, nv_nils, pinR, zeroPin', t1, AV.cells, AV.flat, List.cons_append, List.set_cons_succ, List.set_cons_zero, Nat.le_add_left, EVC, EVD, EVB, Nat.reduceEqDiff, eqOp, eqA, eqNil, lenA, asNat, optNat, pt, tupleOf, Nat.reduceSub, Nat.reduceGT, Nat.reduceLT, hand, norms, normVs, normV, freeze, reduceIte, reduceCtorEq, srcCells, slCells, isStr, fillA, rep, Nat.reduceMul, Nat.reduceLeDiff, Int.reduceToNat, Int.reduceLE, Int.reduceLT, Int.reduceEq, Nat.reduceAdd, Int.reduceBNe, Int.reduceBEq, Int.reduceNeg]
    | some p =>
      rw [hf] at lp
      have t1 := ty [.agg p.cs, .bool true] (by simp only [belows, below, PinV.below]; rfl)
      unfold PinV.cs hashesA at t1
      simp only [K_snap_Pin, name_File h.file h.role h.allowed, fa, lp, resL, nv_agg, nv_nils, pinR, PinV.cs, hashesA, t1, AV.cells, AV.flat, List.cons_append, List.set_cons_succ, List.set_cons_zero, Nat.le_add_left, EVC, EVD, EVB, Nat.reduceEqDiff, eqOp, eqA, eqNil, lenA, asNat, optNat, pt, tupleOf, Nat.reduceSub, Nat.reduceGT, Nat.reduceLT, hand, norms, normVs, normV, freeze, reduceIte, reduceCtorEq, srcCells, slCells, isStr, fillA, rep, Nat.reduceMul, Nat.reduceLeDiff, Int.reduceToNat, Int.reduceLE, Int.reduceLT, Int.reduceEq, Nat.reduceAdd, Int.reduceBNe, Int.reduceBEq, Int.reduceNeg]
end Go.Ev

namespace Go.Ev
set_option maxRecDepth 100000
set_option linter.unusedSimpArgs false
variable {C : Ctx}
def capR (o : Option PinV) (most : Int) : AV := match o with
  | none => .tup [.agg zeroPin', .int .i64 0, .int .u8 1]
  | some p => if p.length < 0 then .tup [.agg p.cs, .int .i64 most, .int .u8 0] else if p.length > most then .tup [.agg zeroPin', .int .i64 0, .int .u8 3] else .tup [.agg p.cs, .int .i64 p.length, .int .u8 0]
theorem snap_ok {σ : St} (hσ : Ok σ) (a b : List AV) (ha : belows 0 a = true) (hb : belows 0 b = true) (x y : Fz) : Ok (σ ++ [.cells a x, .cells b y]) :=
  st_ok hσ (by simp [AO.below, belows_mono (Nat.zero_le _) _ ha, belows_mono (Nat.zero_le _) _ hb])
theorem check_Cap (h : PinHas C) (s : SnapV) (hs : SnapSmall s) (r : List UInt8) (most : Int) (σ : St) (hσ : Ok σ) : semF C f_check_Cap [snapA s, .str r, .int .i64 most] σ = some (capR (findPin s r) most, σ) := by
  rw [h.cap.go (NVs.hand (.cons (snap_nv s) (.cons (.str _) (.cons (.int _ _) .nil))) _) (by simp [K_check_Cap])]
  have ok1 := snap_ok hσ [.int .i64 s.version, .int .i64 s.expires, .sl s.pins.length (s.pins.flatMap PinV.cs)] zeroPin (by have := (snap_nv s).cl; unfold snapA at this; rw [below] at this; exact this) rfl ⟨false, none⟩ ⟨false, none⟩
  have q := snap_Pin h s hs r _ ok1
  have ty := fun (vs : List AV) (hv : belows 0 vs = true) (L : St) => st_tidy hσ hv L
  unfold snapA zeroPin at *
  have t1 := fun a b => ty [.agg zeroPin', .int .i64 a, .int .u8 b] rfl
  unfold zeroPin' at t1
  cases hf : findPin s r with
  | none =>
    rw [hf] at q
    unfold pinR zeroPin' at q
    dsimp only at q
    simp only [K_check_Cap, q, resL, nv_agg, nv_nils, capR, zeroPin', t1, AV.cells, AV.flat, List.cons_append, List.set_cons_succ, List.set_cons_zero, Nat.le_add_left, EVC, EVD, EVB, Nat.reduceEqDiff, eqOp, eqA, eqNil, lenA, asNat, optNat, pt, tupleOf, Nat.reduceSub, Nat.reduceGT, Nat.reduceLT, hand, norms, normVs, normV, freeze, reduceIte, reduceCtorEq, srcCells, slCells, isStr, fillA, rep, Nat.reduceMul, Nat.reduceLeDiff, Int.reduceToNat, Int.reduceLE, Int.reduceLT, Int.reduceEq, Nat.reduceAdd, Int.reduceBNe, Int.reduceBEq, Int.reduceNeg]
  | some p =>
    rw [hf] at q
    have pc : p.cs = [.str p.name, .int .i64 p.version, .int .i64 p.length, .sl p.hashes.length (p.hashes.flatMap HashV.cs)] := rfl
    unfold pinR at q
    dsimp only at q
    rw [pc] at q
    have t2 := fun a b => ty [.agg p.cs, .int .i64 a, .int .u8 b] (by simp only [belows, below, PinV.below]; rfl)
    rw [pc] at t2
    by_cases h1 : p.length < 0
    · simp only [K_check_Cap, q, h1, resL, nv_agg, nv_nils, capR, pc, t2, AV.cells, AV.flat, List.cons_append, List.set_cons_succ, List.set_cons_zero, Nat.le_add_left, EVC, EVD, EVB, Nat.reduceEqDiff, eqOp, eqA, eqNil, lenA, asNat, optNat, pt, tupleOf, Nat.reduceSub, Nat.reduceGT, Nat.reduceLT, hand, norms, normVs, normV, freeze, reduceIte, reduceCtorEq, srcCells, slCells, isStr, fillA, rep, Nat.reduceMul, Nat.reduceLeDiff, Int.reduceToNat, Int.reduceLE, Int.reduceLT, Int.reduceEq, Nat.reduceAdd, Int.reduceBNe, Int.reduceBEq, Int.reduceNeg]
    · by_cases h2 : most < p.length
      · simp only [K_check_Cap, q, h1, h2, resL, nv_agg, nv_nils, capR, zeroPin', t1, pc, t2, AV.cells, AV.flat, List.cons_append, List.set_cons_succ, List.set_cons_zero, Nat.le_add_left, EVC, EVD, EVB, Nat.reduceEqDiff, eqOp, eqA, eqNil, lenA, asNat, optNat, pt, tupleOf, Nat.reduceSub, Nat.reduceGT, Nat.reduceLT, hand, norms, normVs, normV, freeze, reduceIte, reduceCtorEq, srcCells, slCells, isStr, fillA, rep, Nat.reduceMul, Nat.reduceLeDiff, Int.reduceToNat, Int.reduceLE, Int.reduceLT, Int.reduceEq, Nat.reduceAdd, Int.reduceBNe, Int.reduceBEq, Int.reduceNeg]
      · simp only [K_check_Cap, q, h1, h2, resL, nv_agg, nv_nils, capR, pc, t2, AV.cells, AV.flat, List.cons_append, List.set_cons_succ, List.set_cons_zero, Nat.le_add_left, EVC, EVD, EVB, Nat.reduceEqDiff, eqOp, eqA, eqNil, lenA, asNat, optNat, pt, tupleOf, Nat.reduceSub, Nat.reduceGT, Nat.reduceLT, hand, norms, normVs, normV, freeze, reduceIte, reduceCtorEq, srcCells, slCells, isStr, fillA, rep, Nat.reduceMul, Nat.reduceLeDiff, Int.reduceToNat, Int.reduceLE, Int.reduceLT, Int.reduceEq, Nat.reduceAdd, Int.reduceBNe, Int.reduceBEq, Int.reduceNeg]
end Go.Ev

namespace Go.Ev
set_option maxRecDepth 100000
set_option linter.unusedSimpArgs false
variable {C : Ctx}
def snapX (s : SnapV) : AO := .cells [.int .i64 s.version, .int .i64 s.expires, .sl s.pins.length (s.pins.flatMap PinV.cs)] ⟨false, none⟩
theorem ref23_Pin_loop (s : SnapV) (hl : s.pins.length ≤ 1099511627776) (file : List UInt8) (σ : St) : ∀ (n i : Nat), i + n = s.pins.length →
    loopK C (semF C) 38 [2, 4, 6, 8] L_legateref23_Pin_0 [(2, .ref σ.length 0), (4, .ref (σ.length + 1) 0), (6, .str file), (8, .int .i64 i)] (σ ++ [snapX s, .cells zeroPin ⟨false, none⟩]) =
      match (s.pins.drop i).find? (fun p => decide (p.name = file)) with
      | none => some (.exit 0, [(4, .ref (σ.length + 1) 0)], σ ++ [snapX s, .cells zeroPin ⟨false, none⟩])
      | some p => some (.ret, [(4, .ref (σ.length + 1) 0), (5, .bool true)], σ ++ [snapX s, .cells p.cs ⟨false, none⟩])
  | 0, i, hi => by
    rw [loop_eq (he := rfl)]
    have h : ¬ ((i : Int) < (s.pins.length : Int)) := by omega
    have h' : s.pins.drop i = [] := List.drop_eq_nil_of_le (by omega)
    have fl := flat_len PinV.len s.pins
    simp only [L_legateref23_Pin_0, snapX, h, h', fl, List.find?_nil, lenA, EVC, EVD, EVB, Nat.reduceEqDiff, eqOp, eqA, eqNil, lenA, asNat, optNat, pt, tupleOf, Nat.reduceSub, Nat.reduceGT, Nat.reduceLT, hand, norms, normVs, normV, freeze, reduceIte, reduceCtorEq, srcCells, slCells, isStr, fillA, rep, Nat.reduceMul, Nat.reduceLeDiff, Int.reduceToNat, Int.reduceLE, Int.reduceLT, Int.reduceEq, Nat.reduceAdd, Int.reduceBNe, Int.reduceBEq, Int.reduceNeg]
  | n + 1, i, hi => by
    rw [loop_eq (he := rfl)]
    have h : ((i : Int) < (s.pins.length : Int)) := by omega
    have h2 : i < s.pins.length := by omega
    have hb : s.pins[i]? = some s.pins[i] := List.getElem?_eq_getElem h2
    have h' : s.pins.drop i = s.pins[i] :: s.pins.drop (i + 1) := List.drop_eq_getElem_cons h2
    have hw : IntKind.i64.wrap ((i : Int) + 1) = ((i + 1 : Nat) : Int) := by rw [w64] <;> omega
    have h3 : (0 : Int) ≤ i := by omega
    have fl := flat_len PinV.len s.pins
    have fd := flat_at PinV.len hb
    obtain ⟨p, hpe⟩ : ∃ p, p = s.pins[i] := ⟨_, rfl⟩
    rw [← hpe] at fd h'
    have pc : p.cs = [.str p.name, .int .i64 p.version, .int .i64 p.length, .sl p.hashes.length (p.hashes.flatMap HashV.cs)] := rfl
    have ih := ref23_Pin_loop s hl file σ n (i + 1) (by omega)
    rw [h', List.find?_cons]
    generalize hk : loopK C (semF C) 38 [2, 4, 6, 8] L_legateref23_Pin_0 = k at *
    cases hx : decide (p.name = file)
    · dsimp only
      rw [← ih]
      simp only [L_legateref23_Pin_0, snapX, h, h2, h3, hw, hx, fl, fd, pc, zeroPin, lenA, AV.cells, flat_sl, List.cons_append, List.set_cons_succ, List.set_cons_zero, Nat.le_add_left, EVC, EVD, EVB, Nat.reduceEqDiff, eqOp, eqA, eqNil, lenA, asNat, optNat, pt, tupleOf, Nat.reduceSub, Nat.reduceGT, Nat.reduceLT, hand, norms, normVs, normV, freeze, reduceIte, reduceCtorEq, srcCells, slCells, isStr, fillA, rep, Nat.reduceMul, Nat.reduceLeDiff, Int.reduceToNat, Int.reduceLE, Int.reduceLT, Int.reduceEq, Nat.reduceAdd, Int.reduceBNe, Int.reduceBEq, Int.reduceNeg]
    · dsimp only
      simp only [L_legateref23_Pin_0, snapX, h, h2, h3, hw, hx, fl, fd, pc, zeroPin, lenA, AV.cells, flat_sl, List.cons_append, List.set_cons_succ, List.set_cons_zero, Nat.le_add_left, EVC, EVD, EVB, Nat.reduceEqDiff, eqOp, eqA, eqNil, lenA, asNat, optNat, pt, tupleOf, Nat.reduceSub, Nat.reduceGT, Nat.reduceLT, hand, norms, normVs, normV, freeze, reduceIte, reduceCtorEq, srcCells, slCells, isStr, fillA, rep, Nat.reduceMul, Nat.reduceLeDiff, Int.reduceToNat, Int.reduceLE, Int.reduceLT, Int.reduceEq, Nat.reduceAdd, Int.reduceBNe, Int.reduceBEq, Int.reduceNeg]
structure RefHas (C : Ctx) : Prop where
  part : Has C f_legateref13_part K_legateref13_part
  role : Has C f_legateref13_Role K_legateref13_Role
  file : Has C f_legateref13_File K_legateref13_File
  pin : Has C f_legateref23_Pin K_legateref23_Pin
  cap : Has C f_legateref27_Cap K_legateref27_Cap
theorem ref23_Pin (h : RefHas C) (s : SnapV) (hs : SnapSmall s) (r : List UInt8) (σ : St) (hσ : Ok σ) : semF C f_legateref23_Pin [snapA s, .str r] σ = some (pinR (findPin s r), σ) := by
  rw [h.pin.go (NVs.hand (.cons (snap_nv s) (.cons (.str _) .nil)) _) (by simp [K_legateref23_Pin])]
  unfold findPin snapA
  have ty := fun (vs : List AV) (hv : belows 0 vs = true) (L : St) => st_tidy hσ hv L
  cases hr : role r
  · have fa : fileA r = .tup [.str [], .int .i64 3] := by simp [fileA, hr]
    have t1 := ty [.agg zeroPin', .bool false] rfl
    unfold zeroPin' at t1
    simp only [K_legateref23_Pin, ref13_File h.file h.role h.part, fa, hr, resL, nv_agg, nv_nils, pinR, zeroPin', t1, AV.cells, AV.flat, List.cons_append, List.set_cons_succ, List.set_cons_zero, Nat.le_add_left, EVC, EVD, EVB, Nat.reduceEqDiff, eqOp, eqA, eqNil, lenA, asNat, optNat, pt, tupleOf, Nat.reduceSub, Nat.reduceGT, Nat.reduceLT, hand, norms, normVs, normV, freeze, reduceIte, reduceCtorEq, srcCells, slCells, isStr, fillA, rep, Nat.reduceMul, Nat.reduceLeDiff, Int.reduceToNat, Int.reduceLE, Int.reduceLT, Int.reduceEq, Nat.reduceAdd, Int.reduceBNe, Int.reduceBEq, Int.reduceNeg]
  · have fa : fileA r = .tup [.str (r ++ jsonB), .int .i64 0] := by simp [fileA, hr]
    have lp := ref23_Pin_loop (C := C) s hs.pins (r ++ jsonB) σ s.pins.length 0 (by omega)
    rw [List.drop_zero] at lp
    simp only [Int.natCast_zero, Int.cast_ofNat_Int, zeroPin, snapX] at lp
    rw [if_pos rfl]
    cases hf : s.pins.find? (fun p => decide (p.name = r ++ jsonB)) with
    | none =>
      rw [hf] at lp
      have t1 := ty [.agg zeroPin', .bool false] rfl
      unfold zeroPin' at t1
      simp only [K_legateref23_Pin, ref13_File h.file h.role h.part, fa, lp, resL, nv_agg, nv_nils, pinR, zeroPin', t1, AV.cells, AV.flat, List.cons_append, List.set_cons_succ, List.set_cons_zero, Nat.le_add_left, EVC, EVD, EVB, Nat.reduceEqDiff, eqOp, eqA, eqNil, lenA, asNat, optNat, pt, tupleOf, Nat.reduceSub, Nat.reduceGT, Nat.reduceLT, hand, norms, normVs, normV, freeze, reduceIte, reduceCtorEq, srcCells, slCells, isStr, fillA, rep, Nat.reduceMul, Nat.reduceLeDiff, Int.reduceToNat, Int.reduceLE, Int.reduceLT, Int.reduceEq, Nat.reduceAdd, Int.reduceBNe, Int.reduceBEq, Int.reduceNeg]
    | some p =>
      rw [hf] at lp
      have pc : p.cs = [.str p.name, .int .i64 p.version, .int .i64 p.length, .sl p.hashes.length (p.hashes.flatMap HashV.cs)] := rfl
      have t1 := ty [.agg p.cs, .bool true] (by simp only [belows, below, PinV.below]; rfl)
      rw [pc] at t1
      simp only [K_legateref23_Pin, ref13_File h.file h.role h.part, fa, lp, resL, nv_agg, nv_nils, pinR, pc, t1, AV.cells, AV.flat, List.cons_append, List.set_cons_succ, List.set_cons_zero, Nat.le_add_left, EVC, EVD, EVB, Nat.reduceEqDiff, eqOp, eqA, eqNil, lenA, asNat, optNat, pt, tupleOf, Nat.reduceSub, Nat.reduceGT, Nat.reduceLT, hand, norms, normVs, normV, freeze, reduceIte, reduceCtorEq, srcCells, slCells, isStr, fillA, rep, Nat.reduceMul, Nat.reduceLeDiff, Int.reduceToNat, Int.reduceLE, Int.reduceLT, Int.reduceEq, Nat.reduceAdd, Int.reduceBNe, Int.reduceBEq, Int.reduceNeg]
end Go.Ev

namespace Go.Ev
set_option maxRecDepth 100000
set_option linter.unusedSimpArgs false
variable {C : Ctx}
theorem ref27_Cap (h : RefHas C) (s : SnapV) (hs : SnapSmall s) (r : List UInt8) (most : Int) (σ : St) (hσ : Ok σ) : semF C f_legateref27_Cap [snapA s, .str r, .int .i64 most] σ = some (capR (findPin s r) most, σ) := by
  rw [h.cap.go (NVs.hand (.cons (snap_nv s) (.cons (.str _) (.cons (.int _ _) .nil))) _) (by simp [K_legateref27_Cap])]
  have ok1 := snap_ok hσ [.int .i64 s.version, .int .i64 s.expires, .sl s.pins.length (s.pins.flatMap PinV.cs)] zeroPin (by have := (snap_nv s).cl; unfold snapA at this; rw [below] at this; exact this) rfl ⟨false, none⟩ ⟨false, none⟩
  have q := ref23_Pin h s hs r _ ok1
  have ty := fun (vs : List AV) (hv : belows 0 vs = true) (L : St) => st_tidy hσ hv L
  unfold snapA zeroPin at *
  have t1 := fun a b => ty [.agg zeroPin', .int .i64 a, .int .u8 b] rfl
  unfold zeroPin' at t1
  cases hf : findPin s r with
  | none =>
    rw [hf] at q
    unfold pinR zeroPin' at q
    dsimp only at q
    simp only [K_legateref27_Cap, q, resL, nv_agg, nv_nils, capR, zeroPin', t1, AV.cells, AV.flat, List.cons_append, List.set_cons_succ, List.set_cons_zero, Nat.le_add_left, EVC, EVD, EVB, Nat.reduceEqDiff, eqOp, eqA, eqNil, lenA, asNat, optNat, pt, tupleOf, Nat.reduceSub, Nat.reduceGT, Nat.reduceLT, hand, norms, normVs, normV, freeze, reduceIte, reduceCtorEq, srcCells, slCells, isStr, fillA, rep, Nat.reduceMul, Nat.reduceLeDiff, Int.reduceToNat, Int.reduceLE, Int.reduceLT, Int.reduceEq, Nat.reduceAdd, Int.reduceBNe, Int.reduceBEq, Int.reduceNeg]
  | some p =>
    rw [hf] at q
    have pc : p.cs = [.str p.name, .int .i64 p.version, .int .i64 p.length, .sl p.hashes.length (p.hashes.flatMap HashV.cs)] := rfl
    unfold pinR at q
    dsimp only at q
    rw [pc] at q
    have t2 := fun a b => ty [.agg p.cs, .int .i64 a, .int .u8 b] (by simp only [belows, below, PinV.below]; rfl)
    rw [pc] at t2
    by_cases h1 : p.length < 0
    · simp only [K_legateref27_Cap, q, h1, resL, nv_agg, nv_nils, capR, pc, t2, AV.cells, AV.flat, List.cons_append, List.set_cons_succ, List.set_cons_zero, Nat.le_add_left, EVC, EVD, EVB, Nat.reduceEqDiff, eqOp, eqA, eqNil, lenA, asNat, optNat, pt, tupleOf, Nat.reduceSub, Nat.reduceGT, Nat.reduceLT, hand, norms, normVs, normV, freeze, reduceIte, reduceCtorEq, srcCells, slCells, isStr, fillA, rep, Nat.reduceMul, Nat.reduceLeDiff, Int.reduceToNat, Int.reduceLE, Int.reduceLT, Int.reduceEq, Nat.reduceAdd, Int.reduceBNe, Int.reduceBEq, Int.reduceNeg]
    · by_cases h2 : most < p.length
      · simp only [K_legateref27_Cap, q, h1, h2, resL, nv_agg, nv_nils, capR, zeroPin', t1, pc, t2, AV.cells, AV.flat, List.cons_append, List.set_cons_succ, List.set_cons_zero, Nat.le_add_left, EVC, EVD, EVB, Nat.reduceEqDiff, eqOp, eqA, eqNil, lenA, asNat, optNat, pt, tupleOf, Nat.reduceSub, Nat.reduceGT, Nat.reduceLT, hand, norms, normVs, normV, freeze, reduceIte, reduceCtorEq, srcCells, slCells, isStr, fillA, rep, Nat.reduceMul, Nat.reduceLeDiff, Int.reduceToNat, Int.reduceLE, Int.reduceLT, Int.reduceEq, Nat.reduceAdd, Int.reduceBNe, Int.reduceBEq, Int.reduceNeg]
      · simp only [K_legateref27_Cap, q, h1, h2, resL, nv_agg, nv_nils, capR, pc, t2, AV.cells, AV.flat, List.cons_append, List.set_cons_succ, List.set_cons_zero, Nat.le_add_left, EVC, EVD, EVB, Nat.reduceEqDiff, eqOp, eqA, eqNil, lenA, asNat, optNat, pt, tupleOf, Nat.reduceSub, Nat.reduceGT, Nat.reduceLT, hand, norms, normVs, normV, freeze, reduceIte, reduceCtorEq, srcCells, slCells, isStr, fillA, rep, Nat.reduceMul, Nat.reduceLeDiff, Int.reduceToNat, Int.reduceLE, Int.reduceLT, Int.reduceEq, Nat.reduceAdd, Int.reduceBNe, Int.reduceBEq, Int.reduceNeg]
end Go.Ev

namespace Go.Ev
set_option maxRecDepth 100000
set_option linter.unusedSimpArgs false
variable {C : Ctx}
theorem ref21_SameHashes_loop (l : List HashV) (hl : l.length ≤ 1099511627776) (σ : St) : ∀ (n i : Nat), i + n = l.length →
    loopK C (semF C) 41 [0, 1, 5] L_legateref21_SameHashes_0 [(0, .sl l.length (l.flatMap HashV.cs)), (1, .sl l.length (l.flatMap HashV.cs)), (5, .int .i64 i)] σ = some (.exit 0, [], σ)
  | 0, i, hi => by
    rw [loop_eq (he := rfl)]
    have h : ¬ ((i : Int) < (l.length : Int)) := by omega
    have fl := flat_len HashV.len l
    simp only [L_legateref21_SameHashes_0, h, fl, lenA, EVC, EVD, EVB, Nat.reduceEqDiff, eqOp, eqA, eqNil, lenA, asNat, optNat, pt, tupleOf, Nat.reduceSub, Nat.reduceGT, Nat.reduceLT, hand, norms, normVs, normV, freeze, reduceIte, reduceCtorEq, srcCells, slCells, isStr, fillA, rep, Nat.reduceMul, Nat.reduceLeDiff, Int.reduceToNat, Int.reduceLE, Int.reduceLT, Int.reduceEq, Nat.reduceAdd, Int.reduceBNe, Int.reduceBEq, Int.reduceNeg]
  | n + 1, i, hi => by
    rw [loop_eq (he := rfl)]
    have h : ((i : Int) < (l.length : Int)) := by omega
    have h2 : i < l.length := by omega
    have hb : l[i]? = some l[i] := List.getElem?_eq_getElem h2
    have hw : IntKind.i64.wrap ((i : Int) + 1) = ((i + 1 : Nat) : Int) := by rw [w64] <;> omega
    have h3 : (0 : Int) ≤ i := by omega
    have fl := flat_len HashV.len l
    have fd := flat_at HashV.len hb
    obtain ⟨p, hpe⟩ : ∃ p, p = l[i] := ⟨_, rfl⟩
    rw [← hpe] at fd
    have pc : p.cs = [.str p.alg, .str p.hex] := rfl
    have ih := ref21_SameHashes_loop l hl σ n (i + 1) (by omega)
    generalize hk : loopK C (semF C) 41 [0, 1, 5] L_legateref21_SameHashes_0 = k at *
    simp only [L_legateref21_SameHashes_0, h, h2, h3, hw, fl, fd, pc, lenA, ih, AV.cells, flat_sl, List.cons_append, Nat.le_add_left, EVC, EVD, EVB, Nat.reduceEqDiff, eqOp, eqA, eqNil, lenA, asNat, optNat, pt, tupleOf, Nat.reduceSub, Nat.reduceGT, Nat.reduceLT, hand, norms, normVs, normV, freeze, reduceIte, reduceCtorEq, srcCells, slCells, isStr, fillA, rep, Nat.reduceMul, Nat.reduceLeDiff, Int.reduceToNat, Int.reduceLE, Int.reduceLT, Int.reduceEq, Nat.reduceAdd, Int.reduceBNe, Int.reduceBEq, Int.reduceNeg]
theorem ref21_SameHashes (hC : Has C f_legateref21_SameHashes K_legateref21_SameHashes) (l : List HashV) (hl : l.length ≤ 1099511627776) (σ : St) : semF C f_legateref21_SameHashes [.sl l.length (l.flatMap HashV.cs), .sl l.length (l.flatMap HashV.cs)] σ = some (.bool true, σ) := by
  change semF C f_legateref21_SameHashes [hashesA l, hashesA l] σ = _
  rw [hC.go (NVs.hand (.cons (hashes_nv l) (.cons (hashes_nv l) .nil)) _) (by simp [K_legateref21_SameHashes])]
  have lp := ref21_SameHashes_loop (C := C) l hl σ l.length 0 (by omega)
  simp only [Int.natCast_zero, Int.cast_ofNat_Int] at lp
  have fl := flat_len HashV.len l
  unfold hashesA
  simp only [K_legateref21_SameHashes, lp, fl, lenA, EVC, EVD, EVB, Nat.reduceEqDiff, eqOp, eqA, eqNil, lenA, asNat, optNat, pt, tupleOf, Nat.reduceSub, Nat.reduceGT, Nat.reduceLT, hand, norms, normVs, normV, freeze, reduceIte, reduceCtorEq, srcCells, slCells, isStr, fillA, rep, Nat.reduceMul, Nat.reduceLeDiff, Int.reduceToNat, Int.reduceLE, Int.reduceLT, Int.reduceEq, Nat.reduceAdd, Int.reduceBNe, Int.reduceBEq, Int.reduceNeg]
theorem ref23_SamePin (hC : Has C f_legateref23_SamePin K_legateref23_SamePin) (hh : Has C f_legateref21_SameHashes K_legateref21_SameHashes) (p : PinV) (hl : p.hashes.length ≤ 1099511627776) (σ : St) (hσ : Ok σ) : semF C f_legateref23_SamePin [.agg p.cs, .agg p.cs] σ = some (.bool true, σ) := by
  have np : NV (.agg p.cs) := .agg (.cons (.str _) (.cons (.int _ _) (.cons (.int _ _) (.cons (hashes_nv _) .nil))))
  rw [hC.go (NVs.hand (.cons np (.cons np .nil)) _) (by simp [K_legateref23_SamePin])]
  have pc : p.cs = [.str p.name, .int .i64 p.version, .int .i64 p.length, .sl p.hashes.length (p.hashes.flatMap HashV.cs)] := rfl
  have ty := st_tidy hσ (vs := [.bool true]) rfl
  simp only [K_legateref23_SamePin, pc, ref21_SameHashes hh p.hashes hl, ty, AV.cells, flat_sl, List.cons_append, Nat.le_add_left, EVC, EVD, EVB, Nat.reduceEqDiff, eqOp, eqA, eqNil, lenA, asNat, optNat, pt, tupleOf, Nat.reduceSub, Nat.reduceGT, Nat.reduceLT, hand, norms, normVs, normV, freeze, reduceIte, reduceCtorEq, srcCells, slCells, isStr, fillA, rep, Nat.reduceMul, Nat.reduceLeDiff, Int.reduceToNat, Int.reduceLE, Int.reduceLT, Int.reduceEq, Nat.reduceAdd, Int.reduceBNe, Int.reduceBEq, Int.reduceNeg]
end Go.Ev

namespace Go.Ev
set_option maxRecDepth 100000
set_option linter.unusedSimpArgs false
variable {C : Ctx}
def lhN : List HashV → Nat → Nat
  | [], n => n
  | h :: l, n => if n < 5000 then lhN l (n + 10 + min 5000 h.alg.length + min 5000 h.hex.length) else n
theorem lhN_ge : ∀ (l : List HashV) (n : Nat), n ≤ lhN l n
  | [], n => Nat.le_refl _
  | h :: l, n => by
    unfold lhN
    split
    · exact Nat.le_trans (by omega) (lhN_ge l _)
    · exact Nat.le_refl _
theorem lhN_len : ∀ (l : List HashV) (n : Nat), lhN l n < 5000 → n + 10 * l.length ≤ lhN l n
  | [], n, _ => by simp [lhN]
  | h :: l, n, hl => by
    unfold lhN at *
    split at hl
    · rename_i hn
      rw [if_pos hn]
      have := lhN_len l _ hl
      simp only [List.length_cons]
      omega
    · omega
theorem law21_LongHashes_loop (l : List HashV) (σ : St) : ∀ (n i acc : Nat), i + n = l.length → acc ≤ 15010 → (acc < 5000 → 10 * i ≤ acc) →
    loopK C (semF C) 35 [0, 3, 4] L_legatelaw21_LongHashes_0 [(0, .sl l.length (l.flatMap HashV.cs)), (3, .int .i64 acc), (4, .int .i64 i)] σ = some (.exit 0, [(3, .int .i64 (lhN (l.drop i) acc : Nat))], σ)
  | 0, i, acc, hi, ha, hb => by
    rw [loop_eq (he := rfl)]
    have h : ¬ ((i : Int) < (l.length : Int)) := by omega
    have h' : l.drop i = [] := List.drop_eq_nil_of_le (by omega)
    have fl := flat_len HashV.len l
    simp only [L_legatelaw21_LongHashes_0, h, h', fl, lhN, lenA, EVC, EVD, EVB, Nat.reduceEqDiff, eqOp, eqA, eqNil, lenA, asNat, optNat, pt, tupleOf, Nat.reduceSub, Nat.reduceGT, Nat.reduceLT, hand, norms, normVs, normV, freeze, reduceIte, reduceCtorEq, srcCells, slCells, isStr, fillA, rep, Nat.reduceMul, Nat.reduceLeDiff, Int.reduceToNat, Int.reduceLE, Int.reduceLT, Int.reduceEq, Nat.reduceAdd, Int.reduceBNe, Int.reduceBEq, Int.reduceNeg]
  | n + 1, i, acc, hi, ha, hbb => by
    rw [loop_eq (he := rfl)]
    have h : ((i : Int) < (l.length : Int)) := by omega
    have h2 : i < l.length := by omega
    have hb : l[i]? = some l[i] := List.getElem?_eq_getElem h2
    have h' : l.drop i = l[i] :: l.drop (i + 1) := List.drop_eq_getElem_cons h2
    have h3 : (0 : Int) ≤ i := by omega
    have fl := flat_len HashV.len l
    have fd := flat_at HashV.len hb
    obtain ⟨p, hpe⟩ : ∃ p, p = l[i] := ⟨_, rfl⟩
    rw [← hpe] at fd h'
    have pc : p.cs = [.str p.alg, .str p.hex] := rfl
    rw [h', lhN]
    by_cases hc : acc < 5000
    · have hc' : ((acc : Int) < 5000) := by omega
      have hw : IntKind.i64.wrap ((i : Int) + 1) = ((i + 1 : Nat) : Int) := by rw [w64] <;> omega
      have w1 : IntKind.i64.wrap ((acc : Int) + 10) = ((acc + 10 : Nat) : Int) := by rw [w64] <;> omega
      have w2 : IntKind.i64.wrap (((acc + 10 : Nat) : Int) + ((min 5000 p.alg.length : Nat) : Int)) = ((acc + 10 + min 5000 p.alg.length : Nat) : Int) := by rw [w64] <;> omega
      have w3 : IntKind.i64.wrap (((acc + 10 + min 5000 p.alg.length : Nat) : Int) + ((min 5000 p.hex.length : Nat) : Int)) = ((acc + 10 + min 5000 p.alg.length + min 5000 p.hex.length : Nat) : Int) := by rw [w64] <;> omega
      have ih := law21_LongHashes_loop l σ n (i + 1) (acc + 10 + min 5000 p.alg.length + min 5000 p.hex.length) (by omega) (by omega) (by omega)
      rw [if_pos hc, ← ih]
      generalize hk : loopK C (semF C) 35 [0, 3, 4] L_legatelaw21_LongHashes_0 = k at *
      simp only [L_legatelaw21_LongHashes_0, h, h2, h3, hc', hw, w1, w2, w3, min_wrap, fl, fd, pc, lenA, AV.cells, flat_sl, List.cons_append, Nat.le_add_left, EVC, EVD, EVB, Nat.reduceEqDiff, eqOp, eqA, eqNil, lenA, asNat, optNat, pt, tupleOf, Nat.reduceSub, Nat.reduceGT, Nat.reduceLT, hand, norms, normVs, normV, freeze, reduceIte, reduceCtorEq, srcCells, slCells, isStr, fillA, rep, Nat.reduceMul, Nat.reduceLeDiff, Int.reduceToNat, Int.reduceLE, Int.reduceLT, Int.reduceEq, Nat.reduceAdd, Int.reduceBNe, Int.reduceBEq, Int.reduceNeg]
    · have hc' : ¬ ((acc : Int) < 5000) := by omega
      rw [if_neg hc]
      simp only [L_legatelaw21_LongHashes_0, h, hc', fl, lenA, EVC, EVD, EVB, Nat.reduceEqDiff, eqOp, eqA, eqNil, lenA, asNat, optNat, pt, tupleOf, Nat.reduceSub, Nat.reduceGT, Nat.reduceLT, hand, norms, normVs, normV, freeze, reduceIte, reduceCtorEq, srcCells, slCells, isStr, fillA, rep, Nat.reduceMul, Nat.reduceLeDiff, Int.reduceToNat, Int.reduceLE, Int.reduceLT, Int.reduceEq, Nat.reduceAdd, Int.reduceBNe, Int.reduceBEq, Int.reduceNeg]
def longH (l : List HashV) : Bool := decide (5000 ≤ lhN l 0)
theorem law21_LongHashes (hC : Has C f_legatelaw21_LongHashes K_legatelaw21_LongHashes) (l : List HashV) (σ : St) : semF C f_legatelaw21_LongHashes [.sl l.length (l.flatMap HashV.cs)] σ = some (.bool (longH l), σ) := by
  change semF C f_legatelaw21_LongHashes [hashesA l] σ = _
  rw [hC.go (NVs.hand (.cons (hashes_nv l) .nil) _) (by simp [K_legatelaw21_LongHashes])]
  have lp := law21_LongHashes_loop (C := C) l σ l.length 0 0 (by omega) (by omega) (by omega)
  simp only [Int.natCast_zero, Int.cast_ofNat_Int, List.drop_zero] at lp
  have e : decide ((5000 : Int) ≤ (lhN l 0 : Int)) = longH l := by unfold longH; rw [Bool.eq_iff_iff]; simp; omega
  unfold hashesA
  simp only [K_legatelaw21_LongHashes, lp, e, lenA, EVC, EVD, EVB, Nat.reduceEqDiff, eqOp, eqA, eqNil, lenA, asNat, optNat, pt, tupleOf, Nat.reduceSub, Nat.reduceGT, Nat.reduceLT, hand, norms, normVs, normV, freeze, reduceIte, reduceCtorEq, srcCells, slCells, isStr, fillA, rep, Nat.reduceMul, Nat.reduceLeDiff, Int.reduceToNat, Int.reduceLE, Int.reduceLT, Int.reduceEq, Nat.reduceAdd, Int.reduceBNe, Int.reduceBEq, Int.reduceNeg]
def longP (p : PinV) : Bool := decide (1000 < p.name.length) || longH p.hashes
theorem pin_nv (p : PinV) : NV (.agg p.cs) := .agg (.cons (.str _) (.cons (.int _ _) (.cons (.int _ _) (.cons (hashes_nv _) .nil))))
theorem law23_LongPin (hC : Has C f_legatelaw23_LongPin K_legatelaw23_LongPin) (hh : Has C f_legatelaw21_LongHashes K_legatelaw21_LongHashes) (p : PinV) (σ : St) (hσ : Ok σ) : semF C f_legatelaw23_LongPin [.agg p.cs] σ = some (.bool (longP p), σ) := by
  rw [hC.go (NVs.hand (.cons (pin_nv p) .nil) _) (by simp [K_legatelaw23_LongPin])]
  have pc : p.cs = [.str p.name, .int .i64 p.version, .int .i64 p.length, .sl p.hashes.length (p.hashes.flatMap HashV.cs)] := rfl
  have ty := fun b => st_tidy hσ (vs := [.bool b]) rfl
  unfold longP
  by_cases h : 1000 < p.name.length
  · have h' : (1000 : Int) < (p.name.length : Int) := by omega
    simp only [K_legatelaw23_LongPin, pc, h, h', law21_LongHashes hh p.hashes, ty, Bool.true_or, AV.cells, flat_sl, List.cons_append, Nat.le_add_left, EVC, EVD, EVB, Nat.reduceEqDiff, eqOp, eqA, eqNil, lenA, asNat, optNat, pt, tupleOf, Nat.reduceSub, Nat.reduceGT, Nat.reduceLT, hand, norms, normVs, normV, freeze, reduceIte, reduceCtorEq, srcCells, slCells, isStr, fillA, rep, Nat.reduceMul, Nat.reduceLeDiff, Int.reduceToNat, Int.reduceLE, Int.reduceLT, Int.reduceEq, Nat.reduceAdd, Int.reduceBNe, Int.reduceBEq, Int.reduceNeg]
  · have h' : ¬ (1000 : Int) < (p.name.length : Int) := by omega
    simp only [K_legatelaw23_LongPin, pc, h, h', law21_LongHashes hh p.hashes, ty, Bool.false_or, AV.cells, flat_sl, List.cons_append, Nat.le_add_left, EVC, EVD, EVB, Nat.reduceEqDiff, eqOp, eqA, eqNil, lenA, asNat, optNat, pt, tupleOf, Nat.reduceSub, Nat.reduceGT, Nat.reduceLT, hand, norms, normVs, normV, freeze, reduceIte, reduceCtorEq, srcCells, slCells, isStr, fillA, rep, Nat.reduceMul, Nat.reduceLeDiff, Int.reduceToNat, Int.reduceLE, Int.reduceLT, Int.reduceEq, Nat.reduceAdd, Int.reduceBNe, Int.reduceBEq, Int.reduceNeg]
end Go.Ev

namespace Go.Ev
set_option maxRecDepth 100000
set_option linter.unusedSimpArgs false
variable {C : Ctx}
def longFrom : List PinV → Nat → Bool
  | [], _ => false
  | p :: l, n => if 600 < n + 1 then true else longP p || longFrom l (n + 1)
structure LongHas (C : Ctx) : Prop where
  hashes : Has C f_legatelaw21_LongHashes K_legatelaw21_LongHashes
  pin : Has C f_legatelaw23_LongPin K_legatelaw23_LongPin
  long : Has C f_legatelaw23_Long K_legatelaw23_Long
def snapC (s : SnapV) : List AV := [.int .i64 s.version, .int .i64 s.expires, .sl s.pins.length (s.pins.flatMap PinV.cs)]
theorem law23_Long_loop0 (h : LongHas C) (s : SnapV) (σ : St) (hσ : Ok σ) : ∀ (n i : Nat), i + n = s.pins.length → i ≤ 600 → ∃ k,
    loopK C (semF C) 37 [0, 3, 4, 5] L_legatelaw23_Long_0 [(0, .sl 1 (snapC s)), (3, .int .i64 i), (4, .int .i64 0), (5, .int .i64 i)] σ =
      if longFrom (s.pins.drop i) i then some (.ret, [(2, .bool true)], σ) else some (.exit 2, [(0, .sl 1 (snapC s)), (3, .int .i64 k), (4, .int .i64 0)], σ)
  | 0, i, hi, _ => by
    rw [loop_eq (he := rfl)]
    have h1 : ¬ ((i : Int) < (s.pins.length : Int)) := by omega
    have h' : s.pins.drop i = [] := List.drop_eq_nil_of_le (by omega)
    have fl := flat_len PinV.len s.pins
    refine ⟨i, ?_⟩
    simp only [L_legatelaw23_Long_0, snapC, h1, h', longFrom, fl, lenA, Nat.le_add_left, EVC, EVD, EVB, Nat.reduceEqDiff, eqOp, eqA, eqNil, lenA, asNat, optNat, pt, tupleOf, Nat.reduceSub, Nat.reduceGT, Nat.reduceLT, hand, norms, normVs, normV, freeze, reduceIte, reduceCtorEq, srcCells, slCells, isStr, fillA, rep, Nat.reduceMul, Nat.reduceLeDiff, Int.reduceToNat, Int.reduceLE, Int.reduceLT, Int.reduceEq, Nat.reduceAdd, Int.reduceBNe, Int.reduceBEq, Int.reduceNeg]
  | n + 1, i, hi, h6 => by
    rw [loop_eq (he := rfl)]
    have h1 : ((i : Int) < (s.pins.length : Int)) := by omega
    have h2 : i < s.pins.length := by omega
    have hb : s.pins[i]? = some s.pins[i] := List.getElem?_eq_getElem h2
    have h' : s.pins.drop i = s.pins[i] :: s.pins.drop (i + 1) := List.drop_eq_getElem_cons h2
    have h3 : (0 : Int) ≤ i := by omega
    have hw : IntKind.i64.wrap ((i : Int) + 1) = ((i + 1 : Nat) : Int) := by rw [w64] <;> omega
    have fl := flat_len PinV.len s.pins
    have fd := flat_at PinV.len hb
    obtain ⟨p, hpe⟩ : ∃ p, p = s.pins[i] := ⟨_, rfl⟩
    rw [← hpe] at fd h'
    have q := law23_LongPin h.pin h.hashes p σ hσ
    have pc : p.cs = [.str p.name, .int .i64 p.version, .int .i64 p.length, .sl p.hashes.length (p.hashes.flatMap HashV.cs)] := rfl
    rw [pc] at q
    rw [h', longFrom]
    by_cases hc : 600 < i + 1
    · have hc' : (600 : Int) < ((i + 1 : Nat) : Int) := by omega
      refine ⟨0, ?_⟩
      rw [if_pos hc]
      generalize hk : loopK C (semF C) 37 [0, 3, 4, 5] L_legatelaw23_Long_0 = k at *
      simp only [L_legatelaw23_Long_0, snapC, h1, h2, h3, hc', hw, fl, fd, pc, lenA, AV.cells, flat_sl, List.cons_append, Nat.le_add_left, EVC, EVD, EVB, Nat.reduceEqDiff, eqOp, eqA, eqNil, lenA, asNat, optNat, pt, tupleOf, Nat.reduceSub, Nat.reduceGT, Nat.reduceLT, hand, norms, normVs, normV, freeze, reduceIte, reduceCtorEq, srcCells, slCells, isStr, fillA, rep, Nat.reduceMul, Nat.reduceLeDiff, Int.reduceToNat, Int.reduceLE, Int.reduceLT, Int.reduceEq, Nat.reduceAdd, Int.reduceBNe, Int.reduceBEq, Int.reduceNeg]
    · have hc' : ¬ (600 : Int) < ((i + 1 : Nat) : Int) := by omega
      rw [if_neg hc]
      obtain ⟨k0, ih⟩ := law23_Long_loop0 h s σ hσ n (i + 1) (by omega) (by omega)
      refine ⟨k0, ?_⟩
      cases hl : longP p
      · rw [Bool.false_or, ← ih]
        generalize hk : loopK C (semF C) 37 [0, 3, 4, 5] L_legatelaw23_Long_0 = k at *
        simp only [L_legatelaw23_Long_0, snapC, h1, h2, h3, hc', hw, q, hl, fl, fd, pc, lenA, AV.cells, flat_sl, List.cons_append, Nat.le_add_left, EVC, EVD, EVB, Nat.reduceEqDiff, eqOp, eqA, eqNil, lenA, asNat, optNat, pt, tupleOf, Nat.reduceSub, Nat.reduceGT, Nat.reduceLT, hand, norms, normVs, normV, freeze, reduceIte, reduceCtorEq, srcCells, slCells, isStr, fillA, rep, Nat.reduceMul, Nat.reduceLeDiff, Int.reduceToNat, Int.reduceLE, Int.reduceLT, Int.reduceEq, Nat.reduceAdd, Int.reduceBNe, Int.reduceBEq, Int.reduceNeg]
      · rw [Bool.true_or]
        generalize hk : loopK C (semF C) 37 [0, 3, 4, 5] L_legatelaw23_Long_0 = k at *
        simp only [L_legatelaw23_Long_0, snapC, h1, h2, h3, hc', hw, q, hl, fl, fd, pc, lenA, AV.cells, flat_sl, List.cons_append, Nat.le_add_left, EVC, EVD, EVB, Nat.reduceEqDiff, eqOp, eqA, eqNil, lenA, asNat, optNat, pt, tupleOf, Nat.reduceSub, Nat.reduceGT, Nat.reduceLT, hand, norms, normVs, normV, freeze, reduceIte, reduceCtorEq, srcCells, slCells, isStr, fillA, rep, Nat.reduceMul, Nat.reduceLeDiff, Int.reduceToNat, Int.reduceLE, Int.reduceLT, Int.reduceEq, Nat.reduceAdd, Int.reduceBNe, Int.reduceBEq, Int.reduceNeg]
theorem snapC_below (s : SnapV) : belows 0 (snapC s) = true := by
  have := (snap_nv s).cl
  unfold snapA at this
  rw [below] at this
  exact this
theorem law23_Long (h : LongHas C) (s : SnapV) (σ : St) (hσ : Ok σ) : semF C f_legatelaw23_Long [.xsl 1 (snapC s)] σ = some (.bool (longFrom s.pins 0), σ) := by
  have hn : hand false [.xsl 1 (snapC s)] σ = some ([.sl 1 (snapC s)], σ) := by
    have ns : NVs (snapC s) := .cons (.int _ _) (.cons (.int _ _) (.cons (pins_nv s.pins) .nil))
    show (match norms σ 12 [.xsl 1 (snapC s)] with | some (l, fs) => some (l, freeze σ fs) | none => none) = _
    have : normV σ (norms σ 11) (.xsl 1 (snapC s)) = some (.sl 1 (snapC s), []) := by
      show (match normVs σ (norms σ 11) (snapC s) with | some (l, fs) => some (AV.sl 1 l, fs) | none => none) = _
      rw [ns.nf]
    rw [show norms σ 12 [.xsl 1 (snapC s)] = (match normV σ (norms σ 11) (.xsl 1 (snapC s)), normVs σ (norms σ 11) [] with | some (v, fs), some (l, gs) => some (v :: l, fs ++ gs) | _, _ => none) from rfl, this]
    rfl
  rw [h.long.go hn (by simp [K_legatelaw23_Long])]
  obtain ⟨k, lp⟩ := law23_Long_loop0 h s σ hσ s.pins.length 0 (by omega) (by omega)
  simp only [Int.natCast_zero, Int.cast_ofNat_Int, List.drop_zero] at lp
  have h1 : ¬ ((1 : Int) < 1) := by omega
  have l3 : (snapC s).length = 3 := rfl
  have lp1 : loopK C (semF C) 37 [0, 3, 4] L_legatelaw23_Long_1 [(0, .sl 1 (snapC s)), (3, .int .i64 0), (4, .int .i64 0)] σ = if longFrom s.pins 0 then some (.ret, [(2, .bool true)], σ) else some (.exit 0, [], σ) := by
    rw [loop_eq (he := rfl)]
    have hw : IntKind.i64.wrap ((0 : Int) + 1) = 1 := by rw [w64] <;> omega
    cases hl : longFrom s.pins 0
    · rw [hl] at lp
      have : loopK C (semF C) 37 [0, 3, 4] L_legatelaw23_Long_1 [(0, .sl 1 (snapC s)), (3, .int .i64 k), (4, .int .i64 1)] σ = some (.exit 0, [], σ) := by
        rw [loop_eq (he := rfl)]
        simp only [L_legatelaw23_Long_1, l3, lenA, EVC, EVD, EVB, Nat.reduceEqDiff, eqOp, eqA, eqNil, lenA, asNat, optNat, pt, tupleOf, Nat.reduceSub, Nat.reduceGT, Nat.reduceLT, hand, norms, normVs, normV, freeze, reduceIte, reduceCtorEq, srcCells, slCells, isStr, fillA, rep, Nat.reduceMul, Nat.reduceLeDiff, Int.reduceToNat, Int.reduceLE, Int.reduceLT, Int.reduceEq, Nat.reduceAdd, Int.reduceBNe, Int.reduceBEq, Int.reduceNeg]
      generalize hk : loopK C (semF C) 37 [0, 3, 4] L_legatelaw23_Long_1 = kk at *
      simp only [L_legatelaw23_Long_1, lp, this, hw, l3, lenA, EVC, EVD, EVB, Nat.reduceEqDiff, eqOp, eqA, eqNil, lenA, asNat, optNat, pt, tupleOf, Nat.reduceSub, Nat.reduceGT, Nat.reduceLT, hand, norms, normVs, normV, freeze, reduceIte, reduceCtorEq, srcCells, slCells, isStr, fillA, rep, Nat.reduceMul, Nat.reduceLeDiff, Int.reduceToNat, Int.reduceLE, Int.reduceLT, Int.reduceEq, Nat.reduceAdd, Int.reduceBNe, Int.reduceBEq, Int.reduceNeg]
    · rw [hl] at lp
      simp only [L_legatelaw23_Long_1, lp, hw, l3, lenA, EVC, EVD, EVB, Nat.reduceEqDiff, eqOp, eqA, eqNil, lenA, asNat, optNat, pt, tupleOf, Nat.reduceSub, Nat.reduceGT, Nat.reduceLT, hand, norms, normVs, normV, freeze, reduceIte, reduceCtorEq, srcCells, slCells, isStr, fillA, rep, Nat.reduceMul, Nat.reduceLeDiff, Int.reduceToNat, Int.reduceLE, Int.reduceLT, Int.reduceEq, Nat.reduceAdd, Int.reduceBNe, Int.reduceBEq, Int.reduceNeg]
  cases hl : longFrom s.pins 0
  · rw [hl] at lp1
    simp only [K_legatelaw23_Long, lp1, l3, lenA, EVC, EVD, EVB, Nat.reduceEqDiff, eqOp, eqA, eqNil, lenA, asNat, optNat, pt, tupleOf, Nat.reduceSub, Nat.reduceGT, Nat.reduceLT, hand, norms, normVs, normV, freeze, reduceIte, reduceCtorEq, srcCells, slCells, isStr, fillA, rep, Nat.reduceMul, Nat.reduceLeDiff, Int.reduceToNat, Int.reduceLE, Int.reduceLT, Int.reduceEq, Nat.reduceAdd, Int.reduceBNe, Int.reduceBEq, Int.reduceNeg]
  · rw [hl] at lp1
    simp only [K_legatelaw23_Long, lp1, l3, lenA, EVC, EVD, EVB, Nat.reduceEqDiff, eqOp, eqA, eqNil, lenA, asNat, optNat, pt, tupleOf, Nat.reduceSub, Nat.reduceGT, Nat.reduceLT, hand, norms, normVs, normV, freeze, reduceIte, reduceCtorEq, srcCells, slCells, isStr, fillA, rep, Nat.reduceMul, Nat.reduceLeDiff, Int.reduceToNat, Int.reduceLE, Int.reduceLT, Int.reduceEq, Nat.reduceAdd, Int.reduceBNe, Int.reduceBEq, Int.reduceNeg]
theorem longFrom_len : ∀ (l : List PinV) (n : Nat), longFrom l n = false → n ≤ 600 → n + l.length ≤ 600 ∧ ∀ p ∈ l, longP p = false
  | [], n, _, h => ⟨by simpa using h, fun p hp => by cases hp⟩
  | p :: l, n, h, hn => by
    unfold longFrom at h
    split at h
    · cases h
    · rename_i h6
      rw [Bool.or_eq_false_iff] at h
      obtain ⟨a, b⟩ := longFrom_len l (n + 1) h.2 (by omega)
      refine ⟨by simp only [List.length_cons]; omega, fun q hq => ?_⟩
      rcases List.mem_cons.mp hq with rfl | hq
      · exact h.1
      · exact b q hq
theorem small_of {s : SnapV} (h : longFrom s.pins 0 = false) : SnapSmall s := by
  obtain ⟨a, b⟩ := longFrom_len s.pins 0 h (by omega)
  refine ⟨by omega, fun p hp => ?_⟩
  have := b p hp
  unfold longP longH at this
  rw [Bool.or_eq_false_iff] at this
  have h5 : lhN p.hashes 0 < 5000 := by simpa using this.2
  have := lhN_len p.hashes 0 h5
  omega
end Go.Ev

namespace Go.Ev
set_option maxRecDepth 100000
set_option linter.unusedSimpArgs false
variable {C : Ctx}
theorem capR_is (s : SnapV) (hs : SnapSmall s) (r : List UInt8) (most : Int) : ∃ (q : PinV) (n c : Int), capR (findPin s r) most = .tup [.agg q.cs, .int .i64 n, .int .u8 c] ∧ q.hashes.length ≤ 1099511627776 := by
  have z : (.agg zeroPin' : AV) = .agg (PinV.cs ⟨[], 0, 0, []⟩) := rfl
  cases hf : findPin s r with
  | none => exact ⟨⟨[], 0, 0, []⟩, 0, 1, by rw [← z]; rfl, by simp⟩
  | some p =>
    have hp : p.hashes.length ≤ 1099511627776 := by
      unfold findPin at hf
      split at hf
      · exact hs.hashes p (List.mem_of_find?_eq_some hf)
      · cases hf
    unfold capR
    dsimp only
    split
    · exact ⟨p, most, 0, rfl, hp⟩
    · split
      · exact ⟨⟨[], 0, 0, []⟩, 0, 3, by rw [← z], by simp⟩
      · exact ⟨p, p.length, 0, rfl, hp⟩
structure CapsHas (C : Ctx) : Prop where
  pin : PinHas C
  ref : RefHas C
  long : LongHas C
  same : Has C f_legateref23_SamePin K_legateref23_SamePin
  hashes : Has C f_legateref21_SameHashes K_legateref21_SameHashes
  awake : ∀ σ, Ok σ → semF C f_legatelaw27_awake [] σ = some (.bool true, σ)
  law : Has C f_legatelaw27_CheckCaps K_legatelaw27_CheckCaps
theorem law27_CheckCaps (h : CapsHas C) (s : SnapV) (r : List UInt8) (most : Int) (σ : St) (hσ : Ok σ) : semF C f_legatelaw27_CheckCaps [snapA s, .str r, .int .i64 most] σ = some (.bool true, σ) := by
  rw [h.law.go (NVs.hand (.cons (snap_nv s) (.cons (.str _) (.cons (.int _ _) .nil))) _) (by simp [K_legatelaw27_CheckCaps])]
  have sc := snapC_below s
  have ok1 : Ok (σ ++ [.cells (snapC s) ⟨false, none⟩]) := st_ok hσ (by simp [AO.below, belows_mono (Nat.zero_le _) _ sc])
  have ok2 : ∀ q : PinV, Ok (σ ++ [.cells (snapC s) ⟨false, none⟩, .cells q.cs ⟨false, none⟩]) := fun q => st_ok hσ (by simp [AO.below, belows_mono (Nat.zero_le _) _ sc, belows_mono (Nat.zero_le _) _ q.below])
  have ok3 : ∀ q : PinV, Ok (σ ++ [.cells (snapC s) ⟨false, none⟩, .cells q.cs ⟨false, none⟩, .cells q.cs ⟨false, none⟩]) := fun q => st_ok hσ (by simp [AO.below, belows_mono (Nat.zero_le _) _ sc, belows_mono (Nat.zero_le _) _ q.below])
  have ty := fun b => st_tidy hσ (vs := [.bool b]) rfl
  have ql := law23_Long h.long s _ ok1
  have qa := h.awake _ ok1
  have sn : snapA s = .agg (snapC s) := rfl
  have l3 : (snapC s).length = 3 := rfl
  have tk : (snapC s).take 3 = snapC s := rfl
  rw [sn]
  cases hl : longFrom s.pins 0
  · by_cases hr : (1000 : Int) < (r.length : Int)
    · rw [hl] at ql
      simp only [K_legatelaw27_CheckCaps, ql, qa, hr, ty, l3, tk, AV.cells, sp_all, flat_sl, List.cons_append, List.set_cons_succ, List.set_cons_zero, Nat.le_add_left, EVC, EVD, EVB, Nat.reduceEqDiff, eqOp, eqA, eqNil, lenA, asNat, optNat, pt, tupleOf, Nat.reduceSub, Nat.reduceGT, Nat.reduceLT, hand, norms, normVs, normV, freeze, reduceIte, reduceCtorEq, srcCells, slCells, isStr, fillA, rep, Nat.reduceMul, Nat.reduceLeDiff, Int.reduceToNat, Int.reduceLE, Int.reduceLT, Int.reduceEq, Nat.reduceAdd, Int.reduceBNe, Int.reduceBEq, Int.reduceNeg]
    · rw [hl] at ql
      have sm := small_of hl
      obtain ⟨q, n, c, hq, hqh⟩ := capR_is s sm r most
      have q1 := check_Cap h.pin s sm r most _ ok1
      have q2 := ref27_Cap h.ref s sm r most _ (ok2 q)
      have q3 := ref23_SamePin h.same h.hashes q hqh _ (ok3 q)
      have q4 := h.awake _ (ok3 q)
      rw [hq, sn] at q1 q2
      have qc : q.cs.length = 4 := rfl
      have qt : q.cs.take 4 = q.cs := rfl
      have qf : q.cs.all AV.flat = true := rfl
      have qs : splice [.str [], .int .i64 0, .int .i64 0, .nils] 0 q.cs = q.cs := rfl
      simp only [K_legatelaw27_CheckCaps, ql, q1, q2, q3, q4, qc, qt, qf, qs, hr, ty, l3, tk, AV.cells, sp_all, flat_sl, List.cons_append, List.set_cons_succ, List.set_cons_zero, Nat.le_add_left, EVC, EVD, EVB, Nat.reduceEqDiff, eqOp, eqA, eqNil, lenA, asNat, optNat, pt, tupleOf, Nat.reduceSub, Nat.reduceGT, Nat.reduceLT, hand, norms, normVs, normV, freeze, reduceIte, reduceCtorEq, srcCells, slCells, isStr, fillA, rep, Nat.reduceMul, Nat.reduceLeDiff, Int.reduceToNat, Int.reduceLE, Int.reduceLT, Int.reduceEq, Nat.reduceAdd, Int.reduceBNe, Int.reduceBEq, Int.reduceNeg]
  · rw [hl] at ql
    simp only [K_legatelaw27_CheckCaps, ql, qa, ty, l3, tk, AV.cells, sp_all, flat_sl, List.cons_append, List.set_cons_succ, List.set_cons_zero, Nat.le_add_left, EVC, EVD, EVB, Nat.reduceEqDiff, eqOp, eqA, eqNil, lenA, asNat, optNat, pt, tupleOf, Nat.reduceSub, Nat.reduceGT, Nat.reduceLT, hand, norms, normVs, normV, freeze, reduceIte, reduceCtorEq, srcCells, slCells, isStr, fillA, rep, Nat.reduceMul, Nat.reduceLeDiff, Int.reduceToNat, Int.reduceLE, Int.reduceLT, Int.reduceEq, Nat.reduceAdd, Int.reduceBNe, Int.reduceBEq, Int.reduceNeg]
end Go.Ev

