/- Code of functions as the evaluator has it, and what some of them compute. No conditions. -/
import Derived.Test.YtgpjaembafkpoaaGreatDoorCa
set_option linter.unusedVariables false
set_option linter.unusedSimpArgs false
namespace Go.Ev
/-! (*legate/pick.Obj).Object -/
def K_pick_Obj_Object : KF := ⟨3,11,[(.cell 6 true 5)],(Q [o 5 (.box (.t 2)),o 6 (.new [vu 0,vi 0,ve,.nils,.nils] none)]
(Q [m 7 0,m 8 1,o 9 (.mkFunc (.func f_pick_Obj_Object_1) [] [.t 5]),o 10 (.callF f_pick_take_api_Value [.t 7,.t 8,.t 9]),xs 5 6 10]
(.ret [6])))⟩
/-! legate/root.authsOf -/
def L_root_authsOf_0 : KC :=
(Q [o 15 (.bin .lss 0 true (.t 14) (ci 3))]
(.seq (.cond (.t 15)
.skip
(.exit [2,4,5] 0))
(.seq (.block 1
(Q [m 16 14,o 17 (.idxArr 3 false 1 (.t 13) (.t 14)),m 6 16,m 7 17]
(Q [m 19 4,m 20 7,o 21 (.callF f_pick_Obj_Object [.t 19,.t 20,ci 8192]),o 22 (.callF f_auth_Of [.t 21]),m 18 22,xe 23 18 0,xe 24 18 1,o 8 (.new [vi 0,.nils] none),xs 2 8 23,m 9 24]
(Q [m 25 4,m 26 9,o 27 (.callF f_pick_Obj_Fail [.t 25,.t 26])]
(.ops [m 28 6,xl 29 2 8,o 30 (.idxAddrArr 3 2 (.t 5) (.t 28)),xs 2 30 29])))))
(.ops [o 31 (.bin .add 0 true (.t 14) (ci 1)),m 14 31]))))
def K_root_authsOf : KF := ⟨1,39,[(.cell 2 true 6),(.tmp 3)],(Q [o 1 (.box (.t 0)),o 2 (.new [vi 0,.nils,vi 0,.nils,vi 0,.nils] none),o 3 (.mv (ci 0))]
(Q [xl 11 5 1,o 12 (.callF f_pick_Of [.t 11]),m 4 12]
(Q [o 5 (.new [vi 0,.nils,vi 0,.nils,vi 0,.nils] none)]
(.seq (Q [o 13 (.load true 3 (.g g_root_tops)),o 14 (.mv (ci 0))]
(.block 0
(.loop [2,4,5,13,14] L_root_authsOf_0)))
(.seq (Q [m 32 4,o 33 (.callF f_pick_Obj_Done [.t 32]),m 10 33]
(Q [m 34 10,o 35 (.bin .neq 0 true (.t 34) (ci 0))]
(.cond (.t 35)
(Q [o 36 (.build [vi 0,.nils,vi 0,.nils,vi 0,.nils] []),m 37 10,xs 6 2 36,m 3 37]
(.ret [2,3]))
.skip)))
(Q [xl 38 6 5,xs 6 2 38,o 3 (.mv (ci 0))]
(.ret [2,3])))))))⟩
/-! (*legate/pick.Obj).Done -/
def L_pick_Obj_Done_0 : KC :=
(Q [o 18 (.bin .lss 0 false (.t 17) (.t 16))]
(.seq (.cond (.t 18)
.skip
(.exit [] 0))
(.seq (.block 1
(Q [o 19 (.idxAddrSl 1 (.t 15) (.t 17)),xf 20 19,m 5 20]
(Q [m 21 0,o 22 (.nilck (.t 21)),xa 23 5 22,xf 24 23,m 25 5,o 26 (.lookup (vi 0) (.t 24) (.t 25) false),o 27 (.bin .eql 0 true (.t 26) (ci 0))]
(.cond (.t 27)
(Q [o 2 (.mv (ci 11))]
(.ret [2]))
.skip))))
(.ops [o 28 (.bin .add 0 true (.t 17) (ci 1)),m 17 28]))))
def K_pick_Obj_Done : KF := ⟨1,29,[(.tmp 2)],(Q [o 2 (.mv (ci 0))]
(.seq (Q [m 6 0,o 7 (.callF f_pick_Obj_Err [.t 6]),m 3 7]
(Q [m 8 3,o 9 (.bin .neq 0 true (.t 8) (ci 0))]
(.cond (.t 9)
(Q [m 10 3,m 2 10]
(.ret [2]))
.skip)))
(.seq (Q [m 11 0,o 12 (.nilck (.t 11)),xa 13 0 12,xa 14 3 13,xf 15 14,o 16 (.len 1 (.t 15)),o 17 (.mv (ci 0))]
(.block 0
(.loop [0,15,16,17] L_pick_Obj_Done_0)))
(Q [o 2 (.mv (ci 0))]
(.ret [2])))))⟩
/-! legate/judge.Count -/
def L_judge_Count_0 : KC :=
(Q [o 30 (.bin .lss 0 false (.t 29) (.t 28))]
(.seq (.cond (.t 30)
.skip
(.exit [11] 0))
(.seq (.block 1
(Q [o 31 (.idxAddrSl 1 (.t 27) (.t 29)),xf 32 31,m 13 32]
(Q [m 34 3,m 35 13,o 36 (.callF f_key_Find [.t 34,.t 35]),m 33 36,xe 37 33 0,xe 38 33 1,o 14 (.new [ve,ve] none),xs 2 14 37,m 15 38]
(Q [m 39 15,m 40 39,og 41 40 true (.mv (.t 0)),og 42 40 true (.load true 2 (.t 14)),og 43 40 true (.mv (.t 13)),og 44 40 true (.fieldAddr 5 (.t 5)),og 45 40 true (.load false 1 (.t 44)),og 46 40 true (.mv (.t 9)),og 47 40 true (.callF f_judge_Verifier_has [.t 41,.t 42,.t 43,.t 45,.t 46]),o 48 (.pick (.t 40) (.t 47) (.c (.bool false)))]
(.cond (.t 48)
(.ops [m 49 11,o 50 (.bin .add 0 true (.t 49) (ci 1)),m 11 50])
.skip)))))
(.ops [o 51 (.bin .add 0 true (.t 29) (ci 1)),m 29 51]))))
def K_judge_Count : KF := ⟨4,53,[(.tmp 8)],(Q [o 5 (.box (.t 1)),o 6 (.box (.t 2)),o 8 (.mv (ci 0))]
(.seq (Q [xl 16 2 6,o 17 (.callF f_auth_May [.t 16]),o 18 (.un .not (.t 17))]
(.cond (.t 18)
(Q [o 8 (.mv (ci 0))]
(.ret [8]))
.skip))
(Q [xl 20 6 5,o 21 (.callF f_sign_Signed [.t 20]),m 19 21,xe 22 19 0,xe 23 19 1,m 9 22,m 10 23]
(.seq (Q [m 24 10,o 25 (.bin .neq 0 true (.t 24) (ci 0))]
(.cond (.t 25)
(Q [o 8 (.mv (ci 0))]
(.ret [8]))
.skip))
(Q [o 11 (.mv (ci 0))]
(.seq (Q [xa 26 1 6,xf 27 26,o 28 (.len 1 (.t 27)),o 29 (.mv (ci 0))]
(.block 0
(.loop [0,3,5,9,11,27,28,29] L_judge_Count_0)))
(Q [m 52 11,m 8 52]
(.ret [8]))))))))⟩
/-! (*legate/store.Store).fetch -/
def L_store_Store_fetch_0 : KC :=
(Q [o 15 (.bin .lss 0 false (.t 14) (.t 13))]
(.seq (.cond (.t 15)
.skip
(.exit [2,6] 0))
(.seq (.block 1
(Q [o 16 (.idxAddrSl 2 (.t 12) (.t 14)),xl 17 2 16,o 8 (.new [ve,ve] none),xs 2 8 17]
(.seq (Q [xa 18 0 8,xf 19 18,m 20 1,o 21 (.bin .neq 0 false (.t 19) (.t 20))]
(.cond (.t 21)
(.exit [1,2,6,12,13,14] 1)
.skip))
(.seq (Q [xa 22 1 8,xf 23 22,o 24 (.len 0 (.t 23)),m 25 2,o 26 (.bin .gtr 0 false (.t 24) (.t 25))]
(.cond (.t 26)
(Q [m 27 2,o 28 (.build [vi 0,vi 0,ve] [(0,1,(.t 27)),(1,1,(ci (-2)))]),xs 3 6 28]
(.ret [6]))
.skip))
(Q [m 29 2,xa 30 1 8,xf 31 30,o 32 (.len 0 (.t 31)),xa 33 1 8,xf 34 33,o 35 (.build [vi 0,vi 0,ve] [(0,1,(.t 29)),(1,1,(.t 32)),(2,1,(.t 34))]),xs 3 6 35]
(.ret [6]))))))
(.ops [o 36 (.bin .add 0 true (.t 14) (ci 1)),m 14 36]))))
def K_store_Store_fetch : KF := ⟨3,39,[(.cell 6 true 3)],(Q [o 6 (.new [vi 0,vi 0,ve] none)]
(.seq (Q [m 9 0,o 10 (.nilck (.t 9)),xa 11 1 10,xf 12 11,o 13 (.len 1 (.t 12)),o 14 (.mv (ci 0))]
(.block 0
(.loop [1,2,6,12,13,14] L_store_Store_fetch_0)))
(Q [m 37 2,o 38 (.build [vi 0,vi 0,ve] [(0,1,(.t 37)),(1,1,(ci (-1)))]),xs 3 6 38]
(.ret [6]))))⟩
/-! legate/snap.parts -/
def K_snap_parts : KF := ⟨0,6,[(.tmp 0)],(Q [o 0 (.mv (.c .nils))]
(Q [o 1 (.build [.nilFunc] [(0,1,(.c (.func (.func f_snap_parseType) [] [])))]),o 2 (.build [.nilFunc] [(0,1,(.c (.func (.func f_snap_parseVersion) [] [])))]),o 3 (.build [.nilFunc] [(0,1,(.c (.func (.func f_snap_parseExpires) [] [])))]),o 4 (.build [.nilFunc] [(0,1,(.c (.func (.func f_snap_parseMeta) [] [])))]),o 5 (.buildSl [.nilFunc] 4 1 [(0,1,(.t 1)),(1,1,(.t 2)),(2,1,(.t 3)),(3,1,(.t 4))]),m 0 5]
(.ret [0])))⟩
/-! legate/when.Over -/
def K_when_Over : KF := ⟨2,8,[(.tmp 4)],(Q [o 4 (.mv (.c (.bool false)))]
(Q [m 5 1,m 6 0,o 7 (.bin .geq 0 false (.t 5) (.t 6)),m 4 7]
(.ret [4])))⟩
/-! (*strings.Builder).copyCheck -/
def K_strings_Builder_copyCheck : KF := ⟨1,20,[],(Q [m 2 0,o 3 (.nilck (.t 2)),xa 4 0 3,xf 5 4,o 6 (.bin .eql 3 true (.t 5) (.c .nilp))]
(.cond (.t 6)
(.ops [m 7 0,m 8 0,o 9 .fail,o 10 (.callF f_internal_abi_NoEscape [.t 9]),o 11 .fail,o 12 (.nilck (.t 7)),xa 13 0 12,xs 1 13 11])
(Q [m 14 0,o 15 (.nilck (.t 14)),xa 16 0 15,xf 17 16,m 18 0,o 19 (.bin .neq 3 false (.t 17) (.t 18))]
(.cond (.t 19)
.fail
.skip))))⟩
/-! strconv.FormatInt -/
def K_strconv_FormatInt : KF := ⟨2,8,[(.tmp 4)],(Q [o 4 (.mv (cs []))]
(Q [m 5 0,m 6 1,o 7 (.callF f_internal_strconv_FormatInt [.t 5,.t 6]),m 4 7]
(.ret [4])))⟩
/-! slices.Clone[[]legate/api.Hash,legate/api.Hash] -/
def K_slices_Clone_api_Hash_api_Hash : KF := ⟨1,8,[(.tmp 2)],(Q [o 2 (.mv (.c .nils))]
(.seq (Q [m 3 0,o 4 (.bin .eql 7 true (.t 3) (.c .nils))]
(.cond (.t 4)
(Q [o 2 (.mv (.c .nils))]
(.ret [2]))
.skip))
(Q [o 5 (.buildSl [ve,ve] 0 2 []),m 6 0,o 7 (.app false 2 32 none (.t 5) (.t 6)),m 2 7]
(.ret [2]))))⟩
/-! legate/targ.listOf -/
def L_targ_listOf_0 : KC :=
(Q [o 13 (.bin .lss 0 false (.t 12) (.t 11))]
(.seq (.cond (.t 13)
.skip
(.exit [4] 0))
(.seq (.block 1
(Q [m 14 12,o 15 (.idxAddrSl 1 (.t 10) (.t 12)),xf 16 15,m 5 14,m 6 16]
(.seq (Q [m 17 6,o 18 (.callF f_name_Path [.t 17]),o 19 (.un .not (.t 18))]
(.cond (.t 19)
(Q [o 2 (.mv (.c .nils)),o 3 (.mv (ci 3))]
(.ret [2,3]))
.skip))
(Q [xa 21 4 1,xf 22 21,m 23 5,o 24 (.idxAddrSl 5 (.t 22) (.t 23)),xl 25 5 24,o 26 (.callF f_record_Of [.t 25]),m 20 26,xe 27 20 0,xe 28 20 1,o 7 (.new [vi 0,.nils,vu 0,vi 0,ve,.nils,.nils] none),xs 7 7 27,m 8 28]
(.seq (Q [m 29 8,o 30 (.bin .neq 0 true (.t 29) (ci 0))]
(.cond (.t 30)
(Q [m 31 8,o 2 (.mv (.c .nils)),m 3 31]
(.ret [2,3]))
.skip))
(.ops [m 32 4,m 33 6,xl 34 7 7,o 35 (.build [ve,vi 0,.nils,vu 0,vi 0,ve,.nils,.nils] [(0,1,(.t 33)),(1,7,(.t 34))]),o 36 (.buildSl [ve,vi 0,.nils,vu 0,vi 0,ve,.nils,.nils] 1 8 [(0,8,(.t 35))]),o 37 (.app false 8 128 none (.t 32) (.t 36)),m 4 37]))))))
(.ops [o 38 (.bin .add 0 true (.t 12) (ci 1)),m 12 38]))))
def K_targ_listOf : KF := ⟨1,40,[(.tmp 2),(.tmp 3)],(Q [o 1 (.box (.t 0)),o 2 (.mv (.c .nils)),o 3 (.mv (ci 0))]
(Q [o 4 (.mv (.c .nils))]
(.seq (Q [xa 9 3 1,xf 10 9,o 11 (.len 1 (.t 10)),o 12 (.mv (ci 0))]
(.block 0
(.loop [1,4,10,11,12] L_targ_listOf_0)))
(Q [m 39 4,m 2 39,o 3 (.mv (ci 0))]
(.ret [2,3])))))⟩
/-! (*legate/pick.Obj).Has -/
def K_pick_Obj_Has : KF := ⟨2,20,[(.tmp 4)],(Q [o 4 (.mv (.c (.bool false)))]
(.seq (Q [m 7 0,o 8 (.callF f_pick_Obj_Err [.t 7]),o 9 (.bin .neq 0 true (.t 8) (ci 0))]
(.cond (.t 9)
(Q [o 4 (.mv (.c (.bool false)))]
(.ret [4]))
.skip))
(Q [m 11 0,o 12 (.nilck (.t 11)),xa 13 0 12,xl 14 5 13,m 15 1,o 16 (.callF f_value_Get [.t 14,.t 15]),m 10 16,xe 17 10 0,xe 18 10 1,o 5 (.new [vu 0,vi 0,ve,.nils,.nils] none),xs 5 5 17,m 6 18]
(Q [m 19 6,m 4 19]
(.ret [4])))))⟩
/-! internal/strconv.Itoa -/
def K_internal_strconv_Itoa : KF := ⟨1,5,[(.tmp 2)],(Q [o 2 (.mv (cs []))]
(Q [m 3 0,o 4 (.callF f_internal_strconv_FormatInt [.t 3,ci 10]),m 2 4]
(.ret [2])))⟩
/-! slices.insertionSortCmpFunc[legate/key.entry] -/
def L_slices_insertionSortCmpFunc_key_entry_0 : KC :=
(.seq (.seq (.plain [m 18 9,m 19 1,o 20 (.bin .gtr 0 false (.t 18) (.t 19)),m 21 20,og 22 21 true (.mv (.t 3)),og 23 21 true (.mv (.t 0)),og 24 21 true (.mv (.t 9)),og 25 21 true (.idxAddrSl 6 (.t 23) (.t 24)),og 26 21 true (.load true 6 (.t 25)),og 27 21 true (.mv (.t 0)),og 28 21 true (.mv (.t 9)),og 29 21 true (.bin .sub 0 true (.t 28) (ci 1)),og 30 21 true (.idxAddrSl 6 (.t 27) (.t 29)),og 31 21 true (.load true 6 (.t 30)),og 32 21 true (.callV (.t 22) [.t 26,.t 31]),og 33 21 true (.bin .lss 0 true (.t 32) (ci 0)),o 34 (.pick (.t 21) (.t 33) (.c (.bool false)))])
(.cond (.t 34)
.skip
(.exit [0,1,2,3,8] 2)))
(.seq (.block 3
(.plain [m 37 0,m 38 9,m 39 0,m 40 9,o 41 (.bin .sub 0 true (.t 40) (ci 1)),m 42 0,m 43 9,o 44 (.bin .sub 0 true (.t 43) (ci 1)),o 45 (.idxAddrSl 6 (.t 42) (.t 44)),xl 46 6 45,m 47 0,m 48 9,o 49 (.idxAddrSl 6 (.t 47) (.t 48)),xl 50 6 49,o 51 (.idxAddrSl 6 (.t 37) (.t 38)),xs 6 51 46,o 52 (.idxAddrSl 6 (.t 39) (.t 41)),xs 6 52 50]))
(.ops [m 35 9,o 36 (.bin .sub 0 true (.t 35) (ci 1)),m 9 36])))
def L_slices_insertionSortCmpFunc_key_entry_1 : KC :=
(.seq (Q [m 12 8,m 13 2,o 14 (.bin .lss 0 false (.t 12) (.t 13))]
(.cond (.t 14)
.skip
(.exit [] 0)))
(.seq (.block 1
(Q [m 17 8,m 9 17]
(.block 2
(.loop [0,1,2,3,8,9] L_slices_insertionSortCmpFunc_key_entry_0))))
(.ops [m 15 8,o 16 (.bin .add 0 true (.t 15) (ci 1)),m 8 16])))
def K_slices_insertionSortCmpFunc_key_entry : KF := ⟨4,53,[],(Q [m 10 1,o 11 (.bin .add 0 true (.t 10) (ci 1)),m 8 11]
(.block 0
(.loop [0,1,2,3,8] L_slices_insertionSortCmpFunc_key_entry_1)))⟩
/-! math/bits.Len64 -/
def K_math_bits_Len64 : KF := ⟨1,25,[(.tmp 2)],(Q [o 2 (.mv (ci 0))]
(.seq (Q [m 3 0,o 4 (.bin .geq 0 true (.t 3) (.c (.int .u64 4294967296)))]
(.cond (.t 4)
(Q [m 5 0,o 6 (.bin .shr 0 true (.t 5) (.c (.int .u64 32))),m 0 6]
(.ops [o 2 (.mv (ci 32))]))
.skip))
(.seq (Q [m 7 0,o 8 (.bin .geq 0 true (.t 7) (.c (.int .u64 65536)))]
(.cond (.t 8)
(Q [m 9 0,o 10 (.bin .shr 0 true (.t 9) (.c (.int .u64 16))),m 0 10]
(.ops [m 11 2,o 12 (.bin .add 0 true (.t 11) (ci 16)),m 2 12]))
.skip))
(.seq (Q [m 13 0,o 14 (.bin .geq 0 true (.t 13) (.c (.int .u64 256)))]
(.cond (.t 14)
(Q [m 15 0,o 16 (.bin .shr 0 true (.t 15) (.c (.int .u64 8))),m 0 16]
(.ops [m 17 2,o 18 (.bin .add 0 true (.t 17) (ci 8)),m 2 18]))
.skip))
(Q [m 19 2,m 20 0,o 21 (.i2i .u8 (.t 20)),o 22 (.idxStr (cs [0,1,2,2,3,3,3,3,4,4,4,4,4,4,4,4,5,5,5,5,5,5,5,5,5,5,5,5,5,5,5,5,6,6,6,6,6,6,6,6,6,6,6,6,6,6,6,6,6,6,6,6,6,6,6,6,6,6,6,6,6,6,6,6,7,7,7,7,7,7,7,7,7,7,7,7,7,7,7,7,7,7,7,7,7,7,7,7,7,7,7,7,7,7,7,7,7,7,7,7,7,7,7,7,7,7,7,7,7,7,7,7,7,7,7,7,7,7,7,7,7,7,7,7,7,7,7,7,8,8,8,8,8,8,8,8,8,8,8,8,8,8,8,8,8,8,8,8,8,8,8,8,8,8,8,8,8,8,8,8,8,8,8,8,8,8,8,8,8,8,8,8,8,8,8,8,8,8,8,8,8,8,8,8,8,8,8,8,8,8,8,8,8,8,8,8,8,8,8,8,8,8,8,8,8,8,8,8,8,8,8,8,8,8,8,8,8,8,8,8,8,8,8,8,8,8,8,8,8,8,8,8,8,8,8,8,8,8,8,8,8,8,8,8,8,8,8,8,8,8,8,8,8,8,8,8]) (.t 21)),o 23 (.i2i .i64 (.t 22)),o 24 (.bin .add 0 false (.t 19) (.t 23)),m 2 24]
(.ret [2]))))))⟩
/-! slices.insertionSortCmpFunc[legate/pick.Member] -/
def L_slices_insertionSortCmpFunc_pick_Member_0 : KC :=
(.seq (.seq (.plain [m 18 9,m 19 1,o 20 (.bin .gtr 0 false (.t 18) (.t 19)),m 21 20,og 22 21 true (.mv (.t 3)),og 23 21 true (.mv (.t 0)),og 24 21 true (.mv (.t 9)),og 25 21 true (.idxAddrSl 6 (.t 23) (.t 24)),og 26 21 true (.load true 6 (.t 25)),og 27 21 true (.mv (.t 0)),og 28 21 true (.mv (.t 9)),og 29 21 true (.bin .sub 0 true (.t 28) (ci 1)),og 30 21 true (.idxAddrSl 6 (.t 27) (.t 29)),og 31 21 true (.load true 6 (.t 30)),og 32 21 true (.callV (.t 22) [.t 26,.t 31]),og 33 21 true (.bin .lss 0 true (.t 32) (ci 0)),o 34 (.pick (.t 21) (.t 33) (.c (.bool false)))])
(.cond (.t 34)
.skip
(.exit [0,1,2,3,8] 2)))
(.seq (.block 3
(.plain [m 37 0,m 38 9,m 39 0,m 40 9,o 41 (.bin .sub 0 true (.t 40) (ci 1)),m 42 0,m 43 9,o 44 (.bin .sub 0 true (.t 43) (ci 1)),o 45 (.idxAddrSl 6 (.t 42) (.t 44)),xl 46 6 45,m 47 0,m 48 9,o 49 (.idxAddrSl 6 (.t 47) (.t 48)),xl 50 6 49,o 51 (.idxAddrSl 6 (.t 37) (.t 38)),xs 6 51 46,o 52 (.idxAddrSl 6 (.t 39) (.t 41)),xs 6 52 50]))
(.ops [m 35 9,o 36 (.bin .sub 0 true (.t 35) (ci 1)),m 9 36])))
def L_slices_insertionSortCmpFunc_pick_Member_1 : KC :=
(.seq (Q [m 12 8,m 13 2,o 14 (.bin .lss 0 false (.t 12) (.t 13))]
(.cond (.t 14)
.skip
(.exit [] 0)))
(.seq (.block 1
(Q [m 17 8,m 9 17]
(.block 2
(.loop [0,1,2,3,8,9] L_slices_insertionSortCmpFunc_pick_Member_0))))
(.ops [m 15 8,o 16 (.bin .add 0 true (.t 15) (ci 1)),m 8 16])))
def K_slices_insertionSortCmpFunc_pick_Member : KF := ⟨4,53,[],(Q [m 10 1,o 11 (.bin .add 0 true (.t 10) (ci 1)),m 8 11]
(.block 0
(.loop [0,1,2,3,8] L_slices_insertionSortCmpFunc_pick_Member_1)))⟩
/-! strings.CutSuffix -/
def K_strings_CutSuffix : KF := ⟨2,11,[(.tmp 4),(.tmp 5)],(Q [o 4 (.mv (cs [])),o 5 (.mv (.c (.bool false)))]
(Q [m 6 0,m 7 1,o 8 (.callF f_internal_stringslite_CutSuffix [.t 6,.t 7]),xe 9 8 0,xe 10 8 1,m 4 9,m 5 10]
(.ret [4,5])))⟩
/-! legate/pick.ListOf -/
def L_pick_ListOf_0 : KC :=
(Q [o 10 (.bin .lss 0 false (.t 9) (.t 8))]
(.seq (.cond (.t 10)
.skip
(.exit [2,3] 0))
(.seq (.block 1
(Q [o 11 (.idxAddrSl 5 (.t 7) (.t 9)),xl 12 5 11,o 5 (.new [vu 0,vi 0,ve,.nils,.nils] none),xs 5 5 12]
(.drawn [xa 13 4 3,⟨(some 14),(.load false 1 (.t 13)),none,[3]⟩,xl 15 5 5,o 16 (.callF f_value_Copy [.t 15]),o 17 (.buildSl [vu 0,vi 0,ve,.nils,.nils] 1 5 [(0,5,(.t 16))]),o 18 (.app false 5 80 none (.t 14) (.t 17)),xa 19 4 3,xs 1 19 18])))
(.ops [o 20 (.bin .add 0 true (.t 9) (ci 1)),m 9 20]))))
def K_pick_ListOf : KF := ⟨1,22,[(.cell 2 true 5)],(Q [o 2 (.new [vu 0,vi 0,ve,.nils,.nils] none)]
(Q [o 6 (.build [vu 0,vi 0,ve,.nils,.nils] [(0,1,(cu 4))]),o 3 (.new [vu 0,vi 0,ve,.nils,.nils] none),xs 5 3 6]
(.seq (Q [m 7 0,o 8 (.len 1 (.t 7)),o 9 (.mv (ci 0))]
(.block 0
(.loop [2,3,7,8,9] L_pick_ListOf_0)))
(Q [xl 21 5 3,xs 5 2 21]
(.ret [2])))))⟩
/-! legate/value.proper -/
def L_value_proper_0 : KC :=
(Q [o 92 (.bin .lss 0 false (.t 91) (.t 90))]
(.seq (.cond (.t 92)
.skip
(.exit [] 1))
(.seq (.block 2
(Q [o 93 (.idxAddrSl 1 (.t 89) (.t 91)),xf 94 93,m 4 94]
(Q [m 95 4,o 96 (.callF f_value_written [.t 95]),o 97 (.un .not (.t 96))]
(.cond (.t 97)
(Q [o 2 (.mv (.c (.bool false)))]
(.ret [2]))
.skip))))
(.ops [o 98 (.bin .add 0 true (.t 91) (ci 1)),m 91 98]))))
def K_value_proper : KF := ⟨1,99,[(.tmp 2)],(Q [o 1 (.box (.t 0)),o 2 (.mv (.c (.bool false)))]
(.seq (Q [xa 5 0 1,xf 6 5,o 7 (.bin .neq 0 true (.t 6) (cu 1)),m 8 7,og 9 8 true (.fieldAddr 0 (.t 1)),og 10 8 true (.load false 1 (.t 9)),og 11 8 true (.bin .neq 0 true (.t 10) (cu 2)),o 12 (.pick (.t 8) (.t 11) (.c (.bool false))),m 13 12,og 14 13 true (.fieldAddr 1 (.t 1)),og 15 13 true (.load false 1 (.t 14)),og 16 13 true (.bin .neq 0 true (.t 15) (ci 0)),o 17 (.pick (.t 13) (.t 16) (.c (.bool false))),m 18 17,og 19 18 false (.fieldAddr 0 (.t 1)),og 20 18 false (.load false 1 (.t 19)),og 21 18 false (.bin .neq 0 true (.t 20) (cu 3)),og 22 18 false (.mv (.t 21)),og 23 22 true (.fieldAddr 2 (.t 1)),og 24 22 true (.load false 1 (.t 23)),og 25 22 true (.bin .neq 0 true (.t 24) (cs [])),og 26 18 false (.pick (.t 22) (.t 25) (.c (.bool false))),o 27 (.pick (.t 18) (.c (.bool true)) (.t 26))]
(.cond (.t 27)
(Q [o 2 (.mv (.c (.bool false)))]
(.ret [2]))
.skip))
(.seq (Q [xa 28 0 1,xf 29 28,o 30 (.bin .neq 0 true (.t 29) (cu 5)),m 31 30,og 32 31 true (.fieldAddr 3 (.t 1)),og 33 31 true (.load false 1 (.t 32)),og 34 31 true (.len 1 (.t 33)),og 35 31 true (.bin .gtr 0 true (.t 34) (ci 0)),o 36 (.pick (.t 31) (.t 35) (.c (.bool false))),m 37 36,og 38 37 false (.fieldAddr 0 (.t 1)),og 39 37 false (.load false 1 (.t 38)),og 40 37 false (.bin .neq 0 true (.t 39) (cu 5)),og 41 37 false (.mv (.t 40)),og 42 41 true (.fieldAddr 0 (.t 1)),og 43 41 true (.load false 1 (.t 42)),og 44 41 true (.bin .neq 0 true (.t 43) (cu 4)),og 45 37 false (.pick (.t 41) (.t 44) (.c (.bool false))),og 46 37 false (.mv (.t 45)),og 47 46 true (.fieldAddr 4 (.t 1)),og 48 46 true (.load false 1 (.t 47)),og 49 46 true (.len 1 (.t 48)),og 50 46 true (.bin .gtr 0 true (.t 49) (ci 0)),og 51 37 false (.pick (.t 46) (.t 50) (.c (.bool false))),o 52 (.pick (.t 37) (.c (.bool true)) (.t 51))]
(.cond (.t 52)
(Q [o 2 (.mv (.c (.bool false)))]
(.ret [2]))
.skip))
(.seq (Q [xa 53 0 1,xf 54 53]
(.block 0
(Q [o 56 (.bin .eql 0 true (.t 54) (cu 1)),m 55 56]
(.cond (.t 55)
(Q [xa 57 1 1,xf 58 57,o 59 (.bin .eql 0 true (.t 58) (ci 0)),m 60 59,og 61 60 false (.fieldAddr 1 (.t 1)),og 62 60 false (.load false 1 (.t 61)),og 63 60 false (.bin .eql 0 true (.t 62) (ci 1)),o 64 (.pick (.t 60) (.c (.bool true)) (.t 63)),m 2 64]
(.ret [2]))
(.seq (Q [o 66 (.bin .eql 0 true (.t 54) (cu 2)),m 65 66]
(.cond (.t 65)
.skip
(.ops [o 67 (.bin .eql 0 true (.t 54) (cu 4)),m 65 67])))
(.cond (.t 65)
(Q [o 2 (.mv (.c (.bool true)))]
(.ret [2]))
(Q [o 69 (.bin .eql 0 true (.t 54) (cu 3)),m 68 69]
(.cond (.t 68)
(Q [xa 70 2 1,xf 71 70,o 72 (.callF f_value_written [.t 71]),m 2 72]
(.ret [2]))
(Q [o 74 (.bin .eql 0 true (.t 54) (cu 5)),m 73 74]
(.cond (.t 73)
(.seq (Q [xa 75 3 1,xf 76 75,o 77 (.len 1 (.t 76)),xa 78 4 1,xf 79 78,o 80 (.len 1 (.t 79)),o 81 (.bin .neq 0 false (.t 77) (.t 80)),m 82 81,og 83 82 false (.fieldAddr 3 (.t 1)),og 84 82 false (.load false 1 (.t 83)),og 85 82 false (.callF f_value_ascending [.t 84]),og 86 82 false (.un .not (.t 85)),o 87 (.pick (.t 82) (.c (.bool true)) (.t 86))]
(.cond (.t 87)
(Q [o 2 (.mv (.c (.bool false)))]
(.ret [2]))
.skip))
(.seq (Q [xa 88 3 1,xf 89 88,o 90 (.len 1 (.t 89)),o 91 (.mv (ci 0))]
(.block 1
(.loop [89,90,91] L_value_proper_0)))
(Q [o 2 (.mv (.c (.bool true)))]
(.ret [2]))))
.skip))))))))))
(Q [o 2 (.mv (.c (.bool false)))]
(.ret [2]))))))⟩
/-! (*legate/read.tokens).next -/
def L_read_tokens_next_0 : KC :=
(.seq (.seq (.plain [m 12 0,o 13 (.nilck (.t 12)),xa 14 1 13,xf 15 14,m 16 0,o 17 (.nilck (.t 16)),xa 18 0 17,xf 19 18,o 20 (.len 0 (.t 19)),o 21 (.bin .lss 0 false (.t 15) (.t 20)),m 22 21,og 23 22 true (.mv (.t 0)),og 24 22 true (.nilck (.t 23)),og 25 22 true (.fieldAddr 0 (.t 24)),og 26 22 true (.load false 1 (.t 25)),og 27 22 true (.mv (.t 0)),og 28 22 true (.nilck (.t 27)),og 29 22 true (.fieldAddr 1 (.t 28)),og 30 22 true (.load false 1 (.t 29)),og 31 22 true (.idxStr (.t 26) (.t 30)),og 32 22 true (.callF f_read_space [.t 31]),o 33 (.pick (.t 22) (.t 32) (.c (.bool false)))])
(.cond (.t 33)
.skip
(.exit [0] 0)))
(.block 1
(.ops [m 34 0,o 35 (.nilck (.t 34)),xa 36 1 35,xf 37 36,o 38 (.bin .add 0 true (.t 37) (ci 1)),o 39 (.nilck (.t 34)),xa 40 1 39,xs 1 40 38])))
def K_read_tokens_next : KF := ⟨1,65,[(.tmp 2)],(Q [o 2 (.mv (ci 0))]
(Q [m 5 0,m 6 0,o 7 (.nilck (.t 6)),xa 8 7 7,xf 9 8,o 10 (.nilck (.t 5)),xa 11 1 10,xs 1 11 9]
(.seq (.block 0
(.loop [0] L_read_tokens_next_0))
(.seq (.plain [m 42 0,o 43 (.nilck (.t 42)),xa 44 0 43,xf 45 44,m 46 0,o 47 (.nilck (.t 46)),xa 48 1 47,xf 49 48,o 50 (.callF f_lex_Next [.t 45,.t 49]),m 41 50,xe 51 41 0,xe 52 41 1,u .pend,o 3 (.fill 12 3 5 (.t 51)),m 4 52])
(.seq (Q [m 53 4,o 54 (.bin .neq 0 true (.t 53) (ci 0))]
(.cond (.t 54)
(Q [m 55 4,m 2 55]
(.ret [2]))
.skip))
(.seq (.drawn [m 56 0,m 57 0,xl 58 5 3,xa 59 2 3,⟨(some 60),(.load false 1 (.t 59)),none,[7]⟩,o 61 (.nilck (.t 56)),xa 62 2 61,xs 5 62 58,o 63 (.nilck (.t 57)),xa 64 7 63,xs 1 64 60])
(Q [o 2 (.mv (ci 0))]
(.ret [2]))))))))⟩
/-! (*legate/read.values).value -/
def K_read_values_value : KF := ⟨1,104,[(.cell 2 true 5),(.tmp 3)],(Q [o 2 (.new [vu 0,vi 0,ve,.nils,.nils] none),o 3 (.mv (ci 0))]
(.seq (Q [m 6 0,o 7 (.nilck (.t 6)),xa 8 0 7,xa 9 2 8,xa 10 0 9,xf 11 10]
(.block 0
(.seq (Q [o 16 (.bin .eql 0 true (.t 11) (cu 1)),m 15 16]
(.cond (.t 15)
.skip
(Q [o 17 (.bin .eql 0 true (.t 11) (cu 3)),m 15 17]
(.cond (.t 15)
.skip
(Q [o 18 (.bin .eql 0 true (.t 11) (cu 7)),m 15 18]
(.cond (.t 15)
.skip
(Q [o 19 (.bin .eql 0 true (.t 11) (cu 8)),m 15 19]
(.cond (.t 15)
.skip
(Q [o 20 (.bin .eql 0 true (.t 11) (cu 9)),m 15 20]
(.cond (.t 15)
.skip
(.ops [o 21 (.bin .eql 0 true (.t 11) (cu 10)),m 15 21])))))))))))
(.cond (.t 15)
.skip
(Q [o 12 (.build [vu 0,vi 0,ve,.nils,.nils] []),m 13 0,o 14 (.callF f_read_values_wrong [.t 13]),xs 5 2 12,m 3 14]
(.ret [2,3]))))))
(.seq (Q [m 22 0,o 23 (.nilck (.t 22)),xa 24 8 23,xf 25 24,o 26 (.bin .geq 0 true (.t 25) (ci 8192))]
(.cond (.t 26)
(Q [o 27 (.build [vu 0,vi 0,ve,.nils,.nils] []),xs 5 2 27,o 3 (.mv (ci 5))]
(.ret [2,3]))
.skip))
(Q [m 28 0,o 29 (.nilck (.t 28)),xa 30 8 29,xf 31 30,o 32 (.bin .add 0 true (.t 31) (ci 1)),o 33 (.nilck (.t 28)),xa 34 8 33,xs 1 34 32]
(.seq (Q [m 35 0,o 36 (.nilck (.t 35)),xa 37 0 36,xa 38 2 37,xa 39 0 38,xf 40 39]
(.block 1
(Q [o 42 (.bin .eql 0 true (.t 40) (cu 7)),m 41 42]
(.cond (.t 41)
(Q [o 43 (.build [vu 0,vi 0,ve,.nils,.nils] [(0,1,(cu 1)),(1,1,(ci 1))]),xs 5 2 43,o 3 (.mv (ci 0))]
(.ret [2,3]))
(Q [o 45 (.bin .eql 0 true (.t 40) (cu 8)),m 44 45]
(.cond (.t 44)
(Q [o 46 (.build [vu 0,vi 0,ve,.nils,.nils] [(0,1,(cu 1))]),xs 5 2 46,o 3 (.mv (ci 0))]
(.ret [2,3]))
(Q [o 48 (.bin .eql 0 true (.t 40) (cu 9)),m 47 48]
(.cond (.t 47)
(Q [m 49 0,o 50 (.nilck (.t 49)),xa 51 0 50,xa 52 2 51,xa 53 3 52,xf 54 53,o 55 (.build [vu 0,vi 0,ve,.nils,.nils] [(0,1,(cu 2)),(1,1,(.t 54))]),xs 5 2 55,o 3 (.mv (ci 0))]
(.ret [2,3]))
(Q [o 57 (.bin .eql 0 true (.t 40) (cu 10)),m 56 57]
(.cond (.t 56)
(Q [m 58 0,o 59 (.nilck (.t 58)),xa 60 0 59,xa 61 2 60,xa 62 4 61,xf 63 62,o 64 (.build [vu 0,vi 0,ve,.nils,.nils] [(0,1,(cu 3)),(2,1,(.t 63))]),xs 5 2 64,o 3 (.mv (ci 0))]
(.ret [2,3]))
.skip))))))))))
(.seq (Q [m 65 0,o 66 (.nilck (.t 65)),xa 67 9 66,xf 68 67,o 69 (.bin .geq 0 true (.t 68) (ci 12))]
(.cond (.t 69)
(Q [o 70 (.build [vu 0,vi 0,ve,.nils,.nils] []),xs 5 2 70,o 3 (.mv (ci 8))]
(.ret [2,3]))
.skip))
(Q [m 71 0,o 72 (.nilck (.t 71)),xa 73 9 72,xf 74 73,o 75 (.bin .add 0 true (.t 74) (ci 1)),o 76 (.nilck (.t 71)),xa 77 9 76,xs 1 77 75]
(Q [o 4 (.new [vu 0,vi 0,ve,.nils,.nils] none)]
(Q [o 5 (.mv (ci 0))]
(.seq (Q [m 78 0,o 79 (.nilck (.t 78)),xa 80 0 79,xa 81 2 80,xa 82 0 81,xf 83 82,o 84 (.bin .eql 0 true (.t 83) (cu 3))]
(.cond (.t 84)
(.ops [m 86 0,o 87 (.callF f_read_values_list [.t 86]),m 85 87,xe 88 85 0,xe 89 85 1,xs 5 4 88,m 5 89])
(.ops [m 91 0,o 92 (.callF f_read_values_object [.t 91]),m 90 92,xe 93 90 0,xe 94 90 1,xs 5 4 93,m 5 94])))
(Q [m 95 0,o 96 (.nilck (.t 95)),xa 97 9 96,xf 98 97,o 99 (.bin .sub 0 true (.t 98) (ci 1)),o 100 (.nilck (.t 95)),xa 101 9 100,xs 1 101 99]
(Q [xl 102 5 4,m 103 5,xs 5 2 102,m 3 103]
(.ret [2,3])))))))))))))⟩
/-! (*legate/pick.Obj).List -/
def K_pick_Obj_List : KF := ⟨3,11,[(.tmp 6)],(Q [o 5 (.box (.t 2)),o 6 (.mv (.c .nils))]
(Q [m 7 0,m 8 1,o 9 (.mkFunc (.func f_pick_Obj_List_1) [] [.t 5]),o 10 (.callF f_pick_take_api_Value_278 [.t 7,.t 8,.t 9]),m 6 10]
(.ret [6])))⟩
/-! legate/sign.sigOf -/
def K_sign_sigOf : KF := ⟨1,25,[(.cell 2 true 2),(.tmp 3)],(Q [o 1 (.box (.t 0)),o 2 (.new [ve,ve] none),o 3 (.mv (ci 0))]
(Q [xl 7 5 1,o 8 (.callF f_pick_Of [.t 7]),m 4 8]
(Q [m 9 4,o 10 (.callF f_pick_Obj_Text [.t 9,cs [107,101,121,105,100]]),m 11 4,o 12 (.callF f_pick_Obj_Text [.t 11,cs [115,105,103]]),o 13 (.build [ve,ve] [(0,1,(.t 10)),(1,1,(.t 12))]),o 5 (.new [ve,ve] none),xs 2 5 13]
(.seq (Q [m 14 4,o 15 (.callF f_pick_Obj_Done [.t 14]),m 6 15]
(Q [m 16 6,o 17 (.bin .neq 0 true (.t 16) (ci 0))]
(.cond (.t 17)
(Q [o 18 (.build [ve,ve] []),m 19 6,xs 2 2 18,m 3 19]
(.ret [2,3]))
.skip)))
(.seq (Q [xl 20 2 5,o 21 (.callF f_sign_maySig [.t 20]),o 22 (.un .not (.t 21))]
(.cond (.t 22)
(Q [o 23 (.build [ve,ve] []),xs 2 2 23,o 3 (.mv (ci 3))]
(.ret [2,3]))
.skip))
(Q [xl 24 2 5,xs 2 2 24,o 3 (.mv (ci 0))]
(.ret [2,3])))))))⟩
/-! legate/pick.take[string] -/
def K_pick_take_string : KF := ⟨3,50,[(.tmp 6)],(Q [o 6 (.mv (cs []))]
(Q [o 7 (.mv (cs []))]
(.seq (Q [m 12 0,o 13 (.callF f_pick_Obj_Err [.t 12]),o 14 (.bin .neq 0 true (.t 13) (ci 0))]
(.cond (.t 14)
(Q [m 15 7,m 6 15]
(.ret [6]))
.skip))
(Q [m 17 0,o 18 (.nilck (.t 17)),xa 19 0 18,xl 20 5 19,m 21 1,o 22 (.callF f_value_Get [.t 20,.t 21]),m 16 22,xe 23 16 0,xe 24 16 1,o 8 (.new [vu 0,vi 0,ve,.nils,.nils] none),xs 5 8 23,m 9 24]
(.seq (Q [m 25 9,o 26 (.un .not (.t 25))]
(.cond (.t 26)
(Q [m 27 0,o 28 (.callF f_pick_Obj_Fail [.t 27,ci 6])]
(Q [m 29 7,m 6 29]
(.ret [6])))
.skip))
(Q [m 31 2,xl 32 5 8,o 33 (.callV (.t 31) [.t 32]),m 30 33,xe 34 30 0,xe 35 30 1,m 10 34,m 11 35]
(.seq (Q [m 36 11,o 37 (.bin .neq 0 true (.t 36) (ci 0))]
(.cond (.t 37)
(Q [m 38 0,m 39 11,o 40 (.callF f_pick_Obj_Fail [.t 38,.t 39])]
(Q [m 41 7,m 6 41]
(.ret [6])))
.skip))
(Q [m 42 0,o 43 (.nilck (.t 42)),xa 44 5 43,xf 45 44,m 46 1,o 47 (.lookup (vi 0) (.t 45) (.t 46) false),o 48 (.bin .add 0 true (.t 47) (ci 1)),u (.mapUpd (.t 45) (.t 46) (.t 48))]
(Q [m 49 10,m 6 49]
(.ret [6]))))))))))⟩
/-! (*legate/pick.Obj).Text$1 -/
def K_pick_Obj_Text_1 : KF := ⟨1,9,[(.tmp 2),(.tmp 3)],(Q [o 1 (.box (.t 0)),o 2 (.mv (cs [])),o 3 (.mv (ci 0))]
(.seq (Q [xa 4 0 1,xf 5 4,o 6 (.bin .neq 0 true (.t 5) (cu 3))]
(.cond (.t 6)
(Q [o 2 (.mv (cs [])),o 3 (.mv (ci 10))]
(.ret [2,3]))
.skip))
(Q [xa 7 2 1,xf 8 7,m 2 8,o 3 (.mv (ci 0))]
(.ret [2,3]))))⟩
/-! (*legate/pick.Obj).Err -/
def K_pick_Obj_Err : KF := ⟨1,22,[(.tmp 2)],(Q [o 2 (.mv (ci 0))]
(.seq (Q [m 3 0,o 4 (.bin .eql 3 true (.t 3) (.c .nilp))]
(.cond (.t 4)
(Q [o 2 (.mv (ci 2))]
(.ret [2]))
.skip))
(.seq (Q [m 5 0,o 6 (.nilck (.t 5)),xa 7 6 6,xf 8 7,o 9 (.bin .eql 0 true (.t 8) (ci 0)),m 10 9,og 11 10 true (.mv (.t 0)),og 12 10 true (.nilck (.t 11)),og 13 10 true (.fieldAddr 0 (.t 12)),og 14 10 true (.fieldAddr 0 (.t 13)),og 15 10 true (.load false 1 (.t 14)),og 16 10 true (.bin .neq 0 true (.t 15) (cu 5)),o 17 (.pick (.t 10) (.t 16) (.c (.bool false)))]
(.cond (.t 17)
(Q [o 2 (.mv (ci 10))]
(.ret [2]))
.skip))
(Q [m 18 0,o 19 (.nilck (.t 18)),xa 20 6 19,xf 21 20,m 2 21]
(.ret [2])))))⟩
/-! legate/pick.take[int64] -/
def K_pick_take_int64 : KF := ⟨3,50,[(.tmp 6)],(Q [o 6 (.mv (ci 0))]
(Q [o 7 (.mv (ci 0))]
(.seq (Q [m 12 0,o 13 (.callF f_pick_Obj_Err [.t 12]),o 14 (.bin .neq 0 true (.t 13) (ci 0))]
(.cond (.t 14)
(Q [m 15 7,m 6 15]
(.ret [6]))
.skip))
(Q [m 17 0,o 18 (.nilck (.t 17)),xa 19 0 18,xl 20 5 19,m 21 1,o 22 (.callF f_value_Get [.t 20,.t 21]),m 16 22,xe 23 16 0,xe 24 16 1,o 8 (.new [vu 0,vi 0,ve,.nils,.nils] none),xs 5 8 23,m 9 24]
(.seq (Q [m 25 9,o 26 (.un .not (.t 25))]
(.cond (.t 26)
(Q [m 27 0,o 28 (.callF f_pick_Obj_Fail [.t 27,ci 6])]
(Q [m 29 7,m 6 29]
(.ret [6])))
.skip))
(Q [m 31 2,xl 32 5 8,o 33 (.callV (.t 31) [.t 32]),m 30 33,xe 34 30 0,xe 35 30 1,m 10 34,m 11 35]
(.seq (Q [m 36 11,o 37 (.bin .neq 0 true (.t 36) (ci 0))]
(.cond (.t 37)
(Q [m 38 0,m 39 11,o 40 (.callF f_pick_Obj_Fail [.t 38,.t 39])]
(Q [m 41 7,m 6 41]
(.ret [6])))
.skip))
(Q [m 42 0,o 43 (.nilck (.t 42)),xa 44 5 43,xf 45 44,m 46 1,o 47 (.lookup (vi 0) (.t 45) (.t 46) false),o 48 (.bin .add 0 true (.t 47) (ci 1)),u (.mapUpd (.t 45) (.t 46) (.t 48))]
(Q [m 49 10,m 6 49]
(.ret [6]))))))))))⟩
/-! (*legate/pick.Obj).Num$1 -/
def K_pick_Obj_Num_1 : KF := ⟨3,21,[(.tmp 4),(.tmp 5)],(Q [o 3 (.box (.t 0)),o 4 (.mv (ci 0)),o 5 (.mv (ci 0))]
(.seq (Q [xa 6 0 3,xf 7 6,o 8 (.bin .neq 0 true (.t 7) (cu 2))]
(.cond (.t 8)
(Q [o 4 (.mv (ci 0)),o 5 (.mv (ci 10))]
(.ret [4,5]))
.skip))
(.seq (Q [xa 9 1 3,xf 10 9,xf 11 1,o 12 (.bin .lss 0 false (.t 10) (.t 11)),m 13 12,og 14 13 false (.fieldAddr 1 (.t 3)),og 15 13 false (.load false 1 (.t 14)),og 16 13 false (.load false 1 (.t 2)),og 17 13 false (.bin .gtr 0 false (.t 15) (.t 16)),o 18 (.pick (.t 13) (.c (.bool true)) (.t 17))]
(.cond (.t 18)
(Q [o 4 (.mv (ci 0)),o 5 (.mv (ci 1))]
(.ret [4,5]))
.skip))
(Q [xa 19 1 3,xf 20 19,m 4 20,o 5 (.mv (ci 0))]
(.ret [4,5])))))⟩
/-! legate/when.digits -/
def L_when_digits_0 : KC :=
(Q [o 8 (.bin .lss 0 false (.t 7) (.t 6))]
(.seq (.cond (.t 8)
.skip
(.exit [3] 0))
(.seq (.block 1
(Q [m 9 7,m 4 9]
(.seq (Q [m 10 0,m 11 4,o 12 (.idxStr (.t 10) (.t 11)),o 13 (.bin .lss 0 true (.t 12) (cu 48)),m 14 13,og 15 14 false (.mv (.t 0)),og 16 14 false (.mv (.t 4)),og 17 14 false (.idxStr (.t 15) (.t 16)),og 18 14 false (.bin .gtr 0 true (.t 17) (cu 57)),o 19 (.pick (.t 14) (.c (.bool true)) (.t 18))]
(.cond (.t 19)
(Q [o 2 (.mv (ci (-1)))]
(.ret [2]))
.skip))
(.ops [m 20 3,o 21 (.bin .mul 0 true (ci 10) (.t 20)),m 22 0,m 23 4,o 24 (.idxStr (.t 22) (.t 23)),o 25 (.bin .sub 0 true (.t 24) (cu 48)),o 26 (.i2i .i64 (.t 25)),o 27 (.bin .add 0 false (.t 21) (.t 26)),m 3 27]))))
(.ops [o 28 (.bin .add 0 true (.t 7) (ci 1)),m 7 28]))))
def K_when_digits : KF := ⟨1,30,[(.tmp 2)],(Q [o 2 (.mv (ci 0))]
(Q [o 3 (.mv (ci 0))]
(.seq (Q [m 5 0,o 6 (.len 0 (.t 5)),o 7 (.mv (ci 0))]
(.block 0
(.loop [0,3,6,7] L_when_digits_0)))
(Q [m 29 3,m 2 29]
(.ret [2])))))⟩
/-! legate/when.upTo -/
def K_when_upTo : KF := ⟨2,12,[(.tmp 4)],(Q [o 4 (.mv (.c (.bool false)))]
(Q [m 5 0,o 6 (.bin .geq 0 true (.t 5) (ci 0)),m 7 6,og 8 7 true (.mv (.t 0)),og 9 7 true (.mv (.t 1)),og 10 7 true (.bin .leq 0 false (.t 8) (.t 9)),o 11 (.pick (.t 7) (.t 10) (.c (.bool false))),m 4 11]
(.ret [4])))⟩
/-! legate/key.Of -/
def K_key_Of : KF := ⟨1,29,[(.cell 2 true 2),(.tmp 3)],(Q [o 1 (.box (.t 0)),o 2 (.new [ve,ve] none),o 3 (.mv (ci 0))]
(.seq (Q [xl 7 5 1,o 8 (.callF f_value_May [.t 7]),o 9 (.un .not (.t 8))]
(.cond (.t 9)
(Q [o 10 (.build [ve,ve] []),xs 2 2 10,o 3 (.mv (ci 3))]
(.ret [2,3]))
.skip))
(Q [xl 11 5 1,o 12 (.callF f_pick_Of [.t 11]),m 4 12]
(Q [m 13 4,o 14 (.callF f_pick_Obj_Text [.t 13,cs [112,117,98,108,105,99]]),m 15 4,o 16 (.callF f_pick_Obj_Text [.t 15,cs [115,99,104,101,109,101]]),o 17 (.build [ve,ve] [(1,1,(.t 14)),(0,1,(.t 16))]),o 5 (.new [ve,ve] none),xs 2 5 17]
(.seq (Q [m 18 4,o 19 (.callF f_pick_Obj_Done [.t 18]),m 6 19]
(Q [m 20 6,o 21 (.bin .neq 0 true (.t 20) (ci 0))]
(.cond (.t 21)
(Q [o 22 (.build [ve,ve] []),m 23 6,xs 2 2 22,m 3 23]
(.ret [2,3]))
.skip)))
(.seq (Q [xl 24 2 5,o 25 (.callF f_key_May [.t 24]),o 26 (.un .not (.t 25))]
(.cond (.t 26)
(Q [o 27 (.build [ve,ve] []),xs 2 2 27,o 3 (.mv (ci 3))]
(.ret [2,3]))
.skip))
(Q [xl 28 2 5,xs 2 2 28,o 3 (.mv (ci 0))]
(.ret [2,3]))))))))⟩
/-! legate/pick.take[legate/api.Value] -/
def K_pick_take_api_Value : KF := ⟨3,50,[(.cell 6 true 5)],(Q [o 6 (.new [vu 0,vi 0,ve,.nils,.nils] none)]
(Q [o 7 (.new [vu 0,vi 0,ve,.nils,.nils] none)]
(.seq (Q [m 12 0,o 13 (.callF f_pick_Obj_Err [.t 12]),o 14 (.bin .neq 0 true (.t 13) (ci 0))]
(.cond (.t 14)
(Q [xl 15 5 7,xs 5 6 15]
(.ret [6]))
.skip))
(Q [m 17 0,o 18 (.nilck (.t 17)),xa 19 0 18,xl 20 5 19,m 21 1,o 22 (.callF f_value_Get [.t 20,.t 21]),m 16 22,xe 23 16 0,xe 24 16 1,o 8 (.new [vu 0,vi 0,ve,.nils,.nils] none),xs 5 8 23,m 9 24]
(.seq (Q [m 25 9,o 26 (.un .not (.t 25))]
(.cond (.t 26)
(Q [m 27 0,o 28 (.callF f_pick_Obj_Fail [.t 27,ci 6])]
(Q [xl 29 5 7,xs 5 6 29]
(.ret [6])))
.skip))
(Q [m 31 2,xl 32 5 8,o 33 (.callV (.t 31) [.t 32]),m 30 33,xe 34 30 0,xe 35 30 1,o 10 (.new [vu 0,vi 0,ve,.nils,.nils] none),xs 5 10 34,m 11 35]
(.seq (Q [m 36 11,o 37 (.bin .neq 0 true (.t 36) (ci 0))]
(.cond (.t 37)
(Q [m 38 0,m 39 11,o 40 (.callF f_pick_Obj_Fail [.t 38,.t 39])]
(Q [xl 41 5 7,xs 5 6 41]
(.ret [6])))
.skip))
(Q [m 42 0,o 43 (.nilck (.t 42)),xa 44 5 43,xf 45 44,m 46 1,o 47 (.lookup (vi 0) (.t 45) (.t 46) false),o 48 (.bin .add 0 true (.t 47) (ci 1)),u (.mapUpd (.t 45) (.t 46) (.t 48))]
(Q [xl 49 5 10,xs 5 6 49]
(.ret [6]))))))))))⟩
/-! (*legate/pick.Obj).Object$1 -/
def K_pick_Obj_Object_1 : KF := ⟨2,16,[(.cell 3 true 5),(.tmp 4)],(Q [o 2 (.box (.t 0)),o 3 (.new [vu 0,vi 0,ve,.nils,.nils] none),o 4 (.mv (ci 0))]
(.seq (Q [xa 5 0 2,xf 6 5,o 7 (.bin .neq 0 true (.t 6) (cu 5))]
(.cond (.t 7)
(Q [o 8 (.build [vu 0,vi 0,ve,.nils,.nils] []),xs 5 3 8,o 4 (.mv (ci 10))]
(.ret [3,4]))
.skip))
(.seq (Q [xa 9 4 2,xf 10 9,o 11 (.len 1 (.t 10)),xf 12 1,o 13 (.bin .gtr 0 false (.t 11) (.t 12))]
(.cond (.t 13)
(Q [o 14 (.build [vu 0,vi 0,ve,.nils,.nils] []),xs 5 3 14,o 4 (.mv (ci 5))]
(.ret [3,4]))
.skip))
(Q [xl 15 5 2,xs 5 3 15,o 4 (.mv (ci 0))]
(.ret [3,4])))))⟩
/-! legate/auth.Of -/
def K_auth_Of : KF := ⟨1,22,[(.cell 2 true 2),(.tmp 3)],(Q [o 1 (.box (.t 0)),o 2 (.new [vi 0,.nils] none),o 3 (.mv (ci 0))]
(.seq (Q [xl 7 5 1,o 8 (.callF f_value_May [.t 7]),o 9 (.un .not (.t 8))]
(.cond (.t 9)
(Q [o 10 (.build [vi 0,.nils] []),xs 2 2 10,o 3 (.mv (ci 3))]
(.ret [2,3]))
.skip))
(Q [xl 11 5 1,o 12 (.callF f_pick_Of [.t 11]),m 4 12]
(Q [m 13 4,o 14 (.callF f_auth_Part [.t 13]),o 5 (.new [vi 0,.nils] none),xs 2 5 14]
(.seq (Q [m 15 4,o 16 (.callF f_pick_Obj_Done [.t 15]),m 6 16]
(Q [m 17 6,o 18 (.bin .neq 0 true (.t 17) (ci 0))]
(.cond (.t 18)
(Q [o 19 (.build [vi 0,.nils] []),m 20 6,xs 2 2 19,m 3 20]
(.ret [2,3]))
.skip)))
(Q [xl 21 2 5,xs 2 2 21,o 3 (.mv (ci 0))]
(.ret [2,3])))))))⟩
/-! legate/key.Find -/
def L_key_Find_0 : KC :=
(Q [o 13 (.bin .lss 0 false (.t 12) (.t 11))]
(.seq (.cond (.t 13)
.skip
(.exit [4] 0))
(.seq (.block 1
(Q [o 14 (.idxAddrSl 2 (.t 10) (.t 12)),xl 15 2 14,o 7 (.new [ve,ve] none),xs 2 7 15]
(Q [xl 17 2 7,o 18 (.callF f_key_ID [.t 17]),m 16 18,xe 19 16 0,xe 20 16 1,m 8 19,m 9 20]
(Q [m 21 9,o 22 (.bin .eql 0 true (.t 21) (ci 0)),m 23 22,og 24 23 true (.mv (.t 8)),og 25 23 true (.mv (.t 1)),og 26 23 true (.bin .eql 0 false (.t 24) (.t 25)),o 27 (.pick (.t 23) (.t 26) (.c (.bool false)))]
(.cond (.t 27)
(Q [xl 28 2 7,xs 2 4 28,o 5 (.mv (.c (.bool true)))]
(.ret [4,5]))
.skip)))))
(.ops [o 29 (.bin .add 0 true (.t 12) (ci 1)),m 12 29]))))
def K_key_Find : KF := ⟨2,31,[(.cell 4 true 2),(.tmp 5)],(Q [o 4 (.new [ve,ve] none),o 5 (.mv (.c (.bool false)))]
(.seq (Q [m 10 0,o 11 (.len 1 (.t 10)),o 12 (.mv (ci 0))]
(.block 0
(.loop [1,4,10,11,12] L_key_Find_0)))
(Q [o 30 (.build [ve,ve] []),xs 2 4 30,o 5 (.mv (.c (.bool false)))]
(.ret [4,5]))))⟩
/-! (*legate/judge.Verifier).has -/
def L_judge_Verifier_has_0 : KC :=
(Q [o 16 (.bin .lss 0 false (.t 15) (.t 14))]
(.seq (.cond (.t 16)
.skip
(.exit [] 0))
(.seq (.block 1
(Q [o 17 (.idxAddrSl 2 (.t 13) (.t 15)),xl 18 2 17,o 12 (.new [ve,ve] none),xs 2 12 18]
(Q [xa 19 0 12,xf 20 19,m 21 2,o 22 (.bin .eql 0 false (.t 20) (.t 21)),m 23 22,og 24 23 true (.mv (.t 0)),og 25 23 true (.load true 2 (.t 6)),og 26 23 true (.load true 2 (.t 12)),og 27 23 true (.mv (.t 4)),og 28 23 true (.callF f_judge_Verifier_Good [.t 24,.t 25,.t 26,.t 27]),o 29 (.pick (.t 23) (.t 28) (.c (.bool false)))]
(.cond (.t 29)
(Q [o 10 (.mv (.c (.bool true)))]
(.ret [10]))
.skip))))
(.ops [o 30 (.bin .add 0 true (.t 15) (ci 1)),m 15 30]))))
def K_judge_Verifier_has : KF := ⟨5,31,[(.tmp 10)],(Q [o 6 (.box (.t 1)),o 10 (.mv (.c (.bool false)))]
(.seq (Q [m 13 3,o 14 (.len 1 (.t 13)),o 15 (.mv (ci 0))]
(.block 0
(.loop [0,2,4,6,13,14,15] L_judge_Verifier_has_0)))
(Q [o 10 (.mv (.c (.bool false)))]
(.ret [10]))))⟩
/-! legate/snap.parseType -/
def K_snap_parseType : KF := ⟨2,9,[],(Q [m 4 0,o 5 (.callF f_pick_Obj_Text [.t 4,cs [95,116,121,112,101]]),o 6 (.bin .neq 0 true (.t 5) (cs [115,110,97,112,115,104,111,116]))]
(.cond (.t 6)
(.ops [m 7 0,o 8 (.callF f_pick_Obj_Fail [.t 7,ci 13])])
.skip))⟩
/-! legate/snap.parseVersion -/
def K_snap_parseVersion : KF := ⟨2,9,[],(.ops [m 4 1,m 5 0,o 6 (.callF f_pick_Obj_Num [.t 5,cs [118,101,114,115,105,111,110],ci 1,ci 1099511627776]),o 7 (.nilck (.t 4)),xa 8 0 7,xs 1 8 6])⟩
/-! legate/snap.parseExpires -/
def K_snap_parseExpires : KF := ⟨2,19,[],(Q [m 7 0,o 8 (.callF f_pick_Obj_Text [.t 7,cs [101,120,112,105,114,101,115]]),o 9 (.callF f_when_Read [.t 8]),m 6 9,xe 10 6 0,xe 11 6 1,m 4 10,m 5 11]
(Q [m 12 0,m 13 5,o 14 (.callF f_pick_Obj_Fail [.t 12,.t 13])]
(.ops [m 15 1,m 16 4,o 17 (.nilck (.t 15)),xa 18 1 17,xs 1 18 16])))⟩
/-! legate/snap.parseMeta -/
def L_snap_parseMeta_0 : KC :=
(Q [o 15 (.bin .lss 0 false (.t 14) (.t 13))]
(.seq (.cond (.t 15)
.skip
(.exit [] 0))
(.seq (.block 1
(Q [m 16 14,o 17 (.idxAddrSl 1 (.t 12) (.t 14)),xf 18 17,m 5 16,m 6 18]
(Q [m 20 6,xa 21 4 4,xf 22 21,m 23 5,o 24 (.idxAddrSl 5 (.t 22) (.t 23)),xl 25 5 24,o 26 (.callF f_snap_PinOf [.t 20,.t 25]),m 19 26,xe 27 19 0,xe 28 19 1,o 7 (.new [ve,vi 0,vi 0,.nils] none),xs 4 7 27,m 8 28]
(.seq (Q [m 29 8,o 30 (.bin .neq 0 true (.t 29) (ci 0))]
(.cond (.t 30)
(Q [m 31 0,m 32 8,o 33 (.callF f_pick_Obj_Fail [.t 31,.t 32])]
(.ret []))
.skip))
(.plain [m 34 1,m 35 1,o 36 (.nilck (.t 35)),xa 37 2 36,xf 38 37,xl 39 4 7,o 40 (.buildSl [ve,vi 0,vi 0,.nils] 1 4 [(0,4,(.t 39))]),o 41 (.app false 4 56 none (.t 38) (.t 40)),o 42 (.nilck (.t 34)),xa 43 2 42,xs 1 43 41])))))
(.ops [o 44 (.bin .add 0 true (.t 14) (ci 1)),m 14 44]))))
def K_snap_parseMeta : KF := ⟨2,45,[],(Q [m 9 0,o 10 (.callF f_pick_Obj_Object [.t 9,cs [109,101,116,97],ci 256]),o 4 (.new [vu 0,vi 0,ve,.nils,.nils] none),xs 5 4 10]
(Q [xa 11 3 4,xf 12 11,o 13 (.len 1 (.t 12)),o 14 (.mv (ci 0))]
(.block 0
(.loop [0,1,4,12,13,14] L_snap_parseMeta_0))))⟩
/-! internal/strconv.FormatInt -/
def K_internal_strconv_FormatInt : KF := ⟨2,54,[(.tmp 4)],(Q [o 4 (.mv (cs []))]
(.seq (Q [m 10 1,o 11 (.bin .eql 0 true (.t 10) (ci 10))]
(.cond (.t 11)
(.seq (Q [m 12 0,o 13 (.bin .leq 0 true (ci 0) (.t 12)),m 14 13,og 15 14 true (.mv (.t 0)),og 16 14 true (.bin .lss 0 true (.t 15) (ci 100)),o 17 (.pick (.t 14) (.t 16) (.c (.bool false)))]
(.cond (.t 17)
(Q [m 18 0,o 19 (.callF f_internal_strconv_small [.t 18]),m 4 19]
(.ret [4]))
.skip))
(Q [o 5 (.new (rp 24 (vu 0)) none)]
(Q [m 20 0,o 21 (.i2i .u64 (.t 20)),m 6 21]
(.seq (Q [m 22 0,o 23 (.bin .lss 0 true (.t 22) (ci 0))]
(.cond (.t 23)
(.ops [m 24 6,o 25 (.un .neg (.t 24)),m 6 25])
.skip))
(Q [m 26 6,o 27 (.callF f_internal_strconv_numDigits [.t 26]),m 7 27]
(Q [m 28 7,o 29 (.bin .add 0 true (ci 1) (.t 28)),o 30 (.sliceArr 24 1 (.t 5) (some (ci 1)) (some (.t 29)) none),m 31 6,o 32 (.callF f_internal_strconv_formatBase10 [.t 30,.t 31])]
(.seq (Q [m 33 0,o 34 (.bin .lss 0 true (.t 33) (ci 0))]
(.cond (.t 34)
(Q [o 35 (.idxAddrArr 24 1 (.t 5) (ci 0)),u (.store 1 (.t 35) (cu 45))]
(Q [m 36 7,o 37 (.bin .add 0 true (ci 1) (.t 36)),o 38 (.sliceArr 24 1 (.t 5) none (some (.t 37)) none),o 39 (.b2s (.t 38)),m 4 39]
(.ret [4])))
.skip))
(Q [m 40 7,o 41 (.bin .add 0 true (ci 1) (.t 40)),o 42 (.sliceArr 24 1 (.t 5) (some (ci 1)) (some (.t 41)) none),o 43 (.b2s (.t 42)),m 4 43]
(.ret [4])))))))))
.skip))
(Q [m 45 0,o 46 (.i2i .u64 (.t 45)),m 47 1,m 48 0,o 49 (.bin .lss 0 true (.t 48) (ci 0)),o 50 (.callF f_internal_strconv_formatBits [(.c .nils),.t 46,.t 47,.t 49,(.c (.bool false))]),m 44 50,xe 51 44 0,xe 52 44 1,m 8 51,m 9 52]
(Q [m 53 9,m 4 53]
(.ret [4])))))⟩
/-! legate/value.Get -/
def K_value_Get : KF := ⟨2,35,[(.cell 4 true 5),(.tmp 5)],(Q [o 2 (.box (.t 0)),o 4 (.new [vu 0,vi 0,ve,.nils,.nils] none),o 5 (.mv (.c (.bool false)))]
(.seq (Q [xa 8 0 2,xf 9 8,o 10 (.bin .neq 0 true (.t 9) (cu 5))]
(.cond (.t 10)
(Q [o 11 (.build [vu 0,vi 0,ve,.nils,.nils] []),xs 5 4 11,o 5 (.mv (.c (.bool false)))]
(.ret [4,5]))
.skip))
(Q [xa 13 3 2,xf 14 13,m 15 1,o 16 (.callF f_value_find [.t 14,.t 15]),m 12 16,xe 17 12 0,xe 18 12 1,m 6 17,m 7 18]
(.seq (Q [m 19 7,o 20 (.un .not (.t 19)),m 21 20,og 22 21 false (.mv (.t 6)),og 23 21 false (.fieldAddr 4 (.t 2)),og 24 21 false (.load false 1 (.t 23)),og 25 21 false (.len 1 (.t 24)),og 26 21 false (.bin .geq 0 false (.t 22) (.t 25)),o 27 (.pick (.t 21) (.c (.bool true)) (.t 26))]
(.cond (.t 27)
(Q [o 28 (.build [vu 0,vi 0,ve,.nils,.nils] []),xs 5 4 28,o 5 (.mv (.c (.bool false)))]
(.ret [4,5]))
.skip))
(Q [xa 29 4 2,xf 30 29,m 31 6,o 32 (.idxAddrSl 5 (.t 30) (.t 31)),xl 33 5 32,o 34 (.callF f_value_Copy [.t 33]),xs 5 4 34,o 5 (.mv (.c (.bool true)))]
(.ret [4,5]))))))⟩
/-! internal/stringslite.CutSuffix -/
def K_internal_stringslite_CutSuffix : KF := ⟨2,18,[(.tmp 4),(.tmp 5)],(Q [o 4 (.mv (cs [])),o 5 (.mv (.c (.bool false)))]
(.seq (Q [m 6 0,m 7 1,o 8 (.callF f_internal_stringslite_HasSuffix [.t 6,.t 7]),o 9 (.un .not (.t 8))]
(.cond (.t 9)
(Q [m 10 0,m 4 10,o 5 (.mv (.c (.bool false)))]
(.ret [4,5]))
.skip))
(Q [m 11 0,m 12 0,o 13 (.len 0 (.t 12)),m 14 1,o 15 (.len 0 (.t 14)),o 16 (.bin .sub 0 false (.t 13) (.t 15)),o 17 (.sliceStr (.t 11) none (some (.t 16))),m 4 17,o 5 (.mv (.c (.bool true)))]
(.ret [4,5]))))⟩
/-! legate/value.written -/
def K_value_written : KF := ⟨1,10,[(.tmp 2)],(Q [o 2 (.mv (.c (.bool false)))]
(Q [m 3 0,o 4 (.len 0 (.t 3)),o 5 (.bin .leq 0 true (.t 4) (ci 4096)),m 6 5,og 7 6 true (.mv (.t 0)),og 8 6 true (.callF f_utf_Valid [.t 7]),o 9 (.pick (.t 6) (.t 8) (.c (.bool false))),m 2 9]
(.ret [2])))⟩
/-! legate/value.ascending -/
def L_value_ascending_0 : KC :=
(.seq (Q [m 4 3,m 5 0,o 6 (.len 1 (.t 5)),o 7 (.bin .lss 0 false (.t 4) (.t 6))]
(.cond (.t 7)
.skip
(.exit [] 0)))
(.seq (.block 1
(.seq (.plain [m 10 0,m 11 3,o 12 (.bin .sub 0 true (.t 11) (ci 1)),o 13 (.idxAddrSl 1 (.t 10) (.t 12)),xf 14 13,m 15 0,m 16 3,o 17 (.idxAddrSl 1 (.t 15) (.t 16)),xf 18 17,o 19 (.bin .geq 0 false (.t 14) (.t 18))])
(.cond (.t 19)
(Q [o 2 (.mv (.c (.bool false)))]
(.ret [2]))
.skip)))
(.ops [m 8 3,o 9 (.bin .add 0 true (.t 8) (ci 1)),m 3 9])))
def K_value_ascending : KF := ⟨1,20,[(.tmp 2)],(Q [o 2 (.mv (.c (.bool false)))]
(.seq (Q [o 3 (.mv (ci 1))]
(.block 0
(.loop [0,3] L_value_ascending_0)))
(Q [o 2 (.mv (.c (.bool true)))]
(.ret [2]))))⟩
/-! legate/read.space -/
def K_read_space : KF := ⟨1,17,[(.tmp 2)],(Q [o 2 (.mv (.c (.bool false)))]
(Q [m 3 0,o 4 (.bin .eql 0 true (.t 3) (cu 32)),m 5 4,og 6 5 false (.mv (.t 0)),og 7 5 false (.bin .eql 0 true (.t 6) (cu 9)),o 8 (.pick (.t 5) (.c (.bool true)) (.t 7)),m 9 8,og 10 9 false (.mv (.t 0)),og 11 9 false (.bin .eql 0 true (.t 10) (cu 10)),o 12 (.pick (.t 9) (.c (.bool true)) (.t 11)),m 13 12,og 14 13 false (.mv (.t 0)),og 15 13 false (.bin .eql 0 true (.t 14) (cu 13)),o 16 (.pick (.t 13) (.c (.bool true)) (.t 15)),m 2 16]
(.ret [2])))⟩
/-! legate/lex.Next -/
def K_lex_Next : KF := ⟨2,24,[(.cell 4 true 5),(.tmp 5)],(Q [o 4 (.new [vu 0,vi 0,vi 0,vi 0,ve] none),o 5 (.mv (ci 0))]
(.seq (Q [m 7 1,o 8 (.bin .lss 0 true (.t 7) (ci 0)),m 9 8,og 10 9 false (.mv (.t 1)),og 11 9 false (.mv (.t 0)),og 12 9 false (.len 0 (.t 11)),og 13 9 false (.bin .gtr 0 false (.t 10) (.t 12)),o 14 (.pick (.t 9) (.c (.bool true)) (.t 13))]
(.cond (.t 14)
(Q [o 15 (.build [vu 0,vi 0,vi 0,vi 0,ve] []),xs 5 4 15,o 5 (.mv (ci 1))]
(.ret [4,5]))
.skip))
(Q [o 16 (.callF f_lex_rules []),o 6 (.new (rp 256 .nilFunc) none),xs 256 6 16]
(Q [m 17 0,m 18 0,m 19 1,o 20 (.callF f_lex_skip [.t 18,.t 19]),o 21 (.callF f_lex_token [.t 6,.t 17,.t 20]),xe 22 21 0,xe 23 21 1,xs 5 4 22,m 5 23]
(.ret [4,5])))))⟩
/-! (*legate/read.values).wrong -/
def K_read_values_wrong : KF := ⟨1,10,[(.tmp 2)],(Q [o 2 (.mv (ci 0))]
(.seq (Q [m 3 0,o 4 (.nilck (.t 3)),xa 5 0 4,xa 6 2 5,xa 7 0 6,xf 8 7,o 9 (.bin .eql 0 true (.t 8) (cu 11))]
(.cond (.t 9)
(Q [o 2 (.mv (ci 4))]
(.ret [2]))
.skip))
(Q [o 2 (.mv (ci 3))]
(.ret [2]))))⟩
/-! (*legate/read.values).list -/
def L_read_values_list_0 : KC :=
(.block 1
(Q [m 27 0,o 28 (.callF f_read_values_value [.t 27]),m 26 28,xe 29 26 0,xe 30 26 1,o 6 (.new [vu 0,vi 0,ve,.nils,.nils] none),xs 5 6 29,m 7 30]
(.seq (Q [m 31 7,o 32 (.bin .neq 0 true (.t 31) (ci 0))]
(.cond (.t 32)
(Q [o 33 (.build [vu 0,vi 0,ve,.nils,.nils] []),m 34 7,xs 5 2 33,m 3 34]
(.ret [2,3]))
.skip))
(Q [xa 35 4 4,xf 36 35,xl 37 5 6,o 38 (.buildSl [vu 0,vi 0,ve,.nils,.nils] 1 5 [(0,5,(.t 37))]),o 39 (.app false 5 80 none (.t 36) (.t 38)),xa 40 4 4,xs 1 40 39]
(Q [m 42 0,o 43 (.callF f_read_values_more [.t 42,cu 4]),m 41 43,xe 44 41 0,xe 45 41 1,m 8 44,m 7 45]
(.seq (Q [m 46 7,o 47 (.bin .neq 0 true (.t 46) (ci 0))]
(.cond (.t 47)
(Q [o 48 (.build [vu 0,vi 0,ve,.nils,.nils] []),m 49 7,xs 5 2 48,m 3 49]
(.ret [2,3]))
.skip))
(Q [m 50 8,o 51 (.un .not (.t 50))]
(.cond (.t 51)
(Q [xl 52 5 4,xs 5 2 52,o 3 (.mv (ci 0))]
(.ret [2,3]))
.skip))))))))
def K_read_values_list : KF := ⟨1,53,[(.cell 2 true 5),(.tmp 3)],(Q [o 2 (.new [vu 0,vi 0,ve,.nils,.nils] none),o 3 (.mv (ci 0))]
(Q [o 9 (.build [vu 0,vi 0,ve,.nils,.nils] [(0,1,(cu 4))]),o 4 (.new [vu 0,vi 0,ve,.nils,.nils] none),xs 5 4 9]
(.seq (Q [m 10 0,o 11 (.nilck (.t 10)),xa 12 0 11,o 13 (.callF f_read_tokens_next [.t 12]),m 5 13]
(Q [m 14 5,o 15 (.bin .neq 0 true (.t 14) (ci 0))]
(.cond (.t 15)
(Q [o 16 (.build [vu 0,vi 0,ve,.nils,.nils] []),m 17 5,xs 5 2 16,m 3 17]
(.ret [2,3]))
.skip)))
(.seq (Q [m 18 0,o 19 (.nilck (.t 18)),xa 20 0 19,xa 21 2 20,xa 22 0 21,xf 23 22,o 24 (.bin .eql 0 true (.t 23) (cu 4))]
(.cond (.t 24)
(Q [xl 25 5 4,xs 5 2 25,o 3 (.mv (ci 0))]
(.ret [2,3]))
.skip))
(.block 0
(.loop [0,2,4] L_read_values_list_0))))))⟩
/-! (*legate/read.values).object -/
def L_read_values_object_0 : KC :=
(.block 1
(Q [m 28 0,m 29 6,o 30 (.callF f_read_values_member [.t 28,.t 29]),m 27 30,xe 31 27 0,xe 32 27 1,o 7 (.new [ve,vu 0,vi 0,ve,.nils,.nils] none),xs 6 7 31,m 8 32]
(.seq (Q [m 33 8,o 34 (.bin .neq 0 true (.t 33) (ci 0))]
(.cond (.t 34)
(Q [o 35 (.build [vu 0,vi 0,ve,.nils,.nils] []),m 36 8,xs 5 2 35,m 3 36]
(.ret [2,3]))
.skip))
(Q [m 37 5,xl 38 6 7,o 39 (.buildSl [ve,vu 0,vi 0,ve,.nils,.nils] 1 6 [(0,6,(.t 38))]),o 40 (.app false 6 96 none (.t 37) (.t 39)),m 5 40]
(Q [m 41 6,xa 42 0 7,xf 43 42,o 44 (.lookup (vi 0) (.t 41) (.t 43) false),o 45 (.bin .add 0 true (.t 44) (ci 1)),u (.mapUpd (.t 41) (.t 43) (.t 45))]
(Q [m 47 0,o 48 (.callF f_read_values_more [.t 47,cu 2]),m 46 48,xe 49 46 0,xe 50 46 1,m 9 49,m 8 50]
(.seq (Q [m 51 8,o 52 (.bin .neq 0 true (.t 51) (ci 0))]
(.cond (.t 52)
(Q [o 53 (.build [vu 0,vi 0,ve,.nils,.nils] []),m 54 8,xs 5 2 53,m 3 54]
(.ret [2,3]))
.skip))
(Q [m 55 9,o 56 (.un .not (.t 55))]
(.cond (.t 56)
(Q [m 57 5,o 58 (.callF f_read_sorted [.t 57]),xs 5 2 58,o 3 (.mv (ci 0))]
(.ret [2,3]))
.skip)))))))))
def K_read_values_object : KF := ⟨1,59,[(.cell 2 true 5),(.tmp 3)],(Q [o 2 (.new [vu 0,vi 0,ve,.nils,.nils] none),o 3 (.mv (ci 0))]
(.seq (Q [m 10 0,o 11 (.nilck (.t 10)),xa 12 0 11,o 13 (.callF f_read_tokens_next [.t 12]),m 4 13]
(Q [m 14 4,o 15 (.bin .neq 0 true (.t 14) (ci 0))]
(.cond (.t 15)
(Q [o 16 (.build [vu 0,vi 0,ve,.nils,.nils] []),m 17 4,xs 5 2 16,m 3 17]
(.ret [2,3]))
.skip)))
(.seq (Q [m 18 0,o 19 (.nilck (.t 18)),xa 20 0 19,xa 21 2 20,xa 22 0 21,xf 23 22,o 24 (.bin .eql 0 true (.t 23) (cu 2))]
(.cond (.t 24)
(Q [o 25 (.build [vu 0,vi 0,ve,.nils,.nils] [(0,1,(cu 5))]),xs 5 2 25,o 3 (.mv (ci 0))]
(.ret [2,3]))
.skip))
(Q [o 5 (.mv (.c .nils))]
(Q [o 26 .mkMap,m 6 26]
(.block 0
(.loop [0,2,5,6] L_read_values_object_0)))))))⟩
/-! legate/pick.take[[]legate/api.Value] -/
def K_pick_take_api_Value_278 : KF := ⟨3,50,[(.tmp 6)],(Q [o 6 (.mv (.c .nils))]
(Q [o 7 (.mv (.c .nils))]
(.seq (Q [m 12 0,o 13 (.callF f_pick_Obj_Err [.t 12]),o 14 (.bin .neq 0 true (.t 13) (ci 0))]
(.cond (.t 14)
(Q [m 15 7,m 6 15]
(.ret [6]))
.skip))
(Q [m 17 0,o 18 (.nilck (.t 17)),xa 19 0 18,xl 20 5 19,m 21 1,o 22 (.callF f_value_Get [.t 20,.t 21]),m 16 22,xe 23 16 0,xe 24 16 1,o 8 (.new [vu 0,vi 0,ve,.nils,.nils] none),xs 5 8 23,m 9 24]
(.seq (Q [m 25 9,o 26 (.un .not (.t 25))]
(.cond (.t 26)
(Q [m 27 0,o 28 (.callF f_pick_Obj_Fail [.t 27,ci 6])]
(Q [m 29 7,m 6 29]
(.ret [6])))
.skip))
(Q [m 31 2,xl 32 5 8,o 33 (.callV (.t 31) [.t 32]),m 30 33,xe 34 30 0,xe 35 30 1,m 10 34,m 11 35]
(.seq (Q [m 36 11,o 37 (.bin .neq 0 true (.t 36) (ci 0))]
(.cond (.t 37)
(Q [m 38 0,m 39 11,o 40 (.callF f_pick_Obj_Fail [.t 38,.t 39])]
(Q [m 41 7,m 6 41]
(.ret [6])))
.skip))
(Q [m 42 0,o 43 (.nilck (.t 42)),xa 44 5 43,xf 45 44,m 46 1,o 47 (.lookup (vi 0) (.t 45) (.t 46) false),o 48 (.bin .add 0 true (.t 47) (ci 1)),u (.mapUpd (.t 45) (.t 46) (.t 48))]
(Q [m 49 10,m 6 49]
(.ret [6]))))))))))⟩
/-! (*legate/pick.Obj).List$1 -/
def K_pick_Obj_List_1 : KF := ⟨2,10,[(.tmp 3),(.tmp 4)],(Q [o 2 (.box (.t 0)),o 3 (.mv (.c .nils)),o 4 (.mv (ci 0))]
(Q [xl 5 5 2,xf 6 1,o 7 (.callF f_pick_items [.t 5,.t 6]),xe 8 7 0,xe 9 7 1,m 3 8,m 4 9]
(.ret [3,4])))⟩
/-! legate/pick.items -/
def K_pick_items : KF := ⟨2,16,[(.tmp 4),(.tmp 5)],(Q [o 2 (.box (.t 0)),o 4 (.mv (.c .nils)),o 5 (.mv (ci 0))]
(.seq (Q [xa 6 0 2,xf 7 6,o 8 (.bin .neq 0 true (.t 7) (cu 4))]
(.cond (.t 8)
(Q [o 4 (.mv (.c .nils)),o 5 (.mv (ci 10))]
(.ret [4,5]))
.skip))
(.seq (Q [xa 9 4 2,xf 10 9,o 11 (.len 1 (.t 10)),m 12 1,o 13 (.bin .gtr 0 false (.t 11) (.t 12))]
(.cond (.t 13)
(Q [o 4 (.mv (.c .nils)),o 5 (.mv (ci 5))]
(.ret [4,5]))
.skip))
(Q [xa 14 4 2,xf 15 14,m 4 15,o 5 (.mv (ci 0))]
(.ret [4,5])))))⟩
/-! legate/auth.Part -/
def K_auth_Part : KF := ⟨1,27,[(.cell 2 true 2)],(Q [o 2 (.new [vi 0,.nils] none)]
(Q [m 5 0,o 6 (.callF f_pick_Obj_Texts [.t 5,cs [107,101,121,105,100,115],ci 16]),m 3 6]
(.seq (Q [m 7 3,o 8 (.len 1 (.t 7)),o 9 (.bin .eql 0 true (.t 8) (ci 0))]
(.cond (.t 9)
(.ops [m 10 0,o 11 (.callF f_pick_Obj_Fail [.t 10,ci 4])])
.skip))
(Q [m 12 0,m 13 3,o 14 (.callF f_auth_wrong [.t 13]),o 15 (.callF f_pick_Obj_Fail [.t 12,.t 14])]
(Q [m 16 0,m 17 3,o 18 (.len 1 (.t 17)),o 19 (.callF f_pick_Obj_Num [.t 16,cs [116,104,114,101,115,104,111,108,100],ci 1,.t 18]),m 4 19]
(.seq (Q [m 20 0,o 21 (.callF f_pick_Obj_Err [.t 20]),o 22 (.bin .neq 0 true (.t 21) (ci 0))]
(.cond (.t 22)
(Q [o 23 (.build [vi 0,.nils] []),xs 2 2 23]
(.ret [2]))
.skip))
(Q [m 24 4,m 25 3,o 26 (.build [vi 0,.nils] [(0,1,(.t 24)),(1,1,(.t 25))]),xs 2 2 26]
(.ret [2]))))))))⟩
/-! (*legate/judge.Verifier).Good -/
def K_judge_Verifier_Good : KF := ⟨4,47,[(.tmp 8)],(Q [o 5 (.box (.t 1)),o 6 (.box (.t 2)),o 8 (.mv (.c (.bool false)))]
(.seq (Q [m 11 0,o 12 (.bin .eql 3 true (.t 11) (.c .nilp)),m 13 12,og 14 13 false (.mv (.t 0)),og 15 13 false (.nilck (.t 14)),og 16 13 false (.fieldAddr 0 (.t 15)),og 17 13 false (.load false 1 (.t 16)),og 18 13 false (.bin .eql 5 true (.t 17) (.c .nilIface)),o 19 (.pick (.t 13) (.c (.bool true)) (.t 18)),m 20 19,og 21 20 false (.fieldAddr 1 (.t 6)),og 22 20 false (.load false 1 (.t 21)),og 23 20 false (.callF f_judge_sigMay [.t 22]),og 24 20 false (.un .not (.t 23)),o 25 (.pick (.t 20) (.c (.bool true)) (.t 24))]
(.cond (.t 25)
(Q [o 8 (.mv (.c (.bool false)))]
(.ret [8]))
.skip))
(Q [xl 27 2 5,o 28 (.callF f_key_ID [.t 27]),m 26 28,xe 29 26 0,xe 30 26 1,m 9 29,m 10 30]
(.seq (Q [m 31 10,o 32 (.bin .neq 0 true (.t 31) (ci 0)),m 33 32,og 34 33 false (.fieldAddr 0 (.t 6)),og 35 33 false (.load false 1 (.t 34)),og 36 33 false (.mv (.t 9)),og 37 33 false (.bin .neq 0 false (.t 35) (.t 36)),o 38 (.pick (.t 33) (.c (.bool true)) (.t 37))]
(.cond (.t 38)
(Q [o 8 (.mv (.c (.bool false)))]
(.ret [8]))
.skip))
(.seq (.plain [m 39 0,o 40 (.nilck (.t 39)),xa 41 0 40,xf 42 41,xl 43 2 5,xl 44 2 6,m 45 3,o 46 (.invoke (.t 42) "legate/judge.good" [.t 43,.t 44,.t 45]),m 8 46])
(.ret [8]))))))⟩
/-! legate/snap.PinOf -/
def K_snap_PinOf : KF := ⟨2,58,[(.cell 4 true 4),(.tmp 5)],(Q [o 3 (.box (.t 1)),o 4 (.new [ve,vi 0,vi 0,.nils] none),o 5 (.mv (ci 0))]
(.seq (Q [m 14 0,o 15 (.callF f_name_RoleOf [.t 14]),m 13 15,xe 16 13 0,xe 17 13 1,m 6 16,m 7 17]
(Q [m 18 7,o 19 (.bin .neq 0 true (.t 18) (ci 0)),m 20 19,og 21 20 false (.load true 5 (.t 3)),og 22 20 false (.callF f_value_May [.t 21]),og 23 20 false (.un .not (.t 22)),o 24 (.pick (.t 20) (.c (.bool true)) (.t 23))]
(.cond (.t 24)
(Q [o 25 (.build [ve,vi 0,vi 0,.nils] []),xs 4 4 25,o 5 (.mv (ci 3))]
(.ret [4,5]))
.skip)))
(Q [xl 26 5 3,o 27 (.callF f_pick_Of [.t 26]),m 8 27]
(Q [m 28 0,o 29 (.build [ve,vi 0,vi 0,.nils] [(0,1,(.t 28)),(2,1,(ci (-1)))]),o 9 (.new [ve,vi 0,vi 0,.nils] none),xs 4 9 29]
(Q [m 30 8,o 31 (.callF f_pick_Obj_Num [.t 30,cs [118,101,114,115,105,111,110],ci 1,ci 1099511627776]),xa 32 1 9,xs 1 32 31]
(.seq (Q [m 33 8,o 34 (.callF f_pick_Obj_Has [.t 33,cs [108,101,110,103,116,104]])]
(.cond (.t 34)
(.ops [m 35 8,o 36 (.callF f_pick_Obj_Num [.t 35,cs [108,101,110,103,116,104],ci 0,ci 1099511627776]),xa 37 2 9,xs 1 37 36])
.skip))
(.seq (Q [m 38 8,o 39 (.callF f_pick_Obj_Has [.t 38,cs [104,97,115,104,101,115]])]
(.cond (.t 39)
(Q [m 41 8,o 42 (.callF f_pick_Obj_Object [.t 41,cs [104,97,115,104,101,115],ci 4]),o 43 (.callF f_record_HashesOf [.t 42]),m 40 43,xe 44 40 0,xe 45 40 1,m 10 44,m 11 45]
(Q [m 46 8,m 47 11,o 48 (.callF f_pick_Obj_Fail [.t 46,.t 47])]
(.ops [m 49 10,xa 50 3 9,xs 1 50 49])))
.skip))
(.seq (Q [m 51 8,o 52 (.callF f_pick_Obj_Done [.t 51]),m 12 52]
(Q [m 53 12,o 54 (.bin .neq 0 true (.t 53) (ci 0))]
(.cond (.t 54)
(Q [o 55 (.build [ve,vi 0,vi 0,.nils] []),m 56 12,xs 4 4 55,m 5 56]
(.ret [4,5]))
.skip)))
(Q [xl 57 4 9,xs 4 4 57,o 5 (.mv (ci 0))]
(.ret [4,5]))))))))))⟩
/-! internal/strconv.small -/
def K_internal_strconv_small : KF := ⟨1,15,[(.tmp 2)],(Q [o 2 (.mv (cs []))]
(.seq (Q [m 3 0,o 4 (.bin .lss 0 true (.t 3) (ci 10))]
(.cond (.t 4)
(Q [m 5 0,m 6 0,o 7 (.bin .add 0 true (.t 6) (ci 1)),o 8 (.sliceStr (cs [48,49,50,51,52,53,54,55,56,57,97,98,99,100,101,102,103,104,105,106,107,108,109,110,111,112,113,114,115,116,117,118,119,120,121,122]) (some (.t 5)) (some (.t 7))),m 2 8]
(.ret [2]))
.skip))
(Q [m 9 0,o 10 (.bin .mul 0 true (.t 9) (ci 2)),m 11 0,o 12 (.bin .mul 0 true (.t 11) (ci 2)),o 13 (.bin .add 0 true (.t 12) (ci 2)),o 14 (.sliceStr (cs [48,48,48,49,48,50,48,51,48,52,48,53,48,54,48,55,48,56,48,57,49,48,49,49,49,50,49,51,49,52,49,53,49,54,49,55,49,56,49,57,50,48,50,49,50,50,50,51,50,52,50,53,50,54,50,55,50,56,50,57,51,48,51,49,51,50,51,51,51,52,51,53,51,54,51,55,51,56,51,57,52,48,52,49,52,50,52,51,52,52,52,53,52,54,52,55,52,56,52,57,53,48,53,49,53,50,53,51,53,52,53,53,53,54,53,55,53,56,53,57,54,48,54,49,54,50,54,51,54,52,54,53,54,54,54,55,54,56,54,57,55,48,55,49,55,50,55,51,55,52,55,53,55,54,55,55,55,56,55,57,56,48,56,49,56,50,56,51,56,52,56,53,56,54,56,55,56,56,56,57,57,48,57,49,57,50,57,51,57,52,57,53,57,54,57,55,57,56,57,57]) (some (.t 10)) (some (.t 13))),m 2 14]
(.ret [2]))))⟩
/-! internal/strconv.numDigits -/
def K_internal_strconv_numDigits : KF := ⟨1,15,[(.tmp 2)],(Q [o 2 (.mv (ci 0))]
(Q [m 4 0,o 5 (.callF f_math_bits_Len64 [.t 4]),o 6 (.callF f_internal_strconv_log10Pow2 [.t 5]),m 3 6]
(Q [m 7 3,m 8 0,m 9 3,o 10 (.idxAddrArr 20 1 (.g g_internal_strconv_uint64pow10) (.t 9)),xf 11 10,o 12 (.bin .geq 0 false (.t 8) (.t 11)),o 13 (.callF f_internal_strconv_bool2_int [.t 12]),o 14 (.bin .add 0 false (.t 7) (.t 13)),m 2 14]
(.ret [2]))))⟩
/-! internal/strconv.formatBase10 -/
def L_internal_strconv_formatBase10_0 : KC :=
(.seq (Q [m 19 4,o 20 (.bin .geq 0 true (.t 19) (ci 8))]
(.cond (.t 20)
.skip
(.exit [0,1,4] 0)))
(.block 1
(Q [m 21 1,o 22 (.bin .rem 0 true (.t 21) (.c (.int .u64 100000000))),o 23 (.i2i .u32 (.t 22)),m 5 23]
(Q [m 24 1,o 25 (.bin .quo 0 true (.t 24) (.c (.int .u64 100000000))),m 1 25]
(Q [m 26 5,o 27 (.bin .quo 0 true (.t 26) (.c (.int .u32 10000))),m 28 5,o 29 (.bin .rem 0 true (.t 28) (.c (.int .u32 10000))),m 6 27,m 7 29]
(Q [m 30 7,o 31 (.bin .quo 0 true (.t 30) (.c (.int .u32 100))),o 32 (.bin .mul 0 true (.t 31) (.c (.int .u32 2))),m 33 7,o 34 (.bin .rem 0 true (.t 33) (.c (.int .u32 100))),o 35 (.bin .mul 0 true (.t 34) (.c (.int .u32 2))),m 8 32,m 9 35]
(Q [m 36 6,o 37 (.bin .quo 0 true (.t 36) (.c (.int .u32 100))),o 38 (.bin .mul 0 true (.t 37) (.c (.int .u32 2))),m 39 6,o 40 (.bin .rem 0 true (.t 39) (.c (.int .u32 100))),o 41 (.bin .mul 0 true (.t 40) (.c (.int .u32 2))),m 10 38,m 11 41]
(.seq (.plain [m 42 0,m 43 4,o 44 (.bin .sub 0 true (.t 43) (ci 1)),m 45 0,m 46 4,o 47 (.bin .sub 0 true (.t 46) (ci 2)),m 48 9,o 49 (.bin .add 0 true (.t 48) (.c (.int .u32 1))),o 50 (.idxStr (cs [48,48,48,49,48,50,48,51,48,52,48,53,48,54,48,55,48,56,48,57,49,48,49,49,49,50,49,51,49,52,49,53,49,54,49,55,49,56,49,57,50,48,50,49,50,50,50,51,50,52,50,53,50,54,50,55,50,56,50,57,51,48,51,49,51,50,51,51,51,52,51,53,51,54,51,55,51,56,51,57,52,48,52,49,52,50,52,51,52,52,52,53,52,54,52,55,52,56,52,57,53,48,53,49,53,50,53,51,53,52,53,53,53,54,53,55,53,56,53,57,54,48,54,49,54,50,54,51,54,52,54,53,54,54,54,55,54,56,54,57,55,48,55,49,55,50,55,51,55,52,55,53,55,54,55,55,55,56,55,57,56,48,56,49,56,50,56,51,56,52,56,53,56,54,56,55,56,56,56,57,57,48,57,49,57,50,57,51,57,52,57,53,57,54,57,55,57,56,57,57]) (.t 49)),m 51 9,o 52 (.idxStr (cs [48,48,48,49,48,50,48,51,48,52,48,53,48,54,48,55,48,56,48,57,49,48,49,49,49,50,49,51,49,52,49,53,49,54,49,55,49,56,49,57,50,48,50,49,50,50,50,51,50,52,50,53,50,54,50,55,50,56,50,57,51,48,51,49,51,50,51,51,51,52,51,53,51,54,51,55,51,56,51,57,52,48,52,49,52,50,52,51,52,52,52,53,52,54,52,55,52,56,52,57,53,48,53,49,53,50,53,51,53,52,53,53,53,54,53,55,53,56,53,57,54,48,54,49,54,50,54,51,54,52,54,53,54,54,54,55,54,56,54,57,55,48,55,49,55,50,55,51,55,52,55,53,55,54,55,55,55,56,55,57,56,48,56,49,56,50,56,51,56,52,56,53,56,54,56,55,56,56,56,57,57,48,57,49,57,50,57,51,57,52,57,53,57,54,57,55,57,56,57,57]) (.t 51)),o 53 (.idxAddrSl 1 (.t 42) (.t 44)),xs 1 53 50,o 54 (.idxAddrSl 1 (.t 45) (.t 47)),xs 1 54 52])
(.seq (.plain [m 55 0,m 56 4,o 57 (.bin .sub 0 true (.t 56) (ci 3)),m 58 0,m 59 4,o 60 (.bin .sub 0 true (.t 59) (ci 4)),m 61 8,o 62 (.bin .add 0 true (.t 61) (.c (.int .u32 1))),o 63 (.idxStr (cs [48,48,48,49,48,50,48,51,48,52,48,53,48,54,48,55,48,56,48,57,49,48,49,49,49,50,49,51,49,52,49,53,49,54,49,55,49,56,49,57,50,48,50,49,50,50,50,51,50,52,50,53,50,54,50,55,50,56,50,57,51,48,51,49,51,50,51,51,51,52,51,53,51,54,51,55,51,56,51,57,52,48,52,49,52,50,52,51,52,52,52,53,52,54,52,55,52,56,52,57,53,48,53,49,53,50,53,51,53,52,53,53,53,54,53,55,53,56,53,57,54,48,54,49,54,50,54,51,54,52,54,53,54,54,54,55,54,56,54,57,55,48,55,49,55,50,55,51,55,52,55,53,55,54,55,55,55,56,55,57,56,48,56,49,56,50,56,51,56,52,56,53,56,54,56,55,56,56,56,57,57,48,57,49,57,50,57,51,57,52,57,53,57,54,57,55,57,56,57,57]) (.t 62)),m 64 8,o 65 (.idxStr (cs [48,48,48,49,48,50,48,51,48,52,48,53,48,54,48,55,48,56,48,57,49,48,49,49,49,50,49,51,49,52,49,53,49,54,49,55,49,56,49,57,50,48,50,49,50,50,50,51,50,52,50,53,50,54,50,55,50,56,50,57,51,48,51,49,51,50,51,51,51,52,51,53,51,54,51,55,51,56,51,57,52,48,52,49,52,50,52,51,52,52,52,53,52,54,52,55,52,56,52,57,53,48,53,49,53,50,53,51,53,52,53,53,53,54,53,55,53,56,53,57,54,48,54,49,54,50,54,51,54,52,54,53,54,54,54,55,54,56,54,57,55,48,55,49,55,50,55,51,55,52,55,53,55,54,55,55,55,56,55,57,56,48,56,49,56,50,56,51,56,52,56,53,56,54,56,55,56,56,56,57,57,48,57,49,57,50,57,51,57,52,57,53,57,54,57,55,57,56,57,57]) (.t 64)),o 66 (.idxAddrSl 1 (.t 55) (.t 57)),xs 1 66 63,o 67 (.idxAddrSl 1 (.t 58) (.t 60)),xs 1 67 65])
(.seq (.plain [m 68 0,m 69 4,o 70 (.bin .sub 0 true (.t 69) (ci 5)),m 71 0,m 72 4,o 73 (.bin .sub 0 true (.t 72) (ci 6)),m 74 11,o 75 (.bin .add 0 true (.t 74) (.c (.int .u32 1))),o 76 (.idxStr (cs [48,48,48,49,48,50,48,51,48,52,48,53,48,54,48,55,48,56,48,57,49,48,49,49,49,50,49,51,49,52,49,53,49,54,49,55,49,56,49,57,50,48,50,49,50,50,50,51,50,52,50,53,50,54,50,55,50,56,50,57,51,48,51,49,51,50,51,51,51,52,51,53,51,54,51,55,51,56,51,57,52,48,52,49,52,50,52,51,52,52,52,53,52,54,52,55,52,56,52,57,53,48,53,49,53,50,53,51,53,52,53,53,53,54,53,55,53,56,53,57,54,48,54,49,54,50,54,51,54,52,54,53,54,54,54,55,54,56,54,57,55,48,55,49,55,50,55,51,55,52,55,53,55,54,55,55,55,56,55,57,56,48,56,49,56,50,56,51,56,52,56,53,56,54,56,55,56,56,56,57,57,48,57,49,57,50,57,51,57,52,57,53,57,54,57,55,57,56,57,57]) (.t 75)),m 77 11,o 78 (.idxStr (cs [48,48,48,49,48,50,48,51,48,52,48,53,48,54,48,55,48,56,48,57,49,48,49,49,49,50,49,51,49,52,49,53,49,54,49,55,49,56,49,57,50,48,50,49,50,50,50,51,50,52,50,53,50,54,50,55,50,56,50,57,51,48,51,49,51,50,51,51,51,52,51,53,51,54,51,55,51,56,51,57,52,48,52,49,52,50,52,51,52,52,52,53,52,54,52,55,52,56,52,57,53,48,53,49,53,50,53,51,53,52,53,53,53,54,53,55,53,56,53,57,54,48,54,49,54,50,54,51,54,52,54,53,54,54,54,55,54,56,54,57,55,48,55,49,55,50,55,51,55,52,55,53,55,54,55,55,55,56,55,57,56,48,56,49,56,50,56,51,56,52,56,53,56,54,56,55,56,56,56,57,57,48,57,49,57,50,57,51,57,52,57,53,57,54,57,55,57,56,57,57]) (.t 77)),o 79 (.idxAddrSl 1 (.t 68) (.t 70)),xs 1 79 76,o 80 (.idxAddrSl 1 (.t 71) (.t 73)),xs 1 80 78])
(.seq (.plain [m 81 0,m 82 4,o 83 (.bin .sub 0 true (.t 82) (ci 7)),m 84 0,m 85 4,o 86 (.bin .sub 0 true (.t 85) (ci 8)),m 87 10,o 88 (.bin .add 0 true (.t 87) (.c (.int .u32 1))),o 89 (.idxStr (cs [48,48,48,49,48,50,48,51,48,52,48,53,48,54,48,55,48,56,48,57,49,48,49,49,49,50,49,51,49,52,49,53,49,54,49,55,49,56,49,57,50,48,50,49,50,50,50,51,50,52,50,53,50,54,50,55,50,56,50,57,51,48,51,49,51,50,51,51,51,52,51,53,51,54,51,55,51,56,51,57,52,48,52,49,52,50,52,51,52,52,52,53,52,54,52,55,52,56,52,57,53,48,53,49,53,50,53,51,53,52,53,53,53,54,53,55,53,56,53,57,54,48,54,49,54,50,54,51,54,52,54,53,54,54,54,55,54,56,54,57,55,48,55,49,55,50,55,51,55,52,55,53,55,54,55,55,55,56,55,57,56,48,56,49,56,50,56,51,56,52,56,53,56,54,56,55,56,56,56,57,57,48,57,49,57,50,57,51,57,52,57,53,57,54,57,55,57,56,57,57]) (.t 88)),m 90 10,o 91 (.idxStr (cs [48,48,48,49,48,50,48,51,48,52,48,53,48,54,48,55,48,56,48,57,49,48,49,49,49,50,49,51,49,52,49,53,49,54,49,55,49,56,49,57,50,48,50,49,50,50,50,51,50,52,50,53,50,54,50,55,50,56,50,57,51,48,51,49,51,50,51,51,51,52,51,53,51,54,51,55,51,56,51,57,52,48,52,49,52,50,52,51,52,52,52,53,52,54,52,55,52,56,52,57,53,48,53,49,53,50,53,51,53,52,53,53,53,54,53,55,53,56,53,57,54,48,54,49,54,50,54,51,54,52,54,53,54,54,54,55,54,56,54,57,55,48,55,49,55,50,55,51,55,52,55,53,55,54,55,55,55,56,55,57,56,48,56,49,56,50,56,51,56,52,56,53,56,54,56,55,56,56,56,57,57,48,57,49,57,50,57,51,57,52,57,53,57,54,57,55,57,56,57,57]) (.t 90)),o 92 (.idxAddrSl 1 (.t 81) (.t 83)),xs 1 92 89,o 93 (.idxAddrSl 1 (.t 84) (.t 86)),xs 1 93 91])
(.ops [m 94 4,o 95 (.bin .sub 0 true (.t 94) (ci 8)),m 4 95]))))))))))))
def K_internal_strconv_formatBase10 : KF := ⟨2,167,[],(Q [m 17 0,o 18 (.len 1 (.t 17)),m 4 18]
(.seq (.block 0
(.loop [0,1,4] L_internal_strconv_formatBase10_0))
(Q [m 96 1,o 97 (.i2i .u32 (.t 96)),m 12 97]
(.seq (Q [m 98 4,o 99 (.bin .geq 0 true (.t 98) (ci 4))]
(.cond (.t 99)
(Q [m 100 12,o 101 (.bin .rem 0 true (.t 100) (.c (.int .u32 10000))),m 13 101]
(Q [m 102 12,o 103 (.bin .quo 0 true (.t 102) (.c (.int .u32 10000))),m 12 103]
(Q [m 104 13,o 105 (.bin .quo 0 true (.t 104) (.c (.int .u32 100))),o 106 (.bin .mul 0 true (.t 105) (.c (.int .u32 2))),m 107 13,o 108 (.bin .rem 0 true (.t 107) (.c (.int .u32 100))),o 109 (.bin .mul 0 true (.t 108) (.c (.int .u32 2))),m 14 106,m 15 109]
(.seq (.plain [m 110 0,m 111 4,o 112 (.bin .sub 0 true (.t 111) (ci 1)),m 113 0,m 114 4,o 115 (.bin .sub 0 true (.t 114) (ci 2)),m 116 15,o 117 (.bin .add 0 true (.t 116) (.c (.int .u32 1))),o 118 (.idxStr (cs [48,48,48,49,48,50,48,51,48,52,48,53,48,54,48,55,48,56,48,57,49,48,49,49,49,50,49,51,49,52,49,53,49,54,49,55,49,56,49,57,50,48,50,49,50,50,50,51,50,52,50,53,50,54,50,55,50,56,50,57,51,48,51,49,51,50,51,51,51,52,51,53,51,54,51,55,51,56,51,57,52,48,52,49,52,50,52,51,52,52,52,53,52,54,52,55,52,56,52,57,53,48,53,49,53,50,53,51,53,52,53,53,53,54,53,55,53,56,53,57,54,48,54,49,54,50,54,51,54,52,54,53,54,54,54,55,54,56,54,57,55,48,55,49,55,50,55,51,55,52,55,53,55,54,55,55,55,56,55,57,56,48,56,49,56,50,56,51,56,52,56,53,56,54,56,55,56,56,56,57,57,48,57,49,57,50,57,51,57,52,57,53,57,54,57,55,57,56,57,57]) (.t 117)),m 119 15,o 120 (.idxStr (cs [48,48,48,49,48,50,48,51,48,52,48,53,48,54,48,55,48,56,48,57,49,48,49,49,49,50,49,51,49,52,49,53,49,54,49,55,49,56,49,57,50,48,50,49,50,50,50,51,50,52,50,53,50,54,50,55,50,56,50,57,51,48,51,49,51,50,51,51,51,52,51,53,51,54,51,55,51,56,51,57,52,48,52,49,52,50,52,51,52,52,52,53,52,54,52,55,52,56,52,57,53,48,53,49,53,50,53,51,53,52,53,53,53,54,53,55,53,56,53,57,54,48,54,49,54,50,54,51,54,52,54,53,54,54,54,55,54,56,54,57,55,48,55,49,55,50,55,51,55,52,55,53,55,54,55,55,55,56,55,57,56,48,56,49,56,50,56,51,56,52,56,53,56,54,56,55,56,56,56,57,57,48,57,49,57,50,57,51,57,52,57,53,57,54,57,55,57,56,57,57]) (.t 119)),o 121 (.idxAddrSl 1 (.t 110) (.t 112)),xs 1 121 118,o 122 (.idxAddrSl 1 (.t 113) (.t 115)),xs 1 122 120])
(.seq (.plain [m 123 0,m 124 4,o 125 (.bin .sub 0 true (.t 124) (ci 3)),m 126 0,m 127 4,o 128 (.bin .sub 0 true (.t 127) (ci 4)),m 129 14,o 130 (.bin .add 0 true (.t 129) (.c (.int .u32 1))),o 131 (.idxStr (cs [48,48,48,49,48,50,48,51,48,52,48,53,48,54,48,55,48,56,48,57,49,48,49,49,49,50,49,51,49,52,49,53,49,54,49,55,49,56,49,57,50,48,50,49,50,50,50,51,50,52,50,53,50,54,50,55,50,56,50,57,51,48,51,49,51,50,51,51,51,52,51,53,51,54,51,55,51,56,51,57,52,48,52,49,52,50,52,51,52,52,52,53,52,54,52,55,52,56,52,57,53,48,53,49,53,50,53,51,53,52,53,53,53,54,53,55,53,56,53,57,54,48,54,49,54,50,54,51,54,52,54,53,54,54,54,55,54,56,54,57,55,48,55,49,55,50,55,51,55,52,55,53,55,54,55,55,55,56,55,57,56,48,56,49,56,50,56,51,56,52,56,53,56,54,56,55,56,56,56,57,57,48,57,49,57,50,57,51,57,52,57,53,57,54,57,55,57,56,57,57]) (.t 130)),m 132 14,o 133 (.idxStr (cs [48,48,48,49,48,50,48,51,48,52,48,53,48,54,48,55,48,56,48,57,49,48,49,49,49,50,49,51,49,52,49,53,49,54,49,55,49,56,49,57,50,48,50,49,50,50,50,51,50,52,50,53,50,54,50,55,50,56,50,57,51,48,51,49,51,50,51,51,51,52,51,53,51,54,51,55,51,56,51,57,52,48,52,49,52,50,52,51,52,52,52,53,52,54,52,55,52,56,52,57,53,48,53,49,53,50,53,51,53,52,53,53,53,54,53,55,53,56,53,57,54,48,54,49,54,50,54,51,54,52,54,53,54,54,54,55,54,56,54,57,55,48,55,49,55,50,55,51,55,52,55,53,55,54,55,55,55,56,55,57,56,48,56,49,56,50,56,51,56,52,56,53,56,54,56,55,56,56,56,57,57,48,57,49,57,50,57,51,57,52,57,53,57,54,57,55,57,56,57,57]) (.t 132)),o 134 (.idxAddrSl 1 (.t 123) (.t 125)),xs 1 134 131,o 135 (.idxAddrSl 1 (.t 126) (.t 128)),xs 1 135 133])
(.ops [m 136 4,o 137 (.bin .sub 0 true (.t 136) (ci 4)),m 4 137]))))))
.skip))
(.seq (Q [m 138 4,o 139 (.bin .geq 0 true (.t 138) (ci 2))]
(.cond (.t 139)
(Q [m 140 12,o 141 (.bin .rem 0 true (.t 140) (.c (.int .u32 100))),o 142 (.bin .mul 0 true (.t 141) (.c (.int .u32 2))),m 16 142]
(Q [m 143 12,o 144 (.bin .quo 0 true (.t 143) (.c (.int .u32 100))),m 12 144]
(.seq (.plain [m 145 0,m 146 4,o 147 (.bin .sub 0 true (.t 146) (ci 1)),m 148 0,m 149 4,o 150 (.bin .sub 0 true (.t 149) (ci 2)),m 151 16,o 152 (.bin .add 0 true (.t 151) (.c (.int .u32 1))),o 153 (.idxStr (cs [48,48,48,49,48,50,48,51,48,52,48,53,48,54,48,55,48,56,48,57,49,48,49,49,49,50,49,51,49,52,49,53,49,54,49,55,49,56,49,57,50,48,50,49,50,50,50,51,50,52,50,53,50,54,50,55,50,56,50,57,51,48,51,49,51,50,51,51,51,52,51,53,51,54,51,55,51,56,51,57,52,48,52,49,52,50,52,51,52,52,52,53,52,54,52,55,52,56,52,57,53,48,53,49,53,50,53,51,53,52,53,53,53,54,53,55,53,56,53,57,54,48,54,49,54,50,54,51,54,52,54,53,54,54,54,55,54,56,54,57,55,48,55,49,55,50,55,51,55,52,55,53,55,54,55,55,55,56,55,57,56,48,56,49,56,50,56,51,56,52,56,53,56,54,56,55,56,56,56,57,57,48,57,49,57,50,57,51,57,52,57,53,57,54,57,55,57,56,57,57]) (.t 152)),m 154 16,o 155 (.idxStr (cs [48,48,48,49,48,50,48,51,48,52,48,53,48,54,48,55,48,56,48,57,49,48,49,49,49,50,49,51,49,52,49,53,49,54,49,55,49,56,49,57,50,48,50,49,50,50,50,51,50,52,50,53,50,54,50,55,50,56,50,57,51,48,51,49,51,50,51,51,51,52,51,53,51,54,51,55,51,56,51,57,52,48,52,49,52,50,52,51,52,52,52,53,52,54,52,55,52,56,52,57,53,48,53,49,53,50,53,51,53,52,53,53,53,54,53,55,53,56,53,57,54,48,54,49,54,50,54,51,54,52,54,53,54,54,54,55,54,56,54,57,55,48,55,49,55,50,55,51,55,52,55,53,55,54,55,55,55,56,55,57,56,48,56,49,56,50,56,51,56,52,56,53,56,54,56,55,56,56,56,57,57,48,57,49,57,50,57,51,57,52,57,53,57,54,57,55,57,56,57,57]) (.t 154)),o 156 (.idxAddrSl 1 (.t 145) (.t 147)),xs 1 156 153,o 157 (.idxAddrSl 1 (.t 148) (.t 150)),xs 1 157 155])
(.ops [m 158 4,o 159 (.bin .sub 0 true (.t 158) (ci 2)),m 4 159]))))
.skip))
(Q [m 160 4,o 161 (.bin .gtr 0 true (.t 160) (ci 0))]
(.cond (.t 161)
(.ops [m 162 0,m 163 12,o 164 (.bin .add 0 true (.c (.int .u32 48)) (.t 163)),o 165 (.i2i .u8 (.t 164)),o 166 (.idxAddrSl 1 (.t 162) (ci 0)),xs 1 166 165])
.skip)))))))⟩
/-! legate/value.find -/
def K_value_find : KF := ⟨2,34,[(.tmp 4),(.tmp 5)],(Q [o 2 (.box (.t 0)),o 3 (.box (.t 1)),o 4 (.mv (ci 0)),o 5 (.mv (.c (.bool false)))]
(.seq (Q [xf 8 2,o 9 (.callF f_value_ascending [.t 8]),o 10 (.un .not (.t 9))]
(.cond (.t 10)
(Q [xf 11 2,xf 12 3,o 13 (.callF f_slices_Index_string_string [.t 11,.t 12]),m 6 13]
(Q [m 14 6,m 15 6,o 16 (.bin .geq 0 true (.t 15) (ci 0)),m 4 14,m 5 16]
(.ret [4,5])))
.skip))
(Q [xf 17 2,o 18 (.len 1 (.t 17)),o 19 (.mkFunc (.func f_value_find_1) [] [.t 2,.t 3]),o 20 (.callF f_sort_Search [.t 18,.t 19]),m 7 20]
(.seq (.plain [m 21 7,m 22 7,xf 23 2,o 24 (.len 1 (.t 23)),o 25 (.bin .lss 0 false (.t 22) (.t 24)),m 26 25,og 27 26 true (.load false 1 (.t 2)),og 28 26 true (.mv (.t 7)),og 29 26 true (.idxAddrSl 1 (.t 27) (.t 28)),og 30 26 true (.load false 1 (.t 29)),og 31 26 true (.load false 1 (.t 3)),og 32 26 true (.bin .eql 0 false (.t 30) (.t 31)),o 33 (.pick (.t 26) (.t 32) (.c (.bool false))),m 4 21,m 5 33])
(.ret [4,5])))))⟩
/-! internal/stringslite.HasSuffix -/
def K_internal_stringslite_HasSuffix : KF := ⟨2,21,[(.tmp 4)],(Q [o 4 (.mv (.c (.bool false)))]
(Q [m 5 0,o 6 (.len 0 (.t 5)),m 7 1,o 8 (.len 0 (.t 7)),o 9 (.bin .geq 0 false (.t 6) (.t 8)),m 10 9,og 11 10 true (.mv (.t 0)),og 12 10 true (.mv (.t 0)),og 13 10 true (.len 0 (.t 12)),og 14 10 true (.mv (.t 1)),og 15 10 true (.len 0 (.t 14)),og 16 10 true (.bin .sub 0 false (.t 13) (.t 15)),og 17 10 true (.sliceStr (.t 11) (some (.t 16)) none),og 18 10 true (.mv (.t 1)),og 19 10 true (.bin .eql 0 false (.t 17) (.t 18)),o 20 (.pick (.t 10) (.t 19) (.c (.bool false))),m 4 20]
(.ret [4])))⟩
/-! legate/lex.rules -/
def L_lex_rules_0 : KC :=
(.seq (Q [m 15 2,o 16 (.bin .leq 0 true (.t 15) (.c (.int .i32 57)))]
(.cond (.t 16)
.skip
(.exit [0,1] 0)))
(.seq (.block 1
(.ops [m 19 2,o 20 (.idxAddrArr 256 1 (.t 1) (.t 19)),xa 21 0 20,u (.store 1 (.t 21) (.c (.func (.func f_lex_number) [] [])))]))
(.ops [m 17 2,o 18 (.bin .add 0 true (.t 17) (.c (.int .i32 1))),m 2 18])))
def L_lex_rules_1 : KC :=
(.seq (Q [m 22 3,o 23 (.bin .leq 0 true (.t 22) (.c (.int .i32 122)))]
(.cond (.t 23)
.skip
(.exit [0,1] 2)))
(.seq (.block 3
(.ops [m 26 3,o 27 (.idxAddrArr 256 1 (.t 1) (.t 26)),xa 28 0 27,u (.store 1 (.t 28) (.c (.func (.func f_lex_word) [] [])))]))
(.ops [m 24 3,o 25 (.bin .add 0 true (.t 24) (.c (.int .i32 1))),m 3 25])))
def K_lex_rules : KF := ⟨0,30,[(.cell 0 true 256)],(Q [o 0 (.new (rp 256 .nilFunc) none)]
(Q [o 4 (.build [.nilFunc] [(0,1,(.c (.func (.func f_lex_open) [] [])))]),o 5 (.build [.nilFunc] [(0,1,(.c (.func (.func f_lex_shut) [] [])))]),o 6 (.build [.nilFunc] [(0,1,(.c (.func (.func f_lex_first) [] [])))]),o 7 (.build [.nilFunc] [(0,1,(.c (.func (.func f_lex_last) [] [])))]),o 8 (.build [.nilFunc] [(0,1,(.c (.func (.func f_lex_comma) [] [])))]),o 9 (.build [.nilFunc] [(0,1,(.c (.func (.func f_lex_colon) [] [])))]),o 10 (.build [.nilFunc] [(0,1,(.c (.func (.func f_lex_number) [] [])))]),o 11 (.build [.nilFunc] [(0,1,(.c (.func (.func f_lex_number) [] [])))]),o 12 (.build [.nilFunc] [(0,1,(.c (.func (.func f_lex_number) [] [])))]),o 13 (.build [.nilFunc] [(0,1,(.c (.func (.func f_lex_text) [] [])))]),o 14 (.build (rp 256 .nilFunc) [(123,1,(.t 4)),(125,1,(.t 5)),(91,1,(.t 6)),(93,1,(.t 7)),(44,1,(.t 8)),(58,1,(.t 9)),(45,1,(.t 10)),(43,1,(.t 11)),(46,1,(.t 12)),(34,1,(.t 13))]),o 1 (.new (rp 256 .nilFunc) none),xs 256 1 14]
(.seq (Q [o 2 (.mv (.c (.int .i32 48)))]
(.block 0
(.loop [0,1,2] L_lex_rules_0)))
(.seq (Q [o 3 (.mv (.c (.int .i32 97)))]
(.block 2
(.loop [0,1,3] L_lex_rules_1)))
(Q [xl 29 256 1,xs 256 0 29]
(.ret [0]))))))⟩
/-! legate/lex.token -/
def K_lex_token : KF := ⟨3,33,[(.cell 6 true 5),(.tmp 7)],(Q [o 6 (.new [vu 0,vi 0,vi 0,vi 0,ve] none),o 7 (.mv (ci 0))]
(.seq (Q [m 9 2,m 10 1,o 11 (.len 0 (.t 10)),o 12 (.bin .eql 0 false (.t 9) (.t 11))]
(.cond (.t 12)
(Q [m 13 2,m 14 2,o 15 (.build [vu 0,vi 0,vi 0,vi 0,ve] [(0,1,(cu 11)),(1,1,(.t 13)),(2,1,(.t 14))]),xs 5 6 15,o 7 (.mv (ci 0))]
(.ret [6,7]))
.skip))
(.seq (.plain [m 16 0,m 17 1,m 18 2,o 19 (.idxStr (.t 17) (.t 18)),o 20 (.nilck (.t 16)),o 21 (.idxAddrArr 256 1 (.t 20) (.t 19)),xa 22 0 21,xf 23 22,m 8 23])
(.seq (Q [m 24 8,o 25 (.bin .eql 4 true (.t 24) (.c .nilFunc))]
(.cond (.t 25)
(Q [o 26 (.build [vu 0,vi 0,vi 0,vi 0,ve] []),xs 5 6 26,o 7 (.mv (ci 3))]
(.ret [6,7]))
.skip))
(Q [m 27 8,m 28 1,m 29 2,o 30 (.callV (.t 27) [.t 28,.t 29]),xe 31 30 0,xe 32 30 1,xs 5 6 31,m 7 32]
(.ret [6,7]))))))⟩
/-! legate/lex.skip -/
def L_lex_skip_0 : KC :=
(.seq (Q [m 5 1,m 6 0,o 7 (.len 0 (.t 6)),o 8 (.bin .lss 0 false (.t 5) (.t 7)),m 9 8,og 10 9 true (.mv (.t 0)),og 11 9 true (.mv (.t 1)),og 12 9 true (.idxStr (.t 10) (.t 11)),og 13 9 true (.bin .eql 0 true (.t 12) (cu 32)),og 14 9 true (.mv (.t 13)),og 15 14 false (.mv (.t 0)),og 16 14 false (.mv (.t 1)),og 17 14 false (.idxStr (.t 15) (.t 16)),og 18 14 false (.bin .eql 0 true (.t 17) (cu 9)),og 19 9 true (.pick (.t 14) (.c (.bool true)) (.t 18)),og 20 9 true (.mv (.t 19)),og 21 20 false (.mv (.t 0)),og 22 20 false (.mv (.t 1)),og 23 20 false (.idxStr (.t 21) (.t 22)),og 24 20 false (.bin .eql 0 true (.t 23) (cu 10)),og 25 9 true (.pick (.t 20) (.c (.bool true)) (.t 24)),og 26 9 true (.mv (.t 25)),og 27 26 false (.mv (.t 0)),og 28 26 false (.mv (.t 1)),og 29 26 false (.idxStr (.t 27) (.t 28)),og 30 26 false (.bin .eql 0 true (.t 29) (cu 13)),og 31 9 true (.pick (.t 26) (.c (.bool true)) (.t 30)),o 32 (.pick (.t 9) (.t 31) (.c (.bool false)))]
(.cond (.t 32)
.skip
(.exit [1] 0)))
(.block 1
(.ops [m 33 1,o 34 (.bin .add 0 true (.t 33) (ci 1)),m 1 34])))
def K_lex_skip : KF := ⟨2,36,[(.tmp 4)],(Q [o 4 (.mv (ci 0))]
(.seq (.block 0
(.loop [0,1] L_lex_skip_0))
(Q [m 35 1,m 4 35]
(.ret [4]))))⟩
/-! (*legate/read.values).more -/
def K_read_values_more : KF := ⟨2,35,[(.tmp 4),(.tmp 5)],(Q [o 4 (.mv (.c (.bool false))),o 5 (.mv (ci 0))]
(.seq (Q [m 8 0,o 9 (.nilck (.t 8)),xa 10 0 9,o 11 (.callF f_read_tokens_next [.t 10]),m 6 11]
(Q [m 12 6,o 13 (.bin .neq 0 true (.t 12) (ci 0))]
(.cond (.t 13)
(Q [m 14 6,o 4 (.mv (.c (.bool false))),m 5 14]
(.ret [4,5]))
.skip)))
(.seq (Q [m 15 0,o 16 (.nilck (.t 15)),xa 17 0 16,xa 18 2 17,xa 19 0 18,xf 20 19]
(.block 0
(Q [m 22 1,o 23 (.bin .eql 0 false (.t 20) (.t 22)),m 21 23]
(.cond (.t 21)
(Q [o 4 (.mv (.c (.bool false))),o 5 (.mv (ci 0))]
(.ret [4,5]))
(Q [o 25 (.bin .eql 0 true (.t 20) (cu 5)),m 24 25]
(.cond (.t 24)
(.seq (Q [m 26 0,o 27 (.nilck (.t 26)),xa 28 0 27,o 29 (.callF f_read_tokens_next [.t 28]),m 7 29]
(Q [m 30 7,o 31 (.bin .neq 0 true (.t 30) (ci 0))]
(.cond (.t 31)
(Q [m 32 7,o 4 (.mv (.c (.bool false))),m 5 32]
(.ret [4,5]))
.skip)))
(Q [o 4 (.mv (.c (.bool true))),o 5 (.mv (ci 0))]
(.ret [4,5])))
.skip))))))
(Q [m 33 0,o 34 (.callF f_read_values_wrong [.t 33]),o 4 (.mv (.c (.bool false))),m 5 34]
(.ret [4,5])))))⟩
/-! (*legate/read.values).member -/
def K_read_values_member : KF := ⟨2,58,[(.cell 4 true 6),(.tmp 5)],(Q [o 4 (.new [ve,vu 0,vi 0,ve,.nils,.nils] none),o 5 (.mv (ci 0))]
(.seq (Q [m 11 0,o 12 (.nilck (.t 11)),xa 13 0 12,xa 14 2 13,xa 15 0 14,xf 16 15,o 17 (.bin .neq 0 true (.t 16) (cu 10))]
(.cond (.t 17)
(Q [o 18 (.build [ve,vu 0,vi 0,ve,.nils,.nils] []),m 19 0,o 20 (.callF f_read_values_wrong [.t 19]),xs 6 4 18,m 5 20]
(.ret [4,5]))
.skip))
(Q [m 21 0,o 22 (.nilck (.t 21)),xa 23 0 22,xa 24 2 23,xa 25 4 24,xf 26 25,m 6 26]
(.seq (Q [m 27 1,m 28 6,o 29 (.lookup (vi 0) (.t 27) (.t 28) false),o 30 (.bin .gtr 0 true (.t 29) (ci 0))]
(.cond (.t 30)
(Q [o 31 (.build [ve,vu 0,vi 0,ve,.nils,.nils] []),xs 6 4 31,o 5 (.mv (ci 7))]
(.ret [4,5]))
.skip))
(.seq (Q [m 32 0,o 33 (.callF f_read_values_expect [.t 32,cu 6]),m 7 33]
(Q [m 34 7,o 35 (.bin .neq 0 true (.t 34) (ci 0))]
(.cond (.t 35)
(Q [o 36 (.build [ve,vu 0,vi 0,ve,.nils,.nils] []),m 37 7,xs 6 4 36,m 5 37]
(.ret [4,5]))
.skip)))
(.seq (Q [m 38 0,o 39 (.nilck (.t 38)),xa 40 0 39,o 41 (.callF f_read_tokens_next [.t 40]),m 8 41]
(Q [m 42 8,o 43 (.bin .neq 0 true (.t 42) (ci 0))]
(.cond (.t 43)
(Q [o 44 (.build [ve,vu 0,vi 0,ve,.nils,.nils] []),m 45 8,xs 6 4 44,m 5 45]
(.ret [4,5]))
.skip)))
(Q [m 47 0,o 48 (.callF f_read_values_value [.t 47]),m 46 48,xe 49 46 0,xe 50 46 1,o 9 (.new [vu 0,vi 0,ve,.nils,.nils] none),xs 5 9 49,m 10 50]
(.seq (Q [m 51 10,o 52 (.bin .neq 0 true (.t 51) (ci 0))]
(.cond (.t 52)
(Q [o 53 (.build [ve,vu 0,vi 0,ve,.nils,.nils] []),m 54 10,xs 6 4 53,m 5 54]
(.ret [4,5]))
.skip))
(Q [m 55 6,xl 56 5 9,o 57 (.build [ve,vu 0,vi 0,ve,.nils,.nils] [(0,1,(.t 55)),(1,5,(.t 56))]),xs 6 4 57,o 5 (.mv (ci 0))]
(.ret [4,5]))))))))))⟩
/-! legate/read.sorted -/
def L_read_sorted_0 : KC :=
(Q [o 12 (.bin .lss 0 false (.t 11) (.t 10))]
(.seq (.cond (.t 12)
.skip
(.exit [2,3] 0))
(.seq (.block 1
(Q [o 13 (.idxAddrSl 6 (.t 9) (.t 11)),xl 14 6 13,o 5 (.new [ve,vu 0,vi 0,ve,.nils,.nils] none),xs 6 5 14]
(Q [xa 15 3 3,xf 16 15,xa 17 0 5,xf 18 17,o 19 (.buildSl [ve] 1 1 [(0,1,(.t 18))]),o 20 (.app false 1 16 none (.t 16) (.t 19)),xa 21 3 3,xs 1 21 20]
(.ops [xa 22 4 3,xf 23 22,xa 24 1 5,xl 25 5 24,o 26 (.buildSl [vu 0,vi 0,ve,.nils,.nils] 1 5 [(0,5,(.t 25))]),o 27 (.app false 5 80 none (.t 23) (.t 26)),xa 28 4 3,xs 1 28 27]))))
(.ops [o 29 (.bin .add 0 true (.t 11) (ci 1)),m 11 29]))))
def K_read_sorted : KF := ⟨1,31,[(.cell 2 true 5)],(Q [o 2 (.new [vu 0,vi 0,ve,.nils,.nils] none)]
(Q [m 6 0,o 7 (.callF f_slices_SortFunc_read_member_read_member [.t 6,(.c (.func (.func f_read_sorted_1) [] []))])]
(Q [o 8 (.build [vu 0,vi 0,ve,.nils,.nils] [(0,1,(cu 5))]),o 3 (.new [vu 0,vi 0,ve,.nils,.nils] none),xs 5 3 8]
(.seq (Q [m 9 0,o 10 (.len 1 (.t 9)),o 11 (.mv (ci 0))]
(.block 0
(.loop [2,3,9,10,11] L_read_sorted_0)))
(Q [xl 30 5 3,xs 5 2 30]
(.ret [2]))))))⟩
/-! (*legate/pick.Obj).Texts -/
def K_pick_Obj_Texts : KF := ⟨3,11,[(.tmp 6)],(Q [o 5 (.box (.t 2)),o 6 (.mv (.c .nils))]
(Q [m 7 0,m 8 1,o 9 (.mkFunc (.func f_pick_Obj_Texts_1) [] [.t 5]),o 10 (.callF f_pick_take_string_326 [.t 7,.t 8,.t 9]),m 6 10]
(.ret [6])))⟩
/-! legate/judge.sigMay -/
def K_judge_sigMay : KF := ⟨1,21,[(.tmp 2)],(Q [o 2 (.mv (.c (.bool false)))]
(Q [m 3 0,o 4 (.len 0 (.t 3)),o 5 (.bin .geq 0 true (.t 4) (ci 2)),m 6 5,og 7 6 true (.mv (.t 0)),og 8 6 true (.len 0 (.t 7)),og 9 6 true (.bin .leq 0 true (.t 8) (ci 128)),o 10 (.pick (.t 6) (.t 9) (.c (.bool false))),m 11 10,og 12 11 true (.mv (.t 0)),og 13 11 true (.len 0 (.t 12)),og 14 11 true (.bin .rem 0 true (.t 13) (ci 2)),og 15 11 true (.bin .eql 0 true (.t 14) (ci 0)),o 16 (.pick (.t 11) (.t 15) (.c (.bool false))),m 17 16,og 18 17 true (.mv (.t 0)),og 19 17 true (.callF f_hex_Is [.t 18]),o 20 (.pick (.t 17) (.t 19) (.c (.bool false))),m 2 20]
(.ret [2])))⟩
/-! internal/strconv.log10Pow2 -/
def K_internal_strconv_log10Pow2 : KF := ⟨1,6,[(.tmp 2)],(Q [o 2 (.mv (ci 0))]
(Q [m 3 0,o 4 (.bin .mul 0 true (.t 3) (ci 78913)),o 5 (.bin .shr 0 true (.t 4) (.c (.int .u64 18))),m 2 5]
(.ret [2])))⟩
/-! internal/strconv.bool2[int] -/
def K_internal_strconv_bool2_int : KF := ⟨1,4,[(.tmp 2)],(Q [o 2 (.mv (ci 0))]
(.seq (Q [m 3 0]
(.cond (.t 3)
(Q [o 2 (.mv (ci 1))]
(.ret [2]))
.skip))
(Q [o 2 (.mv (ci 0))]
(.ret [2]))))⟩
/-! sort.Search -/
def L_sort_Search_0 : KC :=
(.seq (Q [m 9 5,m 10 6,o 11 (.bin .lss 0 false (.t 9) (.t 10))]
(.cond (.t 11)
.skip
(.exit [5] 0)))
(.block 1
(Q [m 12 5,m 13 6,o 14 (.bin .add 0 false (.t 12) (.t 13)),o 15 (.i2i .u64 (.t 14)),o 16 (.bin .shr 0 true (.t 15) (.c (.int .u64 1))),o 17 (.i2i .i64 (.t 16)),m 7 17]
(Q [m 18 1,m 19 7,o 20 (.callV (.t 18) [.t 19]),o 21 (.un .not (.t 20))]
(.cond (.t 21)
(.ops [m 22 7,o 23 (.bin .add 0 true (.t 22) (ci 1)),m 5 23])
(.ops [m 24 7,m 6 24]))))))
def K_sort_Search : KF := ⟨2,26,[(.tmp 4)],(Q [o 4 (.mv (ci 0))]
(Q [m 8 0,o 5 (.mv (ci 0)),m 6 8]
(.seq (.block 0
(.loop [1,5,6] L_sort_Search_0))
(Q [m 25 5,m 4 25]
(.ret [4])))))⟩
/-! legate/value.find$1 -/
def K_value_find_1 : KF := ⟨3,11,[(.tmp 4)],(Q [o 4 (.mv (.c (.bool false)))]
(.seq (.plain [xf 5 1,m 6 0,o 7 (.idxAddrSl 1 (.t 5) (.t 6)),xf 8 7,xf 9 2,o 10 (.bin .geq 0 false (.t 8) (.t 9)),m 4 10])
(.ret [4])))⟩
/-! legate/lex.open -/
def K_lex_open : KF := ⟨2,10,[(.cell 4 true 5),(.tmp 5)],(Q [o 4 (.new [vu 0,vi 0,vi 0,vi 0,ve] none),o 5 (.mv (ci 0))]
(Q [m 6 1,o 7 (.callF f_lex_sign [cu 1,.t 6]),xe 8 7 0,xe 9 7 1,xs 5 4 8,m 5 9]
(.ret [4,5])))⟩
/-! legate/lex.shut -/
def K_lex_shut : KF := ⟨2,10,[(.cell 4 true 5),(.tmp 5)],(Q [o 4 (.new [vu 0,vi 0,vi 0,vi 0,ve] none),o 5 (.mv (ci 0))]
(Q [m 6 1,o 7 (.callF f_lex_sign [cu 2,.t 6]),xe 8 7 0,xe 9 7 1,xs 5 4 8,m 5 9]
(.ret [4,5])))⟩
/-! legate/lex.first -/
def K_lex_first : KF := ⟨2,10,[(.cell 4 true 5),(.tmp 5)],(Q [o 4 (.new [vu 0,vi 0,vi 0,vi 0,ve] none),o 5 (.mv (ci 0))]
(Q [m 6 1,o 7 (.callF f_lex_sign [cu 3,.t 6]),xe 8 7 0,xe 9 7 1,xs 5 4 8,m 5 9]
(.ret [4,5])))⟩
/-! legate/lex.last -/
def K_lex_last : KF := ⟨2,10,[(.cell 4 true 5),(.tmp 5)],(Q [o 4 (.new [vu 0,vi 0,vi 0,vi 0,ve] none),o 5 (.mv (ci 0))]
(Q [m 6 1,o 7 (.callF f_lex_sign [cu 4,.t 6]),xe 8 7 0,xe 9 7 1,xs 5 4 8,m 5 9]
(.ret [4,5])))⟩
/-! legate/lex.comma -/
def K_lex_comma : KF := ⟨2,10,[(.cell 4 true 5),(.tmp 5)],(Q [o 4 (.new [vu 0,vi 0,vi 0,vi 0,ve] none),o 5 (.mv (ci 0))]
(Q [m 6 1,o 7 (.callF f_lex_sign [cu 5,.t 6]),xe 8 7 0,xe 9 7 1,xs 5 4 8,m 5 9]
(.ret [4,5])))⟩
/-! legate/lex.colon -/
def K_lex_colon : KF := ⟨2,10,[(.cell 4 true 5),(.tmp 5)],(Q [o 4 (.new [vu 0,vi 0,vi 0,vi 0,ve] none),o 5 (.mv (ci 0))]
(Q [m 6 1,o 7 (.callF f_lex_sign [cu 6,.t 6]),xe 8 7 0,xe 9 7 1,xs 5 4 8,m 5 9]
(.ret [4,5])))⟩
/-! legate/lex.number -/
def K_lex_number : KF := ⟨2,24,[(.cell 4 true 5),(.tmp 5)],(Q [o 4 (.new [vu 0,vi 0,vi 0,vi 0,ve] none),o 5 (.mv (ci 0))]
(Q [m 10 0,m 11 1,o 12 (.callF f_num_Read [.t 10,.t 11]),m 9 12,xe 13 9 0,xe 14 9 1,xe 15 9 2,m 6 13,m 7 14,m 8 15]
(.seq (Q [m 16 8,o 17 (.bin .neq 0 true (.t 16) (ci 0))]
(.cond (.t 17)
(Q [o 18 (.build [vu 0,vi 0,vi 0,vi 0,ve] []),m 19 8,xs 5 4 18,m 5 19]
(.ret [4,5]))
.skip))
(Q [m 20 1,m 21 7,m 22 6,o 23 (.build [vu 0,vi 0,vi 0,vi 0,ve] [(0,1,(cu 9)),(1,1,(.t 20)),(2,1,(.t 21)),(3,1,(.t 22))]),xs 5 4 23,o 5 (.mv (ci 0))]
(.ret [4,5])))))⟩
/-! legate/lex.text -/
def K_lex_text : KF := ⟨2,24,[(.cell 4 true 5),(.tmp 5)],(Q [o 4 (.new [vu 0,vi 0,vi 0,vi 0,ve] none),o 5 (.mv (ci 0))]
(Q [m 10 0,m 11 1,o 12 (.callF f_quote_Read [.t 10,.t 11]),m 9 12,xe 13 9 0,xe 14 9 1,xe 15 9 2,m 6 13,m 7 14,m 8 15]
(.seq (Q [m 16 8,o 17 (.bin .neq 0 true (.t 16) (ci 0))]
(.cond (.t 17)
(Q [o 18 (.build [vu 0,vi 0,vi 0,vi 0,ve] []),m 19 8,xs 5 4 18,m 5 19]
(.ret [4,5]))
.skip))
(Q [m 20 1,m 21 7,m 22 6,o 23 (.build [vu 0,vi 0,vi 0,vi 0,ve] [(0,1,(cu 10)),(1,1,(.t 20)),(2,1,(.t 21)),(4,1,(.t 22))]),xs 5 4 23,o 5 (.mv (ci 0))]
(.ret [4,5])))))⟩
/-! (*legate/read.values).expect -/
def K_read_values_expect : KF := ⟨2,23,[(.tmp 4)],(Q [o 4 (.mv (ci 0))]
(.seq (Q [m 6 0,o 7 (.nilck (.t 6)),xa 8 0 7,o 9 (.callF f_read_tokens_next [.t 8]),m 5 9]
(Q [m 10 5,o 11 (.bin .neq 0 true (.t 10) (ci 0))]
(.cond (.t 11)
(Q [m 12 5,m 4 12]
(.ret [4]))
.skip)))
(.seq (Q [m 13 0,o 14 (.nilck (.t 13)),xa 15 0 14,xa 16 2 15,xa 17 0 16,xf 18 17,m 19 1,o 20 (.bin .neq 0 false (.t 18) (.t 19))]
(.cond (.t 20)
(Q [m 21 0,o 22 (.callF f_read_values_wrong [.t 21]),m 4 22]
(.ret [4]))
.skip))
(Q [o 4 (.mv (ci 0))]
(.ret [4])))))⟩
/-! slices.SortFunc[[]legate/read.member,legate/read.member] -/
def K_slices_SortFunc_read_member_read_member : KF := ⟨2,14,[],(Q [m 5 0,o 6 (.len 1 (.t 5)),m 4 6]
(.ops [m 7 0,m 8 4,m 9 4,o 10 (.i2i .u64 (.t 9)),o 11 (.callF f_math_bits_Len [.t 10]),m 12 1,o 13 (.callF f_slices_pdqsortCmpFunc_read_member [.t 7,ci 0,.t 8,.t 11,.t 12])]))⟩
/-! legate/read.sorted$1 -/
def K_read_sorted_1 : KF := ⟨2,10,[(.tmp 4)],(Q [o 2 (.box (.t 0)),o 3 (.box (.t 1)),o 4 (.mv (ci 0))]
(Q [xa 5 0 2,xf 6 5,xa 7 0 3,xf 8 7,o 9 (.callF f_strings_Compare [.t 6,.t 8]),m 4 9]
(.ret [4])))⟩
/-! legate/pick.take[[]string] -/
def K_pick_take_string_326 : KF := ⟨3,50,[(.tmp 6)],(Q [o 6 (.mv (.c .nils))]
(Q [o 7 (.mv (.c .nils))]
(.seq (Q [m 12 0,o 13 (.callF f_pick_Obj_Err [.t 12]),o 14 (.bin .neq 0 true (.t 13) (ci 0))]
(.cond (.t 14)
(Q [m 15 7,m 6 15]
(.ret [6]))
.skip))
(Q [m 17 0,o 18 (.nilck (.t 17)),xa 19 0 18,xl 20 5 19,m 21 1,o 22 (.callF f_value_Get [.t 20,.t 21]),m 16 22,xe 23 16 0,xe 24 16 1,o 8 (.new [vu 0,vi 0,ve,.nils,.nils] none),xs 5 8 23,m 9 24]
(.seq (Q [m 25 9,o 26 (.un .not (.t 25))]
(.cond (.t 26)
(Q [m 27 0,o 28 (.callF f_pick_Obj_Fail [.t 27,ci 6])]
(Q [m 29 7,m 6 29]
(.ret [6])))
.skip))
(Q [m 31 2,xl 32 5 8,o 33 (.callV (.t 31) [.t 32]),m 30 33,xe 34 30 0,xe 35 30 1,m 10 34,m 11 35]
(.seq (Q [m 36 11,o 37 (.bin .neq 0 true (.t 36) (ci 0))]
(.cond (.t 37)
(Q [m 38 0,m 39 11,o 40 (.callF f_pick_Obj_Fail [.t 38,.t 39])]
(Q [m 41 7,m 6 41]
(.ret [6])))
.skip))
(Q [m 42 0,o 43 (.nilck (.t 42)),xa 44 5 43,xf 45 44,m 46 1,o 47 (.lookup (vi 0) (.t 45) (.t 46) false),o 48 (.bin .add 0 true (.t 47) (ci 1)),u (.mapUpd (.t 45) (.t 46) (.t 48))]
(Q [m 49 10,m 6 49]
(.ret [6]))))))))))⟩
/-! (*legate/pick.Obj).Texts$1 -/
def L_pick_Obj_Texts_1_0 : KC :=
(Q [o 22 (.bin .lss 0 false (.t 21) (.t 20))]
(.seq (.cond (.t 22)
.skip
(.exit [7] 0))
(.seq (.block 1
(Q [o 23 (.idxAddrSl 5 (.t 19) (.t 21)),xl 24 5 23,o 9 (.new [vu 0,vi 0,ve,.nils,.nils] none),xs 5 9 24]
(.seq (Q [xa 25 0 9,xf 26 25,o 27 (.bin .neq 0 true (.t 26) (cu 3))]
(.cond (.t 27)
(Q [o 3 (.mv (.c .nils)),o 4 (.mv (ci 10))]
(.ret [3,4]))
.skip))
(.ops [m 28 7,xa 29 2 9,xf 30 29,o 31 (.buildSl [ve] 1 1 [(0,1,(.t 30))]),o 32 (.app false 1 16 none (.t 28) (.t 31)),m 7 32]))))
(.ops [o 33 (.bin .add 0 true (.t 21) (ci 1)),m 21 33]))))
def K_pick_Obj_Texts_1 : KF := ⟨2,35,[(.tmp 3),(.tmp 4)],(Q [o 2 (.box (.t 0)),o 3 (.mv (.c .nils)),o 4 (.mv (ci 0))]
(Q [xl 11 5 2,xf 12 1,o 13 (.callF f_pick_items [.t 11,.t 12]),m 10 13,xe 14 10 0,xe 15 10 1,m 5 14,m 6 15]
(.seq (Q [m 16 6,o 17 (.bin .neq 0 true (.t 16) (ci 0))]
(.cond (.t 17)
(Q [m 18 6,o 3 (.mv (.c .nils)),m 4 18]
(.ret [3,4]))
.skip))
(Q [o 7 (.mv (.c .nils))]
(.seq (Q [m 19 5,o 20 (.len 1 (.t 19)),o 21 (.mv (ci 0))]
(.block 0
(.loop [7,19,20,21] L_pick_Obj_Texts_1_0)))
(Q [m 34 7,m 3 34,o 4 (.mv (ci 0))]
(.ret [3,4])))))))⟩
/-! legate/lex.sign -/
def K_lex_sign : KF := ⟨2,11,[(.cell 4 true 5),(.tmp 5)],(Q [o 4 (.new [vu 0,vi 0,vi 0,vi 0,ve] none),o 5 (.mv (ci 0))]
(Q [m 6 0,m 7 1,m 8 1,o 9 (.bin .add 0 true (.t 8) (ci 1)),o 10 (.build [vu 0,vi 0,vi 0,vi 0,ve] [(0,1,(.t 6)),(1,1,(.t 7)),(2,1,(.t 9))]),xs 5 4 10,o 5 (.mv (ci 0))]
(.ret [4,5])))⟩
/-! legate/num.Read -/
def L_num_Read_0 : KC :=
(.seq (Q [m 18 7,m 19 0,o 20 (.len 0 (.t 19)),o 21 (.bin .lss 0 false (.t 18) (.t 20))]
(.cond (.t 21)
.skip
(.exit [0,1,7] 0)))
(.block 1
(Q [m 22 0,m 23 7,o 24 (.idxStr (.t 22) (.t 23))]
(.block 2
(.seq (Q [o 26 (.bin .eql 0 true (.t 24) (cu 48)),m 25 26]
(.cond (.t 25)
.skip
(Q [o 27 (.bin .eql 0 true (.t 24) (cu 49)),m 25 27]
(.cond (.t 25)
.skip
(Q [o 28 (.bin .eql 0 true (.t 24) (cu 50)),m 25 28]
(.cond (.t 25)
.skip
(Q [o 29 (.bin .eql 0 true (.t 24) (cu 51)),m 25 29]
(.cond (.t 25)
.skip
(Q [o 30 (.bin .eql 0 true (.t 24) (cu 52)),m 25 30]
(.cond (.t 25)
.skip
(Q [o 31 (.bin .eql 0 true (.t 24) (cu 53)),m 25 31]
(.cond (.t 25)
.skip
(Q [o 32 (.bin .eql 0 true (.t 24) (cu 54)),m 25 32]
(.cond (.t 25)
.skip
(Q [o 33 (.bin .eql 0 true (.t 24) (cu 55)),m 25 33]
(.cond (.t 25)
.skip
(Q [o 34 (.bin .eql 0 true (.t 24) (cu 56)),m 25 34]
(.cond (.t 25)
.skip
(Q [o 35 (.bin .eql 0 true (.t 24) (cu 57)),m 25 35]
(.cond (.t 25)
.skip
(Q [o 36 (.bin .eql 0 true (.t 24) (cu 45)),m 25 36]
(.cond (.t 25)
.skip
(Q [o 37 (.bin .eql 0 true (.t 24) (cu 43)),m 25 37]
(.cond (.t 25)
.skip
(Q [o 38 (.bin .eql 0 true (.t 24) (cu 46)),m 25 38]
(.cond (.t 25)
.skip
(Q [o 39 (.bin .eql 0 true (.t 24) (cu 101)),m 25 39]
(.cond (.t 25)
.skip
(.ops [o 40 (.bin .eql 0 true (.t 24) (cu 69)),m 25 40])))))))))))))))))))))))))))))
(.cond (.t 25)
(.ops [m 41 7,o 42 (.bin .add 0 true (.t 41) (ci 1)),m 7 42])
(.exit [0,1,7] 0)))))))
def K_num_Read : KF := ⟨2,61,[(.tmp 4),(.tmp 5),(.tmp 6)],(Q [o 4 (.mv (ci 0)),o 5 (.mv (ci 0)),o 6 (.mv (ci 0))]
(.scope (.seq (Q [m 9 1,o 10 (.bin .lss 0 true (.t 9) (ci 0)),m 11 10,og 12 11 false (.mv (.t 1)),og 13 11 false (.mv (.t 0)),og 14 11 false (.len 0 (.t 13)),og 15 11 false (.bin .gtr 0 false (.t 12) (.t 14)),o 16 (.pick (.t 11) (.c (.bool true)) (.t 15))]
(.cond (.t 16)
(Q [o 4 (.mv (ci 0)),o 5 (.mv (ci 0)),o 6 (.mv (ci 1))]
(.ret [4,5,6]))
.skip))
(Q [m 17 1,m 7 17]
(.seq .skip
(.seq (.block 0
(.loop [0,1,7] L_num_Read_0))
(.seq (Q [m 43 0,m 44 1,m 45 7,o 46 (.sliceStr (.t 43) (some (.t 44)) (some (.t 45))),o 47 (.callF f_num_formed [.t 46]),o 48 (.un .not (.t 47))]
(.cond (.t 48)
(Q [o 4 (.mv (ci 0)),o 5 (.mv (ci 0)),o 6 (.mv (ci 3))]
(.ret [4,5,6]))
.skip))
(Q [m 50 0,m 51 1,m 52 7,o 53 (.sliceStr (.t 50) (some (.t 51)) (some (.t 52))),o 54 (.callF f_strconv_ParseInt [.t 53,ci 10,ci 64]),m 49 54,xe 55 49 0,xe 56 49 1,m 4 55,m 8 56]
(.seq (Q [m 57 8,o 58 (.bin .neq 5 true (.t 57) (.c .nilIface))]
(.cond (.t 58)
(Q [o 4 (.mv (ci 0)),o 5 (.mv (ci 0)),o 6 (.mv (ci 9))]
(.ret [4,5,6]))
.skip))
(Q [m 59 4,m 60 7,m 4 59,m 5 60,o 6 (.mv (ci 0))]
(.ret [4,5,6])))))))))))⟩
/-! slices.pdqsortCmpFunc[legate/read.member] -/
def L_slices_pdqsortCmpFunc_read_member_0 : KC :=
(.block 1
(Q [m 21 2,m 22 1,o 23 (.bin .sub 0 false (.t 21) (.t 22)),m 12 23]
(.seq (Q [m 24 12,o 25 (.bin .leq 0 true (.t 24) (ci 12))]
(.cond (.t 25)
(Q [m 26 0,m 27 1,m 28 2,m 29 4,o 30 (.callF f_slices_insertionSortCmpFunc_read_member [.t 26,.t 27,.t 28,.t 29])]
(.ret []))
.skip))
(.seq (Q [m 31 3,o 32 (.bin .eql 0 true (.t 31) (ci 0))]
(.cond (.t 32)
(Q [m 33 0,m 34 1,m 35 2,m 36 4,o 37 (.callF f_slices_heapSortCmpFunc_read_member [.t 33,.t 34,.t 35,.t 36])]
(.ret []))
.skip))
(.seq (Q [m 38 10,o 39 (.un .not (.t 38))]
(.cond (.t 39)
(Q [m 40 0,m 41 1,m 42 2,m 43 4,o 44 (.callF f_slices_breakPatternsCmpFunc_read_member [.t 40,.t 41,.t 42,.t 43])]
(.ops [m 45 3,o 46 (.bin .sub 0 true (.t 45) (ci 1)),m 3 46]))
.skip))
(Q [m 48 0,m 49 1,m 50 2,m 51 4,o 52 (.callF f_slices_choosePivotCmpFunc_read_member [.t 48,.t 49,.t 50,.t 51]),m 47 52,xe 53 47 0,xe 54 47 1,m 13 53,m 14 54]
(.seq (Q [m 55 14,o 56 (.bin .eql 0 true (.t 55) (ci 2))]
(.cond (.t 56)
(Q [m 57 0,m 58 1,m 59 2,m 60 4,o 61 (.callF f_slices_reverseRangeCmpFunc_read_member [.t 57,.t 58,.t 59,.t 60])]
(Q [m 62 2,o 63 (.bin .sub 0 true (.t 62) (ci 1)),m 64 13,m 65 1,o 66 (.bin .sub 0 false (.t 64) (.t 65)),o 67 (.bin .sub 0 false (.t 63) (.t 66)),m 13 67]
(.ops [o 14 (.mv (ci 1))])))
.skip))
(.seq (Q [m 68 10,m 69 68,og 70 69 true (.mv (.t 11)),o 71 (.pick (.t 69) (.t 70) (.c (.bool false))),m 72 71,og 73 72 true (.mv (.t 14)),og 74 72 true (.bin .eql 0 true (.t 73) (ci 1)),o 75 (.pick (.t 72) (.t 74) (.c (.bool false)))]
(.cond (.t 75)
(Q [m 76 0,m 77 1,m 78 2,m 79 4,o 80 (.callF f_slices_partialInsertionSortCmpFunc_read_member [.t 76,.t 77,.t 78,.t 79])]
(.cond (.t 80)
(.ret [])
.skip))
.skip))
(.seq (.seq (.plain [m 81 1,o 82 (.bin .gtr 0 true (.t 81) (ci 0)),m 83 82,og 84 83 true (.mv (.t 4)),og 85 83 true (.mv (.t 0)),og 86 83 true (.mv (.t 1)),og 87 83 true (.bin .sub 0 true (.t 86) (ci 1)),og 88 83 true (.idxAddrSl 6 (.t 85) (.t 87)),og 89 83 true (.load true 6 (.t 88)),og 90 83 true (.mv (.t 0)),og 91 83 true (.mv (.t 13)),og 92 83 true (.idxAddrSl 6 (.t 90) (.t 91)),og 93 83 true (.load true 6 (.t 92)),og 94 83 true (.callV (.t 84) [.t 89,.t 93]),og 95 83 true (.bin .lss 0 true (.t 94) (ci 0)),og 96 83 true (.un .not (.t 95)),o 97 (.pick (.t 83) (.t 96) (.c (.bool false)))])
(.cond (.t 97)
(Q [m 98 0,m 99 1,m 100 2,m 101 13,m 102 4,o 103 (.callF f_slices_partitionEqualCmpFunc_read_member [.t 98,.t 99,.t 100,.t 101,.t 102]),m 15 103]
(Q [m 104 15,m 1 104]
(.exit [0,1,2,3,4,10,11] 1)))
.skip))
(Q [m 106 0,m 107 1,m 108 2,m 109 13,m 110 4,o 111 (.callF f_slices_partitionCmpFunc_read_member [.t 106,.t 107,.t 108,.t 109,.t 110]),m 105 111,xe 112 105 0,xe 113 105 1,m 16 112,m 17 113]
(Q [m 114 17,m 11 114]
(Q [m 115 16,m 116 1,o 117 (.bin .sub 0 false (.t 115) (.t 116)),m 118 2,m 119 16,o 120 (.bin .sub 0 false (.t 118) (.t 119)),m 18 117,m 19 120]
(Q [m 121 12,o 122 (.bin .quo 0 true (.t 121) (ci 8)),m 20 122]
(Q [m 123 18,m 124 19,o 125 (.bin .lss 0 false (.t 123) (.t 124))]
(.cond (.t 125)
(Q [m 126 18,m 127 20,o 128 (.bin .geq 0 false (.t 126) (.t 127)),m 10 128]
(Q [m 129 0,m 130 1,m 131 16,m 132 3,m 133 4,o 134 (.callF f_slices_pdqsortCmpFunc_read_member [.t 129,.t 130,.t 131,.t 132,.t 133])]
(.ops [m 135 16,o 136 (.bin .add 0 true (.t 135) (ci 1)),m 1 136])))
(Q [m 137 19,m 138 20,o 139 (.bin .geq 0 false (.t 137) (.t 138)),m 10 139]
(Q [m 140 0,m 141 16,o 142 (.bin .add 0 true (.t 141) (ci 1)),m 143 2,m 144 3,m 145 4,o 146 (.callF f_slices_pdqsortCmpFunc_read_member [.t 140,.t 142,.t 143,.t 144,.t 145])]
(.ops [m 147 16,m 2 147]))))))))))))))))))
def K_slices_pdqsortCmpFunc_read_member : KF := ⟨5,148,[],(Q [o 10 (.mv (.c (.bool true)))]
(Q [o 11 (.mv (.c (.bool true)))]
(.block 0
(.loop [0,1,2,3,4,10,11] L_slices_pdqsortCmpFunc_read_member_0))))⟩
/-! legate/num.formed -/
def L_num_formed_0 : KC :=
(Q [o 25 (.bin .lss 0 false (.t 24) (.t 23))]
(.seq (.cond (.t 25)
.skip
(.exit [] 0))
(.seq (.block 1
(Q [m 26 24,m 3 26]
(Q [m 27 0,m 28 3,o 29 (.idxStr (.t 27) (.t 28)),o 30 (.bin .lss 0 true (.t 29) (cu 48)),m 31 30,og 32 31 false (.mv (.t 0)),og 33 31 false (.mv (.t 3)),og 34 31 false (.idxStr (.t 32) (.t 33)),og 35 31 false (.bin .gtr 0 true (.t 34) (cu 57)),o 36 (.pick (.t 31) (.c (.bool true)) (.t 35))]
(.cond (.t 36)
(Q [o 2 (.mv (.c (.bool false)))]
(.ret [2]))
.skip))))
(.ops [o 37 (.bin .add 0 true (.t 24) (ci 1)),m 24 37]))))
def K_num_formed : KF := ⟨1,38,[(.tmp 2)],(Q [o 2 (.mv (.c (.bool false)))]
(.seq (Q [m 4 0,o 5 (.bin .eql 0 true (.t 4) (cs [48]))]
(.cond (.t 5)
(Q [o 2 (.mv (.c (.bool true)))]
(.ret [2]))
.skip))
(.seq (Q [m 6 0,o 7 (.bin .neq 0 true (.t 6) (cs [])),m 8 7,og 9 8 true (.mv (.t 0)),og 10 8 true (.idxStr (.t 9) (ci 0)),og 11 8 true (.bin .eql 0 true (.t 10) (cu 45)),o 12 (.pick (.t 8) (.t 11) (.c (.bool false)))]
(.cond (.t 12)
(.ops [m 13 0,o 14 (.sliceStr (.t 13) (some (ci 1)) none),m 0 14])
.skip))
(.seq (Q [m 15 0,o 16 (.bin .eql 0 true (.t 15) (cs [])),m 17 16,og 18 17 false (.mv (.t 0)),og 19 17 false (.idxStr (.t 18) (ci 0)),og 20 17 false (.bin .eql 0 true (.t 19) (cu 48)),o 21 (.pick (.t 17) (.c (.bool true)) (.t 20))]
(.cond (.t 21)
(Q [o 2 (.mv (.c (.bool false)))]
(.ret [2]))
.skip))
(.seq (Q [m 22 0,o 23 (.len 0 (.t 22)),o 24 (.mv (ci 0))]
(.block 0
(.loop [0,23,24] L_num_formed_0)))
(Q [o 2 (.mv (.c (.bool true)))]
(.ret [2])))))))⟩
/-! strconv.ParseInt -/
def K_strconv_ParseInt : KF := ⟨3,25,[(.tmp 6),(.tmp 7)],(Q [o 6 (.mv (ci 0)),o 7 (.mv (.c .nilIface))]
(Q [m 10 0,m 11 1,m 12 2,o 13 (.callF f_internal_strconv_ParseInt [.t 10,.t 11,.t 12]),m 9 13,xe 14 9 0,xe 15 9 1,m 8 14,m 7 15]
(.seq (Q [m 16 7,o 17 (.bin .neq 5 true (.t 16) (.c .nilIface))]
(.cond (.t 17)
(Q [m 18 8,m 19 0,m 20 1,m 21 2,m 22 7,o 23 (.callF f_strconv_toError [cs [80,97,114,115,101,73,110,116],.t 19,.t 20,.t 21,.t 22]),m 6 18,m 7 23]
(.ret [6,7]))
.skip))
(Q [m 24 8,m 6 24,o 7 (.mv (.c .nilIface))]
(.ret [6,7])))))⟩
/-! slices.insertionSortCmpFunc[legate/read.member] -/
def L_slices_insertionSortCmpFunc_read_member_0 : KC :=
(.seq (.seq (.plain [m 18 9,m 19 1,o 20 (.bin .gtr 0 false (.t 18) (.t 19)),m 21 20,og 22 21 true (.mv (.t 3)),og 23 21 true (.mv (.t 0)),og 24 21 true (.mv (.t 9)),og 25 21 true (.idxAddrSl 6 (.t 23) (.t 24)),og 26 21 true (.load true 6 (.t 25)),og 27 21 true (.mv (.t 0)),og 28 21 true (.mv (.t 9)),og 29 21 true (.bin .sub 0 true (.t 28) (ci 1)),og 30 21 true (.idxAddrSl 6 (.t 27) (.t 29)),og 31 21 true (.load true 6 (.t 30)),og 32 21 true (.callV (.t 22) [.t 26,.t 31]),og 33 21 true (.bin .lss 0 true (.t 32) (ci 0)),o 34 (.pick (.t 21) (.t 33) (.c (.bool false)))])
(.cond (.t 34)
.skip
(.exit [0,1,2,3,8] 2)))
(.seq (.block 3
(.plain [m 37 0,m 38 9,m 39 0,m 40 9,o 41 (.bin .sub 0 true (.t 40) (ci 1)),m 42 0,m 43 9,o 44 (.bin .sub 0 true (.t 43) (ci 1)),o 45 (.idxAddrSl 6 (.t 42) (.t 44)),xl 46 6 45,m 47 0,m 48 9,o 49 (.idxAddrSl 6 (.t 47) (.t 48)),xl 50 6 49,o 51 (.idxAddrSl 6 (.t 37) (.t 38)),xs 6 51 46,o 52 (.idxAddrSl 6 (.t 39) (.t 41)),xs 6 52 50]))
(.ops [m 35 9,o 36 (.bin .sub 0 true (.t 35) (ci 1)),m 9 36])))
def L_slices_insertionSortCmpFunc_read_member_1 : KC :=
(.seq (Q [m 12 8,m 13 2,o 14 (.bin .lss 0 false (.t 12) (.t 13))]
(.cond (.t 14)
.skip
(.exit [] 0)))
(.seq (.block 1
(Q [m 17 8,m 9 17]
(.block 2
(.loop [0,1,2,3,8,9] L_slices_insertionSortCmpFunc_read_member_0))))
(.ops [m 15 8,o 16 (.bin .add 0 true (.t 15) (ci 1)),m 8 16])))
def K_slices_insertionSortCmpFunc_read_member : KF := ⟨4,53,[],(Q [m 10 1,o 11 (.bin .add 0 true (.t 10) (ci 1)),m 8 11]
(.block 0
(.loop [0,1,2,3,8] L_slices_insertionSortCmpFunc_read_member_1)))⟩
/-! internal/strconv.ParseInt -/
def K_internal_strconv_ParseInt : KF := ⟨3,73,[(.tmp 6),(.tmp 7)],(Q [o 6 (.mv (ci 0)),o 7 (.mv (.c .nilIface))]
(.seq (Q [m 12 0,o 13 (.bin .eql 0 true (.t 12) (cs []))]
(.cond (.t 13)
(Q [o 14 (.mkIface 463 (ci 2)),o 6 (.mv (ci 0)),m 7 14]
(.ret [6,7]))
.skip))
(Q [o 8 (.mv (.c (.bool false)))]
(.seq (Q [m 15 0,o 16 (.idxStr (.t 15) (ci 0))]
(.block 0
(Q [o 18 (.bin .eql 0 true (.t 16) (cu 43)),m 17 18]
(.cond (.t 17)
(.ops [m 19 0,o 20 (.sliceStr (.t 19) (some (ci 1)) none),m 0 20])
(Q [o 22 (.bin .eql 0 true (.t 16) (cu 45)),m 21 22]
(.cond (.t 21)
(Q [m 23 0,o 24 (.sliceStr (.t 23) (some (ci 1)) none),m 0 24]
(.ops [o 8 (.mv (.c (.bool true)))]))
.skip))))))
(Q [o 9 (.mv (.c (.int .u64 0)))]
(Q [m 26 0,m 27 1,m 28 2,o 29 (.callF f_internal_strconv_ParseUint [.t 26,.t 27,.t 28]),m 25 29,xe 30 25 0,xe 31 25 1,m 9 30,m 7 31]
(.seq (Q [m 32 7,o 33 (.bin .neq 5 true (.t 32) (.c .nilIface)),m 34 33,og 35 34 true (.mv (.t 7)),og 36 34 true (.mkIface 463 (ci 1)),og 37 34 true (.bin .neq 5 false (.t 35) (.t 36)),o 38 (.pick (.t 34) (.t 37) (.c (.bool false)))]
(.cond (.t 38)
(Q [m 39 7,o 6 (.mv (ci 0)),m 7 39]
(.ret [6,7]))
.skip))
(.seq (Q [m 40 2,o 41 (.bin .eql 0 true (.t 40) (ci 0))]
(.cond (.t 41)
(.ops [o 2 (.mv (ci 64))])
.skip))
(Q [m 42 2,o 43 (.bin .sub 0 true (.t 42) (ci 1)),o 44 (.i2i .u64 (.t 43)),o 45 (.bin .shl 0 true (.c (.int .u64 1)) (.t 44)),m 10 45]
(.seq (Q [m 46 8,o 47 (.un .not (.t 46)),m 48 47,og 49 48 true (.mv (.t 9)),og 50 48 true (.mv (.t 10)),og 51 48 true (.bin .geq 0 false (.t 49) (.t 50)),o 52 (.pick (.t 48) (.t 51) (.c (.bool false)))]
(.cond (.t 52)
(Q [m 53 10,o 54 (.bin .sub 0 true (.t 53) (.c (.int .u64 1))),o 55 (.i2i .i64 (.t 54)),o 56 (.mkIface 463 (ci 1)),m 6 55,m 7 56]
(.ret [6,7]))
.skip))
(.seq (Q [m 57 8,m 58 57,og 59 58 true (.mv (.t 9)),og 60 58 true (.mv (.t 10)),og 61 58 true (.bin .gtr 0 false (.t 59) (.t 60)),o 62 (.pick (.t 58) (.t 61) (.c (.bool false)))]
(.cond (.t 62)
(Q [m 63 10,o 64 (.i2i .i64 (.t 63)),o 65 (.un .neg (.t 64)),o 66 (.mkIface 463 (ci 1)),m 6 65,m 7 66]
(.ret [6,7]))
.skip))
(Q [m 67 9,o 68 (.i2i .i64 (.t 67)),m 11 68]
(.seq (Q [m 69 8]
(.cond (.t 69)
(.ops [m 70 11,o 71 (.un .neg (.t 70)),m 11 71])
.skip))
(Q [m 72 11,m 6 72,o 7 (.mv (.c .nilIface))]
(.ret [6,7])))))))))))))))⟩
/-! internal/strconv.ParseUint -/
def L_internal_strconv_ParseUint_0 : KC :=
(Q [o 102 (.bin .lss 0 false (.t 101) (.t 100))]
(.seq (.cond (.t 102)
.skip
(.exit [9,12,13] 3))
(.seq (.block 4
(Q [o 103 (.idxAddrSl 1 (.t 99) (.t 101)),xf 104 103,m 15 104]
(Q [o 16 (.mv (cu 0))]
(.seq (.block 5
(Q [m 107 15,o 108 (.bin .eql 0 true (.t 107) (cu 95)),m 109 108,og 110 109 true (.mv (.t 8)),o 111 (.pick (.t 109) (.t 110) (.c (.bool false))),m 106 111]
(.cond (.t 106)
(Q [o 12 (.mv (.c (.bool true)))]
(.exit [1,8,9,10,11,12,13,99,100,101] 4))
(Q [m 113 15,o 114 (.bin .leq 0 true (cu 48) (.t 113)),m 115 114,og 116 115 true (.mv (.t 15)),og 117 115 true (.bin .leq 0 true (.t 116) (cu 57)),o 118 (.pick (.t 115) (.t 117) (.c (.bool false))),m 112 118]
(.cond (.t 112)
(.ops [m 119 15,o 120 (.bin .sub 0 true (.t 119) (cu 48)),m 16 120])
(Q [m 122 15,o 123 (.callF f_internal_strconv_lower [.t 122]),o 124 (.bin .leq 0 true (cu 97) (.t 123)),m 125 124,og 126 125 true (.mv (.t 15)),og 127 125 true (.callF f_internal_strconv_lower [.t 126]),og 128 125 true (.bin .leq 0 true (.t 127) (cu 122)),o 129 (.pick (.t 125) (.t 128) (.c (.bool false))),m 121 129]
(.cond (.t 121)
(.ops [m 130 15,o 131 (.callF f_internal_strconv_lower [.t 130]),o 132 (.bin .sub 0 true (.t 131) (cu 97)),o 133 (.bin .add 0 true (.t 132) (cu 10)),m 16 133])
(Q [o 105 (.mkIface 463 (ci 2)),o 6 (.mv (.c (.int .u64 0))),m 7 105]
(.ret [6,7])))))))))
(.seq (Q [m 134 16,m 135 1,o 136 (.i2i .u8 (.t 135)),o 137 (.bin .geq 0 false (.t 134) (.t 136))]
(.cond (.t 137)
(Q [o 138 (.mkIface 463 (ci 2)),o 6 (.mv (.c (.int .u64 0))),m 7 138]
(.ret [6,7]))
.skip))
(.seq (Q [m 139 13,m 140 10,o 141 (.bin .geq 0 false (.t 139) (.t 140))]
(.cond (.t 141)
(Q [m 142 11,o 143 (.mkIface 463 (ci 1)),m 6 142,m 7 143]
(.ret [6,7]))
.skip))
(Q [m 144 13,m 145 1,o 146 (.i2i .u64 (.t 145)),o 147 (.bin .mul 0 false (.t 144) (.t 146)),m 13 147]
(Q [m 148 13,m 149 16,o 150 (.i2i .u64 (.t 149)),o 151 (.bin .add 0 false (.t 148) (.t 150)),m 17 151]
(.seq (Q [m 152 17,m 153 13,o 154 (.bin .lss 0 false (.t 152) (.t 153)),m 155 154,og 156 155 false (.mv (.t 17)),og 157 155 false (.mv (.t 11)),og 158 155 false (.bin .gtr 0 false (.t 156) (.t 157)),o 159 (.pick (.t 155) (.c (.bool true)) (.t 158))]
(.cond (.t 159)
(Q [m 160 11,o 161 (.mkIface 463 (ci 1)),m 6 160,m 7 161]
(.ret [6,7]))
.skip))
(.ops [m 162 17,m 13 162]))))))))))
(.ops [o 163 (.bin .add 0 true (.t 101) (ci 1)),m 101 163]))))
def K_internal_strconv_ParseUint : KF := ⟨3,172,[(.tmp 6),(.tmp 7)],(Q [o 6 (.mv (.c (.int .u64 0))),o 7 (.mv (.c .nilIface))]
(.seq (Q [m 18 0,o 19 (.bin .eql 0 true (.t 18) (cs []))]
(.cond (.t 19)
(Q [o 20 (.mkIface 463 (ci 2)),o 6 (.mv (.c (.int .u64 0))),m 7 20]
(.ret [6,7]))
.skip))
(Q [m 21 1,o 22 (.bin .eql 0 true (.t 21) (ci 0)),m 8 22]
(Q [m 23 0,m 9 23]
(.seq (.block 0
(Q [m 26 1,o 27 (.bin .leq 0 true (ci 2) (.t 26)),m 28 27,og 29 28 true (.mv (.t 1)),og 30 28 true (.bin .leq 0 true (.t 29) (ci 36)),o 31 (.pick (.t 28) (.t 30) (.c (.bool false))),m 25 31]
(.cond (.t 25)
.skip
(Q [m 33 1,o 34 (.bin .eql 0 true (.t 33) (ci 0)),m 32 34]
(.cond (.t 32)
(Q [o 1 (.mv (ci 10))]
(Q [m 35 0,o 36 (.idxStr (.t 35) (ci 0)),o 37 (.bin .eql 0 true (.t 36) (cu 48))]
(.cond (.t 37)
(.block 1
(Q [m 41 0,o 42 (.len 0 (.t 41)),o 43 (.bin .geq 0 true (.t 42) (ci 3)),m 44 43,og 45 44 true (.mv (.t 0)),og 46 44 true (.idxStr (.t 45) (ci 1)),og 47 44 true (.callF f_internal_strconv_lower [.t 46]),og 48 44 true (.bin .eql 0 true (.t 47) (cu 98)),o 49 (.pick (.t 44) (.t 48) (.c (.bool false))),m 40 49]
(.cond (.t 40)
(Q [o 1 (.mv (ci 2))]
(.ops [m 50 0,o 51 (.sliceStr (.t 50) (some (ci 2)) none),m 0 51]))
(Q [m 53 0,o 54 (.len 0 (.t 53)),o 55 (.bin .geq 0 true (.t 54) (ci 3)),m 56 55,og 57 56 true (.mv (.t 0)),og 58 56 true (.idxStr (.t 57) (ci 1)),og 59 56 true (.callF f_internal_strconv_lower [.t 58]),og 60 56 true (.bin .eql 0 true (.t 59) (cu 111)),o 61 (.pick (.t 56) (.t 60) (.c (.bool false))),m 52 61]
(.cond (.t 52)
(Q [o 1 (.mv (ci 8))]
(.ops [m 62 0,o 63 (.sliceStr (.t 62) (some (ci 2)) none),m 0 63]))
(Q [m 65 0,o 66 (.len 0 (.t 65)),o 67 (.bin .geq 0 true (.t 66) (ci 3)),m 68 67,og 69 68 true (.mv (.t 0)),og 70 68 true (.idxStr (.t 69) (ci 1)),og 71 68 true (.callF f_internal_strconv_lower [.t 70]),og 72 68 true (.bin .eql 0 true (.t 71) (cu 120)),o 73 (.pick (.t 68) (.t 72) (.c (.bool false))),m 64 73]
(.cond (.t 64)
(Q [o 1 (.mv (ci 16))]
(.ops [m 74 0,o 75 (.sliceStr (.t 74) (some (ci 2)) none),m 0 75]))
(Q [o 1 (.mv (ci 8))]
(.ops [m 38 0,o 39 (.sliceStr (.t 38) (some (ci 1)) none),m 0 39])))))))))
.skip)))
(Q [o 24 (.mkIface 463 (ci 3)),o 6 (.mv (.c (.int .u64 0))),m 7 24]
(.ret [6,7])))))))
(.seq (Q [m 76 2,o 77 (.bin .eql 0 true (.t 76) (ci 0))]
(.cond (.t 77)
(.ops [o 2 (.mv (ci 64))])
(Q [m 78 2,o 79 (.bin .lss 0 true (.t 78) (ci 0)),m 80 79,og 81 80 false (.mv (.t 2)),og 82 80 false (.bin .gtr 0 true (.t 81) (ci 64)),o 83 (.pick (.t 80) (.c (.bool true)) (.t 82))]
(.cond (.t 83)
(Q [o 84 (.mkIface 463 (ci 4)),o 6 (.mv (.c (.int .u64 0))),m 7 84]
(.ret [6,7]))
.skip))))
(Q [o 10 (.mv (.c (.int .u64 0)))]
(.seq (Q [m 85 1]
(.block 2
(Q [o 91 (.bin .eql 0 true (.t 85) (ci 10)),m 90 91]
(.cond (.t 90)
(.ops [o 10 (.mv (.c (.int .u64 1844674407370955162)))])
(Q [o 93 (.bin .eql 0 true (.t 85) (ci 16)),m 92 93]
(.cond (.t 92)
(.ops [o 10 (.mv (.c (.int .u64 1152921504606846976)))])
(.ops [m 86 1,o 87 (.i2i .u64 (.t 86)),o 88 (.bin .quo 0 true (.c (.int .u64 18446744073709551615)) (.t 87)),o 89 (.bin .add 0 true (.t 88) (.c (.int .u64 1))),m 10 89])))))))
(Q [m 94 2,o 95 (.i2i .u64 (.t 94)),o 96 (.bin .shl 0 true (.c (.int .u64 1)) (.t 95)),o 97 (.bin .sub 0 true (.t 96) (.c (.int .u64 1))),m 11 97]
(Q [o 12 (.mv (.c (.bool false)))]
(Q [o 13 (.mv (.c (.int .u64 0)))]
(.seq (Q [m 98 0,o 99 (.s2b (.t 98)),o 100 (.len 1 (.t 99)),o 101 (.mv (ci 0))]
(.block 3
(.loop [1,8,9,10,11,12,13,99,100,101] L_internal_strconv_ParseUint_0)))
(.seq (Q [m 164 12,m 165 164,og 166 165 true (.mv (.t 9)),og 167 165 true (.callF f_internal_strconv_underscoreOK [.t 166]),og 168 165 true (.un .not (.t 167)),o 169 (.pick (.t 165) (.t 168) (.c (.bool false)))]
(.cond (.t 169)
(Q [o 170 (.mkIface 463 (ci 2)),o 6 (.mv (.c (.int .u64 0))),m 7 170]
(.ret [6,7]))
.skip))
(Q [m 171 13,m 6 171,o 7 (.mv (.c .nilIface))]
(.ret [6,7])))))))))))))))⟩
/-! (legate/judge.byMAC).good -/
def K_judge_byMAC_good : KF := ⟨4,38,[(.tmp 8)],(Q [o 4 (.box (.t 0)),o 5 (.box (.t 1)),o 6 (.box (.t 2)),o 8 (.mv (.c (.bool false)))]
(.seq (Q [xa 12 0 5,xf 13 12,o 14 (.bin .neq 0 true (.t 13) (cs [104,109,97,99,45,115,104,97,50,53,54]))]
(.cond (.t 14)
(Q [o 8 (.mv (.c (.bool false)))]
(.ret [8]))
.skip))
(Q [xa 16 1 5,xf 17 16,o 18 (.callF f_hex_Decode [.t 17]),m 15 18,xe 19 15 0,xe 20 15 1,m 9 19,m 10 20]
(.seq (Q [m 21 10,o 22 (.bin .neq 0 true (.t 21) (ci 0))]
(.cond (.t 22)
(Q [o 8 (.mv (.c (.bool false)))]
(.ret [8]))
.skip))
(Q [xa 24 1 6,xf 25 24,o 26 (.callF f_hex_Decode [.t 25]),m 23 26,xe 27 23 0,xe 28 23 1,m 11 27,m 10 28]
(Q [m 29 10,o 30 (.bin .eql 0 true (.t 29) (ci 0)),m 31 30,og 32 31 true (.mv (.t 11)),og 33 31 true (.mv (.t 9)),og 34 31 true (.mv (.t 3)),og 35 31 true (.callF f_mac_Of [.t 33,.t 34]),og 36 31 true (.callF f_mac_Same [.t 32,.t 35]),o 37 (.pick (.t 31) (.t 36) (.c (.bool false))),m 8 37]
(.ret [8])))))))⟩
end Go.Ev

