/- Code of functions as the evaluator has it, and what some of them compute. No conditions. -/
import Derived.Test.YtkhhblknjdcphabGreatDoorED
import Derived.Test.YtkhhblknjdcphabGreatDoorEC
set_option linter.unusedVariables false
set_option linter.unusedSimpArgs false
namespace Go.Ev
abbrev f_legatelaw32_ScriptFirst : FuncId:=3
abbrev f_legatelaw32_awake : FuncId:=4
abbrev f_script_Read : FuncId:=5
abbrev f_script_Show : FuncId:=6
abbrev f_legateref32_Same : FuncId:=7
abbrev f_script_Run : FuncId:=8
abbrev f_script_reader_bytes : FuncId:=9
abbrev f_script_reader_number : FuncId:=10
abbrev f_script_reader_word : FuncId:=11
abbrev f_script_reader_each : FuncId:=12
abbrev f_script_Read_1 : FuncId:=13
abbrev f_script_reader_verdict : FuncId:=14
abbrev f_script_reader_bounds : FuncId:=15
abbrev f_script_Read_2 : FuncId:=16
abbrev f_script_reader_store : FuncId:=17
abbrev f_script_Read_3 : FuncId:=18
abbrev f_script_reader_fail : FuncId:=19
abbrev f_script_reader_done : FuncId:=20
abbrev f_script_nets : FuncId:=21
abbrev f_num_Show : FuncId:=22
abbrev f_script_numbers : FuncId:=23
abbrev f_script_Play : FuncId:=24
abbrev f_script_reader_net : FuncId:=25
abbrev f_num_Read : FuncId:=26
abbrev f_script_part_left : FuncId:=27
abbrev f_script_reader_store_1 : FuncId:=28
abbrev f_script_reader_file : FuncId:=29
abbrev f_strings_Builder_WriteString : FuncId:=30
abbrev f_strings_Builder_WriteByte : FuncId:=31
abbrev f_strings_Builder_String : FuncId:=32
abbrev f_strconv_FormatInt : FuncId:=33
abbrev f_lookup_New : FuncId:=34
abbrev f_lookup_Machine_Lookup : FuncId:=35
abbrev f_lookup_Machine_Fetched : FuncId:=36
abbrev f_script_report : FuncId:=37
abbrev f_script_reader_frame : FuncId:=38
abbrev f_num_formed : FuncId:=39
abbrev f_strconv_ParseInt : FuncId:=40
abbrev f_strings_Builder_copyCheck : FuncId:=41
abbrev f_internal_strconv_FormatInt : FuncId:=42
abbrev f_chart_Read : FuncId:=43
abbrev f_lookup_mayBounds : FuncId:=44
abbrev f_lookup_reposOf : FuncId:=45
abbrev f_lookup_Machine_May : FuncId:=46
abbrev f_name_Path : FuncId:=47
abbrev f_chart_For : FuncId:=48
abbrev f_lookup_Machine_ask : FuncId:=49
abbrev f_slices_Clone_api_Fetch_api_Fetch : FuncId:=50
abbrev f_script_recordOf : FuncId:=51
abbrev f_internal_strconv_ParseInt : FuncId:=52
abbrev f_strconv_toError : FuncId:=53
abbrev f_internal_abi_NoEscape : FuncId:=54
abbrev f_internal_strconv_small : FuncId:=55
abbrev f_internal_strconv_numDigits : FuncId:=56
abbrev f_internal_strconv_formatBase10 : FuncId:=57
abbrev f_internal_strconv_formatBits : FuncId:=58
abbrev f_read_Read : FuncId:=59
abbrev f_chart_Of : FuncId:=60
abbrev f_record_Value : FuncId:=74
abbrev f_canon_Encode : FuncId:=75
abbrev f_internal_strconv_ParseUint : FuncId:=76
abbrev f_read_tokens_next : FuncId:=86
abbrev f_read_values_value : FuncId:=87
abbrev f_internal_strconv_lower : FuncId:=114
abbrev f_internal_strconv_underscoreOK : FuncId:=115
abbrev f_read_space : FuncId:=121
abbrev f_lex_Next : FuncId:=122
abbrev f_read_values_wrong : FuncId:=123
abbrev f_read_values_list : FuncId:=124
abbrev f_read_values_object : FuncId:=125
abbrev f_lex_rules : FuncId:=162
abbrev f_lex_token : FuncId:=163
abbrev f_lex_skip : FuncId:=164
abbrev f_lex_open : FuncId:=209
abbrev f_lex_shut : FuncId:=210
abbrev f_lex_first : FuncId:=211
abbrev f_lex_last : FuncId:=212
abbrev f_lex_comma : FuncId:=213
abbrev f_lex_colon : FuncId:=214
abbrev f_lex_number : FuncId:=215
abbrev f_lex_text : FuncId:=216
abbrev f_lex_word : FuncId:=217
abbrev g_strconv_ErrSyntax : Nat:=1
abbrev g_strconv_ErrRange : Nat:=2
def nil256 : List AV:=List.replicate 256 .nilFunc
def L_script_reader_frame_0 : KC:=
(.seq (.block 1
(.seq (.seq (.ops [m 14 6,
o 15 (.fieldAddr 1 (.t 3)),
o 16 (.load false 1 (.t 15)),
o 17 (.bin .geq 0 false (.t 14) (.t 16))])
(.cond (.t 17)
(.seq (.ops [o 18 (.build [(.int .i64 0),(.int .i64 0)] []),
u (.store 2 (.t 4) (.t 18)),
o 5 (.mv (.c (.int .i64 4)))])
(.ret [4,5]))
.skip))
(.seq (.ops [m 19 0,
o 20 (.nilck (.t 19)),
o 21 (.fieldAddr 0 (.t 20)),
o 22 (.load false 1 (.t 21)),
m 23 6,
o 24 (.idxStr (.t 22) (.t 23)),
m 8 24])
(.seq (.seq (.ops [m 25 8,
o 26 (.bin .eql 0 true (.t 25) (.c (.int .u8 58))),
m 27 26,
og 28 27 true (.mv (.t 6)),
og 29 27 true (.fieldAddr 0 (.t 3)),
og 30 27 true (.load false 1 (.t 29)),
og 31 27 true (.bin .gtr 0 false (.t 28) (.t 30)),
o 32 (.pick (.t 27) (.t 31) (.c (.bool false)))])
(.cond (.t 32)
(.exit [0,3,4,6,7] 0)
.skip))
(.seq (.seq (.plain [m 33 8,
o 34 (.bin .lss 0 true (.t 33) (.c (.int .u8 48))),
m 35 34,
og 36 35 false (.mv (.t 8)),
og 37 35 false (.bin .gtr 0 true (.t 36) (.c (.int .u8 57))),
o 38 (.pick (.t 35) (.c (.bool true)) (.t 37)),
m 39 38,
og 40 39 false (.mv (.t 6)),
og 41 39 false (.fieldAddr 0 (.t 3)),
og 42 39 false (.load false 1 (.t 41)),
og 43 39 false (.bin .gtr 0 false (.t 40) (.t 42)),
og 44 39 false (.mv (.t 43)),
og 45 44 true (.mv (.t 0)),
og 46 44 true (.nilck (.t 45)),
og 47 44 true (.fieldAddr 0 (.t 46)),
og 48 44 true (.load false 1 (.t 47)),
og 49 44 true (.fieldAddr 0 (.t 3)),
og 50 44 true (.load false 1 (.t 49)),
og 51 44 true (.idxStr (.t 48) (.t 50)),
og 52 44 true (.bin .eql 0 true (.t 51) (.c (.int .u8 48))),
og 53 39 false (.pick (.t 44) (.t 52) (.c (.bool false))),
o 54 (.pick (.t 39) (.c (.bool true)) (.t 53)),
m 55 54,
og 56 55 false (.mv (.t 6)),
og 57 55 false (.fieldAddr 0 (.t 3)),
og 58 55 false (.load false 1 (.t 57)),
og 59 55 false (.bin .sub 0 false (.t 56) (.t 58)),
og 60 55 false (.bin .geq 0 true (.t 59) (.c (.int .i64 7))),
o 61 (.pick (.t 55) (.c (.bool true)) (.t 60))])
(.cond (.t 61)
(.seq (.ops [o 62 (.build [(.int .i64 0),(.int .i64 0)] []),
u (.store 2 (.t 4) (.t 62)),
o 5 (.mv (.c (.int .i64 3)))])
(.ret [4,5]))
.skip))
(.ops [m 63 7,
o 64 (.bin .mul 0 true (.c (.int .i64 10)) (.t 63)),
m 65 8,
o 66 (.bin .sub 0 true (.t 65) (.c (.int .u8 48))),
o 67 (.i2i .i64 (.t 66)),
o 68 (.bin .add 0 false (.t 64) (.t 67)),
m 7 68]))))))
(.ops [m 12 6,
o 13 (.bin .add 0 true (.t 12) (.c (.int .i64 1))),
m 6 13]))
def K_script_reader_frame : KF:=⟨2,93,[(.cell 4 true 2),(.tmp 5)],
(.seq (.ops [o 3 (.box (.t 1)),
o 4 (.new [(.int .i64 0),(.int .i64 0)] none),
o 5 (.mv (.c (.int .i64 0)))])
(.seq (.ops [o 10 (.fieldAddr 0 (.t 3)),
o 11 (.load false 1 (.t 10)),
m 6 11,
o 7 (.mv (.c (.int .i64 0)))])
(.seq (.block 0
(.loop [0,3,4,6,7] L_script_reader_frame_0))
(.seq (.ops [m 69 6,
o 70 (.bin .add 0 true (.t 69) (.c (.int .i64 1))),
m 9 70])
(.seq (.seq (.ops [o 71 (.fieldAddr 1 (.t 3)),
o 72 (.load false 1 (.t 71)),
m 73 9,
o 74 (.bin .sub 0 false (.t 72) (.t 73)),
m 75 7,
o 76 (.bin .leq 0 false (.t 74) (.t 75))])
(.cond (.t 76)
(.seq (.ops [o 77 (.build [(.int .i64 0),(.int .i64 0)] []),
u (.store 2 (.t 4) (.t 77)),
o 5 (.mv (.c (.int .i64 4)))])
(.ret [4,5]))
.skip))
(.seq (.seq (.ops [m 78 0,
o 79 (.nilck (.t 78)),
o 80 (.fieldAddr 0 (.t 79)),
o 81 (.load false 1 (.t 80)),
m 82 9,
m 83 7,
o 84 (.bin .add 0 false (.t 82) (.t 83)),
o 85 (.idxStr (.t 81) (.t 84)),
o 86 (.bin .neq 0 true (.t 85) (.c (.int .u8 44)))])
(.cond (.t 86)
(.seq (.ops [o 87 (.build [(.int .i64 0),(.int .i64 0)] []),
u (.store 2 (.t 4) (.t 87)),
o 5 (.mv (.c (.int .i64 3)))])
(.ret [4,5]))
.skip))
(.seq (.ops [m 88 9,
m 89 9,
m 90 7,
o 91 (.bin .add 0 false (.t 89) (.t 90)),
o 92 (.build [(.int .i64 0),(.int .i64 0)] [(0,1,(.t 88)),(1,1,(.t 91))]),
u (.store 2 (.t 4) (.t 92)),
o 5 (.mv (.c (.int .i64 0)))])
(.ret [4,5]))))))))⟩
def K_script_reader_net : KF:=⟨2,38,[(.cell 4 true 2)],
(.seq (.ops [o 4 (.new [(.int .i64 0),(.int .i64 0)] none)])
(.seq (.seq (.ops [m 7 0,
o 8 (.nilck (.t 7)),
o 9 (.fieldAddr 2 (.t 8)),
o 10 (.load false 1 (.t 9)),
o 11 (.bin .neq 0 true (.t 10) (.c (.int .i64 0)))])
(.cond (.t 11)
(.seq (.ops [o 12 (.build [(.int .i64 0),(.int .i64 0)] []),
u (.store 2 (.t 4) (.t 12))])
(.ret [4]))
.skip))
(.seq (.ops [m 14 0,
m 15 1,
o 16 (.nilck (.t 15)),
o 17 (.load true 2 (.t 16)),
o 18 (.callF f_script_reader_frame [(.t 14),(.t 17)]),
m 13 18,
o 19 (.extract (.t 13) 0),
o 20 (.extract (.t 13) 1),
o 5 (.new [(.int .i64 0),(.int .i64 0)] none),
u (.store 2 (.t 5) (.t 19)),
m 6 20])
(.seq (.seq (.ops [m 21 6,
o 22 (.bin .neq 0 true (.t 21) (.c (.int .i64 0)))])
(.cond (.t 22)
(.seq (.ops [m 23 0,
m 24 6,
m 25 1,
o 26 (.nilck (.t 25)),
o 27 (.fieldAddr 0 (.t 26)),
o 28 (.load false 1 (.t 27)),
o 29 (.callF f_script_reader_fail [(.t 23),(.t 24),(.t 28)])])
(.seq (.ops [o 30 (.build [(.int .i64 0),(.int .i64 0)] []),
u (.store 2 (.t 4) (.t 30))])
(.ret [4])))
.skip))
(.seq (.ops [m 31 1,
o 32 (.fieldAddr 1 (.t 5)),
o 33 (.load false 1 (.t 32)),
o 34 (.bin .add 0 true (.t 33) (.c (.int .i64 1))),
o 35 (.nilck (.t 31)),
o 36 (.fieldAddr 0 (.t 35)),
u (.store 1 (.t 36) (.t 34))])
(.seq (.ops [o 37 (.load true 2 (.t 5)),
u (.store 2 (.t 4) (.t 37))])
(.ret [4])))))))⟩
def K_script_reader_bytes : KF:=⟨2,18,[(.tmp 4)],
(.seq (.ops [o 4 (.mv (.c (.str [])))])
(.seq (.ops [m 6 0,
m 7 1,
o 8 (.callF f_script_reader_net [(.t 6),(.t 7)]),
o 5 (.new [(.int .i64 0),(.int .i64 0)] none),
u (.store 2 (.t 5) (.t 8))])
(.seq (.plain [m 9 0,
o 10 (.nilck (.t 9)),
o 11 (.fieldAddr 0 (.t 10)),
o 12 (.load false 1 (.t 11)),
o 13 (.fieldAddr 0 (.t 5)),
o 14 (.load false 1 (.t 13)),
o 15 (.fieldAddr 1 (.t 5)),
o 16 (.load false 1 (.t 15)),
o 17 (.sliceStr (.t 12) (some (.t 14)) (some (.t 16))),
m 4 17])
(.ret [4]))))⟩
def K_script_reader_number : KF:=⟨2,35,[(.tmp 4)],
(.seq (.ops [o 4 (.mv (.c (.int .i64 0)))])
(.seq (.ops [m 10 1,
o 11 (.nilck (.t 10)),
o 12 (.fieldAddr 0 (.t 11)),
o 13 (.load false 1 (.t 12)),
m 5 13])
(.seq (.ops [m 14 0,
m 15 1,
o 16 (.callF f_script_reader_bytes [(.t 14),(.t 15)]),
m 6 16])
(.seq (.ops [m 18 6,
o 19 (.callF f_num_Read [(.t 18),(.c (.int .i64 0))]),
m 17 19,
o 20 (.extract (.t 17) 0),
o 21 (.extract (.t 17) 1),
o 22 (.extract (.t 17) 2),
m 7 20,
m 8 21,
m 9 22])
(.seq (.seq (.ops [m 23 9,
o 24 (.bin .neq 0 true (.t 23) (.c (.int .i64 0))),
m 25 24,
og 26 25 false (.mv (.t 8)),
og 27 25 false (.mv (.t 6)),
og 28 25 false (.len 0 (.t 27)),
og 29 25 false (.bin .neq 0 false (.t 26) (.t 28)),
o 30 (.pick (.t 25) (.c (.bool true)) (.t 29))])
(.cond (.t 30)
(.seq (.ops [m 31 0,
m 32 5,
o 33 (.callF f_script_reader_fail [(.t 31),(.c (.int .i64 3)),(.t 32)])])
(.seq (.ops [o 4 (.mv (.c (.int .i64 0)))])
(.ret [4])))
.skip))
(.seq (.ops [m 34 7,
m 4 34])
(.ret [4])))))))⟩
def K_script_reader_word : KF:=⟨2,25,[(.tmp 4)],
(.seq (.ops [o 4 (.mv (.c (.bool false)))])
(.seq (.ops [m 7 1,
o 8 (.nilck (.t 7)),
o 9 (.fieldAddr 0 (.t 8)),
o 10 (.load false 1 (.t 9)),
m 5 10])
(.seq (.ops [m 11 0,
m 12 1,
o 13 (.callF f_script_reader_bytes [(.t 11),(.t 12)]),
m 6 13])
(.seq (.seq (.ops [m 14 6,
o 15 (.bin .neq 0 true (.t 14) (.c (.str [104,109,97,99]))),
m 16 15,
og 17 16 true (.mv (.t 6)),
og 18 16 true (.bin .neq 0 true (.t 17) (.c (.str [116,97,98,108,101]))),
o 19 (.pick (.t 16) (.t 18) (.c (.bool false)))])
(.cond (.t 19)
(.ops [m 20 0,
m 21 5,
o 22 (.callF f_script_reader_fail [(.t 20),(.c (.int .i64 3)),(.t 21)])])
.skip))
(.seq (.ops [m 23 6,
o 24 (.bin .eql 0 true (.t 23) (.c (.str [104,109,97,99]))),
m 4 24])
(.ret [4]))))))⟩
def K_script_reader_done : KF:=⟨2,12,[],
(.seq (.ops [m 4 1,
o 5 (.callF f_script_part_left [(.t 4)])])
(.cond (.t 5)
(.ops [m 6 0,
m 7 1,
o 8 (.nilck (.t 7)),
o 9 (.fieldAddr 0 (.t 8)),
o 10 (.load false 1 (.t 9)),
o 11 (.callF f_script_reader_fail [(.t 6),(.c (.int .i64 11)),(.t 10)])])
.skip))⟩
def L_script_reader_each_0 : KC:=
(.seq (.seq (.ops [m 10 0,
o 11 (.nilck (.t 10)),
o 12 (.fieldAddr 2 (.t 11)),
o 13 (.load false 1 (.t 12)),
o 14 (.bin .eql 0 true (.t 13) (.c (.int .i64 0))),
m 15 14,
og 16 15 true (.callF f_script_part_left [(.t 6)]),
o 17 (.pick (.t 15) (.t 16) (.c (.bool false)))])
(.cond (.t 17)
.skip
(.exit [] 0)))
(.block 1
(.ops [m 18 2,
o 19 (.callV (.t 18) [(.t 6)])])))
def K_script_reader_each : KF:=⟨3,20,[],
(.seq (.ops [m 7 0,
m 8 1,
o 9 (.callF f_script_reader_net [(.t 7),(.t 8)]),
o 6 (.new [(.int .i64 0),(.int .i64 0)] none),
u (.store 2 (.t 6) (.t 9))])
(.block 0
(.loop [0,2,6] L_script_reader_each_0)))⟩
def K_script_reader_verdict : KF:=⟨2,20,[(.cell 4 true 3)],
(.seq (.ops [o 4 (.new [(.str []),(.str []),(.str [])] none)])
(.seq (.ops [m 7 0,
m 8 1,
o 9 (.callF f_script_reader_net [(.t 7),(.t 8)]),
o 5 (.new [(.int .i64 0),(.int .i64 0)] none),
u (.store 2 (.t 5) (.t 9))])
(.seq (.ops [m 10 0,
o 11 (.callF f_script_reader_bytes [(.t 10),(.t 5)]),
m 12 0,
o 13 (.callF f_script_reader_bytes [(.t 12),(.t 5)]),
m 14 0,
o 15 (.callF f_script_reader_bytes [(.t 14),(.t 5)]),
o 16 (.build [(.str []),(.str []),(.str [])] [(0,1,(.t 11)),(1,1,(.t 13)),(2,1,(.t 15))]),
o 6 (.new [(.str []),(.str []),(.str [])] none),
u (.store 3 (.t 6) (.t 16))])
(.seq (.ops [m 17 0,
o 18 (.callF f_script_reader_done [(.t 17),(.t 5)])])
(.seq (.ops [o 19 (.load true 3 (.t 6)),
u (.store 3 (.t 4) (.t 19))])
(.ret [4]))))))⟩
def K_script_reader_bounds : KF:=⟨2,22,[(.cell 4 true 4)],
(.seq (.ops [o 4 (.new [(.int .i64 0),(.int .i64 0),(.int .i64 0),(.int .i64 0)] none)])
(.seq (.ops [m 7 0,
m 8 1,
o 9 (.callF f_script_reader_net [(.t 7),(.t 8)]),
o 5 (.new [(.int .i64 0),(.int .i64 0)] none),
u (.store 2 (.t 5) (.t 9))])
(.seq (.ops [m 10 0,
o 11 (.callF f_script_reader_number [(.t 10),(.t 5)]),
m 12 0,
o 13 (.callF f_script_reader_number [(.t 12),(.t 5)]),
m 14 0,
o 15 (.callF f_script_reader_number [(.t 14),(.t 5)]),
m 16 0,
o 17 (.callF f_script_reader_number [(.t 16),(.t 5)]),
o 18 (.build [(.int .i64 0),(.int .i64 0),(.int .i64 0),(.int .i64 0)] [(0,1,(.t 11)),(1,1,(.t 13)),(2,1,(.t 15)),(3,1,(.t 17))]),
o 6 (.new [(.int .i64 0),(.int .i64 0),(.int .i64 0),(.int .i64 0)] none),
u (.store 4 (.t 6) (.t 18))])
(.seq (.ops [m 19 0,
o 20 (.callF f_script_reader_done [(.t 19),(.t 5)])])
(.seq (.ops [o 21 (.load true 4 (.t 6)),
u (.store 4 (.t 4) (.t 21))])
(.ret [4]))))))⟩
def K_script_reader_store : KF:=⟨2,21,[(.cell 4 true 3)],
(.seq (.ops [o 2 (.box (.t 0)),
o 4 (.new [(.str []),(.str []),.nils] none)])
(.seq (.ops [o 7 (.load false 1 (.t 2)),
m 8 1,
o 9 (.callF f_script_reader_net [(.t 7),(.t 8)]),
o 5 (.new [(.int .i64 0),(.int .i64 0)] none),
u (.store 2 (.t 5) (.t 9))])
(.seq (.drawn [o 10 (.load false 1 (.t 2)),
o 11 (.callF f_script_reader_bytes [(.t 10),(.t 5)]),
⟨(some 12),(.load false 1 (.t 2)),none,[1]⟩,
o 13 (.callF f_script_reader_bytes [(.t 12),(.t 5)]),
o 14 (.build [(.str []),(.str []),.nils] [(0,1,(.t 11)),(1,1,(.t 13))]),
u .pend,
o 6 (.fill 5 6 3 (.t 14))])
(.seq (.ops [o 15 (.load false 1 (.t 2)),
o 16 (.mkFunc (.func f_script_reader_store_1) [] [(.t 6),(.t 2)]),
o 17 (.callF f_script_reader_each [(.t 15),(.t 5),(.t 16)])])
(.seq (.ops [o 18 (.load false 1 (.t 2)),
o 19 (.callF f_script_reader_done [(.t 18),(.t 5)])])
(.seq (.ops [o 20 (.load true 3 (.t 6)),
u (.store 3 (.t 4) (.t 20))])
(.ret [4])))))))⟩
def K_script_reader_store_1 : KF:=⟨3,12,[],
(.drawn [o 4 (.fieldAddr 2 (.t 1)),
⟨(some 5),(.load false 1 (.t 4)),none,[4,5]⟩,
o 6 (.load false 1 (.t 2)),
m 7 0,
o 8 (.callF f_script_reader_file [(.t 6),(.t 7)]),
o 9 (.buildSl [(.str []),(.str [])] 1 2 [(0,2,(.t 8))]),
o 10 (.app false 2 32 none (.t 5) (.t 9)),
o 11 (.fieldAddr 2 (.t 1)),
u (.store 1 (.t 11) (.t 10))])⟩
def K_script_reader_file : KF:=⟨2,18,[(.cell 4 true 2)],
(.seq (.ops [o 4 (.new [(.str []),(.str [])] none)])
(.seq (.ops [m 7 0,
m 8 1,
o 9 (.callF f_script_reader_net [(.t 7),(.t 8)]),
o 5 (.new [(.int .i64 0),(.int .i64 0)] none),
u (.store 2 (.t 5) (.t 9))])
(.seq (.ops [m 10 0,
o 11 (.callF f_script_reader_bytes [(.t 10),(.t 5)]),
m 12 0,
o 13 (.callF f_script_reader_bytes [(.t 12),(.t 5)]),
o 14 (.build [(.str []),(.str [])] [(0,1,(.t 11)),(1,1,(.t 13))]),
o 6 (.new [(.str []),(.str [])] none),
u (.store 2 (.t 6) (.t 14))])
(.seq (.ops [m 15 0,
o 16 (.callF f_script_reader_done [(.t 15),(.t 5)])])
(.seq (.ops [o 17 (.load true 2 (.t 6)),
u (.store 2 (.t 4) (.t 17))])
(.ret [4]))))))⟩
def K_script_reader_fail : KF:=⟨3,19,[],
(.seq (.ops [m 6 0,
o 7 (.nilck (.t 6)),
o 8 (.fieldAddr 2 (.t 7)),
o 9 (.load false 1 (.t 8)),
o 10 (.bin .eql 0 true (.t 9) (.c (.int .i64 0)))])
(.cond (.t 10)
(.ops [m 11 0,
m 12 0,
m 13 1,
m 14 2,
o 15 (.nilck (.t 11)),
o 16 (.fieldAddr 2 (.t 15)),
u (.store 1 (.t 16) (.t 13)),
o 17 (.nilck (.t 12)),
o 18 (.fieldAddr 1 (.t 17)),
u (.store 1 (.t 18) (.t 14))])
.skip))⟩
def K_script_part_left : KF:=⟨1,12,[(.tmp 2)],
(.seq (.ops [o 2 (.mv (.c (.bool false)))])
(.seq (.plain [m 3 0,
o 4 (.nilck (.t 3)),
o 5 (.fieldAddr 0 (.t 4)),
o 6 (.load false 1 (.t 5)),
m 7 0,
o 8 (.nilck (.t 7)),
o 9 (.fieldAddr 1 (.t 8)),
o 10 (.load false 1 (.t 9)),
o 11 (.bin .lss 0 false (.t 6) (.t 10)),
m 2 11])
(.ret [2])))⟩
def K_script_Read : KF:=⟨1,64,[(.cell 2 true 10),(.tmp 3),(.tmp 4)],
(.seq (.ops [o 2 (.new [(.str []),.nils,(.int .i64 0),(.bool false),.nils,(.int .i64 0),(.int .i64 0),(.int .i64 0),(.int .i64 0),.nils] none),
o 3 (.mv (.c (.int .i64 0))),
o 4 (.mv (.c (.int .i64 0)))])
(.seq (.seq (.ops [m 7 0,
o 8 (.len 0 (.t 7)),
o 9 (.bin .gtr 0 true (.t 8) (.c (.int .i64 1048576)))])
(.cond (.t 9)
(.seq (.ops [o 10 (.build [(.str []),.nils,(.int .i64 0),(.bool false),.nils,(.int .i64 0),(.int .i64 0),(.int .i64 0),(.int .i64 0),.nils] []),
u (.store 10 (.t 2) (.t 10)),
o 3 (.mv (.c (.int .i64 0))),
o 4 (.mv (.c (.int .i64 5)))])
(.ret [2,3,4]))
.skip))
(.seq (.ops [m 11 0,
o 12 (.build [(.str []),(.int .i64 0),(.int .i64 0)] [(0,1,(.t 11))]),
o 13 (.box (.t 12)),
o 5 (.new [.nilp] none),
u (.store 1 (.t 5) (.t 13))])
(.seq (.ops [m 14 0,
o 15 (.len 0 (.t 14)),
o 16 (.build [(.int .i64 0),(.int .i64 0)] [(0,1,(.c (.int .i64 0))),(1,1,(.t 15))]),
o 17 (.box (.t 16)),
m 6 17])
(.seq (.ops [o 18 (.load false 1 (.t 5)),
m 19 6,
o 20 (.callF f_script_reader_bytes [(.t 18),(.t 19)]),
o 21 (.fieldAddr 0 (.t 2)),
u (.store 1 (.t 21) (.t 20))])
(.seq (.ops [o 22 (.load false 1 (.t 5)),
m 23 6,
o 24 (.callF f_script_reader_number [(.t 22),(.t 23)]),
o 25 (.fieldAddr 2 (.t 2)),
u (.store 1 (.t 25) (.t 24))])
(.seq (.ops [o 26 (.load false 1 (.t 5)),
m 27 6,
o 28 (.callF f_script_reader_word [(.t 26),(.t 27)]),
o 29 (.fieldAddr 3 (.t 2)),
u (.store 1 (.t 29) (.t 28))])
(.seq (.ops [o 30 (.load false 1 (.t 5)),
m 31 6,
o 32 (.mkFunc (.func f_script_Read_1) [] [(.t 2),(.t 5)]),
o 33 (.callF f_script_reader_each [(.t 30),(.t 31),(.t 32)])])
(.seq (.ops [o 34 (.load false 1 (.t 5)),
m 35 6,
o 36 (.callF f_script_reader_bounds [(.t 34),(.t 35)]),
o 37 (.fieldAddr 5 (.t 2)),
u (.store 4 (.t 37) (.t 36))])
(.seq (.ops [o 38 (.load false 1 (.t 5)),
m 39 6,
o 40 (.mkFunc (.func f_script_Read_2) [] [(.t 2),(.t 5)]),
o 41 (.callF f_script_reader_each [(.t 38),(.t 39),(.t 40)])])
(.seq (.ops [o 42 (.load false 1 (.t 5)),
m 43 6,
o 44 (.mkFunc (.func f_script_Read_3) [] [(.t 2),(.t 5)]),
o 45 (.callF f_script_reader_each [(.t 42),(.t 43),(.t 44)])])
(.seq (.ops [o 46 (.load false 1 (.t 5)),
m 47 6,
o 48 (.callF f_script_reader_done [(.t 46),(.t 47)])])
(.seq (.seq (.ops [o 49 (.load false 1 (.t 5)),
o 50 (.nilck (.t 49)),
o 51 (.fieldAddr 2 (.t 50)),
o 52 (.load false 1 (.t 51)),
o 53 (.bin .neq 0 true (.t 52) (.c (.int .i64 0)))])
(.cond (.t 53)
(.seq (.drawn [o 54 (.build [(.str []),.nils,(.int .i64 0),(.bool false),.nils,(.int .i64 0),(.int .i64 0),(.int .i64 0),(.int .i64 0),.nils] []),
⟨(some 55),(.load false 1 (.t 5)),none,[9]⟩,
o 56 (.nilck (.t 55)),
o 57 (.fieldAddr 1 (.t 56)),
⟨(some 58),(.load false 1 (.t 57)),none,[9]⟩,
⟨(some 59),(.load false 1 (.t 5)),none,[9]⟩,
o 60 (.nilck (.t 59)),
o 61 (.fieldAddr 2 (.t 60)),
⟨(some 62),(.load false 1 (.t 61)),none,[9]⟩,
u (.store 10 (.t 2) (.t 54)),
m 3 58,
m 4 62])
(.ret [2,3,4]))
.skip))
(.seq (.ops [o 63 (.load true 10 (.t 2)),
u (.store 10 (.t 2) (.t 63)),
o 3 (.mv (.c (.int .i64 0))),
o 4 (.mv (.c (.int .i64 0)))])
(.ret [2,3,4])))))))))))))))⟩
def K_script_Read_1 : KF:=⟨3,12,[],
(.drawn [o 4 (.fieldAddr 4 (.t 1)),
⟨(some 5),(.load false 1 (.t 4)),none,[4]⟩,
o 6 (.load false 1 (.t 2)),
m 7 0,
o 8 (.callF f_script_reader_verdict [(.t 6),(.t 7)]),
o 9 (.buildSl [(.str []),(.str []),(.str [])] 1 3 [(0,3,(.t 8))]),
o 10 (.app false 3 48 none (.t 5) (.t 9)),
o 11 (.fieldAddr 4 (.t 1)),
u (.store 1 (.t 11) (.t 10))])⟩
def K_script_Read_2 : KF:=⟨3,12,[],
(.drawn [o 4 (.fieldAddr 1 (.t 1)),
⟨(some 5),(.load false 1 (.t 4)),none,[4]⟩,
o 6 (.load false 1 (.t 2)),
m 7 0,
o 8 (.callF f_script_reader_store [(.t 6),(.t 7)]),
o 9 (.buildSl [(.str []),(.str []),.nils] 1 3 [(0,3,(.t 8))]),
o 10 (.app false 3 56 none (.t 5) (.t 9)),
o 11 (.fieldAddr 1 (.t 1)),
u (.store 1 (.t 11) (.t 10))])⟩
def K_script_Read_3 : KF:=⟨3,22,[],
(.seq (.seq (.ops [o 4 (.fieldAddr 9 (.t 1)),
o 5 (.load false 1 (.t 4)),
o 6 (.len 1 (.t 5)),
o 7 (.bin .geq 0 true (.t 6) (.c (.int .i64 64)))])
(.cond (.t 7)
(.seq (.plain [o 8 (.load false 1 (.t 2)),
m 9 0,
o 10 (.nilck (.t 9)),
o 11 (.fieldAddr 0 (.t 10)),
o 12 (.load false 1 (.t 11)),
o 13 (.callF f_script_reader_fail [(.t 8),(.c (.int .i64 5)),(.t 12)])])
(.ret []))
.skip))
(.drawn [o 14 (.fieldAddr 9 (.t 1)),
⟨(some 15),(.load false 1 (.t 14)),none,[4]⟩,
o 16 (.load false 1 (.t 2)),
m 17 0,
o 18 (.callF f_script_reader_bytes [(.t 16),(.t 17)]),
o 19 (.buildSl [(.str [])] 1 1 [(0,1,(.t 18))]),
o 20 (.app false 1 16 none (.t 15) (.t 19)),
o 21 (.fieldAddr 9 (.t 1)),
u (.store 1 (.t 21) (.t 20))]))⟩
def L_num_Read_0 : KC:=
(.seq (.seq (.ops [m 18 7,
m 19 0,
o 20 (.len 0 (.t 19)),
o 21 (.bin .lss 0 false (.t 18) (.t 20))])
(.cond (.t 21)
.skip
(.exit [0,1,7] 0)))
(.block 1
(.seq (.ops [m 22 0,
m 23 7,
o 24 (.idxStr (.t 22) (.t 23))])
(.block 2
(.seq (.seq (.ops [o 26 (.bin .eql 0 true (.t 24) (.c (.int .u8 48))),
m 25 26])
(.cond (.t 25)
.skip
(.seq (.ops [o 27 (.bin .eql 0 true (.t 24) (.c (.int .u8 49))),
m 25 27])
(.cond (.t 25)
.skip
(.seq (.ops [o 28 (.bin .eql 0 true (.t 24) (.c (.int .u8 50))),
m 25 28])
(.cond (.t 25)
.skip
(.seq (.ops [o 29 (.bin .eql 0 true (.t 24) (.c (.int .u8 51))),
m 25 29])
(.cond (.t 25)
.skip
(.seq (.ops [o 30 (.bin .eql 0 true (.t 24) (.c (.int .u8 52))),
m 25 30])
(.cond (.t 25)
.skip
(.seq (.ops [o 31 (.bin .eql 0 true (.t 24) (.c (.int .u8 53))),
m 25 31])
(.cond (.t 25)
.skip
(.seq (.ops [o 32 (.bin .eql 0 true (.t 24) (.c (.int .u8 54))),
m 25 32])
(.cond (.t 25)
.skip
(.seq (.ops [o 33 (.bin .eql 0 true (.t 24) (.c (.int .u8 55))),
m 25 33])
(.cond (.t 25)
.skip
(.seq (.ops [o 34 (.bin .eql 0 true (.t 24) (.c (.int .u8 56))),
m 25 34])
(.cond (.t 25)
.skip
(.seq (.ops [o 35 (.bin .eql 0 true (.t 24) (.c (.int .u8 57))),
m 25 35])
(.cond (.t 25)
.skip
(.seq (.ops [o 36 (.bin .eql 0 true (.t 24) (.c (.int .u8 45))),
m 25 36])
(.cond (.t 25)
.skip
(.seq (.ops [o 37 (.bin .eql 0 true (.t 24) (.c (.int .u8 43))),
m 25 37])
(.cond (.t 25)
.skip
(.seq (.ops [o 38 (.bin .eql 0 true (.t 24) (.c (.int .u8 46))),
m 25 38])
(.cond (.t 25)
.skip
(.seq (.ops [o 39 (.bin .eql 0 true (.t 24) (.c (.int .u8 101))),
m 25 39])
(.cond (.t 25)
.skip
(.ops [o 40 (.bin .eql 0 true (.t 24) (.c (.int .u8 69))),
m 25 40])))))))))))))))))))))))))))))
(.cond (.t 25)
(.ops [m 41 7,
o 42 (.bin .add 0 true (.t 41) (.c (.int .i64 1))),
m 7 42])
(.exit [0,1,7] 0)))))))
def K_num_Read : KF:=⟨2,61,[(.tmp 4),(.tmp 5),(.tmp 6)],
(.seq (.ops [o 4 (.mv (.c (.int .i64 0))),
o 5 (.mv (.c (.int .i64 0))),
o 6 (.mv (.c (.int .i64 0)))])
(.scope (.seq (.seq (.ops [m 9 1,
o 10 (.bin .lss 0 true (.t 9) (.c (.int .i64 0))),
m 11 10,
og 12 11 false (.mv (.t 1)),
og 13 11 false (.mv (.t 0)),
og 14 11 false (.len 0 (.t 13)),
og 15 11 false (.bin .gtr 0 false (.t 12) (.t 14)),
o 16 (.pick (.t 11) (.c (.bool true)) (.t 15))])
(.cond (.t 16)
(.seq (.ops [o 4 (.mv (.c (.int .i64 0))),
o 5 (.mv (.c (.int .i64 0))),
o 6 (.mv (.c (.int .i64 1)))])
(.ret [4,5,6]))
.skip))
(.seq (.ops [m 17 1,
m 7 17])
(.seq .skip
(.seq (.block 0
(.loop [0,1,7] L_num_Read_0))
(.seq (.seq (.ops [m 43 0,
m 44 1,
m 45 7,
o 46 (.sliceStr (.t 43) (some (.t 44)) (some (.t 45))),
o 47 (.callF f_num_formed [(.t 46)]),
o 48 (.un .not (.t 47))])
(.cond (.t 48)
(.seq (.ops [o 4 (.mv (.c (.int .i64 0))),
o 5 (.mv (.c (.int .i64 0))),
o 6 (.mv (.c (.int .i64 3)))])
(.ret [4,5,6]))
.skip))
(.seq (.ops [m 50 0,
m 51 1,
m 52 7,
o 53 (.sliceStr (.t 50) (some (.t 51)) (some (.t 52))),
o 54 (.callF f_strconv_ParseInt [(.t 53),(.c (.int .i64 10)),(.c (.int .i64 64))]),
m 49 54,
o 55 (.extract (.t 49) 0),
o 56 (.extract (.t 49) 1),
m 4 55,
m 8 56])
(.seq (.seq (.ops [m 57 8,
o 58 (.bin .neq 5 true (.t 57) (.c .nilIface))])
(.cond (.t 58)
(.seq (.ops [o 4 (.mv (.c (.int .i64 0))),
o 5 (.mv (.c (.int .i64 0))),
o 6 (.mv (.c (.int .i64 9)))])
(.ret [4,5,6]))
.skip))
(.seq (.ops [m 59 4,
m 60 7,
m 4 59,
m 5 60,
o 6 (.mv (.c (.int .i64 0)))])
(.ret [4,5,6])))))))))))⟩
def L_num_formed_0 : KC:=
(.seq (.ops [o 25 (.bin .lss 0 false (.t 24) (.t 23))])
(.seq (.cond (.t 25)
.skip
(.exit [] 0))
(.seq (.block 1
(.seq (.ops [m 26 24,
m 3 26])
(.seq (.ops [m 27 0,
m 28 3,
o 29 (.idxStr (.t 27) (.t 28)),
o 30 (.bin .lss 0 true (.t 29) (.c (.int .u8 48))),
m 31 30,
og 32 31 false (.mv (.t 0)),
og 33 31 false (.mv (.t 3)),
og 34 31 false (.idxStr (.t 32) (.t 33)),
og 35 31 false (.bin .gtr 0 true (.t 34) (.c (.int .u8 57))),
o 36 (.pick (.t 31) (.c (.bool true)) (.t 35))])
(.cond (.t 36)
(.seq (.ops [o 2 (.mv (.c (.bool false)))])
(.ret [2]))
.skip))))
(.ops [o 37 (.bin .add 0 true (.t 24) (.c (.int .i64 1))),
m 24 37]))))
def K_num_formed : KF:=⟨1,38,[(.tmp 2)],
(.seq (.ops [o 2 (.mv (.c (.bool false)))])
(.seq (.seq (.ops [m 4 0,
o 5 (.bin .eql 0 true (.t 4) (.c (.str [48])))])
(.cond (.t 5)
(.seq (.ops [o 2 (.mv (.c (.bool true)))])
(.ret [2]))
.skip))
(.seq (.seq (.ops [m 6 0,
o 7 (.bin .neq 0 true (.t 6) (.c (.str []))),
m 8 7,
og 9 8 true (.mv (.t 0)),
og 10 8 true (.idxStr (.t 9) (.c (.int .i64 0))),
og 11 8 true (.bin .eql 0 true (.t 10) (.c (.int .u8 45))),
o 12 (.pick (.t 8) (.t 11) (.c (.bool false)))])
(.cond (.t 12)
(.ops [m 13 0,
o 14 (.sliceStr (.t 13) (some (.c (.int .i64 1))) none),
m 0 14])
.skip))
(.seq (.seq (.ops [m 15 0,
o 16 (.bin .eql 0 true (.t 15) (.c (.str []))),
m 17 16,
og 18 17 false (.mv (.t 0)),
og 19 17 false (.idxStr (.t 18) (.c (.int .i64 0))),
og 20 17 false (.bin .eql 0 true (.t 19) (.c (.int .u8 48))),
o 21 (.pick (.t 17) (.c (.bool true)) (.t 20))])
(.cond (.t 21)
(.seq (.ops [o 2 (.mv (.c (.bool false)))])
(.ret [2]))
.skip))
(.seq (.seq (.ops [m 22 0,
o 23 (.len 0 (.t 22)),
o 24 (.mv (.c (.int .i64 0)))])
(.block 0
(.loop [0,23,24] L_num_formed_0)))
(.seq (.ops [o 2 (.mv (.c (.bool true)))])
(.ret [2])))))))⟩
def K_legatelaw32_ScriptFirst : KF:=⟨2,52,[(.tmp 4)],
(.seq (.ops [o 4 (.mv (.c (.bool false)))])
(.seq (.seq (.ops [m 11 0,
o 12 (.len 0 (.t 11)),
o 13 (.bin .gtr 0 true (.t 12) (.c (.int .i64 60000))),
m 14 13,
og 15 14 false (.mv (.t 1)),
og 16 14 false (.len 0 (.t 15)),
og 17 14 false (.bin .gtr 0 true (.t 16) (.c (.int .i64 60000))),
o 18 (.pick (.t 14) (.c (.bool true)) (.t 17)),
m 19 18,
og 20 19 false (.callF f_legatelaw32_awake []),
og 21 19 false (.un .not (.t 20)),
o 22 (.pick (.t 19) (.c (.bool true)) (.t 21))])
(.cond (.t 22)
(.seq (.ops [o 23 (.callF f_legatelaw32_awake []),
m 4 23])
(.ret [4]))
.skip))
(.seq (.ops [m 25 0,
o 26 (.callF f_script_Read [(.t 25)]),
m 24 26,
o 27 (.extract (.t 24) 0),
o 28 (.extract (.t 24) 1),
o 29 (.extract (.t 24) 2),
o 5 (.new [(.str []),.nils,(.int .i64 0),(.bool false),.nils,(.int .i64 0),(.int .i64 0),(.int .i64 0),(.int .i64 0),.nils] none),
u (.store 10 (.t 5) (.t 27)),
m 6 28,
m 7 29])
(.seq (.seq (.ops [m 30 7,
o 31 (.bin .eql 0 true (.t 30) (.c (.int .i64 0))),
m 32 31,
og 33 32 false (.mv (.t 7)),
og 34 32 false (.bin .eql 0 true (.t 33) (.c (.int .i64 4))),
o 35 (.pick (.t 32) (.c (.bool true)) (.t 34))])
(.cond (.t 35)
(.seq (.ops [o 4 (.mv (.c (.bool true)))])
(.ret [4]))
.skip))
(.seq (.ops [m 37 0,
m 38 1,
o 39 (.bin .add 0 false (.t 37) (.t 38)),
o 40 (.callF f_script_Read [(.t 39)]),
m 36 40,
o 41 (.extract (.t 36) 0),
o 42 (.extract (.t 36) 1),
o 43 (.extract (.t 36) 2),
o 8 (.new [(.str []),.nils,(.int .i64 0),(.bool false),.nils,(.int .i64 0),(.int .i64 0),(.int .i64 0),(.int .i64 0),.nils] none),
u (.store 10 (.t 8) (.t 41)),
m 9 42,
m 10 43])
(.seq (.ops [m 44 9,
m 45 6,
o 46 (.bin .eql 0 false (.t 44) (.t 45)),
m 47 46,
og 48 47 true (.mv (.t 10)),
og 49 47 true (.mv (.t 7)),
og 50 47 true (.bin .eql 0 false (.t 48) (.t 49)),
o 51 (.pick (.t 47) (.t 50) (.c (.bool false))),
m 4 51])
(.ret [4])))))))⟩
end Go.Ev
namespace Go.Ev
set_option maxRecDepth 100000
set_option linter.unusedSimpArgs false
set_option linter.unusedVariables false
theorem Ok.plus {τ : St} (h : Ok τ) {L : St} (hl : L.all (AO.below 0) = true) : Ok (τ ++ L):=h.app (by
 rw [List.all_eq_true] at *
 exact fun x hx=>AO.below_mono (Nat.zero_le _) x (hl x hx))
theorem Ok.set2 {σ : St} (h : Ok σ) (o : Nat) {x : AO} (hx : x.below σ.length = true) : Ok (σ.set o x):=by
 unfold Ok at *
 rw [List.length_set]
 rw [List.all_eq_true] at *
 intro y hy
 rcases List.mem_or_eq_of_mem_set hy with hy | rfl
 ·exact h y hy
 ·exact hx
theorem Ok.set {σ : St} (h : Ok σ) (o : Nat) {x : AO} (hx : x.below 0 = true) : Ok (σ.set o x):=h.set2 o (AO.below_mono (Nat.zero_le _) _ hx)
theorem set_self {τ : St} {p : Nat} {x : AO} (h : τ[p]? = some x) : τ.set p x = τ:=by
 apply List.ext_getElem?
 intro i
 rw [List.getElem?_set]
 split
 ·rename_i hp
  subst hp
  split
  ·exact h.symm
  ·rw [List.getElem?_eq_none (by omega)] at h; cases h
 ·rfl
theorem sy_get {S : St} {n : Nat} (h : S.length = n) (L : St) (k : Nat) : (S ++ L)[n + k]? = L[k]?:= by
 subst h
 rw [List.getElem?_append_right (by omega)]
 simp
theorem sy_get0 {S : St} {n : Nat} (h : S.length = n) (L : St) : (S ++ L)[n]? = L[0]?:= sy_get h L 0
theorem sy_set {S : St} {n : Nat} (h : S.length = n) (L : St) (k : Nat) (y : AO) : (S ++ L).set (n + k) y = S ++ L.set k y:=by
 subst h
 rw [List.set_append_right _ _ (by omega)]
 simp
theorem sy_set0 {S : St} {n : Nat} (h : S.length = n) (L : St) (y : AO) : (S ++ L).set n y = S ++ L.set 0 y:=sy_set h L 0 y
theorem sy_old {S : St} {q : Nat} {x : AO} (h : S[q]? = some x) (L : St) : (S ++ L)[q]? = some x:=by
 rw [List.getElem?_append_left (List.getElem?_eq_some_iff.mp h).1]; exact h
theorem sy_put {S : St} {q : Nat} {x : AO} (h : S[q]? = some x) (L : St) (y : AO) : (S ++ L).set q y = S.set q y ++ L:=by
 rw [List.set_append_left _ _ (List.getElem?_eq_some_iff.mp h).1]
theorem set_get {S : St} {q : Nat} {x : AO} (h : S[q]? = some x) (y : AO) : (S.set q y)[q]? = some y:=by
 simp [(List.getElem?_eq_some_iff.mp h).1]
theorem set_old {S : St} {p q : Nat} {x : AO} (h : S[p]? = some x) (hne : p ≠ q) (y : AO) : (S.set q y)[p]? = some x:=by
 rw [List.getElem?_set_ne (fun e=>hne e.symm)]; exact h
theorem take_put (S : St) (k q : Nat) (h : k ≤ q) (y : AO) : (S.set q y).take k = S.take k:=by
 apply List.ext_getElem?
 intro i
 rw [List.getElem?_take,List.getElem?_take]
 split
 ·rw [List.getElem?_set_ne (by omega)]
 ·rfl
theorem ap_msl {σ : St} {sz bytes n m q : Nat} {l : List AV} (cs : List AV) (hq : σ[q]? = some (.cells l ⟨false,none⟩)) (hm : ¬ m = 0) (hl : l.length = n * sz) (h1 : (n + m) * bytes ≤ 70368744177664) (h2 : n + m ≤ 70368744177664) : appA σ sz bytes none (.msl q 0 n sz) m cs = some (.msl σ.length 0 (n + m) sz,σ.set q .dead ++ [.cells (l ++ cs) ⟨false,none⟩]):=by
 unfold appA
 rw [if_neg hm]
 simp only [hq]
 rw [if_pos ⟨trivial,hl,h1,h2⟩]
 rfl
theorem nv_msl {τ : St} {q n sz : Nat} {l : List AV} {fz : Fz} (hq : τ[q]? = some (.cells l fz)) (hl : l.length = n * sz) (ns : NVs l) : normV τ (norms τ 11) (.msl q 0 n sz) = some (.sl n l,[q]):=by
 have nr : norms τ 11 l = some (l,[]):=by
  show normVs τ (norms τ 10) l = _
  exact ns.nf _ _
 unfold normV
 rw [hq]
 show (if 0 + n * sz ≤ l.length then match norms τ 11 ((l.drop 0).take (n * sz)) with | some (l,fs)=>some (AV.sl n l,q :: fs) | none=>none else none) = _
 rw [if_pos (by omega),List.drop_zero,List.take_of_length_le (by omega),nr]
theorem freeze_one {τ : St} {q : Nat} {l : List AV} (hq : τ[q]? = some (.cells l ⟨false,none⟩)) : freeze τ [q] = τ.set q (.cells l ⟨true,none⟩):=by
 unfold freeze
 rw [hq]
 rfl
end Go.Ev
namespace Go.Ev
set_option maxRecDepth 100000
set_option linter.unusedSimpArgs false
set_option linter.unusedVariables false
variable {C : Ctx}
structure RS where
 place : Nat
 e : Nat
def rdO (T : List UInt8) (R : RS) : AO:=.cells [.str T,.int .i64 R.place,.int .i64 R.e] ⟨false,none⟩
def ptO (a b : Nat) : AO:=.cells [.int .i64 a,.int .i64 b] ⟨false,none⟩
theorem rdO_below (T : List UInt8) (R : RS) : (rdO T R).below 0 = true:=rfl
theorem ptO_below (a b : Nat) : (ptO a b).below 0 = true:=rfl
def failS (R : RS) (e place : Nat) : RS:=if R.e = 0 then ⟨place,e⟩ else R
theorem fail_is (hC : Has C f_script_reader_fail K_script_reader_fail) {S : St} {r : Nat} {T : List UInt8} {R : RS} (hr : S[r]? = some (rdO T R)) (e place : Nat) : semF C f_script_reader_fail [.ref r 0,.int .i64 e,.int .i64 place] S = some (.tup [],S.set r (rdO T (failS R e place))):=by
 have hn : hand false [.ref r 0,.int .i64 e,.int .i64 place] S = some ([.ref r 0,.int .i64 e,.int .i64 place],S):=rfl
 have gs : ∀ x : AO,(S.set r x)[r]? = some x:=fun x=>set_get hr x
 have ty0 : ∀ (x : AO),tidy S.length [] (S.set r x) = S.set r x:=fun x=>by
  have:=st_tidy0 (S.set r x) []
  rwa [List.length_set] at this
 have self:=set_self hr
 rw [hC.go hn (by simp [K_script_reader_fail])]
 unfold rdO failS at *
 cases c : ((R.e : Int) == 0)
 ·have c0 : ¬ R.e = 0:=by simpa using c
  rw [if_neg c0,self]
  simp only [K_script_reader_fail,hr,c,EVC,EVD,EVB,Nat.reduceEqDiff,eqOp,eqA,eqNil,lenA,asNat,optNat,pt,tupleOf,Nat.reduceSub,Nat.reduceGT,Nat.reduceLT,hand,norms,normVs,normV,freeze,reduceIte,reduceCtorEq,srcCells,slCells,isStr,fillA,rep,asObj,outSl,Nat.reduceMul,Nat.reduceLeDiff,Int.reduceToNat,Int.reduceLE,Int.reduceLT,Int.reduceEq,Nat.reduceAdd,Int.reduceBNe,Int.reduceBEq,Int.reduceNeg]
 ·have c0 : R.e = 0:=by simpa using c
  rw [if_pos c0]
  simp only [K_script_reader_fail,hr,c,gs,splice,List.set_set,ty0,EVC,EVD,EVB,Nat.reduceEqDiff,eqOp,eqA,eqNil,lenA,asNat,optNat,pt,tupleOf,Nat.reduceSub,Nat.reduceGT,Nat.reduceLT,hand,norms,normVs,normV,freeze,reduceIte,reduceCtorEq,srcCells,slCells,isStr,fillA,rep,asObj,outSl,Nat.reduceMul,Nat.reduceLeDiff,Int.reduceToNat,Int.reduceLE,Int.reduceLT,Int.reduceEq,Nat.reduceAdd,Int.reduceBNe,Int.reduceBEq,Int.reduceNeg]
theorem left_is (hC : Has C f_script_part_left K_script_part_left) {S : St} {p a b : Nat} (hp : S[p]? = some (ptO a b)) : semF C f_script_part_left [.ref p 0] S = some (.bool (decide (a < b)),S):=by
 have hn : hand false [.ref p 0] S = some ([.ref p 0],S):=rfl
 rw [hC.go hn (by simp [K_script_part_left])]
 unfold ptO at hp
 have h : decide ((a : Int) < (b : Int)) = decide (a < b):=by
  rw [Bool.eq_iff_iff]; simp
 simp only [K_script_part_left,hp,h,EVC,EVD,EVB,Nat.reduceEqDiff,eqOp,eqA,eqNil,lenA,asNat,optNat,pt,tupleOf,Nat.reduceSub,Nat.reduceGT,Nat.reduceLT,hand,norms,normVs,normV,freeze,reduceIte,reduceCtorEq,srcCells,slCells,isStr,fillA,rep,asObj,outSl,Nat.reduceMul,Nat.reduceLeDiff,Int.reduceToNat,Int.reduceLE,Int.reduceLT,Int.reduceEq,Nat.reduceAdd,Int.reduceBNe,Int.reduceBEq,Int.reduceNeg]
end Go.Ev
namespace Go.Ev
set_option maxRecDepth 100000
set_option linter.unusedSimpArgs false
set_option linter.unusedVariables false
variable {C : Ctx}
def frL (T : List UInt8) (a : Nat) : Nat → Nat → Nat → Nat × Nat × Nat
 | 0,i,n=>(4,i,n)
 | k + 1,i,n=>match T[i]? with
   | none=>(4,i,n)
   | some c=>if c.toNat = 58 ∧ a < i then (0,i,n) else if c.toNat < 48 ∨ 57 < c.toNat ∨ (a < i ∧ T[a]? = some 48) ∨ 7 ≤ i - a then (3,i,n) else frL T a k (i + 1) (10 * n + (c.toNat - 48))
def frS (T : List UInt8) (a b : Nat) : Nat × Nat × Nat:=
 match frL T a (b - a) a 0 with
 | (0,i,n)=>if b - (i + 1) ≤ n then (0,0,4) else if T[i + 1 + n]? = some 44 then (i + 1,i + 1 + n,0) else (0,0,3)
 | (e,_,_)=>(0,0,e)
theorem pow_le7 : ∀ k,k ≤ 7 → 10 ^ k ≤ 10000000
 | 0,_=>by decide
 | 1,_=>by decide
 | 2,_=>by decide
 | 3,_=>by decide
 | 4,_=>by decide
 | 5,_=>by decide
 | 6,_=>by decide
 | 7,_=>by decide
 | n + 8,h=>by omega
theorem frL_is (T : List UInt8) (a b : Nat) (hb : b ≤ T.length) : ∀ (k i n : Nat),i + k = b → a ≤ i → i - a ≤ 7 → n + 1 ≤ 10 ^ (i - a) →
  ((frL T a k i n).1 = 0 → a < (frL T a k i n).2.1 ∧ (frL T a k i n).2.1 < b ∧ (frL T a k i n).2.2 < 10000000) ∧ ((frL T a k i n).1 = 0 ∨ (frL T a k i n).1 = 3 ∨ (frL T a k i n).1 = 4)
 | 0,i,n,hi,h1,h2,h3=>by simp [frL]
 | k + 1,i,n,hi,h1,h2,h3=>by
   have hlt : i < T.length:=by omega
   unfold frL
   rw [List.getElem?_eq_getElem hlt]
   dsimp only
   split
   ·rename_i h
    have:=pow_le7 (i - a) h2
    exact ⟨fun _=>⟨h.2,by dsimp only; omega,by dsimp only; omega⟩,.inl rfl⟩
   ·split
    ·exact ⟨fun h=>by simp at h,.inr (.inl rfl)⟩
    ·rename_i h4
     have h5 : i - a < 7:=by omega
     have e : i + 1 - a = (i - a) + 1:=by omega
     refine frL_is T a b hb k (i + 1) _ (by omega) (by omega) (by omega) ?_
     rw [e,Nat.pow_succ]
     omega
theorem frame_loop (T : List UInt8) (hT : T.length ≤ 1099511627776) (R : RS) (a b : Nat) (hab : a ≤ b) (hb : b ≤ T.length) (S : St) (r : Nat) (hr : S[r]? = some (rdO T R)) : ∀ (k i n : Nat),i + k = b → a ≤ i → i - a ≤ 7 → n + 1 ≤ 10 ^ (i - a) →
  loopK C (semF C) 93 [0,3,4,6,7] L_script_reader_frame_0 [(0,.ref r 0),(3,.ref S.length 0),(4,.ref (S.length + 1) 0),(6,.int .i64 i),(7,.int .i64 n)] (S ++ [ptO a b,ptO 0 0]) =
   match frL T a k i n with
   | (0,i',n')=>some (.exit 0,[(0,.ref r 0),(3,.ref S.length 0),(4,.ref (S.length + 1) 0),(6,.int .i64 i'),(7,.int .i64 n')],S ++ [ptO a b,ptO 0 0])
   | (e,_,_)=>some (.ret,[(4,.ref (S.length + 1) 0),(5,.int .i64 e)],S ++ [ptO a b,ptO 0 0])
 | 0,i,n,hi,h1,h2,h3=>by
   rw [loop_eq (he:=rfl)]
   have h : (b : Int) ≤ (i : Int):=by omega
   unfold frL ptO
   simp only [L_script_reader_frame_0,h,splice,EVC,EVD,EVB,Nat.reduceEqDiff,eqOp,eqA,eqNil,lenA,asNat,optNat,pt,tupleOf,Nat.reduceSub,Nat.reduceGT,Nat.reduceLT,hand,norms,normVs,normV,freeze,reduceIte,reduceCtorEq,srcCells,slCells,isStr,fillA,rep,asObj,outSl,Nat.reduceMul,Nat.reduceLeDiff,Int.reduceToNat,Int.reduceLE,Int.reduceLT,Int.reduceEq,Nat.reduceAdd,Int.reduceBNe,Int.reduceBEq,Int.reduceNeg]
 | k + 1,i,n,hi,h1,h2,h3=>by
   rw [loop_eq (he:=rfl)]
   generalize hk : loopK C (semF C) 93 [0,3,4,6,7] L_script_reader_frame_0 = kk
   have hlt : i < T.length:=by omega
   have hb' : T[i]? = some T[i]:=List.getElem?_eq_getElem hlt
   have h : ¬ (b : Int) ≤ (i : Int):=by omega
   have h0 : (0 : Int) ≤ (i : Int):=by omega
   have hx:=sy_old hr
   have hw : IntKind.i64.wrap ((i : Int) + 1) = ((i + 1 : Nat) : Int):=by rw [w64] <;> omega
   have h7:=pow_le7 (i - a) h2
   have hlt2 : a < T.length:=by omega
   have ha' : T[a]? = some T[a]:=List.getElem?_eq_getElem hlt2
   have ha0 : (0 : Int) ≤ (a : Int):=by omega
   unfold frL
   rw [hb']
   dsimp only
   generalize hc : T[i] = c at *
   have hc256 : c.toNat < 256:=c.toNat_lt
   by_cases q1 : c.toNat = 58 ∧ a < i
   ·rw [if_pos q1]
    have c1 : ((c.toNat : Int) == 58) = true:=by simp; omega
    have c2 : ((a : Int) < (i : Int)):=by omega
    unfold ptO rdO at *
    simp only [L_script_reader_frame_0,h,h0,hb',hx,c1,c2,Int.toNat_natCast,splice,EVC,EVD,EVB,Nat.reduceEqDiff,eqOp,eqA,eqNil,lenA,asNat,optNat,pt,tupleOf,Nat.reduceSub,Nat.reduceGT,Nat.reduceLT,hand,norms,normVs,normV,freeze,reduceIte,reduceCtorEq,srcCells,slCells,isStr,fillA,rep,asObj,outSl,Nat.reduceMul,Nat.reduceLeDiff,Int.reduceToNat,Int.reduceLE,Int.reduceLT,Int.reduceEq,Nat.reduceAdd,Int.reduceBNe,Int.reduceBEq,Int.reduceNeg]
   ·rw [if_neg q1]
    have hsub : IntKind.i64.wrap ((i : Int) - (a : Int)) = ((i - a : Nat) : Int):=by rw [w64] <;> omega
    have fin : ∀ (n' : Nat),n' = 10 * n + (c.toNat - 48) → 48 ≤ c.toNat → c.toNat ≤ 57 → i - a < 7 → kk [(0,.ref r 0),(3,.ref S.length 0),(4,.ref (S.length + 1) 0),(6,.int .i64 (i + 1 : Nat)),(7,.int .i64 n')] (S ++ [ptO a b,ptO 0 0]) = match frL T a k (i + 1) n' with
      | (0,i',n')=>some (.exit 0,[(0,.ref r 0),(3,.ref S.length 0),(4,.ref (S.length + 1) 0),(6,.int .i64 i'),(7,.int .i64 n')],S ++ [ptO a b,ptO 0 0])
      | (e,_,_)=>some (.ret,[(4,.ref (S.length + 1) 0),(5,.int .i64 e)],S ++ [ptO a b,ptO 0 0]):=fun n' e1 e2 e3 e4=>by
     rw [← hk]
     refine frame_loop T hT R a b hab hb S r hr k (i + 1) n' (by omega) (by omega) (by omega) ?_
     rw [show i + 1 - a = (i - a) + 1 by omega,Nat.pow_succ]
     omega
    have form : ∀ x : RX,(c.toNat < 48 ∨ 57 < c.toNat ∨ (a < i ∧ T[a]? = some 48) ∨ 7 ≤ i - a) → (match if c.toNat < 48 ∨ 57 < c.toNat ∨ (a < i ∧ T[a]? = some 48) ∨ 7 ≤ i - a then ((3,i,n) : Nat × Nat × Nat) else frL T a k (i + 1) (10 * n + (c.toNat - 48)) with
      | (0,i',n')=>some (.exit 0,[(0,.ref r 0),(3,.ref S.length 0),(4,.ref (S.length + 1) 0),(6,.int .i64 i'),(7,.int .i64 n')],S ++ [ptO a b,ptO 0 0])
      | (e,_,_)=>some (.ret,[(4,.ref (S.length + 1) 0),(5,.int .i64 e)],S ++ [ptO a b,ptO 0 0])) = (some (.ret,[(4,.ref (S.length + 1) 0),(5,.int .i64 3)],S ++ [ptO a b,ptO 0 0]) : RX):=fun x h=>by rw [if_pos h]; rfl
    have w8 : 48 ≤ c.toNat → IntKind.u8.wrap ((c.toNat : Int) - 48) = ((c.toNat - 48 : Nat) : Int):=fun h=>by
     rw [show ((c.toNat : Int) - 48) = ((c.toNat - 48 : Nat) : Int) by omega]
     rw [IntKind.wrap_u8]; omega
    have w9 : IntKind.i64.wrap ((c.toNat - 48 : Nat) : Int) = ((c.toNat - 48 : Nat) : Int):=by rw [w64] <;> omega
    have w10 : IntKind.i64.wrap (10 * (n : Int)) = 10 * (n : Int):=by rw [w64] <;> omega
    have w11 : IntKind.i64.wrap (10 * (n : Int) + ((c.toNat - 48 : Nat) : Int)) = ((10 * n + (c.toNat - 48) : Nat) : Int):=by rw [w64] <;> omega
    unfold ptO rdO at *
    by_cases c3 : (c.toNat : Int) < 48
    ·have c1 : ((c.toNat : Int) == 58) = false:=by simp; omega
     rw [form none (.inl (by omega))]
     simp only [L_script_reader_frame_0,h,h0,hb',hx,c1,c3,Int.toNat_natCast,splice,EVC,EVD,EVB,Nat.reduceEqDiff,eqOp,eqA,eqNil,lenA,asNat,optNat,pt,tupleOf,Nat.reduceSub,Nat.reduceGT,Nat.reduceLT,hand,norms,normVs,normV,freeze,reduceIte,reduceCtorEq,srcCells,slCells,isStr,fillA,rep,asObj,outSl,Nat.reduceMul,Nat.reduceLeDiff,Int.reduceToNat,Int.reduceLE,Int.reduceLT,Int.reduceEq,Nat.reduceAdd,Int.reduceBNe,Int.reduceBEq,Int.reduceNeg]
    by_cases c4 : (57 : Int) < (c.toNat : Int)
    ·rw [form none (.inr (.inl (by omega)))]
     cases c1 : ((c.toNat : Int) == 58)
     ·simp only [L_script_reader_frame_0,h,h0,hb',hx,c1,c3,c4,Int.toNat_natCast,splice,EVC,EVD,EVB,Nat.reduceEqDiff,eqOp,eqA,eqNil,lenA,asNat,optNat,pt,tupleOf,Nat.reduceSub,Nat.reduceGT,Nat.reduceLT,hand,norms,normVs,normV,freeze,reduceIte,reduceCtorEq,srcCells,slCells,isStr,fillA,rep,asObj,outSl,Nat.reduceMul,Nat.reduceLeDiff,Int.reduceToNat,Int.reduceLE,Int.reduceLT,Int.reduceEq,Nat.reduceAdd,Int.reduceBNe,Int.reduceBEq,Int.reduceNeg]
     ·have c2 : ¬ ((a : Int) < (i : Int)):=by simp at c1; omega
      simp only [L_script_reader_frame_0,h,h0,hb',hx,c1,c2,c3,c4,Int.toNat_natCast,splice,EVC,EVD,EVB,Nat.reduceEqDiff,eqOp,eqA,eqNil,lenA,asNat,optNat,pt,tupleOf,Nat.reduceSub,Nat.reduceGT,Nat.reduceLT,hand,norms,normVs,normV,freeze,reduceIte,reduceCtorEq,srcCells,slCells,isStr,fillA,rep,asObj,outSl,Nat.reduceMul,Nat.reduceLeDiff,Int.reduceToNat,Int.reduceLE,Int.reduceLT,Int.reduceEq,Nat.reduceAdd,Int.reduceBNe,Int.reduceBEq,Int.reduceNeg]
    have c1 : ((c.toNat : Int) == 58) = false:=by simp; omega
    have h48 : 48 ≤ c.toNat:=by omega
    have e8:=w8 h48
    by_cases c7 : (7 : Int) ≤ ((i - a : Nat) : Int)
    ·rw [form none (.inr (.inr (.inr (by omega))))]
     by_cases c5 : (a : Int) < (i : Int)
     ·cases c6 : (((T[a]).toNat : Int) == 48)
      ·simp only [L_script_reader_frame_0,h,h0,ha0,hb',ha',hx,hsub,c1,c3,c4,c5,c6,c7,Int.toNat_natCast,splice,EVC,EVD,EVB,Nat.reduceEqDiff,eqOp,eqA,eqNil,lenA,asNat,optNat,pt,tupleOf,Nat.reduceSub,Nat.reduceGT,Nat.reduceLT,hand,norms,normVs,normV,freeze,reduceIte,reduceCtorEq,srcCells,slCells,isStr,fillA,rep,asObj,outSl,Nat.reduceMul,Nat.reduceLeDiff,Int.reduceToNat,Int.reduceLE,Int.reduceLT,Int.reduceEq,Nat.reduceAdd,Int.reduceBNe,Int.reduceBEq,Int.reduceNeg]
      ·simp only [L_script_reader_frame_0,h,h0,ha0,hb',ha',hx,hsub,c1,c3,c4,c5,c6,c7,Int.toNat_natCast,splice,EVC,EVD,EVB,Nat.reduceEqDiff,eqOp,eqA,eqNil,lenA,asNat,optNat,pt,tupleOf,Nat.reduceSub,Nat.reduceGT,Nat.reduceLT,hand,norms,normVs,normV,freeze,reduceIte,reduceCtorEq,srcCells,slCells,isStr,fillA,rep,asObj,outSl,Nat.reduceMul,Nat.reduceLeDiff,Int.reduceToNat,Int.reduceLE,Int.reduceLT,Int.reduceEq,Nat.reduceAdd,Int.reduceBNe,Int.reduceBEq,Int.reduceNeg]
     ·omega
    ·by_cases c5 : (a : Int) < (i : Int)
     ·cases c6 : (((T[a]).toNat : Int) == 48)
      ·have c6' : ¬ T[a]? = some 48:=by
        rw [ha']; intro hh; simp only [Option.some.injEq] at hh; rw [hh] at c6; simp at c6
       rw [if_neg (by rintro (hh | hh | ⟨_,hh⟩ | hh) <;> first | exact c6' hh | omega : ¬ (c.toNat < 48 ∨ 57 < c.toNat ∨ (a < i ∧ T[a]? = some 48) ∨ 7 ≤ i - a))]
       rw [← fin _ rfl h48 (by omega) (by omega)]
       simp only [L_script_reader_frame_0,h,h0,ha0,hb',ha',hx,hsub,e8,w9,w10,w11,hw,c1,c3,c4,c5,c6,c7,Int.toNat_natCast,splice,EVC,EVD,EVB,Nat.reduceEqDiff,eqOp,eqA,eqNil,lenA,asNat,optNat,pt,tupleOf,Nat.reduceSub,Nat.reduceGT,Nat.reduceLT,hand,norms,normVs,normV,freeze,reduceIte,reduceCtorEq,srcCells,slCells,isStr,fillA,rep,asObj,outSl,Nat.reduceMul,Nat.reduceLeDiff,Int.reduceToNat,Int.reduceLE,Int.reduceLT,Int.reduceEq,Nat.reduceAdd,Int.reduceBNe,Int.reduceBEq,Int.reduceNeg]
      ·have c6' : T[a]? = some 48:=by
        rw [ha',Option.some.injEq,← UInt8.toNat_inj]
        have : (T[a].toNat : Int) = 48:=by simpa using c6
        show T[a].toNat = 48
        omega
       rw [form none (.inr (.inr (.inl ⟨by omega,c6'⟩)))]
       simp only [L_script_reader_frame_0,h,h0,ha0,hb',ha',hx,hsub,c1,c3,c4,c5,c6,c7,Int.toNat_natCast,splice,EVC,EVD,EVB,Nat.reduceEqDiff,eqOp,eqA,eqNil,lenA,asNat,optNat,pt,tupleOf,Nat.reduceSub,Nat.reduceGT,Nat.reduceLT,hand,norms,normVs,normV,freeze,reduceIte,reduceCtorEq,srcCells,slCells,isStr,fillA,rep,asObj,outSl,Nat.reduceMul,Nat.reduceLeDiff,Int.reduceToNat,Int.reduceLE,Int.reduceLT,Int.reduceEq,Nat.reduceAdd,Int.reduceBNe,Int.reduceBEq,Int.reduceNeg]
     ·rw [if_neg (by rintro (hh | hh | ⟨hh,_⟩ | hh) <;> omega : ¬ (c.toNat < 48 ∨ 57 < c.toNat ∨ (a < i ∧ T[a]? = some 48) ∨ 7 ≤ i - a))]
      rw [← fin _ rfl h48 (by omega) (by omega)]
      simp only [L_script_reader_frame_0,h,h0,ha0,hb',ha',hx,hsub,e8,w9,w10,w11,hw,c1,c3,c4,c5,c7,Int.toNat_natCast,splice,EVC,EVD,EVB,Nat.reduceEqDiff,eqOp,eqA,eqNil,lenA,asNat,optNat,pt,tupleOf,Nat.reduceSub,Nat.reduceGT,Nat.reduceLT,hand,norms,normVs,normV,freeze,reduceIte,reduceCtorEq,srcCells,slCells,isStr,fillA,rep,asObj,outSl,Nat.reduceMul,Nat.reduceLeDiff,Int.reduceToNat,Int.reduceLE,Int.reduceLT,Int.reduceEq,Nat.reduceAdd,Int.reduceBNe,Int.reduceBEq,Int.reduceNeg]
end Go.Ev
namespace Go.Ev
set_option maxRecDepth 100000
set_option linter.unusedSimpArgs false
set_option linter.unusedVariables false
variable {C : Ctx}
theorem frame_is (hC : Has C f_script_reader_frame K_script_reader_frame) {T : List UInt8} (hT : T.length ≤ 1099511627776) {R : RS} {a b : Nat} (hab : a ≤ b) (hb : b ≤ T.length) {S : St} (hS : Ok S) {r : Nat} (hr : S[r]? = some (rdO T R)) :
  semF C f_script_reader_frame [.ref r 0,.agg [.int .i64 a,.int .i64 b]] S = some (.tup [.agg [.int .i64 (frS T a b).1,.int .i64 (frS T a b).2.1],.int .i64 (frS T a b).2.2],S):=by
 have hn : hand false [.ref r 0,.agg [.int .i64 a,.int .i64 b]] S = some ([.ref r 0,.agg [.int .i64 a,.int .i64 b]],S):=rfl
 have lp:=frame_loop (C:=C) T hT R a b hab hb S r hr (b - a) a 0 (by omega) (by omega) (by omega) (by simp)
 obtain ⟨fi,fe⟩:=frL_is T a b hb (b - a) a 0 (by omega) (by omega) (by omega) (by simp)
 have ty:=fun (x y e : Int) L=>st_tidy hS (vs:=[.agg [.int .i64 x,.int .i64 y],.int .i64 e]) rfl L
 have hx:=sy_old hr
 rw [hC.go hn (by simp [K_script_reader_frame])]
 cases hz : frL T a (b - a) a 0 with | mk e z=>?_
 obtain ⟨i,n⟩:=z
 rw [hz] at fi fe lp
 dsimp only at fi fe lp
 unfold ptO rdO at *
 simp only [Int.natCast_zero] at lp
 rcases fe with rfl | rfl | rfl
 ·obtain ⟨h1,h2,h3⟩:=fi rfl
  have hw : IntKind.i64.wrap ((i : Int) + 1) = ((i + 1 : Nat) : Int):=by rw [w64] <;> omega
  have hw2 : IntKind.i64.wrap ((b : Int) - ((i + 1 : Nat) : Int)) = ((b - (i + 1) : Nat) : Int):=by rw [w64] <;> omega
  have hw3 : IntKind.i64.wrap (((i + 1 : Nat) : Int) + (n : Int)) = ((i + 1 + n : Nat) : Int):=by rw [w64] <;> omega
  by_cases q : b - (i + 1) ≤ n
  ·have q' : ((b - (i + 1) : Nat) : Int) ≤ (n : Int):=by omega
   rw [show frS T a b = (0,0,4) by unfold frS; rw [hz]; exact if_pos q]
   simp only [K_script_reader_frame,lp,hw,hw2,q',splice,resL,nv_agg,ty,AV.cells,AV.flat,Int.natCast_zero,Int.cast_ofNat_Int,EVC,EVD,EVB,Nat.reduceEqDiff,eqOp,eqA,eqNil,lenA,asNat,optNat,pt,tupleOf,Nat.reduceSub,Nat.reduceGT,Nat.reduceLT,hand,norms,normVs,normV,freeze,reduceIte,reduceCtorEq,srcCells,slCells,isStr,fillA,rep,asObj,outSl,Nat.reduceMul,Nat.reduceLeDiff,Int.reduceToNat,Int.reduceLE,Int.reduceLT,Int.reduceEq,Nat.reduceAdd,Int.reduceBNe,Int.reduceBEq,Int.reduceNeg]
  ·have q' : ¬ ((b - (i + 1) : Nat) : Int) ≤ (n : Int):=by omega
   have hlt : i + 1 + n < T.length:=by omega
   have hg : T[i + 1 + n]? = some T[i + 1 + n]:=List.getElem?_eq_getElem hlt
   have h0 : (0 : Int) ≤ ((i + 1 + n : Nat) : Int):=by omega
   cases c : (((T[i + 1 + n]).toNat : Int) != 44)
   ·have c' : T[i + 1 + n]? = some 44:=by
     rw [hg,Option.some.injEq,← UInt8.toNat_inj]
     have : (T[i + 1 + n].toNat : Int) = 44:=by simpa using c
     show T[i + 1 + n].toNat = 44
     omega
    rw [show frS T a b = (i + 1,i + 1 + n,0) by simp only [frS,hz,if_neg q,if_pos c']]
    simp only [K_script_reader_frame,lp,hw,hw2,hw3,q',hx,hg,h0,c,Int.toNat_natCast,splice,resL,nv_agg,ty,AV.cells,AV.flat,EVC,EVD,EVB,Nat.reduceEqDiff,eqOp,eqA,eqNil,lenA,asNat,optNat,pt,tupleOf,Nat.reduceSub,Nat.reduceGT,Nat.reduceLT,hand,norms,normVs,normV,freeze,reduceIte,reduceCtorEq,srcCells,slCells,isStr,fillA,rep,asObj,outSl,Nat.reduceMul,Nat.reduceLeDiff,Int.reduceToNat,Int.reduceLE,Int.reduceLT,Int.reduceEq,Nat.reduceAdd,Int.reduceBNe,Int.reduceBEq,Int.reduceNeg]
   ·have c' : ¬ T[i + 1 + n]? = some 44:=by
     rw [hg]
     intro hh
     simp only [Option.some.injEq] at hh
     rw [hh] at c
     simp at c
    rw [show frS T a b = (0,0,3) by simp only [frS,hz,if_neg q,if_neg c']]
    simp only [K_script_reader_frame,lp,hw,hw2,hw3,q',hx,hg,h0,c,Int.toNat_natCast,splice,resL,nv_agg,ty,AV.cells,AV.flat,Int.natCast_zero,Int.cast_ofNat_Int,EVC,EVD,EVB,Nat.reduceEqDiff,eqOp,eqA,eqNil,lenA,asNat,optNat,pt,tupleOf,Nat.reduceSub,Nat.reduceGT,Nat.reduceLT,hand,norms,normVs,normV,freeze,reduceIte,reduceCtorEq,srcCells,slCells,isStr,fillA,rep,asObj,outSl,Nat.reduceMul,Nat.reduceLeDiff,Int.reduceToNat,Int.reduceLE,Int.reduceLT,Int.reduceEq,Nat.reduceAdd,Int.reduceBNe,Int.reduceBEq,Int.reduceNeg]
 ·rw [show frS T a b = (0,0,3) by unfold frS; rw [hz]; rfl]
  simp only [K_script_reader_frame,lp,splice,resL,nv_agg,ty,AV.cells,AV.flat,Int.natCast_zero,Int.cast_ofNat_Int,EVC,EVD,EVB,Nat.reduceEqDiff,eqOp,eqA,eqNil,lenA,asNat,optNat,pt,tupleOf,Nat.reduceSub,Nat.reduceGT,Nat.reduceLT,hand,norms,normVs,normV,freeze,reduceIte,reduceCtorEq,srcCells,slCells,isStr,fillA,rep,asObj,outSl,Nat.reduceMul,Nat.reduceLeDiff,Int.reduceToNat,Int.reduceLE,Int.reduceLT,Int.reduceEq,Nat.reduceAdd,Int.reduceBNe,Int.reduceBEq,Int.reduceNeg]
 ·rw [show frS T a b = (0,0,4) by unfold frS; rw [hz]; rfl]
  simp only [K_script_reader_frame,lp,splice,resL,nv_agg,ty,AV.cells,AV.flat,Int.natCast_zero,Int.cast_ofNat_Int,EVC,EVD,EVB,Nat.reduceEqDiff,eqOp,eqA,eqNil,lenA,asNat,optNat,pt,tupleOf,Nat.reduceSub,Nat.reduceGT,Nat.reduceLT,hand,norms,normVs,normV,freeze,reduceIte,reduceCtorEq,srcCells,slCells,isStr,fillA,rep,asObj,outSl,Nat.reduceMul,Nat.reduceLeDiff,Int.reduceToNat,Int.reduceLE,Int.reduceLT,Int.reduceEq,Nat.reduceAdd,Int.reduceBNe,Int.reduceBEq,Int.reduceNeg]
theorem frS_le (T : List UInt8) (a b : Nat) (hab : a ≤ b) (hb : b ≤ T.length) : (frS T a b).1 ≤ (frS T a b).2.1 ∧ ((frS T a b).2.2 = 0 → a < (frS T a b).2.1 ∧ (frS T a b).2.1 < b) ∧ (frS T a b).2.1 ≤ b:=by
 obtain ⟨fi,fe⟩:=frL_is T a b hb (b - a) a 0 (by omega) (by omega) (by omega) (by simp)
 cases hz : frL T a (b - a) a 0 with | mk e z=>?_
 obtain ⟨i,n⟩:=z
 rw [hz] at fi fe
 dsimp only at fi fe
 rcases fe with rfl | rfl | rfl
 ·obtain ⟨h1,h2,h3⟩:=fi rfl
  by_cases q : b - (i + 1) ≤ n
  ·rw [show frS T a b = (0,0,4) by simp only [frS,hz,if_pos q]]
   simp
  ·by_cases c' : T[i + 1 + n]? = some 44
   ·rw [show frS T a b = (i + 1,i + 1 + n,0) by simp only [frS,hz,if_neg q,if_pos c']]
    dsimp only; omega
   ·rw [show frS T a b = (0,0,3) by simp only [frS,hz,if_neg q,if_neg c']]
    simp
 ·rw [show frS T a b = (0,0,3) by unfold frS; rw [hz]; rfl]
  simp
 ·rw [show frS T a b = (0,0,4) by unfold frS; rw [hz]; rfl]
  simp
structure NS where
 R : RS
 a : Nat
 x : Nat
 y : Nat
def netS (T : List UInt8) (b : Nat) (R : RS) (a : Nat) : NS:=
 if R.e = 0 then (if (frS T a b).2.2 = 0 then ⟨R,(frS T a b).2.1 + 1,(frS T a b).1,(frS T a b).2.1⟩ else ⟨failS R (frS T a b).2.2 a,a,0,0⟩) else ⟨R,a,0,0⟩
theorem netS_le (T : List UInt8) (a b : Nat) (R : RS) (hab : a ≤ b) (hb : b ≤ T.length) : (netS T b R a).x ≤ (netS T b R a).y ∧ (netS T b R a).y ≤ b ∧ (netS T b R a).a ≤ b ∧ a ≤ (netS T b R a).a ∧ ((netS T b R a).R.e = 0 → a < (netS T b R a).a):=by
 obtain ⟨h1,h2,h3⟩:=frS_le T a b hab hb
 unfold netS
 split
 ·split
  ·rename_i h4 h5
   obtain ⟨h6,h7⟩:=h2 h5
   dsimp only
   omega
  ·rename_i h4 h5
   have : failS R (frS T a b).2.2 a = ⟨a,(frS T a b).2.2⟩:=by unfold failS; rw [if_pos h4]
   rw [this]
   dsimp only
   omega
 ·dsimp only
  omega
structure RdHas (C : Ctx) : Prop where
 frame : Has C f_script_reader_frame K_script_reader_frame
 net : Has C f_script_reader_net K_script_reader_net
 bytes : Has C f_script_reader_bytes K_script_reader_bytes
 fail : Has C f_script_reader_fail K_script_reader_fail
 left : Has C f_script_part_left K_script_part_left
theorem net_is (H : RdHas C) {T : List UInt8} (hT : T.length ≤ 1099511627776) {R : RS} {a b : Nat} (hab : a ≤ b) (hb : b ≤ T.length) {S : St} (hS : Ok S) {r p : Nat} (hr : S[r]? = some (rdO T R)) (hp : S[p]? = some (ptO a b)) (hne : r ≠ p) :
  semF C f_script_reader_net [.ref r 0,.ref p 0] S = some (.agg [.int .i64 (netS T b R a).x,.int .i64 (netS T b R a).y],(S.set r (rdO T (netS T b R a).R)).set p (ptO (netS T b R a).a b)):=by
 have hn : hand false [.ref r 0,.ref p 0] S = some ([.ref r 0,.ref p 0],S):=rfl
 have okF:=fun (x y e : Int)=>hS.plus (L:=[.cells [.int .i64 0,.int .i64 0] ⟨false,none⟩]) rfl
 have fr:=frame_is H.frame hT hab hb (hS.plus (L:=[ptO 0 0]) rfl) (sy_old hr _)
 have ty:=fun (x y : Int) L=>st_tidy hS (vs:=[.agg [.int .i64 x,.int .i64 y]]) rfl L
 have fl:=fun L=>fail_is H.fail (sy_old hr L)
 have hrL:=sy_old hr
 have hpL:=sy_old hp
 have hpR:=sy_put hr
 have hpP:=sy_put hp
 have self:=set_self hr
 have self2:=set_self hp
 obtain ⟨b1,b2,b3⟩:=frS_le T a b hab hb
 unfold netS
 rw [H.net.go hn (by simp [K_script_reader_net])]
 generalize hz : frS T a b = z at *
 obtain ⟨x,y,e⟩:=z
 dsimp only at fr b1 b2 b3 ⊢
 cases c : ((R.e : Int) != 0)
 ·have c0 : R.e = 0:=by simpa using c
  rw [if_pos c0]
  cases c2 : ((e : Int) != 0)
  ·have c3 : e = 0:=by simpa using c2
   have hw : IntKind.i64.wrap ((y : Int) + 1) = ((y + 1 : Nat) : Int):=by obtain ⟨_,_⟩:=b2 c3; rw [w64] <;> omega
   rw [if_pos c3]
   dsimp only
   rw [self]
   have ty2 : ∀ (x y u v : Int) (L : St),tidy S.length [.agg [.int .i64 x,.int .i64 y]] (S.set p (.cells [.int .i64 u,.int .i64 v] ⟨false,none⟩) ++ L) = S.set p (.cells [.int .i64 u,.int .i64 v] ⟨false,none⟩):=fun x y u v L=>by
    have:=st_tidy (hS.set p (x:=.cells [.int .i64 u,.int .i64 v] ⟨false,none⟩) rfl) (vs:=[.agg [.int .i64 x,.int .i64 y]]) rfl L
    rwa [List.length_set] at this
   unfold ptO rdO at *
   simp only [Int.natCast_zero] at fr
   have L1 : ∀ q,(S.set p q).length = S.length:=fun q=>by simp
   have g0:=fun q L=>sy_get0 (L1 q) L
   have g1:=fun q L k=>sy_get (L1 q) L k
   have s0:=fun q L y=>sy_set0 (L1 q) L y
   have s1:=fun q L k y=>sy_set (L1 q) L k y
   simp only [K_script_reader_net,hrL,hpL,hpP,fr,hw,c,c2,g0,g1,s0,s1,ty2,splice,resL,nv_agg,AV.cells,AV.flat,Int.natCast_zero,Int.cast_ofNat_Int,EVC,EVD,EVB,Nat.reduceEqDiff,eqOp,eqA,eqNil,lenA,asNat,optNat,pt,tupleOf,Nat.reduceSub,Nat.reduceGT,Nat.reduceLT,hand,norms,normVs,normV,freeze,reduceIte,reduceCtorEq,srcCells,slCells,isStr,fillA,rep,asObj,outSl,Nat.reduceMul,Nat.reduceLeDiff,Int.reduceToNat,Int.reduceLE,Int.reduceLT,Int.reduceEq,Nat.reduceAdd,Int.reduceBNe,Int.reduceBEq,Int.reduceNeg]
  ·have c3 : ¬ e = 0:=by simpa using c2
   rw [if_neg c3]
   dsimp only
   have L1 : ∀ q,(S.set r q).length = S.length:=fun q=>by simp
   have g0:=fun q L=>sy_get0 (L1 q) L
   have g1:=fun q L k=>sy_get (L1 q) L k
   have s0:=fun q L y=>sy_set0 (L1 q) L y
   have s1:=fun q L k y=>sy_set (L1 q) L k y
   have ty2 : ∀ (x y u v : Int) (L : St),tidy S.length [.agg [.int .i64 x,.int .i64 y]] (S.set r (.cells [.str T,.int .i64 u,.int .i64 v] ⟨false,none⟩) ++ L) = S.set r (.cells [.str T,.int .i64 u,.int .i64 v] ⟨false,none⟩):=fun x y u v L=>by
    have:=st_tidy (hS.set r (x:=.cells [.str T,.int .i64 u,.int .i64 v] ⟨false,none⟩) rfl) (vs:=[.agg [.int .i64 x,.int .i64 y]]) rfl L
    rwa [List.length_set] at this
   have hpr : ∀ q,(S.set r q)[p]? = some (ptO a b):=fun q=>set_old hp (fun h=>hne h.symm) q
   have self3 : ∀ q,(S.set r q).set p (ptO a b) = S.set r q:=fun q=>set_self (hpr q)
   rw [self3]
   have hf:=fun L=>fl L e a
   unfold ptO rdO at *
   simp only [Int.natCast_zero] at fr
   simp only [K_script_reader_net,hrL,hpL,hpR,fr,hf,c,c2,g0,g1,s0,s1,ty2,splice,resL,nv_agg,AV.cells,AV.flat,Int.natCast_zero,Int.cast_ofNat_Int,EVC,EVD,EVB,Nat.reduceEqDiff,eqOp,eqA,eqNil,lenA,asNat,optNat,pt,tupleOf,Nat.reduceSub,Nat.reduceGT,Nat.reduceLT,hand,norms,normVs,normV,freeze,reduceIte,reduceCtorEq,srcCells,slCells,isStr,fillA,rep,asObj,outSl,Nat.reduceMul,Nat.reduceLeDiff,Int.reduceToNat,Int.reduceLE,Int.reduceLT,Int.reduceEq,Nat.reduceAdd,Int.reduceBNe,Int.reduceBEq,Int.reduceNeg]
 ·have c0 : ¬ R.e = 0:=by simpa using c
  rw [if_neg c0]
  dsimp only
  rw [self,self2]
  unfold ptO rdO at *
  simp only [K_script_reader_net,hrL,c,splice,resL,nv_agg,ty,AV.cells,AV.flat,EVC,EVD,EVB,Nat.reduceEqDiff,eqOp,eqA,eqNil,lenA,asNat,optNat,pt,tupleOf,Nat.reduceSub,Nat.reduceGT,Nat.reduceLT,hand,norms,normVs,normV,freeze,reduceIte,reduceCtorEq,srcCells,slCells,isStr,fillA,rep,asObj,outSl,Nat.reduceMul,Nat.reduceLeDiff,Int.reduceToNat,Int.reduceLE,Int.reduceLT,Int.reduceEq,Nat.reduceAdd,Int.reduceBNe,Int.reduceBEq,Int.reduceNeg]
end Go.Ev
namespace Go.Ev
set_option maxRecDepth 100000
set_option linter.unusedSimpArgs false
set_option linter.unusedVariables false
variable {C : Ctx}
def strS (T : List UInt8) (N : NS) : List UInt8:=(T.take N.y).drop N.x
theorem set_comm {S : St} {p q : Nat} (h : p ≠ q) (x y : AO) : (S.set p x).set q y = (S.set q y).set p x:=List.set_comm x y h
theorem bytes_is (H : RdHas C) {T : List UInt8} (hT : T.length ≤ 1099511627776) {R : RS} {a b : Nat} (hab : a ≤ b) (hb : b ≤ T.length) {S : St} (hS : Ok S) {r p : Nat} (hr : S[r]? = some (rdO T R)) (hp : S[p]? = some (ptO a b)) (hne : r ≠ p) :
  semF C f_script_reader_bytes [.ref r 0,.ref p 0] S = some (.str (strS T (netS T b R a)),(S.set r (rdO T (netS T b R a).R)).set p (ptO (netS T b R a).a b)):=by
 have hn : hand false [.ref r 0,.ref p 0] S = some ([.ref r 0,.ref p 0],S):=rfl
 have q:=net_is H hT hab hb hS hr hp hne
 obtain ⟨l1,l2,l3,l4,l5⟩:=netS_le T a b R hab hb
 unfold strS
 rw [H.bytes.go hn (by simp [K_script_reader_bytes])]
 generalize netS T b R a = N at *
 obtain ⟨R',a',x,y⟩:=N
 dsimp only at *
 have r2 : ∀ L,(((S.set r (rdO T R')).set p (ptO a' b)) ++ L)[r]? = some (rdO T R'):=fun L=>sy_old (set_old (set_get hr _) hne _) L
 have L1 : ((S.set r (rdO T R')).set p (ptO a' b)).length = S.length:=by simp
 have okS : Ok ((S.set r (rdO T R')).set p (ptO a' b)):=(hS.set r (rdO_below _ _)).set p (ptO_below _ _)
 generalize (S.set r (rdO T R')).set p (ptO a' b) = S' at *
 have g0:=fun L=>sy_get0 L1 L
 have s0:=fun L y=>sy_set0 L1 L y
 have ty2 : ∀ (z : List UInt8) (L : St),tidy S.length [.str z] (S' ++ L) = S':= fun z L=>by
  have:=st_tidy okS (vs:=[.str z]) rfl L
  rwa [L1] at this
 have h1 : (0 : Int) ≤ (x : Int):=by omega
 have h3 : y ≤ T.length:=by omega
 have h4 : (0 : Int) ≤ (y : Int):=by omega
 unfold rdO at *
 simp only [K_script_reader_bytes,q,r2,g0,s0,ty2,h1,h3,h4,l1,splice,AV.cells,AV.flat,Int.toNat_natCast,EVC,EVD,EVB,Nat.reduceEqDiff,eqOp,eqA,eqNil,lenA,asNat,optNat,pt,tupleOf,Nat.reduceSub,Nat.reduceGT,Nat.reduceLT,hand,norms,normVs,normV,freeze,reduceIte,reduceCtorEq,srcCells,slCells,isStr,fillA,rep,asObj,outSl,Nat.reduceMul,Nat.reduceLeDiff,Int.reduceToNat,Int.reduceLE,Int.reduceLT,Int.reduceEq,Nat.reduceAdd,Int.reduceBNe,Int.reduceBEq,Int.reduceNeg]
structure NumOf (C : Ctx) (N : List UInt8 → Option Int) : Prop where
 is : ∀ s : List UInt8,s.length ≤ 1099511627776 → ∃ n z e : Int,(∀ σ,Ok σ → semF C f_num_Read [.str s,.int .i64 0] σ = some (.tup [.int .i64 n,.int .i64 z,.int .i64 e],σ)) ∧ N s = if e = 0 ∧ z = s.length then some n else none
structure NumHas (C : Ctx) (N : List UInt8 → Option Int) : Prop extends RdHas C where
 num : NumOf C N
 number : Has C f_script_reader_number K_script_reader_number
 word : Has C f_script_reader_word K_script_reader_word
 done : Has C f_script_reader_done K_script_reader_done
def numR (T : List UInt8) (N : List UInt8 → Option Int) (a : Nat) (n : NS) : RS:=match N (strS T n) with | some _=>n.R | none=>failS n.R 3 a
theorem strS_len (T : List UInt8) (n : NS) : (strS T n).length ≤ T.length:=by unfold strS; simp; omega
theorem number_is {N} (H : NumHas C N) {T : List UInt8} (hT : T.length ≤ 1099511627776) {R : RS} {a b : Nat} (hab : a ≤ b) (hb : b ≤ T.length) {S : St} (hS : Ok S) {r p : Nat} (hr : S[r]? = some (rdO T R)) (hp : S[p]? = some (ptO a b)) (hne : r ≠ p) :
  semF C f_script_reader_number [.ref r 0,.ref p 0] S = some (.int .i64 ((N (strS T (netS T b R a))).getD 0),(S.set r (rdO T (numR T N a (netS T b R a)))).set p (ptO (netS T b R a).a b)):=by
 have hn : hand false [.ref r 0,.ref p 0] S = some ([.ref r 0,.ref p 0],S):=rfl
 have q:=bytes_is H.toRdHas hT hab hb hS hr hp hne
 obtain ⟨n,z,e,q2,q3⟩:=H.num.is (strS T (netS T b R a)) (Nat.le_trans (strS_len _ _) hT)
 unfold numR
 rw [H.number.go hn (by simp [K_script_reader_number])]
 generalize strS T (netS T b R a) = s at *
 generalize netS T b R a = M at *
 obtain ⟨R',a',x,y⟩:=M
 dsimp only at *
 have hr2:=set_old (set_get hr (rdO T R')) hne (ptO a' b)
 have okS : Ok ((S.set r (rdO T R')).set p (ptO a' b)):=(hS.set r (rdO_below _ _)).set p (ptO_below _ _)
 have fl:=fail_is H.fail hr2 3 a
 have e1 : ∀ x,((S.set r (rdO T R')).set p (ptO a' b)).set r x = (S.set r x).set p (ptO a' b):=fun x=>by rw [List.set_comm _ x (fun e=>hne e.symm),List.set_set]
 rw [e1] at fl
 simp only [Int.cast_ofNat_Int] at fl
 have L1 : ((S.set r (rdO T R')).set p (ptO a' b)).length = S.length:=by simp
 have L2 : ((S.set r (rdO T (failS R' 3 a))).set p (ptO a' b)).length = S.length:=by simp
 have t1 : ∀ n : Int,tidy S.length [.int .i64 n] ((S.set r (rdO T R')).set p (ptO a' b)) = ((S.set r (rdO T R')).set p (ptO a' b)):=fun n=>by
  have:=st_tidy0 ((S.set r (rdO T R')).set p (ptO a' b)) [.int .i64 n]
  rwa [L1] at this
 have t2 : ∀ n : Int,tidy S.length [.int .i64 n] ((S.set r (rdO T (failS R' 3 a))).set p (ptO a' b)) = ((S.set r (rdO T (failS R' 3 a))).set p (ptO a' b)):=fun n=>by
  have:=st_tidy0 ((S.set r (rdO T (failS R' 3 a))).set p (ptO a' b)) [.int .i64 n]
  rwa [L2] at this
 have q2:=q2 _ okS
 rw [q3]
 unfold ptO at hp
 cases c : (e != 0)
 ·have c0 : e = 0:=by simpa using c
  cases c2 : (z != (s.length : Int))
  ·have c3 : z = (s.length : Int):=by simpa using c2
   rw [if_pos ⟨c0,c3⟩]
   dsimp only
   generalize (S.set r (rdO T R')).set p (ptO a' b) = S1 at *
   generalize (S.set r (rdO T (failS R' 3 a))).set p (ptO a' b) = S2 at *
   simp only [K_script_reader_number,hp,q,q2,c,c2,t1,Option.getD_some,splice,EVC,EVD,EVB,Nat.reduceEqDiff,eqOp,eqA,eqNil,lenA,asNat,optNat,pt,tupleOf,Nat.reduceSub,Nat.reduceGT,Nat.reduceLT,hand,norms,normVs,normV,freeze,reduceIte,reduceCtorEq,srcCells,slCells,isStr,fillA,rep,asObj,outSl,Nat.reduceMul,Nat.reduceLeDiff,Int.reduceToNat,Int.reduceLE,Int.reduceLT,Int.reduceEq,Nat.reduceAdd,Int.reduceBNe,Int.reduceBEq,Int.reduceNeg]
  ·have c3 : ¬ z = (s.length : Int):=by simpa using c2
   rw [if_neg (fun h=>c3 h.2)]
   dsimp only
   generalize (S.set r (rdO T R')).set p (ptO a' b) = S1 at *
   generalize (S.set r (rdO T (failS R' 3 a))).set p (ptO a' b) = S2 at *
   simp only [K_script_reader_number,hp,q,q2,c,c2,fl,t2,Option.getD_none,splice,EVC,EVD,EVB,Nat.reduceEqDiff,eqOp,eqA,eqNil,lenA,asNat,optNat,pt,tupleOf,Nat.reduceSub,Nat.reduceGT,Nat.reduceLT,hand,norms,normVs,normV,freeze,reduceIte,reduceCtorEq,srcCells,slCells,isStr,fillA,rep,asObj,outSl,Nat.reduceMul,Nat.reduceLeDiff,Int.reduceToNat,Int.reduceLE,Int.reduceLT,Int.reduceEq,Nat.reduceAdd,Int.reduceBNe,Int.reduceBEq,Int.reduceNeg]
 ·have c0 : ¬ e = 0:=by simpa using c
  rw [if_neg (fun h=>c0 h.1)]
  dsimp only
  generalize (S.set r (rdO T R')).set p (ptO a' b) = S1 at *
  generalize (S.set r (rdO T (failS R' 3 a))).set p (ptO a' b) = S2 at *
  simp only [K_script_reader_number,hp,q,q2,c,fl,t2,Option.getD_none,splice,EVC,EVD,EVB,Nat.reduceEqDiff,eqOp,eqA,eqNil,lenA,asNat,optNat,pt,tupleOf,Nat.reduceSub,Nat.reduceGT,Nat.reduceLT,hand,norms,normVs,normV,freeze,reduceIte,reduceCtorEq,srcCells,slCells,isStr,fillA,rep,asObj,outSl,Nat.reduceMul,Nat.reduceLeDiff,Int.reduceToNat,Int.reduceLE,Int.reduceLT,Int.reduceEq,Nat.reduceAdd,Int.reduceBNe,Int.reduceBEq,Int.reduceNeg]
def isWord (s : List UInt8) : Bool:=decide (s = [104,109,97,99]) || decide (s = [116,97,98,108,101])
def wordR (T : List UInt8) (a : Nat) (n : NS) : RS:=if isWord (strS T n) then n.R else failS n.R 3 a
theorem word_is {N} (H : NumHas C N) {T : List UInt8} (hT : T.length ≤ 1099511627776) {R : RS} {a b : Nat} (hab : a ≤ b) (hb : b ≤ T.length) {S : St} (hS : Ok S) {r p : Nat} (hr : S[r]? = some (rdO T R)) (hp : S[p]? = some (ptO a b)) (hne : r ≠ p) :
  semF C f_script_reader_word [.ref r 0,.ref p 0] S = some (.bool (decide (strS T (netS T b R a) = [104,109,97,99])),(S.set r (rdO T (wordR T a (netS T b R a)))).set p (ptO (netS T b R a).a b)):=by
 have hn : hand false [.ref r 0,.ref p 0] S = some ([.ref r 0,.ref p 0],S):=rfl
 have q:=bytes_is H.toRdHas hT hab hb hS hr hp hne
 unfold wordR isWord
 rw [H.word.go hn (by simp [K_script_reader_word])]
 generalize strS T (netS T b R a) = s at *
 generalize netS T b R a = M at *
 obtain ⟨R',a',x,y⟩:=M
 dsimp only at *
 have hr2:=set_old (set_get hr (rdO T R')) hne (ptO a' b)
 have fl:=fail_is H.fail hr2 3 a
 have e1 : ∀ x,((S.set r (rdO T R')).set p (ptO a' b)).set r x = (S.set r x).set p (ptO a' b):=fun x=>by rw [List.set_comm _ x (fun e=>hne e.symm),List.set_set]
 rw [e1] at fl
 simp only [Int.cast_ofNat_Int] at fl
 have L1 : ((S.set r (rdO T R')).set p (ptO a' b)).length = S.length:=by simp
 have L2 : ((S.set r (rdO T (failS R' 3 a))).set p (ptO a' b)).length = S.length:=by simp
 have t1 : ∀ n : Bool,tidy S.length [.bool n] ((S.set r (rdO T R')).set p (ptO a' b)) = ((S.set r (rdO T R')).set p (ptO a' b)):=fun n=>by
  have:=st_tidy0 ((S.set r (rdO T R')).set p (ptO a' b)) [.bool n]
  rwa [L1] at this
 have t2 : ∀ n : Bool,tidy S.length [.bool n] ((S.set r (rdO T (failS R' 3 a))).set p (ptO a' b)) = ((S.set r (rdO T (failS R' 3 a))).set p (ptO a' b)):=fun n=>by
  have:=st_tidy0 ((S.set r (rdO T (failS R' 3 a))).set p (ptO a' b)) [.bool n]
  rwa [L2] at this
 unfold ptO at hp
 cases c : decide (s = [104,109,97,99])
 ·cases c2 : decide (s = [116,97,98,108,101])
  ·simp only [Bool.or_false,Bool.false_eq_true,if_false]
   generalize (S.set r (rdO T R')).set p (ptO a' b) = S1 at *
   generalize (S.set r (rdO T (failS R' 3 a))).set p (ptO a' b) = S2 at *
   simp only [K_script_reader_word,hp,q,c,c2,fl,t2,Bool.or_false,Bool.false_or,Bool.false_eq_true,if_false,splice,EVC,EVD,EVB,Nat.reduceEqDiff,eqOp,eqA,eqNil,lenA,asNat,optNat,pt,tupleOf,Nat.reduceSub,Nat.reduceGT,Nat.reduceLT,hand,norms,normVs,normV,freeze,reduceIte,reduceCtorEq,srcCells,slCells,isStr,fillA,rep,asObj,outSl,Nat.reduceMul,Nat.reduceLeDiff,Int.reduceToNat,Int.reduceLE,Int.reduceLT,Int.reduceEq,Nat.reduceAdd,Int.reduceBNe,Int.reduceBEq,Int.reduceNeg]
  ·simp only [Bool.or_true,if_true]
   generalize (S.set r (rdO T R')).set p (ptO a' b) = S1 at *
   generalize (S.set r (rdO T (failS R' 3 a))).set p (ptO a' b) = S2 at *
   simp only [K_script_reader_word,hp,q,c,c2,t1,Bool.or_true,if_true,splice,EVC,EVD,EVB,Nat.reduceEqDiff,eqOp,eqA,eqNil,lenA,asNat,optNat,pt,tupleOf,Nat.reduceSub,Nat.reduceGT,Nat.reduceLT,hand,norms,normVs,normV,freeze,reduceIte,reduceCtorEq,srcCells,slCells,isStr,fillA,rep,asObj,outSl,Nat.reduceMul,Nat.reduceLeDiff,Int.reduceToNat,Int.reduceLE,Int.reduceLT,Int.reduceEq,Nat.reduceAdd,Int.reduceBNe,Int.reduceBEq,Int.reduceNeg]
 ·simp only [Bool.true_or,if_true]
  generalize (S.set r (rdO T R')).set p (ptO a' b) = S1 at *
  generalize (S.set r (rdO T (failS R' 3 a))).set p (ptO a' b) = S2 at *
  simp only [K_script_reader_word,hp,q,c,t1,Bool.true_or,if_true,splice,EVC,EVD,EVB,Nat.reduceEqDiff,eqOp,eqA,eqNil,lenA,asNat,optNat,pt,tupleOf,Nat.reduceSub,Nat.reduceGT,Nat.reduceLT,hand,norms,normVs,normV,freeze,reduceIte,reduceCtorEq,srcCells,slCells,isStr,fillA,rep,asObj,outSl,Nat.reduceMul,Nat.reduceLeDiff,Int.reduceToNat,Int.reduceLE,Int.reduceLT,Int.reduceEq,Nat.reduceAdd,Int.reduceBNe,Int.reduceBEq,Int.reduceNeg]
def doneR (b : Nat) (R : RS) (a : Nat) : RS:=if a < b then failS R 11 a else R
theorem done_is {N} (H : NumHas C N) {T : List UInt8} {R : RS} {a b : Nat} {S : St} {r p : Nat} (hr : S[r]? = some (rdO T R)) (hp : S[p]? = some (ptO a b)) :
  semF C f_script_reader_done [.ref r 0,.ref p 0] S = some (.tup [],S.set r (rdO T (doneR b R a))):=by
 have hn : hand false [.ref r 0,.ref p 0] S = some ([.ref r 0,.ref p 0],S):=rfl
 have q:=left_is H.left hp
 have fl:=fail_is H.fail hr 11 a
 simp only [Int.cast_ofNat_Int] at fl
 have ty0 : ∀ (x : AO),tidy S.length [] (S.set r x) = S.set r x:=fun x=>by
  have:=st_tidy0 (S.set r x) []
  rwa [List.length_set] at this
 have self:=set_self hr
 unfold doneR
 rw [H.done.go hn (by simp [K_script_reader_done])]
 unfold ptO at hp
 by_cases c : a < b
 ·have c' : ((a : Int) < (b : Int)):=by omega
  have d : decide (a < b) = true:=by simpa using c
  rw [if_pos c]
  simp only [K_script_reader_done,hp,q,c,d,fl,ty0,splice,EVC,EVD,EVB,Nat.reduceEqDiff,eqOp,eqA,eqNil,lenA,asNat,optNat,pt,tupleOf,Nat.reduceSub,Nat.reduceGT,Nat.reduceLT,hand,norms,normVs,normV,freeze,reduceIte,reduceCtorEq,srcCells,slCells,isStr,fillA,rep,asObj,outSl,Nat.reduceMul,Nat.reduceLeDiff,Int.reduceToNat,Int.reduceLE,Int.reduceLT,Int.reduceEq,Nat.reduceAdd,Int.reduceBNe,Int.reduceBEq,Int.reduceNeg]
 ·have d : decide (a < b) = false:=by simpa using c
  rw [if_neg c,self]
  simp only [K_script_reader_done,hp,q,c,d,splice,EVC,EVD,EVB,Nat.reduceEqDiff,eqOp,eqA,eqNil,lenA,asNat,optNat,pt,tupleOf,Nat.reduceSub,Nat.reduceGT,Nat.reduceLT,hand,norms,normVs,normV,freeze,reduceIte,reduceCtorEq,srcCells,slCells,isStr,fillA,rep,asObj,outSl,Nat.reduceMul,Nat.reduceLeDiff,Int.reduceToNat,Int.reduceLE,Int.reduceLT,Int.reduceEq,Nat.reduceAdd,Int.reduceBNe,Int.reduceBEq,Int.reduceNeg]
end Go.Ev
namespace Go.Ev
set_option maxRecDepth 100000
set_option linter.unusedSimpArgs false
set_option linter.unusedVariables false
variable {C : Ctx} {N : List UInt8 → Option Int}
theorem bytes_in (H : NumHas C N) {T : List UInt8} (hT : T.length ≤ 1099511627776) {R : RS} {a b : Nat} (hab : a ≤ b) (hb : b ≤ T.length) {A : St} {n : Nat} (hn : A.length = n) (hA : Ok A) {r : Nat} (hr : A[r]? = some (rdO T R)) {z : AO} (hz : z.below 0 = true) :
  semF C f_script_reader_bytes [.ref r 0,.ref (n + 1) 0] (A ++ [z,ptO a b]) = some (.str (strS T (netS T b R a)),A.set r (rdO T (netS T b R a).R) ++ [z,ptO (netS T b R a).a b]):=by
 have hlt:=(List.getElem?_eq_some_iff.mp hr).1
 have q:=bytes_is H.toRdHas hT hab hb (hA.plus (L:=[z,ptO a b]) (by simp [hz]; rfl)) (sy_old hr _) (sy_get hn [z,ptO a b] 1) (by omega)
 rw [q,sy_put hr,sy_set (by simpa using hn)]
 rfl
theorem number_in (H : NumHas C N) {T : List UInt8} (hT : T.length ≤ 1099511627776) {R : RS} {a b : Nat} (hab : a ≤ b) (hb : b ≤ T.length) {A : St} {n : Nat} (hn : A.length = n) (hA : Ok A) {r : Nat} (hr : A[r]? = some (rdO T R)) {z : AO} (hz : z.below 0 = true) :
  semF C f_script_reader_number [.ref r 0,.ref (n + 1) 0] (A ++ [z,ptO a b]) = some (.int .i64 ((N (strS T (netS T b R a))).getD 0),A.set r (rdO T (numR T N a (netS T b R a))) ++ [z,ptO (netS T b R a).a b]):=by
 have hlt:=(List.getElem?_eq_some_iff.mp hr).1
 have q:=number_is H hT hab hb (hA.plus (L:=[z,ptO a b]) (by simp [hz]; rfl)) (sy_old hr _) (sy_get hn [z,ptO a b] 1) (by omega)
 rw [q,sy_put hr,sy_set (by simpa using hn)]
 rfl
theorem net_in (H : NumHas C N) {T : List UInt8} (hT : T.length ≤ 1099511627776) {R : RS} {a b : Nat} (hab : a ≤ b) (hb : b ≤ T.length) {S : St} (hS : Ok S) {r p : Nat} (hr : S[r]? = some (rdO T R)) (hp : S[p]? = some (ptO a b)) (hne : r ≠ p) {L : St} (hL : L.all (AO.below 0) = true) :
  semF C f_script_reader_net [.ref r 0,.ref p 0] (S ++ L) = some (.agg [.int .i64 (netS T b R a).x,.int .i64 (netS T b R a).y],(S.set r (rdO T (netS T b R a).R)).set p (ptO (netS T b R a).a b) ++ L):=by
 rw [net_is H.toRdHas hT hab hb (hS.plus hL) (sy_old hr _) (sy_old hp _) hne,sy_put hr,sy_put (set_old hp (fun h=>hne h.symm) _)]
theorem done_in (H : NumHas C N) {T : List UInt8} {R : RS} {a b : Nat} {A : St} {n : Nat} (hn : A.length = n) {r : Nat} (hr : A[r]? = some (rdO T R)) {z : AO} {L : St} :
  semF C f_script_reader_done [.ref r 0,.ref (n + 1) 0] (A ++ z :: ptO a b :: L) = some (.tup [],A.set r (rdO T (doneR b R a)) ++ z :: ptO a b :: L):=by
 rw [done_is H (sy_old hr _) (sy_get hn _ 1),sy_put hr]
structure ItHas (C : Ctx) (N : List UInt8 → Option Int) : Prop extends NumHas C N where
 verdict : Has C f_script_reader_verdict K_script_reader_verdict
 file : Has C f_script_reader_file K_script_reader_file
 bounds : Has C f_script_reader_bounds K_script_reader_bounds
def fileS (T : List UInt8) (b : Nat) (R : RS) (a : Nat) : RS × Nat:=
 let n:=netS T b R a
 let n1:=netS T n.y n.R n.x
 let n2:=netS T n.y n1.R n1.a
 (doneR n.y n2.R n2.a,n.a)
def verdS (T : List UInt8) (b : Nat) (R : RS) (a : Nat) : RS × Nat:=
 let n:=netS T b R a
 let n1:=netS T n.y n.R n.x
 let n2:=netS T n.y n1.R n1.a
 let n3:=netS T n.y n2.R n2.a
 (doneR n.y n3.R n3.a,n.a)
def boundS (T : List UInt8) (N : List UInt8 → Option Int) (b : Nat) (R : RS) (a : Nat) : RS × Nat:=
 let n:=netS T b R a
 let n1:=netS T n.y n.R n.x
 let R1:=numR T N n.x n1
 let n2:=netS T n.y R1 n1.a
 let R2:=numR T N n1.a n2
 let n3:=netS T n.y R2 n2.a
 let R3:=numR T N n2.a n3
 let n4:=netS T n.y R3 n3.a
 let R4:=numR T N n3.a n4
 (doneR n.y R4 n4.a,n.a)
abbrev upd (S : St) (r p : Nat) (T : List UInt8) (b : Nat) (x : RS × Nat) : St:=(S.set r (rdO T x.1)).set p (ptO x.2 b)
theorem upd_r (S : St) {r p : Nat} (hne : r ≠ p) (x y z : AO) : ((S.set r x).set p y).set r z = (S.set r z).set p y:=by rw [List.set_comm _ z (fun e=>hne e.symm),List.set_set]
theorem file_is (H : ItHas C N) {T : List UInt8} (hT : T.length ≤ 1099511627776) {R : RS} {a b : Nat} (hab : a ≤ b) (hb : b ≤ T.length) {S : St} (hS : Ok S) {r p : Nat} (hr : S[r]? = some (rdO T R)) (hp : S[p]? = some (ptO a b)) (hne : r ≠ p) :
  ∃ s t : List UInt8,semF C f_script_reader_file [.ref r 0,.ref p 0] S = some (.agg [.str s,.str t],upd S r p T b (fileS T b R a)):=by
 have hn : hand false [.ref r 0,.ref p 0] S = some ([.ref r 0,.ref p 0],S):=rfl
 have q0:=net_in H.toNumHas hT hab hb hS hr hp hne (L:=[.cells [.str [],.str []] ⟨false,none⟩]) rfl
 obtain ⟨l1,l2,l3,l4,l5⟩:=netS_le T a b R hab hb
 unfold fileS
 dsimp only
 generalize netS T b R a = n at *
 have r1:=set_old (set_get hr (rdO T n.R)) hne (ptO n.a b)
 have ok1 : Ok ((S.set r (rdO T n.R)).set p (ptO n.a b)):=(hS.set r (rdO_below _ _)).set p (ptO_below _ _)
 have L1 : ((S.set r (rdO T n.R)).set p (ptO n.a b)).length = S.length:=by simp
 have q1:=bytes_in H.toNumHas hT l1 (Nat.le_trans l2 hb) L1 ok1 r1 (z:=.cells [.str [],.str []] ⟨false,none⟩) rfl
 obtain ⟨m1,m2,m3,m4,m5⟩:=netS_le T n.x n.y n.R l1 (by omega)
 generalize netS T n.y n.R n.x = n1 at *
 have r2:=set_get r1 (rdO T n1.R)
 have ok2:=ok1.set r (rdO_below T n1.R)
 rw [upd_r S hne] at q1 r2 ok2
 have q2:=bytes_in H.toNumHas hT m3 (by omega) (n:=S.length) (by simp) ok2 r2 (z:=.cells [.str [],.str []] ⟨false,none⟩) rfl
 generalize netS T n.y n1.R n1.a = n2 at *
 have r3:=set_get r2 (rdO T n2.R)
 rw [upd_r S hne] at q2 r3
 refine ⟨strS T n1,strS T n2,?_⟩
 have q3:=fun L=>done_in (C:=C) H.toNumHas (n:=S.length) (by simp) r3 (a:=n2.a) (b:=n.y) (z:=.cells [.str [],.str []] ⟨false,none⟩) (L:=L)
 rw [upd_r S hne] at q3
 have ok4 : Ok ((S.set r (rdO T (doneR n.y n2.R n2.a))).set p (ptO n.a b)):=(hS.set r (rdO_below _ _)).set p (ptO_below _ _)
 have t4 : ∀ (u v : List UInt8) (L : St),tidy S.length [.agg [.str u,.str v]] ((S.set r (rdO T (doneR n.y n2.R n2.a))).set p (ptO n.a b) ++ L) = (S.set r (rdO T (doneR n.y n2.R n2.a))).set p (ptO n.a b):=fun u v L=>by
  have:=st_tidy ok4 (vs:=[.agg [.str u,.str v]]) rfl L
  rwa [show ((S.set r (rdO T (doneR n.y n2.R n2.a))).set p (ptO n.a b)).length = S.length by simp] at this
 have g : ∀ x y L,((S.set r x).set p y ++ L)[S.length]? = L[0]?:= fun x y L=>sy_get0 (by simp) L
 have g' : ∀ x y L k,((S.set r x).set p y ++ L)[S.length + k]? = L[k]?:= fun x y L k=>sy_get (by simp) L k
 have w : ∀ x y L z,((S.set r x).set p y ++ L).set S.length z = (S.set r x).set p y ++ L.set 0 z:=fun x y L z=>sy_set0 (by simp) L z
 have w' : ∀ x y L z k,((S.set r x).set p y ++ L).set (S.length + k) z = (S.set r x).set p y ++ L.set k z:=fun x y L z k=>sy_set (by simp) L k z
 rw [H.file.go hn (by simp [K_script_reader_file])]
 unfold upd
 dsimp only
 have pz : ptO n.x n.y = .cells [.int .i64 n.x,.int .i64 n.y] ⟨false,none⟩:=rfl
 rw [pz] at q1
 have pz2 : ptO n2.a n.y = .cells [.int .i64 n2.a,.int .i64 n.y] ⟨false,none⟩:=rfl
 rw [pz2] at q2 q3
 simp only [List.length_set] at *
 simp only [K_script_reader_file,q0,q1,q2,q3,g,g',w,w',t4,splice,resL,nv_agg,AV.cells,AV.flat,List.length_set,EVC,EVD,EVB,Nat.reduceEqDiff,eqOp,eqA,eqNil,lenA,asNat,optNat,pt,tupleOf,Nat.reduceSub,Nat.reduceGT,Nat.reduceLT,hand,norms,normVs,normV,freeze,reduceIte,reduceCtorEq,srcCells,slCells,isStr,fillA,rep,asObj,outSl,Nat.reduceMul,Nat.reduceLeDiff,Int.reduceToNat,Int.reduceLE,Int.reduceLT,Int.reduceEq,Nat.reduceAdd,Int.reduceBNe,Int.reduceBEq,Int.reduceNeg]
end Go.Ev
namespace Go.Ev
set_option maxRecDepth 100000
set_option linter.unusedSimpArgs false
set_option linter.unusedVariables false
variable {C : Ctx} {N : List UInt8 → Option Int}
theorem verd_is (H : ItHas C N) {T : List UInt8} (hT : T.length ≤ 1099511627776) {R : RS} {a b : Nat} (hab : a ≤ b) (hb : b ≤ T.length) {S : St} (hS : Ok S) {r p : Nat} (hr : S[r]? = some (rdO T R)) (hp : S[p]? = some (ptO a b)) (hne : r ≠ p) :
  ∃ s t u : List UInt8,semF C f_script_reader_verdict [.ref r 0,.ref p 0] S = some (.agg [.str s,.str t,.str u],upd S r p T b (verdS T b R a)):=by
 have hn : hand false [.ref r 0,.ref p 0] S = some ([.ref r 0,.ref p 0],S):=rfl
 have q0:=net_in H.toNumHas hT hab hb hS hr hp hne (L:=[.cells [.str [],.str [],.str []] ⟨false,none⟩]) rfl
 obtain ⟨l1,l2,l3,l4,l5⟩:=netS_le T a b R hab hb
 unfold verdS
 dsimp only
 generalize netS T b R a = n at *
 have r1:=set_old (set_get hr (rdO T n.R)) hne (ptO n.a b)
 have ok1 : Ok ((S.set r (rdO T n.R)).set p (ptO n.a b)):=(hS.set r (rdO_below _ _)).set p (ptO_below _ _)
 have L1 : ((S.set r (rdO T n.R)).set p (ptO n.a b)).length = S.length:=by simp
 have q1:=bytes_in H.toNumHas hT l1 (Nat.le_trans l2 hb) L1 ok1 r1 (z:=.cells [.str [],.str [],.str []] ⟨false,none⟩) rfl
 obtain ⟨m1,m2,m3,m4,m5⟩:=netS_le T n.x n.y n.R l1 (by omega)
 generalize netS T n.y n.R n.x = n1 at *
 have r2:=set_get r1 (rdO T n1.R)
 have ok2:=ok1.set r (rdO_below T n1.R)
 rw [upd_r S hne] at q1 r2 ok2
 have q2:=bytes_in H.toNumHas hT m3 (by omega) (n:=S.length) (by simp) ok2 r2 (z:=.cells [.str [],.str [],.str []] ⟨false,none⟩) rfl
 obtain ⟨o1,o2,o3,o4,o5⟩:=netS_le T n1.a n.y n1.R m3 (by omega)
 generalize netS T n.y n1.R n1.a = n2 at *
 have r3:=set_get r2 (rdO T n2.R)
 have ok3:=ok2.set r (rdO_below T n2.R)
 rw [upd_r S hne] at q2 r3 ok3
 have q3:=bytes_in H.toNumHas hT o3 (by omega) (n:=S.length) (by simp) ok3 r3 (z:=.cells [.str [],.str [],.str []] ⟨false,none⟩) rfl
 generalize netS T n.y n2.R n2.a = n3 at *
 have r4:=set_get r3 (rdO T n3.R)
 rw [upd_r S hne] at q3 r4
 refine ⟨strS T n1,strS T n2,strS T n3,?_⟩
 have q4:=fun L=>done_in (C:=C) H.toNumHas (n:=S.length) (by simp) r4 (a:=n3.a) (b:=n.y) (z:=.cells [.str [],.str [],.str []] ⟨false,none⟩) (L:=L)
 rw [upd_r S hne] at q4
 have ok4 : Ok ((S.set r (rdO T (doneR n.y n3.R n3.a))).set p (ptO n.a b)):=(hS.set r (rdO_below _ _)).set p (ptO_below _ _)
 have t4 : ∀ (u v w : List UInt8) (L : St),tidy S.length [.agg [.str u,.str v,.str w]] ((S.set r (rdO T (doneR n.y n3.R n3.a))).set p (ptO n.a b) ++ L) = (S.set r (rdO T (doneR n.y n3.R n3.a))).set p (ptO n.a b):=fun u v w L=>by
  have:=st_tidy ok4 (vs:=[.agg [.str u,.str v,.str w]]) rfl L
  rwa [show ((S.set r (rdO T (doneR n.y n3.R n3.a))).set p (ptO n.a b)).length = S.length by simp] at this
 have g : ∀ x y L,((S.set r x).set p y ++ L)[S.length]? = L[0]?:= fun x y L=>sy_get0 (by simp) L
 have g' : ∀ x y L k,((S.set r x).set p y ++ L)[S.length + k]? = L[k]?:= fun x y L k=>sy_get (by simp) L k
 have w : ∀ x y L z,((S.set r x).set p y ++ L).set S.length z = (S.set r x).set p y ++ L.set 0 z:=fun x y L z=>sy_set0 (by simp) L z
 have w' : ∀ x y L z k,((S.set r x).set p y ++ L).set (S.length + k) z = (S.set r x).set p y ++ L.set k z:=fun x y L z k=>sy_set (by simp) L k z
 rw [H.verdict.go hn (by simp [K_script_reader_verdict])]
 unfold upd
 dsimp only
 have pz : ptO n.x n.y = .cells [.int .i64 n.x,.int .i64 n.y] ⟨false,none⟩:=rfl
 rw [pz] at q1
 have pz2 : ptO n3.a n.y = .cells [.int .i64 n3.a,.int .i64 n.y] ⟨false,none⟩:=rfl
 rw [pz2] at q3 q4
 simp only [List.length_set] at *
 simp only [K_script_reader_verdict,q0,q1,q2,q3,q4,g,g',w,w',t4,splice,resL,nv_agg,AV.cells,AV.flat,List.length_set,EVC,EVD,EVB,Nat.reduceEqDiff,eqOp,eqA,eqNil,lenA,asNat,optNat,pt,tupleOf,Nat.reduceSub,Nat.reduceGT,Nat.reduceLT,hand,norms,normVs,normV,freeze,reduceIte,reduceCtorEq,srcCells,slCells,isStr,fillA,rep,asObj,outSl,Nat.reduceMul,Nat.reduceLeDiff,Int.reduceToNat,Int.reduceLE,Int.reduceLT,Int.reduceEq,Nat.reduceAdd,Int.reduceBNe,Int.reduceBEq,Int.reduceNeg]
theorem rdBounds_is (H : ItHas C N) {T : List UInt8} (hT : T.length ≤ 1099511627776) {R : RS} {a b : Nat} (hab : a ≤ b) (hb : b ≤ T.length) {S : St} (hS : Ok S) {r p : Nat} (hr : S[r]? = some (rdO T R)) (hp : S[p]? = some (ptO a b)) (hne : r ≠ p) :
  ∃ s t u v : Int,semF C f_script_reader_bounds [.ref r 0,.ref p 0] S = some (.agg [.int .i64 s,.int .i64 t,.int .i64 u,.int .i64 v],upd S r p T b (boundS T N b R a)):=by
 have hn : hand false [.ref r 0,.ref p 0] S = some ([.ref r 0,.ref p 0],S):=rfl
 have q0:=net_in H.toNumHas hT hab hb hS hr hp hne (L:=[.cells [.int .i64 0,.int .i64 0,.int .i64 0,.int .i64 0] ⟨false,none⟩]) rfl
 obtain ⟨l1,l2,l3,l4,l5⟩:=netS_le T a b R hab hb
 unfold boundS
 dsimp only
 generalize netS T b R a = n at *
 have r1:=set_old (set_get hr (rdO T n.R)) hne (ptO n.a b)
 have ok1 : Ok ((S.set r (rdO T n.R)).set p (ptO n.a b)):=(hS.set r (rdO_below _ _)).set p (ptO_below _ _)
 have L1 : ((S.set r (rdO T n.R)).set p (ptO n.a b)).length = S.length:=by simp
 have q1:=number_in H.toNumHas hT l1 (Nat.le_trans l2 hb) L1 ok1 r1 (z:=.cells [.int .i64 0,.int .i64 0,.int .i64 0,.int .i64 0] ⟨false,none⟩) rfl
 obtain ⟨m1,m2,m3,m4,m5⟩:=netS_le T n.x n.y n.R l1 (by omega)
 generalize netS T n.y n.R n.x = n1 at *
 generalize numR T N n.x n1 = R1 at *
 have r2:=set_get r1 (rdO T R1)
 have ok2:=ok1.set r (rdO_below T R1)
 rw [upd_r S hne] at q1 r2 ok2
 have q2:=number_in H.toNumHas hT m3 (by omega) (n:=S.length) (by simp) ok2 r2 (z:=.cells [.int .i64 0,.int .i64 0,.int .i64 0,.int .i64 0] ⟨false,none⟩) rfl
 obtain ⟨o1,o2,o3,o4,o5⟩:=netS_le T n1.a n.y R1 m3 (by omega)
 generalize netS T n.y R1 n1.a = n2 at *
 generalize numR T N n1.a n2 = R2 at *
 have r3:=set_get r2 (rdO T R2)
 have ok3:=ok2.set r (rdO_below T R2)
 rw [upd_r S hne] at q2 r3 ok3
 have q3:=number_in H.toNumHas hT o3 (by omega) (n:=S.length) (by simp) ok3 r3 (z:=.cells [.int .i64 0,.int .i64 0,.int .i64 0,.int .i64 0] ⟨false,none⟩) rfl
 obtain ⟨u1,u2,u3,u4,u5⟩:=netS_le T n2.a n.y R2 o3 (by omega)
 generalize netS T n.y R2 n2.a = n3 at *
 generalize numR T N n2.a n3 = R3 at *
 have r4:=set_get r3 (rdO T R3)
 have ok4:=ok3.set r (rdO_below T R3)
 rw [upd_r S hne] at q3 r4 ok4
 have q4:=number_in H.toNumHas hT u3 (by omega) (n:=S.length) (by simp) ok4 r4 (z:=.cells [.int .i64 0,.int .i64 0,.int .i64 0,.int .i64 0] ⟨false,none⟩) rfl
 generalize netS T n.y R3 n3.a = n4 at *
 generalize numR T N n3.a n4 = R4 at *
 have r5:=set_get r4 (rdO T R4)
 rw [upd_r S hne] at q4 r5
 refine ⟨(N (strS T n1)).getD 0,(N (strS T n2)).getD 0,(N (strS T n3)).getD 0,(N (strS T n4)).getD 0,?_⟩
 have q5:=fun L=>done_in (C:=C) H.toNumHas (n:=S.length) (by simp) r5 (a:=n4.a) (b:=n.y) (z:=.cells [.int .i64 0,.int .i64 0,.int .i64 0,.int .i64 0] ⟨false,none⟩) (L:=L)
 rw [upd_r S hne] at q5
 have ok5 : Ok ((S.set r (rdO T (doneR n.y R4 n4.a))).set p (ptO n.a b)):=(hS.set r (rdO_below _ _)).set p (ptO_below _ _)
 have t4 : ∀ (u v w z : Int) (L : St),tidy S.length [.agg [.int .i64 u,.int .i64 v,.int .i64 w,.int .i64 z]] ((S.set r (rdO T (doneR n.y R4 n4.a))).set p (ptO n.a b) ++ L) = (S.set r (rdO T (doneR n.y R4 n4.a))).set p (ptO n.a b):=fun u v w z L=>by
  have:=st_tidy ok5 (vs:=[.agg [.int .i64 u,.int .i64 v,.int .i64 w,.int .i64 z]]) rfl L
  rwa [show ((S.set r (rdO T (doneR n.y R4 n4.a))).set p (ptO n.a b)).length = S.length by simp] at this
 have g : ∀ x y L,((S.set r x).set p y ++ L)[S.length]? = L[0]?:= fun x y L=>sy_get0 (by simp) L
 have g' : ∀ x y L k,((S.set r x).set p y ++ L)[S.length + k]? = L[k]?:= fun x y L k=>sy_get (by simp) L k
 have w : ∀ x y L z,((S.set r x).set p y ++ L).set S.length z = (S.set r x).set p y ++ L.set 0 z:=fun x y L z=>sy_set0 (by simp) L z
 have w' : ∀ x y L z k,((S.set r x).set p y ++ L).set (S.length + k) z = (S.set r x).set p y ++ L.set k z:=fun x y L z k=>sy_set (by simp) L k z
 rw [H.bounds.go hn (by simp [K_script_reader_bounds])]
 unfold upd
 dsimp only
 have pz : ptO n.x n.y = .cells [.int .i64 n.x,.int .i64 n.y] ⟨false,none⟩:=rfl
 rw [pz] at q1
 have pz2 : ptO n4.a n.y = .cells [.int .i64 n4.a,.int .i64 n.y] ⟨false,none⟩:=rfl
 rw [pz2] at q4 q5
 simp only [List.length_set] at *
 simp only [K_script_reader_bounds,q0,q1,q2,q3,q4,q5,g,g',w,w',t4,splice,resL,nv_agg,AV.cells,AV.flat,List.length_set,EVC,EVD,EVB,Nat.reduceEqDiff,eqOp,eqA,eqNil,lenA,asNat,optNat,pt,tupleOf,Nat.reduceSub,Nat.reduceGT,Nat.reduceLT,hand,norms,normVs,normV,freeze,reduceIte,reduceCtorEq,srcCells,slCells,isStr,fillA,rep,asObj,outSl,Nat.reduceMul,Nat.reduceLeDiff,Int.reduceToNat,Int.reduceLE,Int.reduceLT,Int.reduceEq,Nat.reduceAdd,Int.reduceBNe,Int.reduceBEq,Int.reduceNeg]
end Go.Ev
namespace Go.Ev
set_option maxRecDepth 100000
set_option linter.unusedSimpArgs false
set_option linter.unusedVariables false
variable {C : Ctx} {N : List UInt8 → Option Int}
def SlOf (S : St) (base : Nat) (x : AV) (sz n : Nat) : Prop:=(x = .nils ∧ n = 0) ∨ ∃ q l,x = .msl q 0 n sz ∧ base ≤ q ∧ S[q]? = some (.cells l ⟨false,none⟩) ∧ l.length = n * sz ∧ NVs l ∧ 0 < n
structure AI (S0 : St) (r l so rv k sz : Nat) (T : List UInt8) (b : Nat) (oc : List AV) (R : RS) (pos : Nat) (x : AV) (n : Nat) (S : St) : Prop where
 ok : Ok S
 hr : S[r]? = some (rdO T R)
 hl : S[l]? = some (ptO pos b)
 hv : S[rv]? = some (.cells [.ref r 0] ⟨false,none⟩)
 ho : S[so]? = some (.cells (oc.set k x) ⟨false,none⟩)
 sl : SlOf S S0.length x sz n
 len : S0.length ≤ S.length
 fr : ∀ i,i < S0.length → i ≠ r → i ≠ l → i ≠ so → S[i]? = S0[i]?
structure AD (S0 : St) (r l so rv : Nat) : Prop where
 rl : r ≠ l
 rs : r ≠ so
 rvn : r ≠ rv
 ls : l ≠ so
 lv : l ≠ rv
 sv : so ≠ rv
 r1 : r < S0.length
 l1 : l < S0.length
 s1 : so < S0.length
 v1 : rv < S0.length
theorem tidy_all {S : St} {n i : Nat} {y : AO} (h : S[i]? = some y) (hi : i < n) (hy : y.below n = false) (vs : List AV) : tidy n vs S = S:=by
 unfold tidy
 split
 ·rfl
 ·have : (S.take n).all (AO.below n) = false:=by
   cases hb : (S.take n).all (AO.below n) with
   | false=>rfl
   | true=>
     rw [List.all_eq_true] at hb
     have : y ∈ S.take n:=by
      rw [List.mem_iff_getElem?]
      exact ⟨i,by rw [List.getElem?_take,if_pos hi]; exact h⟩
     rw [hb y this] at hy
     cases hy
  rw [this,Bool.and_false]
  rfl
theorem belows_app : ∀ (n : Nat) (l m : List AV),belows n (l ++ m) = (belows n l && belows n m)
 | n,[],m=>by simp [belows]
 | n,a :: l,m=>by
   rw [List.cons_append,belows,belows,belows_app n l m,Bool.and_assoc]
theorem belows_set : ∀ (n : Nat) (l : List AV) (k : Nat) (x : AV),belows n l = true → below n x = true → belows n (l.set k x) = true
 | n,[],k,x,h,hx=>by simpa using h
 | n,a :: l,0,x,h,hx=>by
   rw [belows,Bool.and_eq_true] at h
   rw [List.set_cons_zero,belows,hx,h.2]; rfl
 | n,a :: l,k + 1,x,h,hx=>by
   rw [belows,Bool.and_eq_true] at h
   rw [List.set_cons_succ,belows,h.1,belows_set n l k x h.2 hx]; rfl
theorem belows_set_out : ∀ (n : Nat) (l : List AV) (k : Nat) (x : AV),k < l.length → below n x = false → belows n (l.set k x) = false
 | n,[],k,x,h,hx=>by simp at h
 | n,a :: l,0,x,h,hx=>by
   rw [List.set_cons_zero,belows,hx]; rfl
 | n,a :: l,k + 1,x,h,hx=>by
   rw [List.set_cons_succ,belows,belows_set_out n l k x (by simpa using h) hx,Bool.and_false]
theorem AI_step {S0 : St} {r l so rv k sz bytes : Nat} {T : List UInt8} {b : Nat} {oc : List AV} {R : RS} {pos : Nat} {x : AV} {n : Nat} {S : St} (D : AD S0 r l so rv) (h : AI S0 r l so rv k sz T b oc R pos x n S) (hoc : belows S0.length oc = true) (hk : k < oc.length) (R' : RS) (pos' : Nat) (G : St) (hG : G.all (AO.below 0) = true) (cs : List AV) (hcs : cs.length = sz) (hns : NVs cs) (hn : n ≤ 1099511627776) (hby : bytes ≤ 60) :
  ∃ S2,appA (upd S r l T b (R',pos') ++ G) sz bytes none x 1 cs = some (.msl (S.length + G.length) 0 (n + 1) sz,S2) ∧ S2[so]? = some (.cells (oc.set k x) ⟨false,none⟩) ∧ AI S0 r l so rv k sz T b oc R' pos' (.msl (S.length + G.length) 0 (n + 1) sz) (n + 1) (S2.set so (.cells (oc.set k (.msl (S.length + G.length) 0 (n + 1) sz)) ⟨false,none⟩)) ∧ (∀ vs,tidy S.length vs (S2.set so (.cells (oc.set k (.msl (S.length + G.length) 0 (n + 1) sz)) ⟨false,none⟩)) = S2.set so (.cells (oc.set k (.msl (S.length + G.length) 0 (n + 1) sz)) ⟨false,none⟩)):=by
 obtain ⟨ok,hr,hl,hv,ho,sl,len,fr⟩:=h
 obtain ⟨rl,rs,rv',ls,lv,sv,r1,l1,s1,v1⟩:=D
 have Lu : (upd S r l T b (R',pos') ++ G).length = S.length + G.length:=by simp [upd]
 have okU : Ok (upd S r l T b (R',pos') ++ G):=((ok.set r (rdO_below _ _)).set l (ptO_below _ _)).plus hG
 have ur : (upd S r l T b (R',pos') ++ G)[r]? = some (rdO T R'):=sy_old (set_old (set_get hr _) rl _) _
 have ul : (upd S r l T b (R',pos') ++ G)[l]? = some (ptO pos' b):=sy_old (set_get (set_old hl (fun e=>rl e.symm) _) _) _
 have uo : ∀ i y,i < S.length → i ≠ r → i ≠ l → S[i]? = y → (upd S r l T b (R',pos') ++ G)[i]? = y:=fun i y h0 h1 h2 h3=>by
  rw [List.getElem?_append_left (by simpa [upd] using h0)]
  show ((S.set r _).set l _)[i]? = y
  rw [List.getElem?_set_ne (fun e=>h2 e.symm),List.getElem?_set_ne (fun e=>h1 e.symm)]; exact h3
 have uv:=uo rv _ (by omega) (fun e=>rv' e.symm) (fun e=>lv e.symm) hv
 have us:=uo so _ (by omega) (fun e=>rs e.symm) (fun e=>ls e.symm) ho
 generalize upd S r l T b (R',pos') ++ G = U at *
 have hsl : so < S.length:=by omega
 have tS : S.length ≤ U.length:=by omega
 rw [← Lu]
 rcases sl with ⟨rfl,rfl⟩ | ⟨q,lc,rfl,hq0,hq1,hq2,hq3,hq4⟩
 ·have e:=ap_nils U (sz:=sz) (bytes:=bytes) none (m:=1) cs (by omega) (by omega) (by omega)
  have gg : ∀ i y,i < U.length → i ≠ so → U[i]? = y → ((U ++ [AO.cells cs ⟨false,none⟩]).set so (.cells (oc.set k (.msl U.length 0 1 sz)) ⟨false,none⟩))[i]? = y:=fun i y h1 h2 h3=>by
   rw [List.getElem?_set_ne (fun e=>h2 e.symm),List.getElem?_append_left h1]; exact h3
  have gs : ((U ++ [AO.cells cs ⟨false,none⟩]).set so (.cells (oc.set k (.msl U.length 0 1 sz)) ⟨false,none⟩))[so]? = some (.cells (oc.set k (.msl U.length 0 1 sz)) ⟨false,none⟩):=by
   rw [List.getElem?_set_self (by simp; omega)]
  refine ⟨_,e,sy_old us _,⟨?_,gg r _ (by omega) rs ur,gg l _ (by omega) ls ul,gg rv _ (by omega) (fun e=>sv e.symm) uv,gs,?_,by simp; omega,fun i h1 h2 h3 h4=>gg i _ (by omega) h4 (uo i _ (by omega) h2 h3 (fr i h1 h2 h3 h4))⟩,fun vs=>?_⟩
  ·refine Ok.set2 (okU.app ?_) so ?_
   ·simp only [List.all_cons,List.all_nil,Bool.and_true,AO.below]
    exact belows_mono (Nat.zero_le _) _ hns.cl
   ·show belows _ (oc.set k _) = true
    exact belows_set _ oc k _ (belows_mono (by simp; omega) _ hoc) (by simp [below])
  ·refine .inr ⟨U.length,cs,rfl,by omega,?_,by omega,hns,by omega⟩
   rw [List.getElem?_set_ne (by omega),List.getElem?_append_right (Nat.le_refl _)]
   simp
  ·refine tidy_all gs (by omega) ?_ vs
   show belows _ (oc.set k _) = false
   exact belows_set_out _ oc k _ hk (by simp [below]; omega)
 ·have hqr : q ≠ r:=by omega
  have hql : q ≠ l:=by omega
  have hqs : q ≠ so:=by omega
  have hqv : q ≠ rv:=by omega
  have uq:=uo q _ (List.getElem?_eq_some_iff.mp hq1).1 hqr hql hq1
  have e:=ap_msl (bytes:=bytes) (n:=n) (m:=1) cs uq (by omega) hq2 (by have:=Nat.mul_le_mul (show n + 1 ≤ 1099511627777 by omega) hby; omega) (by omega)
  have gg : ∀ i y,i < U.length → i ≠ so → i ≠ q → U[i]? = y → ((U.set q .dead ++ [AO.cells (lc ++ cs) ⟨false,none⟩]).set so (.cells (oc.set k (.msl U.length 0 (n + 1) sz)) ⟨false,none⟩))[i]? = y:=fun i y h1 h2 h4 h3=>by
   rw [List.getElem?_set_ne (fun e=>h2 e.symm),List.getElem?_append_left (by simpa using h1),List.getElem?_set_ne (fun e=>h4 e.symm)]; exact h3
  have gs : ((U.set q .dead ++ [AO.cells (lc ++ cs) ⟨false,none⟩]).set so (.cells (oc.set k (.msl U.length 0 (n + 1) sz)) ⟨false,none⟩))[so]? = some (.cells (oc.set k (.msl U.length 0 (n + 1) sz)) ⟨false,none⟩):=by
   rw [List.getElem?_set_self (by simp; omega)]
  refine ⟨_,e,sy_old (set_old us (fun e=>hqs e.symm) _) _,⟨?_,gg r _ (by omega) rs (fun e=>hqr e.symm) ur,gg l _ (by omega) ls (fun e=>hql e.symm) ul,gg rv _ (by omega) (fun e=>sv e.symm) (fun e=>hqv e.symm) uv,gs,?_,by simp; omega,fun i h1 h2 h3 h4=>gg i _ (by omega) h4 (by omega) (uo i _ (by omega) h2 h3 (fr i h1 h2 h3 h4))⟩,fun vs=>?_⟩
  ·refine Ok.set2 ((okU.set2 q rfl).app ?_) so ?_
   ·simp only [List.all_cons,List.all_nil,Bool.and_true,AO.below]
    rw [belows_app,belows_mono (Nat.zero_le _) _ hq3.cl,belows_mono (Nat.zero_le _) _ hns.cl]; rfl
   ·show belows _ (oc.set k _) = true
    exact belows_set _ oc k _ (belows_mono (by simp; omega) _ hoc) (by simp [below])
  ·refine .inr ⟨U.length,lc ++ cs,rfl,by omega,?_,by rw [List.length_append,hq2,hcs,Nat.succ_mul],fun v hv=>(List.mem_append.mp hv).elim (hq3 v) (hns v),by omega⟩
   rw [List.getElem?_set_ne (by omega),List.getElem?_append_right (by simp)]
   simp
  ·refine tidy_all gs (by omega) ?_ vs
   show belows _ (oc.set k _) = false
   exact belows_set_out _ oc k _ hk (by simp [below]; omega)
end Go.Ev
namespace Go.Ev
set_option maxRecDepth 100000
set_option linter.unusedSimpArgs false
set_option linter.unusedVariables false
variable {C : Ctx} {N : List UInt8 → Option Int}
structure ClHas (C : Ctx) (N : List UInt8 → Option Int) : Prop extends ItHas C N where
 read1 : Has C f_script_Read_1 K_script_Read_1
 store1 : Has C f_script_reader_store_1 K_script_reader_store_1
def StepL (C : Ctx) (f : FuncId) (S0 : St) (r l so rv k sz : Nat) (T : List UInt8) (b : Nat) (oc : List AV) (th : Nat → RS → Nat → RS × Nat) : Prop:=
 ∀ R pos x n S,AI S0 r l so rv k sz T b oc R pos x n S → pos ≤ b → n ≤ 1099511627776 → ∃ x' n' S',semF C f [.ref l 0,.ref so 0,.ref rv 0] S = some (.tup [],S') ∧ AI S0 r l so rv k sz T b oc (th n R pos).1 (th n R pos).2 x' n' S' ∧ n' ≤ n + 1 ∧ ((th n R pos).1.e = 0 → n' = n + 1)
theorem read1_is (H : ClHas C N) {T : List UInt8} (hT : T.length ≤ 1099511627776) {b : Nat} (hb : b ≤ T.length) {S0 : St} {r l so rv : Nat} (D : AD S0 r l so rv) (c0 c1 c2 c3 c5 c6 c7 c8 c9 : AV) (hc : belows S0.length [c0,c1,c2,c3,.nils,c5,c6,c7,c8,c9] = true) :
  StepL C f_script_Read_1 S0 r l so rv 4 3 T b [c0,c1,c2,c3,.nils,c5,c6,c7,c8,c9] (fun _=>verdS T b):=by
 intro R pos x n S h hp hn
 obtain ⟨s,t,u,q⟩:=verd_is H.toItHas hT hp hb h.ok h.hr h.hl D.rl
 dsimp only
 generalize verdS T b R pos = z at *
 obtain ⟨R',pos'⟩:=z
 obtain ⟨S2,e1,e2,e3,e4⟩:=AI_step (bytes:=48) D h hc (by simp) R' pos' [] rfl [.str s,.str t,.str u] rfl (.cons (.str _) (.cons (.str _) (.cons (.str _) .nil))) hn (by omega)
 refine ⟨_,_,_,?_,e3,Nat.le_refl _,fun _=>rfl⟩
 have hh : hand false [.ref l 0,.ref so 0,.ref rv 0] S = some ([.ref l 0,.ref so 0,.ref rv 0],S):=rfl
 have us : (upd S r l T b (R',pos'))[so]? = S[so]?:= by
  show ((S.set r _).set l _)[so]? = _
  rw [List.getElem?_set_ne D.ls,List.getElem?_set_ne D.rs]
 have ho:=h.ho
 have hv:=h.hv
 rw [ho] at us
 have sx:=same_refl x
 rw [List.append_nil] at e1
 simp only [List.length_nil,Nat.add_zero] at *
 rw [H.read1.go hh (by simp [K_script_Read_1])]
 generalize upd S r l T b (R',pos') = U at *
 simp only [List.set_cons_succ,List.set_cons_zero] at ho us e1 e2 e4 ⊢
 simp only [K_script_Read_1,ho,hv,us,q,sx,e1,e2,e4,splice,AV.cells,AV.flat,Nat.succ_ne_zero,EVC,EVD,EVB,Nat.reduceEqDiff,eqOp,eqA,eqNil,lenA,asNat,optNat,pt,tupleOf,Nat.reduceSub,Nat.reduceGT,Nat.reduceLT,hand,norms,normVs,normV,freeze,reduceIte,reduceCtorEq,srcCells,slCells,isStr,fillA,rep,asObj,outSl,Nat.reduceMul,Nat.reduceLeDiff,Int.reduceToNat,Int.reduceLE,Int.reduceLT,Int.reduceEq,Nat.reduceAdd,Int.reduceBNe,Int.reduceBEq,Int.reduceNeg]
theorem store1_is (H : ClHas C N) {T : List UInt8} (hT : T.length ≤ 1099511627776) {b : Nat} (hb : b ≤ T.length) {S0 : St} {r l so rv : Nat} (D : AD S0 r l so rv) (c0 c1 : AV) (hc : belows S0.length [c0,c1,.nils] = true) :
  StepL C f_script_reader_store_1 S0 r l so rv 2 2 T b [c0,c1,.nils] (fun _=>fileS T b):=by
 intro R pos x n S h hp hn
 obtain ⟨s,t,q⟩:=file_is H.toItHas hT hp hb h.ok h.hr h.hl D.rl
 dsimp only
 generalize fileS T b R pos = z at *
 obtain ⟨R',pos'⟩:=z
 obtain ⟨S2,e1,e2,e3,e4⟩:=AI_step (bytes:=32) D h hc (by simp) R' pos' [.cells [.str s,.str t] ⟨false,none⟩] rfl [.str s,.str t] rfl (.cons (.str _) (.cons (.str _) .nil)) hn (by omega)
 refine ⟨_,_,_,?_,e3,Nat.le_refl _,fun _=>rfl⟩
 have hh : hand false [.ref l 0,.ref so 0,.ref rv 0] S = some ([.ref l 0,.ref so 0,.ref rv 0],S):=rfl
 have us : (upd S r l T b (R',pos'))[so]? = S[so]?:= by
  show ((S.set r _).set l _)[so]? = _
  rw [List.getElem?_set_ne D.ls,List.getElem?_set_ne D.rs]
 have ho:=h.ho
 have hv:=h.hv
 rw [ho] at us
 have sx:=same_refl x
 have uL:=fun L=>(sy_old us L)
 have Lu : (upd S r l T b (R',pos')).length = S.length:=by simp [upd]
 simp only [List.length_cons,List.length_nil,Nat.zero_add] at *
 rw [H.store1.go hh (by simp [K_script_reader_store_1])]
 generalize upd S r l T b (R',pos') = U at *
 simp only [List.set_cons_succ,List.set_cons_zero] at ho us e1 e2 e4 ⊢
 simp only [K_script_reader_store_1,ho,hv,us,uL,q,sx,st_get0,e1,e2,e4,splice,AV.cells,AV.flat,Nat.succ_ne_zero,EVC,EVD,EVB,Nat.reduceEqDiff,eqOp,eqA,eqNil,lenA,asNat,optNat,pt,tupleOf,Nat.reduceSub,Nat.reduceGT,Nat.reduceLT,hand,norms,normVs,normV,freeze,reduceIte,reduceCtorEq,srcCells,slCells,isStr,fillA,rep,asObj,outSl,Nat.reduceMul,Nat.reduceLeDiff,Int.reduceToNat,Int.reduceLE,Int.reduceLT,Int.reduceEq,Nat.reduceAdd,Int.reduceBNe,Int.reduceBEq,Int.reduceNeg]
end Go.Ev
namespace Go.Ev
set_option maxRecDepth 100000
set_option linter.unusedSimpArgs false
set_option linter.unusedVariables false
variable {C : Ctx} {N : List UInt8 → Option Int}
def eachL (th : Nat → RS → Nat → RS × Nat) (y : Nat) : Nat → Nat → RS → Nat → RS × Nat
 | 0,n,R,x=>(R,x)
 | k + 1,n,R,x=>if R.e = 0 ∧ x < y then eachL th y k (n + 1) (th n R x).1 (th n R x).2 else (R,x)
def Goes1 (th : Nat → RS → Nat → RS × Nat) (y : Nat) : Prop:=∀ n R x,x ≤ y → (th n R x).2 ≤ y ∧ ((th n R x).1.e = 0 → x < (th n R x).2)
theorem each_loop (H : RdHas C) {f : FuncId} {S0 : St} {r l so rv k sz : Nat} {T : List UInt8} {y : Nat} (hy : y ≤ 1099511627775) {oc : List AV} {th : Nat → RS → Nat → RS × Nat} (hst : StepL C f S0 r l so rv k sz T y oc th) (hth : Goes1 th y) : ∀ (K : Nat) (R : RS) (pos : Nat) (x : AV) (n : Nat) (S : St),AI S0 r l so rv k sz T y oc R pos x n S → pos ≤ y → (R.e = 0 → y - pos ≤ K ∧ n ≤ pos) → n ≤ 1099511627776 →
  ∃ x' n' S',loopK C (semF C) 20 [0,2,6] L_script_reader_each_0 [(0,.ref r 0),(2,.func (.func f) [] [.ref so 0,.ref rv 0]),(6,.ref l 0)] S = some (.exit 0,[],S') ∧ AI S0 r l so rv k sz T y oc (eachL th y K n R pos).1 (eachL th y K n R pos).2 x' n' S' ∧ n' ≤ 1099511627776
 | K,R,pos,x,n,S,h,hp,hk,hn=>by
   have lf:=left_is H.left h.hl
   have hr:=h.hr
   rw [loop_eq (he:=rfl)]
   generalize hkk : loopK C (semF C) 20 [0,2,6] L_script_reader_each_0 = kk
   unfold rdO at hr
   cases ce : ((R.e : Int) == 0)
   ·have c0 : ¬ R.e = 0:=by simpa using ce
    have e : eachL th y K n R pos = (R,pos):=by
     cases K with
     | zero=>rfl
     | succ K=>exact if_neg (fun h=>c0 h.1)
    rw [e]
    exact ⟨x,n,S,by simp only [L_script_reader_each_0,hr,ce,EVC,EVD,EVB,Nat.reduceEqDiff,eqOp,eqA,eqNil,lenA,asNat,optNat,pt,tupleOf,Nat.reduceSub,Nat.reduceGT,Nat.reduceLT,hand,norms,normVs,normV,freeze,reduceIte,reduceCtorEq,srcCells,slCells,isStr,fillA,rep,asObj,outSl,Nat.reduceMul,Nat.reduceLeDiff,Int.reduceToNat,Int.reduceLE,Int.reduceLT,Int.reduceEq,Nat.reduceAdd,Int.reduceBNe,Int.reduceBEq,Int.reduceNeg],h,hn⟩
   ·have c0 : R.e = 0:=by simpa using ce
    by_cases cl : pos < y
    ·have d : decide (pos < y) = true:=by simpa using cl
     obtain ⟨h1,h2⟩:=hk c0
     obtain ⟨x',n',S',q,q1,q2,q3⟩:=hst R pos x n S h hp hn
     obtain ⟨g1,g2⟩:=hth n R pos hp
     cases K with
     | zero=>omega
     | succ K=>
       have e : eachL th y (K + 1) n R pos = eachL th y K (n + 1) (th n R pos).1 (th n R pos).2:=if_pos ⟨c0,cl⟩
       rw [e]
       by_cases e0 : (th n R pos).1.e = 0
       ·have:=q3 e0
        subst this
        have:=g2 e0
        obtain ⟨x2,n2,S2,w1,w2,w3⟩:=each_loop H hy hst hth K (th n R pos).1 (th n R pos).2 x' (n + 1) S' q1 g1 (fun _=>⟨by omega,by omega⟩) (by omega)
        rw [hkk] at w1
        exact ⟨x2,n2,S2,by rw [← w1]; simp only [L_script_reader_each_0,hr,ce,lf,d,q,cv_func,List.nil_append,List.cons_append,EVC,EVD,EVB,Nat.reduceEqDiff,eqOp,eqA,eqNil,lenA,asNat,optNat,pt,tupleOf,Nat.reduceSub,Nat.reduceGT,Nat.reduceLT,hand,norms,normVs,normV,freeze,reduceIte,reduceCtorEq,srcCells,slCells,isStr,fillA,rep,asObj,outSl,Nat.reduceMul,Nat.reduceLeDiff,Int.reduceToNat,Int.reduceLE,Int.reduceLT,Int.reduceEq,Nat.reduceAdd,Int.reduceBNe,Int.reduceBEq,Int.reduceNeg],w2,w3⟩
       ·have e2 : ∀ m,eachL th y K m (th n R pos).1 (th n R pos).2 = ((th n R pos).1,(th n R pos).2):=fun m=>by
         cases K with
         | zero=>rfl
         | succ K=>exact if_neg (fun h=>e0 h.1)
        obtain ⟨x2,n2,S2,w1,w2,w3⟩:=each_loop H hy hst hth K (th n R pos).1 (th n R pos).2 x' n' S' q1 g1 (fun h=>absurd h e0) (by omega)
        rw [hkk] at w1
        rw [e2] at w2 ⊢
        exact ⟨x2,n2,S2,by rw [← w1]; simp only [L_script_reader_each_0,hr,ce,lf,d,q,cv_func,List.nil_append,List.cons_append,EVC,EVD,EVB,Nat.reduceEqDiff,eqOp,eqA,eqNil,lenA,asNat,optNat,pt,tupleOf,Nat.reduceSub,Nat.reduceGT,Nat.reduceLT,hand,norms,normVs,normV,freeze,reduceIte,reduceCtorEq,srcCells,slCells,isStr,fillA,rep,asObj,outSl,Nat.reduceMul,Nat.reduceLeDiff,Int.reduceToNat,Int.reduceLE,Int.reduceLT,Int.reduceEq,Nat.reduceAdd,Int.reduceBNe,Int.reduceBEq,Int.reduceNeg],w2,w3⟩
    ·have d : decide (pos < y) = false:=by simpa using cl
     have e : eachL th y K n R pos = (R,pos):=by
      cases K with
      | zero=>rfl
      | succ K=>exact if_neg (fun h=>cl h.2)
     rw [e]
     exact ⟨x,n,S,by simp only [L_script_reader_each_0,hr,ce,lf,d,EVC,EVD,EVB,Nat.reduceEqDiff,eqOp,eqA,eqNil,lenA,asNat,optNat,pt,tupleOf,Nat.reduceSub,Nat.reduceGT,Nat.reduceLT,hand,norms,normVs,normV,freeze,reduceIte,reduceCtorEq,srcCells,slCells,isStr,fillA,rep,asObj,outSl,Nat.reduceMul,Nat.reduceLeDiff,Int.reduceToNat,Int.reduceLE,Int.reduceLT,Int.reduceEq,Nat.reduceAdd,Int.reduceBNe,Int.reduceBEq,Int.reduceNeg],h,hn⟩
 termination_by K=>K
end Go.Ev
namespace Go.Ev
set_option maxRecDepth 100000
set_option linter.unusedSimpArgs false
set_option linter.unusedVariables false
variable {C : Ctx} {N : List UInt8 → Option Int}
theorem tidy_two (n : Nat) (S : St) (hn : n ≤ S.length) (vs : List AV) : tidy n vs S = S ∨ (tidy n vs S = S.take n ∧ (S.take n).all (AO.below n) = true):=by
 unfold tidy
 split
 ·exact .inl rfl
 ·cases h : (S.take n).all (AO.below n)
  ·simp
  ·cases belows n vs <;> simp
structure ArS (S : St) (r p so k sz : Nat) (T : List UInt8) (b : Nat) (oc : List AV) (R : RS) (a : Nat) (x : AV) (n : Nat) (S' : St) : Prop where
 ok : Ok S'
 hr : S'[r]? = some (rdO T R)
 hp : S'[p]? = some (ptO a b)
 ho : S'[so]? = some (.cells (oc.set k x) ⟨false,none⟩)
 sl : SlOf S' S.length x sz n
 len : S.length ≤ S'.length
 fr : ∀ i,i < S.length → i ≠ r → i ≠ p → i ≠ so → S'[i]? = S[i]?
 hn : n ≤ 1099511627776
structure EachHas (C : Ctx) (N : List UInt8 → Option Int) : Prop extends ClHas C N where
 each : Has C f_script_reader_each K_script_reader_each
def eachS (T : List UInt8) (th : Nat → Nat → RS → Nat → RS × Nat) (b : Nat) (R : RS) (a : Nat) : RS × Nat:=
 let M:=netS T b R a
 ((eachL (th M.y) M.y (M.y - M.x) 0 M.R M.x).1,M.a)
theorem each_is (H : EachHas C N) {f : FuncId} {T : List UInt8} (hT : T.length ≤ 1099511627775) {R : RS} {a b : Nat} (hab : a ≤ b) (hb : b ≤ T.length) {k sz : Nat} {oc : List AV} {th : Nat → Nat → RS → Nat → RS × Nat} (hk : k < oc.length) {S : St} (hS : Ok S) {r p so rv : Nat} (hr : S[r]? = some (rdO T R)) (hp : S[p]? = some (ptO a b)) (ho : S[so]? = some (.cells (oc.set k .nils) ⟨false,none⟩)) (hv : S[rv]? = some (.cells [.ref r 0] ⟨false,none⟩))
  (d1 : r ≠ p) (d2 : r ≠ so) (d3 : r ≠ rv) (d4 : p ≠ so) (d5 : p ≠ rv) (d6 : so ≠ rv)
  (hst : ∀ y S0 l,y ≤ T.length → S.length ≤ List.length S0 → AD S0 r l so rv → StepL C f S0 r l so rv k sz T y oc (th y)) (hth : ∀ y,y ≤ T.length → Goes1 (th y) y) :
  ∃ x n S',semF C f_script_reader_each [.ref r 0,.ref p 0,.func (.func f) [] [.ref so 0,.ref rv 0]] S = some (.tup [],S') ∧ ArS S r p so k sz T b oc (eachS T th b R a).1 (eachS T th b R a).2 x n S':= by
 have hn : hand false [.ref r 0,.ref p 0,.func (.func f) [] [.ref so 0,.ref rv 0]] S = some ([.ref r 0,.ref p 0,.func (.func f) [] [.ref so 0,.ref rv 0]],S):=rfl
 have q:=net_is H.toRdHas (by omega) hab hb hS hr hp d1
 obtain ⟨l1,l2,l3,l4,l5⟩:=netS_le T a b R hab hb
 unfold eachS
 dsimp only
 generalize netS T b R a = M at *
 obtain ⟨R1,a1,x0,y⟩:=M
 dsimp only at *
 have r1:=(List.getElem?_eq_some_iff.mp hr).1
 have p1:=(List.getElem?_eq_some_iff.mp hp).1
 have s1:=(List.getElem?_eq_some_iff.mp ho).1
 have v1:=(List.getElem?_eq_some_iff.mp hv).1
 have L1 : (upd S r p T b (R1,a1)).length = S.length:=by simp [upd]
 have ok1 : Ok (upd S r p T b (R1,a1)):=(hS.set r (rdO_below _ _)).set p (ptO_below _ _)
 have ur : (upd S r p T b (R1,a1))[r]? = some (rdO T R1):=set_old (set_get hr _) d1 _
 have up : (upd S r p T b (R1,a1))[p]? = some (ptO a1 b):=set_get (set_old hp (fun e=>d1 e.symm) _) _
 have uo : ∀ i y,i ≠ r → i ≠ p → S[i]? = y → (upd S r p T b (R1,a1))[i]? = y:=fun i y h1 h2 h3=>by
  show ((S.set r _).set p _)[i]? = y
  rw [List.getElem?_set_ne (fun e=>h2 e.symm),List.getElem?_set_ne (fun e=>h1 e.symm)]; exact h3
 have uv:=uo rv _ (fun e=>d3 e.symm) (fun e=>d5 e.symm) hv
 have us:=uo so _ (fun e=>d2 e.symm) (fun e=>d4 e.symm) ho
 have q' : semF C f_script_reader_net [.ref r 0,.ref p 0] S = some (.agg [.int .i64 x0,.int .i64 y],upd S r p T b (R1,a1)):=q
 generalize upd S r p T b (R1,a1) = U at *
 have D : AD (U ++ [ptO x0 y]) r U.length so rv:=⟨by omega,d2,d3,by omega,by omega,d6,by simp; omega,by simp,by simp; omega,by simp; omega⟩
 have I : AI (U ++ [ptO x0 y]) r U.length so rv k sz T y oc R1 x0 .nils 0 (U ++ [ptO x0 y]):=⟨ok1.plus rfl,sy_old ur _,by rw [st_get0]; rfl,sy_old uv _,sy_old us _,.inl ⟨rfl,rfl⟩,Nat.le_refl _,fun i _ _ _ _=>rfl⟩
 obtain ⟨x,n,S',w1,w2,w3⟩:=each_loop H.toRdHas (by omega) (hst y _ _ (by omega) (by simp; omega) D) (hth y (by omega)) (y - x0) R1 x0 .nils 0 _ I l1 (fun _=>⟨Nat.le_refl _,Nat.zero_le _⟩) (Nat.zero_le _)
 generalize eachL (th y) y (y - x0) 0 R1 x0 = E at *
 obtain ⟨ok,xr,xl,xv,xo,xs,xn,xf⟩:=w2
 have xn' : S.length + 1 ≤ S'.length:=by simp at xn; omega
 have fr : ∀ i,i < S.length → i ≠ r → i ≠ so → S'[i]? = U[i]?:= fun i h1 h2 h3=>by
  rw [xf i (by simp; omega) h2 (by omega) h3,List.getElem?_append_left (by omega)]
 have key : ArS S r p so k sz T b oc E.1 a1 x n (tidy S.length [] S'):=by
  rcases tidy_two S.length S' (by omega) [] with ht | ⟨ht,hb2⟩
  ·rw [ht]
   refine ⟨ok,xr,by rw [fr p p1 (fun e=>d1 e.symm) d4]; exact up,xo,?_,by omega,fun i h1 h2 h3 h4=>by rw [fr i h1 h2 h4]; exact uo i _ h2 h3 rfl,w3⟩
   rcases xs with xs | ⟨q,l,e1,e2,e3⟩
   ·exact .inl xs
   ·exact .inr ⟨q,l,e1,by simp at e2; omega,e3⟩
  ·rw [ht]
   have gt : ∀ i,i < S.length → (S'.take S.length)[i]? = S'[i]?:= fun i hi=>by rw [List.getElem?_take,if_pos hi]
   have hlen : (S'.take S.length).length = S.length:=by simp; omega
   refine ⟨?_,by rw [gt r r1]; exact xr,by rw [gt p p1,fr p p1 (fun e=>d1 e.symm) d4]; exact up,by rw [gt so s1]; exact xo,?_,by omega,fun i h1 h2 h3 h4=>by rw [gt i h1,fr i h1 h2 h4]; exact uo i _ h2 h3 rfl,w3⟩
   ·unfold Ok
    rw [hlen]; exact hb2
   ·rcases xs with xs | ⟨q,l,e1,e2,e3⟩
    ·exact .inl xs
    ·exfalso
     have hm : AO.cells (oc.set k x) ⟨false,none⟩ ∈ S'.take S.length:=by
      rw [List.mem_iff_getElem?]
      exact ⟨so,by rw [gt so s1]; exact xo⟩
     have hbl : belows S.length (oc.set k x) = true:=List.all_eq_true.mp hb2 _ hm
     subst e1
     rw [belows_set_out _ oc k _ hk (by simp [below]; simp at e2; omega)] at hbl
     cases hbl
 refine ⟨x,n,_,?_,key⟩
 rw [H.each.go hn (by simp [K_script_reader_each])]
 unfold ptO at w1
 simp only [K_script_reader_each,q',w1,splice,AV.cells,AV.flat,EVC,EVD,EVB,Nat.reduceEqDiff,eqOp,eqA,eqNil,lenA,asNat,optNat,pt,tupleOf,Nat.reduceSub,Nat.reduceGT,Nat.reduceLT,hand,norms,normVs,normV,freeze,reduceIte,reduceCtorEq,srcCells,slCells,isStr,fillA,rep,asObj,outSl,Nat.reduceMul,Nat.reduceLeDiff,Int.reduceToNat,Int.reduceLE,Int.reduceLT,Int.reduceEq,Nat.reduceAdd,Int.reduceBNe,Int.reduceBEq,Int.reduceNeg]
end Go.Ev
namespace Go.Ev
set_option maxRecDepth 100000
set_option linter.unusedSimpArgs false
set_option linter.unusedVariables false
variable {C : Ctx} {N : List UInt8 → Option Int}
structure PathHas (C : Ctx) (N : List UInt8 → Option Int) : Prop extends EachHas C N where
 read3 : Has C f_script_Read_3 K_script_Read_3
def pathS (T : List UInt8) (y n : Nat) (R : RS) (x : Nat) : RS × Nat:=if 64 ≤ n then (failS R 5 x,x) else ((netS T y R x).R,(netS T y R x).a)
theorem failS_ne {R : RS} {e x : Nat} (he : e ≠ 0) : (failS R e x).e ≠ 0:=by
 unfold failS
 split
 ·exact he
 ·assumption
theorem AI_fail {S0 : St} {r l so rv k sz : Nat} {T : List UInt8} {b : Nat} {oc : List AV} {R : RS} {pos : Nat} {x : AV} {n : Nat} {S : St} (D : AD S0 r l so rv) (h : AI S0 r l so rv k sz T b oc R pos x n S) (R' : RS) : AI S0 r l so rv k sz T b oc R' pos x n (S.set r (rdO T R')):=by
 obtain ⟨ok,hr,hl,hv,ho,sl,len,fr⟩:=h
 refine ⟨ok.set r (rdO_below _ _),set_get hr _,set_old hl (fun e=>D.rl e.symm) _,set_old hv (fun e=>D.rvn e.symm) _,set_old ho (fun e=>D.rs e.symm) _,?_,by simpa using len,fun i h1 h2 h3 h4=>by rw [List.getElem?_set_ne (fun e=>h2 e.symm)]; exact fr i h1 h2 h3 h4⟩
 rcases sl with sl | ⟨q,l,e1,e2,e3,e4⟩
 ·exact .inl sl
 ·have:=D.r1
  exact .inr ⟨q,l,e1,e2,set_old e3 (by omega) _,e4⟩
theorem read3_is (H : PathHas C N) {T : List UInt8} (hT : T.length ≤ 1099511627775) {b : Nat} (hb : b ≤ T.length) {S0 : St} {r l so rv : Nat} (D : AD S0 r l so rv) (c0 c1 c2 c3 c4 c5 c6 c7 c8 : AV) (hc : belows S0.length [c0,c1,c2,c3,c4,c5,c6,c7,c8,.nils] = true) :
  StepL C f_script_Read_3 S0 r l so rv 9 1 T b [c0,c1,c2,c3,c4,c5,c6,c7,c8,.nils] (pathS T b):=by
 intro R pos x n S h hp hn
 have hh : hand false [.ref l 0,.ref so 0,.ref rv 0] S = some ([.ref l 0,.ref so 0,.ref rv 0],S):=rfl
 have ho:=h.ho
 have hv:=h.hv
 have hl:=h.hl
 unfold pathS
 by_cases c : 64 ≤ n
 ·rw [if_pos c]
  have c' : (64 : Int) ≤ (n : Int):=by omega
  have fl:=fail_is H.fail h.hr 5 pos
  simp only [Int.cast_ofNat_Int] at fl
  refine ⟨x,n,_,?_,AI_fail D h _,by omega,fun e=>absurd e (failS_ne (by omega))⟩
  have ty0 : ∀ (x : AO),tidy S.length [] (S.set r x) = S.set r x:=fun x=>by
   have:=st_tidy0 (S.set r x) []
   rwa [List.length_set] at this
  rw [H.read3.go hh (by simp [K_script_Read_3])]
  unfold ptO at hl
  simp only [List.set_cons_succ,List.set_cons_zero] at ho ⊢
  rcases h.sl with ⟨_,h0⟩ | ⟨q,lc,rfl,_⟩
  ·omega
  ·simp only [K_script_Read_3,ho,hv,hl,c',fl,ty0,splice,AV.cells,AV.flat,Nat.succ_ne_zero,EVC,EVD,EVB,Nat.reduceEqDiff,eqOp,eqA,eqNil,lenA,asNat,optNat,pt,tupleOf,Nat.reduceSub,Nat.reduceGT,Nat.reduceLT,hand,norms,normVs,normV,freeze,reduceIte,reduceCtorEq,srcCells,slCells,isStr,fillA,rep,asObj,outSl,Nat.reduceMul,Nat.reduceLeDiff,Int.reduceToNat,Int.reduceLE,Int.reduceLT,Int.reduceEq,Nat.reduceAdd,Int.reduceBNe,Int.reduceBEq,Int.reduceNeg]
 ·rw [if_neg c]
  have c' : ¬ (64 : Int) ≤ (n : Int):=by omega
  have q:=bytes_is H.toRdHas (by omega) hp hb h.ok h.hr h.hl D.rl
  dsimp only
  generalize strS T (netS T b R pos) = s at *
  generalize netS T b R pos = M at *
  obtain ⟨R',pos',x0,y0⟩:=M
  dsimp only at *
  have q' : semF C f_script_reader_bytes [.ref r 0,.ref l 0] S = some (.str s,upd S r l T b (R',pos')):=q
  obtain ⟨S2,e1,e2,e3,e4⟩:=AI_step (bytes:=16) D h hc (by simp) R' pos' [] rfl [.str s] rfl (.cons (.str _) .nil) hn (by omega)
  refine ⟨_,_,_,?_,e3,Nat.le_refl _,fun _=>rfl⟩
  have us : (upd S r l T b (R',pos'))[so]? = S[so]?:= by
   show ((S.set r _).set l _)[so]? = _
   rw [List.getElem?_set_ne D.ls,List.getElem?_set_ne D.rs]
  rw [ho] at us
  have sx:=same_refl x
  rw [List.append_nil] at e1
  simp only [List.length_nil,Nat.add_zero] at *
  rw [H.read3.go hh (by simp [K_script_Read_3])]
  generalize upd S r l T b (R',pos') = U at *
  simp only [List.set_cons_succ,List.set_cons_zero] at ho us e1 e2 e4 ⊢
  rcases h.sl with ⟨rfl,h0⟩ | ⟨q,lc,rfl,_⟩
  ·have z : ¬ (64 : Int) ≤ ((0 : Nat) : Int):=by omega
   simp only [K_script_Read_3,ho,hv,us,z,q',sx,e1,e2,e4,splice,AV.cells,AV.flat,Nat.succ_ne_zero,EVC,EVD,EVB,Nat.reduceEqDiff,eqOp,eqA,eqNil,lenA,asNat,optNat,pt,tupleOf,Nat.reduceSub,Nat.reduceGT,Nat.reduceLT,hand,norms,normVs,normV,freeze,reduceIte,reduceCtorEq,srcCells,slCells,isStr,fillA,rep,asObj,outSl,Nat.reduceMul,Nat.reduceLeDiff,Int.reduceToNat,Int.reduceLE,Int.reduceLT,Int.reduceEq,Nat.reduceAdd,Int.reduceBNe,Int.reduceBEq,Int.reduceNeg]
  ·simp only [K_script_Read_3,ho,hv,us,c',q',sx,e1,e2,e4,splice,AV.cells,AV.flat,Nat.succ_ne_zero,EVC,EVD,EVB,Nat.reduceEqDiff,eqOp,eqA,eqNil,lenA,asNat,optNat,pt,tupleOf,Nat.reduceSub,Nat.reduceGT,Nat.reduceLT,hand,norms,normVs,normV,freeze,reduceIte,reduceCtorEq,srcCells,slCells,isStr,fillA,rep,asObj,outSl,Nat.reduceMul,Nat.reduceLeDiff,Int.reduceToNat,Int.reduceLE,Int.reduceLT,Int.reduceEq,Nat.reduceAdd,Int.reduceBNe,Int.reduceBEq,Int.reduceNeg]
end Go.Ev
namespace Go.Ev
set_option maxRecDepth 100000
set_option linter.unusedSimpArgs false
set_option linter.unusedVariables false
variable {C : Ctx} {N : List UInt8 → Option Int}
theorem bytes_at (H : RdHas C) {T : List UInt8} (hT : T.length ≤ 1099511627776) {R : RS} {a b : Nat} (hab : a ≤ b) (hb : b ≤ T.length) {A L : St} {n k : Nat} (hn : A.length = n) (ok : Ok (A ++ L)) {r : Nat} (hr : A[r]? = some (rdO T R)) (hL : L[k]? = some (ptO a b)) :
  semF C f_script_reader_bytes [.ref r 0,.ref (n + k) 0] (A ++ L) = some (.str (strS T (netS T b R a)),A.set r (rdO T (netS T b R a).R) ++ L.set k (ptO (netS T b R a).a b)):=by
 have hlt:=(List.getElem?_eq_some_iff.mp hr).1
 have q:=bytes_is H hT hab hb ok (sy_old hr _) (by rw [sy_get hn]; exact hL) (by omega)
 rw [q,sy_put hr,sy_set (by simpa using hn)]
structure StHas (C : Ctx) (N : List UInt8 → Option Int) : Prop extends PathHas C N where
 store : Has C f_script_reader_store K_script_reader_store
 read2 : Has C f_script_Read_2 K_script_Read_2
def storeS (T : List UInt8) (b : Nat) (R : RS) (a : Nat) : RS × Nat:=
 let n:=netS T b R a
 let n1:=netS T n.y n.R n.x
 let n2:=netS T n.y n1.R n1.a
 let E:=eachS T (fun y _=>fileS T y) n.y n2.R n2.a
 (doneR n.y E.1 E.2,n.a)
theorem fileS_goes (T : List UInt8) (y : Nat) (hy : y ≤ T.length) : Goes1 (fun _=>fileS T y) y:=by
 intro n R x hx
 obtain ⟨l1,l2,l3,l4,l5⟩:=netS_le T x y R hx hy
 refine ⟨l3,fun h=>?_⟩
 unfold fileS at h ⊢
 dsimp only at h ⊢
 by_cases e : (netS T y R x).R.e = 0
 ·exact l5 e
 ·exfalso
  have k1 : ∀ (R : RS) (a b : Nat),R.e ≠ 0 → (netS T b R a).R = R:=fun R a b h=>by unfold netS; rw [if_neg h]
  rw [k1 _ _ _ (by rw [k1 _ _ _ e]; exact e),k1 _ _ _ e] at h
  unfold doneR failS at h
  split at h
  all_goals first | exact e h | (rw [if_neg e] at h; exact e h)
theorem ok_all {S : St} (h : Ok S) {i : Nat} {y : AO} (hi : S[i]? = some y) : y.below S.length = true:=List.all_eq_true.mp h y (List.mem_iff_getElem?.mpr ⟨i,hi⟩)
theorem end_store {n q : Nat} {τ U : St} (hU : Ok U) (hl : U.length = n) (ht : τ.take n = U) (hq : n ≤ q) (s t : List UInt8) (x : AV) (m : Nat) (hx : τ[q]? = some (.cells [.str s,.str t,x] ⟨false,none⟩)) (sl : SlOf τ n x 2 m) :
  ∃ l,NVs l ∧ l.length = m * 2 ∧ ∀ E : As,look E 4 = .ref q 0 → endR n [.cell 4 true 3] (some (.ret,E,τ)) = some (.agg [.str s,.str t,.sl m l],U):=by
 have td : ∀ (S : St) (vs : List AV),S.take n = U → belows 0 vs = true → tidy n vs S = U:=fun S vs h hv=>by
  unfold tidy
  have hok : (S.take n).all (AO.below n) = true:=by rw [h,← hl]; exact hU
  by_cases he : S.length = n
  ·rw [if_pos he,← h,List.take_of_length_le (by omega)]
  ·rw [if_neg he,hok,belows_mono (Nat.zero_le _) _ hv]
   exact h
 have hr : ∀ E : As,look E 4 = .ref q 0 → resL E τ [.cell 4 true 3] = some [.agg [.str s,.str t,x]]:=fun E he=>by
  rcases sl with ⟨rfl,_⟩ | ⟨q,l,rfl,_⟩ <;> simp only [resL,he,hx,pt,AV.flat,List.drop_zero,List.length_cons,List.length_nil,List.take] <;> rfl
 rcases sl with ⟨rfl,rfl⟩ | ⟨p,l,rfl,e2,e3,e4,e5,e6⟩
 ·refine ⟨[],fun v hv=>(nomatch hv),rfl,fun E he=>?_⟩
  rw [endR_ret,hr E he]
  have hh : hand false [.agg [.str s,.str t,.nils]] τ = some ([.agg [.str s,.str t,.sl 0 []]],τ):=by
   rw [hand_is,nvs_cons,nv_agg,nvs_cons,nvs_cons,nvs_cons,nv_nils,nvs_nil]
   rfl
  dsimp only
  rw [hh]
  dsimp only [tupleOf]
  rw [td _ _ ht rfl]
 ·refine ⟨l,e5,e4,fun E he=>?_⟩
  rw [endR_ret,hr E he]
  have hh : hand false [.agg [.str s,.str t,.msl p 0 m 2]] τ = some ([.agg [.str s,.str t,.sl m l]],τ.set p (.cells l ⟨true,none⟩)):=by
   rw [hand_is,nvs_cons,nv_agg,nvs_cons,nvs_cons,nvs_cons,nv_msl e3 e4 e5,nvs_nil,← freeze_one e3]
   rfl
  dsimp only
  rw [hh]
  dsimp only [tupleOf]
  rw [td _ _ (by rw [take_put _ _ _ e2]; exact ht) (by simp only [belows,below,e5.cl,Bool.and_self])]
end Go.Ev
namespace Go.Ev
set_option maxRecDepth 100000
set_option linter.unusedSimpArgs false
set_option linter.unusedVariables false
variable {C : Ctx} {N : List UInt8 → Option Int}
theorem store_is (H : StHas C N) {T : List UInt8} (hT : T.length ≤ 1099511627775) {R : RS} {a b : Nat} (hab : a ≤ b) (hb : b ≤ T.length) {S : St} (hS : Ok S) {r p : Nat} (hr : S[r]? = some (rdO T R)) (hp : S[p]? = some (ptO a b)) (hne : r ≠ p) :
  ∃ (s t : List UInt8) (m : Nat) (l : List AV),NVs l ∧ semF C f_script_reader_store [.ref r 0,.ref p 0] S = some (.agg [.str s,.str t,.sl m l],upd S r p T b (storeS T b R a)):=by
 have hn : hand false [.ref r 0,.ref p 0] S = some ([.ref r 0,.ref p 0],S):=rfl
 have rl:=(List.getElem?_eq_some_iff.mp hr).1
 have ok0 : Ok (S ++ [.cells [.ref r 0] ⟨false,none⟩,.cells [.str [],.str [],.nils] ⟨false,none⟩]):=hS.app (by simp [AO.below,belows,below]; omega)
 have q0:=net_is H.toRdHas (by omega) hab hb ok0 (sy_old hr _) (sy_old hp _) hne
 rw [sy_put hr,sy_put (set_old hp (fun h=>hne h.symm) _)] at q0
 obtain ⟨l1,l2,l3,l4,l5⟩:=netS_le T a b R hab hb
 unfold storeS
 dsimp only
 generalize netS T b R a = n at *
 obtain ⟨m1,m2,m3,m4,m5⟩:=netS_le T n.x n.y n.R l1 (by omega)
 obtain ⟨o1,o2,o3,o4,o5⟩:=netS_le T (netS T n.y n.R n.x).a n.y (netS T n.y n.R n.x).R m3 (by omega)
 have Lx : ∀ x y,((S.set r x).set p y).length = S.length:=fun x y=>by simp
 have okx : ∀ (x : RS) (L : St),L.all (AO.below (S.length + L.length)) = true → Ok ((S.set r (rdO T x)).set p (ptO n.a b) ++ L):=fun x L hL=>Ok.app ((hS.set r (rdO_below _ _)).set p (ptO_below _ _)) (by rw [Lx]; exact hL)
 have rx : ∀ x : RS,((S.set r (rdO T x)).set p (ptO n.a b))[r]? = some (rdO T x):=fun x=>set_old (set_get hr _) hne _
 have q1:=bytes_at H.toRdHas (by omega) l1 (Nat.le_trans l2 hb) (Lx _ _) (okx n.R [.cells [.ref r 0] ⟨false,none⟩,.cells [.str [],.str [],.nils] ⟨false,none⟩,ptO n.x n.y] (by simp [AO.below,belows,below,ptO]; omega)) (rx _) (k:=2) rfl
 rw [upd_r S hne] at q1
 have q2:=bytes_at H.toRdHas (by omega) m3 (by omega) (Lx _ _) (okx (netS T n.y n.R n.x).R [.cells [.ref r 0] ⟨false,none⟩,.cells [.str [],.str [],.nils] ⟨false,none⟩,ptO (netS T n.y n.R n.x).a n.y] (by simp [AO.below,belows,below,ptO]; omega)) (rx _) (k:=2) rfl
 rw [upd_r S hne] at q2
 generalize netS T n.y n.R n.x = n1 at *
 generalize netS T n.y n1.R n1.a = n2 at *
 have hS2 : Ok ((S.set r (rdO T n2.R)).set p (ptO n.a b) ++ [.cells [.ref r 0] ⟨false,none⟩,.cells [.str [],.str [],.nils] ⟨false,none⟩,ptO n2.a n.y,.cells [.str (strS T n1),.str (strS T n2),.nils] ⟨false,none⟩]):=okx n2.R _ (by simp [AO.below,belows,below,ptO]; omega)
 obtain ⟨x,k,S',e1,e2⟩:=each_is (k:=2) (sz:=2) (oc:=[.str (strS T n1),.str (strS T n2),.nils]) (th:=fun y _=>fileS T y) (f:=f_script_reader_store_1) H.toEachHas hT o3 (by omega) (by simp) hS2 (sy_old (rx _) _) (sy_get (Lx _ _) _ 2) (by rw [sy_get (Lx _ _) _ 3]; rfl) (by rw [sy_get0 (Lx _ _)]; rfl)
  (by omega) (by omega) (by omega) (by omega) (by omega) (by omega)
  (fun y S0 l hy _ D=>store1_is H.toClHas (by omega) hy D _ _ rfl) (fun y hy=>fileS_goes T y hy)
 generalize eachS T (fun y _=>fileS T y) n.y n2.R n2.a = E at *
 obtain ⟨a1,a2,a3,a4,a5,a6,a7,a8⟩:=e2
 have q3:=done_is H.toNumHas a2 a3
 have L2 : (S.set r (rdO T n2.R)).length = S.length:=by simp
 simp only [List.length_append,List.length_set,List.length_cons,List.length_nil] at a6 a7
 have key : ∀ R' : RS,∀ i,i < S.length → (S'.set r (rdO T R'))[i]? = ((S.set r (rdO T R')).set p (ptO n.a b))[i]?:= fun R' i hi=>by
  by_cases h1 : i = r
  ·subst h1
   rw [set_get a2,set_old (set_get hr _) hne]
  ·rw [List.getElem?_set_ne (fun e=>h1 e.symm),a7 i (by omega) h1 (by omega) (by omega),List.getElem?_append_left (by simpa using hi)]
   by_cases h2 : i = p
   ·subst h2
    rw [List.getElem?_set_self (by simpa using hi),List.getElem?_set_self (by simpa using hi)]
   ·rw [List.getElem?_set_ne (fun e=>h2 e.symm),List.getElem?_set_ne (fun e=>h1 e.symm),List.getElem?_set_ne (fun e=>h2 e.symm),List.getElem?_set_ne (fun e=>h1 e.symm)]
 have gb : S'[S.length + 1]? = some (.cells [.str [],.str [],.nils] ⟨false,none⟩):=by
  rw [a7 _ (by omega) (by omega) (by omega) (by omega),sy_get (Lx _ _)]; rfl
 have gv : S'[S.length]? = some (.cells [.ref r 0] ⟨false,none⟩):=by
  rw [a7 _ (by omega) (by omega) (by omega) (by omega),sy_get0 (Lx _ _)]; rfl
 have go : S'[S.length + 3]? = some (.cells [.str (strS T n1),.str (strS T n2),x] ⟨false,none⟩):=a4
 generalize doneR n.y E.1 E.2 = R' at *
 have fin : ∃ l,NVs l ∧ l.length = k * 2 ∧ ∀ E : As,look E 4 = .ref (S.length + 1) 0 → endR S.length [.cell 4 true 3] (some (.ret,E,(S'.set r (rdO T R')).set (S.length + 1) (.cells [.str (strS T n1),.str (strS T n2),x] ⟨false,none⟩))) = some (.agg [.str (strS T n1),.str (strS T n2),.sl k l],(S.set r (rdO T R')).set p (ptO n.a b)):=by
  have okU : Ok ((S.set r (rdO T R')).set p (ptO n.a b)):=(hS.set r (rdO_below _ _)).set p (ptO_below _ _)
  have ht : ((S'.set r (rdO T R')).set (S.length + 1) (.cells [.str (strS T n1),.str (strS T n2),x] ⟨false,none⟩)).take S.length = (S.set r (rdO T R')).set p (ptO n.a b):=by
   rw [take_put _ _ _ (by omega)]
   apply List.ext_getElem?
   intro i
   rw [List.getElem?_take]
   split
   ·rename_i hi
    exact key R' i hi
   ·rename_i hi
    rw [List.getElem?_eq_none (by simp; omega)]
  have sl : SlOf ((S'.set r (rdO T R')).set (S.length + 1) (.cells [.str (strS T n1),.str (strS T n2),x] ⟨false,none⟩)) S.length x 2 k:=by
   rcases a5 with a5 | ⟨q,l,f1,f2,f3,f4⟩
   ·exact .inl a5
   ·simp at f2
    exact .inr ⟨q,l,f1,by omega,set_old (set_old f3 (by omega) _) (by omega) _,f4⟩
  have hx : ((S'.set r (rdO T R')).set (S.length + 1) (.cells [.str (strS T n1),.str (strS T n2),x] ⟨false,none⟩))[S.length + 1]? = some (.cells [.str (strS T n1),.str (strS T n2),x] ⟨false,none⟩):=by
   rw [List.getElem?_set_self (by simp; omega)]
  exact end_store okU (Lx _ _) ht (by omega) _ _ x k hx sl
 have fx : x = .nils ∨ ∃ q,x = .msl q 0 k 2:=by
  rcases a5 with a5 | ⟨q,l,f1,_⟩
  ·exact .inl a5.1
  ·exact .inr ⟨q,f1⟩
 obtain ⟨l,f1,f2,f3⟩:=fin
 refine ⟨strS T n1,strS T n2,k,l,f1,?_⟩
 have g : ∀ x y L,((S.set r x).set p y ++ L)[S.length]? = L[0]?:= fun x y L=>sy_get0 (by simp) L
 have g' : ∀ x y L k,((S.set r x).set p y ++ L)[S.length + k]? = L[k]?:= fun x y L k=>sy_get (by simp) L k
 have w : ∀ x y L z,((S.set r x).set p y ++ L).set S.length z = (S.set r x).set p y ++ L.set 0 z:=fun x y L z=>sy_set0 (by simp) L z
 have w' : ∀ x y L z k,((S.set r x).set p y ++ L).set (S.length + k) z = (S.set r x).set p y ++ L.set k z:=fun x y L z k=>sy_set (by simp) L k z
 have hne1 : S.length + 1 ≠ r:=by omega
 have hne3 : S.length + 3 ≠ r:=by omega
 have gv' : ∀ x,(S'.set r x)[S.length]? = some (.cells [.ref r 0] ⟨false,none⟩):=fun x=>set_old gv (by omega) _
 have gb' : ∀ x,(S'.set r x)[S.length + 1]? = some (.cells [.str [],.str [],.nils] ⟨false,none⟩):=fun x=>set_old gb hne1 _
 have go' : ∀ x',(S'.set r x')[S.length + 3]? = some (.cells [.str (strS T n1),.str (strS T n2),x] ⟨false,none⟩):=fun x'=>set_old go hne3 _
 have z2 : ptO n.x n.y = .cells [.int .i64 n.x,.int .i64 n.y] ⟨false,none⟩:=rfl
 have z4 : ptO n2.a n.y = .cells [.int .i64 n2.a,.int .i64 n.y] ⟨false,none⟩:=rfl
 have sref : same (.ref r 0) (.ref r 0) = true:=same_refl _
 rw [H.store.go hn (by simp [K_script_reader_store])]
 unfold upd
 dsimp only
 simp only [List.length_set,List.set_cons_succ,List.set_cons_zero] at *
 rw [z2] at q1
 rw [z4] at q2 e1
 generalize hE : endR S.length = eR at *
 rcases fx with rfl | ⟨q,rfl⟩ <;> simp only [K_script_reader_store,q0,q1,q2,q3,e1,g,g',w,w',gv,gv',gb',go',sref,f3,splice,resL,nv_agg,AV.cells,AV.flat,List.length_set,EVC,EVD,EVB,Nat.reduceEqDiff,eqOp,eqA,eqNil,lenA,asNat,optNat,pt,tupleOf,Nat.reduceSub,Nat.reduceGT,Nat.reduceLT,hand,norms,normVs,normV,freeze,reduceIte,reduceCtorEq,srcCells,slCells,isStr,fillA,rep,asObj,outSl,Nat.reduceMul,Nat.reduceLeDiff,Int.reduceToNat,Int.reduceLE,Int.reduceLT,Int.reduceEq,Nat.reduceAdd,Int.reduceBNe,Int.reduceBEq,Int.reduceNeg]
theorem read2_is (H : StHas C N) {T : List UInt8} (hT : T.length ≤ 1099511627775) {b : Nat} (hb : b ≤ T.length) {S0 : St} {r l so rv : Nat} (D : AD S0 r l so rv) (c0 c2 c3 c4 c5 c6 c7 c8 c9 : AV) (hc : belows S0.length [c0,.nils,c2,c3,c4,c5,c6,c7,c8,c9] = true) :
  StepL C f_script_Read_2 S0 r l so rv 1 3 T b [c0,.nils,c2,c3,c4,c5,c6,c7,c8,c9] (fun _=>storeS T b):=by
 intro R pos x n S h hp hn
 obtain ⟨s,t,m,fl,nf,q⟩:=store_is H hT hp hb h.ok h.hr h.hl D.rl
 dsimp only
 generalize storeS T b R pos = z at *
 obtain ⟨R',pos'⟩:=z
 obtain ⟨S2,e1,e2,e3,e4⟩:=AI_step (bytes:=56) D h hc (by simp) R' pos' [] rfl [.str s,.str t,.sl m fl] rfl (.cons (.str _) (.cons (.str _) (.cons (.sl m nf.cl) .nil))) hn (by omega)
 refine ⟨_,_,_,?_,e3,Nat.le_refl _,fun _=>rfl⟩
 have hh : hand false [.ref l 0,.ref so 0,.ref rv 0] S = some ([.ref l 0,.ref so 0,.ref rv 0],S):=rfl
 have us : (upd S r l T b (R',pos'))[so]? = S[so]?:= by
  show ((S.set r _).set l _)[so]? = _
  rw [List.getElem?_set_ne D.ls,List.getElem?_set_ne D.rs]
 have ho:=h.ho
 have hv:=h.hv
 rw [ho] at us
 have sx:=same_refl x
 rw [List.append_nil] at e1
 simp only [List.length_nil,Nat.add_zero] at *
 rw [H.read2.go hh (by simp [K_script_Read_2])]
 generalize upd S r l T b (R',pos') = U at *
 simp only [List.set_cons_succ,List.set_cons_zero] at ho us e1 e2 e4 ⊢
 simp only [K_script_Read_2,ho,hv,us,q,sx,e1,e2,e4,splice,AV.cells,AV.flat,Nat.succ_ne_zero,EVC,EVD,EVB,Nat.reduceEqDiff,eqOp,eqA,eqNil,lenA,asNat,optNat,pt,tupleOf,Nat.reduceSub,Nat.reduceGT,Nat.reduceLT,hand,norms,normVs,normV,freeze,reduceIte,reduceCtorEq,srcCells,slCells,isStr,fillA,rep,asObj,outSl,Nat.reduceMul,Nat.reduceLeDiff,Int.reduceToNat,Int.reduceLE,Int.reduceLT,Int.reduceEq,Nat.reduceAdd,Int.reduceBNe,Int.reduceBEq,Int.reduceNeg]
end Go.Ev
namespace Go.Ev
set_option maxRecDepth 100000
set_option linter.unusedSimpArgs false
set_option linter.unusedVariables false
variable {C : Ctx} {N : List UInt8 → Option Int}
theorem freeze_take : ∀ (fs : List Nat) (τ : St) (n : Nat),(∀ q ∈ fs,n ≤ q) → (freeze τ fs).take n = τ.take n
 | [],τ,n,h=>rfl
 | q :: fs,τ,n,h=>by
   unfold freeze
   split
   ·rw [freeze_take fs _ n (fun q hq=>h q (by simp [hq])),take_put _ _ _ (h q (by simp))]
   ·exact freeze_take fs _ n (fun q hq=>h q (by simp [hq]))
theorem tidy_is {n : Nat} {τ U : St} (hU : Ok U) (hl : U.length = n) (ht : τ.take n = U) {vs : List AV} (hv : belows 0 vs = true) : tidy n vs τ = U:=by
 unfold tidy
 have hok : (τ.take n).all (AO.below n) = true:=by rw [ht,← hl]; exact hU
 by_cases he : τ.length = n
 ·rw [if_pos he,← ht,List.take_of_length_le (by omega)]
 ·rw [if_neg he,hok,belows_mono (Nat.zero_le _) _ hv]
  exact ht
theorem sl_norm {τ : St} {n sz m : Nat} {x : AV} (h : SlOf τ n x sz m) : ∃ l fs,normV τ (norms τ 11) x = some (.sl m l,fs) ∧ NVs l ∧ ∀ q ∈ fs,n ≤ q:=by
 rcases h with ⟨rfl,rfl⟩ | ⟨q,l,rfl,e2,e3,e4,e5,e6⟩
 ·exact ⟨[],[],rfl,fun v hv=>(nomatch hv),fun q hq=>(nomatch hq)⟩
 ·exact ⟨l,[q],nv_msl e3 e4 e5,e5,fun q' hq=>by simp at hq; omega⟩
theorem end_script {n : Nat} {τ U : St} (hU : Ok U) (hl : U.length = n) (ht : τ.take n = U) {m : List UInt8} {x1 x4 x9 : AV} {w i j k l : Int} {h : Bool} (hx : τ[n]? = some (.cells [.str m,x1,.int .i64 w,.bool h,x4,.int .i64 i,.int .i64 j,.int .i64 k,.int .i64 l,x9] ⟨false,none⟩)) {n1 n4 n9 : Nat} (s1 : SlOf τ n x1 3 n1) (s4 : SlOf τ n x4 3 n4) (s9 : SlOf τ n x9 1 n9) :
  ∃ c : List AV,c.length = 10 ∧ NVs c ∧ c.all AV.flat = true ∧ ∀ (E : As) (p e : Int),look E 2 = .ref n 0 → look E 3 = .int .i64 p → look E 4 = .int .i64 e → endR n [.cell 2 true 10,.tmp 3,.tmp 4] (some (.ret,E,τ)) = some (.tup [.agg c,.int .i64 p,.int .i64 e],U):=by
 obtain ⟨l1,f1,a1,b1,c1⟩:=sl_norm s1
 obtain ⟨l4,f4,a4,b4,c4⟩:=sl_norm s4
 obtain ⟨l9,f9,a9,b9,c9⟩:=sl_norm s9
 have hr : ∀ (E : As) (p e : Int),look E 2 = .ref n 0 → look E 3 = .int .i64 p → look E 4 = .int .i64 e → resL E τ [.cell 2 true 10,.tmp 3,.tmp 4] = some [.agg [.str m,x1,.int .i64 w,.bool h,x4,.int .i64 i,.int .i64 j,.int .i64 k,.int .i64 l,x9],.int .i64 p,.int .i64 e]:=fun E p e h2 h3 h4=>by
  have g1 : x1.flat = true:=by rcases s1 with ⟨rfl,_⟩ | ⟨q,l,rfl,_⟩ <;> rfl
  have g4 : x4.flat = true:=by rcases s4 with ⟨rfl,_⟩ | ⟨q,l,rfl,_⟩ <;> rfl
  have g9 : x9.flat = true:=by rcases s9 with ⟨rfl,_⟩ | ⟨q,l,rfl,_⟩ <;> rfl
  simp only [resL,h2,h3,h4,hx,pt,List.drop_zero,List.length_cons,List.length_nil,List.take]
  rfl
 refine ⟨[.str m,.sl n1 l1,.int .i64 w,.bool h,.sl n4 l4,.int .i64 i,.int .i64 j,.int .i64 k,.int .i64 l,.sl n9 l9],rfl,.cons (.str _) (.cons (.sl _ b1.cl) (.cons (.int _ _) (.cons (.bool _) (.cons (.sl _ b4.cl) (.cons (.int _ _) (.cons (.int _ _) (.cons (.int _ _) (.cons (.int _ _) (.cons (.sl _ b9.cl) .nil))))))))),rfl,fun E p e h2 h3 h4=>?_⟩
 rw [endR_ret,hr E p e h2 h3 h4]
 have hh : ∃ fs,(∀ q ∈ fs,n ≤ q) ∧ hand false [.agg [.str m,x1,.int .i64 w,.bool h,x4,.int .i64 i,.int .i64 j,.int .i64 k,.int .i64 l,x9],.int .i64 p,.int .i64 e] τ = some ([.agg [.str m,.sl n1 l1,.int .i64 w,.bool h,.sl n4 l4,.int .i64 i,.int .i64 j,.int .i64 k,.int .i64 l,.sl n9 l9],.int .i64 p,.int .i64 e],freeze τ fs):=by
  refine ⟨f1 ++ (f4 ++ f9),fun q hq=>?_,?_⟩
  ·rcases List.mem_append.mp hq with hq | hq
   ·exact c1 q hq
   ·rcases List.mem_append.mp hq with hq | hq
    ·exact c4 q hq
    ·exact c9 q hq
  ·simp only [hand_is,nvs_cons,nvs_nil,nv_agg,nv_int,nv_str,nv_bool,a1,a4,a9,List.append_nil,List.nil_append,List.append_assoc]
 obtain ⟨fs,hf,hh⟩:=hh
 dsimp only
 rw [hh]
 dsimp only [tupleOf]
 rw [tidy_is hU hl (by rw [freeze_take fs _ _ hf]; exact ht) (by simp only [belows,below,b1.cl,b4.cl,b9.cl,Bool.and_self])]
end Go.Ev
namespace Go.Ev
set_option maxRecDepth 100000
set_option linter.unusedSimpArgs false
set_option linter.unusedVariables false
variable {C : Ctx} {N : List UInt8 → Option Int}
structure ScHas (C : Ctx) (N : List UInt8 → Option Int) : Prop extends StHas C N where
 read : Has C f_script_Read K_script_Read
def readS (T : List UInt8) (N : List UInt8 → Option Int) (b : Nat) : RS:=
 let M0:=netS T b ⟨0,0⟩ 0
 let M1:=netS T b M0.R M0.a
 let R1:=numR T N M0.a M1
 let M2:=netS T b R1 M1.a
 let R2:=wordR T M1.a M2
 let E3:=eachS T (fun y _=>verdS T y) b R2 M2.a
 let B4:=boundS T N b E3.1 E3.2
 let E5:=eachS T (fun y _=>storeS T y) b B4.1 B4.2
 let E6:=eachS T (pathS T) b E5.1 E5.2
 doneR b E6.1 E6.2
theorem netS_stick {T : List UInt8} {b : Nat} {R : RS} {a : Nat} (h : R.e ≠ 0) : netS T b R a = ⟨R,a,0,0⟩:=by unfold netS; rw [if_neg h]
theorem doneR_stick {b : Nat} {R : RS} {a : Nat} (h : R.e ≠ 0) : doneR b R a = R:=by
 unfold doneR failS
 rw [if_neg h,ite_self]
theorem verdS_goes (T : List UInt8) (y : Nat) (hy : y ≤ T.length) : Goes1 (fun _=>verdS T y) y:=by
 intro n R x hx
 obtain ⟨l1,l2,l3,l4,l5⟩:=netS_le T x y R hx hy
 refine ⟨l3,fun h=>?_⟩
 unfold verdS at h ⊢
 dsimp only at h ⊢
 by_cases e : (netS T y R x).R.e = 0
 ·exact l5 e
 ·exfalso
  rw [netS_stick (R:=(netS T y R x).R) e] at h
  dsimp only at h
  rw [netS_stick (R:=(netS T y R x).R) e] at h
  dsimp only at h
  rw [netS_stick (R:=(netS T y R x).R) e] at h
  dsimp only at h
  rw [doneR_stick e] at h
  exact e h
theorem pathS_goes (T : List UInt8) (y : Nat) (hy : y ≤ T.length) : Goes1 (pathS T y) y:=by
 intro n R x hx
 obtain ⟨l1,l2,l3,l4,l5⟩:=netS_le T x y R hx hy
 unfold pathS
 by_cases c : 64 ≤ n
 ·rw [if_pos c]
  exact ⟨hx,fun h=>absurd h (failS_ne (by omega))⟩
 ·rw [if_neg c]
  exact ⟨l3,l5⟩
theorem eachL_stick (th : Nat → RS → Nat → RS × Nat) (y k n : Nat) (R : RS) (x : Nat) (h : R.e ≠ 0) : eachL th y k n R x = (R,x):=by
 cases k with
 | zero=>rfl
 | succ k=>exact if_neg (fun e=>h e.1)
theorem eachS_stick (T : List UInt8) (th : Nat → Nat → RS → Nat → RS × Nat) (b : Nat) (R : RS) (a : Nat) (h : R.e ≠ 0) : eachS T th b R a = (R,a):=by
 unfold eachS
 rw [netS_stick h]
 dsimp only
 rw [eachL_stick _ _ _ _ _ _ h]
theorem eachS_le (T : List UInt8) (th : Nat → Nat → RS → Nat → RS × Nat) (b : Nat) (hb : b ≤ T.length) (R : RS) (a : Nat) (hab : a ≤ b) : a ≤ (eachS T th b R a).2 ∧ (eachS T th b R a).2 ≤ b:=by
 obtain ⟨l1,l2,l3,l4,l5⟩:=netS_le T a b R hab hb
 unfold eachS
 dsimp only
 exact ⟨l4,l3⟩
theorem storeS_goes (T : List UInt8) (y : Nat) (hy : y ≤ T.length) : Goes1 (fun _=>storeS T y) y:=by
 intro n R x hx
 obtain ⟨l1,l2,l3,l4,l5⟩:=netS_le T x y R hx hy
 refine ⟨l3,fun h=>?_⟩
 unfold storeS at h ⊢
 dsimp only at h ⊢
 by_cases e : (netS T y R x).R.e = 0
 ·exact l5 e
 ·exfalso
  rw [netS_stick (R:=(netS T y R x).R) e] at h
  dsimp only at h
  rw [netS_stick (R:=(netS T y R x).R) e] at h
  dsimp only at h
  rw [eachS_stick _ _ _ _ _ e] at h
  dsimp only at h
  rw [doneR_stick e] at h
  exact e h
theorem boundS_le (T : List UInt8) (N) (b : Nat) (hb : b ≤ T.length) (R : RS) (a : Nat) (hab : a ≤ b) : a ≤ (boundS T N b R a).2 ∧ (boundS T N b R a).2 ≤ b:=by
 obtain ⟨l1,l2,l3,l4,l5⟩:=netS_le T a b R hab hb
 unfold boundS
 exact ⟨l4,l3⟩
theorem SlOf_mono {S S' : St} {base base' : Nat} {x : AV} {sz n : Nat} (h : SlOf S base x sz n) (hb : base' ≤ base) (hs : ∀ q,base ≤ q → q < S.length → S'[q]? = S[q]?) : SlOf S' base' x sz n:=by
 rcases h with h | ⟨q,l,e1,e2,e3,e4⟩
 ·exact .inl h
 ·exact .inr ⟨q,l,e1,by omega,by rw [hs q e2 (List.getElem?_eq_some_iff.mp e3).1]; exact e3,e4⟩
def wO (σ : St) (T : List UInt8) (sc : List AV) (R : RS) (a : Nat) : St:=σ ++ [.cells sc ⟨false,none⟩,rdO T R,.cells [.ref (σ.length + 1) 0] ⟨false,none⟩,ptO a T.length]
theorem wO_ok {σ : St} (hσ : Ok σ) (T : List UInt8) {sc : List AV} (hs : belows 0 sc = true) (R : RS) (a : Nat) : Ok (wO σ T sc R a):=hσ.app (by
 simp [AO.below,belows,below,rdO,ptO,belows_mono (Nat.zero_le _) _ hs])
theorem wO_r (σ : St) (T : List UInt8) (sc : List AV) (R : RS) (a : Nat) : (wO σ T sc R a)[σ.length + 1]? = some (rdO T R):=by unfold wO; rw [st_get]; rfl
theorem wO_p (σ : St) (T : List UInt8) (sc : List AV) (R : RS) (a : Nat) : (wO σ T sc R a)[σ.length + 3]? = some (ptO a T.length):=by unfold wO; rw [st_get]; rfl
theorem wO_v (σ : St) (T : List UInt8) (sc : List AV) (R : RS) (a : Nat) : (wO σ T sc R a)[σ.length + 2]? = some (.cells [.ref (σ.length + 1) 0] ⟨false,none⟩):=by unfold wO; rw [st_get]; rfl
theorem wO_s (σ : St) (T : List UInt8) (sc : List AV) (R : RS) (a : Nat) : (wO σ T sc R a)[σ.length]? = some (.cells sc ⟨false,none⟩):=by unfold wO; rw [st_get0]; rfl
theorem wO_set (σ : St) (T : List UInt8) (sc : List AV) (R R' : RS) (a a' : Nat) : ((wO σ T sc R a).set (σ.length + 1) (rdO T R')).set (σ.length + 3) (ptO a' T.length) = wO σ T sc R' a':= by
 unfold wO
 rw [st_set,st_set]
 rfl
end Go.Ev
namespace Go.Ev
set_option maxRecDepth 100000
set_option linter.unusedSimpArgs false
set_option linter.unusedVariables false
variable {C : Ctx} {N : List UInt8 → Option Int}
set_option maxHeartbeats 1000000 in
theorem script_Read_is (H : ScHas C N) (T : List UInt8) (hT : T.length ≤ 1048576) (σ : St) (hσ : Ok σ) :
  ∃ c : List AV,c.length = 10 ∧ NVs c ∧ c.all AV.flat = true ∧ semF C f_script_Read [.str T] σ = some (.tup [.agg c,.int .i64 (if (readS T N T.length).e = 0 then 0 else (readS T N T.length).place : Nat),.int .i64 (readS T N T.length).e],σ):=by
 have hn : hand false [.str T] σ = some ([.str T],σ):=rfl
 have hle : ¬ (1048576 : Int) < (T.length : Int):=by omega
 have h1 : σ.length + 1 ≠ σ.length + 3:=by omega
 have hT' : T.length ≤ 1099511627776:=by omega
 have hb : T.length ≤ T.length:=Nat.le_refl _
 have q1:=bytes_is H.toRdHas hT' (Nat.zero_le T.length) hb (wO_ok hσ T (sc:=[.str [],.nils,.int .i64 0,.bool false,.nils,.int .i64 0,.int .i64 0,.int .i64 0,.int .i64 0,.nils]) rfl ⟨0,0⟩ 0) (wO_r _ _ _ _ _) (wO_p _ _ _ _ _) h1
 rw [wO_set] at q1
 have la:=netS_le T 0 T.length ⟨0,0⟩ (Nat.zero_le _) hb
 obtain ⟨M0,hM0⟩ : ∃ x,netS T T.length ⟨0,0⟩ 0 = x:=⟨_,rfl⟩
 rw [hM0] at q1 la
 obtain ⟨a1,a2,a3,a4,a5⟩:=la
 obtain ⟨m0,hm0⟩ : ∃ x,strS T M0 = x:=⟨_,rfl⟩
 rw [hm0] at q1
 have q2:=number_is H.toNumHas hT' a3 hb (wO_ok hσ T (sc:=[.str m0,.nils,.int .i64 0,.bool false,.nils,.int .i64 0,.int .i64 0,.int .i64 0,.int .i64 0,.nils]) rfl M0.R M0.a) (wO_r _ _ _ _ _) (wO_p _ _ _ _ _) h1
 rw [wO_set] at q2
 have lb:=netS_le T M0.a T.length M0.R a3 hb
 obtain ⟨M1,hM1⟩ : ∃ x,netS T T.length M0.R M0.a = x:=⟨_,rfl⟩
 rw [hM1] at q2 lb
 obtain ⟨b1,b2,b3,b4,b5⟩:=lb
 obtain ⟨m2,hm2⟩ : ∃ x,(N (strS T M1)).getD 0 = x:=⟨_,rfl⟩
 obtain ⟨R1,hR1⟩ : ∃ x,numR T N M0.a M1 = x:=⟨_,rfl⟩
 rw [hm2,hR1] at q2
 have q3:=word_is H.toNumHas hT' b3 hb (wO_ok hσ T (sc:=[.str m0,.nils,.int .i64 m2,.bool false,.nils,.int .i64 0,.int .i64 0,.int .i64 0,.int .i64 0,.nils]) rfl R1 M1.a) (wO_r _ _ _ _ _) (wO_p _ _ _ _ _) h1
 rw [wO_set] at q3
 have lc:=netS_le T M1.a T.length R1 b3 hb
 obtain ⟨M2,hM2⟩ : ∃ x,netS T T.length R1 M1.a = x:=⟨_,rfl⟩
 rw [hM2] at q3 lc
 obtain ⟨c1,c2,c3,c4,c5⟩:=lc
 obtain ⟨m3,hm3⟩ : ∃ x,decide (strS T M2 = [104,109,97,99]) = x:=⟨_,rfl⟩
 obtain ⟨R2,hR2⟩ : ∃ x,wordR T M1.a M2 = x:=⟨_,rfl⟩
 rw [hm3,hR2] at q3
 have ok3:=wO_ok hσ T (sc:=[.str m0,.nils,.int .i64 m2,.bool m3,.nils,.int .i64 0,.int .i64 0,.int .i64 0,.int .i64 0,.nils]) rfl R2 M2.a
 obtain ⟨x4,n4,S4,q4,r4⟩:=each_is (k:=4) (sz:=3) (oc:=[.str m0,.nils,.int .i64 m2,.bool m3,.nils,.int .i64 0,.int .i64 0,.int .i64 0,.int .i64 0,.nils]) (th:=fun y _=>verdS T y) (f:=f_script_Read_1) H.toEachHas (by omega) c3 hb (by simp) ok3 (wO_r _ _ _ _ _) (wO_p _ _ _ _ _) (wO_s _ _ _ _ _) (wO_v _ _ _ _ _)
  (by omega) (by omega) (by omega) (by omega) (by omega) (by omega)
  (fun y S0 l hy hl D=>read1_is H.toClHas (by omega) hy D _ _ _ _ _ _ _ _ _ (belows_mono (Nat.zero_le _) _ rfl)) (fun y hy=>verdS_goes T y hy)
 have v4 : S4[σ.length + 2]? = some (.cells [.ref (σ.length + 1) 0] ⟨false,none⟩):=by
  rw [r4.fr _ (by simp [wO]) (by omega) (by omega) (by omega)]; exact wO_v _ _ _ _ _
 have p4 : ∀ i,i < σ.length → S4[i]? = σ[i]?:= fun i hi=>by
  rw [r4.fr i (by simp [wO]; omega) (by omega) (by omega) (by omega)]
  exact List.getElem?_append_left hi
 have e4:=eachS_le T (fun y _=>verdS T y) T.length hb R2 M2.a c3
 have len3 : (wO σ T [.str m0,.nils,.int .i64 m2,.bool m3,.nils,.int .i64 0,.int .i64 0,.int .i64 0,.int .i64 0,.nils] R2 M2.a).length = σ.length + 4:=by simp [wO]
 obtain ⟨E3,hE3⟩ : ∃ x,eachS T (fun y _=>verdS T y) T.length R2 M2.a = x:=⟨_,rfl⟩
 rw [hE3] at r4 e4
 obtain ⟨k1,k2,k3,k4,k5,k6,k7,k8⟩:=r4
 rw [len3] at k5 k6 k7
 obtain ⟨d1,d2,d3,d4,q5⟩:=rdBounds_is H.toItHas hT' e4.2 hb k1 k2 k3 h1
 have e5:=boundS_le T N T.length hb E3.1 E3.2 e4.2
 obtain ⟨B4,hB4⟩ : ∃ x,boundS T N T.length E3.1 E3.2 = x:=⟨_,rfl⟩
 rw [hB4] at q5 e5
 have L5 : (upd S4 (σ.length + 1) (σ.length + 3) T T.length B4).length = S4.length:=by simp [upd]
 have ok5 : Ok (upd S4 (σ.length + 1) (σ.length + 3) T T.length B4):=(k1.set _ (rdO_below _ _)).set _ (ptO_below _ _)
 have g5r : (upd S4 (σ.length + 1) (σ.length + 3) T T.length B4)[σ.length + 1]? = some (rdO T B4.1):=set_old (set_get k2 _) h1 _
 have g5p : (upd S4 (σ.length + 1) (σ.length + 3) T T.length B4)[σ.length + 3]? = some (ptO B4.2 T.length):=set_get (set_old k3 (fun e=>h1 e.symm) _) _
 have g5 : ∀ i,i ≠ σ.length + 1 → i ≠ σ.length + 3 → (upd S4 (σ.length + 1) (σ.length + 3) T T.length B4)[i]? = S4[i]?:= fun i h1 h2=>by
  show ((S4.set _ _).set _ _)[i]? = _
  rw [List.getElem?_set_ne (fun e=>h2 e.symm),List.getElem?_set_ne (fun e=>h1 e.symm)]
 obtain ⟨S5,hS5⟩ : ∃ x,upd S4 (σ.length + 1) (σ.length + 3) T T.length B4 = x:=⟨_,rfl⟩
 rw [hS5] at q5 L5 ok5 g5r g5p
 simp only [hS5] at g5
 have k4' : S5[σ.length]? = some (.cells [.str m0,.nils,.int .i64 m2,.bool m3,x4,.int .i64 0,.int .i64 0,.int .i64 0,.int .i64 0,.nils] ⟨false,none⟩):=by
  rw [g5 _ (by omega) (by omega)]; exact k4
 have v5 : S5[σ.length + 2]? = some (.cells [.ref (σ.length + 1) 0] ⟨false,none⟩):=by
  rw [g5 _ (by omega) (by omega)]; exact v4
 have bx4 : below S5.length x4 = true:=by
  have:=ok_all ok5 k4'
  simp only [AO.below,belows,Bool.and_eq_true] at this
  exact this.2.2.2.2.1
 have bs6 : belows S5.length [.str m0,.nils,.int .i64 m2,.bool m3,x4,.int .i64 d1,.int .i64 d2,.int .i64 d3,.int .i64 d4,.nils] = true:=by
  simp only [belows,below,bx4,Bool.and_self]
 have ok6 : Ok (S5.set σ.length (.cells [.str m0,.nils,.int .i64 m2,.bool m3,x4,.int .i64 d1,.int .i64 d2,.int .i64 d3,.int .i64 d4,.nils] ⟨false,none⟩)):=ok5.set2 _ bs6
 have hlt : σ.length < S5.length:=(List.getElem?_eq_some_iff.mp k4').1
 obtain ⟨x1,n1,S7,q6,r6⟩:=each_is (k:=1) (sz:=3) (oc:=[.str m0,.nils,.int .i64 m2,.bool m3,x4,.int .i64 d1,.int .i64 d2,.int .i64 d3,.int .i64 d4,.nils]) (th:=fun y _=>storeS T y) (f:=f_script_Read_2) H.toEachHas (by omega) e5.2 hb (by simp) ok6 (set_old g5r (by omega) _) (set_old g5p (by omega) _) (List.getElem?_set_self hlt) (set_old v5 (by omega) _)
  (by omega) (by omega) (by omega) (by omega) (by omega) (by omega)
  (fun y S0 l hy hl D=>read2_is H.toStHas (by omega) hy D _ _ _ _ _ _ _ _ _ (belows_mono (by simpa using hl) _ bs6)) (fun y hy=>storeS_goes T y hy)
 have e6:=eachS_le T (fun y _=>storeS T y) T.length hb B4.1 B4.2 e5.2
 obtain ⟨E5,hE5⟩ : ∃ x,eachS T (fun y _=>storeS T y) T.length B4.1 B4.2 = x:=⟨_,rfl⟩
 rw [hE5] at r6 e6
 obtain ⟨l1,l2,l3,l4,l5,l6,l7,l8⟩:=r6
 rw [List.length_set,L5] at l5 l6 l7
 have f7 : ∀ i,i < S4.length → i ≠ σ.length + 1 → i ≠ σ.length + 3 → i ≠ σ.length → S7[i]? = S4[i]?:= fun i h1 h2 h3 h4=>by
  rw [l7 i h1 h2 h3 h4,List.getElem?_set_ne (fun e=>h4 e.symm),g5 i h2 h3]
 have v7 : S7[σ.length + 2]? = some (.cells [.ref (σ.length + 1) 0] ⟨false,none⟩):=by
  rw [f7 _ (by omega) (by omega) (by omega) (by omega)]; exact v4
 have l4' : S7[σ.length]? = some (.cells [.str m0,x1,.int .i64 m2,.bool m3,x4,.int .i64 d1,.int .i64 d2,.int .i64 d3,.int .i64 d4,.nils] ⟨false,none⟩):=l4
 have bs7 : belows S7.length [.str m0,x1,.int .i64 m2,.bool m3,x4,.int .i64 d1,.int .i64 d2,.int .i64 d3,.int .i64 d4,.nils] = true:=ok_all l1 l4'
 obtain ⟨x9,n9,S8,q7,r7⟩:=each_is (k:=9) (sz:=1) (oc:=[.str m0,x1,.int .i64 m2,.bool m3,x4,.int .i64 d1,.int .i64 d2,.int .i64 d3,.int .i64 d4,.nils]) (th:=pathS T) (f:=f_script_Read_3) H.toEachHas (by omega) e6.2 hb (by simp) l1 l2 l3 l4' v7
  (by omega) (by omega) (by omega) (by omega) (by omega) (by omega)
  (fun y S0 l hy hl D=>read3_is H.toPathHas (by omega) hy D _ _ _ _ _ _ _ _ _ (belows_mono hl _ bs7)) (fun y hy=>pathS_goes T y hy)
 obtain ⟨E6,hE6⟩ : ∃ x,eachS T (pathS T) T.length E5.1 E5.2 = x:=⟨_,rfl⟩
 rw [hE6] at r7
 obtain ⟨m1,n2,n3,n4',n5,n6,n7,n8⟩:=r7
 have f8 : ∀ i,i < S7.length → i ≠ σ.length + 1 → i ≠ σ.length + 3 → i ≠ σ.length → S8[i]? = S7[i]?:= n7
 have v8 : S8[σ.length + 2]? = some (.cells [.ref (σ.length + 1) 0] ⟨false,none⟩):=by
  rw [f8 _ (by omega) (by omega) (by omega) (by omega)]; exact v7
 have n4'' : S8[σ.length]? = some (.cells [.str m0,x1,.int .i64 m2,.bool m3,x4,.int .i64 d1,.int .i64 d2,.int .i64 d3,.int .i64 d4,x9] ⟨false,none⟩):=n4'
 have q8:=done_is H.toNumHas n2 n3
 obtain ⟨Rf,hRf⟩ : ∃ x,doneR T.length E6.1 E6.2 = x:=⟨_,rfl⟩
 rw [hRf] at q8
 have hR : readS T N T.length = Rf:=by
  unfold readS
  dsimp only
  rw [hM0,hM1,hR1,hM2,hR2,hE3,hB4,hE5,hE6,hRf]
 rw [hR]
 have s4 : SlOf (S8.set (σ.length + 1) (rdO T Rf)) (σ.length + 1) x4 3 n4:=SlOf_mono k5 (by omega) (fun q h1 h2=>by
  rw [List.getElem?_set_ne (by omega),f8 q (by omega) (by omega) (by omega) (by omega),f7 q h2 (by omega) (by omega) (by omega)])
 have s1 : SlOf (S8.set (σ.length + 1) (rdO T Rf)) (σ.length + 1) x1 3 n1:=SlOf_mono l5 (by omega) (fun q h1 h2=>by
  rw [List.getElem?_set_ne (by omega),f8 q h2 (by omega) (by omega) (by omega)])
 have s9 : SlOf (S8.set (σ.length + 1) (rdO T Rf)) (σ.length + 1) x9 1 n9:=SlOf_mono n5 (by omega) (fun q h1 h2=>by
  rw [List.getElem?_set_ne (by omega)])
 have p9 : ∀ x,((S8.set (σ.length + 1) (rdO T Rf)).set σ.length x).take σ.length = σ:=fun x=>by
  rw [take_put _ _ _ (Nat.le_refl _),take_put _ _ _ (by omega)]
  apply List.ext_getElem?
  intro i
  rw [List.getElem?_take]
  split
  ·rename_i hi
   rw [f8 i (by omega) (by omega) (by omega) (by omega),f7 i (by omega) (by omega) (by omega) (by omega),p4 i hi]
  ·rename_i hi
   rw [List.getElem?_eq_none (by omega)]
 have g9 : (S8.set (σ.length + 1) (rdO T Rf))[σ.length + 1]? = some (rdO T Rf):=set_get n2 _
 have g9v : (S8.set (σ.length + 1) (rdO T Rf))[σ.length + 2]? = some (.cells [.ref (σ.length + 1) 0] ⟨false,none⟩):=set_old v8 (by omega) _
 have g9s : (S8.set (σ.length + 1) (rdO T Rf))[σ.length]? = some (.cells [.str m0,x1,.int .i64 m2,.bool m3,x4,.int .i64 d1,.int .i64 d2,.int .i64 d3,.int .i64 d4,x9] ⟨false,none⟩):=set_old n4'' (by omega) _
 have g9' : ∀ x,((S8.set (σ.length + 1) (rdO T Rf)).set σ.length x)[σ.length + 1]? = some (rdO T Rf):=fun x=>set_old g9 (by omega) _
 have g9v' : ∀ x,((S8.set (σ.length + 1) (rdO T Rf)).set σ.length x)[σ.length + 2]? = some (.cells [.ref (σ.length + 1) 0] ⟨false,none⟩):=fun x=>set_old g9v (by omega) _
 have g9s' : ∀ x,((S8.set (σ.length + 1) (rdO T Rf)).set σ.length x)[σ.length]? = some x:=fun x=>set_get g9s x
 have v6 : ∀ x,(S5.set σ.length x)[σ.length + 2]? = some (.cells [.ref (σ.length + 1) 0] ⟨false,none⟩):=fun x=>set_old v5 (by omega) _
 have fx1 : x1.flat = true:=by rcases s1 with ⟨rfl,_⟩ | ⟨q,l,rfl,_⟩ <;> rfl
 have fx4 : x4.flat = true:=by rcases s4 with ⟨rfl,_⟩ | ⟨q,l,rfl,_⟩ <;> rfl
 have fx9 : x9.flat = true:=by rcases s9 with ⟨rfl,_⟩ | ⟨q,l,rfl,_⟩ <;> rfl
 have sp : ∀ p : Nat,same (.int .i64 p) (.int .i64 p) = true:=fun p=>same_refl _
 have sr : same (.ref (σ.length + 1) 0) (.ref (σ.length + 1) 0) = true:=same_refl _
 rw [H.read.go hn (by simp [K_script_Read])]
 generalize hS9 : S8.set (σ.length + 1) (rdO T Rf) = S9 at *
 have nilS : ∀ (S : St) (sz : Nat),SlOf S σ.length .nils sz 0:=fun S sz=>.inl ⟨rfl,rfl⟩
 by_cases c : Rf.e = 0
 ·rw [if_pos c]
  obtain ⟨cs,w1,w2,w3,w4⟩:=end_script hσ rfl (p9 (.cells [.str m0,x1,.int .i64 m2,.bool m3,x4,.int .i64 d1,.int .i64 d2,.int .i64 d3,.int .i64 d4,x9] ⟨false,none⟩)) (g9s' _) (SlOf_mono s1 (Nat.le_succ _) (fun q h1 h2=>by rw [List.getElem?_set_ne (by omega)])) (SlOf_mono s4 (Nat.le_succ _) (fun q h1 h2=>by rw [List.getElem?_set_ne (by omega)])) (SlOf_mono s9 (Nat.le_succ _) (fun q h1 h2=>by rw [List.getElem?_set_ne (by omega)]))
  refine ⟨cs,w1,w2,w3,?_⟩
  have ce : ((Rf.e : Int) != 0) = false:=by simp [c]
  unfold wO rdO ptO at *
  simp only [Int.natCast_zero] at q1
  generalize hE : endR σ.length = eR at *
  simp only [K_script_Read,hle,q1,q2,q3,q4,q5,q6,q7,q8,v4,v5,v6,v7,v8,k4',g9,g9v,g9s,g9',g9v',g9s',ce,splice,AV.cells,fx1,fx4,fx9,EVC,EVD,EVB,Nat.reduceEqDiff,eqOp,eqA,eqNil,lenA,asNat,optNat,pt,tupleOf,Nat.reduceSub,Nat.reduceGT,Nat.reduceLT,hand,norms,normVs,normV,freeze,reduceIte,reduceCtorEq,srcCells,slCells,isStr,fillA,rep,asObj,outSl,Nat.reduceMul,Nat.reduceLeDiff,Int.reduceToNat,Int.reduceLE,Int.reduceLT,Int.reduceEq,Nat.reduceAdd,Int.reduceBNe,Int.reduceBEq,Int.reduceNeg]
  rw [w4 _ 0 0 rfl rfl rfl,c]
  rfl
 ·rw [if_neg c]
  obtain ⟨cs,w1,w2,w3,w4⟩:=end_script hσ rfl (p9 (.cells [.str [],.nils,.int .i64 0,.bool false,.nils,.int .i64 0,.int .i64 0,.int .i64 0,.int .i64 0,.nils] ⟨false,none⟩)) (g9s' _) (nilS _ 3) (nilS _ 3) (nilS _ 1)
  refine ⟨cs,w1,w2,w3,?_⟩
  have ce : ((Rf.e : Int) != 0) = true:=by simp [c]
  unfold wO rdO ptO at *
  simp only [Int.natCast_zero] at q1
  generalize hE : endR σ.length = eR at *
  simp only [K_script_Read,hle,q1,q2,q3,q4,q5,q6,q7,q8,v4,v5,v6,v7,v8,k4',g9,g9v,g9s,g9',g9v',g9s',ce,sp,sr,splice,AV.cells,AV.flat,fx1,fx4,fx9,EVC,EVD,EVB,Nat.reduceEqDiff,eqOp,eqA,eqNil,lenA,asNat,optNat,pt,tupleOf,Nat.reduceSub,Nat.reduceGT,Nat.reduceLT,hand,norms,normVs,normV,freeze,reduceIte,reduceCtorEq,srcCells,slCells,isStr,fillA,rep,asObj,outSl,Nat.reduceMul,Nat.reduceLeDiff,Int.reduceToNat,Int.reduceLE,Int.reduceLT,Int.reduceEq,Nat.reduceAdd,Int.reduceBNe,Int.reduceBEq,Int.reduceNeg]
  rw [w4 _ Rf.place Rf.e rfl rfl rfl]
end Go.Ev
namespace Go.Ev
set_option maxRecDepth 100000
set_option linter.unusedSimpArgs false
set_option linter.unusedVariables false
theorem at_app {T : List UInt8} (B : List UInt8) {i : Nat} (h : i < T.length) : (T ++ B)[i]? = T[i]?:= List.getElem?_append_left h
theorem frL_app (T B : List UInt8) (a b : Nat) (hb : b ≤ T.length) : ∀ (k i n : Nat),i + k = b → a ≤ i → frL (T ++ B) a k i n = frL T a k i n
 | 0,i,n,hi,ha=>rfl
 | k + 1,i,n,hi,ha=>by
   unfold frL
   rw [at_app B (show i < T.length by omega),at_app B (show a < T.length by omega)]
   cases T[i]? with
   | none=>rfl
   | some c=>
     dsimp only
     rw [frL_app T B a b hb k (i + 1) _ (by omega) (by omega)]
theorem frS_zero {T : List UInt8} {a b i n : Nat} (h : frL T a (b - a) a 0 = (0,i,n)) : frS T a b = if b - (i + 1) ≤ n then (0,0,4) else if T[i + 1 + n]? = some 44 then (i + 1,i + 1 + n,0) else (0,0,3):=by simp only [frS,h]
theorem frS_succ {T : List UInt8} {a b i n e : Nat} (h : frL T a (b - a) a 0 = (e + 1,i,n)) : frS T a b = (0,0,e + 1):=by
 unfold frS
 rw [h]
 rfl
theorem frS_app (T B : List UInt8) {a b : Nat} (hab : a ≤ b) (hb : b ≤ T.length) : frS (T ++ B) a b = frS T a b:=by
 have e0:=frL_app T B a b hb (b - a) a 0 (by omega) (Nat.le_refl _)
 cases hz : frL T a (b - a) a 0 with | mk e z=>?_
 obtain ⟨i,n⟩:=z
 rw [hz] at e0
 cases e with
 | succ e=>rw [frS_succ hz,frS_succ e0]
 | zero=>
   rw [frS_zero hz,frS_zero e0]
   by_cases q : b - (i + 1) ≤ n
   ·rw [if_pos q,if_pos q]
   ·rw [if_neg q,if_neg q,at_app B (by omega)]
theorem frL_top (T B : List UInt8) (a m : Nat) : ∀ (k i n : Nat),i + k = T.length → a ≤ i → (frL T a k i n).1 ≠ 4 → frL (T ++ B) a (k + m) i n = frL T a k i n
 | 0,i,n,hi,ha,h=>absurd rfl h
 | k + 1,i,n,hi,ha,h=>by
   rw [show k + 1 + m = (k + m) + 1 by omega]
   have hb' : T[i]? = some (T[i]'(by omega)):=List.getElem?_eq_getElem (by omega)
   unfold frL at h ⊢
   rw [at_app B (show i < T.length by omega),at_app B (show a < T.length by omega)]
   rw [hb'] at h ⊢
   dsimp only at h ⊢
   split at h
   ·rename_i q; rw [if_pos q,if_pos q]
   ·rename_i q
    rw [if_neg q,if_neg q]
    split at h
    ·rename_i q2; rw [if_pos q2,if_pos q2]
    ·rename_i q2
     rw [if_neg q2,if_neg q2]
     exact frL_top T B a m k (i + 1) _ (by omega) (by omega) h
theorem frS_top (T B : List UInt8) {a : Nat} (hab : a ≤ T.length) (h : (frS T a T.length).2.2 ≠ 4) : frS (T ++ B) a (T.length + B.length) = frS T a T.length:=by
 have h4 : (frL T a (T.length - a) a 0).1 ≠ 4:=fun e=>by
  apply h
  cases hz : frL T a (T.length - a) a 0 with | mk e' z=>?_
  obtain ⟨i,n⟩:=z
  rw [hz] at e
  dsimp only at e
  subst e
  rw [frS_succ hz]
 have e0:=frL_top T B a B.length (T.length - a) a 0 (by omega) (Nat.le_refl _) h4
 rw [show T.length - a + B.length = T.length + B.length - a by omega] at e0
 cases hz : frL T a (T.length - a) a 0 with | mk e z=>?_
 obtain ⟨i,n⟩:=z
 rw [hz] at e0
 cases e with
 | succ e=>rw [frS_succ hz,frS_succ e0]
 | zero=>
   rw [frS_zero hz] at h ⊢
   rw [frS_zero e0]
   by_cases q : T.length - (i + 1) ≤ n
   ·rw [if_pos q] at h
    exact absurd rfl h
   ·rw [if_neg q,if_neg (by omega),at_app B (by omega)]
theorem netS_app (T B : List UInt8) {a b : Nat} (R : RS) (hab : a ≤ b) (hb : b ≤ T.length) : netS (T ++ B) b R a = netS T b R a:=by
 unfold netS
 rw [frS_app T B hab hb]
theorem netS_top (T B : List UInt8) {a : Nat} (R : RS) (hab : a ≤ T.length) (h : (netS T T.length R a).R.e ≠ 4) : netS (T ++ B) (T.length + B.length) R a = netS T T.length R a:=by
 unfold netS at h ⊢
 by_cases c : R.e = 0
 ·rw [if_pos c] at h
  rw [if_pos c,if_pos c]
  have h4 : (frS T a T.length).2.2 ≠ 4:=fun e=>by
   rw [if_neg (by rw [e]; decide),e] at h
   apply h
   show (failS R 4 a).e = 4
   unfold failS
   rw [if_pos c]
  rw [frS_top T B hab h4]
 ·rw [if_neg c,if_neg c]
theorem strS_app (T B : List UInt8) (M : NS) (h : M.y ≤ T.length) : strS (T ++ B) M = strS T M:=by
 unfold strS
 rw [List.take_append_of_le_length h]
theorem numR_app (T B : List UInt8) (N) (a : Nat) (M : NS) (h : M.y ≤ T.length) : numR (T ++ B) N a M = numR T N a M:=by
 unfold numR
 rw [strS_app T B M h]
theorem wordR_app (T B : List UInt8) (a : Nat) (M : NS) (h : M.y ≤ T.length) : wordR (T ++ B) a M = wordR T a M:=by
 unfold wordR
 rw [strS_app T B M h]
theorem fileS_app (T B : List UInt8) {a b : Nat} (R : RS) (hab : a ≤ b) (hb : b ≤ T.length) : fileS (T ++ B) b R a = fileS T b R a:=by
 obtain ⟨l1,l2,l3,_⟩:=netS_le T a b R hab hb
 obtain ⟨m1,m2,m3,_⟩:=netS_le T (netS T b R a).x (netS T b R a).y (netS T b R a).R l1 (by omega)
 unfold fileS
 dsimp only
 rw [netS_app T B R hab hb,netS_app T B _ l1 (by omega),netS_app T B _ m3 (by omega)]
theorem verdS_app (T B : List UInt8) {a b : Nat} (R : RS) (hab : a ≤ b) (hb : b ≤ T.length) : verdS (T ++ B) b R a = verdS T b R a:=by
 obtain ⟨l1,l2,l3,_⟩:=netS_le T a b R hab hb
 obtain ⟨m1,m2,m3,_⟩:=netS_le T (netS T b R a).x (netS T b R a).y (netS T b R a).R l1 (by omega)
 obtain ⟨o1,o2,o3,_⟩:=netS_le T (netS T (netS T b R a).y (netS T b R a).R (netS T b R a).x).a (netS T b R a).y (netS T (netS T b R a).y (netS T b R a).R (netS T b R a).x).R m3 (by omega)
 unfold verdS
 dsimp only
 rw [netS_app T B R hab hb,netS_app T B _ l1 (by omega),netS_app T B _ m3 (by omega),netS_app T B _ o3 (by omega)]
theorem eachL_app (T : List UInt8) {th th' : Nat → RS → Nat → RS × Nat} {y : Nat} (hth : Goes1 th y) (h : ∀ n R x,x ≤ y → th' n R x = th n R x) : ∀ (k n : Nat) (R : RS) (x : Nat),x ≤ y → eachL th' y k n R x = eachL th y k n R x
 | 0,n,R,x,hx=>rfl
 | k + 1,n,R,x,hx=>by
   unfold eachL
   rw [h n R x hx,eachL_app T hth h k (n + 1) _ _ (hth n R x hx).1]
theorem eachS_app (T B : List UInt8) {th th' : Nat → Nat → RS → Nat → RS × Nat} (hth : ∀ y,y ≤ T.length → Goes1 (th y) y) (h : ∀ y n R x,y ≤ T.length → x ≤ y → th' y n R x = th y n R x) {a b : Nat} (R : RS) (hab : a ≤ b) (hb : b ≤ T.length) : eachS (T ++ B) th' b R a = eachS T th b R a:=by
 obtain ⟨l1,l2,l3,_⟩:=netS_le T a b R hab hb
 unfold eachS
 dsimp only
 rw [netS_app T B R hab hb]
 rw [eachL_app T (hth _ (by omega)) (fun n R x hx=>h _ n R x (by omega) hx) _ _ _ _ l1]
theorem storeS_app (T B : List UInt8) {a b : Nat} (R : RS) (hab : a ≤ b) (hb : b ≤ T.length) : storeS (T ++ B) b R a = storeS T b R a:=by
 obtain ⟨l1,l2,l3,_⟩:=netS_le T a b R hab hb
 obtain ⟨m1,m2,m3,_⟩:=netS_le T (netS T b R a).x (netS T b R a).y (netS T b R a).R l1 (by omega)
 obtain ⟨o1,o2,o3,_⟩:=netS_le T (netS T (netS T b R a).y (netS T b R a).R (netS T b R a).x).a (netS T b R a).y (netS T (netS T b R a).y (netS T b R a).R (netS T b R a).x).R m3 (by omega)
 unfold storeS
 dsimp only
 rw [netS_app T B R hab hb,netS_app T B _ l1 (by omega),netS_app T B _ m3 (by omega)]
 rw [eachS_app T B (th:=fun y _=>fileS T y) (th':= fun y _=>fileS (T ++ B) y) (fun y hy=>fileS_goes T y hy) (fun y n R x hy hx=>fileS_app T B R hx hy) _ o3 (by omega)]
theorem pathS_app (T B : List UInt8) (n : Nat) {a b : Nat} (R : RS) (hab : a ≤ b) (hb : b ≤ T.length) : pathS (T ++ B) b n R a = pathS T b n R a:=by
 unfold pathS
 rw [netS_app T B R hab hb]
end Go.Ev
namespace Go.Ev
set_option maxRecDepth 100000
set_option linter.unusedSimpArgs false
set_option linter.unusedVariables false
theorem numR_stick {T : List UInt8} {N} {a : Nat} {M : NS} (h : M.R.e ≠ 0) : numR T N a M = M.R:=by
 unfold numR
 cases N (strS T M) with
 | some _=>rfl
 | none=>show failS M.R 3 a = M.R; unfold failS; rw [if_neg h]
theorem wordR_stick {T : List UInt8} {a : Nat} {M : NS} (h : M.R.e ≠ 0) : wordR T a M = M.R:=by
 unfold wordR failS
 rw [if_neg h,ite_self]
theorem netS_stickR {T : List UInt8} {b : Nat} {R : RS} {a : Nat} (h : R.e ≠ 0) : (netS T b R a).R = R:=by rw [netS_stick h]
theorem eachS_stickR {T : List UInt8} {th : Nat → Nat → RS → Nat → RS × Nat} {b : Nat} {R : RS} {a : Nat} (h : R.e ≠ 0) : (eachS T th b R a).1 = R:=by rw [eachS_stick _ _ _ _ _ h]
theorem boundS_stickR {T : List UInt8} {N} {b : Nat} {R : RS} {a : Nat} (h : R.e ≠ 0) : (boundS T N b R a).1 = R:=by
 unfold boundS
 dsimp only
 have s1 : ∀ b a,netS T b R a = ⟨R,a,0,0⟩:=fun b a=>netS_stick h
 have s2 : ∀ a x,numR T N a ⟨R,x,0,0⟩ = R:=fun a x=>numR_stick (M:=⟨R,x,0,0⟩) h
 simp only [s1,s2,doneR_stick h]
theorem eachS_top (T B : List UInt8) {th th' : Nat → Nat → RS → Nat → RS × Nat} (hth : ∀ y,y ≤ T.length → Goes1 (th y) y) (h : ∀ y n R x,y ≤ T.length → x ≤ y → th' y n R x = th y n R x) {a : Nat} (R : RS) (hab : a ≤ T.length) (h4 : (eachS T th T.length R a).1.e ≠ 4) : eachS (T ++ B) th' (T.length + B.length) R a = eachS T th T.length R a:=by
 obtain ⟨l1,l2,l3,_⟩:=netS_le T a T.length R hab (Nat.le_refl _)
 have h5 : (netS T T.length R a).R.e ≠ 4:=fun e=>by
  apply h4
  unfold eachS
  dsimp only
  rw [eachL_stick _ _ _ _ _ _ (by rw [e]; decide),e]
 unfold eachS
 dsimp only
 rw [netS_top T B R hab h5,eachL_app T (hth _ (by omega)) (fun n R x hx=>h _ n R x (by omega) hx) _ _ _ _ l1]
theorem boundS_top (T B : List UInt8) (N) {a : Nat} (R : RS) (hab : a ≤ T.length) (h4 : (boundS T N T.length R a).1.e ≠ 4) : boundS (T ++ B) N (T.length + B.length) R a = boundS T N T.length R a:=by
 obtain ⟨l1,l2,l3,_⟩:=netS_le T a T.length R hab (Nat.le_refl _)
 have h5 : (netS T T.length R a).R.e ≠ 4:=fun e=>by
  have e0 : (netS T T.length R a).R.e ≠ 0:=by rw [e]; decide
  apply h4
  unfold boundS
  dsimp only
  generalize netS T T.length R a = M at *
  have s1 : ∀ b a,netS T b M.R a = ⟨M.R,a,0,0⟩:=fun b a=>netS_stick e0
  have s2 : ∀ a x,numR T N a ⟨M.R,x,0,0⟩ = M.R:=fun a x=>numR_stick (M:=⟨M.R,x,0,0⟩) e0
  simp only [s1,s2,doneR_stick e0,e]
 unfold boundS
 dsimp only
 rw [netS_top T B R hab h5]
 generalize netS T T.length R a = M at *
 have hy : M.y ≤ T.length:=l2
 obtain ⟨m1,m2,m3,_⟩:=netS_le T M.x M.y M.R l1 hy
 rw [netS_app T B _ l1 hy]
 generalize hM1 : netS T M.y M.R M.x = M1 at m1 m2 m3 ⊢
 rw [numR_app T B N _ M1 (by omega)]
 generalize hR1 : numR T N M.x M1 = R1
 obtain ⟨n1,n2,n3,_⟩:=netS_le T M1.a M.y R1 m3 hy
 rw [netS_app T B _ m3 hy]
 generalize hM2 : netS T M.y R1 M1.a = M2 at n1 n2 n3 ⊢
 rw [numR_app T B N _ M2 (by omega)]
 generalize hR2 : numR T N M1.a M2 = R2
 obtain ⟨o1,o2,o3,_⟩:=netS_le T M2.a M.y R2 n3 hy
 rw [netS_app T B _ n3 hy]
 generalize hM3 : netS T M.y R2 M2.a = M3 at o1 o2 o3 ⊢
 rw [numR_app T B N _ M3 (by omega)]
 generalize hR3 : numR T N M2.a M3 = R3
 obtain ⟨p1,p2,p3,_⟩:=netS_le T M3.a M.y R3 o3 hy
 rw [netS_app T B _ o3 hy]
 generalize hM4 : netS T M.y R3 M3.a = M4 at p1 p2 p3 ⊢
 rw [numR_app T B N _ M4 (by omega)]
theorem readS_first (T B : List UInt8) (N) (h0 : (readS T N T.length).e ≠ 0) (h4 : (readS T N T.length).e ≠ 4) : readS (T ++ B) N (T.length + B.length) = readS T N T.length:=by
 have hb : T.length ≤ T.length:=Nat.le_refl _
 unfold readS at h0 h4 ⊢
 dsimp only at h0 h4 ⊢
 obtain ⟨a1,a2,a3,_⟩:=netS_le T 0 T.length ⟨0,0⟩ (Nat.zero_le _) hb
 have t0:=netS_top T B ⟨0,0⟩ (a:=0) (Nat.zero_le _)
 generalize netS T T.length ⟨0,0⟩ 0 = M0 at *
 obtain ⟨b1,b2,b3,_⟩:=netS_le T M0.a T.length M0.R a3 hb
 have t1:=netS_top T B M0.R a3
 have k1:=fun h=>netS_stickR (T:=T) (b:=T.length) (R:=M0.R) (a:=M0.a) h
 generalize hM1 : netS T T.length M0.R M0.a = M1 at b1 b2 b3 t1 k1 h0 h4 ⊢
 have k2:=fun h=>numR_stick (T:=T) (N:=N) (a:=M0.a) (M:=M1) h
 have u2:=numR_app T B N M0.a M1 b2
 generalize hR1 : numR T N M0.a M1 = R1 at k2 u2 h0 h4 ⊢
 obtain ⟨c1,c2,c3,_⟩:=netS_le T M1.a T.length R1 b3 hb
 have t3:=netS_top T B R1 b3
 have k3:=fun h=>netS_stickR (T:=T) (b:=T.length) (R:=R1) (a:=M1.a) h
 generalize hM2 : netS T T.length R1 M1.a = M2 at c1 c2 c3 t3 k3 h0 h4 ⊢
 have k4:=fun h=>wordR_stick (T:=T) (a:=M1.a) (M:=M2) h
 have u4:=wordR_app T B M1.a M2 c2
 generalize hR2 : wordR T M1.a M2 = R2 at k4 u4 h0 h4 ⊢
 have d:=eachS_le T (fun y _=>verdS T y) T.length hb R2 M2.a c3
 have t5:=eachS_top T B (th:=fun y _=>verdS T y) (th':= fun y _=>verdS (T ++ B) y) (fun y hy=>verdS_goes T y hy) (fun y n R x hy hx=>verdS_app T B R hx hy) R2 c3
 have k5:=fun h=>eachS_stickR (T:=T) (th:=fun y _=>verdS T y) (b:=T.length) (R:=R2) (a:=M2.a) h
 generalize hE3 : eachS T (fun y _=>verdS T y) T.length R2 M2.a = E3 at d t5 k5 h0 h4 ⊢
 have e:=boundS_le T N T.length hb E3.1 E3.2 d.2
 have t6:=boundS_top T B N E3.1 d.2
 have k6:=fun h=>boundS_stickR (T:=T) (N:=N) (b:=T.length) (R:=E3.1) (a:=E3.2) h
 generalize hB4 : boundS T N T.length E3.1 E3.2 = B4 at e t6 k6 h0 h4 ⊢
 have f:=eachS_le T (fun y _=>storeS T y) T.length hb B4.1 B4.2 e.2
 have t7:=eachS_top T B (th:=fun y _=>storeS T y) (th':= fun y _=>storeS (T ++ B) y) (fun y hy=>storeS_goes T y hy) (fun y n R x hy hx=>storeS_app T B R hx hy) B4.1 e.2
 have k7:=fun h=>eachS_stickR (T:=T) (th:=fun y _=>storeS T y) (b:=T.length) (R:=B4.1) (a:=B4.2) h
 generalize hE5 : eachS T (fun y _=>storeS T y) T.length B4.1 B4.2 = E5 at f t7 k7 h0 h4 ⊢
 have g:=eachS_le T (pathS T) T.length hb E5.1 E5.2 f.2
 have t8:=eachS_top T B (th:=pathS T) (th':= pathS (T ++ B)) (fun y hy=>pathS_goes T y hy) (fun y n R x hy hx=>pathS_app T B n R hx hy) E5.1 f.2
 have k8:=fun h=>eachS_stickR (T:=T) (th:=pathS T) (b:=T.length) (R:=E5.1) (a:=E5.2) h
 generalize hE6 : eachS T (pathS T) T.length E5.1 E5.2 = E6 at g t8 k8 h0 h4 ⊢
 have z8 : E6.1.e ≠ 4:=fun e=>h4 (by rw [doneR_stick (by rw [e]; decide),e])
 have z7 : E5.1.e ≠ 4:=fun e=>z8 (by rw [k8 (by rw [e]; decide),e])
 have z6 : B4.1.e ≠ 4:=fun e=>z7 (by rw [k7 (by rw [e]; decide),e])
 have z5 : E3.1.e ≠ 4:=fun e=>z6 (by rw [k6 (by rw [e]; decide),e])
 have z4 : R2.e ≠ 4:=fun e=>z5 (by rw [k5 (by rw [e]; decide),e])
 have z3 : M2.R.e ≠ 4:=fun e=>z4 (by rw [k4 (by rw [e]; decide),e])
 have z2 : R1.e ≠ 4:=fun e=>z3 (by rw [k3 (by rw [e]; decide),e])
 have z1 : M1.R.e ≠ 4:=fun e=>z2 (by rw [k2 (by rw [e]; decide),e])
 have z0 : M0.R.e ≠ 4:=fun e=>z1 (by rw [k1 (by rw [e]; decide),e])
 rw [t0 z0,t1 z1,u2,t3 z3,u4,t5 z5,t6 z6,t7 z7,t8 z8]
 unfold doneR at h0 ⊢
 by_cases q : E6.2 < T.length
 ·rw [if_pos q,if_pos (by omega)]
 ·rw [if_neg q] at h0
  rw [if_neg q]
  split
  ·unfold failS
   rw [if_neg h0]
  ·rfl
end Go.Ev
namespace Go.Ev
set_option maxRecDepth 100000
set_option linter.unusedSimpArgs false
set_option linter.unusedVariables false
variable {C : Ctx} {N : List UInt8 → Option Int}
structure FirstHas (C : Ctx) (N : List UInt8 → Option Int) : Prop extends ScHas C N where
 law : Has C f_legatelaw32_ScriptFirst K_legatelaw32_ScriptFirst
 awake : ∀ σ,Ok σ → semF C f_legatelaw32_awake [] σ = some (.bool true,σ)
theorem law32_ScriptFirst (H : FirstHas C N) (T B : List UInt8) (σ : St) (hσ : Ok σ) : semF C f_legatelaw32_ScriptFirst [.str T,.str B] σ = some (.bool true,σ):=by
 have hn : hand false [.str T,.str B] σ = some ([.str T,.str B],σ):=rfl
 have aw:=H.awake σ hσ
 rw [H.law.go hn (by simp [K_legatelaw32_ScriptFirst])]
 by_cases c1 : (60000 : Int) < (T.length : Int)
 ·simp only [K_legatelaw32_ScriptFirst,c1,aw,EVC,EVD,EVB,Nat.reduceEqDiff,eqOp,eqA,eqNil,lenA,asNat,optNat,pt,tupleOf,Nat.reduceSub,Nat.reduceGT,Nat.reduceLT,hand,norms,normVs,normV,freeze,reduceIte,reduceCtorEq,srcCells,slCells,isStr,fillA,rep,asObj,outSl,Nat.reduceMul,Nat.reduceLeDiff,Int.reduceToNat,Int.reduceLE,Int.reduceLT,Int.reduceEq,Nat.reduceAdd,Int.reduceBNe,Int.reduceBEq,Int.reduceNeg]
 by_cases c2 : (60000 : Int) < (B.length : Int)
 ·simp only [K_legatelaw32_ScriptFirst,c1,c2,aw,EVC,EVD,EVB,Nat.reduceEqDiff,eqOp,eqA,eqNil,lenA,asNat,optNat,pt,tupleOf,Nat.reduceSub,Nat.reduceGT,Nat.reduceLT,hand,norms,normVs,normV,freeze,reduceIte,reduceCtorEq,srcCells,slCells,isStr,fillA,rep,asObj,outSl,Nat.reduceMul,Nat.reduceLeDiff,Int.reduceToNat,Int.reduceLE,Int.reduceLT,Int.reduceEq,Nat.reduceAdd,Int.reduceBNe,Int.reduceBEq,Int.reduceNeg]
 obtain ⟨cs,w1,w2,w3,q1⟩:=script_Read_is H.toScHas T (by omega) σ hσ
 have bc:=w2.cl
 have ok1 : Ok (σ ++ [.cells cs ⟨false,none⟩]):=hσ.plus (by simp [AO.below,bc])
 obtain ⟨ds,v1,v2,v3,q2⟩:=script_Read_is H.toScHas (T ++ B) (by simp; omega) _ ok1
 have bd:=v2.cl
 have key:=readS_first T B N
 rw [show (T ++ B).length = T.length + B.length from List.length_append] at q2
 have ty:=fun b L=>st_tidy hσ (vs:=[.bool b]) rfl L
 have hbs : binStr .add T B = some (.str (T ++ B)):=by
  unfold binStr
  exact if_neg (by omega)
 have hl : T.length + B.length ≤ 281474976710656:=by omega
 have dc : ∀ (x y : List AV),x.length = 10 → y.length = 10 → x ++ y.drop 10 = x:=fun x y hx hy=>by rw [List.drop_eq_nil_of_le (by omega),List.append_nil]
 generalize readS (T ++ B) N (T.length + B.length) = Q at *
 generalize readS T N T.length = P at *
 cases c3 : ((P.e : Int) == 0)
 ·have c3' : ¬ P.e = 0:=by simpa using c3
  rw [if_neg c3'] at q1
  cases c4 : ((P.e : Int) == 4)
  ·have c4' : P.e ≠ 4:=by
    intro e; rw [e] at c4; simp at c4
   have:=key c3' c4'
   subst this
   rw [if_neg c3'] at q2
   simp only [K_legatelaw32_ScriptFirst,c1,c2,c3,c4,aw,q1,q2,ty,w1,w3,v1,v3,hbs,Option.map_some,splice,AV.cells,AV.flat,beq_self_eq_true,decide_true,EVC,EVD,EVB,Nat.reduceEqDiff,eqOp,eqA,eqNil,lenA,asNat,optNat,pt,tupleOf,Nat.reduceSub,Nat.reduceGT,Nat.reduceLT,hand,norms,normVs,normV,freeze,reduceIte,reduceCtorEq,srcCells,slCells,isStr,fillA,rep,asObj,outSl,Nat.reduceMul,Nat.reduceLeDiff,Int.reduceToNat,Int.reduceLE,Int.reduceLT,Int.reduceEq,Nat.reduceAdd,Int.reduceBNe,Int.reduceBEq,Int.reduceNeg]
  ·simp only [K_legatelaw32_ScriptFirst,c1,c2,c3,c4,aw,q1,q2,ty,w1,w3,splice,AV.cells,AV.flat,EVC,EVD,EVB,Nat.reduceEqDiff,eqOp,eqA,eqNil,lenA,asNat,optNat,pt,tupleOf,Nat.reduceSub,Nat.reduceGT,Nat.reduceLT,hand,norms,normVs,normV,freeze,reduceIte,reduceCtorEq,srcCells,slCells,isStr,fillA,rep,asObj,outSl,Nat.reduceMul,Nat.reduceLeDiff,Int.reduceToNat,Int.reduceLE,Int.reduceLT,Int.reduceEq,Nat.reduceAdd,Int.reduceBNe,Int.reduceBEq,Int.reduceNeg]
 ·have c3' : P.e = 0:=by simpa using c3
  rw [if_pos c3'] at q1
  simp only [K_legatelaw32_ScriptFirst,c1,c2,c3,aw,q1,q2,ty,w1,w3,splice,AV.cells,AV.flat,EVC,EVD,EVB,Nat.reduceEqDiff,eqOp,eqA,eqNil,lenA,asNat,optNat,pt,tupleOf,Nat.reduceSub,Nat.reduceGT,Nat.reduceLT,hand,norms,normVs,normV,freeze,reduceIte,reduceCtorEq,srcCells,slCells,isStr,fillA,rep,asObj,outSl,Nat.reduceMul,Nat.reduceLeDiff,Int.reduceToNat,Int.reduceLE,Int.reduceLT,Int.reduceEq,Nat.reduceAdd,Int.reduceBNe,Int.reduceBEq,Int.reduceNeg]
end Go.Ev
namespace Go.Ev
set_option maxRecDepth 100000
set_option linter.unusedSimpArgs false
set_option linter.unusedVariables false
variable {C : Ctx}
def runN (p : UInt8 → Bool) (s : List UInt8) (i : Nat) : Nat:=i + ((s.drop i).takeWhile p).length
theorem runN_le (p : UInt8 → Bool) (s : List UInt8) (i : Nat) (h : i ≤ s.length) : runN p s i ≤ s.length:=by
 unfold runN
 have h1:=(List.takeWhile_sublist p (l:=s.drop i)).length_le
 rw [List.length_drop] at h1
 omega
theorem runN_no (p : UInt8 → Bool) (s : List UInt8) (i : Nat) (h : i < s.length) (hb : p s[i] = false) : runN p s i = i:=by
 unfold runN
 rw [List.drop_eq_getElem_cons h,List.takeWhile_cons,hb]
 rfl
theorem runN_yes (p : UInt8 → Bool) (s : List UInt8) (i : Nat) (h : i < s.length) (hb : p s[i] = true) : runN p s i = runN p s (i + 1):=by
 unfold runN
 rw [List.drop_eq_getElem_cons h,List.takeWhile_cons,hb]
 simp
 omega
theorem runN_end (p : UInt8 → Bool) (s : List UInt8) (i : Nat) (h : s.length ≤ i) : runN p s i = i:=by
 unfold runN
 rw [List.drop_eq_nil_of_le h]
 rfl
def isDig (b : UInt8) : Bool:=decide (48 ≤ b.toNat) && decide (b.toNat ≤ 57)
theorem num_formed_loop (s : List UInt8) (hs : s.length < 9223372036854775807) (σ : St) : ∀ (n i : Nat),i + n = s.length →
  loopK C (semF C) 38 [0,23,24] L_num_formed_0 [(0,.str s),(23,.int .i64 s.length),(24,.int .i64 i)] σ = if (s.drop i).all isDig then some (.exit 0,[],σ) else some (.ret,[(2,.bool false)],σ)
 | 0,i,hi=>by
   rw [loop_eq (he:=rfl)]
   have h : ¬ ((i : Int) < (s.length : Int)):=by omega
   have h' : s.drop i = []:=List.drop_eq_nil_of_le (by omega)
   simp only [L_num_formed_0,h,h',EVC,EVD,EVB,Nat.reduceEqDiff,eqOp,eqA,eqNil,lenA,asNat,optNat,pt,tupleOf,Nat.reduceSub,Nat.reduceGT,Nat.reduceLT,hand,norms,normVs,normV,freeze,reduceIte,reduceCtorEq,srcCells,slCells,isStr,fillA,rep,asObj,outSl,Nat.reduceMul,Nat.reduceLeDiff,Int.reduceToNat,Int.reduceLE,Int.reduceLT,Int.reduceEq,Nat.reduceAdd,Int.reduceBNe,Int.reduceBEq,Int.reduceNeg]
 | n + 1,i,hi=>by
   rw [loop_eq (he:=rfl)]
   generalize hk : loopK C (semF C) 38 [0,23,24] L_num_formed_0 = k
   have h : ((i : Int) < (s.length : Int)):=by omega
   have h2 : i < s.length:=by omega
   have hb : s[i]? = some s[i]:=List.getElem?_eq_getElem h2
   have h' : s.drop i = s[i] :: s.drop (i + 1):=List.drop_eq_getElem_cons h2
   have hw : IntKind.i64.wrap ((i : Int) + 1) = ((i + 1 : Nat) : Int):=by rw [w64] <;> omega
   have h3 : (0 : Int) ≤ i:=by omega
   have ih:=num_formed_loop s hs σ n (i + 1) (by omega)
   rw [hk] at ih
   by_cases c1 : (s[i].toNat : Int) < 48
   ·have hx : isDig s[i] = false:=by simp [isDig]; omega
    simp only [L_num_formed_0,h,h',h3,hb,hw,c1,hx,Bool.false_and,EVC,EVD,EVB,Nat.reduceEqDiff,eqOp,eqA,eqNil,lenA,asNat,optNat,pt,tupleOf,Nat.reduceSub,Nat.reduceGT,Nat.reduceLT,hand,norms,normVs,normV,freeze,reduceIte,reduceCtorEq,srcCells,slCells,isStr,fillA,rep,asObj,outSl,Nat.reduceMul,Nat.reduceLeDiff,Int.reduceToNat,Int.reduceLE,Int.reduceLT,Int.reduceEq,Nat.reduceAdd,Int.reduceBNe,Int.reduceBEq,Int.reduceNeg]
   ·by_cases c2 : (57 : Int) < (s[i].toNat : Int)
    ·have hx : isDig s[i] = false:=by simp [isDig]; omega
     simp only [L_num_formed_0,h,h',h3,hb,hw,c1,c2,hx,Bool.false_and,EVC,EVD,EVB,Nat.reduceEqDiff,eqOp,eqA,eqNil,lenA,asNat,optNat,pt,tupleOf,Nat.reduceSub,Nat.reduceGT,Nat.reduceLT,hand,norms,normVs,normV,freeze,reduceIte,reduceCtorEq,srcCells,slCells,isStr,fillA,rep,asObj,outSl,Nat.reduceMul,Nat.reduceLeDiff,Int.reduceToNat,Int.reduceLE,Int.reduceLT,Int.reduceEq,Nat.reduceAdd,Int.reduceBNe,Int.reduceBEq,Int.reduceNeg]
    ·have hx : isDig s[i] = true:=by simp [isDig]; omega
     simp only [L_num_formed_0,h,h',h3,hb,hw,c1,c2,hx,ih,Bool.true_and,EVC,EVD,EVB,Nat.reduceEqDiff,eqOp,eqA,eqNil,lenA,asNat,optNat,pt,tupleOf,Nat.reduceSub,Nat.reduceGT,Nat.reduceLT,hand,norms,normVs,normV,freeze,reduceIte,reduceCtorEq,srcCells,slCells,isStr,fillA,rep,asObj,outSl,Nat.reduceMul,Nat.reduceLeDiff,Int.reduceToNat,Int.reduceLE,Int.reduceLT,Int.reduceEq,Nat.reduceAdd,Int.reduceBNe,Int.reduceBEq,Int.reduceNeg]
theorem num_formed (hC : Has C f_num_formed K_num_formed) (s : List UInt8) (hs : s.length < 9223372036854775807)   : ∃ b,∀ σ : St,semF C f_num_formed [.str s] σ = some (.bool b,σ):=by
 have fin : ∀ (σ : St) (w : List UInt8),w.length < 9223372036854775807 → loopK C (semF C) 38 [0,23,24] L_num_formed_0 [(0,.str w),(23,.int .i64 w.length),(24,.int .i64 0)] σ = if w.all isDig then some (.exit 0,[],σ) else some (.ret,[(2,.bool false)],σ):=fun σ w hw=>by
  have:=num_formed_loop (C:=C) w hw σ w.length 0 (by omega)
  simpa using this
 have go:=fun σ=>hC.go (σ:=σ) (NVs.hand (.cons (.str s) .nil) _) (by simp [K_num_formed])
 cases c0 : decide (s = [48])
 case true=>exact ⟨true,fun σ=>by rw [go]; simp only [K_num_formed,c0,EVC,EVD,EVB,Nat.reduceEqDiff,eqOp,eqA,eqNil,lenA,asNat,optNat,pt,tupleOf,Nat.reduceSub,Nat.reduceGT,Nat.reduceLT,hand,norms,normVs,normV,freeze,reduceIte,reduceCtorEq,srcCells,slCells,isStr,fillA,rep,asObj,outSl,Nat.reduceMul,Nat.reduceLeDiff,Int.reduceToNat,Int.reduceLE,Int.reduceLT,Int.reduceEq,Nat.reduceAdd,Int.reduceBNe,Int.reduceBEq,Int.reduceNeg]⟩
 cases s with
 | nil=>exact ⟨false,fun σ=>by rw [go]; simp only [K_num_formed,c0,EVC,EVD,EVB,Nat.reduceEqDiff,eqOp,eqA,eqNil,lenA,asNat,optNat,pt,tupleOf,Nat.reduceSub,Nat.reduceGT,Nat.reduceLT,hand,norms,normVs,normV,freeze,reduceIte,reduceCtorEq,srcCells,slCells,isStr,fillA,rep,asObj,outSl,Nat.reduceMul,Nat.reduceLeDiff,Int.reduceToNat,Int.reduceLE,Int.reduceLT,Int.reduceEq,Nat.reduceAdd,Int.reduceBNe,Int.reduceBEq,Int.reduceNeg]⟩
 | cons b l=>
   have h0 : decide (b :: l = []) = false:=by simp
   have hb : (b :: l)[0]? = some b:=rfl
   have hl : l.length < 9223372036854775807:=by simp at hs; omega
   cases c1 : ((b.toNat : Int) == 45)
   ·cases c2 : ((b.toNat : Int) == 48)
    ·have f:=fun σ=>fin σ (b :: l) hs
     generalize b :: l = w at *
     cases ha : w.all isDig
     ·simp only [ha] at f
      exact ⟨false,fun σ=>by rw [go]; simp only [K_num_formed,c0,c1,c2,h0,hb,f,Int.toNat_zero,EVC,EVD,EVB,Nat.reduceEqDiff,eqOp,eqA,eqNil,lenA,asNat,optNat,pt,tupleOf,Nat.reduceSub,Nat.reduceGT,Nat.reduceLT,hand,norms,normVs,normV,freeze,reduceIte,reduceCtorEq,srcCells,slCells,isStr,fillA,rep,asObj,outSl,Nat.reduceMul,Nat.reduceLeDiff,Int.reduceToNat,Int.reduceLE,Int.reduceLT,Int.reduceEq,Nat.reduceAdd,Int.reduceBNe,Int.reduceBEq,Int.reduceNeg]⟩
     ·simp only [ha] at f
      exact ⟨true,fun σ=>by rw [go]; simp only [K_num_formed,c0,c1,c2,h0,hb,f,Int.toNat_zero,EVC,EVD,EVB,Nat.reduceEqDiff,eqOp,eqA,eqNil,lenA,asNat,optNat,pt,tupleOf,Nat.reduceSub,Nat.reduceGT,Nat.reduceLT,hand,norms,normVs,normV,freeze,reduceIte,reduceCtorEq,srcCells,slCells,isStr,fillA,rep,asObj,outSl,Nat.reduceMul,Nat.reduceLeDiff,Int.reduceToNat,Int.reduceLE,Int.reduceLT,Int.reduceEq,Nat.reduceAdd,Int.reduceBNe,Int.reduceBEq,Int.reduceNeg]⟩
    ·generalize b :: l = w at *
     exact ⟨false,fun σ=>by rw [go]; simp only [K_num_formed,c0,c1,c2,h0,hb,Int.toNat_zero,EVC,EVD,EVB,Nat.reduceEqDiff,eqOp,eqA,eqNil,lenA,asNat,optNat,pt,tupleOf,Nat.reduceSub,Nat.reduceGT,Nat.reduceLT,hand,norms,normVs,normV,freeze,reduceIte,reduceCtorEq,srcCells,slCells,isStr,fillA,rep,asObj,outSl,Nat.reduceMul,Nat.reduceLeDiff,Int.reduceToNat,Int.reduceLE,Int.reduceLT,Int.reduceEq,Nat.reduceAdd,Int.reduceBNe,Int.reduceBEq,Int.reduceNeg]⟩
   ·have hd : ((b :: l).take (b :: l).length).drop 1 = l:=by simp
    have h1 : (1 : Int) ≤ ((b :: l).length : Int):=by simp; omega
    have h1n : 1 ≤ (b :: l).length:=by simp
    cases l with
    | nil=>exact ⟨false,fun σ=>by rw [go]; simp only [K_num_formed,c0,c1,h0,hb,hd,h1,h1n,Int.toNat_zero,Int.toNat_one,EVC,EVD,EVB,Nat.reduceEqDiff,eqOp,eqA,eqNil,lenA,asNat,optNat,pt,tupleOf,Nat.reduceSub,Nat.reduceGT,Nat.reduceLT,hand,norms,normVs,normV,freeze,reduceIte,reduceCtorEq,srcCells,slCells,isStr,fillA,rep,asObj,outSl,Nat.reduceMul,Nat.reduceLeDiff,Int.reduceToNat,Int.reduceLE,Int.reduceLT,Int.reduceEq,Nat.reduceAdd,Int.reduceBNe,Int.reduceBEq,Int.reduceNeg]⟩
    | cons b2 l2=>
      have h02 : decide (b2 :: l2 = []) = false:=by simp
      have hb2 : (b2 :: l2)[0]? = some b2:=rfl
      cases c2 : ((b2.toNat : Int) == 48)
      ·have f:=fun σ=>fin σ (b2 :: l2) hl
       generalize b :: b2 :: l2 = w at *
       generalize b2 :: l2 = w2 at *
       cases ha : w2.all isDig
       ·simp only [ha] at f
        exact ⟨false,fun σ=>by rw [go]; simp only [K_num_formed,c0,c1,c2,h0,hb,h02,hb2,hd,h1,h1n,f,Int.toNat_zero,Int.toNat_one,EVC,EVD,EVB,Nat.reduceEqDiff,eqOp,eqA,eqNil,lenA,asNat,optNat,pt,tupleOf,Nat.reduceSub,Nat.reduceGT,Nat.reduceLT,hand,norms,normVs,normV,freeze,reduceIte,reduceCtorEq,srcCells,slCells,isStr,fillA,rep,asObj,outSl,Nat.reduceMul,Nat.reduceLeDiff,Int.reduceToNat,Int.reduceLE,Int.reduceLT,Int.reduceEq,Nat.reduceAdd,Int.reduceBNe,Int.reduceBEq,Int.reduceNeg]⟩
       ·simp only [ha] at f
        exact ⟨true,fun σ=>by rw [go]; simp only [K_num_formed,c0,c1,c2,h0,hb,h02,hb2,hd,h1,h1n,f,Int.toNat_zero,Int.toNat_one,EVC,EVD,EVB,Nat.reduceEqDiff,eqOp,eqA,eqNil,lenA,asNat,optNat,pt,tupleOf,Nat.reduceSub,Nat.reduceGT,Nat.reduceLT,hand,norms,normVs,normV,freeze,reduceIte,reduceCtorEq,srcCells,slCells,isStr,fillA,rep,asObj,outSl,Nat.reduceMul,Nat.reduceLeDiff,Int.reduceToNat,Int.reduceLE,Int.reduceLT,Int.reduceEq,Nat.reduceAdd,Int.reduceBNe,Int.reduceBEq,Int.reduceNeg]⟩
      ·generalize b :: b2 :: l2 = w at *
       generalize b2 :: l2 = w2 at *
       exact ⟨false,fun σ=>by rw [go]; simp only [K_num_formed,c0,c1,c2,h0,hb,h02,hb2,hd,h1,h1n,Int.toNat_zero,Int.toNat_one,EVC,EVD,EVB,Nat.reduceEqDiff,eqOp,eqA,eqNil,lenA,asNat,optNat,pt,tupleOf,Nat.reduceSub,Nat.reduceGT,Nat.reduceLT,hand,norms,normVs,normV,freeze,reduceIte,reduceCtorEq,srcCells,slCells,isStr,fillA,rep,asObj,outSl,Nat.reduceMul,Nat.reduceLeDiff,Int.reduceToNat,Int.reduceLE,Int.reduceLT,Int.reduceEq,Nat.reduceAdd,Int.reduceBNe,Int.reduceBEq,Int.reduceNeg]⟩
end Go.Ev
namespace Go.Ev
set_option maxRecDepth 100000
set_option linter.unusedSimpArgs false
set_option linter.unusedVariables false
variable {C : Ctx}
def isNum (b : UInt8) : Bool:=(decide (48 ≤ b.toNat) && decide (b.toNat ≤ 57)) || b.toNat == 45 || b.toNat == 43 || b.toNat == 46 || b.toNat == 101 || b.toNat == 69
theorem num_Read_loop (s : List UInt8) (hs : s.length < 9223372036854775807) (a : Int) (σ : St) : ∀ (n i : Nat),i + n = s.length →
  loopK C (semF C) 61 [0,1,7] L_num_Read_0 [(0,.str s),(1,.int .i64 a),(7,.int .i64 i)] σ = some (.exit 0,[(0,.str s),(1,.int .i64 a),(7,.int .i64 (runN isNum s i))],σ)
 | 0,i,hi=>by
   rw [loop_eq (he:=rfl)]
   have h : ¬ ((i : Int) < (s.length : Int)):=by omega
   have h':= runN_end isNum s i (by omega)
   simp only [L_num_Read_0,h,h',EVC,EVD,EVB,Nat.reduceEqDiff,eqOp,eqA,eqNil,lenA,asNat,optNat,pt,tupleOf,Nat.reduceSub,Nat.reduceGT,Nat.reduceLT,hand,norms,normVs,normV,freeze,reduceIte,reduceCtorEq,srcCells,slCells,isStr,fillA,rep,asObj,outSl,Nat.reduceMul,Nat.reduceLeDiff,Int.reduceToNat,Int.reduceLE,Int.reduceLT,Int.reduceEq,Nat.reduceAdd,Int.reduceBNe,Int.reduceBEq,Int.reduceNeg]
 | n + 1,i,hi=>by
   rw [loop_eq (he:=rfl)]
   generalize hk : loopK C (semF C) 61 [0,1,7] L_num_Read_0 = k
   have h : ((i : Int) < (s.length : Int)):=by omega
   have h2 : i < s.length:=by omega
   have hb : s[i]? = some s[i]:=List.getElem?_eq_getElem h2
   have hw : IntKind.i64.wrap ((i : Int) + 1) = ((i + 1 : Nat) : Int):=by rw [w64] <;> omega
   have h3 : (0 : Int) ≤ i:=by omega
   have ih:=num_Read_loop s hs a σ n (i + 1) (by omega)
   rw [hk] at ih
   cases c0 : ((s[i].toNat : Int) == 48)
   case true=>
    have hx : isNum s[i] = true:=by
     simp only [beq_iff_eq] at c0
     simp [isNum]
     omega
    simp only [L_num_Read_0,h,h3,hb,hw,c0,runN_yes isNum s i h2 hx,ih,EVC,EVD,EVB,Nat.reduceEqDiff,eqOp,eqA,eqNil,lenA,asNat,optNat,pt,tupleOf,Nat.reduceSub,Nat.reduceGT,Nat.reduceLT,hand,norms,normVs,normV,freeze,reduceIte,reduceCtorEq,srcCells,slCells,isStr,fillA,rep,asObj,outSl,Nat.reduceMul,Nat.reduceLeDiff,Int.reduceToNat,Int.reduceLE,Int.reduceLT,Int.reduceEq,Nat.reduceAdd,Int.reduceBNe,Int.reduceBEq,Int.reduceNeg]
   cases c1 : ((s[i].toNat : Int) == 49)
   case true=>
    have hx : isNum s[i] = true:=by
     simp only [beq_iff_eq] at c1
     simp [isNum]
     omega
    simp only [L_num_Read_0,h,h3,hb,hw,c0,c1,runN_yes isNum s i h2 hx,ih,EVC,EVD,EVB,Nat.reduceEqDiff,eqOp,eqA,eqNil,lenA,asNat,optNat,pt,tupleOf,Nat.reduceSub,Nat.reduceGT,Nat.reduceLT,hand,norms,normVs,normV,freeze,reduceIte,reduceCtorEq,srcCells,slCells,isStr,fillA,rep,asObj,outSl,Nat.reduceMul,Nat.reduceLeDiff,Int.reduceToNat,Int.reduceLE,Int.reduceLT,Int.reduceEq,Nat.reduceAdd,Int.reduceBNe,Int.reduceBEq,Int.reduceNeg]
   cases c2 : ((s[i].toNat : Int) == 50)
   case true=>
    have hx : isNum s[i] = true:=by
     simp only [beq_iff_eq] at c2
     simp [isNum]
     omega
    simp only [L_num_Read_0,h,h3,hb,hw,c0,c1,c2,runN_yes isNum s i h2 hx,ih,EVC,EVD,EVB,Nat.reduceEqDiff,eqOp,eqA,eqNil,lenA,asNat,optNat,pt,tupleOf,Nat.reduceSub,Nat.reduceGT,Nat.reduceLT,hand,norms,normVs,normV,freeze,reduceIte,reduceCtorEq,srcCells,slCells,isStr,fillA,rep,asObj,outSl,Nat.reduceMul,Nat.reduceLeDiff,Int.reduceToNat,Int.reduceLE,Int.reduceLT,Int.reduceEq,Nat.reduceAdd,Int.reduceBNe,Int.reduceBEq,Int.reduceNeg]
   cases c3 : ((s[i].toNat : Int) == 51)
   case true=>
    have hx : isNum s[i] = true:=by
     simp only [beq_iff_eq] at c3
     simp [isNum]
     omega
    simp only [L_num_Read_0,h,h3,hb,hw,c0,c1,c2,c3,runN_yes isNum s i h2 hx,ih,EVC,EVD,EVB,Nat.reduceEqDiff,eqOp,eqA,eqNil,lenA,asNat,optNat,pt,tupleOf,Nat.reduceSub,Nat.reduceGT,Nat.reduceLT,hand,norms,normVs,normV,freeze,reduceIte,reduceCtorEq,srcCells,slCells,isStr,fillA,rep,asObj,outSl,Nat.reduceMul,Nat.reduceLeDiff,Int.reduceToNat,Int.reduceLE,Int.reduceLT,Int.reduceEq,Nat.reduceAdd,Int.reduceBNe,Int.reduceBEq,Int.reduceNeg]
   cases c4 : ((s[i].toNat : Int) == 52)
   case true=>
    have hx : isNum s[i] = true:=by
     simp only [beq_iff_eq] at c4
     simp [isNum]
     omega
    simp only [L_num_Read_0,h,h3,hb,hw,c0,c1,c2,c3,c4,runN_yes isNum s i h2 hx,ih,EVC,EVD,EVB,Nat.reduceEqDiff,eqOp,eqA,eqNil,lenA,asNat,optNat,pt,tupleOf,Nat.reduceSub,Nat.reduceGT,Nat.reduceLT,hand,norms,normVs,normV,freeze,reduceIte,reduceCtorEq,srcCells,slCells,isStr,fillA,rep,asObj,outSl,Nat.reduceMul,Nat.reduceLeDiff,Int.reduceToNat,Int.reduceLE,Int.reduceLT,Int.reduceEq,Nat.reduceAdd,Int.reduceBNe,Int.reduceBEq,Int.reduceNeg]
   cases c5 : ((s[i].toNat : Int) == 53)
   case true=>
    have hx : isNum s[i] = true:=by
     simp only [beq_iff_eq] at c5
     simp [isNum]
     omega
    simp only [L_num_Read_0,h,h3,hb,hw,c0,c1,c2,c3,c4,c5,runN_yes isNum s i h2 hx,ih,EVC,EVD,EVB,Nat.reduceEqDiff,eqOp,eqA,eqNil,lenA,asNat,optNat,pt,tupleOf,Nat.reduceSub,Nat.reduceGT,Nat.reduceLT,hand,norms,normVs,normV,freeze,reduceIte,reduceCtorEq,srcCells,slCells,isStr,fillA,rep,asObj,outSl,Nat.reduceMul,Nat.reduceLeDiff,Int.reduceToNat,Int.reduceLE,Int.reduceLT,Int.reduceEq,Nat.reduceAdd,Int.reduceBNe,Int.reduceBEq,Int.reduceNeg]
   cases c6 : ((s[i].toNat : Int) == 54)
   case true=>
    have hx : isNum s[i] = true:=by
     simp only [beq_iff_eq] at c6
     simp [isNum]
     omega
    simp only [L_num_Read_0,h,h3,hb,hw,c0,c1,c2,c3,c4,c5,c6,runN_yes isNum s i h2 hx,ih,EVC,EVD,EVB,Nat.reduceEqDiff,eqOp,eqA,eqNil,lenA,asNat,optNat,pt,tupleOf,Nat.reduceSub,Nat.reduceGT,Nat.reduceLT,hand,norms,normVs,normV,freeze,reduceIte,reduceCtorEq,srcCells,slCells,isStr,fillA,rep,asObj,outSl,Nat.reduceMul,Nat.reduceLeDiff,Int.reduceToNat,Int.reduceLE,Int.reduceLT,Int.reduceEq,Nat.reduceAdd,Int.reduceBNe,Int.reduceBEq,Int.reduceNeg]
   cases c7 : ((s[i].toNat : Int) == 55)
   case true=>
    have hx : isNum s[i] = true:=by
     simp only [beq_iff_eq] at c7
     simp [isNum]
     omega
    simp only [L_num_Read_0,h,h3,hb,hw,c0,c1,c2,c3,c4,c5,c6,c7,runN_yes isNum s i h2 hx,ih,EVC,EVD,EVB,Nat.reduceEqDiff,eqOp,eqA,eqNil,lenA,asNat,optNat,pt,tupleOf,Nat.reduceSub,Nat.reduceGT,Nat.reduceLT,hand,norms,normVs,normV,freeze,reduceIte,reduceCtorEq,srcCells,slCells,isStr,fillA,rep,asObj,outSl,Nat.reduceMul,Nat.reduceLeDiff,Int.reduceToNat,Int.reduceLE,Int.reduceLT,Int.reduceEq,Nat.reduceAdd,Int.reduceBNe,Int.reduceBEq,Int.reduceNeg]
   cases c8 : ((s[i].toNat : Int) == 56)
   case true=>
    have hx : isNum s[i] = true:=by
     simp only [beq_iff_eq] at c8
     simp [isNum]
     omega
    simp only [L_num_Read_0,h,h3,hb,hw,c0,c1,c2,c3,c4,c5,c6,c7,c8,runN_yes isNum s i h2 hx,ih,EVC,EVD,EVB,Nat.reduceEqDiff,eqOp,eqA,eqNil,lenA,asNat,optNat,pt,tupleOf,Nat.reduceSub,Nat.reduceGT,Nat.reduceLT,hand,norms,normVs,normV,freeze,reduceIte,reduceCtorEq,srcCells,slCells,isStr,fillA,rep,asObj,outSl,Nat.reduceMul,Nat.reduceLeDiff,Int.reduceToNat,Int.reduceLE,Int.reduceLT,Int.reduceEq,Nat.reduceAdd,Int.reduceBNe,Int.reduceBEq,Int.reduceNeg]
   cases c9 : ((s[i].toNat : Int) == 57)
   case true=>
    have hx : isNum s[i] = true:=by
     simp only [beq_iff_eq] at c9
     simp [isNum]
     omega
    simp only [L_num_Read_0,h,h3,hb,hw,c0,c1,c2,c3,c4,c5,c6,c7,c8,c9,runN_yes isNum s i h2 hx,ih,EVC,EVD,EVB,Nat.reduceEqDiff,eqOp,eqA,eqNil,lenA,asNat,optNat,pt,tupleOf,Nat.reduceSub,Nat.reduceGT,Nat.reduceLT,hand,norms,normVs,normV,freeze,reduceIte,reduceCtorEq,srcCells,slCells,isStr,fillA,rep,asObj,outSl,Nat.reduceMul,Nat.reduceLeDiff,Int.reduceToNat,Int.reduceLE,Int.reduceLT,Int.reduceEq,Nat.reduceAdd,Int.reduceBNe,Int.reduceBEq,Int.reduceNeg]
   cases c10 : ((s[i].toNat : Int) == 45)
   case true=>
    have hx : isNum s[i] = true:=by
     simp only [beq_iff_eq] at c10
     simp [isNum]
     omega
    simp only [L_num_Read_0,h,h3,hb,hw,c0,c1,c2,c3,c4,c5,c6,c7,c8,c9,c10,runN_yes isNum s i h2 hx,ih,EVC,EVD,EVB,Nat.reduceEqDiff,eqOp,eqA,eqNil,lenA,asNat,optNat,pt,tupleOf,Nat.reduceSub,Nat.reduceGT,Nat.reduceLT,hand,norms,normVs,normV,freeze,reduceIte,reduceCtorEq,srcCells,slCells,isStr,fillA,rep,asObj,outSl,Nat.reduceMul,Nat.reduceLeDiff,Int.reduceToNat,Int.reduceLE,Int.reduceLT,Int.reduceEq,Nat.reduceAdd,Int.reduceBNe,Int.reduceBEq,Int.reduceNeg]
   cases c11 : ((s[i].toNat : Int) == 43)
   case true=>
    have hx : isNum s[i] = true:=by
     simp only [beq_iff_eq] at c11
     simp [isNum]
     omega
    simp only [L_num_Read_0,h,h3,hb,hw,c0,c1,c2,c3,c4,c5,c6,c7,c8,c9,c10,c11,runN_yes isNum s i h2 hx,ih,EVC,EVD,EVB,Nat.reduceEqDiff,eqOp,eqA,eqNil,lenA,asNat,optNat,pt,tupleOf,Nat.reduceSub,Nat.reduceGT,Nat.reduceLT,hand,norms,normVs,normV,freeze,reduceIte,reduceCtorEq,srcCells,slCells,isStr,fillA,rep,asObj,outSl,Nat.reduceMul,Nat.reduceLeDiff,Int.reduceToNat,Int.reduceLE,Int.reduceLT,Int.reduceEq,Nat.reduceAdd,Int.reduceBNe,Int.reduceBEq,Int.reduceNeg]
   cases c12 : ((s[i].toNat : Int) == 46)
   case true=>
    have hx : isNum s[i] = true:=by
     simp only [beq_iff_eq] at c12
     simp [isNum]
     omega
    simp only [L_num_Read_0,h,h3,hb,hw,c0,c1,c2,c3,c4,c5,c6,c7,c8,c9,c10,c11,c12,runN_yes isNum s i h2 hx,ih,EVC,EVD,EVB,Nat.reduceEqDiff,eqOp,eqA,eqNil,lenA,asNat,optNat,pt,tupleOf,Nat.reduceSub,Nat.reduceGT,Nat.reduceLT,hand,norms,normVs,normV,freeze,reduceIte,reduceCtorEq,srcCells,slCells,isStr,fillA,rep,asObj,outSl,Nat.reduceMul,Nat.reduceLeDiff,Int.reduceToNat,Int.reduceLE,Int.reduceLT,Int.reduceEq,Nat.reduceAdd,Int.reduceBNe,Int.reduceBEq,Int.reduceNeg]
   cases c13 : ((s[i].toNat : Int) == 101)
   case true=>
    have hx : isNum s[i] = true:=by
     simp only [beq_iff_eq] at c13
     simp [isNum]
     omega
    simp only [L_num_Read_0,h,h3,hb,hw,c0,c1,c2,c3,c4,c5,c6,c7,c8,c9,c10,c11,c12,c13,runN_yes isNum s i h2 hx,ih,EVC,EVD,EVB,Nat.reduceEqDiff,eqOp,eqA,eqNil,lenA,asNat,optNat,pt,tupleOf,Nat.reduceSub,Nat.reduceGT,Nat.reduceLT,hand,norms,normVs,normV,freeze,reduceIte,reduceCtorEq,srcCells,slCells,isStr,fillA,rep,asObj,outSl,Nat.reduceMul,Nat.reduceLeDiff,Int.reduceToNat,Int.reduceLE,Int.reduceLT,Int.reduceEq,Nat.reduceAdd,Int.reduceBNe,Int.reduceBEq,Int.reduceNeg]
   cases c14 : ((s[i].toNat : Int) == 69)
   case true=>
    have hx : isNum s[i] = true:=by
     simp only [beq_iff_eq] at c14
     simp [isNum]
     omega
    simp only [L_num_Read_0,h,h3,hb,hw,c0,c1,c2,c3,c4,c5,c6,c7,c8,c9,c10,c11,c12,c13,c14,runN_yes isNum s i h2 hx,ih,EVC,EVD,EVB,Nat.reduceEqDiff,eqOp,eqA,eqNil,lenA,asNat,optNat,pt,tupleOf,Nat.reduceSub,Nat.reduceGT,Nat.reduceLT,hand,norms,normVs,normV,freeze,reduceIte,reduceCtorEq,srcCells,slCells,isStr,fillA,rep,asObj,outSl,Nat.reduceMul,Nat.reduceLeDiff,Int.reduceToNat,Int.reduceLE,Int.reduceLT,Int.reduceEq,Nat.reduceAdd,Int.reduceBNe,Int.reduceBEq,Int.reduceNeg]
   have hx : isNum s[i] = false:=by
    simp only [beq_eq_false_iff_ne,ne_eq] at c0 c1 c2 c3 c4 c5 c6 c7 c8 c9 c10 c11 c12 c13 c14
    simp [isNum]
    omega
   simp only [L_num_Read_0,h,h3,hb,c0,c1,c2,c3,c4,c5,c6,c7,c8,c9,c10,c11,c12,c13,c14,runN_no isNum s i h2 hx,EVC,EVD,EVB,Nat.reduceEqDiff,eqOp,eqA,eqNil,lenA,asNat,optNat,pt,tupleOf,Nat.reduceSub,Nat.reduceGT,Nat.reduceLT,hand,norms,normVs,normV,freeze,reduceIte,reduceCtorEq,srcCells,slCells,isStr,fillA,rep,asObj,outSl,Nat.reduceMul,Nat.reduceLeDiff,Int.reduceToNat,Int.reduceLE,Int.reduceLT,Int.reduceEq,Nat.reduceAdd,Int.reduceBNe,Int.reduceBEq,Int.reduceNeg]
def PInt (C : Ctx) : Prop:=∀ s : List UInt8,s.length ≤ 1099511627776 → ∃ (n : Int) (v : AV),(∀ τ,Ok τ → semF C f_strconv_ParseInt [.str s,.int .i64 10,.int .i64 64] τ = some (.tup [.int .i64 n,v],τ)) ∧ (v = .nilIface ∨ ∃ t x,v = .iface t x)
theorem num_Read (hC : Has C f_num_Read K_num_Read) (hf : Has C f_num_formed K_num_formed) (hp : PInt C) (s : List UInt8) (hs : s.length ≤ 1099511627776) : ∃ n z e : Int,∀ σ,Ok σ → semF C f_num_Read [.str s,.int .i64 0] σ = some (.tup [.int .i64 n,.int .i64 z,.int .i64 e],σ):=by
 have lp:=fun σ=>num_Read_loop (C:=C) s (by omega) 0 σ s.length 0 (by omega)
 have ty:=fun (σ : St) a b c=>st_tidy0 σ [.int .i64 a,.int .i64 b,.int .i64 c]
 have he : runN isNum s 0 ≤ s.length:=runN_le isNum s 0 (Nat.zero_le _)
 have h' : ¬ ((s.length : Int) < (0 : Int)):=by omega
 have h2 : (0 : Int) ≤ (runN isNum s 0 : Nat):=by omega
 have go:=fun σ=>hC.go (σ:=σ) (NVs.hand (.cons (.str s) (.cons (.int .i64 0) .nil)) _) (by simp [K_num_Read])
 simp only [Int.natCast_zero] at lp
 generalize runN isNum s 0 = z at *
 have wl : ((s.take z).drop 0).length ≤ 1099511627776:=by simp; omega
 generalize hx : (s.take z).drop 0 = w at *
 obtain ⟨b,q1⟩:=num_formed hf w (by omega)
 obtain ⟨n,v,q2,hv⟩:=hp w wl
 have hg : 0 ≤ z:=Nat.zero_le _
 cases b
 ·exact ⟨0,0,3,fun σ hσ=>by rw [go]; simp only [K_num_Read,lp,h',h2,hg,he,hx,q1,ty,Int.toNat_zero,EVC,EVD,EVB,Nat.reduceEqDiff,eqOp,eqA,eqNil,lenA,asNat,optNat,pt,tupleOf,Nat.reduceSub,Nat.reduceGT,Nat.reduceLT,hand,norms,normVs,normV,freeze,reduceIte,reduceCtorEq,srcCells,slCells,isStr,fillA,rep,asObj,outSl,Nat.reduceMul,Nat.reduceLeDiff,Int.reduceToNat,Int.reduceLE,Int.reduceLT,Int.reduceEq,Nat.reduceAdd,Int.reduceBNe,Int.reduceBEq,Int.reduceNeg]⟩
 ·rcases hv with rfl | ⟨t,x,rfl⟩
  ·exact ⟨n,z,0,fun σ hσ=>by rw [go]; have q2:=q2 σ hσ; simp only [K_num_Read,lp,h',h2,hg,he,hx,q1,q2,ty,Int.toNat_zero,EVC,EVD,EVB,Nat.reduceEqDiff,eqOp,eqA,eqNil,lenA,asNat,optNat,pt,tupleOf,Nat.reduceSub,Nat.reduceGT,Nat.reduceLT,hand,norms,normVs,normV,freeze,reduceIte,reduceCtorEq,srcCells,slCells,isStr,fillA,rep,asObj,outSl,Nat.reduceMul,Nat.reduceLeDiff,Int.reduceToNat,Int.reduceLE,Int.reduceLT,Int.reduceEq,Nat.reduceAdd,Int.reduceBNe,Int.reduceBEq,Int.reduceNeg]⟩
  ·exact ⟨0,0,9,fun σ hσ=>by rw [go]; have q2:=q2 σ hσ; simp only [K_num_Read,lp,h',h2,hg,he,hx,q1,q2,ty,Int.toNat_zero,EVC,EVD,EVB,Nat.reduceEqDiff,eqOp,eqA,eqNil,lenA,asNat,optNat,pt,tupleOf,Nat.reduceSub,Nat.reduceGT,Nat.reduceLT,hand,norms,normVs,normV,freeze,reduceIte,reduceCtorEq,srcCells,slCells,isStr,fillA,rep,asObj,outSl,Nat.reduceMul,Nat.reduceLeDiff,Int.reduceToNat,Int.reduceLE,Int.reduceLT,Int.reduceEq,Nat.reduceAdd,Int.reduceBNe,Int.reduceBEq,Int.reduceNeg]⟩
theorem numOf (hC : Has C f_num_Read K_num_Read) (hf : Has C f_num_formed K_num_formed) (hp : PInt C) : ∃ N,NumOf C N:=by
 have h:=fun (x : {s : List UInt8 // s.length ≤ 1099511627776})=>num_Read hC hf hp x.1 x.2
 refine ⟨fun s=>if hs : s.length ≤ 1099511627776 then (if (h ⟨s,hs⟩).choose_spec.choose_spec.choose = 0 ∧ (h ⟨s,hs⟩).choose_spec.choose = s.length then some (h ⟨s,hs⟩).choose else none) else none,⟨fun s hs=>⟨(h ⟨s,hs⟩).choose,(h ⟨s,hs⟩).choose_spec.choose,(h ⟨s,hs⟩).choose_spec.choose_spec.choose,(h ⟨s,hs⟩).choose_spec.choose_spec.choose_spec,?_⟩⟩⟩
 rw [dif_pos hs]
end Go.Ev
