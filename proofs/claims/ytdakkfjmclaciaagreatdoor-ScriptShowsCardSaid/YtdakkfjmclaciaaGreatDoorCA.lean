/- Code of functions as the evaluator has it, and what some of them compute. No conditions. -/
import Derived.Test.YtdakkfjmclaciaaGreatDoorED
set_option linter.unusedVariables false
set_option linter.unusedSimpArgs false
namespace Go.Ev
abbrev f_legatelaw32_ScriptShows : FuncId:=3
abbrev f_legatelaw31_Long : FuncId:=4
abbrev f_legatelaw32_awake : FuncId:=5
abbrev f_legatelaw32_own : FuncId:=6
abbrev f_script_Show : FuncId:=7
abbrev f_legateref32_Show : FuncId:=8
abbrev f_legateref32_Same : FuncId:=9
abbrev f_legatelaw17_LongVerdicts : FuncId:=10
abbrev f_legatelaw28_LongStore : FuncId:=11
abbrev f_legatelaw31_longPaths : FuncId:=12
abbrev f_script_Read : FuncId:=13
abbrev f_script_Run : FuncId:=14
abbrev f_script_nets : FuncId:=15
abbrev f_num_Show : FuncId:=16
abbrev f_script_numbers : FuncId:=17
abbrev f_legateref32_Net : FuncId:=18
abbrev f_legateref32_Num : FuncId:=19
abbrev f_script_reader_bytes : FuncId:=20
abbrev f_script_reader_number : FuncId:=21
abbrev f_script_reader_word : FuncId:=22
abbrev f_script_reader_each : FuncId:=23
abbrev f_script_Read_1 : FuncId:=24
abbrev f_script_reader_bounds : FuncId:=26
abbrev f_script_Read_2 : FuncId:=27
abbrev f_script_Read_3 : FuncId:=29
abbrev f_script_reader_fail : FuncId:=30
abbrev f_script_reader_done : FuncId:=31
abbrev f_script_Play : FuncId:=32
abbrev f_strings_Builder_WriteString : FuncId:=33
abbrev f_strings_Builder_WriteByte : FuncId:=34
abbrev f_strings_Builder_String : FuncId:=35
abbrev f_strconv_FormatInt : FuncId:=36
abbrev f_legateref06_Show : FuncId:=37
abbrev f_script_reader_net : FuncId:=38
abbrev f_num_Read : FuncId:=39
abbrev f_script_part_left : FuncId:=40
abbrev f_lookup_New : FuncId:=43
abbrev f_lookup_Machine_Lookup : FuncId:=44
abbrev f_lookup_Machine_Fetched : FuncId:=45
abbrev f_script_report : FuncId:=46
abbrev f_strings_Builder_copyCheck : FuncId:=47
abbrev f_internal_strconv_FormatInt : FuncId:=48
abbrev f_script_reader_frame : FuncId:=49
abbrev f_num_formed : FuncId:=50
abbrev f_strconv_ParseInt : FuncId:=51
abbrev f_chart_Read : FuncId:=52
abbrev f_lookup_mayBounds : FuncId:=53
abbrev f_lookup_reposOf : FuncId:=54
abbrev f_lookup_Machine_May : FuncId:=55
abbrev f_name_Path : FuncId:=56
abbrev f_chart_For : FuncId:=57
abbrev f_lookup_Machine_ask : FuncId:=58
abbrev f_slices_Clone_api_Fetch_api_Fetch : FuncId:=59
abbrev f_script_recordOf : FuncId:=60
abbrev f_internal_abi_NoEscape : FuncId:=61
abbrev f_internal_strconv_small : FuncId:=62
abbrev f_internal_strconv_numDigits : FuncId:=63
abbrev f_internal_strconv_formatBase10 : FuncId:=64
abbrev f_internal_strconv_formatBits : FuncId:=65
abbrev f_internal_strconv_ParseInt : FuncId:=66
abbrev f_strconv_toError : FuncId:=67
abbrev f_read_Read : FuncId:=68
abbrev f_chart_Of : FuncId:=69
abbrev f_record_Value : FuncId:=83
abbrev f_canon_Encode : FuncId:=84
abbrev f_internal_strconv_log10Pow2 : FuncId:=85
abbrev f_math_bits_Len64 : FuncId:=86
abbrev f_internal_strconv_bool2_int : FuncId:=87
abbrev f_internal_strconv_ParseUint : FuncId:=90
abbrev f_read_tokens_next : FuncId:=95
abbrev f_read_values_value : FuncId:=96
abbrev f_internal_strconv_lower : FuncId:=125
abbrev f_internal_strconv_underscoreOK : FuncId:=126
abbrev f_read_space : FuncId:=130
abbrev f_lex_Next : FuncId:=131
abbrev f_read_values_wrong : FuncId:=132
abbrev f_read_values_list : FuncId:=133
abbrev f_read_values_object : FuncId:=134
abbrev f_lex_rules : FuncId:=171
abbrev f_lex_token : FuncId:=172
abbrev f_lex_skip : FuncId:=173
abbrev f_lex_open : FuncId:=218
abbrev f_lex_shut : FuncId:=219
abbrev f_lex_first : FuncId:=220
abbrev f_lex_last : FuncId:=221
abbrev f_lex_comma : FuncId:=222
abbrev f_lex_colon : FuncId:=223
abbrev f_lex_number : FuncId:=224
abbrev f_lex_text : FuncId:=225
abbrev f_lex_word : FuncId:=226
abbrev g_internal_strconv_uint64pow10 : Nat:=0
def nil256 : List AV:=List.replicate 256 .nilFunc
def K_internal_strconv_FormatInt : KF:=⟨2,54,[(.tmp 4)],
(.seq (.ops [o 4 (.mv (.c (.str [])))])
(.seq (.seq (.ops [m 10 1,
o 11 (.bin .eql 0 true (.t 10) (.c (.int .i64 10)))])
(.cond (.t 11)
(.seq (.seq (.ops [m 12 0,
o 13 (.bin .leq 0 true (.c (.int .i64 0)) (.t 12)),
m 14 13,
og 15 14 true (.mv (.t 0)),
og 16 14 true (.bin .lss 0 true (.t 15) (.c (.int .i64 100))),
o 17 (.pick (.t 14) (.t 16) (.c (.bool false)))])
(.cond (.t 17)
(.seq (.ops [m 18 0,
o 19 (.callF f_internal_strconv_small [(.t 18)]),
m 4 19])
(.ret [4]))
.skip))
(.seq (.ops [o 5 (.new [(.int .u8 0),(.int .u8 0),(.int .u8 0),(.int .u8 0),(.int .u8 0),(.int .u8 0),(.int .u8 0),(.int .u8 0),(.int .u8 0),(.int .u8 0),(.int .u8 0),(.int .u8 0),(.int .u8 0),(.int .u8 0),(.int .u8 0),(.int .u8 0),(.int .u8 0),(.int .u8 0),(.int .u8 0),(.int .u8 0),(.int .u8 0),(.int .u8 0),(.int .u8 0),(.int .u8 0)] none)])
(.seq (.ops [m 20 0,
o 21 (.i2i .u64 (.t 20)),
m 6 21])
(.seq (.seq (.ops [m 22 0,
o 23 (.bin .lss 0 true (.t 22) (.c (.int .i64 0)))])
(.cond (.t 23)
(.ops [m 24 6,
o 25 (.un .neg (.t 24)),
m 6 25])
.skip))
(.seq (.ops [m 26 6,
o 27 (.callF f_internal_strconv_numDigits [(.t 26)]),
m 7 27])
(.seq (.ops [m 28 7,
o 29 (.bin .add 0 true (.c (.int .i64 1)) (.t 28)),
o 30 (.sliceArr 24 1 (.t 5) (some (.c (.int .i64 1))) (some (.t 29)) none),
m 31 6,
o 32 (.callF f_internal_strconv_formatBase10 [(.t 30),(.t 31)])])
(.seq (.seq (.ops [m 33 0,
o 34 (.bin .lss 0 true (.t 33) (.c (.int .i64 0)))])
(.cond (.t 34)
(.seq (.ops [o 35 (.idxAddrArr 24 1 (.t 5) (.c (.int .i64 0))),
u (.store 1 (.t 35) (.c (.int .u8 45)))])
(.seq (.ops [m 36 7,
o 37 (.bin .add 0 true (.c (.int .i64 1)) (.t 36)),
o 38 (.sliceArr 24 1 (.t 5) none (some (.t 37)) none),
o 39 (.b2s (.t 38)),
m 4 39])
(.ret [4])))
.skip))
(.seq (.ops [m 40 7,
o 41 (.bin .add 0 true (.c (.int .i64 1)) (.t 40)),
o 42 (.sliceArr 24 1 (.t 5) (some (.c (.int .i64 1))) (some (.t 41)) none),
o 43 (.b2s (.t 42)),
m 4 43])
(.ret [4])))))))))
.skip))
(.seq (.ops [m 45 0,
o 46 (.i2i .u64 (.t 45)),
m 47 1,
m 48 0,
o 49 (.bin .lss 0 true (.t 48) (.c (.int .i64 0))),
o 50 (.callF f_internal_strconv_formatBits [(.c .nils),(.t 46),(.t 47),(.t 49),(.c (.bool false))]),
m 44 50,
o 51 (.extract (.t 44) 0),
o 52 (.extract (.t 44) 1),
m 8 51,
m 9 52])
(.seq (.ops [m 53 9,
m 4 53])
(.ret [4])))))⟩
def K_internal_strconv_bool2_int : KF:=⟨1,4,[(.tmp 2)],
(.seq (.ops [o 2 (.mv (.c (.int .i64 0)))])
(.seq (.seq (.ops [m 3 0])
(.cond (.t 3)
(.seq (.ops [o 2 (.mv (.c (.int .i64 1)))])
(.ret [2]))
.skip))
(.seq (.ops [o 2 (.mv (.c (.int .i64 0)))])
(.ret [2]))))⟩
def L_internal_strconv_formatBase10_0 : KC:=
(.seq (.seq (.ops [m 19 4,
o 20 (.bin .geq 0 true (.t 19) (.c (.int .i64 8)))])
(.cond (.t 20)
.skip
(.exit [0,1,4] 0)))
(.block 1
(.seq (.ops [m 21 1,
o 22 (.bin .rem 0 true (.t 21) (.c (.int .u64 100000000))),
o 23 (.i2i .u32 (.t 22)),
m 5 23])
(.seq (.ops [m 24 1,
o 25 (.bin .quo 0 true (.t 24) (.c (.int .u64 100000000))),
m 1 25])
(.seq (.ops [m 26 5,
o 27 (.bin .quo 0 true (.t 26) (.c (.int .u32 10000))),
m 28 5,
o 29 (.bin .rem 0 true (.t 28) (.c (.int .u32 10000))),
m 6 27,
m 7 29])
(.seq (.ops [m 30 7,
o 31 (.bin .quo 0 true (.t 30) (.c (.int .u32 100))),
o 32 (.bin .mul 0 true (.t 31) (.c (.int .u32 2))),
m 33 7,
o 34 (.bin .rem 0 true (.t 33) (.c (.int .u32 100))),
o 35 (.bin .mul 0 true (.t 34) (.c (.int .u32 2))),
m 8 32,
m 9 35])
(.seq (.ops [m 36 6,
o 37 (.bin .quo 0 true (.t 36) (.c (.int .u32 100))),
o 38 (.bin .mul 0 true (.t 37) (.c (.int .u32 2))),
m 39 6,
o 40 (.bin .rem 0 true (.t 39) (.c (.int .u32 100))),
o 41 (.bin .mul 0 true (.t 40) (.c (.int .u32 2))),
m 10 38,
m 11 41])
(.seq (.plain [m 42 0,
m 43 4,
o 44 (.bin .sub 0 true (.t 43) (.c (.int .i64 1))),
m 45 0,
m 46 4,
o 47 (.bin .sub 0 true (.t 46) (.c (.int .i64 2))),
m 48 9,
o 49 (.bin .add 0 true (.t 48) (.c (.int .u32 1))),
o 50 (.idxStr (.c (.str [48,48,48,49,48,50,48,51,48,52,48,53,48,54,48,55,48,56,48,57,49,48,49,49,49,50,49,51,49,52,49,53,49,54,49,55,49,56,49,57,50,48,50,49,50,50,50,51,50,52,50,53,50,54,50,55,50,56,50,57,51,48,51,49,51,50,51,51,51,52,51,53,51,54,51,55,51,56,51,57,52,48,52,49,52,50,52,51,52,52,52,53,52,54,52,55,52,56,52,57,53,48,53,49,53,50,53,51,53,52,53,53,53,54,53,55,53,56,53,57,54,48,54,49,54,50,54,51,54,52,54,53,54,54,54,55,54,56,54,57,55,48,55,49,55,50,55,51,55,52,55,53,55,54,55,55,55,56,55,57,56,48,56,49,56,50,56,51,56,52,56,53,56,54,56,55,56,56,56,57,57,48,57,49,57,50,57,51,57,52,57,53,57,54,57,55,57,56,57,57])) (.t 49)),
m 51 9,
o 52 (.idxStr (.c (.str [48,48,48,49,48,50,48,51,48,52,48,53,48,54,48,55,48,56,48,57,49,48,49,49,49,50,49,51,49,52,49,53,49,54,49,55,49,56,49,57,50,48,50,49,50,50,50,51,50,52,50,53,50,54,50,55,50,56,50,57,51,48,51,49,51,50,51,51,51,52,51,53,51,54,51,55,51,56,51,57,52,48,52,49,52,50,52,51,52,52,52,53,52,54,52,55,52,56,52,57,53,48,53,49,53,50,53,51,53,52,53,53,53,54,53,55,53,56,53,57,54,48,54,49,54,50,54,51,54,52,54,53,54,54,54,55,54,56,54,57,55,48,55,49,55,50,55,51,55,52,55,53,55,54,55,55,55,56,55,57,56,48,56,49,56,50,56,51,56,52,56,53,56,54,56,55,56,56,56,57,57,48,57,49,57,50,57,51,57,52,57,53,57,54,57,55,57,56,57,57])) (.t 51)),
o 53 (.idxAddrSl 1 (.t 42) (.t 44)),
u (.store 1 (.t 53) (.t 50)),
o 54 (.idxAddrSl 1 (.t 45) (.t 47)),
u (.store 1 (.t 54) (.t 52))])
(.seq (.plain [m 55 0,
m 56 4,
o 57 (.bin .sub 0 true (.t 56) (.c (.int .i64 3))),
m 58 0,
m 59 4,
o 60 (.bin .sub 0 true (.t 59) (.c (.int .i64 4))),
m 61 8,
o 62 (.bin .add 0 true (.t 61) (.c (.int .u32 1))),
o 63 (.idxStr (.c (.str [48,48,48,49,48,50,48,51,48,52,48,53,48,54,48,55,48,56,48,57,49,48,49,49,49,50,49,51,49,52,49,53,49,54,49,55,49,56,49,57,50,48,50,49,50,50,50,51,50,52,50,53,50,54,50,55,50,56,50,57,51,48,51,49,51,50,51,51,51,52,51,53,51,54,51,55,51,56,51,57,52,48,52,49,52,50,52,51,52,52,52,53,52,54,52,55,52,56,52,57,53,48,53,49,53,50,53,51,53,52,53,53,53,54,53,55,53,56,53,57,54,48,54,49,54,50,54,51,54,52,54,53,54,54,54,55,54,56,54,57,55,48,55,49,55,50,55,51,55,52,55,53,55,54,55,55,55,56,55,57,56,48,56,49,56,50,56,51,56,52,56,53,56,54,56,55,56,56,56,57,57,48,57,49,57,50,57,51,57,52,57,53,57,54,57,55,57,56,57,57])) (.t 62)),
m 64 8,
o 65 (.idxStr (.c (.str [48,48,48,49,48,50,48,51,48,52,48,53,48,54,48,55,48,56,48,57,49,48,49,49,49,50,49,51,49,52,49,53,49,54,49,55,49,56,49,57,50,48,50,49,50,50,50,51,50,52,50,53,50,54,50,55,50,56,50,57,51,48,51,49,51,50,51,51,51,52,51,53,51,54,51,55,51,56,51,57,52,48,52,49,52,50,52,51,52,52,52,53,52,54,52,55,52,56,52,57,53,48,53,49,53,50,53,51,53,52,53,53,53,54,53,55,53,56,53,57,54,48,54,49,54,50,54,51,54,52,54,53,54,54,54,55,54,56,54,57,55,48,55,49,55,50,55,51,55,52,55,53,55,54,55,55,55,56,55,57,56,48,56,49,56,50,56,51,56,52,56,53,56,54,56,55,56,56,56,57,57,48,57,49,57,50,57,51,57,52,57,53,57,54,57,55,57,56,57,57])) (.t 64)),
o 66 (.idxAddrSl 1 (.t 55) (.t 57)),
u (.store 1 (.t 66) (.t 63)),
o 67 (.idxAddrSl 1 (.t 58) (.t 60)),
u (.store 1 (.t 67) (.t 65))])
(.seq (.plain [m 68 0,
m 69 4,
o 70 (.bin .sub 0 true (.t 69) (.c (.int .i64 5))),
m 71 0,
m 72 4,
o 73 (.bin .sub 0 true (.t 72) (.c (.int .i64 6))),
m 74 11,
o 75 (.bin .add 0 true (.t 74) (.c (.int .u32 1))),
o 76 (.idxStr (.c (.str [48,48,48,49,48,50,48,51,48,52,48,53,48,54,48,55,48,56,48,57,49,48,49,49,49,50,49,51,49,52,49,53,49,54,49,55,49,56,49,57,50,48,50,49,50,50,50,51,50,52,50,53,50,54,50,55,50,56,50,57,51,48,51,49,51,50,51,51,51,52,51,53,51,54,51,55,51,56,51,57,52,48,52,49,52,50,52,51,52,52,52,53,52,54,52,55,52,56,52,57,53,48,53,49,53,50,53,51,53,52,53,53,53,54,53,55,53,56,53,57,54,48,54,49,54,50,54,51,54,52,54,53,54,54,54,55,54,56,54,57,55,48,55,49,55,50,55,51,55,52,55,53,55,54,55,55,55,56,55,57,56,48,56,49,56,50,56,51,56,52,56,53,56,54,56,55,56,56,56,57,57,48,57,49,57,50,57,51,57,52,57,53,57,54,57,55,57,56,57,57])) (.t 75)),
m 77 11,
o 78 (.idxStr (.c (.str [48,48,48,49,48,50,48,51,48,52,48,53,48,54,48,55,48,56,48,57,49,48,49,49,49,50,49,51,49,52,49,53,49,54,49,55,49,56,49,57,50,48,50,49,50,50,50,51,50,52,50,53,50,54,50,55,50,56,50,57,51,48,51,49,51,50,51,51,51,52,51,53,51,54,51,55,51,56,51,57,52,48,52,49,52,50,52,51,52,52,52,53,52,54,52,55,52,56,52,57,53,48,53,49,53,50,53,51,53,52,53,53,53,54,53,55,53,56,53,57,54,48,54,49,54,50,54,51,54,52,54,53,54,54,54,55,54,56,54,57,55,48,55,49,55,50,55,51,55,52,55,53,55,54,55,55,55,56,55,57,56,48,56,49,56,50,56,51,56,52,56,53,56,54,56,55,56,56,56,57,57,48,57,49,57,50,57,51,57,52,57,53,57,54,57,55,57,56,57,57])) (.t 77)),
o 79 (.idxAddrSl 1 (.t 68) (.t 70)),
u (.store 1 (.t 79) (.t 76)),
o 80 (.idxAddrSl 1 (.t 71) (.t 73)),
u (.store 1 (.t 80) (.t 78))])
(.seq (.plain [m 81 0,
m 82 4,
o 83 (.bin .sub 0 true (.t 82) (.c (.int .i64 7))),
m 84 0,
m 85 4,
o 86 (.bin .sub 0 true (.t 85) (.c (.int .i64 8))),
m 87 10,
o 88 (.bin .add 0 true (.t 87) (.c (.int .u32 1))),
o 89 (.idxStr (.c (.str [48,48,48,49,48,50,48,51,48,52,48,53,48,54,48,55,48,56,48,57,49,48,49,49,49,50,49,51,49,52,49,53,49,54,49,55,49,56,49,57,50,48,50,49,50,50,50,51,50,52,50,53,50,54,50,55,50,56,50,57,51,48,51,49,51,50,51,51,51,52,51,53,51,54,51,55,51,56,51,57,52,48,52,49,52,50,52,51,52,52,52,53,52,54,52,55,52,56,52,57,53,48,53,49,53,50,53,51,53,52,53,53,53,54,53,55,53,56,53,57,54,48,54,49,54,50,54,51,54,52,54,53,54,54,54,55,54,56,54,57,55,48,55,49,55,50,55,51,55,52,55,53,55,54,55,55,55,56,55,57,56,48,56,49,56,50,56,51,56,52,56,53,56,54,56,55,56,56,56,57,57,48,57,49,57,50,57,51,57,52,57,53,57,54,57,55,57,56,57,57])) (.t 88)),
m 90 10,
o 91 (.idxStr (.c (.str [48,48,48,49,48,50,48,51,48,52,48,53,48,54,48,55,48,56,48,57,49,48,49,49,49,50,49,51,49,52,49,53,49,54,49,55,49,56,49,57,50,48,50,49,50,50,50,51,50,52,50,53,50,54,50,55,50,56,50,57,51,48,51,49,51,50,51,51,51,52,51,53,51,54,51,55,51,56,51,57,52,48,52,49,52,50,52,51,52,52,52,53,52,54,52,55,52,56,52,57,53,48,53,49,53,50,53,51,53,52,53,53,53,54,53,55,53,56,53,57,54,48,54,49,54,50,54,51,54,52,54,53,54,54,54,55,54,56,54,57,55,48,55,49,55,50,55,51,55,52,55,53,55,54,55,55,55,56,55,57,56,48,56,49,56,50,56,51,56,52,56,53,56,54,56,55,56,56,56,57,57,48,57,49,57,50,57,51,57,52,57,53,57,54,57,55,57,56,57,57])) (.t 90)),
o 92 (.idxAddrSl 1 (.t 81) (.t 83)),
u (.store 1 (.t 92) (.t 89)),
o 93 (.idxAddrSl 1 (.t 84) (.t 86)),
u (.store 1 (.t 93) (.t 91))])
(.ops [m 94 4,
o 95 (.bin .sub 0 true (.t 94) (.c (.int .i64 8))),
m 4 95]))))))))))))
def K_internal_strconv_formatBase10 : KF:=⟨2,167,[],
(.seq (.ops [m 17 0,
o 18 (.len 1 (.t 17)),
m 4 18])
(.seq (.block 0
(.loop [0,1,4] L_internal_strconv_formatBase10_0))
(.seq (.ops [m 96 1,
o 97 (.i2i .u32 (.t 96)),
m 12 97])
(.seq (.seq (.ops [m 98 4,
o 99 (.bin .geq 0 true (.t 98) (.c (.int .i64 4)))])
(.cond (.t 99)
(.seq (.ops [m 100 12,
o 101 (.bin .rem 0 true (.t 100) (.c (.int .u32 10000))),
m 13 101])
(.seq (.ops [m 102 12,
o 103 (.bin .quo 0 true (.t 102) (.c (.int .u32 10000))),
m 12 103])
(.seq (.ops [m 104 13,
o 105 (.bin .quo 0 true (.t 104) (.c (.int .u32 100))),
o 106 (.bin .mul 0 true (.t 105) (.c (.int .u32 2))),
m 107 13,
o 108 (.bin .rem 0 true (.t 107) (.c (.int .u32 100))),
o 109 (.bin .mul 0 true (.t 108) (.c (.int .u32 2))),
m 14 106,
m 15 109])
(.seq (.plain [m 110 0,
m 111 4,
o 112 (.bin .sub 0 true (.t 111) (.c (.int .i64 1))),
m 113 0,
m 114 4,
o 115 (.bin .sub 0 true (.t 114) (.c (.int .i64 2))),
m 116 15,
o 117 (.bin .add 0 true (.t 116) (.c (.int .u32 1))),
o 118 (.idxStr (.c (.str [48,48,48,49,48,50,48,51,48,52,48,53,48,54,48,55,48,56,48,57,49,48,49,49,49,50,49,51,49,52,49,53,49,54,49,55,49,56,49,57,50,48,50,49,50,50,50,51,50,52,50,53,50,54,50,55,50,56,50,57,51,48,51,49,51,50,51,51,51,52,51,53,51,54,51,55,51,56,51,57,52,48,52,49,52,50,52,51,52,52,52,53,52,54,52,55,52,56,52,57,53,48,53,49,53,50,53,51,53,52,53,53,53,54,53,55,53,56,53,57,54,48,54,49,54,50,54,51,54,52,54,53,54,54,54,55,54,56,54,57,55,48,55,49,55,50,55,51,55,52,55,53,55,54,55,55,55,56,55,57,56,48,56,49,56,50,56,51,56,52,56,53,56,54,56,55,56,56,56,57,57,48,57,49,57,50,57,51,57,52,57,53,57,54,57,55,57,56,57,57])) (.t 117)),
m 119 15,
o 120 (.idxStr (.c (.str [48,48,48,49,48,50,48,51,48,52,48,53,48,54,48,55,48,56,48,57,49,48,49,49,49,50,49,51,49,52,49,53,49,54,49,55,49,56,49,57,50,48,50,49,50,50,50,51,50,52,50,53,50,54,50,55,50,56,50,57,51,48,51,49,51,50,51,51,51,52,51,53,51,54,51,55,51,56,51,57,52,48,52,49,52,50,52,51,52,52,52,53,52,54,52,55,52,56,52,57,53,48,53,49,53,50,53,51,53,52,53,53,53,54,53,55,53,56,53,57,54,48,54,49,54,50,54,51,54,52,54,53,54,54,54,55,54,56,54,57,55,48,55,49,55,50,55,51,55,52,55,53,55,54,55,55,55,56,55,57,56,48,56,49,56,50,56,51,56,52,56,53,56,54,56,55,56,56,56,57,57,48,57,49,57,50,57,51,57,52,57,53,57,54,57,55,57,56,57,57])) (.t 119)),
o 121 (.idxAddrSl 1 (.t 110) (.t 112)),
u (.store 1 (.t 121) (.t 118)),
o 122 (.idxAddrSl 1 (.t 113) (.t 115)),
u (.store 1 (.t 122) (.t 120))])
(.seq (.plain [m 123 0,
m 124 4,
o 125 (.bin .sub 0 true (.t 124) (.c (.int .i64 3))),
m 126 0,
m 127 4,
o 128 (.bin .sub 0 true (.t 127) (.c (.int .i64 4))),
m 129 14,
o 130 (.bin .add 0 true (.t 129) (.c (.int .u32 1))),
o 131 (.idxStr (.c (.str [48,48,48,49,48,50,48,51,48,52,48,53,48,54,48,55,48,56,48,57,49,48,49,49,49,50,49,51,49,52,49,53,49,54,49,55,49,56,49,57,50,48,50,49,50,50,50,51,50,52,50,53,50,54,50,55,50,56,50,57,51,48,51,49,51,50,51,51,51,52,51,53,51,54,51,55,51,56,51,57,52,48,52,49,52,50,52,51,52,52,52,53,52,54,52,55,52,56,52,57,53,48,53,49,53,50,53,51,53,52,53,53,53,54,53,55,53,56,53,57,54,48,54,49,54,50,54,51,54,52,54,53,54,54,54,55,54,56,54,57,55,48,55,49,55,50,55,51,55,52,55,53,55,54,55,55,55,56,55,57,56,48,56,49,56,50,56,51,56,52,56,53,56,54,56,55,56,56,56,57,57,48,57,49,57,50,57,51,57,52,57,53,57,54,57,55,57,56,57,57])) (.t 130)),
m 132 14,
o 133 (.idxStr (.c (.str [48,48,48,49,48,50,48,51,48,52,48,53,48,54,48,55,48,56,48,57,49,48,49,49,49,50,49,51,49,52,49,53,49,54,49,55,49,56,49,57,50,48,50,49,50,50,50,51,50,52,50,53,50,54,50,55,50,56,50,57,51,48,51,49,51,50,51,51,51,52,51,53,51,54,51,55,51,56,51,57,52,48,52,49,52,50,52,51,52,52,52,53,52,54,52,55,52,56,52,57,53,48,53,49,53,50,53,51,53,52,53,53,53,54,53,55,53,56,53,57,54,48,54,49,54,50,54,51,54,52,54,53,54,54,54,55,54,56,54,57,55,48,55,49,55,50,55,51,55,52,55,53,55,54,55,55,55,56,55,57,56,48,56,49,56,50,56,51,56,52,56,53,56,54,56,55,56,56,56,57,57,48,57,49,57,50,57,51,57,52,57,53,57,54,57,55,57,56,57,57])) (.t 132)),
o 134 (.idxAddrSl 1 (.t 123) (.t 125)),
u (.store 1 (.t 134) (.t 131)),
o 135 (.idxAddrSl 1 (.t 126) (.t 128)),
u (.store 1 (.t 135) (.t 133))])
(.ops [m 136 4,
o 137 (.bin .sub 0 true (.t 136) (.c (.int .i64 4))),
m 4 137]))))))
.skip))
(.seq (.seq (.ops [m 138 4,
o 139 (.bin .geq 0 true (.t 138) (.c (.int .i64 2)))])
(.cond (.t 139)
(.seq (.ops [m 140 12,
o 141 (.bin .rem 0 true (.t 140) (.c (.int .u32 100))),
o 142 (.bin .mul 0 true (.t 141) (.c (.int .u32 2))),
m 16 142])
(.seq (.ops [m 143 12,
o 144 (.bin .quo 0 true (.t 143) (.c (.int .u32 100))),
m 12 144])
(.seq (.plain [m 145 0,
m 146 4,
o 147 (.bin .sub 0 true (.t 146) (.c (.int .i64 1))),
m 148 0,
m 149 4,
o 150 (.bin .sub 0 true (.t 149) (.c (.int .i64 2))),
m 151 16,
o 152 (.bin .add 0 true (.t 151) (.c (.int .u32 1))),
o 153 (.idxStr (.c (.str [48,48,48,49,48,50,48,51,48,52,48,53,48,54,48,55,48,56,48,57,49,48,49,49,49,50,49,51,49,52,49,53,49,54,49,55,49,56,49,57,50,48,50,49,50,50,50,51,50,52,50,53,50,54,50,55,50,56,50,57,51,48,51,49,51,50,51,51,51,52,51,53,51,54,51,55,51,56,51,57,52,48,52,49,52,50,52,51,52,52,52,53,52,54,52,55,52,56,52,57,53,48,53,49,53,50,53,51,53,52,53,53,53,54,53,55,53,56,53,57,54,48,54,49,54,50,54,51,54,52,54,53,54,54,54,55,54,56,54,57,55,48,55,49,55,50,55,51,55,52,55,53,55,54,55,55,55,56,55,57,56,48,56,49,56,50,56,51,56,52,56,53,56,54,56,55,56,56,56,57,57,48,57,49,57,50,57,51,57,52,57,53,57,54,57,55,57,56,57,57])) (.t 152)),
m 154 16,
o 155 (.idxStr (.c (.str [48,48,48,49,48,50,48,51,48,52,48,53,48,54,48,55,48,56,48,57,49,48,49,49,49,50,49,51,49,52,49,53,49,54,49,55,49,56,49,57,50,48,50,49,50,50,50,51,50,52,50,53,50,54,50,55,50,56,50,57,51,48,51,49,51,50,51,51,51,52,51,53,51,54,51,55,51,56,51,57,52,48,52,49,52,50,52,51,52,52,52,53,52,54,52,55,52,56,52,57,53,48,53,49,53,50,53,51,53,52,53,53,53,54,53,55,53,56,53,57,54,48,54,49,54,50,54,51,54,52,54,53,54,54,54,55,54,56,54,57,55,48,55,49,55,50,55,51,55,52,55,53,55,54,55,55,55,56,55,57,56,48,56,49,56,50,56,51,56,52,56,53,56,54,56,55,56,56,56,57,57,48,57,49,57,50,57,51,57,52,57,53,57,54,57,55,57,56,57,57])) (.t 154)),
o 156 (.idxAddrSl 1 (.t 145) (.t 147)),
u (.store 1 (.t 156) (.t 153)),
o 157 (.idxAddrSl 1 (.t 148) (.t 150)),
u (.store 1 (.t 157) (.t 155))])
(.ops [m 158 4,
o 159 (.bin .sub 0 true (.t 158) (.c (.int .i64 2))),
m 4 159]))))
.skip))
(.seq (.ops [m 160 4,
o 161 (.bin .gtr 0 true (.t 160) (.c (.int .i64 0)))])
(.cond (.t 161)
(.ops [m 162 0,
m 163 12,
o 164 (.bin .add 0 true (.c (.int .u32 48)) (.t 163)),
o 165 (.i2i .u8 (.t 164)),
o 166 (.idxAddrSl 1 (.t 162) (.c (.int .i64 0))),
u (.store 1 (.t 166) (.t 165))])
.skip)))))))⟩
def K_internal_strconv_log10Pow2 : KF:=⟨1,6,[(.tmp 2)],
(.seq (.ops [o 2 (.mv (.c (.int .i64 0)))])
(.seq (.ops [m 3 0,
o 4 (.bin .mul 0 true (.t 3) (.c (.int .i64 78913))),
o 5 (.bin .shr 0 true (.t 4) (.c (.int .u64 18))),
m 2 5])
(.ret [2])))⟩
def K_internal_strconv_numDigits : KF:=⟨1,15,[(.tmp 2)],
(.seq (.ops [o 2 (.mv (.c (.int .i64 0)))])
(.seq (.ops [m 4 0,
o 5 (.callF f_math_bits_Len64 [(.t 4)]),
o 6 (.callF f_internal_strconv_log10Pow2 [(.t 5)]),
m 3 6])
(.seq (.ops [m 7 3,
m 8 0,
m 9 3,
o 10 (.idxAddrArr 20 1 (.g g_internal_strconv_uint64pow10) (.t 9)),
o 11 (.load false 1 (.t 10)),
o 12 (.bin .geq 0 false (.t 8) (.t 11)),
o 13 (.callF f_internal_strconv_bool2_int [(.t 12)]),
o 14 (.bin .add 0 false (.t 7) (.t 13)),
m 2 14])
(.ret [2]))))⟩
def K_internal_strconv_small : KF:=⟨1,15,[(.tmp 2)],
(.seq (.ops [o 2 (.mv (.c (.str [])))])
(.seq (.seq (.ops [m 3 0,
o 4 (.bin .lss 0 true (.t 3) (.c (.int .i64 10)))])
(.cond (.t 4)
(.seq (.ops [m 5 0,
m 6 0,
o 7 (.bin .add 0 true (.t 6) (.c (.int .i64 1))),
o 8 (.sliceStr (.c (.str [48,49,50,51,52,53,54,55,56,57,97,98,99,100,101,102,103,104,105,106,107,108,109,110,111,112,113,114,115,116,117,118,119,120,121,122])) (some (.t 5)) (some (.t 7))),
m 2 8])
(.ret [2]))
.skip))
(.seq (.ops [m 9 0,
o 10 (.bin .mul 0 true (.t 9) (.c (.int .i64 2))),
m 11 0,
o 12 (.bin .mul 0 true (.t 11) (.c (.int .i64 2))),
o 13 (.bin .add 0 true (.t 12) (.c (.int .i64 2))),
o 14 (.sliceStr (.c (.str [48,48,48,49,48,50,48,51,48,52,48,53,48,54,48,55,48,56,48,57,49,48,49,49,49,50,49,51,49,52,49,53,49,54,49,55,49,56,49,57,50,48,50,49,50,50,50,51,50,52,50,53,50,54,50,55,50,56,50,57,51,48,51,49,51,50,51,51,51,52,51,53,51,54,51,55,51,56,51,57,52,48,52,49,52,50,52,51,52,52,52,53,52,54,52,55,52,56,52,57,53,48,53,49,53,50,53,51,53,52,53,53,53,54,53,55,53,56,53,57,54,48,54,49,54,50,54,51,54,52,54,53,54,54,54,55,54,56,54,57,55,48,55,49,55,50,55,51,55,52,55,53,55,54,55,55,55,56,55,57,56,48,56,49,56,50,56,51,56,52,56,53,56,54,56,55,56,56,56,57,57,48,57,49,57,50,57,51,57,52,57,53,57,54,57,55,57,56,57,57])) (some (.t 10)) (some (.t 13))),
m 2 14])
(.ret [2]))))⟩
def L_legatelaw17_LongVerdicts_0 : KC:=
(.seq (.seq (.ops [m 7 3,
m 8 0,
o 9 (.len 1 (.t 8)),
o 10 (.bin .lss 0 false (.t 7) (.t 9))])
(.cond (.t 10)
.skip
(.exit [] 0)))
(.seq (.block 1
(.seq (.ops [m 13 0,
m 14 3,
o 15 (.idxAddrSl 3 (.t 13) (.t 14)),
o 16 (.fieldAddr 0 (.t 15)),
o 17 (.load false 1 (.t 16)),
o 18 (.len 0 (.t 17)),
o 19 (.bin .gtr 0 true (.t 18) (.c (.int .i64 300))),
m 20 19,
og 21 20 false (.mv (.t 0)),
og 22 20 false (.mv (.t 3)),
og 23 20 false (.idxAddrSl 3 (.t 21) (.t 22)),
og 24 20 false (.fieldAddr 1 (.t 23)),
og 25 20 false (.load false 1 (.t 24)),
og 26 20 false (.len 0 (.t 25)),
og 27 20 false (.bin .gtr 0 true (.t 26) (.c (.int .i64 300))),
o 28 (.pick (.t 20) (.c (.bool true)) (.t 27)),
m 29 28,
og 30 29 false (.mv (.t 0)),
og 31 29 false (.mv (.t 3)),
og 32 29 false (.idxAddrSl 3 (.t 30) (.t 31)),
og 33 29 false (.fieldAddr 2 (.t 32)),
og 34 29 false (.load false 1 (.t 33)),
og 35 29 false (.len 0 (.t 34)),
og 36 29 false (.bin .gtr 0 true (.t 35) (.c (.int .i64 300))),
o 37 (.pick (.t 29) (.c (.bool true)) (.t 36))])
(.cond (.t 37)
(.seq (.ops [o 2 (.mv (.c (.bool true)))])
(.ret [2]))
.skip)))
(.ops [m 11 3,
o 12 (.bin .add 0 true (.t 11) (.c (.int .i64 1))),
m 3 12])))
def K_legatelaw17_LongVerdicts : KF:=⟨1,38,[(.tmp 2)],
(.seq (.ops [o 2 (.mv (.c (.bool false)))])
(.seq (.seq (.ops [m 4 0,
o 5 (.len 1 (.t 4)),
o 6 (.bin .gtr 0 true (.t 5) (.c (.int .i64 60)))])
(.cond (.t 6)
(.seq (.ops [o 2 (.mv (.c (.bool true)))])
(.ret [2]))
.skip))
(.seq (.seq (.ops [o 3 (.mv (.c (.int .i64 0)))])
(.block 0
(.loop [0,3] L_legatelaw17_LongVerdicts_0)))
(.seq (.ops [o 2 (.mv (.c (.bool false)))])
(.ret [2])))))⟩
def L_legatelaw28_LongStore_0 : KC:=
(.seq (.seq (.ops [m 14 4,
o 15 (.fieldAddr 2 (.t 1)),
o 16 (.load false 1 (.t 15)),
o 17 (.len 1 (.t 16)),
o 18 (.bin .lss 0 false (.t 14) (.t 17)),
m 19 18,
og 20 19 true (.mv (.t 3)),
og 21 19 true (.bin .lss 0 true (.t 20) (.c (.int .i64 40000))),
o 22 (.pick (.t 19) (.t 21) (.c (.bool false)))])
(.cond (.t 22)
.skip
(.exit [3] 0)))
(.seq (.block 1
(.plain [m 25 3,
o 26 (.bin .add 0 true (.t 25) (.c (.int .i64 50))),
o 27 (.fieldAddr 2 (.t 1)),
o 28 (.load false 1 (.t 27)),
m 29 4,
o 30 (.idxAddrSl 2 (.t 28) (.t 29)),
o 31 (.fieldAddr 0 (.t 30)),
o 32 (.load false 1 (.t 31)),
o 33 (.len 0 (.t 32)),
o 34 (.minmax false (.c (.int .i64 40000)) (.t 33)),
o 35 (.bin .add 0 false (.t 26) (.t 34)),
o 36 (.fieldAddr 2 (.t 1)),
o 37 (.load false 1 (.t 36)),
m 38 4,
o 39 (.idxAddrSl 2 (.t 37) (.t 38)),
o 40 (.fieldAddr 1 (.t 39)),
o 41 (.load false 1 (.t 40)),
o 42 (.len 0 (.t 41)),
o 43 (.minmax false (.c (.int .i64 40000)) (.t 42)),
o 44 (.bin .add 0 false (.t 35) (.t 43)),
m 3 44]))
(.ops [m 23 4,
o 24 (.bin .add 0 true (.t 23) (.c (.int .i64 1))),
m 4 24])))
def K_legatelaw28_LongStore : KF:=⟨1,47,[(.tmp 2)],
(.seq (.ops [o 1 (.box (.t 0)),
o 2 (.mv (.c (.bool false)))])
(.seq (.ops [o 5 (.fieldAddr 1 (.t 1)),
o 6 (.load false 1 (.t 5)),
o 7 (.len 0 (.t 6)),
o 8 (.minmax false (.c (.int .i64 40000)) (.t 7)),
o 9 (.fieldAddr 0 (.t 1)),
o 10 (.load false 1 (.t 9)),
o 11 (.len 0 (.t 10)),
o 12 (.minmax false (.c (.int .i64 40000)) (.t 11)),
o 13 (.bin .add 0 false (.t 8) (.t 12)),
m 3 13])
(.seq (.seq (.ops [o 4 (.mv (.c (.int .i64 0)))])
(.block 0
(.loop [1,3,4] L_legatelaw28_LongStore_0)))
(.seq (.ops [m 45 3,
o 46 (.bin .geq 0 true (.t 45) (.c (.int .i64 40000))),
m 2 46])
(.ret [2])))))⟩
def L_legatelaw31_Long_0 : KC:=
(.seq (.seq (.ops [m 40 5,
o 41 (.fieldAddr 1 (.t 1)),
o 42 (.load false 1 (.t 41)),
m 43 4,
o 44 (.idxAddrSl 3 (.t 42) (.t 43)),
o 45 (.fieldAddr 2 (.t 44)),
o 46 (.load false 1 (.t 45)),
o 47 (.len 1 (.t 46)),
o 48 (.bin .lss 0 false (.t 40) (.t 47))])
(.cond (.t 48)
.skip
(.exit [1,3,4] 2)))
(.seq (.block 3
(.ops [m 51 3,
o 52 (.bin .add 0 true (.t 51) (.c (.int .i64 50))),
o 53 (.fieldAddr 1 (.t 1)),
o 54 (.load false 1 (.t 53)),
m 55 4,
o 56 (.idxAddrSl 3 (.t 54) (.t 55)),
o 57 (.fieldAddr 2 (.t 56)),
o 58 (.load false 1 (.t 57)),
m 59 5,
o 60 (.idxAddrSl 2 (.t 58) (.t 59)),
o 61 (.fieldAddr 1 (.t 60)),
o 62 (.load false 1 (.t 61)),
o 63 (.len 0 (.t 62)),
o 64 (.bin .add 0 false (.t 52) (.t 63)),
m 3 64]))
(.ops [m 49 5,
o 50 (.bin .add 0 true (.t 49) (.c (.int .i64 1))),
m 5 50])))
def L_legatelaw31_Long_1 : KC:=
(.seq (.seq (.ops [m 27 4,
o 28 (.fieldAddr 1 (.t 1)),
o 29 (.load false 1 (.t 28)),
o 30 (.len 1 (.t 29)),
o 31 (.bin .lss 0 false (.t 27) (.t 30))])
(.cond (.t 31)
.skip
(.exit [1,3] 0)))
(.seq (.block 1
(.seq (.seq (.ops [o 34 (.fieldAddr 1 (.t 1)),
o 35 (.load false 1 (.t 34)),
m 36 4,
o 37 (.idxAddrSl 3 (.t 35) (.t 36)),
o 38 (.load true 3 (.t 37)),
o 39 (.callF f_legatelaw28_LongStore [(.t 38)])])
(.cond (.t 39)
(.seq (.ops [o 2 (.mv (.c (.bool true)))])
(.ret [2]))
.skip))
(.seq (.ops [o 5 (.mv (.c (.int .i64 0)))])
(.block 2
(.loop [1,3,4,5] L_legatelaw31_Long_0)))))
(.ops [m 32 4,
o 33 (.bin .add 0 true (.t 32) (.c (.int .i64 1))),
m 4 33])))
def K_legatelaw31_Long : KF:=⟨1,72,[(.tmp 2)],
(.seq (.ops [o 1 (.box (.t 0)),
o 2 (.mv (.c (.bool false)))])
(.seq (.seq (.ops [o 6 (.fieldAddr 0 (.t 1)),
o 7 (.load false 1 (.t 6)),
o 8 (.len 0 (.t 7)),
o 9 (.bin .gtr 0 true (.t 8) (.c (.int .i64 12000))),
m 10 9,
og 11 10 false (.fieldAddr 1 (.t 1)),
og 12 10 false (.load false 1 (.t 11)),
og 13 10 false (.len 1 (.t 12)),
og 14 10 false (.bin .gtr 0 true (.t 13) (.c (.int .i64 10))),
o 15 (.pick (.t 10) (.c (.bool true)) (.t 14)),
m 16 15,
og 17 16 false (.fieldAddr 9 (.t 1)),
og 18 16 false (.load false 1 (.t 17)),
og 19 16 false (.len 1 (.t 18)),
og 20 16 false (.bin .gtr 0 true (.t 19) (.c (.int .i64 70))),
o 21 (.pick (.t 16) (.c (.bool true)) (.t 20)),
m 22 21,
og 23 22 false (.fieldAddr 4 (.t 1)),
og 24 22 false (.load false 1 (.t 23)),
og 25 22 false (.callF f_legatelaw17_LongVerdicts [(.t 24)]),
o 26 (.pick (.t 22) (.c (.bool true)) (.t 25))])
(.cond (.t 26)
(.seq (.ops [o 2 (.mv (.c (.bool true)))])
(.ret [2]))
.skip))
(.seq (.ops [o 3 (.mv (.c (.int .i64 0)))])
(.seq (.seq (.ops [o 4 (.mv (.c (.int .i64 0)))])
(.block 0
(.loop [1,3,4] L_legatelaw31_Long_1)))
(.seq (.ops [m 65 3,
o 66 (.bin .geq 0 true (.t 65) (.c (.int .i64 60000))),
m 67 66,
og 68 67 false (.fieldAddr 9 (.t 1)),
og 69 67 false (.load false 1 (.t 68)),
og 70 67 false (.callF f_legatelaw31_longPaths [(.t 69)]),
o 71 (.pick (.t 67) (.c (.bool true)) (.t 70)),
m 2 71])
(.ret [2]))))))⟩
def L_legatelaw31_longPaths_0 : KC:=
(.seq (.seq (.ops [m 4 3,
m 5 0,
o 6 (.len 1 (.t 5)),
o 7 (.bin .lss 0 false (.t 4) (.t 6))])
(.cond (.t 7)
.skip
(.exit [0] 0)))
(.seq (.block 1
(.seq (.ops [m 10 0,
m 11 3,
o 12 (.idxAddrSl 1 (.t 10) (.t 11)),
o 13 (.load false 1 (.t 12)),
o 14 (.len 0 (.t 13)),
o 15 (.bin .gtr 0 true (.t 14) (.c (.int .i64 1000)))])
(.cond (.t 15)
(.seq (.ops [o 2 (.mv (.c (.bool true)))])
(.ret [2]))
.skip)))
(.ops [m 8 3,
o 9 (.bin .add 0 true (.t 8) (.c (.int .i64 1))),
m 3 9])))
def K_legatelaw31_longPaths : KF:=⟨1,19,[(.tmp 2)],
(.seq (.ops [o 2 (.mv (.c (.bool false)))])
(.seq (.seq (.ops [o 3 (.mv (.c (.int .i64 0)))])
(.block 0
(.loop [0,3] L_legatelaw31_longPaths_0)))
(.seq (.ops [m 16 0,
o 17 (.len 1 (.t 16)),
o 18 (.bin .gtr 0 true (.t 17) (.c (.int .i64 70))),
m 2 18])
(.ret [2]))))⟩
def K_legatelaw32_ScriptShows : KF:=⟨1,39,[(.tmp 2)],
(.seq (.ops [o 1 (.box (.t 0)),
o 2 (.mv (.c (.bool false)))])
(.seq (.seq (.ops [o 8 (.load true 10 (.t 1)),
o 9 (.callF f_legatelaw31_Long [(.t 8)])])
(.cond (.t 9)
(.seq (.ops [o 10 (.callF f_legatelaw32_awake []),
m 2 10])
(.ret [2]))
.skip))
(.seq (.ops [o 11 (.load true 10 (.t 1)),
o 12 (.callF f_legatelaw32_own [(.t 11)]),
o 3 (.new [(.str []),.nils,(.int .i64 0),(.bool false),.nils,(.int .i64 0),(.int .i64 0),(.int .i64 0),(.int .i64 0),.nils] none),
u (.store 10 (.t 3) (.t 12))])
(.seq (.ops [o 14 (.load true 10 (.t 3)),
o 15 (.callF f_script_Show [(.t 14)]),
m 13 15,
o 16 (.extract (.t 13) 0),
o 17 (.extract (.t 13) 1),
m 4 16,
m 5 17])
(.seq (.ops [o 19 (.load true 10 (.t 1)),
o 20 (.callF f_legateref32_Show [(.t 19)]),
m 18 20,
o 21 (.extract (.t 18) 0),
o 22 (.extract (.t 18) 1),
m 6 21,
m 7 22])
(.seq (.ops [m 23 4,
m 24 6,
o 25 (.bin .eql 0 false (.t 23) (.t 24)),
m 26 25,
og 27 26 true (.mv (.t 5)),
og 28 26 true (.mv (.t 7)),
og 29 26 true (.bin .eql 0 false (.t 27) (.t 28)),
o 30 (.pick (.t 26) (.t 29) (.c (.bool false))),
m 31 30,
og 32 31 true (.load true 10 (.t 3)),
og 33 31 true (.load true 10 (.t 1)),
og 34 31 true (.callF f_legateref32_Same [(.t 32),(.t 33)]),
o 35 (.pick (.t 31) (.t 34) (.c (.bool false))),
m 36 35,
og 37 36 true (.callF f_legatelaw32_awake []),
o 38 (.pick (.t 36) (.t 37) (.c (.bool false))),
m 2 38])
(.ret [2])))))))⟩
def L_legatelaw32_own_0 : KC:=
(.seq (.seq (.ops [m 14 3,
o 15 (.fieldAddr 1 (.t 1)),
o 16 (.load false 1 (.t 15)),
o 17 (.len 1 (.t 16)),
o 18 (.bin .lss 0 false (.t 14) (.t 17))])
(.cond (.t 18)
.skip
(.exit [1,2] 0)))
(.seq (.block 1
(.drawn [o 21 (.fieldAddr 1 (.t 1)),
⟨(some 22),(.load false 1 (.t 21)),none,[3,10]⟩,
m 23 3,
o 24 (.buildSl [(.str []),(.str [])] 0 2 []),
o 25 (.fieldAddr 1 (.t 1)),
⟨(some 26),(.load false 1 (.t 25)),none,[3]⟩,
m 27 3,
o 28 (.idxAddrSl 3 (.t 26) (.t 27)),
o 29 (.fieldAddr 2 (.t 28)),
⟨(some 30),(.load false 1 (.t 29)),none,[3]⟩,
o 31 (.app false 2 32 none (.t 24) (.t 30)),
o 32 (.idxAddrSl 3 (.t 22) (.t 23)),
o 33 (.fieldAddr 2 (.t 32)),
u (.store 1 (.t 33) (.t 31))]))
(.ops [m 19 3,
o 20 (.bin .add 0 true (.t 19) (.c (.int .i64 1))),
m 3 20])))
def K_legatelaw32_own : KF:=⟨1,40,[(.cell 2 true 10)],
(.seq (.ops [o 1 (.box (.t 0)),
o 2 (.new [(.str []),.nils,(.int .i64 0),(.bool false),.nils,(.int .i64 0),(.int .i64 0),(.int .i64 0),(.int .i64 0),.nils] none)])
(.seq (.ops [o 4 (.buildSl [(.str []),(.str []),(.str [])] 0 3 []),
o 5 (.fieldAddr 4 (.t 1)),
o 6 (.load false 1 (.t 5)),
o 7 (.app false 3 48 none (.t 4) (.t 6)),
o 8 (.fieldAddr 4 (.t 1)),
u (.store 1 (.t 8) (.t 7))])
(.seq (.ops [o 9 (.buildSl [(.str []),(.str []),.nils] 0 3 []),
o 10 (.fieldAddr 1 (.t 1)),
o 11 (.load false 1 (.t 10)),
o 12 (.app false 3 56 none (.t 9) (.t 11)),
o 13 (.fieldAddr 1 (.t 1)),
u (.store 1 (.t 13) (.t 12))])
(.seq (.seq (.ops [o 3 (.mv (.c (.int .i64 0)))])
(.block 0
(.loop [1,2,3] L_legatelaw32_own_0)))
(.seq (.ops [o 34 (.buildSl [(.str [])] 0 1 []),
o 35 (.fieldAddr 9 (.t 1)),
o 36 (.load false 1 (.t 35)),
o 37 (.app false 1 16 none (.t 34) (.t 36)),
o 38 (.fieldAddr 9 (.t 1)),
u (.store 1 (.t 38) (.t 37))])
(.seq (.ops [o 39 (.load true 10 (.t 1)),
u (.store 10 (.t 2) (.t 39))])
(.ret [2])))))))⟩
def L_legateref06_Show_0 : KC:=
(.seq (.seq (.ops [m 9 5,
o 10 (.bin .eql 0 true (.t 9) (.c (.int .i64 0))),
m 11 10,
og 12 11 false (.mv (.t 0)),
og 13 11 false (.bin .neq 0 true (.t 12) (.c (.int .i64 0))),
o 14 (.pick (.t 11) (.c (.bool true)) (.t 13))])
(.cond (.t 14)
.skip
(.exit [3,4] 0)))
(.seq (.block 1
(.seq (.ops [m 17 0,
o 18 (.bin .rem 0 true (.t 17) (.c (.int .i64 10))),
m 6 18])
(.seq (.seq (.ops [m 19 6,
o 20 (.bin .lss 0 true (.t 19) (.c (.int .i64 0)))])
(.cond (.t 20)
(.ops [m 21 6,
o 22 (.un .neg (.t 21)),
m 6 22])
.skip))
(.seq (.ops [m 23 6,
o 24 (.bin .add 0 true (.c (.int .i64 48)) (.t 23)),
o 25 (.i2i .u8 (.t 24)),
o 26 (.buildSl [(.int .u8 0)] 1 1 [(0,1,(.t 25))]),
o 27 (.b2s (.t 26)),
m 28 3,
o 29 (.bin .add 0 false (.t 27) (.t 28)),
m 3 29])
(.ops [m 30 0,
o 31 (.bin .quo 0 true (.t 30) (.c (.int .i64 10))),
m 0 31])))))
(.ops [m 15 5,
o 16 (.bin .add 0 true (.t 15) (.c (.int .i64 1))),
m 5 16])))
def K_legateref06_Show : KF:=⟨1,36,[(.tmp 2)],
(.seq (.ops [o 2 (.mv (.c (.str [])))])
(.seq (.ops [o 3 (.mv (.c (.str [])))])
(.seq (.ops [m 7 0,
o 8 (.bin .lss 0 true (.t 7) (.c (.int .i64 0))),
m 4 8])
(.seq (.seq (.ops [o 5 (.mv (.c (.int .i64 0)))])
(.block 0
(.loop [0,3,4,5] L_legateref06_Show_0)))
(.seq (.seq (.ops [m 32 4])
(.cond (.t 32)
(.seq (.ops [m 33 3,
o 34 (.bin .add 0 true (.c (.str [45])) (.t 33)),
m 2 34])
(.ret [2]))
.skip))
(.seq (.ops [m 35 3,
m 2 35])
(.ret [2])))))))⟩
def K_legateref32_Net : KF:=⟨1,10,[(.tmp 2)],
(.seq (.ops [o 2 (.mv (.c (.str [])))])
(.seq (.ops [m 3 0,
o 4 (.len 0 (.t 3)),
o 5 (.callF f_legateref06_Show [(.t 4)]),
o 6 (.bin .add 0 true (.t 5) (.c (.str [58]))),
m 7 0,
o 8 (.bin .add 0 false (.t 6) (.t 7)),
o 9 (.bin .add 0 true (.t 8) (.c (.str [44]))),
m 2 9])
(.ret [2])))⟩
def K_legateref32_Num : KF:=⟨1,6,[(.tmp 2)],
(.seq (.ops [o 2 (.mv (.c (.str [])))])
(.seq (.ops [m 3 0,
o 4 (.callF f_legateref06_Show [(.t 3)]),
o 5 (.callF f_legateref32_Net [(.t 4)]),
m 2 5])
(.ret [2])))⟩
def L_legateref32_Same_0 : KC:=
(.seq (.seq (.ops [m 64 5,
o 65 (.fieldAddr 4 (.t 2)),
o 66 (.load false 1 (.t 65)),
o 67 (.len 1 (.t 66)),
o 68 (.bin .lss 0 false (.t 64) (.t 67))])
(.cond (.t 68)
.skip
(.exit [2,3] 0)))
(.seq (.block 1
(.seq (.plain [o 71 (.fieldAddr 4 (.t 2)),
o 72 (.load false 1 (.t 71)),
m 73 5,
o 74 (.idxAddrSl 3 (.t 72) (.t 73)),
o 75 (.load true 3 (.t 74)),
o 76 (.fieldAddr 4 (.t 3)),
o 77 (.load false 1 (.t 76)),
m 78 5,
o 79 (.idxAddrSl 3 (.t 77) (.t 78)),
o 80 (.load true 3 (.t 79)),
o 81 (.bin .neq 11 false (.t 75) (.t 80))])
(.cond (.t 81)
(.seq (.ops [o 4 (.mv (.c (.bool false)))])
(.ret [4]))
.skip)))
(.ops [m 69 5,
o 70 (.bin .add 0 true (.t 69) (.c (.int .i64 1))),
m 5 70])))
def L_legateref32_Same_1 : KC:=
(.seq (.seq (.ops [m 120 9,
o 121 (.fieldAddr 2 (.t 7)),
o 122 (.load false 1 (.t 121)),
o 123 (.len 1 (.t 122)),
o 124 (.bin .lss 0 false (.t 120) (.t 123))])
(.cond (.t 124)
.skip
(.exit [2,3,6] 4)))
(.seq (.block 5
(.seq (.plain [o 127 (.fieldAddr 2 (.t 7)),
o 128 (.load false 1 (.t 127)),
m 129 9,
o 130 (.idxAddrSl 2 (.t 128) (.t 129)),
o 131 (.load true 2 (.t 130)),
o 132 (.fieldAddr 2 (.t 8)),
o 133 (.load false 1 (.t 132)),
m 134 9,
o 135 (.idxAddrSl 2 (.t 133) (.t 134)),
o 136 (.load true 2 (.t 135)),
o 137 (.bin .neq 10 false (.t 131) (.t 136))])
(.cond (.t 137)
(.seq (.ops [o 4 (.mv (.c (.bool false)))])
(.ret [4]))
.skip)))
(.ops [m 125 9,
o 126 (.bin .add 0 true (.t 125) (.c (.int .i64 1))),
m 9 126])))
def L_legateref32_Same_2 : KC:=
(.seq (.seq (.ops [m 82 6,
o 83 (.fieldAddr 1 (.t 2)),
o 84 (.load false 1 (.t 83)),
o 85 (.len 1 (.t 84)),
o 86 (.bin .lss 0 false (.t 82) (.t 85))])
(.cond (.t 86)
.skip
(.exit [2,3] 2)))
(.seq (.block 3
(.seq (.drawn [o 89 (.fieldAddr 1 (.t 2)),
o 90 (.load false 1 (.t 89)),
m 91 6,
o 92 (.idxAddrSl 3 (.t 90) (.t 91)),
o 93 (.load true 3 (.t 92)),
o 94 (.fieldAddr 1 (.t 3)),
⟨(some 95),(.load false 1 (.t 94)),none,[12]⟩,
m 96 6,
o 97 (.idxAddrSl 3 (.t 95) (.t 96)),
⟨(some 98),(.load true 3 (.t 97)),none,[12]⟩,
u .pend,
u .pend,
o 7 (.fill 10 7 3 (.t 93)),
o 8 (.fill 11 8 3 (.t 98))])
(.seq (.seq (.ops [o 99 (.fieldAddr 0 (.t 7)),
o 100 (.load false 1 (.t 99)),
o 101 (.fieldAddr 0 (.t 8)),
o 102 (.load false 1 (.t 101)),
o 103 (.bin .neq 0 false (.t 100) (.t 102)),
m 104 103,
og 105 104 false (.fieldAddr 1 (.t 7)),
og 106 104 false (.load false 1 (.t 105)),
og 107 104 false (.fieldAddr 1 (.t 8)),
og 108 104 false (.load false 1 (.t 107)),
og 109 104 false (.bin .neq 0 false (.t 106) (.t 108)),
o 110 (.pick (.t 104) (.c (.bool true)) (.t 109)),
m 111 110,
og 112 111 false (.fieldAddr 2 (.t 7)),
og 113 111 false (.load false 1 (.t 112)),
og 114 111 false (.len 1 (.t 113)),
og 115 111 false (.fieldAddr 2 (.t 8)),
og 116 111 false (.load false 1 (.t 115)),
og 117 111 false (.len 1 (.t 116)),
og 118 111 false (.bin .neq 0 false (.t 114) (.t 117)),
o 119 (.pick (.t 111) (.c (.bool true)) (.t 118))])
(.cond (.t 119)
(.seq (.ops [o 4 (.mv (.c (.bool false)))])
(.ret [4]))
.skip))
(.seq (.ops [o 9 (.mv (.c (.int .i64 0)))])
(.block 4
(.loop [2,3,6,7,8,9] L_legateref32_Same_1))))))
(.ops [m 87 6,
o 88 (.bin .add 0 true (.t 87) (.c (.int .i64 1))),
m 6 88])))
def L_legateref32_Same_3 : KC:=
(.seq (.seq (.ops [m 138 10,
o 139 (.fieldAddr 9 (.t 2)),
o 140 (.load false 1 (.t 139)),
o 141 (.len 1 (.t 140)),
o 142 (.bin .lss 0 false (.t 138) (.t 141))])
(.cond (.t 142)
.skip
(.exit [] 6)))
(.seq (.block 7
(.seq (.plain [o 145 (.fieldAddr 9 (.t 2)),
o 146 (.load false 1 (.t 145)),
m 147 10,
o 148 (.idxAddrSl 1 (.t 146) (.t 147)),
o 149 (.load false 1 (.t 148)),
o 150 (.fieldAddr 9 (.t 3)),
o 151 (.load false 1 (.t 150)),
m 152 10,
o 153 (.idxAddrSl 1 (.t 151) (.t 152)),
o 154 (.load false 1 (.t 153)),
o 155 (.bin .neq 0 false (.t 149) (.t 154))])
(.cond (.t 155)
(.seq (.ops [o 4 (.mv (.c (.bool false)))])
(.ret [4]))
.skip)))
(.ops [m 143 10,
o 144 (.bin .add 0 true (.t 143) (.c (.int .i64 1))),
m 10 144])))
def K_legateref32_Same : KF:=⟨2,156,[(.tmp 4)],
(.seq (.ops [o 2 (.box (.t 0)),
o 3 (.box (.t 1)),
o 4 (.mv (.c (.bool false)))])
(.seq (.seq (.ops [o 11 (.fieldAddr 0 (.t 2)),
o 12 (.load false 1 (.t 11)),
o 13 (.fieldAddr 0 (.t 3)),
o 14 (.load false 1 (.t 13)),
o 15 (.bin .neq 0 false (.t 12) (.t 14)),
m 16 15,
og 17 16 false (.fieldAddr 2 (.t 2)),
og 18 16 false (.load false 1 (.t 17)),
og 19 16 false (.fieldAddr 2 (.t 3)),
og 20 16 false (.load false 1 (.t 19)),
og 21 16 false (.bin .neq 0 false (.t 18) (.t 20)),
o 22 (.pick (.t 16) (.c (.bool true)) (.t 21)),
m 23 22,
og 24 23 false (.fieldAddr 3 (.t 2)),
og 25 23 false (.load false 1 (.t 24)),
og 26 23 false (.fieldAddr 3 (.t 3)),
og 27 23 false (.load false 1 (.t 26)),
og 28 23 false (.bin .neq 1 false (.t 25) (.t 27)),
o 29 (.pick (.t 23) (.c (.bool true)) (.t 28)),
m 30 29,
og 31 30 false (.fieldAddr 5 (.t 2)),
og 32 30 false (.load true 4 (.t 31)),
og 33 30 false (.fieldAddr 5 (.t 3)),
og 34 30 false (.load true 4 (.t 33)),
og 35 30 false (.bin .neq 81932 false (.t 32) (.t 34)),
o 36 (.pick (.t 30) (.c (.bool true)) (.t 35)),
m 37 36,
og 38 37 false (.fieldAddr 4 (.t 2)),
og 39 37 false (.load false 1 (.t 38)),
og 40 37 false (.len 1 (.t 39)),
og 41 37 false (.fieldAddr 4 (.t 3)),
og 42 37 false (.load false 1 (.t 41)),
og 43 37 false (.len 1 (.t 42)),
og 44 37 false (.bin .neq 0 false (.t 40) (.t 43)),
o 45 (.pick (.t 37) (.c (.bool true)) (.t 44)),
m 46 45,
og 47 46 false (.fieldAddr 1 (.t 2)),
og 48 46 false (.load false 1 (.t 47)),
og 49 46 false (.len 1 (.t 48)),
og 50 46 false (.fieldAddr 1 (.t 3)),
og 51 46 false (.load false 1 (.t 50)),
og 52 46 false (.len 1 (.t 51)),
og 53 46 false (.bin .neq 0 false (.t 49) (.t 52)),
o 54 (.pick (.t 46) (.c (.bool true)) (.t 53)),
m 55 54,
og 56 55 false (.fieldAddr 9 (.t 2)),
og 57 55 false (.load false 1 (.t 56)),
og 58 55 false (.len 1 (.t 57)),
og 59 55 false (.fieldAddr 9 (.t 3)),
og 60 55 false (.load false 1 (.t 59)),
og 61 55 false (.len 1 (.t 60)),
og 62 55 false (.bin .neq 0 false (.t 58) (.t 61)),
o 63 (.pick (.t 55) (.c (.bool true)) (.t 62))])
(.cond (.t 63)
(.seq (.ops [o 4 (.mv (.c (.bool false)))])
(.ret [4]))
.skip))
(.seq (.seq (.ops [o 5 (.mv (.c (.int .i64 0)))])
(.block 0
(.loop [2,3,5] L_legateref32_Same_0)))
(.seq (.seq (.ops [o 6 (.mv (.c (.int .i64 0)))])
(.block 2
(.loop [2,3,6] L_legateref32_Same_2)))
(.seq (.seq (.ops [o 10 (.mv (.c (.int .i64 0)))])
(.block 6
(.loop [2,3,10] L_legateref32_Same_3)))
(.seq (.ops [o 4 (.mv (.c (.bool true)))])
(.ret [4])))))))⟩
def L_legateref32_Show_0 : KC:=
(.seq (.seq (.ops [m 23 8,
o 24 (.fieldAddr 4 (.t 1)),
o 25 (.load false 1 (.t 24)),
o 26 (.len 1 (.t 25)),
o 27 (.bin .lss 0 false (.t 23) (.t 26))])
(.cond (.t 27)
.skip
(.exit [1,4,5,6,7] 0)))
(.seq (.block 1
(.seq (.ops [o 30 (.fieldAddr 4 (.t 1)),
o 31 (.load false 1 (.t 30)),
m 32 8,
o 33 (.idxAddrSl 3 (.t 31) (.t 32)),
o 34 (.load true 3 (.t 33)),
o 9 (.new [(.str []),(.str []),(.str [])] none),
u (.store 3 (.t 9) (.t 34))])
(.drawn [m 35 5,
o 36 (.fieldAddr 0 (.t 9)),
o 37 (.load false 1 (.t 36)),
o 38 (.callF f_legateref32_Net [(.t 37)]),
o 39 (.fieldAddr 1 (.t 9)),
⟨(some 40),(.load false 1 (.t 39)),none,[3]⟩,
o 41 (.callF f_legateref32_Net [(.t 40)]),
o 42 (.bin .add 0 false (.t 38) (.t 41)),
o 43 (.fieldAddr 2 (.t 9)),
⟨(some 44),(.load false 1 (.t 43)),none,[3,6]⟩,
o 45 (.callF f_legateref32_Net [(.t 44)]),
o 46 (.bin .add 0 false (.t 42) (.t 45)),
o 47 (.callF f_legateref32_Net [(.t 46)]),
o 48 (.bin .add 0 false (.t 35) (.t 47)),
m 5 48])))
(.ops [m 28 8,
o 29 (.bin .add 0 true (.t 28) (.c (.int .i64 1))),
m 8 29])))
def L_legateref32_Show_1 : KC:=
(.seq (.seq (.ops [m 61 13,
o 62 (.fieldAddr 2 (.t 11)),
o 63 (.load false 1 (.t 62)),
o 64 (.len 1 (.t 63)),
o 65 (.bin .lss 0 false (.t 61) (.t 64))])
(.cond (.t 65)
.skip
(.exit [1,4,5,6,7,10,11,12] 4)))
(.seq (.block 5
(.drawn [m 68 12,
o 69 (.fieldAddr 2 (.t 11)),
o 70 (.load false 1 (.t 69)),
m 71 13,
o 72 (.idxAddrSl 2 (.t 70) (.t 71)),
o 73 (.fieldAddr 0 (.t 72)),
o 74 (.load false 1 (.t 73)),
o 75 (.callF f_legateref32_Net [(.t 74)]),
o 76 (.fieldAddr 2 (.t 11)),
⟨(some 77),(.load false 1 (.t 76)),none,[7]⟩,
m 78 13,
o 79 (.idxAddrSl 2 (.t 77) (.t 78)),
o 80 (.fieldAddr 1 (.t 79)),
⟨(some 81),(.load false 1 (.t 80)),none,[7]⟩,
o 82 (.callF f_legateref32_Net [(.t 81)]),
o 83 (.bin .add 0 false (.t 75) (.t 82)),
o 84 (.callF f_legateref32_Net [(.t 83)]),
o 85 (.bin .add 0 false (.t 68) (.t 84)),
m 12 85]))
(.ops [m 66 13,
o 67 (.bin .add 0 true (.t 66) (.c (.int .i64 1))),
m 13 67])))
def L_legateref32_Show_2 : KC:=
(.seq (.seq (.ops [m 49 10,
o 50 (.fieldAddr 1 (.t 1)),
o 51 (.load false 1 (.t 50)),
o 52 (.len 1 (.t 51)),
o 53 (.bin .lss 0 false (.t 49) (.t 52))])
(.cond (.t 53)
.skip
(.exit [1,4,5,6,7] 2)))
(.seq (.block 3
(.seq (.ops [o 56 (.fieldAddr 1 (.t 1)),
o 57 (.load false 1 (.t 56)),
m 58 10,
o 59 (.idxAddrSl 3 (.t 57) (.t 58)),
o 60 (.load true 3 (.t 59)),
o 11 (.new [(.str []),(.str []),.nils] none),
u (.store 3 (.t 11) (.t 60))])
(.seq (.ops [o 12 (.mv (.c (.str [])))])
(.seq (.seq (.ops [o 13 (.mv (.c (.int .i64 0)))])
(.block 4
(.loop [1,4,5,6,7,10,11,12,13] L_legateref32_Show_1)))
(.drawn [m 86 6,
o 87 (.fieldAddr 0 (.t 11)),
o 88 (.load false 1 (.t 87)),
o 89 (.callF f_legateref32_Net [(.t 88)]),
o 90 (.fieldAddr 1 (.t 11)),
⟨(some 91),(.load false 1 (.t 90)),none,[3]⟩,
o 92 (.callF f_legateref32_Net [(.t 91)]),
o 93 (.bin .add 0 false (.t 89) (.t 92)),
m 94 12,
o 95 (.callF f_legateref32_Net [(.t 94)]),
o 96 (.bin .add 0 false (.t 93) (.t 95)),
o 97 (.callF f_legateref32_Net [(.t 96)]),
o 98 (.bin .add 0 false (.t 86) (.t 97)),
m 6 98])))))
(.ops [m 54 10,
o 55 (.bin .add 0 true (.t 54) (.c (.int .i64 1))),
m 10 55])))
def L_legateref32_Show_3 : KC:=
(.seq (.seq (.ops [m 99 14,
o 100 (.fieldAddr 9 (.t 1)),
o 101 (.load false 1 (.t 100)),
o 102 (.len 1 (.t 101)),
o 103 (.bin .lss 0 false (.t 99) (.t 102))])
(.cond (.t 103)
.skip
(.exit [1,4,5,6,7] 6)))
(.seq (.block 7
(.ops [m 106 7,
o 107 (.fieldAddr 9 (.t 1)),
o 108 (.load false 1 (.t 107)),
m 109 14,
o 110 (.idxAddrSl 1 (.t 108) (.t 109)),
o 111 (.load false 1 (.t 110)),
o 112 (.callF f_legateref32_Net [(.t 111)]),
o 113 (.bin .add 0 false (.t 106) (.t 112)),
m 7 113]))
(.ops [m 104 14,
o 105 (.bin .add 0 true (.t 104) (.c (.int .i64 1))),
m 14 105])))
def K_legateref32_Show : KF:=⟨1,156,[(.tmp 2),(.tmp 3)],
(.seq (.ops [o 1 (.box (.t 0)),
o 2 (.mv (.c (.str []))),
o 3 (.mv (.c (.int .i64 0)))])
(.seq (.seq (.ops [o 17 (.fieldAddr 9 (.t 1)),
o 18 (.load false 1 (.t 17)),
o 19 (.len 1 (.t 18)),
o 20 (.bin .gtr 0 true (.t 19) (.c (.int .i64 64)))])
(.cond (.t 20)
(.seq (.ops [o 2 (.mv (.c (.str []))),
o 3 (.mv (.c (.int .i64 5)))])
(.ret [2,3]))
.skip))
(.seq (.ops [o 4 (.mv (.c (.str [116,97,98,108,101])))])
(.seq (.seq (.ops [o 21 (.fieldAddr 3 (.t 1)),
o 22 (.load false 1 (.t 21))])
(.cond (.t 22)
(.ops [o 4 (.mv (.c (.str [104,109,97,99])))])
.skip))
(.seq (.ops [o 5 (.mv (.c (.str []))),
o 6 (.mv (.c (.str []))),
o 7 (.mv (.c (.str [])))])
(.seq (.seq (.ops [o 8 (.mv (.c (.int .i64 0)))])
(.block 0
(.loop [1,4,5,6,7,8] L_legateref32_Show_0)))
(.seq (.seq (.ops [o 10 (.mv (.c (.int .i64 0)))])
(.block 2
(.loop [1,4,5,6,7,10] L_legateref32_Show_2)))
(.seq (.seq (.ops [o 14 (.mv (.c (.int .i64 0)))])
(.block 6
(.loop [1,4,5,6,7,14] L_legateref32_Show_3)))
(.seq (.ops [o 114 (.fieldAddr 5 (.t 1)),
o 115 (.load true 4 (.t 114)),
o 15 (.new [(.int .i64 0),(.int .i64 0),(.int .i64 0),(.int .i64 0)] none),
u (.store 4 (.t 15) (.t 115))])
(.seq (.drawn [o 116 (.fieldAddr 0 (.t 1)),
o 117 (.load false 1 (.t 116)),
o 118 (.callF f_legateref32_Net [(.t 117)]),
o 119 (.fieldAddr 2 (.t 1)),
⟨(some 120),(.load false 1 (.t 119)),none,[2]⟩,
o 121 (.callF f_legateref32_Num [(.t 120)]),
o 122 (.bin .add 0 false (.t 118) (.t 121)),
m 123 4,
o 124 (.callF f_legateref32_Net [(.t 123)]),
o 125 (.bin .add 0 false (.t 122) (.t 124)),
m 126 5,
o 127 (.callF f_legateref32_Net [(.t 126)]),
o 128 (.bin .add 0 false (.t 125) (.t 127)),
o 129 (.fieldAddr 0 (.t 15)),
⟨(some 130),(.load false 1 (.t 129)),none,[2,5,8,11]⟩,
o 131 (.callF f_legateref32_Num [(.t 130)]),
o 132 (.fieldAddr 1 (.t 15)),
⟨(some 133),(.load false 1 (.t 132)),none,[2,5,8,11,15]⟩,
o 134 (.callF f_legateref32_Num [(.t 133)]),
o 135 (.bin .add 0 false (.t 131) (.t 134)),
o 136 (.fieldAddr 2 (.t 15)),
⟨(some 137),(.load false 1 (.t 136)),none,[2,5,8,11,15,18]⟩,
o 138 (.callF f_legateref32_Num [(.t 137)]),
o 139 (.bin .add 0 false (.t 135) (.t 138)),
o 140 (.fieldAddr 3 (.t 15)),
⟨(some 141),(.load false 1 (.t 140)),none,[2,5,8,11,15,18,22]⟩,
o 142 (.callF f_legateref32_Num [(.t 141)]),
o 143 (.bin .add 0 false (.t 139) (.t 142)),
o 144 (.callF f_legateref32_Net [(.t 143)]),
o 145 (.bin .add 0 false (.t 128) (.t 144)),
m 146 6,
o 147 (.callF f_legateref32_Net [(.t 146)]),
o 148 (.bin .add 0 false (.t 145) (.t 147)),
m 149 7,
o 150 (.callF f_legateref32_Net [(.t 149)]),
o 151 (.bin .add 0 false (.t 148) (.t 150)),
m 16 151])
(.seq (.seq (.ops [m 152 16,
o 153 (.len 0 (.t 152)),
o 154 (.bin .gtr 0 true (.t 153) (.c (.int .i64 1048576)))])
(.cond (.t 154)
(.seq (.ops [o 2 (.mv (.c (.str []))),
o 3 (.mv (.c (.int .i64 5)))])
(.ret [2,3]))
.skip))
(.seq (.ops [m 155 16,
m 2 155,
o 3 (.mv (.c (.int .i64 0)))])
(.ret [2,3])))))))))))))⟩
def K_math_bits_Len64 : KF:=⟨1,25,[(.tmp 2)],
(.seq (.ops [o 2 (.mv (.c (.int .i64 0)))])
(.seq (.seq (.ops [m 3 0,
o 4 (.bin .geq 0 true (.t 3) (.c (.int .u64 4294967296)))])
(.cond (.t 4)
(.seq (.ops [m 5 0,
o 6 (.bin .shr 0 true (.t 5) (.c (.int .u64 32))),
m 0 6])
(.ops [o 2 (.mv (.c (.int .i64 32)))]))
.skip))
(.seq (.seq (.ops [m 7 0,
o 8 (.bin .geq 0 true (.t 7) (.c (.int .u64 65536)))])
(.cond (.t 8)
(.seq (.ops [m 9 0,
o 10 (.bin .shr 0 true (.t 9) (.c (.int .u64 16))),
m 0 10])
(.ops [m 11 2,
o 12 (.bin .add 0 true (.t 11) (.c (.int .i64 16))),
m 2 12]))
.skip))
(.seq (.seq (.ops [m 13 0,
o 14 (.bin .geq 0 true (.t 13) (.c (.int .u64 256)))])
(.cond (.t 14)
(.seq (.ops [m 15 0,
o 16 (.bin .shr 0 true (.t 15) (.c (.int .u64 8))),
m 0 16])
(.ops [m 17 2,
o 18 (.bin .add 0 true (.t 17) (.c (.int .i64 8))),
m 2 18]))
.skip))
(.seq (.ops [m 19 2,
m 20 0,
o 21 (.i2i .u8 (.t 20)),
o 22 (.idxStr (.c (.str [0,1,2,2,3,3,3,3,4,4,4,4,4,4,4,4,5,5,5,5,5,5,5,5,5,5,5,5,5,5,5,5,6,6,6,6,6,6,6,6,6,6,6,6,6,6,6,6,6,6,6,6,6,6,6,6,6,6,6,6,6,6,6,6,7,7,7,7,7,7,7,7,7,7,7,7,7,7,7,7,7,7,7,7,7,7,7,7,7,7,7,7,7,7,7,7,7,7,7,7,7,7,7,7,7,7,7,7,7,7,7,7,7,7,7,7,7,7,7,7,7,7,7,7,7,7,7,7,8,8,8,8,8,8,8,8,8,8,8,8,8,8,8,8,8,8,8,8,8,8,8,8,8,8,8,8,8,8,8,8,8,8,8,8,8,8,8,8,8,8,8,8,8,8,8,8,8,8,8,8,8,8,8,8,8,8,8,8,8,8,8,8,8,8,8,8,8,8,8,8,8,8,8,8,8,8,8,8,8,8,8,8,8,8,8,8,8,8,8,8,8,8,8,8,8,8,8,8,8,8,8,8,8,8,8,8,8,8,8,8,8,8,8,8,8,8,8,8,8,8,8,8,8,8,8,8])) (.t 21)),
o 23 (.i2i .i64 (.t 22)),
o 24 (.bin .add 0 false (.t 19) (.t 23)),
m 2 24])
(.ret [2]))))))⟩
def K_num_Show : KF:=⟨1,5,[(.tmp 2)],
(.seq (.ops [o 2 (.mv (.c (.str [])))])
(.seq (.ops [m 3 0,
o 4 (.callF f_strconv_FormatInt [(.t 3),(.c (.int .i64 10))]),
m 2 4])
(.ret [2])))⟩
def L_script_Show_0 : KC:=
(.seq (.ops [o 26 (.bin .lss 0 false (.t 25) (.t 24))])
(.seq (.cond (.t 26)
.skip
(.exit [1,4,5,6] 0))
(.seq (.block 1
(.seq (.ops [o 27 (.idxAddrSl 3 (.t 23) (.t 25)),
o 28 (.load true 3 (.t 27)),
o 8 (.new [(.str []),(.str []),(.str [])] none),
u (.store 3 (.t 8) (.t 28))])
(.ops [m 29 5,
o 30 (.fieldAddr 0 (.t 8)),
o 31 (.load false 1 (.t 30)),
o 32 (.fieldAddr 1 (.t 8)),
o 33 (.load false 1 (.t 32)),
o 34 (.fieldAddr 2 (.t 8)),
o 35 (.load false 1 (.t 34)),
o 36 (.buildSl [(.str [])] 3 1 [(0,1,(.t 31)),(1,1,(.t 33)),(2,1,(.t 35))]),
o 37 (.callF f_script_nets [(.t 36)]),
o 38 (.buildSl [(.str [])] 1 1 [(0,1,(.t 37))]),
o 39 (.app false 1 16 none (.t 29) (.t 38)),
m 5 39])))
(.ops [o 40 (.bin .add 0 true (.t 25) (.c (.int .i64 1))),
m 25 40]))))
def L_script_Show_1 : KC:=
(.seq (.ops [o 52 (.bin .lss 0 false (.t 51) (.t 50))])
(.seq (.cond (.t 52)
.skip
(.exit [1,4,5,6,10,11,42,43,44] 4))
(.seq (.block 5
(.seq (.ops [o 53 (.idxAddrSl 2 (.t 49) (.t 51)),
o 54 (.load true 2 (.t 53)),
o 13 (.new [(.str []),(.str [])] none),
u (.store 2 (.t 13) (.t 54))])
(.ops [m 55 11,
o 56 (.fieldAddr 0 (.t 13)),
o 57 (.load false 1 (.t 56)),
o 58 (.fieldAddr 1 (.t 13)),
o 59 (.load false 1 (.t 58)),
o 60 (.buildSl [(.str [])] 2 1 [(0,1,(.t 57)),(1,1,(.t 59))]),
o 61 (.callF f_script_nets [(.t 60)]),
o 62 (.buildSl [(.str [])] 1 1 [(0,1,(.t 61))]),
o 63 (.app false 1 16 none (.t 55) (.t 62)),
m 11 63])))
(.ops [o 64 (.bin .add 0 true (.t 51) (.c (.int .i64 1))),
m 51 64]))))
def L_script_Show_2 : KC:=
(.seq (.ops [o 45 (.bin .lss 0 false (.t 44) (.t 43))])
(.seq (.cond (.t 45)
.skip
(.exit [1,4,5,6] 2))
(.seq (.block 3
(.seq (.ops [o 46 (.idxAddrSl 3 (.t 42) (.t 44)),
o 47 (.load true 3 (.t 46)),
o 10 (.new [(.str []),(.str []),.nils] none),
u (.store 3 (.t 10) (.t 47))])
(.seq (.ops [o 11 (.mv (.c .nils))])
(.seq (.seq (.ops [o 48 (.fieldAddr 2 (.t 10)),
o 49 (.load false 1 (.t 48)),
o 50 (.len 1 (.t 49)),
o 51 (.mv (.c (.int .i64 0)))])
(.block 4
(.loop [1,4,5,6,10,11,42,43,44,49,50,51] L_script_Show_1)))
(.drawn [m 65 6,
o 66 (.fieldAddr 0 (.t 10)),
⟨(some 67),(.load false 1 (.t 66)),none,[6]⟩,
o 68 (.fieldAddr 1 (.t 10)),
⟨(some 69),(.load false 1 (.t 68)),none,[6]⟩,
m 70 11,
o 71 (.callF f_script_nets [(.t 70)]),
o 72 (.buildSl [(.str [])] 3 1 [(0,1,(.t 67)),(1,1,(.t 69)),(2,1,(.t 71))]),
o 73 (.callF f_script_nets [(.t 72)]),
o 74 (.buildSl [(.str [])] 1 1 [(0,1,(.t 73))]),
o 75 (.app false 1 16 none (.t 65) (.t 74)),
m 6 75])))))
(.ops [o 76 (.bin .add 0 true (.t 44) (.c (.int .i64 1))),
m 44 76]))))
def K_script_Show : KF:=⟨1,109,[(.tmp 2),(.tmp 3)],
(.seq (.ops [o 1 (.box (.t 0)),
o 2 (.mv (.c (.str []))),
o 3 (.mv (.c (.int .i64 0)))])
(.seq (.seq (.ops [o 16 (.fieldAddr 9 (.t 1)),
o 17 (.load false 1 (.t 16)),
o 18 (.len 1 (.t 17)),
o 19 (.bin .gtr 0 true (.t 18) (.c (.int .i64 64)))])
(.cond (.t 19)
(.seq (.ops [o 2 (.mv (.c (.str []))),
o 3 (.mv (.c (.int .i64 5)))])
(.ret [2,3]))
.skip))
(.seq (.ops [o 4 (.mv (.c (.str [116,97,98,108,101])))])
(.seq (.seq (.ops [o 20 (.fieldAddr 3 (.t 1)),
o 21 (.load false 1 (.t 20))])
(.cond (.t 21)
(.ops [o 4 (.mv (.c (.str [104,109,97,99])))])
.skip))
(.seq (.ops [o 5 (.mv (.c .nils)),
o 6 (.mv (.c .nils))])
(.seq (.seq (.ops [o 22 (.fieldAddr 4 (.t 1)),
o 23 (.load false 1 (.t 22)),
o 24 (.len 1 (.t 23)),
o 25 (.mv (.c (.int .i64 0)))])
(.block 0
(.loop [1,4,5,6,23,24,25] L_script_Show_0)))
(.seq (.seq (.ops [o 41 (.fieldAddr 1 (.t 1)),
o 42 (.load false 1 (.t 41)),
o 43 (.len 1 (.t 42)),
o 44 (.mv (.c (.int .i64 0)))])
(.block 2
(.loop [1,4,5,6,42,43,44] L_script_Show_2)))
(.seq (.ops [o 77 (.fieldAddr 5 (.t 1)),
o 78 (.load true 4 (.t 77)),
o 14 (.new [(.int .i64 0),(.int .i64 0),(.int .i64 0),(.int .i64 0)] none),
u (.store 4 (.t 14) (.t 78))])
(.seq (.drawn [o 79 (.fieldAddr 0 (.t 1)),
⟨(some 80),(.load false 1 (.t 79)),none,[4,7,17,18,20,23]⟩,
o 81 (.fieldAddr 2 (.t 1)),
o 82 (.load false 1 (.t 81)),
o 83 (.callF f_num_Show [(.t 82)]),
m 84 4,
m 85 5,
o 86 (.callF f_script_nets [(.t 85)]),
o 87 (.fieldAddr 0 (.t 14)),
⟨(some 88),(.load false 1 (.t 87)),none,[4,7]⟩,
o 89 (.fieldAddr 1 (.t 14)),
⟨(some 90),(.load false 1 (.t 89)),none,[4,7]⟩,
o 91 (.fieldAddr 2 (.t 14)),
⟨(some 92),(.load false 1 (.t 91)),none,[4,7]⟩,
o 93 (.fieldAddr 3 (.t 14)),
⟨(some 94),(.load false 1 (.t 93)),none,[4,7]⟩,
o 95 (.buildSl [(.int .i64 0)] 4 1 [(0,1,(.t 88)),(1,1,(.t 90)),(2,1,(.t 92)),(3,1,(.t 94))]),
o 96 (.callF f_script_numbers [(.t 95)]),
o 97 (.callF f_script_nets [(.t 96)]),
m 98 6,
o 99 (.callF f_script_nets [(.t 98)]),
o 100 (.fieldAddr 9 (.t 1)),
⟨(some 101),(.load false 1 (.t 100)),none,[4,7,17,18,20]⟩,
o 102 (.callF f_script_nets [(.t 101)]),
o 103 (.buildSl [(.str [])] 7 1 [(0,1,(.t 80)),(1,1,(.t 83)),(2,1,(.t 84)),(3,1,(.t 86)),(4,1,(.t 97)),(5,1,(.t 99)),(6,1,(.t 102))]),
o 104 (.callF f_script_nets [(.t 103)]),
m 15 104])
(.seq (.seq (.ops [m 105 15,
o 106 (.len 0 (.t 105)),
o 107 (.bin .gtr 0 true (.t 106) (.c (.int .i64 1048576)))])
(.cond (.t 107)
(.seq (.ops [o 2 (.mv (.c (.str []))),
o 3 (.mv (.c (.int .i64 5)))])
(.ret [2,3]))
.skip))
(.seq (.ops [m 108 15,
m 2 108,
o 3 (.mv (.c (.int .i64 0)))])
(.ret [2,3]))))))))))))⟩
def L_script_nets_0 : KC:=
(.seq (.ops [o 9 (.bin .lss 0 false (.t 8) (.t 7))])
(.seq (.cond (.t 9)
.skip
(.exit [3] 0))
(.seq (.block 1
(.seq (.ops [o 10 (.idxAddrSl 1 (.t 6) (.t 8)),
o 11 (.load false 1 (.t 10)),
m 5 11])
(.seq (.ops [m 12 5,
o 13 (.len 0 (.t 12)),
o 14 (.callF f_num_Show [(.t 13)]),
o 15 (.callF f_strings_Builder_WriteString [(.t 3),(.t 14)])])
(.seq (.ops [o 16 (.callF f_strings_Builder_WriteByte [(.t 3),(.c (.int .u8 58))])])
(.seq (.ops [m 17 5,
o 18 (.callF f_strings_Builder_WriteString [(.t 3),(.t 17)])])
(.ops [o 19 (.callF f_strings_Builder_WriteByte [(.t 3),(.c (.int .u8 44))])]))))))
(.ops [o 20 (.bin .add 0 true (.t 8) (.c (.int .i64 1))),
m 8 20]))))
def K_script_nets : KF:=⟨1,22,[(.tmp 2)],
(.seq (.ops [o 2 (.mv (.c (.str [])))])
(.seq (.ops [o 3 (.new [.nilp,.nils] (some (70,true)))])
(.seq (.seq (.ops [m 6 0,
o 7 (.len 1 (.t 6)),
o 8 (.mv (.c (.int .i64 0)))])
(.block 0
(.loop [3,6,7,8] L_script_nets_0)))
(.seq (.ops [o 21 (.callF f_strings_Builder_String [(.t 3)]),
m 2 21])
(.ret [2])))))⟩
def L_script_numbers_0 : KC:=
(.seq (.ops [o 9 (.bin .lss 0 false (.t 8) (.t 7))])
(.seq (.cond (.t 9)
.skip
(.exit [3] 0))
(.seq (.block 1
(.seq (.ops [o 10 (.idxAddrSl 1 (.t 6) (.t 8)),
o 11 (.load false 1 (.t 10)),
m 5 11])
(.ops [m 12 3,
m 13 5,
o 14 (.callF f_num_Show [(.t 13)]),
o 15 (.buildSl [(.str [])] 1 1 [(0,1,(.t 14))]),
o 16 (.app false 1 16 none (.t 12) (.t 15)),
m 3 16])))
(.ops [o 17 (.bin .add 0 true (.t 8) (.c (.int .i64 1))),
m 8 17]))))
def K_script_numbers : KF:=⟨1,19,[(.tmp 2)],
(.seq (.ops [o 2 (.mv (.c .nils))])
(.seq (.ops [o 3 (.mv (.c .nils))])
(.seq (.seq (.ops [m 6 0,
o 7 (.len 1 (.t 6)),
o 8 (.mv (.c (.int .i64 0)))])
(.block 0
(.loop [3,6,7,8] L_script_numbers_0)))
(.seq (.ops [m 18 3,
m 2 18])
(.ret [2])))))⟩
def K_strconv_FormatInt : KF:=⟨2,8,[(.tmp 4)],
(.seq (.ops [o 4 (.mv (.c (.str [])))])
(.seq (.ops [m 5 0,
m 6 1,
o 7 (.callF f_internal_strconv_FormatInt [(.t 5),(.t 6)]),
m 4 7])
(.ret [4])))⟩
def K_strings_Builder_WriteByte : KF:=⟨2,17,[(.tmp 4)],
(.seq (.ops [o 4 (.mv (.c .nilIface))])
(.seq (.ops [m 5 0,
o 6 (.callF f_strings_Builder_copyCheck [(.t 5)])])
(.seq (.ops [m 7 0,
m 8 0,
o 9 (.nilck (.t 8)),
o 10 (.fieldAddr 1 (.t 9)),
o 11 (.load false 1 (.t 10)),
m 12 1,
o 13 (.buildSl [(.int .u8 0)] 1 1 [(0,1,(.t 12))]),
o 14 (.app false 1 1 (some (5,false)) (.t 11) (.t 13)),
o 15 (.nilck (.t 7)),
o 16 (.fieldAddr 1 (.t 15)),
u (.store 1 (.t 16) (.t 14))])
(.seq (.ops [o 4 (.mv (.c .nilIface))])
(.ret [4])))))⟩
def K_strings_Builder_WriteString : KF:=⟨2,19,[(.tmp 4),(.tmp 5)],
(.seq (.ops [o 4 (.mv (.c (.int .i64 0))),
o 5 (.mv (.c .nilIface))])
(.seq (.ops [m 6 0,
o 7 (.callF f_strings_Builder_copyCheck [(.t 6)])])
(.seq (.ops [m 8 0,
m 9 0,
o 10 (.nilck (.t 9)),
o 11 (.fieldAddr 1 (.t 10)),
o 12 (.load false 1 (.t 11)),
m 13 1,
o 14 (.app true 1 1 (some (5,false)) (.t 12) (.t 13)),
o 15 (.nilck (.t 8)),
o 16 (.fieldAddr 1 (.t 15)),
u (.store 1 (.t 16) (.t 14))])
(.seq (.ops [m 17 1,
o 18 (.len 0 (.t 17)),
m 4 18,
o 5 (.mv (.c .nilIface))])
(.ret [4,5])))))⟩
end Go.Ev
namespace Go.Ev
set_option maxRecDepth 100000
set_option linter.unusedSimpArgs false
set_option linter.unusedVariables false
theorem Ok.plus {τ : St} (h : Ok τ) {L : St} (hl : L.all (AO.below 0) = true) : Ok (τ ++ L):=h.app (by
 rw [List.all_eq_true] at *
 exact fun x hx=>AO.below_mono (Nat.zero_le _) x (hl x hx))
theorem Ok.set2 {σ : St} (h : Ok σ) (o : Nat) {x : AO} (hx : x.below σ.length = true) : Ok (σ.set o x):=by
 unfold Ok at *
 rw [List.length_set]
 rw [List.all_eq_true] at *
 intro y hy
 rcases List.mem_or_eq_of_mem_set hy with hy | rfl
 ·exact h y hy
 ·exact hx
theorem Ok.set {σ : St} (h : Ok σ) (o : Nat) {x : AO} (hx : x.below 0 = true) : Ok (σ.set o x):=h.set2 o (AO.below_mono (Nat.zero_le _) _ hx)
theorem set_self {τ : St} {p : Nat} {x : AO} (h : τ[p]? = some x) : τ.set p x = τ:=by
 apply List.ext_getElem?
 intro i
 rw [List.getElem?_set]
 split
 ·rename_i hp
  subst hp
  split
  ·exact h.symm
  ·rw [List.getElem?_eq_none (by omega)] at h; cases h
 ·rfl
theorem sy_get {S : St} {n : Nat} (h : S.length = n) (L : St) (k : Nat) : (S ++ L)[n + k]? = L[k]?:= by
 subst h
 rw [List.getElem?_append_right (by omega)]
 simp
theorem sy_get0 {S : St} {n : Nat} (h : S.length = n) (L : St) : (S ++ L)[n]? = L[0]?:= sy_get h L 0
theorem sy_old {S : St} {q : Nat} {x : AO} (h : S[q]? = some x) (L : St) : (S ++ L)[q]? = some x:=by
 rw [List.getElem?_append_left (List.getElem?_eq_some_iff.mp h).1]; exact h
theorem sy_put {S : St} {q : Nat} {x : AO} (h : S[q]? = some x) (L : St) (y : AO) : (S ++ L).set q y = S.set q y ++ L:=by
 rw [List.set_append_left _ _ (List.getElem?_eq_some_iff.mp h).1]
theorem set_get {S : St} {q : Nat} {x : AO} (h : S[q]? = some x) (y : AO) : (S.set q y)[q]? = some y:=by
 simp [(List.getElem?_eq_some_iff.mp h).1]
theorem set_old {S : St} {p q : Nat} {x : AO} (h : S[p]? = some x) (hne : p ≠ q) (y : AO) : (S.set q y)[p]? = some x:=by
 rw [List.getElem?_set_ne (fun e=>hne e.symm)]; exact h
theorem ap_msl {σ : St} {sz bytes n m q : Nat} {l : List AV} (cs : List AV) (hq : σ[q]? = some (.cells l ⟨false,none⟩)) (hm : ¬ m = 0) (hl : l.length = n * sz) (h1 : (n + m) * bytes ≤ 70368744177664) (h2 : n + m ≤ 70368744177664) : appA σ sz bytes none (.msl q 0 n sz) m cs = some (.msl σ.length 0 (n + m) sz,σ.set q .dead ++ [.cells (l ++ cs) ⟨false,none⟩]):=by
 unfold appA
 rw [if_neg hm]
 simp only [hq]
 rw [if_pos ⟨trivial,hl,h1,h2⟩]
 rfl
theorem nv_msl {τ : St} {q n sz : Nat} {l : List AV} {fz : Fz} (hq : τ[q]? = some (.cells l fz)) (hl : l.length = n * sz) (ns : NVs l) : normV τ (norms τ 11) (.msl q 0 n sz) = some (.sl n l,[q]):=by
 have nr : norms τ 11 l = some (l,[]):=by
  show normVs τ (norms τ 10) l = _
  exact ns.nf _ _
 unfold normV
 rw [hq]
 show (if 0 + n * sz ≤ l.length then match norms τ 11 ((l.drop 0).take (n * sz)) with | some (l,fs)=>some (AV.sl n l,q :: fs) | none=>none else none) = _
 rw [if_pos (by omega),List.drop_zero,List.take_of_length_le (by omega),nr]
theorem freeze_one {τ : St} {q : Nat} {l : List AV} (hq : τ[q]? = some (.cells l ⟨false,none⟩)) : freeze τ [q] = τ.set q (.cells l ⟨true,none⟩):=by
 unfold freeze
 rw [hq]
 rfl
end Go.Ev
namespace Go.Ev
set_option maxRecDepth 100000
set_option linter.unusedSimpArgs false
set_option linter.unusedVariables false
variable {C : Ctx}
theorem u64_wrap (n : Nat) (h : n < 18446744073709551616) : IntKind.u64.wrap (n : Int) = n:=by
 simp [IntKind.wrap,IntKind.bits,IntKind.signed]
 omega
theorem u32_wrap (n : Nat) (h : n < 4294967296) : IntKind.u32.wrap (n : Int) = n:=by
 simp [IntKind.wrap,IntKind.bits,IntKind.signed]
 omega
theorem u8_wrap (n : Nat) (h : n < 256) : IntKind.u8.wrap (n : Int) = n:=by
 rw [IntKind.wrap_u8]; omega
theorem i64_wrap (n : Nat) (h : n < 9223372036854775808) : IntKind.i64.wrap (n : Int) = n:=by
 rw [w64] <;> omega
def l8 : List UInt8:=[0,1,2,2,3,3,3,3,4,4,4,4,4,4,4,4,5,5,5,5,5,5,5,5,5,5,5,5,5,5,5,5,6,6,6,6,6,6,6,6,6,6,6,6,6,6,6,6,6,6,6,6,6,6,6,6,6,6,6,6,6,6,6,6,7,7,7,7,7,7,7,7,7,7,7,7,7,7,7,7,7,7,7,7,7,7,7,7,7,7,7,7,7,7,7,7,7,7,7,7,7,7,7,7,7,7,7,7,7,7,7,7,7,7,7,7,7,7,7,7,7,7,7,7,7,7,7,7,8,8,8,8,8,8,8,8,8,8,8,8,8,8,8,8,8,8,8,8,8,8,8,8,8,8,8,8,8,8,8,8,8,8,8,8,8,8,8,8,8,8,8,8,8,8,8,8,8,8,8,8,8,8,8,8,8,8,8,8,8,8,8,8,8,8,8,8,8,8,8,8,8,8,8,8,8,8,8,8,8,8,8,8,8,8,8,8,8,8,8,8,8,8,8,8,8,8,8,8,8,8,8,8,8,8,8,8,8,8,8,8,8,8,8,8,8,8,8,8,8,8,8,8,8,8,8,8]
theorem l8_is : (List.range 256).all (fun b=>match l8[b]? with | some c=>decide (b < 2 ^ c.toNat) && (c.toNat == 0 || decide (2 ^ (c.toNat - 1) ≤ b)) && decide (c.toNat ≤ 8) | none=>false) = true:=by decide +kernel
def cutL (k : Nat) (z : Nat × Nat) : Nat × Nat:=if 2 ^ k ≤ z.1 then (z.1 / 2 ^ k,z.2 + k) else z
def LenOf (x : Nat) (z : Nat × Nat) : Prop:=x / 2 ^ z.2 = z.1 ∧ (z.2 = 0 ∨ 0 < z.1)
theorem cutL_of {x : Nat} {z : Nat × Nat} (k : Nat) (h : LenOf x z) : LenOf x (cutL k z):=by
 obtain ⟨h1,h2⟩:=h
 unfold cutL
 split
 ·rename_i h3
  refine ⟨?_,.inr (Nat.div_pos h3 (Nat.pow_pos (by decide)))⟩
  dsimp only
  rw [Nat.pow_add,← Nat.div_div_eq_div_mul,h1]
 ·exact ⟨h1,h2⟩
theorem len64 (hC : Has C f_math_bits_Len64 K_math_bits_Len64) (x : Nat) (hx : x < 18446744073709551616) : ∃ L : Nat,x < 2 ^ L ∧ (0 < x → 0 < L ∧ 2 ^ (L - 1) ≤ x) ∧ L ≤ 64 ∧ ∀ σ,semF C f_math_bits_Len64 [.int .u64 x] σ = some (.int .i64 L,σ):=by
 have go:=fun σ=>hC.go (σ:=σ) (NVs.hand (.cons (.int .u64 (x : Int)) .nil) _) (by simp [K_math_bits_Len64])
 have f32 : ∀ y : Nat,(y : Int).fdiv (2 ^ min 32 IntKind.u64.bits) = ((y / 2 ^ 32 : Nat) : Int):=fun y=>by
  rw [Int.fdiv_eq_ediv_of_nonneg _ (by decide)]; rfl
 have f16 : ∀ y : Nat,(y : Int).fdiv (2 ^ min 16 IntKind.u64.bits) = ((y / 2 ^ 16 : Nat) : Int):=fun y=>by
  rw [Int.fdiv_eq_ediv_of_nonneg _ (by decide)]; rfl
 have f8 : ∀ y : Nat,(y : Int).fdiv (2 ^ min 8 IntKind.u64.bits) = ((y / 2 ^ 8 : Nat) : Int):=fun y=>by
  rw [Int.fdiv_eq_ediv_of_nonneg _ (by decide)]; rfl
 have h0 : LenOf x (x,0):=⟨by simp,.inl rfl⟩
 have h3:=cutL_of 8 (cutL_of 16 (cutL_of 32 h0))
 have key : ∀ z : Nat × Nat,z = cutL 8 (cutL 16 (cutL 32 (x,0))) → z.1 < 256 ∧ z.2 ≤ 56:=by
  intro z hz
  subst hz
  unfold cutL
  split <;> split <;> split <;> dsimp only at * <;> omega
 obtain ⟨hz1,hz2⟩:=key _ rfl
 have run : ∀ (c : UInt8),l8[(cutL 8 (cutL 16 (cutL 32 (x,0)))).1]? = some c → c.toNat ≤ 8 → ∀ σ,semF C f_math_bits_Len64 [.int .u64 x] σ = some (.int .i64 ((cutL 8 (cutL 16 (cutL 32 (x,0)))).2 + c.toNat : Nat),σ):=by
  intro c hc h8 σ
  have w1 : IntKind.i64.wrap (c.toNat : Int) = c.toNat:=i64_wrap _ (by omega)
  rw [go]
  unfold l8 at hc
  unfold cutL at hc hz1 hz2 ⊢
  by_cases c1 : 2 ^ 32 ≤ x
  ·have c1' : (4294967296 : Int) ≤ (x : Int):=by omega
   rw [if_pos c1] at hc hz1 hz2 ⊢
   try dsimp only at hc hz1 hz2 ⊢
   by_cases c2 : 2 ^ 16 ≤ (x / 2 ^ 32)
   ·have c2' : (65536 : Int) ≤ (((x / 2 ^ 32) : Nat) : Int):=by omega
    rw [if_pos c2] at hc hz1 hz2 ⊢
    try dsimp only at hc hz1 hz2 ⊢
    by_cases c3 : 2 ^ 8 ≤ ((x / 2 ^ 32) / 2 ^ 16)
    ·have c3' : (256 : Int) ≤ ((((x / 2 ^ 32) / 2 ^ 16) : Nat) : Int):=by omega
     rw [if_pos c3] at hc hz1 hz2 ⊢
     try dsimp only at hc hz1 hz2 ⊢
     have w2:=u8_wrap (((x / 2 ^ 32) / 2 ^ 16) / 2 ^ 8) hz1
     have p0 : (0 : Int) ≤ (((((x / 2 ^ 32) / 2 ^ 16) / 2 ^ 8) : Nat) : Int):=by omega
     simp only [K_math_bits_Len64,c1',c2',c3',f32,f16,f8,w1,w2,p0,hc,Int.toNat_natCast,EVC,EVD,EVB,Nat.reduceEqDiff,eqOp,eqA,eqNil,lenA,asNat,optNat,pt,tupleOf,Nat.reduceSub,Nat.reduceGT,Nat.reduceLT,hand,norms,normVs,normV,freeze,reduceIte,reduceCtorEq,srcCells,slCells,isStr,fillA,rep,asObj,outSl,Nat.reduceMul,Nat.reduceLeDiff,Int.reduceToNat,Int.reduceLE,Int.reduceLT,Int.reduceEq,Nat.reduceAdd,Int.reduceBNe,Int.reduceBEq,Int.reduceNeg]
     refine congrArg (fun v=>some (AV.int IntKind.i64 v,σ)) ?_
     simp only [IntKind.wrap_i64]
     omega
    ·have c3' : ¬ (256 : Int) ≤ ((((x / 2 ^ 32) / 2 ^ 16) : Nat) : Int):=by omega
     rw [if_neg c3] at hc hz1 hz2 ⊢
     try dsimp only at hc hz1 hz2 ⊢
     have w2:=u8_wrap ((x / 2 ^ 32) / 2 ^ 16) hz1
     have p0 : (0 : Int) ≤ ((((x / 2 ^ 32) / 2 ^ 16) : Nat) : Int):=by omega
     simp only [K_math_bits_Len64,c1',c2',c3',f32,f16,f8,w1,w2,p0,hc,Int.toNat_natCast,EVC,EVD,EVB,Nat.reduceEqDiff,eqOp,eqA,eqNil,lenA,asNat,optNat,pt,tupleOf,Nat.reduceSub,Nat.reduceGT,Nat.reduceLT,hand,norms,normVs,normV,freeze,reduceIte,reduceCtorEq,srcCells,slCells,isStr,fillA,rep,asObj,outSl,Nat.reduceMul,Nat.reduceLeDiff,Int.reduceToNat,Int.reduceLE,Int.reduceLT,Int.reduceEq,Nat.reduceAdd,Int.reduceBNe,Int.reduceBEq,Int.reduceNeg]
     refine congrArg (fun v=>some (AV.int IntKind.i64 v,σ)) ?_
     simp only [IntKind.wrap_i64]
     omega
   ·have c2' : ¬ (65536 : Int) ≤ (((x / 2 ^ 32) : Nat) : Int):=by omega
    rw [if_neg c2] at hc hz1 hz2 ⊢
    try dsimp only at hc hz1 hz2 ⊢
    by_cases c3 : 2 ^ 8 ≤ (x / 2 ^ 32)
    ·have c3' : (256 : Int) ≤ (((x / 2 ^ 32) : Nat) : Int):=by omega
     rw [if_pos c3] at hc hz1 hz2 ⊢
     try dsimp only at hc hz1 hz2 ⊢
     have w2:=u8_wrap ((x / 2 ^ 32) / 2 ^ 8) hz1
     have p0 : (0 : Int) ≤ ((((x / 2 ^ 32) / 2 ^ 8) : Nat) : Int):=by omega
     simp only [K_math_bits_Len64,c1',c2',c3',f32,f16,f8,w1,w2,p0,hc,Int.toNat_natCast,EVC,EVD,EVB,Nat.reduceEqDiff,eqOp,eqA,eqNil,lenA,asNat,optNat,pt,tupleOf,Nat.reduceSub,Nat.reduceGT,Nat.reduceLT,hand,norms,normVs,normV,freeze,reduceIte,reduceCtorEq,srcCells,slCells,isStr,fillA,rep,asObj,outSl,Nat.reduceMul,Nat.reduceLeDiff,Int.reduceToNat,Int.reduceLE,Int.reduceLT,Int.reduceEq,Nat.reduceAdd,Int.reduceBNe,Int.reduceBEq,Int.reduceNeg]
     refine congrArg (fun v=>some (AV.int IntKind.i64 v,σ)) ?_
     simp only [IntKind.wrap_i64]
     omega
    ·have c3' : ¬ (256 : Int) ≤ (((x / 2 ^ 32) : Nat) : Int):=by omega
     rw [if_neg c3] at hc hz1 hz2 ⊢
     try dsimp only at hc hz1 hz2 ⊢
     have w2:=u8_wrap (x / 2 ^ 32) hz1
     have p0 : (0 : Int) ≤ (((x / 2 ^ 32) : Nat) : Int):=by omega
     simp only [K_math_bits_Len64,c1',c2',c3',f32,f16,f8,w1,w2,p0,hc,Int.toNat_natCast,EVC,EVD,EVB,Nat.reduceEqDiff,eqOp,eqA,eqNil,lenA,asNat,optNat,pt,tupleOf,Nat.reduceSub,Nat.reduceGT,Nat.reduceLT,hand,norms,normVs,normV,freeze,reduceIte,reduceCtorEq,srcCells,slCells,isStr,fillA,rep,asObj,outSl,Nat.reduceMul,Nat.reduceLeDiff,Int.reduceToNat,Int.reduceLE,Int.reduceLT,Int.reduceEq,Nat.reduceAdd,Int.reduceBNe,Int.reduceBEq,Int.reduceNeg]
     refine congrArg (fun v=>some (AV.int IntKind.i64 v,σ)) ?_
     simp only [IntKind.wrap_i64]
     omega
  ·have c1' : ¬ (4294967296 : Int) ≤ (x : Int):=by omega
   rw [if_neg c1] at hc hz1 hz2 ⊢
   try dsimp only at hc hz1 hz2 ⊢
   by_cases c2 : 2 ^ 16 ≤ x
   ·have c2' : (65536 : Int) ≤ ((x : Nat) : Int):=by omega
    rw [if_pos c2] at hc hz1 hz2 ⊢
    try dsimp only at hc hz1 hz2 ⊢
    by_cases c3 : 2 ^ 8 ≤ (x / 2 ^ 16)
    ·have c3' : (256 : Int) ≤ (((x / 2 ^ 16) : Nat) : Int):=by omega
     rw [if_pos c3] at hc hz1 hz2 ⊢
     try dsimp only at hc hz1 hz2 ⊢
     have w2:=u8_wrap ((x / 2 ^ 16) / 2 ^ 8) hz1
     have p0 : (0 : Int) ≤ ((((x / 2 ^ 16) / 2 ^ 8) : Nat) : Int):=by omega
     simp only [K_math_bits_Len64,c1',c2',c3',f32,f16,f8,w1,w2,p0,hc,Int.toNat_natCast,EVC,EVD,EVB,Nat.reduceEqDiff,eqOp,eqA,eqNil,lenA,asNat,optNat,pt,tupleOf,Nat.reduceSub,Nat.reduceGT,Nat.reduceLT,hand,norms,normVs,normV,freeze,reduceIte,reduceCtorEq,srcCells,slCells,isStr,fillA,rep,asObj,outSl,Nat.reduceMul,Nat.reduceLeDiff,Int.reduceToNat,Int.reduceLE,Int.reduceLT,Int.reduceEq,Nat.reduceAdd,Int.reduceBNe,Int.reduceBEq,Int.reduceNeg]
     refine congrArg (fun v=>some (AV.int IntKind.i64 v,σ)) ?_
     simp only [IntKind.wrap_i64]
     omega
    ·have c3' : ¬ (256 : Int) ≤ (((x / 2 ^ 16) : Nat) : Int):=by omega
     rw [if_neg c3] at hc hz1 hz2 ⊢
     try dsimp only at hc hz1 hz2 ⊢
     have w2:=u8_wrap (x / 2 ^ 16) hz1
     have p0 : (0 : Int) ≤ (((x / 2 ^ 16) : Nat) : Int):=by omega
     simp only [K_math_bits_Len64,c1',c2',c3',f32,f16,f8,w1,w2,p0,hc,Int.toNat_natCast,EVC,EVD,EVB,Nat.reduceEqDiff,eqOp,eqA,eqNil,lenA,asNat,optNat,pt,tupleOf,Nat.reduceSub,Nat.reduceGT,Nat.reduceLT,hand,norms,normVs,normV,freeze,reduceIte,reduceCtorEq,srcCells,slCells,isStr,fillA,rep,asObj,outSl,Nat.reduceMul,Nat.reduceLeDiff,Int.reduceToNat,Int.reduceLE,Int.reduceLT,Int.reduceEq,Nat.reduceAdd,Int.reduceBNe,Int.reduceBEq,Int.reduceNeg]
     refine congrArg (fun v=>some (AV.int IntKind.i64 v,σ)) ?_
     simp only [IntKind.wrap_i64]
     omega
   ·have c2' : ¬ (65536 : Int) ≤ ((x : Nat) : Int):=by omega
    rw [if_neg c2] at hc hz1 hz2 ⊢
    try dsimp only at hc hz1 hz2 ⊢
    by_cases c3 : 2 ^ 8 ≤ x
    ·have c3' : (256 : Int) ≤ ((x : Nat) : Int):=by omega
     rw [if_pos c3] at hc hz1 hz2 ⊢
     try dsimp only at hc hz1 hz2 ⊢
     have w2:=u8_wrap (x / 2 ^ 8) hz1
     have p0 : (0 : Int) ≤ (((x / 2 ^ 8) : Nat) : Int):=by omega
     simp only [K_math_bits_Len64,c1',c2',c3',f32,f16,f8,w1,w2,p0,hc,Int.toNat_natCast,EVC,EVD,EVB,Nat.reduceEqDiff,eqOp,eqA,eqNil,lenA,asNat,optNat,pt,tupleOf,Nat.reduceSub,Nat.reduceGT,Nat.reduceLT,hand,norms,normVs,normV,freeze,reduceIte,reduceCtorEq,srcCells,slCells,isStr,fillA,rep,asObj,outSl,Nat.reduceMul,Nat.reduceLeDiff,Int.reduceToNat,Int.reduceLE,Int.reduceLT,Int.reduceEq,Nat.reduceAdd,Int.reduceBNe,Int.reduceBEq,Int.reduceNeg]
     refine congrArg (fun v=>some (AV.int IntKind.i64 v,σ)) ?_
     simp only [IntKind.wrap_i64]
     omega
    ·have c3' : ¬ (256 : Int) ≤ ((x : Nat) : Int):=by omega
     rw [if_neg c3] at hc hz1 hz2 ⊢
     try dsimp only at hc hz1 hz2 ⊢
     have w2:=u8_wrap x hz1
     have p0 : (0 : Int) ≤ ((x : Nat) : Int):=by omega
     simp only [K_math_bits_Len64,c1',c2',c3',f32,f16,f8,w1,w2,p0,hc,Int.toNat_natCast,EVC,EVD,EVB,Nat.reduceEqDiff,eqOp,eqA,eqNil,lenA,asNat,optNat,pt,tupleOf,Nat.reduceSub,Nat.reduceGT,Nat.reduceLT,hand,norms,normVs,normV,freeze,reduceIte,reduceCtorEq,srcCells,slCells,isStr,fillA,rep,asObj,outSl,Nat.reduceMul,Nat.reduceLeDiff,Int.reduceToNat,Int.reduceLE,Int.reduceLT,Int.reduceEq,Nat.reduceAdd,Int.reduceBNe,Int.reduceBEq,Int.reduceNeg]
     refine congrArg (fun v=>some (AV.int IntKind.i64 v,σ)) ?_
     simp only [IntKind.wrap_i64]
     omega
 have t8:=l8_is
 rw [List.all_eq_true] at t8
 have t8:=t8 _ (List.mem_range.mpr hz1)
 cases hc : l8[(cutL 8 (cutL 16 (cutL 32 (x,0)))).1]? with
 | none=>rw [hc] at t8; cases t8
 | some c=>
   rw [hc] at t8
   simp only [Bool.and_eq_true,decide_eq_true_eq,Bool.or_eq_true,beq_iff_eq] at t8
   obtain ⟨⟨t1,t2⟩,t3⟩:=t8
   refine ⟨_,?_,?_,by omega,run c hc t3⟩
   ·generalize cutL 8 (cutL 16 (cutL 32 (x,0))) = z at *
    obtain ⟨e1,e2⟩:=h3
    rw [Nat.pow_add]
    have:=Nat.div_lt_iff_lt_mul (Nat.pow_pos (n:=z.2) (show 0 < 2 by decide)) (x:=x) (y:=2 ^ c.toNat)
    rw [e1] at this
    rw [Nat.mul_comm]
    exact this.mp t1
   ·intro hx0
    generalize cutL 8 (cutL 16 (cutL 32 (x,0))) = z at *
    obtain ⟨e1,e2⟩:=h3
    have hz : 0 < z.1:=by
     rcases e2 with e2 | e2
     ·rw [e2] at e1; simp at e1; omega
     ·exact e2
    have hc0 : c.toNat ≠ 0:=fun e=>by rw [e] at t1; simp at t1; omega
    have t2:=t2.resolve_left hc0
    refine ⟨by omega,?_⟩
    rw [show z.2 + c.toNat - 1 = z.2 + (c.toNat - 1) by omega,Nat.pow_add]
    rw [← e1] at t2
    have:=(Nat.le_div_iff_mul_le (Nat.pow_pos (n:=z.2) (show 0 < 2 by decide))).mp t2
    rw [Nat.mul_comm]
    exact this
end Go.Ev
namespace Go.Ev
set_option maxRecDepth 100000
set_option linter.unusedSimpArgs false
set_option linter.unusedVariables false
variable {C : Ctx}
def p10 : List AV:=(List.range 20).map fun i=>AV.int .u64 ((10 ^ i : Nat) : Int)
def DigN (d u : Nat) : Prop:=0 < d ∧ u < 10 ^ d ∧ (d = 1 ∨ 10 ^ (d - 1) ≤ u)
theorem tab10 : (List.range 65).all (fun L=>L == 0 || (decide (2 ^ L ≤ 10 ^ (L * 78913 / 262144 + 1)) && decide (L * 78913 / 262144 < 20) && (L * 78913 / 262144 == 0 || decide (10 ^ (L * 78913 / 262144 - 1) ≤ 2 ^ (L - 1))))) = true:=by decide +kernel
structure NdHas (C : Ctx) : Prop where
 len : Has C f_math_bits_Len64 K_math_bits_Len64
 log : Has C f_internal_strconv_log10Pow2 K_internal_strconv_log10Pow2
 b2i : Has C f_internal_strconv_bool2_int K_internal_strconv_bool2_int
 nd : Has C f_internal_strconv_numDigits K_internal_strconv_numDigits
 gl : C.gl g_internal_strconv_uint64pow10 = some p10
theorem log10 (hC : Has C f_internal_strconv_log10Pow2 K_internal_strconv_log10Pow2) (L : Nat) (hL : L ≤ 64) (σ : St) : semF C f_internal_strconv_log10Pow2 [.int .i64 L] σ = some (.int .i64 (L * 78913 / 262144 : Nat),σ):=by
 rw [hC.go (NVs.hand (.cons (.int _ _) .nil) _) (by simp [K_internal_strconv_log10Pow2])]
 have w : IntKind.i64.wrap ((L : Int) * 78913) = ((L * 78913 : Nat) : Int):=by rw [w64] <;> omega
 have f : ∀ y : Nat,(y : Int).fdiv (2 ^ min 18 IntKind.i64.bits) = ((y / 262144 : Nat) : Int):=fun y=>by
  rw [Int.fdiv_eq_ediv_of_nonneg _ (by decide)]; rfl
 simp only [K_internal_strconv_log10Pow2,w,f,EVC,EVD,EVB,Nat.reduceEqDiff,eqOp,eqA,eqNil,lenA,asNat,optNat,pt,tupleOf,Nat.reduceSub,Nat.reduceGT,Nat.reduceLT,hand,norms,normVs,normV,freeze,reduceIte,reduceCtorEq,srcCells,slCells,isStr,fillA,rep,asObj,outSl,Nat.reduceMul,Nat.reduceLeDiff,Int.reduceToNat,Int.reduceLE,Int.reduceLT,Int.reduceEq,Nat.reduceAdd,Int.reduceBNe,Int.reduceBEq,Int.reduceNeg]
theorem b2i (hC : Has C f_internal_strconv_bool2_int K_internal_strconv_bool2_int) (b : Bool) (σ : St) : semF C f_internal_strconv_bool2_int [.bool b] σ = some (.int .i64 (if b then 1 else 0),σ):=by
 rw [hC.go (NVs.hand (.cons (.bool _) .nil) _) (by simp [K_internal_strconv_bool2_int])]
 cases b <;> simp only [K_internal_strconv_bool2_int,Bool.false_eq_true,if_false,if_true,EVC,EVD,EVB,Nat.reduceEqDiff,eqOp,eqA,eqNil,lenA,asNat,optNat,pt,tupleOf,Nat.reduceSub,Nat.reduceGT,Nat.reduceLT,hand,norms,normVs,normV,freeze,reduceIte,reduceCtorEq,srcCells,slCells,isStr,fillA,rep,asObj,outSl,Nat.reduceMul,Nat.reduceLeDiff,Int.reduceToNat,Int.reduceLE,Int.reduceLT,Int.reduceEq,Nat.reduceAdd,Int.reduceBNe,Int.reduceBEq,Int.reduceNeg]
theorem numDigits (H : NdHas C) (u : Nat) (h0 : 0 < u) (hu : u < 18446744073709551616) : ∃ d,DigN d u ∧ d ≤ 20 ∧ ∀ σ,semF C f_internal_strconv_numDigits [.int .u64 u] σ = some (.int .i64 d,σ):=by
 obtain ⟨L,l1,l2,l3,q1⟩:=len64 H.len u hu
 obtain ⟨l4,l5⟩:=l2 h0
 have t:=tab10
 rw [List.all_eq_true] at t
 have t:=t L (List.mem_range.mpr (by omega))
 have hL0 : (L == 0) = false:=by simp; omega
 rw [hL0] at t
 simp only [Bool.false_or,Bool.and_eq_true,decide_eq_true_eq,Bool.or_eq_true,beq_iff_eq] at t
 obtain ⟨⟨t1,t2⟩,t3⟩:=t
 have q2:=log10 H.log L l3
 generalize L * 78913 / 262144 = n at *
 have hg : p10[n]? = some (.int .u64 ((10 ^ n : Nat) : Int)):=by
  unfold p10
  rw [List.getElem?_map,List.getElem?_range t2]; rfl
 have hgl:=H.gl
 refine ⟨n + (if 10 ^ n ≤ u then 1 else 0),?_,?_,fun σ=>?_⟩
 ·split
  ·rename_i h
   exact ⟨by omega,by omega,.inr (by simpa using h)⟩
  ·rename_i h
   have hn : n ≠ 0:=fun e=>by subst e; simp at h; omega
   have t3:=t3.resolve_left hn
   exact ⟨by omega,by simpa using Nat.lt_of_not_le h,.inr (by simp; omega)⟩
 ·split <;> omega
 ·rw [H.nd.go (NVs.hand (.cons (.int _ _) .nil) _) (by simp [K_internal_strconv_numDigits])]
  have b:=b2i H.b2i (decide (10 ^ n ≤ u)) σ
  have dn : p10.drop n = .int .u64 ((10 ^ n : Nat) : Int) :: p10.drop (n + 1):=by
   rw [List.drop_eq_getElem_cons (by simp [p10]; omega)]
   congr 1
   exact Option.some.inj ((List.getElem?_eq_getElem (by simp [p10]; omega)).symm.trans hg)
  have hn0 : (0 : Int) ≤ (n : Int):=by omega
  have hn20 : n < 20:=t2
  have hn20' : (n : Int) < 20:=by omega
  have hd : decide (((10 ^ n : Nat) : Int) ≤ (u : Int)) = decide (10 ^ n ≤ u):=by
   rw [Bool.eq_iff_iff]; simp only [decide_eq_true_eq]; omega
  have hl : p10.length = 20:=rfl
  have hle : n ≤ 20:=by omega
  have w : ∀ b : Bool,IntKind.i64.wrap ((n : Int) + (if b then 1 else 0)) = ((n + (if b then 1 else 0) : Nat) : Int):=fun b=>by cases b <;> simp <;> rw [w64] <;> omega
  simp only [K_internal_strconv_numDigits,q1,q2,hgl,dn,hg,hl,hle,hn0,hn20,hn20',hd,b,w,Int.toNat_natCast,Option.getD_some,decide_eq_true_eq,EVC,EVD,EVB,Nat.reduceEqDiff,eqOp,eqA,eqNil,lenA,asNat,optNat,pt,tupleOf,Nat.reduceSub,Nat.reduceGT,Nat.reduceLT,hand,norms,normVs,normV,freeze,reduceIte,reduceCtorEq,srcCells,slCells,isStr,fillA,rep,asObj,outSl,Nat.reduceMul,Nat.reduceLeDiff,Int.reduceToNat,Int.reduceLE,Int.reduceLT,Int.reduceEq,Nat.reduceAdd,Int.reduceBNe,Int.reduceBEq,Int.reduceNeg]
  refine congrArg (fun v=>some (AV.int IntKind.i64 v,σ)) ?_
  split <;> (rw [w64] <;> omega)
end Go.Ev
namespace Go.Ev
set_option maxRecDepth 100000
set_option linter.unusedSimpArgs false
set_option linter.unusedVariables false
variable {C : Ctx}
def smalls : List UInt8:=[48,48,48,49,48,50,48,51,48,52,48,53,48,54,48,55,48,56,48,57,49,48,49,49,49,50,49,51,49,52,49,53,49,54,49,55,49,56,49,57,50,48,50,49,50,50,50,51,50,52,50,53,50,54,50,55,50,56,50,57,51,48,51,49,51,50,51,51,51,52,51,53,51,54,51,55,51,56,51,57,52,48,52,49,52,50,52,51,52,52,52,53,52,54,52,55,52,56,52,57,53,48,53,49,53,50,53,51,53,52,53,53,53,54,53,55,53,56,53,57,54,48,54,49,54,50,54,51,54,52,54,53,54,54,54,55,54,56,54,57,55,48,55,49,55,50,55,51,55,52,55,53,55,54,55,55,55,56,55,57,56,48,56,49,56,50,56,51,56,52,56,53,56,54,56,55,56,56,56,57,57,48,57,49,57,50,57,51,57,52,57,53,57,54,57,55,57,56,57,57]
def dg (x : Nat) : UInt8:=UInt8.ofNat (48 + x % 10)
def pl : Nat → Nat → List UInt8
 | 0,_=>[]
 | k + 1,u=>pl k (u / 10) ++ [dg u]
theorem smalls_is : (List.range 100).all (fun y=>smalls[y * 2]? == some (dg (y / 10)) && smalls[y * 2 + 1]? == some (dg y)) = true:=by decide +kernel
theorem smalls_at (y : Nat) (h : y < 100) : smalls[y * 2]? = some (dg (y / 10)) ∧ smalls[y * 2 + 1]? = some (dg y):=by
 have t:=smalls_is
 rw [List.all_eq_true] at t
 have t:=t y (List.mem_range.mpr h)
 simp only [Bool.and_eq_true,beq_iff_eq] at t
 exact t
theorem pl_len : ∀ (k u : Nat),(pl k u).length = k
 | 0,_=>rfl
 | k + 1,u=>by simp [pl,pl_len k]
theorem pl_add : ∀ (a b u : Nat),pl (a + b) u = pl a (u / 10 ^ b) ++ pl b u
 | a,0,u=>by simp [pl]
 | a,b + 1,u=>by
   show pl (a + b) (u / 10) ++ [dg u] = pl a (u / 10 ^ (b + 1)) ++ (pl b (u / 10) ++ [dg u])
   rw [pl_add a b (u / 10),Nat.div_div_eq_div_mul,Nat.pow_succ,Nat.mul_comm (10 ^ b) 10,List.append_assoc]
structure HasR (C : Ctx) (f : FuncId) (K : KF) : Prop where
 fs : C.fs f = some K.forget
 prim : C.prim f = none
 raw : C.raw f = true
 ok : K.ok = true
def endQ (n : Nat) (rs : List XR) (r : RX) : Option (AV × St):=match r with
 | some (.exit _,_,_)=>none
 | none=>none
 | some (_,e,σ2)=>match resL e σ2 rs with
   | none=>none
   | some vs=>some (tupleOf vs,tidy n vs σ2)
theorem HasR.go {f : FuncId} {K : KF} (h : HasR C f K) {args : List AV} {σ : St} (hl : ¬ args.length > K.ntmps) : semF C f args σ = endQ σ.length K.results (semK C (semF C) K.ntmps K.body (argsA 0 args) σ):=by
 rw [semF_K h.fs h.prim h.raw h.ok]
 unfold runK endQ
 rw [show hand true args σ = some (args,σ) from rfl]
 dsimp only
 rw [if_neg hl]
 rfl
theorem endQ_normal (n rs e σ) : endQ n rs (some (.normal,e,σ)) = match resL e σ rs with
  | none=>none
  | some vs=>some (tupleOf vs,tidy n vs σ):=rfl
def nCells (cs : List AV) (d i u : Nat) : List AV:=cs.take (1 + i) ++ (ofBytes (pl (d - i) u) ++ cs.drop (1 + d))
theorem splice_len (L : List AV) (o : Nat) (v : AV) (h : o < L.length) : (splice L o [v]).length = L.length:=by
 unfold splice
 simp
 omega
theorem put1 (cs R : List AV) (n : Nat) (v : AV) (h : n < cs.length) : splice (cs.take (n + 1) ++ R) n [v] = cs.take n ++ (v :: R):=by
 unfold splice
 have hl : (cs.take (n + 1)).length = n + 1:=by simp; omega
 rw [List.take_append_of_le_length (by omega),List.take_take,Nat.min_eq_left (Nat.le_succ n),show n + [v].length = (cs.take (n + 1)).length by rw [hl]; rfl,List.drop_left]
 simp
theorem dg_eq {x y : Nat} (h : x % 10 = y % 10) : dg x = dg y:=by unfold dg; rw [h]
theorem pl8 (U : Nat) : pl 8 U = [dg (U % 100000000 / 10000 / 100 / 10),dg (U % 100000000 / 10000 / 100),dg (U % 100000000 / 10000 % 100 / 10),dg (U % 100000000 / 10000 % 100),dg (U % 100000000 % 10000 / 100 / 10),dg (U % 100000000 % 10000 / 100),dg (U % 100000000 % 10000 % 100 / 10),dg (U % 100000000 % 10000 % 100)]:=by
 simp only [pl,List.nil_append,List.cons_append]
 congr 1
 ·exact dg_eq (by omega)
 congr 1
 ·exact dg_eq (by omega)
 congr 1
 ·exact dg_eq (by omega)
 congr 1
 ·exact dg_eq (by omega)
 congr 1
 ·exact dg_eq (by omega)
 congr 1
 ·exact dg_eq (by omega)
 congr 1
 ·exact dg_eq (by omega)
 congr 1
 exact dg_eq (by omega)
theorem put8 (cs : List AV) (hcs : cs.length = 24) (d j u0 : Nat) (hd : d ≤ 20) (hj : j + 8 ≤ d) (v1 v2 v3 v4 v5 v6 v7 v8 : UInt8) (h : pl 8 (u0 / 10 ^ (d - (j + 8))) = [v8,v7,v6,v5,v4,v3,v2,v1]) :
  splice (splice (splice (splice (splice (splice (splice (splice (nCells cs d (j + 8) u0) (1 + (j + 7)) [.int .u8 v1.toNat]) (1 + (j + 6)) [.int .u8 v2.toNat]) (1 + (j + 5)) [.int .u8 v3.toNat]) (1 + (j + 4)) [.int .u8 v4.toNat]) (1 + (j + 3)) [.int .u8 v5.toNat]) (1 + (j + 2)) [.int .u8 v6.toNat]) (1 + (j + 1)) [.int .u8 v7.toNat]) (1 + j) [.int .u8 v8.toNat] = nCells cs d j u0:=by
 unfold nCells
 rw [show 1 + (j + 8) = (1 + (j + 7)) + 1 by omega,put1 _ _ _ _ (by omega),show 1 + (j + 7) = (1 + (j + 6)) + 1 by omega,put1 _ _ _ _ (by omega),show 1 + (j + 6) = (1 + (j + 5)) + 1 by omega,put1 _ _ _ _ (by omega),show 1 + (j + 5) = (1 + (j + 4)) + 1 by omega,put1 _ _ _ _ (by omega),show 1 + (j + 4) = (1 + (j + 3)) + 1 by omega,put1 _ _ _ _ (by omega),show 1 + (j + 3) = (1 + (j + 2)) + 1 by omega,put1 _ _ _ _ (by omega),show 1 + (j + 2) = (1 + (j + 1)) + 1 by omega,put1 _ _ _ _ (by omega),show 1 + (j + 1) = (1 + j) + 1 by omega,put1 _ _ _ _ (by omega)]
 rw [show d - j = 8 + (d - (j + 8)) by omega,pl_add,h]
 simp [ofBytes]
set_option maxHeartbeats 4000000 in
theorem fb_loop (cs : List AV) (hcs : cs.length = 24) (d u0 : Nat) (hd : d ≤ 20) (hu : u0 < 18446744073709551616) (σ : St) (q : Nat) (hq : σ[q]? = some (.cells (nCells cs d d u0) ⟨false,none⟩)) : ∀ (n i : Nat),i ≤ d → i / 8 = n →
  loopK C (semF C) 167 [0,1,4] L_internal_strconv_formatBase10_0 [(0,.msl q 1 d 1),(1,.int .u64 (u0 / 10 ^ (d - i) : Nat)),(4,.int .i64 i)] (σ.set q (.cells (nCells cs d i u0) ⟨false,none⟩)) =
   some (.exit 0,[(0,.msl q 1 d 1),(1,.int .u64 (u0 / 10 ^ (d - i % 8) : Nat)),(4,.int .i64 (i % 8 : Nat))],σ.set q (.cells (nCells cs d (i % 8) u0) ⟨false,none⟩))
 | 0,i,hi,hn=>by
   rw [loop_eq (he:=rfl)]
   have h : ¬ (8 : Int) ≤ (i : Int):=by omega
   have e : i % 8 = i:=Nat.mod_eq_of_lt (by omega)
   simp only [L_internal_strconv_formatBase10_0,h,e,EVC,EVD,EVB,Nat.reduceEqDiff,eqOp,eqA,eqNil,lenA,asNat,optNat,pt,tupleOf,Nat.reduceSub,Nat.reduceGT,Nat.reduceLT,hand,norms,normVs,normV,freeze,reduceIte,reduceCtorEq,srcCells,slCells,isStr,fillA,rep,asObj,outSl,Nat.reduceMul,Nat.reduceLeDiff,Int.reduceToNat,Int.reduceLE,Int.reduceLT,Int.reduceEq,Nat.reduceAdd,Int.reduceBNe,Int.reduceBEq,Int.reduceNeg]
 | n + 1,i,hi,hn=>by
   rw [loop_eq (he:=rfl)]
   generalize hk : loopK C (semF C) 167 [0,1,4] L_internal_strconv_formatBase10_0 = k
   have h : (8 : Int) ≤ (i : Int):=by omega
   obtain ⟨j,rfl⟩ : ∃ j,i = j + 8:=⟨i - 8,by omega⟩
   have gs : ∀ (x : AO),(σ.set q x)[q]? = some x:=fun x=>set_get hq x
   generalize hU : u0 / 10 ^ (d - (j + 8)) = U
   obtain ⟨us,hus⟩ : ∃ x,U % 100000000 = x:=⟨_,rfl⟩
   obtain ⟨hh,hhh⟩ : ∃ x,us / 10000 = x:=⟨_,rfl⟩
   obtain ⟨ll,hll⟩ : ∃ x,us % 10000 = x:=⟨_,rfl⟩
   obtain ⟨a1,ha1⟩ : ∃ x,hh / 100 = x:=⟨_,rfl⟩
   obtain ⟨a2,ha2⟩ : ∃ x,hh % 100 = x:=⟨_,rfl⟩
   obtain ⟨a3,ha3⟩ : ∃ x,ll / 100 = x:=⟨_,rfl⟩
   obtain ⟨a4,ha4⟩ : ∃ x,ll % 100 = x:=⟨_,rfl⟩
   have hUl : U < 18446744073709551616:=by rw [← hU]; exact Nat.lt_of_le_of_lt (Nat.div_le_self _ _) hu
   have t1 : (U : Int).tmod 100000000 = (us : Int):=by rw [← hus]; rfl
   have t2 : (U : Int).tdiv 100000000 = ((U / 100000000 : Nat) : Int):=rfl
   have t3 : (us : Int).tdiv 10000 = (hh : Int):=by rw [← hhh]; rfl
   have t4 : (us : Int).tmod 10000 = (ll : Int):=by rw [← hll]; rfl
   have t5 : (hh : Int).tdiv 100 = (a1 : Int):=by rw [← ha1]; rfl
   have t6 : (hh : Int).tmod 100 = (a2 : Int):=by rw [← ha2]; rfl
   have t7 : (ll : Int).tdiv 100 = (a3 : Int):=by rw [← ha3]; rfl
   have t8 : (ll : Int).tmod 100 = (a4 : Int):=by rw [← ha4]; rfl
   have w0:=u64_wrap (U / 100000000) (by omega)
   have w1:=u32_wrap us (by omega)
   have w2:=u32_wrap hh (by omega)
   have w3:=u32_wrap a1 (by omega)
   have w4:=u32_wrap a3 (by omega)
   have m1 : ∀ a : Nat,a < 100 → IntKind.u32.wrap ((a : Int) * 2) = ((a * 2 : Nat) : Int) ∧ IntKind.u32.wrap (((a * 2 : Nat) : Int) + 1) = ((a * 2 + 1 : Nat) : Int) ∧ (0 : Int) ≤ ((a * 2 : Nat) : Int) ∧ (0 : Int) ≤ ((a * 2 + 1 : Nat) : Int):=fun a ha=>⟨by have:=u32_wrap (a * 2) (by omega); rw [← this]; rfl,by have:=u32_wrap (a * 2 + 1) (by omega); rw [← this]; rfl,by omega,by omega⟩
   have sm:=smalls_at
   unfold smalls at sm
   obtain ⟨x1,y1,z1,v1⟩:=m1 a1 (by omega)
   obtain ⟨s1,r1⟩:=sm a1 (by omega)
   obtain ⟨x2,y2,z2,v2⟩:=m1 a2 (by omega)
   obtain ⟨s2,r2⟩:=sm a2 (by omega)
   obtain ⟨x3,y3,z3,v3⟩:=m1 a3 (by omega)
   obtain ⟨s3,r3⟩:=sm a3 (by omega)
   obtain ⟨x4,y4,z4,v4⟩:=m1 a4 (by omega)
   obtain ⟨s4,r4⟩:=sm a4 (by omega)
   have i1 : IntKind.i64.wrap (((j + 8 : Nat) : Int) - 1) = ((j + 7 : Nat) : Int):=by rw [w64] <;> omega
   have n1 : (0 : Int) ≤ ((j + 7 : Nat) : Int):=by omega
   have l1 : j + 7 < d:=by omega
   have g1 : ((j + 7 : Nat) : Int) < (d : Int):=by omega
   have i2 : IntKind.i64.wrap (((j + 8 : Nat) : Int) - 2) = ((j + 6 : Nat) : Int):=by rw [w64] <;> omega
   have n2 : (0 : Int) ≤ ((j + 6 : Nat) : Int):=by omega
   have l2 : j + 6 < d:=by omega
   have g2 : ((j + 6 : Nat) : Int) < (d : Int):=by omega
   have i3 : IntKind.i64.wrap (((j + 8 : Nat) : Int) - 3) = ((j + 5 : Nat) : Int):=by rw [w64] <;> omega
   have n3 : (0 : Int) ≤ ((j + 5 : Nat) : Int):=by omega
   have l3 : j + 5 < d:=by omega
   have g3 : ((j + 5 : Nat) : Int) < (d : Int):=by omega
   have i4 : IntKind.i64.wrap (((j + 8 : Nat) : Int) - 4) = ((j + 4 : Nat) : Int):=by rw [w64] <;> omega
   have n4 : (0 : Int) ≤ ((j + 4 : Nat) : Int):=by omega
   have l4 : j + 4 < d:=by omega
   have g4 : ((j + 4 : Nat) : Int) < (d : Int):=by omega
   have i5 : IntKind.i64.wrap (((j + 8 : Nat) : Int) - 5) = ((j + 3 : Nat) : Int):=by rw [w64] <;> omega
   have n5 : (0 : Int) ≤ ((j + 3 : Nat) : Int):=by omega
   have l5 : j + 3 < d:=by omega
   have g5 : ((j + 3 : Nat) : Int) < (d : Int):=by omega
   have i6 : IntKind.i64.wrap (((j + 8 : Nat) : Int) - 6) = ((j + 2 : Nat) : Int):=by rw [w64] <;> omega
   have n6 : (0 : Int) ≤ ((j + 2 : Nat) : Int):=by omega
   have l6 : j + 2 < d:=by omega
   have g6 : ((j + 2 : Nat) : Int) < (d : Int):=by omega
   have i7 : IntKind.i64.wrap (((j + 8 : Nat) : Int) - 7) = ((j + 1 : Nat) : Int):=by rw [w64] <;> omega
   have n7 : (0 : Int) ≤ ((j + 1 : Nat) : Int):=by omega
   have l7 : j + 1 < d:=by omega
   have g7 : ((j + 1 : Nat) : Int) < (d : Int):=by omega
   have i8 : IntKind.i64.wrap (((j + 8 : Nat) : Int) - 8) = (j : Int):=by rw [w64] <;> omega
   have n8 : (0 : Int) ≤ (j : Int):=by omega
   have l8 : j < d:=by omega
   have g8 : (j : Int) < (d : Int):=by omega
   obtain ⟨L0,hL0⟩ : ∃ x,nCells cs d (j + 8) u0 = x:=⟨_,rfl⟩
   have e0 : L0.length = 24:=by rw [← hL0]; simp [nCells,ofBytes,pl_len,hcs]; omega
   obtain ⟨L1,hL1⟩ : ∃ x,splice L0 (1 + (j + 7)) [.int .u8 (dg a4).toNat] = x:=⟨_,rfl⟩
   have e1 : L1.length = 24:=by rw [← hL1,splice_len _ _ _ (by omega),e0]
   have c0 : 1 + (j + 7) + 1 ≤ 24:=by omega
   obtain ⟨L2,hL2⟩ : ∃ x,splice L1 (1 + (j + 6)) [.int .u8 (dg (a4 / 10)).toNat] = x:=⟨_,rfl⟩
   have e2 : L2.length = 24:=by rw [← hL2,splice_len _ _ _ (by omega),e1]
   have c1 : 1 + (j + 6) + 1 ≤ 24:=by omega
   obtain ⟨L3,hL3⟩ : ∃ x,splice L2 (1 + (j + 5)) [.int .u8 (dg a3).toNat] = x:=⟨_,rfl⟩
   have e3 : L3.length = 24:=by rw [← hL3,splice_len _ _ _ (by omega),e2]
   have c2 : 1 + (j + 5) + 1 ≤ 24:=by omega
   obtain ⟨L4,hL4⟩ : ∃ x,splice L3 (1 + (j + 4)) [.int .u8 (dg (a3 / 10)).toNat] = x:=⟨_,rfl⟩
   have e4 : L4.length = 24:=by rw [← hL4,splice_len _ _ _ (by omega),e3]
   have c3 : 1 + (j + 4) + 1 ≤ 24:=by omega
   obtain ⟨L5,hL5⟩ : ∃ x,splice L4 (1 + (j + 3)) [.int .u8 (dg a2).toNat] = x:=⟨_,rfl⟩
   have e5 : L5.length = 24:=by rw [← hL5,splice_len _ _ _ (by omega),e4]
   have c4 : 1 + (j + 3) + 1 ≤ 24:=by omega
   obtain ⟨L6,hL6⟩ : ∃ x,splice L5 (1 + (j + 2)) [.int .u8 (dg (a2 / 10)).toNat] = x:=⟨_,rfl⟩
   have e6 : L6.length = 24:=by rw [← hL6,splice_len _ _ _ (by omega),e5]
   have c5 : 1 + (j + 2) + 1 ≤ 24:=by omega
   obtain ⟨L7,hL7⟩ : ∃ x,splice L6 (1 + (j + 1)) [.int .u8 (dg a1).toNat] = x:=⟨_,rfl⟩
   have e7 : L7.length = 24:=by rw [← hL7,splice_len _ _ _ (by omega),e6]
   have c6 : 1 + (j + 1) + 1 ≤ 24:=by omega
   obtain ⟨L8,hL8⟩ : ∃ x,splice L7 (1 + j) [.int .u8 (dg (a1 / 10)).toNat] = x:=⟨_,rfl⟩
   have e8 : L8.length = 24:=by rw [← hL8,splice_len _ _ _ (by omega),e7]
   have c7 : 1 + j + 1 ≤ 24:=by omega
   rw [hL0]
   simp only [L_internal_strconv_formatBase10_0,h,gs,t1,t2,t3,t4,t5,t6,t7,t8,w0,w1,w2,w3,w4,x1,y1,z1,v1,s1,r1,x2,y2,z2,v2,s2,r2,x3,y3,z3,v3,s3,r3,x4,y4,z4,v4,s4,r4,i1,n1,l1,g1,i2,n2,l2,g2,i3,n3,l3,g3,i4,n4,l4,g4,i5,n5,l5,g5,i6,n6,l6,g6,i7,n7,l7,g7,i8,n8,l8,g8,e0,c0,hL1,e1,c1,hL2,e2,c2,hL3,e3,c3,hL4,e4,c4,hL5,e5,c5,hL6,e6,c6,hL7,e7,c7,hL8,e8,Int.toNat_natCast,List.set_set,AV.cells,AV.flat,EVC,EVD,EVB,Nat.reduceEqDiff,eqOp,eqA,eqNil,lenA,asNat,optNat,pt,tupleOf,Nat.reduceSub,Nat.reduceGT,Nat.reduceLT,hand,norms,normVs,normV,freeze,reduceIte,reduceCtorEq,srcCells,slCells,isStr,fillA,rep,asObj,outSl,Nat.reduceMul,Nat.reduceLeDiff,Int.reduceToNat,Int.reduceLE,Int.reduceLT,Int.reduceEq,Nat.reduceAdd,Int.reduceBNe,Int.reduceBEq,Int.reduceNeg]
   have ih:=fb_loop cs hcs d u0 hd hu σ q hq n j (by omega) (by omega)
   rw [hk] at ih
   have fin : L8 = nCells cs d j u0:=by
    rw [← hL8,← hL7,← hL6,← hL5,← hL4,← hL3,← hL2,← hL1,← hL0]
    refine put8 cs hcs d j u0 hd (by omega) _ _ _ _ _ _ _ _ ?_
    rw [hU,pl8,← ha1,← ha2,← ha3,← ha4,← hhh,← hll,← hus]
   have hU2 : U / 100000000 = u0 / 10 ^ (d - j):=by
    rw [← hU,Nat.div_div_eq_div_mul,show d - j = (d - (j + 8)) + 8 by omega,Nat.pow_add]
   rw [fin,hU2,ih,Nat.add_mod_right]
end Go.Ev
namespace Go.Ev
set_option maxRecDepth 100000
set_option linter.unusedSimpArgs false
set_option linter.unusedVariables false
variable {C : Ctx}
theorem fb10_0 (hC : HasR C f_internal_strconv_formatBase10 K_internal_strconv_formatBase10) (cs : List AV) (hcs : cs.length = 24) (d u0 : Nat) (hd : u0 < 10 ^ d) (hd20 : d ≤ 20) (hu : u0 < 18446744073709551616) (hi : d % 8 = 0) (σ : St) (q : Nat) (hq : σ[q]? = some (.cells cs ⟨false,none⟩)) :
  semF C f_internal_strconv_formatBase10 [.msl q 1 d 1,.int .u64 u0] σ = some (.tup [],σ.set q (.cells (nCells cs d 0 u0) ⟨false,none⟩)):=by
 have hid : 0 ≤ d:=by omega
 have n0 : nCells cs d d u0 = cs:=by simp [nCells,pl,ofBytes]
 have lp:=fb_loop (C:=C) cs hcs d u0 hd20 hu σ q (by rw [n0]; exact hq) (d / 8) d (Nat.le_refl _) rfl
 rw [n0,set_self hq,Nat.sub_self,Nat.pow_zero,Nat.div_one,hi] at lp
 have gs : ∀ (x : AO),(σ.set q x)[q]? = some x:=fun x=>set_get hq x
 have ty : ∀ x : AO,tidy σ.length [] (σ.set q x) = σ.set q x:=fun x=>by
  have:=st_tidy0 (σ.set q x) []
  rwa [List.length_set] at this
 have hx : u0 / 10 ^ (d - 0) < 10 ^ 0:=by
  rw [Nat.div_lt_iff_lt_mul (Nat.pow_pos (by decide)),← Nat.pow_add,show 0 + (d - 0) = d by omega]
  exact hd
 have fin : ∀ L : List AV,L = cs.take 1 ++ (ofBytes (pl 0 (u0 / 10 ^ (d - 0))) ++ (ofBytes (pl (d - 0) u0) ++ cs.drop (1 + d))) → L = nCells cs d 0 u0:=fun L hL=>by
  rw [hL]
  unfold nCells
  rw [Nat.sub_zero,show pl d u0 = pl (0 + (d - 0)) u0 from by rw [show 0 + (d - 0) = d by omega],pl_add]
  simp [ofBytes,pl]
 simp only [Int.cast_ofNat_Int,Int.natCast_zero,Int.natCast_one] at lp
 obtain ⟨x,hxx⟩ : ∃ x,u0 / 10 ^ (d - 0) = x:=⟨_,rfl⟩
 rw [hxx] at lp hx fin
 obtain ⟨R,hR⟩ : ∃ R,ofBytes (pl (d - 0) u0) ++ cs.drop (1 + d) = R:=⟨_,rfl⟩
 rw [hR] at fin
 obtain ⟨L0,hL0⟩ : ∃ L,nCells cs d 0 u0 = L:=⟨_,rfl⟩
 have e0 : L0.length = 24:=by rw [← hL0]; simp [nCells,ofBytes,pl_len,hcs]; omega
 have hL0' : L0 = cs.take 1 ++ R:=by rw [← hL0,← hR]; rfl
 rw [hL0] at lp
 have wx:=u32_wrap x (by omega)
 have sm:=smalls_at
 unfold smalls at sm
 have m1 : ∀ a : Nat,a < 100 → IntKind.u32.wrap ((a : Int) * 2) = ((a * 2 : Nat) : Int) ∧ IntKind.u32.wrap (((a * 2 : Nat) : Int) + 1) = ((a * 2 + 1 : Nat) : Int) ∧ (0 : Int) ≤ ((a * 2 : Nat) : Int) ∧ (0 : Int) ≤ ((a * 2 + 1 : Nat) : Int):=fun a ha=>⟨by have:=u32_wrap (a * 2) (by omega); rw [← this]; rfl,by have:=u32_wrap (a * 2 + 1) (by omega); rw [← this]; rfl,by omega,by omega⟩
 have k4 : ¬ (4 : Int) ≤ 0:=by decide
 have k2 : ¬ (2 : Int) ≤ 0:=by decide
 have k1 : ¬ (0 : Int) < 0:=by decide
 have fin:=fin L0 (by
  rw [hL0']; rfl)
 rw [← fin]
 rw [hC.go (by simp [K_internal_strconv_formatBase10])]
 simp only [K_internal_strconv_formatBase10,lp,gs,ty,wx,k4,k2,k1,e0,endQ_normal,resL,tupleOf,Int.toNat_natCast,List.set_set,AV.cells,AV.flat,EVC,EVD,EVB,Nat.reduceEqDiff,eqOp,eqA,eqNil,lenA,asNat,optNat,pt,tupleOf,Nat.reduceSub,Nat.reduceGT,Nat.reduceLT,hand,norms,normVs,normV,freeze,reduceIte,reduceCtorEq,srcCells,slCells,isStr,fillA,rep,asObj,outSl,Nat.reduceMul,Nat.reduceLeDiff,Int.reduceToNat,Int.reduceLE,Int.reduceLT,Int.reduceEq,Nat.reduceAdd,Int.reduceBNe,Int.reduceBEq,Int.reduceNeg]
theorem fb10_1 (hC : HasR C f_internal_strconv_formatBase10 K_internal_strconv_formatBase10) (cs : List AV) (hcs : cs.length = 24) (d u0 : Nat) (hd : u0 < 10 ^ d) (hd20 : d ≤ 20) (hu : u0 < 18446744073709551616) (hi : d % 8 = 1) (σ : St) (q : Nat) (hq : σ[q]? = some (.cells cs ⟨false,none⟩)) :
  semF C f_internal_strconv_formatBase10 [.msl q 1 d 1,.int .u64 u0] σ = some (.tup [],σ.set q (.cells (nCells cs d 0 u0) ⟨false,none⟩)):=by
 have hid : 1 ≤ d:=by omega
 have n0 : nCells cs d d u0 = cs:=by simp [nCells,pl,ofBytes]
 have lp:=fb_loop (C:=C) cs hcs d u0 hd20 hu σ q (by rw [n0]; exact hq) (d / 8) d (Nat.le_refl _) rfl
 rw [n0,set_self hq,Nat.sub_self,Nat.pow_zero,Nat.div_one,hi] at lp
 have gs : ∀ (x : AO),(σ.set q x)[q]? = some x:=fun x=>set_get hq x
 have ty : ∀ x : AO,tidy σ.length [] (σ.set q x) = σ.set q x:=fun x=>by
  have:=st_tidy0 (σ.set q x) []
  rwa [List.length_set] at this
 have hx : u0 / 10 ^ (d - 1) < 10 ^ 1:=by
  rw [Nat.div_lt_iff_lt_mul (Nat.pow_pos (by decide)),← Nat.pow_add,show 1 + (d - 1) = d by omega]
  exact hd
 have fin : ∀ L : List AV,L = cs.take 1 ++ (ofBytes (pl 1 (u0 / 10 ^ (d - 1))) ++ (ofBytes (pl (d - 1) u0) ++ cs.drop (1 + d))) → L = nCells cs d 0 u0:=fun L hL=>by
  rw [hL]
  unfold nCells
  rw [Nat.sub_zero,show pl d u0 = pl (1 + (d - 1)) u0 from by rw [show 1 + (d - 1) = d by omega],pl_add]
  simp [ofBytes,pl]
 simp only [Int.cast_ofNat_Int,Int.natCast_zero,Int.natCast_one] at lp
 obtain ⟨x,hxx⟩ : ∃ x,u0 / 10 ^ (d - 1) = x:=⟨_,rfl⟩
 rw [hxx] at lp hx fin
 obtain ⟨R,hR⟩ : ∃ R,ofBytes (pl (d - 1) u0) ++ cs.drop (1 + d) = R:=⟨_,rfl⟩
 rw [hR] at fin
 obtain ⟨L0,hL0⟩ : ∃ L,nCells cs d 1 u0 = L:=⟨_,rfl⟩
 have e0 : L0.length = 24:=by rw [← hL0]; simp [nCells,ofBytes,pl_len,hcs]; omega
 have hL0' : L0 = cs.take 2 ++ R:=by rw [← hL0,← hR]; rfl
 rw [hL0] at lp
 have wx:=u32_wrap x (by omega)
 have sm:=smalls_at
 unfold smalls at sm
 have m1 : ∀ a : Nat,a < 100 → IntKind.u32.wrap ((a : Int) * 2) = ((a * 2 : Nat) : Int) ∧ IntKind.u32.wrap (((a * 2 : Nat) : Int) + 1) = ((a * 2 + 1 : Nat) : Int) ∧ (0 : Int) ≤ ((a * 2 : Nat) : Int) ∧ (0 : Int) ≤ ((a * 2 + 1 : Nat) : Int):=fun a ha=>⟨by have:=u32_wrap (a * 2) (by omega); rw [← this]; rfl,by have:=u32_wrap (a * 2 + 1) (by omega); rw [← this]; rfl,by omega,by omega⟩
 have k4 : ¬ (4 : Int) ≤ 1:=by decide
 have k2 : ¬ (2 : Int) ≤ 1:=by decide
 have k1 : (0 : Int) < 1:=by decide
 have q1 : IntKind.u32.wrap (48 + (x : Int)) = ((48 + x : Nat) : Int):=by have:=u32_wrap (48 + x) (by omega); rw [← this]; rfl
 have q2 : IntKind.u8.wrap ((48 + x : Nat) : Int) = ((dg x).toNat : Int):=by
  rw [u8_wrap _ (by omega)]
  unfold dg
  rw [UInt8.toNat_ofNat']
  omega
 obtain ⟨L1,hL1⟩ : ∃ L,splice L0 1 [.int .u8 (dg x).toNat] = L:=⟨_,rfl⟩
 have e1 : L1.length = 24:=by rw [← hL1,splice_len _ _ _ (by omega),e0]
 have c0 : 1 + 1 ≤ 24:=by omega
 have g0 : (0 : Int) ≤ 0:=by decide
 have l0 : 0 < d:=by omega
 have fin:=fin L1 (by
  rw [← hL1,hL0',put1 _ _ _ _ (by omega)]
  simp only [pl,ofBytes,List.nil_append,List.cons_append,List.map_cons,List.map_nil]
  )
 rw [← fin]
 rw [hC.go (by simp [K_internal_strconv_formatBase10])]
 simp only [K_internal_strconv_formatBase10,lp,gs,ty,wx,k4,k2,k1,q1,q2,e0,c0,hL1,g0,l0,e1,endQ_normal,resL,tupleOf,Int.toNat_natCast,List.set_set,AV.cells,AV.flat,EVC,EVD,EVB,Nat.reduceEqDiff,eqOp,eqA,eqNil,lenA,asNat,optNat,pt,tupleOf,Nat.reduceSub,Nat.reduceGT,Nat.reduceLT,hand,norms,normVs,normV,freeze,reduceIte,reduceCtorEq,srcCells,slCells,isStr,fillA,rep,asObj,outSl,Nat.reduceMul,Nat.reduceLeDiff,Int.reduceToNat,Int.reduceLE,Int.reduceLT,Int.reduceEq,Nat.reduceAdd,Int.reduceBNe,Int.reduceBEq,Int.reduceNeg]
theorem fb10_2 (hC : HasR C f_internal_strconv_formatBase10 K_internal_strconv_formatBase10) (cs : List AV) (hcs : cs.length = 24) (d u0 : Nat) (hd : u0 < 10 ^ d) (hd20 : d ≤ 20) (hu : u0 < 18446744073709551616) (hi : d % 8 = 2) (σ : St) (q : Nat) (hq : σ[q]? = some (.cells cs ⟨false,none⟩)) :
  semF C f_internal_strconv_formatBase10 [.msl q 1 d 1,.int .u64 u0] σ = some (.tup [],σ.set q (.cells (nCells cs d 0 u0) ⟨false,none⟩)):=by
 have hid : 2 ≤ d:=by omega
 have n0 : nCells cs d d u0 = cs:=by simp [nCells,pl,ofBytes]
 have lp:=fb_loop (C:=C) cs hcs d u0 hd20 hu σ q (by rw [n0]; exact hq) (d / 8) d (Nat.le_refl _) rfl
 rw [n0,set_self hq,Nat.sub_self,Nat.pow_zero,Nat.div_one,hi] at lp
 have gs : ∀ (x : AO),(σ.set q x)[q]? = some x:=fun x=>set_get hq x
 have ty : ∀ x : AO,tidy σ.length [] (σ.set q x) = σ.set q x:=fun x=>by
  have:=st_tidy0 (σ.set q x) []
  rwa [List.length_set] at this
 have hx : u0 / 10 ^ (d - 2) < 10 ^ 2:=by
  rw [Nat.div_lt_iff_lt_mul (Nat.pow_pos (by decide)),← Nat.pow_add,show 2 + (d - 2) = d by omega]
  exact hd
 have fin : ∀ L : List AV,L = cs.take 1 ++ (ofBytes (pl 2 (u0 / 10 ^ (d - 2))) ++ (ofBytes (pl (d - 2) u0) ++ cs.drop (1 + d))) → L = nCells cs d 0 u0:=fun L hL=>by
  rw [hL]
  unfold nCells
  rw [Nat.sub_zero,show pl d u0 = pl (2 + (d - 2)) u0 from by rw [show 2 + (d - 2) = d by omega],pl_add]
  simp [ofBytes,pl]
 simp only [Int.cast_ofNat_Int,Int.natCast_zero,Int.natCast_one] at lp
 obtain ⟨x,hxx⟩ : ∃ x,u0 / 10 ^ (d - 2) = x:=⟨_,rfl⟩
 rw [hxx] at lp hx fin
 obtain ⟨R,hR⟩ : ∃ R,ofBytes (pl (d - 2) u0) ++ cs.drop (1 + d) = R:=⟨_,rfl⟩
 rw [hR] at fin
 obtain ⟨L0,hL0⟩ : ∃ L,nCells cs d 2 u0 = L:=⟨_,rfl⟩
 have e0 : L0.length = 24:=by rw [← hL0]; simp [nCells,ofBytes,pl_len,hcs]; omega
 have hL0' : L0 = cs.take 3 ++ R:=by rw [← hL0,← hR]; rfl
 rw [hL0] at lp
 have wx:=u32_wrap x (by omega)
 have sm:=smalls_at
 unfold smalls at sm
 have m1 : ∀ a : Nat,a < 100 → IntKind.u32.wrap ((a : Int) * 2) = ((a * 2 : Nat) : Int) ∧ IntKind.u32.wrap (((a * 2 : Nat) : Int) + 1) = ((a * 2 + 1 : Nat) : Int) ∧ (0 : Int) ≤ ((a * 2 : Nat) : Int) ∧ (0 : Int) ≤ ((a * 2 + 1 : Nat) : Int):=fun a ha=>⟨by have:=u32_wrap (a * 2) (by omega); rw [← this]; rfl,by have:=u32_wrap (a * 2 + 1) (by omega); rw [← this]; rfl,by omega,by omega⟩
 have k4 : ¬ (4 : Int) ≤ 2:=by decide
 have k2 : (2 : Int) ≤ 2:=by decide
 obtain ⟨b,hb⟩ : ∃ a,x % 100 = a:=⟨_,rfl⟩
 obtain ⟨x2',hx2'⟩ : ∃ a,x / 100 = a:=⟨_,rfl⟩
 have b1 : (x : Int).tmod 100 = (b : Int):=by rw [← hb]; rfl
 have b2 : (x : Int).tdiv 100 = (x2' : Int):=by rw [← hx2']; rfl
 have b3:=u32_wrap x2' (by omega)
 obtain ⟨xb,yb,zb,vb⟩:=m1 b (by omega)
 obtain ⟨sb,rb⟩:=sm b (by omega)
 have jb1 : IntKind.i64.wrap (2 - 1) = 1:=by decide
 have jb2 : IntKind.i64.wrap (2 - 2) = 0:=by decide
 have k1 : ¬ (0 : Int) < 0:=by decide
 obtain ⟨L1,hL1⟩ : ∃ L,splice L0 2 [.int .u8 (dg b).toNat] = L:=⟨_,rfl⟩
 have e1 : L1.length = 24:=by rw [← hL1,splice_len _ _ _ (by omega),e0]
 have c0 : 2 + 1 ≤ 24:=by omega
 have g0 : (0 : Int) ≤ 1:=by decide
 have l0 : 1 < d:=by omega
 obtain ⟨L2,hL2⟩ : ∃ L,splice L1 1 [.int .u8 (dg (b / 10)).toNat] = L:=⟨_,rfl⟩
 have e2 : L2.length = 24:=by rw [← hL2,splice_len _ _ _ (by omega),e1]
 have c1 : 1 + 1 ≤ 24:=by omega
 have g1 : (0 : Int) ≤ 0:=by decide
 have l1 : 0 < d:=by omega
 have fin:=fin L2 (by
  rw [← hL2,← hL1,hL0',put1 _ _ _ _ (by omega),put1 _ _ _ _ (by omega)]
  simp only [pl,ofBytes,List.nil_append,List.cons_append,List.map_cons,List.map_nil]
  rw [show dg (x / 10) = dg (b / 10) from dg_eq (by omega),show dg (x) = dg b from dg_eq (by omega)])
 rw [← fin]
 rw [hC.go (by simp [K_internal_strconv_formatBase10])]
 simp only [K_internal_strconv_formatBase10,lp,gs,ty,wx,k4,k2,b1,b2,b3,xb,yb,zb,vb,sb,rb,jb1,jb2,k1,e0,c0,hL1,g0,l0,e1,c1,hL2,g1,l1,e2,endQ_normal,resL,tupleOf,Int.toNat_natCast,List.set_set,AV.cells,AV.flat,EVC,EVD,EVB,Nat.reduceEqDiff,eqOp,eqA,eqNil,lenA,asNat,optNat,pt,tupleOf,Nat.reduceSub,Nat.reduceGT,Nat.reduceLT,hand,norms,normVs,normV,freeze,reduceIte,reduceCtorEq,srcCells,slCells,isStr,fillA,rep,asObj,outSl,Nat.reduceMul,Nat.reduceLeDiff,Int.reduceToNat,Int.reduceLE,Int.reduceLT,Int.reduceEq,Nat.reduceAdd,Int.reduceBNe,Int.reduceBEq,Int.reduceNeg]
theorem fb10_3 (hC : HasR C f_internal_strconv_formatBase10 K_internal_strconv_formatBase10) (cs : List AV) (hcs : cs.length = 24) (d u0 : Nat) (hd : u0 < 10 ^ d) (hd20 : d ≤ 20) (hu : u0 < 18446744073709551616) (hi : d % 8 = 3) (σ : St) (q : Nat) (hq : σ[q]? = some (.cells cs ⟨false,none⟩)) :
  semF C f_internal_strconv_formatBase10 [.msl q 1 d 1,.int .u64 u0] σ = some (.tup [],σ.set q (.cells (nCells cs d 0 u0) ⟨false,none⟩)):=by
 have hid : 3 ≤ d:=by omega
 have n0 : nCells cs d d u0 = cs:=by simp [nCells,pl,ofBytes]
 have lp:=fb_loop (C:=C) cs hcs d u0 hd20 hu σ q (by rw [n0]; exact hq) (d / 8) d (Nat.le_refl _) rfl
 rw [n0,set_self hq,Nat.sub_self,Nat.pow_zero,Nat.div_one,hi] at lp
 have gs : ∀ (x : AO),(σ.set q x)[q]? = some x:=fun x=>set_get hq x
 have ty : ∀ x : AO,tidy σ.length [] (σ.set q x) = σ.set q x:=fun x=>by
  have:=st_tidy0 (σ.set q x) []
  rwa [List.length_set] at this
 have hx : u0 / 10 ^ (d - 3) < 10 ^ 3:=by
  rw [Nat.div_lt_iff_lt_mul (Nat.pow_pos (by decide)),← Nat.pow_add,show 3 + (d - 3) = d by omega]
  exact hd
 have fin : ∀ L : List AV,L = cs.take 1 ++ (ofBytes (pl 3 (u0 / 10 ^ (d - 3))) ++ (ofBytes (pl (d - 3) u0) ++ cs.drop (1 + d))) → L = nCells cs d 0 u0:=fun L hL=>by
  rw [hL]
  unfold nCells
  rw [Nat.sub_zero,show pl d u0 = pl (3 + (d - 3)) u0 from by rw [show 3 + (d - 3) = d by omega],pl_add]
  simp [ofBytes,pl]
 simp only [Int.cast_ofNat_Int,Int.natCast_zero,Int.natCast_one] at lp
 obtain ⟨x,hxx⟩ : ∃ x,u0 / 10 ^ (d - 3) = x:=⟨_,rfl⟩
 rw [hxx] at lp hx fin
 obtain ⟨R,hR⟩ : ∃ R,ofBytes (pl (d - 3) u0) ++ cs.drop (1 + d) = R:=⟨_,rfl⟩
 rw [hR] at fin
 obtain ⟨L0,hL0⟩ : ∃ L,nCells cs d 3 u0 = L:=⟨_,rfl⟩
 have e0 : L0.length = 24:=by rw [← hL0]; simp [nCells,ofBytes,pl_len,hcs]; omega
 have hL0' : L0 = cs.take 4 ++ R:=by rw [← hL0,← hR]; rfl
 rw [hL0] at lp
 have wx:=u32_wrap x (by omega)
 have sm:=smalls_at
 unfold smalls at sm
 have m1 : ∀ a : Nat,a < 100 → IntKind.u32.wrap ((a : Int) * 2) = ((a * 2 : Nat) : Int) ∧ IntKind.u32.wrap (((a * 2 : Nat) : Int) + 1) = ((a * 2 + 1 : Nat) : Int) ∧ (0 : Int) ≤ ((a * 2 : Nat) : Int) ∧ (0 : Int) ≤ ((a * 2 + 1 : Nat) : Int):=fun a ha=>⟨by have:=u32_wrap (a * 2) (by omega); rw [← this]; rfl,by have:=u32_wrap (a * 2 + 1) (by omega); rw [← this]; rfl,by omega,by omega⟩
 have k4 : ¬ (4 : Int) ≤ 3:=by decide
 have k2 : (2 : Int) ≤ 3:=by decide
 obtain ⟨b,hb⟩ : ∃ a,x % 100 = a:=⟨_,rfl⟩
 obtain ⟨x2',hx2'⟩ : ∃ a,x / 100 = a:=⟨_,rfl⟩
 have b1 : (x : Int).tmod 100 = (b : Int):=by rw [← hb]; rfl
 have b2 : (x : Int).tdiv 100 = (x2' : Int):=by rw [← hx2']; rfl
 have b3:=u32_wrap x2' (by omega)
 obtain ⟨xb,yb,zb,vb⟩:=m1 b (by omega)
 obtain ⟨sb,rb⟩:=sm b (by omega)
 have jb1 : IntKind.i64.wrap (3 - 1) = 2:=by decide
 have jb2 : IntKind.i64.wrap (3 - 2) = 1:=by decide
 have k1 : (0 : Int) < 1:=by decide
 have q1 : IntKind.u32.wrap (48 + (x2' : Int)) = ((48 + x2' : Nat) : Int):=by have:=u32_wrap (48 + x2') (by omega); rw [← this]; rfl
 have q2 : IntKind.u8.wrap ((48 + x2' : Nat) : Int) = ((dg x2').toNat : Int):=by
  rw [u8_wrap _ (by omega)]
  unfold dg
  rw [UInt8.toNat_ofNat']
  omega
 obtain ⟨L1,hL1⟩ : ∃ L,splice L0 3 [.int .u8 (dg b).toNat] = L:=⟨_,rfl⟩
 have e1 : L1.length = 24:=by rw [← hL1,splice_len _ _ _ (by omega),e0]
 have c0 : 3 + 1 ≤ 24:=by omega
 have g0 : (0 : Int) ≤ 2:=by decide
 have l0 : 2 < d:=by omega
 obtain ⟨L2,hL2⟩ : ∃ L,splice L1 2 [.int .u8 (dg (b / 10)).toNat] = L:=⟨_,rfl⟩
 have e2 : L2.length = 24:=by rw [← hL2,splice_len _ _ _ (by omega),e1]
 have c1 : 2 + 1 ≤ 24:=by omega
 have g1 : (0 : Int) ≤ 1:=by decide
 have l1 : 1 < d:=by omega
 obtain ⟨L3,hL3⟩ : ∃ L,splice L2 1 [.int .u8 (dg x2').toNat] = L:=⟨_,rfl⟩
 have e3 : L3.length = 24:=by rw [← hL3,splice_len _ _ _ (by omega),e2]
 have c2 : 1 + 1 ≤ 24:=by omega
 have g2 : (0 : Int) ≤ 0:=by decide
 have l2 : 0 < d:=by omega
 have fin:=fin L3 (by
  rw [← hL3,← hL2,← hL1,hL0',put1 _ _ _ _ (by omega),put1 _ _ _ _ (by omega),put1 _ _ _ _ (by omega)]
  simp only [pl,ofBytes,List.nil_append,List.cons_append,List.map_cons,List.map_nil]
  rw [show dg (x / 10 / 10) = dg x2' from dg_eq (by omega),show dg (x / 10) = dg (b / 10) from dg_eq (by omega),show dg (x) = dg b from dg_eq (by omega)])
 rw [← fin]
 rw [hC.go (by simp [K_internal_strconv_formatBase10])]
 simp only [K_internal_strconv_formatBase10,lp,gs,ty,wx,k4,k2,b1,b2,b3,xb,yb,zb,vb,sb,rb,jb1,jb2,k1,q1,q2,e0,c0,hL1,g0,l0,e1,c1,hL2,g1,l1,e2,c2,hL3,g2,l2,e3,endQ_normal,resL,tupleOf,Int.toNat_natCast,List.set_set,AV.cells,AV.flat,EVC,EVD,EVB,Nat.reduceEqDiff,eqOp,eqA,eqNil,lenA,asNat,optNat,pt,tupleOf,Nat.reduceSub,Nat.reduceGT,Nat.reduceLT,hand,norms,normVs,normV,freeze,reduceIte,reduceCtorEq,srcCells,slCells,isStr,fillA,rep,asObj,outSl,Nat.reduceMul,Nat.reduceLeDiff,Int.reduceToNat,Int.reduceLE,Int.reduceLT,Int.reduceEq,Nat.reduceAdd,Int.reduceBNe,Int.reduceBEq,Int.reduceNeg]
theorem fb10_4 (hC : HasR C f_internal_strconv_formatBase10 K_internal_strconv_formatBase10) (cs : List AV) (hcs : cs.length = 24) (d u0 : Nat) (hd : u0 < 10 ^ d) (hd20 : d ≤ 20) (hu : u0 < 18446744073709551616) (hi : d % 8 = 4) (σ : St) (q : Nat) (hq : σ[q]? = some (.cells cs ⟨false,none⟩)) :
  semF C f_internal_strconv_formatBase10 [.msl q 1 d 1,.int .u64 u0] σ = some (.tup [],σ.set q (.cells (nCells cs d 0 u0) ⟨false,none⟩)):=by
 have hid : 4 ≤ d:=by omega
 have n0 : nCells cs d d u0 = cs:=by simp [nCells,pl,ofBytes]
 have lp:=fb_loop (C:=C) cs hcs d u0 hd20 hu σ q (by rw [n0]; exact hq) (d / 8) d (Nat.le_refl _) rfl
 rw [n0,set_self hq,Nat.sub_self,Nat.pow_zero,Nat.div_one,hi] at lp
 have gs : ∀ (x : AO),(σ.set q x)[q]? = some x:=fun x=>set_get hq x
 have ty : ∀ x : AO,tidy σ.length [] (σ.set q x) = σ.set q x:=fun x=>by
  have:=st_tidy0 (σ.set q x) []
  rwa [List.length_set] at this
 have hx : u0 / 10 ^ (d - 4) < 10 ^ 4:=by
  rw [Nat.div_lt_iff_lt_mul (Nat.pow_pos (by decide)),← Nat.pow_add,show 4 + (d - 4) = d by omega]
  exact hd
 have fin : ∀ L : List AV,L = cs.take 1 ++ (ofBytes (pl 4 (u0 / 10 ^ (d - 4))) ++ (ofBytes (pl (d - 4) u0) ++ cs.drop (1 + d))) → L = nCells cs d 0 u0:=fun L hL=>by
  rw [hL]
  unfold nCells
  rw [Nat.sub_zero,show pl d u0 = pl (4 + (d - 4)) u0 from by rw [show 4 + (d - 4) = d by omega],pl_add]
  simp [ofBytes,pl]
 simp only [Int.cast_ofNat_Int,Int.natCast_zero,Int.natCast_one] at lp
 obtain ⟨x,hxx⟩ : ∃ x,u0 / 10 ^ (d - 4) = x:=⟨_,rfl⟩
 rw [hxx] at lp hx fin
 obtain ⟨R,hR⟩ : ∃ R,ofBytes (pl (d - 4) u0) ++ cs.drop (1 + d) = R:=⟨_,rfl⟩
 rw [hR] at fin
 obtain ⟨L0,hL0⟩ : ∃ L,nCells cs d 4 u0 = L:=⟨_,rfl⟩
 have e0 : L0.length = 24:=by rw [← hL0]; simp [nCells,ofBytes,pl_len,hcs]; omega
 have hL0' : L0 = cs.take 5 ++ R:=by rw [← hL0,← hR]; rfl
 rw [hL0] at lp
 have wx:=u32_wrap x (by omega)
 have sm:=smalls_at
 unfold smalls at sm
 have m1 : ∀ a : Nat,a < 100 → IntKind.u32.wrap ((a : Int) * 2) = ((a * 2 : Nat) : Int) ∧ IntKind.u32.wrap (((a * 2 : Nat) : Int) + 1) = ((a * 2 + 1 : Nat) : Int) ∧ (0 : Int) ≤ ((a * 2 : Nat) : Int) ∧ (0 : Int) ≤ ((a * 2 + 1 : Nat) : Int):=fun a ha=>⟨by have:=u32_wrap (a * 2) (by omega); rw [← this]; rfl,by have:=u32_wrap (a * 2 + 1) (by omega); rw [← this]; rfl,by omega,by omega⟩
 have k4 : (4 : Int) ≤ 4:=by decide
 obtain ⟨z,hz⟩ : ∃ z,x % 10000 = z:=⟨_,rfl⟩
 obtain ⟨a1,ha1⟩ : ∃ a,z / 100 = a:=⟨_,rfl⟩
 obtain ⟨a2,ha2⟩ : ∃ a,z % 100 = a:=⟨_,rfl⟩
 obtain ⟨x',hx'⟩ : ∃ a,x / 10000 = a:=⟨_,rfl⟩
 have p1 : (x : Int).tmod 10000 = (z : Int):=by rw [← hz]; rfl
 have p2 : (x : Int).tdiv 10000 = (x' : Int):=by rw [← hx']; rfl
 have p3 : (z : Int).tdiv 100 = (a1 : Int):=by rw [← ha1]; rfl
 have p4 : (z : Int).tmod 100 = (a2 : Int):=by rw [← ha2]; rfl
 have p5:=u32_wrap x' (by omega)
 have p6:=u32_wrap a1 (by omega)
 obtain ⟨x1,y1,z1,v1⟩:=m1 a1 (by omega)
 obtain ⟨s1,r1⟩:=sm a1 (by omega)
 obtain ⟨x2,y2,z2,v2⟩:=m1 a2 (by omega)
 obtain ⟨s2,r2⟩:=sm a2 (by omega)
 have j1 : IntKind.i64.wrap (4 - 1) = 3:=by decide
 have j2 : IntKind.i64.wrap (4 - 2) = 2:=by decide
 have j3 : IntKind.i64.wrap (4 - 3) = 1:=by decide
 have j4 : IntKind.i64.wrap (4 - 4) = 0:=by decide
 have k2 : ¬ (2 : Int) ≤ 0:=by decide
 have k1 : ¬ (0 : Int) < 0:=by decide
 obtain ⟨L1,hL1⟩ : ∃ L,splice L0 4 [.int .u8 (dg a2).toNat] = L:=⟨_,rfl⟩
 have e1 : L1.length = 24:=by rw [← hL1,splice_len _ _ _ (by omega),e0]
 have c0 : 4 + 1 ≤ 24:=by omega
 have g0 : (0 : Int) ≤ 3:=by decide
 have l0 : 3 < d:=by omega
 obtain ⟨L2,hL2⟩ : ∃ L,splice L1 3 [.int .u8 (dg (a2 / 10)).toNat] = L:=⟨_,rfl⟩
 have e2 : L2.length = 24:=by rw [← hL2,splice_len _ _ _ (by omega),e1]
 have c1 : 3 + 1 ≤ 24:=by omega
 have g1 : (0 : Int) ≤ 2:=by decide
 have l1 : 2 < d:=by omega
 obtain ⟨L3,hL3⟩ : ∃ L,splice L2 2 [.int .u8 (dg a1).toNat] = L:=⟨_,rfl⟩
 have e3 : L3.length = 24:=by rw [← hL3,splice_len _ _ _ (by omega),e2]
 have c2 : 2 + 1 ≤ 24:=by omega
 have g2 : (0 : Int) ≤ 1:=by decide
 have l2 : 1 < d:=by omega
 obtain ⟨L4,hL4⟩ : ∃ L,splice L3 1 [.int .u8 (dg (a1 / 10)).toNat] = L:=⟨_,rfl⟩
 have e4 : L4.length = 24:=by rw [← hL4,splice_len _ _ _ (by omega),e3]
 have c3 : 1 + 1 ≤ 24:=by omega
 have g3 : (0 : Int) ≤ 0:=by decide
 have l3 : 0 < d:=by omega
 have fin:=fin L4 (by
  rw [← hL4,← hL3,← hL2,← hL1,hL0',put1 _ _ _ _ (by omega),put1 _ _ _ _ (by omega),put1 _ _ _ _ (by omega),put1 _ _ _ _ (by omega)]
  simp only [pl,ofBytes,List.nil_append,List.cons_append,List.map_cons,List.map_nil]
  rw [show dg (x / 10 / 10 / 10) = dg (a1 / 10) from dg_eq (by omega),show dg (x / 10 / 10) = dg a1 from dg_eq (by omega),show dg (x / 10) = dg (a2 / 10) from dg_eq (by omega),show dg (x) = dg a2 from dg_eq (by omega)])
 rw [← fin]
 rw [hC.go (by simp [K_internal_strconv_formatBase10])]
 simp only [K_internal_strconv_formatBase10,lp,gs,ty,wx,k4,p1,p2,p3,p4,p5,p6,x1,y1,z1,v1,s1,r1,x2,y2,z2,v2,s2,r2,j1,j2,j3,j4,k2,k1,e0,c0,hL1,g0,l0,e1,c1,hL2,g1,l1,e2,c2,hL3,g2,l2,e3,c3,hL4,g3,l3,e4,endQ_normal,resL,tupleOf,Int.toNat_natCast,List.set_set,AV.cells,AV.flat,EVC,EVD,EVB,Nat.reduceEqDiff,eqOp,eqA,eqNil,lenA,asNat,optNat,pt,tupleOf,Nat.reduceSub,Nat.reduceGT,Nat.reduceLT,hand,norms,normVs,normV,freeze,reduceIte,reduceCtorEq,srcCells,slCells,isStr,fillA,rep,asObj,outSl,Nat.reduceMul,Nat.reduceLeDiff,Int.reduceToNat,Int.reduceLE,Int.reduceLT,Int.reduceEq,Nat.reduceAdd,Int.reduceBNe,Int.reduceBEq,Int.reduceNeg]
theorem fb10_5 (hC : HasR C f_internal_strconv_formatBase10 K_internal_strconv_formatBase10) (cs : List AV) (hcs : cs.length = 24) (d u0 : Nat) (hd : u0 < 10 ^ d) (hd20 : d ≤ 20) (hu : u0 < 18446744073709551616) (hi : d % 8 = 5) (σ : St) (q : Nat) (hq : σ[q]? = some (.cells cs ⟨false,none⟩)) :
  semF C f_internal_strconv_formatBase10 [.msl q 1 d 1,.int .u64 u0] σ = some (.tup [],σ.set q (.cells (nCells cs d 0 u0) ⟨false,none⟩)):=by
 have hid : 5 ≤ d:=by omega
 have n0 : nCells cs d d u0 = cs:=by simp [nCells,pl,ofBytes]
 have lp:=fb_loop (C:=C) cs hcs d u0 hd20 hu σ q (by rw [n0]; exact hq) (d / 8) d (Nat.le_refl _) rfl
 rw [n0,set_self hq,Nat.sub_self,Nat.pow_zero,Nat.div_one,hi] at lp
 have gs : ∀ (x : AO),(σ.set q x)[q]? = some x:=fun x=>set_get hq x
 have ty : ∀ x : AO,tidy σ.length [] (σ.set q x) = σ.set q x:=fun x=>by
  have:=st_tidy0 (σ.set q x) []
  rwa [List.length_set] at this
 have hx : u0 / 10 ^ (d - 5) < 10 ^ 5:=by
  rw [Nat.div_lt_iff_lt_mul (Nat.pow_pos (by decide)),← Nat.pow_add,show 5 + (d - 5) = d by omega]
  exact hd
 have fin : ∀ L : List AV,L = cs.take 1 ++ (ofBytes (pl 5 (u0 / 10 ^ (d - 5))) ++ (ofBytes (pl (d - 5) u0) ++ cs.drop (1 + d))) → L = nCells cs d 0 u0:=fun L hL=>by
  rw [hL]
  unfold nCells
  rw [Nat.sub_zero,show pl d u0 = pl (5 + (d - 5)) u0 from by rw [show 5 + (d - 5) = d by omega],pl_add]
  simp [ofBytes,pl]
 simp only [Int.cast_ofNat_Int,Int.natCast_zero,Int.natCast_one] at lp
 obtain ⟨x,hxx⟩ : ∃ x,u0 / 10 ^ (d - 5) = x:=⟨_,rfl⟩
 rw [hxx] at lp hx fin
 obtain ⟨R,hR⟩ : ∃ R,ofBytes (pl (d - 5) u0) ++ cs.drop (1 + d) = R:=⟨_,rfl⟩
 rw [hR] at fin
 obtain ⟨L0,hL0⟩ : ∃ L,nCells cs d 5 u0 = L:=⟨_,rfl⟩
 have e0 : L0.length = 24:=by rw [← hL0]; simp [nCells,ofBytes,pl_len,hcs]; omega
 have hL0' : L0 = cs.take 6 ++ R:=by rw [← hL0,← hR]; rfl
 rw [hL0] at lp
 have wx:=u32_wrap x (by omega)
 have sm:=smalls_at
 unfold smalls at sm
 have m1 : ∀ a : Nat,a < 100 → IntKind.u32.wrap ((a : Int) * 2) = ((a * 2 : Nat) : Int) ∧ IntKind.u32.wrap (((a * 2 : Nat) : Int) + 1) = ((a * 2 + 1 : Nat) : Int) ∧ (0 : Int) ≤ ((a * 2 : Nat) : Int) ∧ (0 : Int) ≤ ((a * 2 + 1 : Nat) : Int):=fun a ha=>⟨by have:=u32_wrap (a * 2) (by omega); rw [← this]; rfl,by have:=u32_wrap (a * 2 + 1) (by omega); rw [← this]; rfl,by omega,by omega⟩
 have k4 : (4 : Int) ≤ 5:=by decide
 obtain ⟨z,hz⟩ : ∃ z,x % 10000 = z:=⟨_,rfl⟩
 obtain ⟨a1,ha1⟩ : ∃ a,z / 100 = a:=⟨_,rfl⟩
 obtain ⟨a2,ha2⟩ : ∃ a,z % 100 = a:=⟨_,rfl⟩
 obtain ⟨x',hx'⟩ : ∃ a,x / 10000 = a:=⟨_,rfl⟩
 have p1 : (x : Int).tmod 10000 = (z : Int):=by rw [← hz]; rfl
 have p2 : (x : Int).tdiv 10000 = (x' : Int):=by rw [← hx']; rfl
 have p3 : (z : Int).tdiv 100 = (a1 : Int):=by rw [← ha1]; rfl
 have p4 : (z : Int).tmod 100 = (a2 : Int):=by rw [← ha2]; rfl
 have p5:=u32_wrap x' (by omega)
 have p6:=u32_wrap a1 (by omega)
 obtain ⟨x1,y1,z1,v1⟩:=m1 a1 (by omega)
 obtain ⟨s1,r1⟩:=sm a1 (by omega)
 obtain ⟨x2,y2,z2,v2⟩:=m1 a2 (by omega)
 obtain ⟨s2,r2⟩:=sm a2 (by omega)
 have j1 : IntKind.i64.wrap (5 - 1) = 4:=by decide
 have j2 : IntKind.i64.wrap (5 - 2) = 3:=by decide
 have j3 : IntKind.i64.wrap (5 - 3) = 2:=by decide
 have j4 : IntKind.i64.wrap (5 - 4) = 1:=by decide
 have k2 : ¬ (2 : Int) ≤ 1:=by decide
 have k1 : (0 : Int) < 1:=by decide
 have q1 : IntKind.u32.wrap (48 + (x' : Int)) = ((48 + x' : Nat) : Int):=by have:=u32_wrap (48 + x') (by omega); rw [← this]; rfl
 have q2 : IntKind.u8.wrap ((48 + x' : Nat) : Int) = ((dg x').toNat : Int):=by
  rw [u8_wrap _ (by omega)]
  unfold dg
  rw [UInt8.toNat_ofNat']
  omega
 obtain ⟨L1,hL1⟩ : ∃ L,splice L0 5 [.int .u8 (dg a2).toNat] = L:=⟨_,rfl⟩
 have e1 : L1.length = 24:=by rw [← hL1,splice_len _ _ _ (by omega),e0]
 have c0 : 5 + 1 ≤ 24:=by omega
 have g0 : (0 : Int) ≤ 4:=by decide
 have l0 : 4 < d:=by omega
 obtain ⟨L2,hL2⟩ : ∃ L,splice L1 4 [.int .u8 (dg (a2 / 10)).toNat] = L:=⟨_,rfl⟩
 have e2 : L2.length = 24:=by rw [← hL2,splice_len _ _ _ (by omega),e1]
 have c1 : 4 + 1 ≤ 24:=by omega
 have g1 : (0 : Int) ≤ 3:=by decide
 have l1 : 3 < d:=by omega
 obtain ⟨L3,hL3⟩ : ∃ L,splice L2 3 [.int .u8 (dg a1).toNat] = L:=⟨_,rfl⟩
 have e3 : L3.length = 24:=by rw [← hL3,splice_len _ _ _ (by omega),e2]
 have c2 : 3 + 1 ≤ 24:=by omega
 have g2 : (0 : Int) ≤ 2:=by decide
 have l2 : 2 < d:=by omega
 obtain ⟨L4,hL4⟩ : ∃ L,splice L3 2 [.int .u8 (dg (a1 / 10)).toNat] = L:=⟨_,rfl⟩
 have e4 : L4.length = 24:=by rw [← hL4,splice_len _ _ _ (by omega),e3]
 have c3 : 2 + 1 ≤ 24:=by omega
 have g3 : (0 : Int) ≤ 1:=by decide
 have l3 : 1 < d:=by omega
 obtain ⟨L5,hL5⟩ : ∃ L,splice L4 1 [.int .u8 (dg x').toNat] = L:=⟨_,rfl⟩
 have e5 : L5.length = 24:=by rw [← hL5,splice_len _ _ _ (by omega),e4]
 have c4 : 1 + 1 ≤ 24:=by omega
 have g4 : (0 : Int) ≤ 0:=by decide
 have l4 : 0 < d:=by omega
 have fin:=fin L5 (by
  rw [← hL5,← hL4,← hL3,← hL2,← hL1,hL0',put1 _ _ _ _ (by omega),put1 _ _ _ _ (by omega),put1 _ _ _ _ (by omega),put1 _ _ _ _ (by omega),put1 _ _ _ _ (by omega)]
  simp only [pl,ofBytes,List.nil_append,List.cons_append,List.map_cons,List.map_nil]
  rw [show dg (x / 10 / 10 / 10 / 10) = dg x' from dg_eq (by omega),show dg (x / 10 / 10 / 10) = dg (a1 / 10) from dg_eq (by omega),show dg (x / 10 / 10) = dg a1 from dg_eq (by omega),show dg (x / 10) = dg (a2 / 10) from dg_eq (by omega),show dg (x) = dg a2 from dg_eq (by omega)])
 rw [← fin]
 rw [hC.go (by simp [K_internal_strconv_formatBase10])]
 simp only [K_internal_strconv_formatBase10,lp,gs,ty,wx,k4,p1,p2,p3,p4,p5,p6,x1,y1,z1,v1,s1,r1,x2,y2,z2,v2,s2,r2,j1,j2,j3,j4,k2,k1,q1,q2,e0,c0,hL1,g0,l0,e1,c1,hL2,g1,l1,e2,c2,hL3,g2,l2,e3,c3,hL4,g3,l3,e4,c4,hL5,g4,l4,e5,endQ_normal,resL,tupleOf,Int.toNat_natCast,List.set_set,AV.cells,AV.flat,EVC,EVD,EVB,Nat.reduceEqDiff,eqOp,eqA,eqNil,lenA,asNat,optNat,pt,tupleOf,Nat.reduceSub,Nat.reduceGT,Nat.reduceLT,hand,norms,normVs,normV,freeze,reduceIte,reduceCtorEq,srcCells,slCells,isStr,fillA,rep,asObj,outSl,Nat.reduceMul,Nat.reduceLeDiff,Int.reduceToNat,Int.reduceLE,Int.reduceLT,Int.reduceEq,Nat.reduceAdd,Int.reduceBNe,Int.reduceBEq,Int.reduceNeg]
theorem fb10_6 (hC : HasR C f_internal_strconv_formatBase10 K_internal_strconv_formatBase10) (cs : List AV) (hcs : cs.length = 24) (d u0 : Nat) (hd : u0 < 10 ^ d) (hd20 : d ≤ 20) (hu : u0 < 18446744073709551616) (hi : d % 8 = 6) (σ : St) (q : Nat) (hq : σ[q]? = some (.cells cs ⟨false,none⟩)) :
  semF C f_internal_strconv_formatBase10 [.msl q 1 d 1,.int .u64 u0] σ = some (.tup [],σ.set q (.cells (nCells cs d 0 u0) ⟨false,none⟩)):=by
 have hid : 6 ≤ d:=by omega
 have n0 : nCells cs d d u0 = cs:=by simp [nCells,pl,ofBytes]
 have lp:=fb_loop (C:=C) cs hcs d u0 hd20 hu σ q (by rw [n0]; exact hq) (d / 8) d (Nat.le_refl _) rfl
 rw [n0,set_self hq,Nat.sub_self,Nat.pow_zero,Nat.div_one,hi] at lp
 have gs : ∀ (x : AO),(σ.set q x)[q]? = some x:=fun x=>set_get hq x
 have ty : ∀ x : AO,tidy σ.length [] (σ.set q x) = σ.set q x:=fun x=>by
  have:=st_tidy0 (σ.set q x) []
  rwa [List.length_set] at this
 have hx : u0 / 10 ^ (d - 6) < 10 ^ 6:=by
  rw [Nat.div_lt_iff_lt_mul (Nat.pow_pos (by decide)),← Nat.pow_add,show 6 + (d - 6) = d by omega]
  exact hd
 have fin : ∀ L : List AV,L = cs.take 1 ++ (ofBytes (pl 6 (u0 / 10 ^ (d - 6))) ++ (ofBytes (pl (d - 6) u0) ++ cs.drop (1 + d))) → L = nCells cs d 0 u0:=fun L hL=>by
  rw [hL]
  unfold nCells
  rw [Nat.sub_zero,show pl d u0 = pl (6 + (d - 6)) u0 from by rw [show 6 + (d - 6) = d by omega],pl_add]
  simp [ofBytes,pl]
 simp only [Int.cast_ofNat_Int,Int.natCast_zero,Int.natCast_one] at lp
 obtain ⟨x,hxx⟩ : ∃ x,u0 / 10 ^ (d - 6) = x:=⟨_,rfl⟩
 rw [hxx] at lp hx fin
 obtain ⟨R,hR⟩ : ∃ R,ofBytes (pl (d - 6) u0) ++ cs.drop (1 + d) = R:=⟨_,rfl⟩
 rw [hR] at fin
 obtain ⟨L0,hL0⟩ : ∃ L,nCells cs d 6 u0 = L:=⟨_,rfl⟩
 have e0 : L0.length = 24:=by rw [← hL0]; simp [nCells,ofBytes,pl_len,hcs]; omega
 have hL0' : L0 = cs.take 7 ++ R:=by rw [← hL0,← hR]; rfl
 rw [hL0] at lp
 have wx:=u32_wrap x (by omega)
 have sm:=smalls_at
 unfold smalls at sm
 have m1 : ∀ a : Nat,a < 100 → IntKind.u32.wrap ((a : Int) * 2) = ((a * 2 : Nat) : Int) ∧ IntKind.u32.wrap (((a * 2 : Nat) : Int) + 1) = ((a * 2 + 1 : Nat) : Int) ∧ (0 : Int) ≤ ((a * 2 : Nat) : Int) ∧ (0 : Int) ≤ ((a * 2 + 1 : Nat) : Int):=fun a ha=>⟨by have:=u32_wrap (a * 2) (by omega); rw [← this]; rfl,by have:=u32_wrap (a * 2 + 1) (by omega); rw [← this]; rfl,by omega,by omega⟩
 have k4 : (4 : Int) ≤ 6:=by decide
 obtain ⟨z,hz⟩ : ∃ z,x % 10000 = z:=⟨_,rfl⟩
 obtain ⟨a1,ha1⟩ : ∃ a,z / 100 = a:=⟨_,rfl⟩
 obtain ⟨a2,ha2⟩ : ∃ a,z % 100 = a:=⟨_,rfl⟩
 obtain ⟨x',hx'⟩ : ∃ a,x / 10000 = a:=⟨_,rfl⟩
 have p1 : (x : Int).tmod 10000 = (z : Int):=by rw [← hz]; rfl
 have p2 : (x : Int).tdiv 10000 = (x' : Int):=by rw [← hx']; rfl
 have p3 : (z : Int).tdiv 100 = (a1 : Int):=by rw [← ha1]; rfl
 have p4 : (z : Int).tmod 100 = (a2 : Int):=by rw [← ha2]; rfl
 have p5:=u32_wrap x' (by omega)
 have p6:=u32_wrap a1 (by omega)
 obtain ⟨x1,y1,z1,v1⟩:=m1 a1 (by omega)
 obtain ⟨s1,r1⟩:=sm a1 (by omega)
 obtain ⟨x2,y2,z2,v2⟩:=m1 a2 (by omega)
 obtain ⟨s2,r2⟩:=sm a2 (by omega)
 have j1 : IntKind.i64.wrap (6 - 1) = 5:=by decide
 have j2 : IntKind.i64.wrap (6 - 2) = 4:=by decide
 have j3 : IntKind.i64.wrap (6 - 3) = 3:=by decide
 have j4 : IntKind.i64.wrap (6 - 4) = 2:=by decide
 have k2 : (2 : Int) ≤ 2:=by decide
 obtain ⟨b,hb⟩ : ∃ a,x' % 100 = a:=⟨_,rfl⟩
 obtain ⟨x2',hx2'⟩ : ∃ a,x' / 100 = a:=⟨_,rfl⟩
 have b1 : (x' : Int).tmod 100 = (b : Int):=by rw [← hb]; rfl
 have b2 : (x' : Int).tdiv 100 = (x2' : Int):=by rw [← hx2']; rfl
 have b3:=u32_wrap x2' (by omega)
 obtain ⟨xb,yb,zb,vb⟩:=m1 b (by omega)
 obtain ⟨sb,rb⟩:=sm b (by omega)
 have jb1 : IntKind.i64.wrap (2 - 1) = 1:=by decide
 have jb2 : IntKind.i64.wrap (2 - 2) = 0:=by decide
 have k1 : ¬ (0 : Int) < 0:=by decide
 obtain ⟨L1,hL1⟩ : ∃ L,splice L0 6 [.int .u8 (dg a2).toNat] = L:=⟨_,rfl⟩
 have e1 : L1.length = 24:=by rw [← hL1,splice_len _ _ _ (by omega),e0]
 have c0 : 6 + 1 ≤ 24:=by omega
 have g0 : (0 : Int) ≤ 5:=by decide
 have l0 : 5 < d:=by omega
 obtain ⟨L2,hL2⟩ : ∃ L,splice L1 5 [.int .u8 (dg (a2 / 10)).toNat] = L:=⟨_,rfl⟩
 have e2 : L2.length = 24:=by rw [← hL2,splice_len _ _ _ (by omega),e1]
 have c1 : 5 + 1 ≤ 24:=by omega
 have g1 : (0 : Int) ≤ 4:=by decide
 have l1 : 4 < d:=by omega
 obtain ⟨L3,hL3⟩ : ∃ L,splice L2 4 [.int .u8 (dg a1).toNat] = L:=⟨_,rfl⟩
 have e3 : L3.length = 24:=by rw [← hL3,splice_len _ _ _ (by omega),e2]
 have c2 : 4 + 1 ≤ 24:=by omega
 have g2 : (0 : Int) ≤ 3:=by decide
 have l2 : 3 < d:=by omega
 obtain ⟨L4,hL4⟩ : ∃ L,splice L3 3 [.int .u8 (dg (a1 / 10)).toNat] = L:=⟨_,rfl⟩
 have e4 : L4.length = 24:=by rw [← hL4,splice_len _ _ _ (by omega),e3]
 have c3 : 3 + 1 ≤ 24:=by omega
 have g3 : (0 : Int) ≤ 2:=by decide
 have l3 : 2 < d:=by omega
 obtain ⟨L5,hL5⟩ : ∃ L,splice L4 2 [.int .u8 (dg b).toNat] = L:=⟨_,rfl⟩
 have e5 : L5.length = 24:=by rw [← hL5,splice_len _ _ _ (by omega),e4]
 have c4 : 2 + 1 ≤ 24:=by omega
 have g4 : (0 : Int) ≤ 1:=by decide
 have l4 : 1 < d:=by omega
 obtain ⟨L6,hL6⟩ : ∃ L,splice L5 1 [.int .u8 (dg (b / 10)).toNat] = L:=⟨_,rfl⟩
 have e6 : L6.length = 24:=by rw [← hL6,splice_len _ _ _ (by omega),e5]
 have c5 : 1 + 1 ≤ 24:=by omega
 have g5 : (0 : Int) ≤ 0:=by decide
 have l5 : 0 < d:=by omega
 have fin:=fin L6 (by
  rw [← hL6,← hL5,← hL4,← hL3,← hL2,← hL1,hL0',put1 _ _ _ _ (by omega),put1 _ _ _ _ (by omega),put1 _ _ _ _ (by omega),put1 _ _ _ _ (by omega),put1 _ _ _ _ (by omega),put1 _ _ _ _ (by omega)]
  simp only [pl,ofBytes,List.nil_append,List.cons_append,List.map_cons,List.map_nil]
  rw [show dg (x / 10 / 10 / 10 / 10 / 10) = dg (b / 10) from dg_eq (by omega),show dg (x / 10 / 10 / 10 / 10) = dg b from dg_eq (by omega),show dg (x / 10 / 10 / 10) = dg (a1 / 10) from dg_eq (by omega),show dg (x / 10 / 10) = dg a1 from dg_eq (by omega),show dg (x / 10) = dg (a2 / 10) from dg_eq (by omega),show dg (x) = dg a2 from dg_eq (by omega)])
 rw [← fin]
 rw [hC.go (by simp [K_internal_strconv_formatBase10])]
 simp only [K_internal_strconv_formatBase10,lp,gs,ty,wx,k4,p1,p2,p3,p4,p5,p6,x1,y1,z1,v1,s1,r1,x2,y2,z2,v2,s2,r2,j1,j2,j3,j4,k2,b1,b2,b3,xb,yb,zb,vb,sb,rb,jb1,jb2,k1,e0,c0,hL1,g0,l0,e1,c1,hL2,g1,l1,e2,c2,hL3,g2,l2,e3,c3,hL4,g3,l3,e4,c4,hL5,g4,l4,e5,c5,hL6,g5,l5,e6,endQ_normal,resL,tupleOf,Int.toNat_natCast,List.set_set,AV.cells,AV.flat,EVC,EVD,EVB,Nat.reduceEqDiff,eqOp,eqA,eqNil,lenA,asNat,optNat,pt,tupleOf,Nat.reduceSub,Nat.reduceGT,Nat.reduceLT,hand,norms,normVs,normV,freeze,reduceIte,reduceCtorEq,srcCells,slCells,isStr,fillA,rep,asObj,outSl,Nat.reduceMul,Nat.reduceLeDiff,Int.reduceToNat,Int.reduceLE,Int.reduceLT,Int.reduceEq,Nat.reduceAdd,Int.reduceBNe,Int.reduceBEq,Int.reduceNeg]
theorem fb10_7 (hC : HasR C f_internal_strconv_formatBase10 K_internal_strconv_formatBase10) (cs : List AV) (hcs : cs.length = 24) (d u0 : Nat) (hd : u0 < 10 ^ d) (hd20 : d ≤ 20) (hu : u0 < 18446744073709551616) (hi : d % 8 = 7) (σ : St) (q : Nat) (hq : σ[q]? = some (.cells cs ⟨false,none⟩)) :
  semF C f_internal_strconv_formatBase10 [.msl q 1 d 1,.int .u64 u0] σ = some (.tup [],σ.set q (.cells (nCells cs d 0 u0) ⟨false,none⟩)):=by
 have hid : 7 ≤ d:=by omega
 have n0 : nCells cs d d u0 = cs:=by simp [nCells,pl,ofBytes]
 have lp:=fb_loop (C:=C) cs hcs d u0 hd20 hu σ q (by rw [n0]; exact hq) (d / 8) d (Nat.le_refl _) rfl
 rw [n0,set_self hq,Nat.sub_self,Nat.pow_zero,Nat.div_one,hi] at lp
 have gs : ∀ (x : AO),(σ.set q x)[q]? = some x:=fun x=>set_get hq x
 have ty : ∀ x : AO,tidy σ.length [] (σ.set q x) = σ.set q x:=fun x=>by
  have:=st_tidy0 (σ.set q x) []
  rwa [List.length_set] at this
 have hx : u0 / 10 ^ (d - 7) < 10 ^ 7:=by
  rw [Nat.div_lt_iff_lt_mul (Nat.pow_pos (by decide)),← Nat.pow_add,show 7 + (d - 7) = d by omega]
  exact hd
 have fin : ∀ L : List AV,L = cs.take 1 ++ (ofBytes (pl 7 (u0 / 10 ^ (d - 7))) ++ (ofBytes (pl (d - 7) u0) ++ cs.drop (1 + d))) → L = nCells cs d 0 u0:=fun L hL=>by
  rw [hL]
  unfold nCells
  rw [Nat.sub_zero,show pl d u0 = pl (7 + (d - 7)) u0 from by rw [show 7 + (d - 7) = d by omega],pl_add]
  simp [ofBytes,pl]
 simp only [Int.cast_ofNat_Int,Int.natCast_zero,Int.natCast_one] at lp
 obtain ⟨x,hxx⟩ : ∃ x,u0 / 10 ^ (d - 7) = x:=⟨_,rfl⟩
 rw [hxx] at lp hx fin
 obtain ⟨R,hR⟩ : ∃ R,ofBytes (pl (d - 7) u0) ++ cs.drop (1 + d) = R:=⟨_,rfl⟩
 rw [hR] at fin
 obtain ⟨L0,hL0⟩ : ∃ L,nCells cs d 7 u0 = L:=⟨_,rfl⟩
 have e0 : L0.length = 24:=by rw [← hL0]; simp [nCells,ofBytes,pl_len,hcs]; omega
 have hL0' : L0 = cs.take 8 ++ R:=by rw [← hL0,← hR]; rfl
 rw [hL0] at lp
 have wx:=u32_wrap x (by omega)
 have sm:=smalls_at
 unfold smalls at sm
 have m1 : ∀ a : Nat,a < 100 → IntKind.u32.wrap ((a : Int) * 2) = ((a * 2 : Nat) : Int) ∧ IntKind.u32.wrap (((a * 2 : Nat) : Int) + 1) = ((a * 2 + 1 : Nat) : Int) ∧ (0 : Int) ≤ ((a * 2 : Nat) : Int) ∧ (0 : Int) ≤ ((a * 2 + 1 : Nat) : Int):=fun a ha=>⟨by have:=u32_wrap (a * 2) (by omega); rw [← this]; rfl,by have:=u32_wrap (a * 2 + 1) (by omega); rw [← this]; rfl,by omega,by omega⟩
 have k4 : (4 : Int) ≤ 7:=by decide
 obtain ⟨z,hz⟩ : ∃ z,x % 10000 = z:=⟨_,rfl⟩
 obtain ⟨a1,ha1⟩ : ∃ a,z / 100 = a:=⟨_,rfl⟩
 obtain ⟨a2,ha2⟩ : ∃ a,z % 100 = a:=⟨_,rfl⟩
 obtain ⟨x',hx'⟩ : ∃ a,x / 10000 = a:=⟨_,rfl⟩
 have p1 : (x : Int).tmod 10000 = (z : Int):=by rw [← hz]; rfl
 have p2 : (x : Int).tdiv 10000 = (x' : Int):=by rw [← hx']; rfl
 have p3 : (z : Int).tdiv 100 = (a1 : Int):=by rw [← ha1]; rfl
 have p4 : (z : Int).tmod 100 = (a2 : Int):=by rw [← ha2]; rfl
 have p5:=u32_wrap x' (by omega)
 have p6:=u32_wrap a1 (by omega)
 obtain ⟨x1,y1,z1,v1⟩:=m1 a1 (by omega)
 obtain ⟨s1,r1⟩:=sm a1 (by omega)
 obtain ⟨x2,y2,z2,v2⟩:=m1 a2 (by omega)
 obtain ⟨s2,r2⟩:=sm a2 (by omega)
 have j1 : IntKind.i64.wrap (7 - 1) = 6:=by decide
 have j2 : IntKind.i64.wrap (7 - 2) = 5:=by decide
 have j3 : IntKind.i64.wrap (7 - 3) = 4:=by decide
 have j4 : IntKind.i64.wrap (7 - 4) = 3:=by decide
 have k2 : (2 : Int) ≤ 3:=by decide
 obtain ⟨b,hb⟩ : ∃ a,x' % 100 = a:=⟨_,rfl⟩
 obtain ⟨x2',hx2'⟩ : ∃ a,x' / 100 = a:=⟨_,rfl⟩
 have b1 : (x' : Int).tmod 100 = (b : Int):=by rw [← hb]; rfl
 have b2 : (x' : Int).tdiv 100 = (x2' : Int):=by rw [← hx2']; rfl
 have b3:=u32_wrap x2' (by omega)
 obtain ⟨xb,yb,zb,vb⟩:=m1 b (by omega)
 obtain ⟨sb,rb⟩:=sm b (by omega)
 have jb1 : IntKind.i64.wrap (3 - 1) = 2:=by decide
 have jb2 : IntKind.i64.wrap (3 - 2) = 1:=by decide
 have k1 : (0 : Int) < 1:=by decide
 have q1 : IntKind.u32.wrap (48 + (x2' : Int)) = ((48 + x2' : Nat) : Int):=by have:=u32_wrap (48 + x2') (by omega); rw [← this]; rfl
 have q2 : IntKind.u8.wrap ((48 + x2' : Nat) : Int) = ((dg x2').toNat : Int):=by
  rw [u8_wrap _ (by omega)]
  unfold dg
  rw [UInt8.toNat_ofNat']
  omega
 obtain ⟨L1,hL1⟩ : ∃ L,splice L0 7 [.int .u8 (dg a2).toNat] = L:=⟨_,rfl⟩
 have e1 : L1.length = 24:=by rw [← hL1,splice_len _ _ _ (by omega),e0]
 have c0 : 7 + 1 ≤ 24:=by omega
 have g0 : (0 : Int) ≤ 6:=by decide
 have l0 : 6 < d:=by omega
 obtain ⟨L2,hL2⟩ : ∃ L,splice L1 6 [.int .u8 (dg (a2 / 10)).toNat] = L:=⟨_,rfl⟩
 have e2 : L2.length = 24:=by rw [← hL2,splice_len _ _ _ (by omega),e1]
 have c1 : 6 + 1 ≤ 24:=by omega
 have g1 : (0 : Int) ≤ 5:=by decide
 have l1 : 5 < d:=by omega
 obtain ⟨L3,hL3⟩ : ∃ L,splice L2 5 [.int .u8 (dg a1).toNat] = L:=⟨_,rfl⟩
 have e3 : L3.length = 24:=by rw [← hL3,splice_len _ _ _ (by omega),e2]
 have c2 : 5 + 1 ≤ 24:=by omega
 have g2 : (0 : Int) ≤ 4:=by decide
 have l2 : 4 < d:=by omega
 obtain ⟨L4,hL4⟩ : ∃ L,splice L3 4 [.int .u8 (dg (a1 / 10)).toNat] = L:=⟨_,rfl⟩
 have e4 : L4.length = 24:=by rw [← hL4,splice_len _ _ _ (by omega),e3]
 have c3 : 4 + 1 ≤ 24:=by omega
 have g3 : (0 : Int) ≤ 3:=by decide
 have l3 : 3 < d:=by omega
 obtain ⟨L5,hL5⟩ : ∃ L,splice L4 3 [.int .u8 (dg b).toNat] = L:=⟨_,rfl⟩
 have e5 : L5.length = 24:=by rw [← hL5,splice_len _ _ _ (by omega),e4]
 have c4 : 3 + 1 ≤ 24:=by omega
 have g4 : (0 : Int) ≤ 2:=by decide
 have l4 : 2 < d:=by omega
 obtain ⟨L6,hL6⟩ : ∃ L,splice L5 2 [.int .u8 (dg (b / 10)).toNat] = L:=⟨_,rfl⟩
 have e6 : L6.length = 24:=by rw [← hL6,splice_len _ _ _ (by omega),e5]
 have c5 : 2 + 1 ≤ 24:=by omega
 have g5 : (0 : Int) ≤ 1:=by decide
 have l5 : 1 < d:=by omega
 obtain ⟨L7,hL7⟩ : ∃ L,splice L6 1 [.int .u8 (dg x2').toNat] = L:=⟨_,rfl⟩
 have e7 : L7.length = 24:=by rw [← hL7,splice_len _ _ _ (by omega),e6]
 have c6 : 1 + 1 ≤ 24:=by omega
 have g6 : (0 : Int) ≤ 0:=by decide
 have l6 : 0 < d:=by omega
 have fin:=fin L7 (by
  rw [← hL7,← hL6,← hL5,← hL4,← hL3,← hL2,← hL1,hL0',put1 _ _ _ _ (by omega),put1 _ _ _ _ (by omega),put1 _ _ _ _ (by omega),put1 _ _ _ _ (by omega),put1 _ _ _ _ (by omega),put1 _ _ _ _ (by omega),put1 _ _ _ _ (by omega)]
  simp only [pl,ofBytes,List.nil_append,List.cons_append,List.map_cons,List.map_nil]
  rw [show dg (x / 10 / 10 / 10 / 10 / 10 / 10) = dg x2' from dg_eq (by omega),show dg (x / 10 / 10 / 10 / 10 / 10) = dg (b / 10) from dg_eq (by omega),show dg (x / 10 / 10 / 10 / 10) = dg b from dg_eq (by omega),show dg (x / 10 / 10 / 10) = dg (a1 / 10) from dg_eq (by omega),show dg (x / 10 / 10) = dg a1 from dg_eq (by omega),show dg (x / 10) = dg (a2 / 10) from dg_eq (by omega),show dg (x) = dg a2 from dg_eq (by omega)])
 rw [← fin]
 rw [hC.go (by simp [K_internal_strconv_formatBase10])]
 simp only [K_internal_strconv_formatBase10,lp,gs,ty,wx,k4,p1,p2,p3,p4,p5,p6,x1,y1,z1,v1,s1,r1,x2,y2,z2,v2,s2,r2,j1,j2,j3,j4,k2,b1,b2,b3,xb,yb,zb,vb,sb,rb,jb1,jb2,k1,q1,q2,e0,c0,hL1,g0,l0,e1,c1,hL2,g1,l1,e2,c2,hL3,g2,l2,e3,c3,hL4,g3,l3,e4,c4,hL5,g4,l4,e5,c5,hL6,g5,l5,e6,c6,hL7,g6,l6,e7,endQ_normal,resL,tupleOf,Int.toNat_natCast,List.set_set,AV.cells,AV.flat,EVC,EVD,EVB,Nat.reduceEqDiff,eqOp,eqA,eqNil,lenA,asNat,optNat,pt,tupleOf,Nat.reduceSub,Nat.reduceGT,Nat.reduceLT,hand,norms,normVs,normV,freeze,reduceIte,reduceCtorEq,srcCells,slCells,isStr,fillA,rep,asObj,outSl,Nat.reduceMul,Nat.reduceLeDiff,Int.reduceToNat,Int.reduceLE,Int.reduceLT,Int.reduceEq,Nat.reduceAdd,Int.reduceBNe,Int.reduceBEq,Int.reduceNeg]
end Go.Ev
namespace Go.Ev
set_option maxRecDepth 100000
set_option linter.unusedSimpArgs false
set_option linter.unusedVariables false
variable {C : Ctx}
def ndF : Nat → Nat → Nat
 | 0,_=>1
 | k + 1,u=>if u < 10 then 1 else ndF k (u / 10) + 1
def nd (u : Nat) : Nat:=ndF 20 u
theorem ndF_is : ∀ (k d u : Nat),DigN d u → d ≤ k + 1 → ndF k u = d
 | 0,d,u,h,hk=>by
   obtain ⟨h1,h2,h3⟩:=h
   show 1 = d
   omega
 | k + 1,d,u,h,hk=>by
   obtain ⟨h1,h2,h3⟩:=h
   unfold ndF
   by_cases c : u < 10
   ·rw [if_pos c]
    rcases h3 with h3 | h3
    ·exact h3.symm
    ·cases d with
     | zero=>omega
     | succ d=>
       cases d with
       | zero=>rfl
       | succ d=>
         have : 10 ^ 1 ≤ 10 ^ (d + 1):=Nat.pow_le_pow_right (by decide) (by omega)
         have e : d + 1 + 1 - 1 = d + 1:=by omega
         rw [e] at h3
         omega
   ·rw [if_neg c]
    cases d with
    | zero=>omega
    | succ d=>
      have hd0 : d ≠ 0:=fun e=>by subst e; simp at h2; omega
      rw [ndF_is k d (u / 10) ⟨by omega,by rw [Nat.pow_succ] at h2; omega,?_⟩ (by omega)]
      rcases h3 with h3 | h3
      ·omega
      ·by_cases e : d = 1
       ·exact .inl e
       ·refine .inr ?_
        obtain ⟨m,rfl⟩ : ∃ m,d = m + 1:=⟨d - 1,by omega⟩
        have e2 : m + 1 + 1 - 1 = m + 1:=by omega
        rw [e2,Nat.pow_succ] at h3
        show 10 ^ m ≤ u / 10
        omega
theorem nd_is {d u : Nat} (h : DigN d u) (hd : d ≤ 20) : nd u = d:=ndF_is 20 d u h (by omega)
def dec (n : Int) : List UInt8:=if n < 0 then 45 :: pl (nd n.natAbs) n.natAbs else pl (nd n.natAbs) n.natAbs
theorem fb10 (hC : HasR C f_internal_strconv_formatBase10 K_internal_strconv_formatBase10) (cs : List AV) (hcs : cs.length = 24) (d u0 : Nat) (hd : u0 < 10 ^ d) (hd20 : d ≤ 20) (hu : u0 < 18446744073709551616) (σ : St) (q : Nat) (hq : σ[q]? = some (.cells cs ⟨false,none⟩)) :
  semF C f_internal_strconv_formatBase10 [.msl q 1 d 1,.int .u64 u0] σ = some (.tup [],σ.set q (.cells (nCells cs d 0 u0) ⟨false,none⟩)):=by
 have h : d % 8 < 8:=Nat.mod_lt _ (by decide)
 match hi : d % 8,h with
 | 0,_=>exact fb10_0 hC cs hcs d u0 hd hd20 hu hi σ q hq
 | 1,_=>exact fb10_1 hC cs hcs d u0 hd hd20 hu hi σ q hq
 | 2,_=>exact fb10_2 hC cs hcs d u0 hd hd20 hu hi σ q hq
 | 3,_=>exact fb10_3 hC cs hcs d u0 hd hd20 hu hi σ q hq
 | 4,_=>exact fb10_4 hC cs hcs d u0 hd hd20 hu hi σ q hq
 | 5,_=>exact fb10_5 hC cs hcs d u0 hd hd20 hu hi σ q hq
 | 6,_=>exact fb10_6 hC cs hcs d u0 hd hd20 hu hi σ q hq
 | 7,_=>exact fb10_7 hC cs hcs d u0 hd hd20 hu hi σ q hq
 | n + 8,h=>omega
structure FmtHas (C : Ctx) : Prop extends NdHas C where
 fb : HasR C f_internal_strconv_formatBase10 K_internal_strconv_formatBase10
 small : Has C f_internal_strconv_small K_internal_strconv_small
 int : Has C f_internal_strconv_FormatInt K_internal_strconv_FormatInt
 fmt : Has C f_strconv_FormatInt K_strconv_FormatInt
 show_ : Has C f_num_Show K_num_Show
theorem small_all : (List.range 100).all (fun y=>(if y < 10 then ((([48,49,50,51,52,53,54,55,56,57,97,98,99,100,101,102,103,104,105,106,107,108,109,110,111,112,113,114,115,116,117,118,119,120,121,122] : List UInt8).take (y + 1)).drop y) else ((smalls.take (y * 2 + 2)).drop (y * 2))) == pl (nd y) y) = true:=by decide +kernel
theorem small_is (H : FmtHas C) (y : Nat) (hy : y < 100) (σ : St) : semF C f_internal_strconv_small [.int .i64 y] σ = some (.str (pl (nd y) y),σ):=by
 have t:=small_all
 rw [List.all_eq_true] at t
 have t:=t y (List.mem_range.mpr hy)
 rw [beq_iff_eq] at t
 rw [H.small.go (NVs.hand (.cons (.int _ _) .nil) _) (by simp [K_internal_strconv_small])]
 rw [← t]
 have h0 : (0 : Int) ≤ (y : Int):=by omega
 have w1 : IntKind.i64.wrap ((y : Int) + 1) = ((y + 1 : Nat) : Int):=by rw [w64] <;> omega
 have w2 : IntKind.i64.wrap ((y : Int) * 2) = ((y * 2 : Nat) : Int):=by rw [w64] <;> omega
 have w3 : IntKind.i64.wrap (((y * 2 : Nat) : Int) + 2) = ((y * 2 + 2 : Nat) : Int):=by rw [w64] <;> omega
 by_cases c : y < 10
 ·have c' : (y : Int) < 10:=by omega
  have l1 : (0 : Int) ≤ ((y + 1 : Nat) : Int):=by omega
  have l2 : y ≤ y + 1:=by omega
  have l3 : y + 1 ≤ 36:=by omega
  rw [if_pos c]
  simp only [K_internal_strconv_small,c',h0,w1,l1,l2,l3,Int.toNat_natCast,EVC,EVD,EVB,Nat.reduceEqDiff,eqOp,eqA,eqNil,lenA,asNat,optNat,pt,tupleOf,Nat.reduceSub,Nat.reduceGT,Nat.reduceLT,hand,norms,normVs,normV,freeze,reduceIte,reduceCtorEq,srcCells,slCells,isStr,fillA,rep,asObj,outSl,Nat.reduceMul,Nat.reduceLeDiff,Int.reduceToNat,Int.reduceLE,Int.reduceLT,Int.reduceEq,Nat.reduceAdd,Int.reduceBNe,Int.reduceBEq,Int.reduceNeg]
 ·have c' : ¬ (y : Int) < 10:=by omega
  have l1 : (0 : Int) ≤ ((y * 2 : Nat) : Int):=by omega
  have l2 : (0 : Int) ≤ ((y * 2 + 2 : Nat) : Int):=by omega
  have l3 : y * 2 ≤ y * 2 + 2:=by omega
  have l4 : y * 2 + 2 ≤ 200:=by omega
  rw [if_neg c]
  unfold smalls
  simp only [K_internal_strconv_small,c',h0,w2,w3,l1,l2,l3,l4,Int.toNat_natCast,EVC,EVD,EVB,Nat.reduceEqDiff,eqOp,eqA,eqNil,lenA,asNat,optNat,pt,tupleOf,Nat.reduceSub,Nat.reduceGT,Nat.reduceLT,hand,norms,normVs,normV,freeze,reduceIte,reduceCtorEq,srcCells,slCells,isStr,fillA,rep,asObj,outSl,Nat.reduceMul,Nat.reduceLeDiff,Int.reduceToNat,Int.reduceLE,Int.reduceLT,Int.reduceEq,Nat.reduceAdd,Int.reduceBNe,Int.reduceBEq,Int.reduceNeg]
end Go.Ev
namespace Go.Ev
set_option maxRecDepth 100000
set_option linter.unusedSimpArgs false
set_option linter.unusedVariables false
variable {C : Ctx}
def z24 : List AV:=List.replicate 24 (.int .u8 0)
theorem formatInt (H : FmtHas C) (n : Int) (h1 : -9223372036854775808 ≤ n) (h2 : n ≤ 9223372036854775807) (σ : St) (hσ : Ok σ) : semF C f_internal_strconv_FormatInt [.int .i64 n,.int .i64 10] σ = some (.str (dec n),σ):=by
 rw [H.int.go (NVs.hand (.cons (.int _ _) (.cons (.int _ _) .nil)) _) (by simp [K_internal_strconv_FormatInt])]
 by_cases c : 0 ≤ n ∧ n < 100
 ·obtain ⟨y,rfl⟩ : ∃ y : Nat,n = y:=⟨n.toNat,by omega⟩
  have c1 : (0 : Int) ≤ (y : Int):=by omega
  have c2 : (y : Int) < 100:=c.2
  have q:=small_is H y (by omega) σ
  have hd : dec (y : Int) = pl (nd y) y:=by
   unfold dec
   rw [if_neg (by omega)]; rfl
  rw [hd]
  simp only [K_internal_strconv_FormatInt,c1,c2,q,EVC,EVD,EVB,Nat.reduceEqDiff,eqOp,eqA,eqNil,lenA,asNat,optNat,pt,tupleOf,Nat.reduceSub,Nat.reduceGT,Nat.reduceLT,hand,norms,normVs,normV,freeze,reduceIte,reduceCtorEq,srcCells,slCells,isStr,fillA,rep,asObj,outSl,Nat.reduceMul,Nat.reduceLeDiff,Int.reduceToNat,Int.reduceLE,Int.reduceLT,Int.reduceEq,Nat.reduceAdd,Int.reduceBNe,Int.reduceBEq,Int.reduceNeg]
 ·obtain ⟨u,hu⟩ : ∃ u,n.natAbs = u:=⟨_,rfl⟩
  have hu0 : 0 < u:=by omega
  have hu1 : u < 18446744073709551616:=by omega
  obtain ⟨d,d1,d2,q1⟩:=numDigits H.toNdHas u hu0 hu1
  have hnd:=nd_is d1 d2
  have hz : (z24).length = 24:=rfl
  have q2:=fb10 H.fb z24 hz d u d1.2.1 d2 hu1 (σ ++ [.cells z24 ⟨false,none⟩]) σ.length (by rw [st_get0]; rfl)
  rw [st_set0] at q2
  have zz : z24 = [.int .u8 0,.int .u8 0,.int .u8 0,.int .u8 0,.int .u8 0,.int .u8 0,.int .u8 0,.int .u8 0,.int .u8 0,.int .u8 0,.int .u8 0,.int .u8 0,.int .u8 0,.int .u8 0,.int .u8 0,.int .u8 0,.int .u8 0,.int .u8 0,.int .u8 0,.int .u8 0,.int .u8 0,.int .u8 0,.int .u8 0,.int .u8 0]:=rfl
  have hw : IntKind.i64.wrap (1 + (d : Int)) = ((1 + d : Nat) : Int):=by rw [w64] <;> omega
  have l1 : (0 : Int) ≤ ((1 + d : Nat) : Int):=by omega
  have l2 : 1 ≤ 1 + d:=by omega
  have l3 : 1 + d ≤ 24:=by omega
  have l4 : 1 + d - 1 = d:=by omega
  have l5 : ¬ 1 = 1 + d:=by have:=d1.1; omega
  have l6 : ¬ 0 = 1 + d:=by omega
  have ty:=fun (s : List UInt8) L=>st_tidy hσ (vs:=[.str s]) rfl L
  have cells : nCells z24 d 0 u = .int .u8 0 :: (ofBytes (pl d u) ++ z24.drop (1 + d)):=rfl
  rw [cells] at q2
  obtain ⟨T,hT⟩ : ∃ T,z24.drop (1 + d) = T:=⟨_,rfl⟩
  rw [hT,zz] at q2
  obtain ⟨p,hp⟩ : ∃ p,pl d u = p:=⟨_,rfl⟩
  have pn : (ofBytes p).length = d:=by rw [← hp]; simp [ofBytes,pl_len]
  have hlen : (ofBytes p ++ T).length = 23:=by rw [List.length_append,pn,← hT]; simp [z24]; omega
  have l7 : 1 + d - 0 = 1 + d:=by omega
  have l8 : ∀ b : UInt8,(AV.int .u8 b.toNat :: (ofBytes p ++ T)).take (1 + d) = ofBytes (b :: p):=fun b=>by
   rw [Nat.add_comm 1 d,List.take_succ_cons,← pn,List.take_left]; rfl
  have l9 : (ofBytes p ++ T).take d = ofBytes p:=by rw [← pn,List.take_left]
  have l10:=l8 45
  have l10 : (AV.int .u8 45 :: (ofBytes p ++ T)).take (1 + d) = ofBytes (45 :: p):=l10
  have l11:=bytesOf_of
  have l12 : 1 + d ≤ 23 + 1:=by omega
  have l13 : 1 + d ≤ 24:=by omega
  have l14 : 0 ≤ 1 + d:=Nat.zero_le _
  by_cases s : n < 0
  ·have c1 : ¬ (0 : Int) ≤ n:=by omega
   have hb : IntKind.u64.wrap n = n + 18446744073709551616:=by
    simp [IntKind.wrap,IntKind.bits,IntKind.signed]; omega
   have hb2 : IntKind.u64.wrap (0 - (n + 18446744073709551616)) = (u : Int):=by
    simp [IntKind.wrap,IntKind.bits,IntKind.signed]; omega
   have hdec : dec n = 45 :: pl d u:=by
    unfold dec
    rw [if_pos s,hu,hnd]
   rw [hdec]
   rw [hp] at q2 ⊢
   simp only [K_internal_strconv_FormatInt,c1,s,hb,hb2,q1,q2,hw,l1,l2,l3,l4,l5,l6,l7,hlen,l9,l10,l11,l12,l13,l14,Option.map_some,Nat.mul_one,ty,splice,Int.toNat_natCast,EVC,EVD,EVB,Nat.reduceEqDiff,eqOp,eqA,eqNil,lenA,asNat,optNat,pt,tupleOf,Nat.reduceSub,Nat.reduceGT,Nat.reduceLT,hand,norms,normVs,normV,freeze,reduceIte,reduceCtorEq,srcCells,slCells,isStr,fillA,rep,asObj,outSl,Nat.reduceMul,Nat.reduceLeDiff,Int.reduceToNat,Int.reduceLE,Int.reduceLT,Int.reduceEq,Nat.reduceAdd,Int.reduceBNe,Int.reduceBEq,Int.reduceNeg]
  ·have hb : IntKind.u64.wrap n = (u : Int):=by
    simp [IntKind.wrap,IntKind.bits,IntKind.signed]; omega
   have hdec : dec n = pl d u:=by
    unfold dec
    rw [if_neg s,hu,hnd]
   have c2 : (0 : Int) ≤ n:=by omega
   have c3 : ¬ n < 100:=by omega
   rw [hdec]
   rw [hp] at q2 ⊢
   simp only [K_internal_strconv_FormatInt,c2,c3,s,hb,q1,q2,hw,l1,l2,l3,l4,l5,l6,l7,hlen,l9,l10,l11,l12,l13,l14,Option.map_some,Nat.mul_one,ty,splice,Int.toNat_natCast,EVC,EVD,EVB,Nat.reduceEqDiff,eqOp,eqA,eqNil,lenA,asNat,optNat,pt,tupleOf,Nat.reduceSub,Nat.reduceGT,Nat.reduceLT,hand,norms,normVs,normV,freeze,reduceIte,reduceCtorEq,srcCells,slCells,isStr,fillA,rep,asObj,outSl,Nat.reduceMul,Nat.reduceLeDiff,Int.reduceToNat,Int.reduceLE,Int.reduceLT,Int.reduceEq,Nat.reduceAdd,Int.reduceBNe,Int.reduceBEq,Int.reduceNeg]
theorem numShow (H : FmtHas C) (n : Int) (h1 : -9223372036854775808 ≤ n) (h2 : n ≤ 9223372036854775807) (σ : St) (hσ : Ok σ) : semF C f_num_Show [.int .i64 n] σ = some (.str (dec n),σ):=by
 have q : semF C f_strconv_FormatInt [.int .i64 n,.int .i64 10] σ = some (.str (dec n),σ):=by
  have q:=formatInt H n h1 h2 σ hσ
  rw [H.fmt.go (NVs.hand (.cons (.int _ _) (.cons (.int _ _) .nil)) _) (by simp [K_strconv_FormatInt])]
  simp only [K_strconv_FormatInt,q,EVC,EVD,EVB,Nat.reduceEqDiff,eqOp,eqA,eqNil,lenA,asNat,optNat,pt,tupleOf,Nat.reduceSub,Nat.reduceGT,Nat.reduceLT,hand,norms,normVs,normV,freeze,reduceIte,reduceCtorEq,srcCells,slCells,isStr,fillA,rep,asObj,outSl,Nat.reduceMul,Nat.reduceLeDiff,Int.reduceToNat,Int.reduceLE,Int.reduceLT,Int.reduceEq,Nat.reduceAdd,Int.reduceBNe,Int.reduceBEq,Int.reduceNeg]
 rw [H.show_.go (NVs.hand (.cons (.int _ _) .nil) _) (by simp [K_num_Show])]
 simp only [K_num_Show,q,EVC,EVD,EVB,Nat.reduceEqDiff,eqOp,eqA,eqNil,lenA,asNat,optNat,pt,tupleOf,Nat.reduceSub,Nat.reduceGT,Nat.reduceLT,hand,norms,normVs,normV,freeze,reduceIte,reduceCtorEq,srcCells,slCells,isStr,fillA,rep,asObj,outSl,Nat.reduceMul,Nat.reduceLeDiff,Int.reduceToNat,Int.reduceLE,Int.reduceLT,Int.reduceEq,Nat.reduceAdd,Int.reduceBNe,Int.reduceBEq,Int.reduceNeg]
end Go.Ev
namespace Go.Ev
set_option maxRecDepth 100000
set_option linter.unusedSimpArgs false
set_option linter.unusedVariables false
variable {C : Ctx}
def bT : Fz:=⟨false,some (70,true)⟩
def uT : Fz:=⟨false,some (5,false)⟩
structure BldHas (C : Ctx) : Prop where
 copy0 : ∀ (σ : St) (o : Nat) (b : AV),σ[o]? = some (.cells [.nilp,b] bT) → semF C f_strings_Builder_copyCheck [.ref o 0] σ = some (.undef,σ.set o (.cells [.ref o 0,b] bT))
 copy1 : ∀ (σ : St) (o : Nat) (b : AV),σ[o]? = some (.cells [.ref o 0,b] bT) → semF C f_strings_Builder_copyCheck [.ref o 0] σ = some (.undef,σ)
 str0 : ∀ (σ : St) (o : Nat) (p : AV),σ[o]? = some (.cells [p,.nils] bT) → semF C f_strings_Builder_String [.ref o 0] σ = some (.str [],σ)
 str1 : ∀ (σ : St) (o q : Nat) (p : AV) (w : List UInt8),σ[o]? = some (.cells [p,.msl q 0 w.length 1] bT) → σ[q]? = some (.cells (ofBytes w) uT) → w ≠ [] → w.length ≤ 1099511627776 → semF C f_strings_Builder_String [.ref o 0] σ = some (.str w,σ.set q .dead)
 wstr : Has C f_strings_Builder_WriteString K_strings_Builder_WriteString
 wbyte : Has C f_strings_Builder_WriteByte K_strings_Builder_WriteByte
def Bk (τ : St) (o : Nat) (w : List UInt8) (qo : Option Nat) : Prop:=∃ p b,τ[o]? = some (.cells [p,b] bT) ∧ (p = .nilp ∨ p = .ref o 0) ∧ ((qo = none ∧ w = [] ∧ b = .nils) ∨ ∃ q,qo = some q ∧ q ≠ o ∧ w ≠ [] ∧ b = .msl q 0 w.length 1 ∧ τ[q]? = some (.cells (ofBytes w) uT))
structure TrB (o : Nat) (τ : St) (qo : Option Nat) (τ' : St) (qo' : Option Nat) : Prop where
 ok : Ok τ'
 len : τ.length ≤ τ'.length
 old : ∀ i x,i ≠ o → qo ≠ some i → τ[i]? = some x → τ'[i]? = some x
 q : ∀ i,qo' = some i → qo = some i ∨ τ.length ≤ i
theorem TrB.refl {o : Nat} {τ : St} {qo : Option Nat} (h : Ok τ) : TrB o τ qo τ qo:=⟨h,Nat.le_refl _,fun _ _ _ _ h=>h,fun _ h=>.inl h⟩
theorem TrB.trans {o : Nat} {τ τ1 τ2 : St} {qo q1 q2 : Option Nat} (h : TrB o τ qo τ1 q1) (k : TrB o τ1 q1 τ2 q2) : TrB o τ qo τ2 q2 where
 ok:=k.ok
 len:=Nat.le_trans h.len k.len
 old:=fun i x hi hq hx=>k.old i x hi (fun e=>by
  rcases h.q i e with e | e
  ·exact hq e
  ·have:=(List.getElem?_eq_some_iff.mp hx).1
   omega) (h.old i x hi hq hx)
 q:=fun i e=>by
   rcases k.q i e with e | e
   ·exact h.q i e
   ·have:=h.len
    exact .inr (by omega)
theorem TrB.plus {o : Nat} {τ : St} {qo : Option Nat} (h : Ok τ) {L : St} (hL : L.all (AO.below (τ.length + L.length)) = true) : TrB o τ qo (τ ++ L) qo:=⟨h.app hL,by simp,fun _ _ _ _ hx=>sy_old hx L,fun _ e=>.inl e⟩
theorem Bk.plus {o : Nat} {τ : St} {qo : Option Nat} {w : List UInt8} (h : Bk τ o w qo) (L : St) : Bk (τ ++ L) o w qo:=by
 obtain ⟨p,b,h1,h2,h3⟩:=h
 refine ⟨p,b,sy_old h1 L,h2,?_⟩
 rcases h3 with h3 | ⟨q,e1,e2,e3,e4,e5⟩
 ·exact .inl h3
 ·exact .inr ⟨q,e1,e2,e3,e4,sy_old e5 L⟩
theorem Bk.lt {o : Nat} {τ : St} {qo : Option Nat} {w : List UInt8} (h : Bk τ o w qo) : o < τ.length:=by
 obtain ⟨p,b,h1,h2,h3⟩:=h
 exact (List.getElem?_eq_some_iff.mp h1).1
theorem Bk.qlt {o : Nat} {τ : St} {qo : Option Nat} {w : List UInt8} (h : Bk τ o w qo) {i : Nat} (e : qo = some i) : i < τ.length:=by
 obtain ⟨p,b,h1,h2,h3⟩:=h
 rcases h3 with ⟨h3,_⟩ | ⟨q,e1,e2,e3,e4,e5⟩
 ·rw [h3] at e; cases e
 ·rw [e1] at e
  cases e
  exact (List.getElem?_eq_some_iff.mp e5).1
theorem tr_tidy {o : Nat} {τ S : St} {qo qo' : Option Nat} {w : List UInt8} (vs : List AV) (ho : o < τ.length) (h : TrB o τ qo S qo') (b : Bk S o w qo') : TrB o τ qo (tidy τ.length vs S) qo' ∧ Bk (tidy τ.length vs S) o w qo':= by
 unfold tidy
 split
 ·exact ⟨h,b⟩
 split
 ·rename_i hc
  rw [Bool.and_eq_true] at hc
  have hl : (S.take τ.length).length = τ.length:=by
   have:=h.len
   simp; omega
  have hg : ∀ i,i < τ.length → (S.take τ.length)[i]? = S[i]?:= fun i hi=>by rw [List.getElem?_take,if_pos hi]
  obtain ⟨p,c,h1,h2,h3⟩:=b
  refine ⟨⟨?_,by rw [hl]; exact Nat.le_refl _,fun i x hi hq hx=>?_,h.q⟩,p,c,by rw [hg _ ho]; exact h1,h2,?_⟩
  ·unfold Ok
   rw [hl]; exact hc.2
  ·rw [hg _ (List.getElem?_eq_some_iff.mp hx).1]
   exact h.old i x hi hq hx
  ·rcases h3 with h3 | ⟨q,e1,e2,e3,e4,e5⟩
   ·exact .inl h3
   ·refine .inr ⟨q,e1,e2,e3,e4,?_⟩
    have hb:=List.all_eq_true.mp hc.2 (.cells [p,c] bT) (List.mem_of_getElem? (by rw [hg _ ho]; exact h1))
    have : q < τ.length:=by
     rw [e4] at hb
     simp only [AO.below,belows,below,Bool.and_eq_true,decide_eq_true_eq] at hb
     exact hb.2.1
    rw [hg _ this]; exact e5
 ·exact ⟨h,b⟩
end Go.Ev
namespace Go.Ev
set_option maxRecDepth 100000
set_option linter.unusedSimpArgs false
set_option linter.unusedVariables false
variable {C : Ctx}
theorem bk_copy (H : BldHas C) {o : Nat} {τ : St} {w : List UInt8} {qo : Option Nat} (hτ : Ok τ) (hb : Bk τ o w qo) : ∃ b τ1,semF C f_strings_Builder_copyCheck [.ref o 0] τ = some (.undef,τ1) ∧ τ1[o]? = some (.cells [.ref o 0,b] bT) ∧ τ1.length = τ.length ∧ Ok τ1 ∧ (∀ i x,i ≠ o → τ[i]? = some x → τ1[i]? = some x) ∧ ((qo = none ∧ w = [] ∧ b = .nils) ∨ ∃ q,qo = some q ∧ q ≠ o ∧ w ≠ [] ∧ b = .msl q 0 w.length 1 ∧ τ1[q]? = some (.cells (ofBytes w) uT)):=by
 have ho:=hb.lt
 obtain ⟨p,b,h1,h2,h3⟩:=hb
 rcases h2 with rfl | rfl
 ·refine ⟨b,_,H.copy0 τ o b h1,set_get h1 _,by simp,?_,fun i x hi hx=>set_old hx hi _,?_⟩
  ·refine hτ.set2 o ?_
   have:=List.all_eq_true.mp hτ _ (List.mem_of_getElem? h1)
   simp only [AO.below,belows,below,Bool.and_true,Bool.and_eq_true,decide_eq_true_eq] at this ⊢
   exact ⟨ho,this.2⟩
  ·rcases h3 with h3 | ⟨q,e1,e2,e3,e4,e5⟩
   ·exact .inl h3
   ·exact .inr ⟨q,e1,e2,e3,e4,set_old e5 e2 _⟩
 ·exact ⟨b,τ,H.copy1 τ o b h1,h1,rfl,hτ,fun _ _ _ h=>h,h3⟩
theorem bk_app {o : Nat} {τ : St} {w cs : List UInt8} {b : AV} {qo : Option Nat} (hτ : Ok τ) (h0 : τ[o]? = some (.cells [.ref o 0,b] bT)) (h3 : (qo = none ∧ w = [] ∧ b = .nils) ∨ ∃ q,qo = some q ∧ q ≠ o ∧ w ≠ [] ∧ b = .msl q 0 w.length 1 ∧ τ[q]? = some (.cells (ofBytes w) uT)) (hc : cs ≠ []) (hl : w.length + cs.length ≤ 1099511627776) :
  ∃ S : St,appA τ 1 1 (some (5,false)) b cs.length (ofBytes cs) = some (.msl τ.length 0 (w ++ cs).length 1,S ++ [.cells (ofBytes (w ++ cs)) uT]) ∧ S.length = τ.length ∧ S[o]? = some (.cells [.ref o 0,b] bT) ∧ (∀ i x,qo ≠ some i → τ[i]? = some x → S[i]? = some x) ∧ Ok S:=by
 have hm : ¬ cs.length = 0:=fun e=>hc (List.eq_nil_of_length_eq_zero e)
 rcases h3 with ⟨rfl,rfl,rfl⟩ | ⟨q,rfl,e2,e3,rfl,e5⟩
 ·refine ⟨τ,?_,rfl,h0,fun _ _ _ h=>h,hτ⟩
  rw [ap_nils _ _ (ofBytes cs) hm (by simp at hl; omega) (by simp at hl; omega)]
  rfl
 ·refine ⟨τ.set q .dead,?_,by simp,set_old h0 (fun e=>e2 e.symm) _,fun i x hi hx=>set_old hx (fun e=>hi (by rw [e])) _,hτ.set2 q rfl⟩
  unfold appA
  rw [if_neg hm]
  simp only [e5]
  rw [if_pos ⟨trivial,by rw [ofBytes_length]; omega,by omega,by omega⟩,ofBytes_app,List.length_append]
  rfl
theorem wr_string (H : BldHas C) {o : Nat} {τ : St} {w : List UInt8} {qo : Option Nat} (s : List UInt8) (hτ : Ok τ) (hb : Bk τ o w qo) (hl : w.length + s.length ≤ 1099511627776) :
  ∃ τ' qo',semF C f_strings_Builder_WriteString [.ref o 0,.str s] τ = some (.tup [.int .i64 s.length,.nilIface],τ') ∧ Bk τ' o (w ++ s) qo' ∧ TrB o τ qo τ' qo':= by
 have ho:=hb.lt
 have hql:=fun i e=>hb.qlt (i:=i) e
 obtain ⟨b,τ1,c1,c2,c3,c4,c5,c6⟩:=bk_copy H hτ hb
 have hn : hand false [.ref o 0,.str s] τ = some ([.ref o 0,.str s],τ):=rfl
 rw [H.wstr.go hn (by simp [K_strings_Builder_WriteString])]
 by_cases hs : s = []
 ·subst hs
  have an : appA τ1 1 1 (some (5,false)) b 0 [] = some (b,τ1):=by
   rcases c6 with ⟨_,_,rfl⟩ | ⟨q,_,_,_,rfl,_⟩ <;> rfl
  have ty:=tidy_same τ1 [.int .i64 0,.nilIface]
  rw [c3] at ty
  have ss:=set_self c2
  have fb : b.flat = true:=by rcases c6 with ⟨_,_,rfl⟩ | ⟨q,_,_,_,rfl,_⟩ <;> rfl
  refine ⟨τ1,qo,?_,?_,c4,by rw [c3]; exact Nat.le_refl _,fun i x hi _ hx=>c5 i x hi hx,fun i e=>.inl e⟩
  ·dsimp only [bT] at *
   rcases c6 with ⟨_,_,rfl⟩ | ⟨q,_,_,_,rfl,_⟩ <;> simp only [K_strings_Builder_WriteString,c1,c2,an,ty,ss,fb,splice,ofBytes,List.map_nil,List.length_nil,AV.flat,AV.cells,EVC,EVD,EVB,Nat.reduceEqDiff,eqOp,eqA,eqNil,lenA,asNat,optNat,pt,tupleOf,Nat.reduceSub,Nat.reduceGT,Nat.reduceLT,hand,norms,normVs,normV,freeze,reduceIte,reduceCtorEq,srcCells,slCells,isStr,fillA,rep,asObj,outSl,Nat.reduceMul,Nat.reduceLeDiff,Int.reduceToNat,Int.reduceLE,Int.reduceLT,Int.reduceEq,Nat.reduceAdd,Int.reduceBNe,Int.reduceBEq,Int.reduceNeg]
  ·rw [List.append_nil]
   exact ⟨_,b,c2,.inr rfl,c6⟩
 ·obtain ⟨S,a1,a2,a3,a4,a5⟩:=bk_app c4 c2 c6 hs hl
  have fl:=ofBytes_flat s
  rw [c3] at a1
  have sp:=fun L y=>sy_put a3 L y
  have sg:=fun L=>sy_old a3 L
  have okS : Ok (S.set o (.cells [.ref o 0,.msl τ.length 0 (w ++ s).length 1] bT) ++ [.cells (ofBytes (w ++ s)) uT]):=by
   have:=(Ok.app a5 (l:=[.cells (ofBytes (w ++ s)) uT]) (by simp [AO.below,belows_ofBytes])).set2 o (x:=.cells [.ref o 0,.msl τ.length 0 (w ++ s).length 1] bT) (by
    simp only [AO.below,belows,below,Bool.and_true,Bool.and_eq_true,decide_eq_true_eq,List.length_append,List.length_cons,List.length_nil]
    omega)
   rwa [sp] at this
  have bkS : Bk (S.set o (.cells [.ref o 0,.msl τ.length 0 (w ++ s).length 1] bT) ++ [.cells (ofBytes (w ++ s)) uT]) o (w ++ s) (some τ.length):=by
   refine ⟨_,_,sy_old (set_get a3 _) _,.inr rfl,.inr ⟨_,rfl,by omega,by simp [hs],rfl,?_⟩⟩
   rw [sy_get0 (by simp [a2,c3])]; rfl
  have trS : TrB o τ qo (S.set o (.cells [.ref o 0,.msl τ.length 0 (w ++ s).length 1] bT) ++ [.cells (ofBytes (w ++ s)) uT]) (some τ.length):=by
   refine ⟨okS,by simp [a2,c3],fun i x hi hq hx=>sy_old (set_old (a4 i x hq (c5 i x hi hx)) hi _) _,fun i e=>.inr ?_⟩
   cases e; exact Nat.le_refl _
  obtain ⟨t1,t2⟩:=tr_tidy [.int .i64 s.length,.nilIface] ho trS bkS
  refine ⟨_,_,?_,t2,t1⟩
  dsimp only [bT,uT] at *
  simp only [K_strings_Builder_WriteString,c1,c2,a1,sp,sg,fl,splice,AV.flat,AV.cells,EVC,EVD,EVB,Nat.reduceEqDiff,eqOp,eqA,eqNil,lenA,asNat,optNat,pt,tupleOf,Nat.reduceSub,Nat.reduceGT,Nat.reduceLT,hand,norms,normVs,normV,freeze,reduceIte,reduceCtorEq,srcCells,slCells,isStr,fillA,rep,asObj,outSl,Nat.reduceMul,Nat.reduceLeDiff,Int.reduceToNat,Int.reduceLE,Int.reduceLT,Int.reduceEq,Nat.reduceAdd,Int.reduceBNe,Int.reduceBEq,Int.reduceNeg]
theorem wr_byte (H : BldHas C) {o : Nat} {τ : St} {w : List UInt8} {qo : Option Nat} (c : UInt8) (hτ : Ok τ) (hb : Bk τ o w qo) (hl : w.length + 1 ≤ 1099511627776) :
  ∃ τ' qo',semF C f_strings_Builder_WriteByte [.ref o 0,.int .u8 c.toNat] τ = some (.nilIface,τ') ∧ Bk τ' o (w ++ [c]) qo' ∧ TrB o τ qo τ' qo':= by
 have ho:=hb.lt
 obtain ⟨b,τ1,c1,c2,c3,c4,c5,c6⟩:=bk_copy H hτ hb
 have hn : hand false [.ref o 0,.int .u8 c.toNat] τ = some ([.ref o 0,.int .u8 c.toNat],τ):=rfl
 rw [H.wbyte.go hn (by simp [K_strings_Builder_WriteByte])]
 obtain ⟨S,a1,a2,a3,a4,a5⟩:=bk_app (cs:=[c]) c4 c2 c6 (by simp) hl
 rw [c3] at a1
 have sp:=fun L y=>sy_put a3 L y
 have sg:=fun L=>sy_old a3 L
 have okS : Ok (S.set o (.cells [.ref o 0,.msl τ.length 0 (w ++ [c]).length 1] bT) ++ [.cells (ofBytes (w ++ [c])) uT]):=by
  have:=(Ok.app a5 (l:=[.cells (ofBytes (w ++ [c])) uT]) (by simp [AO.below,belows_ofBytes])).set2 o (x:=.cells [.ref o 0,.msl τ.length 0 (w ++ [c]).length 1] bT) (by
   simp only [AO.below,belows,below,Bool.and_true,Bool.and_eq_true,decide_eq_true_eq,List.length_append,List.length_cons,List.length_nil]
   omega)
  rwa [sp] at this
 have bkS : Bk (S.set o (.cells [.ref o 0,.msl τ.length 0 (w ++ [c]).length 1] bT) ++ [.cells (ofBytes (w ++ [c])) uT]) o (w ++ [c]) (some τ.length):=by
  refine ⟨_,_,sy_old (set_get a3 _) _,.inr rfl,.inr ⟨_,rfl,by omega,by simp,rfl,?_⟩⟩
  rw [sy_get0 (by simp [a2,c3])]; rfl
 have trS : TrB o τ qo (S.set o (.cells [.ref o 0,.msl τ.length 0 (w ++ [c]).length 1] bT) ++ [.cells (ofBytes (w ++ [c])) uT]) (some τ.length):=by
  refine ⟨okS,by simp [a2,c3],fun i x hi hq hx=>sy_old (set_old (a4 i x hq (c5 i x hi hx)) hi _) _,fun i e=>.inr ?_⟩
  cases e; exact Nat.le_refl _
 obtain ⟨t1,t2⟩:=tr_tidy [.nilIface] ho trS bkS
 refine ⟨_,_,?_,t2,t1⟩
 have o1 : ofBytes [c] = [.int .u8 c.toNat]:=rfl
 have l1 : [c].length = 1:=rfl
 dsimp only [bT,uT] at *
 rw [o1,l1] at a1
 simp only [K_strings_Builder_WriteByte,c1,c2,a1,sp,sg,splice,AV.flat,AV.cells,EVC,EVD,EVB,Nat.reduceEqDiff,eqOp,eqA,eqNil,lenA,asNat,optNat,pt,tupleOf,Nat.reduceSub,Nat.reduceGT,Nat.reduceLT,hand,norms,normVs,normV,freeze,reduceIte,reduceCtorEq,srcCells,slCells,isStr,fillA,rep,asObj,outSl,Nat.reduceMul,Nat.reduceLeDiff,Int.reduceToNat,Int.reduceLE,Int.reduceLT,Int.reduceEq,Nat.reduceAdd,Int.reduceBNe,Int.reduceBEq,Int.reduceNeg]
end Go.Ev
namespace Go.Ev
set_option maxRecDepth 100000
set_option linter.unusedSimpArgs false
set_option linter.unusedVariables false
variable {C : Ctx}
theorem rs_end (s : List UInt8) (b : Bool) (i : Nat) (hi : 0 < i) (σ : St) :
  loopK C (semF C) 36 [0,3,4,5] L_legateref06_Show_0 [(0,.int .i64 0),(3,.str s),(4,.bool b),(5,.int .i64 i)] σ = some (.exit 0,[(3,.str s),(4,.bool b)],σ):=by
 rw [loop_eq (he:=rfl)]
 have h : ((i : Int) == 0) = false:=by
  rw [beq_eq_false_iff_ne]; omega
 simp only [L_legateref06_Show_0,h,EVC,EVD,EVB,Nat.reduceEqDiff,eqOp,eqA,eqNil,lenA,asNat,optNat,pt,tupleOf,Nat.reduceSub,Nat.reduceGT,Nat.reduceLT,hand,norms,normVs,normV,freeze,reduceIte,reduceCtorEq,srcCells,slCells,isStr,fillA,rep,asObj,outSl,Nat.reduceMul,Nat.reduceLeDiff,Int.reduceToNat,Int.reduceLE,Int.reduceLT,Int.reduceEq,Nat.reduceAdd,Int.reduceBNe,Int.reduceBEq,Int.reduceNeg]
theorem rs_step (n n' : Int) (u : Nat) (hn : n' = n.tdiv 10) (hu : u = (n.tmod 10).natAbs) (s : List UInt8) (b : Bool) (i : Nat) (hi : i ≤ 100) (hs : s.length ≤ 100) (hc : i = 0 ∨ n ≠ 0) (h1 : -9223372036854775808 ≤ n) (h2 : n ≤ 9223372036854775807) (σ : St) :
  loopK C (semF C) 36 [0,3,4,5] L_legateref06_Show_0 [(0,.int .i64 n),(3,.str s),(4,.bool b),(5,.int .i64 i)] σ =
  loopK C (semF C) 36 [0,3,4,5] L_legateref06_Show_0 [(0,.int .i64 n'),(3,.str (dg u :: s)),(4,.bool b),(5,.int .i64 (i + 1 : Nat))] σ:=by
 rw [loop_eq (he:=rfl)]
 generalize hk : loopK C (semF C) 36 [0,3,4,5] L_legateref06_Show_0 = k
 have t1 : (n.tmod 10).natAbs = n.natAbs % 10:=Int.natAbs_tmod n 10
 have t2 : (n.tdiv 10).natAbs = n.natAbs / 10:=Int.natAbs_tdiv n 10
 have hu10 : u < 10:=by omega
 have w1 : IntKind.i64.wrap ((i : Int) + 1) = ((i + 1 : Nat) : Int):=by rw [w64] <;> omega
 have w2 : IntKind.i64.wrap (n.tdiv 10) = n':= by rw [hn,w64] <;> omega
 have w3 : IntKind.i64.wrap (48 + (u : Int)) = ((48 + u : Nat) : Int):=by rw [w64] <;> omega
 have w4 : IntKind.u8.wrap ((48 + u : Nat) : Int) = ((dg u).toNat : Int):=by
  rw [u8_wrap _ (by omega)]
  unfold dg
  rw [UInt8.toNat_ofNat']
  omega
 have hd : ¬ ((10 : Int) = 0):=by decide
 have w6 : IntKind.i64.wrap (0 + 1) = 1:=by decide
 have hb1:=bytesOf_of [dg u]
 have hb2 : bytesOf [AV.int .u8 ((dg u).toNat : Int)] = some [dg u]:=hb1
 have bs : binStr .add [dg u] s = some (.str (dg u :: s)):=bs_add (by simp; omega)
 by_cases c : n.tmod 10 < 0
 ·have w5 : IntKind.i64.wrap (0 - n.tmod 10) = (u : Int):=by rw [w64] <;> omega
  rcases hc with hc | hc
  ·subst hc
   simp only [L_legateref06_Show_0,hd,w1,w2,w3,w4,w5,w6,c,hb2,bs,EVC,EVD,EVB,Nat.reduceEqDiff,eqOp,eqA,eqNil,lenA,asNat,optNat,pt,tupleOf,Nat.reduceSub,Nat.reduceGT,Nat.reduceLT,hand,norms,normVs,normV,freeze,reduceIte,reduceCtorEq,srcCells,slCells,isStr,fillA,rep,asObj,outSl,Nat.reduceMul,Nat.reduceLeDiff,Int.reduceToNat,Int.reduceLE,Int.reduceLT,Int.reduceEq,Nat.reduceAdd,Int.reduceBNe,Int.reduceBEq,Int.reduceNeg]
  ·by_cases hi0 : i = 0
   ·subst hi0
    simp only [L_legateref06_Show_0,hd,w1,w2,w3,w4,w5,w6,c,hb2,bs,EVC,EVD,EVB,Nat.reduceEqDiff,eqOp,eqA,eqNil,lenA,asNat,optNat,pt,tupleOf,Nat.reduceSub,Nat.reduceGT,Nat.reduceLT,hand,norms,normVs,normV,freeze,reduceIte,reduceCtorEq,srcCells,slCells,isStr,fillA,rep,asObj,outSl,Nat.reduceMul,Nat.reduceLeDiff,Int.reduceToNat,Int.reduceLE,Int.reduceLT,Int.reduceEq,Nat.reduceAdd,Int.reduceBNe,Int.reduceBEq,Int.reduceNeg]
   ·have e1 : ((i : Int) == 0) = false:=by
     rw [beq_eq_false_iff_ne]; omega
    have e2 : (n != 0) = true:=by
     rw [bne_iff_ne]; exact hc
    simp only [L_legateref06_Show_0,hd,e1,e2,w1,w2,w3,w4,w5,w6,c,hb2,bs,EVC,EVD,EVB,Nat.reduceEqDiff,eqOp,eqA,eqNil,lenA,asNat,optNat,pt,tupleOf,Nat.reduceSub,Nat.reduceGT,Nat.reduceLT,hand,norms,normVs,normV,freeze,reduceIte,reduceCtorEq,srcCells,slCells,isStr,fillA,rep,asObj,outSl,Nat.reduceMul,Nat.reduceLeDiff,Int.reduceToNat,Int.reduceLE,Int.reduceLT,Int.reduceEq,Nat.reduceAdd,Int.reduceBNe,Int.reduceBEq,Int.reduceNeg]
 ·have w5 : n.tmod 10 = (u : Int):=by omega
  have c' : ¬ ((u : Int) < 0):=by omega
  rcases hc with hc | hc
  ·subst hc
   simp only [L_legateref06_Show_0,hd,w1,w2,w3,w4,w5,w6,c',hb2,bs,EVC,EVD,EVB,Nat.reduceEqDiff,eqOp,eqA,eqNil,lenA,asNat,optNat,pt,tupleOf,Nat.reduceSub,Nat.reduceGT,Nat.reduceLT,hand,norms,normVs,normV,freeze,reduceIte,reduceCtorEq,srcCells,slCells,isStr,fillA,rep,asObj,outSl,Nat.reduceMul,Nat.reduceLeDiff,Int.reduceToNat,Int.reduceLE,Int.reduceLT,Int.reduceEq,Nat.reduceAdd,Int.reduceBNe,Int.reduceBEq,Int.reduceNeg]
  ·by_cases hi0 : i = 0
   ·subst hi0
    simp only [L_legateref06_Show_0,hd,w1,w2,w3,w4,w5,w6,c',hb2,bs,EVC,EVD,EVB,Nat.reduceEqDiff,eqOp,eqA,eqNil,lenA,asNat,optNat,pt,tupleOf,Nat.reduceSub,Nat.reduceGT,Nat.reduceLT,hand,norms,normVs,normV,freeze,reduceIte,reduceCtorEq,srcCells,slCells,isStr,fillA,rep,asObj,outSl,Nat.reduceMul,Nat.reduceLeDiff,Int.reduceToNat,Int.reduceLE,Int.reduceLT,Int.reduceEq,Nat.reduceAdd,Int.reduceBNe,Int.reduceBEq,Int.reduceNeg]
   ·have e1 : ((i : Int) == 0) = false:=by
     rw [beq_eq_false_iff_ne]; omega
    have e2 : (n != 0) = true:=by
     rw [bne_iff_ne]; exact hc
    simp only [L_legateref06_Show_0,hd,e1,e2,w1,w2,w3,w4,w5,w6,c',hb2,bs,EVC,EVD,EVB,Nat.reduceEqDiff,eqOp,eqA,eqNil,lenA,asNat,optNat,pt,tupleOf,Nat.reduceSub,Nat.reduceGT,Nat.reduceLT,hand,norms,normVs,normV,freeze,reduceIte,reduceCtorEq,srcCells,slCells,isStr,fillA,rep,asObj,outSl,Nat.reduceMul,Nat.reduceLeDiff,Int.reduceToNat,Int.reduceLE,Int.reduceLT,Int.reduceEq,Nat.reduceAdd,Int.reduceBNe,Int.reduceBEq,Int.reduceNeg]
theorem rs_loop (b : Bool) (σ : St) : ∀ (d : Nat) (n : Int) (s : List UInt8) (i : Nat),DigN d n.natAbs → (i = 0 ∨ n ≠ 0) → i + d ≤ 50 → s.length + d ≤ 50 → -9223372036854775808 ≤ n → n ≤ 9223372036854775807 →
  loopK C (semF C) 36 [0,3,4,5] L_legateref06_Show_0 [(0,.int .i64 n),(3,.str s),(4,.bool b),(5,.int .i64 i)] σ = some (.exit 0,[(3,.str (pl d n.natAbs ++ s)),(4,.bool b)],σ)
 | 0,n,s,i,hd,hc,hi,hs,h1,h2=>absurd hd.1 (by decide)
 | d + 1,n,s,i,hd,hc,hi,hs,h1,h2=>by
   have t1 : (n.tmod 10).natAbs = n.natAbs % 10:=Int.natAbs_tmod n 10
   have t2 : (n.tdiv 10).natAbs = n.natAbs / 10:=Int.natAbs_tdiv n 10
   rw [rs_step n _ _ rfl rfl s b i (by omega) (by omega) hc h1 h2]
   have hdg : dg (n.tmod 10).natAbs = dg n.natAbs:=dg_eq (by omega)
   have hpl : pl (d + 1) n.natAbs ++ s = pl d (n.natAbs / 10) ++ (dg n.natAbs :: s):=by
    show pl d (n.natAbs / 10) ++ [dg n.natAbs] ++ s = _
    simp
   rw [hdg,hpl]
   obtain ⟨d1,d2,d3⟩:=hd
   by_cases h0 : n.tdiv 10 = 0
   ·have hd0 : d = 0:=by
     rcases d3 with d3 | d3
     ·omega
     ·cases d with
      | zero=>rfl
      | succ d=>
        have : 10 ^ 1 ≤ 10 ^ (d + 1):=Nat.pow_le_pow_right (by decide) (by omega)
        have e : d + 1 + 1 - 1 = d + 1:=by omega
        rw [e] at d3
        omega
    subst hd0
    rw [h0,rs_end _ _ _ (by omega)]
    rfl
   ·rw [← t2]
    refine rs_loop b σ d _ _ _ ⟨?_,?_,?_⟩ (.inr h0) (by omega) (by simp; omega) (by omega) (by omega)
    ·cases d with
     | zero=>simp at d2; omega
     | succ d=>omega
    ·rw [Nat.pow_succ] at d2; omega
    ·by_cases e : d = 1
     ·exact .inl e
     ·refine .inr ?_
      rcases d3 with d3 | d3
      ·have : d = 0:=by omega
       subst this
       simp at d2; omega
      ·cases d with
       | zero=>simp at d2; omega
       | succ m=>
         have e2 : m + 1 + 1 - 1 = m + 1:=by omega
         rw [e2,Nat.pow_succ] at d3
         show 10 ^ m ≤ _
         omega
theorem dig_ex (u : Nat) (hu : u < 18446744073709551616) : ∃ d,DigN d u ∧ d ≤ 20:=by
 by_cases h0 : u = 0
 ·exact ⟨1,⟨by decide,by subst h0; decide,.inl rfl⟩,by decide⟩
 ·have key : ∀ k,u < 10 ^ k → ∃ d,DigN d u ∧ d ≤ k:=by
   intro k
   induction k with
   | zero=>intro h; simp at h; omega
   | succ k ih=>
     intro h
     by_cases h2 : u < 10 ^ k
     ·obtain ⟨d,d1,d2⟩:=ih h2
      exact ⟨d,d1,by omega⟩
     ·exact ⟨k + 1,⟨by omega,h,.inr (by simpa using Nat.le_of_not_lt h2)⟩,Nat.le_refl _⟩
  exact key 20 (by omega)
structure RefHas (C : Ctx) : Prop where
 show6 : Has C f_legateref06_Show K_legateref06_Show
 net : Has C f_legateref32_Net K_legateref32_Net
 num : Has C f_legateref32_Num K_legateref32_Num
theorem dec_len (n : Int) (h1 : -9223372036854775808 ≤ n) (h2 : n ≤ 9223372036854775807) : (dec n).length ≤ 21:=by
 obtain ⟨d,d1,d2⟩:=dig_ex n.natAbs (by omega)
 unfold dec
 rw [nd_is d1 d2]
 split <;> simp [pl_len] <;> omega
theorem refShow (H : RefHas C) (n : Int) (h1 : -9223372036854775808 ≤ n) (h2 : n ≤ 9223372036854775807) (σ : St) : semF C f_legateref06_Show [.int .i64 n] σ = some (.str (dec n),σ):=by
 rw [H.show6.go (NVs.hand (.cons (.int _ _) .nil) _) (by simp [K_legateref06_Show])]
 obtain ⟨d,d1,d2⟩:=dig_ex n.natAbs (by omega)
 have lp:=fun b=>rs_loop (C:=C) b σ d n [] 0 d1 (.inl rfl) (by omega) (by simp; omega) h1 h2
 simp only [Int.cast_ofNat_Int,Int.natCast_zero,List.append_nil] at lp
 have hn:=nd_is d1 d2
 have bs : binStr .add [45] (pl d n.natAbs) = some (.str (45 :: pl d n.natAbs)):=bs_add (by simp [pl_len]; omega)
 unfold dec
 rw [hn]
 by_cases c : n < 0
 ·rw [if_pos c]
  simp only [K_legateref06_Show,c,lp,bs,EVC,EVD,EVB,Nat.reduceEqDiff,eqOp,eqA,eqNil,lenA,asNat,optNat,pt,tupleOf,Nat.reduceSub,Nat.reduceGT,Nat.reduceLT,hand,norms,normVs,normV,freeze,reduceIte,reduceCtorEq,srcCells,slCells,isStr,fillA,rep,asObj,outSl,Nat.reduceMul,Nat.reduceLeDiff,Int.reduceToNat,Int.reduceLE,Int.reduceLT,Int.reduceEq,Nat.reduceAdd,Int.reduceBNe,Int.reduceBEq,Int.reduceNeg]
 ·rw [if_neg c]
  simp only [K_legateref06_Show,c,lp,bs,EVC,EVD,EVB,Nat.reduceEqDiff,eqOp,eqA,eqNil,lenA,asNat,optNat,pt,tupleOf,Nat.reduceSub,Nat.reduceGT,Nat.reduceLT,hand,norms,normVs,normV,freeze,reduceIte,reduceCtorEq,srcCells,slCells,isStr,fillA,rep,asObj,outSl,Nat.reduceMul,Nat.reduceLeDiff,Int.reduceToNat,Int.reduceLE,Int.reduceLT,Int.reduceEq,Nat.reduceAdd,Int.reduceBNe,Int.reduceBEq,Int.reduceNeg]
def net (s : List UInt8) : List UInt8:=dec s.length ++ 58 :: (s ++ [44])
theorem refNet (H : RefHas C) (s : List UInt8) (hs : s.length ≤ 1099511627776) (σ : St) : semF C f_legateref32_Net [.str s] σ = some (.str (net s),σ):=by
 rw [H.net.go (NVs.hand (.cons (.str _) .nil) _) (by simp [K_legateref32_Net])]
 have q:=refShow H s.length (by omega) (by omega) σ
 have hl:=dec_len s.length (by omega) (by omega)
 unfold net
 generalize dec s.length = t at *
 have b1 : binStr .add t [58] = some (.str (t ++ [58])):=bs_add (by simp; omega)
 have b2 : binStr .add (t ++ [58]) s = some (.str (t ++ [58] ++ s)):=bs_add (by simp; omega)
 have b3 : binStr .add (t ++ [58] ++ s) [44] = some (.str (t ++ 58 :: (s ++ [44]))):=by
  rw [bs_add (by simp; omega)]; simp
 simp only [K_legateref32_Net,q,b1,b2,b3,EVC,EVD,EVB,Nat.reduceEqDiff,eqOp,eqA,eqNil,lenA,asNat,optNat,pt,tupleOf,Nat.reduceSub,Nat.reduceGT,Nat.reduceLT,hand,norms,normVs,normV,freeze,reduceIte,reduceCtorEq,srcCells,slCells,isStr,fillA,rep,asObj,outSl,Nat.reduceMul,Nat.reduceLeDiff,Int.reduceToNat,Int.reduceLE,Int.reduceLT,Int.reduceEq,Nat.reduceAdd,Int.reduceBNe,Int.reduceBEq,Int.reduceNeg]
theorem refNum (H : RefHas C) (n : Int) (h1 : -9223372036854775808 ≤ n) (h2 : n ≤ 9223372036854775807) (σ : St) : semF C f_legateref32_Num [.int .i64 n] σ = some (.str (net (dec n)),σ):=by
 rw [H.num.go (NVs.hand (.cons (.int _ _) .nil) _) (by simp [K_legateref32_Num])]
 have q:=refShow H n h1 h2 σ
 have hl:=dec_len n h1 h2
 have q2:=refNet H (dec n) (by omega) σ
 simp only [K_legateref32_Num,q,q2,EVC,EVD,EVB,Nat.reduceEqDiff,eqOp,eqA,eqNil,lenA,asNat,optNat,pt,tupleOf,Nat.reduceSub,Nat.reduceGT,Nat.reduceLT,hand,norms,normVs,normV,freeze,reduceIte,reduceCtorEq,srcCells,slCells,isStr,fillA,rep,asObj,outSl,Nat.reduceMul,Nat.reduceLeDiff,Int.reduceToNat,Int.reduceLE,Int.reduceLT,Int.reduceEq,Nat.reduceAdd,Int.reduceBNe,Int.reduceBEq,Int.reduceNeg]
end Go.Ev
namespace Go.Ev
set_option maxRecDepth 100000
set_option linter.unusedSimpArgs false
set_option linter.unusedVariables false
variable {C : Ctx}
theorem strs_nv : ∀ l : List (List UInt8),NVs (l.map AV.str)
 | []=>.nil
 | x :: l=>.cons (.str x) (strs_nv l)
theorem Has.go2 {f : FuncId} {K : KF} (h : Has C f K) {args args' : List AV} {σ σ1 : St} (hn : hand false args σ = some (args',σ1)) (hl : ¬ args'.length > K.ntmps) : semF C f args σ = endR σ.length K.results (semK C (semF C) K.ntmps K.body (argsA 0 args') σ1):=by
 rw [h.run]
 unfold runK
 rw [hn]
 dsimp only
 rw [if_neg hl]
 rfl
structure NetHas (C : Ctx) : Prop extends FmtHas C,BldHas C where
 nets : Has C f_script_nets K_script_nets
 numbers : Has C f_script_numbers K_script_numbers
theorem strs_at (ns : List (List UInt8)) (i : Nat) (h : i < ns.length) : (ns.map AV.str).drop i = .str ns[i] :: (ns.map AV.str).drop (i + 1):=by
 rw [List.drop_eq_getElem_cons (l:=ns.map AV.str) (by simpa using h),List.getElem_map]
theorem belows_strs : ∀ l : List (List UInt8),belows 0 (l.map AV.str) = true
 | []=>rfl
 | x :: l=>by
   rw [List.map_cons,belows,belows_strs l]; rfl
theorem TrB.pre {o : Nat} {τ : St} {qo : Option Nat} {τ' : St} {qo' : Option Nat} (h : TrB o τ qo τ' qo') {σ : St} (hσ : ∀ i,i < σ.length → τ[i]? = σ[i]?) (ho : σ.length ≤ o) (hq : ∀ i,qo = some i → σ.length ≤ i) (hl : σ.length ≤ τ.length) : ∃ L,τ' = σ ++ L:=by
 refine ⟨τ'.drop σ.length,?_⟩
 apply List.ext_getElem?
 intro i
 by_cases c : i < σ.length
 ·rw [List.getElem?_append_left c,List.getElem?_eq_getElem c]
  refine h.old i _ (by omega) (fun e=>?_) ?_
  ·have:=hq i e; omega
  ·rw [hσ i c,List.getElem?_eq_getElem c]
 ·rw [List.getElem?_append_right (by omega),List.getElem?_drop]
  congr 1
  omega
theorem nets_loop (H : NetHas C) (l : List (List UInt8)) (hn : l.length ≤ 1099511627776) (o : Nat) : ∀ (n i : Nat),i + n = l.length → ∀ (τ : St) (w : List UInt8) (qo : Option Nat),Ok τ → Bk τ o w qo → (w ++ (l.drop i).flatMap net).length ≤ 1099511627776 →
  ∃ τ' qo',loopK C (semF C) 22 [3,6,7,8] L_script_nets_0 [(3,.ref o 0),(6,.sl l.length (l.map .str)),(7,.int .i64 l.length),(8,.int .i64 i)] τ = some (.exit 0,[(3,.ref o 0)],τ') ∧ Bk τ' o (w ++ (l.drop i).flatMap net) qo' ∧ TrB o τ qo τ' qo'
 | 0,i,hi,τ,w,qo,hτ,hb,hl=>by
   have e : l.drop i = []:=List.drop_eq_nil_of_le (by omega)
   refine ⟨τ,qo,?_,by rw [e]; simpa using hb,.refl hτ⟩
   rw [loop_eq (he:=rfl)]
   have h : ¬ ((i : Int) < (l.length : Int)):=by omega
   simp only [L_script_nets_0,h,EVC,EVD,EVB,Nat.reduceEqDiff,eqOp,eqA,eqNil,lenA,asNat,optNat,pt,tupleOf,Nat.reduceSub,Nat.reduceGT,Nat.reduceLT,hand,norms,normVs,normV,freeze,reduceIte,reduceCtorEq,srcCells,slCells,isStr,fillA,rep,asObj,outSl,Nat.reduceMul,Nat.reduceLeDiff,Int.reduceToNat,Int.reduceLE,Int.reduceLT,Int.reduceEq,Nat.reduceAdd,Int.reduceBNe,Int.reduceBEq,Int.reduceNeg]
 | n + 1,i,hi,τ,w,qo,hτ,hb,hl=>by
   have h : ((i : Int) < (l.length : Int)):=by omega
   have h2 : i < l.length:=by omega
   have w2 : IntKind.i64.wrap ((i : Int) + 1) = ((i + 1 : Nat) : Int):=by rw [w64] <;> omega
   have p2 : (0 : Int) ≤ (i : Int):=by omega
   have dr:=strs_at l i h2
   have sn : (l.map AV.str).length = l.length:=by simp
   have dn : l.drop i = l[i] :: l.drop (i + 1):=List.drop_eq_getElem_cons h2
   generalize l[i] = x at *
   rw [dn,List.flatMap_cons] at hl ⊢
   obtain ⟨N,hN⟩ : ∃ N,(l.drop (i + 1)).flatMap net = N:=⟨_,rfl⟩
   have hx : x.length ≤ 1099511627776:=by
    have : (net x).length = (dec x.length).length + (x.length + 2):=by simp [net]
    simp only [List.length_append] at hl
    omega
   have q1:=numShow H.toFmtHas x.length (by omega) (by omega) τ hτ
   have nl : (net x).length = (dec x.length).length + (1 + (x.length + 1)):=by simp [net]; omega
   rw [hN] at hl
   have l1 : (w ++ (net x ++ N)).length = w.length + (net x).length + N.length:=by simp; omega
   rw [l1,nl] at hl
   obtain ⟨τ1,q1',a1,a2,a3⟩:=wr_string H.toBldHas (dec x.length) hτ hb (by omega)
   obtain ⟨τ2,q2',b1,b2,b3⟩:=wr_byte H.toBldHas 58 a3.ok a2 (by simp; omega)
   obtain ⟨τ3,q3',c1,c2,c3⟩:=wr_string H.toBldHas x b3.ok b2 (by simp; omega)
   obtain ⟨τ4,q4',d1,d2,d3⟩:=wr_byte H.toBldHas 44 c3.ok c2 (by simp; omega)
   have e : w ++ dec x.length ++ [58] ++ x ++ [44] = w ++ net x:=by simp [net]
   rw [e] at d2
   obtain ⟨τ5,q5',f1,f2,f3⟩:=nets_loop H l hn o n (i + 1) (by omega) τ4 _ q4' d3.ok d2 (by rw [hN,List.length_append,List.length_append,nl]; omega)
   rw [hN] at f2 ⊢
   refine ⟨τ5,q5',?_,by rwa [List.append_assoc] at f2,(((a3.trans b3).trans c3).trans d3).trans f3⟩
   have u1 : ((58 : UInt8).toNat : Int) = 58:=rfl
   have u2 : ((44 : UInt8).toNat : Int) = 44:=rfl
   rw [u1] at b1
   rw [u2] at d1
   rw [loop_eq (he:=rfl)]
   generalize hk : loopK C (semF C) 22 [3,6,7,8] L_script_nets_0 = k at *
   simp only [L_script_nets_0,h,h2,w2,p2,dr,sn,q1,a1,b1,c1,d1,f1,EVC,EVD,EVB,Nat.reduceEqDiff,eqOp,eqA,eqNil,lenA,asNat,optNat,pt,tupleOf,Nat.reduceSub,Nat.reduceGT,Nat.reduceLT,hand,norms,normVs,normV,freeze,reduceIte,reduceCtorEq,srcCells,slCells,isStr,fillA,rep,asObj,outSl,Nat.reduceMul,Nat.reduceLeDiff,Int.reduceToNat,Int.reduceLE,Int.reduceLT,Int.reduceEq,Nat.reduceAdd,Int.reduceBNe,Int.reduceBEq,Int.reduceNeg]
theorem Bk.str (H : BldHas C) {τ : St} {o : Nat} {w : List UInt8} {qo : Option Nat} (hb : Bk τ o w qo) (hl : w.length ≤ 1099511627776) : ∃ τ',semF C f_strings_Builder_String [.ref o 0] τ = some (.str w,τ') ∧ (τ' = τ ∨ ∃ q,qo = some q ∧ τ' = τ.set q .dead):=by
 obtain ⟨p,b,h1,h2,h3⟩:=hb
 rcases h3 with ⟨e1,e2,e3⟩ | ⟨q,e1,e2,e3,e4,e5⟩
 ·subst e2 e3
  exact ⟨τ,H.str0 τ o p h1,.inl rfl⟩
 ·subst e4
  exact ⟨_,H.str1 τ o q p w h1 e5 e3 hl,.inr ⟨q,e1,rfl⟩⟩
theorem nets_is (H : NetHas C) (l : List (List UInt8)) (hl : (l.flatMap net).length ≤ 1099511627776) (hn : l.length ≤ 1099511627776) {x : AV} {τ σ : St} (hn' : hand false [x] τ = some ([.sl l.length (l.map .str)],σ)) (hσ : Ok σ) (hlen : τ.length = σ.length) : semF C f_script_nets [x] τ = some (.str (l.flatMap net),σ):=by
 rw [H.nets.go2 hn' (by simp [K_script_nets])]
 have ok1 : Ok (σ ++ [.cells [.nilp,.nils] bT]):=st_ok hσ (by rfl)
 have bk1 : Bk (σ ++ [.cells [.nilp,.nils] bT]) σ.length [] none:=⟨.nilp,.nils,by rw [st_get0]; rfl,.inl rfl,.inl ⟨rfl,rfl,rfl⟩⟩
 obtain ⟨τ',qo',f1,f2,f3⟩:=nets_loop H l hn σ.length l.length 0 (by omega) _ [] none ok1 bk1 (by simpa using hl)
 obtain ⟨L,hL⟩:=f3.pre (σ:=σ) (fun i hi=>List.getElem?_append_left hi) (Nat.le_refl _) (fun i e=>by cases e) (by simp)
 rw [List.nil_append,List.drop_zero] at f2
 obtain ⟨τ2,g1,g2⟩:=f2.str H.toBldHas hl
 have : ∃ L2,τ2 = σ ++ L2:=by
  rcases g2 with rfl | ⟨q,e1,rfl⟩
  ·exact ⟨L,hL⟩
  ·have hq : σ.length ≤ q:=by
    rcases f3.q q e1 with e | e
    ·cases e
    ·simp at e; omega
   rw [hL,List.set_append_right _ _ hq]
   exact ⟨_,rfl⟩
 obtain ⟨L2,hL2⟩:=this
 rw [hL2] at g1
 have ty:=fun (s : List UInt8) L=>st_tidy hσ (vs:=[.str s]) rfl L
 simp only [Int.natCast_zero] at f1
 dsimp only [bT] at f1 ok1 bk1
 rw [hlen]
 simp only [K_script_nets,f1,g1,ty,EVC,EVD,EVB,Nat.reduceEqDiff,eqOp,eqA,eqNil,lenA,asNat,optNat,pt,tupleOf,Nat.reduceSub,Nat.reduceGT,Nat.reduceLT,hand,norms,normVs,normV,freeze,reduceIte,reduceCtorEq,srcCells,slCells,isStr,fillA,rep,asObj,outSl,Nat.reduceMul,Nat.reduceLeDiff,Int.reduceToNat,Int.reduceLE,Int.reduceLT,Int.reduceEq,Nat.reduceAdd,Int.reduceBNe,Int.reduceBEq,Int.reduceNeg]
theorem strs_hand (l : List (List UInt8)) (σ : St) : hand false [.sl l.length (l.map .str)] σ = some ([.sl l.length (l.map .str)],σ):=NVs.hand (.cons (.sl _ (belows_strs l)) .nil) σ
theorem xs_hand (l : List (List UInt8)) (n : Nat) (hn : n = l.length) (σ : St) : hand false [.xsl n (l.map .str)] σ = some ([.sl l.length (l.map .str)],σ):=by
 subst hn
 have q:=(strs_nv l).nf σ (norms σ 11)
 show (match (match (match normVs σ (norms σ 11) (l.map .str) with | some (l',fs)=>some (AV.sl l.length l',fs) | none=>none),normVs σ (norms σ 11) [] with | some (v,fs),some (l,gs)=>some (v :: l,fs ++ gs) | _,_=>none) with | some (l,fs)=>some (l,freeze σ fs) | none=>none) = _
 rw [q]
 rfl
structure Trw (τ : St) (qo : Option Nat) (τ' : St) (qo' : Option Nat) : Prop where
 ok : Ok τ'
 len : τ.length ≤ τ'.length
 old : ∀ i x,qo ≠ some i → τ[i]? = some x → τ'[i]? = some x
 q : ∀ i,qo' = some i → qo = some i ∨ τ.length ≤ i
theorem Trw.refl {τ : St} {qo : Option Nat} (h : Ok τ) : Trw τ qo τ qo:=⟨h,Nat.le_refl _,fun _ _ _ h=>h,fun _ h=>.inl h⟩
theorem Trw.trans {τ τ1 τ2 : St} {qo q1 q2 : Option Nat} (h : Trw τ qo τ1 q1) (k : Trw τ1 q1 τ2 q2) : Trw τ qo τ2 q2 where
 ok:=k.ok
 len:=Nat.le_trans h.len k.len
 old:=fun i x hq hx=>k.old i x (fun e=>by
  rcases h.q i e with e | e
  ·exact hq e
  ·have:=(List.getElem?_eq_some_iff.mp hx).1
   omega) (h.old i x hq hx)
 q:=fun i e=>by
   rcases k.q i e with e | e
   ·exact h.q i e
   ·have:=h.len
    exact .inr (by omega)
theorem Trw.plus {τ : St} {qo : Option Nat} (h : Ok τ) {L : St} (hL : L.all (AO.below (τ.length + L.length)) = true) : Trw τ qo (τ ++ L) qo:=⟨h.app hL,by simp,fun _ _ _ hx=>sy_old hx L,fun _ e=>.inl e⟩
def Rw (τ : St) (x : AV) (l : List (List UInt8)) (qo : Option Nat) : Prop:=(x = .nils ∧ l = [] ∧ qo = none) ∨ ∃ q,qo = some q ∧ x = .msl q 0 l.length 1 ∧ l ≠ [] ∧ τ[q]? = some (.cells (l.map .str) ⟨false,none⟩)
theorem Rw.lt {τ : St} {x : AV} {l : List (List UInt8)} {qo : Option Nat} (h : Rw τ x l qo) {i : Nat} (e : qo = some i) : i < τ.length:=by
 rcases h with ⟨_,_,h⟩ | ⟨q,e1,_,_,e4⟩
 ·rw [h] at e; cases e
 ·rw [e1] at e
  cases e
  exact (List.getElem?_eq_some_iff.mp e4).1
theorem Rw.keep {τ τ' : St} {x : AV} {l : List (List UInt8)} {qo : Option Nat} (h : Rw τ x l qo) (k : ∀ q,qo = some q → τ'[q]? = τ[q]?) : Rw τ' x l qo:=by
 rcases h with h | ⟨q,e1,e2,e3,e4⟩
 ·exact .inl h
 ·exact .inr ⟨q,e1,e2,e3,by rw [k q e1]; exact e4⟩
theorem Rw.app {τ : St} {x : AV} {l : List (List UInt8)} {qo : Option Nat} (hτ : Ok τ) (h : Rw τ x l qo) (s : List UInt8) (hl : l.length < 1099511627776) :
  ∃ x' τ' q',appA τ 1 16 none x 1 [.str s] = some (x',τ') ∧ Rw τ' x' (l ++ [s]) (some q') ∧ Trw τ qo τ' (some q'):=by
 have lb : ([.cells ((l ++ [s]).map .str) ⟨false,none⟩] : St).all (AO.below 0) = true:=by
  simp only [List.all_cons,List.all_nil,Bool.and_true,AO.below]
  exact belows_strs _
 rcases h with ⟨rfl,rfl,rfl⟩ | ⟨q,rfl,rfl,e3,e4⟩
 ·refine ⟨_,_,τ.length,ap_nils τ none _ (by decide) (by decide) (by decide),.inr ⟨_,rfl,rfl,by simp,by rw [st_get0]; rfl⟩,hτ.plus lb,by simp,fun i y _ hy=>sy_old hy _,fun i e=>.inr (by cases e; exact Nat.le_refl _)⟩
 ·have hl2 : (l.map AV.str).length = l.length * 1:=by simp
  refine ⟨_,_,τ.length,ap_msl [.str s] e4 (by decide) hl2 (by omega) (by omega),.inr ⟨_,rfl,by simp,by simp,?_⟩,?_,by simp,fun i y hi hy=>?_,fun i e=>.inr (by cases e; exact Nat.le_refl _)⟩
  ·rw [sy_get0 (by simp)]; simp
  ·have:=(hτ.set q (x:=.dead) rfl).plus (L:=[.cells (l.map AV.str ++ [.str s]) ⟨false,none⟩]) (by rw [List.map_append] at lb; exact lb)
   exact this
  ·exact sy_old (set_old hy (fun e=>hi (by rw [e])) _) _
theorem Rw.hand {τ : St} {x : AV} {l : List (List UInt8)} {qo : Option Nat} (hτ : Ok τ) (h : Rw τ x l qo) : ∃ τ',hand false [x] τ = some ([.sl l.length (l.map .str)],τ') ∧ Trw τ qo τ' qo ∧ τ.length = τ'.length:=by
 rcases h with ⟨rfl,rfl,rfl⟩ | ⟨q,rfl,rfl,e3,e4⟩
 ·exact ⟨τ,rfl,.refl hτ,rfl⟩
 ·have nv:=nv_msl (n:=l.length) (sz:=1) e4 (by simp) (strs_nv l)
  refine ⟨τ.set q (.cells (l.map .str) ⟨true,none⟩),?_,⟨hτ.set q (x:=.cells (l.map .str) ⟨true,none⟩) (belows_strs l),by simp,fun i y hi hy=>set_old hy (fun e=>hi (by rw [e])) _,fun i e=>.inl e⟩,by simp⟩
  show (match (match normV τ (norms τ 11) (.msl q 0 l.length 1),normVs τ (norms τ 11) [] with | some (v,fs),some (l,gs)=>some (v :: l,fs ++ gs) | _,_=>none) with | some (l,fs)=>some (l,freeze τ fs) | none=>none) = _
  rw [nv]
  show some (_,freeze τ [q]) = _
  rw [freeze_one e4]
end Go.Ev
namespace Go.Ev
set_option maxRecDepth 100000
set_option linter.unusedSimpArgs false
set_option linter.unusedVariables false
variable {C : Ctx}
theorem nets_row (H : NetHas C) {τ : St} {x : AV} {l : List (List UInt8)} {qo : Option Nat} (hτ : Ok τ) (h : Rw τ x l qo) (hl : (l.flatMap net).length ≤ 1099511627776) (hn : l.length ≤ 1099511627776) : ∃ τ',semF C f_script_nets [x] τ = some (.str (l.flatMap net),τ') ∧ Trw τ qo τ' qo:=by
 obtain ⟨τ',h1,h2,h3⟩:=h.hand hτ
 exact ⟨τ',nets_is H l hl hn h1 h2.ok h3,h2⟩
theorem nets_xs (H : NetHas C) (l : List (List UInt8)) (hl : (l.flatMap net).length ≤ 1099511627776) (n : Nat) (hn : n = l.length) (hn2 : l.length ≤ 1099511627776) (σ : St) (hσ : Ok σ) : semF C f_script_nets [.xsl n (l.map .str)] σ = some (.str (l.flatMap net),σ):=nets_is H l hl hn2 (xs_hand l n hn σ) hσ rfl
theorem nets_sl (H : NetHas C) (l : List (List UInt8)) (hl : (l.flatMap net).length ≤ 1099511627776) (hn2 : l.length ≤ 1099511627776) (σ : St) (hσ : Ok σ) : semF C f_script_nets [.sl l.length (l.map .str)] σ = some (.str (l.flatMap net),σ):=nets_is H l hl hn2 (strs_hand l σ) hσ rfl
theorem net_len (s : List UInt8) (hs : s.length ≤ 1099511627776) : (net s).length ≤ s.length + 23:=by
 have:=dec_len s.length (by omega) (by omega)
 simp [net]; omega
structure VerV where
 id : List UInt8
 sg : List UInt8
 dig : List UInt8
def VerV.cs (v : VerV) : List AV:=[.str v.id,.str v.sg,.str v.dig]
def VerV.tx (v : VerV) : List UInt8:=[v.id,v.sg,v.dig].flatMap net
structure FileV where
 name : List UInt8
 data : List UInt8
def FileV.cs (v : FileV) : List AV:=[.str v.name,.str v.data]
def FileV.tx (v : FileV) : List UInt8:=[v.name,v.data].flatMap net
def filesA (l : List FileV) : AV:=.sl l.length (l.flatMap FileV.cs)
structure StoreV where
 name : List UInt8
 root : List UInt8
 files : List FileV
def StoreV.cs (v : StoreV) : List AV:=[.str v.name,.str v.root,filesA v.files]
def StoreV.tx (v : StoreV) : List UInt8:=[v.name,v.root,(v.files.map FileV.tx).flatMap net].flatMap net
theorem VerV.len (h : VerV) : h.cs.length = 3:=rfl
theorem FileV.len (h : FileV) : h.cs.length = 2:=rfl
theorem StoreV.len (h : StoreV) : h.cs.length = 3:=rfl
theorem VerV.below (h : VerV) : belows 0 h.cs = true:=rfl
theorem FileV.below (h : FileV) : belows 0 h.cs = true:=rfl
theorem files_nv (l : List FileV) : NV (filesA l):=.sl _ (flat_below FileV.below l)
theorem StoreV.below (h : StoreV) : belows 0 h.cs = true:=by
 simp only [StoreV.cs,belows,(files_nv h.files).cl]; rfl
def VerV.few (v : VerV) : Prop:=v.id.length ≤ 1000000 ∧ v.sg.length ≤ 1000000 ∧ v.dig.length ≤ 1000000
def FileV.few (v : FileV) : Prop:=v.name.length ≤ 1000000 ∧ v.data.length ≤ 1000000
theorem VerV.tx_len (v : VerV) (h : v.few) : v.tx.length ≤ 4000000:=by
 obtain ⟨h1,h2,h3⟩:=h
 have a1:=net_len v.id (by omega)
 have a2:=net_len v.sg (by omega)
 have a3:=net_len v.dig (by omega)
 simp [VerV.tx]; omega
theorem FileV.tx_len (v : FileV) (h : v.few) : v.tx.length ≤ 3000000:=by
 obtain ⟨h1,h2⟩:=h
 have a1:=net_len v.name (by omega)
 have a2:=net_len v.data (by omega)
 simp [FileV.tx]; omega
theorem ver_loop (H : NetHas C) (l : List VerV) (hn : l.length ≤ 1000000) (hf : ∀ v ∈ l,v.few) (b : Nat) (wd y : AV) : ∀ (n i : Nat),i + n = l.length → ∀ (τ : St) (x : AV) (acc : List (List UInt8)) (qo : Option Nat),Ok τ → Rw τ x acc qo → acc.length + n ≤ 1000000 →
  ∃ τ' x' q',loopK C (semF C) 109 [1,4,5,6,23,24,25] L_script_Show_0 [(1,.ref b 0),(4,wd),(5,x),(6,y),(23,.sl l.length (l.flatMap VerV.cs)),(24,.int .i64 l.length),(25,.int .i64 i)] τ = some (.exit 0,[(1,.ref b 0),(4,wd),(5,x'),(6,y)],τ') ∧ Rw τ' x' (acc ++ (l.drop i).map VerV.tx) q' ∧ Trw τ qo τ' q'
 | 0,i,hi,τ,x,acc,qo,hτ,hb,hl=>by
   have e : l.drop i = []:=List.drop_eq_nil_of_le (by omega)
   refine ⟨τ,x,qo,?_,by rw [e]; simpa using hb,.refl hτ⟩
   rw [loop_eq (he:=rfl)]
   have h : ¬ ((i : Int) < (l.length : Int)):=by omega
   simp only [L_script_Show_0,h,EVC,EVD,EVB,Nat.reduceEqDiff,eqOp,eqA,eqNil,lenA,asNat,optNat,pt,tupleOf,Nat.reduceSub,Nat.reduceGT,Nat.reduceLT,hand,norms,normVs,normV,freeze,reduceIte,reduceCtorEq,srcCells,slCells,isStr,fillA,rep,asObj,outSl,Nat.reduceMul,Nat.reduceLeDiff,Int.reduceToNat,Int.reduceLE,Int.reduceLT,Int.reduceEq,Nat.reduceAdd,Int.reduceBNe,Int.reduceBEq,Int.reduceNeg]
 | n + 1,i,hi,τ,x,acc,qo,hτ,hb,hl=>by
   have h : ((i : Int) < (l.length : Int)):=by omega
   have h2 : i < l.length:=by omega
   have w2 : IntKind.i64.wrap ((i : Int) + 1) = ((i + 1 : Nat) : Int):=by rw [w64] <;> omega
   have p2 : (0 : Int) ≤ (i : Int):=by omega
   have fl:=flat_len VerV.len l
   have fd:=flat_at VerV.len (List.getElem?_eq_getElem h2)
   have dn : l.drop i = l[i] :: l.drop (i + 1):=List.drop_eq_getElem_cons h2
   have hv:=hf _ (List.getElem_mem h2)
   generalize l[i] = v at *
   have vt:=VerV.tx_len v hv
   have o1 : Ok (τ ++ [.cells v.cs ⟨false,none⟩]):=st_ok hτ (by rfl)
   have tr1 : Trw τ qo (τ ++ [.cells v.cs ⟨false,none⟩]) qo:=.plus hτ (by rfl)
   have r1 : Rw (τ ++ [.cells v.cs ⟨false,none⟩]) x acc qo:=hb.keep (fun q e=>List.getElem?_append_left (hb.lt e))
   have q1:=nets_xs H [v.id,v.sg,v.dig] (by unfold VerV.tx at vt; omega) 3 rfl (by simp) _ o1
   obtain ⟨x',τ2,q2,a1,a2,a3⟩:=r1.app o1 v.tx (by omega)
   obtain ⟨τ3,x3,q3,b1,b2,b3⟩:=ver_loop H l hn hf b wd y n (i + 1) (by omega) τ2 x' _ _ a3.ok a2 (by simp; omega)
   refine ⟨τ3,x3,q3,?_,by rw [dn]; simpa using b2,(tr1.trans a3).trans b3⟩
   rw [loop_eq (he:=rfl)]
   generalize hk : loopK C (semF C) 109 [1,4,5,6,23,24,25] L_script_Show_0 = k at *
   have vx : [v.id,v.sg,v.dig].flatMap net = v.tx:=rfl
   rw [vx] at q1
   unfold VerV.cs at *
   simp only [List.map_cons,List.map_nil] at q1
   simp only [L_script_Show_0,h,h2,w2,p2,fl,fd,q1,a1,b1,st_get0,st_set0,splice,EVC,EVD,EVB,Nat.reduceEqDiff,eqOp,eqA,eqNil,lenA,asNat,optNat,pt,tupleOf,Nat.reduceSub,Nat.reduceGT,Nat.reduceLT,hand,norms,normVs,normV,freeze,reduceIte,reduceCtorEq,srcCells,slCells,isStr,fillA,rep,asObj,outSl,Nat.reduceMul,Nat.reduceLeDiff,Int.reduceToNat,Int.reduceLE,Int.reduceLT,Int.reduceEq,Nat.reduceAdd,Int.reduceBNe,Int.reduceBEq,Int.reduceNeg]
end Go.Ev
namespace Go.Ev
set_option maxRecDepth 100000
set_option linter.unusedSimpArgs false
set_option linter.unusedVariables false
variable {C : Ctx}
theorem file_loop (H : NetHas C) (l : List FileV) (hn : l.length ≤ 1000000) (hf : ∀ v ∈ l,v.few) (b c : Nat) (wd y z u1 u2 u3 : AV) : ∀ (n i : Nat),i + n = l.length → ∀ (τ : St) (x : AV) (acc : List (List UInt8)) (qo : Option Nat),Ok τ → Rw τ x acc qo → acc.length + n ≤ 1000000 →
  ∃ τ' x' q',loopK C (semF C) 109 [1,4,5,6,10,11,42,43,44,49,50,51] L_script_Show_1 [(1,.ref b 0),(4,wd),(5,y),(6,z),(10,.ref c 0),(11,x),(42,u1),(43,u2),(44,u3),(49,.sl l.length (l.flatMap FileV.cs)),(50,.int .i64 l.length),(51,.int .i64 i)] τ = some (.exit 4,[(1,.ref b 0),(4,wd),(5,y),(6,z),(10,.ref c 0),(11,x'),(42,u1),(43,u2),(44,u3)],τ') ∧ Rw τ' x' (acc ++ (l.drop i).map FileV.tx) q' ∧ Trw τ qo τ' q'
 | 0,i,hi,τ,x,acc,qo,hτ,hb,hl=>by
   have e : l.drop i = []:=List.drop_eq_nil_of_le (by omega)
   refine ⟨τ,x,qo,?_,by rw [e]; simpa using hb,.refl hτ⟩
   rw [loop_eq (he:=rfl)]
   have h : ¬ ((i : Int) < (l.length : Int)):=by omega
   simp only [L_script_Show_1,h,EVC,EVD,EVB,Nat.reduceEqDiff,eqOp,eqA,eqNil,lenA,asNat,optNat,pt,tupleOf,Nat.reduceSub,Nat.reduceGT,Nat.reduceLT,hand,norms,normVs,normV,freeze,reduceIte,reduceCtorEq,srcCells,slCells,isStr,fillA,rep,asObj,outSl,Nat.reduceMul,Nat.reduceLeDiff,Int.reduceToNat,Int.reduceLE,Int.reduceLT,Int.reduceEq,Nat.reduceAdd,Int.reduceBNe,Int.reduceBEq,Int.reduceNeg]
 | n + 1,i,hi,τ,x,acc,qo,hτ,hb,hl=>by
   have h : ((i : Int) < (l.length : Int)):=by omega
   have h2 : i < l.length:=by omega
   have w2 : IntKind.i64.wrap ((i : Int) + 1) = ((i + 1 : Nat) : Int):=by rw [w64] <;> omega
   have p2 : (0 : Int) ≤ (i : Int):=by omega
   have fl:=flat_len FileV.len l
   have fd:=flat_at FileV.len (List.getElem?_eq_getElem h2)
   have dn : l.drop i = l[i] :: l.drop (i + 1):=List.drop_eq_getElem_cons h2
   have hv:=hf _ (List.getElem_mem h2)
   generalize l[i] = v at *
   have vt:=FileV.tx_len v hv
   have o1 : Ok (τ ++ [.cells v.cs ⟨false,none⟩]):=st_ok hτ (by rfl)
   have tr1 : Trw τ qo (τ ++ [.cells v.cs ⟨false,none⟩]) qo:=.plus hτ (by rfl)
   have r1 : Rw (τ ++ [.cells v.cs ⟨false,none⟩]) x acc qo:=hb.keep (fun q e=>List.getElem?_append_left (hb.lt e))
   have q1:=nets_xs H [v.name,v.data] (by unfold FileV.tx at vt; omega) 2 rfl (by simp) _ o1
   obtain ⟨x',τ2,q2,a1,a2,a3⟩:=r1.app o1 v.tx (by omega)
   obtain ⟨τ3,x3,q3,b1,b2,b3⟩:=file_loop H l hn hf b c wd y z u1 u2 u3 n (i + 1) (by omega) τ2 x' _ _ a3.ok a2 (by simp; omega)
   refine ⟨τ3,x3,q3,?_,by rw [dn]; simpa using b2,(tr1.trans a3).trans b3⟩
   rw [loop_eq (he:=rfl)]
   generalize hk : loopK C (semF C) 109 [1,4,5,6,10,11,42,43,44,49,50,51] L_script_Show_1 = k at *
   have vx : [v.name,v.data].flatMap net = v.tx:=rfl
   rw [vx] at q1
   unfold FileV.cs at *
   simp only [List.map_cons,List.map_nil] at q1
   simp only [L_script_Show_1,h,h2,w2,p2,fl,fd,q1,a1,b1,st_get0,st_set0,splice,EVC,EVD,EVB,Nat.reduceEqDiff,eqOp,eqA,eqNil,lenA,asNat,optNat,pt,tupleOf,Nat.reduceSub,Nat.reduceGT,Nat.reduceLT,hand,norms,normVs,normV,freeze,reduceIte,reduceCtorEq,srcCells,slCells,isStr,fillA,rep,asObj,outSl,Nat.reduceMul,Nat.reduceLeDiff,Int.reduceToNat,Int.reduceLE,Int.reduceLT,Int.reduceEq,Nat.reduceAdd,Int.reduceBNe,Int.reduceBEq,Int.reduceNeg]
theorem sum_len : ∀ (l : List (List UInt8)) (k : Nat),(∀ x ∈ l,x.length ≤ k) → k ≤ 1099511627776 → (l.flatMap net).length ≤ l.length * (k + 23)
 | [],_,_,_=>by simp
 | x :: l,k,h,hk=>by
   have h1:=h x (by simp)
   have h2:=net_len x (by omega)
   have h3:=sum_len l k (fun y hy=>h y (by simp [hy])) hk
   rw [List.flatMap_cons,List.length_append,List.length_cons,Nat.add_mul]
   omega
def StoreV.few (v : StoreV) : Prop:=v.name.length ≤ 1000000 ∧ v.root.length ≤ 1000000 ∧ v.files.length ≤ 1000 ∧ ∀ f ∈ v.files,f.few
theorem StoreV.files_len (v : StoreV) (h : v.few) : ((v.files.map FileV.tx).flatMap net).length ≤ 3100000000:=by
 obtain ⟨h1,h2,h3,h4⟩:=h
 have:=sum_len (v.files.map FileV.tx) 3000000 (fun x hx=>by
  obtain ⟨f,hf,rfl⟩:=List.mem_map.mp hx
  exact f.tx_len (h4 f hf)) (by decide)
 rw [List.length_map] at this
 have h5 : v.files.length * (3000000 + 23) ≤ 1000 * (3000000 + 23):=Nat.mul_le_mul_right _ h3
 omega
theorem StoreV.tx_len (v : StoreV) (h : v.few) : v.tx.length ≤ 3200000000:=by
 have a0:=v.files_len h
 obtain ⟨h1,h2,h3,h4⟩:=h
 have a1:=net_len v.name (by omega)
 have a2:=net_len v.root (by omega)
 have a3:=net_len _ (Nat.le_trans a0 (by decide))
 simp only [StoreV.tx,List.flatMap_cons,List.flatMap_nil,List.length_append,List.length_nil]; omega
theorem store_loop (H : NetHas C) (l : List StoreV) (hn : l.length ≤ 1000000) (hf : ∀ v ∈ l,v.few) (b : Nat) (wd y : AV) : ∀ (n i : Nat),i + n = l.length → ∀ (τ : St) (x : AV) (acc : List (List UInt8)) (qo : Option Nat),Ok τ → Rw τ x acc qo → acc.length + n ≤ 1000000 →
  ∃ τ' x' q',loopK C (semF C) 109 [1,4,5,6,42,43,44] L_script_Show_2 [(1,.ref b 0),(4,wd),(5,y),(6,x),(42,.sl l.length (l.flatMap StoreV.cs)),(43,.int .i64 l.length),(44,.int .i64 i)] τ = some (.exit 2,[(1,.ref b 0),(4,wd),(5,y),(6,x')],τ') ∧ Rw τ' x' (acc ++ (l.drop i).map StoreV.tx) q' ∧ Trw τ qo τ' q'
 | 0,i,hi,τ,x,acc,qo,hτ,hb,hl=>by
   have e : l.drop i = []:=List.drop_eq_nil_of_le (by omega)
   refine ⟨τ,x,qo,?_,by rw [e]; simpa using hb,.refl hτ⟩
   rw [loop_eq (he:=rfl)]
   have h : ¬ ((i : Int) < (l.length : Int)):=by omega
   simp only [L_script_Show_2,h,EVC,EVD,EVB,Nat.reduceEqDiff,eqOp,eqA,eqNil,lenA,asNat,optNat,pt,tupleOf,Nat.reduceSub,Nat.reduceGT,Nat.reduceLT,hand,norms,normVs,normV,freeze,reduceIte,reduceCtorEq,srcCells,slCells,isStr,fillA,rep,asObj,outSl,Nat.reduceMul,Nat.reduceLeDiff,Int.reduceToNat,Int.reduceLE,Int.reduceLT,Int.reduceEq,Nat.reduceAdd,Int.reduceBNe,Int.reduceBEq,Int.reduceNeg]
 | n + 1,i,hi,τ,x,acc,qo,hτ,hb,hl=>by
   have h : ((i : Int) < (l.length : Int)):=by omega
   have h2 : i < l.length:=by omega
   have w2 : IntKind.i64.wrap ((i : Int) + 1) = ((i + 1 : Nat) : Int):=by rw [w64] <;> omega
   have p2 : (0 : Int) ≤ (i : Int):=by omega
   have fl:=flat_len StoreV.len l
   have fd:=flat_at StoreV.len (List.getElem?_eq_getElem h2)
   have dn : l.drop i = l[i] :: l.drop (i + 1):=List.drop_eq_getElem_cons h2
   have hv:=hf _ (List.getElem_mem h2)
   generalize l[i] = v at *
   have vt:=StoreV.tx_len v hv
   have vf:=v.files_len hv
   obtain ⟨f1,f2,f3,f4⟩:=hv
   have o1 : Ok (τ ++ [.cells v.cs ⟨false,none⟩]):=st_ok hτ (by simp only [List.all_cons,List.all_nil,Bool.and_true,AO.below]; exact belows_mono (Nat.zero_le _) _ v.below)
   have tr1 : Trw τ qo (τ ++ [.cells v.cs ⟨false,none⟩]) qo:=.plus hτ (by simp only [List.all_cons,List.all_nil,Bool.and_true,AO.below]; exact belows_mono (Nat.zero_le _) _ v.below)
   have trn : Trw τ none (τ ++ [.cells v.cs ⟨false,none⟩]) none:=.plus hτ (by simp only [List.all_cons,List.all_nil,Bool.and_true,AO.below]; exact belows_mono (Nat.zero_le _) _ v.below)
   obtain ⟨τ1,x1,q1,a1,a2,a3⟩:=file_loop H v.files (by omega) f4 b τ.length wd y x (.sl l.length (l.flatMap StoreV.cs)) (.int .i64 l.length) (.int .i64 i) v.files.length 0 (by omega) _ .nils [] none o1 (.inl ⟨rfl,rfl,rfl⟩) (by simp; omega)
   rw [List.drop_zero,List.nil_append] at a2
   simp only [Int.cast_ofNat_Int,Int.natCast_zero] at a1
   obtain ⟨τ2,c1,c2⟩:=nets_row H a3.ok a2 (by omega) (by simp; omega)
   have T2:=(trn.trans a3).trans c2
   have q1' : ∀ q,qo = some q → q1 ≠ some q:=fun q e e1=>by
    have:=hb.lt e
    rcases a3.q q e1 with e | e
    ·cases e
    ·simp at e; omega
   have bx : (τ ++ [AO.cells v.cs ⟨false,none⟩] : St)[τ.length]? = some (.cells v.cs ⟨false,none⟩):=by rw [st_get0]; rfl
   have nq1 : q1 ≠ some τ.length:=fun e=>by
    rcases a3.q _ e with e | e
    ·cases e
    ·simp at e; omega
   have b1:=a3.old _ _ (by simp) bx
   have b2:=c2.old _ _ nq1 b1
   have r2 : Rw τ2 x acc qo:=hb.keep (fun q e=>by
    have:=List.getElem?_eq_getElem (hb.lt e)
    rw [this]
    exact c2.old _ _ (q1' q e) (a3.old _ _ (by simp) (sy_old this _)))
   have q3:=nets_xs H [v.name,v.root,(v.files.map FileV.tx).flatMap net] (by unfold StoreV.tx at vt; omega) 3 rfl (by simp) _ c2.ok
   obtain ⟨x',τ3,q2,d1,d2,d3⟩:=r2.app c2.ok v.tx (by omega)
   obtain ⟨τ4,x4,q4,e1,e2,e3⟩:=store_loop H l hn hf b wd y n (i + 1) (by omega) τ3 x' _ _ d3.ok d2 (by simp; omega)
   have T : Trw τ qo τ2 qo:=⟨c2.ok,T2.len,fun j z hj hz=>T2.old j z (by simp) hz,fun j e=>.inl e⟩
   refine ⟨τ4,x4,q4,?_,by rw [dn]; simpa using e2,(T.trans d3).trans e3⟩
   rw [loop_eq (he:=rfl)]
   generalize hk : loopK C (semF C) 109 [1,4,5,6,42,43,44] L_script_Show_2 = k at *
   have vx : [v.name,v.root,(v.files.map FileV.tx).flatMap net].flatMap net = v.tx:=rfl
   rw [vx] at q3
   generalize (v.files.map FileV.tx).flatMap net = ft at *
   unfold StoreV.cs filesA at *
   simp only [List.map_cons,List.map_nil] at q3
   simp only [L_script_Show_2,h,h2,w2,p2,fl,fd,a1,b1,b2,c1,q3,d1,e1,st_get0,st_set0,splice,EVC,EVD,EVB,Nat.reduceEqDiff,eqOp,eqA,eqNil,lenA,asNat,optNat,pt,tupleOf,Nat.reduceSub,Nat.reduceGT,Nat.reduceLT,hand,norms,normVs,normV,freeze,reduceIte,reduceCtorEq,srcCells,slCells,isStr,fillA,rep,asObj,outSl,Nat.reduceMul,Nat.reduceLeDiff,Int.reduceToNat,Int.reduceLE,Int.reduceLT,Int.reduceEq,Nat.reduceAdd,Int.reduceBNe,Int.reduceBEq,Int.reduceNeg]
end Go.Ev
