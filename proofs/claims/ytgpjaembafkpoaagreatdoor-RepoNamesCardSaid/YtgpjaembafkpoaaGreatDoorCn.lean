/- Code of functions as the evaluator has it, and what some of them compute. No conditions. -/
import Derived.Test.YtgpjaembafkpoaaGreatDoorEvC
set_option linter.unusedVariables false
set_option linter.unusedSimpArgs false
namespace Go.Ev
abbrev f_legatelaw28_RepoNames : FuncId := 3
abbrev f_legatelaw28_awake : FuncId := 4
abbrev f_legatelaw28_ex : FuncId := 5
abbrev f_legatelaw28_made : FuncId := 6
abbrev f_repo_Repo_Snapshot : FuncId := 7
abbrev f_repo_Repo_Targets : FuncId := 8
abbrev f_repo_Repo_Expired : FuncId := 9
abbrev f_legatelaw28_fetched : FuncId := 10
abbrev f_legatelaw28_own : FuncId := 11
abbrev f_repo_Repo_Role : FuncId := 12
abbrev f_repo_Repo_Name : FuncId := 13
abbrev f_repo_Repo_Fetched : FuncId := 14
abbrev f_repo_Repo_Copy : FuncId := 15
abbrev f_legateref22_Same : FuncId := 16
abbrev f_repo_Repo_Root : FuncId := 17
abbrev f_legateref26_Same : FuncId := 18
abbrev f_root_Value : FuncId := 19
abbrev f_snap_Value : FuncId := 20
abbrev f_targ_Value : FuncId := 21
abbrev f_legatelaw28_text : FuncId := 22
abbrev f_repo_New : FuncId := 23
abbrev f_legatelaw28_verifier : FuncId := 24
abbrev f_repo_Repo_Snapshot_1 : FuncId := 25
abbrev f_repo_caught : FuncId := 26
abbrev f_repo_Repo_snapshot : FuncId := 27
abbrev f_repo_Repo_made : FuncId := 28
abbrev f_key_ID : FuncId := 29
abbrev f_repo_Repo_Role_1 : FuncId := 30
abbrev f_repo_Repo_targets : FuncId := 31
abbrev f_store_Store_Repo : FuncId := 32
abbrev f_store_Store_Fetched : FuncId := 33
abbrev f_store_Store_Copy : FuncId := 34
abbrev f_legateref14_Same : FuncId := 35
abbrev f_legateref15_Same : FuncId := 36
abbrev f_slices_Clone_api_Key_api_Key : FuncId := 37
abbrev f_repo_copyAuth : FuncId := 38
abbrev f_root_May : FuncId := 39
abbrev f_when_Show : FuncId := 40
abbrev f_key_Table : FuncId := 41
abbrev f_root_auths : FuncId := 42
abbrev f_auth_Value : FuncId := 43
abbrev f_pick_ObjectOf : FuncId := 44
abbrev f_pick_TextOf : FuncId := 45
abbrev f_pick_NumOf : FuncId := 46
abbrev f_snap_May : FuncId := 47
abbrev f_snap_PinValue : FuncId := 48
abbrev f_targ_May : FuncId := 49
abbrev f_targ_object : FuncId := 50
abbrev f_sign_Signed : FuncId := 51
abbrev f_judge_Make : FuncId := 52
abbrev f_sign_Show : FuncId := 53
abbrev f_store_New : FuncId := 54
abbrev f_repo_mayCap : FuncId := 55
abbrev f_check_Root : FuncId := 56
abbrev f_judge_HMAC : FuncId := 57
abbrev f_judge_Table : FuncId := 58
abbrev f_repo_Repo_fetch : FuncId := 59
abbrev f_check_Snapshot : FuncId := 60
abbrev f_key_Value : FuncId := 61
abbrev f_canon_Encode : FuncId := 62
abbrev f_sha_Digest : FuncId := 63
abbrev f_check_Cap : FuncId := 64
abbrev f_check_Role : FuncId := 65
abbrev f_store_Store_made : FuncId := 66
abbrev f_store_Store_Told : FuncId := 67
abbrev f_slices_Clone_api_File_api_File : FuncId := 68
abbrev f_slices_Clone_string_string : FuncId := 70
abbrev f_root_keysMay : FuncId := 71
abbrev f_auth_May : FuncId := 72
abbrev f_when_start : FuncId := 73
abbrev f_when_Days : FuncId := 74
abbrev f_when_pad : FuncId := 75
abbrev f_key_entryOf : FuncId := 76
abbrev f_slices_SortFunc_key_entry_key_entry : FuncId := 77
abbrev f_key_entry_compare : FuncId := 78
abbrev f_auth_Members : FuncId := 79
abbrev f_slices_Clone_pick_Member_pick_Member : FuncId := 80
abbrev f_slices_SortFunc_pick_Member_pick_Member : FuncId := 81
abbrev f_pick_ObjectOf_1 : FuncId := 82
abbrev f_strings_Compare : FuncId := 83
abbrev f_value_Copy : FuncId := 84
abbrev f_snap_MayPin : FuncId := 85
abbrev f_record_HashesValue : FuncId := 86
abbrev f_targ_listMay : FuncId := 87
abbrev f_deleg_May : FuncId := 88
abbrev f_value_May : FuncId := 89
abbrev f_record_Value : FuncId := 90
abbrev f_targ_empty : FuncId := 91
abbrev f_deleg_Value : FuncId := 92
abbrev f_sign_May : FuncId := 93
abbrev f_hex_Decode : FuncId := 94
abbrev f_hex_Encode : FuncId := 95
abbrev f_mac_Of : FuncId := 96
abbrev f_sign_object : FuncId := 97
abbrev f_name_Role : FuncId := 98
abbrev f_sign_Read : FuncId := 99
abbrev f_root_Of : FuncId := 100
abbrev f_judge_Enough : FuncId := 101
abbrev f_name_File : FuncId := 103
abbrev f_store_Store_Get : FuncId := 104
abbrev f_check_Snapshot_1 : FuncId := 105
abbrev f_snap_Of : FuncId := 106
abbrev f_check_first : FuncId := 107
abbrev f_check_file_missing : FuncId := 108
abbrev f_check_file_big : FuncId := 109
abbrev f_check_file_noText : FuncId := 110
abbrev f_check_file_noEnvelope : FuncId := 111
abbrev f_check_file_unsigned : FuncId := 112
abbrev f_check_file_expired : FuncId := 113
abbrev f_key_May : FuncId := 114
abbrev f_canon_Encode_1 : FuncId := 115
abbrev f_quote_Quote : FuncId := 116
abbrev f_strings_Builder_WriteString : FuncId := 117
abbrev f_canon_Encode_2 : FuncId := 118
abbrev f_num_Show : FuncId := 119
abbrev f_strings_Builder_WriteByte : FuncId := 120
abbrev f_strings_Builder_String : FuncId := 121
abbrev f_sha_Sum : FuncId := 122
abbrev f_snap_Pin : FuncId := 123
abbrev f_check_Role_1 : FuncId := 124
abbrev f_targ_Of : FuncId := 125
abbrev f_check_file_small : FuncId := 126
abbrev f_check_file_otherDigest : FuncId := 127
abbrev f_check_file_otherVersion : FuncId := 128
abbrev f_auth_wrong : FuncId := 130
abbrev f_when_leaps : FuncId := 131
abbrev f_when_leap : FuncId := 132
abbrev f_strconv_Itoa : FuncId := 133
abbrev f_strings_Repeat : FuncId := 134
abbrev f_slices_pdqsortCmpFunc_key_entry : FuncId := 135
abbrev f_math_bits_Len : FuncId := 136
abbrev f_pick_TextsOf : FuncId := 137
abbrev f_slices_pdqsortCmpFunc_pick_Member : FuncId := 138
abbrev f_internal_bytealg_CompareString : FuncId := 139
abbrev f_value_endless : FuncId := 140
abbrev f_value_duplicate : FuncId := 141
abbrev f_name_RoleOf : FuncId := 142
abbrev f_record_MayHashes : FuncId := 143
abbrev f_name_Path : FuncId := 145
abbrev f_record_May : FuncId := 146
abbrev f_deleg_keysMay : FuncId := 147
abbrev f_deleg_noBins : FuncId := 148
abbrev f_deleg_rolesMay : FuncId := 149
abbrev f_deleg_binsMay : FuncId := 150
abbrev f_deleg_object : FuncId := 151
abbrev f_value_may : FuncId := 152
abbrev f_sign_maySig : FuncId := 154
abbrev f_hex_Is : FuncId := 155
abbrev f_hex_Digit : FuncId := 156
abbrev f_mac_block : FuncId := 157
abbrev f_mac_combine : FuncId := 158
abbrev f_mac_Of_1 : FuncId := 159
abbrev f_mac_Of_2 : FuncId := 160
abbrev f_name_allowed : FuncId := 161
abbrev f_read_Read : FuncId := 162
abbrev f_sign_Of : FuncId := 163
abbrev f_pick_Of : FuncId := 164
abbrev f_pick_Obj_Text : FuncId := 165
abbrev f_pick_Obj_Fail : FuncId := 166
abbrev f_pick_Obj_Num : FuncId := 167
abbrev f_when_Read : FuncId := 168
abbrev f_key_Keys : FuncId := 169
abbrev f_pick_Obj_Object : FuncId := 170
abbrev f_root_authsOf : FuncId := 171
abbrev f_pick_Obj_Done : FuncId := 172
abbrev f_judge_Count : FuncId := 173
abbrev f_store_Store_fetch : FuncId := 174
abbrev f_snap_parts : FuncId := 175
abbrev f_when_Over : FuncId := 176
abbrev f_utf_Valid : FuncId := 177
abbrev f_strings_Builder_copyCheck : FuncId := 178
abbrev f_strconv_FormatInt : FuncId := 179
abbrev f_sha_New : FuncId := 180
abbrev f_sha_Hash_Write : FuncId := 181
abbrev f_sha_Hash_Sum : FuncId := 182
abbrev f_slices_Clone_api_Hash_api_Hash : FuncId := 183
abbrev f_targ_listOf : FuncId := 184
abbrev f_pick_Obj_Has : FuncId := 185
abbrev f_deleg_Of : FuncId := 186
abbrev f_record_Hash : FuncId := 187
abbrev f_internal_strconv_Itoa : FuncId := 188
abbrev f_slices_insertionSortCmpFunc_key_entry : FuncId := 193
abbrev f_slices_heapSortCmpFunc_key_entry : FuncId := 194
abbrev f_slices_breakPatternsCmpFunc_key_entry : FuncId := 195
abbrev f_slices_choosePivotCmpFunc_key_entry : FuncId := 196
abbrev f_slices_reverseRangeCmpFunc_key_entry : FuncId := 197
abbrev f_slices_partialInsertionSortCmpFunc_key_entry : FuncId := 198
abbrev f_slices_partitionEqualCmpFunc_key_entry : FuncId := 199
abbrev f_slices_partitionCmpFunc_key_entry : FuncId := 200
abbrev f_math_bits_Len32 : FuncId := 201
abbrev f_math_bits_Len64 : FuncId := 202
abbrev f_slices_insertionSortCmpFunc_pick_Member : FuncId := 203
abbrev f_slices_heapSortCmpFunc_pick_Member : FuncId := 204
abbrev f_slices_breakPatternsCmpFunc_pick_Member : FuncId := 205
abbrev f_slices_choosePivotCmpFunc_pick_Member : FuncId := 206
abbrev f_slices_reverseRangeCmpFunc_pick_Member : FuncId := 207
abbrev f_slices_partialInsertionSortCmpFunc_pick_Member : FuncId := 208
abbrev f_slices_partitionEqualCmpFunc_pick_Member : FuncId := 209
abbrev f_slices_partitionCmpFunc_pick_Member : FuncId := 210
abbrev f_internal_bytealg_abigen_runtime_cmpstring : FuncId := 211
abbrev f_strings_CutSuffix : FuncId := 212
abbrev f_deleg_roleMay : FuncId := 215
abbrev f_deleg_hasName : FuncId := 216
abbrev f_deleg_roleObject : FuncId := 219
abbrev f_pick_ListOf : FuncId := 220
abbrev f_deleg_binsObject : FuncId := 221
abbrev f_value_proper : FuncId := 222
abbrev f_read_tokens_next : FuncId := 223
abbrev f_read_values_value : FuncId := 224
abbrev f_pick_Obj_List : FuncId := 225
abbrev f_sign_sigOf : FuncId := 226
abbrev f_pick_take_string : FuncId := 227
abbrev f_pick_Obj_Text_1 : FuncId := 228
abbrev f_pick_Obj_Err : FuncId := 229
abbrev f_pick_take_int64 : FuncId := 230
abbrev f_pick_Obj_Num_1 : FuncId := 231
abbrev f_when_digits : FuncId := 232
abbrev f_when_upTo : FuncId := 233
abbrev f_key_Of : FuncId := 234
abbrev f_pick_take_api_Value : FuncId := 235
abbrev f_pick_Obj_Object_1 : FuncId := 236
abbrev f_auth_Of : FuncId := 237
abbrev f_key_Find : FuncId := 238
abbrev f_judge_Verifier_has : FuncId := 239
abbrev f_snap_parseType : FuncId := 240
abbrev f_snap_parseVersion : FuncId := 241
abbrev f_snap_parseExpires : FuncId := 242
abbrev f_snap_parseMeta : FuncId := 243
abbrev f_internal_abi_NoEscape : FuncId := 245
abbrev f_internal_strconv_FormatInt : FuncId := 246
abbrev f_sha_Hash_mix : FuncId := 247
abbrev f_record_Of : FuncId := 248
abbrev f_value_Get : FuncId := 249
abbrev f_internal_stringslite_CutSuffix : FuncId := 264
abbrev f_value_written : FuncId := 271
abbrev f_value_ascending : FuncId := 272
abbrev f_read_space : FuncId := 273
abbrev f_lex_Next : FuncId := 274
abbrev f_read_values_wrong : FuncId := 275
abbrev f_read_values_list : FuncId := 276
abbrev f_read_values_object : FuncId := 277
abbrev f_pick_take_api_Value_278 : FuncId := 278
abbrev f_pick_Obj_List_1 : FuncId := 279
abbrev f_pick_items : FuncId := 280
abbrev f_auth_Part : FuncId := 281
abbrev f_judge_Verifier_Good : FuncId := 282
abbrev f_snap_PinOf : FuncId := 283
abbrev f_internal_strconv_small : FuncId := 284
abbrev f_internal_strconv_numDigits : FuncId := 285
abbrev f_internal_strconv_formatBase10 : FuncId := 286
abbrev f_internal_strconv_formatBits : FuncId := 287
abbrev f_math_bits_RotateLeft32 : FuncId := 288
abbrev f_record_HashesOf : FuncId := 289
abbrev f_value_find : FuncId := 291
abbrev f_internal_stringslite_HasSuffix : FuncId := 296
abbrev f_lex_rules : FuncId := 297
abbrev f_lex_token : FuncId := 298
abbrev f_lex_skip : FuncId := 299
abbrev f_read_values_more : FuncId := 300
abbrev f_read_values_member : FuncId := 301
abbrev f_read_sorted : FuncId := 302
abbrev f_pick_Obj_Texts : FuncId := 303
abbrev f_judge_sigMay : FuncId := 304
abbrev f_internal_strconv_log10Pow2 : FuncId := 305
abbrev f_internal_strconv_bool2_int : FuncId := 306
abbrev f_slices_Index_string_string : FuncId := 310
abbrev f_sort_Search : FuncId := 311
abbrev f_value_find_1 : FuncId := 312
abbrev f_lex_open : FuncId := 314
abbrev f_lex_shut : FuncId := 315
abbrev f_lex_first : FuncId := 316
abbrev f_lex_last : FuncId := 317
abbrev f_lex_comma : FuncId := 318
abbrev f_lex_colon : FuncId := 319
abbrev f_lex_number : FuncId := 320
abbrev f_lex_text : FuncId := 321
abbrev f_lex_word : FuncId := 322
abbrev f_read_values_expect : FuncId := 323
abbrev f_slices_SortFunc_read_member_read_member : FuncId := 324
abbrev f_read_sorted_1 : FuncId := 325
abbrev f_pick_take_string_326 : FuncId := 326
abbrev f_pick_Obj_Texts_1 : FuncId := 327
abbrev f_lex_sign : FuncId := 332
abbrev f_num_Read : FuncId := 333
abbrev f_quote_Read : FuncId := 334
abbrev f_slices_pdqsortCmpFunc_read_member : FuncId := 335
abbrev f_num_formed : FuncId := 336
abbrev f_strconv_ParseInt : FuncId := 337
abbrev f_slices_insertionSortCmpFunc_read_member : FuncId := 340
abbrev f_slices_heapSortCmpFunc_read_member : FuncId := 341
abbrev f_slices_breakPatternsCmpFunc_read_member : FuncId := 342
abbrev f_slices_choosePivotCmpFunc_read_member : FuncId := 343
abbrev f_slices_reverseRangeCmpFunc_read_member : FuncId := 344
abbrev f_slices_partialInsertionSortCmpFunc_read_member : FuncId := 345
abbrev f_slices_partitionEqualCmpFunc_read_member : FuncId := 346
abbrev f_slices_partitionCmpFunc_read_member : FuncId := 347
abbrev f_internal_strconv_ParseInt : FuncId := 348
abbrev f_strconv_toError : FuncId := 349
abbrev f_internal_strconv_ParseUint : FuncId := 355
abbrev f_internal_strconv_lower : FuncId := 365
abbrev f_internal_strconv_underscoreOK : FuncId := 366
abbrev f_judge_byMAC_good : FuncId := 387
abbrev f_mac_Same : FuncId := 388
abbrev g_root_tops : Nat := 0
abbrev g_when_before : Nat := 1
abbrev g_hex_digits : Nat := 2
abbrev g_sha_initial : Nat := 4
abbrev g_sha_rounds : Nat := 5
abbrev g_internal_strconv_uint64pow10 : Nat := 6
end Go.Ev

namespace Go.Ev
/-! legate/hex.Digit -/
def K_hex_Digit : KF := ⟨2,39,[(.tmp 4),(.tmp 5)],
(.seq (.ops [o 4 (.mv (.c (.int .i64 0))),
o 5 (.mv (.c (.bool false)))])
(.seq (.seq (.ops [m 7 1,
o 8 (.bin .lss 0 true (.t 7) (.c (.int .i64 0))),
m 9 8,
og 10 9 false (.mv (.t 1)),
og 11 9 false (.mv (.t 0)),
og 12 9 false (.len 0 (.t 11)),
og 13 9 false (.bin .geq 0 false (.t 10) (.t 12)),
o 14 (.pick (.t 9) (.c (.bool true)) (.t 13))])
(.cond (.t 14)
(.seq (.ops [o 4 (.mv (.c (.int .i64 0))),
o 5 (.mv (.c (.bool false)))])
(.ret [4,5]))
.skip))
(.seq (.seq (.ops [m 15 0,
m 16 1,
o 17 (.idxStr (.t 15) (.t 16)),
m 6 17])
(.block 0
(.seq (.ops [m 19 6,
o 20 (.bin .leq 0 true (.c (.int .u8 48)) (.t 19)),
m 21 20,
og 22 21 true (.mv (.t 6)),
og 23 21 true (.bin .leq 0 true (.t 22) (.c (.int .u8 57))),
o 24 (.pick (.t 21) (.t 23) (.c (.bool false))),
m 18 24])
(.cond (.t 18)
(.seq (.ops [m 25 6,
o 26 (.bin .sub 0 true (.t 25) (.c (.int .u8 48))),
o 27 (.i2i .i64 (.t 26)),
m 4 27,
o 5 (.mv (.c (.bool true)))])
(.ret [4,5]))
(.seq (.ops [m 29 6,
o 30 (.bin .leq 0 true (.c (.int .u8 97)) (.t 29)),
m 31 30,
og 32 31 true (.mv (.t 6)),
og 33 31 true (.bin .leq 0 true (.t 32) (.c (.int .u8 102))),
o 34 (.pick (.t 31) (.t 33) (.c (.bool false))),
m 28 34])
(.cond (.t 28)
(.seq (.ops [m 35 6,
o 36 (.bin .sub 0 true (.t 35) (.c (.int .u8 97))),
o 37 (.i2i .i64 (.t 36)),
o 38 (.bin .add 0 true (.t 37) (.c (.int .i64 10))),
m 4 38,
o 5 (.mv (.c (.bool true)))])
(.ret [4,5]))
.skip))))))
(.seq (.ops [o 4 (.mv (.c (.int .i64 0))),
o 5 (.mv (.c (.bool false)))])
(.ret [4,5])))))⟩
/-! legate/hex.Is -/
def L_hex_Is_0 : KC :=
(.seq (.ops [o 9 (.bin .lss 0 false (.t 8) (.t 7))])
(.seq (.cond (.t 9)
.skip
(.exit [] 0))
(.seq (.block 1
(.seq (.ops [m 10 8,
m 3 10])
(.seq (.ops [m 12 0,
m 13 3,
o 14 (.callF f_hex_Digit [(.t 12),(.t 13)]),
m 11 14,
o 15 (.extract (.t 11) 0),
o 16 (.extract (.t 11) 1),
m 4 15,
m 5 16])
(.seq (.ops [m 17 5,
o 18 (.un .not (.t 17))])
(.cond (.t 18)
(.seq (.ops [o 2 (.mv (.c (.bool false)))])
(.ret [2]))
.skip)))))
(.ops [o 19 (.bin .add 0 true (.t 8) (.c (.int .i64 1))),
m 8 19]))))
def K_hex_Is : KF := ⟨1,20,[(.tmp 2)],
(.seq (.ops [o 2 (.mv (.c (.bool false)))])
(.seq (.seq (.ops [m 6 0,
o 7 (.len 0 (.t 6)),
o 8 (.mv (.c (.int .i64 0)))])
(.block 0
(.loop [0,7,8] L_hex_Is_0)))
(.seq (.ops [o 2 (.mv (.c (.bool true)))])
(.ret [2]))))⟩
/-! legate/hex.Encode -/
def L_hex_Encode_0 : KC :=
(.seq (.seq (.ops [m 9 4,
m 10 0,
o 11 (.len 0 (.t 10)),
o 12 (.bin .lss 0 false (.t 9) (.t 11))])
(.cond (.t 12)
.skip
(.exit [3] 0)))
(.seq (.block 1
(.plain [m 15 3,
m 16 0,
m 17 4,
o 18 (.idxStr (.t 16) (.t 17)),
o 19 (.bin .shr 0 true (.t 18) (.c (.int .u64 4))),
o 20 (.idxAddrArr 16 1 (.g g_hex_digits) (.t 19)),
o 21 (.load false 1 (.t 20)),
m 22 0,
m 23 4,
o 24 (.idxStr (.t 22) (.t 23)),
o 25 (.bin .and 0 true (.t 24) (.c (.int .u8 15))),
o 26 (.idxAddrArr 16 1 (.g g_hex_digits) (.t 25)),
o 27 (.load false 1 (.t 26)),
o 28 (.buildSl [(.int .u8 0)] 2 1 [(0,1,(.t 21)),(1,1,(.t 27))]),
o 29 (.app false 1 1 (some (5,false)) (.t 15) (.t 28)),
m 3 29]))
(.ops [m 13 4,
o 14 (.bin .add 0 true (.t 13) (.c (.int .i64 1))),
m 4 14])))
def K_hex_Encode : KF := ⟨1,32,[(.tmp 2)],
(.seq (.ops [o 2 (.mv (.c (.str [])))])
(.seq (.ops [m 5 0,
o 6 (.len 0 (.t 5)),
o 7 (.bin .mul 0 true (.c (.int .i64 2)) (.t 6)),
o 8 (.mkSlice [(.int .u8 0)] 1 1 (.c (.int .i64 0)) (.t 7)),
m 3 8])
(.seq (.seq (.ops [o 4 (.mv (.c (.int .i64 0)))])
(.block 0
(.loop [0,3,4] L_hex_Encode_0)))
(.seq (.ops [m 30 3,
o 31 (.b2s (.t 30)),
m 2 31])
(.ret [2])))))⟩
/-! legate/hex.Decode -/
def L_hex_Decode_0 : KC :=
(.seq (.seq (.ops [m 21 5,
m 22 0,
o 23 (.len 0 (.t 22)),
o 24 (.bin .lss 0 false (.t 21) (.t 23))])
(.cond (.t 24)
.skip
(.exit [4] 0)))
(.seq (.block 1
(.seq (.ops [m 28 0,
m 29 5,
o 30 (.callF f_hex_Digit [(.t 28),(.t 29)]),
m 27 30,
o 31 (.extract (.t 27) 0),
o 32 (.extract (.t 27) 1),
m 6 31,
m 7 32])
(.seq (.ops [m 34 0,
m 35 5,
o 36 (.bin .add 0 true (.t 35) (.c (.int .i64 1))),
o 37 (.callF f_hex_Digit [(.t 34),(.t 36)]),
m 33 37,
o 38 (.extract (.t 33) 0),
o 39 (.extract (.t 33) 1),
m 8 38,
m 9 39])
(.ops [m 40 4,
m 41 6,
o 42 (.bin .shl 0 true (.t 41) (.c (.int .u64 4))),
m 43 8,
o 44 (.bin .or 0 false (.t 42) (.t 43)),
o 45 (.i2i .u8 (.t 44)),
o 46 (.buildSl [(.int .u8 0)] 1 1 [(0,1,(.t 45))]),
o 47 (.app false 1 1 (some (5,false)) (.t 40) (.t 46)),
m 4 47]))))
(.ops [m 25 5,
o 26 (.bin .add 0 true (.t 25) (.c (.int .i64 2))),
m 5 26])))
def K_hex_Decode : KF := ⟨1,50,[(.tmp 2),(.tmp 3)],
(.seq (.ops [o 2 (.mv (.c (.str []))),
o 3 (.mv (.c (.int .i64 0)))])
(.seq (.seq (.ops [m 10 0,
o 11 (.callF f_hex_Is [(.t 10)]),
o 12 (.un .not (.t 11))])
(.cond (.t 12)
(.seq (.ops [o 2 (.mv (.c (.str []))),
o 3 (.mv (.c (.int .i64 3)))])
(.ret [2,3]))
.skip))
(.seq (.seq (.ops [m 13 0,
o 14 (.len 0 (.t 13)),
o 15 (.bin .rem 0 true (.t 14) (.c (.int .i64 2))),
o 16 (.bin .neq 0 true (.t 15) (.c (.int .i64 0)))])
(.cond (.t 16)
(.seq (.ops [o 2 (.mv (.c (.str []))),
o 3 (.mv (.c (.int .i64 4)))])
(.ret [2,3]))
.skip))
(.seq (.ops [m 17 0,
o 18 (.len 0 (.t 17)),
o 19 (.bin .quo 0 true (.t 18) (.c (.int .i64 2))),
o 20 (.mkSlice [(.int .u8 0)] 1 1 (.c (.int .i64 0)) (.t 19)),
m 4 20])
(.seq (.seq (.ops [o 5 (.mv (.c (.int .i64 0)))])
(.block 0
(.loop [0,4,5] L_hex_Decode_0)))
(.seq (.ops [m 48 4,
o 49 (.b2s (.t 48)),
m 2 49,
o 3 (.mv (.c (.int .i64 0)))])
(.ret [2,3])))))))⟩
end Go.Ev

namespace Go.Ev
set_option maxRecDepth 100000
set_option linter.unusedSimpArgs false
variable {C : Ctx}
def hexV (b : UInt8) : Option Nat :=
  if 48 ≤ b.toNat ∧ b.toNat ≤ 57 then some (b.toNat - 48) else if 97 ≤ b.toNat ∧ b.toNat ≤ 102 then some (b.toNat - 87) else none
def hexAt (s : List UInt8) (i : Int) : Option Nat :=
  if i < 0 then none else s[i.toNat]?.bind hexV
def okTup (o : Option Nat) : AV :=
  .tup [.int .i64 (o.getD 0 : Nat),.bool o.isSome]
theorem hex_Digit (hC : Has C f_hex_Digit K_hex_Digit) (s : List UInt8) (i : Int) (σ : St) :
   semF C f_hex_Digit [.str s,.int .i64 i] σ = some (okTup (hexAt s i),σ) := by
  rw [hC.run]
  unfold runK
  by_cases h0 : i < 0
  · simp only [K_hex_Digit,h0,hexAt,okTup,EVC,EVA,Nat.reduceEqDiff,eqOp,eqA,eqNil,lenA,asNat,optNat,pt,tupleOf,Nat.reduceSub,Nat.reduceGT,Nat.reduceLT,Nat.reduceAdd,hand,norms,normVs,normV,freeze,reduceIte,reduceCtorEq,srcCells,slCells,isStr,fillA,rep,Nat.reduceMul,Nat.reduceLeDiff]
    rfl
  · by_cases h1 : (s.length : Int) ≤ i
    · have h2 : s[i.toNat]? = none := List.getElem?_eq_none (by omega)
      simp only [K_hex_Digit,h0,h1,h2,hexAt,okTup,ge_iff_le,EVC,EVA,Nat.reduceEqDiff,eqOp,eqA,eqNil,lenA,asNat,optNat,pt,tupleOf,Nat.reduceSub,Nat.reduceGT,Nat.reduceLT,Nat.reduceAdd,hand,norms,normVs,normV,freeze,reduceIte,reduceCtorEq,srcCells,slCells,isStr,fillA,rep,Nat.reduceMul,Nat.reduceLeDiff]
      rfl
    · have h2 : i.toNat < s.length := by omega
      have h3 : 0 ≤ i := by omega
      obtain ⟨b,hb⟩ : ∃ b,s[i.toNat]? = some b := ⟨_,List.getElem?_eq_getElem h2⟩
      have hlt : b.toNat < 256 := b.toNat_lt
      have hA : ((48 : Int) ≤ b.toNat) = (48 ≤ b.toNat) := by simp; omega
      have hB : ((b.toNat : Int) ≤ 57) = (b.toNat ≤ 57) := by simp; omega
      have hD : ((97 : Int) ≤ b.toNat) = (97 ≤ b.toNat) := by simp; omega
      have hE : ((b.toNat : Int) ≤ 102) = (b.toNat ≤ 102) := by simp; omega
      have hv : hexAt s i = hexV b := by simp [hexAt,h0,hb]
      rw [hv]
      by_cases h4 : 48 ≤ b.toNat
      · by_cases h5 : b.toNat ≤ 57
        · have e1 : IntKind.u8.wrap ((b.toNat : Int) - 48) = ((b.toNat - 48 : Nat) : Int) := by rw [wu8] <;> omega
          have e2 : IntKind.i64.wrap ((b.toNat - 48 : Nat) : Int) = ((b.toNat - 48 : Nat) : Int) := by rw [w64] <;> omega
          simp only [K_hex_Digit,h0,h1,h2,h3,hb,h4,h5,hA,hB,e1,e2,ge_iff_le,EVC,EVA,Nat.reduceEqDiff,eqOp,eqA,eqNil,lenA,asNat,optNat,pt,tupleOf,Nat.reduceSub,Nat.reduceGT,Nat.reduceLT,Nat.reduceAdd,hand,norms,normVs,normV,freeze,reduceIte,reduceCtorEq,srcCells,slCells,isStr,fillA,rep,Nat.reduceMul,Nat.reduceLeDiff]
          simp [okTup,hexV,h4,h5]
        · by_cases h6 : 97 ≤ b.toNat
          · by_cases h7 : b.toNat ≤ 102
            · have e1 : IntKind.u8.wrap ((b.toNat : Int) - 97) = ((b.toNat - 97 : Nat) : Int) := by rw [wu8] <;> omega
              have e2 : IntKind.i64.wrap ((b.toNat - 97 : Nat) : Int) = ((b.toNat - 97 : Nat) : Int) := by rw [w64] <;> omega
              have e3 : IntKind.i64.wrap (((b.toNat - 97 : Nat) : Int) + 10) = ((b.toNat - 87 : Nat) : Int) := by rw [w64] <;> omega
              simp only [K_hex_Digit,h0,h1,h2,h3,hb,h4,h5,h6,h7,hA,hB,hD,hE,e1,e2,e3,ge_iff_le,EVC,EVA,Nat.reduceEqDiff,eqOp,eqA,eqNil,lenA,asNat,optNat,pt,tupleOf,Nat.reduceSub,Nat.reduceGT,Nat.reduceLT,Nat.reduceAdd,hand,norms,normVs,normV,freeze,reduceIte,reduceCtorEq,srcCells,slCells,isStr,fillA,rep,Nat.reduceMul,Nat.reduceLeDiff]
              simp [okTup,hexV,h4,h5,h6,h7]
            · simp only [K_hex_Digit,h0,h1,h2,h3,hb,h4,h5,h6,h7,hA,hB,hD,hE,ge_iff_le,EVC,EVA,Nat.reduceEqDiff,eqOp,eqA,eqNil,lenA,asNat,optNat,pt,tupleOf,Nat.reduceSub,Nat.reduceGT,Nat.reduceLT,Nat.reduceAdd,hand,norms,normVs,normV,freeze,reduceIte,reduceCtorEq,srcCells,slCells,isStr,fillA,rep,Nat.reduceMul,Nat.reduceLeDiff]
              simp [okTup,hexV,h4,h5,h6,h7]
          · simp only [K_hex_Digit,h0,h1,h2,h3,hb,h4,h5,h6,hA,hB,hD,hE,ge_iff_le,EVC,EVA,Nat.reduceEqDiff,eqOp,eqA,eqNil,lenA,asNat,optNat,pt,tupleOf,Nat.reduceSub,Nat.reduceGT,Nat.reduceLT,Nat.reduceAdd,hand,norms,normVs,normV,freeze,reduceIte,reduceCtorEq,srcCells,slCells,isStr,fillA,rep,Nat.reduceMul,Nat.reduceLeDiff]
            simp [okTup,hexV,h4,h5,h6]
      · have h6 : ¬ 97 ≤ b.toNat := by omega
        simp only [K_hex_Digit,h0,h1,h2,h3,hb,h4,h6,hA,hB,hD,hE,ge_iff_le,EVC,EVA,Nat.reduceEqDiff,eqOp,eqA,eqNil,lenA,asNat,optNat,pt,tupleOf,Nat.reduceSub,Nat.reduceGT,Nat.reduceLT,Nat.reduceAdd,hand,norms,normVs,normV,freeze,reduceIte,reduceCtorEq,srcCells,slCells,isStr,fillA,rep,Nat.reduceMul,Nat.reduceLeDiff]
        simp [okTup,hexV,h4,h6]
def isHex (b : UInt8) : Bool := (hexV b).isSome
theorem isHex_at {s : List UInt8} {i : Nat} {b : UInt8} (h : s[i]? = some b) : (hexAt s i).isSome = isHex b := by
  have : ¬ ((i : Int) < 0) := by omega
  simp [hexAt,h,isHex,this]
theorem hex_Is_loop (hd : Has C f_hex_Digit K_hex_Digit) (s : List UInt8) (hs : s.length ≤ 1099511627776) (σ : St) : ∀ (n i : Nat),i + n = s.length →
    loopK C (semF C) 20 [0,7,8] L_hex_Is_0 [(0,.str s),(7,.int .i64 s.length),(8,.int .i64 i)] σ =
      if (s.drop i).all isHex then some (.exit 0,[],σ) else some (.ret,[(2,.bool false)],σ)
  | 0,i,hi => by
    rw [loopK_eq (he := rfl)]
    have h : ¬ ((i : Int) < (s.length : Int)) := by omega
    have h' : s.drop i = [] := List.drop_eq_nil_of_le (by omega)
    simp only [L_hex_Is_0,h,h',List.all_nil,EVC,EVA,Nat.reduceEqDiff,eqOp,eqA,eqNil,lenA,asNat,optNat,pt,tupleOf,Nat.reduceSub,Nat.reduceGT,Nat.reduceLT,Nat.reduceAdd,hand,norms,normVs,normV,freeze,reduceIte,reduceCtorEq,srcCells,slCells,isStr,fillA,rep,Nat.reduceMul,Nat.reduceLeDiff]
  | n + 1,i,hi => by
    rw [loopK_eq (he := rfl)]
    generalize hk : loopK C (semF C) 20 [0,7,8] L_hex_Is_0 = k
    have h : ((i : Int) < (s.length : Int)) := by omega
    have h2 : i < s.length := by omega
    have hb : s[i]? = some s[i] := List.getElem?_eq_getElem h2
    have h' : s.drop i = s[i] :: s.drop (i + 1) := List.drop_eq_getElem_cons h2
    have hw : IntKind.i64.wrap ((i : Int) + 1) = ((i + 1 : Nat) : Int) := by rw [w64] <;> omega
    rw [h',List.all_cons,← isHex_at hb]
    cases hx : (hexAt s i).isSome
    · simp only [L_hex_Is_0,h,hex_Digit hd,okTup,hx,Bool.false_and,EVC,EVA,Nat.reduceEqDiff,eqOp,eqA,eqNil,lenA,asNat,optNat,pt,tupleOf,Nat.reduceSub,Nat.reduceGT,Nat.reduceLT,Nat.reduceAdd,hand,norms,normVs,normV,freeze,reduceIte,reduceCtorEq,srcCells,slCells,isStr,fillA,rep,Nat.reduceMul,Nat.reduceLeDiff]
    · simp only [L_hex_Is_0,h,hex_Digit hd,okTup,hx,hw,Bool.true_and,EVC,EVA,Nat.reduceEqDiff,eqOp,eqA,eqNil,lenA,asNat,optNat,pt,tupleOf,Nat.reduceSub,Nat.reduceGT,Nat.reduceLT,Nat.reduceAdd,hand,norms,normVs,normV,freeze,reduceIte,reduceCtorEq,srcCells,slCells,isStr,fillA,rep,Nat.reduceMul,Nat.reduceLeDiff]
      rw [← hk,hex_Is_loop hd s hs σ n (i + 1) (by omega)]
theorem hex_Is (hC : Has C f_hex_Is K_hex_Is) (hd : Has C f_hex_Digit K_hex_Digit) (s : List UInt8) (hs : s.length ≤ 1099511627776) (σ : St) :
   semF C f_hex_Is [.str s] σ = some (.bool (s.all isHex),σ) := by
  rw [hC.run]
  unfold runK
  have := hex_Is_loop hd s hs σ s.length 0 (by omega)
  simp only [Int.ofNat_zero,Int.natCast_zero,Int.cast_ofNat_Int,Int.ofNat_eq_natCast,List.drop_zero,EVC,EVA,Nat.reduceEqDiff,eqOp,eqA,eqNil,lenA,asNat,optNat,pt,tupleOf,Nat.reduceSub,Nat.reduceGT,Nat.reduceLT,Nat.reduceAdd,hand,norms,normVs,normV,freeze,reduceIte,reduceCtorEq,srcCells,slCells,isStr,fillA,rep,Nat.reduceMul,Nat.reduceLeDiff] at this
  cases hx : s.all isHex
  · rw [hx] at this
    simp only [K_hex_Is,this,EVC,EVA,Nat.reduceEqDiff,eqOp,eqA,eqNil,lenA,asNat,optNat,pt,tupleOf,Nat.reduceSub,Nat.reduceGT,Nat.reduceLT,Nat.reduceAdd,hand,norms,normVs,normV,freeze,reduceIte,reduceCtorEq,srcCells,slCells,isStr,fillA,rep,Nat.reduceMul,Nat.reduceLeDiff]
  · rw [hx] at this
    simp only [K_hex_Is,this,EVC,EVA,Nat.reduceEqDiff,eqOp,eqA,eqNil,lenA,asNat,optNat,pt,tupleOf,Nat.reduceSub,Nat.reduceGT,Nat.reduceLT,Nat.reduceAdd,hand,norms,normVs,normV,freeze,reduceIte,reduceCtorEq,srcCells,slCells,isStr,fillA,rep,Nat.reduceMul,Nat.reduceLeDiff]
end Go.Ev

namespace Go.Ev
set_option maxRecDepth 100000
set_option linter.unusedSimpArgs false
variable {C : Ctx}
def hexC (n : Nat) : UInt8 := if n < 10 then UInt8.ofNat (48 + n) else UInt8.ofNat (87 + n)
def hexDigits : List UInt8 := [48,49,50,51,52,53,54,55,56,57,97,98,99,100,101,102]
def encB (b : UInt8) : List UInt8 := [hexC (b.toNat / 16),hexC (b.toNat % 16)]
def hexEnc (s : List UInt8) : List UInt8 := s.flatMap encB
theorem hexD_at (n : Nat) (h : n < 16) : ((ofBytes hexDigits).drop n).head? = some (.int .u8 (hexC n).toNat) := by
  have : ∀ n : Fin 16,((hexDigits.drop n.1).head?).map (fun b => (AV.int .u8 (b.toNat : Int))) = some (.int .u8 ((hexC n.1).toNat : Int)) := by
    intro n
    obtain ⟨n,hn⟩ := n
    rcases (by omega : n = 0 ∨ n = 1 ∨ n = 2 ∨ n = 3 ∨ n = 4 ∨ n = 5 ∨ n = 6 ∨ n = 7 ∨ n = 8 ∨ n = 9 ∨ n = 10 ∨ n = 11 ∨ n = 12 ∨ n = 13 ∨ n = 14 ∨ n = 15) with h | h | h | h | h | h | h | h | h | h | h | h | h | h | h | h <;> subst h <;> rfl
  have := this ⟨n,h⟩
  unfold ofBytes
  rw [← List.map_drop,List.head?_map]
  exact this
theorem app_pile0 {tg : Option (TypeId × Bool)} (σ : St) (k : Nat) (acc cs : List UInt8) (m : Nat) (hm : cs.length = m) (h0 : 0 < m) (hl : acc.length + m ≤ 70368744177664) :
    appA (pile σ k (.cells (ofBytes acc) ⟨false,none⟩)) 1 1 tg (.msl (σ.length + k) 0 acc.length 1) m (ofBytes cs) = some (.msl (σ.length + (k + 1)) 0 (acc ++ cs).length 1,pile σ (k + 1) (.cells (ofBytes (acc ++ cs)) ⟨false,none⟩)) := by
  have hm0 : ¬ m = 0 := by omega
  have ht : (if none = tg then tg else none) = none := by split <;> simp_all
  unfold appA
  rw [if_neg hm0]
  simp only [pile_get]
  rw [if_pos ⟨trivial,by rw [ofBytes_length]; omega,by omega,hl⟩,pile_app,pile_length,ofBytes_app,List.length_append,hm,ht]
theorem hex_Encode_loop (hg : C.gl g_hex_digits = some (ofBytes hexDigits)) (s : List UInt8) (hs : s.length ≤ 1099511627776) (σ : St) : ∀ (n i k : Nat) (acc : List UInt8),i + n = s.length → acc.length = 2 * i →
    loopK C (semF C) 32 [0,3,4] L_hex_Encode_0 [(0,.str s),(3,.msl (σ.length + k) 0 acc.length 1),(4,.int .i64 i)] (pile σ k (.cells (ofBytes acc) ⟨false,none⟩)) =
      some (.exit 0,[(3,.msl (σ.length + (k + n)) 0 (acc ++ hexEnc (s.drop i)).length 1)],pile σ (k + n) (.cells (ofBytes (acc ++ hexEnc (s.drop i))) ⟨false,none⟩))
  | 0,i,k,acc,hi,ha => by
    rw [loopK_eq (he := rfl)]
    have h : ¬ ((i : Int) < (s.length : Int)) := by omega
    have h' : s.drop i = [] := List.drop_eq_nil_of_le (by omega)
    simp only [L_hex_Encode_0,h,h',hexEnc,List.flatMap_nil,Nat.add_zero,EVC,EVA,Nat.reduceEqDiff,eqOp,eqA,eqNil,lenA,asNat,optNat,pt,tupleOf,Nat.reduceSub,Nat.reduceGT,Nat.reduceLT,Nat.reduceAdd,hand,norms,normVs,normV,freeze,reduceIte,reduceCtorEq,srcCells,slCells,isStr,fillA,rep,Nat.reduceMul,Nat.reduceLeDiff]
  | n + 1,i,k,acc,hi,ha => by
    rw [loopK_eq (he := rfl)]
    generalize hk : loopK C (semF C) 32 [0,3,4] L_hex_Encode_0 = rest
    have h : ((i : Int) < (s.length : Int)) := by omega
    have h2 : i < s.length := by omega
    have hb : s[i]? = some s[i] := List.getElem?_eq_getElem h2
    have h' : s.drop i = s[i] :: s.drop (i + 1) := List.drop_eq_getElem_cons h2
    have hw : IntKind.i64.wrap ((i : Int) + 1) = ((i + 1 : Nat) : Int) := by rw [w64] <;> omega
    rw [h']
    generalize s[i] = b at hb
    have hlt : b.toNat < 256 := b.toNat_lt
    have h0 : (0 : Int) ≤ i := by omega
    have e1 : ((b.toNat : Int)).fdiv (2 ^ (min (4 : Int).toNat IntKind.u8.bits)) = ((b.toNat / 16 : Nat) : Int) := by
      show ((b.toNat : Int)).fdiv 16 = _
      rw [Int.fdiv_eq_ediv_of_nonneg _ (by omega)]; omega
    have e2 : IntKind.u8.wrap ((BitVec.ofInt IntKind.u8.bits (b.toNat : Int) &&& BitVec.ofInt IntKind.u8.bits 15).toNat : Int) = ((b.toNat % 16 : Nat) : Int) := by
      have := and_is .u8 rfl b.toNat 15 hlt (by decide)
      rw [show ((15 : Nat) : Int) = 15 from rfl] at this
      rw [this,show 15 = 2 ^ 4 - 1 from rfl,Nat.and_two_pow_sub_one_eq_mod]
    have e3 : (0 : Int) ≤ ((b.toNat / 16 : Nat) : Int) := by omega
    have e4 : (0 : Int) ≤ ((b.toNat % 16 : Nat) : Int) := by omega
    have e5 : (((b.toNat / 16 : Nat) : Int)).toNat < 16 ∧ (((b.toNat / 16 : Nat) : Int)).toNat * 1 ≤ (ofBytes hexDigits).length := by rw [ofBytes_length]; simp [hexDigits]; omega
    have e6 : (((b.toNat % 16 : Nat) : Int)).toNat < 16 ∧ (((b.toNat % 16 : Nat) : Int)).toNat * 1 ≤ (ofBytes hexDigits).length := by rw [ofBytes_length]; simp [hexDigits]; omega
    have d1 : ((ofBytes hexDigits).drop ((((b.toNat / 16 : Nat) : Int)).toNat * 1)).head? = some (.int .u8 (hexC (b.toNat / 16)).toNat) := by
      rw [Int.toNat_natCast,Nat.mul_one]; exact hexD_at _ (by omega)
    have d2 : ((ofBytes hexDigits).drop ((((b.toNat % 16 : Nat) : Int)).toNat * 1)).head? = some (.int .u8 (hexC (b.toNat % 16)).toNat) := by
      rw [Int.toNat_natCast,Nat.mul_one]; exact hexD_at _ (by omega)
    have n4 : ¬ ((4 : Int) < 0) := by decide
    have ti : ((i : Int)).toNat = i := Int.toNat_natCast i
    have happ : ∀ tg,appA (pile σ k (.cells (ofBytes acc) ⟨false,none⟩)) 1 1 tg (.msl (σ.length + k) 0 acc.length 1) 2 [.int .u8 (hexC (b.toNat / 16)).toNat,.int .u8 (hexC (b.toNat % 16)).toNat] = _ := fun tg => app_pile0 σ k acc (encB b) 2 rfl (by omega) (by omega)
    simp only [Int.toNat_natCast,Nat.mul_one] at e5 e6 d1 d2
    simp only [L_hex_Encode_0,h,h0,hb,ti,hw,n4,e1,e2,e3,e4,e5,e6,d1,d2,hg,happ,Int.toNat_natCast,Option.getD_some,EVC,EVA,Nat.reduceEqDiff,eqOp,eqA,eqNil,lenA,asNat,optNat,pt,tupleOf,Nat.reduceSub,Nat.reduceGT,Nat.reduceLT,Nat.reduceAdd,hand,norms,normVs,normV,freeze,reduceIte,reduceCtorEq,srcCells,slCells,isStr,fillA,rep,Nat.reduceMul,Nat.reduceLeDiff]
    rw [← hk,hex_Encode_loop hg s hs σ n (i + 1) (k + 1) (acc ++ encB b) (by omega) (by rw [List.length_append,ha]; simp [encB]; omega)]
    simp [hexEnc,Nat.add_assoc,Nat.add_comm 1 n]
theorem hex_Encode (hC : Has C f_hex_Encode K_hex_Encode) (hg : C.gl g_hex_digits = some (ofBytes hexDigits)) (s : List UInt8) (hs : s.length ≤ 1099511627776) (σ : St) (hσ : Ok σ) :
   semF C f_hex_Encode [.str s] σ = some (.str (hexEnc s),σ) := by
  rw [hC.run]
  unfold runK
  have hl := hex_Encode_loop hg s hs σ s.length 0 0 [] (by omega) rfl
  have hw : IntKind.i64.wrap (2 * (s.length : Int)) = ((2 * s.length : Nat) : Int) := by rw [w64] <;> omega
  have hp : σ ++ [AO.cells [] ⟨false,none⟩] = pile σ 0 (.cells (ofBytes []) ⟨false,none⟩) := rfl
  have hc : (0 : Int) ≤ 0 ∧ (0 : Int) ≤ ((2 * s.length : Nat) : Int) ∧ ((2 * s.length : Nat) : Int) ≤ 9223372036854775807 ∧ (1 : Int) * ((2 * s.length : Nat) : Int) ≤ 140737488355328 := by omega
  simp only [List.drop_zero,List.nil_append,Nat.zero_add,List.length_nil,Nat.add_zero,Int.cast_ofNat_Int] at hl
  have hb := bytesOf_of (hexEnc s)
  have ht : (ofBytes (hexEnc s)).take (hexEnc s).length = ofBytes (hexEnc s) := List.take_of_length_le (by rw [ofBytes_length]; omega)
  have hy : tidy σ.length [.str (hexEnc s)] (pile σ s.length (.cells (ofBytes (hexEnc s)) ⟨false,none⟩)) = σ := tidy_pile hσ rfl _ _
  simp only [K_hex_Encode,hw,hc,hp,hl,hb,ht,hy,pile_get,ofBytes_length,Int.toNat_zero,EVC,EVA,Nat.reduceEqDiff,eqOp,eqA,eqNil,lenA,asNat,optNat,pt,tupleOf,Nat.reduceSub,Nat.reduceGT,Nat.reduceLT,Nat.reduceAdd,hand,norms,normVs,normV,freeze,reduceIte,reduceCtorEq,srcCells,slCells,isStr,fillA,rep,Nat.reduceMul,Nat.reduceLeDiff]
end Go.Ev

namespace Go.Ev
/-! math/bits.RotateLeft32 -/
def K_math_bits_RotateLeft32 : KF := ⟨2,17,[(.tmp 4)],
(.seq (.ops [o 4 (.mv (.c (.int .u32 0)))])
(.seq (.ops [m 6 1,
o 7 (.i2i .u64 (.t 6)),
o 8 (.bin .and 0 true (.t 7) (.c (.int .u64 31))),
m 5 8])
(.seq (.ops [m 9 0,
m 10 5,
o 11 (.bin .shl 0 false (.t 9) (.t 10)),
m 12 0,
m 13 5,
o 14 (.bin .sub 0 true (.c (.int .u64 32)) (.t 13)),
o 15 (.bin .shr 0 false (.t 12) (.t 14)),
o 16 (.bin .or 0 false (.t 11) (.t 15)),
m 4 16])
(.ret [4]))))⟩
/-! (*legate/sha.Hash).mix -/
def L_sha_Hash_mix_0 : KC :=
(.seq (.ops [o 22 (.bin .lss 0 true (.t 21) (.c (.int .i64 16)))])
(.seq (.cond (.t 22)
.skip
(.exit [0,2] 0))
(.seq (.block 1
(.seq (.ops [m 23 21,
m 3 23])
(.plain [m 24 3,
m 25 0,
m 26 3,
o 27 (.bin .mul 0 true (.c (.int .i64 4)) (.t 26)),
o 28 (.nilck (.t 25)),
o 29 (.fieldAddr 9 (.t 28)),
o 30 (.idxAddrArr 64 1 (.t 29) (.t 27)),
o 31 (.load false 1 (.t 30)),
o 32 (.i2i .u32 (.t 31)),
o 33 (.bin .shl 0 true (.t 32) (.c (.int .u64 24))),
m 34 0,
m 35 3,
o 36 (.bin .mul 0 true (.c (.int .i64 4)) (.t 35)),
o 37 (.bin .add 0 true (.t 36) (.c (.int .i64 1))),
o 38 (.nilck (.t 34)),
o 39 (.fieldAddr 9 (.t 38)),
o 40 (.idxAddrArr 64 1 (.t 39) (.t 37)),
o 41 (.load false 1 (.t 40)),
o 42 (.i2i .u32 (.t 41)),
o 43 (.bin .shl 0 true (.t 42) (.c (.int .u64 16))),
o 44 (.bin .or 0 false (.t 33) (.t 43)),
m 45 0,
m 46 3,
o 47 (.bin .mul 0 true (.c (.int .i64 4)) (.t 46)),
o 48 (.bin .add 0 true (.t 47) (.c (.int .i64 2))),
o 49 (.nilck (.t 45)),
o 50 (.fieldAddr 9 (.t 49)),
o 51 (.idxAddrArr 64 1 (.t 50) (.t 48)),
o 52 (.load false 1 (.t 51)),
o 53 (.i2i .u32 (.t 52)),
o 54 (.bin .shl 0 true (.t 53) (.c (.int .u64 8))),
o 55 (.bin .or 0 false (.t 44) (.t 54)),
m 56 0,
m 57 3,
o 58 (.bin .mul 0 true (.c (.int .i64 4)) (.t 57)),
o 59 (.bin .add 0 true (.t 58) (.c (.int .i64 3))),
o 60 (.nilck (.t 56)),
o 61 (.fieldAddr 9 (.t 60)),
o 62 (.idxAddrArr 64 1 (.t 61) (.t 59)),
o 63 (.load false 1 (.t 62)),
o 64 (.i2i .u32 (.t 63)),
o 65 (.bin .or 0 false (.t 55) (.t 64)),
o 66 (.idxAddrArr 64 1 (.t 2) (.t 24)),
u (.store 1 (.t 66) (.t 65))])))
(.ops [o 67 (.bin .add 0 true (.t 21) (.c (.int .i64 1))),
m 21 67]))))
def L_sha_Hash_mix_1 : KC :=
(.seq (.seq (.ops [m 68 4,
o 69 (.bin .lss 0 true (.t 68) (.c (.int .i64 64)))])
(.cond (.t 69)
.skip
(.exit [0,2] 2)))
(.seq (.block 3
(.seq (.plain [m 72 4,
o 73 (.bin .sub 0 true (.t 72) (.c (.int .i64 15))),
o 74 (.idxAddrArr 64 1 (.t 2) (.t 73)),
o 75 (.load false 1 (.t 74)),
m 76 4,
o 77 (.bin .sub 0 true (.t 76) (.c (.int .i64 2))),
o 78 (.idxAddrArr 64 1 (.t 2) (.t 77)),
o 79 (.load false 1 (.t 78)),
m 5 75,
m 6 79])
(.seq (.ops [m 80 5,
o 81 (.callF f_math_bits_RotateLeft32 [(.t 80),(.c (.int .i64 (-7)))]),
m 82 5,
o 83 (.callF f_math_bits_RotateLeft32 [(.t 82),(.c (.int .i64 (-18)))]),
o 84 (.bin .xor 0 false (.t 81) (.t 83)),
m 85 5,
o 86 (.bin .shr 0 true (.t 85) (.c (.int .u64 3))),
o 87 (.bin .xor 0 false (.t 84) (.t 86)),
m 7 87])
(.seq (.ops [m 88 6,
o 89 (.callF f_math_bits_RotateLeft32 [(.t 88),(.c (.int .i64 (-17)))]),
m 90 6,
o 91 (.callF f_math_bits_RotateLeft32 [(.t 90),(.c (.int .i64 (-19)))]),
o 92 (.bin .xor 0 false (.t 89) (.t 91)),
m 93 6,
o 94 (.bin .shr 0 true (.t 93) (.c (.int .u64 10))),
o 95 (.bin .xor 0 false (.t 92) (.t 94)),
m 8 95])
(.plain [m 96 4,
m 97 4,
o 98 (.bin .sub 0 true (.t 97) (.c (.int .i64 16))),
o 99 (.idxAddrArr 64 1 (.t 2) (.t 98)),
o 100 (.load false 1 (.t 99)),
m 101 7,
o 102 (.bin .add 0 false (.t 100) (.t 101)),
m 103 4,
o 104 (.bin .sub 0 true (.t 103) (.c (.int .i64 7))),
o 105 (.idxAddrArr 64 1 (.t 2) (.t 104)),
o 106 (.load false 1 (.t 105)),
o 107 (.bin .add 0 false (.t 102) (.t 106)),
m 108 8,
o 109 (.bin .add 0 false (.t 107) (.t 108)),
o 110 (.idxAddrArr 64 1 (.t 2) (.t 96)),
u (.store 1 (.t 110) (.t 109))])))))
(.ops [m 70 4,
o 71 (.bin .add 0 true (.t 70) (.c (.int .i64 1))),
m 4 71])))
def L_sha_Hash_mix_2 : KC :=
(.seq (.ops [o 116 (.bin .lss 0 true (.t 115) (.c (.int .i64 64)))])
(.seq (.cond (.t 116)
.skip
(.exit [0,9] 4))
(.seq (.block 5
(.seq (.ops [m 117 115,
m 10 117])
(.seq (.plain [o 118 (.idxAddrArr 8 1 (.t 9) (.c (.int .i64 0))),
o 119 (.load false 1 (.t 118)),
o 120 (.idxAddrArr 8 1 (.t 9) (.c (.int .i64 1))),
o 121 (.load false 1 (.t 120)),
o 122 (.idxAddrArr 8 1 (.t 9) (.c (.int .i64 2))),
o 123 (.load false 1 (.t 122)),
o 124 (.idxAddrArr 8 1 (.t 9) (.c (.int .i64 4))),
o 125 (.load false 1 (.t 124)),
m 11 119,
m 12 121,
m 13 123,
m 14 125])
(.seq (.ops [m 126 14,
o 127 (.callF f_math_bits_RotateLeft32 [(.t 126),(.c (.int .i64 (-6)))]),
m 128 14,
o 129 (.callF f_math_bits_RotateLeft32 [(.t 128),(.c (.int .i64 (-11)))]),
o 130 (.bin .xor 0 false (.t 127) (.t 129)),
m 131 14,
o 132 (.callF f_math_bits_RotateLeft32 [(.t 131),(.c (.int .i64 (-25)))]),
o 133 (.bin .xor 0 false (.t 130) (.t 132)),
m 15 133])
(.seq (.ops [m 134 14,
o 135 (.idxAddrArr 8 1 (.t 9) (.c (.int .i64 5))),
o 136 (.load false 1 (.t 135)),
o 137 (.bin .and 0 false (.t 134) (.t 136)),
m 138 14,
o 139 (.un .xor (.t 138)),
o 140 (.idxAddrArr 8 1 (.t 9) (.c (.int .i64 6))),
o 141 (.load false 1 (.t 140)),
o 142 (.bin .and 0 false (.t 139) (.t 141)),
o 143 (.bin .xor 0 false (.t 137) (.t 142)),
m 16 143])
(.seq (.plain [o 144 (.idxAddrArr 8 1 (.t 9) (.c (.int .i64 7))),
o 145 (.load false 1 (.t 144)),
m 146 15,
o 147 (.bin .add 0 false (.t 145) (.t 146)),
m 148 16,
o 149 (.bin .add 0 false (.t 147) (.t 148)),
m 150 10,
o 151 (.idxAddrArr 64 1 (.g g_sha_rounds) (.t 150)),
o 152 (.load false 1 (.t 151)),
o 153 (.bin .add 0 false (.t 149) (.t 152)),
m 154 10,
o 155 (.idxAddrArr 64 1 (.t 2) (.t 154)),
o 156 (.load false 1 (.t 155)),
o 157 (.bin .add 0 false (.t 153) (.t 156)),
m 17 157])
(.seq (.ops [m 158 11,
o 159 (.callF f_math_bits_RotateLeft32 [(.t 158),(.c (.int .i64 (-2)))]),
m 160 11,
o 161 (.callF f_math_bits_RotateLeft32 [(.t 160),(.c (.int .i64 (-13)))]),
o 162 (.bin .xor 0 false (.t 159) (.t 161)),
m 163 11,
o 164 (.callF f_math_bits_RotateLeft32 [(.t 163),(.c (.int .i64 (-22)))]),
o 165 (.bin .xor 0 false (.t 162) (.t 164)),
m 18 165])
(.seq (.ops [m 166 11,
m 167 12,
o 168 (.bin .and 0 false (.t 166) (.t 167)),
m 169 11,
m 170 13,
o 171 (.bin .and 0 false (.t 169) (.t 170)),
o 172 (.bin .xor 0 false (.t 168) (.t 171)),
m 173 12,
m 174 13,
o 175 (.bin .and 0 false (.t 173) (.t 174)),
o 176 (.bin .xor 0 false (.t 172) (.t 175)),
m 19 176])
(.ops [m 177 17,
m 178 18,
o 179 (.bin .add 0 false (.t 177) (.t 178)),
m 180 19,
o 181 (.bin .add 0 false (.t 179) (.t 180)),
m 182 11,
m 183 12,
m 184 13,
o 185 (.idxAddrArr 8 1 (.t 9) (.c (.int .i64 3))),
o 186 (.load false 1 (.t 185)),
m 187 17,
o 188 (.bin .add 0 false (.t 186) (.t 187)),
m 189 14,
o 190 (.idxAddrArr 8 1 (.t 9) (.c (.int .i64 5))),
o 191 (.load false 1 (.t 190)),
o 192 (.idxAddrArr 8 1 (.t 9) (.c (.int .i64 6))),
o 193 (.load false 1 (.t 192)),
o 194 (.build [(.int .u32 0),(.int .u32 0),(.int .u32 0),(.int .u32 0),(.int .u32 0),(.int .u32 0),(.int .u32 0),(.int .u32 0)] [(0,1,(.t 181)),(1,1,(.t 182)),(2,1,(.t 183)),(3,1,(.t 184)),(4,1,(.t 188)),(5,1,(.t 189)),(6,1,(.t 191)),(7,1,(.t 193))]),
u (.store 8 (.t 9) (.t 194))])))))))))
(.ops [o 195 (.bin .add 0 true (.t 115) (.c (.int .i64 1))),
m 115 195]))))
def L_sha_Hash_mix_3 : KC :=
(.seq (.ops [o 197 (.bin .lss 0 true (.t 196) (.c (.int .i64 8)))])
(.seq (.cond (.t 197)
.skip
(.exit [] 6))
(.seq (.block 7
(.seq (.ops [m 198 196,
m 20 198])
(.plain [m 199 0,
m 200 20,
o 201 (.nilck (.t 199)),
o 202 (.fieldAddr 1 (.t 201)),
o 203 (.idxAddrArr 8 1 (.t 202) (.t 200)),
o 204 (.load false 1 (.t 203)),
m 205 20,
o 206 (.idxAddrArr 8 1 (.t 9) (.t 205)),
o 207 (.load false 1 (.t 206)),
o 208 (.bin .add 0 false (.t 204) (.t 207)),
o 209 (.nilck (.t 199)),
o 210 (.fieldAddr 1 (.t 209)),
o 211 (.idxAddrArr 8 1 (.t 210) (.t 200)),
u (.store 1 (.t 211) (.t 208))])))
(.ops [o 212 (.bin .add 0 true (.t 196) (.c (.int .i64 1))),
m 196 212]))))
def K_sha_Hash_mix : KF := ⟨1,213,[],
(.seq (.ops [o 2 (.new [(.int .u32 0),(.int .u32 0),(.int .u32 0),(.int .u32 0),(.int .u32 0),(.int .u32 0),(.int .u32 0),(.int .u32 0),(.int .u32 0),(.int .u32 0),(.int .u32 0),(.int .u32 0),(.int .u32 0),(.int .u32 0),(.int .u32 0),(.int .u32 0),(.int .u32 0),(.int .u32 0),(.int .u32 0),(.int .u32 0),(.int .u32 0),(.int .u32 0),(.int .u32 0),(.int .u32 0),(.int .u32 0),(.int .u32 0),(.int .u32 0),(.int .u32 0),(.int .u32 0),(.int .u32 0),(.int .u32 0),(.int .u32 0),(.int .u32 0),(.int .u32 0),(.int .u32 0),(.int .u32 0),(.int .u32 0),(.int .u32 0),(.int .u32 0),(.int .u32 0),(.int .u32 0),(.int .u32 0),(.int .u32 0),(.int .u32 0),(.int .u32 0),(.int .u32 0),(.int .u32 0),(.int .u32 0),(.int .u32 0),(.int .u32 0),(.int .u32 0),(.int .u32 0),(.int .u32 0),(.int .u32 0),(.int .u32 0),(.int .u32 0),(.int .u32 0),(.int .u32 0),(.int .u32 0),(.int .u32 0),(.int .u32 0),(.int .u32 0),(.int .u32 0),(.int .u32 0)] none)])
(.seq (.seq (.ops [o 21 (.mv (.c (.int .i64 0)))])
(.block 0
(.loop [0,2,21] L_sha_Hash_mix_0)))
(.seq (.seq (.ops [o 4 (.mv (.c (.int .i64 16)))])
(.block 2
(.loop [0,2,4] L_sha_Hash_mix_1)))
(.seq (.ops [m 111 0,
o 112 (.nilck (.t 111)),
o 113 (.fieldAddr 1 (.t 112)),
o 114 (.load true 8 (.t 113)),
o 9 (.new [(.int .u32 0),(.int .u32 0),(.int .u32 0),(.int .u32 0),(.int .u32 0),(.int .u32 0),(.int .u32 0),(.int .u32 0)] none),
u (.store 8 (.t 9) (.t 114))])
(.seq (.seq (.ops [o 115 (.mv (.c (.int .i64 0)))])
(.block 4
(.loop [0,2,9,115] L_sha_Hash_mix_2)))
(.seq (.ops [o 196 (.mv (.c (.int .i64 0)))])
(.block 6
(.loop [0,9,196] L_sha_Hash_mix_3))))))))⟩
/-! (*legate/sha.Hash).Write -/
def L_sha_Hash_Write_0 : KC :=
(.seq (.seq (.ops [m 35 1,
o 36 (.len 0 (.t 35)),
o 37 (.bin .gtr 0 true (.t 36) (.c (.int .i64 0)))])
(.cond (.t 37)
.skip
(.exit [] 0)))
(.block 1
(.seq (.ops [m 38 0,
o 39 (.nilck (.t 38)),
o 40 (.fieldAddr 9 (.t 39)),
m 41 5,
o 42 (.sliceArr 64 1 (.t 40) (some (.t 41)) none none),
m 43 1,
o 44 (.cpy 1 (.t 42) (.t 43)),
m 6 44])
(.seq (.ops [m 45 1,
m 46 6,
o 47 (.sliceStr (.t 45) (some (.t 46)) none),
m 1 47])
(.seq (.ops [m 48 5,
m 49 6,
o 50 (.bin .add 0 false (.t 48) (.t 49)),
m 5 50])
(.seq (.ops [m 51 5,
o 52 (.bin .eql 0 true (.t 51) (.c (.int .i64 64)))])
(.cond (.t 52)
(.seq (.ops [m 53 0,
o 54 (.callF f_sha_Hash_mix [(.t 53)])])
(.ops [o 5 (.mv (.c (.int .i64 0)))]))
.skip)))))))
def K_sha_Hash_Write : KF := ⟨2,55,[(.tmp 4)],
(.seq (.ops [o 4 (.mv (.c (.int .i64 0)))])
(.seq (.seq (.ops [m 7 0,
o 8 (.bin .eql 3 true (.t 7) (.c .nilp))])
(.cond (.t 8)
(.seq (.ops [o 4 (.mv (.c (.int .i64 2)))])
(.ret [4]))
.skip))
(.seq (.seq (.ops [m 9 0,
o 10 (.nilck (.t 9)),
o 11 (.fieldAddr 0 (.t 10)),
o 12 (.load false 1 (.t 11)),
o 13 (.un .not (.t 12))])
(.cond (.t 13)
(.ops [m 14 0,
m 15 0,
o 16 (.load true 8 (.g g_sha_initial)),
o 17 (.nilck (.t 14)),
o 18 (.fieldAddr 0 (.t 17)),
u (.store 1 (.t 18) (.c (.bool true))),
o 19 (.nilck (.t 15)),
o 20 (.fieldAddr 1 (.t 19)),
u (.store 8 (.t 20) (.t 16))])
.skip))
(.seq (.ops [m 21 0,
o 22 (.nilck (.t 21)),
o 23 (.fieldAddr 73 (.t 22)),
o 24 (.load false 1 (.t 23)),
o 25 (.bin .rem 0 true (.t 24) (.c (.int .i64 64))),
m 5 25])
(.seq (.ops [m 26 0,
o 27 (.nilck (.t 26)),
o 28 (.fieldAddr 73 (.t 27)),
o 29 (.load false 1 (.t 28)),
m 30 1,
o 31 (.len 0 (.t 30)),
o 32 (.bin .add 0 false (.t 29) (.t 31)),
o 33 (.nilck (.t 26)),
o 34 (.fieldAddr 73 (.t 33)),
u (.store 1 (.t 34) (.t 32))])
(.seq (.block 0
(.loop [0,1,5] L_sha_Hash_Write_0))
(.seq (.ops [o 4 (.mv (.c (.int .i64 0)))])
(.ret [4]))))))))⟩
/-! (*legate/sha.Hash).Sum -/
def L_sha_Hash_Sum_0 : KC :=
(.seq (.ops [o 32 (.bin .lss 0 true (.t 31) (.c (.int .i64 8)))])
(.seq (.cond (.t 32)
.skip
(.exit [3,5] 0))
(.seq (.block 1
(.seq (.ops [m 33 31,
m 6 33])
(.ops [m 34 6,
m 35 4,
m 36 6,
o 37 (.bin .mul 0 true (.c (.int .i64 8)) (.t 36)),
o 38 (.bin .sub 0 true (.c (.int .i64 56)) (.t 37)),
o 39 (.bin .shr 0 false (.t 35) (.t 38)),
o 40 (.i2i .u8 (.t 39)),
o 41 (.idxAddrArr 8 1 (.t 5) (.t 34)),
u (.store 1 (.t 41) (.t 40))])))
(.ops [o 42 (.bin .add 0 true (.t 31) (.c (.int .i64 1))),
m 31 42]))))
def L_sha_Hash_Sum_1 : KC :=
(.seq (.ops [o 50 (.bin .lss 0 true (.t 49) (.c (.int .i64 8)))])
(.seq (.cond (.t 50)
.skip
(.exit [7] 2))
(.seq (.block 3
(.seq (.ops [o 51 (.idxArr 8 false 1 (.t 48) (.t 49)),
m 9 51])
(.ops [m 52 7,
m 53 9,
o 54 (.bin .shr 0 true (.t 53) (.c (.int .u64 24))),
o 55 (.i2i .u8 (.t 54)),
m 56 9,
o 57 (.bin .shr 0 true (.t 56) (.c (.int .u64 16))),
o 58 (.i2i .u8 (.t 57)),
m 59 9,
o 60 (.bin .shr 0 true (.t 59) (.c (.int .u64 8))),
o 61 (.i2i .u8 (.t 60)),
m 62 9,
o 63 (.i2i .u8 (.t 62)),
o 64 (.buildSl [(.int .u8 0)] 4 1 [(0,1,(.t 55)),(1,1,(.t 58)),(2,1,(.t 61)),(3,1,(.t 63))]),
o 65 (.app false 1 1 (some (5,false)) (.t 52) (.t 64)),
m 7 65])))
(.ops [o 66 (.bin .add 0 true (.t 49) (.c (.int .i64 1))),
m 49 66]))))
def K_sha_Hash_Sum : KF := ⟨1,69,[(.tmp 2)],
(.seq (.ops [o 2 (.mv (.c (.str [])))])
(.seq (.seq (.ops [m 10 0,
o 11 (.bin .eql 3 true (.t 10) (.c .nilp))])
(.cond (.t 11)
(.seq (.ops [o 2 (.mv (.c (.str [])))])
(.ret [2]))
.skip))
(.seq (.ops [m 12 0,
o 13 (.nilck (.t 12)),
o 14 (.load true 74 (.t 13)),
o 3 (.new [(.bool false),(.int .u32 0),(.int .u32 0),(.int .u32 0),(.int .u32 0),(.int .u32 0),(.int .u32 0),(.int .u32 0),(.int .u32 0),(.int .u8 0),(.int .u8 0),(.int .u8 0),(.int .u8 0),(.int .u8 0),(.int .u8 0),(.int .u8 0),(.int .u8 0),(.int .u8 0),(.int .u8 0),(.int .u8 0),(.int .u8 0),(.int .u8 0),(.int .u8 0),(.int .u8 0),(.int .u8 0),(.int .u8 0),(.int .u8 0),(.int .u8 0),(.int .u8 0),(.int .u8 0),(.int .u8 0),(.int .u8 0),(.int .u8 0),(.int .u8 0),(.int .u8 0),(.int .u8 0),(.int .u8 0),(.int .u8 0),(.int .u8 0),(.int .u8 0),(.int .u8 0),(.int .u8 0),(.int .u8 0),(.int .u8 0),(.int .u8 0),(.int .u8 0),(.int .u8 0),(.int .u8 0),(.int .u8 0),(.int .u8 0),(.int .u8 0),(.int .u8 0),(.int .u8 0),(.int .u8 0),(.int .u8 0),(.int .u8 0),(.int .u8 0),(.int .u8 0),(.int .u8 0),(.int .u8 0),(.int .u8 0),(.int .u8 0),(.int .u8 0),(.int .u8 0),(.int .u8 0),(.int .u8 0),(.int .u8 0),(.int .u8 0),(.int .u8 0),(.int .u8 0),(.int .u8 0),(.int .u8 0),(.int .u8 0),(.int .i64 0)] none),
u (.store 74 (.t 3) (.t 14))])
(.seq (.ops [m 15 0,
o 16 (.nilck (.t 15)),
o 17 (.fieldAddr 73 (.t 16)),
o 18 (.load false 1 (.t 17)),
o 19 (.i2i .u64 (.t 18)),
o 20 (.bin .mul 0 true (.t 19) (.c (.int .u64 8))),
m 4 20])
(.seq (.ops [m 21 0,
o 22 (.nilck (.t 21)),
o 23 (.fieldAddr 73 (.t 22)),
o 24 (.load false 1 (.t 23)),
o 25 (.bin .rem 0 true (.t 24) (.c (.int .i64 64))),
o 26 (.bin .sub 0 true (.c (.int .i64 119)) (.t 25)),
o 27 (.bin .rem 0 true (.t 26) (.c (.int .i64 64))),
o 28 (.callF f_strings_Repeat [(.c (.str [0])),(.t 27)]),
o 29 (.bin .add 0 true (.c (.str [128])) (.t 28)),
o 30 (.callF f_sha_Hash_Write [(.t 3),(.t 29)])])
(.seq (.ops [o 5 (.new [(.int .u8 0),(.int .u8 0),(.int .u8 0),(.int .u8 0),(.int .u8 0),(.int .u8 0),(.int .u8 0),(.int .u8 0)] none)])
(.seq (.seq (.ops [o 31 (.mv (.c (.int .i64 0)))])
(.block 0
(.loop [3,4,5,31] L_sha_Hash_Sum_0)))
(.seq (.ops [o 43 (.sliceArr 8 1 (.t 5) none none none),
o 44 (.b2s (.t 43)),
o 45 (.callF f_sha_Hash_Write [(.t 3),(.t 44)])])
(.seq (.ops [o 46 (.mkSlice [(.int .u8 0)] 1 1 (.c (.int .i64 0)) (.c (.int .i64 32))),
m 7 46])
(.seq (.seq (.ops [o 47 (.fieldAddr 1 (.t 3)),
o 48 (.load true 8 (.t 47)),
o 49 (.mv (.c (.int .i64 0)))])
(.block 2
(.loop [7,48,49] L_sha_Hash_Sum_1)))
(.seq (.ops [m 67 7,
o 68 (.b2s (.t 67)),
m 2 68])
(.ret [2]))))))))))))⟩
/-! legate/sha.New -/
def K_sha_New : KF := ⟨0,4,[(.tmp 0)],
(.seq (.ops [o 0 (.mv (.c .nilp))])
(.seq (.ops [o 1 (.load true 8 (.g g_sha_initial)),
o 2 (.build [(.bool false),(.int .u32 0),(.int .u32 0),(.int .u32 0),(.int .u32 0),(.int .u32 0),(.int .u32 0),(.int .u32 0),(.int .u32 0),(.int .u8 0),(.int .u8 0),(.int .u8 0),(.int .u8 0),(.int .u8 0),(.int .u8 0),(.int .u8 0),(.int .u8 0),(.int .u8 0),(.int .u8 0),(.int .u8 0),(.int .u8 0),(.int .u8 0),(.int .u8 0),(.int .u8 0),(.int .u8 0),(.int .u8 0),(.int .u8 0),(.int .u8 0),(.int .u8 0),(.int .u8 0),(.int .u8 0),(.int .u8 0),(.int .u8 0),(.int .u8 0),(.int .u8 0),(.int .u8 0),(.int .u8 0),(.int .u8 0),(.int .u8 0),(.int .u8 0),(.int .u8 0),(.int .u8 0),(.int .u8 0),(.int .u8 0),(.int .u8 0),(.int .u8 0),(.int .u8 0),(.int .u8 0),(.int .u8 0),(.int .u8 0),(.int .u8 0),(.int .u8 0),(.int .u8 0),(.int .u8 0),(.int .u8 0),(.int .u8 0),(.int .u8 0),(.int .u8 0),(.int .u8 0),(.int .u8 0),(.int .u8 0),(.int .u8 0),(.int .u8 0),(.int .u8 0),(.int .u8 0),(.int .u8 0),(.int .u8 0),(.int .u8 0),(.int .u8 0),(.int .u8 0),(.int .u8 0),(.int .u8 0),(.int .u8 0),(.int .i64 0)] [(0,1,(.c (.bool true))),(1,8,(.t 1))]),
o 3 (.box (.t 2)),
m 0 3])
(.ret [0])))⟩
/-! legate/sha.Sum -/
def K_sha_Sum : KF := ⟨1,10,[(.tmp 2)],
(.seq (.ops [o 2 (.mv (.c (.str [])))])
(.seq (.ops [o 4 (.callF f_sha_New []),
m 3 4])
(.seq (.ops [m 5 3,
m 6 0,
o 7 (.callF f_sha_Hash_Write [(.t 5),(.t 6)])])
(.seq (.ops [m 8 3,
o 9 (.callF f_sha_Hash_Sum [(.t 8)]),
m 2 9])
(.ret [2])))))⟩
/-! legate/sha.Digest -/
def K_sha_Digest : KF := ⟨1,6,[(.tmp 2)],
(.seq (.ops [o 2 (.mv (.c (.str [])))])
(.seq (.ops [m 3 0,
o 4 (.callF f_sha_Sum [(.t 3)]),
o 5 (.callF f_hex_Encode [(.t 4)]),
m 2 5])
(.ret [2])))⟩
end Go.Ev

namespace Go.Ev
set_option maxRecDepth 100000
set_option linter.unusedSimpArgs false
variable {C : Ctx}
abbrev Wd := BitVec 32
/-- a word -/
def iw (x : Wd) : AV := .int .u32 (x.toNat : Int)
theorem bc_iw (np : Bool) (op : BinOp) (ek : Nat) (c : Bool) (x : Wd) (y : AV) : binC np op ek c (iw x) y = binOp op ek c (iw x) y := by cases np <;> rfl
theorem wd_of (x : Wd) : BitVec.ofInt 32 (x.toNat : Int) = x := by
  apply BitVec.eq_of_toNat_eq
  rw [bvOf 32 x.toNat x.isLt]
theorem wd_wrap (x : Wd) : IntKind.u32.wrap (x.toNat : Int) = (x.toNat : Int) := uwrap .u32 rfl _ x.isLt
theorem iw_xor (b : Bool) (x y : Wd) : binOp .xor 0 b (iw x) (iw y) = some (iw (x ^^^ y)) := by
  show some (AV.int .u32 (IntKind.u32.wrap ((BitVec.ofInt 32 (x.toNat : Int) ^^^ BitVec.ofInt 32 (y.toNat : Int)).toNat : Int))) = _
  rw [wd_of,wd_of,wd_wrap]; rfl
theorem iw_and (b : Bool) (x y : Wd) : binOp .and 0 b (iw x) (iw y) = some (iw (x &&& y)) := by
  show some (AV.int .u32 (IntKind.u32.wrap ((BitVec.ofInt 32 (x.toNat : Int) &&& BitVec.ofInt 32 (y.toNat : Int)).toNat : Int))) = _
  rw [wd_of,wd_of,wd_wrap]; rfl
theorem iw_or (b : Bool) (x y : Wd) : binOp .or 0 b (iw x) (iw y) = some (iw (x ||| y)) := by
  show some (AV.int .u32 (IntKind.u32.wrap ((BitVec.ofInt 32 (x.toNat : Int) ||| BitVec.ofInt 32 (y.toNat : Int)).toNat : Int))) = _
  rw [wd_of,wd_of,wd_wrap]; rfl
theorem iw_add (b : Bool) (x y : Wd) : binOp .add 0 b (iw x) (iw y) = some (iw (x + y)) := by
  show some (AV.int .u32 (IntKind.u32.wrap ((x.toNat : Int) + (y.toNat : Int)))) = _
  have : IntKind.u32.wrap ((x.toNat : Int) + (y.toNat : Int)) = ((x + y).toNat : Int) := by
    rw [IntKind.wrap_u32,BitVec.toNat_add]
    omega
  rw [this]; rfl
theorem iw_not (x : Wd) : unOp .xor (iw x) = some (iw (~~~ x)) := by
  show some (AV.int .u32 (IntKind.u32.wrap ((BitVec.ofInt 32 4294967295 ^^^ BitVec.ofInt 32 (x.toNat : Int)).toNat : Int))) = _
  rw [wd_of,wd_wrap]
  have : BitVec.ofInt 32 4294967295 ^^^ x = ~~~ x := by
    rw [show BitVec.ofInt 32 4294967295 = BitVec.allOnes 32 from rfl,BitVec.allOnes_xor]
  rw [this]; rfl
theorem iw_shl (b : Bool) (x : Wd) (k : IntKind) (n : Nat) : binOp .shl 0 b (iw x) (.int k (n : Int)) = some (iw (x <<< (min n 32))) := by
  show shiftInt .shl .u32 (x.toNat : Int) (n : Int) = _
  unfold shiftInt
  rw [if_neg (by omega)]
  show some (AV.int .u32 (IntKind.u32.wrap ((x.toNat : Int) * 2 ^ (min n 32)))) = _
  have : IntKind.u32.wrap ((x.toNat : Int) * 2 ^ (min n 32)) = ((x <<< (min n 32)).toNat : Int) := by
    rw [IntKind.wrap_u32,BitVec.toNat_shiftLeft,Nat.shiftLeft_eq,Int.natCast_emod,Int.natCast_mul,Int.natCast_pow]
    rfl
  rw [this]; rfl
theorem iw_shr (b : Bool) (x : Wd) (k : IntKind) (n : Nat) : binOp .shr 0 b (iw x) (.int k (n : Int)) = some (iw (x >>> (min n 32))) := by
  show shiftInt .shr .u32 (x.toNat : Int) (n : Int) = _
  unfold shiftInt
  rw [if_neg (by omega)]
  show some (AV.int .u32 ((x.toNat : Int).fdiv (2 ^ (min n 32)))) = _
  have : (x.toNat : Int).fdiv (2 ^ (min n 32)) = ((x >>> (min n 32)).toNat : Int) := by
    rw [BitVec.toNat_ushiftRight,Nat.shiftRight_eq_div_pow,Int.fdiv_eq_ediv_of_nonneg _ (Int.pow_nonneg (by decide)),Int.natCast_ediv,Int.natCast_pow]
    rfl
  rw [this]; rfl
def rotl (x : Wd) (n : Nat) : Wd := (x <<< n) ||| (x >>> (32 - n))
theorem RotateLeft32 (hC : Has C f_math_bits_RotateLeft32 K_math_bits_RotateLeft32) (x : Wd) (k : Int) (n : Nat) (hn : n < 32)
    (hk : IntKind.u64.wrap ((BitVec.ofInt IntKind.u64.bits (IntKind.u64.wrap k) &&& BitVec.ofInt IntKind.u64.bits 31).toNat : Int) = (n : Int)) (σ : St) :
    semF C f_math_bits_RotateLeft32 [iw x,.int .i64 k] σ = some (iw (rotl x n),σ) := by
  rw [hC.run]
  unfold runK
  have h1 : IntKind.u64.wrap (32 - (n : Int)) = ((32 - n : Nat) : Int) := by rw [wu64] <;> omega
  have h2 : min n 32 = n := by omega
  have h3 : min (32 - n) 32 = 32 - n := by omega
  have hn' : ∀ σ r,normV σ r (iw x) = some (iw x,[]) := fun _ _ => by unfold iw normV; rfl
  have hn2 : ∀ σ r,normV σ r (iw (x <<< n ||| x >>> (32 - n))) = some (iw (x <<< n ||| x >>> (32 - n)),[]) := fun _ _ => by unfold iw normV; rfl
  simp only [K_math_bits_RotateLeft32,hk,h1,iw_shl,iw_shr,iw_or,h2,h3,hn',hn2,rotl,bc_iw,EVC,EVA,Nat.reduceEqDiff,eqOp,eqA,eqNil,lenA,asNat,optNat,pt,tupleOf,Nat.reduceSub,Nat.reduceGT,Nat.reduceLT,Nat.reduceAdd,hand,norms,normVs,normV,freeze,reduceIte,reduceCtorEq,srcCells,slCells,isStr,fillA,rep,Nat.reduceMul,Nat.reduceLeDiff]
end Go.Ev

namespace Go.Ev
set_option maxRecDepth 100000
set_option linter.unusedSimpArgs false
variable {C : Ctx}
/-! ## lists of words in cells -/
theorem iw_cells (x : Wd) : (iw x).cells = [iw x] := rfl
theorem iw_flat (x : Wd) : (iw x).flat = true := rfl
theorem iw_shlI (b : Bool) (x : Wd) (k : IntKind) (z : Int) (h0 : 0 ≤ z) (h1 : z ≤ 32) : binOp .shl 0 b (iw x) (.int k z) = some (iw (x <<< z.toNat)) := by
  have := iw_shl b x k z.toNat
  rw [Int.toNat_of_nonneg h0,Nat.min_eq_left (by omega)] at this
  exact this
theorem iw_shrI (b : Bool) (x : Wd) (k : IntKind) (z : Int) (h0 : 0 ≤ z) (h1 : z ≤ 32) : binOp .shr 0 b (iw x) (.int k z) = some (iw (x >>> z.toNat)) := by
  have := iw_shr b x k z.toNat
  rw [Int.toNat_of_nonneg h0,Nat.min_eq_left (by omega)] at this
  exact this
def wb (b : UInt8) : Wd := BitVec.ofNat 32 b.toNat
theorem wb_is (b : UInt8) : AV.int .u32 (IntKind.u32.wrap (b.toNat : Int)) = iw (wb b) := by
  have hlt : b.toNat < 256 := b.toNat_lt
  unfold iw wb
  rw [wu32 (by omega) (by omega),BitVec.toNat_ofNat,Nat.mod_eq_of_lt (by omega)]
theorem iws_at (l : List Wd) (i : Nat) (h : i < l.length) : ((l.map iw).drop i).head? = some (iw (l.getD i 0)) := by
  rw [List.head?_drop,List.getElem?_map,List.getElem?_eq_getElem h,List.getD_eq_getElem?_getD,List.getElem?_eq_getElem h]
  rfl
theorem splice_set {α : Type} (f : α → AV) (l : List α) (i : Nat) (v : α) (h : i < l.length) : splice (l.map f) i [f v] = (l.set i v).map f := by
  unfold splice
  rw [List.set_eq_take_append_cons_drop,if_pos h]
  simp
/-- the cells of a hash -/
def hashC (b : Bool) (st : List Wd) (part : List UInt8) (sz : Int) : List AV := .bool b :: (st.map iw ++ (ofBytes part ++ [.int .i64 sz]))
theorem hashC_length {b st part sz} (h8 : st.length = 8) (h64 : part.length = 64) : (hashC b st part sz).length = 74 := by
  simp [hashC,ofBytes_length,h8,h64]
theorem hashC_part {b st part sz} (h8 : st.length = 8) (h64 : part.length = 64) (i : Nat) (hi : i < 64) : ((hashC b st part sz).drop (9 + i)).head? = some (.int .u8 ((part.getD i 0).toNat : Int)) := by
  unfold hashC ofBytes
  rw [List.head?_drop,show 9 + i = (8 + i) + 1 by omega,List.getElem?_cons_succ,List.getElem?_append_right (by simp [h8]),List.getElem?_append_left (by simp [h8,h64]; omega)]
  simp only [List.length_map,h8,List.getElem?_map,show 8 + i - 8 = i by omega]
  rw [List.getElem?_eq_getElem (by omega),List.getD_eq_getElem?_getD,List.getElem?_eq_getElem (by omega)]
  rfl
theorem hashC_state {b st part sz} (h8 : st.length = 8) (i : Nat) (hi : i < 8) : ((hashC b st part sz).drop (1 + i)).head? = some (iw (st.getD i 0)) := by
  unfold hashC
  rw [List.head?_drop,Nat.add_comm 1 i,List.getElem?_cons_succ,List.getElem?_append_left (by simp [h8]; omega),List.getElem?_map,List.getElem?_eq_getElem (by omega),List.getD_eq_getElem?_getD,List.getElem?_eq_getElem (by omega)]
  rfl
theorem hashC_set {b st part sz} (h8 : st.length = 8) (i : Nat) (hi : i < 8) (v : Wd) : splice (hashC b st part sz) (1 + i) [iw v] = hashC b (st.set i v) part sz := by
  unfold hashC splice
  rw [Nat.add_comm 1 i,List.take_succ_cons,show i + 1 + [iw v].length = (i + 1) + 1 from rfl,List.drop_succ_cons,List.take_append_of_le_length (by simp [h8]; omega),List.drop_append_of_le_length (by simp [h8]; omega)]
  have := splice_set iw st i v (by omega)
  unfold splice at this
  rw [← this]
  simp
theorem last_get (σ : St) (x : AO) : (σ ++ [x])[σ.length]? = some x := by simp
theorem last_set (σ : St) (x y : AO) : (σ ++ [x]).set σ.length y = σ ++ [y] := by simp
theorem old_get {σ : St} {o : Nat} {x : AO} (h : σ[o]? = some x) (l : St) : (σ ++ l)[o]? = some x := by
  have : o < σ.length := (List.getElem?_eq_some_iff.mp h).1
  rw [List.getElem?_append_left this,h]
def wordAt (part : List UInt8) (i : Nat) : Wd := wb (part.getD (4 * i) 0) <<< 24 ||| wb (part.getD (4 * i + 1) 0) <<< 16 ||| wb (part.getD (4 * i + 2) 0) <<< 8 ||| wb (part.getD (4 * i + 3) 0)
def fill0 (part : List UInt8) : Nat → Nat → List Wd → List Wd
  | 0,_,w => w
  | n + 1,i,w => fill0 part n (i + 1) (w.set i (wordAt part i))
theorem mix_loop0 (b : Bool) (st : List Wd) (part : List UInt8) (sz : Int) (σ : St) (p : Nat) (hp : σ[p]? = some (.cells (hashC b st part sz) ⟨false,none⟩)) (h8 : st.length = 8) (h64 : part.length = 64) :
    ∀ (n i : Nat) (w : List Wd),i + n = 16 → w.length = 64 →
    loopK C (semF C) 213 [0,2,21] L_sha_Hash_mix_0 [(0,.ref p 0),(2,.ref σ.length 0),(21,.int .i64 i)] (σ ++ [.cells (w.map iw) ⟨false,none⟩]) =
      some (.exit 0,[(0,.ref p 0),(2,.ref σ.length 0)],σ ++ [.cells ((fill0 part n i w).map iw) ⟨false,none⟩])
  | 0,i,w,hi,hw => by
    rw [loopK_eq (he := rfl)]
    have h : ¬ ((i : Int) < 16) := by omega
    simp only [L_sha_Hash_mix_0,h,fill0,bc_iw,EVC,EVA,Nat.reduceEqDiff,eqOp,eqA,eqNil,lenA,asNat,optNat,pt,tupleOf,Nat.reduceSub,Nat.reduceGT,Nat.reduceLT,Nat.reduceAdd,hand,norms,normVs,normV,freeze,reduceIte,reduceCtorEq,srcCells,slCells,isStr,fillA,rep,Nat.reduceMul,Nat.reduceLeDiff]
  | n + 1,i,w,hi,hw => by
    rw [loopK_eq (he := rfl)]
    generalize hk : loopK C (semF C) 213 [0,2,21] L_sha_Hash_mix_0 = rest
    have h : ((i : Int) < 16) := by omega
    have w1 : IntKind.i64.wrap (4 * (i : Int)) = ((4 * i : Nat) : Int) := by rw [w64] <;> omega
    have w2 : IntKind.i64.wrap (((4 * i : Nat) : Int) + 1) = ((4 * i + 1 : Nat) : Int) := by rw [w64] <;> omega
    have w3 : IntKind.i64.wrap (((4 * i : Nat) : Int) + 2) = ((4 * i + 2 : Nat) : Int) := by rw [w64] <;> omega
    have w4 : IntKind.i64.wrap (((4 * i : Nat) : Int) + 3) = ((4 * i + 3 : Nat) : Int) := by rw [w64] <;> omega
    have w5 : IntKind.i64.wrap ((i : Int) + 1) = ((i + 1 : Nat) : Int) := by rw [w64] <;> omega
    have p1 : ∀ j : Nat,(0 : Int) ≤ (j : Int) := fun j => by omega
    have l1 : 4 * i < 64 := by omega
    have l2 : 4 * i + 1 < 64 := by omega
    have l3 : 4 * i + 2 < 64 := by omega
    have l4 : 4 * i + 3 < 64 := by omega
    have l5 : i < 64 := by omega
    have l6 : i + 1 ≤ 64 := by omega
    have g := old_get hp [.cells (w.map iw) ⟨false,none⟩]
    have s1 := splice_set iw w i (wordAt part i) (by omega)
    unfold wordAt at s1
    simp only [L_sha_Hash_mix_0,h,w1,w2,w3,w4,w5,p1,l1,l2,l3,l4,l5,l6,g,hw,List.length_map,hashC_part h8 h64,wb_is,iw_shlI,iw_or,iw_cells,iw_flat,last_get,last_set,s1,Int.toNat_natCast,Int.reduceLE,Int.reduceToNat,bc_iw,EVC,EVA,Nat.reduceEqDiff,eqOp,eqA,eqNil,lenA,asNat,optNat,pt,tupleOf,Nat.reduceSub,Nat.reduceGT,Nat.reduceLT,Nat.reduceAdd,hand,norms,normVs,normV,freeze,reduceIte,reduceCtorEq,srcCells,slCells,isStr,fillA,rep,Nat.reduceMul,Nat.reduceLeDiff]
    rw [← hk,mix_loop0 b st part sz σ p hp h8 h64 n (i + 1) _ (by omega) (by rw [List.length_set,hw])]
    rfl
end Go.Ev

namespace Go.Ev
set_option maxRecDepth 100000
set_option linter.unusedSimpArgs false
variable {C : Ctx}
def rk (k : Int) : Nat := (IntKind.u64.wrap ((BitVec.ofInt IntKind.u64.bits (IntKind.u64.wrap k) &&& BitVec.ofInt IntKind.u64.bits 31).toNat : Int)).toNat
/-- the rotations that are used -/
theorem rot (hC : Has C f_math_bits_RotateLeft32 K_math_bits_RotateLeft32) (k : Int) (n : Nat) (hn : n < 32)
    (hk : IntKind.u64.wrap ((BitVec.ofInt IntKind.u64.bits (IntKind.u64.wrap k) &&& BitVec.ofInt IntKind.u64.bits 31).toNat : Int) = (n : Int)) :
    ∀ (x : Wd) (σ : St),semF C f_math_bits_RotateLeft32 [iw x,.int .i64 k] σ = some (iw (rotl x n),σ) := fun x σ => RotateLeft32 hC x k n hn hk σ
def low1 (x : Wd) : Wd := rotl x 25 ^^^ rotl x 14 ^^^ x >>> 3
def high1 (x : Wd) : Wd := rotl x 15 ^^^ rotl x 13 ^^^ x >>> 10
def next1 (w : List Wd) (i : Nat) : Wd := w.getD (i - 16) 0 + low1 (w.getD (i - 15) 0) + w.getD (i - 7) 0 + high1 (w.getD (i - 2) 0)
def fill1 : Nat → Nat → List Wd → List Wd
  | 0,_,w => w
  | n + 1,i,w => fill1 n (i + 1) (w.set i (next1 w i))
theorem mix_loop1 (hR : Has C f_math_bits_RotateLeft32 K_math_bits_RotateLeft32) (σ : St) (p : Nat) :
    ∀ (n i : Nat) (w : List Wd),16 ≤ i → i + n = 64 → w.length = 64 →
    loopK C (semF C) 213 [0,2,4] L_sha_Hash_mix_1 [(0,.ref p 0),(2,.ref σ.length 0),(4,.int .i64 i)] (σ ++ [.cells (w.map iw) ⟨false,none⟩]) =
      some (.exit 2,[(0,.ref p 0),(2,.ref σ.length 0)],σ ++ [.cells ((fill1 n i w).map iw) ⟨false,none⟩])
  | 0,i,w,h16,hi,hw => by
    rw [loopK_eq (he := rfl)]
    have h : ¬ ((i : Int) < 64) := by omega
    simp only [L_sha_Hash_mix_1,h,fill1,bc_iw,EVC,EVA,Nat.reduceEqDiff,eqOp,eqA,eqNil,lenA,asNat,optNat,pt,tupleOf,Nat.reduceSub,Nat.reduceGT,Nat.reduceLT,Nat.reduceAdd,hand,norms,normVs,normV,freeze,reduceIte,reduceCtorEq,srcCells,slCells,isStr,fillA,rep,Nat.reduceMul,Nat.reduceLeDiff]
  | n + 1,i,w,h16,hi,hw => by
    rw [loopK_eq (he := rfl)]
    generalize hk : loopK C (semF C) 213 [0,2,4] L_sha_Hash_mix_1 = rest
    have h : ((i : Int) < 64) := by omega
    have w1 : IntKind.i64.wrap ((i : Int) - 15) = ((i - 15 : Nat) : Int) := by rw [w64] <;> omega
    have w2 : IntKind.i64.wrap ((i : Int) - 2) = ((i - 2 : Nat) : Int) := by rw [w64] <;> omega
    have w3 : IntKind.i64.wrap ((i : Int) - 16) = ((i - 16 : Nat) : Int) := by rw [w64] <;> omega
    have w4 : IntKind.i64.wrap ((i : Int) - 7) = ((i - 7 : Nat) : Int) := by rw [w64] <;> omega
    have w5 : IntKind.i64.wrap ((i : Int) + 1) = ((i + 1 : Nat) : Int) := by rw [w64] <;> omega
    have p1 : ∀ j : Nat,(0 : Int) ≤ (j : Int) := fun j => by omega
    have l1 : i - 15 < 64 := by omega
    have l2 : i - 2 < 64 := by omega
    have l3 : i - 16 < 64 := by omega
    have l4 : i - 7 < 64 := by omega
    have l5 : i < 64 := by omega
    have l6 : i + 1 ≤ 64 := by omega
    have a1 := iws_at w (i - 15) (by omega)
    have a2 := iws_at w (i - 2) (by omega)
    have a3 := iws_at w (i - 16) (by omega)
    have a4 := iws_at w (i - 7) (by omega)
    have r1 := rot hR (-7) 25 (by decide) (by decide)
    have r2 := rot hR (-18) 14 (by decide) (by decide)
    have r3 := rot hR (-17) 15 (by decide) (by decide)
    have r4 := rot hR (-19) 13 (by decide) (by decide)
    have s1 := splice_set iw w i (next1 w i) (by omega)
    unfold next1 low1 high1 at s1
    simp only [L_sha_Hash_mix_1,h,w1,w2,w3,w4,w5,p1,l1,l2,l3,l4,l5,l6,hw,a1,a2,a3,a4,r1,r2,r3,r4,List.length_map,iw_shrI,iw_xor,iw_add,iw_cells,iw_flat,last_get,last_set,s1,Int.toNat_natCast,Int.reduceLE,Int.reduceToNat,bc_iw,EVC,EVA,Nat.reduceEqDiff,eqOp,eqA,eqNil,lenA,asNat,optNat,pt,tupleOf,Nat.reduceSub,Nat.reduceGT,Nat.reduceLT,Nat.reduceAdd,hand,norms,normVs,normV,freeze,reduceIte,reduceCtorEq,srcCells,slCells,isStr,fillA,rep,Nat.reduceMul,Nat.reduceLeDiff]
    rw [← hk,mix_loop1 hR σ p n (i + 1) _ (by omega) (by omega) (by rw [List.length_set,hw])]
    rfl
end Go.Ev

namespace Go.Ev
set_option maxRecDepth 100000
set_option linter.unusedSimpArgs false
variable {C : Ctx}
def kR : List Wd := [0x428a2f98,0x71374491,0xb5c0fbcf,0xe9b5dba5,0x3956c25b,0x59f111f1,0x923f82a4,0xab1c5ed5,
 0xd807aa98,0x12835b01,0x243185be,0x550c7dc3,0x72be5d74,0x80deb1fe,0x9bdc06a7,0xc19bf174,
 0xe49b69c1,0xefbe4786,0x0fc19dc6,0x240ca1cc,0x2de92c6f,0x4a7484aa,0x5cb0a9dc,0x76f988da,
 0x983e5152,0xa831c66d,0xb00327c8,0xbf597fc7,0xc6e00bf3,0xd5a79147,0x06ca6351,0x14292967,
 0x27b70a85,0x2e1b2138,0x4d2c6dfc,0x53380d13,0x650a7354,0x766a0abb,0x81c2c92e,0x92722c85,
 0xa2bfe8a1,0xa81a664b,0xc24b8b70,0xc76c51a3,0xd192e819,0xd6990624,0xf40e3585,0x106aa070,
 0x19a4c116,0x1e376c08,0x2748774c,0x34b0bcb5,0x391c0cb3,0x4ed8aa4a,0x5b9cca4f,0x682e6ff3,
 0x748f82ee,0x78a5636f,0x84c87814,0x8cc70208,0x90befffa,0xa4506ceb,0xbef9a3f7,0xc67178f2]
def hI : List Wd := [0x6a09e667,0xbb67ae85,0x3c6ef372,0xa54ff53a,0x510e527f,0x9b05688c,0x1f83d9ab,0x5be0cd19]
def first2 (w : List Wd) (i : Nat) (e f g h : Wd) : Wd := h + (rotl e 26 ^^^ rotl e 21 ^^^ rotl e 7) + (e &&& f ^^^ ~~~e &&& g) + kR.getD i 0 + w.getD i 0

def most2 (a b c : Wd) : Wd := (a &&& b ^^^ a &&& c ^^^ b &&& c)
/-- a round -/
def round2 (w : List Wd) (i : Nat) (s : List Wd) : List Wd :=
  [first2 w i (s.getD 4 0) (s.getD 5 0) (s.getD 6 0) (s.getD 7 0) + (rotl (s.getD 0 0) 30 ^^^ rotl (s.getD 0 0) 19 ^^^ rotl (s.getD 0 0) 10) + most2 (s.getD 0 0) (s.getD 1 0) (s.getD 2 0),
   s.getD 0 0,s.getD 1 0,s.getD 2 0,s.getD 3 0 + first2 w i (s.getD 4 0) (s.getD 5 0) (s.getD 6 0) (s.getD 7 0),s.getD 4 0,s.getD 5 0,s.getD 6 0]
def rounds2 (w : List Wd) : Nat → Nat → List Wd → List Wd
  | 0,_,s => s
  | n + 1,i,s => rounds2 w n (i + 1) (round2 w i s)
theorem splice_all (l v : List AV) (h : l.length = v.length) : splice l 0 v = v := by
  unfold splice
  rw [List.take_zero,List.nil_append,Nat.zero_add,List.drop_eq_nil_of_le (by omega),List.append_nil]
theorem mix_loop2 (hR : Has C f_math_bits_RotateLeft32 K_math_bits_RotateLeft32) (hg : C.gl g_sha_rounds = some (kR.map iw)) (τ : St) (p q : Nat) (w : List Wd) (hw : w.length = 64) (hq : τ[q]? = some (.cells (w.map iw) ⟨false,none⟩)) :
    ∀ (n i : Nat) (s : List Wd),i + n = 64 → s.length = 8 →
    loopK C (semF C) 213 [0,2,9,115] L_sha_Hash_mix_2 [(0,.ref p 0),(2,.ref q 0),(9,.ref τ.length 0),(115,.int .i64 i)] (τ ++ [.cells (s.map iw) ⟨false,none⟩]) =
      some (.exit 4,[(0,.ref p 0),(9,.ref τ.length 0)],τ ++ [.cells ((rounds2 w n i s).map iw) ⟨false,none⟩])
  | 0,i,s,hi,hs => by
    rw [loopK_eq (he := rfl)]
    have h : ¬ ((i : Int) < 64) := by omega
    simp only [L_sha_Hash_mix_2,h,rounds2,bc_iw,EVC,EVA,Nat.reduceEqDiff,eqOp,eqA,eqNil,lenA,asNat,optNat,pt,tupleOf,Nat.reduceSub,Nat.reduceGT,Nat.reduceLT,Nat.reduceAdd,hand,norms,normVs,normV,freeze,reduceIte,reduceCtorEq,srcCells,slCells,isStr,fillA,rep,Nat.reduceMul,Nat.reduceLeDiff]
  | n + 1,i,s,hi,hs => by
    rw [loopK_eq (he := rfl)]
    generalize hk : loopK C (semF C) 213 [0,2,9,115] L_sha_Hash_mix_2 = rest
    have h : ((i : Int) < 64) := by omega
    have w5 : IntKind.i64.wrap ((i : Int) + 1) = ((i + 1 : Nat) : Int) := by rw [w64] <;> omega
    have p1 : ∀ j : Nat,(0 : Int) ≤ (j : Int) := fun j => by omega
    have l5 : i < 64 := by omega
    have l6 : i ≤ kR.length := by show i ≤ 64; omega
    have a0 : (s.map iw).head? = some (iw (s.getD 0 0)) := iws_at s 0 (by omega)
    have a1 := iws_at s 1 (by omega)
    have a2 := iws_at s 2 (by omega)
    have a3 := iws_at s 3 (by omega)
    have a4 := iws_at s 4 (by omega)
    have a5 := iws_at s 5 (by omega)
    have a6 := iws_at s 6 (by omega)
    have a7 := iws_at s 7 (by omega)
    have b1 := iws_at w i (by omega)
    have b2 := iws_at kR i (by show i < 64; omega)
    have r1 := rot hR (-6) 26 (by decide) (by decide)
    have r2 := rot hR (-11) 21 (by decide) (by decide)
    have r3 := rot hR (-25) 7 (by decide) (by decide)
    have r4 := rot hR (-2) 30 (by decide) (by decide)
    have r5 := rot hR (-13) 19 (by decide) (by decide)
    have r6 := rot hR (-22) 10 (by decide) (by decide)
    have g := old_get hq [.cells (s.map iw) ⟨false,none⟩]
    have s1 : splice (s.map iw) 0 ((round2 w i s).map iw) = (round2 w i s).map iw := splice_all _ _ (by simp [hs,round2])
    unfold round2 first2 most2 at s1
    simp only [List.map_cons,List.map_nil] at s1
    simp only [L_sha_Hash_mix_2,h,w5,p1,l5,l6,hs,g,hg,Option.getD_some,a0,a1,a2,a3,a4,a5,a6,a7,b1,b2,r1,r2,r3,r4,r5,r6,List.length_map,iw_xor,iw_add,iw_and,iw_not,iw_cells,iw_flat,last_get,last_set,s1,Int.toNat_natCast,Int.reduceLE,Int.reduceToNat,bc_iw,EVC,EVA,Nat.reduceEqDiff,eqOp,eqA,eqNil,lenA,asNat,optNat,pt,tupleOf,Nat.reduceSub,Nat.reduceGT,Nat.reduceLT,Nat.reduceAdd,hand,norms,normVs,normV,freeze,reduceIte,reduceCtorEq,srcCells,slCells,isStr,fillA,rep,Nat.reduceMul,Nat.reduceLeDiff]
    rw [← hk]
    exact mix_loop2 hR hg τ p q w hw hq n (i + 1) (round2 w i s) (by omega) rfl
end Go.Ev

namespace Go.Ev
set_option maxRecDepth 100000
set_option linter.unusedSimpArgs false
variable {C : Ctx}
theorem set_get {σ : St} {p : Nat} (hp : p < σ.length) (x : AO) (l : St) : (σ.set p x ++ l)[p]? = some x := by
  rw [List.getElem?_append_left (by rw [List.length_set]; exact hp),List.getElem?_set_self hp]
theorem set_set {σ : St} {p : Nat} (hp : p < σ.length) (x y : AO) (l : St) : (σ.set p x ++ l).set p y = σ.set p y ++ l := by
  rw [List.set_append_left _ _ (by rw [List.length_set]; exact hp),List.set_set]
theorem set_last (σ : St) (p : Nat) (x y : AO) : (σ.set p x ++ [y])[σ.length]? = some y := by
  rw [List.getElem?_append_right (by rw [List.length_set]; omega)]
  simp
theorem Ok.set {σ : St} (h : Ok σ) (p : Nat) {x : AO} (hx : AO.below σ.length x = true) : Ok (σ.set p x) := by
  unfold Ok
  rw [List.length_set,List.all_eq_true]
  intro y hy
  rcases List.mem_or_eq_of_mem_set hy with h' | h'
  · exact List.all_eq_true.mp h y h'
  · rw [h']; exact hx
def fill3 (s : List Wd) : Nat → Nat → List Wd → List Wd
  | 0,_,st => st
  | n + 1,i,st => fill3 s n (i + 1) (st.set i (st.getD i 0 + s.getD i 0))
theorem mix_loop3 (b : Bool) (part : List UInt8) (sz : Int) (h64 : part.length = 64) (τ : St) (p : Nat) (hp : p < τ.length) (s : List Wd) (hs : s.length = 8) :
    ∀ (n i : Nat) (st : List Wd),i + n = 8 → st.length = 8 →
    loopK C (semF C) 213 [0,9,196] L_sha_Hash_mix_3 [(0,.ref p 0),(9,.ref τ.length 0),(196,.int .i64 i)] (τ.set p (.cells (hashC b st part sz) ⟨false,none⟩) ++ [.cells (s.map iw) ⟨false,none⟩]) =
      some (.exit 6,[],τ.set p (.cells (hashC b (fill3 s n i st) part sz) ⟨false,none⟩) ++ [.cells (s.map iw) ⟨false,none⟩])
  | 0,i,st,hi,hst => by
    rw [loopK_eq (he := rfl)]
    have h : ¬ ((i : Int) < 8) := by omega
    simp only [L_sha_Hash_mix_3,h,fill3,bc_iw,EVC,EVA,Nat.reduceEqDiff,eqOp,eqA,eqNil,lenA,asNat,optNat,pt,tupleOf,Nat.reduceSub,Nat.reduceGT,Nat.reduceLT,Nat.reduceAdd,hand,norms,normVs,normV,freeze,reduceIte,reduceCtorEq,srcCells,slCells,isStr,fillA,rep,Nat.reduceMul,Nat.reduceLeDiff]
  | n + 1,i,st,hi,hst => by
    rw [loopK_eq (he := rfl)]
    generalize hk : loopK C (semF C) 213 [0,9,196] L_sha_Hash_mix_3 = rest
    have h : ((i : Int) < 8) := by omega
    have w5 : IntKind.i64.wrap ((i : Int) + 1) = ((i + 1 : Nat) : Int) := by rw [w64] <;> omega
    have p1 : ∀ j : Nat,(0 : Int) ≤ (j : Int) := fun j => by omega
    have l5 : i < 8 := by omega
    have l6 : 1 + i + 1 ≤ 74 := by omega
    have hl := hashC_length (b := b) (sz := sz) hst h64
    have a0 := iws_at s i (by omega)
    have a1 := hashC_state (b := b) (part := part) (sz := sz) hst i (by omega)
    have s1 := hashC_set (b := b) (part := part) (sz := sz) hst i (by omega) (st.getD i 0 + s.getD i 0)
    simp only [L_sha_Hash_mix_3,h,w5,p1,l5,l6,hl,a0,a1,s1,set_get hp,set_set hp,set_last,iw_add,iw_cells,iw_flat,Int.toNat_natCast,bc_iw,EVC,EVA,Nat.reduceEqDiff,eqOp,eqA,eqNil,lenA,asNat,optNat,pt,tupleOf,Nat.reduceSub,Nat.reduceGT,Nat.reduceLT,Nat.reduceAdd,hand,norms,normVs,normV,freeze,reduceIte,reduceCtorEq,srcCells,slCells,isStr,fillA,rep,Nat.reduceMul,Nat.reduceLeDiff]
    rw [← hk]
    exact mix_loop3 b part sz h64 τ p hp s hs n (i + 1) _ (by omega) (by rw [List.length_set,hst])
def zeros64 : List Wd := List.replicate 64 0
def mixW (st : List Wd) (part : List UInt8) : List Wd := fill3 (rounds2 (fill1 48 16 (fill0 part 16 0 zeros64)) 64 0 st) 8 0 st
theorem fill0_length (part : List UInt8) : ∀ (n i : Nat) (w : List Wd),(fill0 part n i w).length = w.length
  | 0,_,_ => rfl
  | n + 1,i,w => by unfold fill0; rw [fill0_length part n,List.length_set]
theorem fill1_length : ∀ (n i : Nat) (w : List Wd),(fill1 n i w).length = w.length
  | 0,_,_ => rfl
  | n + 1,i,w => by unfold fill1; rw [fill1_length n,List.length_set]
theorem fill3_length (s : List Wd) : ∀ (n i : Nat) (w : List Wd),(fill3 s n i w).length = w.length
  | 0,_,_ => rfl
  | n + 1,i,w => by unfold fill3; rw [fill3_length s n,List.length_set]
theorem rounds2_length (w : List Wd) : ∀ (n i : Nat) (s : List Wd),s.length = 8 → (rounds2 w n i s).length = 8
  | 0,_,_,h => h
  | n + 1,i,s,_ => by unfold rounds2; exact rounds2_length w n _ _ rfl
theorem mixW_length {st : List Wd} (h : st.length = 8) (part : List UInt8) : (mixW st part).length = 8 := by unfold mixW; rw [fill3_length,h]
theorem belows_iw (n : Nat) : ∀ l : List Wd,belows n (l.map iw) = true
  | [] => rfl
  | x :: l => by
    rw [List.map_cons]
    unfold belows
    rw [belows_iw n l]
    rfl
theorem belows_append (n : Nat) : ∀ l r : List AV,belows n (l ++ r) = (belows n l && belows n r)
  | [],r => by simp [belows]
  | x :: l,r => by simp [belows,belows_append n l r,Bool.and_assoc]
theorem hashC_below (n : Nat) (b st part sz) : AO.below n (.cells (hashC b st part sz) ⟨false,none⟩) = true := by
  unfold AO.below hashC
  simp [belows,below,belows_append,belows_iw,belows_ofBytes]
theorem sha_mix (hC : Has C f_sha_Hash_mix K_sha_Hash_mix) (hR : Has C f_math_bits_RotateLeft32 K_math_bits_RotateLeft32) (hg : C.gl g_sha_rounds = some (kR.map iw))
    (σ : St) (hσ : Ok σ) (p : Nat) (b : Bool) (st : List Wd) (part : List UInt8) (sz : Int) (hp : σ[p]? = some (.cells (hashC b st part sz) ⟨false,none⟩)) (h8 : st.length = 8) (h64 : part.length = 64) :
    semF C f_sha_Hash_mix [.ref p 0] σ = some (.tup [],σ.set p (.cells (hashC b (mixW st part) part sz) ⟨false,none⟩)) := by
  rw [hC.run]
  unfold runK
  have hpl : p < σ.length := (List.getElem?_eq_some_iff.mp hp).1
  obtain ⟨w0,hw0⟩ : ∃ w0,w0 = fill0 part 16 0 zeros64 := ⟨_,rfl⟩
  obtain ⟨w,hw⟩ : ∃ w,w = fill1 48 16 w0 := ⟨_,rfl⟩
  obtain ⟨s,hs⟩ : ∃ s,s = rounds2 w 64 0 st := ⟨_,rfl⟩
  obtain ⟨st',hst⟩ : ∃ st',st' = fill3 s 8 0 st := ⟨_,rfl⟩
  have lw0 : w0.length = 64 := by rw [hw0,fill0_length]; rfl
  have lw : w.length = 64 := by rw [hw,fill1_length,lw0]
  have ls : s.length = 8 := by rw [hs]; exact rounds2_length w 64 0 st h8
  have hm : mixW st part = st' := by unfold mixW; rw [hst,hs,hw,hw0]
  rw [hm]
  have q0 := mix_loop0 (C := C) b st part sz σ p hp h8 h64 16 0 zeros64 (by omega) (by unfold zeros64; rw [List.length_replicate])
  have q1 := mix_loop1 hR σ p 48 16 w0 (by omega) (by omega) lw0
  have q2 := mix_loop2 hR hg (σ ++ [.cells (w.map iw) ⟨false,none⟩]) p σ.length w lw (by rw [last_get]) 64 0 st (by omega) h8
  have q3 := mix_loop3 (C := C) b part sz h64 (σ ++ [.cells (w.map iw) ⟨false,none⟩]) p (by rw [List.length_append]; omega) s ls 8 0 st (by omega) h8
  rw [← hw0] at q0
  rw [← hw] at q1
  rw [← hs] at q2
  rw [← hst] at q3
  have e1 : (σ ++ [AO.cells (w.map iw) ⟨false,none⟩]).set p (.cells (hashC b st part sz) ⟨false,none⟩) = σ ++ [AO.cells (w.map iw) ⟨false,none⟩] := by
    rw [List.set_append_left _ _ hpl,← (List.getElem?_eq_some_iff.mp hp).2,List.set_getElem_self]
  rw [e1] at q3
  rw [List.set_append_left _ _ hpl] at q3
  have z64 : σ ++ [AO.cells [AV.int .u32 0,AV.int .u32 0,AV.int .u32 0,AV.int .u32 0,AV.int .u32 0,AV.int .u32 0,AV.int .u32 0,AV.int .u32 0,AV.int .u32 0,AV.int .u32 0,AV.int .u32 0,AV.int .u32 0,AV.int .u32 0,AV.int .u32 0,AV.int .u32 0,AV.int .u32 0,AV.int .u32 0,AV.int .u32 0,AV.int .u32 0,AV.int .u32 0,AV.int .u32 0,AV.int .u32 0,AV.int .u32 0,AV.int .u32 0,AV.int .u32 0,AV.int .u32 0,AV.int .u32 0,AV.int .u32 0,AV.int .u32 0,AV.int .u32 0,AV.int .u32 0,AV.int .u32 0,AV.int .u32 0,AV.int .u32 0,AV.int .u32 0,AV.int .u32 0,AV.int .u32 0,AV.int .u32 0,AV.int .u32 0,AV.int .u32 0,AV.int .u32 0,AV.int .u32 0,AV.int .u32 0,AV.int .u32 0,AV.int .u32 0,AV.int .u32 0,AV.int .u32 0,AV.int .u32 0,AV.int .u32 0,AV.int .u32 0,AV.int .u32 0,AV.int .u32 0,AV.int .u32 0,AV.int .u32 0,AV.int .u32 0,AV.int .u32 0,AV.int .u32 0,AV.int .u32 0,AV.int .u32 0,AV.int .u32 0,AV.int .u32 0,AV.int .u32 0,AV.int .u32 0,AV.int .u32 0] ⟨false,none⟩] = σ ++ [.cells (zeros64.map iw) ⟨false,none⟩] := rfl
  have g2 : ∀ l,(σ ++ [AO.cells (w.map iw) ⟨false,none⟩] ++ l)[p]? = some (.cells (hashC b st part sz) ⟨false,none⟩) := fun l => old_get (old_get hp _) l
  have g1 := old_get hp [AO.cells (w.map iw) ⟨false,none⟩]
  have tk : 8 ≤ ((hashC b st part sz).drop 1).length := by rw [List.length_drop,hashC_length h8 h64]; omega
  have tk2 : ((hashC b st part sz).drop 1).take 8 = st.map iw := by
    unfold hashC
    rw [List.drop_succ_cons,List.drop_zero,List.take_append_of_le_length (by simp [h8]),List.take_of_length_le (by simp [h8])]
  have fl : (st.map iw).all AV.flat = true := by
    rw [List.all_eq_true]; intro x hx; obtain ⟨y,_,rfl⟩ := List.mem_map.mp hx; rfl
  have sp : splice [AV.int .u32 0,AV.int .u32 0,AV.int .u32 0,AV.int .u32 0,AV.int .u32 0,AV.int .u32 0,AV.int .u32 0,AV.int .u32 0] 0 (st.map iw) = st.map iw := splice_all _ _ (by simp [h8])
  have ty : tidy σ.length [] (σ.set p (.cells (hashC b st' part sz) ⟨false,none⟩) ++ [.cells (w.map iw) ⟨false,none⟩] ++ [.cells (s.map iw) ⟨false,none⟩]) = σ.set p (.cells (hashC b st' part sz) ⟨false,none⟩) := by
    have := tidy_app (hσ.set p (hashC_below σ.length b st' part sz)) (vs := []) rfl ([.cells (w.map iw) ⟨false,none⟩] ++ [.cells (s.map iw) ⟨false,none⟩])
    rw [List.length_set,← List.append_assoc] at this
    exact this
  simp only [Int.cast_ofNat_Int] at q0 q1 q2 q3
  simp only [K_sha_Hash_mix,z64,q0,q1,q2,q3,g1,g2,tk,tk2,fl,sp,ty,h8,List.length_map,last_get,last_set,bc_iw,EVC,EVA,Nat.reduceEqDiff,eqOp,eqA,eqNil,lenA,asNat,optNat,pt,tupleOf,Nat.reduceSub,Nat.reduceGT,Nat.reduceLT,Nat.reduceAdd,hand,norms,normVs,normV,freeze,reduceIte,reduceCtorEq,srcCells,slCells,isStr,fillA,rep,Nat.reduceMul,Nat.reduceLeDiff]
end Go.Ev

namespace Go.Ev
set_option maxRecDepth 100000
set_option linter.unusedSimpArgs false
variable {C : Ctx}
/-- bytes laid over bytes -/
def lay (part : List UInt8) (used : Nat) (s : List UInt8) : List UInt8 := part.take used ++ s ++ part.drop (used + s.length)
def absorb : Nat → List Wd → List UInt8 → Nat → List UInt8 → List Wd × List UInt8
  | 0,st,part,_,_ => (st,part)
  | n + 1,st,part,used,s =>
    if s = [] then (st,part) else
    if used + min s.length (64 - used) = 64 then
      absorb n (mixW st (lay part used (s.take (min s.length (64 - used))))) (lay part used (s.take (min s.length (64 - used)))) 0 (s.drop (min s.length (64 - used)))
    else (st,lay part used (s.take (min s.length (64 - used))))
theorem lay_length {part s : List UInt8} {used : Nat} (h : used + s.length ≤ part.length) : (lay part used s).length = part.length := by
  simp [lay]; omega
theorem hashC_lay {b st part sz} (h8 : st.length = 8) {used : Nat} {s : List UInt8} (h : used + s.length ≤ part.length) : splice (hashC b st part sz) (9 + used) (ofBytes s) = hashC b st (lay part used s) sz := by
  unfold hashC splice lay
  rw [show 9 + used = (8 + used) + 1 by omega,List.take_succ_cons,show (8 + used) + 1 + (ofBytes s).length = (8 + used + s.length) + 1 by rw [ofBytes_length]; omega,List.drop_succ_cons]
  have e1 : (st.map iw ++ (ofBytes part ++ [AV.int .i64 sz])).take (8 + used) = st.map iw ++ ofBytes (part.take used) := by
    rw [List.take_append,List.take_of_length_le (by simp [h8])]
    simp only [List.length_map,h8,Nat.add_sub_cancel_left]
    rw [List.take_append_of_le_length (by rw [ofBytes_length]; omega)]
    unfold ofBytes
    rw [List.map_take]
  have e2 : (st.map iw ++ (ofBytes part ++ [AV.int .i64 sz])).drop (8 + used + s.length) = ofBytes (part.drop (used + s.length)) ++ [AV.int .i64 sz] := by
    rw [List.drop_append,List.drop_eq_nil_of_le (by simp [h8]; omega)]
    simp only [List.length_map,h8,List.nil_append,show 8 + used + s.length - 8 = used + s.length by omega]
    rw [List.drop_append_of_le_length (by rw [ofBytes_length]; omega)]
    unfold ofBytes
    rw [List.map_drop]
  rw [e1,e2]
  simp [ofBytes]
theorem sha_Write_loop (hM : Has C f_sha_Hash_mix K_sha_Hash_mix) (hR : Has C f_math_bits_RotateLeft32 K_math_bits_RotateLeft32) (hg : C.gl g_sha_rounds = some (kR.map iw))
    (b : Bool) (sz : Int) (σ : St) (hσ : Ok σ) (p : Nat) (hp : p < σ.length) :
    ∀ (n : Nat) (s : List UInt8) (st : List Wd) (part : List UInt8) (used : Nat),s.length < n → used < 64 → s.length ≤ 1099511627776 → st.length = 8 → part.length = 64 →
    loopK C (semF C) 55 [0,1,5] L_sha_Hash_Write_0 [(0,.ref p 0),(1,.str s),(5,.int .i64 used)] (σ.set p (.cells (hashC b st part sz) ⟨false,none⟩)) =
      some (.exit 0,[],σ.set p (.cells (hashC b (absorb n st part used s).1 (absorb n st part used s).2 sz) ⟨false,none⟩))
  | 0,s,_,_,_,hn,_,_,_,_ => absurd hn (by omega)
  | n + 1,s,st,part,used,hn,hu,hl,h8,h64 => by
    rw [loopK_eq (he := rfl)]
    generalize hk : loopK C (semF C) 55 [0,1,5] L_sha_Hash_Write_0 = rest
    by_cases hs : s = []
    · subst hs
      simp only [L_sha_Hash_Write_0,absorb,Int.reduceLT,bc_iw,EVC,EVA,Nat.reduceEqDiff,eqOp,eqA,eqNil,lenA,asNat,optNat,pt,tupleOf,Nat.reduceSub,Nat.reduceGT,Nat.reduceLT,Nat.reduceAdd,hand,norms,normVs,normV,freeze,reduceIte,reduceCtorEq,srcCells,slCells,isStr,fillA,rep,Nat.reduceMul,Nat.reduceLeDiff]
    · have hpos : 0 < s.length := List.length_pos_iff.mpr hs
      have h0 : ((s.length : Int) > 0) := by omega
      obtain ⟨k,hkd⟩ : ∃ k,k = min s.length (64 - used) := ⟨_,rfl⟩
      have k1 : k ≤ s.length := by omega
      have k2 : used + k ≤ 64 := by omega
      have k3 : 0 < k := by omega
      have hlen := hashC_length (b := b) (sz := sz) h8 h64
      have g0 : ∀ x,(σ.set p x)[p]? = some x := fun x => List.getElem?_set_self hp
      have c1 : used ≤ 64 := by omega
      have c2 : ¬ used = 64 := by omega
      have c3 : (0 : Int) ≤ (used : Int) := by omega
      have c4 : 9 + used + k ≤ 74 := by omega
      have tkk : (ofBytes s).take k = ofBytes (s.take k) := by unfold ofBytes; rw [List.map_take]
      have hlay := hashC_lay (b := b) (sz := sz) h8 (used := used) (s := s.take k) (part := part) (by rw [List.length_take,h64]; omega)
      have c5 : (0 : Int) ≤ (k : Int) := by omega
      have w1 : IntKind.i64.wrap ((used : Int) + (k : Int)) = ((used + k : Nat) : Int) := by rw [w64] <;> omega
      have tks : s.take s.length = s := List.take_length
      have lp : (lay part used (s.take k)).length = 64 := by rw [lay_length (by rw [List.length_take,h64]; omega),h64]
      have ok1 : Ok (σ.set p (.cells (hashC b st (lay part used (s.take k)) sz) ⟨false,none⟩)) := hσ.set p (hashC_below _ _ _ _ _)
      by_cases h64' : used + k = 64
      · have b1 : ((((used + k : Nat) : Int) == 64)) = true := by rw [h64']; rfl
        have hmx := sha_mix hM hR hg (σ.set p (.cells (hashC b st (lay part used (s.take k)) sz) ⟨false,none⟩)) ok1 p b st (lay part used (s.take k)) sz (g0 _) h8 lp
        rw [List.set_set] at hmx
        simp only [L_sha_Hash_Write_0,absorb,hs,h0,g0,hlen,c1,c2,c3,c4,c5,← hkd,tkk,hlay,w1,tks,b1,h64',hmx,ofBytes_flat,List.set_set,Int.toNat_natCast,k1,Int.reduceLT,bc_iw,EVC,EVA,Nat.reduceEqDiff,eqOp,eqA,eqNil,lenA,asNat,optNat,pt,tupleOf,Nat.reduceSub,Nat.reduceGT,Nat.reduceLT,Nat.reduceAdd,hand,norms,normVs,normV,freeze,reduceIte,reduceCtorEq,srcCells,slCells,isStr,fillA,rep,Nat.reduceMul,Nat.reduceLeDiff]
        rw [← hk]
        have := sha_Write_loop hM hR hg b sz σ hσ p hp n (s.drop k) (mixW st (lay part used (s.take k))) (lay part used (s.take k)) 0 (by rw [List.length_drop]; omega) (by omega) (by rw [List.length_drop]; omega) (mixW_length h8 _) lp
        simp only [Int.cast_ofNat_Int] at this
        exact this
      · have b1 : ((((used + k : Nat) : Int) == 64)) = false := by
          rw [beq_eq_false_iff_ne]; omega
        have hnil : s.drop k = [] := List.drop_eq_nil_of_le (by omega)
        simp only [L_sha_Hash_Write_0,absorb,hs,h0,g0,hlen,c1,c2,c3,c4,c5,← hkd,tkk,hlay,w1,tks,b1,h64',ofBytes_flat,List.set_set,Int.toNat_natCast,k1,Int.reduceLT,bc_iw,EVC,EVA,Nat.reduceEqDiff,eqOp,eqA,eqNil,lenA,asNat,optNat,pt,tupleOf,Nat.reduceSub,Nat.reduceGT,Nat.reduceLT,Nat.reduceAdd,hand,norms,normVs,normV,freeze,reduceIte,reduceCtorEq,srcCells,slCells,isStr,fillA,rep,Nat.reduceMul,Nat.reduceLeDiff]
        rw [← hk,hnil]
        have := sha_Write_loop hM hR hg b sz σ hσ p hp n [] st (lay part used (s.take k)) (used + k) (by simp; omega) (by omega) (by simp) h8 lp
        rw [this]
        cases n <;> rfl
end Go.Ev

namespace Go.Ev
set_option maxRecDepth 100000
set_option linter.unusedSimpArgs false
variable {C : Ctx}
theorem hashC_flag {b st part sz} : (hashC b st part sz).head? = some (.bool b) := rfl
theorem hashC_size {b st part sz} (h8 : st.length = 8) (h64 : part.length = 64) : ((hashC b st part sz).drop 73).head? = some (.int .i64 sz) := by
  unfold hashC
  rw [List.head?_drop,List.getElem?_cons_succ,List.getElem?_append_right (by simp [h8]),List.getElem?_append_right (by simp [h8,h64,ofBytes_length])]
  simp [h8,h64,ofBytes_length]
theorem hashC_setSize {b st part sz} (h8 : st.length = 8) (h64 : part.length = 64) (z : Int) : splice (hashC b st part sz) 73 [.int .i64 z] = hashC b st part z := by
  unfold hashC splice
  rw [List.take_succ_cons,show 73 + [AV.int .i64 z].length = 73 + 1 from rfl,List.drop_succ_cons,← List.append_assoc,List.take_append_of_le_length (by simp [h8,h64,ofBytes_length]),List.take_of_length_le (by simp [h8,h64,ofBytes_length]),List.drop_eq_nil_of_le (by simp [h8,h64,ofBytes_length])]
  simp
def shaState (b : Bool) (st : List Wd) : List Wd := if b then st else hI
theorem shaState_length {b : Bool} {st : List Wd} (h8 : st.length = 8) : (shaState b st).length = 8 := by cases b <;> simp [shaState,h8,hI]
theorem sha_Write (hC : Has C f_sha_Hash_Write K_sha_Hash_Write) (hM : Has C f_sha_Hash_mix K_sha_Hash_mix) (hR : Has C f_math_bits_RotateLeft32 K_math_bits_RotateLeft32) (hg : C.gl g_sha_rounds = some (kR.map iw)) (hi : C.gl g_sha_initial = some (hI.map iw))
    (σ : St) (hσ : Ok σ) (p : Nat) (b : Bool) (st : List Wd) (part : List UInt8) (sz : Nat) (hp : σ[p]? = some (.cells (hashC b st part sz) ⟨false,none⟩)) (h8 : st.length = 8) (h64 : part.length = 64) (hsz : sz ≤ 4398046511104)
    (s : List UInt8) (hl : s.length ≤ 1099511627776) :
    semF C f_sha_Hash_Write [.ref p 0,.str s] σ = some (.int .i64 0,σ.set p (.cells (hashC true (absorb (s.length + 1) (shaState b st) part (sz % 64) s).1 (absorb (s.length + 1) (shaState b st) part (sz % 64) s).2 ((sz + s.length : Nat) : Int)) ⟨false,none⟩)) := by
  rw [hC.run]
  unfold runK
  have hpl : p < σ.length := (List.getElem?_eq_some_iff.mp hp).1
  have g0 : ∀ x,(σ.set p x)[p]? = some x := fun x => List.getElem?_set_self hpl
  have w1 : ((sz : Int)).tmod 64 = ((sz % 64 : Nat) : Int) := by rw [Int.tmod_eq_emod_of_nonneg (by omega)]; omega
  have w2 : IntKind.i64.wrap ((sz : Int) + (s.length : Int)) = ((sz + s.length : Nat) : Int) := by rw [w64] <;> omega
  have q := sha_Write_loop hM hR hg true ((sz + s.length : Nat) : Int) σ hσ p hpl (s.length + 1) s (shaState b st) part (sz % 64) (by omega) (by omega) hl (shaState_length h8) h64
  have n64 : ¬ ((64 : Int) = 0) := by decide
  have ty : ∀ x,tidy σ.length [.int .i64 0] (σ.set p x) = σ.set p x := fun x => by
    have := tidy_same (σ.set p x) [.int .i64 0]
    rw [List.length_set] at this
    exact this
  cases b with
  | true =>
    have hl0 := hashC_length (b := true) (sz := sz) h8 h64
    have z1 := hashC_size (b := true) (sz := sz) h8 h64
    have z2 := hashC_setSize (b := true) (sz := sz) h8 h64 ((sz + s.length : Nat) : Int)
    have z0 := hashC_flag (b := true) (st := st) (part := part) (sz := sz)
    have e : shaState true st = st := rfl
    rw [e] at q ⊢
    simp only [K_sha_Hash_Write,hp,z0,z1,z2,hl0,w1,w2,n64,q,g0,ty,bc_iw,EVC,EVA,Nat.reduceEqDiff,eqOp,eqA,eqNil,lenA,asNat,optNat,pt,tupleOf,Nat.reduceSub,Nat.reduceGT,Nat.reduceLT,Nat.reduceAdd,hand,norms,normVs,normV,freeze,reduceIte,reduceCtorEq,srcCells,slCells,isStr,fillA,rep,Nat.reduceMul,Nat.reduceLeDiff]
  | false =>
    have e : shaState false st = hI := rfl
    have hl0 := hashC_length (b := false) (sz := sz) h8 h64
    have hl1 := hashC_length (b := true) (sz := sz) h8 h64
    have hl2 := hashC_length (b := true) (sz := sz) (st := hI) rfl h64
    have z0 := hashC_flag (b := false) (st := st) (part := part) (sz := sz)
    have z1 := hashC_size (b := true) (sz := sz) (st := hI) rfl h64
    have z2 := hashC_setSize (b := true) (sz := sz) (st := hI) rfl h64 ((sz + s.length : Nat) : Int)
    have z3 : splice (hashC false st part sz) 0 [.bool true] = hashC true st part sz := rfl
    have z4 : splice (hashC true st part sz) 1 (hI.map iw) = hashC true hI part sz := by
      unfold hashC splice
      rw [List.take_succ_cons,show 1 + (hI.map iw).length = 8 + 1 from rfl,List.drop_succ_cons,List.drop_append,List.drop_eq_nil_of_le (by simp [h8])]
      simp [h8]
    have z5 : 8 ≤ (hI.map iw).length := by decide
    have z6 : (hI.map iw).take 8 = hI.map iw := rfl
    have z7 : (hI.map iw).length = 8 := rfl
    have z8 : (hI.map iw).all AV.flat = true := rfl
    rw [e] at q ⊢
    simp only [K_sha_Hash_Write,hp,hi,Option.getD_some,z0,z1,z2,z3,z4,z6,z7,z8,hl0,hl1,hl2,w1,w2,n64,q,g0,ty,List.set_set,bc_iw,EVC,EVA,Nat.reduceEqDiff,eqOp,eqA,eqNil,lenA,asNat,optNat,pt,tupleOf,Nat.reduceSub,Nat.reduceGT,Nat.reduceLT,Nat.reduceAdd,hand,norms,normVs,normV,freeze,reduceIte,reduceCtorEq,srcCells,slCells,isStr,fillA,rep,Nat.reduceMul,Nat.reduceLeDiff]
end Go.Ev

namespace Go.Ev
set_option maxRecDepth 100000
set_option linter.unusedSimpArgs false
variable {C : Ctx}
def be64 (len i : Nat) : UInt8 := UInt8.ofNat (len / 2 ^ (56 - 8 * i))
def fillT (len : Nat) : Nat → Nat → List UInt8 → List UInt8
  | 0,_,t => t
  | n + 1,i,t => fillT len n (i + 1) (t.set i (be64 len i))
theorem splice_byte (l : List UInt8) (i : Nat) (v : UInt8) (h : i < l.length) : splice (ofBytes l) i [.int .u8 (v.toNat : Int)] = ofBytes (l.set i v) := splice_set (fun b : UInt8 => AV.int .u8 (b.toNat : Int)) l i v h
theorem u8_of (n : Nat) : IntKind.u8.wrap (n : Int) = ((UInt8.ofNat n).toNat : Int) := by
  rw [IntKind.wrap_u8,UInt8.toNat_ofNat']; omega
theorem sha_Sum_loop0 (τ : St) (p len : Nat) :
    ∀ (n i : Nat) (t : List UInt8),i + n = 8 → t.length = 8 →
    loopK C (semF C) 69 [3,4,5,31] L_sha_Hash_Sum_0 [(3,.ref p 0),(4,.int .u64 len),(5,.ref τ.length 0),(31,.int .i64 i)] (τ ++ [.cells (ofBytes t) ⟨false,none⟩]) =
      some (.exit 0,[(3,.ref p 0),(5,.ref τ.length 0)],τ ++ [.cells (ofBytes (fillT len n i t)) ⟨false,none⟩])
  | 0,i,t,hi,ht => by
    rw [loopK_eq (he := rfl)]
    have h : ¬ ((i : Int) < 8) := by omega
    simp only [L_sha_Hash_Sum_0,h,fillT,bc_iw,EVC,EVA,Nat.reduceEqDiff,eqOp,eqA,eqNil,lenA,asNat,optNat,pt,tupleOf,Nat.reduceSub,Nat.reduceGT,Nat.reduceLT,Nat.reduceAdd,hand,norms,normVs,normV,freeze,reduceIte,reduceCtorEq,srcCells,slCells,isStr,fillA,rep,Nat.reduceMul,Nat.reduceLeDiff]
  | n + 1,i,t,hi,ht => by
    rw [loopK_eq (he := rfl)]
    generalize hk : loopK C (semF C) 69 [3,4,5,31] L_sha_Hash_Sum_0 = rest
    have h : ((i : Int) < 8) := by omega
    have w1 : IntKind.i64.wrap (8 * (i : Int)) = ((8 * i : Nat) : Int) := by rw [w64] <;> omega
    have w2 : IntKind.i64.wrap (56 - ((8 * i : Nat) : Int)) = ((56 - 8 * i : Nat) : Int) := by rw [w64] <;> omega
    have w5 : IntKind.i64.wrap ((i : Int) + 1) = ((i + 1 : Nat) : Int) := by rw [w64] <;> omega
    have p1 : ∀ j : Nat,(0 : Int) ≤ (j : Int) := fun j => by omega
    have p2 : ∀ j : Nat,¬ ((j : Int) < 0) := fun j => by omega
    have m1 : min (56 - 8 * i) IntKind.u64.bits = 56 - 8 * i := by show min (56 - 8 * i) 64 = _; omega
    have f1 : (len : Int).fdiv (2 ^ (56 - 8 * i)) = ((len / 2 ^ (56 - 8 * i) : Nat) : Int) := by
      rw [Int.fdiv_eq_ediv_of_nonneg _ (Int.pow_nonneg (by decide)),Int.natCast_ediv,Int.natCast_pow]; rfl
    have l5 : i < 8 := by omega
    have l6 : i + 1 ≤ 8 := by omega
    have s1 := splice_byte t i (be64 len i) (by omega)
    unfold be64 at s1
    simp only [L_sha_Hash_Sum_0,h,w1,w2,w5,p1,p2,m1,f1,u8_of,l5,l6,s1,ht,ofBytes_length,last_get,last_set,Int.toNat_natCast,bc_iw,EVC,EVA,Nat.reduceEqDiff,eqOp,eqA,eqNil,lenA,asNat,optNat,pt,tupleOf,Nat.reduceSub,Nat.reduceGT,Nat.reduceLT,Nat.reduceAdd,hand,norms,normVs,normV,freeze,reduceIte,reduceCtorEq,srcCells,slCells,isStr,fillA,rep,Nat.reduceMul,Nat.reduceLeDiff]
    rw [← hk]
    exact sha_Sum_loop0 τ p len n (i + 1) _ (by omega) (by rw [List.length_set,ht])
def be32 (x : Wd) : List UInt8 := [UInt8.ofNat (x >>> 24).toNat,UInt8.ofNat (x >>> 16).toNat,UInt8.ofNat (x >>> 8).toNat,UInt8.ofNat x.toNat]
theorem i2i_iw (y : Wd) (σ : St) : i2iA .u8 (iw y) σ = some (.val (.int .u8 ((UInt8.ofNat y.toNat).toNat : Int)) σ) := by
  unfold iw
  rw [i2i_int,u8_of]
theorem sha_Sum_loop1 (σ : St) (st : List Wd) (h8 : st.length = 8) :
    ∀ (n i k : Nat) (acc : List UInt8),i + n = 8 → acc.length = 4 * i →
    loopK C (semF C) 69 [7,48,49] L_sha_Hash_Sum_1 [(7,.msl (σ.length + k) 0 acc.length 1),(48,.agg (st.map iw)),(49,.int .i64 i)] (pile σ k (.cells (ofBytes acc) ⟨false,none⟩)) =
      some (.exit 2,[(7,.msl (σ.length + (k + n)) 0 (acc ++ (st.drop i).flatMap be32).length 1)],pile σ (k + n) (.cells (ofBytes (acc ++ (st.drop i).flatMap be32)) ⟨false,none⟩))
  | 0,i,k,acc,hi,ha => by
    rw [loopK_eq (he := rfl)]
    have h : ¬ ((i : Int) < 8) := by omega
    have h' : st.drop i = [] := List.drop_eq_nil_of_le (by omega)
    simp only [L_sha_Hash_Sum_1,h,h',List.flatMap_nil,List.append_nil,Nat.add_zero,bc_iw,EVC,EVA,Nat.reduceEqDiff,eqOp,eqA,eqNil,lenA,asNat,optNat,pt,tupleOf,Nat.reduceSub,Nat.reduceGT,Nat.reduceLT,Nat.reduceAdd,hand,norms,normVs,normV,freeze,reduceIte,reduceCtorEq,srcCells,slCells,isStr,fillA,rep,Nat.reduceMul,Nat.reduceLeDiff]
  | n + 1,i,k,acc,hi,ha => by
    rw [loopK_eq (he := rfl)]
    generalize hk : loopK C (semF C) 69 [7,48,49] L_sha_Hash_Sum_1 = rest
    have h : ((i : Int) < 8) := by omega
    have p1 : ∀ j : Nat,(0 : Int) ≤ (j : Int) := fun j => by omega
    have w5 : IntKind.i64.wrap ((i : Int) + 1) = ((i + 1 : Nat) : Int) := by rw [w64] <;> omega
    have l5 : i < 8 := by omega
    have a0 := iws_at st i (by omega)
    have h' : st.drop i = st.getD i 0 :: st.drop (i + 1) := by
      rw [List.drop_eq_getElem_cons (by omega),List.getD_eq_getElem?_getD,List.getElem?_eq_getElem (by omega)]; rfl
    rw [h']
    generalize st.getD i 0 = x at a0
    have happ : ∀ tg,appA (pile σ k (.cells (ofBytes acc) ⟨false,none⟩)) 1 1 tg (.msl (σ.length + k) 0 acc.length 1) 4 [.int .u8 (UInt8.ofNat (x >>> 24).toNat).toNat,.int .u8 (UInt8.ofNat (x >>> 16).toNat).toNat,.int .u8 (UInt8.ofNat (x >>> 8).toNat).toNat,.int .u8 (UInt8.ofNat x.toNat).toNat] = _ := fun tg => app_pile0 σ k acc (be32 x) 4 rfl (by omega) (by omega)
    simp only [L_sha_Hash_Sum_1,h,p1,w5,l5,a0,iw_shrI,i2i_iw,happ,Int.toNat_natCast,Int.reduceLE,Int.reduceToNat,bc_iw,EVC,EVA,Nat.reduceEqDiff,eqOp,eqA,eqNil,lenA,asNat,optNat,pt,tupleOf,Nat.reduceSub,Nat.reduceGT,Nat.reduceLT,Nat.reduceAdd,hand,norms,normVs,normV,freeze,reduceIte,reduceCtorEq,srcCells,slCells,isStr,fillA,rep,Nat.reduceMul,Nat.reduceLeDiff]
    rw [← hk,sha_Sum_loop1 σ st h8 n (i + 1) (k + 1) (acc ++ be32 x) (by omega) (by rw [List.length_append,ha]; simp [be32]; omega)]
    simp [Nat.add_assoc,Nat.add_comm 1 n]
end Go.Ev

namespace Go.Ev
set_option maxRecDepth 100000
set_option linter.unusedSimpArgs false
variable {C : Ctx}
theorem absorb_length : ∀ (n : Nat) (st : List Wd) (part : List UInt8) (used : Nat) (s : List UInt8),st.length = 8 → part.length = 64 → used ≤ 64 → (absorb n st part used s).1.length = 8 ∧ (absorb n st part used s).2.length = 64
  | 0,_,_,_,_,h8,h64,_ => ⟨h8,h64⟩
  | n + 1,st,part,used,s,h8,h64,hu => by
    have lp : (lay part used (s.take (min s.length (64 - used)))).length = 64 := by rw [lay_length (by rw [List.length_take,h64]; omega),h64]
    unfold absorb
    split
    · exact ⟨h8,h64⟩
    · split
      · exact absorb_length n _ _ 0 _ (mixW_length h8 _) lp (by omega)
      · exact ⟨h8,lp⟩
theorem fillT_length (len : Nat) : ∀ (n i : Nat) (t : List UInt8),(fillT len n i t).length = t.length
  | 0,_,_ => rfl
  | n + 1,i,t => by unfold fillT; rw [fillT_length len n,List.length_set]
def shaPad (sz : Nat) : List UInt8 := 128 :: List.replicate ((119 - sz % 64) % 64) 0
def shaTail (sz : Nat) : List UInt8 := fillT (sz * 8) 8 0 (List.replicate 8 0)
def shaR1 (b : Bool) (st : List Wd) (part : List UInt8) (sz : Nat) : List Wd × List UInt8 := absorb ((shaPad sz).length + 1) (shaState b st) part (sz % 64) (shaPad sz)
def shaR2 (b : Bool) (st : List Wd) (part : List UInt8) (sz : Nat) : List Wd × List UInt8 :=
  absorb ((shaTail sz).length + 1) (shaR1 b st part sz).1 (shaR1 b st part sz).2 ((sz + (shaPad sz).length) % 64) (shaTail sz)
def hashSum (b : Bool) (st : List Wd) (part : List UInt8) (sz : Nat) : List UInt8 := (shaR2 b st part sz).1.flatMap be32
theorem sha_HSum (hC : Has C f_sha_Hash_Sum K_sha_Hash_Sum) (hW : Has C f_sha_Hash_Write K_sha_Hash_Write) (hM : Has C f_sha_Hash_mix K_sha_Hash_mix) (hR : Has C f_math_bits_RotateLeft32 K_math_bits_RotateLeft32) (hg : C.gl g_sha_rounds = some (kR.map iw)) (hi : C.gl g_sha_initial = some (hI.map iw))
    (hRep : ∀ n : Nat,n < 64 → ∀ σ,semF C f_strings_Repeat [.str [0],.int .i64 n] σ = some (.str (List.replicate n 0),σ))
    (σ : St) (hσ : Ok σ) (p : Nat) (b : Bool) (st : List Wd) (part : List UInt8) (sz : Nat) (hp : σ[p]? = some (.cells (hashC b st part sz) ⟨false,none⟩)) (h8 : st.length = 8) (h64 : part.length = 64) (hsz : sz ≤ 2199023255552) :
    semF C f_sha_Hash_Sum [.ref p 0] σ = some (.str (hashSum b st part sz),σ) := by
  rw [hC.run]
  unfold runK
  have hl0 := hashC_length (b := b) (sz := sz) h8 h64
  have z1 := hashC_size (b := b) (sz := sz) h8 h64
  obtain ⟨pad,hpad⟩ : ∃ x,x = shaPad sz := ⟨_,rfl⟩
  obtain ⟨tl,htl⟩ : ∃ x,x = shaTail sz := ⟨_,rfl⟩
  obtain ⟨r1,hr1⟩ : ∃ x,x = shaR1 b st part sz := ⟨_,rfl⟩
  obtain ⟨r2,hr2⟩ : ∃ x,x = shaR2 b st part sz := ⟨_,rfl⟩
  have lpad : pad.length ≤ 64 := by rw [hpad]; unfold shaPad; simp; omega
  have ltl : tl.length = 8 := by rw [htl]; unfold shaTail; rw [fillT_length]; rfl
  have a1 : r1.1.length = 8 ∧ r1.2.length = 64 := by rw [hr1]; exact absorb_length _ _ _ _ _ (shaState_length h8) h64 (by omega)
  have a2 : r2.1.length = 8 ∧ r2.2.length = 64 := by rw [hr2]; unfold shaR2; rw [← hr1]; exact absorb_length _ _ _ _ _ a1.1 a1.2 (by omega)
  have ok1 : Ok (σ ++ [.cells (hashC b st part sz) ⟨false,none⟩]) := hσ.app (by simp [hashC_below])
  have q1 := sha_Write hW hM hR hg hi (σ ++ [.cells (hashC b st part sz) ⟨false,none⟩]) ok1 σ.length b st part sz (last_get _ _) h8 h64 (by omega) pad (by omega)
  rw [last_set,hpad] at q1
  have e1 : absorb ((shaPad sz).length + 1) (shaState b st) part (sz % 64) (shaPad sz) = r1 := hr1.symm
  rw [e1,← hpad] at q1
  have ok2 : Ok (σ ++ [.cells (hashC true r1.1 r1.2 ((sz + pad.length : Nat) : Int)) ⟨false,none⟩] ++ [.cells (ofBytes tl) ⟨false,none⟩]) := by
    refine Ok.app (hσ.app (by simp [hashC_below])) (by simp [AO.below,belows_ofBytes])
  have q2 := sha_Write hW hM hR hg hi _ ok2 σ.length true r1.1 r1.2 (sz + pad.length) (old_get (last_get _ _) _) a1.1 a1.2 (by omega) tl (by omega)
  have e2 : absorb (tl.length + 1) (shaState true r1.1) r1.2 ((sz + pad.length) % 64) tl = r2 := by rw [hr2]; unfold shaR2; rw [← hr1,← hpad,← htl]; rfl
  have e3 : ∀ x y z : AO,(σ ++ [x] ++ [y]).set σ.length z = σ ++ [z] ++ [y] := fun x y z => by
    rw [List.set_append_left _ _ (by simp),last_set]
  rw [e2,e3] at q2
  have q3 := sha_Sum_loop0 (C := C) (σ ++ [.cells (hashC true r1.1 r1.2 ((sz + pad.length : Nat) : Int)) ⟨false,none⟩]) σ.length (sz * 8) 8 0 (List.replicate 8 0) (by omega) (by simp)
  have e4 : fillT (sz * 8) 8 0 (List.replicate 8 0) = tl := htl.symm
  rw [e4] at q3
  obtain ⟨τ,hτ⟩ : ∃ τ,τ = σ ++ [.cells (hashC true r2.1 r2.2 ((sz + pad.length + tl.length : Nat) : Int)) ⟨false,none⟩] ++ [.cells (ofBytes tl) ⟨false,none⟩] := ⟨_,rfl⟩
  rw [← hτ] at q2
  have q4 := sha_Sum_loop1 (C := C) τ r2.1 a2.1 8 0 0 [] (by omega) rfl
  simp only [List.drop_zero,List.nil_append,Nat.zero_add,List.length_nil,Nat.add_zero,Int.cast_ofNat_Int] at q3 q4
  have hout : r2.1.flatMap be32 = hashSum b st part sz := by unfold hashSum; rw [hr2]
  rw [hout] at q4
  have m1 : ((sz : Int)).tmod 64 = ((sz % 64 : Nat) : Int) := by rw [Int.tmod_eq_emod_of_nonneg (by omega)]; omega
  have w0 : IntKind.u64.wrap (sz : Int) = (sz : Int) := by rw [wu64] <;> omega
  have w1 : IntKind.u64.wrap ((sz : Int) * 8) = ((sz * 8 : Nat) : Int) := by rw [wu64] <;> omega
  have w2 : IntKind.i64.wrap (119 - ((sz % 64 : Nat) : Int)) = ((119 - sz % 64 : Nat) : Int) := by rw [w64] <;> omega
  have m2 : ((119 - sz % 64 : Nat) : Int).tmod 64 = (((119 - sz % 64) % 64 : Nat) : Int) := by rw [Int.tmod_eq_emod_of_nonneg (by omega)]; omega
  have rp := hRep ((119 - sz % 64) % 64) (by omega)
  have fl : (hashC b st part (sz : Int)).all AV.flat = true := by
    rw [List.all_eq_true]; intro x hx
    unfold hashC at hx
    rcases List.mem_cons.mp hx with h | h
    · rw [h]; rfl
    · rcases List.mem_append.mp h with h | h
      · obtain ⟨y,_,rfl⟩ := List.mem_map.mp h; rfl
      · rcases List.mem_append.mp h with h | h
        · unfold ofBytes at h; obtain ⟨y,_,rfl⟩ := List.mem_map.mp h; rfl
        · rw [List.mem_singleton.mp h]; rfl
  have tk : (hashC b st part (sz : Int)).take 74 = hashC b st part sz := List.take_of_length_le (by omega)
  have sp : ∀ l : List AV,l.length = 74 → splice l 0 (hashC b st part (sz : Int)) = hashC b st part sz := fun l hl => splice_all _ _ (by rw [hl,hl0])
  have hpd : [(128 : UInt8)] ++ List.replicate ((119 - sz % 64) % 64) 0 = pad := hpad.symm
  have bs : ∀ y,binStr .add [(128 : UInt8)] (List.replicate ((119 - sz % 64) % 64) 0) = y → y = some (.str pad) := by
    intro y hy
    rw [← hy]
    unfold binStr
    dsimp only
    rw [if_neg (by simp; omega),hpd]
  have bs := bs _ rfl
  have z8 : ∀ τ : St,τ ++ [AO.cells [.int .u8 0,.int .u8 0,.int .u8 0,.int .u8 0,.int .u8 0,.int .u8 0,.int .u8 0,.int .u8 0] ⟨false,none⟩] = τ ++ [AO.cells (ofBytes (List.replicate 8 0)) ⟨false,none⟩] := fun _ => rfl
  have tk2 : (ofBytes tl).take 8 = ofBytes tl := List.take_of_length_le (by rw [ofBytes_length]; omega)
  have tp : τ ++ [AO.cells [] ⟨false,none⟩] = pile τ 0 (.cells (ofBytes []) ⟨false,none⟩) := rfl
  have g1 : ∀ k x,(pile τ k x)[σ.length]? = some (.cells (hashC true r2.1 r2.2 ((sz + pad.length + tl.length : Nat) : Int)) ⟨false,none⟩) := fun k x => by
    unfold pile
    refine old_get ?_ _
    rw [hτ]
    exact old_get (last_get _ _) _
  have tk3 : ∀ z : Int,((hashC true r2.1 r2.2 z).drop 1).take 8 = r2.1.map iw := by
    intro z
    unfold hashC
    rw [List.drop_succ_cons,List.drop_zero,List.take_append_of_le_length (by simp [a2.1]),List.take_of_length_le (by simp [a2.1])]
  have tk4 : ∀ z : Int,8 ≤ ((hashC true r2.1 r2.2 z).drop 1).length := by intro z; rw [List.length_drop,hashC_length a2.1 a2.2]; omega
  have bo := bytesOf_of (hashSum b st part sz)
  have bt := bytesOf_of tl
  have tk5 : (ofBytes (hashSum b st part sz)).take (hashSum b st part sz).length = ofBytes (hashSum b st part sz) := List.take_of_length_le (by rw [ofBytes_length]; omega)
  have pg := fun x => pile_get τ 8 x
  have ty : ∀ x,tidy σ.length [.str (hashSum b st part sz)] (pile τ 8 x) = σ := fun x => by
    unfold pile
    rw [hτ,List.append_assoc,List.append_assoc]
    exact tidy_app hσ rfl _
  have c32 : (0 : Int) ≤ 0 ∧ (0 : Int) ≤ 32 ∧ (32 : Int) ≤ 9223372036854775807 ∧ (1 : Int) * 32 ≤ 140737488355328 := by decide
  have n64 : ¬ ((64 : Int) = 0) := by decide
  have g2 := old_get hp [AO.cells (hashC b st part (sz : Int)) ⟨false,none⟩]
  simp only [K_sha_Hash_Sum,hp,g2,hl0,z1,fl,tk,sp,m1,w0,w1,w2,m2,rp,bs,q1,z8,q3,last_get,last_set,ltl,tk2,bt,q2,tp,q4,g1,tk3,tk4,bo,tk5,pg,ty,c32,n64,ofBytes_length,Int.toNat_zero,Int.reduceMul,Int.reduceLE,bc_iw,EVC,EVA,Nat.reduceEqDiff,eqOp,eqA,eqNil,lenA,asNat,optNat,pt,tupleOf,Nat.reduceSub,Nat.reduceGT,Nat.reduceLT,Nat.reduceAdd,hand,norms,normVs,normV,freeze,reduceIte,reduceCtorEq,srcCells,slCells,isStr,fillA,rep,Nat.reduceMul,Nat.reduceLeDiff]
end Go.Ev

namespace Go.Ev
set_option maxRecDepth 100000
set_option linter.unusedSimpArgs false
variable {C : Ctx}
def zeroB : List UInt8 := List.replicate 64 0
theorem sha_New (hC : Has C f_sha_New K_sha_New) (hi : C.gl g_sha_initial = some (hI.map iw)) (σ : St) (hσ : Ok σ) :
    semF C f_sha_New [] σ = some (.ref σ.length 0,σ ++ [.cells (hashC true hI zeroB 0) ⟨false,none⟩]) := by
  rw [hC.run]
  unfold runK
  have z5 : 8 ≤ (hI.map iw).length := by decide
  have z6 : (hI.map iw).take 8 = hI.map iw := rfl
  have z7 : (hI.map iw).length = 8 := rfl
  simp only [K_sha_New,hi,Option.getD_some,z6,z7,bc_iw,EVC,EVA,Nat.reduceEqDiff,eqOp,eqA,eqNil,lenA,asNat,optNat,pt,tupleOf,Nat.reduceSub,Nat.reduceGT,Nat.reduceLT,Nat.reduceAdd,hand,norms,normVs,normV,freeze,reduceIte,reduceCtorEq,srcCells,slCells,isStr,fillA,rep,Nat.reduceMul,Nat.reduceLeDiff]
  rw [tidy_keep (by simp [belows,below])]
  rfl
def shaSum (s : List UInt8) : List UInt8 := hashSum true (absorb (s.length + 1) hI zeroB 0 s).1 (absorb (s.length + 1) hI zeroB 0 s).2 s.length
structure ShaHas (C : Ctx) : Prop where
  new : Has C f_sha_New K_sha_New
  sum : Has C f_sha_Hash_Sum K_sha_Hash_Sum
  write : Has C f_sha_Hash_Write K_sha_Hash_Write
  mix : Has C f_sha_Hash_mix K_sha_Hash_mix
  rot : Has C f_math_bits_RotateLeft32 K_math_bits_RotateLeft32
  sumF : Has C f_sha_Sum K_sha_Sum
  digest : Has C f_sha_Digest K_sha_Digest
  encode : Has C f_hex_Encode K_hex_Encode
  gr : C.gl g_sha_rounds = some (kR.map iw)
  gi : C.gl g_sha_initial = some (hI.map iw)
  gd : C.gl g_hex_digits = some (ofBytes hexDigits)
  rep : ∀ n : Nat,n < 64 → ∀ σ,semF C f_strings_Repeat [.str [0],.int .i64 n] σ = some (.str (List.replicate n 0),σ)
theorem sha_Sum (h : ShaHas C) (s : List UInt8) (hs : s.length ≤ 1099511627776) (σ : St) (hσ : Ok σ) : semF C f_sha_Sum [.str s] σ = some (.str (shaSum s),σ) := by
  rw [h.sumF.run]
  unfold runK
  have q0 := sha_New h.new h.gi σ hσ
  have ok1 : Ok (σ ++ [.cells (hashC true hI zeroB (0 : Nat)) ⟨false,none⟩]) := hσ.app (by simp [hashC_below])
  have q1 := sha_Write h.write h.mix h.rot h.gr h.gi _ ok1 σ.length true hI zeroB 0 (last_get _ _) rfl rfl (by omega) s hs
  rw [last_set] at q1
  have e : shaState true hI = hI := rfl
  rw [e] at q1
  have la := absorb_length (s.length + 1) hI zeroB (0 % 64) s rfl rfl (by omega)
  simp only [Nat.zero_mod,Nat.zero_add] at q1 la
  obtain ⟨r,hr⟩ : ∃ r,r = absorb (s.length + 1) hI zeroB 0 s := ⟨_,rfl⟩
  rw [← hr] at q1 la
  have ok2 : Ok (σ ++ [.cells (hashC true r.1 r.2 (s.length : Int)) ⟨false,none⟩]) := hσ.app (by simp [hashC_below])
  have q2 := sha_HSum h.sum h.write h.mix h.rot h.gr h.gi h.rep _ ok2 σ.length true r.1 r.2 s.length (last_get _ _) la.1 la.2 (by omega)
  have e2 : hashSum true r.1 r.2 s.length = shaSum s := by unfold shaSum; rw [hr]
  rw [e2] at q2
  have ty : ∀ x,tidy σ.length [.str (shaSum s)] (σ ++ [x]) = σ := fun x => tidy_app hσ rfl _
  simp only [Int.cast_ofNat_Int] at q1
  simp only [K_sha_Sum,q0,q1,q2,ty,bc_iw,EVC,EVA,Nat.reduceEqDiff,eqOp,eqA,eqNil,lenA,asNat,optNat,pt,tupleOf,Nat.reduceSub,Nat.reduceGT,Nat.reduceLT,Nat.reduceAdd,hand,norms,normVs,normV,freeze,reduceIte,reduceCtorEq,srcCells,slCells,isStr,fillA,rep,Nat.reduceMul,Nat.reduceLeDiff]
theorem shaSum_length (s : List UInt8) : (shaSum s).length = 32 := by
  have la := absorb_length (s.length + 1) hI zeroB 0 s rfl rfl (by omega)
  unfold shaSum hashSum
  have l1 : (shaR1 true (absorb (s.length + 1) hI zeroB 0 s).1 (absorb (s.length + 1) hI zeroB 0 s).2 s.length).1.length = 8 ∧ (shaR1 true (absorb (s.length + 1) hI zeroB 0 s).1 (absorb (s.length + 1) hI zeroB 0 s).2 s.length).2.length = 64 := absorb_length _ _ _ _ _ (shaState_length la.1) la.2 (by omega)
  have l2 := (absorb_length ((shaTail s.length).length + 1) _ _ ((s.length + (shaPad s.length).length) % 64) (shaTail s.length) l1.1 l1.2 (by omega)).1
  have : ∀ l : List Wd,(l.flatMap be32).length = 4 * l.length := by
    intro l
    induction l with
    | nil => rfl
    | cons x l ih => rw [List.flatMap_cons,List.length_append,ih,List.length_cons]; simp [be32]; omega
  rw [this]
  unfold shaR2
  rw [l2]
def shaHex (s : List UInt8) : List UInt8 := hexEnc (shaSum s)
end Go.Ev

namespace Go.Ev
/-! legate/mac.block -/
def K_mac_block : KF := ⟨1,13,[(.cell 2 true 64)],
(.seq (.ops [o 2 (.new [(.int .u8 0),(.int .u8 0),(.int .u8 0),(.int .u8 0),(.int .u8 0),(.int .u8 0),(.int .u8 0),(.int .u8 0),(.int .u8 0),(.int .u8 0),(.int .u8 0),(.int .u8 0),(.int .u8 0),(.int .u8 0),(.int .u8 0),(.int .u8 0),(.int .u8 0),(.int .u8 0),(.int .u8 0),(.int .u8 0),(.int .u8 0),(.int .u8 0),(.int .u8 0),(.int .u8 0),(.int .u8 0),(.int .u8 0),(.int .u8 0),(.int .u8 0),(.int .u8 0),(.int .u8 0),(.int .u8 0),(.int .u8 0),(.int .u8 0),(.int .u8 0),(.int .u8 0),(.int .u8 0),(.int .u8 0),(.int .u8 0),(.int .u8 0),(.int .u8 0),(.int .u8 0),(.int .u8 0),(.int .u8 0),(.int .u8 0),(.int .u8 0),(.int .u8 0),(.int .u8 0),(.int .u8 0),(.int .u8 0),(.int .u8 0),(.int .u8 0),(.int .u8 0),(.int .u8 0),(.int .u8 0),(.int .u8 0),(.int .u8 0),(.int .u8 0),(.int .u8 0),(.int .u8 0),(.int .u8 0),(.int .u8 0),(.int .u8 0),(.int .u8 0),(.int .u8 0)] none)])
(.seq (.ops [o 3 (.new [(.int .u8 0),(.int .u8 0),(.int .u8 0),(.int .u8 0),(.int .u8 0),(.int .u8 0),(.int .u8 0),(.int .u8 0),(.int .u8 0),(.int .u8 0),(.int .u8 0),(.int .u8 0),(.int .u8 0),(.int .u8 0),(.int .u8 0),(.int .u8 0),(.int .u8 0),(.int .u8 0),(.int .u8 0),(.int .u8 0),(.int .u8 0),(.int .u8 0),(.int .u8 0),(.int .u8 0),(.int .u8 0),(.int .u8 0),(.int .u8 0),(.int .u8 0),(.int .u8 0),(.int .u8 0),(.int .u8 0),(.int .u8 0),(.int .u8 0),(.int .u8 0),(.int .u8 0),(.int .u8 0),(.int .u8 0),(.int .u8 0),(.int .u8 0),(.int .u8 0),(.int .u8 0),(.int .u8 0),(.int .u8 0),(.int .u8 0),(.int .u8 0),(.int .u8 0),(.int .u8 0),(.int .u8 0),(.int .u8 0),(.int .u8 0),(.int .u8 0),(.int .u8 0),(.int .u8 0),(.int .u8 0),(.int .u8 0),(.int .u8 0),(.int .u8 0),(.int .u8 0),(.int .u8 0),(.int .u8 0),(.int .u8 0),(.int .u8 0),(.int .u8 0),(.int .u8 0)] none)])
(.seq (.seq (.ops [m 4 0,
o 5 (.len 0 (.t 4)),
o 6 (.bin .gtr 0 true (.t 5) (.c (.int .i64 64)))])
(.cond (.t 6)
(.ops [m 7 0,
o 8 (.callF f_sha_Sum [(.t 7)]),
m 0 8])
.skip))
(.seq (.ops [o 9 (.sliceArr 64 1 (.t 3) none none none),
m 10 0,
o 11 (.cpy 1 (.t 9) (.t 10))])
(.seq (.ops [o 12 (.load true 64 (.t 3)),
u (.store 64 (.t 2) (.t 12))])
(.ret [2]))))))⟩
/-! legate/mac.combine -/
def L_mac_combine_0 : KC :=
(.seq (.ops [o 7 (.bin .lss 0 true (.t 6) (.c (.int .i64 64)))])
(.seq (.cond (.t 7)
.skip
(.exit [2] 0))
(.seq (.block 1
(.seq (.ops [m 8 6,
m 5 8])
(.ops [m 9 5,
m 10 1,
m 11 5,
o 12 (.idxAddrArr 64 1 (.t 2) (.t 11)),
o 13 (.load false 1 (.t 12)),
o 14 (.callV (.t 10) [(.t 13)]),
o 15 (.idxAddrArr 64 1 (.t 2) (.t 9)),
u (.store 1 (.t 15) (.t 14))])))
(.ops [o 16 (.bin .add 0 true (.t 6) (.c (.int .i64 1))),
m 6 16]))))
def K_mac_combine : KF := ⟨2,19,[(.tmp 4)],
(.seq (.ops [o 2 (.box (.t 0)),
o 4 (.mv (.c (.str [])))])
(.seq (.seq (.ops [o 6 (.mv (.c (.int .i64 0)))])
(.block 0
(.loop [1,2,6] L_mac_combine_0)))
(.seq (.ops [o 17 (.sliceArr 64 1 (.t 2) none none none),
o 18 (.b2s (.t 17)),
m 4 18])
(.ret [4]))))⟩
/-! legate/mac.Of -/
def K_mac_Of : KF := ⟨2,19,[(.tmp 4)],
(.seq (.ops [o 4 (.mv (.c (.str [])))])
(.seq (.ops [m 7 0,
o 8 (.callF f_mac_block [(.t 7)]),
o 5 (.new [(.int .u8 0),(.int .u8 0),(.int .u8 0),(.int .u8 0),(.int .u8 0),(.int .u8 0),(.int .u8 0),(.int .u8 0),(.int .u8 0),(.int .u8 0),(.int .u8 0),(.int .u8 0),(.int .u8 0),(.int .u8 0),(.int .u8 0),(.int .u8 0),(.int .u8 0),(.int .u8 0),(.int .u8 0),(.int .u8 0),(.int .u8 0),(.int .u8 0),(.int .u8 0),(.int .u8 0),(.int .u8 0),(.int .u8 0),(.int .u8 0),(.int .u8 0),(.int .u8 0),(.int .u8 0),(.int .u8 0),(.int .u8 0),(.int .u8 0),(.int .u8 0),(.int .u8 0),(.int .u8 0),(.int .u8 0),(.int .u8 0),(.int .u8 0),(.int .u8 0),(.int .u8 0),(.int .u8 0),(.int .u8 0),(.int .u8 0),(.int .u8 0),(.int .u8 0),(.int .u8 0),(.int .u8 0),(.int .u8 0),(.int .u8 0),(.int .u8 0),(.int .u8 0),(.int .u8 0),(.int .u8 0),(.int .u8 0),(.int .u8 0),(.int .u8 0),(.int .u8 0),(.int .u8 0),(.int .u8 0),(.int .u8 0),(.int .u8 0),(.int .u8 0),(.int .u8 0)] none),
u (.store 64 (.t 5) (.t 8))])
(.seq (.ops [o 9 (.load true 64 (.t 5)),
o 10 (.callF f_mac_combine [(.t 9),(.c (.func (.func f_mac_Of_1) [] []))]),
m 11 1,
o 12 (.bin .add 0 false (.t 10) (.t 11)),
o 13 (.callF f_sha_Sum [(.t 12)]),
m 6 13])
(.seq (.ops [o 14 (.load true 64 (.t 5)),
o 15 (.callF f_mac_combine [(.t 14),(.c (.func (.func f_mac_Of_2) [] []))]),
m 16 6,
o 17 (.bin .add 0 false (.t 15) (.t 16)),
o 18 (.callF f_sha_Sum [(.t 17)]),
m 4 18])
(.ret [4])))))⟩
/-! legate/mac.Of$1 -/
def K_mac_Of_1 : KF := ⟨1,5,[(.tmp 2)],
(.seq (.ops [o 2 (.mv (.c (.int .u8 0)))])
(.seq (.ops [m 3 0,
o 4 (.bin .xor 0 true (.t 3) (.c (.int .u8 54))),
m 2 4])
(.ret [2])))⟩
/-! legate/mac.Of$2 -/
def K_mac_Of_2 : KF := ⟨1,5,[(.tmp 2)],
(.seq (.ops [o 2 (.mv (.c (.int .u8 0)))])
(.seq (.ops [m 3 0,
o 4 (.bin .xor 0 true (.t 3) (.c (.int .u8 92))),
m 2 4])
(.ret [2])))⟩
/-! legate/mac.Same -/
def K_mac_Same : KF := ⟨2,8,[(.tmp 4)],
(.seq (.ops [o 4 (.mv (.c (.bool false)))])
(.seq (.ops [m 5 0,
m 6 1,
o 7 (.bin .eql 0 false (.t 5) (.t 6)),
m 4 7])
(.ret [4])))⟩
end Go.Ev

namespace Go.Ev
set_option maxRecDepth 100000
set_option linter.unusedSimpArgs false
variable {C : Ctx}
theorem u8_xor (b c : UInt8) : IntKind.u8.wrap ((BitVec.ofInt IntKind.u8.bits (b.toNat : Int) ^^^ BitVec.ofInt IntKind.u8.bits (c.toNat : Int)).toNat : Int) = ((b ^^^ c).toNat : Int) := by
  rw [xor_is .u8 rfl b.toNat c.toNat b.toNat_lt c.toNat_lt,UInt8.toNat_xor]
theorem mac_1 (hC : Has C f_mac_Of_1 K_mac_Of_1) (b : UInt8) (σ : St) : semF C f_mac_Of_1 [.int .u8 (b.toNat : Int)] σ = some (.int .u8 ((b ^^^ 54).toNat : Int),σ) := by
  rw [hC.run]
  unfold runK
  have h : IntKind.u8.wrap ((BitVec.ofInt IntKind.u8.bits (b.toNat : Int) ^^^ BitVec.ofInt IntKind.u8.bits 54).toNat : Int) = ((b ^^^ 54).toNat : Int) := u8_xor b 54
  simp only [K_mac_Of_1,h,EVC,EVA,Nat.reduceEqDiff,eqOp,eqA,eqNil,lenA,asNat,optNat,pt,tupleOf,Nat.reduceSub,Nat.reduceGT,Nat.reduceLT,Nat.reduceAdd,hand,norms,normVs,normV,freeze,reduceIte,reduceCtorEq,srcCells,slCells,isStr,fillA,rep,Nat.reduceMul,Nat.reduceLeDiff]
theorem mac_2 (hC : Has C f_mac_Of_2 K_mac_Of_2) (b : UInt8) (σ : St) : semF C f_mac_Of_2 [.int .u8 (b.toNat : Int)] σ = some (.int .u8 ((b ^^^ 92).toNat : Int),σ) := by
  rw [hC.run]
  unfold runK
  have h : IntKind.u8.wrap ((BitVec.ofInt IntKind.u8.bits (b.toNat : Int) ^^^ BitVec.ofInt IntKind.u8.bits 92).toNat : Int) = ((b ^^^ 92).toNat : Int) := u8_xor b 92
  simp only [K_mac_Of_2,h,EVC,EVA,Nat.reduceEqDiff,eqOp,eqA,eqNil,lenA,asNat,optNat,pt,tupleOf,Nat.reduceSub,Nat.reduceGT,Nat.reduceLT,Nat.reduceAdd,hand,norms,normVs,normV,freeze,reduceIte,reduceCtorEq,srcCells,slCells,isStr,fillA,rep,Nat.reduceMul,Nat.reduceLeDiff]
def mapAt (c : UInt8) : Nat → Nat → List UInt8 → List UInt8
  | 0,_,l => l
  | n + 1,i,l => mapAt c n (i + 1) (l.set i (l.getD i 0 ^^^ c))
theorem mapAt_length (c : UInt8) : ∀ (n i : Nat) (l : List UInt8),(mapAt c n i l).length = l.length
  | 0,_,_ => rfl
  | n + 1,i,l => by unfold mapAt; rw [mapAt_length c n,List.length_set]
theorem bytes_at (l : List UInt8) (i : Nat) (h : i < l.length) : ((ofBytes l).drop i).head? = some (.int .u8 ((l.getD i 0).toNat : Int)) := by
  unfold ofBytes
  rw [List.head?_drop,List.getElem?_map,List.getElem?_eq_getElem h,List.getD_eq_getElem?_getD,List.getElem?_eq_getElem h]
  rfl
theorem combine_loop (f : FuncId) (c : UInt8) (hf : ∀ (b : UInt8) (σ : St),semF C f [.int .u8 (b.toNat : Int)] σ = some (.int .u8 ((b ^^^ c).toNat : Int),σ)) (σ : St) :
    ∀ (n i : Nat) (l : List UInt8),i + n = 64 → l.length = 64 →
    loopK C (semF C) 19 [1,2,6] L_mac_combine_0 [(1,.func (.func f) [] []),(2,.ref σ.length 0),(6,.int .i64 i)] (σ ++ [.cells (ofBytes l) ⟨false,none⟩]) =
      some (.exit 0,[(2,.ref σ.length 0)],σ ++ [.cells (ofBytes (mapAt c n i l)) ⟨false,none⟩])
  | 0,i,l,hi,hl => by
    rw [loopK_eq (he := rfl)]
    have h : ¬ ((i : Int) < 64) := by omega
    simp only [L_mac_combine_0,h,mapAt,EVC,EVA,Nat.reduceEqDiff,eqOp,eqA,eqNil,lenA,asNat,optNat,pt,tupleOf,Nat.reduceSub,Nat.reduceGT,Nat.reduceLT,Nat.reduceAdd,hand,norms,normVs,normV,freeze,reduceIte,reduceCtorEq,srcCells,slCells,isStr,fillA,rep,Nat.reduceMul,Nat.reduceLeDiff]
  | n + 1,i,l,hi,hl => by
    rw [loopK_eq (he := rfl)]
    generalize hk : loopK C (semF C) 19 [1,2,6] L_mac_combine_0 = rest
    have h : ((i : Int) < 64) := by omega
    have w5 : IntKind.i64.wrap ((i : Int) + 1) = ((i + 1 : Nat) : Int) := by rw [w64] <;> omega
    have p1 : ∀ j : Nat,(0 : Int) ≤ (j : Int) := fun j => by omega
    have l5 : i < 64 := by omega
    have l6 : i + 1 ≤ 64 := by omega
    have a0 := bytes_at l i (by omega)
    have s1 := splice_byte l i (l.getD i 0 ^^^ c) (by omega)
    simp only [L_mac_combine_0,h,w5,p1,l5,l6,a0,s1,hf,hl,callVal,ofBytes_length,last_get,last_set,Int.toNat_natCast,EVC,EVA,Nat.reduceEqDiff,eqOp,eqA,eqNil,lenA,asNat,optNat,pt,tupleOf,Nat.reduceSub,Nat.reduceGT,Nat.reduceLT,Nat.reduceAdd,hand,norms,normVs,normV,freeze,reduceIte,reduceCtorEq,srcCells,slCells,isStr,fillA,rep,Nat.reduceMul,Nat.reduceLeDiff]
    rw [← hk]
    exact combine_loop f c hf σ n (i + 1) _ (by omega) (by rw [List.length_set,hl])
theorem mac_combine (hC : Has C f_mac_combine K_mac_combine) (f : FuncId) (c : UInt8) (hf : ∀ (b : UInt8) (σ : St),semF C f [.int .u8 (b.toNat : Int)] σ = some (.int .u8 ((b ^^^ c).toNat : Int),σ)) (σ : St) (hσ : Ok σ) (l : List UInt8) (hl : l.length = 64) :
    semF C f_mac_combine [.agg (ofBytes l),.func (.func f) [] []] σ = some (.str (mapAt c 64 0 l),σ) := by
  rw [hC.run]
  unfold runK
  have hn : ∀ (r) (l : List UInt8),normVs σ r (ofBytes l) = some (ofBytes l,[]) := by
    intro r l
    induction l with
    | nil => rfl
    | cons b l ih =>
      show (match normV σ r (.int .u8 (b.toNat : Int)),normVs σ r (ofBytes l) with | some (v,fs),some (l,gs) => some (v :: l,fs ++ gs) | _,_ => none) = _
      rw [ih]
      rfl
  have q := combine_loop f c hf σ 64 0 l (by omega) hl
  simp only [Int.cast_ofNat_Int] at q
  obtain ⟨r,hr⟩ : ∃ r,r = mapAt c 64 0 l := ⟨_,rfl⟩
  rw [← hr] at q ⊢
  have lr : r.length = 64 := by rw [hr,mapAt_length,hl]
  have bt := bytesOf_of r
  have tk : (ofBytes r).take 64 = ofBytes r := List.take_of_length_le (by rw [ofBytes_length]; omega)
  have ty : ∀ x,tidy σ.length [.str r] (σ ++ [x]) = σ := fun x => tidy_app hσ rfl _
  simp only [K_mac_combine,hn,q,lr,bt,tk,ty,ofBytes_length,last_get,EVC,EVA,Nat.reduceEqDiff,eqOp,eqA,eqNil,lenA,asNat,optNat,pt,tupleOf,Nat.reduceSub,Nat.reduceGT,Nat.reduceLT,Nat.reduceAdd,hand,norms,normVs,normV,freeze,reduceIte,reduceCtorEq,srcCells,slCells,isStr,fillA,rep,Nat.reduceMul,Nat.reduceLeDiff]
end Go.Ev

namespace Go.Ev
set_option maxRecDepth 100000
set_option linter.unusedSimpArgs false
variable {C : Ctx}
theorem norm_bytes (σ : St) (r) : ∀ l : List UInt8,normVs σ r (ofBytes l) = some (ofBytes l,[])
  | [] => rfl
  | b :: l => by
    show (match normV σ r (.int .u8 (b.toNat : Int)),normVs σ r (ofBytes l) with | some (v,fs),some (l,gs) => some (v :: l,fs ++ gs) | _,_ => none) = _
    rw [norm_bytes σ r l]
    rfl
def macBlock (key : List UInt8) : List UInt8 := lay zeroB 0 ((if key.length > 64 then shaSum key else key))
theorem macBlock_length (key : List UInt8) : (macBlock key).length = 64 := by
  unfold macBlock
  have : zeroB.length = 64 := rfl
  rw [lay_length,this]
  split
  · rw [shaSum_length,this]; omega
  · rw [this]; omega
theorem lay_bytes {part s : List UInt8} {used : Nat} (h : used + s.length ≤ part.length) : splice (ofBytes part) used (ofBytes s) = ofBytes (lay part used s) := by
  unfold splice lay ofBytes
  simp
theorem resL_cell (e : As) (σ : St) (t : Nat) (ag : Bool) (sz : Nat) (l : List XR) : resL e σ (.cell t ag sz :: l) = match look e t,resL e σ l with
    | .ref o off,some vs => match σ[o]? with
      | some (.cells c _) => match pt ag sz (c.drop off) with
        | some v => some (v :: vs)
        | none => none
      | _ => none
    | _,_ => none := rfl
theorem mac_block (hC : Has C f_mac_block K_mac_block) (h : ShaHas C) (key : List UInt8) (hk : key.length ≤ 1099511627776) (σ : St) (hσ : Ok σ) :
    semF C f_mac_block [.str key] σ = some (.agg (ofBytes (macBlock key)),σ) := by
  rw [hC.run]
  unfold runK
  have z : ∀ τ : St,τ ++ [AO.cells [.int .u8 0,.int .u8 0,.int .u8 0,.int .u8 0,.int .u8 0,.int .u8 0,.int .u8 0,.int .u8 0,.int .u8 0,.int .u8 0,.int .u8 0,.int .u8 0,.int .u8 0,.int .u8 0,.int .u8 0,.int .u8 0,.int .u8 0,.int .u8 0,.int .u8 0,.int .u8 0,.int .u8 0,.int .u8 0,.int .u8 0,.int .u8 0,.int .u8 0,.int .u8 0,.int .u8 0,.int .u8 0,.int .u8 0,.int .u8 0,.int .u8 0,.int .u8 0,.int .u8 0,.int .u8 0,.int .u8 0,.int .u8 0,.int .u8 0,.int .u8 0,.int .u8 0,.int .u8 0,.int .u8 0,.int .u8 0,.int .u8 0,.int .u8 0,.int .u8 0,.int .u8 0,.int .u8 0,.int .u8 0,.int .u8 0,.int .u8 0,.int .u8 0,.int .u8 0,.int .u8 0,.int .u8 0,.int .u8 0,.int .u8 0,.int .u8 0,.int .u8 0,.int .u8 0,.int .u8 0,.int .u8 0,.int .u8 0,.int .u8 0,.int .u8 0] ⟨false,none⟩] = τ ++ [AO.cells (ofBytes zeroB) ⟨false,none⟩] := fun _ => rfl
  have ok1 : ∀ {τ : St},Ok τ → Ok (τ ++ [.cells (ofBytes zeroB) ⟨false,none⟩]) := fun {τ} h => h.app (by simp [AO.below,belows_ofBytes])
  have lz : zeroB.length = 64 := rfl
  obtain ⟨s,hs⟩ : ∃ s,s = (if key.length > 64 then shaSum key else key) := ⟨_,rfl⟩
  have ls : s.length ≤ 64 := by rw [hs]; split; (rw [shaSum_length]; omega); omega
  have mn : min s.length 64 = s.length := by omega
  have tk : (ofBytes s).take s.length = ofBytes s := List.take_of_length_le (by rw [ofBytes_length]; omega)
  have hb : macBlock key = lay zeroB 0 s := by unfold macBlock; rw [hs]
  have lb := macBlock_length key
  have sp := lay_bytes (part := zeroB) (used := 0) (s := s) (by rw [lz]; omega)
  rw [← hb] at sp
  have tkb : (ofBytes (macBlock key)).take 64 = ofBytes (macBlock key) := List.take_of_length_le (by rw [ofBytes_length]; omega)
  have spa : splice (ofBytes zeroB) 0 (ofBytes (macBlock key)) = ofBytes (macBlock key) := splice_all _ _ (by rw [ofBytes_length,ofBytes_length,lb,lz])
  have e3 : ∀ x y z : AO,(σ ++ [x] ++ [y]).set σ.length z = σ ++ [z] ++ [y] := fun x y z => by
    rw [List.set_append_left _ _ (by simp),last_set]
  have g3 : ∀ x y : AO,(σ ++ [x] ++ [y])[σ.length]? = some x := fun x y => old_get (last_get _ _) _
  have ty : ∀ x y,tidy σ.length [.agg (ofBytes (macBlock key))] (σ ++ [x] ++ [y]) = σ := fun x y => by
    rw [List.append_assoc]
    exact tidy_app hσ (by simp [belows,below,belows_ofBytes]) _
  by_cases hg : key.length > 64
  · have q := sha_Sum h key hk (σ ++ [.cells (ofBytes zeroB) ⟨false,none⟩] ++ [.cells (ofBytes zeroB) ⟨false,none⟩]) (ok1 (ok1 hσ))
    rw [if_pos hg] at hs
    rw [← hs] at q
    have hg' : ((key.length : Int) > 64) := by omega
    simp only [K_mac_block,z,hg',q,lz,mn,tk,sp,spa,tkb,lb,ls,e3,g3,ty,last_get,last_set,norm_bytes,resL_cell,ofBytes_length,ofBytes_flat,EVC,EVA,Nat.reduceEqDiff,eqOp,eqA,eqNil,lenA,asNat,optNat,pt,tupleOf,Nat.reduceSub,Nat.reduceGT,Nat.reduceLT,Nat.reduceAdd,hand,norms,normVs,normV,freeze,reduceIte,reduceCtorEq,srcCells,slCells,isStr,fillA,rep,Nat.reduceMul,Nat.reduceLeDiff]
  · rw [if_neg hg] at hs
    have hg' : ¬ ((key.length : Int) > 64) := by omega
    rw [hs] at *
    simp only [K_mac_block,z,hg',lz,mn,tk,sp,spa,tkb,lb,ls,e3,g3,ty,last_get,last_set,norm_bytes,resL_cell,ofBytes_length,ofBytes_flat,EVC,EVA,Nat.reduceEqDiff,eqOp,eqA,eqNil,lenA,asNat,optNat,pt,tupleOf,Nat.reduceSub,Nat.reduceGT,Nat.reduceLT,Nat.reduceAdd,hand,norms,normVs,normV,freeze,reduceIte,reduceCtorEq,srcCells,slCells,isStr,fillA,rep,Nat.reduceMul,Nat.reduceLeDiff]
def hmac (key s : List UInt8) : List UInt8 := shaSum (mapAt 92 64 0 (macBlock key) ++ shaSum (mapAt 54 64 0 (macBlock key) ++ s))
structure MacHas (C : Ctx) : Prop where
  sha : ShaHas C
  block : Has C f_mac_block K_mac_block
  combine : Has C f_mac_combine K_mac_combine
  of : Has C f_mac_Of K_mac_Of
  of1 : Has C f_mac_Of_1 K_mac_Of_1
  of2 : Has C f_mac_Of_2 K_mac_Of_2
theorem mac_Of (h : MacHas C) (key s : List UInt8) (hk : key.length ≤ 1099511627776) (hs : s.length ≤ 1099511627000) (σ : St) (hσ : Ok σ) :
    semF C f_mac_Of [.str key,.str s] σ = some (.str (hmac key s),σ) := by
  rw [h.of.run]
  unfold runK
  have z : ∀ τ : St,τ ++ [AO.cells [.int .u8 0,.int .u8 0,.int .u8 0,.int .u8 0,.int .u8 0,.int .u8 0,.int .u8 0,.int .u8 0,.int .u8 0,.int .u8 0,.int .u8 0,.int .u8 0,.int .u8 0,.int .u8 0,.int .u8 0,.int .u8 0,.int .u8 0,.int .u8 0,.int .u8 0,.int .u8 0,.int .u8 0,.int .u8 0,.int .u8 0,.int .u8 0,.int .u8 0,.int .u8 0,.int .u8 0,.int .u8 0,.int .u8 0,.int .u8 0,.int .u8 0,.int .u8 0,.int .u8 0,.int .u8 0,.int .u8 0,.int .u8 0,.int .u8 0,.int .u8 0,.int .u8 0,.int .u8 0,.int .u8 0,.int .u8 0,.int .u8 0,.int .u8 0,.int .u8 0,.int .u8 0,.int .u8 0,.int .u8 0,.int .u8 0,.int .u8 0,.int .u8 0,.int .u8 0,.int .u8 0,.int .u8 0,.int .u8 0,.int .u8 0,.int .u8 0,.int .u8 0,.int .u8 0,.int .u8 0,.int .u8 0,.int .u8 0,.int .u8 0,.int .u8 0] ⟨false,none⟩] = τ ++ [AO.cells (ofBytes zeroB) ⟨false,none⟩] := fun _ => rfl
  have q0 := mac_block h.block h.sha key hk σ hσ
  have lb := macBlock_length key
  obtain ⟨b,hb⟩ : ∃ b,b = macBlock key := ⟨_,rfl⟩
  rw [← hb] at q0 lb
  have ok1 : Ok (σ ++ [.cells (ofBytes b) ⟨false,none⟩]) := hσ.app (by simp [AO.below,belows_ofBytes])
  have q1 := mac_combine h.combine f_mac_Of_1 54 (mac_1 h.of1) _ ok1 b lb
  have q2 := mac_combine h.combine f_mac_Of_2 92 (mac_2 h.of2) _ ok1 b lb
  have l1 := mapAt_length 54 64 0 b
  have l2 := mapAt_length 92 64 0 b
  obtain ⟨x,hx⟩ : ∃ x,x = mapAt 54 64 0 b := ⟨_,rfl⟩
  obtain ⟨y,hy⟩ : ∃ y,y = mapAt 92 64 0 b := ⟨_,rfl⟩
  rw [← hx] at q1 l1
  rw [← hy] at q2 l2
  have q3 := sha_Sum h.sha (x ++ s) (by rw [List.length_append,l1,lb]; omega) _ ok1
  have q4 := sha_Sum h.sha (y ++ shaSum (x ++ s)) (by rw [List.length_append,l2,lb,shaSum_length]; omega) _ ok1
  have e : hmac key s = shaSum (y ++ shaSum (x ++ s)) := by unfold hmac; rw [hy,hx,hb]
  rw [e]
  have b1 : binStr .add x s = some (.str (x ++ s)) := by unfold binStr; dsimp only; rw [if_neg (by omega)]
  have b2 : binStr .add y (shaSum (x ++ s)) = some (.str (y ++ shaSum (x ++ s))) := by unfold binStr; dsimp only; rw [if_neg (by rw [shaSum_length]; omega)]
  have spa : splice (ofBytes zeroB) 0 (ofBytes b) = ofBytes b := splice_all _ _ (by rw [ofBytes_length,ofBytes_length,lb]; rfl)
  have lz : zeroB.length = 64 := rfl
  have tkb : (ofBytes b).take 64 = ofBytes b := List.take_of_length_le (by rw [ofBytes_length]; omega)
  have ty : ∀ v w,tidy σ.length [.str v] (σ ++ [w]) = σ := fun v w => tidy_app hσ rfl _
  simp only [K_mac_Of,z,q0,q1,q2,q3,q4,b1,b2,spa,lz,tkb,lb,ty,last_get,last_set,ofBytes_length,ofBytes_flat,EVC,EVA,Nat.reduceEqDiff,eqOp,eqA,eqNil,lenA,asNat,optNat,pt,tupleOf,Nat.reduceSub,Nat.reduceGT,Nat.reduceLT,Nat.reduceAdd,hand,norms,normVs,normV,freeze,reduceIte,reduceCtorEq,srcCells,slCells,isStr,fillA,rep,Nat.reduceMul,Nat.reduceLeDiff]
end Go.Ev

