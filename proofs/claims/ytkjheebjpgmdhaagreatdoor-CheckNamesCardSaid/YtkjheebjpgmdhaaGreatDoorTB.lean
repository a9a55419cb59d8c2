/- The code is the program's. No conditions. -/
import Derived.Test.YtkjheebjpgmdhaaGreatDoorCb
import Derived.Test.YtkjheebjpgmdhaaGreatDoorUF
import Derived.KernelRfl
set_option linter.unusedVariables false
set_option linter.unusedSimpArgs false
namespace Go.Proofs.YtkjheebjpgmdhaaGreatDoor
open Go.Ev
set_option maxRecDepth 1000000
theorem kok_read_tokens_next : KOK CC f_read_tokens_next K_read_tokens_next := kok_of (by kernel_rfl) (by kernel_rfl) (by kernel_rfl)
theorem kok_read_values_value : KOK CC f_read_values_value K_read_values_value := kok_of (by kernel_rfl) (by kernel_rfl) (by kernel_rfl)
theorem kok_sign_sigOf : KOK CC f_sign_sigOf K_sign_sigOf := kok_of (by kernel_rfl) (by kernel_rfl) (by kernel_rfl)
theorem kok_slices_pdqsortCmpFunc_key_entry : KOK CC f_slices_pdqsortCmpFunc_key_entry K_slices_pdqsortCmpFunc_key_entry := kok_of (by kernel_rfl) (by kernel_rfl) (by kernel_rfl)
theorem kok_math_bits_Len : KOK CC f_math_bits_Len K_math_bits_Len := kok_of (by kernel_rfl) (by kernel_rfl) (by kernel_rfl)
theorem kok_snap_parseType : KOK CC f_snap_parseType K_snap_parseType := kok_of (by kernel_rfl) (by kernel_rfl) (by kernel_rfl)
theorem kok_snap_parseVersion : KOK CC f_snap_parseVersion K_snap_parseVersion := kok_of (by kernel_rfl) (by kernel_rfl) (by kernel_rfl)
theorem kok_snap_parseExpires : KOK CC f_snap_parseExpires K_snap_parseExpires := kok_of (by kernel_rfl) (by kernel_rfl) (by kernel_rfl)
theorem kok_snap_parseMeta : KOK CC f_snap_parseMeta K_snap_parseMeta := kok_of (by kernel_rfl) (by kernel_rfl) (by kernel_rfl)
theorem kok_name_Role : KOK CC f_name_Role K_name_Role := kok_of (by kernel_rfl) (by kernel_rfl) (by kernel_rfl)
theorem kok_auth_Of : KOK CC f_auth_Of K_auth_Of := kok_of (by kernel_rfl) (by kernel_rfl) (by kernel_rfl)
theorem kok_auth_wrong : KOK CC f_auth_wrong K_auth_wrong := kok_of (by kernel_rfl) (by kernel_rfl) (by kernel_rfl)
theorem kok_key_Find : KOK CC f_key_Find K_key_Find := kok_of (by kernel_rfl) (by kernel_rfl) (by kernel_rfl)
theorem kok_judge_Verifier_has : KOK CC f_judge_Verifier_has K_judge_Verifier_has := kok_of (by kernel_rfl) (by kernel_rfl) (by kernel_rfl)
theorem kok_when_leaps : KOK CC f_when_leaps K_when_leaps := kok_of (by kernel_rfl) (by kernel_rfl) (by kernel_rfl)
theorem kok_strconv_Itoa : KOK CC f_strconv_Itoa K_strconv_Itoa := kok_of (by kernel_rfl) (by kernel_rfl) (by kernel_rfl)
theorem kok_pick_TextsOf : KOK CC f_pick_TextsOf K_pick_TextsOf := kok_of (by kernel_rfl) (by kernel_rfl) (by kernel_rfl)
theorem kok_slices_pdqsortCmpFunc_pick_Member : KOK CC f_slices_pdqsortCmpFunc_pick_Member K_slices_pdqsortCmpFunc_pick_Member := kok_of (by kernel_rfl) (by kernel_rfl) (by kernel_rfl)
theorem kok_internal_bytealg_CompareString : KOK CC f_internal_bytealg_CompareString K_internal_bytealg_CompareString := kok_of (by kernel_rfl) (by kernel_rfl) (by kernel_rfl)
theorem kok_slices_Clone_string_string : KOK CC f_slices_Clone_string_string K_slices_Clone_string_string := kok_of (by kernel_rfl) (by kernel_rfl) (by kernel_rfl)
theorem kok_value_endless : KOK CC f_value_endless K_value_endless := kok_of (by kernel_rfl) (by kernel_rfl) (by kernel_rfl)
theorem kok_value_duplicate : KOK CC f_value_duplicate K_value_duplicate := kok_of (by kernel_rfl) (by kernel_rfl) (by kernel_rfl)
theorem kok_strconv_FormatInt : KOK CC f_strconv_FormatInt K_strconv_FormatInt := kok_of (by kernel_rfl) (by kernel_rfl) (by kernel_rfl)
theorem kok_deleg_keysMay : KOK CC f_deleg_keysMay K_deleg_keysMay := kok_of (by kernel_rfl) (by kernel_rfl) (by kernel_rfl)
theorem kok_deleg_noBins : KOK CC f_deleg_noBins K_deleg_noBins := kok_of (by kernel_rfl) (by kernel_rfl) (by kernel_rfl)
theorem kok_deleg_rolesMay : KOK CC f_deleg_rolesMay K_deleg_rolesMay := kok_of (by kernel_rfl) (by kernel_rfl) (by kernel_rfl)
theorem kok_deleg_object : KOK CC f_deleg_object K_deleg_object := kok_of (by kernel_rfl) (by kernel_rfl) (by kernel_rfl)
theorem kok_value_proper : KOK CC f_value_proper K_value_proper := kok_of (by kernel_rfl) (by kernel_rfl) (by kernel_rfl)
theorem kok_value_find : KOK CC f_value_find K_value_find := kok_of (by kernel_rfl) (by kernel_rfl) (by kernel_rfl)
theorem kok_auth_Part : KOK CC f_auth_Part K_auth_Part := kok_of (by kernel_rfl) (by kernel_rfl) (by kernel_rfl)
theorem kok_pick_take_api_Value_196 : KOK CC f_pick_take_api_Value_196 K_pick_take_api_Value_196 := kok_of (by kernel_rfl) (by kernel_rfl) (by kernel_rfl)
theorem kok_pick_Obj_List_1 : KOK CC f_pick_Obj_List_1 K_pick_Obj_List_1 := kok_of (by kernel_rfl) (by kernel_rfl) (by kernel_rfl)
theorem kok_pick_items : KOK CC f_pick_items K_pick_items := kok_of (by kernel_rfl) (by kernel_rfl) (by kernel_rfl)
theorem kok_read_space : KOK CC f_read_space K_read_space := kok_of (by kernel_rfl) (by kernel_rfl) (by kernel_rfl)
theorem kok_lex_Next : KOK CC f_lex_Next K_lex_Next := kok_of (by kernel_rfl) (by kernel_rfl) (by kernel_rfl)
theorem kok_read_values_wrong : KOK CC f_read_values_wrong K_read_values_wrong := kok_of (by kernel_rfl) (by kernel_rfl) (by kernel_rfl)
theorem kok_read_values_list : KOK CC f_read_values_list K_read_values_list := kok_of (by kernel_rfl) (by kernel_rfl) (by kernel_rfl)
theorem kok_read_values_object : KOK CC f_read_values_object K_read_values_object := kok_of (by kernel_rfl) (by kernel_rfl) (by kernel_rfl)
theorem kok_slices_insertionSortCmpFunc_key_entry : KOK CC f_slices_insertionSortCmpFunc_key_entry K_slices_insertionSortCmpFunc_key_entry := kok_of (by kernel_rfl) (by kernel_rfl) (by kernel_rfl)
theorem kok_math_bits_Len64 : KOK CC f_math_bits_Len64 K_math_bits_Len64 := kok_of (by kernel_rfl) (by kernel_rfl) (by kernel_rfl)
end Go.Proofs.YtkjheebjpgmdhaaGreatDoor

namespace Go.Proofs.YtkjheebjpgmdhaaGreatDoor
open Go.Ev
set_option maxRecDepth 1000000
theorem kok_name_allowed : KOK CC f_name_allowed K_name_allowed := kok_of (by kernel_rfl) (by kernel_rfl) (by kernel_rfl)
theorem kok_judge_Verifier_Good : KOK CC f_judge_Verifier_Good K_judge_Verifier_Good := kok_of (by kernel_rfl) (by kernel_rfl) (by kernel_rfl)
theorem kok_internal_strconv_Itoa : KOK CC f_internal_strconv_Itoa K_internal_strconv_Itoa := kok_of (by kernel_rfl) (by kernel_rfl) (by kernel_rfl)
theorem kok_slices_insertionSortCmpFunc_pick_Member : KOK CC f_slices_insertionSortCmpFunc_pick_Member K_slices_insertionSortCmpFunc_pick_Member := kok_of (by kernel_rfl) (by kernel_rfl) (by kernel_rfl)
theorem kok_internal_strconv_FormatInt : KOK CC f_internal_strconv_FormatInt K_internal_strconv_FormatInt := kok_of (by kernel_rfl) (by kernel_rfl) (by kernel_rfl)
theorem kok_pick_ListOf : KOK CC f_pick_ListOf K_pick_ListOf := kok_of (by kernel_rfl) (by kernel_rfl) (by kernel_rfl)
theorem kok_value_written : KOK CC f_value_written K_value_written := kok_of (by kernel_rfl) (by kernel_rfl) (by kernel_rfl)
theorem kok_value_ascending : KOK CC f_value_ascending K_value_ascending := kok_of (by kernel_rfl) (by kernel_rfl) (by kernel_rfl)
theorem kok_sort_Search : KOK CC f_sort_Search K_sort_Search := kok_of (by kernel_rfl) (by kernel_rfl) (by kernel_rfl)
theorem kok_value_find_1 : KOK CC f_value_find_1 K_value_find_1 := kok_of (by kernel_rfl) (by kernel_rfl) (by kernel_rfl)
theorem kok_pick_Obj_Texts : KOK CC f_pick_Obj_Texts K_pick_Obj_Texts := kok_of (by kernel_rfl) (by kernel_rfl) (by kernel_rfl)
theorem kok_lex_rules : KOK CC f_lex_rules K_lex_rules := kok_of (by kernel_rfl) (by kernel_rfl) (by kernel_rfl)
theorem kok_lex_token : KOK CC f_lex_token K_lex_token := kok_of (by kernel_rfl) (by kernel_rfl) (by kernel_rfl)
theorem kok_lex_skip : KOK CC f_lex_skip K_lex_skip := kok_of (by kernel_rfl) (by kernel_rfl) (by kernel_rfl)
theorem kok_read_values_more : KOK CC f_read_values_more K_read_values_more := kok_of (by kernel_rfl) (by kernel_rfl) (by kernel_rfl)
theorem kok_read_values_member : KOK CC f_read_values_member K_read_values_member := kok_of (by kernel_rfl) (by kernel_rfl) (by kernel_rfl)
theorem kok_read_sorted : KOK CC f_read_sorted K_read_sorted := kok_of (by kernel_rfl) (by kernel_rfl) (by kernel_rfl)
theorem kok_judge_sigMay : KOK CC f_judge_sigMay K_judge_sigMay := kok_of (by kernel_rfl) (by kernel_rfl) (by kernel_rfl)
theorem kok_internal_strconv_small : KOK CC f_internal_strconv_small K_internal_strconv_small := kok_of (by kernel_rfl) (by kernel_rfl) (by kernel_rfl)
theorem kok_internal_strconv_numDigits : KOK CC f_internal_strconv_numDigits K_internal_strconv_numDigits := kok_of (by kernel_rfl) (by kernel_rfl) (by kernel_rfl)
theorem kok_internal_strconv_formatBase10 : KOK CC f_internal_strconv_formatBase10 K_internal_strconv_formatBase10 := kok_of (by kernel_rfl) (by kernel_rfl) (by kernel_rfl)
theorem kok_pick_take_string_282 : KOK CC f_pick_take_string_282 K_pick_take_string_282 := kok_of (by kernel_rfl) (by kernel_rfl) (by kernel_rfl)
theorem kok_pick_Obj_Texts_1 : KOK CC f_pick_Obj_Texts_1 K_pick_Obj_Texts_1 := kok_of (by kernel_rfl) (by kernel_rfl) (by kernel_rfl)
theorem kok_lex_open : KOK CC f_lex_open K_lex_open := kok_of (by kernel_rfl) (by kernel_rfl) (by kernel_rfl)
theorem kok_lex_shut : KOK CC f_lex_shut K_lex_shut := kok_of (by kernel_rfl) (by kernel_rfl) (by kernel_rfl)
theorem kok_lex_first : KOK CC f_lex_first K_lex_first := kok_of (by kernel_rfl) (by kernel_rfl) (by kernel_rfl)
theorem kok_lex_last : KOK CC f_lex_last K_lex_last := kok_of (by kernel_rfl) (by kernel_rfl) (by kernel_rfl)
theorem kok_lex_comma : KOK CC f_lex_comma K_lex_comma := kok_of (by kernel_rfl) (by kernel_rfl) (by kernel_rfl)
theorem kok_lex_colon : KOK CC f_lex_colon K_lex_colon := kok_of (by kernel_rfl) (by kernel_rfl) (by kernel_rfl)
theorem kok_lex_number : KOK CC f_lex_number K_lex_number := kok_of (by kernel_rfl) (by kernel_rfl) (by kernel_rfl)
theorem kok_lex_text : KOK CC f_lex_text K_lex_text := kok_of (by kernel_rfl) (by kernel_rfl) (by kernel_rfl)
theorem kok_read_values_expect : KOK CC f_read_values_expect K_read_values_expect := kok_of (by kernel_rfl) (by kernel_rfl) (by kernel_rfl)
theorem kok_slices_SortFunc_read_member_read_member : KOK CC f_slices_SortFunc_read_member_read_member K_slices_SortFunc_read_member_read_member := kok_of (by kernel_rfl) (by kernel_rfl) (by kernel_rfl)
theorem kok_read_sorted_1 : KOK CC f_read_sorted_1 K_read_sorted_1 := kok_of (by kernel_rfl) (by kernel_rfl) (by kernel_rfl)
theorem kok_internal_strconv_log10Pow2 : KOK CC f_internal_strconv_log10Pow2 K_internal_strconv_log10Pow2 := kok_of (by kernel_rfl) (by kernel_rfl) (by kernel_rfl)
theorem kok_internal_strconv_bool2_int : KOK CC f_internal_strconv_bool2_int K_internal_strconv_bool2_int := kok_of (by kernel_rfl) (by kernel_rfl) (by kernel_rfl)
theorem kok_lex_sign : KOK CC f_lex_sign K_lex_sign := kok_of (by kernel_rfl) (by kernel_rfl) (by kernel_rfl)
theorem kok_num_Read : KOK CC f_num_Read K_num_Read := kok_of (by kernel_rfl) (by kernel_rfl) (by kernel_rfl)
theorem kok_slices_pdqsortCmpFunc_read_member : KOK CC f_slices_pdqsortCmpFunc_read_member K_slices_pdqsortCmpFunc_read_member := kok_of (by kernel_rfl) (by kernel_rfl) (by kernel_rfl)
theorem kok_num_formed : KOK CC f_num_formed K_num_formed := kok_of (by kernel_rfl) (by kernel_rfl) (by kernel_rfl)
end Go.Proofs.YtkjheebjpgmdhaaGreatDoor

namespace Go.Proofs.YtkjheebjpgmdhaaGreatDoor
open Go.Ev
set_option maxRecDepth 1000000
theorem kok_strconv_ParseInt : KOK CC f_strconv_ParseInt K_strconv_ParseInt := kok_of (by kernel_rfl) (by kernel_rfl) (by kernel_rfl)
theorem kok_slices_insertionSortCmpFunc_read_member : KOK CC f_slices_insertionSortCmpFunc_read_member K_slices_insertionSortCmpFunc_read_member := kok_of (by kernel_rfl) (by kernel_rfl) (by kernel_rfl)
theorem kok_internal_strconv_ParseInt : KOK CC f_internal_strconv_ParseInt K_internal_strconv_ParseInt := kok_of (by kernel_rfl) (by kernel_rfl) (by kernel_rfl)
theorem kok_internal_strconv_ParseUint : KOK CC f_internal_strconv_ParseUint K_internal_strconv_ParseUint := kok_of (by kernel_rfl) (by kernel_rfl) (by kernel_rfl)
theorem kok_judge_byMAC_good : KOK CC f_judge_byMAC_good K_judge_byMAC_good := kok_of (by kernel_rfl) (by kernel_rfl) (by kernel_rfl)
theorem kok_mac_Same : KOK CC f_mac_Same K_mac_Same := kok_of (by kernel_rfl) (by kernel_rfl) (by kernel_rfl)
end Go.Proofs.YtkjheebjpgmdhaaGreatDoor

