/- The code is the program's. No conditions. -/
import Derived.Test.YtgpjaembafkpoaaGreatDoorCb
import Derived.Test.YtgpjaembafkpoaaGreatDoorEvC
import Derived.Test.YtgpjaembafkpoaaGreatDoorUF
import Derived.KernelRfl
import Derived.Test.YtgpjaembafkpoaaGreatDoorTA
import Derived.Test.YtgpjaembafkpoaaGreatDoorTB
set_option linter.unusedVariables false
set_option linter.unusedSimpArgs false
namespace Go.Proofs.YtgpjaembafkpoaaGreatDoor
open Go.Ev
set_option maxRecDepth 1000000
def X_repo_Repo_Snapshot : CFn := ⟨7,[(.cell 2 true 3),(.cell 3 false 1)],[o 2 (.new [vi 0,vi 0,.nils] none),o 3 (.new [vu 0] none)],4,f_repo_Repo_Snapshot_1,[.t 2,.t 3],(.seq (.ops [.op (m 5 0),.op (o 6 (.callF f_repo_Repo_snapshot [.t 5])),.op (xs 3 2 6),.op (u (.store 1 (.t 3) (cu 0)))])
.ret)⟩
def Q_repo_Repo_Snapshot_1 : KFn := ⟨9,3,2,(.seq (.ops [m 4 2,o 5 (.bin .neq 5 true (.t 4) (.c .nilIface))])
(.cond (.t 5)
(.ops [o 6 (.build [vi 0,vi 0,.nils] []),m 7 2,o 8 (.callF f_repo_caught [.t 7]),xs 3 0 6,xs 1 1 8])
.skip))⟩
def X_repo_Repo_Role : CFn := ⟨16,[(.cell 8 true 9),(.cell 9 false 1)],[o 6 (.box (.t 2)),o 8 (.new [vi 0,vi 0,.nils,.nils,.nils,vi 0,.nils,vi 0,ve] none),o 9 (.new [vu 0] none)],10,f_repo_Repo_Role_1,[.t 8,.t 9],(.seq (.ops [.op (m 11 0),.op (m 12 1),.op (xl 13 2 6),.op (m 14 3),.op (o 15 (.callF f_repo_Repo_targets [.t 11,.t 12,.t 13,.t 14])),.op (xs 9 8 15),.op (u (.store 1 (.t 9) (cu 0)))])
.ret)⟩
def Q_repo_Repo_Role_1 : KFn := ⟨9,3,2,(.seq (.ops [m 4 2,o 5 (.bin .neq 5 true (.t 4) (.c .nilIface))])
(.cond (.t 5)
(.ops [o 6 (.build [vi 0,vi 0,.nils,.nils,.nils,vi 0,.nils,vi 0,ve] []),m 7 2,o 8 (.callF f_repo_caught [.t 7]),xs 9 0 6,xs 1 1 8])
.skip))⟩
def T_repo_caught : TF := ⟨15,[(.tmp 2)],(.seq (.ops [.op (o 2 (.mv (cu 0)))])
(.seq (.ops [.op (m 6 0),.assert 7 134 (.t 6),.op (m 5 7),.op (xe 8 5 0),.op (xe 9 5 1),.op (o 3 (.new [vu 0] none)),.op (xs 1 3 8),.op (m 4 9)])
(.seq (.seq (.ops [.op (m 10 4),.op (o 11 (.un .not (.t 10)))])
(.cond (.t 11)
(.ops [.op (m 12 0),.panic (.t 12)])
.skip))
(.seq (.ops [.op (xa 13 0 3),.op (xf 14 13),.op (m 2 14)])
.ret))))⟩
def T_repo_Repo_snapshot : TF := ⟨45,[(.cell 2 true 3)],(.seq (.ops [.op (o 2 (.new [vi 0,vi 0,.nils] none))])
(.seq (.seq (.ops [.op (m 7 0),.op (o 8 (.callF f_repo_Repo_made [.t 7])),.op (o 9 (.un .not (.t 8)))])
(.cond (.t 9)
(.ops [.op (o 10 (.build [vu 0] [(0,1,(cu 2))])),.op (o 11 (.mkIface 134 (.t 10))),.panic (.t 11)])
.skip))
(.seq (.ops [.op (m 13 0),.op (m 14 0),.op (o 15 (.nilck (.t 14))),.op (xa 16 13 15),.op (xf 17 16),.op (o 18 (.callF f_repo_Repo_fetch [.t 13,cs [115,110,97,112,115,104,111,116],.t 17])),.op (m 12 18),.op (xe 19 12 0),.op (xe 20 12 1),.op (m 3 19),.op (m 4 20)])
(.seq (.drawn [m 22 0,o 23 (.nilck (.t 22)),xa 24 10 23,xf 25 24,m 26 0,o 27 (.nilck (.t 26)),xa 28 1 27,xl 29 9 28,m 30 0,o 31 (.nilck (.t 30)),xa 32 11 31,xf 33 32,m 34 3,m 35 4,o 36 (.callF f_check_Snapshot [.t 25,.t 29,.t 33,.t 34,.t 35]),m 21 36,xe 37 21 0,xe 38 21 1,u .pend,o 5 (.fill 18 5 3 (.t 37)),m 6 38])
(.seq (.seq (.ops [.op (m 39 6),.op (o 40 (.bin .neq 0 true (.t 39) (cu 0)))])
(.cond (.t 40)
(.ops [.op (m 41 6),.op (o 42 (.build [vu 0] [(0,1,(.t 41))])),.op (o 43 (.mkIface 134 (.t 42))),.panic (.t 43)])
.skip))
(.seq (.ops [.op (xl 44 3 5),.op (xs 3 2 44)])
.ret))))))⟩
def T_repo_Repo_targets : TF := ⟨64,[(.cell 8 true 9)],(.seq (.ops [.op (o 6 (.box (.t 2))),.op (o 8 (.new [vi 0,vi 0,.nils,.nils,.nils,vi 0,.nils,vi 0,ve] none))])
(.seq (.ops [.op (m 16 0),.op (o 17 (.callF f_repo_Repo_snapshot [.t 16])),.op (o 9 (.new [vi 0,vi 0,.nils] none)),.op (xs 3 9 17)])
(.seq (.drawn [xl 19 3 9,m 20 1,m 21 0,o 22 (.nilck (.t 21)),xa 23 12 22,xf 24 23,o 25 (.callF f_check_Cap [.t 19,.t 20,.t 24]),m 18 25,xe 26 18 0,xe 27 18 1,xe 28 18 2,u .pend,o 10 (.fill 11 10 4 (.t 26)),m 11 27,m 12 28])
(.seq (.seq (.ops [.op (m 29 12),.op (o 30 (.bin .neq 0 true (.t 29) (cu 0)))])
(.cond (.t 30)
(.ops [.op (m 31 12),.op (o 32 (.build [vu 0] [(0,1,(.t 31))])),.op (o 33 (.mkIface 134 (.t 32))),.panic (.t 33)])
.skip))
(.seq (.ops [.op (m 35 0),.op (m 36 1),.op (m 37 11),.op (o 38 (.callF f_repo_Repo_fetch [.t 35,.t 36,.t 37])),.op (m 34 38),.op (xe 39 34 0),.op (xe 40 34 1),.op (m 13 39),.op (m 14 40)])
(.seq (.drawn [m 42 0,o 43 (.nilck (.t 42)),xa 44 10 43,xf 45 44,xl 46 4 10,xl 47 2 6,m 48 3,m 49 0,o 50 (.nilck (.t 49)),xa 51 11 50,xf 52 51,m 53 13,m 54 14,o 55 (.callF f_check_Role [.t 45,.t 46,.t 47,.t 48,.t 52,.t 53,.t 54]),m 41 55,xe 56 41 0,xe 57 41 1,u .pend,o 15 (.fill 17 15 9 (.t 56)),m 12 57])
(.seq (.seq (.ops [.op (m 58 12),.op (o 59 (.bin .neq 0 true (.t 58) (cu 0)))])
(.cond (.t 59)
(.ops [.op (m 60 12),.op (o 61 (.build [vu 0] [(0,1,(.t 60))])),.op (o 62 (.mkIface 134 (.t 61))),.panic (.t 62)])
.skip))
(.seq (.ops [.op (xl 63 9 15),.op (xs 9 8 63)])
.ret))))))))⟩
def T_repo_Repo_fetch : TF := ⟨36,[(.tmp 6),(.tmp 7)],(.seq (.ops [.op (o 6 (.mv (cs []))),.op (o 7 (.mv (ci 0)))])
(.seq (.ops [.op (m 11 1),.op (o 12 (.callF f_name_File [.t 11])),.op (m 10 12),.op (xe 13 10 0),.op (xe 14 10 1),.op (m 8 13),.op (m 9 14)])
(.seq (.seq (.ops [.op (m 15 9),.op (o 16 (.bin .neq 0 true (.t 15) (ci 0)))])
(.cond (.t 16)
(.ops [.op (o 17 (.build [vu 0] [(0,1,(cu 1))])),.op (o 18 (.mkIface 134 (.t 17))),.panic (.t 18)])
.skip))
(.seq (.ops [.op (m 20 0),.op (o 21 (.nilck (.t 20))),.op (xa 22 0 21),.op (xf 23 22),.op (m 24 8),.op (m 25 2),.op (o 26 (.callF f_store_Store_Get [.t 23,.t 24,.t 25])),.op (m 19 26),.op (xe 27 19 0),.op (xe 28 19 1),.op (xe 29 19 2),.op (m 6 27),.op (m 7 28),.op (m 9 29)])
(.seq (.seq (.ops [.op (m 30 9),.op (o 31 (.bin .neq 0 true (.t 30) (ci 0)))])
(.cond (.t 31)
(.ops [.op (o 32 (.build [vu 0] [(0,1,(cu 3))])),.op (o 33 (.mkIface 134 (.t 32))),.panic (.t 33)])
.skip))
(.seq (.ops [.op (m 34 6),.op (m 35 7),.op (m 6 34),.op (m 7 35)])
.ret))))))⟩
theorem nm {f : FuncId} (h : fnOk CC.P f = true) : NameOK CC f := by
  unfold fnOk at h
  split at h
  · rename_i fn hfn
    exact ⟨fn,hfn,by simpa using h⟩
  · cases h
def TT (f : FuncId) : Option TF := match Nat.beq f f_repo_caught with
  | true => some T_repo_caught
  | false => match Nat.beq f f_repo_Repo_snapshot with
  | true => some T_repo_Repo_snapshot
  | false => match Nat.beq f f_repo_Repo_targets with
  | true => some T_repo_Repo_targets
  | false => match Nat.beq f f_repo_Repo_fetch with
  | true => some T_repo_Repo_fetch
  | false => none
theorem TT_ok : TTOK CC TT := by
  intro f x h
  unfold TT at h
  split at h
  · rename_i hb
    have := Nat.eq_of_beq_eq_true hb
    subst this
    cases h
    exact ⟨by kernel_rfl,nm (by kernel_rfl)⟩
  split at h
  · rename_i hb
    have := Nat.eq_of_beq_eq_true hb
    subst this
    cases h
    exact ⟨by kernel_rfl,nm (by kernel_rfl)⟩
  split at h
  · rename_i hb
    have := Nat.eq_of_beq_eq_true hb
    subst this
    cases h
    exact ⟨by kernel_rfl,nm (by kernel_rfl)⟩
  split at h
  · rename_i hb
    have := Nat.eq_of_beq_eq_true hb
    subst this
    cases h
    exact ⟨by kernel_rfl,nm (by kernel_rfl)⟩
  cases h
theorem pok_repo_Repo_Snapshot : ∀ call,CallOK CC call → POK CC f_repo_Repo_Snapshot (pCatch CC call (callT CC call TT 3) X_repo_Repo_Snapshot Q_repo_Repo_Snapshot_1) := pok_catch mixedA TT_ok 3 (by kernel_rfl) (nm (by kernel_rfl)) (by kernel_rfl) (nm (by kernel_rfl))
theorem pok_repo_Repo_Role : ∀ call,CallOK CC call → POK CC f_repo_Repo_Role (pCatch CC call (callT CC call TT 3) X_repo_Repo_Role Q_repo_Repo_Role_1) := pok_catch mixedA TT_ok 3 (by kernel_rfl) (nm (by kernel_rfl)) (by kernel_rfl) (nm (by kernel_rfl))
end Go.Proofs.YtgpjaembafkpoaaGreatDoor

namespace Go.Proofs.YtgpjaembafkpoaaGreatDoor
open Go.Ev
set_option maxRecDepth 1000000
noncomputable def T0llll (M : MM) : Tr2 := .node (.node (.node (.node .nil 3 (.both (memo (M 3)) K_legatelaw28_RepoNames false true) .nil) 4 (.both (memo (M 4)) K_legatelaw28_awake false true) (.node .nil 5 (.both (memo (M 5)) K_legatelaw28_ex false true) .nil)) 6 (.code K_legatelaw28_made false false) (.node (.node .nil 7 (.rel (fun call => pCatch CC call (callT CC call TT 3) X_repo_Repo_Snapshot Q_repo_Repo_Snapshot_1)) .nil) 8 (.code K_repo_Repo_Targets false true) (.node .nil 9 (.code K_repo_Repo_Expired false true) .nil))) 10 (.code K_legatelaw28_fetched false true) (.node (.node (.node .nil 11 (.code K_legatelaw28_own false true) .nil) 12 (.rel (fun call => pCatch CC call (callT CC call TT 3) X_repo_Repo_Role Q_repo_Repo_Role_1)) (.node .nil 13 (.code K_repo_Repo_Name false true) .nil)) 14 (.code K_repo_Repo_Fetched false true) (.node (.node .nil 15 (.code K_repo_Repo_Copy false true) .nil) 16 (.code K_legateref22_Same false true) .nil))
theorem T0llll_ok {M : MM} (hM : MOK CC M) : TOK CC (T0llll M) := ⟨kok_legatelaw28_fetched,⟨kok_legatelaw28_made,⟨⟨hM 4,kok_legatelaw28_awake⟩,⟨⟨hM 3,kok_legatelaw28_RepoNames⟩,trivial,trivial⟩,⟨⟨hM 5,kok_legatelaw28_ex⟩,trivial,trivial⟩⟩,⟨kok_repo_Repo_Targets,⟨pok_repo_Repo_Snapshot,trivial,trivial⟩,⟨kok_repo_Repo_Expired,trivial,trivial⟩⟩⟩,⟨kok_repo_Repo_Fetched,⟨pok_repo_Repo_Role,⟨kok_legatelaw28_own,trivial,trivial⟩,⟨kok_repo_Repo_Name,trivial,trivial⟩⟩,⟨kok_legateref22_Same,⟨kok_repo_Repo_Copy,trivial,trivial⟩,trivial⟩⟩⟩
noncomputable def T0lllr (M : MM) : Tr2 := .node (.node (.node (.node .nil 18 (.code K_legateref26_Same false true) .nil) 19 (.both (memo (M 19)) K_root_Value false true) (.node .nil 20 (.both (memo (M 20)) K_snap_Value false true) .nil)) 21 (.code K_targ_Value false true) (.node (.node .nil 22 (.code K_legatelaw28_text false true) .nil) 23 (.code K_repo_New true true) (.node .nil 24 (.code K_legatelaw28_verifier false false) .nil))) 28 (.code K_repo_Repo_made false true) (.node (.node (.node .nil 29 (.both (memo (M 29)) K_key_ID false true) .nil) 32 (.code K_store_Store_Repo false true) (.node .nil 33 (.code K_store_Store_Fetched false true) .nil)) 35 (.code K_legateref14_Same false true) (.node (.node .nil 36 (.code K_legateref15_Same false true) .nil) 39 (.code K_root_May false true) .nil))
theorem T0lllr_ok {M : MM} (hM : MOK CC M) : TOK CC (T0lllr M) := ⟨kok_repo_Repo_made,⟨kok_targ_Value,⟨⟨hM 19,kok_root_Value⟩,⟨kok_legateref26_Same,trivial,trivial⟩,⟨⟨hM 20,kok_snap_Value⟩,trivial,trivial⟩⟩,⟨kok_repo_New,⟨kok_legatelaw28_text,trivial,trivial⟩,⟨kok_legatelaw28_verifier,trivial,trivial⟩⟩⟩,⟨kok_legateref14_Same,⟨kok_store_Store_Repo,⟨⟨hM 29,kok_key_ID⟩,trivial,trivial⟩,⟨kok_store_Store_Fetched,trivial,trivial⟩⟩,⟨kok_root_May,⟨kok_legateref15_Same,trivial,trivial⟩,trivial⟩⟩⟩
noncomputable def T0lll (M : MM) : Tr2 := .node (T0llll M) 17 (.code K_repo_Repo_Root false true) (T0lllr M)
theorem T0lll_ok {M : MM} (hM : MOK CC M) : TOK CC (T0lll M) := ⟨kok_repo_Repo_Root,(T0llll_ok hM),(T0lllr_ok hM)⟩
noncomputable def T0llrl (M : MM) : Tr2 := .node (.node (.node (.node .nil 41 (.code K_key_Table false true) .nil) 42 (.code K_root_auths false true) (.node .nil 43 (.code K_auth_Value false true) .nil)) 44 (.both (memo (M 44)) K_pick_ObjectOf false true) (.node (.node .nil 45 (.code K_pick_TextOf false true) .nil) 46 (.code K_pick_NumOf false true) (.node .nil 47 (.code K_snap_May false true) .nil))) 48 (.code K_snap_PinValue false true) (.node (.node (.node .nil 49 (.both (memo (M 49)) K_targ_May false true) .nil) 50 (.code K_targ_object false true) (.node .nil 51 (.both (memo (M 51)) K_sign_Signed false true) .nil)) 52 (.code K_judge_Make false true) (.node (.node .nil 53 (.code K_sign_Show false true) .nil) 54 (.code K_store_New true false) .nil))
theorem T0llrl_ok {M : MM} (hM : MOK CC M) : TOK CC (T0llrl M) := ⟨kok_snap_PinValue,⟨⟨hM 44,kok_pick_ObjectOf⟩,⟨kok_root_auths,⟨kok_key_Table,trivial,trivial⟩,⟨kok_auth_Value,trivial,trivial⟩⟩,⟨kok_pick_NumOf,⟨kok_pick_TextOf,trivial,trivial⟩,⟨kok_snap_May,trivial,trivial⟩⟩⟩,⟨kok_judge_Make,⟨kok_targ_object,⟨⟨hM 49,kok_targ_May⟩,trivial,trivial⟩,⟨⟨hM 51,kok_sign_Signed⟩,trivial,trivial⟩⟩,⟨kok_store_New,⟨kok_sign_Show,trivial,trivial⟩,trivial⟩⟩⟩
noncomputable def T0llrr (M : MM) : Tr2 := .node (.node (.node (.node .nil 56 (.code K_check_Root false true) .nil) 57 (.code K_judge_HMAC false false) (.node .nil 60 (.code K_check_Snapshot false true) .nil)) 61 (.code K_key_Value false true) (.node (.node .nil 62 (.both (memo (M 62)) K_canon_Encode false true) .nil) 63 (.code K_sha_Digest false true) (.node .nil 64 (.code K_check_Cap false true) .nil))) 65 (.code K_check_Role false true) (.node (.node (.node .nil 66 (.code K_store_Store_made false true) .nil) 67 (.code K_store_Store_Told false true) (.node .nil 68 (.both pClone0 K_slices_Clone_api_File_api_File true false) .nil)) 70 (.both pClone0 K_slices_Clone_string_string true false) (.node (.node .nil 71 (.code K_root_keysMay false true) .nil) 72 (.code K_auth_May false true) .nil))
theorem T0llrr_ok {M : MM} (hM : MOK CC M) : TOK CC (T0llrr M) := ⟨kok_check_Role,⟨kok_key_Value,⟨kok_judge_HMAC,⟨kok_check_Root,trivial,trivial⟩,⟨kok_check_Snapshot,trivial,trivial⟩⟩,⟨kok_sha_Digest,⟨⟨hM 62,kok_canon_Encode⟩,trivial,trivial⟩,⟨kok_check_Cap,trivial,trivial⟩⟩⟩,⟨⟨pokClone0 (by kernel_rfl) (by kernel_rfl),kok_slices_Clone_string_string⟩,⟨kok_store_Store_Told,⟨kok_store_Store_made,trivial,trivial⟩,⟨⟨pokClone0 (by kernel_rfl) (by kernel_rfl),kok_slices_Clone_api_File_api_File⟩,trivial,trivial⟩⟩,⟨kok_auth_May,⟨kok_root_keysMay,trivial,trivial⟩,trivial⟩⟩⟩
noncomputable def T0llr (M : MM) : Tr2 := .node (T0llrl M) 55 (.code K_repo_mayCap false true) (T0llrr M)
theorem T0llr_ok {M : MM} (hM : MOK CC M) : TOK CC (T0llr M) := ⟨kok_repo_mayCap,(T0llrl_ok hM),(T0llrr_ok hM)⟩
noncomputable def T0ll (M : MM) : Tr2 := .node (T0lll M) 40 (.code K_when_Show false true) (T0llr M)
theorem T0ll_ok {M : MM} (hM : MOK CC M) : TOK CC (T0ll M) := ⟨kok_when_Show,(T0lll_ok hM),(T0llr_ok hM)⟩
noncomputable def T0lrll (M : MM) : Tr2 := .node (.node (.node (.node .nil 74 (.code K_when_Days false true) .nil) 75 (.code K_when_pad false true) (.node .nil 76 (.code K_key_entryOf false true) .nil)) 77 (.code K_slices_SortFunc_key_entry_key_entry true true) (.node (.node .nil 79 (.code K_auth_Members true true) .nil) 80 (.both pClone0 K_slices_Clone_pick_Member_pick_Member true false) (.node .nil 81 (.code K_slices_SortFunc_pick_Member_pick_Member true true) .nil))) 82 (.code K_pick_ObjectOf_1 false true) (.node (.node (.node .nil 83 (.code K_strings_Compare false true) .nil) 84 (.both (memo (M 84)) K_value_Copy false true) (.node .nil 85 (.code K_snap_MayPin false true) .nil)) 87 (.code K_targ_listMay false true) (.node (.node .nil 88 (.both (memo (M 88)) K_deleg_May false true) .nil) 89 (.both (memo (M 89)) K_value_May false true) .nil))
theorem T0lrll_ok {M : MM} (hM : MOK CC M) : TOK CC (T0lrll M) := ⟨kok_pick_ObjectOf_1,⟨kok_slices_SortFunc_key_entry_key_entry,⟨kok_when_pad,⟨kok_when_Days,trivial,trivial⟩,⟨kok_key_entryOf,trivial,trivial⟩⟩,⟨⟨pokClone0 (by kernel_rfl) (by kernel_rfl),kok_slices_Clone_pick_Member_pick_Member⟩,⟨kok_auth_Members,trivial,trivial⟩,⟨kok_slices_SortFunc_pick_Member_pick_Member,trivial,trivial⟩⟩⟩,⟨kok_targ_listMay,⟨⟨hM 84,kok_value_Copy⟩,⟨kok_strings_Compare,trivial,trivial⟩,⟨kok_snap_MayPin,trivial,trivial⟩⟩,⟨⟨hM 89,kok_value_May⟩,⟨⟨hM 88,kok_deleg_May⟩,trivial,trivial⟩,trivial⟩⟩⟩
noncomputable def T0lrlr (M : MM) : Tr2 := .node (.node (.node (.node .nil 93 (.code K_sign_May false true) .nil) 94 (.both (memo (M 94)) K_hex_Decode false true) (.node .nil 95 (.prim (pStr fun s => .str (hexEnc s))) .nil)) 96 (.prim (orP (memo (M 96)) (pStr2 fun s t => .str (hmac s t)))) (.node (.node .nil 97 (.code K_sign_object false true) .nil) 98 (.code K_name_Role false true) (.node .nil 99 (.code K_sign_Read false true) .nil))) 100 (.both (memo (M 100)) K_root_Of false true) (.node (.node (.node .nil 101 (.code K_judge_Enough false true) .nil) 103 (.code K_name_File false true) (.node .nil 104 (.code K_store_Store_Get false true) .nil)) 105 (.code K_check_Snapshot_1 false true) (.node (.node .nil 106 (.both (memo (M 106)) K_snap_Of false true) .nil) 107 (.code K_check_first false true) .nil))
theorem T0lrlr_ok {M : MM} (hM : MOK CC M) : TOK CC (T0lrlr M) := ⟨⟨hM 100,kok_root_Of⟩,⟨orP_ok (hM 96) (pokMac),⟨⟨hM 94,kok_hex_Decode⟩,⟨kok_sign_May,trivial,trivial⟩,⟨pokHexEncode,trivial,trivial⟩⟩,⟨kok_name_Role,⟨kok_sign_object,trivial,trivial⟩,⟨kok_sign_Read,trivial,trivial⟩⟩⟩,⟨kok_check_Snapshot_1,⟨kok_name_File,⟨kok_judge_Enough,trivial,trivial⟩,⟨kok_store_Store_Get,trivial,trivial⟩⟩,⟨kok_check_first,⟨⟨hM 106,kok_snap_Of⟩,trivial,trivial⟩,trivial⟩⟩⟩
noncomputable def T0lrl (M : MM) : Tr2 := .node (T0lrll M) 91 (.code K_targ_empty false true) (T0lrlr M)
theorem T0lrl_ok {M : MM} (hM : MOK CC M) : TOK CC (T0lrl M) := ⟨kok_targ_empty,(T0lrll_ok hM),(T0lrlr_ok hM)⟩
noncomputable def T0lrrl : Tr2 := .node (.node (.node (.node .nil 109 (.code K_check_file_big false true) .nil) 110 (.code K_check_file_noText false true) (.node .nil 111 (.code K_check_file_noEnvelope false true) .nil)) 112 (.code K_check_file_unsigned false true) (.node (.node .nil 113 (.code K_check_file_expired false true) .nil) 114 (.code K_key_May false true) (.node .nil 115 (.code K_canon_Encode_1 false true) .nil))) 116 (.prim (pStr (fun s => .tup [.str (quoteR s).1,.int .i64 (quoteR s).2]))) (.node (.node (.node .nil 117 (.code K_strings_Builder_WriteString false true) .nil) 118 (.code K_canon_Encode_2 false true) (.node .nil 119 (.code K_num_Show false true) .nil)) 120 (.code K_strings_Builder_WriteByte false true) (.node (.node .nil 121 (.prim pString) .nil) 122 (.prim (pStr fun s => .str (shaSum s))) .nil))
theorem T0lrrl_ok : TOK CC T0lrrl := ⟨pokQuote rfl,⟨kok_check_file_unsigned,⟨kok_check_file_noText,⟨kok_check_file_big,trivial,trivial⟩,⟨kok_check_file_noEnvelope,trivial,trivial⟩⟩,⟨kok_key_May,⟨kok_check_file_expired,trivial,trivial⟩,⟨kok_canon_Encode_1,trivial,trivial⟩⟩⟩,⟨kok_strings_Builder_WriteByte,⟨kok_canon_Encode_2,⟨kok_strings_Builder_WriteString,trivial,trivial⟩,⟨kok_num_Show,trivial,trivial⟩⟩,⟨pokSha,⟨pokString rfl,trivial,trivial⟩,trivial⟩⟩⟩
noncomputable def T0lrrr (M : MM) : Tr2 := .node (.node (.node (.node .nil 124 (.code K_check_Role_1 false true) .nil) 125 (.both (memo (M 125)) K_targ_Of false true) (.node .nil 126 (.code K_check_file_small false true) .nil)) 127 (.code K_check_file_otherDigest false true) (.node (.node .nil 128 (.code K_check_file_otherVersion false true) .nil) 130 (.code K_auth_wrong false true) (.node .nil 131 (.code K_when_leaps false true) .nil))) 133 (.code K_strconv_Itoa false true) (.node (.node (.node .nil 134 (.prim (orP pRepeat pRep0)) .nil) 135 (.code K_slices_pdqsortCmpFunc_key_entry true true) (.node .nil 136 (.code K_math_bits_Len false true) .nil)) 137 (.code K_pick_TextsOf false true) (.node (.node .nil 138 (.code K_slices_pdqsortCmpFunc_pick_Member true true) .nil) 139 (.code K_internal_bytealg_CompareString false true) .nil))
theorem T0lrrr_ok {M : MM} (hM : MOK CC M) : TOK CC (T0lrrr M) := ⟨kok_strconv_Itoa,⟨kok_check_file_otherDigest,⟨⟨hM 125,kok_targ_Of⟩,⟨kok_check_Role_1,trivial,trivial⟩,⟨kok_check_file_small,trivial,trivial⟩⟩,⟨kok_auth_wrong,⟨kok_check_file_otherVersion,trivial,trivial⟩,⟨kok_when_leaps,trivial,trivial⟩⟩⟩,⟨kok_pick_TextsOf,⟨kok_slices_pdqsortCmpFunc_key_entry,⟨orP_ok (pokRepeat rfl) pokRep0,trivial,trivial⟩,⟨kok_math_bits_Len,trivial,trivial⟩⟩,⟨kok_internal_bytealg_CompareString,⟨kok_slices_pdqsortCmpFunc_pick_Member,trivial,trivial⟩,trivial⟩⟩⟩
noncomputable def T0lrr (M : MM) : Tr2 := .node T0lrrl 123 (.code K_snap_Pin false true) (T0lrrr M)
theorem T0lrr_ok {M : MM} (hM : MOK CC M) : TOK CC (T0lrr M) := ⟨kok_snap_Pin,T0lrrl_ok,(T0lrrr_ok hM)⟩
noncomputable def T0lr (M : MM) : Tr2 := .node (T0lrl M) 108 (.code K_check_file_missing false true) (T0lrr M)
theorem T0lr_ok {M : MM} (hM : MOK CC M) : TOK CC (T0lr M) := ⟨kok_check_file_missing,(T0lrl_ok hM),(T0lrr_ok hM)⟩
noncomputable def T0l (M : MM) : Tr2 := .node (T0ll M) 73 (.code K_when_start false true) (T0lr M)
theorem T0l_ok {M : MM} (hM : MOK CC M) : TOK CC (T0l M) := ⟨kok_when_start,(T0ll_ok hM),(T0lr_ok hM)⟩
noncomputable def T0rlll (M : MM) : Tr2 := .node (.node (.node (.node .nil 141 (.code K_value_duplicate false true) .nil) 142 (.code K_name_RoleOf false true) (.node .nil 147 (.code K_deleg_keysMay false true) .nil)) 148 (.code K_deleg_noBins false true) (.node (.node .nil 149 (.code K_deleg_rolesMay false true) .nil) 151 (.code K_deleg_object false true) (.node .nil 152 (.code K_value_may false true) .nil))) 154 (.code K_sign_maySig false true) (.node (.node (.node .nil 155 (.prim (pStr fun s => .bool (s.all isHex))) .nil) 156 (.code K_hex_Digit false true) (.node .nil 161 (.code K_name_allowed false true) .nil)) 162 (.both (memo (M 162)) K_read_Read false true) (.node (.node .nil 163 (.both (memo (M 163)) K_sign_Of false true) .nil) 164 (.code K_pick_Of false false) .nil))
theorem T0rlll_ok {M : MM} (hM : MOK CC M) : TOK CC (T0rlll M) := ⟨kok_sign_maySig,⟨kok_deleg_noBins,⟨kok_name_RoleOf,⟨kok_value_duplicate,trivial,trivial⟩,⟨kok_deleg_keysMay,trivial,trivial⟩⟩,⟨kok_deleg_object,⟨kok_deleg_rolesMay,trivial,trivial⟩,⟨kok_value_may,trivial,trivial⟩⟩⟩,⟨⟨hM 162,kok_read_Read⟩,⟨kok_hex_Digit,⟨pokHexIs,trivial,trivial⟩,⟨kok_name_allowed,trivial,trivial⟩⟩,⟨kok_pick_Of,⟨⟨hM 163,kok_sign_Of⟩,trivial,trivial⟩,trivial⟩⟩⟩
noncomputable def T0rllr (M : MM) : Tr2 := .node (.node (.node (.node .nil 166 (.code K_pick_Obj_Fail false true) .nil) 167 (.code K_pick_Obj_Num false true) (.node .nil 168 (.code K_when_Read false true) .nil)) 169 (.both (memo (M 169)) K_key_Keys false true) (.node (.node .nil 170 (.code K_pick_Obj_Object false true) .nil) 171 (.both (memo (M 171)) K_root_authsOf false true) (.node .nil 172 (.code K_pick_Obj_Done false true) .nil))) 173 (.code K_judge_Count false true) (.node (.node (.node .nil 174 (.code K_store_Store_fetch false true) .nil) 175 (.code K_snap_parts false true) (.node .nil 176 (.code K_when_Over false true) .nil)) 177 (.prim (pStr (fun s => .bool (lenU s).isSome))) (.node (.node .nil 178 (.prim pCopy) .nil) 179 (.code K_strconv_FormatInt false true) .nil))
theorem T0rllr_ok {M : MM} (hM : MOK CC M) : TOK CC (T0rllr M) := ⟨kok_judge_Count,⟨⟨hM 169,kok_key_Keys⟩,⟨kok_pick_Obj_Num,⟨kok_pick_Obj_Fail,trivial,trivial⟩,⟨kok_when_Read,trivial,trivial⟩⟩,⟨⟨hM 171,kok_root_authsOf⟩,⟨kok_pick_Obj_Object,trivial,trivial⟩,⟨kok_pick_Obj_Done,trivial,trivial⟩⟩⟩,⟨pokValid rfl,⟨kok_snap_parts,⟨kok_store_Store_fetch,trivial,trivial⟩,⟨kok_when_Over,trivial,trivial⟩⟩,⟨kok_strconv_FormatInt,⟨pokCopy rfl,trivial,trivial⟩,trivial⟩⟩⟩
noncomputable def T0rll (M : MM) : Tr2 := .node (T0rlll M) 165 (.code K_pick_Obj_Text false true) (T0rllr M)
theorem T0rll_ok {M : MM} (hM : MOK CC M) : TOK CC (T0rll M) := ⟨kok_pick_Obj_Text,(T0rlll_ok hM),(T0rllr_ok hM)⟩
noncomputable def T0rlrl : Tr2 := .node (.node (.node (.node .nil 184 (.code K_targ_listOf false true) .nil) 185 (.code K_pick_Obj_Has false true) (.node .nil 188 (.code K_internal_strconv_Itoa true true) .nil)) 193 (.code K_slices_insertionSortCmpFunc_key_entry true true) (.node (.node .nil 202 (.code K_math_bits_Len64 false true) .nil) 203 (.code K_slices_insertionSortCmpFunc_pick_Member true true) (.node .nil 211 (.prim pCmp) .nil))) 212 (.code K_strings_CutSuffix false true) (.node (.node (.node .nil 220 (.code K_pick_ListOf false true) .nil) 222 (.code K_value_proper false true) (.node .nil 223 (.code K_read_tokens_next false true) .nil)) 224 (.code K_read_values_value false true) (.node (.node .nil 225 (.code K_pick_Obj_List false true) .nil) 226 (.code K_sign_sigOf false true) .nil))
theorem T0rlrl_ok : TOK CC T0rlrl := ⟨kok_strings_CutSuffix,⟨kok_slices_insertionSortCmpFunc_key_entry,⟨kok_pick_Obj_Has,⟨kok_targ_listOf,trivial,trivial⟩,⟨kok_internal_strconv_Itoa,trivial,trivial⟩⟩,⟨kok_slices_insertionSortCmpFunc_pick_Member,⟨kok_math_bits_Len64,trivial,trivial⟩,⟨pokCmp,trivial,trivial⟩⟩⟩,⟨kok_read_values_value,⟨kok_value_proper,⟨kok_pick_ListOf,trivial,trivial⟩,⟨kok_read_tokens_next,trivial,trivial⟩⟩,⟨kok_sign_sigOf,⟨kok_pick_Obj_List,trivial,trivial⟩,trivial⟩⟩⟩
noncomputable def T0rlrr (M : MM) : Tr2 := .node (.node (.node (.node .nil 228 (.code K_pick_Obj_Text_1 false true) .nil) 229 (.code K_pick_Obj_Err false true) (.node .nil 230 (.code K_pick_take_int64 false true) .nil)) 231 (.code K_pick_Obj_Num_1 false true) (.node (.node .nil 232 (.code K_when_digits false true) .nil) 233 (.code K_when_upTo false true) (.node .nil 234 (.code K_key_Of false true) .nil))) 235 (.code K_pick_take_api_Value false true) (.node (.node (.node .nil 236 (.code K_pick_Obj_Object_1 false true) .nil) 237 (.both (memo (M 237)) K_auth_Of false true) (.node .nil 238 (.code K_key_Find false true) .nil)) 239 (.code K_judge_Verifier_has false true) (.node (.node .nil 240 (.code K_snap_parseType false true) .nil) 241 (.code K_snap_parseVersion false true) .nil))
theorem T0rlrr_ok {M : MM} (hM : MOK CC M) : TOK CC (T0rlrr M) := ⟨kok_pick_take_api_Value,⟨kok_pick_Obj_Num_1,⟨kok_pick_Obj_Err,⟨kok_pick_Obj_Text_1,trivial,trivial⟩,⟨kok_pick_take_int64,trivial,trivial⟩⟩,⟨kok_when_upTo,⟨kok_when_digits,trivial,trivial⟩,⟨kok_key_Of,trivial,trivial⟩⟩⟩,⟨kok_judge_Verifier_has,⟨⟨hM 237,kok_auth_Of⟩,⟨kok_pick_Obj_Object_1,trivial,trivial⟩,⟨kok_key_Find,trivial,trivial⟩⟩,⟨kok_snap_parseVersion,⟨kok_snap_parseType,trivial,trivial⟩,trivial⟩⟩⟩
noncomputable def T0rlr (M : MM) : Tr2 := .node T0rlrl 227 (.code K_pick_take_string false true) (T0rlrr M)
theorem T0rlr_ok {M : MM} (hM : MOK CC M) : TOK CC (T0rlr M) := ⟨kok_pick_take_string,T0rlrl_ok,(T0rlrr_ok hM)⟩
noncomputable def T0rl (M : MM) : Tr2 := .node (T0rll M) 183 (.both pClone0 K_slices_Clone_api_Hash_api_Hash true false) (T0rlr M)
theorem T0rl_ok {M : MM} (hM : MOK CC M) : TOK CC (T0rl M) := ⟨⟨pokClone0 (by kernel_rfl) (by kernel_rfl),kok_slices_Clone_api_Hash_api_Hash⟩,(T0rll_ok hM),(T0rlr_ok hM)⟩
noncomputable def T0rrll : Tr2 := .node (.node (.node (.node .nil 243 (.code K_snap_parseMeta false true) .nil) 246 (.code K_internal_strconv_FormatInt true true) (.node .nil 249 (.code K_value_Get false true) .nil)) 264 (.code K_internal_stringslite_CutSuffix false true) (.node (.node .nil 271 (.code K_value_written false true) .nil) 272 (.code K_value_ascending false true) (.node .nil 273 (.code K_read_space false true) .nil))) 274 (.code K_lex_Next false true) (.node (.node (.node .nil 275 (.code K_read_values_wrong false true) .nil) 276 (.code K_read_values_list false true) (.node .nil 277 (.code K_read_values_object false true) .nil)) 278 (.code K_pick_take_api_Value_278 false true) (.node (.node .nil 279 (.code K_pick_Obj_List_1 false true) .nil) 280 (.code K_pick_items false true) .nil))
theorem T0rrll_ok : TOK CC T0rrll := ⟨kok_lex_Next,⟨kok_internal_stringslite_CutSuffix,⟨kok_internal_strconv_FormatInt,⟨kok_snap_parseMeta,trivial,trivial⟩,⟨kok_value_Get,trivial,trivial⟩⟩,⟨kok_value_ascending,⟨kok_value_written,trivial,trivial⟩,⟨kok_read_space,trivial,trivial⟩⟩⟩,⟨kok_pick_take_api_Value_278,⟨kok_read_values_list,⟨kok_read_values_wrong,trivial,trivial⟩,⟨kok_read_values_object,trivial,trivial⟩⟩,⟨kok_pick_items,⟨kok_pick_Obj_List_1,trivial,trivial⟩,trivial⟩⟩⟩
noncomputable def T0rrlr (M : MM) : Tr2 := .node (.node (.node (.node .nil 282 (.code K_judge_Verifier_Good false true) .nil) 283 (.code K_snap_PinOf false true) (.node .nil 284 (.code K_internal_strconv_small true true) .nil)) 285 (.code K_internal_strconv_numDigits true true) (.node (.node .nil 286 (.code K_internal_strconv_formatBase10 true true) .nil) 291 (.code K_value_find false true) (.node .nil 296 (.code K_internal_stringslite_HasSuffix false true) .nil))) 297 (.both (memo (M 297)) K_lex_rules false true) (.node (.node (.node .nil 298 (.code K_lex_token false true) .nil) 299 (.code K_lex_skip false true) (.node .nil 300 (.code K_read_values_more false true) .nil)) 301 (.code K_read_values_member false true) (.node (.node .nil 302 (.code K_read_sorted true true) .nil) 303 (.code K_pick_Obj_Texts false true) .nil))
theorem T0rrlr_ok {M : MM} (hM : MOK CC M) : TOK CC (T0rrlr M) := ⟨⟨hM 297,kok_lex_rules⟩,⟨kok_internal_strconv_numDigits,⟨kok_snap_PinOf,⟨kok_judge_Verifier_Good,trivial,trivial⟩,⟨kok_internal_strconv_small,trivial,trivial⟩⟩,⟨kok_value_find,⟨kok_internal_strconv_formatBase10,trivial,trivial⟩,⟨kok_internal_stringslite_HasSuffix,trivial,trivial⟩⟩⟩,⟨kok_read_values_member,⟨kok_lex_skip,⟨kok_lex_token,trivial,trivial⟩,⟨kok_read_values_more,trivial,trivial⟩⟩,⟨kok_pick_Obj_Texts,⟨kok_read_sorted,trivial,trivial⟩,trivial⟩⟩⟩
noncomputable def T0rrl (M : MM) : Tr2 := .node T0rrll 281 (.code K_auth_Part false true) (T0rrlr M)
theorem T0rrl_ok {M : MM} (hM : MOK CC M) : TOK CC (T0rrl M) := ⟨kok_auth_Part,T0rrll_ok,(T0rrlr_ok hM)⟩
noncomputable def T0rrrl : Tr2 := .node (.node (.node (.node .nil 305 (.code K_internal_strconv_log10Pow2 true true) .nil) 306 (.code K_internal_strconv_bool2_int true true) (.node .nil 311 (.code K_sort_Search false true) .nil)) 312 (.code K_value_find_1 false true) (.node (.node .nil 314 (.code K_lex_open false true) .nil) 315 (.code K_lex_shut false true) (.node .nil 316 (.code K_lex_first false true) .nil))) 317 (.code K_lex_last false true) (.node (.node (.node .nil 318 (.code K_lex_comma false true) .nil) 319 (.code K_lex_colon false true) (.node .nil 320 (.code K_lex_number false true) .nil)) 321 (.code K_lex_text false true) (.node (.node .nil 323 (.code K_read_values_expect false true) .nil) 324 (.code K_slices_SortFunc_read_member_read_member true true) .nil))
theorem T0rrrl_ok : TOK CC T0rrrl := ⟨kok_lex_last,⟨kok_value_find_1,⟨kok_internal_strconv_bool2_int,⟨kok_internal_strconv_log10Pow2,trivial,trivial⟩,⟨kok_sort_Search,trivial,trivial⟩⟩,⟨kok_lex_shut,⟨kok_lex_open,trivial,trivial⟩,⟨kok_lex_first,trivial,trivial⟩⟩⟩,⟨kok_lex_text,⟨kok_lex_colon,⟨kok_lex_comma,trivial,trivial⟩,⟨kok_lex_number,trivial,trivial⟩⟩,⟨kok_slices_SortFunc_read_member_read_member,⟨kok_read_values_expect,trivial,trivial⟩,trivial⟩⟩⟩
noncomputable def T0rrrr : Tr2 := .node (.node (.node (.node .nil 326 (.code K_pick_take_string_326 false true) .nil) 327 (.code K_pick_Obj_Texts_1 false true) (.node .nil 332 (.code K_lex_sign false true) .nil)) 333 (.code K_num_Read false true) (.node (.node .nil 334 (.prim (pStrInt (fun s i => .tup [.str (readR s i).1,.int .i64 (readR s i).2.1,.int .i64 (readR s i).2.2]))) .nil) 335 (.code K_slices_pdqsortCmpFunc_read_member true true) .nil)) 336 (.code K_num_formed false true) (.node (.node (.node .nil 337 (.code K_strconv_ParseInt false true) .nil) 340 (.code K_slices_insertionSortCmpFunc_read_member true true) (.node .nil 348 (.code K_internal_strconv_ParseInt true true) .nil)) 355 (.code K_internal_strconv_ParseUint true true) (.node (.node .nil 387 (.code K_judge_byMAC_good false true) .nil) 388 (.code K_mac_Same false true) .nil))
theorem T0rrrr_ok : TOK CC T0rrrr := ⟨kok_num_formed,⟨kok_num_Read,⟨kok_pick_Obj_Texts_1,⟨kok_pick_take_string_326,trivial,trivial⟩,⟨kok_lex_sign,trivial,trivial⟩⟩,⟨kok_slices_pdqsortCmpFunc_read_member,⟨pokRead rfl,trivial,trivial⟩,trivial⟩⟩,⟨kok_internal_strconv_ParseUint,⟨kok_slices_insertionSortCmpFunc_read_member,⟨kok_strconv_ParseInt,trivial,trivial⟩,⟨kok_internal_strconv_ParseInt,trivial,trivial⟩⟩,⟨kok_mac_Same,⟨kok_judge_byMAC_good,trivial,trivial⟩,trivial⟩⟩⟩
noncomputable def T0rrr : Tr2 := .node T0rrrl 325 (.code K_read_sorted_1 false true) T0rrrr
theorem T0rrr_ok : TOK CC T0rrr := ⟨kok_read_sorted_1,T0rrrl_ok,T0rrrr_ok⟩
noncomputable def T0rr (M : MM) : Tr2 := .node (T0rrl M) 304 (.code K_judge_sigMay false true) T0rrr
theorem T0rr_ok {M : MM} (hM : MOK CC M) : TOK CC (T0rr M) := ⟨kok_judge_sigMay,(T0rrl_ok hM),T0rrr_ok⟩
noncomputable def T0r (M : MM) : Tr2 := .node (T0rl M) 242 (.code K_snap_parseExpires false true) (T0rr M)
theorem T0r_ok {M : MM} (hM : MOK CC M) : TOK CC (T0r M) := ⟨kok_snap_parseExpires,(T0rl_ok hM),(T0rr_ok hM)⟩
noncomputable def T0 (M : MM) : Tr2 := .node (T0l M) 140 (.both (memo (M 140)) K_value_endless false true) (T0r M)
theorem T0_ok {M : MM} (hM : MOK CC M) : TOK CC (T0 M) := ⟨⟨hM 140,kok_value_endless⟩,(T0l_ok hM),(T0r_ok hM)⟩
theorem T0_tr {M : MM} (hM : MOK CC M) : TrOK2 CC (T0 M) := ⟨fun f e h => tok_find (T0_ok hM) f e h,glT_closed⟩
end Go.Proofs.YtgpjaembafkpoaaGreatDoor

namespace Go.Proofs.YtgpjaembafkpoaaGreatDoor
open Go.Ev
set_option maxRecDepth 1000000
noncomputable def s0 : List UInt8 := [104,109,97,99,45,115,104,97,50,53,54]
noncomputable def s1 : List UInt8 := [101,55,102,54,51,55,49,51,49,99,54,49,98,101,101,99,101,100,57,97,51,48,99,98,99,97,101,54,55,99,48,99,99,101,98,51,98,52,57,98,49,99,100,100,102,98,51,97,54,102,97,101,56,50,49,51,54,98,97,54,97,53,97,100]
noncomputable def s2 : List UInt8 := [49,57,55,48,45,48,49,45,48,49,84,48,48,58,48,49,58,52,48,90]
noncomputable def s3 : List UInt8 := [116,104,114,101,115,104,111,108,100]
noncomputable def s4 : List UInt8 := [116,97,114,103,101,116,115,46,106,115,111,110]
noncomputable def s5 : List UInt8 := [115,105,103,110,97,116,117,114,101,115]
noncomputable def s6 : List UInt8 := [123,34,95,116,121,112,101,34,58,34,114,111,111,116,34,44,34,101,120,112,105,114,101,115,34,58,34,49,57,55,48,45,48,49,45,48,49,84,48,48,58,48,49,58,52,48,90,34,44,34,107,101,121,115,34,58,123,34,101,55,102,54,51,55,49,51,49,99,54,49,98,101,101,99,101,100,57,97,51,48,99,98,99,97,101,54,55,99,48,99,99,101,98,51,98,52,57,98,49,99,100,100,102,98,51,97,54,102,97,101,56,50,49,51,54,98,97,54,97,53,97,100,34,58,123,34,112,117,98,108,105,99,34,58,34,48,48,34,44,34,115,99,104,101,109,101,34,58,34,104,109,97,99,45,115,104,97,50,53,54,34,125,125,44,34,114,111,108,101,115,34,58,123,34,114,111,111,116,34,58,123,34,107,101,121,105,100,115,34,58,91,34,101,55,102,54,51,55,49,51,49,99,54,49,98,101,101,99,101,100,57,97,51,48,99,98,99,97,101,54,55,99,48,99,99,101,98,51,98,52,57,98,49,99,100,100,102,98,51,97,54,102,97,101,56,50,49,51,54,98,97,54,97,53,97,100,34,93,44,34,116,104,114,101,115,104,111,108,100,34,58,49,125,44,34,115,110,97,112,115,104,111,116,34,58,123,34,107,101,121,105,100,115,34,58,91,34,101,55,102,54,51,55,49,51,49,99,54,49,98,101,101,99,101,100,57,97,51,48,99,98,99,97,101,54,55,99,48,99,99,101,98,51,98,52,57,98,49,99,100,100,102,98,51,97,54,102,97,101,56,50,49,51,54,98,97,54,97,53,97,100,34,93,44,34,116,104,114,101,115,104,111,108,100,34,58,49,125,44,34,116,97,114,103,101,116,115,34,58,123,34,107,101,121,105,100,115,34,58,91,34,101,55,102,54,51,55,49,51,49,99,54,49,98,101,101,99,101,100,57,97,51,48,99,98,99,97,101,54,55,99,48,99,99,101,98,51,98,52,57,98,49,99,100,100,102,98,51,97,54,102,97,101,56,50,49,51,54,98,97,54,97,53,97,100,34,93,44,34,116,104,114,101,115,104,111,108,100,34,58,49,125,125,44,34,118,101,114,115,105,111,110,34,58,49,125]
noncomputable def s7 : List UInt8 := [23,249,156,121,92,165,61,153,214,31,201,182,3,24,198,97,243,2,122,114,209,148,72,113,182,144,155,161,152,249,9,88]
noncomputable def s8 : List UInt8 := [49,55,102,57,57,99,55,57,53,99,97,53,51,100,57,57,100,54,49,102,99,57,98,54,48,51,49,56,99,54,54,49,102,51,48,50,55,97,55,50,100,49,57,52,52,56,55,49,98,54,57,48,57,98,97,49,57,56,102,57,48,57,53,56]
noncomputable def s9 : List UInt8 := [123,34,115,105,103,110,97,116,117,114,101,115,34,58,91,123,34,107,101,121,105,100,34,58,34,101,55,102,54,51,55,49,51,49,99,54,49,98,101,101,99,101,100,57,97,51,48,99,98,99,97,101,54,55,99,48,99,99,101,98,51,98,52,57,98,49,99,100,100,102,98,51,97,54,102,97,101,56,50,49,51,54,98,97,54,97,53,97,100,34,44,34,115,105,103,34,58,34,49,55,102,57,57,99,55,57,53,99,97,53,51,100,57,57,100,54,49,102,99,57,98,54,48,51,49,56,99,54,54,49,102,51,48,50,55,97,55,50,100,49,57,52,52,56,55,49,98,54,57,48,57,98,97,49,57,56,102,57,48,57,53,56,34,125,93,44,34,115,105,103,110,101,100,34,58,123,34,95,116,121,112,101,34,58,34,114,111,111,116,34,44,34,101,120,112,105,114,101,115,34,58,34,49,57,55,48,45,48,49,45,48,49,84,48,48,58,48,49,58,52,48,90,34,44,34,107,101,121,115,34,58,123,34,101,55,102,54,51,55,49,51,49,99,54,49,98,101,101,99,101,100,57,97,51,48,99,98,99,97,101,54,55,99,48,99,99,101,98,51,98,52,57,98,49,99,100,100,102,98,51,97,54,102,97,101,56,50,49,51,54,98,97,54,97,53,97,100,34,58,123,34,112,117,98,108,105,99,34,58,34,48,48,34,44,34,115,99,104,101,109,101,34,58,34,104,109,97,99,45,115,104,97,50,53,54,34,125,125,44,34,114,111,108,101,115,34,58,123,34,114,111,111,116,34,58,123,34,107,101,121,105,100,115,34,58,91,34,101,55,102,54,51,55,49,51,49,99,54,49,98,101,101,99,101,100,57,97,51,48,99,98,99,97,101,54,55,99,48,99,99,101,98,51,98,52,57,98,49,99,100,100,102,98,51,97,54,102,97,101,56,50,49,51,54,98,97,54,97,53,97,100,34,93,44,34,116,104,114,101,115,104,111,108,100,34,58,49,125,44,34,115,110,97,112,115,104,111,116,34,58,123,34,107,101,121,105,100,115,34,58,91,34,101,55,102,54,51,55,49,51,49,99,54,49,98,101,101,99,101,100,57,97,51,48,99,98,99,97,101,54,55,99,48,99,99,101,98,51,98,52,57,98,49,99,100,100,102,98,51,97,54,102,97,101,56,50,49,51,54,98,97,54,97,53,97,100,34,93,44,34,116,104,114,101,115,104,111,108,100,34,58,49,125,44,34,116,97,114,103,101,116,115,34,58,123,34,107,101,121,105,100,115,34,58,91,34,101,55,102,54,51,55,49,51,49,99,54,49,98,101,101,99,101,100,57,97,51,48,99,98,99,97,101,54,55,99,48,99,99,101,98,51,98,52,57,98,49,99,100,100,102,98,51,97,54,102,97,101,56,50,49,51,54,98,97,54,97,53,97,100,34,93,44,34,116,104,114,101,115,104,111,108,100,34,58,49,125,125,44,34,118,101,114,115,105,111,110,34,58,49,125,125]
noncomputable def s10 : List UInt8 := [123,34,95,116,121,112,101,34,58,34,115,110,97,112,115,104,111,116,34,44,34,101,120,112,105,114,101,115,34,58,34,49,57,55,48,45,48,49,45,48,49,84,48,48,58,48,49,58,52,48,90,34,44,34,109,101,116,97,34,58,123,34,116,97,114,103,101,116,115,46,106,115,111,110,34,58,123,34,118,101,114,115,105,111,110,34,58,49,125,125,44,34,118,101,114,115,105,111,110,34,58,49,125]
noncomputable def s11 : List UInt8 := [170,227,219,67,131,136,188,174,104,148,141,23,202,225,255,236,111,43,110,34,232,190,181,35,164,188,240,35,199,0,64,90]
noncomputable def s12 : List UInt8 := [97,97,101,51,100,98,52,51,56,51,56,56,98,99,97,101,54,56,57,52,56,100,49,55,99,97,101,49,102,102,101,99,54,102,50,98,54,101,50,50,101,56,98,101,98,53,50,51,97,52,98,99,102,48,50,51,99,55,48,48,52,48,53,97]
noncomputable def s13 : List UInt8 := [123,34,115,105,103,110,97,116,117,114,101,115,34,58,91,123,34,107,101,121,105,100,34,58,34,101,55,102,54,51,55,49,51,49,99,54,49,98,101,101,99,101,100,57,97,51,48,99,98,99,97,101,54,55,99,48,99,99,101,98,51,98,52,57,98,49,99,100,100,102,98,51,97,54,102,97,101,56,50,49,51,54,98,97,54,97,53,97,100,34,44,34,115,105,103,34,58,34,97,97,101,51,100,98,52,51,56,51,56,56,98,99,97,101,54,56,57,52,56,100,49,55,99,97,101,49,102,102,101,99,54,102,50,98,54,101,50,50,101,56,98,101,98,53,50,51,97,52,98,99,102,48,50,51,99,55,48,48,52,48,53,97,34,125,93,44,34,115,105,103,110,101,100,34,58,123,34,95,116,121,112,101,34,58,34,115,110,97,112,115,104,111,116,34,44,34,101,120,112,105,114,101,115,34,58,34,49,57,55,48,45,48,49,45,48,49,84,48,48,58,48,49,58,52,48,90,34,44,34,109,101,116,97,34,58,123,34,116,97,114,103,101,116,115,46,106,115,111,110,34,58,123,34,118,101,114,115,105,111,110,34,58,49,125,125,44,34,118,101,114,115,105,111,110,34,58,49,125,125]
noncomputable def s14 : List UInt8 := [123,34,95,116,121,112,101,34,58,34,116,97,114,103,101,116,115,34,44,34,101,120,112,105,114,101,115,34,58,34,49,57,55,48,45,48,49,45,48,49,84,48,48,58,48,49,58,52,48,90,34,44,34,116,97,114,103,101,116,115,34,58,123,125,44,34,118,101,114,115,105,111,110,34,58,49,125]
noncomputable def s15 : List UInt8 := [40,143,171,175,30,82,15,254,106,4,141,247,117,4,64,119,156,18,9,226,213,49,247,42,26,42,247,14,166,107,62,31]
noncomputable def s16 : List UInt8 := [50,56,56,102,97,98,97,102,49,101,53,50,48,102,102,101,54,97,48,52,56,100,102,55,55,53,48,52,52,48,55,55,57,99,49,50,48,57,101,50,100,53,51,49,102,55,50,97,49,97,50,97,102,55,48,101,97,54,54,98,51,101,49,102]
noncomputable def s17 : List UInt8 := [123,34,115,105,103,110,97,116,117,114,101,115,34,58,91,123,34,107,101,121,105,100,34,58,34,101,55,102,54,51,55,49,51,49,99,54,49,98,101,101,99,101,100,57,97,51,48,99,98,99,97,101,54,55,99,48,99,99,101,98,51,98,52,57,98,49,99,100,100,102,98,51,97,54,102,97,101,56,50,49,51,54,98,97,54,97,53,97,100,34,44,34,115,105,103,34,58,34,50,56,56,102,97,98,97,102,49,101,53,50,48,102,102,101,54,97,48,52,56,100,102,55,55,53,48,52,52,48,55,55,57,99,49,50,48,57,101,50,100,53,51,49,102,55,50,97,49,97,50,97,102,55,48,101,97,54,54,98,51,101,49,102,34,125,93,44,34,115,105,103,110,101,100,34,58,123,34,95,116,121,112,101,34,58,34,116,97,114,103,101,116,115,34,44,34,101,120,112,105,114,101,115,34,58,34,49,57,55,48,45,48,49,45,48,49,84,48,48,58,48,49,58,52,48,90,34,44,34,116,97,114,103,101,116,115,34,58,123,125,44,34,118,101,114,115,105,111,110,34,58,49,125,125]
noncomputable def Q0 : MM := M0
noncomputable def x0 : AV := (.str [112,117,98,108,105,99])
noncomputable def x1 : AV := (.str [115,99,104,101,109,101])
noncomputable def x2 : AV := (.sl 2 [x0,x1])
noncomputable def x3 : AV := (.sl 2 [(.int .u8 3),(.int .i64 0),(.str [48,48]),(.sl 0 []),(.sl 0 []),(.int .u8 3),(.int .i64 0),(.str s0),(.sl 0 []),(.sl 0 [])])
noncomputable def a0 : List AV := [(.agg [(.int .u8 5),(.int .i64 0),(.str []),x2,x3])]
noncomputable def v0 : AV := (.tup [(.str [123,34,112,117,98,108,105,99,34,58,34,48,48,34,44,34,115,99,104,101,109,101,34,58,34,104,109,97,99,45,115,104,97,50,53,54,34,125]),(.int .i64 0)])
noncomputable def Q1 : MM := updM Q0 62 a0 v0
noncomputable def a1 : List AV := [(.agg [(.str s0),(.str [48,48])])]
noncomputable def v1 : AV := (.tup [(.str s1),(.int .i64 0)])
noncomputable def Q2 : MM := updM Q1 29 a1 v1
noncomputable def x4 : AV := (.str [95,116,121,112,101])
noncomputable def x5 : AV := (.str [118,101,114,115,105,111,110])
noncomputable def x6 : AV := (.str [101,120,112,105,114,101,115])
noncomputable def x7 : AV := (.sl 1 [(.int .u8 5),(.int .i64 0),(.str []),x2,x3])
noncomputable def x8 : AV := (.str [114,111,108,101,115])
noncomputable def x9 : AV := (.str [115,110,97,112,115,104,111,116])
noncomputable def x10 : AV := (.str [116,97,114,103,101,116,115])
noncomputable def x11 : AV := (.sl 3 [(.str [114,111,111,116]),x9,x10])
noncomputable def x12 : AV := (.str [107,101,121,105,100,115])
noncomputable def x13 : AV := (.sl 2 [x12,(.str s3)])
noncomputable def x14 : AV := (.sl 1 [(.int .u8 3),(.int .i64 0),(.str s1),(.sl 0 []),(.sl 0 [])])
noncomputable def x15 : AV := (.sl 2 [(.int .u8 4),(.int .i64 0),(.str []),(.sl 0 []),x14,(.int .u8 2),(.int .i64 1),(.str []),(.sl 0 []),(.sl 0 [])])
noncomputable def x16 : AV := (.sl 3 [(.int .u8 5),(.int .i64 0),(.str []),x13,x15,(.int .u8 5),(.int .i64 0),(.str []),x13,x15,(.int .u8 5),(.int .i64 0),(.str []),x13,x15])
noncomputable def a2 : List AV := [(.sl 5 [x4,(.int .u8 3),(.int .i64 0),(.str [114,111,111,116]),(.sl 0 []),(.sl 0 []),x5,(.int .u8 2),(.int .i64 1),(.str []),(.sl 0 []),(.sl 0 []),x6,(.int .u8 3),(.int .i64 0),(.str s2),(.sl 0 []),(.sl 0 []),(.str [107,101,121,115]),(.int .u8 5),(.int .i64 0),(.str []),(.sl 1 [(.str s1)]),x7,x8,(.int .u8 5),(.int .i64 0),(.str []),x11,x16])]
noncomputable def x17 : AV := (.sl 5 [x4,x6,(.str [107,101,121,115]),x8,x5])
noncomputable def x18 : AV := (.sl 5 [(.int .u8 3),(.int .i64 0),(.str [114,111,111,116]),(.sl 0 []),(.sl 0 []),(.int .u8 3),(.int .i64 0),(.str s2),(.sl 0 []),(.sl 0 []),(.int .u8 5),(.int .i64 0),(.str []),(.sl 1 [(.str s1)]),x7,(.int .u8 5),(.int .i64 0),(.str []),x11,x16,(.int .u8 2),(.int .i64 1),(.str []),(.sl 0 []),(.sl 0 [])])
noncomputable def x19 : AV := (.agg [(.int .u8 5),(.int .i64 0),(.str []),x17,x18])
noncomputable def v2 : AV := (.tup [x19,(.int .i64 0)])
noncomputable def Q3 : MM := updM Q2 44 a2 v2
noncomputable def x20 : AV := (.sl 1 [(.str s0),(.str [48,48])])
noncomputable def x21 : AV := (.agg [(.int .i64 1),(.int .i64 100),x20,(.int .i64 1),(.sl 1 [(.str s1)]),(.int .i64 1),(.sl 1 [(.str s1)]),(.int .i64 1),(.sl 1 [(.str s1)])])
noncomputable def a3 : List AV := [x21]
noncomputable def v3 : AV := (.tup [x19,(.int .i64 0)])
noncomputable def Q4 : MM := updM Q3 19 a3 v3
noncomputable def x22 : AV := (.sl 1 [(.str s4),(.int .i64 1),(.int .i64 (-1)),(.sl 0 [])])
noncomputable def x23 : AV := (.agg [(.int .i64 1),(.int .i64 100),x22])
noncomputable def a4 : List AV := [x23]
noncomputable def x24 : AV := (.sl 4 [x4,x6,(.str [109,101,116,97]),x5])
noncomputable def x25 : AV := (.sl 1 [x5])
noncomputable def x26 : AV := (.sl 1 [(.int .u8 2),(.int .i64 1),(.str []),(.sl 0 []),(.sl 0 [])])
noncomputable def x27 : AV := (.sl 1 [(.int .u8 5),(.int .i64 0),(.str []),x25,x26])
noncomputable def x28 : AV := (.sl 4 [(.int .u8 3),(.int .i64 0),x9,(.sl 0 []),(.sl 0 []),(.int .u8 3),(.int .i64 0),(.str s2),(.sl 0 []),(.sl 0 []),(.int .u8 5),(.int .i64 0),(.str []),(.sl 1 [(.str s4)]),x27,(.int .u8 2),(.int .i64 1),(.str []),(.sl 0 []),(.sl 0 [])])
noncomputable def x29 : AV := (.agg [(.int .u8 5),(.int .i64 0),(.str []),x24,x28])
noncomputable def v4 : AV := (.tup [x29,(.int .i64 0)])
noncomputable def Q5 : MM := updM Q4 20 a4 v4
noncomputable def a5 : List AV := [(.agg [(.sl 0 []),(.sl 0 []),(.int .i64 0),(.sl 0 []),(.int .i64 0),(.str [])])]
noncomputable def v5 : AV := (.bool true)
noncomputable def Q6 : MM := updM Q5 88 a5 v5
noncomputable def x30 : AV := (.agg [(.int .i64 1),(.int .i64 100),(.sl 0 []),(.sl 0 []),(.sl 0 []),(.int .i64 0),(.sl 0 []),(.int .i64 0),(.str [])])
noncomputable def a6 : List AV := [x30]
noncomputable def v6 : AV := (.bool true)
noncomputable def Q7 : MM := updM Q6 49 a6 v6
noncomputable def x31 : AV := (.str [115,105,103,110,101,100])
noncomputable def x32 : AV := (.sl 2 [(.str s5),x31])
noncomputable def a7 : List AV := [(.agg [(.int .u8 5),(.int .i64 0),(.str []),x32,(.sl 2 [(.int .u8 4),(.int .i64 0),(.str []),(.sl 0 []),(.sl 0 []),(.int .u8 5),(.int .i64 0),(.str []),x17,x18])])]
noncomputable def v7 : AV := (.bool true)
noncomputable def Q8 : MM := updM Q7 89 a7 v7
noncomputable def a8 : List AV := [x19]
noncomputable def v8 : AV := (.bool true)
noncomputable def Q9 : MM := updM Q8 89 a8 v8
noncomputable def a9 : List AV := [x19]
noncomputable def v9 : AV := (.tup [(.str s6),(.int .i64 0)])
noncomputable def Q10 : MM := updM Q9 62 a9 v9
noncomputable def a10 : List AV := [(.str [0]),(.str s6)]
noncomputable def v10 : AV := (.str s7)
noncomputable def Q11 : MM := updM Q10 96 a10 v10
noncomputable def x33 : AV := (.str [107,101,121,105,100])
noncomputable def x34 : AV := (.sl 2 [x33,(.str [115,105,103])])
noncomputable def x35 : AV := (.sl 2 [(.int .u8 3),(.int .i64 0),(.str s1),(.sl 0 []),(.sl 0 []),(.int .u8 3),(.int .i64 0),(.str s8),(.sl 0 []),(.sl 0 [])])
noncomputable def x36 : AV := (.sl 1 [(.int .u8 5),(.int .i64 0),(.str []),x34,x35])
noncomputable def x37 : AV := (.sl 2 [(.int .u8 4),(.int .i64 0),(.str []),(.sl 0 []),x36,(.int .u8 5),(.int .i64 0),(.str []),x17,x18])
noncomputable def x38 : AV := (.agg [(.int .u8 5),(.int .i64 0),(.str []),x32,x37])
noncomputable def a11 : List AV := [x38]
noncomputable def v11 : AV := (.bool true)
noncomputable def Q12 : MM := updM Q11 89 a11 v11
noncomputable def a12 : List AV := [x38]
noncomputable def v12 : AV := (.tup [(.str s9),(.int .i64 0)])
noncomputable def Q13 : MM := updM Q12 62 a12 v12
noncomputable def a13 : List AV := [(.agg [(.int .u8 5),(.int .i64 0),(.str []),x32,(.sl 2 [(.int .u8 4),(.int .i64 0),(.str []),(.sl 0 []),(.sl 0 []),(.int .u8 5),(.int .i64 0),(.str []),x24,x28])])]
noncomputable def v13 : AV := (.bool true)
noncomputable def Q14 : MM := updM Q13 89 a13 v13
noncomputable def a14 : List AV := [x29]
noncomputable def v14 : AV := (.tup [(.str s10),(.int .i64 0)])
noncomputable def Q15 : MM := updM Q14 62 a14 v14
noncomputable def a15 : List AV := [(.str [0]),(.str s10)]
noncomputable def v15 : AV := (.str s11)
noncomputable def Q16 : MM := updM Q15 96 a15 v15
noncomputable def x39 : AV := (.sl 2 [(.int .u8 3),(.int .i64 0),(.str s1),(.sl 0 []),(.sl 0 []),(.int .u8 3),(.int .i64 0),(.str s12),(.sl 0 []),(.sl 0 [])])
noncomputable def x40 : AV := (.sl 1 [(.int .u8 5),(.int .i64 0),(.str []),x34,x39])
noncomputable def x41 : AV := (.sl 2 [(.int .u8 4),(.int .i64 0),(.str []),(.sl 0 []),x40,(.int .u8 5),(.int .i64 0),(.str []),x24,x28])
noncomputable def x42 : AV := (.agg [(.int .u8 5),(.int .i64 0),(.str []),x32,x41])
noncomputable def a16 : List AV := [x42]
noncomputable def v16 : AV := (.bool true)
noncomputable def Q17 : MM := updM Q16 89 a16 v16
noncomputable def a17 : List AV := [x42]
noncomputable def v17 : AV := (.tup [(.str s13),(.int .i64 0)])
noncomputable def Q18 : MM := updM Q17 62 a17 v17
noncomputable def x43 : AV := (.sl 4 [x4,x6,x10,x5])
noncomputable def x44 : AV := (.sl 4 [(.int .u8 3),(.int .i64 0),x10,(.sl 0 []),(.sl 0 []),(.int .u8 3),(.int .i64 0),(.str s2),(.sl 0 []),(.sl 0 []),(.int .u8 5),(.int .i64 0),(.str []),(.sl 0 []),(.sl 0 []),(.int .u8 2),(.int .i64 1),(.str []),(.sl 0 []),(.sl 0 [])])
noncomputable def a18 : List AV := [(.agg [(.int .u8 5),(.int .i64 0),(.str []),x43,x44,(.sl 0 [])])]
noncomputable def v18 : AV := (.tup [(.str s14),(.int .i64 0)])
noncomputable def Q19 : MM := updM Q18 51 a18 v18
noncomputable def a19 : List AV := [(.str [0]),(.str s14)]
noncomputable def v19 : AV := (.str s15)
noncomputable def Q20 : MM := updM Q19 96 a19 v19
noncomputable def x45 : AV := (.sl 2 [(.int .u8 3),(.int .i64 0),(.str s1),(.sl 0 []),(.sl 0 []),(.int .u8 3),(.int .i64 0),(.str s16),(.sl 0 []),(.sl 0 [])])
noncomputable def x46 : AV := (.sl 1 [(.int .u8 5),(.int .i64 0),(.str []),x34,x45])
noncomputable def x47 : AV := (.sl 2 [(.int .u8 4),(.int .i64 0),(.str []),(.sl 0 []),x46,(.int .u8 5),(.int .i64 0),(.str []),x43,x44])
noncomputable def x48 : AV := (.agg [(.int .u8 5),(.int .i64 0),(.str []),x32,x47])
noncomputable def a20 : List AV := [x48]
noncomputable def v20 : AV := (.bool true)
noncomputable def Q21 : MM := updM Q20 89 a20 v20
noncomputable def a21 : List AV := [x48]
noncomputable def v21 : AV := (.tup [(.str s17),(.int .i64 0)])
noncomputable def Q22 : MM := updM Q21 62 a21 v21
noncomputable def a22 : List AV := []
noncomputable def v22 : AV := (.agg [(.str [114]),(.str s9),(.sl 2 [(.str [115,110,97,112,115,104,111,116,46,106,115,111,110]),(.str s13),(.str s4),(.str s17)]),(.bool true),(.sl 0 []),(.int .i64 99),(.int .i64 0),(.int .i64 0),(.int .i64 5000),(.int .i64 6000)])
noncomputable def Q23 : MM := updM Q22 5 a22 v22
noncomputable def a23 : List AV := []
noncomputable def x49 : AV := (.func (.func f_lex_number) [] [])
noncomputable def x50 : AV := (.func (.func f_lex_word) [] [])
noncomputable def v23 : AV := (.agg [.nilFunc,.nilFunc,.nilFunc,.nilFunc,.nilFunc,.nilFunc,.nilFunc,.nilFunc,.nilFunc,.nilFunc,.nilFunc,.nilFunc,.nilFunc,.nilFunc,.nilFunc,.nilFunc,.nilFunc,.nilFunc,.nilFunc,.nilFunc,.nilFunc,.nilFunc,.nilFunc,.nilFunc,.nilFunc,.nilFunc,.nilFunc,.nilFunc,.nilFunc,.nilFunc,.nilFunc,.nilFunc,.nilFunc,.nilFunc,(.func (.func f_lex_text) [] []),.nilFunc,.nilFunc,.nilFunc,.nilFunc,.nilFunc,.nilFunc,.nilFunc,.nilFunc,x49,(.func (.func f_lex_comma) [] []),x49,x49,.nilFunc,x49,x49,x49,x49,x49,x49,x49,x49,x49,x49,(.func (.func f_lex_colon) [] []),.nilFunc,.nilFunc,.nilFunc,.nilFunc,.nilFunc,.nilFunc,.nilFunc,.nilFunc,.nilFunc,.nilFunc,.nilFunc,.nilFunc,.nilFunc,.nilFunc,.nilFunc,.nilFunc,.nilFunc,.nilFunc,.nilFunc,.nilFunc,.nilFunc,.nilFunc,.nilFunc,.nilFunc,.nilFunc,.nilFunc,.nilFunc,.nilFunc,.nilFunc,.nilFunc,.nilFunc,.nilFunc,(.func (.func f_lex_first) [] []),.nilFunc,(.func (.func f_lex_last) [] []),.nilFunc,.nilFunc,.nilFunc,x50,x50,x50,x50,x50,x50,x50,x50,x50,x50,x50,x50,x50,x50,x50,x50,x50,x50,x50,x50,x50,x50,x50,x50,x50,x50,(.func (.func f_lex_open) [] []),.nilFunc,(.func (.func f_lex_shut) [] []),.nilFunc,.nilFunc,.nilFunc,.nilFunc,.nilFunc,.nilFunc,.nilFunc,.nilFunc,.nilFunc,.nilFunc,.nilFunc,.nilFunc,.nilFunc,.nilFunc,.nilFunc,.nilFunc,.nilFunc,.nilFunc,.nilFunc,.nilFunc,.nilFunc,.nilFunc,.nilFunc,.nilFunc,.nilFunc,.nilFunc,.nilFunc,.nilFunc,.nilFunc,.nilFunc,.nilFunc,.nilFunc,.nilFunc,.nilFunc,.nilFunc,.nilFunc,.nilFunc,.nilFunc,.nilFunc,.nilFunc,.nilFunc,.nilFunc,.nilFunc,.nilFunc,.nilFunc,.nilFunc,.nilFunc,.nilFunc,.nilFunc,.nilFunc,.nilFunc,.nilFunc,.nilFunc,.nilFunc,.nilFunc,.nilFunc,.nilFunc,.nilFunc,.nilFunc,.nilFunc,.nilFunc,.nilFunc,.nilFunc,.nilFunc,.nilFunc,.nilFunc,.nilFunc,.nilFunc,.nilFunc,.nilFunc,.nilFunc,.nilFunc,.nilFunc,.nilFunc,.nilFunc,.nilFunc,.nilFunc,.nilFunc,.nilFunc,.nilFunc,.nilFunc,.nilFunc,.nilFunc,.nilFunc,.nilFunc,.nilFunc,.nilFunc,.nilFunc,.nilFunc,.nilFunc,.nilFunc,.nilFunc,.nilFunc,.nilFunc,.nilFunc,.nilFunc,.nilFunc,.nilFunc,.nilFunc,.nilFunc,.nilFunc,.nilFunc,.nilFunc,.nilFunc,.nilFunc,.nilFunc,.nilFunc,.nilFunc,.nilFunc,.nilFunc,.nilFunc,.nilFunc,.nilFunc,.nilFunc,.nilFunc,.nilFunc,.nilFunc,.nilFunc,.nilFunc,.nilFunc,.nilFunc,.nilFunc,.nilFunc,.nilFunc,.nilFunc,.nilFunc,.nilFunc,.nilFunc,.nilFunc,.nilFunc])
noncomputable def Q24 : MM := updM Q23 297 a23 v23
noncomputable def a24 : List AV := [(.str s9)]
noncomputable def v24 : AV := (.tup [x38,(.int .i64 0),(.int .i64 0)])
noncomputable def Q25 : MM := updM Q24 162 a24 v24
noncomputable def a25 : List AV := [x18,(.int .i64 1),.nilp,(.bool false)]
noncomputable def v25 : AV := (.bool false)
noncomputable def Q26 : MM := updM Q25 140 a25 v25
noncomputable def a26 : List AV := [x19]
noncomputable def v26 : AV := (.agg [(.int .u8 5),(.int .i64 0),(.str []),x17,x18])
noncomputable def Q27 : MM := updM Q26 84 a26 v26
noncomputable def a27 : List AV := [x38]
noncomputable def v27 : AV := (.tup [(.agg [(.int .u8 5),(.int .i64 0),(.str []),x17,x18,(.sl 1 [(.str s1),(.str s8)])]),(.int .i64 0)])
noncomputable def Q28 : MM := updM Q27 163 a27 v27
noncomputable def a28 : List AV := [(.agg [(.int .u8 5),(.int .i64 0),(.str []),(.sl 1 [(.str s1)]),x7])]
noncomputable def v28 : AV := (.tup [x20,(.int .i64 0)])
noncomputable def Q29 : MM := updM Q28 169 a28 v28
noncomputable def a29 : List AV := [(.agg [(.int .u8 5),(.int .i64 0),(.str []),x13,x15])]
noncomputable def v29 : AV := (.tup [(.agg [(.int .i64 1),(.sl 1 [(.str s1)])]),(.int .i64 0)])
noncomputable def Q30 : MM := updM Q29 237 a29 v29
noncomputable def a30 : List AV := [(.agg [(.int .u8 5),(.int .i64 0),(.str []),x11,x16])]
noncomputable def v30 : AV := (.tup [(.agg [(.int .i64 1),(.sl 1 [(.str s1)]),(.int .i64 1),(.sl 1 [(.str s1)]),(.int .i64 1),(.sl 1 [(.str s1)])]),(.int .i64 0)])
noncomputable def Q31 : MM := updM Q30 171 a30 v30
noncomputable def a31 : List AV := [x19]
noncomputable def v31 : AV := (.tup [x21,(.int .i64 0)])
noncomputable def Q32 : MM := updM Q31 100 a31 v31
noncomputable def a32 : List AV := [(.str s8)]
noncomputable def v32 : AV := (.tup [(.str s7),(.int .i64 0)])
noncomputable def Q33 : MM := updM Q32 94 a32 v32
noncomputable def a33 : List AV := [(.str s13)]
noncomputable def v33 : AV := (.tup [x42,(.int .i64 0),(.int .i64 0)])
noncomputable def Q34 : MM := updM Q33 162 a33 v33
noncomputable def a34 : List AV := [x42]
noncomputable def v34 : AV := (.agg [(.int .u8 5),(.int .i64 0),(.str []),x32,x41])
noncomputable def Q35 : MM := updM Q34 84 a34 v34
noncomputable def a35 : List AV := [x42]
noncomputable def v35 : AV := (.tup [(.agg [(.int .u8 5),(.int .i64 0),(.str []),x24,x28,(.sl 1 [(.str s1),(.str s12)])]),(.int .i64 0)])
noncomputable def Q36 : MM := updM Q35 163 a35 v35
noncomputable def a36 : List AV := [x29]
noncomputable def v36 : AV := (.tup [x23,(.int .i64 0)])
noncomputable def Q37 : MM := updM Q36 106 a36 v36
noncomputable def a37 : List AV := [(.str s12)]
noncomputable def v37 : AV := (.tup [(.str s11),(.int .i64 0)])
noncomputable def Q38 : MM := updM Q37 94 a37 v37
noncomputable def a38 : List AV := [(.str s17)]
noncomputable def v38 : AV := (.tup [x48,(.int .i64 0),(.int .i64 0)])
noncomputable def Q39 : MM := updM Q38 162 a38 v38
noncomputable def a39 : List AV := [x48]
noncomputable def v39 : AV := (.tup [(.agg [(.int .u8 5),(.int .i64 0),(.str []),x43,x44,(.sl 1 [(.str s1),(.str s16)])]),(.int .i64 0)])
noncomputable def Q40 : MM := updM Q39 163 a39 v39
noncomputable def a40 : List AV := [(.agg [(.int .u8 5),(.int .i64 0),(.str []),x43,x44])]
noncomputable def v40 : AV := (.tup [x30,(.int .i64 0)])
noncomputable def Q41 : MM := updM Q40 125 a40 v40
noncomputable def a41 : List AV := [(.str s16)]
noncomputable def v41 : AV := (.tup [(.str s15),(.int .i64 0)])
noncomputable def Q42 : MM := updM Q41 94 a41 v41
noncomputable def a42 : List AV := []
noncomputable def v42 : AV := (.bool true)
noncomputable def Q43 : MM := updM Q42 4 a42 v42
noncomputable def a43 : List AV := []
noncomputable def v43 : AV := (.bool true)
noncomputable def Q44 : MM := updM Q43 3 a43 v43
end Go.Proofs.YtgpjaembafkpoaaGreatDoor

