/- Contracts of library functions over this translation. No conditions. -/
import Derived.Test.YtgpjaembafkpoaaGreatDoorEvC
import Derived.Test.YtgpjaembafkpoaaGreatDoorCn
import Derived.Test.YtgpjaembafkpoaaGreatDoorUE
set_option linter.unusedVariables false
set_option linter.unusedSimpArgs false
/- The context of the seat's program, and the functions by hand that hang on it. -/
namespace Go.Proofs.YtgpjaembafkpoaaGreatDoor
open Go.Ev Go.RowKit
set_option maxRecDepth 1000000
set_option linter.unusedVariables false
noncomputable section
noncomputable def ints (k : IntKind) (l : List Nat) : List AV := l.map fun n => .int k (.ofNat n)
noncomputable def glT (g : Nat) : Option (List AV) :=
  match Nat.beq g g_hex_digits with
  | true => some (ofBytes hexDigits)
  | false => match Nat.beq g g_sha_initial with
    | true => some (hI.map iw)
    | false => match Nat.beq g g_sha_rounds with
      | true => some (kR.map iw)
      | false => match Nat.beq g g_root_tops with
        | true => some [.str [114,111,111,116],.str [115,110,97,112,115,104,111,116],.str [116,97,114,103,101,116,115]]
        | false => match Nat.beq g g_when_before with
          | true => some (ints .i64 [0,31,59,90,120,151,181,212,243,273,304,334,365])
          | false => match Nat.beq g g_internal_strconv_uint64pow10 with
            | true => some (ints .u64 [1,10,100,1000,10000,100000,1000000,10000000,100000000,1000000000,10000000000,100000000000,1000000000000,10000000000000,100000000000000,1000000000000000,10000000000000000,100000000000000000,1000000000000000000,10000000000000000000])
            | false => none
noncomputable def primT (f : FuncId) : Option (List AV → St → Option (AV × St)) := match Nat.beq f f_strings_Repeat with
  | true => some pRepeat
  | false => none
noncomputable def CC : Ctx := plainC Tryz.prog glT (fun _ => false) primT
theorem glT_closed : ∀ n l,CC.gl n = some l → belows 0 l = true := by
  intro n l h
  change glT n = some l at h
  unfold glT at h
  repeat' split at h
  all_goals first
    | (cases h; done)
    | (simp only [Option.some.injEq] at h; subst h; kernel_rfl)
theorem CC_prim : PrimOK CC := by
  intro f h hh
  change primT f = some h at hh
  unfold primT at hh
  split at hh
  · rename_i hf
    have := Nat.eq_of_beq_eq_true hf
    subst this
    cases hh
    exact pokRepeat (C := CC) rfl
  · cases hh
theorem CC_sem : CallOK CC (semF CC) := sem_sound mixedA (plainC_fs _ _ _ _) CC_prim
/-- the same, and all is handed over as it is -/
noncomputable def CR : Ctx := plainC Tryz.prog glT (fun _ => true) (fun _ => none)
theorem CR_ev (n : Nat) : CallOK CR (evF CR n) := ev_sound mixedA (plainC_fs _ _ _ _) (fun f h hh => by simp [plainC] at hh) n
theorem pokClone0 {f : FuncId} (h1 : resQ (evF CR 100 f [.nils] []) .nils = true) (h2 : resQ (evF CR 100 f [.emp] []) (.xsl 0 []) = true) : POK CC f pClone0 := pok_clone0 (C := CR) (CR_ev 100) glT_closed h1 h2
theorem ok0 : Ok [] := rfl
theorem shaHas : ShaHas CC where
  new := has_of (by kernel_rfl) (by kernel_rfl) (by kernel_rfl) rfl rfl
  sum := has_of (by kernel_rfl) (by kernel_rfl) (by kernel_rfl) rfl rfl
  write := has_of (by kernel_rfl) (by kernel_rfl) (by kernel_rfl) rfl rfl
  mix := has_of (by kernel_rfl) (by kernel_rfl) (by kernel_rfl) rfl rfl
  rot := has_of (by kernel_rfl) (by kernel_rfl) (by kernel_rfl) rfl rfl
  sumF := has_of (by kernel_rfl) (by kernel_rfl) (by kernel_rfl) rfl rfl
  digest := has_of (by kernel_rfl) (by kernel_rfl) (by kernel_rfl) rfl rfl
  encode := has_of (by kernel_rfl) (by kernel_rfl) (by kernel_rfl) rfl rfl
  gr := rfl
  gi := rfl
  gd := rfl
  rep := fun n hn σ => by
    have hp : CC.prim f_strings_Repeat = some pRepeat := rfl
    rw [semF_eq]
    unfold funF
    rw [hp]
    have hb : Nat.blt n 64 = true := Nat.ble_eq_true_of_le hn
    change pRepeat [.str [0],.int .i64 (.ofNat n)] σ = _
    unfold pRepeat
    simp only [hb]
    rfl
theorem macHas : MacHas CC where
  sha := shaHas
  block := has_of (by kernel_rfl) (by kernel_rfl) (by kernel_rfl) rfl rfl
  combine := has_of (by kernel_rfl) (by kernel_rfl) (by kernel_rfl) rfl rfl
  of := has_of (by kernel_rfl) (by kernel_rfl) (by kernel_rfl) rfl rfl
  of1 := has_of (by kernel_rfl) (by kernel_rfl) (by kernel_rfl) rfl rfl
  of2 := has_of (by kernel_rfl) (by kernel_rfl) (by kernel_rfl) rfl rfl
theorem pokSha : POK CC f_sha_Sum (pStr fun s => .str (shaSum s)) := pok_str1 CC_sem glT_closed _ fun s hs => sha_Sum shaHas s hs [] ok0
theorem pokMac : POK CC f_mac_Of (pStr2 fun s t => .str (hmac s t)) := pok_str2 CC_sem glT_closed _ fun s t hs ht => mac_Of macHas s t (by omega) ht [] ok0
theorem pokHexIs : POK CC f_hex_Is (pStr fun s => .bool (s.all isHex)) := pok_str1 CC_sem glT_closed _ fun s hs => hex_Is (has_of (by kernel_rfl) (by kernel_rfl) (by kernel_rfl) rfl rfl) (has_of (by kernel_rfl) (by kernel_rfl) (by kernel_rfl) rfl rfl) s hs []
theorem pokHexEncode : POK CC f_hex_Encode (pStr fun s => .str (hexEnc s)) := pok_str1 CC_sem glT_closed _ fun s hs => hex_Encode shaHas.encode rfl s hs [] ok0
theorem pokCmp : POK CC f_internal_bytealg_abigen_runtime_cmpstring pCmp := pok_cmp fun args w => by
  rw [show CC.P = Tryz.prog from rfl,run_callFunc_extern Tryz.func211 (by kernel_rfl) (by kernel_rfl) (by kernel_rfl) (e := Extern.BytealgCompare.compare) (by kernel_rfl)]
/-- of the digit 0 -/
noncomputable def repOk (c : Nat) (r : Option (AV × St)) : Bool := resQ r (.str (List.replicate c 48))
theorem rep0All : (List.range 5).all (fun c => repOk c (evF (plainC Tryz.prog glT (fun _ => false) (fun _ => none)) 1000 134 [.str [48],.int .i64 (Int.ofNat c)] [])) = true := by kernel_rfl
noncomputable def pRep0 (args : List AV) (σ : St) : Option (AV × St) :=
  match args with
  | [.str [b],.int .i64 (.ofNat n)] => match andR (Nat.beq b.toNat 48) (Nat.ble n 4) with
    | true => some (.str (List.replicate n 48),σ)
    | false => none
  | _ => none
theorem pokRep0 : POK CC f_strings_Repeat pRep0 := by
  intro args σ v σ' h g w args' ha hw hg
  unfold pRep0 at h
  split at h
  · rename_i b n
    split at h
    · rename_i hb
      rw [andR_is,Bool.and_eq_true] at hb
      have hb1 : b = 48 := UInt8.toNat_inj.mp (Nat.eq_of_beq_eq_true hb.1)
      have hb2 : n < 5 := Nat.lt_succ_of_le (Nat.le_of_ble_eq_true hb.2)
      subst hb1
      simp only [Option.some.injEq,Prod.mk.injEq] at h
      obtain ⟨rfl,rfl⟩ := h
      have hc : CallOK (plainC Tryz.prog glT (fun _ => false) (fun _ => none)) (evF (plainC Tryz.prog glT (fun _ => false) (fun _ => none)) 1000) := ev_sound mixedA (plainC_fs _ _ _ _) (fun f h hh => by simp [plainC] at hh) 1000
      exact does_closed hc glT_closed (by rfl) (resQ_is (List.all_eq_true.mp rep0All n (List.mem_range.mpr hb2))) ha hw hg
    · cases h
  · cases h
end
end Go.Proofs.YtgpjaembafkpoaaGreatDoor

