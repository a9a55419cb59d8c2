/- Contracts of library functions over this translation. No conditions. -/
import Derived.Test.YtlmipikebibmaaaGreatDoorEvC
import Derived.Test.YtlmipikebibmaaaGreatDoorCo
import Derived.Test.YtlmipikebibmaaaGreatDoorUF
import Derived.Test.YtlmipikebibmaaaGreatDoorLL
set_option linter.unusedVariables false
set_option linter.unusedSimpArgs false
/- The context of an open law over the seat's program: arguments from outside; awake and slices.Clone as functions by hand. -/
namespace Go.Proofs.YtlmipikebibmaaaGreatDoor
open Go.Ev Go.RowKit
set_option maxRecDepth 1000000
set_option linter.unusedVariables false
noncomputable section
/-- no two pointers into memory that stays are compared -/
noncomputable def CL0 : Ctx := { CC with np := true }
theorem CL0_fs : FsOK CL0 := fun f x h => plainC_fs Tryz.prog glT (fun _ => false) primT f x h
theorem CL0_prim : PrimOK CL0 := by
  intro f h hh
  change primT f = some h at hh
  unfold primT at hh
  split at hh
  · rename_i hf
    have := Nat.eq_of_beq_eq_true hf
    subst this
    cases hh
    exact pokRepeat (C := CL0) rfl
  · cases hh
theorem CL0_sem : CallOK CL0 (semF CL0) := sem_sound mixedA CL0_fs CL0_prim
noncomputable def CR1 : Ctx := { CR with np := true }
theorem CR1_ev (n : Nat) : CallOK CR1 (evF CR1 n) := ev_sound (C := CR1) mixedA (fun f x h => plainC_fs Tryz.prog glT (fun _ => true) (fun _ => none) f x h) (fun f h hh => by simp [CR1,CR,plainC] at hh) n
theorem has0 {f : FuncId} {K : KF} (h : Has CC f K) : Has CL0 f K := ⟨h.fs,h.prim,h.raw,h.ok⟩
/-- slices.Clone of what is not written afterwards -/
noncomputable def pSame (sz : Nat) (args : List AV) (σ : St) : Option (AV × St) :=
  match args with
  | [.sl n l] => match andR (andR (Nat.beq l.length (n * sz)) (Nat.ble n 1099511627776)) (l.all scal) with
    | true => some (.sl n l,σ)
    | false => none
  | _ => none
theorem pokSame (h1 : resQ (evF CR1 100 f_slices_Clone_api_Hash_api_Hash [.nils] []) .nils = true) (h2 : resQ (evF CR1 100 f_slices_Clone_api_Hash_api_Hash [.emp] []) (.xsl 0 []) = true) : POK CL0 f_slices_Clone_api_Hash_api_Hash (pSame 2) := by
  intro args σ v σ' h g w args' ha hw hg
  unfold pSame at h
  split at h
  · rename_i n l
    split at h
    · rename_i hb
      rw [andR_is,Bool.and_eq_true,andR_is,Bool.and_eq_true] at hb
      have hl := Nat.eq_of_beq_eq_true hb.1.1
      cases h
      by_cases h0 : n = 0
      · subst h0
        have : l = [] := List.length_eq_zero_iff.mp (by simpa using hl)
        subst this
        exact pok_clone0 (C := CR1) (CR1_ev 100) glT_closed h1 h2 [.sl 0 []] σ _ _ rfl g w args' ha hw hg
      · exact does_closed CL0_sem glT_closed (by rw [belows,below,(scal_nvs hb.2).cl]; rfl) (clone_some (C := CL0) (has0 (has_of (by kernel_rfl) (by kernel_rfl) (by kernel_rfl) rfl rfl)) n l hl (by omega) (Nat.le_of_ble_eq_true hb.1.2) hb.2 [] ok0) ha hw hg
    · cases h
  · cases h
end
end Go.Proofs.YtlmipikebibmaaaGreatDoor

/- slices.Clone of verdicts, as a function by hand. -/
namespace Go.Proofs.YtlmipikebibmaaaGreatDoor
open Go.Ev Go.RowKit
set_option maxRecDepth 1000000
set_option linter.unusedVariables false
noncomputable section
theorem pokSameV (h1 : resQ (evF CR1 100 f_slices_Clone_api_Verdict_api_Verdict [.nils] []) .nils = true) (h2 : resQ (evF CR1 100 f_slices_Clone_api_Verdict_api_Verdict [.emp] []) (.xsl 0 []) = true) : POK CL0 f_slices_Clone_api_Verdict_api_Verdict (pSame 3) := by
  intro args σ v σ' h g w args' ha hw hg
  unfold pSame at h
  split at h
  · rename_i n l
    split at h
    · rename_i hb
      rw [andR_is,Bool.and_eq_true,andR_is,Bool.and_eq_true] at hb
      have hl := Nat.eq_of_beq_eq_true hb.1.1
      cases h
      by_cases h0 : n = 0
      · subst h0
        have : l = [] := List.length_eq_zero_iff.mp (by simpa using hl)
        subst this
        exact pok_clone0 (C := CR1) (CR1_ev 100) glT_closed h1 h2 [.sl 0 []] σ _ _ rfl g w args' ha hw hg
      · exact does_closed CL0_sem glT_closed (by rw [belows,below,(scal_nvs hb.2).cl]; rfl) (clone_verd (C := CL0) (has0 (has_of (by kernel_rfl) (by kernel_rfl) (by kernel_rfl) rfl rfl)) n l hl (by omega) (Nat.le_of_ble_eq_true hb.1.2) hb.2 [] ok0) ha hw hg
    · cases h
  · cases h
end
end Go.Proofs.YtlmipikebibmaaaGreatDoor

/- The law CheckNothing in its context. -/
namespace Go.Proofs.YtlmipikebibmaaaGreatDoor
open Go.Ev Go.RowKit
set_option maxRecDepth 1000000
set_option linter.unusedVariables false
theorem noB {l : List AV} (h : l.any isByte = false) : ∀ a ∈ l,isByte a = false := fun a ha => by
  cases hb : isByte a with
  | false => rfl
  | true => rw [List.any_eq_true.mpr ⟨a,ha,hb⟩] at h; cases h
noncomputable section
def pAwake (args : List AV) (σ : St) : Option (AV × St) := match args with | [] => some (.bool true,σ) | _ => none
noncomputable def primL (f : FuncId) : Option (List AV → St → Option (AV × St)) := match Nat.beq f f_legatelaw27_awake with
  | true => some pAwake
  | false => match Nat.beq f f_slices_Clone_api_Hash_api_Hash with
    | true => some (pSame 2)
    | false => match Nat.beq f f_slices_Clone_api_Verdict_api_Verdict with
      | true => some (pSame 3)
      | false => none
noncomputable def CL : Ctx := { CL0 with prim := primL }
theorem glT_scal : ∀ n l,CC.gl n = some l → l.all scal = true := by
  intro n l h
  change glT n = some l at h
  unfold glT at h
  repeat' split at h
  all_goals first
    | (cases h; done)
    | (simp only [Option.some.injEq] at h; subst h; kernel_rfl)
theorem CL_prim : PrimOK CL := by
  intro f h hh
  change primL f = some h at hh
  unfold primL at hh
  split at hh
  · rename_i hf
    have := Nat.eq_of_beq_eq_true hf
    subst this
    cases hh
    exact pok_closed (C := CC) (D := CL) awakeOK rfl rfl glT_scal (resQ_is lfin)
  · split at hh
    · rename_i hf
      have := Nat.eq_of_beq_eq_true hf
      subst this
      cases hh
      exact pokSame (by kernel_rfl) (by kernel_rfl)
    · split at hh
      · rename_i hf
        have := Nat.eq_of_beq_eq_true hf
        subst this
        cases hh
        exact pokSameV (by kernel_rfl) (by kernel_rfl)
      · cases hh
theorem CL_sem : CallOK CL (semF CL) := sem_sound mixedA CL0_fs CL_prim
theorem has {f : FuncId} {K : KF} (h1 : cF Tryz.prog f = some K.forget) (h2 : fnOk Tryz.prog f = true) (h3 : K.ok = true) (hp : primL f = none) : Has CL f K := by
  refine ⟨?_,hp,rfl,h3⟩
  show (plainC Tryz.prog glT (fun _ => false) primT).fs f = _
  simp only [plainC,h2,h1]
theorem sameSl : SameSl CL f_slices_Clone_api_Hash_api_Hash 2 := fun n l σ hl hn hs => by
  rw [semF_eq]
  unfold funF
  have hb1 : Nat.beq l.length (n * 2) = true := by rw [hl]; exact Nat.beq_refl _
  have hb2 : Nat.ble n 1099511627776 = true := Nat.ble_eq_true_of_le hn
  show pSame 2 [.sl n l] σ = _
  simp only [pSame,andR_is,hb1,hb2,hs,Bool.and_self]
theorem sameSlV : SameSl CL f_slices_Clone_api_Verdict_api_Verdict 3 := fun n l σ hl hn hs => by
  rw [semF_eq]
  unfold funF
  have hb1 : Nat.beq l.length (n * 3) = true := by rw [hl]; exact Nat.beq_refl _
  have hb2 : Nat.ble n 1099511627776 = true := Nat.ble_eq_true_of_le hn
  show pSame 3 [.sl n l] σ = _
  simp only [pSame,andR_is,hb1,hb2,hs,Bool.and_self]
theorem awakeIs : ∀ σ,Ok σ → semF CL f_legatelaw27_awake [] σ = some (.bool true,σ) := fun σ _ => by
  rw [semF_eq]
  unfold funF
  rfl
theorem verHas : VerHas CL := ⟨has (by kernel_rfl) (by kernel_rfl) (by kernel_rfl) rfl,has (by kernel_rfl) (by kernel_rfl) (by kernel_rfl) rfl,sameSlV,has (by kernel_rfl) (by kernel_rfl) (by kernel_rfl) rfl,has (by kernel_rfl) (by kernel_rfl) (by kernel_rfl) rfl⟩
theorem nothHas : NothHas CL where
  pin := ⟨has (by kernel_rfl) (by kernel_rfl) (by kernel_rfl) rfl,has (by kernel_rfl) (by kernel_rfl) (by kernel_rfl) rfl,has (by kernel_rfl) (by kernel_rfl) (by kernel_rfl) rfl,sameSl,has (by kernel_rfl) (by kernel_rfl) (by kernel_rfl) rfl,has (by kernel_rfl) (by kernel_rfl) (by kernel_rfl) rfl⟩
  long := ⟨has (by kernel_rfl) (by kernel_rfl) (by kernel_rfl) rfl,has (by kernel_rfl) (by kernel_rfl) (by kernel_rfl) rfl,has (by kernel_rfl) (by kernel_rfl) (by kernel_rfl) rfl⟩
  lby := ⟨has (by kernel_rfl) (by kernel_rfl) (by kernel_rfl) rfl,has (by kernel_rfl) (by kernel_rfl) (by kernel_rfl) rfl,has (by kernel_rfl) (by kernel_rfl) (by kernel_rfl) rfl,has (by kernel_rfl) (by kernel_rfl) (by kernel_rfl) rfl⟩
  verd := has (by kernel_rfl) (by kernel_rfl) (by kernel_rfl) rfl
  lng := has (by kernel_rfl) (by kernel_rfl) (by kernel_rfl) rfl
  role := ⟨has (by kernel_rfl) (by kernel_rfl) (by kernel_rfl) rfl,has (by kernel_rfl) (by kernel_rfl) (by kernel_rfl) rfl,has (by kernel_rfl) (by kernel_rfl) (by kernel_rfl) rfl,has (by kernel_rfl) (by kernel_rfl) (by kernel_rfl) rfl,has (by kernel_rfl) (by kernel_rfl) (by kernel_rfl) rfl⟩
  same := has (by kernel_rfl) (by kernel_rfl) (by kernel_rfl) rfl
  hashes := has (by kernel_rfl) (by kernel_rfl) (by kernel_rfl) rfl
  awake := awakeIs
  ver := makesVer verHas
  law := has (by kernel_rfl) (by kernel_rfl) (by kernel_rfl) rfl
theorem nothLaw (b : Bool × List VerdV) (p : PinV) (a : AuthV) (ks : List KeyV) (now : Int) (data : List UInt8) (size : Int) (s : SnapV) (r : List UInt8) (most : Int) : semF CL f_legatelaw27_CheckNothing [.agg (byA b.1 b.2),.agg p.cs,.agg a.cs,.sl ks.length (ks.flatMap KeyV.cs),.int .i64 now,.str data,.int .i64 size,.agg (snapC s),.str r,.int .i64 most] [] = some (.bool true,[]) :=
  law27_CheckNothing nothHas b.1 b.2 p a ks now data size s r most [] ok0
end
/-- what arguments read as -/
theorem rdHash {T : Nat → Bool} {W : World} : Rd T Tryz.prog W 109 (fun _ : HashV => True) HashV.cs :=
  (rd_struct Tryz.underlying109 (by kernel_rfl) (rdF_cons rfl (rd_str Tryz.underlying9) (rdF_cons (by kernel_rfl) (rd_str Tryz.underlying9) rdF_nil))).map (fun x => ⟨x.1,x.2.1⟩) (fun _ _ => trivial) (fun _ => rfl)
theorem rdPin {T : Nat → Bool} {W : World} : Rd T Tryz.prog W 27 (fun _ : PinV => True) PinV.cs :=
  (rd_struct Tryz.underlying27 (by kernel_rfl) (rdF_cons rfl (rd_str Tryz.underlying9) (rdF_cons (by kernel_rfl) (rd_int Tryz.underlying2) (rdF_cons (by kernel_rfl) (rd_int Tryz.underlying2) (rdF_cons (by kernel_rfl) (rd_slice Tryz.underlying25 (by kernel_rfl) HashV.len (by decide) (fun x => noB (l := HashV.cs x) rfl) rdHash) rdF_nil))))).map (fun x => ⟨x.1,x.2.1,x.2.2.1,x.2.2.2.1⟩) (fun _ _ => trivial) (fun _ => rfl)
theorem rdSnap {T : Nat → Bool} {W : World} : Rd T Tryz.prog W 34 (fun _ : SnapV => True) snapC :=
  (rd_struct Tryz.underlying34 (by kernel_rfl) (rdF_cons rfl (rd_int Tryz.underlying2) (rdF_cons (by kernel_rfl) (rd_int Tryz.underlying2) (rdF_cons (by kernel_rfl) (rd_slice Tryz.underlying32 (by kernel_rfl) PinV.len (by decide) (fun x => noB (l := PinV.cs x) rfl) rdPin) rdF_nil)))).map (fun x => ⟨x.1,x.2.1,x.2.2.1⟩) (fun _ _ => trivial) (fun _ => rfl)
theorem rdVerd {T : Nat → Bool} {W : World} : Rd T Tryz.prog W 112 (fun _ : VerdV => True) VerdV.cs :=
  (rd_struct Tryz.underlying112 (by kernel_rfl) (rdF_cons rfl (rd_str Tryz.underlying9) (rdF_cons (by kernel_rfl) (rd_str Tryz.underlying9) (rdF_cons (by kernel_rfl) (rd_str Tryz.underlying9) rdF_nil)))).map (fun x => ⟨x.1,x.2.1,x.2.2.1⟩) (fun _ _ => trivial) (fun _ => rfl)
theorem rdBy {T : Nat → Bool} {W : World} : Rd T Tryz.prog W 24 (fun _ : Bool × List VerdV => True) (fun b => byA b.1 b.2) :=
  (rd_struct Tryz.underlying24 (by kernel_rfl) (rdF_cons rfl (rd_bool Tryz.underlying4) (rdF_cons (by kernel_rfl) (rd_slice Tryz.underlying22 (by kernel_rfl) VerdV.len (by decide) (fun x => noB (l := VerdV.cs x) rfl) rdVerd) rdF_nil))).map (fun x => (x.1,x.2.1)) (fun _ _ => trivial) (fun _ => rfl)
theorem rdAuth {T : Nat → Bool} {W : World} : Rd T Tryz.prog W 30 (fun _ : AuthV => True) AuthV.cs :=
  (rd_struct Tryz.underlying30 (by kernel_rfl) (rdF_cons rfl (rd_int Tryz.underlying3) (rdF_cons (by kernel_rfl) (rd_slice (f := strC) Tryz.underlying28 (by kernel_rfl) (fun _ => rfl) (by decide) (fun x => noB (l := strC x) rfl) (rd_str Tryz.underlying9)) rdF_nil))).map (fun x => ⟨x.1,x.2.1⟩) (fun _ _ => trivial) (fun _ => rfl)
theorem rdKey {T : Nat → Bool} {W : World} : Rd T Tryz.prog W 68 (fun _ : KeyV => True) KeyV.cs :=
  (rd_struct Tryz.underlying68 (by kernel_rfl) (rdF_cons rfl (rd_str Tryz.underlying9) (rdF_cons (by kernel_rfl) (rd_str Tryz.underlying9) rdF_nil))).map (fun x => ⟨x.1,x.2.1⟩) (fun _ _ => trivial) (fun _ => rfl)
theorem rdKeys {T : Nat → Bool} {W : World} : Rd T Tryz.prog W 31 (fun xs : List KeyV => xs.length ≤ maxLen ∧ ∀ x ∈ xs,True) (fun xs => [.sl xs.length (xs.flatMap KeyV.cs)]) :=
  rd_slice (k := 2) Tryz.underlying31 (by kernel_rfl) (fun _ => rfl) (by decide) (fun x => noB (l := KeyV.cs x) rfl) rdKey
end Go.Proofs.YtlmipikebibmaaaGreatDoor

