/- The law returns true, in the world that its row tells. No conditions. -/
import Derived.Test.YtdakkfjmclaciaaGreatDoorRows
import Derived.Test.YtdakkfjmclaciaaGreatDoorCards
import Derived.Test.YtdakkfjmclaciaaGreatDoorTie
import Derived.Test.YtdakkfjmclaciaaGreatDoorED
import Derived.Test.YtdakkfjmclaciaaGreatDoorTA
import Derived.WalkKit
import Derived.ProofKit
import Derived.OpenShut
import Derived.ShutString
import Derived.ChangeOld
import Derived.Below
import Derived.LaidMore
import Derived.Stop.Joined
import Derived.SevenTiedAt
namespace Go.Proofs.YtdakkfjmclaciaaGreatDoor.law
open Go.ChangeShapes Go.WideShapes Go.ChangeAt Go.RowKit Go.Ev
set_option linter.unusedVariables false
set_option maxRecDepth 1000000
set_option maxHeartbeats 40000000
theorem own : ownKnob Tryz.prog.godebug = none:=by kernel_rfl
theorem door_met (os : Os) (args : Array Value) : laidMetH Tryz.prog Rows.scriptShowsRow.laid ((World.doorLaid Tryz.prog 400 os).forCall (fun _ _=>0) ⟨#[],args,[]⟩).memory:=
 laidMetH_of_parts3 (fuel:=8) (laidMet_of_run' 8 (by kernel_rfl) (by kernel_rfl)) (by kernel_rfl) (by kernel_rfl)
theorem tabs {W : World} (h : laidMetH Tryz.prog Rows.scriptShowsRow.laid W) : ∀ g l,CL.gl g = some l → Tab W g l:=by
 rw [MakeChecks.laidMetH_plain _ _ _ (by kernel_rfl)] at h
 intro g l hg
 change glS g = some l at hg
 unfold glS at hg
 split at hg
 ·rename_i hb
  have:=Nat.eq_of_beq_eq_true hb
  subst this
  cases hg
  exact tab_ints (laid_ints h (N:=19) (l:=[1,10,100,1000,10000,100000,1000000,10000000,100000000,1000000000,10000000000,100000000000,1000000000000,10000000000000,100000000000000,1000000000000000,10000000000000000,100000000000000000,1000000000000000000,10000000000000000000]) (n:=(Rows.scriptShowsRow.laid.getD 3 default).1) (t:=171) (e:=129) (k:=.u64) (List.mem_of_getElem? (i:=3) (by kernel_rfl)) (by kernel_rfl) (by kernel_rfl) (by kernel_rfl) (by kernel_rfl) (by kernel_rfl) (by kernel_rfl) (by kernel_rfl)) (by kernel_rfl)
 ·cases hg
theorem fnLaw : IsFn Tryz.prog 3:=⟨_,Tryz.func3,by decide,rfl⟩
theorem laidOut : laidOutB Tryz.prog = true:=by kernel_rfl
theorem tabs' {W : World} (h : laidMetH Tryz.prog Rows.scriptShowsRow.laid W) : ∀ g l,CL.gl g = some l → Tab W g l:=tabs h
theorem lifted (os : Os) (started : os.Started) (H : Type) (enc : TypeId × Value → H) :
  ReturnsInHanded {} Tryz.checked os 3 .any (fun w args=>(Rows.scriptShowsSpec.pre enc Tryz.prog Tryz.f3 [] false w args ∧ laidMetH Tryz.prog Rows.scriptShowsRow.laid w) ∧ sizedMet enc Tryz.prog Tryz.f3 (OpenSpec.ofChange Rows.scriptShowsSpec) false w args)
   (Rows.scriptShowsSpec.post enc Tryz.prog Tryz.f3 false true false false):=by
 refine returnsInHanded_of_change_and (C:=Tryz.checked) (X:=fun w _=>laidMetH Tryz.prog Rows.scriptShowsRow.laid w) (fun _ _ _ hh h=>h.of_heap hh) own started (by kernel_rfl) Tryz.func3
  (ChangeSpec.witness_shaped (enc:=enc) (C:=Tryz.checked) (os:=os) (X:=fun w _=>laidMetH Tryz.prog Rows.scriptShowsRow.laid w) false (World.doorLaid Tryz.prog 400 os) #[.agg #[.string ByteArray.empty,.slice none 0 0,.int .i64 0,.bool false,.slice none 0 0,.int .i64 0,.int .i64 0,.int .i64 0,.int .i64 0,.slice none 0 0]] 8 rfl (World.shaped_of_RefB (by kernel_rfl) (by kernel_rfl)) (by kernel_rfl) (by kernel_rfl) (by kernel_rfl) (door_met os _)) ?_
 intro W base args ds gs before hval0 hW _ _ hL _
 have hval : ∀ (j : Nat) t v,Tryz.f3.params[j]? = some t → args[j]? = some v → Value.okWide Tryz.prog W .any base t v:=hval0
 have hW':= hW
 obtain ⟨p,q,hA0,hV,rfl,hfz,hnd⟩:=hW
 have hA : DataW.TrodAll enc Tryz.prog W 0 (fun _=>true) true Tryz.f3.params.toList args.toList ds p:=hA0
 rw [Tryz.params3] at hA hval
 have hA1:=hA
 obtain ⟨v0,l0,d0,m0,p0,q0,e0,rfl,rfl,h0,hA1⟩:=trodAll_cons hA1
 obtain ⟨rfl,rfl,rfl⟩:=trodAll_nil hA1
 have hargs : args = #[v0]:=by cases args; simp_all
 subst hargs
 obtain ⟨rfl,rfl⟩:=trodVars_none hV
 clear hA0 hval0
 obtain ⟨a0,c0,r0⟩:=arg_agg (T:=tabB CL) Tryz.underlying28 (hval 0 _ v0 rfl rfl) rdScr h0
 have lt:=fun x hx=>hW'.lt x hx
 refine (calls_open CL_sem fnLaw rfl (showsLaw a0 c0) (tabs' hL) (.cons _ _ _ _ r0 .nil)).mono fun e W' ⟨he,bel⟩=>?_
 subst he
 exact ⟨_,rfl,_,_,_,[],_,[],hW',trodAll_mk1 (shut_bool Tryz.underlying4 _),trodAll_below laidOut bel (by kernel_rfl) hA (fun x hx=>lt x (by simpa using hx)),rfl,bel.frame _,fun h=>by cases h⟩
end Go.Proofs.YtdakkfjmclaciaaGreatDoor.law
