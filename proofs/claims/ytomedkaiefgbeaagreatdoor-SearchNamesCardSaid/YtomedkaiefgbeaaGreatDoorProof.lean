/- Law SearchNames of legate/legatelaw29: the law returns true. It is run by an evaluator that is proved sound, in the kernel, piece by piece. -/
import Derived.Test.YtomedkaiefgbeaaGreatDoorRows
import Derived.Test.YtomedkaiefgbeaaGreatDoorCards
import Derived.Test.YtomedkaiefgbeaaGreatDoorTie
import Derived.Test.YtomedkaiefgbeaaGreatDoorEvD
import Derived.Test.YtomedkaiefgbeaaGreatDoorLL
import Derived.WalkKit
import Derived.ProofKit
import Derived.OpenShut
import Derived.ShutString
import Derived.ChangeOld
import Derived.Below
import Derived.LaidMore
import Derived.Stop.Joined
import Derived.SevenTiedAt
namespace Go.Proofs.YtomedkaiefgbeaaGreatDoor.law
open Go.ChangeShapes Go.WideShapes Go.ChangeAt Go.RowKit Go.Ev
set_option linter.unusedVariables false
set_option maxRecDepth 1000000
set_option maxHeartbeats 40000000
theorem own : ownKnob Tryz.prog.godebug = none:=by kernel_rfl
theorem door_met (os : Os) (args : Array Value) : laidMetH Tryz.prog Rows.searchNamesRow.laid ((World.doorLaid Tryz.prog 400 os).forCall (fun _ _=>0) ⟨#[],args,[]⟩).memory:=
 laidMetH_of_parts3 (fuel:=8) (laidMet_of_run' 8 (by kernel_rfl) (by kernel_rfl)) (by kernel_rfl) (by kernel_rfl)
theorem tabs {W : World} (h : laidMetH Tryz.prog Rows.searchNamesRow.laid W) : ∀ g l,CC.gl g = some l → Tab W g l:=by
 rw [MakeChecks.laidMetH_plain _ _ _ (by kernel_rfl)] at h
 intro g l hg
 change glT g = some l at hg
 unfold glT at hg
 split at hg
 ·rename_i hb
  have:=Nat.eq_of_beq_eq_true hb
  subst this
  cases hg
  exact d3e (c5h h (N:=15) (l:=[48,49,50,51,52,53,54,55,56,57,97,98,99,100,101,102]) (n:=(Rows.searchNamesRow.laid.getD 0 default).1) (t:=209) (e:=5) (k:=.u8) (List.mem_of_getElem? (i:=0) (by kernel_rfl)) (by kernel_rfl) (by kernel_rfl) (by kernel_rfl) (by kernel_rfl) (by kernel_rfl) (by kernel_rfl) (by kernel_rfl)) (by kernel_rfl)
 ·split at hg
  ·rename_i hb
   have:=Nat.eq_of_beq_eq_true hb
   subst this
   cases hg
   exact d3e (c5h h (N:=7) (l:=[1779033703,3144134277,1013904242,2773480762,1359893119,2600822924,528734635,1541459225]) (n:=(Rows.searchNamesRow.laid.getD 6 default).1) (t:=286) (e:=285) (k:=.u32) (List.mem_of_getElem? (i:=6) (by kernel_rfl)) (by kernel_rfl) (by kernel_rfl) (by kernel_rfl) (by kernel_rfl) (by kernel_rfl) (by kernel_rfl) (by kernel_rfl)) (by kernel_rfl)
  ·split at hg
   ·rename_i hb
    have:=Nat.eq_of_beq_eq_true hb
    subst this
    cases hg
    exact d3e (c5h h (N:=63) (l:=kR.map fun x=>(x.toNat : Int)) (n:=(Rows.searchNamesRow.laid.getD 7 default).1) (t:=366) (e:=285) (k:=.u32) (List.mem_of_getElem? (i:=7) (by kernel_rfl)) (by kernel_rfl) (by kernel_rfl) (by kernel_rfl) (by kernel_rfl) (by kernel_rfl) (by kernel_rfl) (by kernel_rfl)) (by kernel_rfl)
   ·split at hg
    ·rename_i hb
     have:=Nat.eq_of_beq_eq_true hb
     subst this
     cases hg
     exact i3h (i0h h (N:=2) (l:=[[114,111,111,116],[115,110,97,112,115,104,111,116],[116,97,114,103,101,116,115]]) (n:=(Rows.searchNamesRow.laid.getD 9 default).1) (t:=137) (e:=9) (List.mem_of_getElem? (i:=9) (by kernel_rfl)) (by kernel_rfl) (by kernel_rfl) (by kernel_rfl) (by kernel_rfl) (by kernel_rfl) (by kernel_rfl) (by kernel_rfl)) (by kernel_rfl)
    ·split at hg
     ·rename_i hb
      have:=Nat.eq_of_beq_eq_true hb
      subst this
      cases hg
      exact d3e (c5h h (N:=12) (l:=[0,31,59,90,120,151,181,212,243,273,304,334,365]) (n:=(Rows.searchNamesRow.laid.getD 8 default).1) (t:=264) (e:=3) (k:=.i64) (List.mem_of_getElem? (i:=8) (by kernel_rfl)) (by kernel_rfl) (by kernel_rfl) (by kernel_rfl) (by kernel_rfl) (by kernel_rfl) (by kernel_rfl) (by kernel_rfl)) (by kernel_rfl)
     ·split at hg
      ·rename_i hb
       have:=Nat.eq_of_beq_eq_true hb
       subst this
       cases hg
       exact d3e (c5h h (N:=19) (l:=[1,10,100,1000,10000,100000,1000000,10000000,100000000,1000000000,10000000000,100000000000,1000000000000,10000000000000,100000000000000,1000000000000000,10000000000000000,100000000000000000,1000000000000000000,10000000000000000000]) (n:=(Rows.searchNamesRow.laid.getD 3 default).1) (t:=461) (e:=289) (k:=.u64) (List.mem_of_getElem? (i:=3) (by kernel_rfl)) (by kernel_rfl) (by kernel_rfl) (by kernel_rfl) (by kernel_rfl) (by kernel_rfl) (by kernel_rfl) (by kernel_rfl)) (by kernel_rfl)
      ·cases hg
theorem j6j : IsFn Tryz.prog 3:=⟨_,Tryz.func3,by decide,rfl⟩
theorem walk {W : World} (h : laidMetH Tryz.prog Rows.searchNamesRow.laid W) : Calls Tryz.prog 3 #[] W fun e w'=>e = .returned (.bool true) ∧ Below W.heap.size W w':=
 h1u (C:=CC) j6j fin (tabs h)
theorem lifted (os : Os) (started : os.Started) (H : Type) (enc : TypeId × Value → H) :
  ReturnsInHanded {} Tryz.checked os 3 .any (fun w args=>(Rows.searchNamesSpec.pre enc Tryz.prog Tryz.f3 [] false w args ∧ laidMetH Tryz.prog Rows.searchNamesRow.laid w) ∧ sizedMet enc Tryz.prog Tryz.f3 (OpenSpec.ofChange Rows.searchNamesSpec) false w args)
   (Rows.searchNamesSpec.post enc Tryz.prog Tryz.f3 false true false false):=by
 refine returnsInHanded_of_change_and (C:=Tryz.checked) (X:=fun w _=>laidMetH Tryz.prog Rows.searchNamesRow.laid w) (fun _ _ _ hh h=>h.of_heap hh) own started (by kernel_rfl) Tryz.func3
  (ChangeSpec.witness_shaped (enc:=enc) (C:=Tryz.checked) (os:=os) (X:=fun w _=>laidMetH Tryz.prog Rows.searchNamesRow.laid w) false (World.doorLaid Tryz.prog 400 os) #[] 8 rfl (World.shaped_of_RefB (by kernel_rfl) (by kernel_rfl)) (by kernel_rfl) (by kernel_rfl) (by kernel_rfl) (door_met os _)) ?_
 intro W base args ds gs before hval0 hW _ _ hL _
 have hval : ∀ (j : Nat) t v,Tryz.f3.params[j]? = some t → args[j]? = some v → Value.okWide Tryz.prog W .any base t v:=hval0
 have hW':= hW
 obtain ⟨p,q,hA0,hV,rfl,hfz,hnd⟩:=hW
 have hA : DataW.TrodAll enc Tryz.prog W 0 (fun _=>true) true Tryz.f3.params.toList args.toList ds p:=hA0
 rw [Tryz.params3] at hA hval
 obtain ⟨rfl,rfl,rfl⟩:=trodAll_none hA
 obtain ⟨rfl,rfl⟩:=trodVars_none hV
 clear hA0 hval0
 refine (walk hL).mono fun e W' ⟨he,bel⟩=>?_
 subst he
 exact ⟨_,rfl,_,_,_,[],_,[],hW',trodAll_mk1 (shut_bool Tryz.underlying4 _),trodAll_mk0,rfl,bel.frame _,fun h=>by cases h⟩
theorem a3t {a b : Bool} (ha : a = true) (hb : b = true) : (a && b) = true:=by rw [ha,hb]; rfl
theorem closed : joinedFacts Tryz.pinned.checked.prog 3 Tryz.f3 Rows.searchNamesSpec Rows.searchNamesRow = true:=by
 unfold joinedFacts
 refine a3t (a3t (a3t (a3t (a3t (a3t (a3t (a3t (a3t (a3t (a3t (a3t (a3t (a3t (a3t (a3t (a3t (a3t (a3t (a3t (a3t (a3t (a3t (a3t (a3t (a3t (a3t (a3t (a3t (a3t (a3t ?_ ?_) ?_) ?_) ?_) ?_) ?_) ?_) ?_) ?_) ?_) ?_) ?_) ?_) ?_) ?_) ?_) ?_) ?_) ?_) ?_) ?_) ?_) ?_) ?_) ?_) ?_) ?_) ?_) ?_) ?_) ?_
 all_goals (as_aux_lemma=>kernel_rfl)
theorem i1p : Rows.searchNamesRow.holds Tryz.pinned (OpenSpec.ofChange Rows.searchNamesSpec):=
 OpenClaim.holds_of_wide 3 Tryz.f3 rfl rfl rfl rfl rfl rfl rfl ⟨rfl,rfl,rfl,rfl,rfl⟩ rfl rfl rfl rfl rfl (by as_aux_lemma=>kernel_rfl) Tryz.func3 closed
  (of_decide_eq_true (by as_aux_lemma=>kernel_rfl)) (by unfold Func.isWrapper; first | (rw [if_pos (by decide +kernel)]; kernel_rfl) | (rw [if_neg (by decide +kernel)]; exact ⟨rfl,rfl⟩))
  (fun os started H enc _=>lifted os started H enc)
theorem proved : Rows.SearchNamesCardSaid:=
 Claim7.holds_tied_plain_at .later [] Rows.searchNamesCard.laidKinds true Rows.searchNamesCard.stood.harness true
  i1p (fun _ h=>by cases h) (by as_aux_lemma=>kernel_rfl) (fun _ h=>by cases h) searchNames_row_tie rfl ⟨rfl,rfl⟩ (by as_aux_lemma=>kernel_rfl) rfl
  (fun f fn hf hfn=>by
   obtain rfl : f = 3:=Option.some.inj ((show Tryz.prog.funcNamed Tryz.f3.name = some 3 by kernel_rfl).symm.trans hf) |>.symm
   obtain rfl : fn = Tryz.f3:=(Option.some.inj (Tryz.func3.symm.trans hfn)).symm
   exact ⟨by as_aux_lemma=>kernel_rfl,fun j t ht=>by
    rw [Tryz.params3] at ht
    simp at ht⟩)
  (by as_aux_lemma=>kernel_rfl)
#print axioms proved
end Go.Proofs.YtomedkaiefgbeaaGreatDoor.law
