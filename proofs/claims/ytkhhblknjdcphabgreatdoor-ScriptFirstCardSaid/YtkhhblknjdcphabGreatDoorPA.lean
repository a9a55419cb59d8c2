/- The law returns true, in the world that its row tells. No conditions. -/
import Derived.Test.YtkhhblknjdcphabGreatDoorRows
import Derived.Test.YtkhhblknjdcphabGreatDoorCards
import Derived.Test.YtkhhblknjdcphabGreatDoorTie
import Derived.Test.YtkhhblknjdcphabGreatDoorED
import Derived.Test.YtkhhblknjdcphabGreatDoorTA
import Derived.WalkKit
import Derived.ProofKit
import Derived.OpenShut
import Derived.ShutString
import Derived.ChangeOld
import Derived.Below
import Derived.LaidMore
import Derived.Stop.Joined
import Derived.SevenTiedAt
namespace Go.Proofs.YtkhhblknjdcphabGreatDoor.law
open Go.ChangeShapes Go.WideShapes Go.ChangeAt Go.RowKit Go.Ev
set_option linter.unusedVariables false
set_option maxRecDepth 1000000
set_option maxHeartbeats 40000000
theorem own : ownKnob Tryz.prog.godebug = none:=by kernel_rfl
theorem door_met (os : Os) (args : Array Value) : laidMetH Tryz.prog Rows.scriptFirstRow.laid ((World.doorLaid Tryz.prog 400 os).forCall (fun _ _=>0) ⟨#[],args,[]⟩).memory:=
 laidMetH_of_parts3 (fuel:=8) (laidMet_of_run' 8 (by kernel_rfl) (by kernel_rfl)) (by kernel_rfl) (by kernel_rfl)
theorem errs {W : World} (h : laidMetH Tryz.prog Rows.scriptFirstRow.laid W) : ∃ e1 e2,isIf e1 = true ∧ isIf e2 = true ∧ ∀ g l,(CL e1 e2).gl g = some l → Tab W g l:=by
 rw [MakeChecks.laidMetH_plain _ _ _ (by kernel_rfl)] at h
 obtain ⟨u1,t1⟩:=laid_err h (n:=(Rows.scriptFirstRow.laid.getD 4 default).1) (name:= "*errors.errorString") (s:=[118,97,108,117,101,32,111,117,116,32,111,102,32,114,97,110,103,101]) (g:=g_strconv_ErrRange) (t:=72) (List.mem_of_getElem? (i:=4) (by kernel_rfl)) (by kernel_rfl) (by kernel_rfl) Tryz.underlying72
 obtain ⟨u2,t2⟩:=laid_err h (n:=(Rows.scriptFirstRow.laid.getD 5 default).1) (name:= "*errors.errorString") (s:=[105,110,118,97,108,105,100,32,115,121,110,116,97,120]) (g:=g_strconv_ErrSyntax) (t:=72) (List.mem_of_getElem? (i:=5) (by kernel_rfl)) (by kernel_rfl) (by kernel_rfl) Tryz.underlying72
 refine ⟨.iface u1 (.eptr []),.iface u2 (.eptr []),rfl,rfl,fun g l hg=>?_⟩
 change glE _ _ g = some l at hg
 unfold glE at hg
 split at hg
 ·rename_i hb
  have:=Nat.eq_of_beq_eq_true hb
  subst this
  cases hg
  exact t1
 ·split at hg
  ·rename_i hb
   have:=Nat.eq_of_beq_eq_true hb
   subst this
   cases hg
   exact t2
  ·cases hg
theorem fnLaw : IsFn Tryz.prog 3:=⟨_,Tryz.func3,by decide,rfl⟩
theorem laidOut : laidOutB Tryz.prog = true:=by kernel_rfl
theorem lifted (os : Os) (started : os.Started) (H : Type) (enc : TypeId × Value → H) :
  ReturnsInHanded {} Tryz.checked os 3 .any (fun w args=>(Rows.scriptFirstSpec.pre enc Tryz.prog Tryz.f3 [] false w args ∧ laidMetH Tryz.prog Rows.scriptFirstRow.laid w) ∧ sizedMet enc Tryz.prog Tryz.f3 (OpenSpec.ofChange Rows.scriptFirstSpec) false w args)
   (Rows.scriptFirstSpec.post enc Tryz.prog Tryz.f3 false true false false):=by
 refine returnsInHanded_of_change_and (C:=Tryz.checked) (X:=fun w _=>laidMetH Tryz.prog Rows.scriptFirstRow.laid w) (fun _ _ _ hh h=>h.of_heap hh) own started (by kernel_rfl) Tryz.func3
  (ChangeSpec.witness_shaped (enc:=enc) (C:=Tryz.checked) (os:=os) (X:=fun w _=>laidMetH Tryz.prog Rows.scriptFirstRow.laid w) false (World.doorLaid Tryz.prog 400 os) #[.string ByteArray.empty,.string ByteArray.empty] 8 rfl (World.shaped_of_RefB (by kernel_rfl) (by kernel_rfl)) (by kernel_rfl) (by kernel_rfl) (by kernel_rfl) (door_met os _)) ?_
 intro W base args ds gs before hval0 hW _ _ hL _
 have hval : ∀ (j : Nat) t v,Tryz.f3.params[j]? = some t → args[j]? = some v → Value.okWide Tryz.prog W .any base t v:=hval0
 have hW':= hW
 obtain ⟨p,q,hA0,hV,rfl,hfz,hnd⟩:=hW
 have hA : DataW.TrodAll enc Tryz.prog W 0 (fun _=>true) true Tryz.f3.params.toList args.toList ds p:=hA0
 rw [Tryz.params3] at hA hval
 have hA1:=hA
 obtain ⟨v0,l0,d0,m0,p0,q0,e0,rfl,rfl,h0,hA1⟩:=trodAll_cons hA1
 obtain ⟨v1,l1,d1,m1,p1,q1,rfl,rfl,rfl,h1,hA1⟩:=trodAll_cons hA1
 obtain ⟨rfl,rfl,rfl⟩:=trodAll_nil hA1
 have hargs : args = #[v0,v1]:=by cases args; simp_all
 subst hargs
 obtain ⟨rfl,rfl⟩:=trodVars_none hV
 clear hA0 hval0
 obtain ⟨e1,e2,i1,i2,tb⟩:=errs hL
 obtain ⟨a0,_,r0⟩:=arg_one (T:=tabB (CL e1 e2)) (f:=AV.str) (na_str Tryz.underlying9) (hval 0 _ v0 rfl rfl) (rd_str Tryz.underlying9) h0
 obtain ⟨a1,_,r1⟩:=arg_one (T:=tabB (CL e1 e2)) (f:=AV.str) (na_str Tryz.underlying9) (hval 1 _ v1 rfl rfl) (rd_str Tryz.underlying9) h1
 have lt:=fun x hx=>hW'.lt x hx
 refine (calls_open (CL_sem i1 i2) fnLaw rfl (firstLaw e1 e2 a0 a1) tb (.cons _ _ _ _ r0 (.cons _ _ _ _ r1 .nil))).mono fun e W' ⟨he,bel⟩=>?_
 subst he
 exact ⟨_,rfl,_,_,_,[],_,[],hW',trodAll_mk1 (shut_bool Tryz.underlying4 _),trodAll_below laidOut bel (by kernel_rfl) hA (fun x hx=>lt x (by simpa using hx)),rfl,bel.frame _,fun h=>by cases h⟩
end Go.Proofs.YtkhhblknjdcphabGreatDoor.law
