/- Law CheckClock of legate/legatelaw27: the law returns true. For any verifier, pin, authority, keys, two clocks, bytes, size and root: contracts of the functions, in an evaluator that is proved sound; its examples by the kernel. -/
import Derived.Test.YtegpahkgmealkaaGreatDoorRows
import Derived.Test.YtegpahkgmealkaaGreatDoorCards
import Derived.Test.YtegpahkgmealkaaGreatDoorTie
import Derived.Test.YtegpahkgmealkaaGreatDoorEC
import Derived.Test.YtegpahkgmealkaaGreatDoorTG
import Derived.WalkKit
import Derived.ProofKit
import Derived.OpenShut
import Derived.ShutString
import Derived.ChangeOld
import Derived.Below
import Derived.LaidMore
import Derived.Stop.Joined
import Derived.SevenTiedAt
namespace Go.Proofs.YtegpahkgmealkaaGreatDoor.law
open Go.ChangeShapes Go.WideShapes Go.ChangeAt Go.RowKit Go.Ev
set_option linter.unusedVariables false
set_option maxRecDepth 1000000
set_option maxHeartbeats 40000000
theorem own:ownKnob Tryz.prog.godebug=none:=by kernel_rfl
theorem door_met(os:Os)(args:Array Value):laidMetH Tryz.prog Rows.checkClockRow.laid ((World.doorLaid Tryz.prog 400 os).forCall (fun _ _=>0) ⟨#[],args,[]⟩).memory:=
 laidMetH_of_parts3 (fuel:=8) (laidMet_of_run' 8 (by kernel_rfl) (by kernel_rfl)) (by kernel_rfl) (by kernel_rfl)
theorem tabs{W:World}(h:laidMetH Tryz.prog Rows.checkClockRow.laid W):∀g l,CC.gl g=some l->Tab W g l:=by
 rw[MakeChecks.laidMetH_plain _ _ _ (by kernel_rfl)]at h
 intro g l hg;change glT g=some l at hg;unfold glT at hg;split at hg
 ·rename_i hb;have:=Nat.eq_of_beq_eq_true hb;subst this;cases hg;exact Gg (CE h (N:=15) (l:=[48,49,50,51,52,53,54,55,56,57,97,98,99,100,101,102]) (n:=(Rows.checkClockRow.laid.getD 0 default).1) (t:=262) (e:=5) (k:=.u8) (List.mem_of_getElem? (i:=0) (by kernel_rfl)) (by kernel_rfl) (by kernel_rfl) (by kernel_rfl) (by kernel_rfl) (by kernel_rfl) (by kernel_rfl) (by kernel_rfl)) (by kernel_rfl)
 ·split at hg
  ·rename_i hb;have:=Nat.eq_of_beq_eq_true hb;subst this;cases hg;exact Gg (CE h (N:=7) (l:=[1779033703,3144134277,1013904242,2773480762,1359893119,2600822924,528734635,1541459225]) (n:=(Rows.checkClockRow.laid.getD 6 default).1) (t:=346) (e:=328) (k:=.u32) (List.mem_of_getElem? (i:=6) (by kernel_rfl)) (by kernel_rfl) (by kernel_rfl) (by kernel_rfl) (by kernel_rfl) (by kernel_rfl) (by kernel_rfl) (by kernel_rfl)) (by kernel_rfl)
  ·split at hg
   ·rename_i hb;have:=Nat.eq_of_beq_eq_true hb;subst this;cases hg;exact Gg (CE h (N:=63) (l:=kR.map fun x=>(x.toNat:Int)) (n:=(Rows.checkClockRow.laid.getD 7 default).1) (t:=387) (e:=328) (k:=.u32) (List.mem_of_getElem? (i:=7) (by kernel_rfl)) (by kernel_rfl) (by kernel_rfl) (by kernel_rfl) (by kernel_rfl) (by kernel_rfl) (by kernel_rfl) (by kernel_rfl)) (by kernel_rfl)
   ·split at hg
    ·rename_i hb;have:=Nat.eq_of_beq_eq_true hb;subst this;cases hg;exact aiH (aeI h (N:=2) (l:=[[114,111,111,116],[115,110,97,112,115,104,111,116],[116,97,114,103,101,116,115]]) (n:=(Rows.checkClockRow.laid.getD 9 default).1) (t:=130) (e:=9) (List.mem_of_getElem? (i:=9) (by kernel_rfl)) (by kernel_rfl) (by kernel_rfl) (by kernel_rfl) (by kernel_rfl) (by kernel_rfl) (by kernel_rfl) (by kernel_rfl)) (by kernel_rfl)
    ·split at hg
     ·rename_i hb;have:=Nat.eq_of_beq_eq_true hb;subst this;cases hg;exact Gg (CE h (N:=12) (l:=[0,31,59,90,120,151,181,212,243,273,304,334,365]) (n:=(Rows.checkClockRow.laid.getD 8 default).1) (t:=223) (e:=3) (k:=.i64) (List.mem_of_getElem? (i:=8) (by kernel_rfl)) (by kernel_rfl) (by kernel_rfl) (by kernel_rfl) (by kernel_rfl) (by kernel_rfl) (by kernel_rfl) (by kernel_rfl)) (by kernel_rfl)
     ·split at hg
      ·rename_i hb;have:=Nat.eq_of_beq_eq_true hb;subst this;cases hg;exact Gg (CE h (N:=19) (l:=[1,10,100,1000,10000,100000,1000000,10000000,100000000,1000000000,10000000000,100000000000,1000000000000,10000000000000,100000000000000,1000000000000000,10000000000000000,100000000000000000,1000000000000000000,10000000000000000000]) (n:=(Rows.checkClockRow.laid.getD 3 default).1) (t:=410) (e:=330) (k:=.u64) (List.mem_of_getElem? (i:=3) (by kernel_rfl)) (by kernel_rfl) (by kernel_rfl) (by kernel_rfl) (by kernel_rfl) (by kernel_rfl) (by kernel_rfl) (by kernel_rfl)) (by kernel_rfl)
      ·cases hg
theorem anP:EG Tryz.prog 3:=⟨_,Tryz.func3,by decide,rfl⟩
theorem laidOut:laidOutB Tryz.prog=true:=by kernel_rfl
theorem errs{W:World}(h:laidMetH Tryz.prog Rows.checkClockRow.laid W):∃u1 u2,∀g l,(CL u1 u2).gl g=some l->Tab W g l:=by
 have ht:=tabs h;rw[MakeChecks.laidMetH_plain _ _ _ (by kernel_rfl)]at h
 obtain⟨u1,t1⟩:=ZL h (n:=(Rows.checkClockRow.laid.getD 4 default).1) (name:= "*errors.errorString") (s:=[118,97,108,117,101,32,111,117,116,32,111,102,32,114,97,110,103,101]) (g:=pO) (t:=250) (List.mem_of_getElem? (i:=4) (by kernel_rfl)) (by kernel_rfl) (by kernel_rfl) Tryz.underlying250
 obtain⟨u2,t2⟩:=ZL h (n:=(Rows.checkClockRow.laid.getD 5 default).1) (name:= "*errors.errorString") (s:=[105,110,118,97,108,105,100,32,115,121,110,116,97,120]) (g:=nX) (t:=250) (List.mem_of_getElem? (i:=5) (by kernel_rfl)) (by kernel_rfl) (by kernel_rfl) Tryz.underlying250
 refine⟨u1,u2,fun g l hg=>?_⟩;change glX _ _ g=some l at hg;unfold glX at hg;split at hg
 ·rename_i hb;have:=Nat.eq_of_beq_eq_true hb;subst this;cases hg;exact t1
 ·split at hg
  ·rename_i hb;have:=Nat.eq_of_beq_eq_true hb;subst this;cases hg;exact t2
  ·exact ht g l hg
theorem apB{n:Int}(h:(Lit.int .u16 n).wf=true):0<=n/\n<=65535:=by
 simp only[Lit.wf,Bool.and_eq_true,decide_eq_true_eq]at h;exact h
theorem lifted (os:Os) (started:os.Started) (H:Type) (enc:TypeId×Value->H):
  ReturnsInHanded {} Tryz.checked os 3 .any (fun w args=>(Rows.checkClockSpec.pre enc Tryz.prog Tryz.f3 [] false w args/\laidMetH Tryz.prog Rows.checkClockRow.laid w)/\sizedMet enc Tryz.prog Tryz.f3 (OpenSpec.ofChange Rows.checkClockSpec) false w args)
   (Rows.checkClockSpec.post enc Tryz.prog Tryz.f3 false true false false):=by
 refine returnsInHanded_of_change_and (C:=Tryz.checked) (X:=fun w _=>laidMetH Tryz.prog Rows.checkClockRow.laid w) (fun _ _ _ hh h=>h.of_heap hh) own started (by kernel_rfl) Tryz.func3
  (ChangeSpec.witness_shaped (enc:=enc) (C:=Tryz.checked) (os:=os) (X:=fun w _=>laidMetH Tryz.prog Rows.checkClockRow.laid w) false (World.doorLaid Tryz.prog 400 os) #[.agg #[.bool false,.slice none 0 0],.agg #[.string ByteArray.empty,.int .i64 0,.int .i64 0,.slice none 0 0],.agg #[.int .i64 0,.slice none 0 0],.slice none 0 0,.int .i64 0,.int .i64 0,.string ByteArray.empty,.int .i64 0,.agg #[.int .i64 0,.int .i64 0,.slice none 0 0,.int .i64 0,.slice none 0 0,.int .i64 0,.slice none 0 0,.int .i64 0,.slice none 0 0]] 8 rfl (World.shaped_of_RefB (by kernel_rfl) (by kernel_rfl)) (by kernel_rfl) (by kernel_rfl) (by kernel_rfl) (door_met os _)) ?_
 intro W base args ds gs before hval0 hW _ _ hL _;have hval:∀(j:Nat) t v,Tryz.f3.params[j]?=some t->args[j]?=some v->Value.okWide Tryz.prog W .any base t v:=hval0;have hW':=hW;obtain⟨p,q,hA0,hV,rfl,hfz,hnd⟩:=hW;have hA:DataW.TrodAll enc Tryz.prog W 0 (fun _=>true) true Tryz.f3.params.toList args.toList ds p:=hA0;rw[Tryz.params3]at hA hval;have hA1:=hA;obtain⟨v0,l0,d0,m0,p0,q0,e0,rfl,rfl,h0,hA1⟩:=trodAll_cons hA1;obtain⟨v1,l1,d1,m1,p1,q1,rfl,rfl,rfl,h1,hA1⟩:=trodAll_cons hA1;obtain⟨v2,l2,d2,m2,p2,q2,rfl,rfl,rfl,h2,hA1⟩:=trodAll_cons hA1;obtain⟨v3,l3,d3,m3,p3,q3,rfl,rfl,rfl,h3,hA1⟩:=trodAll_cons hA1;obtain⟨v4,l4,d4,m4,p4,q4,rfl,rfl,rfl,h4,hA1⟩:=trodAll_cons hA1;obtain⟨v5,l5,d5,m5,p5,q5,rfl,rfl,rfl,h5,hA1⟩:=trodAll_cons hA1;obtain⟨v6,l6,d6,m6,p6,q6,rfl,rfl,rfl,h6,hA1⟩:=trodAll_cons hA1;obtain⟨v7,l7,d7,m7,p7,q7,rfl,rfl,rfl,h7,hA1⟩:=trodAll_cons hA1;obtain⟨v8,l8,d8,m8,p8,q8,rfl,rfl,rfl,h8,hA1⟩:=trodAll_cons hA1;obtain⟨rfl,rfl,rfl⟩:=trodAll_nil hA1;have hargs:args=#[v0,v1,v2,v3,v4,v5,v6,v7,v8]:=by cases args;simp_all
 subst hargs;obtain⟨rfl,rfl⟩:=trodVars_none hV;clear hA0 hval0;obtain⟨e1,e2,tb⟩:=errs hL;obtain⟨a0,c0,r0⟩:=Qg (T:=Ii (CL e1 e2)) Tryz.underlying24 (hval 0 _ v0 rfl rfl) apu h0;obtain⟨a1,c1,r1⟩:=Qg (T:=Ii (CL e1 e2)) Tryz.underlying27 (hval 1 _ v1 rfl rfl) aoH h1;obtain⟨a2,c2,r2⟩:=Qg (T:=Ii (CL e1 e2)) Tryz.underlying30 (hval 2 _ v2 rfl rfl) Yg h2;obtain⟨a3,_,r3⟩:=J7 (T:=Ii (CL e1 e2)) (f:=fun xs:List PS=>AV.sl xs.length (xs.flatMap pC)) (ahD Tryz.underlying31) (hval 3 _ v3 rfl rfl) ai5 h3;obtain⟨a4,_,r4⟩:=J7 (T:=Ii (CL e1 e2)) (f:=AV.int .i64) (abJ Tryz.underlying2) (hval 4 _ v4 rfl rfl) (FX Tryz.underlying2) h4;obtain⟨a5,_,r5⟩:=J7 (T:=Ii (CL e1 e2)) (f:=AV.int .i64) (abJ Tryz.underlying2) (hval 5 _ v5 rfl rfl) (FX Tryz.underlying2) h5;obtain⟨a6,_,r6⟩:=J7 (T:=Ii (CL e1 e2)) (f:=AV.str) (amn Tryz.underlying9) (hval 6 _ v6 rfl rfl) (Cc Tryz.underlying9) h6;obtain⟨a7,_,r7⟩:=J7 (T:=Ii (CL e1 e2)) (f:=AV.int .i64) (abJ Tryz.underlying3) (hval 7 _ v7 rfl rfl) (FX Tryz.underlying3) h7;obtain⟨a8,c8,r8⟩:=Qg (T:=Ii (CL e1 e2)) Tryz.underlying33 (hval 8 _ v8 rfl rfl) amN h8;have lt:=fun x hx=>hW'.lt x hx;refine(ab3 alh anP rfl (ag7 e1 e2 a0 a1 a2 a3 a4 a5 a6 a7 a8) tb (.cons _ _ _ _ r0 (.cons _ _ _ _ r1 (.cons _ _ _ _ r2 (.cons _ _ _ _ r3 (.cons _ _ _ _ r4 (.cons _ _ _ _ r5 (.cons _ _ _ _ r6 (.cons _ _ _ _ r7 (.cons _ _ _ _ r8 .nil)))))))))).mono fun e W' ⟨he,bel⟩=>?_;subst he;exact⟨_,rfl,_,_,_,[],_,[],hW',trodAll_mk1 (shut_bool Tryz.underlying4 _),IW laidOut bel (by kernel_rfl) hA (fun x hx=>lt x (by simpa using hx)),rfl,bel.frame _,fun h=>by cases h⟩
theorem gU{a b:Bool}(ha:a=true)(hb:b=true):(a&&b)=true:=by rw[ha,hb];rfl
theorem closed:joinedFacts Tryz.pinned.checked.prog 3 Tryz.f3 Rows.checkClockSpec Rows.checkClockRow=true:=by
 unfold joinedFacts;refine gU (gU (gU (gU (gU (gU (gU (gU (gU (gU (gU (gU (gU (gU (gU (gU (gU (gU (gU (gU (gU (gU (gU (gU (gU (gU (gU (gU (gU (gU (gU ?_ ?_) ?_) ?_) ?_) ?_) ?_) ?_) ?_) ?_) ?_) ?_) ?_) ?_) ?_) ?_) ?_) ?_) ?_) ?_) ?_) ?_) ?_) ?_) ?_) ?_) ?_) ?_) ?_) ?_) ?_) ?_;all_goals (as_aux_lemma=>kernel_rfl)
theorem af8:Rows.checkClockRow.holds Tryz.pinned (OpenSpec.ofChange Rows.checkClockSpec):=
 OpenClaim.holds_of_wide 3 Tryz.f3 rfl rfl rfl rfl rfl rfl rfl ⟨rfl,rfl,rfl,rfl,rfl⟩ rfl rfl rfl rfl rfl (by as_aux_lemma=>kernel_rfl) Tryz.func3 closed
  (of_decide_eq_true (by as_aux_lemma=>kernel_rfl)) (by unfold Func.isWrapper;first|(rw[if_pos (by decide+kernel)];kernel_rfl)|(rw[if_neg (by decide+kernel)];exact⟨rfl,rfl⟩))
  (fun os started H enc _=>lifted os started H enc)
theorem proved:Rows.CheckClockCardSaid:=
 Claim7.holds_tied_plain_at .later [] Rows.checkClockCard.laidKinds true Rows.checkClockCard.stood.harness true
  af8 (fun _ h=>by cases h) (by as_aux_lemma=>kernel_rfl) (fun _ h=>by cases h) checkClock_row_tie rfl ⟨rfl,rfl⟩ (by as_aux_lemma=>kernel_rfl) rfl
  (fun f fn hf hfn=>by
   obtain rfl:f=3:=Option.some.inj ((show Tryz.prog.funcNamed Tryz.f3.name=some 3 by kernel_rfl).symm.trans hf)|>.symm
   obtain rfl:fn=Tryz.f3:=(Option.some.inj (Tryz.func3.symm.trans hfn)).symm;exact⟨by as_aux_lemma=>kernel_rfl,fun j t ht=>by
    rw[Tryz.params3]at ht;revert ht
    match j with
    |0|1|2|3|4|5|6|7|8=>intro ht;cases ht;kernel_rfl
    |k+9=>intro ht;simp at ht⟩)
  (by as_aux_lemma=>kernel_rfl)
end Go.Proofs.YtegpahkgmealkaaGreatDoor.law
