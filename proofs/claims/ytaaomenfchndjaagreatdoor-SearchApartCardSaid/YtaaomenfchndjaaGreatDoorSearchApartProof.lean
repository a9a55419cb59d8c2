/- Law SearchApart of legate/legatelaw29: the law returns true. For any case, two paths and bounds: contracts of the functions, in an evaluator that is proved sound; its examples by the kernel. -/
import Derived.Test.YtaaomenfchndjaaGreatDoorRows
import Derived.Test.YtaaomenfchndjaaGreatDoorCards
import Derived.Test.YtaaomenfchndjaaGreatDoorTie
import Derived.ProofKit
import Derived.ShutString
import Derived.ChangeOld
import Derived.Stop.Joined
import Derived.SevenTiedAt
import Derived.Test.YtaaomenfchndjaaGreatDoorLC
open Go.Proofs.Tryz renaming prog→a,underlying9→d,f6→i,underlying323→e,checked→k,func6→l,params6→n
open _root_ renaming rfl→c,decide_eq_true_eq→b
open ByteArray renaming empty→g
open Inhabited renaming default→f
open Go renaming laidMetH→y
namespace Go.Proofs.YtaaomenfchndjaaGreatDoor.law
open Option renaming none→U, some→J
open Go.IntKind renaming i64→r
open Bool renaming true→eT, false→eF
open Go.ChangeShapes Go.WideShapes Go.ChangeAt Go.RowKit Go.Ev
set_option linter.unusedVariables false
set_option maxRecDepth 1000000
set_option maxHeartbeats 40000000
theorem own:ownKnob Tryz.prog.godebug=U:=by kernel_rfl
theorem door_met(os:Os)(args:Array Value):y a Rows.searchApartRow.laid ((World.doorLaid a 400 os).forCall (fun _ _=>0) ⟨#[],args,[]⟩).memory:=
 laidMetH_of_parts3 (fuel:=8) (laidMet_of_run' 8 (by kernel_rfl) (by kernel_rfl)) (by kernel_rfl) (by kernel_rfl)
theorem tabs{W:World}(h:y a Rows.searchApartRow.laid W):∀g l,CC.gl g=J l->Tab W g l:=by
 rw[MakeChecks.laidMetH_plain _ _ _ (by kernel_rfl)]at h;intro g l hg;change glT g=J l at hg;unfold glT at hg;split at hg;·rename_i hb;have:=a95 hb;subst this;cases hg;exact mZ (jS h (N:=15) (l:=[48,49,50,51,52,53,54,55,56,57,97,98,99,100,101,102]) (n:=(Rows.searchApartRow.laid.getD 0 f).1) (t:=265) (e:=5) (k:=.u8) (a06 (i:=0) (by kernel_rfl)) (by kernel_rfl) (by kernel_rfl) (by kernel_rfl) (by kernel_rfl) (by kernel_rfl) (by kernel_rfl) (by kernel_rfl)) (by kernel_rfl)
 ·split at hg;·rename_i hb;have:=a95 hb;subst this;cases hg;exact mZ (jS h (N:=7) (l:=[1779033703,3144134277,1013904242,2773480762,1359893119,2600822924,528734635,1541459225]) (n:=(Rows.searchApartRow.laid.getD 6 f).1) (t:=340) (e:=294) (k:=.u32) (a06 (i:=6) (by kernel_rfl)) (by kernel_rfl) (by kernel_rfl) (by kernel_rfl) (by kernel_rfl) (by kernel_rfl) (by kernel_rfl) (by kernel_rfl)) (by kernel_rfl)
  ·split at hg;·rename_i hb;have:=a95 hb;subst this;cases hg;exact mZ (jS h (N:=63) (l:=kR.map fun x=>(x.toNat:Int)) (n:=(Rows.searchApartRow.laid.getD 7 f).1) (t:=404) (e:=294) (k:=.u32) (a06 (i:=7) (by kernel_rfl)) (by kernel_rfl) (by kernel_rfl) (by kernel_rfl) (by kernel_rfl) (by kernel_rfl) (by kernel_rfl) (by kernel_rfl)) (by kernel_rfl)
   ·split at hg;·rename_i hb;have:=a95 hb;subst this;cases hg;exact XY (Sr h (N:=2) (l:=[[114,111,111,116],[115,110,97,112,115,104,111,116],[116,97,114,103,101,116,115]]) (n:=(Rows.searchApartRow.laid.getD 9 f).1) (t:=194) (e:=9) (a06 (i:=9) (by kernel_rfl)) (by kernel_rfl) (by kernel_rfl) (by kernel_rfl) (by kernel_rfl) (by kernel_rfl) (by kernel_rfl) (by kernel_rfl)) (by kernel_rfl)
    ·split at hg;·rename_i hb;have:=a95 hb;subst this;cases hg;exact mZ (jS h (N:=12) (l:=[0,31,59,90,120,151,181,212,243,273,304,334,365]) (n:=(Rows.searchApartRow.laid.getD 8 f).1) (t:=311) (e:=3) (k:=r) (a06 (i:=8) (by kernel_rfl)) (by kernel_rfl) (by kernel_rfl) (by kernel_rfl) (by kernel_rfl) (by kernel_rfl) (by kernel_rfl) (by kernel_rfl)) (by kernel_rfl)
     ·split at hg;·rename_i hb;have:=a95 hb;subst this;cases hg;exact mZ (jS h (N:=19) (l:=[1,10,100,1000,10000,100000,1000000,10000000,100000000,1000000000,10000000000,100000000000,1000000000000,10000000000000,100000000000000,1000000000000000,10000000000000000,100000000000000000,1000000000000000000,10000000000000000000]) (n:=(Rows.searchApartRow.laid.getD 3 f).1) (t:=486) (e:=343) (k:=.u64) (a06 (i:=3) (by kernel_rfl)) (by kernel_rfl) (by kernel_rfl) (by kernel_rfl) (by kernel_rfl) (by kernel_rfl) (by kernel_rfl) (by kernel_rfl)) (by kernel_rfl)
      ·cases hg
theorem abP:JR a 6:=⟨_,l,by decide,c⟩
theorem laidOut:laidOutB a=eT:=by kernel_rfl
theorem errs{W:World}(h:y a Rows.searchApartRow.laid W):∃u1 u2,∀g l,(CL u1 u2).gl g=J l->Tab W g l:=by
 have ht:=tabs h;rw[MakeChecks.laidMetH_plain _ _ _ (by kernel_rfl)]at h;obtain⟨u1,t1⟩:=GG h (n:=(Rows.searchApartRow.laid.getD 4 f).1) (name:= "*errors.errorString") (s:=[118,97,108,117,101,32,111,117,116,32,111,102,32,114,97,110,103,101]) (g:=mM) (t:=323) (a06 (i:=4) (by kernel_rfl)) (by kernel_rfl) (by kernel_rfl) e;obtain⟨u2,t2⟩:=GG h (n:=(Rows.searchApartRow.laid.getD 5 f).1) (name:= "*errors.errorString") (s:=[105,110,118,97,108,105,100,32,115,121,110,116,97,120]) (g:=kQ) (t:=323) (a06 (i:=5) (by kernel_rfl)) (by kernel_rfl) (by kernel_rfl) e;refine⟨u1,u2,fun g l hg=>?_⟩;change glX _ _ g=J l at hg;unfold glX at hg;split at hg;·rename_i hb;have:=a95 hb;subst this;cases hg;exact t1
 ·split at hg;·rename_i hb;have:=a95 hb;subst this;cases hg;exact t2
  ·exact ht g l hg
theorem u8r{n:Int}(h:(Lit.int .u8 n).wf=eT):0<=n/\n<=255:=by simp only[Lit.wf,a02,b]at h;exact h
theorem ayu{n:Int}(h:(Lit.int .u32 n).wf=eT):0<=n/\n<=4294967295:=by simp only[Lit.wf,a02,b]at h;exact h
theorem axo{n:Int}(h:(Lit.int r n).wf=eT): -9223372036854775808<=n:=by simp only[Lit.wf,a02,b]at h;exact h.1
theorem ayt{n:Int}(h:(Lit.int .u16 n).wf=eT):0<=n/\n<=65535:=by simp only[Lit.wf,a02,b]at h;exact h
theorem lifted (os:Os) (started:os.Started) (H:Type) (enc:TypeId×Value->H):
  ReturnsInHanded {} k os 6 .any (fun w args=>(Rows.searchApartSpec.pre enc a i [] eF w args/\y a Rows.searchApartRow.laid w)/\sizedMet enc a i (OpenSpec.ofChange Rows.searchApartSpec) eF w args)
   (Rows.searchApartSpec.post enc a i eF eT eF eF):=by
 refine returnsInHanded_of_change_and (C:=k) (X:=fun w _=>y a Rows.searchApartRow.laid w) (fun _ _ _ hh h=>h.of_heap hh) own started (by kernel_rfl) l
  (ChangeSpec.witness_shaped (enc:=enc) (C:=k) (os:=os) (X:=fun w _=>y a Rows.searchApartRow.laid w) eF (World.doorLaid a 400 os) #[.agg #[.string g,.string g,.slice U 0 0,.bool eF,.slice U 0 0,.int r 0,.int r 0,.int r 0,.int r 0,.int r 0],.string g,.string g,.agg #[.int r 0,.int r 0,.int r 0,.int r 0]] 8 c (World.shaped_of_RefB (by kernel_rfl) (by kernel_rfl)) (by kernel_rfl) (by kernel_rfl) (by kernel_rfl) (door_met os _)) ?_
 intro W base args ds gs before hval0 hW _ _ hL _;have hval:∀(j:Nat) t v,Tryz.f6.params[j]?=J t->args[j]?=J v->Value.okWide a W .any base t v:=hval0;have hW':=hW;obtain⟨p,q,hA0,hV,rfl,hfz,hnd⟩:=hW;have hA:DataW.TrodAll enc a W 0 (fun _=>eT) eT Tryz.f6.params.toList args.toList ds p:=hA0;rw[n]at hA hval;have hA1:=hA;obtain⟨v0,l0,d0,m0,p0,q0,e0,rfl,rfl,h0,hA1⟩:=trodAll_cons hA1;obtain⟨v1,l1,d1,m1,p1,q1,rfl,rfl,rfl,h1,hA1⟩:=trodAll_cons hA1;obtain⟨v2,l2,d2,m2,p2,q2,rfl,rfl,rfl,h2,hA1⟩:=trodAll_cons hA1;obtain⟨v3,l3,d3,m3,p3,q3,rfl,rfl,rfl,h3,hA1⟩:=trodAll_cons hA1;obtain⟨rfl,rfl,rfl⟩:=trodAll_nil hA1;have hargs:args=#[v0,v1,v2,v3]:=by cases args;simp_all
 subst hargs;obtain⟨rfl,rfl⟩:=trodVars_none hV;clear hA0 hval0;obtain⟨e1,e2,tb⟩:=errs hL;obtain⟨a0,c0,r0⟩:=J9 (T:=LX (CL e1 e2)) Tryz.underlying29 (hval 0 _ v0 c c) agF h0;obtain⟨a1,_,r1⟩:=QY (T:=LX (CL e1 e2)) (f:=AV.cU) (acj d) (hval 1 _ v1 c c) (G6 d) h1;obtain⟨a2,_,r2⟩:=QY (T:=LX (CL e1 e2)) (f:=AV.cU) (acj d) (hval 2 _ v2 c c) (G6 d) h2;obtain⟨a3,c3,r3⟩:=J9 (T:=LX (CL e1 e2)) Tryz.underlying27 (hval 3 _ v3 c c) amY h3;have lt:=fun x hx=>hW'.lt x hx;refine(NF afo abP c (apw e1 e2 a0 a1 a2 a3) tb (.cV _ _ _ _ r0 (.cV _ _ _ _ r1 (.cV _ _ _ _ r2 (.cV _ _ _ _ r3 .db))))).mono fun e W' ⟨he,bel⟩=>?_;subst he;exact⟨_,c,_,_,_,[],_,[],hW',trodAll_mk1 (shut_bool Tryz.underlying4 _),BU laidOut bel (by kernel_rfl) hA (fun x hx=>lt x (by simpa using hx)),c,bel.frame _,fun h=>by cases h⟩
theorem aK{a b:Bool}(ha:a=eT)(hb:b=eT):(a&&b)=eT:=by rw[ha,hb];rfl
theorem closed:joinedFacts Tryz.pinned.checked.prog 6 i Rows.searchApartSpec Rows.searchApartRow=eT:=by unfold joinedFacts;refine aK (aK (aK (aK (aK (aK (aK (aK (aK (aK (aK (aK (aK (aK (aK (aK (aK (aK (aK (aK (aK (aK (aK (aK (aK (aK (aK (aK (aK (aK (aK ?_ ?_) ?_) ?_) ?_) ?_) ?_) ?_) ?_) ?_) ?_) ?_) ?_) ?_) ?_) ?_) ?_) ?_) ?_) ?_) ?_) ?_) ?_) ?_) ?_) ?_) ?_) ?_) ?_) ?_) ?_) ?_;all_goals (as_aux_lemma=>kernel_rfl)
theorem FH:Rows.searchApartRow.holds Tryz.pinned (OpenSpec.ofChange Rows.searchApartSpec):=
 OpenClaim.holds_of_wide 6 i c c c c c c c ⟨c,c,c,c,c⟩ c c c c c (by as_aux_lemma=>kernel_rfl) l closed
  (of_decide_eq_true (by as_aux_lemma=>kernel_rfl)) (by unfold Func.isWrapper;first|(rw[if_pos (by decide+kernel)];kernel_rfl)|(rw[if_neg (by decide+kernel)];exact⟨c,c⟩))
  (fun os started H enc _=>lifted os started H enc)
theorem akM{P:Program}{n:String}(h:P.funcs.any Func.goes=eF):eF=P.goesAt .entering n:=by
 have h':∀i (hi:i<P.funcs.size),Func.goes P.funcs[i]=eF:=by simpa using h
 have k:∀g:Nat,(P.funcs[g]?).any Func.goes=eF:=fun g=>by
  by_cases hg:g<P.funcs.size;·simpa[aD1 hg]using h' g hg
  ·simp[aI0 (Nat.le_of_not_lt hg)]
 have z:∀f,P.goes f=eF:=fun f=>by simp[Program.goes,h,k]
 unfold Program.goesAt Program.goesFrom;cases P.funcNamed n<;>simp[z]
theorem proved:Rows.SearchApartCardSaid:=
 Claim7.holds_tied_plain_at .later [] Rows.searchApartCard.laidKinds eT Rows.searchApartCard.stood.harness eT
  FH (fun _ h=>by cases h) (by as_aux_lemma=>kernel_rfl) (fun _ h=>by cases h) searchApart_row_tie c ⟨c,c⟩ (by as_aux_lemma=>kernel_rfl) c
  (fun f fn hf hfn=>by
   obtain rfl:f=6:=aF9 ((show Tryz.prog.funcNamed Tryz.f6.name=J 6 by kernel_rfl).symm.trans hf)|>.symm
   obtain rfl:fn=i:=(aF9 (Tryz.func6.symm.trans hfn)).symm;exact⟨by as_aux_lemma=>kernel_rfl,fun j t ht=>by
    rw[n]at ht;revert ht
    match j with
    |0|1|2|3=>intro ht;cases ht;kernel_rfl|k+4=>intro ht;simp at ht⟩)
  (akM (P:=Tryz.pinned.checked.prog) (by as_aux_lemma=>kernel_rfl))
end Go.Proofs.YtaaomenfchndjaaGreatDoor.law
