/- Contracts of functions over this translation. No conditions. -/
import Derived.Test.YtegpahkgmealkaaGreatDoorCD
import Derived.Test.YtegpahkgmealkaaGreatDoorTE
import Derived.Test.YtegpahkgmealkaaGreatDoorTF
set_option linter.unusedVariables false
set_option linter.unusedSimpArgs false
namespace Go.Proofs.YtegpahkgmealkaaGreatDoor
open Go.Ev Go.RowKit
set_option maxRecDepth 1000000
theorem noB{l:LA}(h:l.any isByte=false):∀a∈l,isByte a=false:=fun a ha=>by
 cases hb:isByte a with
 |false=>rfl
 |true=>rw[List.any_eq_true.mpr ⟨a,ha,hb⟩]at h;cases h
noncomputable section
def ahS(args:LA)(O:St):Option (AV×St):=match args with|[]=>some (.bool true,O)|_=>none
def aa6(sz:Nat)(args:LA)(O:St):Option (AV×St):=
 match args with
 |[.sl n l]=>match Jf (Jf (Nat.beq l.length (n*sz)) (Nat.ble n 1099511627776)) (l.all UW)with
  |true=>some (.sl n l,O)
  |false=>none
 |_=>none
theorem ahY:POK CL0 aZ (aa6 3):=by
 intro args O v O' h g w args' ha hw hg;unfold aa6 at h;split at h
 ·rename_i n l;split at h
  ·rename_i hb;rw[qy,Bool.and_eq_true,qy,Bool.and_eq_true]at hb;have hl:=Nat.eq_of_beq_eq_true hb.1.1;cases h;by_cases h0:n=0
   ·subst h0;have:l=[]:=List.length_eq_zero_iff.mp (by simpa using hl)
    subst this;exact JC (C:=CR1) (aaH 100) gV (by kernel_rfl) (by kernel_rfl) [.sl 0 []] O _ _ rfl g w args' ha hw hg
   ·exact mi acj gV (by rw[ae,below,(aan hb.2).cl];rfl) (ab7 (C:=CL0) (anT (XK (by kernel_rfl) (by kernel_rfl) (by kernel_rfl) rfl rfl)) n l hl (by omega) (Nat.le_of_ble_eq_true hb.1.2) hb.2 [] ok0) ha hw hg
  ·cases h
 ·cases h
theorem agz:∀n l,CC.gl n=some l->l.all UW=true:=by
 intro n l h;change glT n=some l at h;unfold glT at h;repeat' split at h
 all_goals first
  |(cases h;done)
  |(simp only[Option.some.injEq]at h;subst h;kernel_rfl)
def Wx(u1 u2:TypeId):List (FuncId×OC):=[(kF,ahS),(aZ,aa6 3),(fK,pFn (C0 u1 u2) fK),(ql,pFn (C0 u1 u2) ql),(wM,pFn (C0 u1 u2) wM),(mW,pFn (C0 u1 u2) mW),(mP,pFn (C0 u1 u2) mP),(ru,pFn (C0 u1 u2) ru),(rX,pFn (C0 u1 u2) rX),(iU,pRo (C0 u1 u2) iU)]
def CL(u1 u2:TypeId):Ctx:={gX Tryz.prog (glX u1 u2) (fun _=>false) (prL (Wx u1 u2))with np:=true}
variable{u1 u2:TypeId}
theorem anq:aaI (CL u1 u2):=fun f x h=>uK Tryz.prog (glX u1 u2) (fun _=>false) (prL (Wx u1 u2)) f x h
theorem same2:QK (C0 u1 u2) (CL u1 u2):=⟨rfl,rfl,rfl,ae8⟩
theorem aiW:Jd (CL u1 u2):=by
 have tr:∀{f p},POK CL0 f p->POK (CL u1 u2) f p:=fun h=>ai1 (C:=CL0) (D:=CL u1 u2) rfl (fun n l hl=>akH n l hl) rfl h;have h:=abQ (C:=CL u1 u2) (l:=Wx u1 u2) (by
  unfold Wx;simp only[List.forall_mem_cons];exact⟨tr (abP (C:=CC) (D:=CL0) ajb rfl rfl agz (Ea aob)),tr ahY,JD same2 EF _,JD same2 EF _,JD same2 EF _,JD same2 EF _,JD same2 EF _,JD same2 EF _,JD same2 EF _,amI same2 EF _,fun _ h=>by simp at h⟩)
 exact h
theorem alh:fO (CL u1 u2) (ai (CL u1 u2)):=H7 Ap anq aiW
theorem Ai{f:FuncId}{K:KF}(h1:cF Tryz.prog f=some K.forget:=by kernel_rfl)(h2:UR Tryz.prog f=true:=by kernel_rfl)(h3:K.ok=true:=by kernel_rfl)(hp:prL (Wx u1 u2) f=none:=by exact rfl):Has (CL u1 u2) f K:=by
 refine⟨?_,hp,rfl,h3⟩;show(gX Tryz.prog (glX u1 u2) (fun _=>false) (prL (Wx u1 u2))).fs f=_;simp only[gX,h2,h1]
theorem JM{f:FuncId}{args:List Sh}{res:Sh}(hp:(CL u1 u2).prim f=some (pFn (C0 u1 u2) f))(h:fC (C0 u1 u2) eY f (.pure args res))(hc:cls args=true){al:LA}(hm:Mt V0 args al):∃v,M V0 res v/\∀O,ai (CL u1 u2) f al O=some (v,O):=by
 obtain⟨v,h1,h2⟩:=aoT h hc hm;exact⟨v,h1,fun O=>(kJ hp al O).trans (h2 O)⟩
theorem alN:WV (CL u1 u2)where
 role:=⟨by constructor<;>exact Ai,Ai,Ai,Ai,Ai,Ai⟩
 hash:=fun hs h=>by
  obtain⟨v,h1,h2⟩:=JM (u1:=u1) (u2:=u2) rfl amW rfl (al:=[.sl hs.length (hs.flatMap pC),.str [115,104,97,50,53,54]]) (.cons _ _ _ _ (ahr h) (.cons _ _ _ _ (.strb _ (by simp only[LB];decide)) .nil))
  obtain⟨d,b,rfl⟩:=am7 h1;exact⟨d,b,h2⟩
 sn:=fun j=>by
  obtain⟨v,h1,h2⟩:=JM (u1:=u1) (u2:=u2) rfl (ac6 akn) rfl (al:=[j.av]) (.cons _ _ _ _ (.jv j) .nil);obtain⟨x,n,rfl,h3⟩:=agT h1;obtain⟨t,rfl,h4⟩:=agV h3;exact⟨t,n,h4,h2⟩
 rd:=fun data hb=>by
  obtain⟨v,h1,h2⟩:=JM (u1:=u1) (u2:=u2) rfl amZ rfl (al:=[.str data]) (.cons _ _ _ _ (.strb _ hb) .nil);obtain⟨x,n,m,rfl,h3⟩:=ao2 h1;obtain⟨j,rfl⟩:=am5 h3;exact⟨j,n,m,h2⟩
 sg:=fun j=>by
  obtain⟨v,h1,h2⟩:=JM (u1:=u1) (u2:=u2) rfl an0 rfl (al:=[j.av]) (.cons _ _ _ _ (.jv j) .nil);obtain⟨x,n,rfl,h3⟩:=agT h1;exact⟨x,n,h3,h2⟩
 tg:=fun j=>by
  obtain⟨v,h1,h2⟩:=JM (u1:=u1) (u2:=u2) rfl an1 rfl (al:=[j.av]) (.cons _ _ _ _ (.jv j) .nil);obtain⟨x,n,rfl,h3⟩:=agT h1;obtain⟨t,rfl,h4⟩:=agW h3;exact⟨t,n,h4,h2⟩
 over:=fun a b=>by
  obtain⟨v,h1,h2⟩:=JM (u1:=u1) (u2:=u2) rfl amY rfl (al:=[.int .i64 a,.int .i64 b]) (.cons _ _ _ _ (.int _ _) (.cons _ _ _ _ (.int _ _) .nil));obtain⟨b,rfl⟩:=ao3 h1;exact⟨b,h2⟩
 dig:=fun s hs=>by
  obtain⟨v,h1,h2⟩:=JM (u1:=u1) (u2:=u2) rfl (LQ _ (List.mem_of_getElem? (i:=7) rfl)) rfl (al:=[.str s]) (.cons _ _ _ _ (.strb _ hs) .nil);obtain⟨b,rfl⟩:=ajG h1;exact⟨b,h2⟩
 enough:=fun h l r th ids ks b1 b2 b3 mr=>by
  have hm:Mt V0 [acZ,.agg [.int .i64,.slx [.strb]],.slx [.strb,.strb]] [r,.agg (aC th ids),.sl ks.length (ks.flatMap pC)]:=.cons _ _ _ _ mr (.cons _ _ _ _ (ami b2) (.cons _ _ _ _ (ahr b3) .nil));cases h with
  |true=>
   obtain⟨b,hb⟩:=apJ (fz:=FZ) (afe (u1:=u1) (u2:=u2)) rfl (cs:=[.iface 119 (.agg [])]) (.one _ _ _ _ rfl (.iface _ _ _ (.agg _ _ .nil)) .nil) rfl hm;exact⟨b,fun Y o ho=>(kJ (C:=CL u1 u2) (h:=pRo (C0 u1 u2) iU) rfl _ Y).trans (hb Y o ho)⟩
  |false=>
   obtain⟨b,hb⟩:=apJ (fz:=FZ) (aff (u1:=u1) (u2:=u2)) rfl (cs:=[.iface 212 (.agg [Nw l])]) (.one _ _ _ _ rfl (.iface _ _ _ (.agg _ _ (.one _ _ _ _ rfl (ajL b1) .nil))) .nil) (by simp only[ae,below,JU,Bool.and_self]) hm
   exact⟨b,fun Y o ho=>(kJ (C:=CL u1 u2) (h:=pRo (C0 u1 u2) iU) rfl _ Y).trans (hb Y o ho)⟩
theorem akg:afy (CL u1 u2) aZ 3:=fun n l O hl hn hs=>by
 rw[kJ (C:=CL u1 u2) (h:=aa6 3) rfl];have hb1:Nat.beq l.length (n*3)=true:=by rw[hl];exact Nat.beq_refl _
 have hb2:Nat.ble n 1099511627776=true:=Nat.ble_eq_true_of_le hn;simp only[aa6,qy,hb1,hb2,hs,Bool.and_self]
theorem amd:afu (CL u1 u2)where
 lby:=by constructor<;>exact Ai
 verd:=Ai
 lng:=Ai
 ver:=⟨⟨Ai,Ai,akg⟩,Ai,Ai⟩
 same:=⟨by constructor<;>exact Ai,Ai,Ai,Ai,Ai⟩
 awake:=fun O _=>(kJ (C:=CL u1 u2) (h:=ahS) rfl _ _).trans rfl
theorem an5:QL (CL u1 u2):=⟨Ai,Ai,Ai⟩
theorem ag7(u1 u2:TypeId)(b:Bool×List eG)(pin:yD)(a:fD)(ks:List PS)(now thn:Int)(data:LU)(size:Int)(r:Eg):ai (CL u1 u2) nM [.agg (byA b.1 b.2),.agg pin.cs,.agg a.cs,.sl ks.length (ks.flatMap pC),.int .i64 now,.int .i64 thn,.str data,.int .i64 size,.agg r.cs] []=some (.bool true,[]):=
 NU alN amd an5 Ai (Ai) b.1 b.2 pin a ks now thn data size r [] ok0
end
theorem amO{T:Nat->Bool}{W:World}:Rd T Tryz.prog W 106 (fun _:eG=>True) eG.cs:=
 (wW Tryz.underlying106 (by kernel_rfl) (gq rfl (Cc Tryz.underlying9) (gq (by kernel_rfl) (Cc Tryz.underlying9) (gq (by kernel_rfl) (Cc Tryz.underlying9) D7)))).map (fun x=>⟨x.1,x.2.1,x.2.2.1⟩) (fun _ _=>trivial) (fun _=>rfl)
theorem apu{T:Nat->Bool}{W:World}:Rd T Tryz.prog W 24 (fun _:Bool×List eG=>True) (fun b=>byA b.1 b.2):=
 (wW Tryz.underlying24 (by kernel_rfl) (gq rfl (ak4 Tryz.underlying4) (gq (by kernel_rfl) (MQ Tryz.underlying22 (by kernel_rfl) eG.len (by decide) (fun x=>noB (l:=eG.cs x) rfl) amO) D7))).map (fun x=>(x.1,x.2.1)) (fun _ _=>trivial) (fun _=>rfl)
theorem Yg{T:Nat->Bool}{W:World}:Rd T Tryz.prog W 30 (fun _:fD=>True) fD.cs:=
 (wW Tryz.underlying30 (by kernel_rfl) (gq rfl (FX Tryz.underlying3) (gq (by kernel_rfl) (MQ (f:=sC) Tryz.underlying28 (by kernel_rfl) (fun _=>rfl) (by decide) (fun x=>noB (l:=sC x) rfl) (Cc Tryz.underlying9)) D7))).map (fun x=>⟨x.1,x.2.1⟩) (fun _ _=>trivial) (fun _=>rfl)
theorem aoG{T:Nat->Bool}{W:World}:Rd T Tryz.prog W 65 (fun _:PS=>True) pC:=
 (wW Tryz.underlying65 (by kernel_rfl) (gq rfl (Cc Tryz.underlying9) (gq (by kernel_rfl) (Cc Tryz.underlying9) D7))).map (fun x=>(x.1,x.2.1)) (fun _ _=>trivial) (fun _=>rfl)
theorem ai5{T:Nat->Bool}{W:World}:Rd T Tryz.prog W 31 (fun xs:List PS=>xs.length<=maxLen/\∀x∈xs,True) (fun xs=>[.sl xs.length (xs.flatMap pC)]):=
 MQ (k:=2) Tryz.underlying31 (by kernel_rfl) (fun _=>rfl) (by decide) (fun x=>noB (l:=pC x) rfl) aoG
theorem amM{T:Nat->Bool}{W:World}:Rd T Tryz.prog W 108 (fun _:PS=>True) pC:=
 (wW Tryz.underlying108 (by kernel_rfl) (gq rfl (Cc Tryz.underlying9) (gq (by kernel_rfl) (Cc Tryz.underlying9) D7))).map (fun x=>(x.1,x.2.1)) (fun _ _=>trivial) (fun _=>rfl)
theorem aoH{T:Nat->Bool}{W:World}:Rd T Tryz.prog W 27 (fun _:yD=>True) yD.cs:=
 (wW Tryz.underlying27 (by kernel_rfl) (gq rfl (Cc Tryz.underlying9) (gq (by kernel_rfl) (FX Tryz.underlying2) (gq (by kernel_rfl) (FX Tryz.underlying2) (gq (by kernel_rfl) (MQ (k:=2) Tryz.underlying25 (by kernel_rfl) (fun _=>rfl) (by decide) (fun x=>noB (l:=pC x) rfl) amM) D7))))).map (fun x=>⟨x.1,x.2.1,x.2.2.1,x.2.2.2.1⟩) (fun _ _=>trivial) (fun _=>rfl)
theorem amN{T:Nat->Bool}{W:World}:Rd T Tryz.prog W 33 (fun _:Eg=>True) Eg.cs:=
 (wW Tryz.underlying33 (by kernel_rfl) (gq rfl (FX Tryz.underlying2) (gq (by kernel_rfl) (FX Tryz.underlying2) (gq (by kernel_rfl) ai5 (gq (by kernel_rfl) Yg (gq (by kernel_rfl) Yg (gq (by kernel_rfl) Yg D7))))))).map (fun x=>⟨x.1,x.2.1,x.2.2.1,x.2.2.2.1,x.2.2.2.2.1,x.2.2.2.2.2.1⟩) (fun _ _=>trivial) (fun _=>rfl)
end Go.Proofs.YtegpahkgmealkaaGreatDoor
