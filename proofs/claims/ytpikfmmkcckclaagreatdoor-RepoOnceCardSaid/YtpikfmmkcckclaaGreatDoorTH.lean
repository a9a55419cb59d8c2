/- Contracts. No conditions. -/
import Derived.Test.YtpikfmmkcckclaaGreatDoorCD
import Derived.Test.YtpikfmmkcckclaaGreatDoorCE
import Derived.Test.YtpikfmmkcckclaaGreatDoorTG
import Derived.Test.YtpikfmmkcckclaaGreatDoorTB
set_option linter.unusedVariables false
set_option linter.unusedSimpArgs false
set_option linter.defProp false
namespace Go.Proofs.YtpikfmmkcckclaaGreatDoor
open Go.Ev Go.RowKit
set_option maxRecDepth 1000000
noncomputable section
def akQ(args:LA)(O:St):Option (AV×St):=match args with|[]=>some (.bool true,O)|_=>none
def IG(sz:Nat)(args:LA)(O:St):Option (AV×St):=
 match args with
 |[.sl n l]=>match I9 (I9 (Nat.beq l.length (n*sz)) (Nat.ble n 1099511627776)) (l.all Vb)with
  |true=>some (.sl n l,O)
  |false=>none
 |_=>none
def Rn{f:FuncId}{zs:LA}{sz bytes:Nat}(h1:cF Tryz.prog f=some (Kcl zs sz bytes).forget)(h2:QB Tryz.prog f=true)(h3:(Kcl zs sz bytes).ok=true)(hp:UI f=none)(hb:bytes<=48)(hz:0<sz)(ho:Cb zs=false)(k1:lI (evF CR1 100 f [.nils] []) .nils=true)(k2:lI (evF CR1 100 f [.emp] []) (.xsl 0 [])=true):POK CL0 f (IG sz):=by
 intro args O v O' h g w args' ha hw hg;unfold IG at h;split at h
 ·rename_i n l;split at h
  ·rename_i hb';rw[qi,a01,qi,a01]at hb';have hl:=at7 hb'.1.1;cases h;by_cases h0:n=0
   ·subst h0;have:l=[]:=List.length_eq_zero_iff.mp (by simpa using hl)
    subst this;exact OO (C:=CR1) (ae9 100) iY k1 k2 [.sl 0 []] O _ _ rfl g w args' ha hw hg
   ·exact oK afE iY (by rw[ae,below,(adL hb'.2).cl];rfl) (clone_any (C:=CL0) (aqM (abb h1 h2 h3 hp rfl)) hb hz ho n l hl (by omega) (av8 hb'.1.2) hb'.2 [] ok0) ha hw hg
  ·cases h
 ·cases h
def ari:POK CL0 gK (IG 3):=Rn (zs:=[.str [],.str [],.str []]) (bytes:=48) (by kernel_rfl) (by kernel_rfl) (by kernel_rfl) rfl (by decide) (by decide) rfl (by kernel_rfl) (by kernel_rfl)
def apI:POK CL0 gm (IG 2):=Rn (zs:=[.str [],.str []]) (bytes:=32) (by kernel_rfl) (by kernel_rfl) (by kernel_rfl) rfl (by decide) (by decide) rfl (by kernel_rfl) (by kernel_rfl)
def apJ:POK CL0 kK (IG 2):=Rn (zs:=[.str [],.str []]) (bytes:=32) (by kernel_rfl) (by kernel_rfl) (by kernel_rfl) rfl (by decide) (by decide) rfl (by kernel_rfl) (by kernel_rfl)
def arh:POK CL0 bQ (IG 1):=Rn (zs:=[.str []]) (bytes:=16) (by kernel_rfl) (by kernel_rfl) (by kernel_rfl) rfl (by decide) (by decide) rfl (by kernel_rfl) (by kernel_rfl)
def ajD:∀n l,CC.gl n=some l->l.all Vb=true:=by
 intro n l h;change glT n=some l at h;unfold glT at h;repeat' split at h
 all_goals first
  |(cases h;done)
  |(simp only[a05]at h;subst h;kernel_rfl)
def aif(f:FuncId):Bool:=match Nat.beq f Ht with
 |true=>true
 |false=>match Nat.beq f EU with
  |true=>true
  |false=>Nat.beq f fZ
def adw(u1 u2:TypeId):List (FuncId×AB):=[(gK,IG 3),(gm,IG 2),(kK,IG 2),(bQ,IG 1),(iD,pFn (C0 u1 u2) iD),(vw,pFn (C0 u1 u2) vw),(Dl,pFn (C0 u1 u2) Dl),(oU,pFn (C0 u1 u2) oU),(vz,pFn (C0 u1 u2) vz),(wF,pFn (C0 u1 u2) wF),(iF,pRo (C0 u1 u2) iF),(Bc,pFn (C0 u1 u2) Bc),(F9,pFn (C0 u1 u2) F9)]
def Qa(u1 u2:TypeId)(l:List (FuncId×AB)):Ctx:={iy Tryz.prog (glX u1 u2) aif (prL l)with np:=true}
def C1(u1 u2:TypeId):Ctx:=Qa u1 u2 (adw u1 u2)
def aog(u1 u2:TypeId):AB:=xJ (C1 u1 u2) (ai (C1 u1 u2)) (mX (C1 u1 u2) (ai (C1 u1 u2)) TT 8) dQ dw
def aof(u1 u2:TypeId):AB:=xJ (C1 u1 u2) (ai (C1 u1 u2)) (mX (C1 u1 u2) (ai (C1 u1 u2)) TT 8) gX eY
def II(u1 u2:TypeId):Bool->List (FuncId×AB)
 |false=>adw u1 u2
 |true=>(mD,akQ)::(gJ,aog u1 u2)::(qK,aof u1 u2)::adw u1 u2
def CZ(u1 u2:TypeId)(b:Bool):Ctx:=Qa u1 u2 (II u1 u2 b)
def CL(u1 u2:TypeId):Ctx:=CZ u1 u2 true
variable{u1 u2:TypeId}{b:Bool}
def aoX(l:List (FuncId×AB)):aec (Qa u1 u2 l):=fun f x h=>yg Tryz.prog (glX u1 u2) aif (prL l) f x h
def ag9{l:List (FuncId×AB)}(h:∀p∈l,POK (Qa u1 u2 l) p.1 p.2):dW (Qa u1 u2 l) (ai (Qa u1 u2 l)):=LX zQ (aoX l) (afd (C:=Qa u1 u2 l) h)
def same2(l:List (FuncId×AB)):VX (C0 u1 u2) (Qa u1 u2 l):=⟨rfl,rfl,rfl,ahd⟩
def adx(l:List (FuncId×AB)):∀p∈adw u1 u2,POK (Qa u1 u2 l) p.1 p.2:=by
 have tr:∀{f p},POK CL0 f p->POK (Qa u1 u2 l) f p:=fun h=>aby (C:=CL0) (D:=Qa u1 u2 l) rfl (fun n l hl=>agp n l hl) rfl h;unfold adw;simp only[ay3];exact⟨tr ari,tr apI,tr apJ,tr arh,JJ (same2 l) Gz _,JJ (same2 l) Gz _,JJ (same2 l) Gz _,JJ (same2 l) Gz _,JJ (same2 l) Gz _,JJ (same2 l) Gz _,apL (same2 l) Gz _,JJ (same2 l) Gz _,JJ (same2 l) Gz _,fun _ h=>by simp at h⟩
def aiC:dW (C1 u1 u2) (ai (C1 u1 u2)):=ag9 (adx _)
def aop:dW (CL u1 u2) (ai (CL u1 u2)):=ag9 (l:=II u1 u2 true) (by
 have tr:∀{f p},POK CL0 f p->POK (Qa u1 u2 (II u1 u2 true)) f p:=fun h=>aby (C:=CL0) (D:=Qa u1 u2 (II u1 u2 true)) rfl (fun n l hl=>agp n l hl) rfl h;have tr1:∀{f p},POK (C1 u1 u2) f p->POK (Qa u1 u2 (II u1 u2 true)) f p:=fun h=>aby (C:=C1 u1 u2) rfl (fun n l hl=>hl) rfl h;unfold II;rw[ay3,ay3,ay3];exact⟨tr (afc (C:=CC) (D:=CL0) amk rfl rfl ajD (Ie aqZ)),tr1 (agQ rfl _ aiC),tr1 (agP rfl _ aiC),adx _⟩)
def kS{f:FuncId}{K:KF}(h1:cF Tryz.prog f=some K.forget:=by kernel_rfl)(h2:QB Tryz.prog f=true:=by kernel_rfl)(h3:K.ok=true:=by kernel_rfl)(hp:∀b,prL (II u1 u2 b) f=none:=by exact fun b=>by cases b<;>rfl)(hr:aif f=false:=by exact rfl):Has (CZ u1 u2 b) f K:=by
 refine⟨?_,hp b,hr,h3⟩;show(iy Tryz.prog (glX u1 u2) aif (prL (II u1 u2 b))).fs f=_;simp only[iy,h2,h1]
def ajI{f:FuncId}{K:KF}(h1:cF Tryz.prog f=some K.forget:=by kernel_rfl)(h2:QB Tryz.prog f=true:=by kernel_rfl)(h3:K.ok=true:=by kernel_rfl)(hp:∀b,prL (II u1 u2 b) f=none:=by exact fun b=>by cases b<;>rfl)(hr:aif f=true:=by exact rfl):Pe (CZ u1 u2 b) f K:=by
 refine⟨?_,hp b,hr,h3⟩;show(iy Tryz.prog (glX u1 u2) aif (prL (II u1 u2 b))).fs f=_;simp only[iy,h2,h1]
def JZ{f:FuncId}{args:List Sh}{res:Sh}(hp:∀b,(CZ u1 u2 b).prim f=some (pFn (C0 u1 u2) f))(h:gu (C0 u1 u2) gz f (.pure args res))(hc:cls args=true){al:LA}(hm:Mt V0 args al):∃v,M V0 res v/\∀O,ai (CZ u1 u2 b) f al O=some (v,O):=by
 obtain⟨v,h1,h2⟩:=arE h hc hm;exact⟨v,h1,fun O=>(jZ (hp b) al O).trans (h2 O)⟩
def pz{f:FuncId}{h:AB}(h0:prL (II u1 u2 false) f=some h)(h1:prL (II u1 u2 true) f=some h):∀b,(CZ u1 u2 b).prim f=some h:=fun b=>by
 cases b
 ·exact h0
 ·exact h1
def ajb(b:Bool):ChkTot (CZ u1 u2 b)where
 role:=⟨by constructor<;>exact kS,kS,kS,kS,kS,kS⟩
 hash:=fun hs h=>by
  obtain⟨v,h1,h2⟩:=JZ (u1:=u1) (u2:=u2) (b:=b) (pz rfl rfl) aq1 rfl (al:=[.sl hs.length (hs.flatMap pC),.str [115,104,97,50,53,54]]) (.cons _ _ _ _ (akp h) (.cons _ _ _ _ (.strb _ (by simp only[LB];decide)) .nil))
  obtain⟨d,b,rfl⟩:=aph h1;exact⟨d,b,h2⟩
 sn:=fun j=>by
  obtain⟨v,h1,h2⟩:=JZ (u1:=u1) (u2:=u2) (b:=b) (pz rfl rfl) (afs anD) rfl (al:=[j.av]) (.cons _ _ _ _ (.jv j) .nil);obtain⟨x,n,rfl,h3⟩:=acX h1;obtain⟨t,rfl,h4⟩:=ajY h3;exact⟨t,n,h4,h2⟩
 rd:=fun data hb=>by
  obtain⟨v,h1,h2⟩:=JZ (u1:=u1) (u2:=u2) (b:=b) (pz rfl rfl) alC rfl (al:=[.str data]) (.cons _ _ _ _ (.strb _ hb) .nil);obtain⟨x,n,m,rfl,h3⟩:=aqQ h1;obtain⟨j,rfl⟩:=apg h3;exact⟨j,n,m,h2⟩
 sg:=fun j=>by
  obtain⟨v,h1,h2⟩:=JZ (u1:=u1) (u2:=u2) (b:=b) (pz rfl rfl) aq3 rfl (al:=[j.av]) (.cons _ _ _ _ (.jv j) .nil);obtain⟨x,n,rfl,h3⟩:=acX h1;exact⟨x,n,h3,h2⟩
 tg:=fun j=>by
  obtain⟨v,h1,h2⟩:=JZ (u1:=u1) (u2:=u2) (b:=b) (pz rfl rfl) aq4 rfl (al:=[j.av]) (.cons _ _ _ _ (.jv j) .nil);obtain⟨x,n,rfl,h3⟩:=acX h1;obtain⟨t,rfl,h4⟩:=ajZ h3;exact⟨t,n,h4,h2⟩
 over:=fun a c=>⟨_,fun Y=>Il kS a c Y⟩
 dig:=fun s hs=>by
  obtain⟨v,h1,h2⟩:=JZ (u1:=u1) (u2:=u2) (b:=b) (pz rfl rfl) (QD _ (a94 (i:=7) rfl)) rfl (al:=[.str s]) (.cons _ _ _ _ (.strb _ hs) .nil);obtain⟨b,rfl⟩:=amO h1;exact⟨b,h2⟩
 enough:=fun h l r th ids ks b1 b2 b3 mr=>by
  have hm:Mt V0 [acH,.agg [.int .i64,.slx [.strb]],.slx [.strb,.strb]] [r,.agg (aC th ids),.sl ks.length (ks.flatMap pC)]:=.cons _ _ _ _ mr (.cons _ _ _ _ (apq b2) (.cons _ _ _ _ (akp b3) .nil));have hp:(CZ u1 u2 b).prim iF=some (pRo (C0 u1 u2) iF):=pz rfl rfl b;cases h with
  |true=>
   obtain⟨b,hb⟩:=aon (fz:=FZ) (aio (u1:=u1) (u2:=u2)) rfl (cs:=[.iface 199 (.agg [])]) (.one _ _ _ _ rfl (.iface _ _ _ (.agg _ _ .nil)) .nil) rfl hm;exact⟨b,fun Y o ho=>(jZ hp _ Y).trans (hb Y o ho)⟩
  |false=>
   obtain⟨b,hb⟩:=aon (fz:=FZ) (aip (u1:=u1) (u2:=u2)) rfl (cs:=[.iface 206 (.agg [O9 l])]) (.one _ _ _ _ rfl (.iface _ _ _ (.agg _ _ (.one _ _ _ _ rfl (amT b1) .nil))) .nil) (by simp only[ae,below,Ym,av9]) hm
   exact⟨b,fun Y o ho=>(jZ hp _ Y).trans (hb Y o ho)⟩
def agX(b:Bool):RootHas (CZ u1 u2 b)where
 toChkTot:=ajb b
 root:=kS
 srd:=fun data hb=>by
  obtain⟨v,h1,h2⟩:=JZ (u1:=u1) (u2:=u2) (b:=b) (pz rfl rfl) anB rfl (al:=[.str data]) (.cons _ _ _ _ (.strb _ hb) .nil);obtain⟨x,n,rfl,h3⟩:=acX h1;exact⟨x,n,h3,h2⟩
 rof:=fun j=>by
  obtain⟨v,h1,h2⟩:=JZ (u1:=u1) (u2:=u2) (b:=b) (pz rfl rfl) arD rfl (al:=[j.av]) (.cons _ _ _ _ (.jv j) .nil);obtain⟨x,n,rfl,h3⟩:=acX h1;obtain⟨t,rfl,h4⟩:=ajX h3;exact⟨t,n,h4,h2⟩
def aoj{f:FuncId}{sz:Nat}(hp:∀b,(CZ u1 u2 b).prim f=some (IG sz)):Sv (CZ u1 u2 b) f sz:=fun n l O hl hn hs=>by
 rw[jZ (hp b)];have hb1:Nat.beq l.length (n*sz)=true:=by rw[hl];exact Nat.beq_refl _
 have hb2:Nat.ble n 1099511627776=true:=aA1 hn;simp only[IG,qi,hb1,hb2,hs,av9]
def alI(b:Bool):StoHas (CZ u1 u2 b):=⟨kS,kS,kS⟩
def alR(b:Bool):TelHas (CZ u1 u2 b):=⟨alI b,kS,kS⟩
def agB(b:Bool):MadeHas (CZ u1 u2 b)where
 toRNewHas:={toNewHas:=⟨alR b,kS,kS,ajI,ajI⟩,toRootHas:=agX b,mayCap:=kS,rnew:=ajI}
 jud:=⟨kS,kS,aoj (pz rfl rfl)⟩
 ver:=kS
 made28:=kS
def al4(b:Bool):Su (CZ u1 u2 b)where
 toMadeHas:=agB b
 sto:=alI b
 file:=kS
 rmade:=kS
 pin:=⟨kS,kS,kS,aoj (pz rfl rfl),kS,kS⟩
def aoV:GH (CL u1 u2) (C1 u1 u2)where
 req:=al4 false
 snap:=fun a O v h=>(jZ (C:=CL u1 u2) (h:=aog u1 u2) rfl a O).trans h
 role:=fun a O v h=>(jZ (C:=CL u1 u2) (h:=aof u1 u2) rfl a O).trans h
 made:=kS (b:=true)
 targets:=kS (b:=true)
def r28:aax (CL u1 u2) (C1 u1 u2)where
 cat:=aoV
 made:=agB true
 asked:=kS (b:=true)
 lng:=⟨kS (b:=true),kS (b:=true),kS (b:=true),kS (b:=true),kS (b:=true)⟩
 fet:=⟨alR true,kS (b:=true),kS (b:=true)⟩
 s26:=kS (b:=true)
 s23:=⟨kS (b:=true),kS (b:=true),kS (b:=true)⟩
 s24:=⟨by constructor<;>exact kS (b:=true),kS (b:=true),kS (b:=true),kS (b:=true),kS (b:=true)⟩
 awake:=fun O _=>(jZ (C:=CL u1 u2) (h:=akQ) rfl _ _).trans rfl
 root:=fun h l b1 data b4=>Yz (agX true) h l b1 data b4
 chk:=fun h l b1 R rok=>aiV (ajb false) kS h l b1 R rok.sn rok.ks
def atI(u1 u2:TypeId)(c:ul)(l:List fQ)(w:Int)(hw:0<=w/\w<=255):ai (CL u1 u2) aso [.agg c.cs,.sl l.length (l.flatMap fQ.cs),.int .u8 w] []=some (.bool true,[]):=by
 obtain⟨n,rfl⟩:∃n:Nat,w=n:=⟨w.toNat,by omega⟩
 exact asN r28 (kS (b:=true)) c l n (by omega) [] ok0
end
def apW{T:Nat->Bool}{W:World}:Rd T Tryz.prog W 129 (fun _:fV=>True) fV.cs:=
 (yh Tryz.underlying129 (by kernel_rfl) (fE rfl (Ei Tryz.underlying9) (fE (by kernel_rfl) (Ei Tryz.underlying9) (fE (by kernel_rfl) (Ei Tryz.underlying9) Ff)))).map (fun x=>⟨x.1,x.2.1,x.2.2.1⟩) (fun _ _=>trivial) (fun _=>rfl)
def apS{T:Nat->Bool}{W:World}:Rd T Tryz.prog W 45 (fun _:eu=>True) eu.cs:=
 (yh Tryz.underlying45 (by kernel_rfl) (fE rfl (OT Tryz.underlying3) (fE (by kernel_rfl) (JP (f:=sC) Tryz.underlying43 (by kernel_rfl) (fun _=>rfl) (by decide) (fun _=>rfl) (Ei Tryz.underlying9)) Ff))).map (fun x=>⟨x.1,x.2.1⟩) (fun _ _=>trivial) (fun _=>rfl)
def ars{T:Nat->Bool}{W:World}:Rd T Tryz.prog W 92 (fun _:PS=>True) pC:=
 (yh Tryz.underlying92 (by kernel_rfl) (fE rfl (Ei Tryz.underlying9) (fE (by kernel_rfl) (Ei Tryz.underlying9) Ff))).map (fun x=>(x.1,x.2.1)) (fun _ _=>trivial) (fun _=>rfl)
def apV{T:Nat->Bool}{W:World}:Rd T Tryz.prog W 41 (fun xs:List PS=>xs.length<=maxLen/\∀x∈xs,True) (fun xs=>[.sl xs.length (xs.flatMap pC)]):=
 JP (k:=2) Tryz.underlying41 (by kernel_rfl) (fun _=>rfl) (by decide) (fun _=>rfl) ars
def apU{T:Nat->Bool}{W:World}:Rd T Tryz.prog W 102 (fun _:PS=>True) pC:=
 (yh Tryz.underlying102 (by kernel_rfl) (fE rfl (Ei Tryz.underlying9) (fE (by kernel_rfl) (Ei Tryz.underlying9) Ff))).map (fun x=>(x.1,x.2.1)) (fun _ _=>trivial) (fun _=>rfl)
def anh{T:Nat->Bool}{W:World}:Rd T Tryz.prog W 22 (fun xs:List PS=>xs.length<=maxLen/\∀x∈xs,True) (fun xs=>[.sl xs.length (xs.flatMap pC)]):=
 JP (k:=2) Tryz.underlying22 (by kernel_rfl) (fun _=>rfl) (by decide) (fun _=>rfl) apU
def ani{T:Nat->Bool}{W:World}:Rd T Tryz.prog W 24 (fun _:LU×LU×List PS=>True) (fun x=>[.str x.1,.str x.2.1,.sl x.2.2.length (x.2.2.flatMap pC)]):=
 (yh Tryz.underlying24 (by kernel_rfl) (fE rfl (Ei Tryz.underlying9) (fE (by kernel_rfl) (Ei Tryz.underlying9) (fE (by kernel_rfl) anh Ff)))).map (fun x=>(x.1,x.2.1,x.2.2.1)) (fun _ _=>trivial) (fun _=>rfl)
def al3{T:Nat->Bool}{W:World}:Rd T Tryz.prog W 27 (fun _:Int×Int×Int×Int=>True) (fun x=>[.int .i64 x.1,.int .i64 x.2.1,.int .i64 x.2.2.1,.int .i64 x.2.2.2]):=
 (yh Tryz.underlying27 (by kernel_rfl) (fE rfl (OT Tryz.underlying3) (fE (by kernel_rfl) (OT Tryz.underlying3) (fE (by kernel_rfl) (OT Tryz.underlying3) (fE (by kernel_rfl) (OT Tryz.underlying3) Ff))))).map (fun x=>(x.1,x.2.1,x.2.2.1,x.2.2.2.1)) (fun _ _=>trivial) (fun _=>rfl)
def apT{T:Nat->Bool}{W:World}:Rd T Tryz.prog W 29 (fun c:ul=>(Lit.int .i64 c.now).wf=true) ul.cs:=
 (yh Tryz.underlying29 (by kernel_rfl) (fE rfl ani (fE (by kernel_rfl) (anj Tryz.underlying4) (fE (by kernel_rfl) (JP Tryz.underlying25 (by kernel_rfl) fV.len (by decide) (fun _=>rfl) apW) (fE (by kernel_rfl) (OT Tryz.underlying2) (fE (by kernel_rfl) al3 Ff)))))).map (fun x=>⟨x.1.1,x.1.2.1,x.1.2.2,x.2.1,x.2.2.1,x.2.2.2.1,x.2.2.2.2.1.1,x.2.2.2.2.1.2.1,x.2.2.2.2.1.2.2.1,x.2.2.2.2.1.2.2.2⟩) (fun _ h=>h.2.2.2.1) (fun _=>rfl)
def arq{T:Nat->Bool}{W:World}:Rd T Tryz.prog W 56 (fun a:fQ=>(Lit.int .u8 a.kind).wf=true) fQ.cs:=
 (yh Tryz.underlying56 (by kernel_rfl) (fE rfl (OT Tryz.underlying5) (fE (by kernel_rfl) (Ei Tryz.underlying9) (fE (by kernel_rfl) apS (fE (by kernel_rfl) apV Ff))))).map (fun x=>⟨x.1,x.2.1,x.2.2.1,x.2.2.2.1⟩) (fun _ h=>h.1) (fun _=>rfl)
def apR{T:Nat->Bool}{W:World}:Rd T Tryz.prog W 30 (fun xs:List fQ=>xs.length<=maxLen/\∀x∈xs,(Lit.int .u8 x.kind).wf=true) (fun xs=>[.sl xs.length (xs.flatMap fQ.cs)]):=
 JP Tryz.underlying30 (by kernel_rfl) fQ.len (by decide) (fun _=>rfl) arq
end Go.Proofs.YtpikfmmkcckclaaGreatDoor
