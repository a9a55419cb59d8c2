/- Contracts. No conditions. -/
import Derived.Test.YtmbaofiahlcnhaaGreatDoorCD
import Derived.Test.YtmbaofiahlcnhaaGreatDoorCF
import Derived.Test.YtmbaofiahlcnhaaGreatDoorTH
import Derived.Test.YtmbaofiahlcnhaaGreatDoorTB
set_option linter.unusedVariables false
set_option linter.unusedSimpArgs false
set_option linter.defProp false
namespace Go.Proofs.YtmbaofiahlcnhaaGreatDoor
open Option renaming some→J, none→U
open Bool renaming true→eT, false→eF
open List renaming length→z
open Go.IntKind renaming i64→r
open Go.Ev Go.RowKit
set_option maxRecDepth 1000000
noncomputable section
def aoY(args:LA)(O:St):Option (AV×St):=match args with|[]=>J (.cX eT,O)|_=>U
def awl:POK CL0 jk (Et 3):=U5 (zs:=[.cV [],.cV [],.cV []]) (bytes:=48) (by kernel_rfl) (by kernel_rfl) (by kernel_rfl) rfl (by decide) (by decide) rfl (by kernel_rfl) (by kernel_rfl)
def auC:POK CL0 lm (Et 2):=U5 (zs:=[.cV [],.cV []]) (bytes:=32) (by kernel_rfl) (by kernel_rfl) (by kernel_rfl) rfl (by decide) (by decide) rfl (by kernel_rfl) (by kernel_rfl)
def anG:∀n l,CC.gl n=J l->l.all Wl=eT:=by
 intro n l h;change glT n=J l at h;unfold glT at h;repeat' split at h
 all_goals first
  |(cases h;done)|(simp only[a05]at h;subst h;kernel_rfl)
def alS(f:FuncId):Bool:=match Nat.beq f KP with|eT=>eT|eF=>match Nat.beq f Iw with|eT=>eT|eF=>Nat.beq f Jf
def agk(u1 u2:TypeId):List (FuncId×CS):=[(jk,Et 3),(dM,Et 2),(lm,Et 2),(iC,Et 1),(iL,pFn (C0 u1 u2) iL),(uJ,pFn (C0 u1 u2) uJ),(yD,pFn (C0 u1 u2) yD),(sD,pFn (C0 u1 u2) sD),(yA,pFn (C0 u1 u2) yA),(zl,pFn (C0 u1 u2) zl),(jK,pRo (C0 u1 u2) jK),(Eh,pFn (C0 u1 u2) Eh),(Jt,pFn (C0 u1 u2) Jt),(jC,pFn (C0 u1 u2) jC),(vz,pFn (C0 u1 u2) vz),(xE,pFn (C0 u1 u2) xE)]
def TQ(u1 u2:TypeId)(l:List (FuncId×CS)):Ctx:={iW Tryz.prog (glX u1 u2) alS (prL l)with np:=eT}
def C1(u1 u2:TypeId):Ctx:=TQ u1 u2 (agk u1 u2)
def asX(u1 u2:TypeId):CS:=Ar (C1 u1 u2) (ai (C1 u1 u2)) (qf (C1 u1 u2) (ai (C1 u1 u2)) TT 8) fC dU
def asW(u1 u2:TypeId):CS:=Ar (C1 u1 u2) (ai (C1 u1 u2)) (qf (C1 u1 u2) (ai (C1 u1 u2)) TT 8) jA gV
def Me(u1 u2:TypeId):Bool->List (FuncId×CS)|eF=>agk u1 u2|eT=>(uj,aoY)::(gK,asX u1 u2)::(uG,asW u1 u2)::agk u1 u2
def CZ(u1 u2:TypeId)(b:Bool):Ctx:=TQ u1 u2 (Me u1 u2 b)
def CL(u1 u2:TypeId):Ctx:=CZ u1 u2 eT
variable{u1 u2:TypeId}{b:Bool}
def atP(l:List (FuncId×CS)):ahj (TQ u1 u2 l):=λf x h=>yF Tryz.prog (glX u1 u2) alS (prL l) f x h
def ajx{l:List (FuncId×CS)}(h:∀p∈l,POK (TQ u1 u2 l) p.1 p.2):eY (TQ u1 u2 l) (ai (TQ u1 u2 l)):=JO BR (atP l) (ael (C:=TQ u1 u2 l) h)
def same2(l:List (FuncId×CS)):YU (C0 u1 u2) (TQ u1 u2 l):=⟨rfl,rfl,rfl,akL⟩
def agl(l:List (FuncId×CS)):∀p∈agk u1 u2,POK (TQ u1 u2 l) p.1 p.2:=by have a:∀{f p},POK CL0 f p->POK (TQ u1 u2 l) f p:=λh=>aam (C:=CL0) (D:=TQ u1 u2 l) rfl (λn l b=>ajM n l b) rfl h;unfold agk;simp only[aB6];exact⟨a awl,a ap8,a auC,a asY,He (same2 l) EC _,He (same2 l) EC _,He (same2 l) EC _,He (same2 l) EC _,He (same2 l) EC _,He (same2 l) EC _,auE (same2 l) EC _,He (same2 l) EC _,He (same2 l) EC _,He (same2 l) EC _,He (same2 l) EC _,He (same2 l) EC _,λ_ h=>by simp at h⟩
def amo:eY (C1 u1 u2) (ai (C1 u1 u2)):=ajx (agl _)
def amr:eY (CL u1 u2) (ai (CL u1 u2)):=ajx (l:=Me u1 u2 eT) (by
 have c:∀{f p},POK CL0 f p->POK (TQ u1 u2 (Me u1 u2 eT)) f p:=λh=>aam (C:=CL0) (D:=TQ u1 u2 (Me u1 u2 eT)) rfl (λn l b=>ajM n l b) rfl h;have a:∀{f p},POK (C1 u1 u2) f p->POK (TQ u1 u2 (Me u1 u2 eT)) f p:=λh=>aam (C:=C1 u1 u2) rfl (λn l b=>b) rfl h;unfold Me;rw[aB6,aB6,aB6];exact⟨c (ais (C:=CC) (D:=CL0) ajg rfl rfl anG (IM aw3)),a (akh rfl _ amo),a (akg rfl _ amo),agl _⟩)
def pR{f:FuncId}{K:KF}(a:cF Tryz.prog f=J K.V:=by kernel_rfl)(h2:Ri Tryz.prog f=eT:=by kernel_rfl)(h3:K.ok=eT:=by kernel_rfl)(c:∀b,prL (Me u1 u2 b) f=U:=by exactλb=>by cases b<;>rfl)(hr:alS f=eF:=by exact rfl):Has (CZ u1 u2 b) f K:=by refine⟨?_,c b,hr,h3⟩;show(iW Tryz.prog (glX u1 u2) alS (prL (Me u1 u2 b))).fs f=_;simp only[iW,h2,a]
def anO{f:FuncId}{K:KF}(a:cF Tryz.prog f=J K.V:=by kernel_rfl)(h2:Ri Tryz.prog f=eT:=by kernel_rfl)(h3:K.ok=eT:=by kernel_rfl)(c:∀b,prL (Me u1 u2 b) f=U:=by exactλb=>by cases b<;>rfl)(hr:alS f=eT:=by exact rfl):Su (CZ u1 u2 b) f K:=by refine⟨?_,c b,hr,h3⟩;show(iW Tryz.prog (glX u1 u2) alS (prL (Me u1 u2 b))).fs f=_;simp only[iW,h2,a]
def Lr{f:FuncId}{args:List Sh}{res:Sh}(e:∀b,(CZ u1 u2 b).fg f=J (pFn (C0 u1 u2) f))(h:dh (C0 u1 u2) dL f (.ez args res))(c:cls args=eT){al:LA}(d:Mt V0 args al):∃v,M V0 res v/\∀O,ai (CZ u1 u2 b) f al O=J (v,O):=by obtain⟨v,a,h2⟩:=awI h c d;exact⟨v,a,λO=>(jo (e b) al O).trans (h2 O)⟩
def pz{f:FuncId}{h:CS}(a:prL (Me u1 u2 eF) f=J h)(c:prL (Me u1 u2 eT) f=J h):∀b,(CZ u1 u2 b).fg f=J h:=λb=>by
 cases b;·exact a
 ·exact c
def an5(b:Bool):ChkTot (CZ u1 u2 b)where
 b6:=⟨by constructor<;>exact pR,pR,pR,pR,pR,pR⟩
 m1:=λhs h=>by obtain⟨v,h1,h2⟩:=Lr (u1:=u1) (u2:=u2) (b:=b) (pz rfl rfl) auT rfl (al:=[.sl (z hs) (hs.flatMap pC),.cV [115,104,97,50,53,54]]) (.cW _ _ _ _ (aov h) (.cW _ _ _ _ (.ds _ (by simp only[LB];decide)) .de));obtain⟨d,b,rfl⟩:=au8 h1;exact⟨d,b,h2⟩
 sn:=λj=>by obtain⟨v,h1,h2⟩:=Lr (u1:=u1) (u2:=u2) (b:=b) (pz rfl rfl) (aiO asb) rfl (al:=[j.av]) (.cW _ _ _ _ (.jv j) .de);obtain⟨x,n,rfl,h3⟩:=Xk h1;obtain⟨t,rfl,h4⟩:=ao4 h3;exact⟨t,n,h4,h2⟩
 rd:=λdata hb=>by obtain⟨v,h1,h2⟩:=Lr (u1:=u1) (u2:=u2) (b:=b) (pz rfl rfl) apQ rfl (al:=[.cV data]) (.cW _ _ _ _ (.ds _ hb) .de);obtain⟨x,n,m,rfl,h3⟩:=avQ h1;obtain⟨j,rfl⟩:=Ji h3;exact⟨j,n,m,h2⟩
 sg:=λj=>by obtain⟨v,h1,h2⟩:=Lr (u1:=u1) (u2:=u2) (b:=b) (pz rfl rfl) auW rfl (al:=[j.av]) (.cW _ _ _ _ (.jv j) .de);obtain⟨x,n,rfl,h3⟩:=Xk h1;exact⟨x,n,h3,h2⟩
 tg:=λj=>by obtain⟨v,h1,h2⟩:=Lr (u1:=u1) (u2:=u2) (b:=b) (pz rfl rfl) auX rfl (al:=[j.av]) (.cW _ _ _ _ (.jv j) .de);obtain⟨x,n,rfl,h3⟩:=Xk h1;obtain⟨t,rfl,h4⟩:=ao5 h3;exact⟨t,n,h4,h2⟩
 f7:=λa c=>⟨_,λY=>LH pR a c Y⟩
 e7:=λs hs=>by obtain⟨v,h1,h2⟩:=Lr (u1:=u1) (u2:=u2) (b:=b) (pz rfl rfl) (UC _ (a08 (i:=7) rfl)) rfl (al:=[.cV s]) (.cW _ _ _ _ (.ds _ hs) .de);obtain⟨b,rfl⟩:=ajT h1;exact⟨b,h2⟩
 cK:=λh l f th ids ks b1 b2 b3 mr=>by
  have hm:Mt V0 [afy,.da [.cU r,.eB [.ds]],.eB [.ds,.ds]] [f,.da (aC th ids),.sl (z ks) (ks.flatMap pC)]:=.cW _ _ _ _ mr (.cW _ _ _ _ (auk b2) (.cW _ _ _ _ (aov b3) .de));have hp:(CZ u1 u2 b).fg jK=J (pRo (C0 u1 u2) jK):=pz rfl rfl b;cases h with
  |true=>obtain⟨b,hb⟩:=atd (fz:=FZ) (am3 (u1:=u1) (u2:=u2)) rfl (cs:=[.eb 136 (.da [])]) (.eo _ _ _ _ rfl (.eb _ _ _ (.da _ _ .de)) .de) rfl hm;exact⟨b,λY o ho=>(jo hp _ Y).trans (hb Y o ho)⟩
  |false=>obtain⟨b,hb⟩:=atd (fz:=FZ) (am4 (u1:=u1) (u2:=u2)) rfl (cs:=[.eb 143 (.da [WF l])]) (.eo _ _ _ _ rfl (.eb _ _ _ (.da _ _ (.eo _ _ _ _ rfl (arj b1) .de))) .de) (by simp only[ae,below,ab4,az9]) hm;exact⟨b,λY o ho=>(jo hp _ Y).trans (hb Y o ho)⟩
def akp(b:Bool):RootHas (CZ u1 u2 b)where
 toChkTot:=an5 b
 dv:=pR
 oq:=λdata hb=>by obtain⟨v,h1,h2⟩:=Lr (u1:=u1) (u2:=u2) (b:=b) (pz rfl rfl) as8 rfl (al:=[.cV data]) (.cW _ _ _ _ (.ds _ hb) .de);obtain⟨x,n,rfl,h3⟩:=Xk h1;exact⟨x,n,h3,h2⟩
 oe:=λj=>by obtain⟨v,h1,h2⟩:=Lr (u1:=u1) (u2:=u2) (b:=b) (pz rfl rfl) awH rfl (al:=[j.av]) (.cW _ _ _ _ (.jv j) .de);obtain⟨x,n,rfl,h3⟩:=Xk h1;obtain⟨t,rfl,h4⟩:=ao3 h3;exact⟨t,n,h4,h2⟩
def aaD{f:FuncId}{sz:Nat}(g:∀b,(CZ u1 u2 b).fg f=J (Et sz)):VD (CZ u1 u2 b) f sz:=λn l O d e hs=>by
 rw[jo (g b)];have a:Nat.beq (z l) (n*sz)=eT:=by rw[d];exact Nat.beq_refl _
 have c:Nat.ble n 1099511627776=eT:=aD9 e;simp only[Et,kX,a,c,hs,az9]
def aq4(b:Bool):StoHas (CZ u1 u2 b):=⟨pR,pR,pR⟩
def aqb(b:Bool):TelHas (CZ u1 u2 b):=⟨aq4 b,pR,pR⟩
def akn(b:Bool):RNewHas (CZ u1 u2 b):={toNewHas:=⟨aqb b,pR,pR,anO⟩,toRootHas:=akp b,k8:=pR,nl:=anO}
def auN(b:Bool):VC (CZ u1 u2 b)where
 toRNewHas:=akn b
 nr:=aq4 b
 gW:=pR
 ki:=pR
 ck:=⟨pR,pR,pR,aaD (pz rfl rfl),pR,pR⟩
def atN:YI (CL u1 u2) (C1 u1 u2)where
 hO:=auN eF
 ko:=λa O v h=>(jo (C:=CL u1 u2) (h:=asX u1 u2) rfl a O).trans h
 b6:=λa O v h=>(jo (C:=CL u1 u2) (h:=asW u1 u2) rfl a O).trans h
 dr:=pR (b:=eT)
 kv:=pR (b:=eT)
def atY:adh (CL u1 u2):=⟨aqb eT,pR (b:=eT),pR (b:=eT)⟩
def aqP(fs:List PS)(h:z fs<=1000):Yg (CL u1 u2) (.sl (z fs) (fs.flatMap pC)) fs U:=λY a hf=>
 ⟨_,U,[],by rw[ay5];exact aaD (b:=eT) (pz rfl rfl) _ _ Y (bZ Dy fs) (by omega) (by rw[List.all_flatMap];exact a97.mpr λ_ _=>rfl),by rw[ay5];exact a,by rw[ay5];exact hf,λ_ e=>by cases e⟩
def awd:adn (CL u1 u2) (C1 u1 u2)where
 dr:={toRNewHas:=akn eT,m4:=⟨pR (b:=eT),pR (b:=eT),aaD (b:=eT) (pz rfl rfl)⟩,cl:=aqP,k7:=pR (b:=eT)}
 dv:=λh l b1 data b4=>abm (akp eT) h l b1 data b4
 g2:=λh l b1 R rok=>amP (an5 eF) pR h l b1 R rok.sn rok.ks
def ax9:atv (CL u1 u2) (C1 u1 u2)where
 kS:=atN
 eo:=pR (b:=eT)
 ih:=anO (b:=eT)
 hE:=pR (b:=eT)
 eI:=pR (b:=eT)
 kp:=pR (b:=eT)
 bw:=λhS a=>aiB (pR (b:=eT)) (pR (b:=eT)) hS a
 fk:=λs hs=>by obtain⟨v,h1,h2⟩:=Lr (u1:=u1) (u2:=u2) (b:=eT) (pz rfl rfl) aiM rfl (al:=[.cV s]) (.cW _ _ _ _ (.ds _ hs) .de);obtain⟨b,rfl⟩:=IB h1;exact⟨b,h2⟩
 n7:=λs hs=>aq1 (avK (u1:=u1) (u2:=u2)) avD (funext λa=>funext λO=>jo (C:=CL u1 u2) rfl a O) (funext λa=>funext λO=>jo (C:=CL u1 u2) rfl a O) s hs
def law9:amu (CL u1 u2) (C1 u1 u2)where
 oR:=ax9
 eN:=awd
 m5:=⟨pR (b:=eT),pR (b:=eT),pR (b:=eT)⟩
 cE:=⟨pR (b:=eT),pR (b:=eT),pR (b:=eT),pR (b:=eT),pR (b:=eT)⟩
 told:=pR (b:=eT)
 gk:=atY
 oJ:=pR (b:=eT)
 nB:=λO _=>(jo (C:=CL u1 u2) (h:=aoY) rfl _ _).trans rfl
end
def auL{T:Nat->Bool}{W:World}:Rd T Tryz.prog W 110 (λ_:iK=>True) iK.B:=
 (JJ Tryz.underlying110 (by kernel_rfl) (oz rfl (Lc Tryz.underlying9) (oz (by kernel_rfl) (Lc Tryz.underlying9) (oz (by kernel_rfl) (Lc Tryz.underlying9) U6)))).ec (λx=>⟨x.1,x.2.1,x.2.2.1⟩) (λ_ _=>trivial) (λ_=>rfl)
def auK{T:Nat->Bool}{W:World}:Rd T Tryz.prog W 108 (λ_:PS=>True) pC:=
 (JJ Tryz.underlying108 (by kernel_rfl) (oz rfl (Lc Tryz.underlying9) (oz (by kernel_rfl) (Lc Tryz.underlying9) U6))).ec (λx=>(x.1,x.2.1)) (λ_ _=>trivial) (λ_=>rfl)
def arE{T:Nat->Bool}{W:World}:Rd T Tryz.prog W 22 (λxs:List PS=>z xs<=maxLen/\∀x∈xs,True) (λxs=>[.sl (z xs) (xs.flatMap pC)]):=
 agq (k:=2) Tryz.underlying22 (by kernel_rfl) (λ_=>rfl) (by decide) (λ_=>rfl) auK
def arF{T:Nat->Bool}{W:World}:Rd T Tryz.prog W 24 (λ_:LU×LU×List PS=>True) (λx=>[.cV x.1,.cV x.2.1,.sl (z x.2.2) (x.2.2.flatMap pC)]):=
 (JJ Tryz.underlying24 (by kernel_rfl) (oz rfl (Lc Tryz.underlying9) (oz (by kernel_rfl) (Lc Tryz.underlying9) (oz (by kernel_rfl) arE U6)))).ec (λx=>(x.1,x.2.1,x.2.2.1)) (λ_ _=>trivial) (λ_=>rfl)
def agp{T:Nat->Bool}{W:World}:Rd T Tryz.prog W 27 (λ_:Int×Int×Int×Int=>True) (λx=>[.cU r x.1,.cU r x.2.1,.cU r x.2.2.1,.cU r x.2.2.2]):=
 (JJ Tryz.underlying27 (by kernel_rfl) (oz rfl (N8 Tryz.underlying3) (oz (by kernel_rfl) (N8 Tryz.underlying3) (oz (by kernel_rfl) (N8 Tryz.underlying3) (oz (by kernel_rfl) (N8 Tryz.underlying3) U6))))).ec (λx=>(x.1,x.2.1,x.2.2.1,x.2.2.2.1)) (λ_ _=>trivial) (λ_=>rfl)
def apg{T:Nat->Bool}{W:World}:Rd T Tryz.prog W 29 (λc:Bc=>(Lit.int r c.bm).wf=eT) Bc.B:=
 (JJ Tryz.underlying29 (by kernel_rfl) (oz rfl arF (oz (by kernel_rfl) (arG Tryz.underlying4) (oz (by kernel_rfl) (agq Tryz.underlying25 (by kernel_rfl) iK.dt (by decide) (λ_=>rfl) auL) (oz (by kernel_rfl) (N8 Tryz.underlying2) (oz (by kernel_rfl) agp U6)))))).ec (λx=>⟨x.1.1,x.1.2.1,x.1.2.2,x.2.1,x.2.2.1,x.2.2.2.1,x.2.2.2.2.1.1,x.2.2.2.2.1.2.1,x.2.2.2.2.1.2.2.1,x.2.2.2.2.1.2.2.2⟩) (λ_ h=>h.2.2.2.1) (λ_=>rfl)
def asZ{T:Nat->Bool}{W:World}:Rd T Tryz.prog W 27 (λ_:QH=>True) QH.B:=agp.ec (λx=>⟨x.1,x.2.1,x.2.2.1,x.2.2.2⟩) (λ_ _=>trivial) (λ_=>rfl)
end Go.Proofs.YtmbaofiahlcnhaaGreatDoor
