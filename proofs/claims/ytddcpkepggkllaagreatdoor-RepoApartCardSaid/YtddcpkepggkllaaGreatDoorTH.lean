/- Contracts. No conditions. -/
import Derived.Test.YtddcpkepggkllaaGreatDoorCD
import Derived.Test.YtddcpkepggkllaaGreatDoorCE
import Derived.Test.YtddcpkepggkllaaGreatDoorCF
import Derived.Test.YtddcpkepggkllaaGreatDoorTG
import Derived.Test.YtddcpkepggkllaaGreatDoorTB
set_option linter.unusedVariables false
set_option linter.unusedSimpArgs false
set_option linter.defProp false
namespace Go.Proofs.YtddcpkepggkllaaGreatDoor
open Go.Ev Go.RowKit
set_option maxRecDepth 1000000
noncomputable section
def amn(args:LA)(O:St):Option (AV×St):=match args with|[]=>some (.bool true,O)|_=>none
def Iq(sz:Nat)(args:LA)(O:St):Option (AV×St):=
 match args with
 |[.sl n l]=>match Ky (Ky (Nat.beq l.length (n*sz)) (Nat.ble n 1099511627776)) (l.all We)with
  |true=>some (.sl n l,O)
  |false=>none
 |_=>none
def Tf{f:FuncId}{zs:LA}{sz bytes:Nat}(h1:cF Tryz.prog f=some (Kcl zs sz bytes).forget)(h2:PI Tryz.prog f=true)(h3:(Kcl zs sz bytes).ok=true)(hp:VD f=none)(hb:bytes<=48)(hz:0<sz)(ho:Eb zs=false)(k1:nI (evF CR1 100 f [.nils] []) .nils=true)(k2:nI (evF CR1 100 f [.emp] []) (.xsl 0 [])=true):POK CL0 f (Iq sz):=by
 intro args O v O' h g w args' ha hw hg;unfold Iq at h;split at h
 ·rename_i n l;split at h
  ·rename_i hb';rw[qF,a02,qF,a02]at hb';have hl:=a98 hb'.1.1;cases h;by_cases h0:n=0
   ·subst h0;have:l=[]:=aC5.mp (by simpa using hl)
    subst this;exact PY (C:=CR1) (afu 100) jL k1 k2 [.sl 0 []] O _ _ rfl g w args' ha hw hg
   ·exact qH ah8 jL (by rw[ai,below,(af5 hb'.2).cl];rfl) (clone_any (C:=CL0) (aso (acz h1 h2 h3 hp rfl)) hb hz ho n l hl (by omega) (aw4 hb'.1.2) hb'.2 [] ok0) ha hw hg
  ·cases h
 ·cases h
def asU:POK CL0 iP (Iq 3):=Tf (zs:=[.str [],.str [],.str []]) (bytes:=48) (by kernel_rfl) (by kernel_rfl) (by kernel_rfl) rfl (by decide) (by decide) rfl (by kernel_rfl) (by kernel_rfl)
def arc:POK CL0 iD (Iq 2):=Tf (zs:=[.str [],.str []]) (bytes:=32) (by kernel_rfl) (by kernel_rfl) (by kernel_rfl) rfl (by decide) (by decide) rfl (by kernel_rfl) (by kernel_rfl)
def ard:POK CL0 mi (Iq 2):=Tf (zs:=[.str [],.str []]) (bytes:=32) (by kernel_rfl) (by kernel_rfl) (by kernel_rfl) rfl (by decide) (by decide) rfl (by kernel_rfl) (by kernel_rfl)
def asR:POK CL0 aG (Iq 1):=Tf (zs:=[.str []]) (bytes:=16) (by kernel_rfl) (by kernel_rfl) (by kernel_rfl) rfl (by decide) (by decide) rfl (by kernel_rfl) (by kernel_rfl)
def al9:∀n l,CC.gl n=some l->l.all We=true:=by
 intro n l h;change glT n=some l at h;unfold glT at h;repeat' split at h
 all_goals first
  |(cases h;done)
  |(simp only[a05]at h;subst h;kernel_rfl)
def CW(u1 u2:TypeId):Ctx:={iG Tryz.prog (glX u1 u2) (fun f=>Nat.beq f aG) (fun _=>none)with np:=true}
def apW{u1 u2:TypeId}:fC (CW u1 u2) (aj (CW u1 u2)):=IC AY (fun f x h=>xE Tryz.prog (glX u1 u2) (fun f=>Nat.beq f aG) (fun _=>none) f x h) (fun f h hh=>by cases hh)
def apV{u1 u2:TypeId}:Kt (CW u1 u2) aG bQ:=by
 refine⟨?_,rfl,rfl,by kernel_rfl⟩
 show(iG Tryz.prog (glX u1 u2) (fun f=>Nat.beq f aG) (fun _=>none)).fs aG=_;have h1:cF Tryz.prog aG=some bQ.forget:=by kernel_rfl
 have h2:PI Tryz.prog aG=true:=by kernel_rfl
 simp only[iG,h2,h1]
def ajG(u1 u2:TypeId)(args:LA)(O:St):Option (AV×St):=match args with
 |[.sl n l]=>Iq 1 [.sl n l] O
 |a=>aj (CW u1 u2) aG a O
def ajN(f:FuncId):Bool:=match Nat.beq f Jl with
 |true=>true
 |false=>match Nat.beq f GG with
  |true=>true
  |false=>Nat.beq f eY
def aeN(u1 u2:TypeId):List (FuncId×Bv):=[(iP,Iq 3),(iD,Iq 2),(mi,Iq 2),(aG,ajG u1 u2),(gm,aeK),(jc,pFn (C0 u1 u2) jc),(xu,pFn (C0 u1 u2) xu),(EH,pFn (C0 u1 u2) EH),(qO,pFn (C0 u1 u2) qO),(xw,pFn (C0 u1 u2) xw),(yA,pFn (C0 u1 u2) yA),(jm,pRo (C0 u1 u2) jm),(Dp,pFn (C0 u1 u2) Dp),(Ic,pFn (C0 u1 u2) Ic)]
def Ko(u1 u2:TypeId)(l:List (FuncId×Bv)):Ctx:={iG Tryz.prog (glX u1 u2) ajN (prL l)with np:=true}
def C1(u1 u2:TypeId):Ctx:=Ko u1 u2 (aeN u1 u2)
def apM(u1 u2:TypeId):Bv:=zC (C1 u1 u2) (aj (C1 u1 u2)) (oO (C1 u1 u2) (aj (C1 u1 u2)) TT 8) eU dL
def apL(u1 u2:TypeId):Bv:=zC (C1 u1 u2) (aj (C1 u1 u2)) (oO (C1 u1 u2) (aj (C1 u1 u2)) TT 8) iU gy
def J4(u1 u2:TypeId):Bool->List (FuncId×Bv)
 |false=>aeN u1 u2
 |true=>(ou,amn)::(nC,apM u1 u2)::(sS,apL u1 u2)::aeN u1 u2
def CZ(u1 u2:TypeId)(b:Bool):Ctx:=Ko u1 u2 (J4 u1 u2 b)
def CL(u1 u2:TypeId):Ctx:=CZ u1 u2 true
variable{u1 u2:TypeId}{b:Bool}
def aqr(l:List (FuncId×Bv)):afx (Ko u1 u2 l):=fun f x h=>xE Tryz.prog (glX u1 u2) ajN (prL l) f x h
def ahE{l:List (FuncId×Bv)}(h:∀p∈l,POK (Ko u1 u2 l) p.1 p.2):fC (Ko u1 u2 l) (aj (Ko u1 u2 l)):=IC AY (aqr l) (agA (C:=Ko u1 u2 l) h)
def same2(l:List (FuncId×Bv)):Xi (C0 u1 u2) (Ko u1 u2 l):=⟨rfl,rfl,rfl,aiI⟩
def ar8(l:List (FuncId×Bv)):POK (Ko u1 u2 l) aG (ajG u1 u2):=by
 have tr:∀{f p},POK CL0 f p->POK (Ko u1 u2 l) f p:=fun h=>Uz (C:=CL0) (D:=Ko u1 u2 l) rfl (fun n l hl=>aea n l hl) rfl h;have tr1:POK (Ko u1 u2 l) aG (aj (CW u1 u2) aG):=Uz (C:=CW u1 u2) rfl (fun n l hl=>hl) rfl (apW _);intro args O v O' h;unfold ajG at h;split at h
 ·exact tr asR _ O v O' h
 ·exact tr1 _ O v O' h
def aeO(l:List (FuncId×Bv)):∀p∈aeN u1 u2,POK (Ko u1 u2 l) p.1 p.2:=by
 have tr:∀{f p},POK CL0 f p->POK (Ko u1 u2 l) f p:=fun h=>Uz (C:=CL0) (D:=Ko u1 u2 l) rfl (fun n l hl=>aea n l hl) rfl h;unfold aeN;simp only[az1];exact⟨tr asU,tr arc,tr ard,ar8 l,aoH rfl,LJ (same2 l) IG _,LJ (same2 l) IG _,LJ (same2 l) IG _,LJ (same2 l) IG _,LJ (same2 l) IG _,LJ (same2 l) IG _,arh (same2 l) IG _,LJ (same2 l) IG _,LJ (same2 l) IG _,fun _ h=>by simp at h⟩
def ak9:fC (C1 u1 u2) (aj (C1 u1 u2)):=ahE (aeO _)
def akb:fC (CL u1 u2) (aj (CL u1 u2)):=ahE (l:=J4 u1 u2 true) (by
 have tr:∀{f p},POK CL0 f p->POK (Ko u1 u2 (J4 u1 u2 true)) f p:=fun h=>Uz (C:=CL0) (D:=Ko u1 u2 (J4 u1 u2 true)) rfl (fun n l hl=>aea n l hl) rfl h;have tr1:∀{f p},POK (C1 u1 u2) f p->POK (Ko u1 u2 (J4 u1 u2 true)) f p:=fun h=>Uz (C:=C1 u1 u2) rfl (fun n l hl=>hl) rfl h;unfold J4;rw[az1,az1,az1];exact⟨tr (agz (C:=CC) (D:=CL0) anT rfl rfl al9 (Jz asC)),tr1 (ail rfl _ ak9),tr1 (aik rfl _ ak9),aeO _⟩)
def kG{f:FuncId}{K:KF}(h1:cF Tryz.prog f=some K.forget:=by kernel_rfl)(h2:PI Tryz.prog f=true:=by kernel_rfl)(h3:K.ok=true:=by kernel_rfl)(hp:∀b,prL (J4 u1 u2 b) f=none:=by exact fun b=>by cases b<;>rfl)(hr:ajN f=false:=by exact rfl):Has (CZ u1 u2 b) f K:=by
 refine⟨?_,hp b,hr,h3⟩;show(iG Tryz.prog (glX u1 u2) ajN (prL (J4 u1 u2 b))).fs f=_;simp only[iG,h2,h1]
def ahU{f:FuncId}{K:KF}(h1:cF Tryz.prog f=some K.forget:=by kernel_rfl)(h2:PI Tryz.prog f=true:=by kernel_rfl)(h3:K.ok=true:=by kernel_rfl)(hp:∀b,prL (J4 u1 u2 b) f=none:=by exact fun b=>by cases b<;>rfl)(hr:ajN f=true:=by exact rfl):Kt (CZ u1 u2 b) f K:=by
 refine⟨?_,hp b,hr,h3⟩;show(iG Tryz.prog (glX u1 u2) ajN (prL (J4 u1 u2 b))).fs f=_;simp only[iG,h2,h1]
def L6{f:FuncId}{args:List Sh}{res:Sh}(hp:∀b,(CZ u1 u2 b).prim f=some (pFn (C0 u1 u2) f))(h:iF (C0 u1 u2) iI f (.pure args res))(hc:cls args=true){al:LA}(hm:Mt V0 args al):∃v,M V0 res v/\∀O,aj (CZ u1 u2 b) f al O=some (v,O):=by
 obtain⟨v,h1,h2⟩:=atr h hc hm;exact⟨v,h1,fun O=>(jB (hp b) al O).trans (h2 O)⟩
def pz{f:FuncId}{h:Bv}(h0:prL (J4 u1 u2 false) f=some h)(h1:prL (J4 u1 u2 true) f=some h):∀b,(CZ u1 u2 b).prim f=some h:=fun b=>by
 cases b
 ·exact h0
 ·exact h1
def akH(b:Bool):ChkTot (CZ u1 u2 b)where
 role:=⟨by constructor<;>exact kG,kG,kG,kG,kG,kG⟩
 hash:=fun hs h=>by
  obtain⟨v,h1,h2⟩:=L6 (u1:=u1) (u2:=u2) (b:=b) (pz rfl rfl) arB rfl (al:=[.sl hs.length (hs.flatMap pC),.str [115,104,97,50,53,54]]) (.cons _ _ _ _ (alX h) (.cons _ _ _ _ (.strb _ (by simp only[LB];decide)) .nil))
  obtain⟨d,b,rfl⟩:=aqK h1;exact⟨d,b,h2⟩
 sn:=fun j=>by
  obtain⟨v,h1,h2⟩:=L6 (u1:=u1) (u2:=u2) (b:=b) (pz rfl rfl) (agW ap7) rfl (al:=[j.av]) (.cons _ _ _ _ (.jv j) .nil);obtain⟨x,n,rfl,h3⟩:=aeh h1;obtain⟨t,rfl,h4⟩:=alx h3;exact⟨t,n,h4,h2⟩
 rd:=fun data hb=>by
  obtain⟨v,h1,h2⟩:=L6 (u1:=u1) (u2:=u2) (b:=b) (pz rfl rfl) an9 rfl (al:=[.str data]) (.cons _ _ _ _ (.strb _ hb) .nil);obtain⟨x,n,m,rfl,h3⟩:=ast h1;obtain⟨j,rfl⟩:=aqJ h3;exact⟨j,n,m,h2⟩
 sg:=fun j=>by
  obtain⟨v,h1,h2⟩:=L6 (u1:=u1) (u2:=u2) (b:=b) (pz rfl rfl) arD rfl (al:=[j.av]) (.cons _ _ _ _ (.jv j) .nil);obtain⟨x,n,rfl,h3⟩:=aeh h1;exact⟨x,n,h3,h2⟩
 tg:=fun j=>by
  obtain⟨v,h1,h2⟩:=L6 (u1:=u1) (u2:=u2) (b:=b) (pz rfl rfl) arE rfl (al:=[j.av]) (.cons _ _ _ _ (.jv j) .nil);obtain⟨x,n,rfl,h3⟩:=aeh h1;obtain⟨t,rfl,h4⟩:=aly h3;exact⟨t,n,h4,h2⟩
 over:=fun a c=>⟨_,fun Y=>JG kG a c Y⟩
 dig:=fun s hs=>by
  obtain⟨v,h1,h2⟩:=L6 (u1:=u1) (u2:=u2) (b:=b) (pz rfl rfl) (RJ _ (a88 (i:=7) rfl)) rfl (al:=[.str s]) (.cons _ _ _ _ (.strb _ hs) .nil);obtain⟨b,rfl⟩:=aom h1;exact⟨b,h2⟩
 enough:=fun h l r th ids ks b1 b2 b3 mr=>by
  have hm:Mt V0 [adY,.agg [.int .i64,.slx [.strb]],.slx [.strb,.strb]] [r,.agg (aC th ids),.sl ks.length (ks.flatMap pC)]:=.cons _ _ _ _ mr (.cons _ _ _ _ (aqS b2) (.cons _ _ _ _ (alX b3) .nil));have hp:(CZ u1 u2 b).prim jm=some (pRo (C0 u1 u2) jm):=pz rfl rfl b;cases h with
  |true=>
   obtain⟨b,hb⟩:=apS (fz:=FZ) (ajV (u1:=u1) (u2:=u2)) rfl (cs:=[.iface 190 (.agg [])]) (.one _ _ _ _ rfl (.iface _ _ _ (.agg _ _ .nil)) .nil) rfl hm;exact⟨b,fun Y o ho=>(jB hp _ Y).trans (hb Y o ho)⟩
  |false=>
   obtain⟨b,hb⟩:=apS (fz:=FZ) (ajW (u1:=u1) (u2:=u2)) rfl (cs:=[.iface 197 (.agg [Kq l])]) (.one _ _ _ _ rfl (.iface _ _ _ (.agg _ _ (.one _ _ _ _ rfl (aoq b1) .nil))) .nil) (by simp only[ai,below,ZF,av6]) hm
   exact⟨b,fun Y o ho=>(jB hp _ Y).trans (hb Y o ho)⟩
def ait(b:Bool):RootHas (CZ u1 u2 b)where
 toChkTot:=akH b
 root:=kG
 srd:=fun data hb=>by
  obtain⟨v,h1,h2⟩:=L6 (u1:=u1) (u2:=u2) (b:=b) (pz rfl rfl) ap5 rfl (al:=[.str data]) (.cons _ _ _ _ (.strb _ hb) .nil);obtain⟨x,n,rfl,h3⟩:=aeh h1;exact⟨x,n,h3,h2⟩
 rof:=fun j=>by
  obtain⟨v,h1,h2⟩:=L6 (u1:=u1) (u2:=u2) (b:=b) (pz rfl rfl) atq rfl (al:=[j.av]) (.cons _ _ _ _ (.jv j) .nil);obtain⟨x,n,rfl,h3⟩:=aeh h1;obtain⟨t,rfl,h4⟩:=alv h3;exact⟨t,n,h4,h2⟩
def amU{f:FuncId}{sz:Nat}(hp:∀b,(CZ u1 u2 b).prim f=some (Iq sz)):Pj (CZ u1 u2 b) f sz:=fun n l O hl hn hs=>by
 rw[jB (hp b)];have hb1:Nat.beq l.length (n*sz)=true:=by rw[hl];exact aE1 _
 have hb2:Nat.ble n 1099511627776=true:=az8 hn;simp only[Iq,qF,hb1,hb2,hs,av6]
def anh(b:Bool):StoHas (CZ u1 u2 b):=⟨kG,kG,kG⟩
def anp(b:Bool):TelHas (CZ u1 u2 b):=⟨anh b,kG,kG⟩
def ai5(b:Bool):MadeHas (CZ u1 u2 b)where
 toRNewHas:={toNewHas:=⟨anp b,kG,kG,ahU,ahU⟩,toRootHas:=ait b,mayCap:=kG,rnew:=ahU}
 jud:=⟨kG,kG,amU (pz rfl rfl)⟩
 ver:=kG
 made28:=kG
def arw(b:Bool):TU (CZ u1 u2 b)where
 toMadeHas:=ai5 b
 sto:=anh b
 file:=kG
 rmade:=kG
 pin:=⟨kG,kG,kG,amU (pz rfl rfl),kG,kG⟩
def aqo:Ae (CL u1 u2) (C1 u1 u2)where
 req:=arw false
 snap:=fun a O v h=>(jB (C:=CL u1 u2) (h:=apM u1 u2) rfl a O).trans h
 role:=fun a O v h=>(jB (C:=CL u1 u2) (h:=apL u1 u2) rfl a O).trans h
 made:=kG (b:=true)
 targets:=kG (b:=true)
def r28:Xh (CL u1 u2) (C1 u1 u2)where
 cat:=aqo
 made:=ai5 true
 asked:=kG (b:=true)
 lng:=⟨kG (b:=true),kG (b:=true),kG (b:=true),kG (b:=true),kG (b:=true)⟩
 fet:=⟨anp true,kG (b:=true),kG (b:=true)⟩
 s26:=kG (b:=true)
 s23:=⟨kG (b:=true),kG (b:=true),kG (b:=true)⟩
 s24:=⟨by constructor<;>exact kG (b:=true),kG (b:=true),kG (b:=true),kG (b:=true),kG (b:=true)⟩
 awake:=fun O _=>(jB (C:=CL u1 u2) (h:=amn) rfl _ _).trans rfl
 root:=fun h l b1 data b4=>ZT (ait true) h l b1 data b4
 chk:=fun h l b1 R rok=>akt (akH false) kG h l b1 R rok.sn rok.ks
def atl(b:Bool):Pj (CZ u1 u2 b) aG 1:=fun n l O hl hn hs=>by
 rw[jB (h:=ajG u1 u2) (pz rfl rfl b)];have hb1:Nat.beq l.length (n*1)=true:=by rw[hl];exact aE1 _
 have hb2:Nat.ble n 1099511627776=true:=az8 hn;simp only[ajG,Iq,qF,hb1,hb2,hs,av6]
def atj:ahg (CL u1 u2):=⟨kG (b:=true),kG (b:=true),kG (b:=true),amU (b:=true) (pz rfl rfl),atl true⟩
def arp:abU (CL u1 u2)where
 files:=ahU (b:=true)
 map':=fun O m es h=>by
  rw[jB (C:=CL u1 u2) (h:=aeK) rfl];simp only[aeK,h]
 ord:=fun O v F oo hσ hF ho=>by
  obtain⟨v',oo',L,h1,h2⟩:=aj0 apV hσ hF ho;refine⟨v',oo',L,(jB (C:=CL u1 u2) (h:=ajG u1 u2) rfl _ _).trans ?_,h2⟩;rcases ho with⟨_,_,rfl⟩|⟨q,_,_,rfl,_⟩
  ·exact h1
  ·exact h1
 store:=kG (b:=true)
 repo:=kG (b:=true)
def aov:abQ (CL u1 u2):=⟨kG (b:=true),kG (b:=true),kG (b:=true),kG (b:=true)⟩
def ao6(u1 u2:TypeId)(c:jH)(l:List fQ)(more:List PS):aj (CL u1 u2) uK [.agg c.cs,.sl l.length (l.flatMap fQ.cs),.sl more.length (more.flatMap pC)] []=some (.bool true,[]):=
 Yt r28 (kG (b:=true)) (kG (b:=true)) c l more [] ok0
def ako(u1 u2:TypeId)(c:jH)(l more:List fQ):aj (CL u1 u2) sQ [.agg c.cs,.sl l.length (l.flatMap fQ.cs),.sl more.length (more.flatMap fQ.cs)] []=some (.bool true,[]):=
 V5 r28 arp atj aov (kG (b:=true)) (kG (b:=true)) c l more [] ok0
end
def aru{T:Nat->Bool}{W:World}:Rd T Tryz.prog W 114 (fun _:iy=>True) iy.cs:=
 (zW Tryz.underlying114 (by kernel_rfl) (gK rfl (FT Tryz.underlying9) (gK (by kernel_rfl) (FT Tryz.underlying9) (gK (by kernel_rfl) (FT Tryz.underlying9) GY)))).map (fun x=>⟨x.1,x.2.1,x.2.2.1⟩) (fun _ _=>trivial) (fun _=>rfl)
def arq{T:Nat->Bool}{W:World}:Rd T Tryz.prog W 46 (fun _:fE=>True) fE.cs:=
 (zW Tryz.underlying46 (by kernel_rfl) (gK rfl (P5 Tryz.underlying3) (gK (by kernel_rfl) (LQ (f:=sC) Tryz.underlying44 (by kernel_rfl) (fun _=>rfl) (by decide) (fun _=>rfl) (FT Tryz.underlying9)) GY))).map (fun x=>⟨x.1,x.2.1⟩) (fun _ _=>trivial) (fun _=>rfl)
def ata{T:Nat->Bool}{W:World}:Rd T Tryz.prog W 83 (fun _:PS=>True) pC:=
 (zW Tryz.underlying83 (by kernel_rfl) (gK rfl (FT Tryz.underlying9) (gK (by kernel_rfl) (FT Tryz.underlying9) GY))).map (fun x=>(x.1,x.2.1)) (fun _ _=>trivial) (fun _=>rfl)
def art{T:Nat->Bool}{W:World}:Rd T Tryz.prog W 42 (fun xs:List PS=>xs.length<=maxLen/\∀x∈xs,True) (fun xs=>[.sl xs.length (xs.flatMap pC)]):=
 LQ (k:=2) Tryz.underlying42 (by kernel_rfl) (fun _=>rfl) (by decide) (fun _=>rfl) ata
def ars{T:Nat->Bool}{W:World}:Rd T Tryz.prog W 64 (fun _:PS=>True) pC:=
 (zW Tryz.underlying64 (by kernel_rfl) (gK rfl (FT Tryz.underlying9) (gK (by kernel_rfl) (FT Tryz.underlying9) GY))).map (fun x=>(x.1,x.2.1)) (fun _ _=>trivial) (fun _=>rfl)
def aio{T:Nat->Bool}{W:World}:Rd T Tryz.prog W 22 (fun xs:List PS=>xs.length<=maxLen/\∀x∈xs,True) (fun xs=>[.sl xs.length (xs.flatMap pC)]):=
 LQ (k:=2) Tryz.underlying22 (by kernel_rfl) (fun _=>rfl) (by decide) (fun _=>rfl) ars
def aoO{T:Nat->Bool}{W:World}:Rd T Tryz.prog W 24 (fun _:LU×LU×List PS=>True) (fun x=>[.str x.1,.str x.2.1,.sl x.2.2.length (x.2.2.flatMap pC)]):=
 (zW Tryz.underlying24 (by kernel_rfl) (gK rfl (FT Tryz.underlying9) (gK (by kernel_rfl) (FT Tryz.underlying9) (gK (by kernel_rfl) aio GY)))).map (fun x=>(x.1,x.2.1,x.2.2.1)) (fun _ _=>trivial) (fun _=>rfl)
def amD{T:Nat->Bool}{W:World}:Rd T Tryz.prog W 27 (fun _:Int×Int×Int×Int=>True) (fun x=>[.int .i64 x.1,.int .i64 x.2.1,.int .i64 x.2.2.1,.int .i64 x.2.2.2]):=
 (zW Tryz.underlying27 (by kernel_rfl) (gK rfl (P5 Tryz.underlying3) (gK (by kernel_rfl) (P5 Tryz.underlying3) (gK (by kernel_rfl) (P5 Tryz.underlying3) (gK (by kernel_rfl) (P5 Tryz.underlying3) GY))))).map (fun x=>(x.1,x.2.1,x.2.2.1,x.2.2.2.1)) (fun _ _=>trivial) (fun _=>rfl)
def amE{T:Nat->Bool}{W:World}:Rd T Tryz.prog W 29 (fun c:jH=>(Lit.int .i64 c.now).wf=true) jH.cs:=
 (zW Tryz.underlying29 (by kernel_rfl) (gK rfl aoO (gK (by kernel_rfl) (aoP Tryz.underlying4) (gK (by kernel_rfl) (LQ Tryz.underlying25 (by kernel_rfl) iy.len (by decide) (fun _=>rfl) aru) (gK (by kernel_rfl) (P5 Tryz.underlying2) (gK (by kernel_rfl) amD GY)))))).map (fun x=>⟨x.1.1,x.1.2.1,x.1.2.2,x.2.1,x.2.2.1,x.2.2.2.1,x.2.2.2.2.1.1,x.2.2.2.2.1.2.1,x.2.2.2.2.1.2.2.1,x.2.2.2.2.1.2.2.2⟩) (fun _ h=>h.2.2.2.1) (fun _=>rfl)
def at7{T:Nat->Bool}{W:World}:Rd T Tryz.prog W 57 (fun a:fQ=>(Lit.int .u8 a.kind).wf=true) fQ.cs:=
 (zW Tryz.underlying57 (by kernel_rfl) (gK rfl (P5 Tryz.underlying5) (gK (by kernel_rfl) (FT Tryz.underlying9) (gK (by kernel_rfl) arq (gK (by kernel_rfl) art GY))))).map (fun x=>⟨x.1,x.2.1,x.2.2.1,x.2.2.2.1⟩) (fun _ h=>h.1) (fun _=>rfl)
def agD{T:Nat->Bool}{W:World}:Rd T Tryz.prog W 30 (fun xs:List fQ=>xs.length<=maxLen/\∀x∈xs,(Lit.int .u8 x.kind).wf=true) (fun xs=>[.sl xs.length (xs.flatMap fQ.cs)]):=
 LQ Tryz.underlying30 (by kernel_rfl) fQ.len (by decide) (fun _=>rfl) at7
end Go.Proofs.YtddcpkepggkllaaGreatDoor
