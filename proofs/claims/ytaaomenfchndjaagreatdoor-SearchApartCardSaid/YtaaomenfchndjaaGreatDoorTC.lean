/- Contracts. No conditions. -/
import Derived.Test.YtaaomenfchndjaaGreatDoorTB
set_option linter.unusedVariables false
set_option linter.unusedSimpArgs false
set_option linter.defProp false
open Go.Proofs.Tryz renaming prog→c
open _root_ renaming rfl→y,Option→a
open Go renaming FuncId→q
namespace Go.Proofs.YtaaomenfchndjaaGreatDoor
open Option renaming none→U, some→J
open Bool renaming true→eT, false→eF
open Go.IntKind renaming i64→r
open List renaming length→z
open Go.Ev Go.RowKit
set_option maxRecDepth 1000000
noncomputable section
abbrev DT:=LA->St->a (AV×St)
def prL:List (q×DT)->q->a DT|[],_=>U|(g,h)::l,f=>match Nat.beq f g with|eT=>J h|eF=>prL l f
def agD{C:Ctx}:∀{l:List (q×DT)},(∀p∈l,POK C p.1 p.2)->∀f h,prL l f=J h->POK C f h
 |[],_,f,h,e=>by cases e
 |(g,k)::l,a,f,h,e=>by
  unfold prL at e;split at e;·rename_i hb;have:=a95 hb;subst this;cases e;exact a (f,k) (by simp)
  ·exact agD (λp b=>a p (by simp[b])) f h e
def iE{C:Ctx}{f:q}{h:DT}(a:C.eV f=J h)(args:LA)(O:St):ai C f args O=h args O:=by rw[agR];unfold abR;rw[a]
def Vd{C D:Ctx}(e:D.P=C.P)(j:∀n l,C.gl n=J l->D.gl n=J l)(m:C.np=eT){f:q}{p:DT}(h:POK C f p):POK D f p:=by intro args O v c d g w a i o b;rw[e];exact h args O v c d g w a i o ⟨λn l k=>b.1 n l (j n l k),.inl m⟩
def CL0:Ctx:={CC with np:=eT}
def awz:ajH CL0:=λf x h=>zx c glT (λ_=>eF) ZO f x h
def apb:Yd CL0:=by
 intro f h a;change ZO f=J h at a;unfold ZO at a;split at a;·rename_i hf;have:=a95 hf;subst this;cases a;exact SH (C:=CL0) y
 ·cases a
def atN:fZ CL0 (ai CL0):=Iz CV awz apb
def CR1:Ctx:={CR with np:=eT}
def ajF(n:Nat):fZ CR1 (evF CR1 n):=PX (C:=CR1) CV (λf x h=>zx c glT (λ_=>eT) (λ_=>U) f x h) (λf h a=>by simp[CR1,CR,ja]at a) n
def aAf{f:q}{K:KF}(h:Has CC f K):Has CL0 f K:=⟨h.fs,h.eV,h.eL,h.ok⟩
def aor:DT:=Vb (λs=>.de [.cQ r ((Fj s).getD 0:Nat),.cW (Fj s).isSome])
def adX:∀s:LU,PR (ofBytes s)=J s|[]=>y|a::s=>by have h:=adX s;have hb:Nat.ble a.toNat 255=eT:=aG5 (Nat.le_of_lt_succ (UInt8.toNat_lt a));show PR (.cQ .u8 (.ofNat a.toNat)::ofBytes s)=_;unfold PR;simp only[hb,h];simp
def ayO{C:Ctx}(h1:C.eV iq=J ZM)(h2:C.eV gY=J KU)(h3:Has C qL kU)(h4:Has C ik rZ):BldHas C where
 k7:=λO o b h=>by rw[iE h1];simp only[ZM,h,bT]
 k8:=λO o b h=>by rw[iE h1];have e:=aL6 o;simp only[ZM,h,bT,e]
 md:=λO o p h=>by rw[iE h2];simp only[KU,h,bT]
 me:=λO o q p w h k hw hl=>by
  rw[iE h2];cases w with
  |nil=>exact absurd y hw|cons b s=>have e:=adX (b::s);have e1:Nat.beq (z (b::s)) (z (b::s))=eT:=aL6 _;have e2:Nat.ble (z (b::s)) 1099511627776=eT:=aG5 hl;simp only[bT,uT]at k h;simp only[KU,h,k,e,ni,e1,e2,aD0]
 nq:=h3
 mm:=h4
def aeV:List (q×DT):=[(iq,ZM),(gY,KU),(Yo,aor)]
def CQ:Ctx:={ja c glT (λ_=>eF) (prL aeV)with np:=eT}
def awC:fZ CQ (ai CQ):=Iz CV (λf x h=>zx c glT (λ_=>eF) (prL aeV) f x h) (agD (C:=CQ) (l:=aeV) (by
 unfold aeV;simp only[aE9];exact⟨agA y,YB y,akU y,λ_ h=>by simp at h⟩))
def Pj{f:q}{K:KF}(a:cF c f=J K.ad:=by kernel_rfl)(h2:Tu c f=eT:=by kernel_rfl)(h3:K.ok=eT:=by kernel_rfl)(b:prL aeV f=U:=by exact rfl):Has CQ f K:=by refine⟨?_,b,y,h3⟩;show(ja c glT (λ_=>eF) (prL aeV)).fs f=_;simp only[ja,h2,a]
def aAm:Bc CQ where
 toBldHas:=ayO y y Pj Pj
 kd:=Pj
 eW:=Pj
 cn:=Pj
 gc:=Pj
 ed:=Pj
 ka:=Pj
 jb:=Pj
 nw:=Pj
 lb:=Pj
 je:=Pj
 kc:=Pj
 k4:=Pj
 gW:=Pj
 gg:=Pj
 gs:=Pj
 ei:=λs i O=>by rw[MN (Pj) s i O];cases Uf s i<;>exact⟨_,_,y⟩
 dt:=λs O h=>by rw[iE (h:=aor) y];unfold aor Vb;dsimp only;rw[if_pos (aG5 (by omega))];exact⟨_,_,y⟩
def anf:LU->a LU|[]=>U|c::l=>match Nat.beq c.toNat 34 with|eT=>J []|eF=>match H7 (H7 (Nat.ble 32 c.toNat) (Nat.blt c.toNat 128)) (!Nat.beq c.toNat 92)with|eT=>(anf l).map (c:: ·)|eF=>U
def aja:∀{l t:LU},anf l=J t->∃d,l=t++34::d/\∀c∈t,pla c
 |[],_,h=>by cases h
 |c::l,t,h=>by
  unfold anf at h;split at h;·rename_i e;have e1:c.toNat=34:=a95 e;have:c=34:=aL8.mp e1;cases h;exact⟨l,by rw[this];rfl,λ_ h=>by cases h⟩
  ·rename_i e;split at h
   ·rename_i e2;rw[ni,a02,ni,a02]at e2;obtain⟨u,b,rfl⟩:=aB5.mp h;obtain⟨d,rfl,k⟩:=aja b;refine⟨d,y,λx a=>?_⟩;rcases aC8.mp a with rfl|a;·exact⟨aD3 e2.1.1,aD3 e2.1.2,Nat.ne_of_beq_eq_false e,Nat.ne_of_beq_eq_false (by simpa using e2.2)⟩
    ·exact k x a
   ·cases h
def pRd(args:LA)(O:St):a (AV×St):=match args with
 |[.cU s,.cQ r (.ofNat i)]=>match s.drop i with
  |c::l=>match Nat.beq c.toNat 34 with
   |eT=>match anf l with
    |J t=>match H7 (Nat.ble (z t) 4096) (Nat.ble (z s) 1099511627776)with|eT=>J (.de [.cU t,.cQ r (.ofNat (i+1+z t+1)),.cQ r 0],O)|eF=>U
    |U=>U
   |eF=>U
  |[]=>U
 |_=>U
def azy:POK CC Ed pRd:=Vd (C:=CQ) (D:=CC) (f:=Ed) (p:=pRd) y (λ_ _ h=>h) y λargs O v q h g w a d o m=>by
 unfold pRd at h;split at h
 ·rename_i s i;split at h
  ·rename_i c l j;split at h
   ·rename_i e;have:c=34:=aL8.mp (a95 e);subst this;split at h
    ·rename_i t n;split at h;·rename_i b;rw[ni,a02]at b;cases h;obtain⟨x,rfl,k⟩:=aja n;exact sU awC mO y (akY aAm s (by have:=aD3 b.2;omega) i t x j k (aD3 b.1) [] ok0) d o m
     ·cases h
    ·cases h
   ·cases h
  ·cases h
 ·cases h
end
open Go.Ev
def vi(n:Int):AV:=.cQ r n
def vu(n:Int):AV:=.cQ .u8 n
def ve:AV:=.cU []
noncomputable def spL(M:MM):List (q×afq):=[(18,.lL (λcall=>C9 CC call (sS CC call TT 8) gJ fC)),(60,.lL (λcall=>C9 CC call (sS CC call TT 8) kG iV)),(66,.eV (Vb (λs=>.de [.cQ r ((Fj s).getD 0:Nat),.cW (Fj s).isSome]))),(72,.iu Oi (kA c 72) eT eF),(73,.iu Oi (kA c 73) eT eF),(75,.iu Oi (kA c 75) eT eF),(90,.eV (Vb λs=>.cU (Bj s))),(91,.eV (orP (memo (M 91)) (Vb λs=>.cU (wE s)))),(126,.iu Oi (kA c 126) eT eF),(134,.eV (orP (memo (M 134)) (amU λs t=>.cU (hmac s t)))),(178,.eV (orP Et arQ)),(191,.eV KU),(193,.eV (Vb λs=>.cW (s.all ac1))),(266,.eV auS),(267,.eV ZM),(353,.eV pRd),(360,.eV arP)]
def ayi{M:MM}(a:MOK CC M):∀p∈spL M,EOK CC p.1 p.2:=by unfold spL;simp only[aE9];exact⟨amW y,amV y,akU y,⟨SG (by kernel_rfl) (by kernel_rfl),Xo (by kernel_rfl)⟩,⟨SG (by kernel_rfl) (by kernel_rfl),Xo (by kernel_rfl)⟩,⟨SG (by kernel_rfl) (by kernel_rfl),Xo (by kernel_rfl)⟩,agB,akQ (a 91) (axS),⟨SG (by kernel_rfl) (by kernel_rfl),Xo (by kernel_rfl)⟩,akQ (a 134) (axQ),akQ (SH y) auX,YB y,arT,axO,agA y,azy,auV y,λ_ h=>by simp at h⟩
noncomputable def T0(M:MM):Tr2:=tA c (spL M) [26,34,56,61,123,125,127,179,182,244,248,258,291,312,320,321,322,338,347,348,354,363] [27,56,148] M
def apn{M:MM}(a:MOK CC M):alK CC (T0 M):=⟨azX (ayi a) a,mO⟩
noncomputable section
def A(l m:LU):LU:=List.rec m (λh _ d=>h::d) l
def S(l:LU):AV:=.cU l
def Z:AV:=.sl 0 []
def d28:LU:=[123,34,95,116,121,112,101,34,58,34]
def d22:LU:=[49,57,55,48,45,48,49,45,48,49,84,48,48,58,48,49,58,52,48,90]
def d15:LU:=A [44,34,101,120,112,105,114,101,115,34,58,34] (A d22 [34,44,34])
def d3:LU:=[101,55,102,54,51,55,49,51,49,99,54,49,98,101,101,99,101,100,57,97,51,48,99,98,99,97,101,54,55,99,48,99,99,101,98,51,98,52,57,98,49,99,100,100,102,98,51,97,54,102,97,101,56,50,49,51,54,98,97,54,97,53,97,100]
def d17:LU:=A [107,101,121,115,34,58,123,34] (A d3 [34,58,123,34,112,117,98,108,105,99,34,58,34,48,48,34,44,34,115,99,104,101,109,101,34,58,34,104,109,97,99,45,115,104,97,50,53,54,34,125,125,44,34,114,111,108,101,115,34,58])
def d27:LU:=[44,34,116,104,114,101,115,104,111,108,100,34,58,49,125]
def d16:LU:=A [34,58,123,34,107,101,121,105,100,115,34,58,91,34] (A d3 (A [34,93] d27))
def d24:LU:=[44,34,118,101,114,115,105,111,110,34,58,49,125]
def d0:LU:=A d28 (A [114,111,111,116,34] (A d15 (A d17 (A [123,34,114,111,111,116] (A d16 (A [44,34,115,110,97,112,115,104,111,116] (A d16 (A [44,34,116,97,114,103,101,116,115] (A d16 (A [125] d24))))))))))
def d23:LU:=A d28 [116,97,114,103,101,116,115,34]
def d20:LU:=A [123,34,107,101,121,105,100,115,34,58,91,34] (A d3 [34,93,44,34,110,97,109,101,34,58,34,114])
def d18:LU:=[34,44,34,112,97,116,104,115,34,58,91,34,42,34,44,34,42,47,42,34,93,44,34,116,101,114,109,105,110,97,116,105,110,103,34,58]
def d21:LU:=A d15 (A [116,97,114,103,101,116,115,34,58,123,125] d24)
def d1:LU:=A d23 (A [44,34,100,101,108,101,103,97,116,105,111,110,115,34,58,123,34] (A d17 (A [91] (A d20 (A [49] (A d18 (A [102,97,108,115,101] (A d27 (A [44] (A d20 (A [50] (A d18 (A [116,114,117,101] (A d27 (A [93,125] d21)))))))))))))))
def d19:LU:=[46,106,115,111,110,34,58,123,34,104,97,115,104,101,115,34,58,123,34,115,104,97,50,53,54,34,58,34]
def d10:LU:=[48,99,102,57,55,101,50,51,48,100,97,56,56,48,54,100,52,54,102,53,99,102,97,100,48,52,52,50,50,100,56,53,99,102,99,99,102,101,100,56,50,100,51,99,98,102,54,49,98,51,100,99,98,57,56,101,55,100,52,49,100,98,57,52]
def d26:LU:=[34,125,44,34,108,101,110,103,116,104,34,58]
def d11:LU:=[55,102,54,49,101,53,48,97,99,50,50,57,56,54,48,48,52,101,97,49,49,48,55,50,48,98,54,101,50,54,50,49,98,55,102,54,48,57,99,55,101,101,54,53,98,52,56,48,52,57,54,102,98,48,52,98,51,51,51,50,56,56,99,56]
def d12:LU:=[98,102,50,48,51,102,97,50,54,97,57,101,48,52,55,100,49,50,48,52,101,53,97,98,48,101,50,101,100,99,52,55,53,56,101,97,97,56,56,55,53,55,48,102,52,52,54,48,98,49,99,52,49,48,50,55,99,56,54,102,100,54,56,55]
def d2:LU:=A d28 (A [115,110,97,112,115,104,111,116,34] (A d15 (A [109,101,116,97,34,58,123,34,114,49] (A d19 (A d10 (A d26 (A [50,53,51] (A d24 (A [44,34,114,50] (A d19 (A d11 (A d26 (A [50,57,49] (A d24 (A [44,34,116,97,114,103,101,116,115] (A d19 (A d12 (A d26 (A [54,56,53] (A d24 (A [125] d24)))))))))))))))))))))
def d4:LU:=[49,55,102,57,57,99,55,57,53,99,97,53,51,100,57,57,100,54,49,102,99,57,98,54,48,51,49,56,99,54,54,49,102,51,48,50,55,97,55,50,100,49,57,52,52,56,55,49,98,54,57,48,57,98,97,49,57,56,102,57,48,57,53,56]
def d5:LU:=[56,100,101,56,49,97,100,53,51,49,101,102,56,56,100,55,56,101,50,55,49,57,99,101,57,98,100,57,48,53,55,98,56,98,56,48,51,49,97,102,99,99,100,49,55,98,100,50,101,57,55,54,51,102,53,51,48,50,99,53,49,48,55,54]
def d6:LU:=A d23 d21
def d7:LU:=[50,56,56,102,97,98,97,102,49,101,53,50,48,102,102,101,54,97,48,52,56,100,102,55,55,53,48,52,52,48,55,55,57,99,49,50,48,57,101,50,100,53,51,49,102,55,50,97,49,97,50,97,102,55,48,101,97,54,54,98,51,101,49,102]
def d8:LU:=A d23 (A d15 (A [116,97,114,103,101,116,115,34,58,123,34,120,47,121,34,58,123,34,104,97,115,104,101,115,34,58,123,34,97,34,58,34,48,48] (A d26 (A [55,125,125] d24))))
def d9:LU:=[98,55,101,55,56,53,53,97,56,56,100,48,51,99,57,51,52,54,98,54,98,98,51,97,97,99,48,101,100,50,55,98,55,54,101,51,100,101,49,54,99,53,48,56,51,50,50,100,49,100,52,51,49,54,49,51,49,55,97,51,55,97,102,51]
def d13:LU:=[48,53,53,101,101,50,100,99,55,53,51,55,97,51,49,97,101,50,102,54,97,97,48,48,101,54,97,52,52,55,57,57,49,97,51,50,49,49,98,98,49,98,97,49,53,101,50,51,54,98,54,51,48,54,100,97,55,48,57,49,100,51,51,55]
def d14:LU:=A [123,34,115,105,103,110,97,116,117,114,101,115,34,58,91,123,34,107,101,121,105,100,34,58,34] (A d3 [34,44,34,115,105,103,34,58,34])
def d25:LU:=[34,125,93,44,34,115,105,103,110,101,100,34,58]
def s0:LU:=[104,109,97,99,45,115,104,97,50,53,54]
def s1:LU:=d3
def s2:LU:=d22
def s3:LU:=[116,104,114,101,115,104,111,108,100]
def s4:LU:=d0
def s5:LU:=[23,249,156,121,92,165,61,153,214,31,201,182,3,24,198,97,243,2,122,114,209,148,72,113,182,144,155,161,152,249,9,88]
def s6:LU:=[115,105,103,110,97,116,117,114,101,115]
def s7:LU:=d4
def s8:LU:=A d14 (A d4 (A d25 (A d0 [125])))
def s9:LU:=[116,101,114,109,105,110,97,116,105,110,103]
def s10:LU:=[100,101,108,101,103,97,116,105,111,110,115]
def s11:LU:=d1
def s12:LU:=d5
def s13:LU:=A d14 (A d5 (A d25 (A d1 [125])))
def s14:LU:=d6
def s15:LU:=d7
def s16:LU:=A d14 (A d7 (A d25 (A d6 [125])))
def s17:LU:=d8
def s18:LU:=d9
def s19:LU:=A d14 (A d9 (A d25 (A d8 [125])))
def s20:LU:=d10
def s21:LU:=d11
def s22:LU:=[116,97,114,103,101,116,115,46,106,115,111,110]
def s23:LU:=d12
def s24:LU:=d2
def s25:LU:=d13
def s26:LU:=A d14 (A d13 (A d25 (A d2 [125])))
def s27:LU:=[115,110,97,112,115,104,111,116,46,106,115,111,110]
def Q0:MM:=M0
def x0:AV:=(.cX [S s0,S [48,48]])
def a0:LA:=[x0]
def v0:AV:=(.de [S s1,vi 0])
def Q1:MM:=ig Q0 84 a0 v0
def a1:LA:=[S [48,48]]
def v1:AV:=(.cX [vi 1,(.sl 1 [S s1])])
def Q2:MM:=ig Q1 49 a1 v1
def a2:LA:=[vi 100]
def v2:AV:=(.de [S s2,vi 0])
def Q3:MM:=ig Q2 77 a2 v2
def x1:AV:=(.cX [vi 1,(.sl 1 [S s1])])
def a3:LA:=[x1]
def v3:AV:=(.cW eT)
def Q4:MM:=ig Q3 118 a3 v3
def x2:AV:=(S [95,116,121,112,101])
def x3:AV:=(S [101,120,112,105,114,101,115])
def x4:AV:=(S [114,111,108,101,115])
def x5:AV:=(S [118,101,114,115,105,111,110])
def x6:AV:=(.sl 5 [x2,x3,S [107,101,121,115],x4,x5])
def x7:AV:=(S [112,117,98,108,105,99])
def x8:AV:=(S [115,99,104,101,109,101])
def x9:AV:=(.sl 2 [x7,x8])
def x10:AV:=(.sl 2 [vu 3,vi 0,S [48,48],Z,Z,vu 3,vi 0,S s0,Z,Z])
def x11:AV:=(.sl 1 [vu 5,vi 0,ve,x9,x10])
def x12:AV:=(S [115,110,97,112,115,104,111,116])
def x13:AV:=(S [116,97,114,103,101,116,115])
def x14:AV:=(.sl 3 [S [114,111,111,116],x12,x13])
def x15:AV:=(S [107,101,121,105,100,115])
def x16:AV:=(.sl 2 [x15,S s3])
def x17:AV:=(.sl 1 [vu 3,vi 0,S s1,Z,Z])
def x18:AV:=(.sl 2 [vu 4,vi 0,ve,Z,x17,vu 2,vi 1,ve,Z,Z])
def x19:AV:=(.sl 3 [vu 5,vi 0,ve,x16,x18,vu 5,vi 0,ve,x16,x18,vu 5,vi 0,ve,x16,x18])
def x20:AV:=(.sl 5 [vu 3,vi 0,S [114,111,111,116],Z,Z,vu 3,vi 0,S s2,Z,Z,vu 5,vi 0,ve,(.sl 1 [S s1]),x11,vu 5,vi 0,ve,x14,x19,vu 2,vi 1,ve,Z,Z])
def x21:AV:=(.cX [vu 5,vi 0,ve,x6,x20])
def a4:LA:=[x21]
def v4:AV:=(.cW eT)
def Q5:MM:=ig Q4 137 a4 v4
def a5:LA:=[S s2]
def v5:AV:=(.de [(.cU (A [34] (A d22 [34]))),vi 0])
def Q6:MM:=ig Q5 186 a5 v5
def a6:LA:=[S s1]
def v6:AV:=(.de [(.cU (A [34] (A d3 [34]))),vi 0])
def Q7:MM:=ig Q6 186 a6 v6
def a7:LA:=[x5]
def v7:AV:=(.de [S [34,118,101,114,115,105,111,110,34],vi 0])
def Q8:MM:=ig Q7 186 a7 v7
def a8:LA:=[x21]
def v8:AV:=(.de [S s4,vi 0])
def Q9:MM:=ig Q8 131 a8 v8
def a9:LA:=[S [0],S s4]
def v9:AV:=(S s5)
def Q10:MM:=ig Q9 134 a9 v9
def x22:AV:=(S [115,105,103,110,101,100])
def x23:AV:=(.sl 2 [S s6,x22])
def x24:AV:=(S [107,101,121,105,100])
def x25:AV:=(.sl 2 [x24,S [115,105,103]])
def x26:AV:=(.sl 2 [vu 3,vi 0,S s1,Z,Z,vu 3,vi 0,S s7,Z,Z])
def x27:AV:=(.sl 1 [vu 5,vi 0,ve,x25,x26])
def x28:AV:=(.sl 2 [vu 4,vi 0,ve,Z,x27,vu 5,vi 0,ve,x6,x20])
def x29:AV:=(.cX [vu 5,vi 0,ve,x23,x28])
def a10:LA:=[x29]
def v10:AV:=(.cW eT)
def Q11:MM:=ig Q10 137 a10 v10
def x30:AV:=(.sl 1 [S s1,S s7])
def x31:AV:=(.cX [vu 5,vi 0,ve,x6,x20,x30])
def a11:LA:=[x31]
def v11:AV:=(.cW eT)
def Q12:MM:=ig Q11 132 a11 v11
def a12:LA:=[x29]
def v12:AV:=(.de [S s8,vi 0])
def Q13:MM:=ig Q12 131 a12 v12
def x32:AV:=(.sl 1 [S s0,S [48,48]])
def x33:AV:=(.sl 2 [S [42],S [42,47,42]])
def x34:AV:=(.sl 2 [S [114,49],vi 1,(.sl 1 [S s1]),(.cW eF),x33,Z,S [114,50],vi 1,(.sl 1 [S s1]),(.cW eT),x33,Z])
def x35:AV:=(.cX [x32,x34,vi 0,Z,vi 0,ve])
def a13:LA:=[x35]
def x36:AV:=(.sl 2 [S [107,101,121,115],x4])
def x37:AV:=(S [112,97,116,104,115])
def x38:AV:=(.sl 5 [x15,S [110,97,109,101],x37,S s9,S s3])
def x39:AV:=(.sl 2 [vu 3,vi 0,S [42],Z,Z,vu 3,vi 0,S [42,47,42],Z,Z])
def x40:AV:=(.sl 5 [vu 4,vi 0,ve,Z,x17,vu 3,vi 0,S [114,49],Z,Z,vu 4,vi 0,ve,Z,x39,vu 1,vi 0,ve,Z,Z,vu 2,vi 1,ve,Z,Z])
def x41:AV:=(.sl 5 [vu 4,vi 0,ve,Z,x17,vu 3,vi 0,S [114,50],Z,Z,vu 4,vi 0,ve,Z,x39,vu 1,vi 1,ve,Z,Z,vu 2,vi 1,ve,Z,Z])
def x42:AV:=(.sl 2 [vu 5,vi 0,ve,x38,x40,vu 5,vi 0,ve,x38,x41])
def x43:AV:=(.sl 2 [vu 5,vi 0,ve,(.sl 1 [S s1]),x11,vu 4,vi 0,ve,Z,x42])
def v13:AV:=(.cX [vu 5,vi 0,ve,x36,x43])
def Q14:MM:=ig Q13 164 a13 v13
def x44:AV:=(.cX [vu 5,vi 0,ve,x36,x43])
def a14:LA:=[x44]
def v14:AV:=(.cW eT)
def Q15:MM:=ig Q14 137 a14 v14
def a15:LA:=[x35]
def v15:AV:=(.cW eT)
def Q16:MM:=ig Q15 100 a15 v15
def a16:LA:=[x44]
def v16:AV:=(.cX [vu 5,vi 0,ve,x36,x43])
def Q17:MM:=ig Q16 99 a16 v16
def x45:AV:=(.cX [vi 1,vi 100,Z,x32,x34,vi 0,Z,vi 0,ve])
def a17:LA:=[x45]
def x46:AV:=(.sl 5 [x2,S s10,x3,x13,x5])
def x47:AV:=(.sl 5 [vu 3,vi 0,x13,Z,Z,vu 5,vi 0,ve,x36,x43,vu 3,vi 0,S s2,Z,Z,vu 5,vi 0,ve,Z,Z,vu 2,vi 1,ve,Z,Z])
def x48:AV:=(.cX [vu 5,vi 0,ve,x46,x47])
def v17:AV:=(.de [x48,vi 0])
def Q18:MM:=ig Q17 89 a17 v17
def a18:LA:=[x48]
def v18:AV:=(.cW eT)
def Q19:MM:=ig Q18 137 a18 v18
def a19:LA:=[x48]
def v19:AV:=(.de [S s11,vi 0])
def Q20:MM:=ig Q19 131 a19 v19
def a20:LA:=[S [0],S s11]
def v20:AV:=(S [141,232,26,213,49,239,136,215,142,39,25,206,155,217,5,123,139,128,49,175,204,209,123,210,233,118,63,83,2,197,16,118])
def Q21:MM:=ig Q20 134 a20 v20
def x49:AV:=(.sl 2 [vu 3,vi 0,S s1,Z,Z,vu 3,vi 0,S s12,Z,Z])
def x50:AV:=(.sl 1 [vu 5,vi 0,ve,x25,x49])
def x51:AV:=(.sl 2 [vu 4,vi 0,ve,Z,x50,vu 5,vi 0,ve,x46,x47])
def x52:AV:=(.cX [vu 5,vi 0,ve,x23,x51])
def a21:LA:=[x52]
def v21:AV:=(.cW eT)
def Q22:MM:=ig Q21 137 a21 v21
def a22:LA:=[x52]
def v22:AV:=(.de [S s13,vi 0])
def Q23:MM:=ig Q22 131 a22 v22
def a23:LA:=[S s13]
def v23:AV:=(S [191,32,63,162,106,158,4,125,18,4,229,171,14,46,220,71,88,234,168,135,87,15,68,96,177,196,16,39,200,111,214,135])
def Q24:MM:=ig Q23 91 a23 v23
def x53:AV:=(.cX [Z,Z,vi 0,Z,vi 0,ve])
def a24:LA:=[x53]
def v24:AV:=(.cW eT)
def Q25:MM:=ig Q24 100 a24 v24
def x54:AV:=(.sl 4 [x2,x3,x13,x5])
def x55:AV:=(.sl 4 [vu 3,vi 0,x13,Z,Z,vu 3,vi 0,S s2,Z,Z,vu 5,vi 0,ve,Z,Z,vu 2,vi 1,ve,Z,Z])
def x56:AV:=(.cX [vu 5,vi 0,ve,x54,x55])
def a25:LA:=[x56]
def v25:AV:=(.de [S s14,vi 0])
def Q26:MM:=ig Q25 131 a25 v25
def a26:LA:=[S [0],S s14]
def v26:AV:=(S [40,143,171,175,30,82,15,254,106,4,141,247,117,4,64,119,156,18,9,226,213,49,247,42,26,42,247,14,166,107,62,31])
def Q27:MM:=ig Q26 134 a26 v26
def x57:AV:=(.sl 1 [S s1,S s15])
def x58:AV:=(.cX [vu 5,vi 0,ve,x54,x55,x57])
def a27:LA:=[x58]
def v27:AV:=(.cW eT)
def Q28:MM:=ig Q27 132 a27 v27
def x59:AV:=(.sl 2 [vu 3,vi 0,S s1,Z,Z,vu 3,vi 0,S s15,Z,Z])
def x60:AV:=(.sl 1 [vu 5,vi 0,ve,x25,x59])
def x61:AV:=(.sl 2 [vu 4,vi 0,ve,Z,x60,vu 5,vi 0,ve,x54,x55])
def x62:AV:=(.cX [vu 5,vi 0,ve,x23,x61])
def a28:LA:=[x62]
def v28:AV:=(.de [S s16,vi 0])
def Q29:MM:=ig Q28 131 a28 v28
def a29:LA:=[S s16]
def v29:AV:=(S [12,249,126,35,13,168,128,109,70,245,207,173,4,66,45,133,207,204,254,216,45,60,191,97,179,220,185,142,125,65,219,148])
def Q30:MM:=ig Q29 91 a29 v29
def x63:AV:=(.sl 1 [S [97],S [48,48]])
def x64:AV:=(.sl 1 [S [120,47,121],vi 7,x63,vu 0,vi 0,ve,Z,Z])
def x65:AV:=(.cX [vi 1,vi 100,x64,Z,Z,vi 0,Z,vi 0,ve])
def a30:LA:=[x65]
def x66:AV:=(.sl 1 [S [120,47,121]])
def x67:AV:=(S [104,97,115,104,101,115])
def x68:AV:=(S [108,101,110,103,116,104])
def x69:AV:=(.sl 2 [x67,x68])
def x70:AV:=(.sl 1 [vu 3,vi 0,S [48,48],Z,Z])
def x71:AV:=(.sl 2 [vu 5,vi 0,ve,(.sl 1 [S [97]]),x70,vu 2,vi 7,ve,Z,Z])
def x72:AV:=(.sl 1 [vu 5,vi 0,ve,x69,x71])
def x73:AV:=(.sl 4 [vu 3,vi 0,x13,Z,Z,vu 3,vi 0,S s2,Z,Z,vu 5,vi 0,ve,x66,x72,vu 2,vi 1,ve,Z,Z])
def x74:AV:=(.cX [vu 5,vi 0,ve,x54,x73])
def v30:AV:=(.de [x74,vi 0])
def Q31:MM:=ig Q30 89 a30 v30
def a31:LA:=[x74]
def v31:AV:=(.de [S s17,vi 0])
def Q32:MM:=ig Q31 131 a31 v31
def a32:LA:=[S [0],S s17]
def v32:AV:=(S [183,231,133,90,136,208,60,147,70,182,187,58,172,14,210,123,118,227,222,22,197,8,50,45,29,67,22,19,23,163,122,243])
def Q33:MM:=ig Q32 134 a32 v32
def x75:AV:=(.sl 2 [vu 3,vi 0,S s1,Z,Z,vu 3,vi 0,S s18,Z,Z])
def x76:AV:=(.sl 1 [vu 5,vi 0,ve,x25,x75])
def x77:AV:=(.sl 2 [vu 4,vi 0,ve,Z,x76,vu 5,vi 0,ve,x54,x73])
def x78:AV:=(.cX [vu 5,vi 0,ve,x23,x77])
def a33:LA:=[x78]
def v33:AV:=(.cW eT)
def Q34:MM:=ig Q33 137 a33 v33
def a34:LA:=[x78]
def v34:AV:=(.de [S s19,vi 0])
def Q35:MM:=ig Q34 131 a34 v34
def a35:LA:=[S s19]
def v35:AV:=(S [127,97,229,10,194,41,134,0,78,161,16,114,11,110,38,33,183,246,9,199,238,101,180,128,73,111,176,75,51,50,136,200])
def Q36:MM:=ig Q35 91 a35 v35
def x79:AV:=(S [114,49,46,106,115,111,110])
def x80:AV:=(S [115,104,97,50,53,54])
def x81:AV:=(.sl 1 [x80,S s20])
def x82:AV:=(S [114,50,46,106,115,111,110])
def x83:AV:=(.sl 1 [x80,S s21])
def x84:AV:=(.sl 1 [x80,S s23])
def x85:AV:=(.sl 3 [x79,vi 1,vi 253,x81,x82,vi 1,vi 291,x83,S s22,vi 1,vi 685,x84])
def x86:AV:=(.cX [vi 1,vi 100,x85])
def a36:LA:=[x86]
def x87:AV:=(.sl 4 [x2,x3,S [109,101,116,97],x5])
def x88:AV:=(.sl 3 [x79,x82,S s22])
def x89:AV:=(.sl 3 [x67,x68,x5])
def x90:AV:=(.sl 1 [x80])
def x91:AV:=(.sl 1 [vu 3,vi 0,S s20,Z,Z])
def x92:AV:=(.sl 3 [vu 5,vi 0,ve,x90,x91,vu 2,vi 253,ve,Z,Z,vu 2,vi 1,ve,Z,Z])
def x93:AV:=(.sl 1 [vu 3,vi 0,S s21,Z,Z])
def x94:AV:=(.sl 3 [vu 5,vi 0,ve,x90,x93,vu 2,vi 291,ve,Z,Z,vu 2,vi 1,ve,Z,Z])
def x95:AV:=(.sl 1 [vu 3,vi 0,S s23,Z,Z])
def x96:AV:=(.sl 3 [vu 5,vi 0,ve,x90,x95,vu 2,vi 685,ve,Z,Z,vu 2,vi 1,ve,Z,Z])
def x97:AV:=(.sl 3 [vu 5,vi 0,ve,x89,x92,vu 5,vi 0,ve,x89,x94,vu 5,vi 0,ve,x89,x96])
def x98:AV:=(.sl 4 [vu 3,vi 0,x12,Z,Z,vu 3,vi 0,S s2,Z,Z,vu 5,vi 0,ve,x88,x97,vu 2,vi 1,ve,Z,Z])
def x99:AV:=(.cX [vu 5,vi 0,ve,x87,x98])
def v36:AV:=(.de [x99,vi 0])
def Q37:MM:=ig Q36 54 a36 v36
def a37:LA:=[x99]
def v37:AV:=(.cW eT)
def Q38:MM:=ig Q37 137 a37 v37
def a38:LA:=[x99]
def v38:AV:=(.de [S s24,vi 0])
def Q39:MM:=ig Q38 131 a38 v38
def a39:LA:=[S [0],S s24]
def v39:AV:=(S [5,94,226,220,117,55,163,26,226,246,170,0,230,164,71,153,26,50,17,187,27,161,94,35,107,99,6,218,112,145,211,55])
def Q40:MM:=ig Q39 134 a39 v39
def x100:AV:=(.sl 2 [vu 3,vi 0,S s1,Z,Z,vu 3,vi 0,S s25,Z,Z])
def x101:AV:=(.sl 1 [vu 5,vi 0,ve,x25,x100])
def x102:AV:=(.sl 2 [vu 4,vi 0,ve,Z,x101,vu 5,vi 0,ve,x87,x98])
def x103:AV:=(.cX [vu 5,vi 0,ve,x23,x102])
def a40:LA:=[x103]
def v40:AV:=(.cW eT)
def Q41:MM:=ig Q40 137 a40 v40
def x104:AV:=(.sl 1 [S s1,S s25])
def x105:AV:=(.cX [vu 5,vi 0,ve,x87,x98,x104])
def a41:LA:=[x105]
def v41:AV:=(.cW eT)
def Q42:MM:=ig Q41 132 a41 v41
def a42:LA:=[x103]
def v42:AV:=(.de [S s26,vi 0])
def Q43:MM:=ig Q42 131 a42 v42
def a43:LA:=[(.sl 3 [x13,Z,x34,vi 0,ve,vi 0,(.cW eF),S [114,49],Z,Z,vi 0,ve,vi 0,(.cW eF),S [114,50],x66,Z,vi 0,ve,vi 0,(.cW eF)])]
def ayA:AV:=(.sl 4 [S s22,S s13,x79,S s16,x82,S s19,S s27,S s26])
def v43:AV:=(.cX [S [114],S s8,ayA])
def Q44:MM:=ig Q43 24 a43 v43
def a44:LA:=[]
def x107:AV:=(.dv (.func AA) [] [])
def aAr:AV:=(.dv (.func Fb) [] [])
def v44:AV:=(.cX (cqR 34 .eo ((.dv (.func Fa) [] [])::cqR 8 .eo (x107::(.dv (.func Gs) [] [])::x107::x107::.eo::cqR 10 x107 ((.dv (.func Gq) [] [])::cqR 32 .eo ((.dv (.func Gt) [] [])::.eo::(.dv (.func Ji) [] [])::.eo::.eo::.eo::cqR 26 aAr ((.dv (.func Jj) [] [])::.eo::(.dv (.func Jk) [] [])::cqR 130 .eo [])))))))
def Q45:MM:=ig Q44 307 a44 v44
def a45:LA:=[S s8]
def v45:AV:=(.de [x29,vi 0,vi 0])
def Q46:MM:=ig Q45 146 a45 v45
def a46:LA:=[x29]
def v46:AV:=(.de [x31,vi 0])
def Q47:MM:=ig Q46 147 a46 v46
def a47:LA:=[(.cX [vu 5,vi 0,ve,x16,x18])]
def v47:AV:=(.de [x1,vi 0])
def Q48:MM:=ig Q47 220 a47 v47
def a48:LA:=[x21]
def v48:AV:=(.de [(.cX [vi 1,vi 100,x32,vi 1,(.sl 1 [S s1]),vi 1,(.sl 1 [S s1]),vi 1,(.sl 1 [S s1])]),vi 0])
def Q49:MM:=ig Q48 95 a48 v48
def a49:LA:=[x31]
def v49:AV:=(.de [S s4,vi 0])
def Q50:MM:=ig Q49 85 a49 v49
def a50:LA:=[x32,S s1]
def v50:AV:=(.de [x0,(.cW eT)])
def Q51:MM:=ig Q50 221 a50 v50
def a51:LA:=[S s7]
def v51:AV:=(.de [S s5,vi 0])
def Q52:MM:=ig Q51 133 a51 v51
def a52:LA:=[(.cX []),x0,(.cX [S s1,S s7]),S s4]
def v52:AV:=(.cW eT)
def Q53:MM:=ig Q52 413 a52 v52
def a53:LA:=[x12]
def v53:AV:=(.de [S s27,vi 0])
def Q54:MM:=ig Q53 71 a53 v53
def a54:LA:=[S s26]
def v54:AV:=(.de [x103,vi 0,vi 0])
def Q55:MM:=ig Q54 146 a54 v54
def a55:LA:=[x103]
def v55:AV:=(.de [x105,vi 0])
def Q56:MM:=ig Q55 147 a55 v55
def a56:LA:=[x99]
def v56:AV:=(.de [x86,vi 0])
def Q57:MM:=ig Q56 108 a56 v56
def a57:LA:=[x105]
def v57:AV:=(.de [S s24,vi 0])
def Q58:MM:=ig Q57 85 a57 v57
def a58:LA:=[S s25]
def v58:AV:=(.cW eT)
def Q59:MM:=ig Q58 315 a58 v58
def a59:LA:=[(.cX []),x0,(.cX [S s1,S s25]),S s24]
def v59:AV:=(.cW eT)
def Q60:MM:=ig Q59 413 a59 v59
def a60:LA:=[x13]
def v60:AV:=(.de [S s22,vi 0])
def Q61:MM:=ig Q60 71 a60 v60
def a61:LA:=[x86,x13,vi 65536]
def v61:AV:=(.de [(.cX [S s22,vi 1,vi 685,x84]),vi 685,vu 0])
def Q62:MM:=ig Q61 19 a61 v61
def a62:LA:=[S s13]
def v62:AV:=(.de [x52,vi 0,vi 0])
def Q63:MM:=ig Q62 146 a62 v62
def a63:LA:=[x52]
def aAs:AV:=(.sl 1 [S s1,S s12])
def aA5:AV:=(.cX [vu 5,vi 0,ve,x46,x47,aAs])
def v63:AV:=(.de [aA5,vi 0])
def Q64:MM:=ig Q63 147 a63 v63
def a64:LA:=[x42]
def v64:AV:=(.de [x34,vi 0])
def Q65:MM:=ig Q64 318 a64 v64
def a65:LA:=[x48]
def v65:AV:=(.de [x45,vi 0])
def Q66:MM:=ig Q65 224 a65 v65
def a66:LA:=[aA5]
def v66:AV:=(.de [S s11,vi 0])
def Q67:MM:=ig Q66 85 a66 v66
def a67:LA:=[(.cX []),x0,(.cX [S s1,S s12]),S s11]
def v67:AV:=(.cW eT)
def Q68:MM:=ig Q67 413 a67 v67
def a68:LA:=[x35,S [120,47,121]]
def v68:AV:=(.sl 2 [S [114,49],vi 1,(.sl 1 [S s1]),(.cW eF),S [114,50],vi 1,(.sl 1 [S s1]),(.cW eT)])
def Q69:MM:=ig Q68 64 a68 v68
def a69:LA:=[S [114,49]]
def v69:AV:=(.de [x79,vi 0])
def Q70:MM:=ig Q69 71 a69 v69
def a70:LA:=[x86,S [114,49],vi 65536]
def v70:AV:=(.de [(.cX [x79,vi 1,vi 253,x81]),vi 253,vu 0])
def Q71:MM:=ig Q70 19 a70 v70
def a71:LA:=[S s16]
def v71:AV:=(.de [x62,vi 0,vi 0])
def Q72:MM:=ig Q71 146 a71 v71
def a72:LA:=[x62]
def v72:AV:=(.de [x58,vi 0])
def Q73:MM:=ig Q72 147 a72 v72
def a73:LA:=[x56]
def v73:AV:=(.de [(.cX [vi 1,vi 100,Z,Z,Z,vi 0,Z,vi 0,ve]),vi 0])
def Q74:MM:=ig Q73 224 a73 v73
def a74:LA:=[x58]
def v74:AV:=(.de [S s14,vi 0])
def Q75:MM:=ig Q74 85 a74 v74
def a75:LA:=[(.cX []),x0,(.cX [S s1,S s15]),S s14]
def v75:AV:=(.cW eT)
def Q76:MM:=ig Q75 413 a75 v75
def a76:LA:=[x53,S [120,47,121]]
def v76:AV:=Z
def Q77:MM:=ig Q76 64 a76 v76
def a77:LA:=[S s19]
def v77:AV:=(.de [x78,vi 0,vi 0])
def Q78:MM:=ig Q77 146 a77 v77
def a78:LA:=[x78]
def aAt:AV:=(.sl 1 [S s1,S s18])
def x112:AV:=(.cX [vu 5,vi 0,ve,x54,x73,aAt])
def v78:AV:=(.de [x112,vi 0])
def Q79:MM:=ig Q78 147 a78 v78
def a79:LA:=[x74]
def v79:AV:=(.de [x65,vi 0])
def Q80:MM:=ig Q79 224 a79 v79
def a80:LA:=[x112]
def v80:AV:=(.de [S s17,vi 0])
def Q81:MM:=ig Q80 85 a80 v80
def a81:LA:=[(.cX []),x0,(.cX [S s1,S s18]),S s17]
def v81:AV:=(.cW eT)
def Q82:MM:=ig Q81 413 a81 v81
def a82:LA:=[x35,S [122]]
def v82:AV:=(.sl 2 [S [114,49],vi 1,(.sl 1 [S s1]),(.cW eF),S [114,50],vi 1,(.sl 1 [S s1]),(.cW eT)])
def Q83:MM:=ig Q82 64 a82 v82
def a83:LA:=[x53,S [122]]
def v83:AV:=Z
def Q84:MM:=ig Q83 64 a83 v83
def x113:AV:=(.dv (.func oz) [] [])
def x114:AV:=(.dv (.func rF) [] [(.da 41 0),(.da 40 0)])
def x115:AV:=(.dv (.func rF) [] [(.da 44 0),(.da 40 0)])
def aA6:AV:=(.sl 3 [x13,S [114,49],S [114,50]])
def st0:St:=[.cP [vi 3,vi 2,vi 65536,vi 65536] FZ,.cP [S [114],S s8,ayA] FZ,.cP [(.dx 148 (.cX []))] FZ,.cP [S [114],S s8,ayA] FZ,.cP [vi 3,vi 2,vi 65536,vi 65536] FZ,.cP [S s22,S s13] FZ,.cP [x79,S s16] FZ,.cP [x82,S s19] FZ,.cP [S s27,S s26] FZ,.cP [S s22,S s13,x79,S s16,x82,S s19,S s27,S s26] FZ,.dz [⟨(S s27),(.cX [vi 65536,vi 627,S s26])⟩,⟨(S s22),(.cX [vi 685,vi 685,S s13])⟩,⟨x79,(.cX [vi 253,vi 253,S s16])⟩,⟨x82,(.cX [vi 291,vi 291,S s19])⟩],.cP [S [114],(.dj 9 0 4 2),(.dz 10),(.dj 73 0 4 1)] FZ,.cP [vi 1,vi 100,x32,vi 1,(.sl 1 [S s1]),vi 1,(.sl 1 [S s1]),vi 1,(.sl 1 [S s1])] FZ,.cP [(.da 11 0),vi 1,vi 100,x32,vi 1,(.sl 1 [S s1]),vi 1,(.sl 1 [S s1]),vi 1,(.sl 1 [S s1]),(.da 2 0),vi 9,vi 65536,vi 65536] FZ,.cP [vi 3,vi 2,vi 65536,vi 65536] FZ,.cP [vu 1,vu 0,vu 0,ve,vi 7,x63,vu 0,vi 0,ve,Z,Z,(.dj 63 0 3 1)] FZ,.dz [⟨x13,(vi 1)⟩,⟨(S [114,49]),(vi 2)⟩,⟨(S [114,50]),(vi 3)⟩],.cP [x13,vi 1,x113] FZ,.cP [x13,vi 1,x113] FZ,.em,.cP [vi 1,vi 100,x85] FZ,.cP [vu 0] FZ,.cP [vi 1,vi 100,x85] FZ,.cP [vi 65536,vi 627,S s26] FZ,.em,.cP [vi 1,vi 100,x85] FZ,.cP [vi 1,vi 100,x85] FZ,.cP [vi 1,vi 100,Z,x32,x34,vi 0,Z,vi 0,ve] FZ,.cP [vi 1,(.sl 1 [S s1])] FZ,.cP [vi 1,vi 100,Z,x32,x34,vi 0,Z,vi 0,ve] FZ,.cP [vu 0] FZ,.cP [vi 1,(.sl 1 [S s1])] FZ,.cP [vi 1,vi 100,Z,x32,x34,vi 0,Z,vi 0,ve] FZ,.cP [vi 1,vi 100,x85] FZ,.cP [S s22,vi 1,vi 685,x84] FZ,.cP [vi 685,vi 685,S s13] FZ,.em,.cP [vi 1,vi 100,Z,x32,x34,vi 0,Z,vi 0,ve] FZ,.cP [vi 1,vi 100,Z,x32,x34,vi 0,Z,vi 0,ve] FZ,.cP [vi 0,Z,vu 0,vi 0,ve,Z,Z] FZ,.cP [x32,x34,vi 0,Z,vi 0,ve] FZ,.cP [S [114,50],vi 1,(.sl 1 [S s1]),(.cW eT)] FZ,.cP [S [114,50],vi 2,x114] FZ,.em,.cP [S [114,49],vi 1,(.sl 1 [S s1]),(.cW eF)] FZ,.cP [S [114,49],vi 2,x115] FZ,.cP [S [114,50],vi 2,x114,S [114,49],vi 2,x115] FZ,.cP [S [114,49],vi 2,x115] FZ,.em,.cP [vi 1,vi 100,Z,Z,Z,vi 0,Z,vi 0,ve] FZ,.cP [vi 1,(.sl 1 [S s1])] FZ,.cP [vi 1,vi 100,Z,Z,Z,vi 0,Z,vi 0,ve] FZ,.cP [vu 0] FZ,.cP [vi 1,(.sl 1 [S s1])] FZ,.cP [vi 1,vi 100,Z,Z,Z,vi 0,Z,vi 0,ve] FZ,.cP [vi 1,vi 100,x85] FZ,.cP [x79,vi 1,vi 253,x81] FZ,.cP [vi 253,vi 253,S s16] FZ,.em,.cP [vi 1,vi 100,Z,Z,Z,vi 0,Z,vi 0,ve] FZ,.cP [vi 1,vi 100,Z,Z,Z,vi 0,Z,vi 0,ve] FZ,.cP [vi 0,Z,vu 0,vi 0,ve,Z,Z] FZ,.cP [S [114,50],vi 2,x114] FZ,.cP [x13,S [114,49],S [114,50]] ⟨eT,U⟩,.cP [vi 1,vi 100,x64,Z,Z,vi 0,Z,vi 0,ve] FZ,.cP [vi 1,(.sl 1 [S s1])] FZ,.cP [vi 1,vi 100,x64,Z,Z,vi 0,Z,vi 0,ve] FZ,.cP [vu 0] FZ,.cP [vi 1,(.sl 1 [S s1])] FZ,.cP [vi 1,vi 100,x64,Z,Z,vi 0,Z,vi 0,ve] FZ,.cP [vi 1,vi 100,x85] FZ,.cP [x82,vi 1,vi 291,x83] FZ,.cP [vi 291,vi 291,S s19] FZ,.cP [S s27,S s22,x79,x82] FZ,.cP [vi 1,vi 100,x64,Z,Z,vi 0,Z,vi 0,ve] FZ,.cP [vi 1,vi 100,x64,Z,Z,vi 0,Z,vi 0,ve] FZ,.cP [vi 7,x63,vu 0,vi 0,ve,Z,Z] FZ,.cP [vu 1,vu 0,vu 0,ve,vi 7,x63,vu 0,vi 0,ve,Z,Z,aA6] FZ]
def sa0:LA:=[(.da 13 0),S [122],(.cX [vi 3,vi 2,vi 65536,vi 65536])]
def sv0:AV:=(.cX [vu 2,vu 0,vu 0,ve,vi 0,Z,vu 0,vi 0,ve,Z,Z,aA6])
def SR:List awN:=[⟨sa0,st0,sv0,st0⟩]
end
def l0:fG (dA CC (T0 Q0) 5000 aqc a0 []) v0=eT:=by kernel_rfl
def l1:fG (dA CC (T0 Q1) 5000 WF a1 []) v1=eT:=by kernel_rfl
def l2:fG (dA CC (T0 Q2) 5000 ahZ a2 []) v2=eT:=by kernel_rfl
def l3:fG (dA CC (T0 Q3) 5000 ak9 a3 []) v3=eT:=by kernel_rfl
def l4:fG (dA CC (T0 Q4) 5000 kW a4 []) v4=eT:=by kernel_rfl
def l5:fG (dA CC (T0 Q5) 5000 zl a5 []) v5=eT:=by kernel_rfl
def l6:fG (dA CC (T0 Q6) 5000 zl a6 []) v6=eT:=by kernel_rfl
def l7:fG (dA CC (T0 Q7) 5000 zl a7 []) v7=eT:=by kernel_rfl
def l8:fG (dA CC (T0 Q8) 5000 fM a8 []) v8=eT:=by kernel_rfl
def l9:fG (dA CC (T0 Q9) 5000 BC a9 []) v9=eT:=by kernel_rfl
def l10:fG (dA CC (T0 Q10) 5000 kW a10 []) v10=eT:=by kernel_rfl
def l11:fG (dA CC (T0 Q11) 5000 UV a11 []) v11=eT:=by kernel_rfl
end Go.Proofs.YtaaomenfchndjaaGreatDoor
