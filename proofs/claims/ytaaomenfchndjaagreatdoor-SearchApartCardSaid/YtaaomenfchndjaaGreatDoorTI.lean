/- Contracts. No conditions. -/
import Derived.Test.YtaaomenfchndjaaGreatDoorTH
import Derived.Shelf.SlMaps.Clone
set_option linter.unusedVariables false
set_option linter.unusedSimpArgs false
set_option linter.defProp false
set_option maxRecDepth 1000000
open _root_ renaming rfl→F,List→j,Bool→q,trivial→h,Nat→s,funext→p,Option→t,True→y
open Go.Proofs.Tryz renaming prog→I,underlying9→a,underlying3→f,underlying168→g,func74→v
open Go renaming FuncId→i,TypeId→d,World→l
open Go.Proofs.YtaaomenfchndjaaGreatDoor renaming has→c,CL0→w,prL→B
open Go.Ev renaming a06→e,POK→H,pFn→n,aE9→x
open Nat renaming beq→k
namespace Go.Proofs.YtaaomenfchndjaaGreatDoor
open Option renaming some→J, none→U
open Bool renaming true→eT, false→eF
open Go.IntKind renaming i64→r
open List renaming length→z
open Go.Ev Go.RowKit
def azo:∀p∈mtL,methodOf I p.1 .ep p.2.1=J (p.2.2,.ep):=by unfold mtL;simp only[x];exact⟨by kernel_rfl,by kernel_rfl,λ_ h=>by simp at h⟩
noncomputable def rowOk(p:i×Sm):q:=ab5 I p.1&&((B Qu p.1).isNone&& !aiN p.1)
section
variable{u1 u2:TypeId}
def aqz{rows:j (i×Sm)}(h:rows.all rowOk=eT):∀p∈rows,Has (C0 u1 u2) p.1 (kA I p.1):=λp a=>by have k:=aB0.mp h p a;unfold rowOk at k;simp only[a02,Option.isNone_iff_eq_none,aJ2]at k;exact aAg k.1 k.2.1 k.2.2
def hand1:j (i×Sm):=[(qI,.dp [.df,.cQ r] (.de [.cQ r,.cW]))]
def abW:∀p∈hand1,bZ (C0 u1 u2) cO p.1 p.2:=by unfold hand1;simp only[x];exact⟨agY (c),λ_ h=>by simp at h⟩
def Dy(u1 u2:d)(l:j (i×Sm)):Prop:=∀p∈l,bZ (C0 u1 u2) cO p.1 p.2
def akl(n:s):t Sh:=match k n Gz with|eT=>J (.ec 0 [.sc [114,111,111,116],.sc [115,110,97,112,115,104,111,116],.sc [116,97,114,103,101,116,115]])|eF=>U
def anW:∀n s,akl n=J s->∀V:Val,M V s (.ec (((C0 u1 u2).gl n).getD [])):=by
 intro n s h V;unfold akl at h;split at h
 ·rename_i hb;have:=a95 hb;subst this;cases h;have e:((C0 u1 u2).gl Gz).getD []=[.cU [114,111,111,116],.cU [115,110,97,112,115,104,111,116],.cU [116,97,114,103,101,116,115]]:=by show(glX u1 u2 Gz).getD []=_;rw[ai8 Gz [.cU [114,111,111,116],.cU [115,110,97,112,115,104,111,116],.cU [116,97,114,103,101,116,115]] (by kernel_rfl)];rfl
  rw[e];exact M.ec 0 _ [.cU [114,111,111,116],.cU [115,110,97,112,115,104,111,116],.cU [116,97,114,103,101,116,115]] [] (.ef _ _ _ _ F (.sc _) (.ef _ _ _ _ F (.sc _) (.ef _ _ _ _ F (.sc _) .db))) (a97 _) F
 ·cases h
def stage{h rows:j (i×Sm)}(H:Dy u1 u2 h)(c:rows.all rowOk=eT)(d:(ajQ (ax6 akl mtL h) (awr I rows)).isSome=eT):Dy u1 u2 (rows++h):=λp a=>(aE4.mp a).elim (ajS anW azo H (aqz c) d p) (H p)
def sm1:Dy u1 u2 (azM++hand1):=stage abW (by kernel_rfl) (by kernel_rfl)
def ayc:bZ (C0 u1 u2) cO Zr (.dp [aT] .cW):=sm1 _ (e (i:=0) F)
def ayg:bZ (C0 u1 u2) cO Qb (.dp [aT,aT] .cW):=sm1 _ (e (i:=1) F)
def asK:bZ (C0 u1 u2) cO LP (.dp [bg] aT):=sm1 _ (e (i:=2) F)
def azP:bZ (C0 u1 u2) cO vK (.dp [gz] .cW):=sm1 _ (e (i:=3) F)
def aAo:bZ (C0 u1 u2) cO PY (.dp [bg] .cW):=sm1 _ (e (i:=4) F)
def avx:bZ (C0 u1 u2) cO WL (.dp [aT] aT):=sm1 _ (e (i:=6) F)
def avQ:aaj (C0 u1 u2) cO where
 mT:=c
 gW:=c
 nu:=F
 lw:=ayc
 nl:=ayg
 gk:=avx
 j7:=asK
def aty:Nv (C0 u1 u2) cO where
 kg:=c
 i7:=c
 ju:=c
 kr:=c
 gs:=ajm u1 u2
 g7:=azP
def axk:aaM (C0 u1 u2) cO:=⟨c,aAo,abW _ (e (i:=0) F)⟩
def hand2:j (i×Sm):=[(qI,.dp [.df,.cQ r] (.de [.cQ r,.cW])),(kW,.dp [.jv] .cW),(Dk,.dp [.df] (.de [.cQ r,.cQ r])),(Eg,.dp [.jv] .jv),(Gx,.dp [.jv,.df] (.de [.jv,.cW])),(Gw,.dp [.df] .cW),(fM,.dp [.jv] (.de [.df,.cQ r])),(vJ,.dp [.df] .df),(lY,.dp [.fY 2 [.df,.jv,.df,.jv]] (.de [.jv,.cQ r])),(Ea,.dp [.df] (.de [.df,.cQ r])),(BC,.dp [.df,.df] .df),(gK,.dp [.df,.df] (.de [.df,.cW]))]
def MK:∀p∈hand2,bZ (C0 u1 u2) cO p.1 p.2:=by unfold hand2;simp only[x];exact⟨abW _ (e (i:=0) F),ah1 aty,ah2 avQ,adC (Wl u1 u2),ah0 (Wl u1 u2) (aum u1 u2) (c),ajm u1 u2,aac (ax9 u1 u2) aty (c),adB (agV u1 u2),ajl (arE u1 u2) (c),adA axk,aoM (auI u1 u2),agX _ (c) (c),λ_ h=>by simp at h⟩
def sB0:Dy u1 u2 (asf++hand2):=stage MK (by kernel_rfl) (by kernel_rfl)
def hB0:j (i×Sm):=asf++hand2
def sB1:Dy u1 u2 (asg++hB0):=stage sB0 (by kernel_rfl) (by kernel_rfl)
def hB1:j (i×Sm):=asg++hB0
def sB2:Dy u1 u2 (ash++hB1):=stage sB1 (by kernel_rfl) (by kernel_rfl)
def hB2:j (i×Sm):=ash++hB1
def sB3:Dy u1 u2 (asi++hB2):=stage sB2 (by kernel_rfl) (by kernel_rfl)
def hB3:j (i×Sm):=asi++hB2
def sB4:Dy u1 u2 (asj++hB3):=stage sB3 (by kernel_rfl) (by kernel_rfl)
def hB4:j (i×Sm):=asj++hB3
def sB5:Dy u1 u2 (asl++hB4):=stage sB4 (by kernel_rfl) (by kernel_rfl)
def hB5:j (i×Sm):=asl++hB4
def sB6:Dy u1 u2 (asn++hB5):=stage sB5 (by kernel_rfl) (by kernel_rfl)
def hB6:j (i×Sm):=asn++hB5
def sB7:Dy u1 u2 (aso++hB6):=stage sB6 (by kernel_rfl) (by kernel_rfl)
def hB7:j (i×Sm):=aso++hB6
def sB8:Dy u1 u2 (al8++hB7):=stage sB7 (by kernel_rfl) (by kernel_rfl)
def asN:bZ (C0 u1 u2) cO jE (.dp [.df] (.de [.jv,.cQ r,.cQ r])):=agZ (ap4 u1 u2) (c)
def aw1:j (i×Sm):=(jE,.dp [.df] (.de [.jv,.cQ r,.cQ r]))::(al8++hB7)
def aqt:Dy u1 u2 aw1:=by unfold aw1 Dy;rw[x];exact⟨asN,sB8⟩
def avw:bZ (C0 u1 u2) cO Gv (.dp [.df] (.de [.cX [.jv,.ew [.df,.df]],.cQ r])):=stage (rows:=[(Gv,.dp [.df] (.de [.cX [.jv,.ew [.df,.df]],.cQ r]))]) aqt (by kernel_rfl) (by kernel_rfl) _ (e (i:=0) F)
def ayb:bZ (C0 u1 u2) cO BF (.dp [wH,bg] (.de [bg,.cW])):=sB0 _ (e (i:=0) F)
def azV:bZ (C0 u1 u2) cO MC (.dp [.jv] (.de [.cX [aT,aT,wH,aT,gz,aT,gz,aT,gz],aT])):=sB8 _ (e (i:=9) F)
def aye:bZ (C0 u1 u2) cO xu (.dp [.jv] (.de [.cX [.jv,wH],aT])):=sB7 _ (e (i:=12) F)
def ayf:bZ (C0 u1 u2) cO qc (.dp [.jv] (.de [.cX [aT,aT,.ew [bg,aT,wH,.jv],wH,.ew [bg,aT,gz,.cW,gz,gz],aT,gz,aT,bg],aT])):=sB8 _ (e (i:=6) F)
def aoJ:bZ (C0 u1 u2) cO lC (.ro [.dx 148 (.cX [])] [.cX [.jv,wH],.cX [aT,gz],wH] .cW):=sB8 _ (e (i:=7) F)
def aoK:bZ (C0 u1 u2) cO lC (.ro [.dx 155 (.cX [.ew [bg,bg,bg]])] [.cX [.jv,wH],.cX [aT,gz],wH] .cW):=sB8 _ (e (i:=8) F)
def asO:bZ (C0 u1 u2) cO GX (.pk [bg] bg):=sB5 _ (e (i:=8) F)
def awv:bZ (C0 u1 u2) cO Jl (.pk [bg,aT,aT] aT):=sB5 _ (e (i:=12) F)
def aww:bZ (C0 u1 u2) cO Ec (.pk [bg,aT] .jv):=sB5 _ (e (i:=4) F)
def asM:bZ (C0 u1 u2) cO yR (.pk [aT] (.de [])):=sB1 _ (e (i:=14) F)
def asL:bZ (C0 u1 u2) cO yQ (.pk [] aT):=sB2 _ (e (i:=2) F)
def azR:bZ (C0 u1 u2) cO Ym (.iB [.jv]):=sB0 _ (e (i:=1) F)
def azT:bZ (C0 u1 u2) cO WH (.dp [bg,.jv] (.de [.cX [bg,aT,aT,wH],aT])):=sB6 _ (e (i:=15) F)
def avz:FP (C0 u1 u2) cO where
 dc:=asO
 fa:=awv
 bA:=aww
 eC:=asM
 hO:=asL
 of:=azR
 ct:=azT
 i6:=MK _ (e (i:=2) F)
 kr:=MK _ (e (i:=1) F)
 lE:=c
 lB:=c
 ht:=c
 hq:=c
 lA:=c
 g6:=c
def hB:j (i×Sm):=al8++hB7
def az2:Dy u1 u2 hB:=sB8
def sC0:Dy u1 u2 (asq++hB):=stage az2 (by kernel_rfl) (by kernel_rfl)
def avy:bZ (C0 u1 u2) cO TZ (.dp [bg] .jv):=sB1 _ (e (i:=2) F)
def ayd:bZ (C0 u1 u2) cO WG (.dp [aT] .jv):=sC0 _ (e (i:=2) F)
def avr:bZ (C0 u1 u2) cO TW (.dp [.cW] .jv):=sC0 _ (e (i:=3) F)
def asP:bZ (C0 u1 u2) cO Jm (.dp [gz] .jv):=sC0 _ (e (i:=4) F)
def avu:bZ (C0 u1 u2) cO TY (.dp [.fh] .jv):=sC0 _ (e (i:=5) F)
def avt:bZ (C0 u1 u2) cO LG (.dp [Oz] (.de [.cX [bg,.jv],aT])):=sC0 _ (e (i:=6) F)
def ajk:bZ (C0 u1 u2) cO D9 (.dp [.cX [aT,gz,aT,bg]] .cW):=sC0 _ (e (i:=0) F)
def YP:bZ (C0 u1 u2) cO jq (.dp [.cX [bg,aT,gz,.cW,gz,gz]] .cW):=sB6 _ (e (i:=13) F)
def afa:bZ (C0 u1 u2) cO yP (.dp [.ew [bg,aT,gz,.cW,gz,gz],bg] .cW):=sB0 _ (e (i:=13) F)
def aoL:bZ (C0 u1 u2) cO P7 (.dp [bg] .cW):=sB1 _ (e (i:=7) F)
def agW:bZ (C0 u1 u2) cO vG (.dp [bg] .cW):=sB0 _ (e (i:=9) F)
def avv:bZ (C0 u1 u2) cO oK (.dp [bg] .cW):=sB3 _ (e (i:=9) F)
def asQ:bZ (C0 u1 u2) cO xw (.dp [.cX [bg],.cX [bg,aT,wH,.jv]] .cW):=sC0 _ (e (i:=1) F)
def aAp{Y:St}:ai (C0 u1 u2) eU [.cY,ahH rQ] Y=J (.de [],Y):=(iE (h:=acs) F _ _).trans F
def ayn:aaY (C0 u1 u2) cO:=⟨avt,ah3 λ_ _ _ _=>(iE (h:=acs) F _ _).trans F,λ_=>aAp,c⟩
def ayR:TE (C0 u1 u2) cO:=⟨avy,ayd,avr,asP,avu,asU ayn,ajk,arE u1 u2,auw,c,c,c⟩
def aqu:j (i×Sm):=[(NP,.dp [.df,.df] .cW),(Bi,.dp [.df,.df] .cW),(tY,.dp [.ew Ik] .cW),(zW,.dp [.cX ae3] .jv)]++(asq++hB)
def aqv:Dy u1 u2 aqu:=by unfold aqu Dy;simp only[a05,a88,x];exact⟨asR aoL agW c c c,aoO c c,ajo YP afa c,aoN ayR,sC0⟩
def sX:Dy u1 u2 (azN++aqu):=stage aqv (by kernel_rfl) (by kernel_rfl)
def azS:bZ (C0 u1 u2) cO vw (.dp [gz,bg] .cW):=sX _ (e (i:=2) F)
def azU:bZ (C0 u1 u2) cO vz (.dp [gz,bg] .cW):=sX _ (e (i:=4) F)
def ay8:bZ (C0 u1 u2) cO xQ (.dp [.cX [wH,.ew [bg,aT,gz,.cW,gz,gz],aT,gz,aT,bg]] .cW):=sX _ (e (i:=5) F)
def az9:IsHas (C0 u1 u2) cO:=⟨YP,agW,azS,azU,λv=>by cases v<;>kernel_rfl,λv=>by cases v<;>kernel_rfl,c,c⟩
def avW:Pm (C0 u1 u2) cO:=⟨avv,λs O a hs=>⟨wE s,sZ s,Tc (agV u1 u2) s (by simp only[LB]at hs;omega) O a⟩,c,c,c,c,c,c,c,c,c,c⟩
def az1:GoHas (C0 u1 u2) cO:={toIsHas:=az9,ju:=ay8,f0:=ajk,k2:=asV avW,gy:=ajn c (agP u1 u2 F),fx:=c}
def avs:bZ (C0 u1 u2) cO OQ (.dp [wH] .cW):=sC0 _ (e (i:=7) F)
def azq:adL (C0 u1 u2) cO:={toGoHas:=az1,m7:=c,lv:=avs,ki:=c,lP:=YP,lO:=c,m2:=afa,bn:=avW,top:=c}
def ayU:ahl (C0 u1 u2) cO:=⟨asQ,alf c (agP u1 u2 F) (Wl u1 u2),acE c (agP u1 u2 F) (Wl u1 u2),c,c⟩
end
open Go.Ev Go.RowKit Go.Shelf Go.Proofs
def axj:JR I 74:=⟨_,v,by decide,F⟩
def aoj(b:s)(a:Array MapEntry)(clock:s)(w:l)(hb:w.heap[b]?=J (.map a clock)):Calls I 74 #[.map (J b)] w λe c=>e=.returned (.map (J w.heap.size))/\c=w.alloc (.map a clock):=by
 have d:=λw=>run_eql_map_nil_sl (P:=I) w 168 _ _ (J b) g
 go_enter v,Tryz.ntmps74
 go_wp2
 rw[run_callFunc_extern Tryz.func116 (by kernel_rfl) (by kernel_rfl) (by kernel_rfl) (e:=Extern.MapsClone.clone) (by kernel_rfl),run_maps_clone_sl w _ hb];simp only[Result.andThen];rw[Oper.upon_value]
 go_wp2
 rw[run_typeAssert_map_sl _ _ _ _ _ _ g];simp only[Result.andThen];rw[Oper.upon_value]
 go_wp2
 go_ret
 exact⟨F,F⟩
def aiH(args:LA)(O:St):t (AV×St):=
 match args with
 |[.dz m]=>match O[m]? with|J (.dz a)=>J (.dz (z O),O++[.dz a])|_=>U
 |_=>U
def auW{C:Ctx}(o:C.P=I):H C 74 aiH:=by
 intro args O v B h g w d s c D;unfold aiH at h;split at h
 ·rename_i m;split at h
  ·rename_i p A;cases h;obtain⟨a,clock,q,h2⟩:=c.bA m _ A;cases s with
   |cV _ v1 _ l1 x y=>
   cases y;cases x with
   |dz _ u=>
   have j:=abS c (.map a clock) (.dz p) 0 (by
    refine⟨a,clock,by simp only[Gh.ac,if_true];exact Fv w _,h2.aq,h2.kx,λi k v l=>?_⟩;obtain⟨e,f,t,hv,b⟩:=h2.mo i k v l;exact⟨e,f,t.D (Gh.ce g _ _),hv.D (Gh.ce g _ _),b⟩)
   refine FV (by rw[o];exact axj) ?_;rw[o];refine(aoj (g.ob m) a clock w q).mono λe E ⟨f,n⟩=>⟨_,f,_,by subst n;exact j,?_⟩;have:=VR.dz (g:=g.ac w.heap.size 0) (z O) (by simp[Gh.ac,c.n]);simpa[Gh.ac,c.n]using this
  ·cases h
 ·cases h
noncomputable section
def arM(args:LA)(O:St):t (AV×St):=match args with|[]=>J (.cW eT,O)|_=>U
def azz:H w kz (EO 3):=XH (zs:=[.cU [],.cU [],.cU []]) (bytes:=48) (by kernel_rfl) (by kernel_rfl) (by kernel_rfl) F (by decide) (by decide) F (by kernel_rfl) (by kernel_rfl)
def axR:H w dB (EO 2):=XH (zs:=[.cU [],.cU []]) (bytes:=32) (by kernel_rfl) (by kernel_rfl) (by kernel_rfl) F (by decide) (by decide) F (by kernel_rfl) (by kernel_rfl)
def aqp:∀n l,CC.gl n=J l->l.all YM=eT:=by
 intro n l h;change glT n=J l at h;unfold glT at h;repeat' split at h
 all_goals first
  |(cases h;done)|(simp only[a07]at h;subst h;kernel_rfl)
def CW(u1 u2:d)(g:i):Ctx:={ja I (glX u1 u2) (λf=>k f g) (λ_=>U)with np:=eT}
def awD{u1 u2:d}(g:i):fZ (CW u1 u2 g) (ai (CW u1 u2 g)):=Iz CV (λf x h=>zx I (glX u1 u2) (λf=>k f g) (λ_=>U) f x h) (λf h a=>by cases a)
def agw(u1 u2:d)(g:i)(sz:s)(args:LA)(O:St):t (AV×St):=match args with|[.sl n l]=>EO sz [.sl n l] O|a=>ai (CW u1 u2 g) g a O
def aoz(f:i):q:=match k f N7 with|eT=>eT|eF=>match k f KI with|eT=>eT|eF=>k f LK
def aiL(u1 u2:d):j (i×DT):=[(kz,EO 3),(dO,EO 2),(dB,agw u1 u2 dB 2),(bM,agw u1 u2 bM 1),(iT,aiH),(jE,n (C0 u1 u2) jE),(xu,n (C0 u1 u2) xu),(qc,n (C0 u1 u2) qc),(vJ,n (C0 u1 u2) vJ),(AC,n (C0 u1 u2) AC),(BF,n (C0 u1 u2) BF),(lC,pRo (C0 u1 u2) lC),(Gv,n (C0 u1 u2) Gv),(MC,n (C0 u1 u2) MC),(jM,n (C0 u1 u2) jM),(xR,n (C0 u1 u2) xR),(vG,n (C0 u1 u2) vG)]
def Pi(u1 u2:d)(l:j (i×DT)):Ctx:={ja I (glX u1 u2) aoz (B l)with np:=eT}
def C1(u1 u2:d):Ctx:=Pi u1 u2 (aiL u1 u2)
def awo(u1 u2:d):DT:=C9 (C1 u1 u2) (ai (C1 u1 u2)) (sS (C1 u1 u2) (ai (C1 u1 u2)) TT 8) gJ fC
def awn(u1 u2:d):DT:=C9 (C1 u1 u2) (ai (C1 u1 u2)) (sS (C1 u1 u2) (ai (C1 u1 u2)) TT 8) kG iV
def O7(u1 u2:d):q->j (i×DT)|eF=>aiL u1 u2|eT=>(wM,arM)::(gQ,awo u1 u2)::(xk,awn u1 u2)::aiL u1 u2
def CZ(u1 u2:d)(b:q):Ctx:=Pi u1 u2 (O7 u1 u2 b)
def CL(u1 u2:d):Ctx:=CZ u1 u2 eT
variable{u1 u2:TypeId}{b:Bool}
def ax7(l:j (i×DT)):ajH (Pi u1 u2 l):=λf x h=>zx I (glX u1 u2) aoz (B l) f x h
def am8{l:j (i×DT)}(h:∀p∈l,H (Pi u1 u2 l) p.1 p.2):fZ (Pi u1 u2 l) (ai (Pi u1 u2 l)):=Iz CV (ax7 l) (agD (C:=Pi u1 u2 l) h)
def same2(l:j (i×DT)):aaX (C0 u1 u2) (Pi u1 u2 l):=⟨F,F,F,anu⟩
def arS(l:j (i×DT)){g:i}{sz:s}(d:H w g (EO sz)):H (Pi u1 u2 l) g (agw u1 u2 g sz):=by
 have e:∀{f p},H w f p->H (Pi u1 u2 l) f p:=λh=>Vd (C:=w) (D:=Pi u1 u2 l) F (λn l a=>ai8 n l a) F h;have b:H (Pi u1 u2 l) g (ai (CW u1 u2 g) g):=Vd (C:=CW u1 u2 g) F (λn l a=>a) F (awD g g);intro args O v c h;unfold agw at h;split at h;·exact e d _ O v c h
 ·exact b _ O v c h
def aiM(l:j (i×DT)):∀p∈aiL u1 u2,H (Pi u1 u2 l) p.1 p.2:=by have a:∀{f p},H w f p->H (Pi u1 u2 l) f p:=λh=>Vd (C:=w) (D:=Pi u1 u2 l) F (λn l b=>ai8 n l b) F h;unfold aiL;simp only[x];exact⟨a azz,a arV,arS l axR,arS l awp,auW F,JG (same2 l) GN _,JG (same2 l) GN _,JG (same2 l) GN _,JG (same2 l) GN _,JG (same2 l) GN _,JG (same2 l) GN _,axT (same2 l) GN _,JG (same2 l) GN _,JG (same2 l) GN _,JG (same2 l) GN _,JG (same2 l) GN _,JG (same2 l) GN _,λ_ h=>by simp at h⟩
def apa:fZ (C1 u1 u2) (ai (C1 u1 u2)):=am8 (aiM _)
def afo:fZ (CL u1 u2) (ai (CL u1 u2)):=am8 (l:=O7 u1 u2 eT) (by
 have c:∀{f p},H w f p->H (Pi u1 u2 (O7 u1 u2 eT)) f p:=λh=>Vd (C:=w) (D:=Pi u1 u2 (O7 u1 u2 eT)) F (λn l b=>ai8 n l b) F h;have a:∀{f p},H (C1 u1 u2) f p->H (Pi u1 u2 (O7 u1 u2 eT)) f p:=λh=>Vd (C:=C1 u1 u2) F (λn l b=>b) F h;unfold O7;rw[x,x,x];exact⟨c (akV (C:=CC) (D:=w) alR F F aqp (KX azh)),a (amW F _ apa),a (amV F _ apa),aiM _⟩)
def oQ{f:i}{K:KF}(a:cF I f=J K.ad:=by kernel_rfl)(h2:Tu I f=eT:=by kernel_rfl)(h3:K.ok=eT:=by kernel_rfl)(c:∀b,B (O7 u1 u2 b) f=U:=by exactλb=>by cases b<;>rfl)(hr:aoz f=eF:=by exact rfl):Has (CZ u1 u2 b) f K:=by refine⟨?_,c b,hr,h3⟩;show(ja I (glX u1 u2) aoz (B (O7 u1 u2 b))).fs f=_;simp only[ja,h2,a]
def aqy{f:i}{K:KF}(a:cF I f=J K.ad:=by kernel_rfl)(h2:Tu I f=eT:=by kernel_rfl)(h3:K.ok=eT:=by kernel_rfl)(c:∀b,B (O7 u1 u2 b) f=U:=by exactλb=>by cases b<;>rfl)(hr:aoz f=eT:=by exact rfl):Pn (CZ u1 u2 b) f K:=by refine⟨?_,c b,hr,h3⟩;show(ja I (glX u1 u2) aoz (B (O7 u1 u2 b))).fs f=_;simp only[ja,h2,a]
def Oy{f:i}{args:j Sh}{res:Sh}(e:∀b,(CZ u1 u2 b).eV f=J (n (C0 u1 u2) f))(h:bZ (C0 u1 u2) cO f (.dp args res))(c:cls args=eT){al:LA}(d:Mt V0 args al):∃v,M V0 res v/\∀O,ai (CZ u1 u2 b) f al O=J (v,O):=by obtain⟨v,a,h2⟩:=azW h c d;exact⟨v,a,λO=>(iE (e b) al O).trans (h2 O)⟩
def pz{f:i}{h:DT}(a:B (O7 u1 u2 eF) f=J h)(c:B (O7 u1 u2 eT) f=J h):∀b,(CZ u1 u2 b).eV f=J h:=λb=>by
 cases b;·exact a
 ·exact c
def afV(b:q):ChkTot (CZ u1 u2 b)where
 bS:=⟨by constructor<;>exact oQ,oQ,oQ,oQ,oQ,oQ⟩
 m3:=λhs h=>by obtain⟨v,h1,h2⟩:=Oy (u1:=u1) (u2:=u2) (b:=b) (pz F F) ayb F (al:=[.sl (z hs) (hs.flatMap pC),.cU [115,104,97,50,53,54]]) (.cV _ _ _ _ (ari h) (.cV _ _ _ _ (.df _ (by simp only[LB];decide)) .db));obtain⟨d,b,rfl⟩:=axr h1;exact⟨d,b,h2⟩
 sn:=λj=>by obtain⟨v,h1,h2⟩:=Oy (u1:=u1) (u2:=u2) (b:=b) (pz F F) (alg avz) F (al:=[j.av]) (.cV _ _ _ _ (.jv j) .db);obtain⟨x,n,rfl,h3⟩:=OY h1;obtain⟨t,rfl,h4⟩:=aqO h3;exact⟨t,n,h4,h2⟩
 rd:=λdata hb=>by obtain⟨v,h1,h2⟩:=Oy (u1:=u1) (u2:=u2) (b:=b) (pz F F) asN F (al:=[.cU data]) (.cV _ _ _ _ (.df _ hb) .db);obtain⟨x,n,m,rfl,h3⟩:=az6 h1;obtain⟨j,rfl⟩:=LQ h3;exact⟨j,n,m,h2⟩
 sg:=λj=>by obtain⟨v,h1,h2⟩:=Oy (u1:=u1) (u2:=u2) (b:=b) (pz F F) aye F (al:=[j.av]) (.cV _ _ _ _ (.jv j) .db);obtain⟨x,n,rfl,h3⟩:=OY h1;exact⟨x,n,h3,h2⟩
 tg:=λj=>by obtain⟨v,h1,h2⟩:=Oy (u1:=u1) (u2:=u2) (b:=b) (pz F F) ayf F (al:=[j.av]) (.cV _ _ _ _ (.jv j) .db);obtain⟨x,n,rfl,h3⟩:=OY h1;obtain⟨t,rfl,h4⟩:=aqP h3;exact⟨t,n,h4,h2⟩
 gS:=λa c=>⟨_,λY=>OG oQ a c Y⟩
 ei:=λs hs=>by obtain⟨v,h1,h2⟩:=Oy (u1:=u1) (u2:=u2) (b:=b) (pz F F) (MK _ (e (i:=7) F)) F (al:=[.cU s]) (.cV _ _ _ _ (.df _ hs) .db);obtain⟨b,rfl⟩:=amv h1;exact⟨b,h2⟩
 cN:=λh l f th ids ks b1 b2 b3 mr=>by
  have hm:Mt V0 [ahU,.cX [.cQ r,.ew [.df]],.ew [.df,.df]] [f,.cX (aC th ids),.sl (z ks) (ks.flatMap pC)]:=.cV _ _ _ _ mr (.cV _ _ _ _ (axB b2) (.cV _ _ _ _ (ari b3) .db));have hp:(CZ u1 u2 b).eV lC=J (pRo (C0 u1 u2) lC):=pz F F b;cases h with
  |true=>obtain⟨b,hb⟩:=awx (fz:=FZ) (aoJ (u1:=u1) (u2:=u2)) F (cs:=[.dx 148 (.cX [])]) (.ef _ _ _ _ F (.dx _ _ _ (.cX _ _ .db)) .db) F hm;exact⟨b,λY o ho=>(iE hp _ Y).trans (hb Y o ho)⟩
  |false=>obtain⟨b,hb⟩:=awx (fz:=FZ) (aoK (u1:=u1) (u2:=u2)) F (cs:=[.dx 155 (.cX [TB l])]) (.ef _ _ _ _ F (.dx _ _ _ (.cX _ _ (.ef _ _ _ _ F (auH b1) .db))) .db) (by simp only[ae,below,adc,aD0]) hm;exact⟨b,λY o ho=>(iE hp _ Y).trans (hb Y o ho)⟩
def an6(b:q):RootHas (CZ u1 u2 b)where
 toChkTot:=afV b
 dF:=oQ
 o3:=λdata hb=>by obtain⟨v,h1,h2⟩:=Oy (u1:=u1) (u2:=u2) (b:=b) (pz F F) avw F (al:=[.cU data]) (.cV _ _ _ _ (.df _ hb) .db);obtain⟨x,n,rfl,h3⟩:=OY h1;exact⟨x,n,h3,h2⟩
 o1:=λj=>by obtain⟨v,h1,h2⟩:=Oy (u1:=u1) (u2:=u2) (b:=b) (pz F F) azV F (al:=[j.av]) (.cV _ _ _ _ (.jv j) .db);obtain⟨x,n,rfl,h3⟩:=OY h1;obtain⟨t,rfl,h4⟩:=aqN h3;exact⟨t,n,h4,h2⟩
def af4{f:i}{sz:s}(g:∀b,(CZ u1 u2 b).eV f=J (EO sz)):PE (CZ u1 u2 b) f sz:=λn l O d e hs=>by
 rw[iE (g b)];have a:k (z l) (n*sz)=eT:=by rw[d];exact aL6 _
 have c:Nat.ble n 1099511627776=eT:=aG5 e;simp only[EO,ni,a,c,hs,aD0]
def atd(b:q):StoHas (CZ u1 u2 b):=⟨oQ,oQ,oQ⟩
def atm(b:q):TelHas (CZ u1 u2 b):=⟨atd b,oQ,oQ⟩
def an4(b:q):RNewHas (CZ u1 u2 b):={toNewHas:=⟨atm b,oQ,oQ,aqy⟩,toRootHas:=an6 b,ke:=oQ,nh:=aqy}
def as7(b:q):Ye (CZ u1 u2 b)where
 toRNewHas:=an4 b
 oa:=atd b
 hc:=oQ
 hF:=oQ
 ct:=⟨oQ,oQ,oQ,af4 (pz F F),oQ,oQ⟩
def ax5:aaK (CL u1 u2) (C1 u1 u2)where
 h9:=as7 eF
 kl:=λa O v h=>(iE (C:=CL u1 u2) (h:=awo u1 u2) F a O).trans h
 bS:=λa O v h=>(iE (C:=CL u1 u2) (h:=awn u1 u2) F a O).trans h
 di:=oQ (b:=eT)
 ie:=oQ (b:=eT)
def axf:afr (CL u1 u2):=⟨atm eT,oQ (b:=eT),oQ (b:=eT)⟩
def azO{f:i}{sz:s}(b:q)(g:∀b,(CZ u1 u2 b).eV f=J (agw u1 u2 f sz)):PE (CZ u1 u2 b) f sz:=λn l O d e hs=>by
 rw[iE (g b)];have a:k (z l) (n*sz)=eT:=by rw[d];exact aL6 _
 have c:Nat.ble n 1099511627776=eT:=aG5 e;simp only[agw,EO,ni,a,c,hs,aD0]
def am3(fs:j PS)(h:z fs<=1000):Vw (CL u1 u2) (.sl (z fs) (fs.flatMap pC)) fs U:=λY a hf=>
 ⟨_,U,[],by rw[aB3];exact azO eT (pz F F) _ _ Y (bz wB fs) (by omega) (by rw[List.all_flatMap];exact aB0.mpr λ_ _=>F),by rw[aB3];exact a,by rw[aB3];exact hf,λ_ e=>by cases e⟩
def azp:aaU (CL u1 u2) (C1 u1 u2)where
 di:={toRNewHas:=an4 eT,nF:=⟨oQ (b:=eT),oQ (b:=eT),af4 (b:=eT) (pz F F)⟩,cl:=am3,hA:=oQ (b:=eT)}
 dF:=λh l b1 data b4=>adt (an6 eT) h l b1 data b4
 e6:=λh l b1 R rok=>apA (afV eF) oQ h l b1 R rok.sn rok.ks
def aAn:atW (CL u1 u2) (C1 u1 u2)where
 ku:=ax5
 ef:=oQ (b:=eT)
 iN:=aqy (b:=eT)
 hM:=oQ (b:=eT)
 eI:=oQ (b:=eT)
 kp:=oQ (b:=eT)
 bx:=λhS a=>al2 (oQ (b:=eT)) (oQ (b:=eT)) hS a
 eh:=λs hs=>by obtain⟨v,h1,h2⟩:=Oy (u1:=u1) (u2:=u2) (b:=eT) (pz F F) agW F (al:=[.cU s]) (.cV _ _ _ _ (.df _ hs) .db);obtain⟨b,rfl⟩:=zD h1;exact⟨b,h2⟩
 oT:=λs hs=>at7 (azq (u1:=u1) (u2:=u2)) ayU (p λa=>p λO=>iE (C:=CL u1 u2) F a O) (p λa=>p λO=>iE (C:=CL u1 u2) F a O) s hs
def law9:ahn (CL u1 u2) (C1 u1 u2)where
 jN:=aAn
 eM:=azp
 hV:=⟨oQ (b:=eT),oQ (b:=eT),oQ (b:=eT)⟩
 cq:=⟨oQ (b:=eT),oQ (b:=eT),oQ (b:=eT),oQ (b:=eT),oQ (b:=eT)⟩
 told:=oQ (b:=eT)
 cH:=axf
 lU:=oQ (b:=eT)
 g8:=λO _=>(iE (C:=CL u1 u2) (h:=arM) F _ _).trans F
end
def ay2{T:s->q}{W:l}:Rd T I W 124 (λ_:iH=>y) iH.B:=
 (MZ Tryz.underlying124 (by kernel_rfl) (qN F (G6 a) (qN (by kernel_rfl) (G6 a) (qN (by kernel_rfl) (G6 a) XJ)))).dz (λx=>⟨x.1,x.2.1,x.2.2.1⟩) (λ_ _=>h) (λ_=>F)
def ay1{T:s->q}{W:l}:Rd T I W 71 (λ_:PS=>y) pC:=
 (MZ Tryz.underlying71 (by kernel_rfl) (qN F (G6 a) (qN (by kernel_rfl) (G6 a) XJ))).dz (λx=>(x.1,x.2.1)) (λ_ _=>h) (λ_=>F)
def amZ{T:s->q}{W:l}:Rd T I W 22 (λxs:j PS=>z xs<=maxLen/\∀x∈xs,y) (λxs=>[.sl (z xs) (xs.flatMap pC)]):=
 aiP (k:=2) Tryz.underlying22 (by kernel_rfl) (λ_=>F) (by decide) (λ_=>F) ay1
def av4{T:s->q}{W:l}:Rd T I W 24 (λ_:LU×LU×j PS=>y) (λx=>[.cU x.1,.cU x.2.1,.sl (z x.2.2) (x.2.2.flatMap pC)]):=
 (MZ Tryz.underlying24 (by kernel_rfl) (qN F (G6 a) (qN (by kernel_rfl) (G6 a) (qN (by kernel_rfl) amZ XJ)))).dz (λx=>(x.1,x.2.1,x.2.2.1)) (λ_ _=>h) (λ_=>F)
def aiO{T:s->q}{W:l}:Rd T I W 27 (λ_:Int×Int×Int×Int=>y) (λx=>[.cQ r x.1,.cQ r x.2.1,.cQ r x.2.2.1,.cQ r x.2.2.2]):=
 (MZ Tryz.underlying27 (by kernel_rfl) (qN F (acD f) (qN (by kernel_rfl) (acD f) (qN (by kernel_rfl) (acD f) (qN (by kernel_rfl) (acD f) XJ))))).dz (λx=>(x.1,x.2.1,x.2.2.1,x.2.2.2.1)) (λ_ _=>h) (λ_=>F)
def agF{T:s->q}{W:l}:Rd T I W 29 (λc:kZ=>(Lit.int r c.aw).wf=eT) kZ.B:=
 (MZ Tryz.underlying29 (by kernel_rfl) (qN F av4 (qN (by kernel_rfl) (av5 Tryz.underlying4) (qN (by kernel_rfl) (aiP Tryz.underlying25 (by kernel_rfl) iH.dt (by decide) (λ_=>F) ay2) (qN (by kernel_rfl) (acD Tryz.underlying2) (qN (by kernel_rfl) aiO XJ)))))).dz (λx=>⟨x.1.1,x.1.2.1,x.1.2.2,x.2.1,x.2.2.1,x.2.2.2.1,x.2.2.2.2.1.1,x.2.2.2.2.1.2.1,x.2.2.2.2.1.2.2.1,x.2.2.2.2.1.2.2.2⟩) (λ_ h=>h.2.2.2.1) (λ_=>F)
def amY{T:s->q}{W:l}:Rd T I W 27 (λ_:Nj=>y) Nj.B:=aiO.dz (λx=>⟨x.1,x.2.1,x.2.2.1,x.2.2.2⟩) (λ_ _=>h) (λ_=>F)
end Go.Proofs.YtaaomenfchndjaaGreatDoor
