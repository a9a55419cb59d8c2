/- Code. No conditions. -/
import Derived.Test.YtddcpkepggkllaaGreatDoorCD
import Derived.Test.YtddcpkepggkllaaGreatDoorCB
import Derived.Test.YtddcpkepggkllaaGreatDoorEC
set_option linter.unusedVariables false
set_option linter.unusedSimpArgs false
set_option linter.defProp false
namespace Go.Ev
set_option maxRecDepth 100000
variable{C:Ctx}
theorem lH.len(h:lH):h.cs.length=4:=rfl
theorem lH.below(h:lH):ai 0 h.cs=true:=by
 simp only[lH.cs,ai,(vJ h.hashes).cl];rfl
def aoF(l:List lH):NV (.sl l.length (l.flatMap lH.cs)):=.sl _ (fK lH.below l)
def Oe:LA:=[.str [],.int .i64 0,.int .i64 0,.nils]
def OY (hc:Pj C iD 2) (l:List lH) (hl:l.length<=1099511627776) (hh:∀p∈l,p.hashes.length<=1099511627776) (file:LU) (O:St) (X:AO):∀(n i:Nat) (G:St),i+n=l.length->
  ∃G',aH C (aj C) 36 [4,6,19,20,21] qE [(4,.ref (O.length+1) 0),(6,.str file),(19,.sl l.length (l.flatMap lH.cs)),(20,.int .i64 l.length),(21,.int .i64 i)] (O++X::.cells Oe FZ::G)=
   match(l.drop i).find? (fun p=>decide (p.name=file))with
   |none=>some (.exit 0,[(4,.ref (O.length+1) 0)],O++X::.cells Oe FZ::G')
   |some p=>some (.ret,[(4,.ref (O.length+1) 0),(5,.bool true)],O++X::.cells p.cs FZ::G')
 |0,i,G,hi=>by
  rw[aB (he:=rfl)];have h:¬((i:Int)<(l.length:Int)):=by omega
  have h':l.drop i=[]:=au5 (by omega)
  refine⟨G,?_⟩;simp only[qE,h,h',List.find?_nil,EVX,seval]
 |n+1,i,G,hi=>by
  rw[aB (he:=rfl)];have h:((i:Int)<(l.length:Int)):=by omega
  have h2:i<l.length:=by omega
  have hb:l[i]?=some l[i]:=a01 h2;have h':l.drop i=l[i]::l.drop (i+1):=au1 h2;have hw:=wrS i (by omega)
  have h3:(0:Int)<=i:=by omega
  have fl:=aU lH.len l;have fd:=fB lH.len hb;have hp:=hh _ (ax1 h2);obtain⟨p,hpe⟩:∃p,p=l[i]:=⟨_,rfl⟩;rw[<-hpe]at fd h' hp;have hcl:=fun Y=>hc p.hashes.length (p.hashes.flatMap pC) Y (aU tJ _) hp (NE (f:=pC) (fun x=>rfl) _);cases hx:decide (p.name=file)
  ·obtain⟨G',ih⟩:=OY hc l hl hh file O X n (i+1) (G++[.cells p.cs FZ]) (by omega)
   refine⟨G',?_⟩;rw[h',List.find?_cons,hx];dsimp only;rw[<-ih];generalize hk:aH C (aj C) 36 [4,6,19,20,21] qE=k;simp only[qE,h,h2,h3,hw,hx,fl,fd,lH.cs,a81,aA8,aA9,au4,a04,AV.cells,GI,EVX,seval]
  ·refine⟨G++[.cells p.cs FZ],?_⟩;rw[h',List.find?_cons,hx];dsimp only;generalize hk:aH C (aj C) 36 [4,6,19,20,21] qE=k;simp only[qE,h,h2,h3,hx,fl,fd,hcl,lH.cs,Oe,a81,aA8,aA9,au4,a04,AV.cells,GI,EVX,seval]
def Zc(s:SnV):AV:=.agg s.cs
def adc(s:SnV):NV (Zc s):=.agg (.cons (.int _ _) (.cons (.int _ _) (.cons (aoF s.pins) .nil)))
def vW(s:SnV)(r:LU):Option lH:=if role r then s.pins.find? (fun p=>decide (p.name=r++vF))else none
def lL:LA:=[.str [],.int .i64 0,.int .i64 0,.sl 0 []]
def ajK:Option lH->AV
 |none=>.tup [.agg lL,.bool false]
 |some p=>.tup [.agg p.cs,.bool true]
structure afC(C:Ctx):Prop where
 allowed:Has C pO pG
 role:Has C Dl zI
 file:Has C wK vZ
 clone:Pj C iD 2
 pin:Has C X3 IP
 cap:Has C Va CP
structure TW(s:SnV):Prop where
 pins:s.pins.length<=1099511627776
 hashes:∀p∈s.pins,p.hashes.length<=1099511627776
def anb(h:afC C)(s:SnV)(hs:TW s)(r:LU)(O:St)(hσ:Ok O):aj C X3 [Zc s,.str r] O=some (ajK (vW s r),O):=by
 rw[h.pin.go (NVs.hand (.cons (adc s) (.cons (.str _) .nil)) _)];unfold vW Zc SnV.cs;have ty:=fun(vs:LA) (hv:ai 0 vs=true) (L:St)=>bY hσ hv L;cases hr:role r
 ·have fa:Vf r=.tup [.str [],.int .i64 3]:=by simp[Vf,hr]
  have t1:=ty [.agg lL,.bool false] rfl;unfold lL at t1;simp only[IP,NM h.file h.role h.allowed,fa,bg,bz,dI,ajK,lL,t1,AV.cells,AV.flat,a81,aA8,aA9,EVX,seval]
 ·have fa:Vf r=.tup [.str (r++vF),.int .i64 0]:=by simp[Vf,hr]
  obtain⟨G,lp⟩:=OY h.clone s.pins hs.pins hs.hashes (r++vF) O (.cells [.int .i64 s.ver,.int .i64 s.exp,.sl s.pins.length (s.pins.flatMap lH.cs)] FZ) s.pins.length 0 [] (by omega)
  rw[au7]at lp;simp only[a97,Oe]at lp;rw[if_pos rfl];cases hf:s.pins.find? (fun p=>decide (p.name=r++vF))with
  |none=>
   rw[hf]at lp;have t1:=ty [.agg lL,.bool false] rfl;unfold lL at t1;simp only[IP,NM h.file h.role h.allowed,fa,lp,bg,bz,dI,ajK,lL,t1,AV.cells,AV.flat,a81,aA8,aA9,EVX,seval]
  |some p=>
   rw[hf]at lp;have t1:=ty [.agg p.cs,.bool true] (by simp only[ai,below,lH.below];rfl)
   unfold lH.cs at t1;simp only[IP,NM h.file h.role h.allowed,fa,lp,bg,bz,ajK,lH.cs,t1,AV.cells,a81,EVX,seval]
def ZQ(o:Option lH)(most:Int):AV:=match o with
 |none=>.tup [.agg lL,.int .i64 0,.int .u8 1]
 |some p=>if p.length<0 then .tup [.agg p.cs,.int .i64 most,.int .u8 0]else if p.length>most then .tup [.agg lL,.int .i64 0,.int .u8 3]else .tup [.agg p.cs,.int .i64 p.length,.int .u8 0]
def ap8{O:St}(hσ:Ok O)(a b:LA)(ha:ai 0 a=true)(hb:ai 0 b=true)(x y:Fz):Ok (O++[.cells a x,.cells b y]):=
 Mc hσ (by simp[AO.below,aP (au3 _) _ ha,aP (au3 _) _ hb])
def aiY(h:afC C)(s:SnV)(hs:TW s)(r:LU)(most:Int)(O:St)(hσ:Ok O):aj C Va [Zc s,.str r,.int .i64 most] O=some (ZQ (vW s r) most,O):=by
 rw[h.cap.go (NVs.hand (.cons (adc s) (.cons (.str _) (.cons (.int _ _) .nil))) _)];have ok1:=ap8 hσ [.int .i64 s.ver,.int .i64 s.exp,.sl s.pins.length (s.pins.flatMap lH.cs)] Oe (by have:=(adc s).cl;unfold Zc SnV.cs at this;rw[below]at this;exact this) rfl FZ FZ
 have q:=anb h s hs r _ ok1;have ty:=fun(vs:LA) (hv:ai 0 vs=true) (L:St)=>bY hσ hv L;unfold Zc SnV.cs Oe at*;have t1:=fun a b=>ty [.agg lL,.int .i64 a,.int .u8 b] rfl;unfold lL at t1;cases hf:vW s r with
 |none=>
  rw[hf]at q;unfold ajK lL at q;dsimp only at q;simp only[CP,q,bg,bz,dI,ZQ,lL,t1,AV.cells,AV.flat,a81,aA8,aA9,EVX,seval]
 |some p=>
  rw[hf]at q;have pc:p.cs=[.str p.name,.int .i64 p.version,.int .i64 p.length,.sl p.hashes.length (p.hashes.flatMap pC)]:=rfl;unfold ajK at q;dsimp only at q;rw[pc]at q;have t2:=fun a b=>ty [.agg p.cs,.int .i64 a,.int .u8 b] (by simp only[ai,below,lH.below];rfl)
  rw[pc]at t2;by_cases h1:p.length<0
  ·simp only[CP,q,h1,bg,bz,ZQ,pc,t2,AV.cells,AV.flat,a81,aA8,aA9,EVX,seval]
  ·by_cases h2:most<p.length
   ·simp only[CP,q,h1,h2,bg,bz,dI,ZQ,lL,t1,AV.cells,AV.flat,a81,aA8,aA9,EVX,seval]
   ·simp only[CP,q,h1,h2,bg,bz,ZQ,pc,t2,AV.cells,AV.flat,a81,aA8,aA9,EVX,seval]
noncomputable section
structure TSP(P:Program)(f:Nat)where
 k:TF
 p:(cTF P f).getD ⟨0,[],.skip⟩=k:=by conv=>lhs;reduce;simp only[RD,seval]
abbrev TsA(f:Nat):Type:=TSP Go.Proofs.Tryz.prog f
def Cf:TF:=(.mk ?k:TsA oP).1
def vV:TF:=(.mk ?k:TsA qN).1
def ni:TF:=(.mk ?k:TsA nG).1
def iW:TF:=(.mk ?k:TsA ik).1
end
def eU:CFn:=⟨7,[(.cell 2 true 3),(.cell 3 false 1)],[o 2 (.new [(.int .i64 0),(.int .i64 0),.nils] none),
 o 3 (.new [(.int .u8 0)] none)],4,AP,[(.t 2),(.t 3)],
 (.seq (.ops [.op (m 5 0),
 .op (o 6 (.callF nG [(.t 5)])),
 .op (u (.store 3 (.t 2) (.t 6))),
 .op (u (.store 1 (.t 3) (.c (.int .u8 0))))])
 .ret)⟩
def nJ:KC:=
 (.seq (.ops [m 4 2,
 o 5 (.bin .neq 5 true (.t 4) (.c .nilIface))])
 (.cond (.t 5)
 (.ops [o 6 (.build [(.int .i64 0),(.int .i64 0),.nils] []),
 m 7 2,
 o 8 (.callF oP [(.t 7)]),
 u (.store 3 (.t 0) (.t 6)),
 u (.store 1 (.t 1) (.t 8))])
 .skip))
def dL:KFn:=⟨9,3,2,nJ.forget⟩
def iU:CFn:=⟨16,[(.cell 8 true 9),(.cell 9 false 1)],[o 6 (.box (.t 2)),
 o 8 (.new [(.int .i64 0),(.int .i64 0),.nils,.nils,.nils,(.int .i64 0),.nils,(.int .i64 0),(.str [])] none),
 o 9 (.new [(.int .u8 0)] none)],10,Fv,[(.t 8),(.t 9)],
 (.seq (.ops [.op (m 11 0),
 .op (m 12 1),
 .op (o 13 (.load true 2 (.t 6))),
 .op (m 14 3),
 .op (o 15 (.callF ik [(.t 11),(.t 12),(.t 13),(.t 14)])),
 .op (u (.store 9 (.t 8) (.t 15))),
 .op (u (.store 1 (.t 9) (.c (.int .u8 0))))])
 .ret)⟩
def rQ:KC:=
 (.seq (.ops [m 4 2,
 o 5 (.bin .neq 5 true (.t 4) (.c .nilIface))])
 (.cond (.t 5)
 (.ops [o 6 (.build [(.int .i64 0),(.int .i64 0),.nils,.nils,.nils,(.int .i64 0),.nils,(.int .i64 0),(.str [])] []),
 m 7 2,
 o 8 (.callF oP [(.t 7)]),
 u (.store 9 (.t 0) (.t 6)),
 u (.store 1 (.t 1) (.t 8))])
 .skip))
def gy:KFn:=⟨9,3,2,rQ.forget⟩
def lJ(C:Ctx)(ct:yg)(n:Nat):List TOp->As->St->Option (TX×As×St)
 |[],A,O=>some (.normal,A,O)
 |.op o::l,A,O=>match kZ o A with
  |true=>match aF C (avA C A) n O o.i with
   |some (.val v O')=>lJ C ct n l (Ad A o.dst v) O'
   |some (.call f args O')=>match ct f args O' with
    |some (.ret v,O'')=>lJ C ct n l (Ad A o.dst v) O''
    |some (.pan v,O'')=>some (.pan v,A,O'')
    |none=>none
   |none=>none
  |false=>lJ C ct n l (Ad A o.dst .undef) O
 |.panic x::l,A,O=>match avA C A x with
  |.iface t v=>some (.pan (.iface t v),A,O)
  |_=>none
 |.assert d t x::l,A,O=>match avA C A x with
  |.iface t' v=>match Nat.beq t' t with
   |true=>lJ C ct n l (Ad A (some d) (.tup [v,.bool true])) O
   |false=>none
  |_=>none
def Ac(C:Ctx)(call:bD)(ct:yg)(n:Nat):TC->As->St->Option (TX×As×St)
 |.skip,A,O=>some (.normal,A,O)
 |.ops l,A,O=>lJ C ct n l A O
 |.drawn l,A,O=>match vk C call n l A O with
  |some (A',O')=>some (.normal,A',O')
  |none=>none
 |.seq a b,A,O=>match Ac C call ct n a A O with
  |some (.normal,A',O')=>Ac C call ct n b A' O'
  |r=>r
 |.cond c a b,A,O=>match avA C A c with
  |.bool true=>Ac C call ct n a A O
  |.bool false=>Ac C call ct n b A O
  |_=>none
 |.ret,A,O=>some (.ret,A,O)
 |.fail,_,_=>none
def Zw(n:Nat):List TOp->Bool
 |[]=>true
 |.op o::l=>QT n o.dst&&Zw n l
 |.panic _::l=>Zw n l
 |.assert d _ _::l=>QT n (some d)&&Zw n l
def tok(n:Nat):TC->Bool
 |.ops l=>Zw n l
 |.drawn l=>acm n l
 |.seq a b=>tok n a&&tok n b
 |.cond _ a b=>tok n a&&tok n b
 |_=>true
structure AgF(n:Nat)(e:Env)(A:As):Prop where
 len:e.length=n
 at':∀t,e.getD t .undef=look A t
def AgF.ag{n:Nat}{e A}(h:AgF n e A)(m:Nat):Ag n m e A:=⟨h.len,fun t _=>h.at' t⟩
def AgF.of{n:Nat}{e A}(hl:e.length=n)(h:∀m,Ag n m e A):AgF n e A:=⟨hl,fun t=>(h (bit t)).at' t (by rw[zY];simp)⟩
def AgF.put{n:Nat}{e A}(h:AgF n e A){d:Option Nat}(hd:QT n d=true)(v:AV):AgF n (put e d v) (Ad A d v):=
 .of (by rw[Jv,h.len]) fun m=>Ag.put (h.ag _) hd v
def as7(n:Nat):Option (TX×Env×St)->Option (TX×As×St)->Prop
 |none,none=>True
 |some (x,e,O),some (x',A,O')=>x=x'/\O=O'/\AgF n e A
 |_,_=>False
def MF{C:Ctx}{ct:yg}{n:Nat}:∀(l:List TOp) (e:Env) (A:As) (O:St),Zw n l=true->AgF n e A->as7 n (zg C ct l e O) (lJ C ct n l A O)
 |[],e,A,O,_,h=>⟨rfl,rfl,h⟩
 |.op o::l,e,A,O,hd,h=>by
  rw[Zw,a02]at hd;unfold zg lJ;rw[Ag.wanted (h.ag _)];cases kZ o A with
  |false=>exact MF l _ _ O hd.2 (h.put hd.1 _)
  |true=>
   dsimp only;rw[Ag.evI (h.ag _)];cases aF C (avA C A) n O o.i with
   |none=>trivial
   |some x=>cases x with
    |val v O'=>exact MF l _ _ O' hd.2 (h.put hd.1 _)
    |call f args O'=>
     dsimp only;cases ct f args O' with
     |none=>trivial
     |some r=>
      obtain⟨a,O''⟩:=r;cases a with
      |ret v=>exact MF l _ _ O'' hd.2 (h.put hd.1 _)
      |pan v=>exact⟨rfl,rfl,h⟩
 |.panic x::l,e,A,O,hd,h=>by
  unfold zg lJ;rw[aiR x (h.ag _).agree];cases avA C A x<;>first|exact trivial|exact⟨rfl,rfl,h⟩
 |.assert d t x::l,e,A,O,hd,h=>by
  rw[Zw,a02]at hd;unfold zg lJ;rw[aiR x (h.ag _).agree];cases avA C A x with
  |iface t' v=>
   dsimp only;cases Nat.beq t' t with
   |true=>exact MF l _ _ O hd.2 (h.put hd.1 _)
   |false=>trivial
  |_=>trivial
def abz{C:Ctx}{call:bD}{ct:yg}{n:Nat}:∀(c:TC) (e:Env) (A:As) (O:St),tok n c=true->AgF n e A->as7 n (evT C call ct c e O) (Ac C call ct n c A O)
 |.skip,e,A,O,_,h=>⟨rfl,rfl,h⟩
 |.ret,e,A,O,_,h=>⟨rfl,rfl,h⟩
 |.fail,e,A,O,_,h=>trivial
 |.ops l,e,A,O,hd,h=>MF l e A O hd h
 |.drawn l,e,A,O,hd,h=>by
  unfold evT Ac rV vk;have q:=fun N=>acZ (C:=C) (call:=call) (N:=N) l e A O hd (h.ag _);cases h1:wJ C call l e O with
  |none=>
   cases h2:nT C call n l A O with
   |none=>trivial
   |some r=>have:=q 0;rw[h1,h2]at this;exact this.elim
  |some r=>
   cases h2:nT C call n l A O with
   |none=>have:=q 0;rw[h1,h2]at this;exact this.elim
   |some r'=>
    obtain⟨f,Y,rs,ss⟩:=r;obtain⟨f',Y',rs',ss'⟩:=r';have q0:=q 0;rw[h1,h2]at q0;obtain⟨a,b,c,d⟩:=q0;subst a b;have e0:AgF n f f':=.of c.len fun N=>by
     have:=q N;rw[h1,h2]at this;exact this.2.2.1
    dsimp only;rw[d];cases dP C n ss l rs' with
    |true=>exact⟨rfl,rfl,e0⟩
    |false=>trivial
 |.seq a b,e,A,O,hd,h=>by
  rw[tok,a02]at hd;unfold evT Ac;have q:=abz (C:=C) (call:=call) (ct:=ct) a e A O hd.1 h;cases h1:evT C call ct a e O with
  |none=>rw[h1]at q;cases h2:Ac C call ct n a A O with
   |none=>trivial
   |some r=>rw[h2]at q;exact q.elim
  |some r=>rw[h1]at q;cases h2:Ac C call ct n a A O with
   |none=>rw[h2]at q;exact q.elim
   |some r'=>
    rw[h2]at q;obtain⟨x,e',O'⟩:=r;obtain⟨x',A',O''⟩:=r';obtain⟨rfl,rfl,q3⟩:=q;cases x with
    |normal=>exact abz b e' A' O' hd.2 q3
    |ret=>exact⟨rfl,rfl,q3⟩
    |pan v=>exact⟨rfl,rfl,q3⟩
 |.cond c a b,e,A,O,hd,h=>by
  rw[tok,a02]at hd;unfold evT Ac;rw[aiR c (h.ag _).agree];cases avA C A c with
  |bool x=>cases x with
   |true=>exact abz a e A O hd.1 h
   |false=>exact abz b e A O hd.2 h
  |_=>trivial
def Xn(n:Nat)(args:LA)(h:args.length<=n):AgF n (args++List.replicate (n-args.length) .undef) (kS 0 args):=
 .of (by simp;omega) fun m=>ac3 m n args h
def Oz(n0:Nat)(rs:List XR)(A:As)(O:St):Option (AV×St):=match bg A O rs with
 |none=>none
 |some vs=>match hand false vs O with
  |none=>none
  |some (vs,O3)=>some (bK vs,tidy n0 vs O3)
def Pn(n0:Nat)(rs:List XR):Option (TX×As×St)->Option (Ans×St)
 |none=>none
 |some (.pan v,_,O2)=>some (.pan v,tidy n0 [v] O2)
 |some (_,A,O2)=>match Oz n0 rs A O2 with
  |some (v,O')=>some (.ret v,O')
  |none=>none
def acn{n:Nat}{e:Env}{A:As}(h:AgF n e A)(O0:St)(rs:List XR)(O:St):adV O0 rs e O=Oz O0.length rs A O:=by
 unfold adV Oz;rw[UE rs (h.ag _)];rfl
def acY {C:Ctx} {call:bD} {ct:yg} {x:TF} (hok:tok x.ntmps x.body=true) {args:LA} {O:St} {args1:LA} {O1:St} (hh:hand false args O=some (args1,O1)) (hl:Nat.ble args1.length x.ntmps=true):
  runT C call ct x args O=Pn O.length x.results (Ac C call ct x.ntmps x.body (kS 0 args1) O1):=by
 unfold runT;rw[hh];dsimp only;rw[hl];dsimp only;have q:=abz (C:=C) (call:=call) (ct:=ct) x.body _ _ O1 hok (Xn x.ntmps args1 (aw4 hl));cases h1:evT C call ct x.body (args1++List.replicate (x.ntmps-args1.length) .undef) O1 with
 |none=>rw[h1]at q;cases h2:Ac C call ct x.ntmps x.body (kS 0 args1) O1 with
  |none=>rfl
  |some r=>rw[h2]at q;exact q.elim
 |some r=>rw[h1]at q;cases h2:Ac C call ct x.ntmps x.body (kS 0 args1) O1 with
  |none=>rw[h2]at q;exact q.elim
  |some r'=>
   rw[h2]at q;obtain⟨y,e',O'⟩:=r;obtain⟨y',A',O''⟩:=r';obtain⟨rfl,rfl,q3⟩:=q;cases y with
   |pan v=>rfl
   |normal=>dsimp only[Pn];rw[acn q3];rfl
   |ret=>dsimp only[Pn];rw[acn q3];rfl
def akJ(n:Nat)(cv:LA)(r m:Nat)(v:AV)(h:cv.length<=n)(hr:r<n)(hm:m<n):AgF n (((cv++List.replicate (n-cv.length) AV.undef).set r v).set m v) ((m,v)::(r,v)::kS 0 cv):=by
 have h0:=Xn n cv h;have h1:=h0.put (d:=some r) (by simpa[QT]using hr) v
 exact h1.put (d:=some m) (by simpa[QT]using hm) v
def vG:XC->Bool
 |.seq a b=>vG a&&vG b
 |.cond _ a b=>vG a&&vG b
 |.block _ b=>vG b
 |.scope b=>vG b
 |.loop _=>false
 |_=>true
def uG{C:Ctx}{call:bD}{n:Nat}:∀(x:XC) (e:Env) (O:St),vG x=true->evC C call n x e O=mF C call x e O
 |.skip,_,_,_=>rfl
 |.ops _,_,_,_=>rfl
 |.drawn _,_,_,_=>rfl
 |.seq a b,e,O,h=>by
  rw[vG,a02]at h;unfold evC mF;rw[uG a e O h.1];cases mF C call a e O with
  |none=>rfl
  |some r=>
   obtain⟨x,e',O'⟩:=r;cases x with
   |normal=>exact uG b e' O' h.2
   |exit i=>rfl
   |ret=>rfl
 |.cond c a b,e,O,h=>by
  rw[vG,a02]at h;unfold evC mF;cases av C e c with
  |bool x=>cases x with
   |true=>exact uG a e O h.1
   |false=>exact uG b e O h.2
  |_=>rfl
 |.block id b,e,O,h=>by
  rw[vG]at h;unfold evC mF;rw[uG b e O h];rfl
 |.exit _,_,_,_=>rfl
 |.ret,_,_,_=>rfl
 |.scope b,e,O,h=>by
  rw[vG]at h;unfold evC mF;exact uG b e O h
 |.fail,_,_,_=>rfl
noncomputable def NQ(C:Ctx)(call:bD)(ct:yg)(x:CFn)(k:KFn)(K:KC)(n0:Nat)(args1:LA)(O1:St):Option (AV×St):=
 match dR C call x.ntmps x.first (kS 0 args1) O1 with
 |none=>none
 |some (A0,O0)=>match Ac C call ct x.ntmps x.body ((x.d,.func (.func x.clo) [] (x.caps.map (avA C A0)))::A0) O0 with
  |none=>none
  |some (tx,A2,O2)=>match eu C (J6 ct) k.ntmps K ((k.m,thrown tx)::(k.r,thrown tx)::kS 0 (x.caps.map (avA C A0))) O2 with
   |some (.exit _,_,_)=>none
   |none=>none
   |some (_,_,O3)=>Oz n0 x.results A2 O3
def ahy(x:CFn)(k:KFn)(K:KC):Bool:=(live k.ntmps 0 K 0 fun _=>0).isSome&&vG k.body&&acm x.ntmps x.first&&tok x.ntmps x.body&&Nat.blt x.d x.ntmps&&Nat.blt k.r k.ntmps&&Nat.blt k.m k.ntmps&&Nat.ble x.caps.length k.ntmps
def aeJ {C:Ctx} {call:bD} {ct:yg} {x:CFn} {k:KFn} {K:KC} (hK:K.forget=k.body) (hok:ahy x k K=true) {args:LA} {O:St} {args1:LA} {O1:St} (hh:hand false args O=some (args1,O1)) (hl:Nat.ble args1.length x.ntmps=true):
  zC C call ct x k args O=NQ C call ct x k K O.length args1 O1:=by
 simp only[ahy,a02,Nat.blt_eq]at hok;obtain⟨⟨⟨⟨⟨⟨⟨k1,k2⟩,k3⟩,k4⟩,k5⟩,k6⟩,k7⟩,k8⟩:=hok;unfold zC NQ;rw[hh];dsimp only;have q:=fun N=>WU (C:=C) (call:=call) (N:=N) x.first _ _ O1 k3 ((Xn x.ntmps args1 (aw4 hl)).ag _);cases h1:rM C call x.first (args1++List.replicate (x.ntmps-args1.length) .undef) O1 with
 |none=>
  cases h2:dR C call x.ntmps x.first (kS 0 args1) O1 with
  |none=>rfl
  |some r=>have:=q 0;rw[h1,h2]at this;exact this.elim
 |some r=>
  cases h2:dR C call x.ntmps x.first (kS 0 args1) O1 with
  |none=>have:=q 0;rw[h1,h2]at this;exact this.elim
  |some r'=>
   obtain⟨e0,O0⟩:=r;obtain⟨A0,O0'⟩:=r';have q0:=q 0;rw[h1,h2]at q0;obtain⟨a,c⟩:=q0;subst a;have g0:AgF x.ntmps e0 A0:=.of c.len fun N=>by
    have:=q N;rw[h1,h2]at this;exact this.2
   have ec:x.caps.map (av C e0)=x.caps.map (avA C A0):=List.map_congr_left fun y _=>aiR y (g0.ag _).agree;dsimp only;rw[ec];have g1:=g0.put (d:=some x.d) (by simpa[QT]using k5) (.func (.func x.clo) [] (x.caps.map (avA C A0)))
   have q2:=abz (C:=C) (call:=call) (ct:=ct) x.body _ _ O0 k4 g1;unfold put Ad at q2;dsimp only at q2;generalize e0.set x.d (.func (.func x.clo) [] (x.caps.map (avA C A0)))=e1 at q2⊢;generalize(x.d,AV.func (.func x.clo) [] (x.caps.map (avA C A0)))::A0=A1 at q2⊢;cases h3:evT C call ct x.body e1 O0 with
   |none=>
    rw[h3]at q2;cases h4:Ac C call ct x.ntmps x.body A1 O0 with
    |none=>rfl
    |some r=>rw[h4]at q2;exact q2.elim
   |some r=>
    rw[h3]at q2;cases h4:Ac C call ct x.ntmps x.body A1 O0 with
    |none=>rw[h4]at q2;exact q2.elim
    |some r'=>
     rw[h4]at q2;obtain⟨tx,e2,O2⟩:=r;obtain⟨tx',A2,O2'⟩:=r';obtain⟨rfl,rfl,q3⟩:=q2;dsimp only;rw[uG _ _ _ k2,<-hK];have ga:=akJ k.ntmps (x.caps.map (avA C A0)) k.r k.m (thrown tx) (by simpa using aw4 k8) k6 k7
     rw[ax5]at ga;obtain⟨M,hM⟩:=ax0.mp k1;have q4:=yD (C:=C) (call:=J6 ct) K _ M _ hM _ _ O2 (ga.ag M);revert q4;cases mF C (J6 ct) K.forget (((x.caps.map (avA C A0)++List.replicate (k.ntmps-x.caps.length) AV.undef).set k.r (thrown tx)).set k.m (thrown tx)) O2<;>cases eu C (J6 ct) k.ntmps K ((k.m,thrown tx)::(k.r,thrown tx)::kS 0 (x.caps.map (avA C A0))) O2
     ·intro _;rfl
     ·intro h;exact h.elim
     ·intro h;exact h.elim
     ·rename_i r r';obtain⟨y,e3,O3⟩:=r;obtain⟨y',A3,O3'⟩:=r';rintro⟨h5,h6,_⟩;subst h5 h6;cases y with
      |exit i=>rfl
      |normal=>exact acn q3 O x.results _
      |ret=>exact acn q3 O x.results _
def WG{C:Ctx}{call:bD}{T:FuncId->Option TF}{f:FuncId}{x:TF}(h:T f=some x)(n:Nat)(args:LA)(O:St):oO C call T (n+1) f args O=runT C call (oO C call T n) x args O:=by
 rw[oO,h]
def aci{C:Ctx}{call:bD}{T:FuncId->Option TF}{f:FuncId}(h:T f=none)(n:Nat){args:LA}{O:St}{v:AV}{O':St}(hc:call f args O=some (v,O')):oO C call T n f args O=some (.ret v,O'):=by
 cases n with
 |zero=>rw[oO,hc]
 |succ n=>rw[oO,h];dsimp only;rw[hc]
def ais{C:Ctx}{ct:yg}{f:FuncId}{args:LA}{O:St}{v:AV}{O':St}(h:ct f args O=some (.ret v,O')):J6 ct f args O=some (v,O'):=by
 rw[J6,h]
variable{call:bD}{ct:yg}{n:Nat}
abbrev TR:=Option (TX×As×St)
def outT(ct:yg)(d:Option Nat)(A:As)(x:Option Out)(k:As->St->TR):TR:=match x with
 |some (.val v O')=>k (Ad A d v) O'
 |some (.call f args O')=>match ct f args O' with
  |some (.ret v,O'')=>k (Ad A d v) O''
  |some (.pan v,O'')=>some (.pan v,A,O'')
  |none=>none
 |none=>none
def vI(d:Nat)(A:As)(v:AV)(O:St)(k):outT ct (some d) A (some (.val v O)) k=k ((d,v)::A) O:=rfl
def tH(A:As)(v:AV)(O:St)(k):outT ct none A (some (.val v O)) k=k A O:=rfl
def aqf(d:Option Nat)(A:As)(r:Option (Ans×St))(k:As->St->TR):TR:=match r with
 |some (.ret v,O'')=>k (Ad A d v) O''
 |some (.pan v,O'')=>some (.pan v,A,O'')
 |none=>none
def tu(d:Option Nat)(A:As)(f:FuncId)(args:LA)(O:St)(k):outT ct d A (some (.call f args O)) k=aqf d A (ct f args O) k:=rfl
def wC(d:Nat)(A:As)(v:AV)(O:St)(k):aqf (some d) A (some (.ret v,O)) k=k ((d,v)::A) O:=rfl
def yu(d:Option Nat)(A:As)(v:AV)(O:St)(k):aqf d A (some (.pan v,O)) k=some (.pan v,A,O):=rfl
def DY(A:As)(O:St):lJ C ct n [] A O=some (.normal,A,O):=rfl
def Wl(d:Nat)(i:XI)(l:List TOp)(A:As)(O:St):lJ C ct n (.op (o d i)::l) A O=outT ct (some d) A (aF C (avA C A) n O i) (lJ C ct n l):=rfl
def ZB(i:XI)(l:List TOp)(A:As)(O:St):lJ C ct n (.op (u i)::l) A O=outT ct none A (aF C (avA C A) n O i) (lJ C ct n l):=rfl
def Wj(d s:Nat)(l:List TOp)(A:As)(O:St):lJ C ct n (.op (m d s)::l) A O=lJ C ct n l ((d,look A s)::A) O:=rfl
def asT(d t:Nat)(A:As)(x:AV)(k:As->TR):TR:=match x with
 |.iface t' v=>match Nat.beq t' t with
  |true=>k ((d,.tup [v,.bool true])::A)
  |false=>none
 |_=>none
def MG(d:Nat)(t:TypeId)(x:XA)(l:List TOp)(A:As)(O:St):lJ C ct n (.assert d t x::l) A O=asT d t A (avA C A x) fun A=>lJ C ct n l A O:=by
 rw[lJ];unfold asT;cases avA C A x<;>rfl
def EZ(d t:Nat)(A:As)(v:AV)(k):asT d t A (.iface t v) k=k ((d,.tup [v,.bool true])::A):=by
 unfold asT;dsimp only;rw[aE1]
def pnT(A:As)(O:St)(x:AV):TR:=match x with
 |.iface t v=>some (.pan (.iface t v),A,O)
 |_=>none
def J8(x:XA)(l:List TOp)(A:As)(O:St):lJ C ct n (.panic x::l) A O=pnT A O (avA C A x):=by
 rw[lJ];unfold pnT;cases avA C A x<;>rfl
def DR(A:As)(O:St)(t:TypeId)(v:AV):pnT A O (.iface t v)=some (.pan (.iface t v),A,O):=rfl
def amZ(r:TR)(k:As->St->TR):TR:=match r with
 |some (.normal,A,O)=>k A O
 |r=>r
def lG(A:As)(O:St)(k):amZ (some (.normal,A,O)) k=k A O:=rfl
def yJ(A:As)(O:St)(k):amZ (some (.ret,A,O)) k=some (.ret,A,O):=rfl
def yI(v:AV)(A:As)(O:St)(k):amZ (some (.pan v,A,O)) k=some (.pan v,A,O):=rfl
def DX(a b:TC)(A:As)(O:St):Ac C call ct n (.seq a b) A O=amZ (Ac C call ct n a A O) (Ac C call ct n b):=by
 rw[Ac];unfold amZ;rcases Ac C call ct n a A O with _|⟨x,A',O'⟩
 ·rfl
 ·cases x<;>rfl
def ahC(x:AV)(a b:TR):TR:=match x with
 |.bool true=>a
 |.bool false=>b
 |_=>none
def yQ(c:XA)(a b:TC)(A:As)(O:St):Ac C call ct n (.cond c a b) A O=ahC (avA C A c) (Ac C call ct n a A O) (Ac C call ct n b A O):=by
 rw[Ac];unfold ahC;cases avA C A c with
 |bool x=>cases x<;>rfl
 |_=>rfl
def rF(a b:TR):ahC (.bool true) a b=a:=rfl
def lD(a b:TR):ahC (.bool false) a b=b:=rfl
def DV(l:List TOp)(A:As)(O:St):Ac C call ct n (.ops l) A O=lJ C ct n l A O:=rfl
def yR(A:As)(O:St):Ac C call ct n .skip A O=some (.normal,A,O):=rfl
def DW(A:As)(O:St):Ac C call ct n .ret A O=some (.ret,A,O):=rfl
def drT(r:Option (As×St)):TR:=match r with
 |some (A,O)=>some (.normal,A,O)
 |none=>none
def yw(A:As)(O:St):drT (some (A,O))=some (.normal,A,O):=rfl
def yN(l:List XOp)(A:As)(O:St):Ac C call ct n (.drawn l) A O=drT (vk C call n l A O):=by
 rw[Ac];unfold drT;rcases vk C call n l A O with _|⟨A',O'⟩<;>rfl
end Go.Ev
namespace Go.Ev
set_option maxRecDepth 100000
variable{C:Ctx}{call:bD}{ct:yg}
def TT(f:FuncId):Option TF:=match Nat.beq f oP with
 |true=>some Cf
 |false=>match Nat.beq f qN with
  |true=>some vV
  |false=>match Nat.beq f nG with
   |true=>some ni
   |false=>match Nat.beq f ik with
    |true=>some iW
    |false=>none
def Be(c:Int):AV:=.iface 177 (.agg [.int .u8 c])
def caught_is(n:Nat)(c:Int){O:St}(hσ:Ok O):oO C call TT (n+1) oP [Be c] O=some (.ret (.int .u8 c),O):=by
 rw[WG (x:=Cf) rfl,acY (args1:=[Be c]) (O1:=O) (by rfl) (by rfl) (by rfl)]
 have ty:=fun L=>bY hσ (vs:=[.int .u8 c]) rfl L;unfold Be;simp only[Cf,DX,yQ,DV,yR,DW,lD,lG,DY,Wl,ZB,Wj,J8,MG,EZ,DR,vI,tH,Pn,Oz,bg,ty,AV.cells,AV.flat,splice,EVX,seval]
end Go.Ev
namespace Go.Ev
set_option maxRecDepth 100000
variable{C:Ctx}
theorem afZ (H:MadeHas C) (hf:Has C wK vZ) (n:Nat) {h l R now rc sc nm fs F r s m o fo oo} (rl:LU) (most:Int) {O:St} (hσ:Ok O) (a:bG O h l R now rc sc nm fs F r s m o fo oo) (hr:role rl=true) {d:LU} {z:Int} {S:St} (hg:aj C nN [.ref s 0,.str (rl++vF),.int .i64 most] O=some (.tup [.str d,.int .i64 z,.int .i64 0],S)) (hS:tidy O.length [.str d,.int .i64 z] S=S):
  oO C (aj C) TT (n+1) qN [.ref r 0,.str rl,.int .i64 most] O=some (.ret (.tup [.str d,.int .i64 z]),S):=by
 rw[WG (x:=vV) rfl,acY (args1:=[.ref r 0,.str rl,.int .i64 most]) (O1:=O) (by rfl) (by rfl) (by rfl)]
 have q1:=aci (C:=C) (call:=aj C) (T:=TT) (f:=wK) rfl n (NM hf H.nrole H.allowed rl O);have fa:Vf rl=.tup [.str (rl++vF),.int .i64 0]:=by simp[Vf,hr]
 rw[fa]at q1;have q2:=aci (C:=C) (call:=aj C) (T:=TT) (f:=nN) rfl n hg;have rp:=a.rp;unfold nH at rp;simp only[vV,q1,q2,rp,hS,DX,yQ,DV,yR,DW,lD,lG,DY,Wl,Wj,J8,DR,vI,tu,wC,Pn,Oz,bg,AV.cells,splice,EVX,seval]
structure Req(O S:St)(s m:Nat)(F F':List cO)(oo oo':Option Nat):Prop where
 ok:Ok S
 len:O.length<=S.length
 old:∀i x,i≠s->i≠m->oo≠some i->O[i]?=some x->S[i]?=some x
 new:∀q,oo'=some q->oo=some q\/O.length<=q
 far:(S.take O.length=O/\F'=F/\oo'=oo)\/∃x,S[s]?=some x/\x.below O.length=false
def Req.refl{O:St}(h:Ok O)(s m:Nat)(F:List cO)(oo:Option Nat):Req O O s m F F oo oo:=
 ⟨h,a06 _,fun _ _ _ _ _ h=>h,fun _ h=>.inl h,.inl ⟨aD9,rfl,rfl⟩⟩
def Xv{n k:Nat}(h:n<=k){x:AO}(hx:x.below k=false):x.below n=false:=by
 grind [AO.below_mono]
def Req.base{O L S:St}{s m F F' oo oo'}(q:Req (O++L) S s m F F' oo oo'):Req O S s m F F' oo oo':=by
 have hl:O.length<=(O++L).length:=by simp
 refine⟨q.ok,ax8 hl q.len,fun i x a b c d=>q.old i x a b c (aA d _),fun k h=>?_,?_⟩
 ·grind [Req]
 ·rcases q.far with⟨a,b,c⟩|⟨x,a,b⟩
  ·refine .inl ⟨?_,b,c⟩;have:=congrArg (List.take O.length) a
   grind
  ·exact .inr ⟨x,a,Xv hl b⟩
theorem Req.more{O S T:St}{s m F F' oo oo'}(q:Req O S s m F F' oo oo')(hs:s<O.length)(ok:Ok T)(hl:S.length<=T.length)(h:∀i x,i<O.length->S[i]?=some x->T[i]?=some x):Req O T s m F F' oo oo':=by
 refine⟨ok,ax8 q.len hl,fun i x a b c d=>h i x (a00.mp d).1 (q.old i x a b c d),q.new,?_⟩;rcases q.far with⟨a,b,c⟩|⟨x,a,b⟩
 ·refine .inl ⟨?_,b,c⟩;refine aw7 fun k=>?_
  grind
 ·exact .inr ⟨x,h s x hs a,b⟩
def Req.trans{O S T:St}{s m F F' F'' oo oo' oo''}(p:Req O S s m F F' oo oo')(q:Req S T s m F' F'' oo' oo'')(hs:s<O.length)(hm:s≠m):Req O T s m F F'' oo oo'':=by
 refine⟨q.ok,ax8 p.len q.len,fun i x a b c d=>q.old i x a b (fun e=>?_) (p.old i x a b c d),fun k h=>?_,?_⟩
 ·grind [Req]
 ·grind [Req]
 ·rcases q.far with⟨a,b,c⟩|⟨x,a,b⟩
  ·grind [Req]
  ·exact .inr ⟨x,a,Xv p.len b⟩
structure aq6(n:Nat)(r s m o:Nat)(fo oo:Option Nat):Prop where
 r:r<n
 s:s<n
 m:m<n
 o:o<n
 fo:∀q,fo=some q->q<n
 oo:∀q,oo=some q->q<n
def bG.lt{Y:St}{h l R now rc sc nm fs F r s m o fo oo}(a:bG Y h l R now rc sc nm fs F r s m o fo oo):aq6 Y.length r s m o fo oo:=by
 obtain⟨fv,ov,h1,h2,h3⟩:=a.st.st;refine⟨(a00.mp a.rp).1,(a00.mp h1).1,(a00.mp a.st.mp).1,(a00.mp a.ver).1,fun q e=>?_,fun q e=>?_⟩
 ·rcases h2 with⟨_,h,_⟩|⟨q',fz,b1,b2,b3,b4⟩
  ·rw[h]at e;cases e
  grind
 ·rcases h3 with⟨_,h,_⟩|⟨q',b1,b2,b3,b4⟩
  ·rw[h]at e;cases e
  grind
def bG.moved{Y S:St}{h l R now rc sc nm fs F r s m o fo oo}(a:bG Y h l R now rc sc nm fs F r s m o fo oo)(hk:∀i x,(i=r\/i=s\/i=m\/i=o\/fo=some i\/oo=some i)->Y[i]?=some x->S[i]?=some x):bG S h l R now rc sc nm fs F r s m o fo oo:=by
 have k:=a.lt;have e:∀i,i<Y.length->(i=r\/i=s\/i=m\/i=o\/fo=some i\/oo=some i)->S[i]?=Y[i]?:=fun i hi hp=>by
  grind
 exact a.keep (e r k.r (.inl rfl)) (e o k.o (by simp)) (e s k.s (by simp)) (e m k.m (by simp)) (fun q h=>e q (k.fo q h) (by simp[h])) (fun q h=>e q (k.oo q h) (by simp[h]))
def bG.app{Y:St}{h l R now rc sc nm fs F r s m o fo oo}(a:bG Y h l R now rc sc nm fs F r s m o fo oo)(L:St):bG (Y++L) h l R now rc sc nm fs F r s m o fo oo:=a.moved fun i x _ h=>aA h L
def Req.repo{O S:St}{h l R now rc sc nm fs F F' r s m o fo oo oo'}(a:bG O h l R now rc sc nm fs F r s m o fo oo)(q:Req O S s m F F' oo oo')(b:iZ S nm fs F' s m fo oo'):bG S h l R now rc sc nm fs F' r s m o fo oo':=by
 grind [bG,Req]
def Req.fin {O S:St} {h l R now rc sc nm fs F F' r s m o fo oo oo'} (hσ:Ok O) (a:bG O h l R now rc sc nm fs F r s m o fo oo) (q:Req O S s m F F' oo oo') (b:bG S h l R now rc sc nm fs F' r s m o fo oo') (vs:LA) (hv:ai 0 vs=true):
  ∃S',tidy O.length vs S=S'/\bG S' h l R now rc sc nm fs F' r s m o fo oo'/\Req O S' s m F F' oo oo':=by
 grind [qZ,Zy,a.lt.s,Req]
def aa0 (H:StoHas C) {O:St} (hσ:Ok O) {h l R now rc sc nm fs F r s m o fo oo} (a:bG O h l R now rc sc nm fs F r s m o fo oo) (hF:F.length<1000000) (file:LU) (cap:Int) (hc:0<=cap/\cap<=65536):
  ∃S oo',aj C nN [.ref s 0,.str file,.int .i64 cap] O=some (.tup [.str (xB fs F file cap).1.data,.int .i64 (xB fs F file cap).1.size,.int .i64 0],S)/\bG S h l R now rc sc nm fs (xB fs F file cap).2 r s m o fo oo'/\Req O S s m F (xB fs F file cap).2 oo oo'/\∀vs,tidy O.length vs S=S:=by
 unfold xB;cases hf:F.find? (fun f=>decide (f.name=file))with
 |some f=>exact⟨O,oo,aa2 H hσ a.st file cap hc f hf,a,.refl hσ _ _ _ _,fun vs=>bu O vs⟩
 |none=>
  obtain⟨S,oo',q1,q2,q3,q4,q5,q6⟩:=aa1 H hσ a.st hF file cap hc hf;have fr:∃x,S[s]?=some x/\x.below O.length=false:=by
   obtain⟨fv,ov,h1,_,h3⟩:=q3.st;rcases h3 with⟨h3,_⟩|⟨k,b1,b2,b3,b4⟩
   ·simp at h3
   ·refine⟨_,h1,?_⟩;have:=q6 k b1;have n:¬k<O.length:=by omega
    rw[b3];simp[AO.below,ai,below,n]
  have q:Req O S s m F (F++[Hw fs file cap]) oo oo':=⟨q2,q4,q5,fun k e=>.inr (q6 k e),.inr fr⟩;obtain⟨x,e1,e2⟩:=fr;exact⟨S,oo',q1,q.repo a q3,q,fun vs=>Zy vs a.lt.s e1 e2⟩
def fetch_any (H:MadeHas C) (hS:StoHas C) (hf:Has C wK vZ) (n:Nat) {h l R now rc sc nm fs F r s m o fo oo} (rl:LU) (most:Int) {O:St} (hσ:Ok O) (a:bG O h l R now rc sc nm fs F r s m o fo oo) (hF:F.length<1000000) (hc:0<=most/\most<=65536) (hr:role rl=true):
  ∃S oo',oO C (aj C) TT (n+1) qN [.ref r 0,.str rl,.int .i64 most] O=some (.ret (.tup [.str (xB fs F (rl++vF) most).1.data,.int .i64 (xB fs F (rl++vF) most).1.size]),S)/\bG S h l R now rc sc nm fs (xB fs F (rl++vF) most).2 r s m o fo oo'/\Req O S s m F (xB fs F (rl++vF) most).2 oo oo':=by
 obtain⟨S,oo',q1,q2,q3,q4⟩:=aa0 hS hσ a hF (rl++vF) most hc
 grind [afZ]
structure yh where
 sn:LU->Int->SnV×Int
 ro:lH->fE->List PS->LU->Int->jK×Int
structure JH(C:Ctx)(h:Bool)(l:List iy)(R:kC)(now:Int)(K:yh):Prop where
 snok:∀d z,d.length<=LB->(K.sn d z).1.ok
 sn:∀d z (O:St) (o:Nat),d.length<=LB->Ok O->O[o]?=some (FY h l)->aj C oZ [.ref o 0,.agg R.cs,.int .i64 now,.str d,.int .i64 z] O=some (.tup [.agg (K.sn d z).1.cs,.int .u8 (K.sn d z).2],O)
 snz:∀d z,(K.sn d z).2≠0->(K.sn d z).1=Wq
 roz:∀p a ks d z,(K.ro p a ks d z).2≠0->(K.ro p a ks d z).1=Ol
 rook:∀p a ks d z,Bh p.hashes->zG a.ids->Bh ks->d.length<=LB->(K.ro p a ks d z).1.ok
 ro:∀p a ks d z (O:St) (o:Nat),Bh p.hashes->zG a.ids->Bh ks->d.length<=LB->Ok O->O[o]?=some (FY h l)->aj C AA [.ref o 0,.agg p.cs,.agg a.cs,.sl ks.length (ks.flatMap pC),.int .i64 now,.str d,.int .i64 z] O=some (.tup [.agg (K.ro p a ks d z).1.cs,.int .u8 (K.ro p a ks d z).2],O)
def zF(fs:List PS)(F:List cO):Prop:=∀f∈F,f=Hw fs f.name f.cap
def EK(fs:List PS):Prop:=∀p∈fs,p.2.length<=LB
def ae5(fs:List PS)(file:LU)(cap:Int):(Hw fs file cap).cap=cap:=by
 unfold Hw ae4;split
 ·split<;>rfl
 ·rfl
def ajb{fs:List PS}(h:EK fs)(file:LU)(cap:Int):(Hw fs file cap).data.length<=LB:=by
 unfold Hw;cases hf:fs.find? (fun p=>decide (p.1=file))with
 |none=>exact au3 _
 |some p=>
  unfold ae4;dsimp only;split
  ·exact au3 _
  ·exact h p (List.mem_of_find?_eq_some hf)
def acv{fs:List PS}{F:List cO}(hF:zF fs F)(file:LU)(cap:Int):zF fs (xB fs F file cap).2/\(xB fs F file cap).1=Hw fs file (xB fs F file cap).1.cap:=by
 unfold xB;cases hf:F.find? (fun f=>decide (f.name=file))with
 |some f=>
  have h1:=hF f (List.mem_of_find?_eq_some hf)
  grind
 |none=>
  refine⟨fun f h=>?_,by dsimp only;rw[ae5]⟩
  rcases aA4.mp h with h|h
  ·exact hF f h
  ·rw[aB7.mp h,Nu,ae5]
theorem ae9(fs:List PS)(F:List cO)(file:LU)(cap:Int):(xB fs F file cap).2.length<=F.length+1:=by
 unfold xB;split
 ·exact Nat.le_succ _
 ·simp
def NF{fs:List PS}{F:List cO}(hd:EK fs)(hF:zF fs F)(file:LU)(cap:Int):(xB fs F file cap).1.data.length<=LB:=by
 rw[(acv hF file cap).2];exact ajb hd _ _
def afh:LU:=[115,110,97,112,115,104,111,116]
def kE(K:yh)(fs:List PS)(sc:Int)(F:List cO):(SnV×Int)×List cO:=
 let g:=xB fs F (afh++vF) sc
 (K.sn g.1.data g.1.size,g.2)
structure TU(C:Ctx):Prop extends MadeHas C where
 sto:StoHas C
 file:Has C wK vZ
 rmade:Has C jW lN
 pin:afC C
def Iz(hC:Has C jW lN){h l R now rc sc nm fs F r s m o fo oo}{O:St}(a:bG O h l R now rc sc nm fs F r s m o fo oo):aj C jW [.ref r 0] O=some (.bool true,O):=by
 have hn:=gJ r O;have rp:=a.rp;unfold nH at rp;rw[hC.go hn];simp only[lN,rp,EVX,seval]
def QV{n0:Nat}{rs:List XR}{A:As}{O:St}{vs:LA}(h:bg A O rs=some vs)(hv:NVs vs):Oz n0 rs A O=some (bK vs,tidy n0 vs O):=by
 unfold Oz;rw[h];dsimp only;rw[hv.hand]
def VX(c:Int)(v:AV):Ans:=if c=0 then .ret v else .pan (Be c)
def Tv (H:TU C) (n:Nat) {h l R now rc sc nm fs F r s m o fo oo K} (hK:JH C h l R now K) (hd:EK fs) (hFo:zF fs F) {O:St} (hσ:Ok O) (a:bG O h l R now rc sc nm fs F r s m o fo oo) (hF:F.length<1000000):
  ∃S oo',oO C (aj C) TT (n+2) nG [.ref r 0] O=some (VX (kE K fs sc F).1.2 (.agg (kE K fs sc F).1.1.cs),S)/\bG S h l R now rc sc nm fs (kE K fs sc F).2 r s m o fo oo'/\Req O S s m F (kE K fs sc F).2 oo oo':=by
 have k:=a.lt;have hc:0<=sc/\sc<=65536:=by have:=a.caps.2;unfold YE at this;simpa using this
 have ok1:Ok (O++[.cells [.int .i64 0,.int .i64 0,.nils] FZ]):=hσ.plus rfl;obtain⟨S,oo',q1,b,q⟩:=fetch_any H.toMadeHas H.sto H.file n afh sc ok1 (a.app _) hF hc (by decide)
 have e1:(xB fs F (afh++vF) sc).2=(kE K fs sc F).2:=rfl;rw[e1]at b q;obtain⟨g,hg⟩:∃g,xB fs F (afh++vF) sc=g:=⟨_,rfl⟩;have e2:(kE K fs sc F).1=K.sn g.1.data g.1.size:=by rw[<-hg];rfl
 have dl:g.1.data.length<=LB:=by rw[<-hg];exact NF hd hFo _ _
 rw[e2];rw[hg]at q1;have q2:=hK.sn g.1.data g.1.size S o dl q.ok b.ver;generalize K.sn g.1.data g.1.size=t at*;obtain⟨t,c⟩:=t;dsimp only at*;have kb:=b.lt;have z:S[O.length]?=some (.cells [.int .i64 0,.int .i64 0,.nils] FZ):=q.old _ _ (by have:=k.s;omega) (by have:=k.m;omega) (fun e=>by have:=k.oo _ e;omega) (by rw[aJ];rfl)
 have tc:AO.below 0 (.cells t.cs FZ)=true:=t.nvs.cl;have rp:=b.rp;have mk:=Iz H.rmade (a.app [.cells [.int .i64 0,.int .i64 0,.nils] FZ]);have mk2:=aci (C:=C) (call:=aj C) (T:=TT) (f:=jW) rfl (n+1) mk;have qb:=q.base;have okT1:Ok (S++[.cells t.cs FZ]):=q.ok.plus (by rw[a07,tc];rfl)
 rw[WG (x:=ni) rfl,acY (args1:=[.ref r 0]) (O1:=O) (by rfl) (by rfl) (by rfl)]
 have zS:=fun L=>aA z L;have pS:=fun L y=>dV z L y;have rpS:=fun L=>aA rp L;have rp0:(O++[.cells [.int .i64 0,.int .i64 0,.nils] FZ])[r]?=_:=aA a.rp _;have Rc:=R.cs_is;have Sc:t.cs=[.int .i64 t.ver,.int .i64 t.exp,.sl t.pins.length (t.pins.flatMap lH.cs)]:=rfl;unfold nH at rp rpS rp0;rw[Rc]at rp rpS rp0 q2;rw[Sc]at q2 okT1 tc⊢;simp only[a81,a99]at rp rpS rp0;unfold afh at q1;by_cases hc0:c=0
 ·subst hc0;have okT:Ok ((S.set O.length (.cells [.int .i64 t.ver,.int .i64 t.exp,.sl t.pins.length (t.pins.flatMap lH.cs)] FZ))++[.cells [.int .i64 t.ver,.int .i64 t.exp,.sl t.pins.length (t.pins.flatMap lH.cs)] FZ]):=(Ok.set2 q.ok _ (AO.below_mono (au3 _) _ tc)).plus (by rw[a07,tc];rfl)
  have bT:bG (S.set O.length (.cells [.int .i64 t.ver,.int .i64 t.exp,.sl t.pins.length (t.pins.flatMap lH.cs)] FZ)) h l R now rc sc nm fs (kE K fs sc F).2 r s m o fo oo':=b.moved fun i x hi e=>aI e (fun e'=>by
   subst e';rcases hi with e|e|e|e|e|e
   ·have:=k.r;omega
   ·have:=k.s;omega
   ·have:=k.m;omega
   ·have:=k.o;omega
   ·have:=k.fo _ e;omega
   ·rcases q.new _ e with e|e
    ·have:=k.oo _ e;omega
    ·simp at e;omega) _
  have qT:=qb.more k.s okT (by simp) (fun i x hi e=>aA (aI e (by omega) _) _)
  obtain⟨S',t1,t2,t3⟩:=qT.fin hσ a (bT.app _) [.agg [.int .i64 t.ver,.int .i64 t.exp,.sl t.pins.length (t.pins.flatMap lH.cs)]] (by rw[ai,below];rw[AO.below]at tc;rw[tc];rfl)
  refine⟨S',oo',?_,t2,t3⟩;have sg:=bC z (.cells [.int .i64 t.ver,.int .i64 t.exp,.sl t.pins.length (t.pins.flatMap lH.cs)] FZ);have sgL:=fun L=>aA sg L;simp only[ni,mk2,q1,q2,rp,rp0,zS,pS,yN,yw,DX,yQ,DV,yR,DW,rF,lD,lG,yJ,yI,DY,Wl,ZB,Wj,J8,MG,EZ,DR,vI,tH,tu,wC,yu,Pn,AV.cells,AV.flat,splice,EVX,seval];rw[QV (vs:=[.agg [.int .i64 t.ver,.int .i64 t.exp,.sl t.pins.length (t.pins.flatMap lH.cs)]]) (by simp only[bg,sgL,EVX,seval]) (.cons (.agg t.nvs) .nil),t1]
  rfl
 ·have hc0':(c !=0)=true:=by simpa using hc0
  obtain⟨S',t1,t2,t3⟩:=(qb.more k.s okT1 (by simp) (fun i x hi e=>aA e _)).fin hσ a (b.app _) [Be c] rfl
  refine⟨S',oo',?_,t2,t3⟩;unfold Be at t1;simp only[ni,mk2,q1,q2,rp,rp0,hc0',t1,VX,hc0,Be,yN,yw,DX,yQ,DV,yR,DW,rF,lD,lG,yJ,yI,DY,Wl,ZB,Wj,J8,MG,EZ,DR,vI,tH,tu,wC,yu,Pn,AV.cells,AV.flat,splice,EVX,seval]
def zX(K:yh)(fs:List PS)(rl:LU)(a:fE)(ks:List PS)(p:lH)(most:Int)(F:List cO):(jK×Int)×List cO:=
 let g:=xB fs F (rl++vF) most
 (K.ro p a ks g.1.data g.1.size,g.2)
def kD(K:yh)(fs:List PS)(rc sc:Int)(rl:LU)(a:fE)(ks:List PS)(F:List cO):(jK×Int)×List cO:=
 let s:=kE K fs sc F
 if s.1.2=0 then
  match vW s.1.1 rl with
  |none=>((Ol,1),s.2)
  |some p=>if p.length<0 then zX K fs rl a ks p rc s.2 else if rc<p.length then((Ol,3),s.2)else zX K fs rl a ks p p.length s.2
 else((Ol,s.1.2),s.2)
def SnV.ok.small{s:SnV}(h:s.ok):TW s:=⟨by have:=h.len;omega,fun p hp=>by have:=(h.each p hp).1.1;omega⟩
def Zf{C h l R now K}(hK:JH C h l R now K){fs F}(hd:EK fs)(hFo:zF fs F)(sc:Int):(kE K fs sc F).1.1.ok/\zF fs (kE K fs sc F).2/\(kE K fs sc F).2.length<=F.length+1:=
 ⟨hK.snok _ _ (NF hd hFo _ _),(acv hFo _ _).1,ae9 _ _ _ _⟩
def Ru{s:SnV}{r:LU}{p:lH}(h:vW s r=some p):role r=true/\p∈s.pins/\p.name=r++vF:=by
 grind [vW]
def IX(t:jK):AO.below 0 (.cells t.cs FZ)=true:=t.nvs.cl
def acx{l:LA}(h:NVs l)(i k:Nat)(O:St):hand false (.ref i k::l) O=some (.ref i k::l,O):=by
 show(match dE O 12 (.ref i k::l)with|some (l,fs)=>some (l,freeze O fs)|none=>none)=_
 rw[show dE O 12 (.ref i k::l)=aV O (dE O 11) (.ref i k::l)from rfl,aO,ar0,h.nf];rfl
def afk (H:TU C) (n:Nat) {h l R now rc sc nm fs F r s m o fo oo K} (hK:JH C h l R now K) (hd:EK fs) (hFo:zF fs F) {O:St} (hσ:Ok O) (a:bG O h l R now rc sc nm fs F r s m o fo oo) (hF:F.length+1<1000000) (rl:LU) (au:fE) (ks:List PS) (ha:zG au.ids) (hk:Bh ks):
  ∃S oo',oO C (aj C) TT (n+3) ik [.ref r 0,.str rl,.agg au.cs,.sl ks.length (ks.flatMap pC)] O=some (VX (kD K fs rc sc rl au ks F).1.2 (.agg (kD K fs rc sc rl au ks F).1.1.cs),S)/\bG S h l R now rc sc nm fs (kD K fs rc sc rl au ks F).2 r s m o fo oo'/\Req O S s m F (kD K fs rc sc rl au ks F).2 oo oo':=by
 have k:=a.lt;have ac:au.cs=[.int .i64 au.th,.sl au.ids.length (au.ids.flatMap sC)]:=rfl;have ab:AO.below 0 (.cells au.cs FZ)=true:=au.below;have zb:AO.below 0 (.cells [.int .i64 0,.int .i64 0,.nils,.nils,.nils,.int .i64 0,.nils,.int .i64 0,.str []] FZ)=true:=rfl;have ok1:Ok (O++[.cells au.cs FZ,.cells [.int .i64 0,.int .i64 0,.nils,.nils,.nils,.int .i64 0,.nils,.int .i64 0,.str []] FZ]):=hσ.plus (by grind)
 obtain⟨S,oo',q1,b,q⟩:=Tv H n hK hd hFo ok1 (a.app _) (by omega)
 obtain⟨sok,sfo,sln⟩:=Zf hK hd hFo sc;have cap:=fun O hσ=>aiY H.pin (kE K fs sc F).1.1 sok.small rl rc O hσ;have rcv:0<=rc/\rc<=65536:=by have:=a.caps.1;unfold YE at this;simpa using this
 have rP:kD K fs rc sc rl au ks F=(let s:=kE K fs sc F
  if s.1.2=0 then
   match vW s.1.1 rl with
   |none=>((Ol,1),s.2)
   |some p=>if p.length<0 then zX K fs rl au ks p rc s.2 else if rc<p.length then((Ol,3),s.2)else zX K fs rl au ks p p.length s.2
  else((Ol,s.1.2),s.2)):=rfl
 dsimp only at rP;rw[rP];clear rP;generalize kE K fs sc F=sp at*;obtain⟨⟨sv,c⟩,F1⟩:=sp;dsimp only at*;have kb:=b.lt;have qb:=q.base;have kp:∀i x,i<O.length+2->i≠r->i≠s->i≠m->i≠o->oo≠some i->(O++[.cells au.cs FZ,.cells [.int .i64 0,.int .i64 0,.nils,.nils,.nils,.int .i64 0,.nils,.int .i64 0,.str []] FZ])[i]?=some x->S[i]?=some x:=fun i x _ _ h2 h3 _ h5 e=>q.old i x h2 h3 h5 e;have sl2:O.length+2<=S.length:=by have:=q.len;simpa using this
 have x0:S[O.length]?=some (.cells au.cs FZ):=q.old _ _ (by have:=k.s;omega) (by have:=k.m;omega) (fun e=>by have:=k.oo _ e;omega) (by rw[aJ];rfl)
 have x1:S[O.length+1]?=some (.cells [.int .i64 0,.int .i64 0,.nils,.nils,.nils,.int .i64 0,.nils,.int .i64 0,.str []] FZ):=q.old _ _ (by have:=k.s;omega) (by have:=k.m;omega) (fun e=>by have:=k.oo _ e;omega) (by rw[bI];rfl)
 have oo1:oo'≠some O.length/\oo'≠some (O.length+1):=by
  refine⟨fun e=>?_,fun e=>?_⟩<;>rcases q.new _ e with e|e
  ·have:=k.oo _ e;omega
  ·grind
  ·have:=k.oo _ e;omega
  grind
 have Rc:=R.cs_is;have Sc:sv.cs=[.int .i64 sv.ver,.int .i64 sv.exp,.sl sv.pins.length (sv.pins.flatMap lH.cs)]:=rfl;have rp:=b.rp;unfold nH at rp;rw[Rc]at rp;simp only[a81,a99]at rp;have rpS:=fun L=>aA rp L;have run:=(WG (C:=C) (call:=aj C) (T:=TT) (f:=ik) (x:=iW) rfl (n+2) [.ref r 0,.str rl,.agg au.cs,.sl ks.length (ks.flatMap pC)] O).trans (acY (args1:=[.ref r 0,.str rl,.agg au.cs,.sl ks.length (ks.flatMap pC)]) (O1:=O) (by rfl) (acx (.cons (.str _) (.cons (WB au) (.cons (vJ ks) .nil))) _ _ _) (by rfl))
 by_cases hc0:c=0
 case neg=>
  rw[if_neg hc0];obtain⟨S',t1,t2,t3⟩:=qb.fin hσ a b [Be c] rfl;refine⟨S',oo',?_,t2,t3⟩;unfold VX at q1⊢;rw[if_neg hc0]at q1⊢;unfold Be at q1 t1⊢;rw[run];simp only[iW,q1,t1,yN,yw,DX,yQ,DV,yR,DW,rF,lD,lG,yJ,yI,DY,Wl,ZB,Wj,J8,MG,EZ,DR,vI,tH,tu,wC,yu,Pn,AV.cells,AV.flat,splice,EVX,seval]
 rw[if_pos hc0];unfold VX at q1;rw[if_pos hc0,Sc]at q1;have svb:AO.below 0 (.cells sv.cs FZ)=true:=sv.nvs.cl;have okS1:Ok (S++[.cells sv.cs FZ]):=q.ok.plus (by rw[a07,svb];rfl)
 have cp:=cap _ okS1;unfold Zc at cp;rw[Sc]at cp;have bad:∀e:Int,e≠0->ZQ (vW sv rl) rc=.tup [.agg lL,.int .i64 0,.int .u8 e]->∃S' oo',oO C (aj C) TT (n+3) ik [.ref r 0,.str rl,.agg au.cs,.sl ks.length (ks.flatMap pC)] O=some (.pan (Be e),S')/\bG S' h l R now rc sc nm fs F1 r s m o fo oo'/\Req O S' s m F F1 oo oo':=by
  intro e he hcap;rw[hcap]at cp;have zpb:AO.below 0 (.cells lL FZ)=true:=rfl;have okT:Ok (S++[.cells sv.cs FZ,.cells lL FZ]):=q.ok.plus (by grind)
  obtain⟨S',t1,t2,t3⟩:=(qb.more k.s okT (by simp) (fun i x hi e=>aA e _)).fin hσ a (b.app _) [Be e] rfl
  refine⟨S',oo',?_,t2,t3⟩;have he':(e !=0)=true:=by simpa using he
  rw[Sc]at t1;unfold Be lL at*;rw[run];simp only[iW,q1,cp,rpS,he',t1,aJ,iJ,yN,yw,DX,yQ,DV,yR,DW,rF,lD,lG,yJ,yI,DY,Wl,ZB,Wj,J8,MG,EZ,DR,vI,tH,tu,wC,yu,Pn,AV.cells,AV.flat,splice,EVX,seval]
 have good:∀(p:lH) (most:Int),vW sv rl=some p->(0<=most/\most<=65536)->ZQ (vW sv rl) rc=.tup [.agg p.cs,.int .i64 most,.int .u8 0]->∃S' oo',oO C (aj C) TT (n+3) ik [.ref r 0,.str rl,.agg au.cs,.sl ks.length (ks.flatMap pC)] O=some (VX (zX K fs rl au ks p most F1).1.2 (.agg (zX K fs rl au ks p most F1).1.1.cs),S')/\bG S' h l R now rc sc nm fs (zX K fs rl au ks p most F1).2 r s m o fo oo'/\Req O S' s m F (zX K fs rl au ks p most F1).2 oo oo':=by
  intro p most hp hm hcap;rw[hcap]at cp;obtain⟨pr,pm,_⟩:=Ru hp;have hph:=(sok.each p pm).1;have pb:AO.below 0 (.cells p.cs FZ)=true:=p.bel;have okS2:Ok (S++[.cells sv.cs FZ,.cells p.cs FZ]):=q.ok.plus (by grind)
  obtain⟨U,o2,g1,g2,g3⟩:=fetch_any H.toMadeHas H.sto H.file (n+1) rl most okS2 (b.app _) (by omega) hm pr
  have dl:(xB fs F1 (rl++vF) most).1.data.length<=LB:=NF hd sfo _ _;have e1:(zX K fs rl au ks p most F1).1=K.ro p au ks (xB fs F1 (rl++vF) most).1.data (xB fs F1 (rl++vF) most).1.size:=rfl;have e2:(zX K fs rl au ks p most F1).2=(xB fs F1 (rl++vF) most).2:=rfl;rw[e1,e2];have q2:=hK.ro p au ks _ (xB fs F1 (rl++vF) most).1.size U o hph ha hk dl g3.ok g2.ver;generalize xB fs F1 (rl++vF) most=g at*;generalize K.ro p au ks g.1.data g.1.size=tv at*;obtain⟨tv,d⟩:=tv;dsimp only at*;have ub:=g2.rp;unfold nH at ub;rw[Rc]at ub;simp only[a81,a99]at ub;have ubS:=fun L=>aA ub L;have kb2:s≠S.length+1/\m≠S.length+1/\oo'≠some (S.length+1):=⟨by have:=kb.s;omega,by have:=kb.m;omega,fun e=>by have:=kb.oo _ e;omega⟩
  have y0:U[O.length]?=some (.cells au.cs FZ):=g3.old _ _ (by have:=k.s;omega) (by have:=k.m;omega) oo1.1 (aA x0 _)
  have y1:=g3.old _ _ (by have:=k.s;omega) (by have:=k.m;omega) oo1.2 (aA x1 _)
  have y2:U[S.length+1]?=some (.cells p.cs FZ):=g3.old _ _ (Ne.symm kb2.1) (Ne.symm kb2.2.1) kb2.2.2 (by rw[bI];rfl)
  have tb:=IX tv;have qU:Req O U s m F g.2 oo o2:=(qb.more k.s okS2 (by simp) (fun i x hi e=>aA e _)).trans g3 k.s b.st.sm
  have pc:p.cs=[.str p.name,.int .i64 p.version,.int .i64 p.length,.sl p.hashes.length (p.hashes.flatMap pC)]:=rfl;have y0S:=fun L=>aA y0 L;have y2S:=fun L=>aA y2 L;have y1S:=fun L=>aA y1 L;have y1p:=fun L y=>dV y1 L y;rw[ac]at y0 y0S q2;have spT:splice [.int .i64 0,.int .i64 0,.nils,.nils,.nils,.int .i64 0,.nils,.int .i64 0,.str []] 0 tv.cs=tv.cs:=rfl;by_cases hd0:d=0
  ·subst hd0;have okT:Ok (U.set (O.length+1) (.cells tv.cs FZ)++[.cells tv.cs FZ]):=(Ok.set2 g3.ok _ (AO.below_mono (au3 _) _ tb)).plus (by rw[a07,tb];rfl)
   have ku:=g2.lt;have bT:bG (U.set (O.length+1) (.cells tv.cs FZ)) h l R now rc sc nm fs g.2 r s m o fo o2:=g2.moved fun i x hi e=>aI e (fun e'=>by
    subst e';rcases hi with e|e|e|e|e|e
    ·have:=k.r;omega
    ·have:=k.s;omega
    ·have:=k.m;omega
    ·have:=k.o;omega
    ·have:=k.fo _ e;omega
    ·rcases g3.new _ e with e|e
     ·exact oo1.2 e
     grind) _
   have qT:=qU.more k.s okT (by simp) (fun i x hi e=>aA (aI e (by omega) _) _)
   obtain⟨S',t1,t2,t3⟩:=qT.fin hσ a (bT.app _) [.agg tv.cs] (by rw[ai,below];rw[AO.below]at tb;rw[tb];rfl)
   refine⟨S',o2,?_,t2,t3⟩;have sg:=bC y1 (.cells tv.cs FZ);have sgL:=fun L=>aA sg L;rw[Sc]at g1;rw[pc]at g1 cp y2 y2S q2;rw[run];simp only[iW,q1,cp,rpS,g1,q2,ub,y0,y1S,y1p,y2,jK.len,jK.tk,jK.fl,aJ,iJ,VX,yN,yw,DX,yQ,DV,yR,DW,rF,lD,lG,yJ,yI,DY,Wl,ZB,Wj,J8,MG,EZ,DR,vI,tH,tu,wC,yu,Pn,AV.cells,AV.flat,splice,EVX,seval];rw[QV (vs:=[.agg tv.cs]) (by simp only[bg,sgL,jK.len,jK.tk,EVX,seval]) (.cons (.agg tv.nvs) .nil),t1]
   rfl
  ·have hd0':(d !=0)=true:=by simpa using hd0
   have okT:Ok (U++[.cells tv.cs FZ]):=g3.ok.plus (by rw[a07,tb];rfl)
   obtain⟨S',t1,t2,t3⟩:=(qU.more k.s okT (by simp) (fun i x hi e=>aA e _)).fin hσ a (g2.app _) [Be d] rfl
   refine⟨S',o2,?_,t2,t3⟩;rw[Sc]at g1;rw[pc]at g1 cp y2 y2S q2;unfold Be at t1;rw[run];simp only[iW,q1,cp,rpS,g1,q2,ub,y0,y2,jK.len,jK.fl,aJ,iJ,hd0',t1,VX,hd0,Be,yN,yw,DX,yQ,DV,yR,DW,rF,lD,lG,yJ,yI,DY,Wl,ZB,Wj,J8,MG,EZ,DR,vI,tH,tu,wC,yu,Pn,AV.cells,AV.flat,splice,EVX,seval]
 cases hp:vW sv rl with
 |none=>exact bad 1 (by decide) (by rw[hp];rfl)
 |some p=>
  by_cases c1:p.length<0
  ·simp only[c1,if_true]
   grind [ZQ]
  ·by_cases c2:rc<p.length
   ·simp only[c1,c2,if_true,if_false];exact bad 3 (by decide) (by rw[hp];simp[ZQ,c1,c2])
   ·simp only[c1,c2,if_false];exact good p p.length hp (by omega) (by rw[hp];simp[ZQ,c1,c2])
def YW{C h l R now K}(hK:JH C h l R now K){fs F}(hd:EK fs)(hFo:zF fs F)(rc sc:Int)(rl:LU)(au:fE)(ks:List PS)(ha:zG au.ids)(hk:Bh ks):(kD K fs rc sc rl au ks F).1.1.ok/\zF fs (kD K fs rc sc rl au ks F).2/\(kD K fs rc sc rl au ks F).2.length<=F.length+2/\((kD K fs rc sc rl au ks F).1.2≠0->(kD K fs rc sc rl au ks F).1.1=Ol):=by
 obtain⟨s1,s2,s3⟩:=Zf hK hd hFo sc;unfold kD;dsimp only;generalize kE K fs sc F=sp at*;obtain⟨⟨sv,c⟩,F1⟩:=sp;dsimp only at*;have q:∀p most,vW sv rl=some p->(zX K fs rl au ks p most F1).1.1.ok/\zF fs (zX K fs rl au ks p most F1).2/\(zX K fs rl au ks p most F1).2.length<=F.length+2/\((zX K fs rl au ks p most F1).1.2≠0->(zX K fs rl au ks p most F1).1.1=Ol):=fun p most hp=>
  ⟨hK.rook _ _ _ _ _ (s1.each p (Ru hp).2.1).1 ha hk (NF hd s2 _ _),(acv s2 _ _).1,by grind [ae9,zX],fun e=>hK.roz _ _ _ _ _ e⟩
 by_cases hc:c=0
 ·rw[if_pos hc];cases hp:vW sv rl with
  |none=>exact⟨TM,s2,by dsimp only;omega,fun _=>rfl⟩
  |some p=>
   dsimp only;by_cases c1:p.length<0
   ·rw[if_pos c1];exact q p _ hp
   ·rw[if_neg c1];by_cases c2:rc<p.length
    ·rw[if_pos c2];exact⟨TM,s2,by dsimp only;omega,fun _=>rfl⟩
    ·rw[if_neg c2];exact q p _ hp
 ·rw[if_neg hc];exact⟨TM,s2,by dsimp only;omega,fun _=>rfl⟩
def XQ{n0:Nat}{rs:List XR}{A:As}{O:St}{vs vs':LA}(h:bg A O rs=some vs)(hv:hand false vs O=some (vs',O)):Oz n0 rs A O=some (bK vs',tidy n0 vs' O):=by
 unfold Oz;rw[h];dsimp only;rw[hv]
def abW (H:TU C) (n:Nat) {h l R now rc sc nm fs F r s m o fo oo K} (hK:JH C h l R now K) (hd:EK fs) (hFo:zF fs F) {O:St} (hσ:Ok O) (a:bG O h l R now rc sc nm fs F r s m o fo oo) (hF:F.length<1000000):
  ∃S oo',zC C (aj C) (oO C (aj C) TT (n+2)) eU dL [.ref r 0] O=some (.tup [.agg (kE K fs sc F).1.1.cs,.int .u8 (kE K fs sc F).1.2],S)/\bG S h l R now rc sc nm fs (kE K fs sc F).2 r s m o fo oo'/\Req O S s m F (kE K fs sc F).2 oo oo':=by
 have k:=a.lt;have ok1:Ok (O++[.cells [.int .i64 0,.int .i64 0,.nils] FZ,.cells [.int .u8 0] FZ]):=hσ.plus rfl;obtain⟨S,oo',q1,b,q⟩:=Tv H n hK hd hFo ok1 (a.app _) hF;have sz:(kE K fs sc F).1.2≠0->(kE K fs sc F).1.1=Wq:=hK.snz _ _;generalize kE K fs sc F=sp at*;obtain⟨⟨sv,c⟩,F1⟩:=sp;dsimp only at*;have kb:=b.lt;have qb:=q.base;have x0:S[O.length]?=some (.cells [.int .i64 0,.int .i64 0,.nils] FZ):=q.old _ _ (by have:=k.s;omega) (by have:=k.m;omega) (fun e=>by have:=k.oo _ e;omega) (by rw[aJ];rfl)
 have x1:S[O.length+1]?=some (.cells [.int .u8 0] FZ):=q.old _ _ (by have:=k.s;omega) (by have:=k.m;omega) (fun e=>by have:=k.oo _ e;omega) (by rw[bI];rfl)
 have oo1:∀i,i<2->oo'≠some (O.length+i):=by
  intro i hi e;rcases q.new _ e with e|e
  ·have:=k.oo _ e;omega
  grind
 have Sc:sv.cs=[.int .i64 sv.ver,.int .i64 sv.exp,.sl sv.pins.length (sv.pins.flatMap lH.cs)]:=rfl;have svb:AO.below 0 (.cells sv.cs FZ)=true:=sv.nvs.cl;have fin:∀(cs:LA) (d:Int),ai 0 cs=true->∃S',tidy O.length [.agg sv.cs,.int .u8 c] ((S.set O.length (.cells cs FZ)).set (O.length+1) (.cells [.int .u8 d] FZ))=S'/\bG S' h l R now rc sc nm fs F1 r s m o fo oo'/\Req O S' s m F F1 oo oo':=by
  intro cs d hcs;have okT:Ok ((S.set O.length (.cells cs FZ)).set (O.length+1) (.cells [.int .u8 d] FZ)):=Ok.set2 (Ok.set2 q.ok _ (by rw[AO.below];exact aP (au3 _) _ hcs)) _ rfl
  have bT:bG ((S.set O.length (.cells cs FZ)).set (O.length+1) (.cells [.int .u8 d] FZ)) h l R now rc sc nm fs F1 r s m o fo oo':=b.moved fun i x hi e=>by
   have:∀j,j<2->i≠O.length+j:=fun j hj e'=>by
    subst e';rcases hi with e|e|e|e|e|e
    ·have:=k.r;omega
    ·have:=k.s;omega
    ·have:=k.m;omega
    ·have:=k.o;omega
    ·have:=k.fo _ e;omega
    ·exact oo1 j hj e
   exact aI (aI e (this 0 (by decide)) _) (this 1 (by decide)) _
  have qT:=qb.more k.s okT (by simp) (fun i x hi e=>aI (aI e (by omega) _) (by omega) _)
  exact qT.fin hσ a bT _ (by rw[ai,below];rw[AO.below]at svb;rw[svb];rfl)
 have g0:=fun(y:AO) (z:AO)=>aI (bC x0 y) (by omega:O.length≠O.length+1) z
 have g1:=fun(y:AO) (z:AO)=>bC (aI x1 (by omega:O.length+1≠O.length) y) z
 have g2:=fun(y:AO)=>aI x1 (by omega:O.length+1≠O.length) y
 have c1:=aeJ (C:=C) (call:=aj C) (ct:=oO C (aj C) TT (n+2)) (x:=eU) (k:=dL) (K:=nJ) rfl (by rfl) (args:=[.ref r 0]) (O:=O) (args1:=[.ref r 0]) (O1:=O) rfl rfl
 rw[c1];by_cases hc0:c=0
 ·subst hc0;unfold VX at q1;rw[if_pos rfl,Sc]at q1;obtain⟨S',t1,t2,t3⟩:=fin sv.cs 0 (by rw[AO.below]at svb;exact svb)
  refine⟨S',oo',?_,t2,t3⟩;rw[Sc]at t1;unfold NQ;simp only[eU,dL,nJ,q1,x0,g2,thrown,yN,yw,DX,yQ,DV,yR,DW,rF,lD,lG,yJ,yI,DY,Wl,ZB,Wj,J8,MG,EZ,DR,vI,tH,tu,wC,yu,Pn,AV.cells,AV.flat,splice,EVX,seval];refine(QV (vs:=[.agg sv.cs,.int .u8 0]) ?_ (.cons (.agg sv.nvs) (.cons (.int _ _) .nil))).trans ?_
  ·rw[Sc];simp only[bg,g0,g1,EVX,seval]
  ·rw[Sc,t1];rfl
 ·have hc0':(c !=0)=true:=by simpa using hc0
  unfold VX at q1;rw[if_neg hc0]at q1;obtain⟨S',t1,t2,t3⟩:=fin [.int .i64 0,.int .i64 0,.nils] c rfl;have sv0:=sz hc0;subst sv0;refine⟨S',oo',?_,t2,t3⟩;have cc:∀Y,Ok Y->J6 (oO C (aj C) TT (n+2)) oP [Be c] Y=some (.int .u8 c,Y):=fun Y hτ=>ais (C:=C) (caught_is (n+1) c hτ);have cS:=cc S q.ok;have z9:Wq.cs=[.int .i64 0,.int .i64 0,.sl 0 []]:=rfl;rw[z9]at t1⊢;unfold Be at*;unfold NQ;simp only[eU,dL,nJ,q1,x0,g2,cS,thrown,yN,yw,DX,yQ,DV,yR,DW,rF,lD,lG,yJ,yI,DY,Wl,ZB,Wj,J8,MG,EZ,DR,vI,tH,tu,wC,yu,Pn,AV.cells,AV.flat,splice,EVX,seval];refine(XQ (vs:=[.agg [.int .i64 0,.int .i64 0,.nils],.int .u8 c]) (vs':=[.agg [.int .i64 0,.int .i64 0,.sl 0 []],.int .u8 c]) ?_ rfl).trans ?_
  ·simp only[bg,g0,g1,EVX,seval]
  ·rw[t1];rfl
def akf (H:TU C) (n:Nat) {h l R now rc sc nm fs F r s m o fo oo K} (hK:JH C h l R now K) (hd:EK fs) (hFo:zF fs F) {O:St} (hσ:Ok O) (a:bG O h l R now rc sc nm fs F r s m o fo oo) (hF:F.length+1<1000000) (rl:LU) (au:fE) (ks:List PS) (ha:zG au.ids) (hk:Bh ks):
  ∃S oo',zC C (aj C) (oO C (aj C) TT (n+3)) iU gy [.ref r 0,.str rl,.agg au.cs,.sl ks.length (ks.flatMap pC)] O=some (.tup [.agg (kD K fs rc sc rl au ks F).1.1.cs,.int .u8 (kD K fs rc sc rl au ks F).1.2],S)/\bG S h l R now rc sc nm fs (kD K fs rc sc rl au ks F).2 r s m o fo oo'/\Req O S s m F (kD K fs rc sc rl au ks F).2 oo oo':=by
 have k:=a.lt;have ac:au.cs=[.int .i64 au.th,.sl au.ids.length (au.ids.flatMap sC)]:=rfl;have ab:AO.below 0 (.cells au.cs FZ)=true:=au.below;have zb:AO.below 0 (.cells [.int .i64 0,.int .i64 0,.nils,.nils,.nils,.int .i64 0,.nils,.int .i64 0,.str []] FZ)=true:=rfl;have ok1:Ok (O++[.cells au.cs FZ,.cells [.int .i64 0,.int .i64 0,.nils,.nils,.nils,.int .i64 0,.nils,.int .i64 0,.str []] FZ,.cells [.int .u8 0] FZ]):=hσ.plus (by simp only[a07,aw0,ab,zb];rfl)
 obtain⟨S,oo',q1,b,q⟩:=afk H n hK hd hFo ok1 (a.app _) hF rl au ks ha hk;have sz:=(YW hK hd hFo rc sc rl au ks ha hk).2.2.2;generalize kD K fs rc sc rl au ks F=sp at*;obtain⟨⟨tv,c⟩,F1⟩:=sp;dsimp only at*;have kb:=b.lt;have qb:=q.base;have x1:S[O.length+1]?=some (.cells [.int .i64 0,.int .i64 0,.nils,.nils,.nils,.int .i64 0,.nils,.int .i64 0,.str []] FZ):=q.old _ _ (by have:=k.s;omega) (by have:=k.m;omega) (fun e=>by have:=k.oo _ e;omega) (by rw[bI];rfl)
 have x2:S[O.length+2]?=some (.cells [.int .u8 0] FZ):=q.old _ _ (by have:=k.s;omega) (by have:=k.m;omega) (fun e=>by have:=k.oo _ e;omega) (by rw[bI];rfl)
 have oo1:∀i,i<3->oo'≠some (O.length+i):=by
  intro i hi e;rcases q.new _ e with e|e
  ·have:=k.oo _ e;omega
  grind
 have tb:=IX tv;have fin:∀(cs:LA) (d:Int),ai 0 cs=true->∃S',tidy O.length [.agg tv.cs,.int .u8 c] ((S.set (O.length+1) (.cells cs FZ)).set (O.length+2) (.cells [.int .u8 d] FZ))=S'/\bG S' h l R now rc sc nm fs F1 r s m o fo oo'/\Req O S' s m F F1 oo oo':=by
  intro cs d hcs;have okT:Ok ((S.set (O.length+1) (.cells cs FZ)).set (O.length+2) (.cells [.int .u8 d] FZ)):=Ok.set2 (Ok.set2 q.ok _ (by rw[AO.below];exact aP (au3 _) _ hcs)) _ rfl
  have bT:bG ((S.set (O.length+1) (.cells cs FZ)).set (O.length+2) (.cells [.int .u8 d] FZ)) h l R now rc sc nm fs F1 r s m o fo oo':=b.moved fun i x hi e=>by
   have:∀j,j<3->i≠O.length+j:=fun j hj e'=>by
    subst e';rcases hi with e|e|e|e|e|e
    ·have:=k.r;omega
    ·have:=k.s;omega
    ·have:=k.m;omega
    ·have:=k.o;omega
    ·have:=k.fo _ e;omega
    ·exact oo1 j hj e
   exact aI (aI e (this 1 (by decide)) _) (this 2 (by decide)) _
  have qT:=qb.more k.s okT (by simp) (fun i x hi e=>aI (aI e (by omega) _) (by omega) _)
  exact qT.fin hσ a bT _ (by rw[ai,below];rw[AO.below]at tb;rw[tb];rfl)
 have g0:=fun(y:AO) (z:AO)=>aI (bC x1 y) (by omega:O.length+1≠O.length+2) z
 have g1:=fun(y:AO) (z:AO)=>bC (aI x2 (by omega:O.length+2≠O.length+1) y) z
 have g2:=fun(y:AO)=>aI x2 (by omega:O.length+2≠O.length+1) y
 have spT:splice [.int .i64 0,.int .i64 0,.nils,.nils,.nils,.int .i64 0,.nils,.int .i64 0,.str []] 0 tv.cs=tv.cs:=rfl;have c1:=aeJ (C:=C) (call:=aj C) (ct:=oO C (aj C) TT (n+3)) (x:=iU) (k:=gy) (K:=rQ) rfl (by rfl) (args:=[.ref r 0,.str rl,.agg au.cs,.sl ks.length (ks.flatMap pC)]) (O:=O) (args1:=[.ref r 0,.str rl,.agg au.cs,.sl ks.length (ks.flatMap pC)]) (O1:=O) (acx (.cons (.str _) (.cons (WB au) (.cons (vJ ks) .nil))) _ _ _) rfl
 rw[c1];rw[ac]at q1⊢;by_cases hc0:c=0
 ·subst hc0;unfold VX at q1;rw[if_pos rfl]at q1;obtain⟨S',t1,t2,t3⟩:=fin tv.cs 0 (by rw[AO.below]at tb;exact tb)
  refine⟨S',oo',?_,t2,t3⟩;unfold NQ;simp only[iU,gy,rQ,q1,x1,g2,jK.len,jK.fl,thrown,aJ,yN,yw,DX,yQ,DV,yR,DW,rF,lD,lG,yJ,yI,DY,Wl,ZB,Wj,J8,MG,EZ,DR,vI,tH,tu,wC,yu,Pn,AV.cells,AV.flat,splice,EVX,seval];refine(QV (vs:=[.agg tv.cs,.int .u8 0]) ?_ (.cons (.agg tv.nvs) (.cons (.int _ _) .nil))).trans ?_
  ·simp only[bg,g0,g1,jK.len,jK.tk,EVX,seval]
  ·rw[t1];rfl
 ·have hc0':(c !=0)=true:=by simpa using hc0
  unfold VX at q1;rw[if_neg hc0]at q1;obtain⟨S',t1,t2,t3⟩:=fin [.int .i64 0,.int .i64 0,.nils,.nils,.nils,.int .i64 0,.nils,.int .i64 0,.str []] c rfl;have sv0:=sz hc0;subst sv0;refine⟨S',oo',?_,t2,t3⟩;have cc:∀Y,Ok Y->J6 (oO C (aj C) TT (n+3)) oP [Be c] Y=some (.int .u8 c,Y):=fun Y hτ=>ais (C:=C) (caught_is (n+2) c hτ);have cS:=cc S q.ok;have z9:Ol.cs=[.int .i64 0,.int .i64 0,.sl 0 [],.sl 0 [],.sl 0 [],.int .i64 0,.sl 0 [],.int .i64 0,.str []]:=rfl;rw[z9]at t1⊢;unfold Be at*;unfold NQ;simp only[iU,gy,rQ,q1,x1,g2,cS,thrown,aJ,yN,yw,DX,yQ,DV,yR,DW,rF,lD,lG,yJ,yI,DY,Wl,ZB,Wj,J8,MG,EZ,DR,vI,tH,tu,wC,yu,Pn,AV.cells,AV.flat,splice,EVX,seval];refine(XQ (vs:=[.agg [.int .i64 0,.int .i64 0,.nils,.nils,.nils,.int .i64 0,.nils,.int .i64 0,.str []],.int .u8 c]) (vs':=[.agg [.int .i64 0,.int .i64 0,.sl 0 [],.sl 0 [],.sl 0 [],.int .i64 0,.sl 0 [],.int .i64 0,.str []],.int .u8 c]) ?_ rfl).trans ?_
  ·simp only[bg,g0,g1,EVX,seval]
  ·rw[t1];rfl
structure fQ where
 kind:Int
 name:LU
 auth:fE
 keys:List PS
def fQ.cs(a:fQ):LA:=[.int .u8 a.kind,.str a.name,.int .i64 a.auth.th,.sl a.auth.ids.length (a.auth.ids.flatMap sC),.sl a.keys.length (a.keys.flatMap pC)]
theorem fQ.len(a:fQ):a.cs.length=5:=rfl
theorem fQ.nvs(a:fQ):NVs a.cs:=.cons (.int _ _) (.cons (.str _) (.cons (.int _ _) (.cons (G5 _) (.cons (vJ _) .nil))))
def WA(l:List fQ):NV (.sl l.length (l.flatMap fQ.cs)):=.sl _ (fK (fun a=>a.nvs.cl) l)
def xO(l:List fQ):AV:=.sl l.length (l.flatMap fQ.cs)
def lsN:List PS->Nat->Nat
 |[],n=>n
 |h::l,n=>if n<40000 then lsN l (n+50+min 40000 h.1.length+min 40000 h.2.length)else n
def alW:∀(l:List PS) (n:Nat),n<=lsN l n
 |[],n=>a06 _
 |h::l,n=>by
  unfold lsN;split
  ·exact ax8 (by omega) (alW l _)
  ·exact a06 _
def Uu:∀(l:List PS) (n:Nat),lsN l n<40000->n+50*l.length<=lsN l n/\∀x∈l,x.1.length<40000/\x.2.length<40000
 |[],n,h=>⟨by simp[lsN],fun s hs=>by cases hs⟩
 |p::l,n,h=>by
  unfold lsN at*;split at h
  ·next hn=>
   rw[if_pos hn];have a:=alW l (n+50+min 40000 p.1.length+min 40000 p.2.length);have b:=Uu l _ h;refine⟨by simp only[a09];omega,fun t ht=>?_⟩
   rcases av3.mp ht with rfl|ht
   ·omega
   ·exact b.2 t ht
  ·omega
def PQ(nm data:LU)(fs:List PS):Bool:=decide (40000<=lsN fs (min 40000 data.length+min 40000 nm.length))
def VM{nm data:LU}{fs:List PS}(h:PQ nm data fs=false):fs.length<=1000/\data.length<=LB/\∀x∈fs,x.2.length<=LB:=by
 have h:lsN fs (min 40000 data.length+min 40000 nm.length)<40000:=Nat.not_le.mp (of_decide_eq_false h);have a:=Uu fs _ h;have lb:40000<=LB:=by simp only[LB];omega
 generalize LB=B at*;exact⟨by omega,by omega,fun x hx=>by have:=a.2 x hx;omega⟩
def asJ(b:Int)(a:Int):WS false (.int .i64 b) (.int .i64 a)=some (.int .i64 (if a<b then a else b)):=rfl
def ai6(a:Nat):WS false (.int .i64 40000) (.int .i64 (a:Int))=some (.int .i64 ((min 40000 a:Nat):Int)):=by
 rw[asJ];have:(if(a:Int)<40000 then(a:Int)else 40000)=((min 40000 a:Nat):Int):=by split<;>omega
 rw[this]
def Ku (nm data:LU) (fs:List PS) (O:St):∀(n i acc:Nat),i+n=fs.length->acc<=200000->(acc<40000->50*i<=acc)->
  aH C (aj C) 47 [1,3,4] dY [(1,.ref O.length 0),(3,.int .i64 acc),(4,.int .i64 i)] (O++[.cells [.str nm,.str data,.sl fs.length (fs.flatMap pC)] FZ])=some (.exit 0,[(3,.int .i64 (lsN (fs.drop i) acc:Nat))],O++[.cells [.str nm,.str data,.sl fs.length (fs.flatMap pC)] FZ])
 |0,i,acc,hi,ha,hb=>by
  rw[aB (he:=rfl)];have h:¬((i:Int)<(fs.length:Int)):=by omega
  have h':fs.drop i=[]:=au5 (by omega)
  simp only[dY,h,h',lsN,aY,aJ,EVX,seval]
 |n+1,i,acc,hi,ha,hbb=>by
  rw[aB (he:=rfl)];have h:((i:Int)<(fs.length:Int)):=by omega
  have h2:i<fs.length:=by omega
  have hb:fs[i]?=some fs[i]:=a01 h2;have h':fs.drop i=fs[i]::fs.drop (i+1):=au1 h2;have h3:(0:Int)<=i:=by omega
  have fl:=aU tJ fs;have fd:=fB tJ hb;obtain⟨p,hpe⟩:∃p,p=fs[i]:=⟨_,rfl⟩;rw[<-hpe]at fd h';have pc:pC p=[.str p.1,.str p.2]:=rfl;rw[h',lsN];by_cases hc:acc<40000
  ·have hc':((acc:Int)<40000):=by omega
   have hw:=wrS i (by omega)
   have w1:IntKind.i64.wrap ((acc:Int)+50)=((acc+50:Nat):Int):=wrE (by omega)
   have w2:IntKind.i64.wrap (((acc+50:Nat):Int)+((min 40000 p.1.length:Nat):Int))=((acc+50+min 40000 p.1.length:Nat):Int):=wrE (by omega)
   have w3:IntKind.i64.wrap (((acc+50+min 40000 p.1.length:Nat):Int)+((min 40000 p.2.length:Nat):Int))=((acc+50+min 40000 p.1.length+min 40000 p.2.length:Nat):Int):=wrE (by omega)
   have ih:=Ku nm data fs O n (i+1) (acc+50+min 40000 p.1.length+min 40000 p.2.length) (by omega) (by omega) (by omega)
   rw[if_pos hc,<-ih];generalize hk:aH C (aj C) 47 [1,3,4] dY=k at*;simp only[dY,h,h2,h3,hc',hw,w1,w2,w3,ai6,fl,fd,pc,aY,a81,aJ,EVX,seval]
  ·have hc':¬((acc:Int)<40000):=by omega
   rw[if_neg hc];simp only[dY,h,hc',aY,aJ,EVX,seval]
def JY(hC:Has C sO su)(nm data:LU)(fs:List PS)(O:St)(hσ:Ok O):aj C sO [.agg [.str nm,.str data,.sl fs.length (fs.flatMap pC)]] O=some (.bool (PQ nm data fs),O):=by
 rw[hC.go (NVs.hand (.cons (.agg (.cons (.str _) (.cons (.str _) (.cons (vJ _) .nil)))) .nil) _)];have lp:=Ku (C:=C) nm data fs O fs.length 0 (min 40000 data.length+min 40000 nm.length) (by omega) (by omega) (by omega)
 simp only[a97,au7]at lp;have ty:=fun b=>bY hσ (vs:=[.bool b]) rfl;have w1:IntKind.i64.wrap (((min 40000 data.length:Nat):Int)+((min 40000 nm.length:Nat):Int))=((min 40000 data.length+min 40000 nm.length:Nat):Int):=wrE (by omega)
 have e:decide ((40000:Int)<=(lsN fs (min 40000 data.length+min 40000 nm.length):Int))=PQ nm data fs:=by unfold PQ;rw[aC2];simp;omega
 simp only[su,lp,e,ty,ai6,w1,aY,aJ,AV.cells,EVX,seval]
def Ua(l:List fQ):LA:=[.sl l.length (l.flatMap fQ.cs)]
def Ia(l:List fQ):(Ua l).length=1:=rfl
def akq(L:List (List fQ)):NVs (L.flatMap Ua):=fun v hv=>by
 obtain⟨a,_,ha⟩:=aC8.mp hv;rw[Ua,aB7]at ha;rw[ha];exact WA a
def SC(a:fQ):Bool:=decide (300<a.name.length)||(Yz [a.auth]||Ut a.keys)
def Ij(l:List fQ):Bool:=decide (12<l.length)||l.any SC
structure Qm(C:Ctx):Prop where
 store:Has C sO su
 verd:Has C pM kL
 auth:Has C uI yU
 keys:Has C uJ oG
 lng:Has C zi EN
def aaY (H:Qm C) (L:List (List fQ)) (m:Nat) (l:List fQ) (hm:L[m]?=some l) (hl:l.length<=12) (O:St):∀(n i:Nat),i+n=l.length->
  aH C (aj C) 69 [1,5,6] fV [(1,.sl L.length (L.flatMap Ua)),(5,.int .i64 m),(6,.int .i64 i)] O=if(l.drop i).any SC then some (.ret,[(4,.bool true)],O)else some (.exit 2,[(1,.sl L.length (L.flatMap Ua)),(5,.int .i64 m)],O)
 |0,i,hi=>by
  rw[aB (he:=rfl)];have hml:m<L.length:=(a00.mp hm).1;have h:¬((i:Int)<(l.length:Int)):=by omega
  have h':l.drop i=[]:=au5 (by omega)
  have h0:(0:Int)<=m:=by omega
  have fl:=aU Ia L;have fd:=fB Ia hm;rw[av7]at fl fd;have pc:Ua l=[.sl l.length (l.flatMap fQ.cs)]:=rfl;simp only[fV,h,h',h0,hml,fl,fd,pc,List.any_nil,aY,av7,EVX,seval]
 |n+1,i,hi=>by
  rw[aB (he:=rfl)];have hml:m<L.length:=(a00.mp hm).1;have h:((i:Int)<(l.length:Int)):=by omega
  have h2:i<l.length:=by omega
  have hb:l[i]?=some l[i]:=a01 h2;have h':l.drop i=l[i]::l.drop (i+1):=au1 h2;have h0:(0:Int)<=m:=by omega
  have h3:(0:Int)<=i:=by omega
  have fl:=aU Ia L;have fd:=fB Ia hm;rw[av7]at fl fd;have pc:Ua l=[.sl l.length (l.flatMap fQ.cs)]:=rfl;have fi:=aU fQ.len l;have fe:=fB fQ.len hb;obtain⟨a,hae⟩:∃a,a=l[i]:=⟨_,rfl⟩;rw[<-hae]at fe h';have ac:a.cs=[.int .u8 a.kind,.str a.name,.int .i64 a.auth.th,.sl a.auth.ids.length (a.auth.ids.flatMap sC),.sl a.keys.length (a.keys.flatMap pC)]:=rfl;have q2:∀Y,aj C uI [.xsl 1 [.int .i64 a.auth.th,.sl a.auth.ids.length (a.auth.ids.flatMap sC)]] Y=some (.bool (Yz [a.auth]),Y):=fun Y=>agl H.auth [a.auth] (by simp) Y
  have q3:=fun Y=>Yr H.keys a.keys Y;have hw:=wrS i (by omega)
  have ih:=aaY H L m l hm hl O n (i+1) (by omega)
  rw[h',List.any_cons,SC];generalize hk:aH C (aj C) 69 [1,5,6] fV=k at*;by_cases c:300<a.name.length
  ·have c':(300:Int)<(a.name.length:Int):=by omega
   simp only[fV,h,h2,h3,h0,hml,c,c',fl,fd,fi,fe,pc,ac,aY,av7,ay9,EVX,seval]
  ·have c':¬(300:Int)<(a.name.length:Int):=by omega
   cases c1:Yz [a.auth]<;>cases c2:Ut a.keys<;>simp only[c1,c2]at q2 q3<;>simp only[fV,h,h2,h3,h0,hml,hw,c,c',q2,q3,ih,fl,fd,fi,fe,pc,ac,aY,av7,ay9,Bool.false_or,EVX,seval]
def Yy (H:Qm C) (L:List (List fQ)) (hL:L.length<=100) (O:St):∀(n m:Nat),m+n=L.length->
  aH C (aj C) 69 [1,5] fZ [(1,.sl L.length (L.flatMap Ua)),(5,.int .i64 m)] O=if(L.drop m).any Ij then some (.ret,[(4,.bool true)],O)else some (.exit 0,[],O)
 |0,m,hi=>by
  rw[aB (he:=rfl)];have h:¬((m:Int)<(L.length:Int)):=by omega
  have h':L.drop m=[]:=au5 (by omega)
  simp only[fZ,h,h',List.any_nil,aY,EVX,seval]
 |n+1,m,hi=>by
  rw[aB (he:=rfl)];have h:((m:Int)<(L.length:Int)):=by omega
  have h2:m<L.length:=by omega
  have hb:L[m]?=some L[m]:=a01 h2;have h':L.drop m=L[m]::L.drop (m+1):=au1 h2;have hw:=wrS m (by omega)
  have h0:(0:Int)<=m:=by omega
  have fl:=aU Ia L;have fd:=fB Ia hb;rw[av7]at fl fd;obtain⟨l,hae⟩:∃a,a=L[m]:=⟨_,rfl⟩;rw[<-hae]at h' hb fd;have pc:Ua l=[.sl l.length (l.flatMap fQ.cs)]:=rfl;have ih:=Yy H L hL O n (m+1) (by omega)
  rw[h',List.any_cons,Ij];by_cases c:12<l.length
  ·have c':(12:Int)<(l.length:Int):=by omega
   generalize hk:aH C (aj C) 69 [1,5] fZ=k at*;simp only[fZ,h,h2,h0,c,c',fl,fd,pc,aY,av7,ay9,EVX,seval]
  ·have c':¬(12:Int)<(l.length:Int):=by omega
   have lp:=aaY H L m l hb (by omega) O l.length 0 (by omega)
   simp only[a97,au7]at lp;generalize hk:aH C (aj C) 69 [1,5] fZ=k at*;cases c2:l.any SC<;>rw[c2]at lp<;>simp only[fZ,h,h2,h0,hw,c,c',lp,ih,fl,fd,pc,aY,av7,ay9,Bool.false_or,EVX,seval]
def SE(c:jH)(L:List (List fQ)):Bool:=PQ c.nm c.data c.fs||(wO c.l||L.any Ij)
def aeo(H:Qm C)(c:jH)(L:List (List fQ))(hL:L.length<=100)(O:St)(hσ:Ok O)(v:AV)(hn:hand false [.agg c.cs,v] O=some ([.agg c.cs,.sl L.length (L.flatMap Ua)],O)):aj C zi [.agg c.cs,v] O=some (.bool (SE c L),O):=by
 rw[H.lng.go hn];have cb:AO.below 0 (.cells c.cs FZ)=true:=c.nvs.cl;have ok1:Ok (O++[.cells c.cs FZ]):=hσ.plus (by rw[a07,cb];rfl)
 have ty:=fun b=>bY hσ (vs:=[.bool b]) rfl;have ce:c.cs=[.str c.nm,.str c.data,.sl c.fs.length (c.fs.flatMap pC),.bool c.h,.sl c.l.length (c.l.flatMap iy.cs),.int .i64 c.now,.int .i64 c.b0,.int .i64 c.b1,.int .i64 c.rc,.int .i64 c.sc]:=rfl;have q1:=JY H.store c.nm c.data c.fs _ ok1;have q2:=PO H.verd c.l;have lp:=fun Y=>Yy H L hL Y L.length 0 (by omega)
 simp only[a97,au7]at lp;rw[ce]at q1⊢;unfold SE;cases c1:PQ c.nm c.data c.fs<;>cases c2:wO c.l<;>cases c3:L.any Ij<;>simp only[c1,c2,c3]at q1 q2 lp<;>simp only[EN,q1,q2,lp,ty,aJ,AV.cells,ay9,Bool.false_or,EVX,seval]
def Yu(H:Qm C)(c:jH)(L:List (List fQ))(hL:L.length<=100)(O:St)(hσ:Ok O):aj C zi [.agg c.cs,.xsl L.length (L.flatMap Ua)] O=some (.bool (SE c L),O):=
 aeo H c L hL O hσ _ (by
  rw[oK,aO,(NV.agg c.nvs).nf,aO,amf,(akq L).nf,vX];rfl)
end Go.Ev
namespace Go.Ev
set_option maxRecDepth 100000
variable{C C1:Ctx}
def Req.close {O L S T:St} {h l R now rc sc nm fs F F' r s m o fo oo oo'} (hσ:Ok O) (a:bG O h l R now rc sc nm fs F r s m o fo oo) (q:Req (O++L) S s m F F' oo oo') (b:bG S h l R now rc sc nm fs F' r s m o fo oo') (okT:Ok T) (hl:S.length<=T.length) (hT:∀i x,S[i]?=some x->(i<O.length\/O.length+L.length<=i)->T[i]?=some x) (vs:LA) (hv:ai 0 vs=true):
  ∃S',tidy O.length vs T=S'/\bG S' h l R now rc sc nm fs F' r s m o fo oo'/\Req O S' s m F F' oo oo':=by
 have k:=a.lt;have bT:bG T h l R now rc sc nm fs F' r s m o fo oo':=b.moved fun i x hi e=>hT i x e (by
  rcases hi with rfl|rfl|rfl|rfl|e|e
  ·exact .inl k.r
  ·exact .inl k.s
  ·exact .inl k.m
  ·exact .inl k.o
  ·exact .inl (k.fo _ e)
  ·rcases q.new _ e with e|e
   ·exact .inl (k.oo _ e)
   ·exact .inr (by simpa using e))
 exact(q.base.more k.s okT hl (fun i x hi e=>hT i x e (.inl hi))).fin hσ a bT vs hv
def Req.kept{O L S:St}{h l R now rc sc nm fs F F' r s m o fo oo oo'}(a:bG O h l R now rc sc nm fs F r s m o fo oo)(q:Req (O++L) S s m F F' oo oo')(i:Nat){x:AO}(hx:L[i]?=some x):S[O.length+i]?=some x:=by
 have k:=a.lt;exact q.old _ _ (by have:=k.s;omega) (by have:=k.m;omega) (fun e=>by have:=k.oo _ e;omega) (by rw[bI];exact hx)
structure Ae(C C1:Ctx):Prop where
 req:TU C1
 snap:∀a O v,zC C1 (aj C1) (oO C1 (aj C1) TT 8) eU dL a O=some v->aj C nC a O=some v
 role:∀a O v,zC C1 (aj C1) (oO C1 (aj C1) TT 8) iU gy a O=some v->aj C sS a O=some v
 made:Has C jW lN
 targets:Has C Ec D7
structure CaseOk(C1:Ctx)(h:Bool)(l:List iy)(R:kC)(now:Int)(K:yh)(fs:List PS):Prop where
 chk:JH C1 h l R now K
 root:R.ok
 data:EK fs
def adv (H:Ae C C1) {h l R now rc sc nm fs F r s m o fo oo K} (hK:CaseOk C1 h l R now K fs) (hFo:zF fs F) {O:St} (hσ:Ok O) (a:bG O h l R now rc sc nm fs F r s m o fo oo) (hF:F.length<1000000):
  ∃S oo',aj C nC [.ref r 0] O=some (.tup [.agg (kE K fs sc F).1.1.cs,.int .u8 (kE K fs sc F).1.2],S)/\bG S h l R now rc sc nm fs (kE K fs sc F).2 r s m o fo oo'/\Req O S s m F (kE K fs sc F).2 oo oo':=by
 obtain⟨S,oo',q1,q2,q3⟩:=abW H.req 6 hK.chk hK.data hFo hσ a hF;exact⟨S,oo',H.snap _ _ _ q1,q2,q3⟩
def ahe (H:Ae C C1) {h l R now rc sc nm fs F r s m o fo oo K} (hK:CaseOk C1 h l R now K fs) (hFo:zF fs F) {O:St} (hσ:Ok O) (a:bG O h l R now rc sc nm fs F r s m o fo oo) (hF:F.length+1<1000000) (rl:LU) (au:fE) (ks:List PS) (ha:zG au.ids) (hk:Bh ks):
  ∃S oo',aj C sS [.ref r 0,.str rl,.agg au.cs,.sl ks.length (ks.flatMap pC)] O=some (.tup [.agg (kD K fs rc sc rl au ks F).1.1.cs,.int .u8 (kD K fs rc sc rl au ks F).1.2],S)/\bG S h l R now rc sc nm fs (kD K fs rc sc rl au ks F).2 r s m o fo oo'/\Req O S s m F (kD K fs rc sc rl au ks F).2 oo oo':=by
 obtain⟨S,oo',q1,q2,q3⟩:=akf H.req 5 hK.chk hK.data hFo hσ a hF rl au ks ha hk;exact⟨S,oo',H.role _ _ _ q1,q2,q3⟩
def MB:LU:=[116,97,114,103,101,116,115]
def afD (H:Ae C C1) {h l R now rc sc nm fs F r s m o fo oo K} (hK:CaseOk C1 h l R now K fs) (hFo:zF fs F) {O:St} (hσ:Ok O) (a:bG O h l R now rc sc nm fs F r s m o fo oo) (hF:F.length+1<1000000):
  ∃S oo',aj C Ec [.ref r 0] O=some (.tup [.agg (kD K fs rc sc MB R.tg R.ks F).1.1.cs,.int .u8 (kD K fs rc sc MB R.tg R.ks F).1.2],S)/\bG S h l R now rc sc nm fs (kD K fs rc sc MB R.tg R.ks F).2 r s m o fo oo'/\Req O S s m F (kD K fs rc sc MB R.tg R.ks F).2 oo oo':=by
 have hn:=gJ r O;have ok1:Ok (O++[.cells [.int .i64 0,.int .i64 0,.nils,.nils,.nils,.int .i64 0,.nils,.int .i64 0,.str []] FZ]):=hσ.plus rfl;obtain⟨S,oo',q1,b,q⟩:=ahe H hK hFo ok1 (a.app _) hF MB R.tg R.ks hK.root.tg hK.root.ks;generalize kD K fs rc sc MB R.tg R.ks F=sp at*;obtain⟨⟨tv,c⟩,F1⟩:=sp;dsimp only at*;have x0:S[O.length]?=some _:=q.kept a 0 rfl;have tb:=IX tv;have mk:=Iz H.made (a.app [.cells [.int .i64 0,.int .i64 0,.nils,.nils,.nils,.int .i64 0,.nils,.int .i64 0,.str []] FZ]);have okT:Ok (S.set O.length (.cells tv.cs FZ)):=Ok.set2 q.ok _ (AO.below_mono (au3 _) _ tb);obtain⟨S',t1,t2,t3⟩:=q.close hσ a b okT (by simp) (fun i x e hi=>aI e (by simp at hi;omega) _) [.agg tv.cs,.int .u8 c] (by rw[ai,below];rw[AO.below]at tb;rw[tb];rfl)
 refine⟨S',oo',?_,t2,t3⟩;have rp:=a.rp;have Rc:=R.cs_is;unfold nH at rp;rw[Rc]at rp;simp only[a81,a99]at rp;have rpS:=fun L=>aA rp L;have ta:R.tg.cs=[.int .i64 R.tg.th,.sl R.tg.ids.length (R.tg.ids.flatMap sC)]:=rfl;unfold MB at q1;rw[ta]at q1;have spT:splice [.int .i64 0,.int .i64 0,.nils,.nils,.nils,.int .i64 0,.nils,.int .i64 0,.str []] 0 tv.cs=tv.cs:=rfl;have sg:=bC x0 (.cells tv.cs FZ);have nvs:NVs [.agg tv.cs,.int .u8 c]:=.cons (.agg tv.nvs) (.cons (.int _ _) .nil);rw[H.targets.go hn];generalize hE:xP=eR;simp only[D7,mk,q1,rpS,x0,spT,jK.len,jK.fl,AV.cells,EVX,seval];rw[<-hE];refine(Np (vs:=[.agg tv.cs,.int .u8 c]) ?_ nvs).trans (by rw[t1];rfl)
 simp only[bg,sg,jK.len,jK.tk,EVX,seval]
structure afv(C:Ctx):Prop extends TelHas C where
 rmade:Has C jW lN
 rfet:Has C dX D6
def afw (H:afv C) {h l R now rc sc nm fs F r s m o fo oo} {O:St} (hσ:Ok O) (a:bG O h l R now rc sc nm fs F r s m o fo oo) (hu:Uniq F):
  aj C dX [.ref r 0] O=some (.sl F.length (F.flatMap (mD nm)),O):=by
 have hn:=gJ r O;have rp:=a.rp;have mk:=Iz H.rmade a;have q:=Z9 H.toTelHas hσ a.st hu;unfold nH at rp;rw[H.rfet.go hn];simp only[D6,mk,q,rp,bu,EVX,seval]
def kF(K:yh)(R:kC)(fs:List PS)(rc sc:Int)(a:fQ)(F:List cO):(SnV×jK×Int)×List cO:=
 if a.kind=0 then(((kE K fs sc F).1.1,Ol,(kE K fs sc F).1.2),(kE K fs sc F).2)
 else if a.kind=1 then((Wq,(kD K fs rc sc MB R.tg R.ks F).1),(kD K fs rc sc MB R.tg R.ks F).2)
 else((Wq,(kD K fs rc sc a.name a.auth a.keys F).1),(kD K fs rc sc a.name a.auth a.keys F).2)
structure CO(a:fQ):Prop where
 ids:zG a.auth.ids
 keys:Bh a.keys
def adA (H:Ae C C1) (hA:Has C aT dh) {h l R now rc sc nm fs F r s m o fo oo K} (hK:CaseOk C1 h l R now K fs) (hFo:zF fs F) {O:St} (hσ:Ok O) (a:bG O h l R now rc sc nm fs F r s m o fo oo) (hF:F.length+1<1000000) (k:fQ) (hk:CO k):
  ∃S oo',aj C aT [.ref r 0,.agg k.cs] O=some (.tup [.agg (kF K R fs rc sc k F).1.1.cs,.agg (kF K R fs rc sc k F).1.2.1.cs,.int .u8 (kF K R fs rc sc k F).1.2.2],S)/\bG S h l R now rc sc nm fs (kF K R fs rc sc k F).2 r s m o fo oo'/\Req O S s m F (kF K R fs rc sc k F).2 oo oo':=by
 have kb:AO.below 0 (.cells k.cs FZ)=true:=k.nvs.cl;have kc:k.cs=[.int .u8 k.kind,.str k.name,.int .i64 k.auth.th,.sl k.auth.ids.length (k.auth.ids.flatMap sC),.sl k.keys.length (k.keys.flatMap pC)]:=rfl;have ok1:Ok (O++[.cells k.cs FZ,.cells [.int .i64 0,.int .i64 0,.nils] FZ,.cells [.int .i64 0,.int .i64 0,.nils,.nils,.nils,.int .i64 0,.nils,.int .i64 0,.str []] FZ]):=hσ.plus (by simp only[a07,aw0,kb];rfl)
 have hn:=acx (NVs.cons (NV.agg k.nvs) .nil) r 0 O;have spT:∀tv:jK,splice [.int .i64 0,.int .i64 0,.nils,.nils,.nils,.int .i64 0,.nils,.int .i64 0,.str []] 0 tv.cs=tv.cs:=fun _=>rfl;have spS:∀tv:SnV,splice [.int .i64 0,.int .i64 0,.nils] 0 tv.cs=tv.cs:=fun _=>rfl;rw[hA.go hn];unfold kF;by_cases k0:k.kind=0
 ·rw[if_pos k0];obtain⟨S,oo',q1,b,q⟩:=adv H hK hFo ok1 (a.app _) (by omega)
  generalize kE K fs sc F=sp at*;obtain⟨⟨sv,c⟩,F1⟩:=sp;dsimp only at*;have x0:S[O.length]?=some _:=q.kept a 0 rfl;have x1:S[O.length+1]?=some _:=q.kept a 1 rfl;have x2:S[O.length+2]?=some _:=q.kept a 2 rfl;have svb:AO.below 0 (.cells sv.cs FZ)=true:=sv.nvs.cl;have g1:=fun y=>bC x1 y;have e2:=fun y=>aI x2 (by omega:O.length+2≠O.length+1) y
  have g2:=fun y z=>bC (e2 y) z;have g3:=fun y z=>aI (g1 y) (by omega:O.length+1≠O.length+2) z
  have okT:Ok (((S.set (O.length+1) (.cells sv.cs FZ)).set (O.length+2) (.cells [.int .i64 0,.int .i64 0,.nils,.nils,.nils,.int .i64 0,.nils,.int .i64 0,.str []] FZ))++[.cells sv.cs FZ]):=(Ok.set2 (Ok.set2 q.ok _ (AO.below_mono (au3 _) _ svb)) _ rfl).plus (by rw[a07,svb];rfl)
  obtain⟨S',t1,t2,t3⟩:=q.close hσ a b okT (by simp) (fun i x e hi=>aA (aI (aI e (by simp at hi;omega) _) (by simp at hi;omega) _) _) [.agg sv.cs,.agg Ol.cs,.int .u8 c] (by rw[AO.below]at svb;simp only[ai,below,svb];rfl)
  refine⟨S',oo',?_,t2,t3⟩;rw[k0]at kc;rw[kc]at x0 q1⊢;have y1:=fun L=>aA x1 L;have p1:=fun L y=>dV x1 L y;have p2:=fun L y z=>dV (e2 y) L z;have e2L:=fun y L=>aA (e2 y) L;generalize hE:xP=eR;simp only[dh,q1,y1,p1,p2,e2L,spS,SnV.len,SnV.tk,SnV.fl,aJ,iJ,AV.cells,AV.flat,EVX,seval];rw[<-hE];refine(Gv (vs:=[.agg sv.cs,.agg [.int .i64 0,.int .i64 0,.nils,.nils,.nils,.int .i64 0,.nils,.int .i64 0,.str []],.int .u8 c]) (vs':=[.agg sv.cs,.agg Ol.cs,.int .u8 c]) ?_ (by rw[oK,aO,(NV.agg sv.nvs).nf];rfl)).trans (by erw[t1];rfl)
  have h1:=fun y z L=>aA (g3 y z) L;have h2:=fun y z L=>aA (g2 y z) L;simp only[bg,h1,h2,SnV.len,SnV.tk,EVX,seval]
 rw[if_neg k0];by_cases k1:k.kind=1
 ·rw[if_pos k1];obtain⟨S,oo',q1,b,q⟩:=afD H hK hFo ok1 (a.app _) hF;generalize kD K fs rc sc MB R.tg R.ks F=sp at*;obtain⟨⟨sv,c⟩,F1⟩:=sp;dsimp only at*;have x0:S[O.length]?=some _:=q.kept a 0 rfl;have x1:S[O.length+1]?=some _:=q.kept a 1 rfl;have x2:S[O.length+2]?=some _:=q.kept a 2 rfl;have svb:=IX sv;have g1:=fun y=>bC x1 y;have e2:=fun y=>aI x2 (by omega:O.length+2≠O.length+1) y
  have g2:=fun y z=>bC (e2 y) z;have g3:=fun y z=>aI (g1 y) (by omega:O.length+1≠O.length+2) z
  have okT:Ok (((S.set (O.length+1) (.cells [.int .i64 0,.int .i64 0,.nils] FZ)).set (O.length+2) (.cells sv.cs FZ))++[.cells sv.cs FZ]):=(Ok.set2 (Ok.set2 q.ok _ rfl) _ (AO.below_mono (au3 _) _ svb)).plus (by rw[a07,svb];rfl)
  obtain⟨S',t1,t2,t3⟩:=q.close hσ a b okT (by simp) (fun i x e hi=>aA (aI (aI e (by simp at hi;omega) _) (by simp at hi;omega) _) _) [.agg Wq.cs,.agg sv.cs,.int .u8 c] (by rw[AO.below]at svb;simp only[ai,below,svb];rfl)
  refine⟨S',oo',?_,t2,t3⟩;rw[k1]at kc;rw[kc]at x0 q1⊢;have y1:=fun L=>aA x1 L;have p1:=fun L y=>dV x1 L y;have p2:=fun L y z=>dV (e2 y) L z;have e2L:=fun y L=>aA (e2 y) L;have f3:∀i z (y:AO),(S.set i z++[y])[S.length]?=some y:=fun i z y=>by rw[gQ (by simp)];rfl
  generalize hE:xP=eR;simp only[dh,q1,y1,p1,p2,e2L,f3,spT,vS,reO,jK.len,jK.tk,jK.fl,aJ,iJ,AV.cells,AV.flat,EVX,seval];rw[<-hE];refine(Gv (vs:=[.agg [.int .i64 0,.int .i64 0,.nils],.agg sv.cs,.int .u8 c]) (vs':=[.agg Wq.cs,.agg sv.cs,.int .u8 c]) ?_ (by rw[oK,aO,bz,aO,PV,aO,PV,aO,dI,vX,aO,(NV.agg sv.nvs).nf];rfl)).trans (by erw[t1];rfl)
  have h1:=fun y z L=>aA (g3 y z) L;have h2:=fun y z L=>aA (g2 y z) L;simp only[bg,h1,h2,jK.len,jK.tk,EVX,seval]
 ·rw[if_neg k1];obtain⟨S,oo',q1,b,q⟩:=ahe H hK hFo ok1 (a.app _) hF k.name k.auth k.keys hk.ids hk.keys;generalize kD K fs rc sc k.name k.auth k.keys F=sp at*;obtain⟨⟨sv,c⟩,F1⟩:=sp;dsimp only at*;have x0:S[O.length]?=some _:=q.kept a 0 rfl;have x1:S[O.length+1]?=some _:=q.kept a 1 rfl;have x2:S[O.length+2]?=some _:=q.kept a 2 rfl;have svb:=IX sv;have g1:=fun y=>bC x1 y;have e2:=fun y=>aI x2 (by omega:O.length+2≠O.length+1) y
  have g2:=fun y z=>bC (e2 y) z;have g3:=fun y z=>aI (g1 y) (by omega:O.length+1≠O.length+2) z
  have okT:Ok (((S.set (O.length+1) (.cells [.int .i64 0,.int .i64 0,.nils] FZ)).set (O.length+2) (.cells sv.cs FZ))++[.cells sv.cs FZ]):=(Ok.set2 (Ok.set2 q.ok _ rfl) _ (AO.below_mono (au3 _) _ svb)).plus (by rw[a07,svb];rfl)
  obtain⟨S',t1,t2,t3⟩:=q.close hσ a b okT (by simp) (fun i x e hi=>aA (aI (aI e (by simp at hi;omega) _) (by simp at hi;omega) _) _) [.agg Wq.cs,.agg sv.cs,.int .u8 c] (by rw[AO.below]at svb;simp only[ai,below,svb];rfl)
  refine⟨S',oo',?_,t2,t3⟩;have k0':(k.kind==0)=false:=by simpa using k0
  have k1':(k.kind==1)=false:=by simpa using k1
  have ac:k.auth.cs=[.int .i64 k.auth.th,.sl k.auth.ids.length (k.auth.ids.flatMap sC)]:=rfl;rw[ac]at q1;rw[kc]at x0 q1⊢;have y1:=fun L=>aA x1 L;have p1:=fun L y=>dV x1 L y;have p2:=fun L y z=>dV (e2 y) L z;have e2L:=fun y L=>aA (e2 y) L;have f3:∀i z (y:AO),(S.set i z++[y])[S.length]?=some y:=fun i z y=>by rw[gQ (by simp)];rfl
  generalize hE:xP=eR;simp only[dh,k0',k1',q1,y1,p1,p2,e2L,f3,spT,vS,reO,jK.len,jK.tk,jK.fl,aJ,iJ,AV.cells,AV.flat,EVX,seval];rw[<-hE];refine(Gv (vs:=[.agg [.int .i64 0,.int .i64 0,.nils],.agg sv.cs,.int .u8 c]) (vs':=[.agg Wq.cs,.agg sv.cs,.int .u8 c]) ?_ (by rw[oK,aO,bz,aO,PV,aO,PV,aO,dI,vX,aO,(NV.agg sv.nvs).nf];rfl)).trans (by erw[t1];rfl)
  have h1:=fun y z L=>aA (g3 y z) L;have h2:=fun y z L=>aA (g2 y z) L;simp only[bg,h1,h2,jK.len,jK.tk,EVX,seval]
def WM(nm:LU)(f:cO):(mD nm f).length=4:=rfl
def afY(nm:LU)(F:List cO):NV (.sl F.length (F.flatMap (mD nm))):=.sl _ (fK (fun _=>rfl) F)
def VK (nm:LU) (F:List cO) (hF:F.length<=1000000) (O:St):∀(n i:Nat),i+n=F.length->
  aH C (aj C) 26 [0,1,5] mY [(0,.sl F.length (F.flatMap (mD nm))),(1,.sl F.length (F.flatMap (mD nm))),(5,.int .i64 i)] O=some (.exit 0,[],O)
 |0,i,hi=>by
  rw[aB (he:=rfl)];have h:¬((i:Int)<(F.length:Int)):=by omega
  simp only[mY,h,aY,EVX,seval]
 |n+1,i,hi=>by
  rw[aB (he:=rfl)];have h:((i:Int)<(F.length:Int)):=by omega
  have h2:i<F.length:=by omega
  have hb:F[i]?=some F[i]:=a01 h2;have hw:=wrS i (by omega)
  have h0:(0:Int)<=i:=by omega
  have fl:=aU (WM nm) F;have fd:=fB (WM nm) hb;generalize F[i]=f at*;have pc:mD nm f=[.str nm,.str f.name,.int .i64 f.cap,.int .i64 f.size]:=rfl;have ih:=VK nm F hF O n (i+1) (by omega)
  have ec:jb 72 [.str nm,.str f.name,.int .i64 f.cap,.int .i64 f.size] [.str nm,.str f.name,.int .i64 f.cap,.int .i64 f.size]=some true:=by simp[jb,mg]
  generalize hk:aH C (aj C) 26 [0,1,5] mY=k at*;simp only[mY,h,h2,h0,hw,ih,ec,av2,fl,fd,pc,aY,EVX,seval]
def P8(hC:Has C zq yY)(nm:LU)(F:List cO)(hF:F.length<=1000000)(O:St):aj C zq [.sl F.length (F.flatMap (mD nm)),.sl F.length (F.flatMap (mD nm))] O=some (.bool true,O):=by
 rw[hC.go (NVs.hand (.cons (afY nm F) (.cons (afY nm F) .nil)) _)];have lp:=VK (C:=C) nm F hF O F.length 0 (by omega)
 simp only[a97]at lp;simp only[yY,lp,aY,EVX,seval]
def Yd(fs:List PS)(F:List cO)(file:LU)(cap:Int):∃Yq,(xB fs F file cap).2=F++Yq:=by
 unfold xB;cases F.find? (fun f=>decide (f.name=file))with
 |some f=>exact⟨[],(au6 _).symm⟩
 |none=>exact⟨_,rfl⟩
def Og(F:List cO):Prop:=F.Pairwise fun f g=>f.name≠g.name
def Og.uniq:∀{F:List cO},Og F->Uniq F
 |[],_,_,h=>by cases h
 |g::F,hd,f,h=>by
  obtain⟨h1,h2⟩:=List.pairwise_cons.mp hd;rcases av3.mp h with rfl|h
  ·exact List.find?_cons_of_pos (by simp)
  ·rw[List.find?_cons_of_neg (by simpa using h1 f h)]
   exact Og.uniq h2 f h
def Og.ne{F:List cO}(h:Og F){i j:Nat}(hij:i<j){f g:cO}(hi:F[i]?=some f)(hj:F[j]?=some g):f.name≠g.name:=by
 obtain⟨a,rfl⟩:=a00.mp hi;obtain⟨b,rfl⟩:=a00.mp hj;exact List.pairwise_iff_getElem.mp h i j a b hij
def UQ{fs:List PS}{F:List cO}(h:Og F)(file:LU)(cap:Int):Og (xB fs F file cap).2:=by
 unfold xB;cases hf:F.find? (fun f=>decide (f.name=file))with
 |some f=>exact h
 |none=>
  refine List.pairwise_append.mpr ⟨h,List.pairwise_singleton _ _,fun f hfm g hg=>?_⟩;rw[aB7.mp hg,Nu]
  grind
def abw(K:yh)(fs:List PS)(sc:Int)(F:List cO):∃Yq,(kE K fs sc F).2=F++Yq:=Yd _ _ _ _
theorem Zg{F:List cO}(h:Og F)(K:yh)(fs:List PS)(sc:Int):Og (kE K fs sc F).2:=UQ h _ _
def abp(K:yh)(fs:List PS)(rc sc:Int)(rl:LU)(a:fE)(ks:List PS)(F:List cO):∃Yq,(kD K fs rc sc rl a ks F).2=(kE K fs sc F).2++Yq:=by
 unfold kD;dsimp only;split
 ·split
  ·exact⟨[],(au6 _).symm⟩
  ·split
   ·exact Yd _ _ _ _
   ·split
    ·exact⟨[],(au6 _).symm⟩
    ·exact Yd _ _ _ _
 ·exact⟨[],(au6 _).symm⟩
theorem YX{F:List cO}(h:Og F)(K:yh)(fs:List PS)(rc sc:Int)(rl:LU)(a:fE)(ks:List PS):Og (kD K fs rc sc rl a ks F).2:=by
 have h1:=Zg h K fs sc;unfold kD;dsimp only;split
 ·split
  ·exact h1
  ·split
   ·exact UQ h1 _ _
   ·split
    ·exact h1
    ·exact UQ h1 _ _
 ·exact h1
def akr(K:yh)(R:kC)(fs:List PS)(rc sc:Int)(a:fQ)(F:List cO):∃Yq,(kF K R fs rc sc a F).2=F++Yq:=by
 have h:∀rl au ks,∃Yq,(kD K fs rc sc rl au ks F).2=F++Yq:=fun rl au ks=>by
  obtain⟨Yq,hY⟩:=abp K fs rc sc rl au ks F;obtain⟨Z,hZ⟩:=abw K fs sc F
  grind
 unfold kF;split
 ·exact abw K fs sc F
 ·split
  ·exact h _ _ _
  ·exact h _ _ _
def aab{F:List cO}(h:Og F)(K:yh)(R:kC)(fs:List PS)(rc sc:Int)(a:fQ):Og (kF K R fs rc sc a F).2:=by
 grind [kF,Zg,YX]
def bW(K:yh)(R:kC)(fs:List PS)(rc sc:Int):List fQ->List cO->List cO
 |[],F=>F
 |a::l,F=>bW K R fs rc sc l (kF K R fs rc sc a F).2
def aac(K:yh)(R:kC)(fs:List PS)(rc sc:Int):∀(l:List fQ) (F:List cO),∃Yq,bW K R fs rc sc l F=F++Yq
 |[],F=>⟨[],(au6 _).symm⟩
 |a::l,F=>by
  obtain⟨Yq,hY⟩:=akr K R fs rc sc a F;obtain⟨Z,hZ⟩:=aac K R fs rc sc l (kF K R fs rc sc a F).2;exact⟨Yq++Z,by rw[bW,hZ,hY,au4]⟩
def zL(K:yh)(R:kC)(fs:List PS)(rc sc:Int):∀(l k:List fQ) (F:List cO),bW K R fs rc sc (l++k) F=bW K R fs rc sc k (bW K R fs rc sc l F)
 |[],_,_=>rfl
 |a::l,k,F=>by rw[a81,bW,zL K R fs rc sc l k,bW]
structure Rp where
 h:Bool
 l:List iy
 R:kC
 now:Int
 rc:Int
 sc:Int
 nm:LU
 fs:List PS
 F:List cO
 r:Nat
 s:Nat
 m:Nat
 o:Nat
 fo:Option Nat
 oo:Option Nat
def Rp.at'(p:Rp)(S:St):Prop:=bG S p.h p.l p.R p.now p.rc p.sc p.nm p.fs p.F p.r p.s p.m p.o p.fo p.oo
def Rp.has(p:Rp)(i:Nat):Prop:=i=p.r\/i=p.s\/i=p.m\/i=p.o\/p.fo=some i\/p.oo=some i
def Rp.to(p:Rp)(F:List cO)(oo:Option Nat):Rp:={p with F:=F,oo:=oo}
def Rp.lt{p:Rp}{S:St}(a:p.at' S){i:Nat}(h:p.has i):i<S.length:=by
 have k:=bG.lt a;rcases h with rfl|rfl|rfl|rfl|e|e
 ·exact k.r
 ·exact k.s
 ·exact k.m
 ·exact k.o
 ·exact k.fo _ e
 ·exact k.oo _ e
def Rp.moved{p:Rp}{S T:St}(a:p.at' S)(h:∀i x,p.has i->S[i]?=some x->T[i]?=some x):p.at' T:=bG.moved a fun i x hi e=>h i x hi e
def Rp.app{p:Rp}{S:St}(a:p.at' S)(L:St):p.at' (S++L):=bG.app a L
structure Stp(S S':St)(p p':Rp):Prop where
 ok:Ok S'
 at':p'.at' S'
 len:S.length<=S'.length
 old:∀i x,¬p.has i->S[i]?=some x->S'[i]?=some x
 new:∀i,p'.has i->p.has i\/S.length<=i
def Req.stp{S S':St}{p:Rp}{F':List cO}{oo':Option Nat}(q:Req S S' p.s p.m p.F F' p.oo oo')(b:(p.to F' oo').at' S'):Stp S S' p (p.to F' oo'):=
 ⟨q.ok,b,q.len,fun i x h e=>q.old i x (fun e'=>h (by simp[Rp.has,e'])) (fun e'=>h (by simp[Rp.has,e'])) (fun e'=>h (by simp[Rp.has,e'])) e,fun i h=>by
  rcases h with e|e|e|e|e|e
  ·exact .inl (.inl e)
  ·exact .inl (.inr (.inl e))
  ·exact .inl (.inr (.inr (.inl e)))
  ·exact .inl (.inr (.inr (.inr (.inl e))))
  ·exact .inl (.inr (.inr (.inr (.inr (.inl e)))))
  ·rcases q.new i e with e|e
   ·exact .inl (.inr (.inr (.inr (.inr (.inr e)))))
   ·exact .inr e⟩
structure Rp.good(C1:Ctx)(K:yh)(p:Rp):Prop where
 case:CaseOk C1 p.h p.l p.R p.now K p.fs
 fet:zF p.fs p.F
 uniq:Og p.F
def Rp.ask(p:Rp)(K:yh)(a:fQ):(SnV×jK×Int)×List cO:=kF K p.R p.fs p.rc p.sc a p.F
def IV{C1 h l R now K fs}(hK:CaseOk C1 h l R now K fs){F}(hFo:zF fs F)(rc sc:Int)(a:fQ)(ha:CO a):(kF K R fs rc sc a F).1.1.ok/\(kF K R fs rc sc a F).1.2.1.ok/\zF fs (kF K R fs rc sc a F).2/\(kF K R fs rc sc a F).2.length<=F.length+2:=by
 have z:Wq.ok:=⟨by decide,fun _ h=>by cases h⟩
 obtain⟨s1,s2,s3⟩:=Zf hK.chk hK.data hFo sc;unfold kF;split
 ·exact⟨s1,TM,s2,by dsimp only;omega⟩
 ·split
  ·obtain⟨r1,r2,r3,_⟩:=YW hK.chk hK.data hFo rc sc MB R.tg R.ks hK.root.tg hK.root.ks;exact⟨z,r1,r2,r3⟩
  ·obtain⟨r1,r2,r3,_⟩:=YW hK.chk hK.data hFo rc sc a.name a.auth a.keys ha.ids ha.keys;exact⟨z,r1,r2,r3⟩
def ac6 (H:Ae C C1) (hA:Has C aT dh) {K:yh} {p:Rp} (g:p.good C1 K) {S:St} (hS:Ok S) (a:p.at' S) (hF:p.F.length+1<1000000) (k:fQ) (hk:CO k):
  ∃S' oo',aj C aT [.ref p.r 0,.agg k.cs] S=some (.tup [.agg (p.ask K k).1.1.cs,.agg (p.ask K k).1.2.1.cs,.int .u8 (p.ask K k).1.2.2],S')/\Stp S S' p (p.to (p.ask K k).2 oo')/\(p.to (p.ask K k).2 oo').good C1 K:=by
 obtain⟨S',oo',q1,q2,q3⟩:=adA H hA g.case g.fet hS a hF k hk;exact⟨S',oo',q1,Req.stp q3 q2,g.case,(IV g.case g.fet _ _ k hk).2.2.1,aab g.uniq K p.R p.fs p.rc p.sc k⟩
def vY(H:afv C){p:Rp}{S:St}(hS:Ok S)(a:p.at' S)(hu:Og p.F):aj C dX [.ref p.r 0] S=some (.sl p.F.length (p.F.flatMap (mD p.nm)),S):=afw H hS a hu.uniq
def Rp.of(p:Rp)(c:jH)(R:kC):Prop:=p.h=c.h/\p.l=c.l/\p.R=R/\p.now=c.now/\p.rc=c.rc/\p.sc=c.sc/\p.nm=c.nm/\p.fs=c.fs
def aot (H:MadeHas C) (c:jH) (hl:c.l.length<=60) (hfs:c.fs.length<=1000) (R:kC) (e:Int)
  (hR:∀(O:St) (o:Nat),Ok O->O[o]?=some (FY c.h c.l)->aj C wZ [.ref o 0,.str c.data] O=some (.tup [.agg (V9 R e).cs,.int .i64 e],O))
  {Y:St} (hτ:Ok Y):
  (vH c.nm c.fs c.rc c.sc e≠0/\aj C df [.agg c.cs] Y=some (.tup [.nilp,.int .i64 (vH c.nm c.fs c.rc c.sc e)],Y))\/
  (vH c.nm c.fs c.rc c.sc e=0/\∃(p:Rp) (T:St),aj C df [.agg c.cs] Y=some (.tup [.ref p.r 0,.int .i64 0],T)/\Ok T/\p.at' T/\p.of c R/\p.F=[]/\(∀i,p.has i->Y.length<=i)/\T.take Y.length=Y):=by
 rcases aos H c hl hfs R e hR hτ with h|⟨h0,r,s,m,o,fo,T,h1,h2,h3,h4,h5,h6,h7,h8,h9⟩
 ·exact .inl h
 ·refine .inr ⟨h0,⟨c.h,c.l,R,c.now,c.rc,c.sc,c.nm,c.fs,[],r,s,m,o,fo,none⟩,T,h1,h2,h3,⟨rfl,rfl,rfl,rfl,rfl,rfl,rfl,rfl⟩,rfl,fun i hi=>?_,h9⟩;rcases hi with rfl|rfl|rfl|rfl|e|e
  ·exact h4
  ·exact h5
  ·exact h6
  ·exact h7
  ·exact h8 _ e
  ·cases e
def anu:Og []:=.nil
def ano{S S':St}{n:Nat}(hn:n<=S.length)(h:∀i x,i<n->S[i]?=some x->S'[i]?=some x):S'.take n=S.take n:=by
 refine aw7 fun k=>?_
 grind
def Stp.pre{S S':St}{p p':Rp}(q:Stp S S' p p'){n:Nat}(hn:n<=S.length)(h:∀i,p.has i->n<=i):S'.take n=S.take n:=
 ano hn fun i x hi e=>q.old i x (fun hp=>by have:=h i hp;omega) e
def Stp.frm{S S':St}{p p':Rp}(q:Stp S S' p p'){n:Nat}(hn:n<=S.length)(h:∀i,p.has i->n<=i):∀i,p'.has i->n<=i:=fun i hi=>by
 grind [Stp]
end Go.Ev
namespace Go.Ev
set_option maxRecDepth 100000
variable{C:Ctx}
structure Kr where
 S:LU->SnV
 s1:LU->Int
 s2:LU->Int
 s3:LU->Int
 sen:LU->Bool
 T:LU->jK
 t1:LU->Int
 t2:LU->Int
 t3:LU->Int
 ten:LU->fE->List PS->Bool
 od:LU->List PS->Bool
def Kr.sc(b:Kr)(now:Int)(d:LU)(z:Int):Int:=Tu z (b.s1 d) (b.s2 d) (b.s3 d) (b.sen d) (decide ((b.S d).exp<=now))
def Kr.rc(b:Kr)(now:Int)(p:lH)(a:fE)(ks:List PS)(d:LU)(z:Int):Int:=YU z p.length d.length (b.od d p.hashes) (b.t1 d) (b.t2 d) (b.t3 d) (b.ten d a ks) (b.T d).ver p.version (decide ((b.T d).exp<=now))
def Kr.K(b:Kr)(now:Int):yh:=⟨fun d z=>(agM (b.S d) (b.sc now d z),b.sc now d z),fun p a ks d z=>(agN (b.T d) (b.rc now p a ks d z),b.rc now p a ks d z)⟩
def JG(hC:Has C oQ zK)(a b:Int)(O:St):aj C oQ [.int .i64 a,.int .i64 b] O=some (.bool (decide (a<=b)),O):=by
 rw[hC.go (NVs.hand (.cons (.int _ _) (.cons (.int _ _) .nil)) _)];by_cases c:a<=b
 ·simp only[zK,c,EVX,seval]
 ·simp only[zK,c,EVX,seval]
def amG (H:ChkTot C) (hO:Has C oQ zK) (h:Bool) (l:List iy) (b1:wO l=false) (data:LU) (b4:data.length<=LB):
  ∃(T:jK) (e1 e2 e3:Int) (en:fE->List PS->Bool) (od:List PS->Bool),T.ok/\∀(p:lH) (a:fE) (ks:List PS) (now size:Int) (O:St) (o:Nat),Bh p.hashes->zG a.ids->Bh ks->Ok O->O[o]?=some (FY h l)->
   aj C AA [.ref o 0,.agg p.cs,.agg a.cs,.sl ks.length (ks.flatMap pC),.int .i64 now,.str data,.int .i64 size] O=
    some (.tup [.agg (agN T (YU size p.length data.length (od p.hashes) e1 e2 e3 (en a ks) T.ver p.version (decide (T.exp<=now)))).cs,.int .u8 (YU size p.length data.length (od p.hashes) e1 e2 e3 (en a ks) T.ver p.version (decide (T.exp<=now)))],O):=by
 obtain⟨j,n1,e1,q1⟩:=H.rd data b4;obtain⟨r,e2,mr,q2⟩:=H.sg j;have q5x:∀a:fE×List PS,∃en:Bool,zG a.1.ids->Bh a.2->∀Y o,Y[o]?=some (FY h l)->aj C jm [.ref o 0,r,.agg (aC a.1.th a.1.ids),.sl a.2.length (a.2.flatMap pC)] Y=some (.bool en,Y):=fun a=>by
  by_cases c:zG a.1.ids/\Bh a.2
  ·obtain⟨en,q⟩:=H.enough h l r a.1.th a.1.ids a.2 b1 c.1 c.2 mr;exact⟨en,fun _ _=>q⟩
  simp_all
 obtain⟨en,q5⟩:=Classical.axiomOfChoice q5x;obtain⟨k,ps,rfl,lp⟩:=acD mr;obtain⟨T,e3,tok,q3⟩:=H.tg k;obtain⟨D,q6⟩:=H.dig data b4;obtain⟨x0,x1,x2,x3,x4,je,ox0,ox1,ox2,ox3,ox4⟩:=j.ones;obtain⟨r0,r1,r2,r3,r4,ke,or0,or1,or2,or3,or4⟩:=k.ones;unfold JV.av at q1 q2 q3;rw[je]at q1 q2;rw[ke]at q2 q3 q5;have odx:∀hs:List PS,∃b:Bool,Bh hs->∀(Y:St) (o:Nat) (F:gZ),Ok Y->Y[o]?=some (.cells F.cs FZ)->F.ph=.sl hs.length (hs.flatMap pC)->F.data=data->aj C gY [.ref o 0] Y=some (.bool b,Y):=fun hs=>by
  by_cases c:Bh hs
  case neg=>exact⟨false,fun h=>absurd h c⟩
  by_cases c0:hs.length=0
  ·have:hs=[]:=av1 c0;subst this;exact⟨false,fun _ Y o F hτ hF hp hd=>Uy H.role.toChkHas hτ hF [] hp⟩
  ·obtain⟨d,b,q⟩:=H.hash hs c;exact⟨_,fun _ Y o F hτ hF hp hd=>YK H.role.toChkHas hτ hF hs.length _ hp c0 (by rw[hp];exact q Y) (by rw[hd];exact q6 Y)⟩
 obtain⟨od,qo⟩:=Classical.axiomOfChoice odx;refine⟨T,e1,e2,e3,fun a ks=>en (a,ks),od,tok,fun p a ks now size O o hh ha hk hσ ho=>?_⟩;have hl:o<O.length:=(a00.mp ho).1;have hI:(inf h l o a.th a.ids ks p.name p.version p.length (.sl p.hashes.length (p.hashes.flatMap pC)) now data size).ok O.length:=⟨.inr ⟨o,rfl,hl⟩,wP _ (G5 a.ids),wP _ (vJ ks),(wP _ (vJ p.hashes)).b0⟩;rw[<-aoT];exact ZR H.role hσ hI (wP _ (vJ p.hashes)) ⟨rfl,rfl⟩
  {x0:=x0,x1:=x1,x2:=x2,x3:=x3,x4:=x4,n1:=n1,e1:=e1,r0:=r0,r1:=r1,r2:=r2,r3:=r3,r4:=r4,r5:=.sl ps.length (ps.flatMap pC),e2:=e2,en:=en (a,ks)
   hx0:=ox0,hx1:=ox1,hx2:=ox2,hx3:=ox3,hx4:=ox4,hr0:=or0,hr1:=or1,hr2:=or2,hr3:=or3,hr4:=or4,hr5:=wP _ (vJ ps)
   rd:=fun Y _=>q1 Y,sg:=fun _ Y _=>q2 Y
   enough:=fun _ _ Y _ hx=>q5 (a,ks) ha hk Y o (hx o _ ho)
   tv:=T.ver,tx:=T.exp,t2:=.sl T.list.length (T.list.flatMap TgV.cs),t3:=.sl T.del.keys.length (T.del.keys.flatMap pC),t4:=.sl T.del.roles.length (T.del.roles.flatMap RoV.cs),t5:=.int .i64 T.del.thr,t6:=.sl T.del.ids.length (T.del.ids.flatMap sC),t7:=.int .i64 T.del.bits,t8:=.str T.del.pre,e3:=e3,ov:=decide (T.exp<=now),od:=od p.hashes
   h2:=wP _ (.sl _ (fK (fun r=>r.bel) T.list)),h3:=wP _ (vJ _),h4:=wP _ (.sl _ (VI T.del.roles)),h5:=GU _ _,h6:=wP _ (G5 _),h7:=GU _ _,h8:=aie _
   tg:=fun _ _ Y _=>q3 Y,over:=fun Y _=>JG hO _ _ Y,odig:=qo p.hashes hh}
def anc (H:ChkTot C) (hO:Has C oQ zK) (h:Bool) (l:List iy) (R:kC) (data:LU) (b1:wO l=false) (b2:zG R.sn.ids) (b3:Bh R.ks) (b4:data.length<=LB):
  ∃(S:SnV) (e1 e2 e3:Int) (en:Bool),S.ok/\∀(now size:Int) (O:St) (o:Nat),Ok O->O[o]?=some (FY h l)->
   aj C oZ [.ref o 0,.agg R.cs,.int .i64 now,.str data,.int .i64 size] O=
    some (.tup [.agg (agM S (Tu size e1 e2 e3 en (decide (S.exp<=now)))).cs,.int .u8 (Tu size e1 e2 e3 en (decide (S.exp<=now)))],O):=by
 obtain⟨S,e1,e2,e3,en,ov,sok,q,r⟩:=ane H h l R data b1 b2 b3 b4;have e:∀now,ov now=decide (S.exp<=now):=fun now=>by
  have:=(q now []).symm.trans (JG hO _ _ _);simpa using this
 refine⟨S,e1,e2,e3,en,sok,fun now size O o hσ ho=>?_⟩;rw[<-aoR,<-e];exact r now size O o hσ ho
def akt(H:ChkTot C)(hO:Has C oQ zK)(h:Bool)(l:List iy)(b1:wO l=false)(R:kC)(b2:zG R.sn.ids)(b3:Bh R.ks):∃b:Kr,∀now,JH C h l R now (b.K now):=by
 have sx:∀d:LU,∃x:SnV×Int×Int×Int×Bool,d.length<=LB->x.1.ok/\∀(now size:Int) (O:St) (o:Nat),Ok O->O[o]?=some (FY h l)->
   aj C oZ [.ref o 0,.agg R.cs,.int .i64 now,.str d,.int .i64 size] O=
    some (.tup [.agg (agM x.1 (Tu size x.2.1 x.2.2.1 x.2.2.2.1 x.2.2.2.2 (decide (x.1.exp<=now)))).cs,.int .u8 (Tu size x.2.1 x.2.2.1 x.2.2.2.1 x.2.2.2.2 (decide (x.1.exp<=now)))],O):=fun d=>by
  by_cases c:d.length<=LB
  ·obtain⟨S,e1,e2,e3,en,q⟩:=anc H hO h l R d b1 b2 b3 c;exact⟨(S,e1,e2,e3,en),fun _=>q⟩
  ·exact⟨(Wq,0,0,0,false),fun h=>absurd h c⟩
 have tx:∀d:LU,∃x:jK×Int×Int×Int×(fE->List PS->Bool)×(List PS->Bool),d.length<=LB->x.1.ok/\∀(p:lH) (a:fE) (ks:List PS) (now size:Int) (O:St) (o:Nat),Bh p.hashes->zG a.ids->Bh ks->Ok O->O[o]?=some (FY h l)->
   aj C AA [.ref o 0,.agg p.cs,.agg a.cs,.sl ks.length (ks.flatMap pC),.int .i64 now,.str d,.int .i64 size] O=
    some (.tup [.agg (agN x.1 (YU size p.length d.length (x.2.2.2.2.2 p.hashes) x.2.1 x.2.2.1 x.2.2.2.1 (x.2.2.2.2.1 a ks) x.1.ver p.version (decide (x.1.exp<=now)))).cs,.int .u8 (YU size p.length d.length (x.2.2.2.2.2 p.hashes) x.2.1 x.2.2.1 x.2.2.2.1 (x.2.2.2.2.1 a ks) x.1.ver p.version (decide (x.1.exp<=now)))],O):=fun d=>by
  by_cases c:d.length<=LB
  ·obtain⟨T,e1,e2,e3,en,od,q⟩:=amG H hO h l b1 d c;exact⟨(T,e1,e2,e3,en,od),fun _=>q⟩
  ·exact⟨(Ol,0,0,0,fun _ _=>false,fun _=>false),fun h=>absurd h c⟩
 obtain⟨f,hf⟩:=Classical.axiomOfChoice sx;obtain⟨g,hg⟩:=Classical.axiomOfChoice tx;refine⟨⟨fun d=>(f d).1,fun d=>(f d).2.1,fun d=>(f d).2.2.1,fun d=>(f d).2.2.2.1,fun d=>(f d).2.2.2.2,fun d=>(g d).1,fun d=>(g d).2.1,fun d=>(g d).2.2.1,fun d=>(g d).2.2.2.1,fun d=>(g d).2.2.2.2.1,fun d=>(g d).2.2.2.2.2⟩,fun now=>⟨fun d z hd=>?_,fun d z O o hd hσ ho=>?_,fun d z e=>?_,fun p a ks d z e=>?_,fun p a ks d z h1 h2 h3 hd=>?_,fun p a ks d z O o h1 h2 h3 hd hσ ho=>?_⟩⟩
 ·exact aoS (hf d hd).1 _
 ·exact(hf d hd).2 now z O o hσ ho
 ·exact if_neg e
 ·exact if_neg e
 ·exact aoU (hg d hd).1 _
 ·exact(hg d hd).2 p a ks now z O o h1 h2 h3 hσ ho
end Go.Ev
namespace Go.Ev
set_option maxRecDepth 100000
variable{C C1:Ctx}
structure Xh(C C1:Ctx):Prop where
 cat:Ae C C1
 made:MadeHas C
 asked:Has C aT dh
 lng:Qm C
 fet:afv C
 s26:Has C zq yY
 s23:Xj C
 s24:abX C
 awake:∀O,Ok O->aj C ou [] O=some (.bool true,O)
 root:∀(h:Bool) (l:List iy),wO l=false->∀data:LU,data.length<=LB->∃(R:kC) (e:Int),R.ok/\∀(O:St) (o:Nat),Ok O->O[o]?=some (FY h l)->aj C wZ [.ref o 0,.str data] O=some (.tup [.agg (V9 R e).cs,.int .i64 e],O)
 chk:∀(h:Bool) (l:List iy),wO l=false->∀(R:kC),R.ok->∃b:Kr,∀now:Int,JH C1 h l R now (b.K now)
def agU{l:List fQ}(h:Ij l=false):l.length<=12/\∀a∈l,CO a:=by
 unfold Ij at h;rw[az0]at h;refine⟨Nat.not_lt.mp (of_decide_eq_false h.1),fun a ha=>?_⟩;have h2:=List.any_eq_false.mp h.2 a ha;unfold SC at h2;simp only[az6,not_or,Bool.not_eq_true]at h2;exact⟨ajT (th:=a.auth.th) h2.2.1,agV h2.2.2⟩
def SG{c:jH}{L:List (List fQ)}(h:SE c L=false):wO c.l=false/\c.l.length<=60/\c.fs.length<=1000/\c.data.length<=LB/\EK c.fs/\∀l∈L,l.length<=12/\∀a∈l,CO a:=by
 unfold SE at h;simp only[az0]at h;obtain⟨h1,h2,h3⟩:=h;obtain⟨s1,s2,s3⟩:=VM h1;refine⟨h2,?_,s1,s2,s3,fun l hl=>?_⟩
 ·unfold wO at h2;rw[az0]at h2;exact Nat.not_lt.mp (of_decide_eq_false h2.1)
 ·have:=List.any_eq_false.mp h3 l hl;exact agU (by simpa using this)
def yM{S O:St}{n i:Nat}(h:S.take n=O)(hi:i<O.length):S[i]?=O[i]?:=by
 rw[<-h,au8,if_pos];rw[<-h,az2]at hi;omega
structure ahb(C1:Ctx)(bv:Kr)(c:jH)(R:kC)(Y T:St)(p:Rp):Prop where
 ok:Ok T
 at':p.at' T
 of:p.of c R
 F:p.F=[]
 own:∀i,p.has i->Y.length<=i
 pre:T.take Y.length=Y
 good:p.good C1 (bv.K c.now)
theorem ahb.len{C1 bv c R Y T p}(h:ahb C1 bv c R Y T p):Y.length<=T.length:=by
 have:=congrArg List.length h.pre;rw[az2]at this;omega
def ai9 (H:Xh C C1) {c:jH} {L:List (List fQ)} (cl:SE c L=false):∃(R:kC) (e:Int) (bv:Kr),R.ok/\(∀(now:Int),JH C1 c.h c.l R now (bv.K now))/\∀(now:Int) (fs:List PS) (Y:St),fs.length<=1000->EK fs->Ok Y->
  (vH c.nm fs c.rc c.sc e≠0/\aj C df [.agg {c with now:=now,fs:=fs}.cs] Y=some (.tup [.nilp,.int .i64 (vH c.nm fs c.rc c.sc e)],Y))\/
  (vH c.nm fs c.rc c.sc e=0/\∃(p:Rp) (T:St),aj C df [.agg {c with now:=now,fs:=fs}.cs] Y=some (.tup [.ref p.r 0,.int .i64 0],T)/\ahb C1 bv {c with now:=now,fs:=fs} R Y T p):=by
 obtain⟨v1,v2,v3,v4,v5,v6⟩:=SG cl;obtain⟨R,e,rok,hR⟩:=H.root c.h c.l v1 c.data v4;obtain⟨bv,hK⟩:=H.chk c.h c.l v1 R rok;refine⟨R,e,bv,rok,hK,fun now fs Y v3 v5 hτ=>?_⟩;rcases aot H.made {c with now:=now,fs:=fs} v2 v3 R e hR hτ with h|⟨m1,p,T,m2,okT,atT,po,pF,pfrom,ptake⟩
 ·exact .inl h
 ·refine .inr ⟨m1,p,T,m2,okT,atT,po,pF,pfrom,ptake,?_⟩;obtain⟨h1,h2,h3,h4,h5,h6,h7,h8⟩:=po;refine⟨⟨?_,?_,?_⟩,?_,?_⟩
  ·show JH C1 p.h p.l p.R p.now _;rw[h1,h2,h3,h4];exact hK now
  ·rw[h3];exact rok
  ·rw[h8];exact v5
  ·rw[pF];exact fun f hf=>by cases hf
  ·rw[pF];exact anu
def aqX (H:Xh C C1) {c:jH} {L:List (List fQ)} (cl:SE c L=false):∃(R:kC) (e:Int) (bv:Kr),R.ok/\(∀(now:Int),JH C1 c.h c.l R now (bv.K now))/\∀(now:Int) (Y:St),Ok Y->
  (vH c.nm c.fs c.rc c.sc e≠0/\aj C df [.agg {c with now:=now}.cs] Y=some (.tup [.nilp,.int .i64 (vH c.nm c.fs c.rc c.sc e)],Y))\/
  (vH c.nm c.fs c.rc c.sc e=0/\∃(p:Rp) (T:St),aj C df [.agg {c with now:=now}.cs] Y=some (.tup [.ref p.r 0,.int .i64 0],T)/\ahb C1 bv {c with now:=now} R Y T p):=by
 obtain⟨R,e,bv,rok,hK,mk⟩:=ai9 H cl;obtain⟨v1,v2,v3,v4,v5,v6⟩:=SG cl;exact⟨R,e,bv,rok,hK,fun now Y hτ=>mk now c.fs Y v3 v5 hτ⟩
def Stp.refl{S:St}{p:Rp}(hS:Ok S)(a:p.at' S):Stp S S p p:=⟨hS,a,a06 _,fun _ _ _ h=>h,fun _ h=>.inl h⟩
def Stp.trans{S T U:St}{p q r:Rp}(s:Stp S T p q)(t:Stp T U q r):Stp S U p r:=
 ⟨t.ok,t.at',ax8 s.len t.len,fun i x h e=>t.old i x (fun h'=>by
  rcases s.new i h' with h''|h''
  ·exact h h''
  ·have:=(a00.mp e).1;omega) (s.old i x h e),fun i h=>by
  rcases t.new i h with h|h
  ·exact s.new i h
  ·exact .inr (ax8 s.len h)⟩
theorem Stp.more{S T:St}{p q:Rp}(s:Stp S T p q){L:St}(hL:Ok (T++L)):Stp S (T++L) p q:=
 ⟨hL,(s.at').app L,by have:=s.len;simp;omega,fun i x h e=>aA (s.old i x h e) L,s.new⟩
def aiK(p q:Rp):Prop:=∀i,p.has i->¬q.has i
def aiK.symm{p q:Rp}(h:aiK p q):aiK q p:=fun i a b=>h i b a
def Stp.other{S S':St}{p p' q:Rp}(s:Stp S S' p p')(a:q.at' S)(d:aiK p q):q.at' S'/\aiK p' q:=
 ⟨a.moved fun i x h e=>s.old i x (fun h'=>d i h' h) e,fun i h h'=>by
  rcases s.new i h with e|e
  ·exact d i e h'
  ·have:=Rp.lt a h';omega⟩
end Go.Ev
namespace Go.Ev
set_option maxRecDepth 100000
def ahR(fs:List PS)(n:LU):Option PS:=fs.find? fun p=>decide (p.1=n)
def Fits(fs gs:List PS)(F:List cO):Prop:=∀f∈F,ahR gs f.name=ahR fs f.name
def aaH{fs gs:List PS}{F:List cO}{file:LU}{cap:Int}(h:Fits fs gs (xB fs F file cap).2):xB gs F file cap=xB fs F file cap:=by
 unfold xB at*;cases hf:F.find? (fun f=>decide (f.name=file))with
 |some f=>rfl
 |none=>
  rw[hf]at h;dsimp only at h⊢;have:=h (Hw fs file cap) (by simp)
  rw[Nu]at this;unfold ahR at this;have e:Hw gs file cap=Hw fs file cap:=by unfold Hw;rw[this]
  rw[e]
def Fits.pre{fs gs:List PS}{F G:List cO}(h:Fits fs gs G)(e:∃Yq,G=F++Yq):Fits fs gs F:=fun f hf=>by
 obtain⟨Yq,rfl⟩:=e;exact h f (by simp[hf])
def Ze(K:yh){fs gs:List PS}{sc:Int}{F:List cO}(h:Fits fs gs (kE K fs sc F).2):kE K gs sc F=kE K fs sc F:=by
 unfold kE at*;dsimp only at*;rw[aaH h]
def YV(K:yh){fs gs:List PS}{rc sc:Int}{rl:LU}{a:fE}{ks:List PS}{F:List cO}(h:Fits fs gs (kD K fs rc sc rl a ks F).2):kD K gs rc sc rl a ks F=kD K fs rc sc rl a ks F:=by
 have hs:=Ze K (h.pre (abp K fs rc sc rl a ks F));unfold kD at*;dsimp only at*;rw[hs];split
 ·next h0=>
  rw[if_pos h0]at h;split
  ·rfl
  ·next p hp=>
   rw[hp]at h;dsimp only at h;have q:∀most,Fits fs gs (zX K fs rl a ks p most (kE K fs sc F).2).2->zX K gs rl a ks p most (kE K fs sc F).2=zX K fs rl a ks p most (kE K fs sc F).2:=fun most h=>by
    unfold zX at*;dsimp only at*;rw[aaH h]
   split
   ·next c1=>rw[if_pos c1]at h;exact q _ h
   ·next c1=>
    rw[if_neg c1]at h;split
    ·rfl
    ·next c2=>rw[if_neg c2]at h;exact q _ h
 ·rfl
def aiQ(K:yh)(R:kC){fs gs:List PS}{rc sc:Int}{a:fQ}{F:List cO}(h:Fits fs gs (kF K R fs rc sc a F).2):kF K R gs rc sc a F=kF K R fs rc sc a F:=by
 unfold kF at*;split
 ·next c=>rw[if_pos c]at h;rw[Ze K h]
 ·next c=>
  rw[if_neg c]at h;split
  ·next d=>rw[if_pos d]at h;rw[YV K h]
  ·next d=>rw[if_neg d]at h;rw[YV K h]
def afL (K:yh) (R:kC) {fs gs:List PS} {rc sc:Int} (l:List fQ) (h:Fits fs gs (bW K R fs rc sc l [])) (i:Nat) (a:fQ) (hi:l[i]?=some a):
  kF K R gs rc sc a (bW K R fs rc sc (l.take i) [])=kF K R fs rc sc a (bW K R fs rc sc (l.take i) []):=by
 refine aiQ K R (h.pre ?_);have hlt:=(a00.mp hi).1;have e:l=l.take (i+1)++l.drop (i+1):=(List.take_append_drop _ _).symm;have e1:l.take (i+1)=l.take i++[a]:=by rw[aw5 hlt];congr 1;rw[a01 hlt]at hi;rw[az7 hi]
 have e2:bW K R fs rc sc l []=bW K R fs rc sc (l.drop (i+1)) (kF K R fs rc sc a (bW K R fs rc sc (l.take i) [])).2:=by
  conv=>lhs;rw[e,zL,e1,zL]
  rfl
 rw[e2];exact aac K R fs rc sc _ _
def JF(F:List cO)(n:LU):Bool:=F.any fun f=>decide (f.name=n)
def Oy(F:List cO)(fs more:List PS):List PS:=more.filter (fun p=>!JF F p.1)++fs.filter (fun p=>JF F p.1)
def afT(F:List cO)(fs more:List PS):Fits fs (Oy F fs more) F:=fun f hf=>by
 have w:JF F f.name=true:=aC7.mpr ⟨f,hf,by simp⟩
 unfold ahR Oy;rw[List.find?_append,List.find?_filter,List.find?_filter];have e1:more.find? (fun a=>decide ((!JF F a.fst)=true/\decide (a.fst=f.name)=true))=none:=List.find?_eq_none.mpr fun p hp=>by
  by_cases c:p.1=f.name
  ·simp[c,w]
  ·simp[c]
 have e2:(fun a:PS=>decide (JF F a.fst=true/\decide (a.fst=f.name)=true))=fun p=>decide (p.1=f.name):=by
  funext p
  by_cases c:p.1=f.name
  ·simp[c,w]
  ·simp[c]
 rw[e1,e2];rfl
variable{C:Ctx}
def Kcl(zs:LA)(sz bytes:Nat):KF:=⟨1,8,[(.tmp 2)],(.seq (.ops [o 2 (.mv (.c .nils))])
 (.seq (.seq (.ops [m 3 0,o 4 (.bin .eql 7 true (.t 3) (.c .nils))])
 (.cond (.t 4)
 (.seq (.ops [o 2 (.mv (.c .nils))])
 (.ret [2]))
 .skip))
 (.seq (.ops [o 5 (.buildSl zs 0 sz []),m 6 0,o 7 (.app false sz bytes none (.t 5) (.t 6)),m 2 7])
 (.ret [2]))))⟩
def clone_any{f:FuncId}{zs:LA}{sz bytes:Nat}(hC:Has C f (Kcl zs sz bytes))(hb:bytes<=48)(hz:0<sz)(ho:Eb zs=false)(n:Nat)(l:LA)(hl:l.length=n*sz)(h0:0<n)(hn:n<=1099511627776)(hs:l.all We=true)(O:St)(hσ:Ok O):aj C f [.sl n l] O=some (.sl n l,O):=by
 have ns:=af5 hs;rw[hC.go (NVs.hand (.cons (.sl n ns.cl) .nil) _)];have fa:=abr hs;have h1:¬n=0:=by omega
 have nb:n*bytes<=70368744177664:=ax8 (Nat.mul_le_mul hn hb) (by decide)
 have ap:=fun Y:St=>TZ Y none (sz:=sz) (bytes:=bytes) (n:=0) (m:=n) (l:=[]) l h1 (by simp) (by rw[av5];exact nb) (by omega)
 simp only[av5,a99]at ap;have ft:l.take (n*sz)=l:=a08 (by omega)
 have nr:∀Y,dE Y 11 l=some (l,[]):=fun Y=>by
  show aV Y (dE Y 10) l=_;exact ns.nf _ _
 have hd:∀Y:St,hand false [.msl Y.length 0 n sz] (Y++[.cells l FZ])=some ([.sl n l],Y++[.cells l ⟨true,none⟩]):=fun Y=>by
  have hle:0+n*sz<=l.length:=by omega
  have:bF (Y++[.cells l FZ]) (dE (Y++[.cells l FZ]) 11) (.msl Y.length 0 n sz)=some (.sl n l,[Y.length]):=by
   unfold bF;rw[aJ];show(if 0+n*sz<=l.length then match dE _ 11 ((l.drop 0).take (n*sz))with|some (l,fs)=>some (AV.sl n l,Y.length::fs)|none=>none else none)=_
   rw[if_pos hle,au7,ft,nr]
  rw[oK,aO,this,vX];show some ([AV.sl n l],freeze (Y++[.cells l FZ]) [Y.length])=_;unfold freeze;rw[aJ];show some ([AV.sl n l],freeze ((Y++[AO.cells l FZ]).set Y.length (AO.cells l ⟨true,none⟩)) [])=_;rw[iJ];rfl
 have ty:=fun L=>bY hσ (vs:=[.sl n l]) (by rw[ai,below,ns.cl];rfl) L
 have e:∀(E:As) (Y:St),look E 2=.msl O.length 0 n sz->Y=O++[AO.cells l FZ]->xP O.length [.tmp 2] (some (.ret,E,Y))=some (.sl n l,O):=fun E Y hE hτ=>by
  subst hτ;rw[wG,show bg E (O++[AO.cells l FZ]) [.tmp 2]=some [look E 2]from rfl,hE];dsimp only;rw[hd];dsimp only;rw[ty];rfl
 generalize hK:xP=eR at*;simp only[Kcl,hl,h0,ho,Ef,Nat.zero_mul,fa,ap,EVX,seval];rw[<-hK]at*;exact e _ _ rfl rfl
end Go.Ev
namespace Go.Ev
set_option maxRecDepth 100000
variable{C C1:Ctx}
def afr (x:Nat) (nm n:LU) (F:List cO) (hF:F.length<=1000) {fz:Fz} {O:St} (hx:O[x]?=some (.cells [.sl F.length (F.flatMap (mD nm))] fz)):∀(k i:Nat),i+k=F.length->
  aH C (aj C) 18 [0,1,4] dQ [(0,.str n),(1,.ref x 0),(4,.int .i64 i)] O=some (if JF (F.drop i) n then(.ret,[(3,.bool true)],O)else(.exit 0,[],O))
 |0,i,hi=>by
  rw[aB (he:=rfl),au5 (by omega)]
  have h:¬((i:Int)<(F.length:Int)):=by omega
  simp only[dQ,hx,h,JF,List.any_nil,ay7,if_false,aY,EVX,seval]
 |k+1,i,hi=>by
  rw[aB (he:=rfl)];have h:((i:Int)<(F.length:Int)):=by omega
  have hil:i<F.length:=by omega
  have bi:F[i]?=some F[i]:=a01 hil;have dr:F.drop i=F[i]::F.drop (i+1):=au1 hil;have hw:=wrS i (by omega)
  have h0:(0:Int)<=i:=by omega
  have fl:=aU (WM nm) F;have fi:=fB (WM nm) bi;rw[dr];generalize F[i]=f at*;have pf:mD nm f=[.str nm,.str f.name,.int .i64 f.cap,.int .i64 f.size]:=rfl;have ih:=afr x nm n F hF hx k (i+1) (by omega)
  generalize hk:aH C (aj C) 18 [0,1,4] dQ=kk at*;by_cases c:f.name=n
  ·have w:JF (f::F.drop (i+1)) n=true:=by simp[JF,c]
   rw[if_pos w];simp only[dQ,hx,h,hil,h0,hw,ih,c,fl,fi,pf,aY,EVX,seval]
  ·have w:JF (f::F.drop (i+1)) n=JF (F.drop (i+1)) n:=by simp[JF,c]
   rw[w];simp only[dQ,hx,h,hil,h0,hw,ih,c,fl,fi,pf,aY,EVX,seval]
def anE (hW:Has C dO gU) (x:Nat) (nm n:LU) (F:List cO) (hF:F.length<=1000) {fz:Fz} {O:St} (hσ:Ok O) (hx:O[x]?=some (.cells [.sl F.length (F.flatMap (mD nm))] fz)):
  aj C dO [.str n,.ref x 0] O=some (.bool (JF F n),O):=by
 have hn:hand false [.str n,.ref x 0] O=some ([.str n,.ref x 0],O):=rfl;have lp:=afr (C:=C) x nm n F hF hx F.length 0 (by omega)
 rw[show((0:Nat):Int)=0 from rfl,au7]at lp;rw[hW.go hn];cases w:JF F n
 ·rw[w,if_neg (by decide)]at lp
  simp only[gU,lp,EVX,seval]
 ·rw[w,if_pos rfl]at lp;simp only[gU,lp,EVX,seval]
def jH.dC(c:jH)(fv:AV):LA:=[.str c.nm,.str c.data,fv,.bool c.h,Kq c.l,.int .i64 c.now,.int .i64 c.b0,.int .i64 c.b1,.int .i64 c.rc,.int .i64 c.sc]
def VW(x:Nat):AV:=.func (.func dO) [] [.ref x 0]
structure Grow(c:jH)(d:Nat)(T:St)(xs:List PS)(fv:AV)(oo:Option Nat):Prop where
 ok:Ok T
 at':T[d]?=some (.cells (c.dC fv) FZ)
 row:TV T fv 2 pC xs oo
 far:∀q,oo=some q->d<q
def adM(c:jH){n:Nat}{fv:AV}(h:below n fv=true):AO.below n (.cells (c.dC fv) FZ)=true:=by
 have:=below_mono (au3 n) _ (TL c.l).cl;simp[AO.below,jH.dC,ai,below,h,this]
def aed {c:jH} {d:Nat} {T:St} {xs:List PS} {fv:AV} {oo:Option Nat} (g:Grow c d T xs fv oo) (p:PS) (hl:xs.length<=2000):
  ∃S U,tY T 2 32 none fv 1 [.str p.1,.str p.2]=some (.msl T.length 0 (xs.length+1) 2,S)/\S[d]?=some (.cells (c.dC fv) FZ)/\S.set d (.cells (c.dC (.msl T.length 0 (xs.length+1) 2)) FZ)=U/\Grow c d U (xs++[p]) (.msl T.length 0 (xs.length+1) 2) (some T.length)/\(∀k,k<d->U[k]?=T[k]?)/\T.length<=U.length:=by
 have dl:=(a00.mp g.at').1;obtain⟨S,a1,l1,n1,k1,ok1⟩:=acV (c:=pC) (sz:=2) (bytes:=32) g.ok (fun _=>rfl) (fun _=>rfl) g.row (by omega) (by omega) p
 have sd:S[d]?=some (.cells (c.dC fv) FZ):=k1 d _ (fun e=>by have:=g.far d e;omega) g.at'
 refine⟨S,_,a1,sd,rfl,⟨Ok.set2 ok1 d (adM c (by simp only[below,decide_eq_true_eq];omega)),bC sd _,.inr ⟨T.length,rfl,by simp,by simp,aI n1 (by omega) _⟩,fun q e=>by cases e;exact dl⟩,fun k hk=>?_,by rw[a96,l1];omega⟩
 grind [Grow]
def Uf (hW:Has C dO gU) (c:jH) (F:List cO) (hF:F.length<=1000) (more:List PS) (hm:more.length<=1000) (b x d:Nat) (hx:x<d) (v1:AV):∀(n i:Nat) (xs:List PS) (fv:AV) (oo:Option Nat) (T:St),i+n=more.length->xs.length+n<=2000->Grow c d T xs fv oo->T[x]?=some (.cells [.sl F.length (F.flatMap (mD c.nm))] FZ)->
  ∃(fv':AV) (oo':Option Nat) (T':St),aH C (aj C) 197 [1,2,3,10,11,12,13] cu [(1,v1),(2,.sl more.length (more.flatMap pC)),(3,.ref b 0),(10,.ref x 0),(11,VW x),(12,.ref d 0),(13,.int .i64 i)] T=some (.exit 2,[(1,v1),(3,.ref b 0),(10,.ref x 0),(11,VW x),(12,.ref d 0)],T')/\
   Grow c d T' (xs++(more.drop i).filter fun p=>!JF F p.1) fv' oo'/\(∀k,k<d->T'[k]?=T[k]?)/\T.length<=T'.length
 |0,i,xs,fv,oo,T,hi,hl,g,xx=>by
  refine⟨fv,oo,T,?_,by grind,fun _ _=>rfl,a06 _⟩
  rw[aB (he:=rfl)];have h:¬((i:Int)<(more.length:Int)):=by omega
  simp only[cu,h,aY,EVX,seval]
 |n+1,i,xs,fv,oo,T,hi,hl,g,xx=>by
  have h:((i:Int)<(more.length:Int)):=by omega
  have hil:i<more.length:=by omega
  have bi:more[i]?=some more[i]:=a01 hil;have dr:more.drop i=more[i]::more.drop (i+1):=au1 hil;have hw:=wrS i (by omega)
  have h0:(0:Int)<=i:=by omega
  have fl:=aU tJ more;have fi:=fB tJ bi;rw[dr];generalize more[i]=p at*;rw[show pC p=[.str p.1,.str p.2]from rfl]at fi;have wi:=anE hW x c.nm p.1 F hF g.ok xx;have gd:=g.at';unfold jH.dC at gd;have cv:=fun(args:LA) (Y:St)=>jZ (C:=C) dO [] [.ref x 0] args Y;cases w:JF F p.1
  ·obtain⟨S,U,a1,a2,a3,a4,a5,a6⟩:=aed g p (by omega)
   obtain⟨fv',oo',T',r1,r2,r3,r4⟩:=Uf hW c F hF more hm b x d hx v1 n (i+1) _ _ _ U (by omega) (by simp;omega) a4 (by rw[a5 x hx];exact xx)
   refine⟨fv',oo',T',?_,by grind,fun k hk=>by rw[r3 k hk,a5 k hk],by omega⟩
   rw[w]at wi;rw[<-r1,aB (he:=rfl)];unfold jH.dC at a2 a3;unfold VW;generalize hk:aH C (aj C) 197 [1,2,3,10,11,12,13] cu=kk at*;simp only[cu,h,hil,h0,hw,fl,fi,cv,wi,gd,a1,a2,a3,aY,AV.cells,AV.flat,splice,a99,a81,EVX,seval]
  ·obtain⟨fv',oo',T',r1,r2,r3,r4⟩:=Uf hW c F hF more hm b x d hx v1 n (i+1) xs fv oo T (by omega) (by omega) g xx
   refine⟨fv',oo',T',?_,by grind,r3,r4⟩
   rw[w]at wi;rw[<-r1,aB (he:=rfl)];unfold VW;generalize hk:aH C (aj C) 197 [1,2,3,10,11,12,13] cu=kk at*;simp only[cu,h,hil,h0,hw,fl,fi,cv,wi,gd,aY,AV.cells,AV.flat,splice,a99,a81,EVX,seval]
def XP (hW:Has C dO gU) (c:jH) (F:List cO) (hF:F.length<=1000) (hm:c.fs.length<=1000) (b x d:Nat) (hx:x<d) (hb:b<d) (v1:AV):∀(n i:Nat) (xs:List PS) (fv:AV) (oo:Option Nat) (T:St),i+n=c.fs.length->xs.length+n<=2000->Grow c d T xs fv oo->T[x]?=some (.cells [.sl F.length (F.flatMap (mD c.nm))] FZ)->T[b]?=some (.cells c.cs FZ)->
  ∃(fv':AV) (oo':Option Nat) (T':St),aH C (aj C) 197 [1,3,10,11,12,14] dB [(1,v1),(3,.ref b 0),(10,.ref x 0),(11,VW x),(12,.ref d 0),(14,.int .i64 i)] T=some (.exit 4,[(1,v1),(3,.ref b 0),(10,.ref x 0),(12,.ref d 0)],T')/\
   Grow c d T' (xs++(c.fs.drop i).filter fun p=>JF F p.1) fv' oo'/\(∀k,k<d->T'[k]?=T[k]?)/\T.length<=T'.length
 |0,i,xs,fv,oo,T,hi,hl,g,xx,xb=>by
  refine⟨fv,oo,T,?_,by grind,fun _ _=>rfl,a06 _⟩
  rw[aB (he:=rfl)];have h:¬((i:Int)<(c.fs.length:Int)):=by omega
  unfold jH.cs at xb;simp only[dB,h,xb,aY,EVX,seval]
 |n+1,i,xs,fv,oo,T,hi,hl,g,xx,xb=>by
  have h:((i:Int)<(c.fs.length:Int)):=by omega
  have hil:i<c.fs.length:=by omega
  have bi:c.fs[i]?=some c.fs[i]:=a01 hil;have dr:c.fs.drop i=c.fs[i]::c.fs.drop (i+1):=au1 hil;have hw:=wrS i (by omega)
  have h0:(0:Int)<=i:=by omega
  have fl:=aU tJ c.fs;have fi:=fB tJ bi;rw[dr];generalize c.fs[i]=p at*;rw[show pC p=[.str p.1,.str p.2]from rfl]at fi;have wi:=anE hW x c.nm p.1 F hF g.ok xx;have gd:=g.at';unfold jH.dC at gd;have xb':=xb;unfold jH.cs at xb';have cv:=fun(args:LA) (Y:St)=>jZ (C:=C) dO [] [.ref x 0] args Y;cases w:JF F p.1
  ·obtain⟨fv',oo',T',r1,r2,r3,r4⟩:=XP hW c F hF hm b x d hx hb v1 n (i+1) xs fv oo T (by omega) (by omega) g xx xb
   refine⟨fv',oo',T',?_,by grind,r3,r4⟩
   rw[w]at wi;rw[<-r1,aB (he:=rfl)];unfold VW;generalize hk:aH C (aj C) 197 [1,3,10,11,12,14] dB=kk at*;simp only[dB,h,hil,h0,hw,fl,fi,cv,wi,gd,xb',aY,AV.cells,AV.flat,splice,a99,a81,EVX,seval]
  ·obtain⟨S,U,a1,a2,a3,a4,a5,a6⟩:=aed g p (by omega)
   obtain⟨fv',oo',T',r1,r2,r3,r4⟩:=XP hW c F hF hm b x d hx hb v1 n (i+1) _ _ _ U (by omega) (by simp;omega) a4 (by rw[a5 x hx];exact xx) (by rw[a5 b hb];exact xb)
   refine⟨fv',oo',T',?_,by grind,fun k hk=>by rw[r3 k hk,a5 k hk],by omega⟩
   rw[w]at wi;rw[<-r1,aB (he:=rfl)];unfold jH.dC at a2 a3;unfold VW;generalize hk:aH C (aj C) 197 [1,3,10,11,12,14] dB=kk at*;simp only[dB,h,hil,h0,hw,fl,fi,cv,wi,gd,xb',a1,a2,a3,aY,AV.cells,AV.flat,splice,a99,a81,EVX,seval]
def ajS{f:FuncId}{K:KF}(h:Has C f K){args args':LA}{O O':St}(hn:hand false args O=some (args',O'))(hn':hand false args' O'=some (args',O'))(hl:O'.length=O.length):aj C f args O=aj C f args' O':=by
 rw[h.run,h.run];unfold DD;rw[hn,hn',hl]
def amo:∀xs:List PS,NVs (xs.flatMap pC)
 |[]=>.nil
 |p::xs=>by
  rw[ay2];exact .cons (.str _) (.cons (.str _) (amo xs))
def ao3 {c:jH} {d:Nat} {T:St} {xs:List PS} {fv:AV} {oo:Option Nat} (g:Grow c d T xs fv oo):
  ∃T',hand false [.agg (c.dC fv)] T=some ([.agg {c with fs:=xs}.cs],T')/\Ok T'/\T'.length=T.length/\∀k,k<d->T'[k]?=T[k]?:=by
 have vn:=(TL c.l);have e:∀(fs:List Nat) (n:Nat) (l:LA),bF T (dE T 11) fv=some (.sl n l,fs)->aV T (dE T 11) [.agg (c.dC fv)]=some ([.agg [.str c.nm,.str c.data,.sl n l,.bool c.h,Kq c.l,.int .i64 c.now,.int .i64 c.b0,.int .i64 c.b1,.int .i64 c.rc,.int .i64 c.sc]],fs):=fun fs n l h=>by
  have r:=(NVs.cons (.bool c.h) (.cons vn (.cons (.int .i64 c.now) (.cons (.int .i64 c.b0) (.cons (.int .i64 c.b1) (.cons (.int .i64 c.rc) (.cons (.int .i64 c.sc) .nil))))))).nf T (dE T 11);unfold jH.dC;rw[aO,bz,aO,aO,aO,h,r,vX];simp[bF]
 rcases g.row with⟨rfl,_,rfl⟩|⟨q,e1,e2,rfl,e4⟩
 ·refine⟨T,?_,g.ok,rfl,fun _ _=>rfl⟩;rw[oK,e [] 0 [] (dI _ _)];rfl
 ·have ln:(xs.flatMap pC).length=xs.length*2:=aU tJ xs;have nv:NVs (xs.flatMap pC):=amo xs;refine⟨T.set q (.cells (xs.flatMap pC) ⟨true,none⟩),?_,Ok.set2 g.ok q (AO.below_mono (au3 _) _ nv.cl),a96,fun k hk=>?_⟩
  ·rw[oK,e [q] xs.length (xs.flatMap pC) (Ls e4 ln nv),<-zt e4];rfl
  ·have:=g.far q e1;rw[ay0 (by omega)]
set_option maxHeartbeats 1000000
def aj7 (H:Ae C C1) (hA:Has C aT dh) {K:yh} (p:Rp) (l:List fQ) (hl:l.length<=12) (hk:∀a∈l,CO a) (v2 v3:AV):∀(n i:Nat) (oo:Option Nat) (S:St),i+n=l.length->Ok S->
  (p.to (bW K p.R p.fs p.rc p.sc (l.take i) []) oo).at' S->(p.to (bW K p.R p.fs p.rc p.sc (l.take i) []) oo).good C1 K->(bW K p.R p.fs p.rc p.sc (l.take i) []).length<=2*i->
  ∃(oo':Option Nat) (S':St),aH C (aj C) 197 [1,2,3,7,9] dA [(1,xO l),(2,v2),(3,v3),(7,.ref p.r 0),(9,.int .i64 i)] S=some (.exit 0,[(1,xO l),(2,v2),(3,v3),(7,.ref p.r 0)],S')/\
   Stp S S' (p.to (bW K p.R p.fs p.rc p.sc (l.take i) []) oo) (p.to (bW K p.R p.fs p.rc p.sc l []) oo')/\(p.to (bW K p.R p.fs p.rc p.sc l []) oo').good C1 K/\(bW K p.R p.fs p.rc p.sc l []).length<=2*l.length:=by
 intro n
 induction n with
 |zero=>
  intro i oo S hi hS h1 h2 h3;have e:l.take i=l:=a08 (by omega)
  rw[e]at h1 h2 h3;refine⟨oo,S,?_,by rw[e];exact Stp.refl hS h1,h2,by omega⟩
  rw[aB (he:=rfl)];have h:¬((i:Int)<(l.length:Int)):=by omega
  unfold xO;simp only[dA,h,aY,EVX,seval]
 |succ n ih=>
  intro i oo S hi hS h1 h2 h3;have h:((i:Int)<(l.length:Int)):=by omega
  have hlt:i<l.length:=by omega
  have hb:l[i]?=some l[i]:=a01 hlt;have hm:CO l[i]:=hk _ (ax1 hlt);have hw:=wrS i (by omega)
  have hp0:(0:Int)<=i:=by omega
  have fl:=aU fQ.len l;have fd:=fB fQ.len hb;have tk:l.take (i+1)=l.take i++[l[i]]:=aw5 hlt;generalize hae:l[i]=a at*;have eF:bW K p.R p.fs p.rc p.sc (l.take (i+1)) []=(kF K p.R p.fs p.rc p.sc a (bW K p.R p.fs p.rc p.sc (l.take i) [])).2:=by rw[tk,zL];rfl
  obtain⟨S1,o1,q1,q2,q3⟩:=ac6 H hA h2 hS h1 (by show(bW K p.R p.fs p.rc p.sc (l.take i) []).length+1<_;omega) a hm
  have ok2:=(IV h2.case h2.fet p.rc p.sc a hm).2.2.2;change Stp S S1 _ (p.to (kF K p.R p.fs p.rc p.sc a (bW K p.R p.fs p.rc p.sc (l.take i) [])).2 o1)at q2;change(p.to (kF K p.R p.fs p.rc p.sc a (bW K p.R p.fs p.rc p.sc (l.take i) [])).2 o1).good C1 K at q3;change aj C aT [.ref p.r 0,.agg a.cs] S=_ at q1;change(kF K p.R p.fs p.rc p.sc a (bW K p.R p.fs p.rc p.sc (l.take i) [])).2.length<=(bW K p.R p.fs p.rc p.sc (l.take i) []).length+2 at ok2;rw[<-eF]at q2 q3 ok2;obtain⟨oo',S',r1,r2,r3,r4⟩:=ih (i+1) o1 S1 (by omega) q2.ok q2.at' q3 (by omega)
  refine⟨oo',S',?_,q2.trans r2,r3,r4⟩;have ac:a.cs=[.int .u8 a.kind,.str a.name,.int .i64 a.auth.th,.sl a.auth.ids.length (a.auth.ids.flatMap sC),.sl a.keys.length (a.keys.flatMap pC)]:=rfl;rw[ac]at q1 fd;rw[<-r1,aB (he:=rfl)];generalize hkk:aH C (aj C) 197 [1,2,3,7,9] dA=kk;unfold xO;simp only[dA,h,hlt,hp0,hw,fl,fd,q1,aY,EVX,seval]
structure Both(C1:Ctx)(K:yh)(p q:Rp)(F:List cO)(op oq:Option Nat)(n0:Nat)(S:St):Prop where
 ok:Ok S
 pa:(p.to F op).at' S
 qa:(q.to F oq).at' S
 pg:(p.to F op).good C1 K
 qg:(q.to F oq).good C1 K
 dj:aiK (p.to F op) (q.to F oq)
 po:∀i,(p.to F op).has i->n0<=i
 qo:∀i,(q.to F oq).has i->n0<=i
 len:n0<=S.length
def aj8 (H:Ae C C1) (hA:Has C aT dh) (s23:Xj C) (s24:abX C) {K:yh} (p q:Rp) (l:List fQ) (hl:l.length<=12) (hk:∀a∈l,CO a) (qR:q.R=p.R) (qc:q.rc=p.rc) (qs:q.sc=p.sc) (hf:Fits p.fs q.fs (bW K p.R p.fs p.rc p.sc l [])) (v10:AV) (n0:Nat):∀(n i:Nat) (op oq:Option Nat) (S:St),i+n=l.length->(bW K p.R p.fs p.rc p.sc (l.take i) []).length<=2*i->Both C1 K p q (bW K p.R p.fs p.rc p.sc (l.take i) []) op oq n0 S->
  ∃(op' oq':Option Nat) (S':St),aH C (aj C) 197 [1,10,15,17,19] gV [(1,xO l),(10,v10),(15,.ref q.r 0),(17,.ref p.r 0),(19,.int .i64 i)] S=some (.exit 6,[(10,v10),(15,.ref q.r 0),(17,.ref p.r 0)],S')/\
   Both C1 K p q (bW K p.R p.fs p.rc p.sc l []) op' oq' n0 S'/\S'.take n0=S.take n0:=by
 intro n
 induction n with
 |zero=>
  intro i op oq S hi hL B;have e:l.take i=l:=a08 (by omega)
  rw[e]at B;refine⟨op,oq,S,?_,B,rfl⟩;rw[aB (he:=rfl)];have h:¬((i:Int)<(l.length:Int)):=by omega
  unfold xO;simp only[gV,h,aY,EVX,seval]
 |succ n ih=>
  intro i op oq S hi hL B;have h:((i:Int)<(l.length:Int)):=by omega
  have hlt:i<l.length:=by omega
  have hb:l[i]?=some l[i]:=a01 hlt;have hm:CO l[i]:=hk _ (ax1 hlt);have hw:=wrS i (by omega)
  have hp0:(0:Int)<=i:=by omega
  have fl:=aU fQ.len l;have fd:=fB fQ.len hb;have tk:l.take (i+1)=l.take i++[l[i]]:=aw5 hlt;have ae:=afL K p.R l hf i l[i] hb;generalize hae:l[i]=a at*;have eF:bW K p.R p.fs p.rc p.sc (l.take (i+1)) []=(kF K p.R p.fs p.rc p.sc a (bW K p.R p.fs p.rc p.sc (l.take i) [])).2:=by rw[tk,zL];rfl
  generalize hFi:bW K p.R p.fs p.rc p.sc (l.take i) []=Fi at*;obtain⟨S1,o1,q1,q2,q3⟩:=ac6 H hA B.pg B.ok B.pa (by show Fi.length+1<_;omega) a hm
  have okk:=IV B.pg.case B.pg.fet p.rc p.sc a hm;change aj C aT [.ref p.r 0,.agg a.cs] S=some (.tup [.agg (kF K p.R p.fs p.rc p.sc a Fi).1.1.cs,.agg (kF K p.R p.fs p.rc p.sc a Fi).1.2.1.cs,.int .u8 (kF K p.R p.fs p.rc p.sc a Fi).1.2.2],S1)at q1;change Stp S S1 _ (p.to (kF K p.R p.fs p.rc p.sc a Fi).2 o1)at q2;change(p.to (kF K p.R p.fs p.rc p.sc a Fi).2 o1).good C1 K at q3;change(kF K p.R p.fs p.rc p.sc a Fi).1.1.ok/\(kF K p.R p.fs p.rc p.sc a Fi).1.2.1.ok/\zF _ (kF K p.R p.fs p.rc p.sc a Fi).2/\(kF K p.R p.fs p.rc p.sc a Fi).2.length<=Fi.length+2 at okk;obtain⟨qS1,dj1⟩:=q2.other B.qa B.dj;have b1:AO.below 0 (.cells (kF K p.R p.fs p.rc p.sc a Fi).1.1.cs FZ)=true:=(kF K p.R p.fs p.rc p.sc a Fi).1.1.nvs.cl;have b2:=IX (kF K p.R p.fs p.rc p.sc a Fi).1.2.1;have okS1:Ok (S1++[.cells (kF K p.R p.fs p.rc p.sc a Fi).1.1.cs FZ,.cells (kF K p.R p.fs p.rc p.sc a Fi).1.2.1.cs FZ]):=q2.ok.plus (by grind)
  obtain⟨S2,o2,r1,r2,r3⟩:=ac6 H hA B.qg okS1 (qS1.app _) (by show Fi.length+1<_;omega) a hm
  have aq:(q.to Fi oq).ask K a=kF K p.R p.fs p.rc p.sc a Fi:=by
   show kF K q.R q.fs q.rc q.sc a Fi=_;rw[qR,qc,qs,ae]
  rw[aq]at r1 r2 r3;change aj C aT [.ref q.r 0,.agg a.cs] _=_ at r1;change Stp _ S2 _ (q.to (kF K p.R p.fs p.rc p.sc a Fi).2 o2)at r2;change(q.to (kF K p.R p.fs p.rc p.sc a Fi).2 o2).good C1 K at r3;obtain⟨pS2,dj2⟩:=r2.other ((q2.at').app _) dj1.symm;have l1:=q2.len;have l2:=r2.len;simp only[a04,a09,a90]at l2;have po1:=q2.frm (n:=n0) B.len B.po;have qo2:=r2.frm (n:=n0) (by simp;have:=B.len;omega) B.qo
  generalize hG:kF K p.R p.fs p.rc p.sc a Fi=G at*;obtain⟨⟨sv,tv,cz⟩,F1⟩:=G;dsimp only at*;have okS2:Ok (S2++[.cells sv.cs FZ,.cells tv.cs FZ]):=r2.ok.plus (by grind)
  have k1:=q2.pre (n:=n0) B.len B.po;have k2:S2.take n0=S1.take n0:=by
   have:=B.len;rw[r2.pre (n:=n0) (by simp;omega) B.qo,av8 (by omega)]
  have x1:S2[S1.length]?=some (.cells sv.cs FZ):=r2.old _ _ (fun h=>by have:=Rp.lt qS1 h;omega) (by rw[aJ];rfl)
  have x2:S2[S1.length+1]?=some (.cells tv.cs FZ):=r2.old _ _ (fun h=>by have:=Rp.lt qS1 h;omega) (by rw[bI];rfl)
  have x1L:=fun L=>aA x1 L;have x2L:=fun L=>aA x2 L;have c23:=agJ s23 sv okk.1 _ okS2;have c24:=agK s24 tv okk.2.1 _ okS2;obtain⟨op',oq',S',t1,t2,t3⟩:=ih (i+1) o1 o2 (S2++[.cells sv.cs FZ,.cells tv.cs FZ]) (by omega) (by rw[eF];omega) (by
   rw[eF];exact⟨okS2,pS2.app _,(r2.at').app _,q3,r3,dj2.symm,po1,qo2,by have:=B.len;simp;omega⟩)
  refine⟨op',oq',S',?_,t2,by rw[t3,av8 (by have:=B.len;omega),k2,k1]⟩
  have ac:a.cs=[.int .u8 a.kind,.str a.name,.int .i64 a.auth.th,.sl a.auth.ids.length (a.auth.ids.flatMap sC),.sl a.keys.length (a.keys.flatMap pC)]:=rfl;have spT:∀tv:jK,splice [.int .i64 0,.int .i64 0,.nils,.nils,.nils,.int .i64 0,.nils,.int .i64 0,.str []] 0 tv.cs=tv.cs:=fun _=>rfl;have spS:∀tv:SnV,splice [.int .i64 0,.int .i64 0,.nils] 0 tv.cs=tv.cs:=fun _=>rfl;rw[ac]at q1 fd r1;rw[<-t1,aB (he:=rfl)];generalize hkk:aH C (aj C) 197 [1,10,15,17,19] gV=kk;unfold xO;simp only[gV,h,hlt,hp0,hw,fl,fd,q1,r1,x1L,x2L,c23,c24,spT,spS,SnV.len,SnV.tk,SnV.fl,jK.len,jK.tk,jK.fl,aJ,iJ,bI,wU,aY,AV.cells,bne_self_eq_false,EVX,seval]
set_option maxHeartbeats 4000000
section
variable{call:bD}{n:Nat}
def anD{o:XOp}{A:As}{g:Nat}{b:Bool}(e:o.guard=some (g,b))(h:look A g=.bool b):kZ o A=true:=by
 unfold kZ;rw[e];dsimp only;rw[h];cases b<;>rfl
def atc(d:Option Nat)(i:XI)(g:Nat)(b:Bool)(c:List Nat)(l:List XOp)(A:As)(O:St)(h:look A g=.bool b):nT C call n (⟨d,i,some (g,b),c⟩::l) A O=VP d A O (opR call (aF C (avA C A) n O i)) (nT C call n l):=by
 rw[nT,um,if_pos (anD rfl h)];rfl
def atf(d:Nat)(i:XI)(g:Nat)(b:Bool)(l:List XOp)(A:As)(O:St)(h:look A g=.bool b):nT C call n (og d g b i::l) A O=VP (some d) A O (opR call (aF C (avA C A) n O i)) (nT C call n l):=atc _ i g b [] l A O h
def atP(d:Option Nat)(i:XI)(g:Nat)(b:Bool)(c:List Nat)(l:List XOp)(ss:List St)(A:As)(v:AV)(rs)(h:look A g=.bool b):dP C n ss (⟨d,i,some (g,b),c⟩::l) ((A,v)::rs)=((c.all fun c=>reR C n A i v ss[c]? ss[c+1]?)&&dP C n ss l rs):=by
 have e:∀c',jy C n ⟨d,i,some (g,b),c⟩ A v ss c'=jy C n ⟨d,i,none,c⟩ A v ss c':=fun c'=>by
  induction c' with
  |nil=>rfl
  |cons x c' ih=>rw[jy,jy,ih]
 rw[<-aro d i c l ss A v rs,dP,dP,anD rfl h,e];rfl
def asZ(d:Nat)(i:XI)(g:Nat)(b:Bool)(l:List XOp)(ss:List St)(A:As)(v:AV)(rs):dP C n ss (og d g b i::l) ((A,v)::rs)=dP C n ss l rs:=by
 rw[dP,show(og d g b i).loose=[]from rfl,jy,aA7,ax2]
end
def agu{nm:LU}{fs gs:List PS}{rc sc e:Int}(h:vH nm fs rc sc e=0)(hl:gs.length<=256)(hd:okD fs=true->okD gs=true):vH nm gs rc sc e=0:=by
 unfold vH aey at*
 grind
def aj6(F:List cO)(fs more:List PS):(Oy F fs more).length<=more.length+fs.length:=by
 unfold Oy
 grind
def aap(F:List cO)(fs more:List PS)(P:PS->Prop)(h1:∀p∈more,P p)(h2:∀p∈fs,P p):∀p∈Oy F fs more,P p:=fun p hp=>by
 grind [Oy]
def Yt (H:Xh C C1) (hW:Has C dO gU) (hO:Has C uK iR) (c:jH) (l:List fQ) (more:List PS) (O:St) (hσ:Ok O):
  aj C uK [.agg c.cs,xO l,.sl more.length (more.flatMap pC)] O=some (.bool true,O):=by
 have cb:AO.below 0 (.cells c.cs FZ)=true:=c.nvs.cl;have ok1:Ok (O++[.cells c.cs FZ]):=hσ.plus (by rw[a07,cb];rfl)
 have ty:=fun b=>bY hσ (vs:=[.bool b]) rfl;have lg:=Yu H.lng c [l] (by simp) _ ok1
 simp only[a09,a90,ay2,aD8,au6,av5]at lg;unfold Ua at lg;have ls:=JY H.lng.store [] [] more _ ok1;have aw:=H.awake _ ok1;have c10:c.cs.length=10:=rfl;have ct:c.cs.take 10=c.cs:=rfl;have cc:c.cs=[.str c.nm,.str c.data,.sl c.fs.length (c.fs.flatMap pC),.bool c.h,.sl c.l.length (c.l.flatMap iy.cs),.int .i64 c.now,.int .i64 c.b0,.int .i64 c.b1,.int .i64 c.rc,.int .i64 c.sc]:=rfl;have hn:hand false [.agg c.cs,xO l,.sl more.length (more.flatMap pC)] O=some ([.agg c.cs,xO l,.sl more.length (more.flatMap pC)],O):=NVs.hand (.cons (.agg c.nvs) (.cons (WA l) (.cons (vJ more) .nil))) O;rw[hO.go hn];unfold xO;cases cl:SE c [l]
 case true=>
  rw[cl]at lg;rw[cc]at lg aw⊢;simp only[iR,lg,aw,ty,aJ,AV.cells,EVX,seval]
 rw[cl]at lg;cases cm:PQ [] [] more
 case true=>
  rw[cm]at ls;rw[cc]at lg aw ls⊢;simp only[iR,lg,ls,aw,ty,aJ,AV.cells,EVX,seval]
 rw[cm]at ls;obtain⟨v1,v2,v3,v4,v5,v6⟩:=SG cl;obtain⟨l12,lok⟩:=v6 l (by simp)
 obtain⟨w1,_,w3⟩:=VM cm;have hw:IntKind.i64.wrap ((c.fs.length:Int)+(more.length:Int))=(c.fs.length:Int)+(more.length:Int):=wrE (by omega)
 by_cases cn:256<c.fs.length+more.length
 ·have cn':(256:Int)<(c.fs.length:Int)+(more.length:Int):=by omega
  rw[cc]at lg aw ls⊢;simp only[iR,lg,ls,hw,cn',aw,ty,aY,aJ,AV.cells,EVX,seval]
 have cn':¬(256:Int)<(c.fs.length:Int)+(more.length:Int):=by omega
 obtain⟨R,e,bv,rok,hK,mk⟩:=ai9 H cl;rcases mk c.now c.fs _ v3 v5 ok1 with⟨m1,m2⟩|⟨m1,r,T,m2,nr⟩
 ·have m1':(vH c.nm c.fs c.rc c.sc e !=0)=true:=by simpa using m1
  change aj C df [.agg c.cs] _=_ at m2;rw[cc]at lg aw ls m2⊢;simp only[iR,lg,ls,hw,cn',aw,m1',m2,ty,aY,aJ,AV.cells,EVX,seval]
 change aj C df [.agg c.cs] _=_ at m2;have pto:r.to (bW (bv.K c.now) r.R r.fs r.rc r.sc (l.take 0) []) r.oo=r:=by
  show r.to [] r.oo=r;unfold Rp.to;rw[<-nr.F]
 have own:=nr.own;have lT:=nr.len;simp only[a04,a09,a90]at own lT;have e0:T.take (O.length+1)=O++[AO.cells c.cs FZ]:=by
  have:=nr.pre;rw[a04]at this;exact this
 have tk0:T.take O.length=O:=by
  have:=congrArg (List.take O.length) e0
  grind
 obtain⟨oo',S,r1,r2,r3,r4⟩:=aj7 H.cat H.asked (K:=bv.K c.now) r l l12 lok (.sl more.length (more.flatMap pC)) (.ref O.length 0) l.length 0 r.oo T (by omega) nr.ok (by rw[pto];exact nr.at') (by rw[pto];exact nr.good) (by simp[bW])
 rw[pto]at r2;simp only[a97]at r1;have fe:=vY H.fet r2.ok r2.at' r3.uniq;obtain⟨_,_,p3,p4,p5,p6,p7,p8⟩:=nr.of;change r.rc=c.rc at p5;change r.sc=c.sc at p6;change r.nm=c.nm at p7;change r.fs=c.fs at p8;have lS:=r2.len;have preS:S.take O.length=O:=(r2.pre (by omega) (fun i h=>by have:=own i h;omega)).trans tk0
 have xb0:T[O.length]?=some (.cells c.cs FZ):=by rw[yM e0 (by simp),aJ];rfl
 have xb1:S[O.length]?=some (.cells c.cs FZ):=r2.old _ _ (fun h=>by have:=own _ h;omega) xb0
 change aj C dX [.ref r.r 0] S=some (.sl (bW (bv.K c.now) r.R r.fs r.rc r.sc l []).length ((bW (bv.K c.now) r.R r.fs r.rc r.sc l []).flatMap (mD r.nm)),S)at fe;rw[p3,p8,p5,p6]at r4;rw[p3,p8,p5,p6,p7]at fe;have fits:=afT (bW (bv.K c.now) R c.fs c.rc c.sc l []) c.fs more;generalize hFF:bW (bv.K c.now) R c.fs c.rc c.sc l []=F at*;have okS:=r2.ok;clear r2 r3 pto;have fb:ai 0 [AV.sl F.length (F.flatMap (mD c.nm))]=true:=by rw[ai,(afY c.nm F).cl];rfl
 have okT0:Ok (S++[.cells [.sl F.length (F.flatMap (mD c.nm))] FZ,.cells (c.dC .nils) FZ]):=okS.plus (by
  have:=adM c (n:=0) (fv:=.nils) rfl;have f2:AO.below 0 (.cells [AV.sl F.length (F.flatMap (mD c.nm))] FZ)=true:=fb
  grind)
 have g0:Grow c (S.length+1) (S++[.cells [.sl F.length (F.flatMap (mD c.nm))] FZ,.cells (c.dC .nils) FZ]) [] .nils none:=⟨okT0,by rw[bI];rfl,.inl ⟨rfl,rfl,rfl⟩,fun q e=>nomatch e⟩
 have xx0:(S++[AO.cells [.sl F.length (F.flatMap (mD c.nm))] FZ,.cells (c.dC .nils) FZ])[S.length]?=some (.cells [.sl F.length (F.flatMap (mD c.nm))] FZ):=by rw[aJ];rfl
 have xb2:(S++[AO.cells [.sl F.length (F.flatMap (mD c.nm))] FZ,.cells (c.dC .nils) FZ])[O.length]?=some (.cells c.cs FZ):=aA xb1 _;have pre0:(S++[AO.cells [.sl F.length (F.flatMap (mD c.nm))] FZ,.cells (c.dC .nils) FZ]).take O.length=O:=by grind
 have lT0:(S++[AO.cells [.sl F.length (F.flatMap (mD c.nm))] FZ,.cells (c.dC .nils) FZ]).length=S.length+2:=by simp
 obtain⟨fv1,o1,T1,g1,g2,g3,g4⟩:=Uf hW c F (by omega) more w1 O.length S.length (S.length+1) (by omega) (xO l) more.length 0 [] .nils none _ (by omega) (by simp;omega) g0 xx0
 rw[au7,a99]at g2;have fl1:(more.filter fun p=>!JF F p.1).length<=more.length:=List.length_filter_le _ _;obtain⟨fv2,o2,T2,h1,h2,h3,h4⟩:=XP hW c F (by omega) v3 O.length S.length (S.length+1) (by omega) (by omega) (xO l) c.fs.length 0 _ fv1 o1 T1 (by omega) (by omega) g2 (by rw[g3 _ (by omega)];exact xx0) (by rw[g3 _ (by omega)];exact xb2)
 rw[au7]at h2;change Grow c (S.length+1) T2 (Oy F c.fs more) fv2 o2 at h2;have el:=aj6 F c.fs more;have ed:=aap F c.fs more (fun p=>p.2.length<=LB) w3 v5;have ek:okD c.fs=true->okD (Oy F c.fs more)=true:=fun h=>by
  unfold okD at*;rw[a94]at*;refine aap F c.fs more _ (fun p hp=>?_) h;have:=(Uu more _ (Nat.not_le.mp (of_decide_eq_false cm))).2 p hp;exact decide_eq_true (by omega)
 obtain⟨T3,k1,k2,k3,k4⟩:=ao3 h2;have nvd:NVs {c with fs:=Oy F c.fs more}.cs:=jH.nvs _;have mh:=ajS H.made.made28 k1 (NVs.hand (.cons (.agg nvd) .nil) T3) k3;have fr3:∀k,k<S.length+1->T3[k]?=(S++[AO.cells [.sl F.length (F.flatMap (mD c.nm))] FZ,.cells (c.dC .nils) FZ])[k]?:=fun k hk=>by rw[k4 k hk,h3 k hk,g3 k hk]
 have lT3:S.length+2<=T3.length:=by omega
 generalize Oy F c.fs more=gs at*;rcases mk c.now gs T3 (by omega) ed k2 with⟨n1,_⟩|⟨n1,q,U,n2,ns⟩
 ·exact absurd (agu m1 (by omega) ek) n1
 rcases mk c.now c.fs U v3 v5 ns.ok with⟨n3,_⟩|⟨n3,p,V,n4,np⟩
 ·exact absurd m1 n3
 rw[<-mh]at n2;change aj C df [.agg c.cs] _=_ at n4;obtain⟨_,_,a3,a4,a5,a6,a7,a8⟩:=np.of;obtain⟨_,_,b3,b4,b5,b6,b7,b8⟩:=ns.of;change p.rc=c.rc at a5;change p.sc=c.sc at a6;change p.nm=c.nm at a7;change p.fs=c.fs at a8;change q.rc=c.rc at b5;change q.sc=c.sc at b6;change q.nm=c.nm at b7;change q.fs=gs at b8;have lU:=ns.len;have lV:=np.len;have pto:p.to [] p.oo=p:=by unfold Rp.to;rw[<-np.F]
 have qto:q.to [] q.oo=q:=by unfold Rp.to;rw[<-ns.F]
 have B:Both C1 (bv.K c.now) p q (bW (bv.K c.now) p.R p.fs p.rc p.sc (l.take 0) []) p.oo q.oo (S.length+1) V:=by
  show Both C1 (bv.K c.now) p q [] p.oo q.oo (S.length+1) V;refine⟨np.ok,?_,?_,?_,?_,?_,?_,?_,by omega⟩
  ·rw[pto];exact np.at'
  ·rw[qto];exact(ns.at').moved fun i x h e=>by rw[yM np.pre (Rp.lt ns.at' h)];exact e
  ·rw[pto];exact np.good
  ·rw[qto];exact ns.good
  ·rw[pto,qto];intro i x y;have:=np.own i x;have:=Rp.lt ns.at' y;omega
  ·rw[pto];intro i x;have:=np.own i x;omega
  ·rw[qto];intro i x;have:=ns.own i x;omega
 have fpq:bW (bv.K c.now) p.R p.fs p.rc p.sc l []=F:=by rw[a3,a8,a5,a6,hFF]
 obtain⟨op',oq',W,t1,t2,t3⟩:=aj8 H.cat H.asked H.s23 H.s24 p q l l12 lok (by rw[a3,b3]) (by rw[a5,b5]) (by rw[a6,b6]) (by rw[fpq,a8,b8];exact fits) (.ref S.length 0) (S.length+1) l.length 0 p.oo q.oo V (by omega) (by simp[bW]) B
 rw[fpq]at t2;have feq:=vY H.fet t2.ok t2.qa t2.qg.uniq;have fep:=vY H.fet t2.ok t2.pa t2.pg.uniq;change aj C dX [.ref q.r 0] W=some (.sl F.length (F.flatMap (mD q.nm)),W)at feq;change aj C dX [.ref p.r 0] W=some (.sl F.length (F.flatMap (mD p.nm)),W)at fep;rw[b7]at feq;rw[a7]at fep;have c26:=P8 H.s26 c.nm F (by omega) W
 have frW:∀k,k<S.length+1->W[k]?=(S++[AO.cells [.sl F.length (F.flatMap (mD c.nm))] FZ,.cells (c.dC .nils) FZ])[k]?:=fun k hk=>by
  have e1:W[k]?=V[k]?:=by
   have:=congrArg (fun l=>l[k]?) t3
   grind
  rw[e1,yM np.pre (by omega),yM ns.pre (by omega),fr3 k hk]
 have frV:∀k,k<S.length+1->U[k]?=(S++[AO.cells [.sl F.length (F.flatMap (mD c.nm))] FZ,.cells (c.dC .nils) FZ])[k]?:=fun k hk=>by
  rw[yM ns.pre (by omega),fr3 k hk]
 have xW:W[S.length]?=some (.cells [.sl F.length (F.flatMap (mD c.nm))] FZ):=by rw[frW _ (by omega)];exact xx0
 have xU:U[O.length]?=some (.cells c.cs FZ):=by rw[frV _ (by omega)];exact xb2
 have preW:W.take O.length=O:=by
  refine Eq.trans ?_ pre0;refine aw7 fun k=>?_;rw[au8,au8];split
  ·exact frW k (by omega)
  ·rfl
 have tyE:=qZ (vs:=[.bool true]) hσ rfl preW;have gd:=h2.at';have z:((0:Int) !=0)=false:=rfl;have spD:∀l:LA,splice [.str [],.str [],.nils,.bool false,.nils,.int .i64 0,.int .i64 0,.int .i64 0,.int .i64 0,.int .i64 0] 0 c.cs=c.cs:=fun _=>rfl;simp only[a97]at g1 h1 t1;unfold xO at r1 g1 h1 t1;clear k1 k2 k3 k4 mh ek ed el np ns B t2 t3 frW frV fr3 pre0 preW okT0 g0 g2 g3 h3 h2 nr mk hK okS preS tk0 e0 own;unfold VW at g1 h1;unfold jH.dC Kq at gd n2 g1;rw[cc]at lg aw ls m2 xb1 xb2 xU n4⊢;have xb1L:=fun L=>aA xb1 L;simp only[iR,lg,ls,hw,cn',aw,z,m2,r1,fe,xb1L,g1,h1,gd,n2,n4,xU,t1,feq,fep,xW,c26,tyE,atc,atf,atP,asZ,vS,aY,aJ,iJ,bI,wU,AV.cells,AV.flat,splice,EVX,seval]
structure ahg(C:Ctx):Prop where
 rmade:Has C jW lN
 root:Has C xm H9
 auth:Has C JR JI
 keys:Pj C mi 2
 strs:Pj C aG 1
def KL(H:ahg C)(a:fE)(ha:a.ids.length<=1099511627776)(O:St)(hσ:Ok O):aj C JR [.agg a.cs] O=some (.agg a.cs,O):=by
 have ac:a.cs=[.int .i64 a.th,.sl a.ids.length (a.ids.flatMap sC)]:=rfl;have cl:=fun Y=>H.strs a.ids.length (a.ids.flatMap sC) Y (by rw[aU BV]) ha (NE (f:=sC) (fun x=>rfl) _)
 have ab:=a.below;have ty:=fun L=>bY hσ (vs:=[.agg a.cs]) (by rw[ai,below,ab];rfl) L
 rw[H.auth.go (NVs.hand (.cons (WB a) .nil) _)];generalize hE:xP=eR;rw[ac];simp only[JI,cl,aJ,iJ,bI,wU,AV.cells,AV.flat,splice,EVX,seval];rw[<-hE];refine(Np (vs:=[.agg a.cs]) ?_ (.cons (WB a) .nil)).trans (by rw[<-ac,ty];rfl)
 rw[ac];simp only[bg,bI,EVX,seval]
def ahf(H:ahg C){p:Rp}{S:St}(hS:Ok S)(a:p.at' S)(hR:p.R.ok):aj C xm [.ref p.r 0] S=some (.agg p.R.cs,S):=by
 have hn:hand false [.ref p.r 0] S=some ([.ref p.r 0],S):=rfl;have Rc:p.R.cs=[.int .i64 p.R.ver,.int .i64 p.R.exp,.sl p.R.ks.length (p.R.ks.flatMap pC),.int .i64 p.R.rt.th,.sl p.R.rt.ids.length (p.R.rt.ids.flatMap sC),.int .i64 p.R.sn.th,.sl p.R.sn.ids.length (p.R.sn.ids.flatMap sC),.int .i64 p.R.tg.th,.sl p.R.tg.ids.length (p.R.tg.ids.flatMap sC)]:=rfl;have rp:=bG.rp a;unfold nH at rp;have z9:AO.below 0 (.cells [.int .i64 0,.int .i64 0,.nils,.int .i64 0,.nils,.int .i64 0,.nils,.int .i64 0,.nils] FZ)=true:=rfl;have rb:AO.below 0 (.cells p.R.cs FZ)=true:=p.R.nvs.cl;have mk:=Iz H.rmade ((bG.app a) [.cells [.int .i64 0,.int .i64 0,.nils,.int .i64 0,.nils,.int .i64 0,.nils,.int .i64 0,.nils] FZ]);have ok2:Ok (S++[.cells [.int .i64 0,.int .i64 0,.nils,.int .i64 0,.nils,.int .i64 0,.nils,.int .i64 0,.nils] FZ,.cells p.R.cs FZ]):=hS.plus (by simp only[a07,aw0,rb];rfl)
 have ck:=fun Y=>H.keys p.R.ks.length (p.R.ks.flatMap pC) Y (aU tJ _) (by have:=hR.ks.1;omega) (NE (f:=pC) (fun x=>rfl) _)
 have c1:=KL H p.R.rt (by have:=hR.rt.1;omega) _ ok2
 have c2:=KL H p.R.sn (by have:=hR.sn.1;omega) _ ok2
 have c3:=KL H p.R.tg (by have:=hR.tg.1;omega) _ ok2
 have ty:=fun L=>bY hS (vs:=[.agg p.R.cs]) (by rw[ai,below,p.R.nvs.cl];rfl) L
 unfold fE.cs at c1 c2 c3;rw[H.root.go hn];generalize hE:xP=eR;rw[Rc]at rp c1 c2 c3;simp only[a81,a99]at rp;have rpS:=fun L=>aA rp L;simp only[H9,mk,rpS,ck,c1,c2,c3,aJ,iJ,bI,wU,AV.cells,AV.flat,splice,EVX,seval];rw[<-hE];refine(Np (vs:=[.agg p.R.cs]) ?_ (.cons (.agg p.R.nvs) .nil)).trans (by rw[ty];rfl)
 rw[Rc];simp only[bg,aJ,EVX,seval]
structure abU(C:Ctx):Prop where
 files:Kt C eY eP
 map':∀(O:St) (m:Nat) (es:List (AV×AV)),O[m]?=some (.map es)->aj C gm [.map m] O=some (.map O.length,O++[.map es])
 ord:∀(O:St) (v:AV) (F:List cO) (oo:Option Nat),Ok O->F.length<=1000000->adt O v F oo->∃v' oo' L,aj C aG [v] O=some (v',O++L)/\Ok (O++L)/\adt (O++L) v' F oo'/\∀q,oo'=some q->O.length<=q
 store:Has C FC EU
 repo:Has C BM H7
def ah1 (H:abU C) {Y:St} (hτ:Ok Y) {nm fs F s m fo oo} (h:iZ Y nm fs F s m fo oo):
  ∃s' m' fo' oo' L,aj C FC [.ref s 0] Y=some (.ref s' 0,Y++L)/\Ok (Y++L)/\iZ (Y++L) nm fs F s' m' fo' oo'/\Y.length<=s'/\Y.length<=m'/\(∀q,fo'=some q->Y.length<=q)/\∀q,oo'=some q->Y.length<=q:=by
 have hn:=gJ s Y;obtain⟨fv,ov,hs,hf,ho⟩:=h.st;obtain⟨fv',fo',L1,a1,a2,a3,a4⟩:=U6 H.files hτ hf h.len.2;obtain⟨U,hU⟩:∃U,Y++L1=U:=⟨_,rfl⟩;have lU:Y.length+L1.length=U.length:=by rw[<-hU,a04]
 have b0:U[m]?=_:=hU▸aA h.mp L1;have hs2:U[s]?=_:=hU▸aA hs L1;have o2:adt U ov F oo:=hU▸TV.plus ho L1;rw[hU]at a1 a2 a3;have b1:=H.map' _ _ _ b0;have ok2:Ok (U++[.map (F.map cO.ent)]):=a2.plus (by rw[a07,aas];rfl)
 obtain⟨ov',oo',L2,c1,c2,c3,c4⟩:=H.ord _ ov F oo ok2 h.len.1 (TV.plus o2 _);have fc:fv'.cells=[fv']:=by
  rcases a3 with⟨_,_,rfl⟩|⟨q,fz,_,_,rfl,d⟩<;>rfl
 have oc:ov'.cells=[ov']:=by
  rcases c3 with⟨_,_,rfl⟩|⟨q,_,_,rfl,d⟩<;>rfl
 obtain⟨T,hT⟩:∃T,U++[.map (F.map cO.ent)]++L2=T:=⟨_,rfl⟩;have lT:U.length+1+L2.length=T.length:=by rw[<-hT];simp;omega
 have hs1:=fun L=>aA hs2 L;rw[hT]at c1 c2 c3;have f3:DJ T fv' fs fo':=hT▸(a3.plus _).plus _;have m3:T[U.length]?=some (.map (F.map cO.ent)):=by grind
 have hs3:T[s]?=_:=hT▸aA (hs1 _) L2;have fb:below (T.length+1) fv'=true:=by
  rcases f3 with⟨_,_,rfl⟩|⟨q,fz,_,_,rfl,d⟩
  ·rfl
  ·have:=(a00.mp d).1;simp only[below,decide_eq_true_eq];omega
 have ob:below (T.length+1) ov'=true:=by
  rcases c3 with⟨_,_,rfl⟩|⟨q,_,_,rfl,d⟩
  ·rfl
  ·have:=(a00.mp d).1;simp only[below,decide_eq_true_eq];omega
 have mb:U.length<T.length+1:=by omega
 have ok3:Ok (T++[.cells [.str nm,fv',.map U.length,ov'] FZ]):=Mc c2 (by simp[AO.below,ai,below,fb,ob,mb])
 have e1:T++[.cells [.str nm,fv',.map U.length,ov'] FZ]=Y++(L1++[.map (F.map cO.ent)]++L2++[.cells [.str nm,fv',.map U.length,ov'] FZ]):=by rw[<-hT,<-hU];simp
 have ty:tidy Y.length [.ref T.length 0] (T++[.cells [.str nm,fv',.map U.length,ov'] FZ])=T++[.cells [.str nm,fv',.map U.length,ov'] FZ]:=nO (by
  have:¬T.length<Y.length:=by omega
  simp[ai,below,this]) _
 refine⟨T.length,U.length,fo',oo',_,?_,by rw[<-e1];exact ok3,?_,by omega,by omega,a4,fun q e=>by have:=c4 q e;simp at this;omega⟩
 ·rw[<-e1,H.store.go hn];simp only[EU,hs,hs1,hs2,hs3,a1,b1,c1,fc,oc,ty,splice,vS,EVX,seval]
 ·rw[<-e1];have fq:∀q,fo'=some q->q<U.length:=fun q e=>by
   rcases a3 with⟨_,h0,_⟩|⟨q',fz,h0,_,_,d⟩
   ·rw[h0]at e;cases e
   grind
  have oq:∀q,oo'=some q->U.length<q/\q<T.length:=fun q e=>⟨by have:=c4 q e;simp at this⊢;omega,by
   rcases c3 with⟨_,h0,_⟩|⟨q',h0,_,_,d⟩
   ·rw[h0]at e;cases e
   grind⟩
  refine⟨⟨fv',ov',by rw[aJ];rfl,f3.plus _,TV.plus c3 _⟩,aA m3 _,h.len,fun e=>?_,fun e=>?_,fun q e e'=>?_⟩
  ·have:=fq _ e;omega
  ·have:=(oq _ e).2;omega
  ·have:=fq _ e;have:=(oq _ e').1;omega
def ajP(H:abU C){p:Rp}{S:St}(hS:Ok S)(a:p.at' S):∃(d:Rp) (L:St),aj C BM [.ref p.r 0] S=some (.ref d.r 0,S++L)/\Ok (S++L)/\d.at' (S++L)/\d.o=p.o/\(∀i,d.has i->i=p.o\/S.length<=i)/\d.h=p.h/\d.l=p.l/\d.R=p.R/\d.now=p.now/\d.rc=p.rc/\d.sc=p.sc/\d.nm=p.nm/\d.fs=p.fs/\d.F=p.F:=by
 have hn:hand false [.ref p.r 0] S=some ([.ref p.r 0],S):=rfl;have k:=bG.lt a;have Rc:=p.R.cs_is;have rp:=bG.rp a;have rb:ai 0 p.R.cs=true:=p.R.nvs.cl;have cb:∀(n s:Nat),s<n->p.o<n->AO.below n (.cells (nH s p.R p.o p.now p.rc p.sc) FZ)=true:=fun n s h1 h2=>by
  have h3:=aP (au3 n) _ rb;show ai n (nH s p.R p.o p.now p.rc p.sc)=true;unfold nH;rw[ai,acd _ _ _ h3];simp[ai,below,h1,h2]
 have ok1:Ok (S++[.cells (nH p.s p.R p.o p.now p.rc p.sc) FZ]):=Mc hS (by
  grind [aq6])
 obtain⟨s',m',fo',oo',L,q1,q2,q3,q4,q5,q6,q7⟩:=ah1 H ok1 ((bG.st a).plus [.cells (nH p.s p.R p.o p.now p.rc p.sc) FZ]);simp only[a04,a09,a90]at q4 q5 q6 q7;have lT:S.length<((S++[AO.cells (nH p.s p.R p.o p.now p.rc p.sc) FZ])++L).length:=by simp
 have x0:((S++[AO.cells (nH p.s p.R p.o p.now p.rc p.sc) FZ])++L)[S.length]?=some (.cells (nH p.s p.R p.o p.now p.rc p.sc) FZ):=by
  rw[au4,aJ];rfl
 have e0:((S++[AO.cells (nH p.s p.R p.o p.now p.rc p.sc) FZ])++L).set S.length (.cells (nH s' p.R p.o p.now p.rc p.sc) FZ)=S++([.cells (nH s' p.R p.o p.now p.rc p.sc) FZ]++L):=by
  rw[au4,iJ];rfl
 have sT:=q3.sl;have ok3:Ok (S++([.cells (nH s' p.R p.o p.now p.rc p.sc) FZ]++L)):=by
  grind [Ok.set2,k.o]
 have st2:iZ (S++([.cells (nH s' p.R p.o p.now p.rc p.sc) FZ]++L)) p.nm p.fs p.F s' m' fo' oo':=by
  rw[<-e0];exact q3.keep (ay0 (by omega)) (ay0 (by omega)) (fun q e=>ay0 (by have:=q6 q e;omega)) (fun q e=>ay0 (by have:=q7 q e;omega))
 refine⟨⟨p.h,p.l,p.R,p.now,p.rc,p.sc,p.nm,p.fs,p.F,S.length,s',m',p.o,fo',oo'⟩,[.cells (nH s' p.R p.o p.now p.rc p.sc) FZ]++L,?_,ok3,?_,rfl,fun i h=>?_,rfl,rfl,rfl,rfl,rfl,rfl,rfl,rfl,rfl⟩
 ·have ty:tidy S.length [.ref S.length 0] (S++([.cells (nH s' p.R p.o p.now p.rc p.sc) FZ]++L))=S++([.cells (nH s' p.R p.o p.now p.rc p.sc) FZ]++L):=nO (by simp[ai,below]) _
  have rpL:=fun L=>aA rp L;unfold nH at*;rw[Rc]at*;simp only[a81,a99]at*;rw[H.repo.go hn];simp only[H7,rp,rpL,q1,x0,e0,ty,aJ,iJ,AV.cells,AV.flat,splice,EVX,seval]
 ·exact⟨by rw[aJ];rfl,aA (bG.ver a) _,st2,by show S.length≠s';omega,by show S.length≠m';omega,fun e=>by grind,fun e=>by have:=k.o;have e:p.o=s':=e;omega,fun e=>by have:=k.o;have e:p.o=m':=e;omega,fun e=>by grind [aq6],bG.caps a⟩
 ·rcases h with e|e|e|e|e|e
  ·have e:i=S.length:=e;right;omega
  ·have e:i=s':=e;right;omega
  ·have e:i=m':=e;right;omega
  ·exact .inl e
  ·right;have:=q6 i e;omega
  ·right;have:=q7 i e;omega
set_option maxHeartbeats 1000000
def Rp.wr(p:Rp)(i:Nat):Prop:=i=p.s\/i=p.m\/p.oo=some i
def Rp.wh{p:Rp}{i:Nat}(h:p.wr i):p.has i:=by
 rcases h with e|e|e
 ·exact .inr (.inl e)
 ·exact .inr (.inr (.inl e))
 ·exact .inr (.inr (.inr (.inr (.inr e))))
def Rp.wo{p:Rp}{S:St}(a:p.at' S){i:Nat}(h:p.wr i):i≠p.o:=fun e=>by
 subst e;rcases h with e|e|e
 ·exact bG.vs a e
 ·exact bG.vm a e
 ·exact bG.vo a e
structure Stw(S S':St)(p p':Rp):Prop extends Stp S S' p p' where
 keep:∀i x,¬p.wr i->S[i]?=some x->S'[i]?=some x
 wnew:∀i,p'.wr i->p.wr i\/S.length<=i
def ac7 (H:Ae C C1) (hA:Has C aT dh) {K:yh} {p:Rp} (g:p.good C1 K) {S:St} (hS:Ok S) (a:p.at' S) (hF:p.F.length+1<1000000) (k:fQ) (hk:CO k):
  ∃S' oo',aj C aT [.ref p.r 0,.agg k.cs] S=some (.tup [.agg (p.ask K k).1.1.cs,.agg (p.ask K k).1.2.1.cs,.int .u8 (p.ask K k).1.2.2],S')/\Stw S S' p (p.to (p.ask K k).2 oo')/\(p.to (p.ask K k).2 oo').good C1 K:=by
 obtain⟨S',oo',q1,q2,q3⟩:=adA H hA g.case g.fet hS a hF k hk;refine⟨S',oo',q1,⟨Req.stp q3 q2,fun i x h e=>q3.old i x (fun e'=>h (.inl e')) (fun e'=>h (.inr (.inl e'))) (fun e'=>h (.inr (.inr e'))) e,fun i h=>?_⟩,g.case,(IV g.case g.fet _ _ k hk).2.2.1,aab g.uniq K p.R p.fs p.rc p.sc k⟩;rcases h with e|e|e
 ·exact .inl (.inl e)
 ·exact .inl (.inr (.inl e))
 ·rcases q3.new i e with e|e
  ·exact .inl (.inr (.inr e))
  ·exact .inr e
def Stw.trans{S T U:St}{p q r:Rp}(s:Stw S T p q)(t:Stw T U q r):Stw S U p r:=
 ⟨s.toStp.trans t.toStp,fun i x h e=>t.keep i x (fun h'=>by
  grind [Stw]) (s.keep i x h e),fun i h=>by
  grind [s.len,Stw]⟩
def Dw(p q:Rp):Prop:=∀i,(p.wr i->¬q.has i)/\(q.wr i->¬p.has i)
def Dw.symm{p q:Rp}(h:Dw p q):Dw q p:=fun i=>⟨(h i).2,(h i).1⟩
def Stw.other{S S':St}{p p' q:Rp}(s:Stw S S' p p')(a:q.at' S)(d:Dw p q):q.at' S'/\Dw p' q:=
 ⟨a.moved fun i x h e=>s.keep i x (fun h'=>(d i).1 h' h) e,fun i=>⟨fun h h'=>by
  rcases s.wnew i h with e|e
  ·exact(d i).1 e h'
  ·have:=Rp.lt a h';omega,fun h h'=>by
  rcases s.new i h' with e|e
  ·exact(d i).2 h e
  ·have:=Rp.lt a (Rp.wh h);omega⟩⟩
structure Pair(C1:Ctx)(K:yh)(p q:Rp)(F:List cO)(op oq:Option Nat)(n0:Nat)(S:St):Prop where
 ok:Ok S
 pa:(p.to F op).at' S
 qa:(q.to F oq).at' S
 pg:(p.to F op).good C1 K
 qg:(q.to F oq).good C1 K
 pq:Dw (p.to F op) (q.to F oq)
 po:∀i,(p.to F op).has i->n0<=i
 qo:∀i,(q.to F oq).has i->n0<=i
 len:n0<=S.length
def Pair.app{K p q F op oq n0 S}(B:Pair C1 K p q F op oq n0 S){L:St}(h:Ok (S++L)):Pair C1 K p q F op oq n0 (S++L):=
 ⟨h,(B.pa).app L,(B.qa).app L,B.pg,B.qg,B.pq,B.po,B.qo,by have:=B.len;simp;omega⟩
def Kp(S S':St)(p q:Rp):Prop:=S.length<=S'.length/\∀i x,¬p.wr i->¬q.wr i->S[i]?=some x->S'[i]?=some x
def abk (H:Ae C C1) (hA:Has C aT dh) {K:yh} {p q:Rp} (qR:q.R=p.R) (qc:q.rc=p.rc) (qs:q.sc=p.sc) (qf:q.fs=p.fs) {F:List cO} {op oq:Option Nat} {n0:Nat} {S:St} (B:Pair C1 K p q F op oq n0 S) (hF:F.length+1<1000000) (a:fQ) (hm:CO a) (G:(SnV×jK×Int)×List cO) (hG:kF K p.R p.fs p.rc p.sc a F=G):
  ∃o1 S1,aj C aT [.ref p.r 0,.agg a.cs] S=some (.tup [.agg G.1.1.cs,.agg G.1.2.1.cs,.int .u8 G.1.2.2],S1)/\Ok S1/\∀L,Ok (S1++L)->∃o2 S2,aj C aT [.ref q.r 0,.agg a.cs] (S1++L)=some (.tup [.agg G.1.1.cs,.agg G.1.2.1.cs,.int .u8 G.1.2.2],S2)/\Pair C1 K p q G.2 o1 o2 n0 S2/\Kp S S2 (p.to F op) (q.to F oq)/\∀i,((p.to G.2 o1).wr i->(p.to F op).wr i\/S.length<=i)/\((q.to G.2 o2).wr i->(q.to F oq).wr i\/S.length<=i):=by
 obtain⟨S1,o1,q1,q2,q3⟩:=ac7 H hA B.pg B.ok B.pa hF a hm;have e1:(p.to F op).ask K a=G:=hG;have e2:(q.to F oq).ask K a=G:=by
  show kF K q.R q.fs q.rc q.sc a F=_;rw[qR,qc,qs,qf,hG]
 rw[e1]at q1 q2 q3;refine⟨o1,S1,q1,q2.ok,fun L okL=>?_⟩;obtain⟨qS1,d1⟩:=q2.other B.qa B.pq;obtain⟨S2,o2,r1,r2,r3⟩:=ac7 H hA B.qg okL (qS1.app L) hF a hm;rw[e2]at r1 r2 r3;obtain⟨pS2,d2⟩:=r2.other ((q2.at').app L) d1.symm;have l1:=q2.len;have l2:=r2.len;simp only[a04]at l2;have bl:=B.len;refine⟨o2,S2,r1,⟨r2.ok,pS2,r2.at',q3,r3,d2.symm,q2.frm B.len B.po,r2.frm (by simp;omega) B.qo,by omega⟩,⟨by omega,fun i x h1 h2 e=>r2.keep i x h2 (aA (q2.keep i x h1 e) L)⟩,fun i=>⟨q2.wnew i,fun h=>?_⟩⟩
 rcases r2.wnew i h with h|h
 ·exact .inl h
 grind
def Kp.trans{S T U:St}{p q p' q':Rp}(s:Kp S T p q)(t:Kp T U p' q')(h:∀i,(p'.wr i->p.wr i\/S.length<=i)/\(q'.wr i->q.wr i\/S.length<=i)):Kp S U p q:=
 ⟨ax8 s.1 t.1,fun i x h1 h2 e=>by
  have hl:=(a00.mp e).1;refine t.2 i x (fun w=>?_) (fun w=>?_) (s.2 i x h1 h2 e)
  ·grind
  grind⟩
def Kp.app{S T:St}{p q:Rp}(s:Kp S T p q)(L:St):Kp S (T++L) p q:=⟨by have:=s.1;simp;omega,fun i x h1 h2 e=>aA (s.2 i x h1 h2 e) L⟩
def Xp (H:Ae C C1) (hA:Has C aT dh) {K:yh} (p q:Rp) (qR:q.R=p.R) (qc:q.rc=p.rc) (qs:q.sc=p.sc) (qf:q.fs=p.fs) (l:List fQ) (hl:l.length<=12) (hk:∀a∈l,CO a) (v2:AV) (n0:Nat):∀(n i:Nat) (op oq:Option Nat) (S:St),i+n=l.length->(bW K p.R p.fs p.rc p.sc (l.take i) []).length<=2*i->Pair C1 K p q (bW K p.R p.fs p.rc p.sc (l.take i) []) op oq n0 S->
  ∃(op' oq':Option Nat) (S':St),aH C (aj C) 144 [1,2,7,9,11] dH [(1,xO l),(2,v2),(7,.ref p.r 0),(9,.ref q.r 0),(11,.int .i64 i)] S=some (.exit 0,[(2,v2),(7,.ref p.r 0),(9,.ref q.r 0)],S')/\(bW K p.R p.fs p.rc p.sc l []).length<=2*l.length/\
   Pair C1 K p q (bW K p.R p.fs p.rc p.sc l []) op' oq' n0 S'/\Kp S S' (p.to (bW K p.R p.fs p.rc p.sc (l.take i) []) op) (q.to (bW K p.R p.fs p.rc p.sc (l.take i) []) oq)
 |0,i,op,oq,S,hi,hL,B=>by
  have e:l.take i=l:=a08 (by omega)
  rw[e]at B hL;refine⟨op,oq,S,?_,by omega,B,a06 _,fun _ _ _ _ e=>e⟩
  rw[aB (he:=rfl)];have h:¬((i:Int)<(l.length:Int)):=by omega
  unfold xO;simp only[dH,h,aY,EVX,seval]
 |n+1,i,op,oq,S,hi,hL,B=>by
  have h:((i:Int)<(l.length:Int)):=by omega
  have hlt:i<l.length:=by omega
  have hb:l[i]?=some l[i]:=a01 hlt;have hm:CO l[i]:=hk _ (ax1 hlt);have hw:=wrS i (by omega)
  have hp0:(0:Int)<=i:=by omega
  have fl:=aU fQ.len l;have fd:=fB fQ.len hb;have tk:l.take (i+1)=l.take i++[l[i]]:=aw5 hlt;generalize hae:l[i]=a at*;have eF:bW K p.R p.fs p.rc p.sc (l.take (i+1)) []=(kF K p.R p.fs p.rc p.sc a (bW K p.R p.fs p.rc p.sc (l.take i) [])).2:=by rw[tk,zL];rfl
  have ok2:=(IV B.pg.case B.pg.fet p.rc p.sc a hm).2.2.2;change(kF K p.R p.fs p.rc p.sc a (bW K p.R p.fs p.rc p.sc (l.take i) [])).2.length<=(bW K p.R p.fs p.rc p.sc (l.take i) []).length+2 at ok2;obtain⟨o1,S1,q1,okS1,q2⟩:=abk H hA qR qc qs qf B (by omega) a hm _ rfl
  obtain⟨o2,S2,r1,r2,r3,r4⟩:=q2 [] (by rw[au6];exact okS1)
  rw[au6]at r1;rw[<-eF]at r2 r4 ok2;obtain⟨op',oq',S',t1,t2,t3,t4⟩:=Xp H hA p q qR qc qs qf l hl hk v2 n0 n (i+1) o1 o2 S2 (by omega) (by omega) r2
  refine⟨op',oq',S',?_,t2,t3,r3.trans t4 r4⟩;have ac:a.cs=[.int .u8 a.kind,.str a.name,.int .i64 a.auth.th,.sl a.auth.ids.length (a.auth.ids.flatMap sC),.sl a.keys.length (a.keys.flatMap pC)]:=rfl;rw[ac]at q1 r1 fd;rw[<-t1,aB (he:=rfl)];generalize hkk:aH C (aj C) 144 [1,2,7,9,11] dH=kk;unfold xO;simp only[dH,h,hlt,hp0,hw,fl,fd,q1,r1,aY,EVX,seval]
def Xq (H:Ae C C1) (hA:Has C aT dh) {K:yh} (d:Rp) (l:List fQ) (hl:l.length<=12) (hk:∀a∈l,CO a) (F:List cO) (hF:F.length<=100) (v7 v9 v13:AV):∀(n i:Nat) (oo:Option Nat) (S:St),i+n=l.length->Ok S->
  (d.to (bW K d.R d.fs d.rc d.sc (l.take i) F) oo).at' S->(d.to (bW K d.R d.fs d.rc d.sc (l.take i) F) oo).good C1 K->(bW K d.R d.fs d.rc d.sc (l.take i) F).length<=F.length+2*i->
  ∃(oo':Option Nat) (S':St),aH C (aj C) 144 [2,7,9,12,13,14] dZ [(2,xO l),(7,v7),(9,v9),(12,.ref d.r 0),(13,v13),(14,.int .i64 i)] S=some (.exit 2,[(2,xO l),(7,v7),(9,v9),(12,.ref d.r 0),(13,v13)],S')/\
   Stw S S' (d.to (bW K d.R d.fs d.rc d.sc (l.take i) F) oo) (d.to (bW K d.R d.fs d.rc d.sc l F) oo')/\(d.to (bW K d.R d.fs d.rc d.sc l F) oo').good C1 K
 |0,i,oo,S,hi,hS,h1,h2,h3=>by
  have e:l.take i=l:=a08 (by omega)
  rw[e]at h1 h2 h3;refine⟨oo,S,?_,by rw[e];exact⟨Stp.refl hS h1,fun _ _ _ e=>e,fun _ h=>.inl h⟩,h2⟩
  rw[aB (he:=rfl)];have h:¬((i:Int)<(l.length:Int)):=by omega
  unfold xO;simp only[dZ,h,aY,EVX,seval]
 |n+1,i,oo,S,hi,hS,h1,h2,h3=>by
  have h:((i:Int)<(l.length:Int)):=by omega
  have hlt:i<l.length:=by omega
  have hb:l[i]?=some l[i]:=a01 hlt;have hm:CO l[i]:=hk _ (ax1 hlt);have hw:=wrS i (by omega)
  have hp0:(0:Int)<=i:=by omega
  have fl:=aU fQ.len l;have fd:=fB fQ.len hb;have tk:l.take (i+1)=l.take i++[l[i]]:=aw5 hlt;generalize hae:l[i]=a at*;have eF:bW K d.R d.fs d.rc d.sc (l.take (i+1)) F=(kF K d.R d.fs d.rc d.sc a (bW K d.R d.fs d.rc d.sc (l.take i) F)).2:=by rw[tk,zL];rfl
  obtain⟨S1,o1,q1,q2,q3⟩:=ac7 H hA h2 hS h1 (by show(bW K d.R d.fs d.rc d.sc (l.take i) F).length+1<_;omega) a hm
  have ok2:=(IV h2.case h2.fet d.rc d.sc a hm).2.2.2;change Stw S S1 _ (d.to (kF K d.R d.fs d.rc d.sc a (bW K d.R d.fs d.rc d.sc (l.take i) F)).2 o1)at q2;change(d.to (kF K d.R d.fs d.rc d.sc a (bW K d.R d.fs d.rc d.sc (l.take i) F)).2 o1).good C1 K at q3;change aj C aT [.ref d.r 0,.agg a.cs] S=_ at q1;change(kF K d.R d.fs d.rc d.sc a (bW K d.R d.fs d.rc d.sc (l.take i) F)).2.length<=(bW K d.R d.fs d.rc d.sc (l.take i) F).length+2 at ok2;rw[<-eF]at q2 q3 ok2;obtain⟨oo',S',r1,r2,r3⟩:=Xq H hA d l hl hk F hF v7 v9 v13 n (i+1) o1 S1 (by omega) q2.ok q2.at' q3 (by omega)
  refine⟨oo',S',?_,q2.trans r2,r3⟩;have ac:a.cs=[.int .u8 a.kind,.str a.name,.int .i64 a.auth.th,.sl a.auth.ids.length (a.auth.ids.flatMap sC),.sl a.keys.length (a.keys.flatMap pC)]:=rfl;rw[ac]at q1 fd;rw[<-r1,aB (he:=rfl)];generalize hkk:aH C (aj C) 144 [2,7,9,12,13,14] dZ=kk;unfold xO;simp only[dZ,h,hlt,hp0,hw,fl,fd,q1,aY,EVX,seval]
def U0 (H:Ae C C1) (hA:Has C aT dh) {K:yh} (p q:Rp) (qR:q.R=p.R) (qc:q.rc=p.rc) (qs:q.sc=p.sc) (qf:q.fs=p.fs) (l:List fQ) (hl:l.length<=12) (hk:∀a∈l,CO a) (F:List cO) (hF:F.length<=100) (v12:AV) (n0:Nat):∀(n i:Nat) (op oq:Option Nat) (S:St),i+n=l.length->(bW K p.R p.fs p.rc p.sc (l.take i) F).length<=F.length+2*i->Pair C1 K p q (bW K p.R p.fs p.rc p.sc (l.take i) F) op oq n0 S->
  ∃(op' oq':Option Nat) (S':St),aH C (aj C) 144 [2,7,9,12,15] gq [(2,xO l),(7,.ref p.r 0),(9,.ref q.r 0),(12,v12),(15,.int .i64 i)] S=some (.exit 4,[(7,.ref p.r 0),(9,.ref q.r 0),(12,v12)],S')/\
   Pair C1 K p q (bW K p.R p.fs p.rc p.sc l F) op' oq' n0 S'/\(bW K p.R p.fs p.rc p.sc l F).length<=F.length+2*l.length/\Kp S S' (p.to (bW K p.R p.fs p.rc p.sc (l.take i) F) op) (q.to (bW K p.R p.fs p.rc p.sc (l.take i) F) oq)
 |0,i,op,oq,S,hi,hL,B=>by
  have e:l.take i=l:=a08 (by omega)
  rw[e]at B hL;refine⟨op,oq,S,?_,B,by omega,a06 _,fun _ _ _ _ e=>e⟩
  rw[aB (he:=rfl)];have h:¬((i:Int)<(l.length:Int)):=by omega
  unfold xO;simp only[gq,h,aY,EVX,seval]
 |n+1,i,op,oq,S,hi,hL,B=>by
  have h:((i:Int)<(l.length:Int)):=by omega
  have hlt:i<l.length:=by omega
  have hb:l[i]?=some l[i]:=a01 hlt;have hm:CO l[i]:=hk _ (ax1 hlt);have hw:=wrS i (by omega)
  have hp0:(0:Int)<=i:=by omega
  have fl:=aU fQ.len l;have fd:=fB fQ.len hb;have tk:l.take (i+1)=l.take i++[l[i]]:=aw5 hlt;generalize hae:l[i]=a at*;have eF:bW K p.R p.fs p.rc p.sc (l.take (i+1)) F=(kF K p.R p.fs p.rc p.sc a (bW K p.R p.fs p.rc p.sc (l.take i) F)).2:=by rw[tk,zL];rfl
  have ok2:=(IV B.pg.case B.pg.fet p.rc p.sc a hm).2.2.2;change(kF K p.R p.fs p.rc p.sc a (bW K p.R p.fs p.rc p.sc (l.take i) F)).2.length<=(bW K p.R p.fs p.rc p.sc (l.take i) F).length+2 at ok2;obtain⟨G,hG⟩:∃G,kF K p.R p.fs p.rc p.sc a (bW K p.R p.fs p.rc p.sc (l.take i) F)=G:=⟨_,rfl⟩;obtain⟨o1,S1,q1,okS1,q2⟩:=abk H hA qR qc qs qf B (by omega) a hm G hG
  rw[hG]at eF ok2;have b1:AO.below 0 (.cells G.1.1.cs FZ)=true:=G.1.1.nvs.cl;have b2:=IX G.1.2.1;have bb:[AO.cells G.1.1.cs FZ,.cells G.1.2.1.cs FZ].all (AO.below 0)=true:=by grind
  obtain⟨o2,S2,r1,r2,r3,r4⟩:=q2 [.cells G.1.1.cs FZ,.cells G.1.2.1.cs FZ] (okS1.plus bb);have okS2:=r2.ok.plus bb;rw[<-eF]at r2 r4 ok2;obtain⟨op',oq',S',t1,t2,t3,t4⟩:=U0 H hA p q qR qc qs qf l hl hk F hF v12 n0 n (i+1) o1 o2 (S2++[.cells G.1.1.cs FZ,.cells G.1.2.1.cs FZ]) (by omega) (by omega) (r2.app okS2)
  refine⟨op',oq',S',?_,t2,t3,(r3.app _).trans t4 r4⟩;have ac:a.cs=[.int .u8 a.kind,.str a.name,.int .i64 a.auth.th,.sl a.auth.ids.length (a.auth.ids.flatMap sC),.sl a.keys.length (a.keys.flatMap pC)]:=rfl;have spT:∀tv:jK,splice [.int .i64 0,.int .i64 0,.nils,.nils,.nils,.int .i64 0,.nils,.int .i64 0,.str []] 0 tv.cs=tv.cs:=fun _=>rfl;have spS:∀tv:SnV,splice [.int .i64 0,.int .i64 0,.nils] 0 tv.cs=tv.cs:=fun _=>rfl;rw[ac]at q1 r1 fd;rw[<-t1,aB (he:=rfl)];generalize hkk:aH C (aj C) 144 [2,7,9,12,15] gq=kk;unfold xO;simp only[gq,h,hlt,hp0,hw,fl,fd,q1,r1,spT,spS,SnV.len,SnV.fl,jK.len,jK.fl,aJ,iJ,bI,wU,aY,AV.cells,bne_self_eq_false,EVX,seval]
end Go.Ev
