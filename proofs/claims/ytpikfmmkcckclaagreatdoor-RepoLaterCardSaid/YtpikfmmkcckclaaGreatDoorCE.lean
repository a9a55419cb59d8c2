/- Code. No conditions. -/
import Derived.Test.YtpikfmmkcckclaaGreatDoorCD
import Derived.Test.YtpikfmmkcckclaaGreatDoorCB
import Derived.Test.YtpikfmmkcckclaaGreatDoorEC
set_option linter.unusedVariables false
set_option linter.unusedSimpArgs false
set_option linter.defProp false
namespace Go.Ev
set_option maxRecDepth 100000
variable{C:Ctx}
theorem jE.keep{Y S:St}{nm fs F s m fo oo}(h:jE Y nm fs F s m fo oo)(hs:S[s]?=Y[s]?)(hm:S[m]?=Y[m]?)(hf:∀q,fo=some q->S[q]?=Y[q]?)(ho:∀q,oo=some q->S[q]?=Y[q]?):jE S nm fs F s m fo oo:=by
 obtain⟨fv,ov,a,b,c⟩:=h.st;refine⟨⟨fv,ov,by rw[hs];exact a,?_,?_⟩,by rw[hm];exact h.mp,h.len,h.fs_,h.os,h.fo_⟩
 ·rcases b with b|⟨q,fz,b1,b2,b3,b4⟩
  ·exact .inl b
  ·exact .inr ⟨q,fz,b1,b2,b3,by rw[hf q b1];exact b4⟩
 ·rcases c with c|⟨q,b1,b2,b3,b4⟩
  ·exact .inl c
  ·exact .inr ⟨q,b1,b2,b3,by rw[ho q b1];exact b4⟩
theorem bP.keep{Y S:St}{h l R now rc sc nm fs F r s m o fo oo}(a:bP Y h l R now rc sc nm fs F r s m o fo oo)(hr:S[r]?=Y[r]?)(ho:S[o]?=Y[o]?)(hs:S[s]?=Y[s]?)(hm:S[m]?=Y[m]?)(hf:∀q,fo=some q->S[q]?=Y[q]?)(hoo:∀q,oo=some q->S[q]?=Y[q]?):bP S h l R now rc sc nm fs F r s m o fo oo:=
 ⟨by rw[hr];exact a.rp,by rw[ho];exact a.ver,a.st.keep hs hm hf hoo,a.rs,a.rm,a.ro,a.vs,a.vm,a.vo,a.caps⟩
def anP(C:Ctx)(c:ul)(R:jQ)(e:Int)(Y:St):Prop:=
 (wL c.nm c.fs c.rc c.sc e≠0/\ai C dG [.agg c.cs] Y=some (.tup [.nilp,.int .i64 (wL c.nm c.fs c.rc c.sc e)],Y))\/
 (wL c.nm c.fs c.rc c.sc e=0/\∃r s m o fo' T,ai C dG [.agg c.cs] Y=some (.tup [.ref r 0,.int .i64 0],T)/\Ok T/\bP T c.h c.l R c.now c.rc c.sc c.nm c.fs [] r s m o fo' none/\Y.length<=r/\Y.length<=s/\Y.length<=m/\Y.length<=o/\(∀q,fo'=some q->Y.length<=q)/\T.take Y.length=Y)
def amV (H:MadeHas C) (c:ul) (hl:c.l.length<=60) (hfs:c.fs.length<=1000) (R:jQ) (e:Int)
  (hR:∀(O:St) (o:Nat),Ok O->O[o]?=some (Ep c.h c.l)->ai C uY [.ref o 0,.str c.data] O=some (.tup [.agg (Va R e).cs,.int .i64 e],O))
  {Y:St} (hτ:Ok Y):anP C c R e Y:=by
 unfold anP;have cb:AO.below 0 (.cells c.cs FZ)=true:=c.nvs.cl;have vb:AO.below 0 (Ep c.h c.l)=true:=by
  unfold Ep;cases c.h
  ·have:=Ym c.l;simp[abZ,AO.below,ae,below,this]
  ·rfl
 have a0:=fun Y:St=>show rO Y 2 32 none (.xsl 0 []) 0 []=some (.xsl 0 [],Y)from rfl;have V:=fun O=>afC H c hl O;rw[H.made28.go (NVs.hand (.cons (.agg c.nvs) .nil) _)];by_cases n0:c.fs=[]
 ·have ok2:Ok (Y++[.cells c.cs FZ,.cells [.str c.nm,.str c.data,.xsl 0 []] FZ,.cells c.cs FZ,Ep c.h c.l]):=hτ.plus (by simp only[a88,aw1,cb,vb];rfl)
  have N:=adD H.toRNewHas c.h c.l R e c.data hR ok2 (Y.length+3) (by rw[dM];rfl) c.nm (fv:=.xsl 0 []) (fs:=c.fs) (fo:=none) (.inl ⟨n0,rfl,rfl⟩) hfs c.now c.b0 c.b1 c.rc c.sc
  have ce:c.cs=[.str c.nm,.str c.data,.sl 0 [],.bool c.h,O9 c.l,.int .i64 c.now,.int .i64 c.b0,.int .i64 c.b1,.int .i64 c.rc,.int .i64 c.sc]:=by rw[ul.cs,n0];rfl
  rcases N with⟨m1,m2⟩|⟨m1,r,s,m,fo',L,m2,ok3,m3,m4,m5,m6,m7⟩
  ·left;refine⟨m1,?_⟩;have lp:=Lt (C:=C) (Y.length+1) (.str c.nm) (.str c.data) (.xsl 0 []) 0 none (fun e=>nomatch e) .nilp (.int .i64 (wL c.nm c.fs c.rc c.sc e)) (by omega) 0 0 _ rfl ok2 (by rw[dM];rfl) (.inl ⟨rfl,rfl⟩)
   obtain⟨T',q1,q2,q3,q4⟩:=lp;rw[show((0:Nat):Int)=0 from rfl]at q1;have tk:T'.take Y.length=Y:=by
    refine aw5 fun k=>?_;rw[au7];split
    ·next h=>rw[q4 k (fun e=>nomatch e),av1 h]
    ·next h=>exact(aw2 (by omega)).symm
   rw[ce]at m2 V q1⊢;unfold O9 at*;have ty:=pG (vs:=[.nilp,.int .i64 (wL c.nm c.fs c.rc c.sc e)]) hτ rfl tk;simp only[nI,V,m2,a0,yj,q1,ty,AV.cells,AV.flat,splice,EVX,seval]
  ·right;refine⟨m1,?_⟩;simp only[a04,a07,a09]at m4 m5 m6 m7;have lp:=Lt (C:=C) (Y.length+1) (.str c.nm) (.str c.data) (.xsl 0 []) 0 none (fun e=>nomatch e) (.ref r 0) (.int .i64 0) (by omega) 0 0 _ rfl ok3 (aA (by rw[dM];rfl) _) (.inl ⟨rfl,rfl⟩)
   obtain⟨T',q1,q2,q3,q4⟩:=lp;rw[show((0:Nat):Int)=0 from rfl]at q1;have tk:T'.take Y.length=Y:=by
    refine aw5 fun k=>?_;rw[au7];split
    ·next h=>rw[q4 k (fun e=>nomatch e),au2,av1 h]
    ·next h=>exact(aw2 (by omega)).symm
   refine⟨r,s,m,Y.length+3,fo',T',?_,q3,m3.keep (q4 _ (fun e=>nomatch e)) (q4 _ (fun e=>nomatch e)) (q4 _ (fun e=>nomatch e)) (q4 _ (fun e=>nomatch e)) (fun q _=>q4 q (fun e=>nomatch e)) (fun q e=>nomatch e),by omega,by omega,by omega,by omega,fun q e=>by have:=m7 q e;omega,tk⟩
   have nb:¬r<Y.length:=by omega
   have ty:tidy Y.length [.ref r 0,.int .i64 0] T'=T':=qX (by simp[ae,below,nb]) _
   rw[ce]at m2 V q1⊢;unfold O9 at*;simp only[au2,a99,au3]at q1;simp only[nI,V,m2,a0,yj,q1,ty,AV.cells,AV.flat,splice,EVX,seval]
 ·have fl:=dV FW c.fs;have h1:¬c.fs.length=0:=fun e=>n0 (List.length_eq_zero_iff.mp e);have ap:=fun Y:St=>V7 Y none (sz:=2) (bytes:=32) (n:=0) (m:=c.fs.length) (l:=[]) (c.fs.flatMap pC) h1 rfl (by omega) (by omega)
  simp only[av2,au3]at ap;have fa:=agM c.fs;have tf:(c.fs.flatMap pC).take (c.fs.length*2)=c.fs.flatMap pC:=by rw[<-fl,aD6]
  have ok2:Ok (Y++[.cells c.cs FZ,.cells [.str c.nm,.str c.data,.msl (Y.length+2) 0 c.fs.length 2] FZ,.cells (c.fs.flatMap pC) FZ,.cells c.cs FZ,Ep c.h c.l]):=RF hτ (by
   have h1:=AO.below_mono (a98 (Y.length+5)) _ cb;have h2:=AO.below_mono (a98 (Y.length+5)) _ vb;have h3:AO.below (Y.length+5) (.cells (c.fs.flatMap pC) FZ)=true:=by rw[AO.below];exact aO (a98 _) _ (fP (fun _=>rfl) _)
   have h4:AO.below (Y.length+5) (.cells [.str c.nm,.str c.data,.msl (Y.length+2) 0 c.fs.length 2] FZ)=true:=by simp[AO.below,ae,below]
   simp only[a07,a09,a88,aw1,h1,h2,h3,h4,av9])
  have N:=adD H.toRNewHas c.h c.l R e c.data hR ok2 (Y.length+4) (by rw[dM];rfl) c.nm (fv:=.msl (Y.length+2) 0 c.fs.length 2) (fs:=c.fs) (fo:=some (Y.length+2)) (.inr ⟨Y.length+2,_,rfl,n0,rfl,by rw[dM];rfl⟩) hfs c.now c.b0 c.b1 c.rc c.sc
  have ce:c.cs=[.str c.nm,.str c.data,.sl c.fs.length (c.fs.flatMap pC),.bool c.h,O9 c.l,.int .i64 c.now,.int .i64 c.b0,.int .i64 c.b1,.int .i64 c.rc,.int .i64 c.sc]:=rfl;rcases N with⟨m1,m2⟩|⟨m1,r,s,m,fo',L,m2,ok3,m3,m4,m5,m6,m7⟩
  ·left;refine⟨m1,?_⟩;have lp:=Lt (C:=C) (Y.length+1) (.str c.nm) (.str c.data) (.msl (Y.length+2) 0 c.fs.length 2) c.fs.length (some (Y.length+2)) (by simp) .nilp (.int .i64 (wL c.nm c.fs c.rc c.sc e)) hfs c.fs.length 0 _ (by omega) ok2 (by rw[dM];rfl) (.inr ⟨Y.length+2,_,rfl,rfl,fl,fP (fun _=>rfl) _,by rw[dM];rfl⟩)
   obtain⟨T',q1,q2,q3,q4⟩:=lp;rw[show((0:Nat):Int)=0 from rfl]at q1;have tk:T'.take Y.length=Y:=by
    refine aw5 fun k=>?_;rw[au7];split
    ·next h=>rw[q4 k (by simp;omega),av1 h]
    ·next h=>exact(aw2 (by omega)).symm
   rw[ce]at m2 V q1⊢;unfold O9 at*;have ty:=pG (vs:=[.nilp,.int .i64 (wL c.nm c.fs c.rc c.sc e)]) hτ rfl tk;simp only[nI,V,m2,fl,fa,ap,yj,q1,ty,AV.cells,AV.flat,splice,EVX,seval]
  ·right;refine⟨m1,?_⟩;simp only[a04,a07,a09]at m4 m5 m6 m7;have lp:=Lt (C:=C) (Y.length+1) (.str c.nm) (.str c.data) (.msl (Y.length+2) 0 c.fs.length 2) c.fs.length (some (Y.length+2)) (by simp) (.ref r 0) (.int .i64 0) hfs c.fs.length 0 _ (by omega) ok3 (aA (by rw[dM];rfl) _) (.inr ⟨Y.length+2,_,rfl,rfl,fl,fP (fun _=>rfl) _,aA (by rw[dM];rfl) _⟩)
   obtain⟨T',q1,q2,q3,q4⟩:=lp;rw[show((0:Nat):Int)=0 from rfl]at q1;have tk:T'.take Y.length=Y:=by
    refine aw5 fun k=>?_;rw[au7];split
    ·next h=>rw[q4 k (by simp;omega),au2,av1 h]
    ·next h=>exact(aw2 (by omega)).symm
   refine⟨r,s,m,Y.length+4,fo',T',?_,q3,m3.keep (q4 _ (by simp;omega)) (q4 _ (by simp)) (q4 _ (by simp;omega)) (q4 _ (by simp;omega)) (fun q e=>q4 q (by have:=m7 q e;simp;omega)) (fun q e=>nomatch e),by omega,by omega,by omega,by omega,fun q e=>by have:=m7 q e;omega,tk⟩
   have nb:¬r<Y.length:=by omega
   have ty:tidy Y.length [.ref r 0,.int .i64 0] T'=T':=qX (by simp[ae,below,nb]) _
   rw[ce]at m2 V q1⊢;unfold O9 at*;simp only[au2,a99,au3]at q1;simp only[nI,V,m2,fl,fa,ap,yj,q1,ty,AV.cells,AV.flat,splice,EVX,seval]
theorem mi.len(h:mi):h.cs.length=4:=rfl
def mi.below(h:mi):ae 0 h.cs=true:=by
 simp only[mi.cs,ae,(yY h.hashes).cl];rfl
def an8(l:List mi):NV (.sl l.length (l.flatMap mi.cs)):=.sl _ (fP mi.below l)
def Mc:LA:=[.str [],.int .i64 0,.int .i64 0,.nils]
def NE (hc:Sv C gm 2) (l:List mi) (hl:l.length<=1099511627776) (hh:∀p∈l,p.hashes.length<=1099511627776) (file:LU) (O:St) (X:AO):∀(n i:Nat) (G:St),i+n=l.length->
  ∃G',aH C (ai C) 36 [4,6,19,20,21] oH [(4,.ref (O.length+1) 0),(6,.str file),(19,.sl l.length (l.flatMap mi.cs)),(20,.int .i64 l.length),(21,.int .i64 i)] (O++X::.cells Mc FZ::G)=
   match(l.drop i).find? (fun p=>decide (p.name=file))with
   |none=>some (.exit 0,[(4,.ref (O.length+1) 0)],O++X::.cells Mc FZ::G')
   |some p=>some (.ret,[(4,.ref (O.length+1) 0),(5,.bool true)],O++X::.cells p.cs FZ::G')
 |0,i,G,hi=>by
  rw[aG (he:=rfl)];have h:¬((i:Int)<(l.length:Int)):=by omega
  have h':l.drop i=[]:=au1 (by omega)
  refine⟨G,?_⟩;simp only[oH,h,h',List.find?_nil,EVX,seval]
 |n+1,i,G,hi=>by
  rw[aG (he:=rfl)];have h:((i:Int)<(l.length:Int)):=by omega
  have h2:i<l.length:=by omega
  have hb:l[i]?=some l[i]:=a02 h2;have h':l.drop i=l[i]::l.drop (i+1):=as9 h2;have hw:=wrS i (by omega)
  have h3:(0:Int)<=i:=by omega
  have fl:=dV mi.len l;have fd:=lM mi.len hb;have hp:=hh _ (az1 h2);obtain⟨p,hpe⟩:∃p,p=l[i]:=⟨_,rfl⟩;rw[<-hpe]at fd h' hp;have hcl:=fun Y=>hc p.hashes.length (p.hashes.flatMap pC) Y (dV FW _) hp (ahD (f:=pC) (fun x=>rfl) _);cases hx:decide (p.name=file)
  ·obtain⟨G',ih⟩:=NE hc l hl hh file O X n (i+1) (G++[.cells p.cs FZ]) (by omega)
   refine⟨G',?_⟩;rw[h',List.find?_cons,hx];dsimp only;rw[<-ih];generalize hk:aH C (ai C) 36 [4,6,19,20,21] oH=k;simp only[oH,h,h2,h3,hw,hx,fl,fd,mi.cs,a99,aA3,aA4,au2,a04,AV.cells,EX,EVX,seval]
  ·refine⟨G++[.cells p.cs FZ],?_⟩;rw[h',List.find?_cons,hx];dsimp only;generalize hk:aH C (ai C) 36 [4,6,19,20,21] oH=k;simp only[oH,h,h2,h3,hx,fl,fd,hcl,mi.cs,Mc,a99,aA3,aA4,au2,a04,AV.cells,EX,EVX,seval]
def UO(s:SnV):AV:=.agg s.cs
def abU(s:SnV):NV (UO s):=.agg (.cons (.int _ _) (.cons (.int _ _) (.cons (an8 s.pins) .nil)))
def sD(s:SnV)(r:LU):Option mi:=if role r then s.pins.find? (fun p=>decide (p.name=r++iJ))else none
def kz:LA:=[.str [],.int .i64 0,.int .i64 0,.sl 0 []]
def afb:Option mi->AV
 |none=>.tup [.agg kz,.bool false]
 |some p=>.tup [.agg p.cs,.bool true]
structure VW(C:Ctx):Prop where
 allowed:Has C lC kW
 role:Has C xU uo
 file:Has C uI um
 clone:Sv C gm 2
 pin:Has C WP GN
 cap:Has C Uh Ak
structure Sz(s:SnV):Prop where
 pins:s.pins.length<=1099511627776
 hashes:∀p∈s.pins,p.hashes.length<=1099511627776
def adY(h:VW C)(s:SnV)(hs:Sz s)(r:LU)(O:St)(hσ:Ok O):ai C WP [UO s,.str r] O=some (afb (sD s r),O):=by
 rw[h.pin.go (NVs.hand (.cons (abU s) (.cons (.str _) .nil)) _)];unfold sD UO SnV.cs;have ty:=fun(vs:LA) (hv:ae 0 vs=true) (L:St)=>dE hσ hv L;cases hr:role r
 ·have fa:Ul r=.tup [.str [],.int .i64 3]:=by simp[Ul,hr]
  have t1:=ty [.agg kz,.bool false] rfl;unfold kz at t1;simp only[GN,Lu h.file h.role h.allowed,fa,aY,aX,dA,afb,kz,t1,AV.cells,AV.flat,a99,aA3,aA4,EVX,seval]
 ·have fa:Ul r=.tup [.str (r++iJ),.int .i64 0]:=by simp[Ul,hr]
  obtain⟨G,lp⟩:=NE h.clone s.pins hs.pins hs.hashes (r++iJ) O (.cells [.int .i64 s.ver,.int .i64 s.exp,.sl s.pins.length (s.pins.flatMap mi.cs)] FZ) s.pins.length 0 [] (by omega)
  rw[au0]at lp;simp only[at6,Mc]at lp;rw[if_pos rfl];cases hf:s.pins.find? (fun p=>decide (p.name=r++iJ))with
  |none=>
   rw[hf]at lp;have t1:=ty [.agg kz,.bool false] rfl;unfold kz at t1;simp only[GN,Lu h.file h.role h.allowed,fa,lp,aY,aX,dA,afb,kz,t1,AV.cells,AV.flat,a99,aA3,aA4,EVX,seval]
  |some p=>
   rw[hf]at lp;have t1:=ty [.agg p.cs,.bool true] (by simp only[ae,below,mi.below];rfl)
   unfold mi.cs at t1;simp only[GN,Lu h.file h.role h.allowed,fa,lp,aY,aX,afb,mi.cs,t1,AV.cells,a99,EVX,seval]
def Yx(o:Option mi)(most:Int):AV:=match o with
 |none=>.tup [.agg kz,.int .i64 0,.int .u8 1]
 |some p=>if p.length<0 then .tup [.agg p.cs,.int .i64 most,.int .u8 0]else if p.length>most then .tup [.agg kz,.int .i64 0,.int .u8 3]else .tup [.agg p.cs,.int .i64 p.length,.int .u8 0]
def anE{O:St}(hσ:Ok O)(a b:LA)(ha:ae 0 a=true)(hb:ae 0 b=true)(x y:Fz):Ok (O++[.cells a x,.cells b y]):=
 RF hσ (by simp[AO.below,aO (a98 _) _ ha,aO (a98 _) _ hb])
def aht(h:VW C)(s:SnV)(hs:Sz s)(r:LU)(most:Int)(O:St)(hσ:Ok O):ai C Uh [UO s,.str r,.int .i64 most] O=some (Yx (sD s r) most,O):=by
 rw[h.cap.go (NVs.hand (.cons (abU s) (.cons (.str _) (.cons (.int _ _) .nil))) _)];have ok1:=anE hσ [.int .i64 s.ver,.int .i64 s.exp,.sl s.pins.length (s.pins.flatMap mi.cs)] Mc (by have:=(abU s).cl;unfold UO SnV.cs at this;rw[below]at this;exact this) rfl FZ FZ
 have q:=adY h s hs r _ ok1;have ty:=fun(vs:LA) (hv:ae 0 vs=true) (L:St)=>dE hσ hv L;unfold UO SnV.cs Mc at*;have t1:=fun a b=>ty [.agg kz,.int .i64 a,.int .u8 b] rfl;unfold kz at t1;cases hf:sD s r with
 |none=>
  rw[hf]at q;unfold afb kz at q;dsimp only at q;simp only[Ak,q,aY,aX,dA,Yx,kz,t1,AV.cells,AV.flat,a99,aA3,aA4,EVX,seval]
 |some p=>
  rw[hf]at q;have pc:p.cs=[.str p.name,.int .i64 p.version,.int .i64 p.length,.sl p.hashes.length (p.hashes.flatMap pC)]:=rfl;unfold afb at q;dsimp only at q;rw[pc]at q;have t2:=fun a b=>ty [.agg p.cs,.int .i64 a,.int .u8 b] (by simp only[ae,below,mi.below];rfl)
  rw[pc]at t2;by_cases h1:p.length<0
  ·simp only[Ak,q,h1,aY,aX,Yx,pc,t2,AV.cells,AV.flat,a99,aA3,aA4,EVX,seval]
  ·by_cases h2:most<p.length
   ·simp only[Ak,q,h1,h2,aY,aX,dA,Yx,kz,t1,AV.cells,AV.flat,a99,aA3,aA4,EVX,seval]
   ·simp only[Ak,q,h1,h2,aY,aX,Yx,pc,t2,AV.cells,AV.flat,a99,aA3,aA4,EVX,seval]
noncomputable section
structure TSP(P:Program)(f:Nat)where
 k:TF
 p:(cTF P f).getD ⟨0,[],.skip⟩=k:=by conv=>lhs;reduce;simp only[RD,seval]
abbrev TsA(f:Nat):Type:=TSP Go.Proofs.Tryz.prog f
def Ac:TF:=(.mk ?k:TsA mY).1
def uj:TF:=(.mk ?k:TsA oQ).1
def lm:TF:=(.mk ?k:TsA lG).1
def ig:TF:=(.mk ?k:TsA fO).1
end
def dQ:CFn:=⟨7,[(.cell 2 true 3),(.cell 3 false 1)],[o 2 (.new [(.int .i64 0),(.int .i64 0),.nils] none),
 o 3 (.new [(.int .u8 0)] none)],4,yS,[(.t 2),(.t 3)],
 (.seq (.ops [.op (m 5 0),
 .op (o 6 (.callF lG [(.t 5)])),
 .op (u (.store 3 (.t 2) (.t 6))),
 .op (u (.store 1 (.t 3) (.c (.int .u8 0))))])
 .ret)⟩
def lJ:KC:=
 (.seq (.ops [m 4 2,
 o 5 (.bin .neq 5 true (.t 4) (.c .nilIface))])
 (.cond (.t 5)
 (.ops [o 6 (.build [(.int .i64 0),(.int .i64 0),.nils] []),
 m 7 2,
 o 8 (.callF mY [(.t 7)]),
 u (.store 3 (.t 0) (.t 6)),
 u (.store 1 (.t 1) (.t 8))])
 .skip))
def dw:KFn:=⟨9,3,2,lJ.forget⟩
def gX:CFn:=⟨16,[(.cell 8 true 9),(.cell 9 false 1)],[o 6 (.box (.t 2)),
 o 8 (.new [(.int .i64 0),(.int .i64 0),.nils,.nils,.nils,(.int .i64 0),.nils,(.int .i64 0),(.str [])] none),
 o 9 (.new [(.int .u8 0)] none)],10,D5,[(.t 8),(.t 9)],
 (.seq (.ops [.op (m 11 0),
 .op (m 12 1),
 .op (o 13 (.load true 2 (.t 6))),
 .op (m 14 3),
 .op (o 15 (.callF fO [(.t 11),(.t 12),(.t 13),(.t 14)])),
 .op (u (.store 9 (.t 8) (.t 15))),
 .op (u (.store 1 (.t 9) (.c (.int .u8 0))))])
 .ret)⟩
def qg:KC:=
 (.seq (.ops [m 4 2,
 o 5 (.bin .neq 5 true (.t 4) (.c .nilIface))])
 (.cond (.t 5)
 (.ops [o 6 (.build [(.int .i64 0),(.int .i64 0),.nils,.nils,.nils,(.int .i64 0),.nils,(.int .i64 0),(.str [])] []),
 m 7 2,
 o 8 (.callF mY [(.t 7)]),
 u (.store 9 (.t 0) (.t 6)),
 u (.store 1 (.t 1) (.t 8))])
 .skip))
def eY:KFn:=⟨9,3,2,qg.forget⟩
def jX(C:Ctx)(ct:vW)(n:Nat):List TOp->As->St->Option (TX×As×St)
 |[],A,O=>some (.normal,A,O)
 |.op o::l,A,O=>match kw o A with
  |true=>match aB C (avA C A) n O o.i with
   |some (.val v O')=>jX C ct n l (yA A o.dst v) O'
   |some (.call f args O')=>match ct f args O' with
    |some (.ret v,O'')=>jX C ct n l (yA A o.dst v) O''
    |some (.pan v,O'')=>some (.pan v,A,O'')
    |none=>none
   |none=>none
  |false=>jX C ct n l (yA A o.dst .undef) O
 |.panic x::l,A,O=>match avA C A x with
  |.iface t v=>some (.pan (.iface t v),A,O)
  |_=>none
 |.assert d t x::l,A,O=>match avA C A x with
  |.iface t' v=>match Nat.beq t' t with
   |true=>jX C ct n l (yA A (some d) (.tup [v,.bool true])) O
   |false=>none
  |_=>none
def yz(C:Ctx)(call:aZ)(ct:vW)(n:Nat):TC->As->St->Option (TX×As×St)
 |.skip,A,O=>some (.normal,A,O)
 |.ops l,A,O=>jX C ct n l A O
 |.drawn l,A,O=>match sW C call n l A O with
  |some (A',O')=>some (.normal,A',O')
  |none=>none
 |.seq a b,A,O=>match yz C call ct n a A O with
  |some (.normal,A',O')=>yz C call ct n b A' O'
  |r=>r
 |.cond c a b,A,O=>match avA C A c with
  |.bool true=>yz C call ct n a A O
  |.bool false=>yz C call ct n b A O
  |_=>none
 |.ret,A,O=>some (.ret,A,O)
 |.fail,_,_=>none
def Yg(n:Nat):List TOp->Bool
 |[]=>true
 |.op o::l=>Qc n o.dst&&Yg n l
 |.panic _::l=>Yg n l
 |.assert d _ _::l=>Qc n (some d)&&Yg n l
def tok(n:Nat):TC->Bool
 |.ops l=>Yg n l
 |.drawn l=>aaX n l
 |.seq a b=>tok n a&&tok n b
 |.cond _ a b=>tok n a&&tok n b
 |_=>true
structure AgF(n:Nat)(e:Env)(A:As):Prop where
 len:e.length=n
 at':∀t,e.getD t .undef=look A t
def AgF.ag{n:Nat}{e A}(h:AgF n e A)(m:Nat):Ag n m e A:=⟨h.len,fun t _=>h.at' t⟩
def AgF.of{n:Nat}{e A}(hl:e.length=n)(h:∀m,Ag n m e A):AgF n e A:=⟨hl,fun t=>(h (bit t)).at' t (by rw[yu];simp)⟩
def AgF.put{n:Nat}{e A}(h:AgF n e A){d:Option Nat}(hd:Qc n d=true)(v:AV):AgF n (put e d v) (yA A d v):=
 .of (by rw[Ia,h.len]) fun m=>Ag.put (h.ag _) hd v
def aqv(n:Nat):Option (TX×Env×St)->Option (TX×As×St)->Prop
 |none,none=>True
 |some (x,e,O),some (x',A,O')=>x=x'/\O=O'/\AgF n e A
 |_,_=>False
def J9{C:Ctx}{ct:vW}{n:Nat}:∀(l:List TOp) (e:Env) (A:As) (O:St),Yg n l=true->AgF n e A->aqv n (xw C ct l e O) (jX C ct n l A O)
 |[],e,A,O,_,h=>⟨rfl,rfl,h⟩
 |.op o::l,e,A,O,hd,h=>by
  rw[Yg,a01]at hd;unfold xw jX;rw[Ag.wanted (h.ag _)];cases kw o A with
  |false=>exact J9 l _ _ O hd.2 (h.put hd.1 _)
  |true=>
   dsimp only;rw[Ag.evI (h.ag _)];cases aB C (avA C A) n O o.i with
   |none=>trivial
   |some x=>cases x with
    |val v O'=>exact J9 l _ _ O' hd.2 (h.put hd.1 _)
    |call f args O'=>
     dsimp only;cases ct f args O' with
     |none=>trivial
     |some r=>
      obtain⟨a,O''⟩:=r;cases a with
      |ret v=>exact J9 l _ _ O'' hd.2 (h.put hd.1 _)
      |pan v=>exact⟨rfl,rfl,h⟩
 |.panic x::l,e,A,O,hd,h=>by
  unfold xw jX;rw[ahm x (h.ag _).agree];cases avA C A x<;>first|exact trivial|exact⟨rfl,rfl,h⟩
 |.assert d t x::l,e,A,O,hd,h=>by
  rw[Yg,a01]at hd;unfold xw jX;rw[ahm x (h.ag _).agree];cases avA C A x with
  |iface t' v=>
   dsimp only;cases Nat.beq t' t with
   |true=>exact J9 l _ _ O hd.2 (h.put hd.1 _)
   |false=>trivial
  |_=>trivial
def aah{C:Ctx}{call:aZ}{ct:vW}{n:Nat}:∀(c:TC) (e:Env) (A:As) (O:St),tok n c=true->AgF n e A->aqv n (evT C call ct c e O) (yz C call ct n c A O)
 |.skip,e,A,O,_,h=>⟨rfl,rfl,h⟩
 |.ret,e,A,O,_,h=>⟨rfl,rfl,h⟩
 |.fail,e,A,O,_,h=>trivial
 |.ops l,e,A,O,hd,h=>J9 l e A O hd h
 |.drawn l,e,A,O,hd,h=>by
  unfold evT yz qj sW;have q:=fun N=>abE (C:=C) (call:=call) (N:=N) l e A O hd (h.ag _);cases h1:uH C call l e O with
  |none=>
   cases h2:qH C call n l A O with
   |none=>trivial
   |some r=>have:=q 0;rw[h1,h2]at this;exact this.elim
  |some r=>
   cases h2:qH C call n l A O with
   |none=>have:=q 0;rw[h1,h2]at this;exact this.elim
   |some r'=>
    obtain⟨f,Y,rs,ss⟩:=r;obtain⟨f',Y',rs',ss'⟩:=r';have q0:=q 0;rw[h1,h2]at q0;obtain⟨a,b,c,d⟩:=q0;subst a b;have e0:AgF n f f':=.of c.len fun N=>by
     have:=q N;rw[h1,h2]at this;exact this.2.2.1
    dsimp only;rw[d];cases gB C n ss l rs' with
    |true=>exact⟨rfl,rfl,e0⟩
    |false=>trivial
 |.seq a b,e,A,O,hd,h=>by
  rw[tok,a01]at hd;unfold evT yz;have q:=aah (C:=C) (call:=call) (ct:=ct) a e A O hd.1 h;cases h1:evT C call ct a e O with
  |none=>rw[h1]at q;cases h2:yz C call ct n a A O with
   |none=>trivial
   |some r=>rw[h2]at q;exact q.elim
  |some r=>rw[h1]at q;cases h2:yz C call ct n a A O with
   |none=>rw[h2]at q;exact q.elim
   |some r'=>
    rw[h2]at q;obtain⟨x,e',O'⟩:=r;obtain⟨x',A',O''⟩:=r';obtain⟨rfl,rfl,q3⟩:=q;cases x with
    |normal=>exact aah b e' A' O' hd.2 q3
    |ret=>exact⟨rfl,rfl,q3⟩
    |pan v=>exact⟨rfl,rfl,q3⟩
 |.cond c a b,e,A,O,hd,h=>by
  rw[tok,a01]at hd;unfold evT yz;rw[ahm c (h.ag _).agree];cases avA C A c with
  |bool x=>cases x with
   |true=>exact aah a e A O hd.1 h
   |false=>exact aah b e A O hd.2 h
  |_=>trivial
def V5(n:Nat)(args:LA)(h:args.length<=n):AgF n (args++List.replicate (n-args.length) .undef) (jF 0 args):=
 .of (by simp;omega) fun m=>aaH m n args h
def MX(n0:Nat)(rs:List XR)(A:As)(O:St):Option (AV×St):=match aY A O rs with
 |none=>none
 |some vs=>match hand false vs O with
  |none=>none
  |some (vs,O3)=>some (bD vs,tidy n0 vs O3)
def N9(n0:Nat)(rs:List XR):Option (TX×As×St)->Option (Ans×St)
 |none=>none
 |some (.pan v,_,O2)=>some (.pan v,tidy n0 [v] O2)
 |some (_,A,O2)=>match MX n0 rs A O2 with
  |some (v,O')=>some (.ret v,O')
  |none=>none
def aaY{n:Nat}{e:Env}{A:As}(h:AgF n e A)(O0:St)(rs:List XR)(O:St):acE O0 rs e O=MX O0.length rs A O:=by
 unfold acE MX;rw[Tz rs (h.ag _)];rfl
def abD {C:Ctx} {call:aZ} {ct:vW} {x:TF} (hok:tok x.ntmps x.body=true) {args:LA} {O:St} {args1:LA} {O1:St} (hh:hand false args O=some (args1,O1)) (hl:Nat.ble args1.length x.ntmps=true):
  runT C call ct x args O=N9 O.length x.results (yz C call ct x.ntmps x.body (jF 0 args1) O1):=by
 unfold runT;rw[hh];dsimp only;rw[hl];dsimp only;have q:=aah (C:=C) (call:=call) (ct:=ct) x.body _ _ O1 hok (V5 x.ntmps args1 (av8 hl));cases h1:evT C call ct x.body (args1++List.replicate (x.ntmps-args1.length) .undef) O1 with
 |none=>rw[h1]at q;cases h2:yz C call ct x.ntmps x.body (jF 0 args1) O1 with
  |none=>rfl
  |some r=>rw[h2]at q;exact q.elim
 |some r=>rw[h1]at q;cases h2:yz C call ct x.ntmps x.body (jF 0 args1) O1 with
  |none=>rw[h2]at q;exact q.elim
  |some r'=>
   rw[h2]at q;obtain⟨y,e',O'⟩:=r;obtain⟨y',A',O''⟩:=r';obtain⟨rfl,rfl,q3⟩:=q;cases y with
   |pan v=>rfl
   |normal=>dsimp only[N9];rw[aaY q3];rfl
   |ret=>dsimp only[N9];rw[aaY q3];rfl
def ajd(n:Nat)(cv:LA)(r m:Nat)(v:AV)(h:cv.length<=n)(hr:r<n)(hm:m<n):AgF n (((cv++List.replicate (n-cv.length) AV.undef).set r v).set m v) ((m,v)::(r,v)::jF 0 cv):=by
 have h0:=V5 n cv h;have h1:=h0.put (d:=some r) (by simpa[Qc]using hr) v
 exact h1.put (d:=some m) (by simpa[Qc]using hm) v
def tK:XC->Bool
 |.seq a b=>tK a&&tK b
 |.cond _ a b=>tK a&&tK b
 |.block _ b=>tK b
 |.scope b=>tK b
 |.loop _=>false
 |_=>true
def rV{C:Ctx}{call:aZ}{n:Nat}:∀(x:XC) (e:Env) (O:St),tK x=true->evC C call n x e O=kL C call x e O
 |.skip,_,_,_=>rfl
 |.ops _,_,_,_=>rfl
 |.drawn _,_,_,_=>rfl
 |.seq a b,e,O,h=>by
  rw[tK,a01]at h;unfold evC kL;rw[rV a e O h.1];cases kL C call a e O with
  |none=>rfl
  |some r=>
   obtain⟨x,e',O'⟩:=r;cases x with
   |normal=>exact rV b e' O' h.2
   |exit i=>rfl
   |ret=>rfl
 |.cond c a b,e,O,h=>by
  rw[tK,a01]at h;unfold evC kL;cases av C e c with
  |bool x=>cases x with
   |true=>exact rV a e O h.1
   |false=>exact rV b e O h.2
  |_=>rfl
 |.block id b,e,O,h=>by
  rw[tK]at h;unfold evC kL;rw[rV b e O h];rfl
 |.exit _,_,_,_=>rfl
 |.ret,_,_,_=>rfl
 |.scope b,e,O,h=>by
  rw[tK]at h;unfold evC kL;exact rV b e O h
 |.fail,_,_,_=>rfl
noncomputable def LG(C:Ctx)(call:aZ)(ct:vW)(x:CFn)(k:KFn)(K:KC)(n0:Nat)(args1:LA)(O1:St):Option (AV×St):=
 match ase C call x.ntmps x.first (jF 0 args1) O1 with
 |none=>none
 |some (A0,O0)=>match yz C call ct x.ntmps x.body ((x.d,.func (.func x.clo) [] (x.caps.map (avA C A0)))::A0) O0 with
  |none=>none
  |some (tx,A2,O2)=>match dL C (IK ct) k.ntmps K ((k.m,thrown tx)::(k.r,thrown tx)::jF 0 (x.caps.map (avA C A0))) O2 with
   |some (.exit _,_,_)=>none
   |none=>none
   |some (_,_,O3)=>MX n0 x.results A2 O3
def ag3(x:CFn)(k:KFn)(K:KC):Bool:=(live k.ntmps 0 K 0 fun _=>0).isSome&&tK k.body&&aaX x.ntmps x.first&&tok x.ntmps x.body&&Nat.blt x.d x.ntmps&&Nat.blt k.r k.ntmps&&Nat.blt k.m k.ntmps&&Nat.ble x.caps.length k.ntmps
def adt {C:Ctx} {call:aZ} {ct:vW} {x:CFn} {k:KFn} {K:KC} (hK:K.forget=k.body) (hok:ag3 x k K=true) {args:LA} {O:St} {args1:LA} {O1:St} (hh:hand false args O=some (args1,O1)) (hl:Nat.ble args1.length x.ntmps=true):
  xJ C call ct x k args O=LG C call ct x k K O.length args1 O1:=by
 simp only[ag3,a01,Nat.blt_eq]at hok;obtain⟨⟨⟨⟨⟨⟨⟨k1,k2⟩,k3⟩,k4⟩,k5⟩,k6⟩,k7⟩,k8⟩:=hok;unfold xJ LG;rw[hh];dsimp only;have q:=fun N=>VF (C:=C) (call:=call) (N:=N) x.first _ _ O1 k3 ((V5 x.ntmps args1 (av8 hl)).ag _);cases h1:qc C call x.first (args1++List.replicate (x.ntmps-args1.length) .undef) O1 with
 |none=>
  cases h2:ase C call x.ntmps x.first (jF 0 args1) O1 with
  |none=>rfl
  |some r=>have:=q 0;rw[h1,h2]at this;exact this.elim
 |some r=>
  cases h2:ase C call x.ntmps x.first (jF 0 args1) O1 with
  |none=>have:=q 0;rw[h1,h2]at this;exact this.elim
  |some r'=>
   obtain⟨e0,O0⟩:=r;obtain⟨A0,O0'⟩:=r';have q0:=q 0;rw[h1,h2]at q0;obtain⟨a,c⟩:=q0;subst a;have g0:AgF x.ntmps e0 A0:=.of c.len fun N=>by
    have:=q N;rw[h1,h2]at this;exact this.2
   have ec:x.caps.map (av C e0)=x.caps.map (avA C A0):=List.map_congr_left fun y _=>ahm y (g0.ag _).agree;dsimp only;rw[ec];have g1:=g0.put (d:=some x.d) (by simpa[Qc]using k5) (.func (.func x.clo) [] (x.caps.map (avA C A0)))
   have q2:=aah (C:=C) (call:=call) (ct:=ct) x.body _ _ O0 k4 g1;unfold put yA at q2;dsimp only at q2;generalize e0.set x.d (.func (.func x.clo) [] (x.caps.map (avA C A0)))=e1 at q2⊢;generalize(x.d,AV.func (.func x.clo) [] (x.caps.map (avA C A0)))::A0=A1 at q2⊢;cases h3:evT C call ct x.body e1 O0 with
   |none=>
    rw[h3]at q2;cases h4:yz C call ct x.ntmps x.body A1 O0 with
    |none=>rfl
    |some r=>rw[h4]at q2;exact q2.elim
   |some r=>
    rw[h3]at q2;cases h4:yz C call ct x.ntmps x.body A1 O0 with
    |none=>rw[h4]at q2;exact q2.elim
    |some r'=>
     rw[h4]at q2;obtain⟨tx,e2,O2⟩:=r;obtain⟨tx',A2,O2'⟩:=r';obtain⟨rfl,rfl,q3⟩:=q2;dsimp only;rw[rV _ _ _ k2,<-hK];have ga:=ajd k.ntmps (x.caps.map (avA C A0)) k.r k.m (thrown tx) (by simpa using av8 k8) k6 k7
     rw[aw8]at ga;obtain⟨M,hM⟩:=aw3.mp k1;have q4:=wJ (C:=C) (call:=IK ct) K _ M _ hM _ _ O2 (ga.ag M);revert q4;cases kL C (IK ct) K.forget (((x.caps.map (avA C A0)++List.replicate (k.ntmps-x.caps.length) AV.undef).set k.r (thrown tx)).set k.m (thrown tx)) O2<;>cases dL C (IK ct) k.ntmps K ((k.m,thrown tx)::(k.r,thrown tx)::jF 0 (x.caps.map (avA C A0))) O2
     ·intro _;rfl
     ·intro h;exact h.elim
     ·intro h;exact h.elim
     ·rename_i r r';obtain⟨y,e3,O3⟩:=r;obtain⟨y',A3,O3'⟩:=r';rintro⟨h5,h6,_⟩;subst h5 h6;cases y with
      |exit i=>rfl
      |normal=>exact aaY q3 O x.results _
      |ret=>exact aaY q3 O x.results _
def Vs{C:Ctx}{call:aZ}{T:FuncId->Option TF}{f:FuncId}{x:TF}(h:T f=some x)(n:Nat)(args:LA)(O:St):mX C call T (n+1) f args O=runT C call (mX C call T n) x args O:=by
 rw[mX,h]
def aaT{C:Ctx}{call:aZ}{T:FuncId->Option TF}{f:FuncId}(h:T f=none)(n:Nat){args:LA}{O:St}{v:AV}{O':St}(hc:call f args O=some (v,O')):mX C call T n f args O=some (.ret v,O'):=by
 cases n with
 |zero=>rw[mX,hc]
 |succ n=>rw[mX,h];dsimp only;rw[hc]
def agW{C:Ctx}{ct:vW}{f:FuncId}{args:LA}{O:St}{v:AV}{O':St}(h:ct f args O=some (.ret v,O')):IK ct f args O=some (v,O'):=by
 rw[IK,h]
variable{call:aZ}{ct:vW}{n:Nat}
abbrev TR:=Option (TX×As×St)
def outT(ct:vW)(d:Option Nat)(A:As)(x:Option Out)(k:As->St->TR):TR:=match x with
 |some (.val v O')=>k (yA A d v) O'
 |some (.call f args O')=>match ct f args O' with
  |some (.ret v,O'')=>k (yA A d v) O''
  |some (.pan v,O'')=>some (.pan v,A,O'')
  |none=>none
 |none=>none
def tN(d:Nat)(A:As)(v:AV)(O:St)(k):outT ct (some d) A (some (.val v O)) k=k ((d,v)::A) O:=rfl
def qQ(A:As)(v:AV)(O:St)(k):outT ct none A (some (.val v O)) k=k A O:=rfl
def aoM(d:Option Nat)(A:As)(r:Option (Ans×St))(k:As->St->TR):TR:=match r with
 |some (.ret v,O'')=>k (yA A d v) O''
 |some (.pan v,O'')=>some (.pan v,A,O'')
 |none=>none
def qP(d:Option Nat)(A:As)(f:FuncId)(args:LA)(O:St)(k):outT ct d A (some (.call f args O)) k=aoM d A (ct f args O) k:=rfl
def uA(d:Nat)(A:As)(v:AV)(O:St)(k):aoM (some d) A (some (.ret v,O)) k=k ((d,v)::A) O:=rfl
def wo(d:Option Nat)(A:As)(v:AV)(O:St)(k):aoM d A (some (.pan v,O)) k=some (.pan v,A,O):=rfl
def BN(A:As)(O:St):jX C ct n [] A O=some (.normal,A,O):=rfl
def Vg(d:Nat)(i:XI)(l:List TOp)(A:As)(O:St):jX C ct n (.op (o d i)::l) A O=outT ct (some d) A (aB C (avA C A) n O i) (jX C ct n l):=rfl
def Yj(i:XI)(l:List TOp)(A:As)(O:St):jX C ct n (.op (u i)::l) A O=outT ct none A (aB C (avA C A) n O i) (jX C ct n l):=rfl
def Vf(d s:Nat)(l:List TOp)(A:As)(O:St):jX C ct n (.op (m d s)::l) A O=jX C ct n l ((d,look A s)::A) O:=rfl
def asT(d t:Nat)(A:As)(x:AV)(k:As->TR):TR:=match x with
 |.iface t' v=>match Nat.beq t' t with
  |true=>k ((d,.tup [v,.bool true])::A)
  |false=>none
 |_=>none
def Ko(d:Nat)(t:TypeId)(x:XA)(l:List TOp)(A:As)(O:St):jX C ct n (.assert d t x::l) A O=asT d t A (avA C A x) fun A=>jX C ct n l A O:=by
 rw[jX];unfold asT;cases avA C A x<;>rfl
def DK(d t:Nat)(A:As)(v:AV)(k):asT d t A (.iface t v) k=k ((d,.tup [v,.bool true])::A):=by
 unfold asT;dsimp only;rw[Nat.beq_refl]
def pnT(A:As)(O:St)(x:AV):TR:=match x with
 |.iface t v=>some (.pan (.iface t v),A,O)
 |_=>none
def IM(x:XA)(l:List TOp)(A:As)(O:St):jX C ct n (.panic x::l) A O=pnT A O (avA C A x):=by
 rw[jX];unfold pnT;cases avA C A x<;>rfl
def BF(A:As)(O:St)(t:TypeId)(v:AV):pnT A O (.iface t v)=some (.pan (.iface t v),A,O):=rfl
def alq(r:TR)(k:As->St->TR):TR:=match r with
 |some (.normal,A,O)=>k A O
 |r=>r
def jT(A:As)(O:St)(k):alq (some (.normal,A,O)) k=k A O:=rfl
def wR(A:As)(O:St)(k):alq (some (.ret,A,O)) k=some (.ret,A,O):=rfl
def wQ(v:AV)(A:As)(O:St)(k):alq (some (.pan v,A,O)) k=some (.pan v,A,O):=rfl
def BM(a b:TC)(A:As)(O:St):yz C call ct n (.seq a b) A O=alq (yz C call ct n a A O) (yz C call ct n b):=by
 rw[yz];unfold alq;rcases yz C call ct n a A O with _|⟨x,A',O'⟩
 ·rfl
 ·cases x<;>rfl
def ag7(x:AV)(a b:TR):TR:=match x with
 |.bool true=>a
 |.bool false=>b
 |_=>none
def wX(c:XA)(a b:TC)(A:As)(O:St):yz C call ct n (.cond c a b) A O=ag7 (avA C A c) (yz C call ct n a A O) (yz C call ct n b A O):=by
 rw[yz];unfold ag7;cases avA C A c with
 |bool x=>cases x<;>rfl
 |_=>rfl
def pV(a b:TR):ag7 (.bool true) a b=a:=rfl
def jR(a b:TR):ag7 (.bool false) a b=b:=rfl
def BK(l:List TOp)(A:As)(O:St):yz C call ct n (.ops l) A O=jX C ct n l A O:=rfl
def wY(A:As)(O:St):yz C call ct n .skip A O=some (.normal,A,O):=rfl
def BL(A:As)(O:St):yz C call ct n .ret A O=some (.ret,A,O):=rfl
def drT(r:Option (As×St)):TR:=match r with
 |some (A,O)=>some (.normal,A,O)
 |none=>none
def wz(A:As)(O:St):drT (some (A,O))=some (.normal,A,O):=rfl
def wU(l:List XOp)(A:As)(O:St):yz C call ct n (.drawn l) A O=drT (sW C call n l A O):=by
 rw[yz];unfold drT;rcases sW C call n l A O with _|⟨A',O'⟩<;>rfl
end Go.Ev
namespace Go.Ev
set_option maxRecDepth 100000
variable{C:Ctx}{call:aZ}{ct:vW}
def TT(f:FuncId):Option TF:=match Nat.beq f mY with
 |true=>some Ac
 |false=>match Nat.beq f oQ with
  |true=>some uj
  |false=>match Nat.beq f lG with
   |true=>some lm
   |false=>match Nat.beq f fO with
    |true=>some ig
    |false=>none
def zi(c:Int):AV:=.iface 156 (.agg [.int .u8 c])
def caught_is(n:Nat)(c:Int){O:St}(hσ:Ok O):mX C call TT (n+1) mY [zi c] O=some (.ret (.int .u8 c),O):=by
 rw[Vs (x:=Ac) rfl,abD (args1:=[zi c]) (O1:=O) (by rfl) (by rfl) (by rfl)]
 have ty:=fun L=>dE hσ (vs:=[.int .u8 c]) rfl L;unfold zi;simp only[Ac,BM,wX,BK,wY,BL,jR,jT,BN,Vg,Yj,Vf,IM,Ko,DK,BF,tN,qQ,N9,MX,aY,ty,AV.cells,AV.flat,splice,EVX,seval]
end Go.Ev
namespace Go.Ev
set_option maxRecDepth 100000
variable{C:Ctx}
def aeA (H:MadeHas C) (hf:Has C uI um) (n:Nat) {h l R now rc sc nm fs F r s m o fo oo} (rl:LU) (most:Int) {O:St} (hσ:Ok O) (a:bP O h l R now rc sc nm fs F r s m o fo oo) (hr:role rl=true) {d:LU} {z:Int} {S:St} (hg:ai C lL [.ref s 0,.str (rl++iJ),.int .i64 most] O=some (.tup [.str d,.int .i64 z,.int .i64 0],S)) (hS:tidy O.length [.str d,.int .i64 z] S=S):
  mX C (ai C) TT (n+1) oQ [.ref r 0,.str rl,.int .i64 most] O=some (.ret (.tup [.str d,.int .i64 z]),S):=by
 rw[Vs (x:=uj) rfl,abD (args1:=[.ref r 0,.str rl,.int .i64 most]) (O1:=O) (by rfl) (by rfl) (by rfl)]
 have q1:=aaT (C:=C) (call:=ai C) (T:=TT) (f:=uI) rfl n (Lu hf H.nrole H.allowed rl O);have fa:Ul rl=.tup [.str (rl++iJ),.int .i64 0]:=by simp[Ul,hr]
 rw[fa]at q1;have q2:=aaT (C:=C) (call:=ai C) (T:=TT) (f:=lL) rfl n hg;have rp:=a.rp;unfold Cm at rp;simp only[uj,q1,q2,rp,hS,BM,wX,BK,wY,BL,jR,jT,BN,Vg,Vf,IM,BF,tN,qP,uA,N9,MX,aY,AV.cells,splice,EVX,seval]
structure Req(O S:St)(s m:Nat)(F F':List dO)(oo oo':Option Nat):Prop where
 ok:Ok S
 len:O.length<=S.length
 old:∀i x,i≠s->i≠m->oo≠some i->O[i]?=some x->S[i]?=some x
 new:∀q,oo'=some q->oo=some q\/O.length<=q
 far:(S.take O.length=O/\F'=F/\oo'=oo)\/∃x,S[s]?=some x/\x.below O.length=false
def Req.refl{O:St}(h:Ok O)(s m:Nat)(F:List dO)(oo:Option Nat):Req O O s m F F oo oo:=
 ⟨h,a06 _,fun _ _ _ _ _ h=>h,fun _ h=>.inl h,.inl ⟨aD6,rfl,rfl⟩⟩
def Wh{n k:Nat}(h:n<=k){x:AO}(hx:x.below k=false):x.below n=false:=by
 cases h1:x.below n
 ·rfl
 ·rw[AO.below_mono h x h1]at hx;cases hx
def Req.base{O L S:St}{s m F F' oo oo'}(q:Req (O++L) S s m F F' oo oo'):Req O S s m F F' oo oo':=by
 have hl:O.length<=(O++L).length:=by simp
 refine⟨q.ok,ax7 hl q.len,fun i x a b c d=>q.old i x a b c (aA d _),fun k h=>?_,?_⟩
 ·rcases q.new k h with h|h
  ·exact .inl h
  ·exact .inr (ax7 hl h)
 ·rcases q.far with⟨a,b,c⟩|⟨x,a,b⟩
  ·refine .inl ⟨?_,b,c⟩;have:=congrArg (List.take O.length) a;rw[aD1,az7 hl,List.take_left']at this
   ·exact this
   ·rfl
  ·exact .inr ⟨x,a,Wh hl b⟩
theorem Req.more{O S T:St}{s m F F' oo oo'}(q:Req O S s m F F' oo oo')(hs:s<O.length)(ok:Ok T)(hl:S.length<=T.length)(h:∀i x,i<O.length->S[i]?=some x->T[i]?=some x):Req O T s m F F' oo oo':=by
 refine⟨ok,ax7 q.len hl,fun i x a b c d=>h i x (a00.mp d).1 (q.old i x a b c d),q.new,?_⟩;rcases q.far with⟨a,b,c⟩|⟨x,a,b⟩
 ·refine .inl ⟨?_,b,c⟩;refine aw5 fun k=>?_;rw[au7];split
  ·next hk=>
   have e:O[k]?=some O[k]:=a02 hk;have e2:S[k]?=O[k]?:=by
    have:=congrArg (fun l=>l[k]?) a;rw[au7,if_pos hk]at this;exact this
   rw[e];exact h k _ hk (by rw[e2,e])
  ·next hk=>exact(aw2 (by omega)).symm
 ·exact .inr ⟨x,h s x hs a,b⟩
def Req.trans{O S T:St}{s m F F' F'' oo oo' oo''}(p:Req O S s m F F' oo oo')(q:Req S T s m F' F'' oo' oo'')(hs:s<O.length)(hm:s≠m):Req O T s m F F'' oo oo'':=by
 refine⟨q.ok,ax7 p.len q.len,fun i x a b c d=>q.old i x a b (fun e=>?_) (p.old i x a b c d),fun k h=>?_,?_⟩
 ·have:=(a00.mp d).1;rcases p.new i e with e|e
  ·exact c e
  ·omega
 ·rcases q.new k h with h|h
  ·exact p.new k h
  ·exact .inr (ax7 p.len h)
 ·rcases q.far with⟨a,b,c⟩|⟨x,a,b⟩
  ·have tk:∀k x,k<S.length->S[k]?=some x->T[k]?=some x:=fun k x hk e=>by
    have:=congrArg (fun l=>l[k]?) a;rw[au7,if_pos hk]at this;rw[this,e]
   rcases p.far with⟨a',b',c'⟩|⟨x,a',b'⟩
   ·refine .inl ⟨?_,by rw[b,b'],by rw[c,c']⟩
    have:=congrArg (List.take O.length) a;rw[aD1,az7 p.len,a']at this;exact this
   ·exact .inr ⟨x,tk s x (ax8 hs p.len) a',b'⟩
  ·exact .inr ⟨x,a,Wh p.len b⟩
structure aoB(n:Nat)(r s m o:Nat)(fo oo:Option Nat):Prop where
 r:r<n
 s:s<n
 m:m<n
 o:o<n
 fo:∀q,fo=some q->q<n
 oo:∀q,oo=some q->q<n
def bP.lt{Y:St}{h l R now rc sc nm fs F r s m o fo oo}(a:bP Y h l R now rc sc nm fs F r s m o fo oo):aoB Y.length r s m o fo oo:=by
 obtain⟨fv,ov,h1,h2,h3⟩:=a.st.st;refine⟨(a00.mp a.rp).1,(a00.mp h1).1,(a00.mp a.st.mp).1,(a00.mp a.ver).1,fun q e=>?_,fun q e=>?_⟩
 ·rcases h2 with⟨_,h,_⟩|⟨q',fz,b1,b2,b3,b4⟩
  ·rw[h]at e;cases e
  ·rw[b1]at e;cases e;exact(a00.mp b4).1
 ·rcases h3 with⟨_,h,_⟩|⟨q',b1,b2,b3,b4⟩
  ·rw[h]at e;cases e
  ·rw[b1]at e;cases e;exact(a00.mp b4).1
def bP.moved{Y S:St}{h l R now rc sc nm fs F r s m o fo oo}(a:bP Y h l R now rc sc nm fs F r s m o fo oo)(hk:∀i x,(i=r\/i=s\/i=m\/i=o\/fo=some i\/oo=some i)->Y[i]?=some x->S[i]?=some x):bP S h l R now rc sc nm fs F r s m o fo oo:=by
 have k:=a.lt;have e:∀i,i<Y.length->(i=r\/i=s\/i=m\/i=o\/fo=some i\/oo=some i)->S[i]?=Y[i]?:=fun i hi hp=>by
  have:=a02 hi;rw[this];exact hk i _ hp this
 exact a.keep (e r k.r (.inl rfl)) (e o k.o (by simp)) (e s k.s (by simp)) (e m k.m (by simp)) (fun q h=>e q (k.fo q h) (by simp[h])) (fun q h=>e q (k.oo q h) (by simp[h]))
def bP.app{Y:St}{h l R now rc sc nm fs F r s m o fo oo}(a:bP Y h l R now rc sc nm fs F r s m o fo oo)(L:St):bP (Y++L) h l R now rc sc nm fs F r s m o fo oo:=a.moved fun i x _ h=>aA h L
def Req.repo{O S:St}{h l R now rc sc nm fs F F' r s m o fo oo oo'}(a:bP O h l R now rc sc nm fs F r s m o fo oo)(q:Req O S s m F F' oo oo')(b:jE S nm fs F' s m fo oo'):bP S h l R now rc sc nm fs F' r s m o fo oo':=by
 have k:=a.lt;have nr:oo'≠some r:=fun e=>by
  rcases q.new r e with e|e
  ·exact a.ro e
  ·have:=k.r;omega
 have no:oo'≠some o:=fun e=>by
  rcases q.new o e with e|e
  ·exact a.vo e
  ·have:=k.o;omega
 exact⟨q.old r _ a.rs a.rm a.ro a.rp,q.old o _ a.vs a.vm a.vo a.ver,b,a.rs,a.rm,nr,a.vs,a.vm,no,a.caps⟩
def Req.fin {O S:St} {h l R now rc sc nm fs F F' r s m o fo oo oo'} (hσ:Ok O) (a:bP O h l R now rc sc nm fs F r s m o fo oo) (q:Req O S s m F F' oo oo') (b:bP S h l R now rc sc nm fs F' r s m o fo oo') (vs:LA) (hv:ae 0 vs=true):
  ∃S',tidy O.length vs S=S'/\bP S' h l R now rc sc nm fs F' r s m o fo oo'/\Req O S' s m F F' oo oo':=by
 rcases q.far with⟨e1,e2,e3⟩|⟨x,e1,e2⟩
 ·refine⟨O,pG hσ hv e1,?_,?_⟩
  ·rw[e2,e3];exact a
  ·rw[e2,e3];exact .refl hσ _ _ _ _
 ·exact⟨S,Yh vs a.lt.s e1 e2,b,q⟩
def YK (H:StoHas C) {O:St} (hσ:Ok O) {h l R now rc sc nm fs F r s m o fo oo} (a:bP O h l R now rc sc nm fs F r s m o fo oo) (hF:F.length<1000000) (file:LU) (cap:Int) (hc:0<=cap/\cap<=65536):
  ∃S oo',ai C lL [.ref s 0,.str file,.int .i64 cap] O=some (.tup [.str (wH fs F file cap).1.data,.int .i64 (wH fs F file cap).1.size,.int .i64 0],S)/\bP S h l R now rc sc nm fs (wH fs F file cap).2 r s m o fo oo'/\Req O S s m F (wH fs F file cap).2 oo oo'/\∀vs,tidy O.length vs S=S:=by
 unfold wH;cases hf:F.find? (fun f=>decide (f.name=file))with
 |some f=>exact⟨O,oo,YM H hσ a.st file cap hc f hf,a,.refl hσ _ _ _ _,fun vs=>aS O vs⟩
 |none=>
  obtain⟨S,oo',q1,q2,q3,q4,q5,q6⟩:=YL H hσ a.st hF file cap hc hf;have fr:∃x,S[s]?=some x/\x.below O.length=false:=by
   obtain⟨fv,ov,h1,_,h3⟩:=q3.st;rcases h3 with⟨h3,_⟩|⟨k,b1,b2,b3,b4⟩
   ·simp at h3
   ·refine⟨_,h1,?_⟩;have:=q6 k b1;have n:¬k<O.length:=by omega
    rw[b3];simp[AO.below,ae,below,n]
  have q:Req O S s m F (F++[xB fs file cap]) oo oo':=⟨q2,q4,q5,fun k e=>.inr (q6 k e),.inr fr⟩;obtain⟨x,e1,e2⟩:=fr;exact⟨S,oo',q1,q.repo a q3,q,fun vs=>Yh vs a.lt.s e1 e2⟩
def fetch_any (H:MadeHas C) (hS:StoHas C) (hf:Has C uI um) (n:Nat) {h l R now rc sc nm fs F r s m o fo oo} (rl:LU) (most:Int) {O:St} (hσ:Ok O) (a:bP O h l R now rc sc nm fs F r s m o fo oo) (hF:F.length<1000000) (hc:0<=most/\most<=65536) (hr:role rl=true):
  ∃S oo',mX C (ai C) TT (n+1) oQ [.ref r 0,.str rl,.int .i64 most] O=some (.ret (.tup [.str (wH fs F (rl++iJ) most).1.data,.int .i64 (wH fs F (rl++iJ) most).1.size]),S)/\bP S h l R now rc sc nm fs (wH fs F (rl++iJ) most).2 r s m o fo oo'/\Req O S s m F (wH fs F (rl++iJ) most).2 oo oo':=by
 obtain⟨S,oo',q1,q2,q3,q4⟩:=YK hS hσ a hF (rl++iJ) most hc;exact⟨S,oo',aeA H hf n rl most hσ a hr q1 (q4 _),q2,q3⟩
structure Dt where
 sn:LU->Int->SnV×Int
 ro:mi->eu->List PS->LU->Int->kG×Int
structure Io(C:Ctx)(h:Bool)(l:List fV)(R:jQ)(now:Int)(K:Dt):Prop where
 snok:∀d z,d.length<=LB->(K.sn d z).1.ok
 sn:∀d z (O:St) (o:Nat),d.length<=LB->Ok O->O[o]?=some (Ep h l)->ai C nG [.ref o 0,.agg R.cs,.int .i64 now,.str d,.int .i64 z] O=some (.tup [.agg (K.sn d z).1.cs,.int .u8 (K.sn d z).2],O)
 snz:∀d z,(K.sn d z).2≠0->(K.sn d z).1=Vj
 roz:∀p a ks d z,(K.ro p a ks d z).2≠0->(K.ro p a ks d z).1=ML
 rook:∀p a ks d z,zC p.hashes->xM a.ids->zC ks->d.length<=LB->(K.ro p a ks d z).1.ok
 ro:∀p a ks d z (O:St) (o:Nat),zC p.hashes->xM a.ids->zC ks->d.length<=LB->Ok O->O[o]?=some (Ep h l)->ai C yO [.ref o 0,.agg p.cs,.agg a.cs,.sl ks.length (ks.flatMap pC),.int .i64 now,.str d,.int .i64 z] O=some (.tup [.agg (K.ro p a ks d z).1.cs,.int .u8 (K.ro p a ks d z).2],O)
def yB(fs:List PS)(F:List dO):Prop:=∀f∈F,f=xB fs f.name f.cap
def Du(fs:List PS):Prop:=∀p∈fs,p.2.length<=LB
def Ea(fs:List PS)(file:LU)(cap:Int):(xB fs file cap).cap=cap:=by
 unfold xB ab3;split
 ·split<;>rfl
 ·rfl
def ahB{fs:List PS}(h:Du fs)(file:LU)(cap:Int):(xB fs file cap).data.length<=LB:=by
 unfold xB;cases hf:fs.find? (fun p=>decide (p.1=file))with
 |none=>exact a98 _
 |some p=>
  unfold ab3;dsimp only;split
  ·exact a98 _
  ·exact h p (List.mem_of_find?_eq_some hf)
def ab7{fs:List PS}{F:List dO}(hF:yB fs F)(file:LU)(cap:Int):yB fs (wH fs F file cap).2/\(wH fs F file cap).1=xB fs file (wH fs F file cap).1.cap:=by
 unfold wH;cases hf:F.find? (fun f=>decide (f.name=file))with
 |some f=>
  have h1:=hF f (List.mem_of_find?_eq_some hf);have h2:f.name=file:=by simpa using List.find?_some hf
  rw[h2]at h1;exact⟨hF,h1⟩
 |none=>
  refine⟨fun f h=>?_,by dsimp only;rw[Ea]⟩
  rcases az8.mp h with h|h
  ·exact hF f h
  ·rw[aA2.mp h,Dn,Ea]
def acQ(fs:List PS)(F:List dO)(file:LU)(cap:Int):(wH fs F file cap).2.length<=F.length+1:=by
 unfold wH;split
 ·exact Nat.le_succ _
 ·simp
def Lj{fs:List PS}{F:List dO}(hd:Du fs)(hF:yB fs F)(file:LU)(cap:Int):(wH fs F file cap).1.data.length<=LB:=by
 rw[(ab7 hF file cap).2];exact ahB hd _ _
def Bz:LU:=[115,110,97,112,115,104,111,116]
def gU(K:Dt)(fs:List PS)(sc:Int)(F:List dO):(SnV×Int)×List dO:=
 let g:=wH fs F (Bz++iJ) sc
 (K.sn g.1.data g.1.size,g.2)
structure Su(C:Ctx):Prop extends MadeHas C where
 sto:StoHas C
 file:Has C uI um
 rmade:Has C kJ ni
 pin:VW C
def Tu(hC:Has C kJ ni){h l R now rc sc nm fs F r s m o fo oo}{O:St}(a:bP O h l R now rc sc nm fs F r s m o fo oo):ai C kJ [.ref r 0] O=some (.bool true,O):=by
 have hn:=iI r O;have rp:=a.rp;unfold Cm at rp;rw[hC.go hn];simp only[ni,rp,EVX,seval]
def Qe{n0:Nat}{rs:List XR}{A:As}{O:St}{vs:LA}(h:aY A O rs=some vs)(hv:NVs vs):MX n0 rs A O=some (bD vs,tidy n0 vs O):=by
 unfold MX;rw[h];dsimp only;rw[hv.hand]
def UZ(c:Int)(v:AV):Ans:=if c=0 then .ret v else .pan (zi c)
def Rz (H:Su C) (n:Nat) {h l R now rc sc nm fs F r s m o fo oo K} (hK:Io C h l R now K) (hd:Du fs) (hFo:yB fs F) {O:St} (hσ:Ok O) (a:bP O h l R now rc sc nm fs F r s m o fo oo) (hF:F.length<1000000):
  ∃S oo',mX C (ai C) TT (n+2) lG [.ref r 0] O=some (UZ (gU K fs sc F).1.2 (.agg (gU K fs sc F).1.1.cs),S)/\bP S h l R now rc sc nm fs (gU K fs sc F).2 r s m o fo oo'/\Req O S s m F (gU K fs sc F).2 oo oo':=by
 have k:=a.lt;have hc:0<=sc/\sc<=65536:=by have:=a.caps.2;unfold U6 at this;simpa using this
 have ok1:Ok (O++[.cells [.int .i64 0,.int .i64 0,.nils] FZ]):=hσ.plus rfl;obtain⟨S,oo',q1,b,q⟩:=fetch_any H.toMadeHas H.sto H.file n Bz sc ok1 (a.app _) hF hc (by decide)
 have e1:(wH fs F (Bz++iJ) sc).2=(gU K fs sc F).2:=rfl;rw[e1]at b q;obtain⟨g,hg⟩:∃g,wH fs F (Bz++iJ) sc=g:=⟨_,rfl⟩;have e2:(gU K fs sc F).1=K.sn g.1.data g.1.size:=by rw[<-hg];rfl
 have dl:g.1.data.length<=LB:=by rw[<-hg];exact Lj hd hFo _ _
 rw[e2];rw[hg]at q1;have q2:=hK.sn g.1.data g.1.size S o dl q.ok b.ver;generalize K.sn g.1.data g.1.size=t at*;obtain⟨t,c⟩:=t;dsimp only at*;have kb:=b.lt;have z:S[O.length]?=some (.cells [.int .i64 0,.int .i64 0,.nils] FZ):=q.old _ _ (by have:=k.s;omega) (by have:=k.m;omega) (fun e=>by have:=k.oo _ e;omega) (by rw[aQ];rfl)
 have tc:AO.below 0 (.cells t.cs FZ)=true:=t.nvs.cl;have rp:=b.rp;have mk:=Tu H.rmade (a.app [.cells [.int .i64 0,.int .i64 0,.nils] FZ]);have mk2:=aaT (C:=C) (call:=ai C) (T:=TT) (f:=kJ) rfl (n+1) mk;have qb:=q.base;have okT1:Ok (S++[.cells t.cs FZ]):=q.ok.plus (by rw[a88,tc];rfl)
 rw[Vs (x:=lm) rfl,abD (args1:=[.ref r 0]) (O1:=O) (by rfl) (by rfl) (by rfl)]
 have zS:=fun L=>aA z L;have pS:=fun L y=>dJ z L y;have rpS:=fun L=>aA rp L;have rp0:(O++[.cells [.int .i64 0,.int .i64 0,.nils] FZ])[r]?=_:=aA a.rp _;have Rc:=R.cs_is;have Sc:t.cs=[.int .i64 t.ver,.int .i64 t.exp,.sl t.pins.length (t.pins.flatMap mi.cs)]:=rfl;unfold Cm at rp rpS rp0;rw[Rc]at rp rpS rp0 q2;rw[Sc]at q2 okT1 tc⊢;simp only[a99,au3]at rp rpS rp0;unfold Bz at q1;by_cases hc0:c=0
 ·subst hc0;have okT:Ok ((S.set O.length (.cells [.int .i64 t.ver,.int .i64 t.exp,.sl t.pins.length (t.pins.flatMap mi.cs)] FZ))++[.cells [.int .i64 t.ver,.int .i64 t.exp,.sl t.pins.length (t.pins.flatMap mi.cs)] FZ]):=(Ok.set2 q.ok _ (AO.below_mono (a98 _) _ tc)).plus (by rw[a88,tc];rfl)
  have bT:bP (S.set O.length (.cells [.int .i64 t.ver,.int .i64 t.exp,.sl t.pins.length (t.pins.flatMap mi.cs)] FZ)) h l R now rc sc nm fs (gU K fs sc F).2 r s m o fo oo':=b.moved fun i x hi e=>aF e (fun e'=>by
   subst e';rcases hi with e|e|e|e|e|e
   ·have:=k.r;omega
   ·have:=k.s;omega
   ·have:=k.m;omega
   ·have:=k.o;omega
   ·have:=k.fo _ e;omega
   ·rcases q.new _ e with e|e
    ·have:=k.oo _ e;omega
    ·simp at e;omega) _
  have qT:=qb.more k.s okT (by simp) (fun i x hi e=>aA (aF e (by omega) _) _)
  obtain⟨S',t1,t2,t3⟩:=qT.fin hσ a (bT.app _) [.agg [.int .i64 t.ver,.int .i64 t.exp,.sl t.pins.length (t.pins.flatMap mi.cs)]] (by rw[ae,below];rw[AO.below]at tc;rw[tc];rfl)
  refine⟨S',oo',?_,t2,t3⟩;have sg:=bg z (.cells [.int .i64 t.ver,.int .i64 t.exp,.sl t.pins.length (t.pins.flatMap mi.cs)] FZ);have sgL:=fun L=>aA sg L;simp only[lm,mk2,q1,q2,rp,rp0,zS,pS,wU,wz,BM,wX,BK,wY,BL,pV,jR,jT,wR,wQ,BN,Vg,Yj,Vf,IM,Ko,DK,BF,tN,qQ,qP,uA,wo,N9,AV.cells,AV.flat,splice,EVX,seval];rw[Qe (vs:=[.agg [.int .i64 t.ver,.int .i64 t.exp,.sl t.pins.length (t.pins.flatMap mi.cs)]]) (by simp only[aY,sgL,EVX,seval]) (.cons (.agg t.nvs) .nil),t1]
  rfl
 ·have hc0':(c !=0)=true:=by simpa using hc0
  obtain⟨S',t1,t2,t3⟩:=(qb.more k.s okT1 (by simp) (fun i x hi e=>aA e _)).fin hσ a (b.app _) [zi c] rfl
  refine⟨S',oo',?_,t2,t3⟩;unfold zi at t1;simp only[lm,mk2,q1,q2,rp,rp0,hc0',t1,UZ,hc0,zi,wU,wz,BM,wX,BK,wY,BL,pV,jR,jT,wR,wQ,BN,Vg,Yj,Vf,IM,Ko,DK,BF,tN,qQ,qP,uA,wo,N9,AV.cells,AV.flat,splice,EVX,seval]
def Bo(K:Dt)(fs:List PS)(rl:LU)(a:eu)(ks:List PS)(p:mi)(most:Int)(F:List dO):(kG×Int)×List dO:=
 let g:=wH fs F (rl++iJ) most
 (K.ro p a ks g.1.data g.1.size,g.2)
def lH(K:Dt)(fs:List PS)(rc sc:Int)(rl:LU)(a:eu)(ks:List PS)(F:List dO):(kG×Int)×List dO:=
 let s:=gU K fs sc F
 if s.1.2=0 then
  match sD s.1.1 rl with
  |none=>((ML,1),s.2)
  |some p=>if p.length<0 then Bo K fs rl a ks p rc s.2 else if rc<p.length then((ML,3),s.2)else Bo K fs rl a ks p p.length s.2
 else((ML,s.1.2),s.2)
def SnV.ok.small{s:SnV}(h:s.ok):Sz s:=⟨by have:=h.len;omega,fun p hp=>by have:=(h.each p hp).1.1;omega⟩
def J5{C h l R now K}(hK:Io C h l R now K){fs F}(hd:Du fs)(hFo:yB fs F)(sc:Int):(gU K fs sc F).1.1.ok/\yB fs (gU K fs sc F).2/\(gU K fs sc F).2.length<=F.length+1:=
 ⟨hK.snok _ _ (Lj hd hFo _ _),(ab7 hFo _ _).1,acQ _ _ _ _⟩
def Hy{s:SnV}{r:LU}{p:mi}(h:sD s r=some p):role r=true/\p∈s.pins/\p.name=r++iJ:=by
 unfold sD at h;split at h
 ·next hr=>exact⟨hr,List.mem_of_find?_eq_some h,by simpa using List.find?_some h⟩
 ·cases h
def PE(t:kG):AO.below 0 (.cells t.cs FZ)=true:=t.nvs.cl
def ab9{l:LA}(h:NVs l)(i k:Nat)(O:St):hand false (.ref i k::l) O=some (.ref i k::l,O):=by
 show(match df O 12 (.ref i k::l)with|some (l,fs)=>some (l,freeze O fs)|none=>none)=_
 rw[show df O 12 (.ref i k::l)=aT O (df O 11) (.ref i k::l)from rfl,aK,apy,h.nf];rfl
def ae0 (H:Su C) (n:Nat) {h l R now rc sc nm fs F r s m o fo oo K} (hK:Io C h l R now K) (hd:Du fs) (hFo:yB fs F) {O:St} (hσ:Ok O) (a:bP O h l R now rc sc nm fs F r s m o fo oo) (hF:F.length+1<1000000) (rl:LU) (au:eu) (ks:List PS) (ha:xM au.ids) (hk:zC ks):
  ∃S oo',mX C (ai C) TT (n+3) fO [.ref r 0,.str rl,.agg au.cs,.sl ks.length (ks.flatMap pC)] O=some (UZ (lH K fs rc sc rl au ks F).1.2 (.agg (lH K fs rc sc rl au ks F).1.1.cs),S)/\bP S h l R now rc sc nm fs (lH K fs rc sc rl au ks F).2 r s m o fo oo'/\Req O S s m F (lH K fs rc sc rl au ks F).2 oo oo':=by
 have k:=a.lt;have ac:au.cs=[.int .i64 au.th,.sl au.ids.length (au.ids.flatMap sC)]:=rfl;have ab:AO.below 0 (.cells au.cs FZ)=true:=au.below;have zb:AO.below 0 (.cells [.int .i64 0,.int .i64 0,.nils,.nils,.nils,.int .i64 0,.nils,.int .i64 0,.str []] FZ)=true:=rfl;have ok1:Ok (O++[.cells au.cs FZ,.cells [.int .i64 0,.int .i64 0,.nils,.nils,.nils,.int .i64 0,.nils,.int .i64 0,.str []] FZ]):=hσ.plus (by simp only[a88,aw1,ab,zb,av9])
 obtain⟨S,oo',q1,b,q⟩:=Rz H n hK hd hFo ok1 (a.app _) (by omega)
 obtain⟨sok,sfo,sln⟩:=J5 hK hd hFo sc;have cap:=fun O hσ=>aht H.pin (gU K fs sc F).1.1 sok.small rl rc O hσ;have rcv:0<=rc/\rc<=65536:=by have:=a.caps.1;unfold U6 at this;simpa using this
 have rP:lH K fs rc sc rl au ks F=(let s:=gU K fs sc F
  if s.1.2=0 then
   match sD s.1.1 rl with
   |none=>((ML,1),s.2)
   |some p=>if p.length<0 then Bo K fs rl au ks p rc s.2 else if rc<p.length then((ML,3),s.2)else Bo K fs rl au ks p p.length s.2
  else((ML,s.1.2),s.2)):=rfl
 dsimp only at rP;rw[rP];clear rP;generalize gU K fs sc F=sp at*;obtain⟨⟨sv,c⟩,F1⟩:=sp;dsimp only at*;have kb:=b.lt;have qb:=q.base;have kp:∀i x,i<O.length+2->i≠r->i≠s->i≠m->i≠o->oo≠some i->(O++[.cells au.cs FZ,.cells [.int .i64 0,.int .i64 0,.nils,.nils,.nils,.int .i64 0,.nils,.int .i64 0,.str []] FZ])[i]?=some x->S[i]?=some x:=fun i x _ _ h2 h3 _ h5 e=>q.old i x h2 h3 h5 e;have sl2:O.length+2<=S.length:=by have:=q.len;simpa using this
 have x0:S[O.length]?=some (.cells au.cs FZ):=q.old _ _ (by have:=k.s;omega) (by have:=k.m;omega) (fun e=>by have:=k.oo _ e;omega) (by rw[aQ];rfl)
 have x1:S[O.length+1]?=some (.cells [.int .i64 0,.int .i64 0,.nils,.nils,.nils,.int .i64 0,.nils,.int .i64 0,.str []] FZ):=q.old _ _ (by have:=k.s;omega) (by have:=k.m;omega) (fun e=>by have:=k.oo _ e;omega) (by rw[dM];rfl)
 have oo1:oo'≠some O.length/\oo'≠some (O.length+1):=by
  refine⟨fun e=>?_,fun e=>?_⟩<;>rcases q.new _ e with e|e
  ·have:=k.oo _ e;omega
  ·rw[a04]at e;simp only[a07,a09]at e;omega
  ·have:=k.oo _ e;omega
  ·rw[a04]at e;simp only[a07,a09]at e;omega
 have Rc:=R.cs_is;have Sc:sv.cs=[.int .i64 sv.ver,.int .i64 sv.exp,.sl sv.pins.length (sv.pins.flatMap mi.cs)]:=rfl;have rp:=b.rp;unfold Cm at rp;rw[Rc]at rp;simp only[a99,au3]at rp;have rpS:=fun L=>aA rp L;have run:=(Vs (C:=C) (call:=ai C) (T:=TT) (f:=fO) (x:=ig) rfl (n+2) [.ref r 0,.str rl,.agg au.cs,.sl ks.length (ks.flatMap pC)] O).trans (abD (args1:=[.ref r 0,.str rl,.agg au.cs,.sl ks.length (ks.flatMap pC)]) (O1:=O) (by rfl) (ab9 (.cons (.str _) (.cons (afT au) (.cons (yY ks) .nil))) _ _ _) (by rfl))
 by_cases hc0:c=0
 case neg=>
  rw[if_neg hc0];obtain⟨S',t1,t2,t3⟩:=qb.fin hσ a b [zi c] rfl;refine⟨S',oo',?_,t2,t3⟩;unfold UZ at q1⊢;rw[if_neg hc0]at q1⊢;unfold zi at q1 t1⊢;rw[run];simp only[ig,q1,t1,wU,wz,BM,wX,BK,wY,BL,pV,jR,jT,wR,wQ,BN,Vg,Yj,Vf,IM,Ko,DK,BF,tN,qQ,qP,uA,wo,N9,AV.cells,AV.flat,splice,EVX,seval]
 rw[if_pos hc0];unfold UZ at q1;rw[if_pos hc0,Sc]at q1;have svb:AO.below 0 (.cells sv.cs FZ)=true:=sv.nvs.cl;have okS1:Ok (S++[.cells sv.cs FZ]):=q.ok.plus (by rw[a88,svb];rfl)
 have cp:=cap _ okS1;unfold UO at cp;rw[Sc]at cp;have bad:∀e:Int,e≠0->Yx (sD sv rl) rc=.tup [.agg kz,.int .i64 0,.int .u8 e]->∃S' oo',mX C (ai C) TT (n+3) fO [.ref r 0,.str rl,.agg au.cs,.sl ks.length (ks.flatMap pC)] O=some (.pan (zi e),S')/\bP S' h l R now rc sc nm fs F1 r s m o fo oo'/\Req O S' s m F F1 oo oo':=by
  intro e he hcap;rw[hcap]at cp;have zpb:AO.below 0 (.cells kz FZ)=true:=rfl;have okT:Ok (S++[.cells sv.cs FZ,.cells kz FZ]):=q.ok.plus (by simp only[a88,aw1,svb,zpb,av9])
  obtain⟨S',t1,t2,t3⟩:=(qb.more k.s okT (by simp) (fun i x hi e=>aA e _)).fin hσ a (b.app _) [zi e] rfl
  refine⟨S',oo',?_,t2,t3⟩;have he':(e !=0)=true:=by simpa using he
  rw[Sc]at t1;unfold zi kz at*;rw[run];simp only[ig,q1,cp,rpS,he',t1,aQ,jm,wU,wz,BM,wX,BK,wY,BL,pV,jR,jT,wR,wQ,BN,Vg,Yj,Vf,IM,Ko,DK,BF,tN,qQ,qP,uA,wo,N9,AV.cells,AV.flat,splice,EVX,seval]
 have good:∀(p:mi) (most:Int),sD sv rl=some p->(0<=most/\most<=65536)->Yx (sD sv rl) rc=.tup [.agg p.cs,.int .i64 most,.int .u8 0]->∃S' oo',mX C (ai C) TT (n+3) fO [.ref r 0,.str rl,.agg au.cs,.sl ks.length (ks.flatMap pC)] O=some (UZ (Bo K fs rl au ks p most F1).1.2 (.agg (Bo K fs rl au ks p most F1).1.1.cs),S')/\bP S' h l R now rc sc nm fs (Bo K fs rl au ks p most F1).2 r s m o fo oo'/\Req O S' s m F (Bo K fs rl au ks p most F1).2 oo oo':=by
  intro p most hp hm hcap;rw[hcap]at cp;obtain⟨pr,pm,_⟩:=Hy hp;have hph:=(sok.each p pm).1;have pb:AO.below 0 (.cells p.cs FZ)=true:=p.bel;have okS2:Ok (S++[.cells sv.cs FZ,.cells p.cs FZ]):=q.ok.plus (by simp only[a88,aw1,svb,pb,av9])
  obtain⟨U,o2,g1,g2,g3⟩:=fetch_any H.toMadeHas H.sto H.file (n+1) rl most okS2 (b.app _) (by omega) hm pr
  have dl:(wH fs F1 (rl++iJ) most).1.data.length<=LB:=Lj hd sfo _ _;have e1:(Bo K fs rl au ks p most F1).1=K.ro p au ks (wH fs F1 (rl++iJ) most).1.data (wH fs F1 (rl++iJ) most).1.size:=rfl;have e2:(Bo K fs rl au ks p most F1).2=(wH fs F1 (rl++iJ) most).2:=rfl;rw[e1,e2];have q2:=hK.ro p au ks _ (wH fs F1 (rl++iJ) most).1.size U o hph ha hk dl g3.ok g2.ver;generalize wH fs F1 (rl++iJ) most=g at*;generalize K.ro p au ks g.1.data g.1.size=tv at*;obtain⟨tv,d⟩:=tv;dsimp only at*;have ub:=g2.rp;unfold Cm at ub;rw[Rc]at ub;simp only[a99,au3]at ub;have ubS:=fun L=>aA ub L;have kb2:s≠S.length+1/\m≠S.length+1/\oo'≠some (S.length+1):=⟨by have:=kb.s;omega,by have:=kb.m;omega,fun e=>by have:=kb.oo _ e;omega⟩
  have y0:U[O.length]?=some (.cells au.cs FZ):=g3.old _ _ (by have:=k.s;omega) (by have:=k.m;omega) oo1.1 (aA x0 _)
  have y1:=g3.old _ _ (by have:=k.s;omega) (by have:=k.m;omega) oo1.2 (aA x1 _)
  have y2:U[S.length+1]?=some (.cells p.cs FZ):=g3.old _ _ (Ne.symm kb2.1) (Ne.symm kb2.2.1) kb2.2.2 (by rw[dM];rfl)
  have tb:=PE tv;have qU:Req O U s m F g.2 oo o2:=(qb.more k.s okS2 (by simp) (fun i x hi e=>aA e _)).trans g3 k.s b.st.sm
  have pc:p.cs=[.str p.name,.int .i64 p.version,.int .i64 p.length,.sl p.hashes.length (p.hashes.flatMap pC)]:=rfl;have y0S:=fun L=>aA y0 L;have y2S:=fun L=>aA y2 L;have y1S:=fun L=>aA y1 L;have y1p:=fun L y=>dJ y1 L y;rw[ac]at y0 y0S q2;have spT:splice [.int .i64 0,.int .i64 0,.nils,.nils,.nils,.int .i64 0,.nils,.int .i64 0,.str []] 0 tv.cs=tv.cs:=rfl;by_cases hd0:d=0
  ·subst hd0;have okT:Ok (U.set (O.length+1) (.cells tv.cs FZ)++[.cells tv.cs FZ]):=(Ok.set2 g3.ok _ (AO.below_mono (a98 _) _ tb)).plus (by rw[a88,tb];rfl)
   have ku:=g2.lt;have bT:bP (U.set (O.length+1) (.cells tv.cs FZ)) h l R now rc sc nm fs g.2 r s m o fo o2:=g2.moved fun i x hi e=>aF e (fun e'=>by
    subst e';rcases hi with e|e|e|e|e|e
    ·have:=k.r;omega
    ·have:=k.s;omega
    ·have:=k.m;omega
    ·have:=k.o;omega
    ·have:=k.fo _ e;omega
    ·rcases g3.new _ e with e|e
     ·exact oo1.2 e
     ·rw[a04]at e;simp only[a07,a09]at e;omega) _
   have qT:=qU.more k.s okT (by simp) (fun i x hi e=>aA (aF e (by omega) _) _)
   obtain⟨S',t1,t2,t3⟩:=qT.fin hσ a (bT.app _) [.agg tv.cs] (by rw[ae,below];rw[AO.below]at tb;rw[tb];rfl)
   refine⟨S',o2,?_,t2,t3⟩;have sg:=bg y1 (.cells tv.cs FZ);have sgL:=fun L=>aA sg L;rw[Sc]at g1;rw[pc]at g1 cp y2 y2S q2;rw[run];simp only[ig,q1,cp,rpS,g1,q2,ub,y0,y1S,y1p,y2,kG.len,kG.tk,kG.fl,aQ,jm,UZ,wU,wz,BM,wX,BK,wY,BL,pV,jR,jT,wR,wQ,BN,Vg,Yj,Vf,IM,Ko,DK,BF,tN,qQ,qP,uA,wo,N9,AV.cells,AV.flat,splice,EVX,seval];rw[Qe (vs:=[.agg tv.cs]) (by simp only[aY,sgL,kG.len,kG.tk,EVX,seval]) (.cons (.agg tv.nvs) .nil),t1]
   rfl
  ·have hd0':(d !=0)=true:=by simpa using hd0
   have okT:Ok (U++[.cells tv.cs FZ]):=g3.ok.plus (by rw[a88,tb];rfl)
   obtain⟨S',t1,t2,t3⟩:=(qU.more k.s okT (by simp) (fun i x hi e=>aA e _)).fin hσ a (g2.app _) [zi d] rfl
   refine⟨S',o2,?_,t2,t3⟩;rw[Sc]at g1;rw[pc]at g1 cp y2 y2S q2;unfold zi at t1;rw[run];simp only[ig,q1,cp,rpS,g1,q2,ub,y0,y2,kG.len,kG.fl,aQ,jm,hd0',t1,UZ,hd0,zi,wU,wz,BM,wX,BK,wY,BL,pV,jR,jT,wR,wQ,BN,Vg,Yj,Vf,IM,Ko,DK,BF,tN,qQ,qP,uA,wo,N9,AV.cells,AV.flat,splice,EVX,seval]
 cases hp:sD sv rl with
 |none=>exact bad 1 (by decide) (by rw[hp];rfl)
 |some p=>
  by_cases c1:p.length<0
  ·simp only[c1,if_true];exact good p rc hp rcv (by rw[hp];simp[Yx,c1])
  ·by_cases c2:rc<p.length
   ·simp only[c1,c2,if_true,if_false];exact bad 3 (by decide) (by rw[hp];simp[Yx,c1,c2])
   ·simp only[c1,c2,if_false];exact good p p.length hp (by omega) (by rw[hp];simp[Yx,c1,c2])
def XP{C h l R now K}(hK:Io C h l R now K){fs F}(hd:Du fs)(hFo:yB fs F)(rc sc:Int)(rl:LU)(au:eu)(ks:List PS)(ha:xM au.ids)(hk:zC ks):(lH K fs rc sc rl au ks F).1.1.ok/\yB fs (lH K fs rc sc rl au ks F).2/\(lH K fs rc sc rl au ks F).2.length<=F.length+2/\((lH K fs rc sc rl au ks F).1.2≠0->(lH K fs rc sc rl au ks F).1.1=ML):=by
 obtain⟨s1,s2,s3⟩:=J5 hK hd hFo sc;unfold lH;dsimp only;generalize gU K fs sc F=sp at*;obtain⟨⟨sv,c⟩,F1⟩:=sp;dsimp only at*;have q:∀p most,sD sv rl=some p->(Bo K fs rl au ks p most F1).1.1.ok/\yB fs (Bo K fs rl au ks p most F1).2/\(Bo K fs rl au ks p most F1).2.length<=F.length+2/\((Bo K fs rl au ks p most F1).1.2≠0->(Bo K fs rl au ks p most F1).1.1=ML):=fun p most hp=>
  ⟨hK.rook _ _ _ _ _ (s1.each p (Hy hp).2.1).1 ha hk (Lj hd s2 _ _),(ab7 s2 _ _).1,by have:=acQ fs F1 (rl++iJ) most;unfold Bo;dsimp only;omega,fun e=>hK.roz _ _ _ _ _ e⟩
 by_cases hc:c=0
 ·rw[if_pos hc];cases hp:sD sv rl with
  |none=>exact⟨RY,s2,by dsimp only;omega,fun _=>rfl⟩
  |some p=>
   dsimp only;by_cases c1:p.length<0
   ·rw[if_pos c1];exact q p _ hp
   ·rw[if_neg c1];by_cases c2:rc<p.length
    ·rw[if_pos c2];exact⟨RY,s2,by dsimp only;omega,fun _=>rfl⟩
    ·rw[if_neg c2];exact q p _ hp
 ·rw[if_neg hc];exact⟨RY,s2,by dsimp only;omega,fun _=>rfl⟩
def WF{n0:Nat}{rs:List XR}{A:As}{O:St}{vs vs':LA}(h:aY A O rs=some vs)(hv:hand false vs O=some (vs',O)):MX n0 rs A O=some (bD vs',tidy n0 vs' O):=by
 unfold MX;rw[h];dsimp only;rw[hv]
def aaA (H:Su C) (n:Nat) {h l R now rc sc nm fs F r s m o fo oo K} (hK:Io C h l R now K) (hd:Du fs) (hFo:yB fs F) {O:St} (hσ:Ok O) (a:bP O h l R now rc sc nm fs F r s m o fo oo) (hF:F.length<1000000):
  ∃S oo',xJ C (ai C) (mX C (ai C) TT (n+2)) dQ dw [.ref r 0] O=some (.tup [.agg (gU K fs sc F).1.1.cs,.int .u8 (gU K fs sc F).1.2],S)/\bP S h l R now rc sc nm fs (gU K fs sc F).2 r s m o fo oo'/\Req O S s m F (gU K fs sc F).2 oo oo':=by
 have k:=a.lt;have ok1:Ok (O++[.cells [.int .i64 0,.int .i64 0,.nils] FZ,.cells [.int .u8 0] FZ]):=hσ.plus rfl;obtain⟨S,oo',q1,b,q⟩:=Rz H n hK hd hFo ok1 (a.app _) hF;have sz:(gU K fs sc F).1.2≠0->(gU K fs sc F).1.1=Vj:=hK.snz _ _;generalize gU K fs sc F=sp at*;obtain⟨⟨sv,c⟩,F1⟩:=sp;dsimp only at*;have kb:=b.lt;have qb:=q.base;have x0:S[O.length]?=some (.cells [.int .i64 0,.int .i64 0,.nils] FZ):=q.old _ _ (by have:=k.s;omega) (by have:=k.m;omega) (fun e=>by have:=k.oo _ e;omega) (by rw[aQ];rfl)
 have x1:S[O.length+1]?=some (.cells [.int .u8 0] FZ):=q.old _ _ (by have:=k.s;omega) (by have:=k.m;omega) (fun e=>by have:=k.oo _ e;omega) (by rw[dM];rfl)
 have oo1:∀i,i<2->oo'≠some (O.length+i):=by
  intro i hi e;rcases q.new _ e with e|e
  ·have:=k.oo _ e;omega
  ·rw[a04]at e;simp only[a07,a09]at e;omega
 have Sc:sv.cs=[.int .i64 sv.ver,.int .i64 sv.exp,.sl sv.pins.length (sv.pins.flatMap mi.cs)]:=rfl;have svb:AO.below 0 (.cells sv.cs FZ)=true:=sv.nvs.cl;have fin:∀(cs:LA) (d:Int),ae 0 cs=true->∃S',tidy O.length [.agg sv.cs,.int .u8 c] ((S.set O.length (.cells cs FZ)).set (O.length+1) (.cells [.int .u8 d] FZ))=S'/\bP S' h l R now rc sc nm fs F1 r s m o fo oo'/\Req O S' s m F F1 oo oo':=by
  intro cs d hcs;have okT:Ok ((S.set O.length (.cells cs FZ)).set (O.length+1) (.cells [.int .u8 d] FZ)):=Ok.set2 (Ok.set2 q.ok _ (by rw[AO.below];exact aO (a98 _) _ hcs)) _ rfl
  have bT:bP ((S.set O.length (.cells cs FZ)).set (O.length+1) (.cells [.int .u8 d] FZ)) h l R now rc sc nm fs F1 r s m o fo oo':=b.moved fun i x hi e=>by
   have:∀j,j<2->i≠O.length+j:=fun j hj e'=>by
    subst e';rcases hi with e|e|e|e|e|e
    ·have:=k.r;omega
    ·have:=k.s;omega
    ·have:=k.m;omega
    ·have:=k.o;omega
    ·have:=k.fo _ e;omega
    ·exact oo1 j hj e
   exact aF (aF e (this 0 (by decide)) _) (this 1 (by decide)) _
  have qT:=qb.more k.s okT (by simp) (fun i x hi e=>aF (aF e (by omega) _) (by omega) _)
  exact qT.fin hσ a bT _ (by rw[ae,below];rw[AO.below]at svb;rw[svb];rfl)
 have g0:=fun(y:AO) (z:AO)=>aF (bg x0 y) (by omega:O.length≠O.length+1) z
 have g1:=fun(y:AO) (z:AO)=>bg (aF x1 (by omega:O.length+1≠O.length) y) z
 have g2:=fun(y:AO)=>aF x1 (by omega:O.length+1≠O.length) y
 have c1:=adt (C:=C) (call:=ai C) (ct:=mX C (ai C) TT (n+2)) (x:=dQ) (k:=dw) (K:=lJ) rfl (by rfl) (args:=[.ref r 0]) (O:=O) (args1:=[.ref r 0]) (O1:=O) rfl rfl
 rw[c1];by_cases hc0:c=0
 ·subst hc0;unfold UZ at q1;rw[if_pos rfl,Sc]at q1;obtain⟨S',t1,t2,t3⟩:=fin sv.cs 0 (by rw[AO.below]at svb;exact svb)
  refine⟨S',oo',?_,t2,t3⟩;rw[Sc]at t1;unfold LG;simp only[dQ,dw,lJ,q1,x0,g2,thrown,wU,wz,BM,wX,BK,wY,BL,pV,jR,jT,wR,wQ,BN,Vg,Yj,Vf,IM,Ko,DK,BF,tN,qQ,qP,uA,wo,N9,AV.cells,AV.flat,splice,EVX,seval];refine(Qe (vs:=[.agg sv.cs,.int .u8 0]) ?_ (.cons (.agg sv.nvs) (.cons (.int _ _) .nil))).trans ?_
  ·rw[Sc];simp only[aY,g0,g1,EVX,seval]
  ·rw[Sc,t1];rfl
 ·have hc0':(c !=0)=true:=by simpa using hc0
  unfold UZ at q1;rw[if_neg hc0]at q1;obtain⟨S',t1,t2,t3⟩:=fin [.int .i64 0,.int .i64 0,.nils] c rfl;have sv0:=sz hc0;subst sv0;refine⟨S',oo',?_,t2,t3⟩;have cc:∀Y,Ok Y->IK (mX C (ai C) TT (n+2)) mY [zi c] Y=some (.int .u8 c,Y):=fun Y hτ=>agW (C:=C) (caught_is (n+1) c hτ);have cS:=cc S q.ok;have z9:Vj.cs=[.int .i64 0,.int .i64 0,.sl 0 []]:=rfl;rw[z9]at t1⊢;unfold zi at*;unfold LG;simp only[dQ,dw,lJ,q1,x0,g2,cS,thrown,wU,wz,BM,wX,BK,wY,BL,pV,jR,jT,wR,wQ,BN,Vg,Yj,Vf,IM,Ko,DK,BF,tN,qQ,qP,uA,wo,N9,AV.cells,AV.flat,splice,EVX,seval];refine(WF (vs:=[.agg [.int .i64 0,.int .i64 0,.nils],.int .u8 c]) (vs':=[.agg [.int .i64 0,.int .i64 0,.sl 0 []],.int .u8 c]) ?_ rfl).trans ?_
  ·simp only[aY,g0,g1,EVX,seval]
  ·rw[t1];rfl
def aiI (H:Su C) (n:Nat) {h l R now rc sc nm fs F r s m o fo oo K} (hK:Io C h l R now K) (hd:Du fs) (hFo:yB fs F) {O:St} (hσ:Ok O) (a:bP O h l R now rc sc nm fs F r s m o fo oo) (hF:F.length+1<1000000) (rl:LU) (au:eu) (ks:List PS) (ha:xM au.ids) (hk:zC ks):
  ∃S oo',xJ C (ai C) (mX C (ai C) TT (n+3)) gX eY [.ref r 0,.str rl,.agg au.cs,.sl ks.length (ks.flatMap pC)] O=some (.tup [.agg (lH K fs rc sc rl au ks F).1.1.cs,.int .u8 (lH K fs rc sc rl au ks F).1.2],S)/\bP S h l R now rc sc nm fs (lH K fs rc sc rl au ks F).2 r s m o fo oo'/\Req O S s m F (lH K fs rc sc rl au ks F).2 oo oo':=by
 have k:=a.lt;have ac:au.cs=[.int .i64 au.th,.sl au.ids.length (au.ids.flatMap sC)]:=rfl;have ab:AO.below 0 (.cells au.cs FZ)=true:=au.below;have zb:AO.below 0 (.cells [.int .i64 0,.int .i64 0,.nils,.nils,.nils,.int .i64 0,.nils,.int .i64 0,.str []] FZ)=true:=rfl;have ok1:Ok (O++[.cells au.cs FZ,.cells [.int .i64 0,.int .i64 0,.nils,.nils,.nils,.int .i64 0,.nils,.int .i64 0,.str []] FZ,.cells [.int .u8 0] FZ]):=hσ.plus (by simp only[a88,aw1,ab,zb];rfl)
 obtain⟨S,oo',q1,b,q⟩:=ae0 H n hK hd hFo ok1 (a.app _) hF rl au ks ha hk;have sz:=(XP hK hd hFo rc sc rl au ks ha hk).2.2.2;generalize lH K fs rc sc rl au ks F=sp at*;obtain⟨⟨tv,c⟩,F1⟩:=sp;dsimp only at*;have kb:=b.lt;have qb:=q.base;have x1:S[O.length+1]?=some (.cells [.int .i64 0,.int .i64 0,.nils,.nils,.nils,.int .i64 0,.nils,.int .i64 0,.str []] FZ):=q.old _ _ (by have:=k.s;omega) (by have:=k.m;omega) (fun e=>by have:=k.oo _ e;omega) (by rw[dM];rfl)
 have x2:S[O.length+2]?=some (.cells [.int .u8 0] FZ):=q.old _ _ (by have:=k.s;omega) (by have:=k.m;omega) (fun e=>by have:=k.oo _ e;omega) (by rw[dM];rfl)
 have oo1:∀i,i<3->oo'≠some (O.length+i):=by
  intro i hi e;rcases q.new _ e with e|e
  ·have:=k.oo _ e;omega
  ·rw[a04]at e;simp only[a07,a09]at e;omega
 have tb:=PE tv;have fin:∀(cs:LA) (d:Int),ae 0 cs=true->∃S',tidy O.length [.agg tv.cs,.int .u8 c] ((S.set (O.length+1) (.cells cs FZ)).set (O.length+2) (.cells [.int .u8 d] FZ))=S'/\bP S' h l R now rc sc nm fs F1 r s m o fo oo'/\Req O S' s m F F1 oo oo':=by
  intro cs d hcs;have okT:Ok ((S.set (O.length+1) (.cells cs FZ)).set (O.length+2) (.cells [.int .u8 d] FZ)):=Ok.set2 (Ok.set2 q.ok _ (by rw[AO.below];exact aO (a98 _) _ hcs)) _ rfl
  have bT:bP ((S.set (O.length+1) (.cells cs FZ)).set (O.length+2) (.cells [.int .u8 d] FZ)) h l R now rc sc nm fs F1 r s m o fo oo':=b.moved fun i x hi e=>by
   have:∀j,j<3->i≠O.length+j:=fun j hj e'=>by
    subst e';rcases hi with e|e|e|e|e|e
    ·have:=k.r;omega
    ·have:=k.s;omega
    ·have:=k.m;omega
    ·have:=k.o;omega
    ·have:=k.fo _ e;omega
    ·exact oo1 j hj e
   exact aF (aF e (this 1 (by decide)) _) (this 2 (by decide)) _
  have qT:=qb.more k.s okT (by simp) (fun i x hi e=>aF (aF e (by omega) _) (by omega) _)
  exact qT.fin hσ a bT _ (by rw[ae,below];rw[AO.below]at tb;rw[tb];rfl)
 have g0:=fun(y:AO) (z:AO)=>aF (bg x1 y) (by omega:O.length+1≠O.length+2) z
 have g1:=fun(y:AO) (z:AO)=>bg (aF x2 (by omega:O.length+2≠O.length+1) y) z
 have g2:=fun(y:AO)=>aF x2 (by omega:O.length+2≠O.length+1) y
 have spT:splice [.int .i64 0,.int .i64 0,.nils,.nils,.nils,.int .i64 0,.nils,.int .i64 0,.str []] 0 tv.cs=tv.cs:=rfl;have c1:=adt (C:=C) (call:=ai C) (ct:=mX C (ai C) TT (n+3)) (x:=gX) (k:=eY) (K:=qg) rfl (by rfl) (args:=[.ref r 0,.str rl,.agg au.cs,.sl ks.length (ks.flatMap pC)]) (O:=O) (args1:=[.ref r 0,.str rl,.agg au.cs,.sl ks.length (ks.flatMap pC)]) (O1:=O) (ab9 (.cons (.str _) (.cons (afT au) (.cons (yY ks) .nil))) _ _ _) rfl
 rw[c1];rw[ac]at q1⊢;by_cases hc0:c=0
 ·subst hc0;unfold UZ at q1;rw[if_pos rfl]at q1;obtain⟨S',t1,t2,t3⟩:=fin tv.cs 0 (by rw[AO.below]at tb;exact tb)
  refine⟨S',oo',?_,t2,t3⟩;unfold LG;simp only[gX,eY,qg,q1,x1,g2,kG.len,kG.fl,thrown,aQ,wU,wz,BM,wX,BK,wY,BL,pV,jR,jT,wR,wQ,BN,Vg,Yj,Vf,IM,Ko,DK,BF,tN,qQ,qP,uA,wo,N9,AV.cells,AV.flat,splice,EVX,seval];refine(Qe (vs:=[.agg tv.cs,.int .u8 0]) ?_ (.cons (.agg tv.nvs) (.cons (.int _ _) .nil))).trans ?_
  ·simp only[aY,g0,g1,kG.len,kG.tk,EVX,seval]
  ·rw[t1];rfl
 ·have hc0':(c !=0)=true:=by simpa using hc0
  unfold UZ at q1;rw[if_neg hc0]at q1;obtain⟨S',t1,t2,t3⟩:=fin [.int .i64 0,.int .i64 0,.nils,.nils,.nils,.int .i64 0,.nils,.int .i64 0,.str []] c rfl;have sv0:=sz hc0;subst sv0;refine⟨S',oo',?_,t2,t3⟩;have cc:∀Y,Ok Y->IK (mX C (ai C) TT (n+3)) mY [zi c] Y=some (.int .u8 c,Y):=fun Y hτ=>agW (C:=C) (caught_is (n+2) c hτ);have cS:=cc S q.ok;have z9:ML.cs=[.int .i64 0,.int .i64 0,.sl 0 [],.sl 0 [],.sl 0 [],.int .i64 0,.sl 0 [],.int .i64 0,.str []]:=rfl;rw[z9]at t1⊢;unfold zi at*;unfold LG;simp only[gX,eY,qg,q1,x1,g2,cS,thrown,aQ,wU,wz,BM,wX,BK,wY,BL,pV,jR,jT,wR,wQ,BN,Vg,Yj,Vf,IM,Ko,DK,BF,tN,qQ,qP,uA,wo,N9,AV.cells,AV.flat,splice,EVX,seval];refine(WF (vs:=[.agg [.int .i64 0,.int .i64 0,.nils,.nils,.nils,.int .i64 0,.nils,.int .i64 0,.str []],.int .u8 c]) (vs':=[.agg [.int .i64 0,.int .i64 0,.sl 0 [],.sl 0 [],.sl 0 [],.int .i64 0,.sl 0 [],.int .i64 0,.str []],.int .u8 c]) ?_ rfl).trans ?_
  ·simp only[aY,g0,g1,EVX,seval]
  ·rw[t1];rfl
structure fQ where
 kind:Int
 name:LU
 auth:eu
 keys:List PS
def fQ.cs(a:fQ):LA:=[.int .u8 a.kind,.str a.name,.int .i64 a.auth.th,.sl a.auth.ids.length (a.auth.ids.flatMap sC),.sl a.keys.length (a.keys.flatMap pC)]
theorem fQ.len(a:fQ):a.cs.length=5:=rfl
theorem fQ.nvs(a:fQ):NVs a.cs:=.cons (.int _ _) (.cons (.str _) (.cons (.int _ _) (.cons (JS _) (.cons (yY _) .nil))))
def afS(l:List fQ):NV (.sl l.length (l.flatMap fQ.cs)):=.sl _ (fP (fun a=>a.nvs.cl) l)
def MF(l:List fQ):AV:=.sl l.length (l.flatMap fQ.cs)
def lsN:List PS->Nat->Nat
 |[],n=>n
 |h::l,n=>if n<40000 then lsN l (n+50+min 40000 h.1.length+min 40000 h.2.length)else n
def ako:∀(l:List PS) (n:Nat),n<=lsN l n
 |[],n=>a06 _
 |h::l,n=>by
  unfold lsN;split
  ·exact ax7 (by omega) (ako l _)
  ·exact a06 _
def ZP:∀(l:List PS) (n:Nat),lsN l n<40000->n+50*l.length<=lsN l n/\∀x∈l,x.1.length<40000/\x.2.length<40000
 |[],n,h=>⟨by simp[lsN],fun s hs=>by cases hs⟩
 |p::l,n,h=>by
  unfold lsN at*;split at h
  ·next hn=>
   rw[if_pos hn];have a:=ako l (n+50+min 40000 p.1.length+min 40000 p.2.length);have b:=ZP l _ h;refine⟨by simp only[a07];omega,fun t ht=>?_⟩
   rcases au9.mp ht with rfl|ht
   ·omega
   ·exact b.2 t ht
  ·omega
def Ti(nm data:LU)(fs:List PS):Bool:=decide (40000<=lsN fs (min 40000 data.length+min 40000 nm.length))
def adS{nm data:LU}{fs:List PS}(h:Ti nm data fs=false):fs.length<=1000/\data.length<=LB/\∀x∈fs,x.2.length<=LB:=by
 have h:lsN fs (min 40000 data.length+min 40000 nm.length)<40000:=Nat.not_le.mp (of_decide_eq_false h);have a:=ZP fs _ h;have lb:40000<=LB:=by simp only[LB];omega
 generalize LB=B at*;exact⟨by omega,by omega,fun x hx=>by have:=a.2 x hx;omega⟩
def ar7(b:Int)(a:Int):VD false (.int .i64 b) (.int .i64 a)=some (.int .i64 (if a<b then a else b)):=rfl
def agC(a:Nat):VD false (.int .i64 40000) (.int .i64 (a:Int))=some (.int .i64 ((min 40000 a:Nat):Int)):=by
 rw[ar7];have:(if(a:Int)<40000 then(a:Int)else 40000)=((min 40000 a:Nat):Int):=by split<;>omega
 rw[this]
def IZ (nm data:LU) (fs:List PS) (O:St):∀(n i acc:Nat),i+n=fs.length->acc<=200000->(acc<40000->50*i<=acc)->
  aH C (ai C) 47 [1,3,4] dK [(1,.ref O.length 0),(3,.int .i64 acc),(4,.int .i64 i)] (O++[.cells [.str nm,.str data,.sl fs.length (fs.flatMap pC)] FZ])=some (.exit 0,[(3,.int .i64 (lsN (fs.drop i) acc:Nat))],O++[.cells [.str nm,.str data,.sl fs.length (fs.flatMap pC)] FZ])
 |0,i,acc,hi,ha,hb=>by
  rw[aG (he:=rfl)];have h:¬((i:Int)<(fs.length:Int)):=by omega
  have h':fs.drop i=[]:=au1 (by omega)
  simp only[dK,h,h',lsN,bU,aQ,EVX,seval]
 |n+1,i,acc,hi,ha,hbb=>by
  rw[aG (he:=rfl)];have h:((i:Int)<(fs.length:Int)):=by omega
  have h2:i<fs.length:=by omega
  have hb:fs[i]?=some fs[i]:=a02 h2;have h':fs.drop i=fs[i]::fs.drop (i+1):=as9 h2;have h3:(0:Int)<=i:=by omega
  have fl:=dV FW fs;have fd:=lM FW hb;obtain⟨p,hpe⟩:∃p,p=fs[i]:=⟨_,rfl⟩;rw[<-hpe]at fd h';have pc:pC p=[.str p.1,.str p.2]:=rfl;rw[h',lsN];by_cases hc:acc<40000
  ·have hc':((acc:Int)<40000):=by omega
   have hw:=wrS i (by omega)
   have w1:IntKind.i64.wrap ((acc:Int)+50)=((acc+50:Nat):Int):=wrE (by omega)
   have w2:IntKind.i64.wrap (((acc+50:Nat):Int)+((min 40000 p.1.length:Nat):Int))=((acc+50+min 40000 p.1.length:Nat):Int):=wrE (by omega)
   have w3:IntKind.i64.wrap (((acc+50+min 40000 p.1.length:Nat):Int)+((min 40000 p.2.length:Nat):Int))=((acc+50+min 40000 p.1.length+min 40000 p.2.length:Nat):Int):=wrE (by omega)
   have ih:=IZ nm data fs O n (i+1) (acc+50+min 40000 p.1.length+min 40000 p.2.length) (by omega) (by omega) (by omega)
   rw[if_pos hc,<-ih];generalize hk:aH C (ai C) 47 [1,3,4] dK=k at*;simp only[dK,h,h2,h3,hc',hw,w1,w2,w3,agC,fl,fd,pc,bU,a99,aQ,EVX,seval]
  ·have hc':¬((acc:Int)<40000):=by omega
   rw[if_neg hc];simp only[dK,h,hc',bU,aQ,EVX,seval]
def U5(hC:Has C qJ qy)(nm data:LU)(fs:List PS)(O:St)(hσ:Ok O):ai C qJ [.agg [.str nm,.str data,.sl fs.length (fs.flatMap pC)]] O=some (.bool (Ti nm data fs),O):=by
 rw[hC.go (NVs.hand (.cons (.agg (.cons (.str _) (.cons (.str _) (.cons (yY _) .nil)))) .nil) _)];have lp:=IZ (C:=C) nm data fs O fs.length 0 (min 40000 data.length+min 40000 nm.length) (by omega) (by omega) (by omega)
 simp only[at6,au0]at lp;have ty:=fun b=>dE hσ (vs:=[.bool b]) rfl;have w1:IntKind.i64.wrap (((min 40000 data.length:Nat):Int)+((min 40000 nm.length:Nat):Int))=((min 40000 data.length+min 40000 nm.length:Nat):Int):=wrE (by omega)
 have e:decide ((40000:Int)<=(lsN fs (min 40000 data.length+min 40000 nm.length):Int))=Ti nm data fs:=by unfold Ti;rw[aB7];simp;omega
 simp only[qy,lp,e,ty,agC,w1,bU,aQ,AV.cells,EVX,seval]
def U0(l:List fQ):LA:=[.sl l.length (l.flatMap fQ.cs)]
def F7(l:List fQ):(U0 l).length=1:=rfl
def aiS(L:List (List fQ)):NVs (L.flatMap U0):=fun v hv=>by
 obtain⟨a,_,ha⟩:=aD3.mp hv;rw[U0,aA2]at ha;rw[ha];exact afS a
def QT(a:fQ):Bool:=decide (300<a.name.length)||(Xp [a.auth]||Tf a.keys)
def Gm(l:List fQ):Bool:=decide (12<l.length)||l.any QT
structure Pm(C:Ctx):Prop where
 store:Has C qJ qy
 verd:Has C nN jy
 auth:Has C rX xh
 keys:Has C rY mM
 lng:Has C xy Dx
def ZM (H:Pm C) (L:List (List fQ)) (m:Nat) (l:List fQ) (hm:L[m]?=some l) (hl:l.length<=12) (O:St):∀(n i:Nat),i+n=l.length->
  aH C (ai C) 69 [1,5,6] eQ [(1,.sl L.length (L.flatMap U0)),(5,.int .i64 m),(6,.int .i64 i)] O=if(l.drop i).any QT then some (.ret,[(4,.bool true)],O)else some (.exit 2,[(1,.sl L.length (L.flatMap U0)),(5,.int .i64 m)],O)
 |0,i,hi=>by
  rw[aG (he:=rfl)];have hml:m<L.length:=(a00.mp hm).1;have h:¬((i:Int)<(l.length:Int)):=by omega
  have h':l.drop i=[]:=au1 (by omega)
  have h0:(0:Int)<=m:=by omega
  have fl:=dV F7 L;have fd:=lM F7 hm;rw[aw9]at fl fd;have pc:U0 l=[.sl l.length (l.flatMap fQ.cs)]:=rfl;simp only[eQ,h,h',h0,hml,fl,fd,pc,List.any_nil,bU,aw9,EVX,seval]
 |n+1,i,hi=>by
  rw[aG (he:=rfl)];have hml:m<L.length:=(a00.mp hm).1;have h:((i:Int)<(l.length:Int)):=by omega
  have h2:i<l.length:=by omega
  have hb:l[i]?=some l[i]:=a02 h2;have h':l.drop i=l[i]::l.drop (i+1):=as9 h2;have h0:(0:Int)<=m:=by omega
  have h3:(0:Int)<=i:=by omega
  have fl:=dV F7 L;have fd:=lM F7 hm;rw[aw9]at fl fd;have pc:U0 l=[.sl l.length (l.flatMap fQ.cs)]:=rfl;have fi:=dV fQ.len l;have fe:=lM fQ.len hb;obtain⟨a,hae⟩:∃a,a=l[i]:=⟨_,rfl⟩;rw[<-hae]at fe h';have ac:a.cs=[.int .u8 a.kind,.str a.name,.int .i64 a.auth.th,.sl a.auth.ids.length (a.auth.ids.flatMap sC),.sl a.keys.length (a.keys.flatMap pC)]:=rfl;have q2:∀Y,ai C rX [.xsl 1 [.int .i64 a.auth.th,.sl a.auth.ids.length (a.auth.ids.flatMap sC)]] Y=some (.bool (Xp [a.auth]),Y):=fun Y=>aeV H.auth [a.auth] (by simp) Y
  have q3:=fun Y=>Xj H.keys a.keys Y;have hw:=wrS i (by omega)
  have ih:=ZM H L m l hm hl O n (i+1) (by omega)
  rw[h',List.any_cons,QT];generalize hk:aH C (ai C) 69 [1,5,6] eQ=k at*;by_cases c:300<a.name.length
  ·have c':(300:Int)<(a.name.length:Int):=by omega
   simp only[eQ,h,h2,h3,h0,hml,c,c',fl,fd,fi,fe,pc,ac,bU,aw9,ax9,EVX,seval]
  ·have c':¬(300:Int)<(a.name.length:Int):=by omega
   cases c1:Xp [a.auth]<;>cases c2:Tf a.keys<;>simp only[c1,c2]at q2 q3<;>simp only[eQ,h,h2,h3,h0,hml,hw,c,c',q2,q3,ih,fl,fd,fi,fe,pc,ac,bU,aw9,ax9,aC8,EVX,seval]
def Xo (H:Pm C) (L:List (List fQ)) (hL:L.length<=100) (O:St):∀(n m:Nat),m+n=L.length->
  aH C (ai C) 69 [1,5] eU [(1,.sl L.length (L.flatMap U0)),(5,.int .i64 m)] O=if(L.drop m).any Gm then some (.ret,[(4,.bool true)],O)else some (.exit 0,[],O)
 |0,m,hi=>by
  rw[aG (he:=rfl)];have h:¬((m:Int)<(L.length:Int)):=by omega
  have h':L.drop m=[]:=au1 (by omega)
  simp only[eU,h,h',List.any_nil,bU,EVX,seval]
 |n+1,m,hi=>by
  rw[aG (he:=rfl)];have h:((m:Int)<(L.length:Int)):=by omega
  have h2:m<L.length:=by omega
  have hb:L[m]?=some L[m]:=a02 h2;have h':L.drop m=L[m]::L.drop (m+1):=as9 h2;have hw:=wrS m (by omega)
  have h0:(0:Int)<=m:=by omega
  have fl:=dV F7 L;have fd:=lM F7 hb;rw[aw9]at fl fd;obtain⟨l,hae⟩:∃a,a=L[m]:=⟨_,rfl⟩;rw[<-hae]at h' hb fd;have pc:U0 l=[.sl l.length (l.flatMap fQ.cs)]:=rfl;have ih:=Xo H L hL O n (m+1) (by omega)
  rw[h',List.any_cons,Gm];by_cases c:12<l.length
  ·have c':(12:Int)<(l.length:Int):=by omega
   generalize hk:aH C (ai C) 69 [1,5] eU=k at*;simp only[eU,h,h2,h0,c,c',fl,fd,pc,bU,aw9,ax9,EVX,seval]
  ·have c':¬(12:Int)<(l.length:Int):=by omega
   have lp:=ZM H L m l hb (by omega) O l.length 0 (by omega)
   simp only[at6,au0]at lp;generalize hk:aH C (ai C) 69 [1,5] eU=k at*;cases c2:l.any QT<;>rw[c2]at lp<;>simp only[eU,h,h2,h0,hw,c,c',lp,ih,fl,fd,pc,bU,aw9,ax9,aC8,EVX,seval]
def Uw(c:ul)(L:List (List fQ)):Bool:=Ti c.nm c.data c.fs||(uM c.l||L.any Gm)
def ad7(H:Pm C)(c:ul)(L:List (List fQ))(hL:L.length<=100)(O:St)(hσ:Ok O)(v:AV)(hn:hand false [.agg c.cs,v] O=some ([.agg c.cs,.sl L.length (L.flatMap U0)],O)):ai C xy [.agg c.cs,v] O=some (.bool (Uw c L),O):=by
 rw[H.lng.go hn];have cb:AO.below 0 (.cells c.cs FZ)=true:=c.nvs.cl;have ok1:Ok (O++[.cells c.cs FZ]):=hσ.plus (by rw[a88,cb];rfl)
 have ty:=fun b=>dE hσ (vs:=[.bool b]) rfl;have ce:c.cs=[.str c.nm,.str c.data,.sl c.fs.length (c.fs.flatMap pC),.bool c.h,.sl c.l.length (c.l.flatMap fV.cs),.int .i64 c.now,.int .i64 c.b0,.int .i64 c.b1,.int .i64 c.rc,.int .i64 c.sc]:=rfl;have q1:=U5 H.store c.nm c.data c.fs _ ok1;have q2:=OB H.verd c.l;have lp:=fun Y=>Xo H L hL Y L.length 0 (by omega)
 simp only[at6,au0]at lp;rw[ce]at q1⊢;unfold Uw;cases c1:Ti c.nm c.data c.fs<;>cases c2:uM c.l<;>cases c3:L.any Gm<;>simp only[c1,c2,c3]at q1 q2 lp<;>simp only[Dx,q1,q2,lp,ty,aQ,AV.cells,ax9,aC8,EVX,seval]
def aeW(H:Pm C)(c:ul)(L:List (List fQ))(hL:L.length<=100)(O:St)(hσ:Ok O):ai C xy [.agg c.cs,.xsl L.length (L.flatMap U0)] O=some (.bool (Uw c L),O):=
 ad7 H c L hL O hσ _ (by
  rw[oW,aK,(NV.agg c.nvs).nf,aK,akI,(aiS L).nf,vG];rfl)
def asE(H:Pm C)(c:ul)(l:List fQ)(O:St)(hσ:Ok O):ai C xy [.agg c.cs,.xsl 1 [.xsl l.length (l.flatMap fQ.cs)]] O=some (.bool (Uw c [l]),O):=
 ad7 H c [l] (by simp) O hσ _ (by
  have ns:NVs (l.flatMap fQ.cs):=fun v hv=>by
   obtain⟨a,_,ha⟩:=aD3.mp hv;exact a.nvs v ha
  rw[oW,aK,(NV.agg c.nvs).nf,aK,akI,aK,akI,ns.nf,vG];rfl)
end Go.Ev
namespace Go.Ev
set_option maxRecDepth 100000
variable{C C1:Ctx}
def Req.close {O L S T:St} {h l R now rc sc nm fs F F' r s m o fo oo oo'} (hσ:Ok O) (a:bP O h l R now rc sc nm fs F r s m o fo oo) (q:Req (O++L) S s m F F' oo oo') (b:bP S h l R now rc sc nm fs F' r s m o fo oo') (okT:Ok T) (hl:S.length<=T.length) (hT:∀i x,S[i]?=some x->(i<O.length\/O.length+L.length<=i)->T[i]?=some x) (vs:LA) (hv:ae 0 vs=true):
  ∃S',tidy O.length vs T=S'/\bP S' h l R now rc sc nm fs F' r s m o fo oo'/\Req O S' s m F F' oo oo':=by
 have k:=a.lt;have bT:bP T h l R now rc sc nm fs F' r s m o fo oo':=b.moved fun i x hi e=>hT i x e (by
  rcases hi with rfl|rfl|rfl|rfl|e|e
  ·exact .inl k.r
  ·exact .inl k.s
  ·exact .inl k.m
  ·exact .inl k.o
  ·exact .inl (k.fo _ e)
  ·rcases q.new _ e with e|e
   ·exact .inl (k.oo _ e)
   ·exact .inr (by simpa using e))
 exact(q.base.more k.s okT hl (fun i x hi e=>hT i x e (.inl hi))).fin hσ a bT vs hv
def Req.kept{O L S:St}{h l R now rc sc nm fs F F' r s m o fo oo oo'}(a:bP O h l R now rc sc nm fs F r s m o fo oo)(q:Req (O++L) S s m F F' oo oo')(i:Nat){x:AO}(hx:L[i]?=some x):S[O.length+i]?=some x:=by
 have k:=a.lt;exact q.old _ _ (by have:=k.s;omega) (by have:=k.m;omega) (fun e=>by have:=k.oo _ e;omega) (by rw[dM];exact hx)
structure GH(C C1:Ctx):Prop where
 req:Su C1
 snap:∀a O v,xJ C1 (ai C1) (mX C1 (ai C1) TT 8) dQ dw a O=some v->ai C gJ a O=some v
 role:∀a O v,xJ C1 (ai C1) (mX C1 (ai C1) TT 8) gX eY a O=some v->ai C qK a O=some v
 made:Has C kJ ni
 targets:Has C Cc BR
structure CaseOk(C1:Ctx)(h:Bool)(l:List fV)(R:jQ)(now:Int)(K:Dt)(fs:List PS):Prop where
 chk:Io C1 h l R now K
 root:R.ok
 data:Du fs
def TW (H:GH C C1) {h l R now rc sc nm fs F r s m o fo oo K} (hK:CaseOk C1 h l R now K fs) (hFo:yB fs F) {O:St} (hσ:Ok O) (a:bP O h l R now rc sc nm fs F r s m o fo oo) (hF:F.length<1000000):
  ∃S oo',ai C gJ [.ref r 0] O=some (.tup [.agg (gU K fs sc F).1.1.cs,.int .u8 (gU K fs sc F).1.2],S)/\bP S h l R now rc sc nm fs (gU K fs sc F).2 r s m o fo oo'/\Req O S s m F (gU K fs sc F).2 oo oo':=by
 obtain⟨S,oo',q1,q2,q3⟩:=aaA H.req 6 hK.chk hK.data hFo hσ a hF;exact⟨S,oo',H.snap _ _ _ q1,q2,q3⟩
def afJ (H:GH C C1) {h l R now rc sc nm fs F r s m o fo oo K} (hK:CaseOk C1 h l R now K fs) (hFo:yB fs F) {O:St} (hσ:Ok O) (a:bP O h l R now rc sc nm fs F r s m o fo oo) (hF:F.length+1<1000000) (rl:LU) (au:eu) (ks:List PS) (ha:xM au.ids) (hk:zC ks):
  ∃S oo',ai C qK [.ref r 0,.str rl,.agg au.cs,.sl ks.length (ks.flatMap pC)] O=some (.tup [.agg (lH K fs rc sc rl au ks F).1.1.cs,.int .u8 (lH K fs rc sc rl au ks F).1.2],S)/\bP S h l R now rc sc nm fs (lH K fs rc sc rl au ks F).2 r s m o fo oo'/\Req O S s m F (lH K fs rc sc rl au ks F).2 oo oo':=by
 obtain⟨S,oo',q1,q2,q3⟩:=aiI H.req 5 hK.chk hK.data hFo hσ a hF rl au ks ha hk;exact⟨S,oo',H.role _ _ _ q1,q2,q3⟩
def Fv:LU:=[116,97,114,103,101,116,115]
def aeh (H:GH C C1) {h l R now rc sc nm fs F r s m o fo oo K} (hK:CaseOk C1 h l R now K fs) (hFo:yB fs F) {O:St} (hσ:Ok O) (a:bP O h l R now rc sc nm fs F r s m o fo oo) (hF:F.length+1<1000000):
  ∃S oo',ai C Cc [.ref r 0] O=some (.tup [.agg (lH K fs rc sc Fv R.tg R.ks F).1.1.cs,.int .u8 (lH K fs rc sc Fv R.tg R.ks F).1.2],S)/\bP S h l R now rc sc nm fs (lH K fs rc sc Fv R.tg R.ks F).2 r s m o fo oo'/\Req O S s m F (lH K fs rc sc Fv R.tg R.ks F).2 oo oo':=by
 have hn:=iI r O;have ok1:Ok (O++[.cells [.int .i64 0,.int .i64 0,.nils,.nils,.nils,.int .i64 0,.nils,.int .i64 0,.str []] FZ]):=hσ.plus rfl;obtain⟨S,oo',q1,b,q⟩:=afJ H hK hFo ok1 (a.app _) hF Fv R.tg R.ks hK.root.tg hK.root.ks;generalize lH K fs rc sc Fv R.tg R.ks F=sp at*;obtain⟨⟨tv,c⟩,F1⟩:=sp;dsimp only at*;have x0:S[O.length]?=some _:=q.kept a 0 rfl;have tb:=PE tv;have mk:=Tu H.made (a.app [.cells [.int .i64 0,.int .i64 0,.nils,.nils,.nils,.int .i64 0,.nils,.int .i64 0,.str []] FZ]);have okT:Ok (S.set O.length (.cells tv.cs FZ)):=Ok.set2 q.ok _ (AO.below_mono (a98 _) _ tb);obtain⟨S',t1,t2,t3⟩:=q.close hσ a b okT (by simp) (fun i x e hi=>aF e (by simp at hi;omega) _) [.agg tv.cs,.int .u8 c] (by rw[ae,below];rw[AO.below]at tb;rw[tb];rfl)
 refine⟨S',oo',?_,t2,t3⟩;have rp:=a.rp;have Rc:=R.cs_is;unfold Cm at rp;rw[Rc]at rp;simp only[a99,au3]at rp;have rpS:=fun L=>aA rp L;have ta:R.tg.cs=[.int .i64 R.tg.th,.sl R.tg.ids.length (R.tg.ids.flatMap sC)]:=rfl;unfold Fv at q1;rw[ta]at q1;have spT:splice [.int .i64 0,.int .i64 0,.nils,.nils,.nils,.int .i64 0,.nils,.int .i64 0,.str []] 0 tv.cs=tv.cs:=rfl;have sg:=bg x0 (.cells tv.cs FZ);have nvs:NVs [.agg tv.cs,.int .u8 c]:=.cons (.agg tv.nvs) (.cons (.int _ _) .nil);rw[H.targets.go hn];generalize hE:xu=eR;simp only[BR,mk,q1,rpS,x0,spT,kG.len,kG.fl,AV.cells,EVX,seval];rw[<-hE];refine(Vu (vs:=[.agg tv.cs,.int .u8 c]) ?_ nvs).trans (by rw[t1];rfl)
 simp only[aY,sg,kG.len,kG.tk,EVX,seval]
structure aea(C:Ctx):Prop extends TelHas C where
 rmade:Has C kJ ni
 rfet:Has C jM BQ
def aeb (H:aea C) {h l R now rc sc nm fs F r s m o fo oo} {O:St} (hσ:Ok O) (a:bP O h l R now rc sc nm fs F r s m o fo oo) (hu:Uniq F):
  ai C jM [.ref r 0] O=some (.sl F.length (F.flatMap (vT nm)),O):=by
 have hn:=iI r O;have rp:=a.rp;have mk:=Tu H.rmade a;have q:=YJ H.toTelHas hσ a.st hu;unfold Cm at rp;rw[H.rfet.go hn];simp only[BQ,mk,q,rp,aS,EVX,seval]
def FI(K:Dt)(R:jQ)(fs:List PS)(rc sc:Int)(a:fQ)(F:List dO):(SnV×kG×Int)×List dO:=
 if a.kind=0 then(((gU K fs sc F).1.1,ML,(gU K fs sc F).1.2),(gU K fs sc F).2)
 else if a.kind=1 then((Vj,(lH K fs rc sc Fv R.tg R.ks F).1),(lH K fs rc sc Fv R.tg R.ks F).2)
 else((Vj,(lH K fs rc sc a.name a.auth a.keys F).1),(lH K fs rc sc a.name a.auth a.keys F).2)
structure VL(a:fQ):Prop where
 ids:xM a.auth.ids
 keys:zC a.keys
def aiT (H:GH C C1) (hA:Has C ik gZ) {h l R now rc sc nm fs F r s m o fo oo K} (hK:CaseOk C1 h l R now K fs) (hFo:yB fs F) {O:St} (hσ:Ok O) (a:bP O h l R now rc sc nm fs F r s m o fo oo) (hF:F.length+1<1000000) (k:fQ) (hk:VL k):
  ∃S oo',ai C ik [.ref r 0,.agg k.cs] O=some (.tup [.agg (FI K R fs rc sc k F).1.1.cs,.agg (FI K R fs rc sc k F).1.2.1.cs,.int .u8 (FI K R fs rc sc k F).1.2.2],S)/\bP S h l R now rc sc nm fs (FI K R fs rc sc k F).2 r s m o fo oo'/\Req O S s m F (FI K R fs rc sc k F).2 oo oo':=by
 have kb:AO.below 0 (.cells k.cs FZ)=true:=k.nvs.cl;have kc:k.cs=[.int .u8 k.kind,.str k.name,.int .i64 k.auth.th,.sl k.auth.ids.length (k.auth.ids.flatMap sC),.sl k.keys.length (k.keys.flatMap pC)]:=rfl;have ok1:Ok (O++[.cells k.cs FZ,.cells [.int .i64 0,.int .i64 0,.nils] FZ,.cells [.int .i64 0,.int .i64 0,.nils,.nils,.nils,.int .i64 0,.nils,.int .i64 0,.str []] FZ]):=hσ.plus (by simp only[a88,aw1,kb];rfl)
 have hn:=ab9 (NVs.cons (NV.agg k.nvs) .nil) r 0 O;have spT:∀tv:kG,splice [.int .i64 0,.int .i64 0,.nils,.nils,.nils,.int .i64 0,.nils,.int .i64 0,.str []] 0 tv.cs=tv.cs:=fun _=>rfl;have spS:∀tv:SnV,splice [.int .i64 0,.int .i64 0,.nils] 0 tv.cs=tv.cs:=fun _=>rfl;rw[hA.go hn];unfold FI;by_cases k0:k.kind=0
 ·rw[if_pos k0];obtain⟨S,oo',q1,b,q⟩:=TW H hK hFo ok1 (a.app _) (by omega)
  generalize gU K fs sc F=sp at*;obtain⟨⟨sv,c⟩,F1⟩:=sp;dsimp only at*;have x0:S[O.length]?=some _:=q.kept a 0 rfl;have x1:S[O.length+1]?=some _:=q.kept a 1 rfl;have x2:S[O.length+2]?=some _:=q.kept a 2 rfl;have svb:AO.below 0 (.cells sv.cs FZ)=true:=sv.nvs.cl;have g1:=fun y=>bg x1 y;have e2:=fun y=>aF x2 (by omega:O.length+2≠O.length+1) y
  have g2:=fun y z=>bg (e2 y) z;have g3:=fun y z=>aF (g1 y) (by omega:O.length+1≠O.length+2) z
  have okT:Ok (((S.set (O.length+1) (.cells sv.cs FZ)).set (O.length+2) (.cells [.int .i64 0,.int .i64 0,.nils,.nils,.nils,.int .i64 0,.nils,.int .i64 0,.str []] FZ))++[.cells sv.cs FZ]):=(Ok.set2 (Ok.set2 q.ok _ (AO.below_mono (a98 _) _ svb)) _ rfl).plus (by rw[a88,svb];rfl)
  obtain⟨S',t1,t2,t3⟩:=q.close hσ a b okT (by simp) (fun i x e hi=>aA (aF (aF e (by simp at hi;omega) _) (by simp at hi;omega) _) _) [.agg sv.cs,.agg ML.cs,.int .u8 c] (by rw[AO.below]at svb;simp only[ae,below,svb];rfl)
  refine⟨S',oo',?_,t2,t3⟩;rw[k0]at kc;rw[kc]at x0 q1⊢;have y1:=fun L=>aA x1 L;have p1:=fun L y=>dJ x1 L y;have p2:=fun L y z=>dJ (e2 y) L z;have e2L:=fun y L=>aA (e2 y) L;generalize hE:xu=eR;simp only[gZ,q1,y1,p1,p2,e2L,spS,SnV.len,SnV.tk,SnV.fl,aQ,jm,AV.cells,AV.flat,EVX,seval];rw[<-hE];refine(EO (vs:=[.agg sv.cs,.agg [.int .i64 0,.int .i64 0,.nils,.nils,.nils,.int .i64 0,.nils,.int .i64 0,.str []],.int .u8 c]) (vs':=[.agg sv.cs,.agg ML.cs,.int .u8 c]) ?_ (by rw[oW,aK,(NV.agg sv.nvs).nf];rfl)).trans (by erw[t1];rfl)
  have h1:=fun y z L=>aA (g3 y z) L;have h2:=fun y z L=>aA (g2 y z) L;simp only[aY,h1,h2,SnV.len,SnV.tk,EVX,seval]
 rw[if_neg k0];by_cases k1:k.kind=1
 ·rw[if_pos k1];obtain⟨S,oo',q1,b,q⟩:=aeh H hK hFo ok1 (a.app _) hF;generalize lH K fs rc sc Fv R.tg R.ks F=sp at*;obtain⟨⟨sv,c⟩,F1⟩:=sp;dsimp only at*;have x0:S[O.length]?=some _:=q.kept a 0 rfl;have x1:S[O.length+1]?=some _:=q.kept a 1 rfl;have x2:S[O.length+2]?=some _:=q.kept a 2 rfl;have svb:=PE sv;have g1:=fun y=>bg x1 y;have e2:=fun y=>aF x2 (by omega:O.length+2≠O.length+1) y
  have g2:=fun y z=>bg (e2 y) z;have g3:=fun y z=>aF (g1 y) (by omega:O.length+1≠O.length+2) z
  have okT:Ok (((S.set (O.length+1) (.cells [.int .i64 0,.int .i64 0,.nils] FZ)).set (O.length+2) (.cells sv.cs FZ))++[.cells sv.cs FZ]):=(Ok.set2 (Ok.set2 q.ok _ rfl) _ (AO.below_mono (a98 _) _ svb)).plus (by rw[a88,svb];rfl)
  obtain⟨S',t1,t2,t3⟩:=q.close hσ a b okT (by simp) (fun i x e hi=>aA (aF (aF e (by simp at hi;omega) _) (by simp at hi;omega) _) _) [.agg Vj.cs,.agg sv.cs,.int .u8 c] (by rw[AO.below]at svb;simp only[ae,below,svb];rfl)
  refine⟨S',oo',?_,t2,t3⟩;rw[k1]at kc;rw[kc]at x0 q1⊢;have y1:=fun L=>aA x1 L;have p1:=fun L y=>dJ x1 L y;have p2:=fun L y z=>dJ (e2 y) L z;have e2L:=fun y L=>aA (e2 y) L;have f3:∀i z (y:AO),(S.set i z++[y])[S.length]?=some y:=fun i z y=>by rw[fG (by simp)];rfl
  generalize hE:xu=eR;simp only[gZ,q1,y1,p1,p2,e2L,f3,spT,yj,reO,kG.len,kG.tk,kG.fl,aQ,jm,AV.cells,AV.flat,EVX,seval];rw[<-hE];refine(EO (vs:=[.agg [.int .i64 0,.int .i64 0,.nils],.agg sv.cs,.int .u8 c]) (vs':=[.agg Vj.cs,.agg sv.cs,.int .u8 c]) ?_ (by rw[oW,aK,aX,aK,OH,aK,OH,aK,dA,vG,aK,(NV.agg sv.nvs).nf];rfl)).trans (by erw[t1];rfl)
  have h1:=fun y z L=>aA (g3 y z) L;have h2:=fun y z L=>aA (g2 y z) L;simp only[aY,h1,h2,kG.len,kG.tk,EVX,seval]
 ·rw[if_neg k1];obtain⟨S,oo',q1,b,q⟩:=afJ H hK hFo ok1 (a.app _) hF k.name k.auth k.keys hk.ids hk.keys;generalize lH K fs rc sc k.name k.auth k.keys F=sp at*;obtain⟨⟨sv,c⟩,F1⟩:=sp;dsimp only at*;have x0:S[O.length]?=some _:=q.kept a 0 rfl;have x1:S[O.length+1]?=some _:=q.kept a 1 rfl;have x2:S[O.length+2]?=some _:=q.kept a 2 rfl;have svb:=PE sv;have g1:=fun y=>bg x1 y;have e2:=fun y=>aF x2 (by omega:O.length+2≠O.length+1) y
  have g2:=fun y z=>bg (e2 y) z;have g3:=fun y z=>aF (g1 y) (by omega:O.length+1≠O.length+2) z
  have okT:Ok (((S.set (O.length+1) (.cells [.int .i64 0,.int .i64 0,.nils] FZ)).set (O.length+2) (.cells sv.cs FZ))++[.cells sv.cs FZ]):=(Ok.set2 (Ok.set2 q.ok _ rfl) _ (AO.below_mono (a98 _) _ svb)).plus (by rw[a88,svb];rfl)
  obtain⟨S',t1,t2,t3⟩:=q.close hσ a b okT (by simp) (fun i x e hi=>aA (aF (aF e (by simp at hi;omega) _) (by simp at hi;omega) _) _) [.agg Vj.cs,.agg sv.cs,.int .u8 c] (by rw[AO.below]at svb;simp only[ae,below,svb];rfl)
  refine⟨S',oo',?_,t2,t3⟩;have k0':(k.kind==0)=false:=by simpa using k0
  have k1':(k.kind==1)=false:=by simpa using k1
  have ac:k.auth.cs=[.int .i64 k.auth.th,.sl k.auth.ids.length (k.auth.ids.flatMap sC)]:=rfl;rw[ac]at q1;rw[kc]at x0 q1⊢;have y1:=fun L=>aA x1 L;have p1:=fun L y=>dJ x1 L y;have p2:=fun L y z=>dJ (e2 y) L z;have e2L:=fun y L=>aA (e2 y) L;have f3:∀i z (y:AO),(S.set i z++[y])[S.length]?=some y:=fun i z y=>by rw[fG (by simp)];rfl
  generalize hE:xu=eR;simp only[gZ,k0',k1',q1,y1,p1,p2,e2L,f3,spT,yj,reO,kG.len,kG.tk,kG.fl,aQ,jm,AV.cells,AV.flat,EVX,seval];rw[<-hE];refine(EO (vs:=[.agg [.int .i64 0,.int .i64 0,.nils],.agg sv.cs,.int .u8 c]) (vs':=[.agg Vj.cs,.agg sv.cs,.int .u8 c]) ?_ (by rw[oW,aK,aX,aK,OH,aK,OH,aK,dA,vG,aK,(NV.agg sv.nvs).nf];rfl)).trans (by erw[t1];rfl)
  have h1:=fun y z L=>aA (g3 y z) L;have h2:=fun y z L=>aA (g2 y z) L;simp only[aY,h1,h2,kG.len,kG.tk,EVX,seval]
def ab2(nm:LU)(f:dO):(vT nm f).length=4:=rfl
def asL(fs:List PS)(F:List dO)(file:LU)(cap:Int):∃Yq,(wH fs F file cap).2=F++Yq:=by
 unfold wH;cases F.find? (fun f=>decide (f.name=file))with
 |some f=>exact⟨[],(au6 _).symm⟩
 |none=>exact⟨_,rfl⟩
def asx(fs:List PS)(F X:List dO)(file:LU)(cap cap':Int):wH fs ((wH fs F file cap).2++X) file cap'=((wH fs F file cap).1,(wH fs F file cap).2++X):=by
 unfold wH;cases hf:F.find? (fun f=>decide (f.name=file))with
 |some f=>
  dsimp only;rw[List.find?_append,hf];rfl
 |none=>
  dsimp only;rw[List.find?_append,List.find?_append,hf,aC5 (by simpa using Dn fs file cap)]
  rfl
def Me(F:List dO):Prop:=F.Pairwise fun f g=>f.name≠g.name
def Me.uniq:∀{F:List dO},Me F->Uniq F
 |[],_,_,h=>by cases h
 |g::F,hd,f,h=>by
  obtain⟨h1,h2⟩:=List.pairwise_cons.mp hd;rcases au9.mp h with rfl|h
  ·exact aC5 (by simp)
  ·rw[List.find?_cons_of_neg (by simpa using h1 f h)]
   exact Me.uniq h2 f h
def Me.ne{F:List dO}(h:Me F){i j:Nat}(hij:i<j){f g:dO}(hi:F[i]?=some f)(hj:F[j]?=some g):f.name≠g.name:=by
 obtain⟨a,rfl⟩:=a00.mp hi;obtain⟨b,rfl⟩:=a00.mp hj;exact List.pairwise_iff_getElem.mp h i j a b hij
def TL{fs:List PS}{F:List dO}(h:Me F)(file:LU)(cap:Int):Me (wH fs F file cap).2:=by
 unfold wH;cases hf:F.find? (fun f=>decide (f.name=file))with
 |some f=>exact h
 |none=>
  refine List.pairwise_append.mpr ⟨h,List.pairwise_singleton _ _,fun f hfm g hg=>?_⟩;rw[aA2.mp hg,Dn];have:=List.find?_eq_none.mp hf f hfm;simpa using this
def asu(K:Dt)(fs:List PS)(sc:Int)(F X:List dO):gU K fs sc ((gU K fs sc F).2++X)=((gU K fs sc F).1,(gU K fs sc F).2++X):=by
 unfold gU;rw[asx]
def OZ{F:List dO}(h:Me F)(K:Dt)(fs:List PS)(sc:Int):Me (gU K fs sc F).2:=TL h _ _
def asz(K:Dt)(fs:List PS)(rc sc:Int)(rl:LU)(a:eu)(ks:List PS)(F:List dO):∃Yq,(lH K fs rc sc rl a ks F).2=(gU K fs sc F).2++Yq:=by
 unfold lH;dsimp only;split
 ·split
  ·exact⟨[],(au6 _).symm⟩
  ·split
   ·exact asL _ _ _ _
   ·split
    ·exact⟨[],(au6 _).symm⟩
    ·exact asL _ _ _ _
 ·exact⟨[],(au6 _).symm⟩
def XQ{F:List dO}(h:Me F)(K:Dt)(fs:List PS)(rc sc:Int)(rl:LU)(a:eu)(ks:List PS):Me (lH K fs rc sc rl a ks F).2:=by
 have h1:=OZ h K fs sc;unfold lH;dsimp only;split
 ·split
  ·exact h1
  ·split
   ·exact TL h1 _ _
   ·split
    ·exact h1
    ·exact TL h1 _ _
 ·exact h1
def ahl{F:List dO}(h:Me F)(K:Dt)(R:jQ)(fs:List PS)(rc sc:Int)(a:fQ):Me (FI K R fs rc sc a F).2:=by
 unfold FI;split
 ·exact OZ h K fs sc
 ·split
  ·exact XQ h K fs rc sc _ _ _
  ·exact XQ h K fs rc sc _ _ _
def ry(K:Dt)(R:jQ)(fs:List PS)(rc sc:Int):List fQ->List dO->List dO
 |[],F=>F
 |a::l,F=>ry K R fs rc sc l (FI K R fs rc sc a F).2
def YV(K:Dt)(R:jQ)(fs:List PS)(rc sc:Int):∀(l k:List fQ) (F:List dO),ry K R fs rc sc (l++k) F=ry K R fs rc sc k (ry K R fs rc sc l F)
 |[],_,_=>rfl
 |a::l,k,F=>by rw[a99,ry,YV K R fs rc sc l k,ry]
structure Rp where
 h:Bool
 l:List fV
 R:jQ
 now:Int
 rc:Int
 sc:Int
 nm:LU
 fs:List PS
 F:List dO
 r:Nat
 s:Nat
 m:Nat
 o:Nat
 fo:Option Nat
 oo:Option Nat
def Rp.at'(p:Rp)(S:St):Prop:=bP S p.h p.l p.R p.now p.rc p.sc p.nm p.fs p.F p.r p.s p.m p.o p.fo p.oo
def Rp.has(p:Rp)(i:Nat):Prop:=i=p.r\/i=p.s\/i=p.m\/i=p.o\/p.fo=some i\/p.oo=some i
def Rp.to(p:Rp)(F:List dO)(oo:Option Nat):Rp:={p with F:=F,oo:=oo}
def Rp.lt{p:Rp}{S:St}(a:p.at' S){i:Nat}(h:p.has i):i<S.length:=by
 have k:=bP.lt a;rcases h with rfl|rfl|rfl|rfl|e|e
 ·exact k.r
 ·exact k.s
 ·exact k.m
 ·exact k.o
 ·exact k.fo _ e
 ·exact k.oo _ e
def Rp.moved{p:Rp}{S T:St}(a:p.at' S)(h:∀i x,p.has i->S[i]?=some x->T[i]?=some x):p.at' T:=bP.moved a fun i x hi e=>h i x hi e
def Rp.app{p:Rp}{S:St}(a:p.at' S)(L:St):p.at' (S++L):=bP.app a L
structure Stp(S S':St)(p p':Rp):Prop where
 ok:Ok S'
 at':p'.at' S'
 len:S.length<=S'.length
 old:∀i x,¬p.has i->S[i]?=some x->S'[i]?=some x
 new:∀i,p'.has i->p.has i\/S.length<=i
def Req.stp{S S':St}{p:Rp}{F':List dO}{oo':Option Nat}(q:Req S S' p.s p.m p.F F' p.oo oo')(b:(p.to F' oo').at' S'):Stp S S' p (p.to F' oo'):=
 ⟨q.ok,b,q.len,fun i x h e=>q.old i x (fun e'=>h (by simp[Rp.has,e'])) (fun e'=>h (by simp[Rp.has,e'])) (fun e'=>h (by simp[Rp.has,e'])) e,fun i h=>by
  rcases h with e|e|e|e|e|e
  ·exact .inl (.inl e)
  ·exact .inl (.inr (.inl e))
  ·exact .inl (.inr (.inr (.inl e)))
  ·exact .inl (.inr (.inr (.inr (.inl e))))
  ·exact .inl (.inr (.inr (.inr (.inr (.inl e)))))
  ·rcases q.new i e with e|e
   ·exact .inl (.inr (.inr (.inr (.inr (.inr e)))))
   ·exact .inr e⟩
structure Rp.good(C1:Ctx)(K:Dt)(p:Rp):Prop where
 case:CaseOk C1 p.h p.l p.R p.now K p.fs
 fet:yB p.fs p.F
 uniq:Me p.F
def Rp.ask(p:Rp)(K:Dt)(a:fQ):(SnV×kG×Int)×List dO:=FI K p.R p.fs p.rc p.sc a p.F
def afR{C1 h l R now K fs}(hK:CaseOk C1 h l R now K fs){F}(hFo:yB fs F)(rc sc:Int)(a:fQ)(ha:VL a):(FI K R fs rc sc a F).1.1.ok/\(FI K R fs rc sc a F).1.2.1.ok/\yB fs (FI K R fs rc sc a F).2/\(FI K R fs rc sc a F).2.length<=F.length+2:=by
 have z:Vj.ok:=⟨by decide,fun _ h=>by cases h⟩
 obtain⟨s1,s2,s3⟩:=J5 hK.chk hK.data hFo sc;unfold FI;split
 ·exact⟨s1,RY,s2,by dsimp only;omega⟩
 ·split
  ·obtain⟨r1,r2,r3,_⟩:=XP hK.chk hK.data hFo rc sc Fv R.tg R.ks hK.root.tg hK.root.ks;exact⟨z,r1,r2,r3⟩
  ·obtain⟨r1,r2,r3,_⟩:=XP hK.chk hK.data hFo rc sc a.name a.auth a.keys ha.ids ha.keys;exact⟨z,r1,r2,r3⟩
def amg (H:GH C C1) (hA:Has C ik gZ) {K:Dt} {p:Rp} (g:p.good C1 K) {S:St} (hS:Ok S) (a:p.at' S) (hF:p.F.length+1<1000000) (k:fQ) (hk:VL k):
  ∃S' oo',ai C ik [.ref p.r 0,.agg k.cs] S=some (.tup [.agg (p.ask K k).1.1.cs,.agg (p.ask K k).1.2.1.cs,.int .u8 (p.ask K k).1.2.2],S')/\Stp S S' p (p.to (p.ask K k).2 oo')/\(p.to (p.ask K k).2 oo').good C1 K:=by
 obtain⟨S',oo',q1,q2,q3⟩:=aiT H hA g.case g.fet hS a hF k hk;exact⟨S',oo',q1,Req.stp q3 q2,g.case,(afR g.case g.fet _ _ k hk).2.2.1,ahl g.uniq K p.R p.fs p.rc p.sc k⟩
def aaB (H:GH C C1) {K:Dt} {p:Rp} (g:p.good C1 K) {S:St} (hS:Ok S) (a:p.at' S) (hF:p.F.length<1000000):
  ∃S' oo',ai C gJ [.ref p.r 0] S=some (.tup [.agg (gU K p.fs p.sc p.F).1.1.cs,.int .u8 (gU K p.fs p.sc p.F).1.2],S')/\Stp S S' p (p.to (gU K p.fs p.sc p.F).2 oo')/\(p.to (gU K p.fs p.sc p.F).2 oo').good C1 K:=by
 obtain⟨S',oo',q1,q2,q3⟩:=TW H g.case g.fet hS a hF;exact⟨S',oo',q1,Req.stp q3 q2,g.case,(J5 g.case.chk g.case.data g.fet p.sc).2.1,OZ g.uniq K p.fs p.sc⟩
def VN(H:aea C){p:Rp}{S:St}(hS:Ok S)(a:p.at' S)(hu:Me p.F):ai C jM [.ref p.r 0] S=some (.sl p.F.length (p.F.flatMap (vT p.nm)),S):=aeb H hS a hu.uniq
def Rp.of(p:Rp)(c:ul)(R:jQ):Prop:=p.h=c.h/\p.l=c.l/\p.R=R/\p.now=c.now/\p.rc=c.rc/\p.sc=c.sc/\p.nm=c.nm/\p.fs=c.fs
def amW (H:MadeHas C) (c:ul) (hl:c.l.length<=60) (hfs:c.fs.length<=1000) (R:jQ) (e:Int)
  (hR:∀(O:St) (o:Nat),Ok O->O[o]?=some (Ep c.h c.l)->ai C uY [.ref o 0,.str c.data] O=some (.tup [.agg (Va R e).cs,.int .i64 e],O))
  {Y:St} (hτ:Ok Y):
  (wL c.nm c.fs c.rc c.sc e≠0/\ai C dG [.agg c.cs] Y=some (.tup [.nilp,.int .i64 (wL c.nm c.fs c.rc c.sc e)],Y))\/
  (wL c.nm c.fs c.rc c.sc e=0/\∃(p:Rp) (T:St),ai C dG [.agg c.cs] Y=some (.tup [.ref p.r 0,.int .i64 0],T)/\Ok T/\p.at' T/\p.of c R/\p.F=[]/\(∀i,p.has i->Y.length<=i)/\T.take Y.length=Y):=by
 rcases amV H c hl hfs R e hR hτ with h|⟨h0,r,s,m,o,fo,T,h1,h2,h3,h4,h5,h6,h7,h8,h9⟩
 ·exact .inl h
 ·refine .inr ⟨h0,⟨c.h,c.l,R,c.now,c.rc,c.sc,c.nm,c.fs,[],r,s,m,o,fo,none⟩,T,h1,h2,h3,⟨rfl,rfl,rfl,rfl,rfl,rfl,rfl,rfl⟩,rfl,fun i hi=>?_,h9⟩;rcases hi with rfl|rfl|rfl|rfl|e|e
  ·exact h4
  ·exact h5
  ·exact h6
  ·exact h7
  ·exact h8 _ e
  ·cases e
def alV:Me []:=.nil
def alQ{S S':St}{n:Nat}(hn:n<=S.length)(h:∀i x,i<n->S[i]?=some x->S'[i]?=some x):S'.take n=S.take n:=by
 refine aw5 fun k=>?_;rw[au7,au7];split
 ·next hk=>
  have e:S[k]?=some S[k]:=a02 (by omega)
  rw[e];exact h k _ hk e
 ·rfl
def Stp.pre{S S':St}{p p':Rp}(q:Stp S S' p p'){n:Nat}(hn:n<=S.length)(h:∀i,p.has i->n<=i):S'.take n=S.take n:=
 alQ hn fun i x hi e=>q.old i x (fun hp=>by have:=h i hp;omega) e
def Stp.frm{S S':St}{p p':Rp}(q:Stp S S' p p'){n:Nat}(hn:n<=S.length)(h:∀i,p.has i->n<=i):∀i,p'.has i->n<=i:=fun i hi=>by
 rcases q.new i hi with e|e
 ·exact h i e
 ·omega
structure Kept(S:St)(pa pb:Nat)(was:Int)(x:Option (SnV×kG×Int)):Prop where
 none':x=none->S[pa]?=some (.cells [.int .i64 0,.int .i64 0,.nils] FZ)/\S[pb]?=some (.cells [.int .i64 0,.int .i64 0,.nils,.nils,.nils,.int .i64 0,.nils,.int .i64 0,.str []] FZ)
 some':∀y,x=some y->S[pa]?=some (.cells y.1.cs FZ)/\S[pb]?=some (.cells y.2.1.cs FZ)/\was=y.2.2
theorem Kept.ex{S pa pb was x}(h:Kept S pa pb was x):∃a b,S[pa]?=some (.cells a FZ)/\S[pb]?=some (.cells b FZ)/\a.length=3/\b.length=9:=by
 cases x with
 |none=>exact⟨_,_,(h.none' rfl).1,(h.none' rfl).2,rfl,rfl⟩
 |some y=>exact⟨_,_,(h.some' y rfl).1,(h.some' y rfl).2.1,rfl,rfl⟩
def Kept.moved{S T pa pb was x}(h:Kept S pa pb was x)(ha:∀y,S[pa]?=some y->T[pa]?=some y)(hb:∀y,S[pb]?=some y->T[pb]?=some y):Kept T pa pb was x:=
 ⟨fun e=>⟨ha _ (h.none' e).1,hb _ (h.none' e).2⟩,fun y e=>⟨ha _ (h.some' y e).1,hb _ (h.some' y e).2.1,(h.some' y e).2.2⟩⟩
end Go.Ev
namespace Go.Ev
set_option maxRecDepth 100000
variable{C:Ctx}
structure IU where
 S:LU->SnV
 s1:LU->Int
 s2:LU->Int
 s3:LU->Int
 sen:LU->Bool
 T:LU->kG
 t1:LU->Int
 t2:LU->Int
 t3:LU->Int
 ten:LU->eu->List PS->Bool
 od:LU->List PS->Bool
def IU.sc(b:IU)(now:Int)(d:LU)(z:Int):Int:=Ry z (b.s1 d) (b.s2 d) (b.s3 d) (b.sen d) (decide ((b.S d).exp<=now))
def IU.rc(b:IU)(now:Int)(p:mi)(a:eu)(ks:List PS)(d:LU)(z:Int):Int:=XO z p.length d.length (b.od d p.hashes) (b.t1 d) (b.t2 d) (b.t3 d) (b.ten d a ks) (b.T d).ver p.version (decide ((b.T d).exp<=now))
def IU.K(b:IU)(now:Int):Dt:=⟨fun d z=>(afi (b.S d) (b.sc now d z),b.sc now d z),fun p a ks d z=>(afj (b.T d) (b.rc now p a ks d z),b.rc now p a ks d z)⟩
def Il(hC:Has C mZ xP)(a b:Int)(O:St):ai C mZ [.int .i64 a,.int .i64 b] O=some (.bool (decide (a<=b)),O):=by
 rw[hC.go (NVs.hand (.cons (.int _ _) (.cons (.int _ _) .nil)) _)];by_cases c:a<=b
 ·simp only[xP,c,EVX,seval]
 ·simp only[xP,c,EVX,seval]
def al6 (H:ChkTot C) (hO:Has C mZ xP) (h:Bool) (l:List fV) (b1:uM l=false) (data:LU) (b4:data.length<=LB):
  ∃(T:kG) (e1 e2 e3:Int) (en:eu->List PS->Bool) (od:List PS->Bool),T.ok/\∀(p:mi) (a:eu) (ks:List PS) (now size:Int) (O:St) (o:Nat),zC p.hashes->xM a.ids->zC ks->Ok O->O[o]?=some (Ep h l)->
   ai C yO [.ref o 0,.agg p.cs,.agg a.cs,.sl ks.length (ks.flatMap pC),.int .i64 now,.str data,.int .i64 size] O=
    some (.tup [.agg (afj T (XO size p.length data.length (od p.hashes) e1 e2 e3 (en a ks) T.ver p.version (decide (T.exp<=now)))).cs,.int .u8 (XO size p.length data.length (od p.hashes) e1 e2 e3 (en a ks) T.ver p.version (decide (T.exp<=now)))],O):=by
 obtain⟨j,n1,e1,q1⟩:=H.rd data b4;obtain⟨r,e2,mr,q2⟩:=H.sg j;have q5x:∀a:eu×List PS,∃en:Bool,xM a.1.ids->zC a.2->∀Y o,Y[o]?=some (Ep h l)->ai C iF [.ref o 0,r,.agg (aC a.1.th a.1.ids),.sl a.2.length (a.2.flatMap pC)] Y=some (.bool en,Y):=fun a=>by
  by_cases c:xM a.1.ids/\zC a.2
  ·obtain⟨en,q⟩:=H.enough h l r a.1.th a.1.ids a.2 b1 c.1 c.2 mr;exact⟨en,fun _ _=>q⟩
  ·exact⟨false,fun c1 c2=>absurd ⟨c1,c2⟩ c⟩
 obtain⟨en,q5⟩:=Classical.axiomOfChoice q5x;obtain⟨k,ps,rfl,lp⟩:=abg mr;obtain⟨T,e3,tok,q3⟩:=H.tg k;obtain⟨D,q6⟩:=H.dig data b4;obtain⟨x0,x1,x2,x3,x4,je,ox0,ox1,ox2,ox3,ox4⟩:=j.ones;obtain⟨r0,r1,r2,r3,r4,ke,or0,or1,or2,or3,or4⟩:=k.ones;unfold JV.av at q1 q2 q3;rw[je]at q1 q2;rw[ke]at q2 q3 q5;have odx:∀hs:List PS,∃b:Bool,zC hs->∀(Y:St) (o:Nat) (F:fK),Ok Y->Y[o]?=some (.cells F.cs FZ)->F.ph=.sl hs.length (hs.flatMap pC)->F.data=data->ai C fJ [.ref o 0] Y=some (.bool b,Y):=fun hs=>by
  by_cases c:zC hs
  case neg=>exact⟨false,fun h=>absurd h c⟩
  by_cases c0:hs.length=0
  ·have:hs=[]:=au5 c0;subst this;exact⟨false,fun _ Y o F hτ hF hp hd=>Tm H.role.toChkHas hτ hF [] hp⟩
  ·obtain⟨d,b,q⟩:=H.hash hs c;exact⟨_,fun _ Y o F hτ hF hp hd=>XB H.role.toChkHas hτ hF hs.length _ hp c0 (by rw[hp];exact q Y) (by rw[hd];exact q6 Y)⟩
 obtain⟨od,qo⟩:=Classical.axiomOfChoice odx;refine⟨T,e1,e2,e3,fun a ks=>en (a,ks),od,tok,fun p a ks now size O o hh ha hk hσ ho=>?_⟩;have hl:o<O.length:=(a00.mp ho).1;have hI:(inf h l o a.th a.ids ks p.name p.version p.length (.sl p.hashes.length (p.hashes.flatMap pC)) now data size).ok O.length:=⟨.inr ⟨o,rfl,hl⟩,uN _ (JS a.ids),uN _ (yY ks),(uN _ (yY p.hashes)).b0⟩;rw[<-ano];exact Yy H.role hσ hI (uN _ (yY p.hashes)) ⟨rfl,rfl⟩
  {x0:=x0,x1:=x1,x2:=x2,x3:=x3,x4:=x4,n1:=n1,e1:=e1,r0:=r0,r1:=r1,r2:=r2,r3:=r3,r4:=r4,r5:=.sl ps.length (ps.flatMap pC),e2:=e2,en:=en (a,ks)
   hx0:=ox0,hx1:=ox1,hx2:=ox2,hx3:=ox3,hx4:=ox4,hr0:=or0,hr1:=or1,hr2:=or2,hr3:=or3,hr4:=or4,hr5:=uN _ (yY ps)
   rd:=fun Y _=>q1 Y,sg:=fun _ Y _=>q2 Y
   enough:=fun _ _ Y _ hx=>q5 (a,ks) ha hk Y o (hx o _ ho)
   tv:=T.ver,tx:=T.exp,t2:=.sl T.list.length (T.list.flatMap TgV.cs),t3:=.sl T.del.keys.length (T.del.keys.flatMap pC),t4:=.sl T.del.roles.length (T.del.roles.flatMap RoV.cs),t5:=.int .i64 T.del.thr,t6:=.sl T.del.ids.length (T.del.ids.flatMap sC),t7:=.int .i64 T.del.bits,t8:=.str T.del.pre,e3:=e3,ov:=decide (T.exp<=now),od:=od p.hashes
   h2:=uN _ (.sl _ (fP (fun r=>r.bel) T.list)),h3:=uN _ (yY _),h4:=uN _ (.sl _ (UL T.del.roles)),h5:=Fa _ _,h6:=uN _ (JS _),h7:=Fa _ _,h8:=agJ _
   tg:=fun _ _ Y _=>q3 Y,over:=fun Y _=>Il hO _ _ Y,odig:=qo p.hashes hh}
def alE (H:ChkTot C) (hO:Has C mZ xP) (h:Bool) (l:List fV) (R:jQ) (data:LU) (b1:uM l=false) (b2:xM R.sn.ids) (b3:zC R.ks) (b4:data.length<=LB):
  ∃(S:SnV) (e1 e2 e3:Int) (en:Bool),S.ok/\∀(now size:Int) (O:St) (o:Nat),Ok O->O[o]?=some (Ep h l)->
   ai C nG [.ref o 0,.agg R.cs,.int .i64 now,.str data,.int .i64 size] O=
    some (.tup [.agg (afi S (Ry size e1 e2 e3 en (decide (S.exp<=now)))).cs,.int .u8 (Ry size e1 e2 e3 en (decide (S.exp<=now)))],O):=by
 obtain⟨S,e1,e2,e3,en,ov,sok,q,r⟩:=alF H h l R data b1 b2 b3 b4;have e:∀now,ov now=decide (S.exp<=now):=fun now=>by
  have:=(q now []).symm.trans (Il hO _ _ _);simpa using this
 refine⟨S,e1,e2,e3,en,sok,fun now size O o hσ ho=>?_⟩;rw[<-anl,<-e];exact r now size O o hσ ho
def aiV(H:ChkTot C)(hO:Has C mZ xP)(h:Bool)(l:List fV)(b1:uM l=false)(R:jQ)(b2:xM R.sn.ids)(b3:zC R.ks):∃b:IU,∀now,Io C h l R now (b.K now):=by
 have sx:∀d:LU,∃x:SnV×Int×Int×Int×Bool,d.length<=LB->x.1.ok/\∀(now size:Int) (O:St) (o:Nat),Ok O->O[o]?=some (Ep h l)->
   ai C nG [.ref o 0,.agg R.cs,.int .i64 now,.str d,.int .i64 size] O=
    some (.tup [.agg (afi x.1 (Ry size x.2.1 x.2.2.1 x.2.2.2.1 x.2.2.2.2 (decide (x.1.exp<=now)))).cs,.int .u8 (Ry size x.2.1 x.2.2.1 x.2.2.2.1 x.2.2.2.2 (decide (x.1.exp<=now)))],O):=fun d=>by
  by_cases c:d.length<=LB
  ·obtain⟨S,e1,e2,e3,en,q⟩:=alE H hO h l R d b1 b2 b3 c;exact⟨(S,e1,e2,e3,en),fun _=>q⟩
  ·exact⟨(Vj,0,0,0,false),fun h=>absurd h c⟩
 have tx:∀d:LU,∃x:kG×Int×Int×Int×(eu->List PS->Bool)×(List PS->Bool),d.length<=LB->x.1.ok/\∀(p:mi) (a:eu) (ks:List PS) (now size:Int) (O:St) (o:Nat),zC p.hashes->xM a.ids->zC ks->Ok O->O[o]?=some (Ep h l)->
   ai C yO [.ref o 0,.agg p.cs,.agg a.cs,.sl ks.length (ks.flatMap pC),.int .i64 now,.str d,.int .i64 size] O=
    some (.tup [.agg (afj x.1 (XO size p.length d.length (x.2.2.2.2.2 p.hashes) x.2.1 x.2.2.1 x.2.2.2.1 (x.2.2.2.2.1 a ks) x.1.ver p.version (decide (x.1.exp<=now)))).cs,.int .u8 (XO size p.length d.length (x.2.2.2.2.2 p.hashes) x.2.1 x.2.2.1 x.2.2.2.1 (x.2.2.2.2.1 a ks) x.1.ver p.version (decide (x.1.exp<=now)))],O):=fun d=>by
  by_cases c:d.length<=LB
  ·obtain⟨T,e1,e2,e3,en,od,q⟩:=al6 H hO h l b1 d c;exact⟨(T,e1,e2,e3,en,od),fun _=>q⟩
  ·exact⟨(ML,0,0,0,fun _ _=>false,fun _=>false),fun h=>absurd h c⟩
 obtain⟨f,hf⟩:=Classical.axiomOfChoice sx;obtain⟨g,hg⟩:=Classical.axiomOfChoice tx;refine⟨⟨fun d=>(f d).1,fun d=>(f d).2.1,fun d=>(f d).2.2.1,fun d=>(f d).2.2.2.1,fun d=>(f d).2.2.2.2,fun d=>(g d).1,fun d=>(g d).2.1,fun d=>(g d).2.2.1,fun d=>(g d).2.2.2.1,fun d=>(g d).2.2.2.2.1,fun d=>(g d).2.2.2.2.2⟩,fun now=>⟨fun d z hd=>?_,fun d z O o hd hσ ho=>?_,fun d z e=>?_,fun p a ks d z e=>?_,fun p a ks d z h1 h2 h3 hd=>?_,fun p a ks d z O o h1 h2 h3 hd hσ ho=>?_⟩⟩
 ·exact anm (hf d hd).1 _
 ·exact(hf d hd).2 now z O o hσ ho
 ·exact if_neg e
 ·exact if_neg e
 ·exact anp (hg d hd).1 _
 ·exact(hg d hd).2 p a ks now z O o h1 h2 h3 hσ ho
end Go.Ev
namespace Go.Ev
set_option maxRecDepth 100000
variable{C C1:Ctx}
structure aax(C C1:Ctx):Prop where
 cat:GH C C1
 made:MadeHas C
 asked:Has C ik gZ
 lng:Pm C
 fet:aea C
 s26:Has C Om NS
 s23:aoD C
 s24:aoF C
 awake:∀O,Ok O->ai C mD [] O=some (.bool true,O)
 root:∀(h:Bool) (l:List fV),uM l=false->∀data:LU,data.length<=LB->∃(R:jQ) (e:Int),R.ok/\∀(O:St) (o:Nat),Ok O->O[o]?=some (Ep h l)->ai C uY [.ref o 0,.str data] O=some (.tup [.agg (Va R e).cs,.int .i64 e],O)
 chk:∀(h:Bool) (l:List fV),uM l=false->∀(R:jQ),R.ok->∃b:IU,∀now:Int,Io C1 h l R now (b.K now)
def afq{l:List fQ}(h:Gm l=false):l.length<=12/\∀a∈l,VL a:=by
 unfold Gm at h;rw[ay2]at h;refine⟨Nat.not_lt.mp (of_decide_eq_false h.1),fun a ha=>?_⟩;have h2:=List.any_eq_false.mp h.2 a ha;unfold QT at h2;simp only[az0,not_or,Bool.not_eq_true]at h2;exact⟨aim (th:=a.auth.th) h2.2.1,afr h2.2.2⟩
def Xq{c:ul}{L:List (List fQ)}(h:Uw c L=false):uM c.l=false/\c.l.length<=60/\c.fs.length<=1000/\c.data.length<=LB/\Du c.fs/\∀l∈L,l.length<=12/\∀a∈l,VL a:=by
 unfold Uw at h;simp only[ay2]at h;obtain⟨h1,h2,h3⟩:=h;obtain⟨s1,s2,s3⟩:=adS h1;refine⟨h2,?_,s1,s2,s3,fun l hl=>?_⟩
 ·unfold uM at h2;rw[ay2]at h2;exact Nat.not_lt.mp (of_decide_eq_false h2.1)
 ·have:=List.any_eq_false.mp h3 l hl;exact afq (by simpa using this)
def alP{S O:St}{n i:Nat}(h:S.take n=O)(hi:i<O.length):S[i]?=O[i]?:=by
 rw[<-h,au7,if_pos];rw[<-h,ay6]at hi;omega
structure afG(C1:Ctx)(bv:IU)(c:ul)(R:jQ)(Y T:St)(p:Rp):Prop where
 ok:Ok T
 at':p.at' T
 of:p.of c R
 F:p.F=[]
 own:∀i,p.has i->Y.length<=i
 pre:T.take Y.length=Y
 good:p.good C1 (bv.K c.now)
theorem afG.len{C1 bv c R Y T p}(h:afG C1 bv c R Y T p):Y.length<=T.length:=by
 have:=congrArg List.length h.pre;rw[ay6]at this;omega
def amY (H:aax C C1) {c:ul} {L:List (List fQ)} (cl:Uw c L=false):∃(R:jQ) (e:Int) (bv:IU),R.ok/\(∀(now:Int),Io C1 c.h c.l R now (bv.K now))/\∀(now:Int) (fs:List PS) (Y:St),fs.length<=1000->Du fs->Ok Y->
  (wL c.nm fs c.rc c.sc e≠0/\ai C dG [.agg {c with now:=now,fs:=fs}.cs] Y=some (.tup [.nilp,.int .i64 (wL c.nm fs c.rc c.sc e)],Y))\/
  (wL c.nm fs c.rc c.sc e=0/\∃(p:Rp) (T:St),ai C dG [.agg {c with now:=now,fs:=fs}.cs] Y=some (.tup [.ref p.r 0,.int .i64 0],T)/\afG C1 bv {c with now:=now,fs:=fs} R Y T p):=by
 obtain⟨v1,v2,v3,v4,v5,v6⟩:=Xq cl;obtain⟨R,e,rok,hR⟩:=H.root c.h c.l v1 c.data v4;obtain⟨bv,hK⟩:=H.chk c.h c.l v1 R rok;refine⟨R,e,bv,rok,hK,fun now fs Y v3 v5 hτ=>?_⟩;rcases amW H.made {c with now:=now,fs:=fs} v2 v3 R e hR hτ with h|⟨m1,p,T,m2,okT,atT,po,pF,pfrom,ptake⟩
 ·exact .inl h
 ·refine .inr ⟨m1,p,T,m2,okT,atT,po,pF,pfrom,ptake,?_⟩;obtain⟨h1,h2,h3,h4,h5,h6,h7,h8⟩:=po;refine⟨⟨?_,?_,?_⟩,?_,?_⟩
  ·show Io C1 p.h p.l p.R p.now _;rw[h1,h2,h3,h4];exact hK now
  ·rw[h3];exact rok
  ·rw[h8];exact v5
  ·rw[pF];exact fun f hf=>by cases hf
  ·rw[pF];exact alV
def apv (H:aax C C1) {c:ul} {L:List (List fQ)} (cl:Uw c L=false):∃(R:jQ) (e:Int) (bv:IU),R.ok/\(∀(now:Int),Io C1 c.h c.l R now (bv.K now))/\∀(now:Int) (Y:St),Ok Y->
  (wL c.nm c.fs c.rc c.sc e≠0/\ai C dG [.agg {c with now:=now}.cs] Y=some (.tup [.nilp,.int .i64 (wL c.nm c.fs c.rc c.sc e)],Y))\/
  (wL c.nm c.fs c.rc c.sc e=0/\∃(p:Rp) (T:St),ai C dG [.agg {c with now:=now}.cs] Y=some (.tup [.ref p.r 0,.int .i64 0],T)/\afG C1 bv {c with now:=now} R Y T p):=by
 obtain⟨R,e,bv,rok,hK,mk⟩:=amY H cl;obtain⟨v1,v2,v3,v4,v5,v6⟩:=Xq cl;exact⟨R,e,bv,rok,hK,fun now Y hτ=>mk now c.fs Y v3 v5 hτ⟩
def Stp.refl{S:St}{p:Rp}(hS:Ok S)(a:p.at' S):Stp S S p p:=⟨hS,a,a06 _,fun _ _ _ h=>h,fun _ h=>.inl h⟩
def Stp.trans{S T U:St}{p q r:Rp}(s:Stp S T p q)(t:Stp T U q r):Stp S U p r:=
 ⟨t.ok,t.at',ax7 s.len t.len,fun i x h e=>t.old i x (fun h'=>by
  rcases s.new i h' with h''|h''
  ·exact h h''
  ·have:=(a00.mp e).1;omega) (s.old i x h e),fun i h=>by
  rcases t.new i h with h|h
  ·exact s.new i h
  ·exact .inr (ax7 s.len h)⟩
theorem Stp.more{S T:St}{p q:Rp}(s:Stp S T p q){L:St}(hL:Ok (T++L)):Stp S (T++L) p q:=
 ⟨hL,(s.at').app L,by have:=s.len;simp;omega,fun i x h e=>aA (s.old i x h e) L,s.new⟩
def aiE(p q:Rp):Prop:=∀i,p.has i->¬q.has i
def aiE.symm{p q:Rp}(h:aiE p q):aiE q p:=fun i a b=>h i b a
def Stp.other{S S':St}{p p' q:Rp}(s:Stp S S' p p')(a:q.at' S)(d:aiE p q):q.at' S'/\aiE p' q:=
 ⟨a.moved fun i x h e=>s.old i x (fun h'=>d i h' h) e,fun i h h'=>by
  rcases s.new i h with e|e
  ·exact d i e h'
  ·have:=Rp.lt a h';omega⟩
set_option maxHeartbeats 2000000
def sgn(c:Int):Bool:=c==0||(c==8||(c==9||c==10))
def atx(hC:Has C ass asr)(c:Int)(O:St):ai C ass [.int .u8 c] O=some (.bool (sgn c),O):=by
 rw[hC.go (NVs.hand (.cons (.int _ _) .nil) _)];unfold sgn;cases h0:(c==0)<;>cases h1:(c==8)<;>cases h2:(c==9)<;>cases h3:(c==10)<;>simp only[asr,h0,h1,h2,h3,ax9,aC8,EVX,seval]
def Who(x y:Int):Prop:=(x=y/\sgn x=false)\/(sgn x=true/\sgn y=true/\(x=8\/y=8\/x=y))
def asC{c:Prop} [Decidable c](v:Int)(h:sgn v=false){x y:Int}(t:Who x y):Who (if c then v else x) (if c then v else y):=by
 by_cases k:c
 ·rw[if_pos k,if_pos k];exact .inl ⟨rfl,h⟩
 ·rw[if_neg k,if_neg k];exact t
def atH(size pl dl:Int)(od:Bool)(e1 e2 e3:Int)(n1 n2:Bool)(tv pv:Int)(ov:Bool):Who (XO size pl dl od e1 e2 e3 n1 tv pv ov) (XO size pl dl od e1 e2 e3 n2 tv pv ov):=by
 unfold XO;refine asC _ rfl (asC _ rfl (asC _ rfl (asC _ rfl (asC _ rfl (asC _ rfl (asC _ rfl ?_))))));refine .inr ?_;have s:∀n:Bool,sgn (if(!n)=true then 8 else if(tv !=pv)=true then 9 else if ov=true then 10 else 0)=true:=fun n=>by
  split
  ·rfl
  ·split
   ·rfl
   ·split<;>rfl
 refine⟨s n1,s n2,?_⟩;cases n1
 ·exact .inl rfl
 ·cases n2
  ·exact .inr (.inl rfl)
  ·exact .inr (.inr rfl)
def atc(K:Dt)(R:jQ)(fs:List PS)(rc sc:Int)(a:fQ)(F:List dO)(h:a.kind=2):FI K R fs rc sc a F=((Vj,(lH K fs rc sc a.name a.auth a.keys F).1),(lH K fs rc sc a.name a.auth a.keys F).2):=by
 unfold FI;rw[if_neg (by rw[h];decide),if_neg (by rw[h];decide)]
def atD (bv:IU) (now:Int) (fs:List PS) (rc sc:Int) (rl:LU) (a b:eu) (ka kb:List PS) (F:List dO):
  let K:=bv.K now
  let x:=lH K fs rc sc rl a ka F
  let y:=lH K fs rc sc rl b kb x.2
  let s:=gU K fs sc F
  (s.1.2≠0->x.1.2=s.1.2/\y.1.2=s.1.2)/\(s.1.2=0->Who x.1.2 y.1.2/\(x.1.2=y.1.2->x.1.1=y.1.1))/\(∀X,(gU K fs sc (y.2++X)).1=s.1):=by
 intro K x y s;obtain⟨Yq,hY⟩:=asz K fs rc sc rl a ka F;obtain⟨Z,hZ⟩:=asz K fs rc sc rl b kb x.2;have a1:gU K fs sc x.2=(s.1,x.2):=by
  have:=asu K fs sc F Yq;rw[<-hY]at this;exact this
 have e2:∀X,(gU K fs sc (y.2++X)).1=s.1:=fun X=>by
  have:=asu K fs sc F (Yq++(Z++X));have e:y.2++X=(gU K fs sc F).2++(Yq++(Z++X)):=by
   rw[show y.2=(gU K fs sc x.2).2++Z from hZ,a1,show x.2=(gU K fs sc F).2++Yq from hY];simp
  rw[e,this]
 refine⟨fun h=>?_,fun h=>?_,e2⟩
 ·have ex:x=((ML,s.1.2),s.2):=by
   show lH K fs rc sc rl a ka F=_;unfold lH;dsimp only;rw[if_neg h]
  have ey:y=((ML,s.1.2),x.2):=by
   show lH K fs rc sc rl b kb x.2=_;unfold lH;rw[a1];dsimp only;rw[if_neg h]
  rw[ey,ex];exact⟨rfl,rfl⟩
 ·have ex:x=(match sD s.1.1 rl with
   |none=>((ML,1),s.2)
   |some p=>if p.length<0 then Bo K fs rl a ka p rc s.2 else if rc<p.length then((ML,3),s.2)else Bo K fs rl a ka p p.length s.2):=by
   show lH K fs rc sc rl a ka F=_;unfold lH;dsimp only;rw[if_pos h]<;>rfl
  have ey:y=(match sD s.1.1 rl with
   |none=>((ML,1),x.2)
   |some p=>if p.length<0 then Bo K fs rl b kb p rc x.2 else if rc<p.length then((ML,3),x.2)else Bo K fs rl b kb p p.length x.2):=by
   show lH K fs rc sc rl b kb x.2=_;unfold lH;rw[a1];dsimp only;rw[if_pos h]<;>rfl
  have two:∀(p:mi) (most:Int),x=Bo K fs rl a ka p most s.2->y=Bo K fs rl b kb p most x.2->Who x.1.2 y.1.2/\(x.1.2=y.1.2->x.1.1=y.1.1):=fun p most h1 h2=>by
   have g:=asx fs s.2 [] (rl++iJ) most most;rw[au6]at g;have hx2:x.2=(wH fs s.2 (rl++iJ) most).2:=by rw[h1];rfl
   have h3:y.1=K.ro p b kb (wH fs s.2 (rl++iJ) most).1.data (wH fs s.2 (rl++iJ) most).1.size:=by
    rw[h2,hx2];unfold Bo;rw[g]
   have h4:x.1=K.ro p a ka (wH fs s.2 (rl++iJ) most).1.data (wH fs s.2 (rl++iJ) most).1.size:=by rw[h1];rfl
   rw[h3,h4];refine⟨atH _ _ _ _ _ _ _ _ _ _ _ _,fun e=>?_⟩;show afj _ _=afj _ _;have e:bv.rc now p a ka (wH fs s.2 (rl++iJ) most).1.data (wH fs s.2 (rl++iJ) most).1.size=bv.rc now p b kb (wH fs s.2 (rl++iJ) most).1.data (wH fs s.2 (rl++iJ) most).1.size:=e;rw[e]
  cases hp:sD s.1.1 rl with
  |none=>
   rw[hp]at ex ey;rw[ey,ex];exact⟨.inl ⟨rfl,rfl⟩,fun _=>rfl⟩
  |some p=>
   rw[hp]at ex ey;dsimp only at ex ey;by_cases c1:p.length<0
   ·rw[if_pos c1]at ex ey;exact two p rc ex ey
   ·rw[if_neg c1]at ex ey;by_cases c2:rc<p.length
    ·rw[if_pos c2]at ex ey;rw[ey,ex];exact⟨.inl ⟨rfl,rfl⟩,fun _=>rfl⟩
    ·rw[if_neg c2]at ex ey;exact two p _ ex ey
set_option maxHeartbeats 4000000
def asZ (H:aax C C1) (hs:Has C ass asr) (hO:Has C asq asf) (c:ul) (a b:fQ) (O:St) (hσ:Ok O):
  ai C asq [.agg c.cs,.agg a.cs,.agg b.cs] O=some (.bool true,O):=by
 obtain⟨a',ha'⟩:∃a':fQ,a'={a with kind:=2}:=⟨_,rfl⟩;obtain⟨b',hb'⟩:∃b':fQ,b'={b with kind:=2,name:=a.name}:=⟨_,rfl⟩;have cb:AO.below 0 (.cells c.cs FZ)=true:=c.nvs.cl;have ab:AO.below 0 (.cells a'.cs FZ)=true:=a'.nvs.cl;have bb:AO.below 0 (.cells b'.cs FZ)=true:=b'.nvs.cl;have ok1:Ok (O++[.cells c.cs FZ,.cells a'.cs FZ,.cells b'.cs FZ]):=hσ.plus (by simp only[a88,aw1,cb,ab,bb,av9])
 have ty:=fun b=>dE hσ (vs:=[.bool b]) rfl;have lg:=asE H.lng c [a',b'] _ ok1;simp only[a07,a09,ay1,aC2,au6,av2]at lg;have aw:=H.awake _ ok1;have c10:c.cs.length=10:=rfl;have ct:c.cs.take 10=c.cs:=rfl;have hn:hand false [.agg c.cs,.agg a.cs,.agg b.cs] O=some ([.agg c.cs,.agg a.cs,.agg b.cs],O):=NVs.hand (.cons (.agg c.nvs) (.cons (.agg a.nvs) (.cons (.agg b.nvs) .nil))) O;have ac:a.cs=[.int .u8 a.kind,.str a.name,.int .i64 a.auth.th,.sl a.auth.ids.length (a.auth.ids.flatMap sC),.sl a.keys.length (a.keys.flatMap pC)]:=rfl;have bc:b.cs=[.int .u8 b.kind,.str b.name,.int .i64 b.auth.th,.sl b.auth.ids.length (b.auth.ids.flatMap sC),.sl b.keys.length (b.keys.flatMap pC)]:=rfl;have ac':a'.cs=[.int .u8 2,.str a.name,.int .i64 a.auth.th,.sl a.auth.ids.length (a.auth.ids.flatMap sC),.sl a.keys.length (a.keys.flatMap pC)]:=by rw[ha'];rfl
 have bc':b'.cs=[.int .u8 2,.str a.name,.int .i64 b.auth.th,.sl b.auth.ids.length (b.auth.ids.flatMap sC),.sl b.keys.length (b.keys.flatMap pC)]:=by rw[hb'];rfl
 rw[hO.go hn];cases cl:Uw c [[a',b']]
 case true=>
  rw[cl,ac',bc']at lg;rw[ac',bc']at aw;simp only[a99,au3]at lg;simp only[asf,ac,bc,lg,aw,ty,c10,ct,aQ,dM,BJ,AV.cells,EVX,seval]
 rw[cl]at lg;obtain⟨R,e,bv,rok,hK,mk⟩:=apv H cl;have okab:=((Xq cl).2.2.2.2.2 [a',b'] (by simp)).2
 have oka:=okab a' (by simp)
 have okb:=okab b' (by simp)
 rcases mk c.now _ ok1 with⟨m1,m2⟩|⟨m1,p,T,m2,nr⟩
 ·have m1':(wL c.nm c.fs c.rc c.sc e !=0)=true:=by simpa using m1
  rw[ac',bc']at lg aw m2;simp only[a99,au3]at lg;simp only[asf,ac,bc,lg,aw,m1',m2,ty,c10,ct,aQ,dM,BJ,AV.cells,EVX,seval]
 have lT:=nr.len;simp only[a04,a07,a09]at lT;have own:=nr.own;simp only[a04,a07,a09]at own;have ka:a'.kind=2:=by rw[ha']
 have kb:b'.kind=2:=by rw[hb']
 obtain⟨S1,o1,q1,q2,q3⟩:=amg H.cat H.asked nr.good nr.ok nr.at' (by rw[nr.F];decide) a' oka
 have f1:p.ask (bv.K c.now) a'=((Vj,(lH (bv.K c.now) p.fs p.rc p.sc a.name a.auth a.keys []).1),(lH (bv.K c.now) p.fs p.rc p.sc a.name a.auth a.keys []).2):=by
  unfold Rp.ask;rw[nr.F,atc _ _ _ _ _ _ _ ka,ha']
 rw[f1]at q1 q2 q3;obtain⟨w1,w2,w3⟩:=atD bv c.now p.fs p.rc p.sc a.name a.auth b.auth a.keys b.keys [];have okx:=XP nr.good.case.chk nr.good.case.data (F:=[]) (fun f hf=>by cases hf) p.rc p.sc a.name a.auth a.keys (by have:=oka.ids;rw[ha']at this;exact this) (by have:=oka.keys;rw[ha']at this;exact this)
 have oky:=XP nr.good.case.chk nr.good.case.data okx.2.1 p.rc p.sc a.name b.auth b.keys (by have:=okb.ids;rw[hb']at this;exact this) (by have:=okb.keys;rw[hb']at this;exact this)
 generalize hsp:(gU (bv.K c.now) p.fs p.sc []).1=s at*;generalize hx:lH (bv.K c.now) p.fs p.rc p.sc a.name a.auth a.keys []=x at*;have g1:AO.below 0 (.cells Vj.cs FZ)=true:=rfl;have g2:=PE x.1.1;have okS1:Ok (S1++[.cells Vj.cs FZ,.cells x.1.1.cs FZ]):=q2.ok.plus (by simp only[a88,aw1,g1,g2,av9])
 obtain⟨S2,o2,r1,r2,r3⟩:=amg H.cat H.asked q3 okS1 ((q2.at').app _) (by show x.2.length+1<_;have:=okx.2.2.1;simp at this;omega) b' okb
 have f2:(p.to x.2 o1).ask (bv.K c.now) b'=((Vj,(lH (bv.K c.now) p.fs p.rc p.sc a.name b.auth b.keys x.2).1),(lH (bv.K c.now) p.fs p.rc p.sc a.name b.auth b.keys x.2).2):=by
  show FI (bv.K c.now) p.R p.fs p.rc p.sc b' x.2=_;rw[atc _ _ _ _ _ _ _ kb,hb']
 rw[f2]at r1 r2 r3;generalize hy:lH (bv.K c.now) p.fs p.rc p.sc a.name b.auth b.keys x.2=y at*;have g3:=PE y.1.1;have okS2:Ok (S2++[.cells Vj.cs FZ,.cells y.1.1.cs FZ]):=r2.ok.plus (by simp only[a88,aw1,g1,g3,av9])
 obtain⟨S3,o3,t1,t2,t3⟩:=aaB H.cat r3 okS2 ((r2.at').app _) (by show y.2.length<_;have:=oky.2.2.1;have:=okx.2.2.1;simp at this;omega)
 have w4:=w3 [];rw[au6]at w4;change ai C gJ [.ref p.r 0] _=some (.tup [.agg (gU (bv.K c.now) p.fs p.sc y.2).1.1.cs,.int .u8 (gU (bv.K c.now) p.fs p.sc y.2).1.2],S3)at t1;change Stp _ S3 _ (p.to (gU (bv.K c.now) p.fs p.sc y.2).2 o3)at t2;rw[w4]at t1;generalize(gU (bv.K c.now) p.fs p.sc y.2).2=F3 at*;change ai C ik [.ref p.r 0,.agg b'.cs] _=_ at r1;have l1:=q2.len;have l2:=r2.len;have l3:=t2.len;simp only[a04,a07,a09]at l2 l3;have ow1:=q2.frm (n:=O.length+3) (by omega) own
 have ow2:=r2.frm (n:=O.length+3) (by simp;omega) ow1
 have ow3:=t2.frm (n:=O.length+3) (by simp;omega) ow2
 have pT:∀i y,i<3->([AO.cells c.cs FZ,.cells a'.cs FZ,.cells b'.cs FZ]:St)[i]?=some y->T[O.length+i]?=some y:=fun i y hi e=>by
  rw[alP nr.pre (by simp;omega),dM,e]
 have pS:∀i y,i<3->([AO.cells c.cs FZ,.cells a'.cs FZ,.cells b'.cs FZ]:St)[i]?=some y->S1[O.length+i]?=some y:=fun i y hi e=>q2.old _ _ (fun h=>by have:=own _ h;omega) (pT i y hi e)
 have xa:=pT 1 _ (by decide) rfl
 have xb:=pS 2 _ (by decide) rfl
 have xbL:=fun L=>aA xb L;have na1:∀d,¬(p.to x.2 o1).has (S1.length+d):=fun d h=>by have:=Rp.lt q2.at' h;omega
 have u1:S2[S1.length+1]?=some (.cells x.1.1.cs FZ):=r2.old _ _ (na1 1) (by rw[dM];rfl)
 have na2:¬(p.to y.2 o2).has (S1.length+1):=fun h=>by
  rcases r2.new _ h with e|e
  ·exact na1 1 e
  ·simp at e
 have nb2:¬(p.to y.2 o2).has (S2.length+1):=fun h=>by have:=Rp.lt r2.at' h;omega
 have u2:S3[S1.length+1]?=some (.cells x.1.1.cs FZ):=t2.old _ _ na2 (aA u1 _);have u3:S3[S2.length+1]?=some (.cells y.1.1.cs FZ):=t2.old _ _ nb2 (by rw[dM];rfl)
 have u2L:=fun L=>aA u2 L;have u3L:=fun L=>aA u3 L;have sb:AO.below 0 (.cells s.1.cs FZ)=true:=s.1.nvs.cl;have okS3:Ok (S3++[.cells s.1.cs FZ]):=t2.ok.plus (by rw[a88,sb];rfl)
 have pre3:(S3++[AO.cells s.1.cs FZ]).take O.length=O:=by
  have e0:T.take O.length=O:=by
   have:=congrArg (List.take O.length) nr.pre;rw[aD1,az7 (by simp),List.take_left']at this
   ·exact this
   ·rfl
  have e1:S1.take O.length=T.take O.length:=q2.pre (by omega) (fun i h=>by have:=own i h;omega)
  have e2:S2.take O.length=(S1++[AO.cells Vj.cs FZ,.cells x.1.1.cs FZ]).take O.length:=r2.pre (by simp;omega) (fun i h=>by have:=ow1 i h;omega)
  have e3:S3.take O.length=(S2++[AO.cells Vj.cs FZ,.cells y.1.1.cs FZ]).take O.length:=t2.pre (by simp;omega) (fun i h=>by have:=ow2 i h;omega)
  rw[av7 (by omega),e3,av7 (by omega),e2,av7 (by omega),e1,e0]
 have tyE:=pG (vs:=[.bool true]) hσ rfl pre3;have sg:=fun c Y=>atx (C:=C) hs c Y;have c24:=fun e:x.1.1=y.1.1=>show ai C Ol [.agg x.1.1.cs,.agg y.1.1.cs] (S3++[AO.cells s.1.cs FZ])=some (.bool true,S3++[AO.cells s.1.cs FZ])from by rw[<-e];exact asA H.s24 x.1.1 okx.1 _ okS3
 have spT:∀tv:kG,splice [.int .i64 0,.int .i64 0,.nils,.nils,.nils,.int .i64 0,.nils,.int .i64 0,.str []] 0 tv.cs=tv.cs:=fun _=>rfl;have spS:∀tv:SnV,splice [.int .i64 0,.int .i64 0,.nils] 0 tv.cs=tv.cs:=fun _=>rfl;have m1':((0:Int) !=0)=false:=rfl;rw[m1]at*;rw[ac',bc']at lg aw m2;rw[ac']at q1 xa;rw[bc']at r1 xb xbL;simp only[a99,au3]at lg;clear w3 w4 q2 r2 t2 q3 r3 t3 own ow1 ow2 ow3 pT pS okx oky;generalize x.1.2=xc at*;generalize y.1.2=yc at*;generalize s.2=scs at*;by_cases hs0:scs=0
 ·obtain⟨wh,we⟩:=w2 hs0;subst hs0;rcases wh with⟨rfl,w5⟩|⟨w5,w6,w7⟩
  ·have sx:=fun Y=>(sg xc Y).trans (by rw[w5])
   simp only[asf,ac,bc,lg,aw,m1',m2,q1,r1,t1,xa,xbL,spS,spT,sx,tyE,SnV.len,SnV.fl,kG.len,kG.fl,c10,ct,aQ,jm,dM,BJ,AV.cells,AV.flat,beq_self_eq_true,EVX,seval]
  ·have sx:=fun Y=>(sg xc Y).trans (by rw[w5])
   have sy:=fun Y=>(sg yc Y).trans (by rw[w6])
   by_cases e8:xc=8
   ·subst e8;simp only[asf,ac,bc,lg,aw,m1',m2,q1,r1,t1,xa,xbL,spS,spT,sx,sy,tyE,SnV.len,SnV.fl,kG.len,kG.fl,c10,ct,aQ,jm,dM,BJ,AV.cells,AV.flat,beq_self_eq_true,EVX,seval]
   ·have e8':(xc==8)=false:=by simpa using e8
    by_cases f8:yc=8
    ·subst f8;simp only[asf,ac,bc,lg,aw,m1',m2,q1,r1,t1,xa,xbL,spS,spT,sx,sy,e8',tyE,SnV.len,SnV.fl,kG.len,kG.fl,c10,ct,aQ,jm,dM,BJ,AV.cells,AV.flat,beq_self_eq_true,EVX,seval]
    ·have f8':(yc==8)=false:=by simpa using f8
     have exy:xc=yc:=by rcases w7 with h|h|h;exact absurd h e8;exact absurd h f8;exact h
     have c24':=c24 (we exy);subst exy;simp only[asf,ac,bc,lg,aw,m1',m2,q1,r1,t1,xa,xbL,u2L,u3L,spS,spT,sx,e8',c24',tyE,SnV.len,SnV.fl,kG.len,kG.tk,kG.fl,c10,ct,aQ,jm,dM,BJ,AV.cells,AV.flat,beq_self_eq_true,EVX,seval]
 ·have hs0':(scs !=0)=true:=by simpa using hs0
  obtain⟨rfl,rfl⟩:=w1 hs0;simp only[asf,ac,bc,lg,aw,m1',m2,q1,r1,t1,xa,xbL,spS,spT,hs0',tyE,SnV.len,SnV.fl,kG.len,kG.fl,c10,ct,aQ,jm,dM,BJ,AV.cells,AV.flat,beq_self_eq_true,EVX,seval]
structure RtHas(C:Ctx):Prop where
 rmade:Has C kJ ni
 root:Has C SN Sj
 auth:Has C U3 UY
 keys:Sv C kK 2
 strs:Sv C bQ 1
def asy(H:RtHas C)(a:eu)(ha:a.ids.length<=1099511627776)(O:St)(hσ:Ok O):ai C U3 [.agg a.cs] O=some (.agg a.cs,O):=by
 have ac:a.cs=[.int .i64 a.th,.sl a.ids.length (a.ids.flatMap sC)]:=rfl;have cl:=fun Y=>H.strs a.ids.length (a.ids.flatMap sC) Y (by rw[dV alk]) ha (ahD (f:=sC) (fun x=>rfl) _)
 have ab:=a.below;have ty:=fun L=>dE hσ (vs:=[.agg a.cs]) (by rw[ae,below,ab];rfl) L
 rw[H.auth.go (NVs.hand (.cons (afT a) .nil) _)];generalize hE:xu=eR;rw[ac];simp only[UY,cl,aQ,jm,dM,BJ,AV.cells,AV.flat,splice,EVX,seval];rw[<-hE];refine(Vu (vs:=[.agg a.cs]) ?_ (.cons (afT a) .nil)).trans (by rw[<-ac,ty];rfl)
 rw[ac];simp only[aY,dM,EVX,seval]
def atr(H:RtHas C){p:Rp}{S:St}(hS:Ok S)(a:p.at' S)(hR:p.R.ok):ai C SN [.ref p.r 0] S=some (.agg p.R.cs,S):=by
 have hn:hand false [.ref p.r 0] S=some ([.ref p.r 0],S):=rfl;have Rc:p.R.cs=[.int .i64 p.R.ver,.int .i64 p.R.exp,.sl p.R.ks.length (p.R.ks.flatMap pC),.int .i64 p.R.rt.th,.sl p.R.rt.ids.length (p.R.rt.ids.flatMap sC),.int .i64 p.R.sn.th,.sl p.R.sn.ids.length (p.R.sn.ids.flatMap sC),.int .i64 p.R.tg.th,.sl p.R.tg.ids.length (p.R.tg.ids.flatMap sC)]:=rfl;have rp:=bP.rp a;unfold Cm at rp;have z9:AO.below 0 (.cells [.int .i64 0,.int .i64 0,.nils,.int .i64 0,.nils,.int .i64 0,.nils,.int .i64 0,.nils] FZ)=true:=rfl;have rb:AO.below 0 (.cells p.R.cs FZ)=true:=p.R.nvs.cl;have mk:=Tu H.rmade ((bP.app a) [.cells [.int .i64 0,.int .i64 0,.nils,.int .i64 0,.nils,.int .i64 0,.nils,.int .i64 0,.nils] FZ]);have ok2:Ok (S++[.cells [.int .i64 0,.int .i64 0,.nils,.int .i64 0,.nils,.int .i64 0,.nils,.int .i64 0,.nils] FZ,.cells p.R.cs FZ]):=hS.plus (by simp only[a88,aw1,rb];rfl)
 have ck:=fun Y=>H.keys p.R.ks.length (p.R.ks.flatMap pC) Y (dV FW _) (by have:=hR.ks.1;omega) (ahD (f:=pC) (fun x=>rfl) _)
 have c1:=asy H p.R.rt (by have:=hR.rt.1;omega) _ ok2
 have c2:=asy H p.R.sn (by have:=hR.sn.1;omega) _ ok2
 have c3:=asy H p.R.tg (by have:=hR.tg.1;omega) _ ok2
 have ty:=fun L=>dE hS (vs:=[.agg p.R.cs]) (by rw[ae,below,p.R.nvs.cl];rfl) L
 unfold eu.cs at c1 c2 c3;rw[H.root.go hn];generalize hE:xu=eR;rw[Rc]at rp c1 c2 c3;simp only[a99,au3]at rp;have rpS:=fun L=>aA rp L;simp only[Sj,mk,rpS,ck,c1,c2,c3,aQ,jm,dM,BJ,AV.cells,AV.flat,splice,EVX,seval];rw[<-hE];refine(Vu (vs:=[.agg p.R.cs]) ?_ (.cons (.agg p.R.nvs) .nil)).trans (by rw[ty];rfl)
 rw[Rc];simp only[aY,aQ,EVX,seval]
structure aqw(C:Ctx):Prop extends RtHas C where
 expired:Has C MJ MC
 s22:Has C Oi NP
 s14:Has C DT Dy
 s15:Has C DU Dz
def asK(H:aqw C){p:Rp}{S:St}(hS:Ok S)(a:p.at' S):ai C MJ [.ref p.r 0] S=some (.bool (decide (p.R.exp<=p.now)),S):=by
 have hn:hand false [.ref p.r 0] S=some ([.ref p.r 0],S):=rfl;have mk:=Tu H.rmade a;have rp:=bP.rp a;unfold Cm jQ.cs at rp;rw[H.expired.go hn];by_cases c:p.R.exp<=p.now
 ·simp only[MC,mk,rp,c,aS,a99,au3,EVX,seval]
 ·simp only[MC,mk,rp,c,aS,a99,au3,EVX,seval]
def atp(H:aqw C)(R:jQ)(hR:R.ok)(O:St)(hσ:Ok O):ai C Oi [.agg R.cs,.agg R.cs] O=some (.bool true,O):=by
 have rb:AO.below 0 (.cells R.cs FZ)=true:=R.nvs.cl;have ok2:Ok (O++[.cells R.cs FZ,.cells R.cs FZ]):=hσ.plus (by simp only[a88,aw1,rb];rfl)
 have ty:=fun b=>dE hσ (vs:=[.bool b]) rfl;have q1:=asP H.s14 R.ks (by have:=hR.ks.1;omega) (O++[.cells R.cs FZ,.cells R.cs FZ])
 have q2:=asv H.s15 R.rt.th R.rt.ids (by have:=hR.rt.1;omega) _ ok2
 have q3:=asv H.s15 R.sn.th R.sn.ids (by have:=hR.sn.1;omega) _ ok2
 have q4:=asv H.s15 R.tg.th R.tg.ids (by have:=hR.tg.1;omega) _ ok2
 have Rc:=R.cs_is;unfold aC at q2 q3 q4;rw[H.s22.go (NVs.hand (.cons (.agg R.nvs) (.cons (.agg R.nvs) .nil)) _)];rw[Rc]at q1 q2 q3 q4⊢;simp only[NP,q1,q2,q3,q4,ty,aQ,dM,AV.cells,beq_self_eq_true,EVX,seval]
def Lat(c d:Int):Prop:=d=c\/(c=0/\d=10)
def ast{c:Prop} [Decidable c](v:Int){x y:Int}(t:Lat x y):Lat (if c then v else x) (if c then v else y):=by
 by_cases k:c
 ·rw[if_pos k,if_pos k];exact .inl rfl
 ·rw[if_neg k,if_neg k];exact t
def att{e n t:Int}(h:n<=t):Lat (if decide (e<=n)=true then 10 else 0) (if decide (e<=t)=true then 10 else 0):=by
 by_cases c:e<=n
 ·have d:e<=t:=by omega
  simp only[c,d,decide_true,if_true];exact .inl rfl
 ·by_cases d:e<=t
  ·simp only[c,d,decide_true,decide_false,if_true];exact .inr ⟨rfl,rfl⟩
  ·simp only[c,d,decide_false];exact .inl rfl
def atL(bv:IU){n t:Int}(h:n<=t)(d:LU)(z:Int):Lat (bv.sc n d z) (bv.sc t d z):=
 ast _ (ast _ (ast _ (ast _ (ast _ (ast _ (att h))))))
def atK(bv:IU){n t:Int}(h:n<=t)(p:mi)(a:eu)(ks:List PS)(d:LU)(z:Int):Lat (bv.rc n p a ks d z) (bv.rc t p a ks d z):=
 ast _ (ast _ (ast _ (ast _ (ast _ (ast _ (ast _ (ast _ (ast _ (att h)))))))))
theorem Lat.zero{c d:Int}(h:Lat c d)(hd:d=0):c=0:=by
 rcases h with h|h<;>omega
def asB (bv:IU) {n t:Int} (h:n<=t) (fs:List PS) (sc:Int) (F:List dO):
  (gU (bv.K t) fs sc F).2=(gU (bv.K n) fs sc F).2/\Lat (gU (bv.K n) fs sc F).1.2 (gU (bv.K t) fs sc F).1.2/\((gU (bv.K n) fs sc F).1.2=(gU (bv.K t) fs sc F).1.2->(gU (bv.K n) fs sc F).1.1=(gU (bv.K t) fs sc F).1.1):=by
 refine⟨rfl,atL bv h _ _,fun e=>?_⟩;show afi _ _=afi _ _;have e:bv.sc n (wH fs F (Bz++iJ) sc).1.data (wH fs F (Bz++iJ) sc).1.size=bv.sc t (wH fs F (Bz++iJ) sc).1.data (wH fs F (Bz++iJ) sc).1.size:=e;rw[e]
def asU (bv:IU) {n t:Int} (h:n<=t) (fs:List PS) (rc sc:Int) (rl:LU) (a:eu) (ks:List PS) (F:List dO):
  let x:=lH (bv.K n) fs rc sc rl a ks F
  let y:=lH (bv.K t) fs rc sc rl a ks F
  let u:=gU (bv.K t) fs sc F
  (u.1.2≠0->y.1.2=u.1.2)/\(u.1.2=0->Lat x.1.2 y.1.2/\(x.1.2=y.1.2->x.1.1=y.1.1)):=by
 intro x y u;obtain⟨h1,h2,h3⟩:=asB bv h fs sc F;refine⟨fun hc=>?_,fun hc=>?_⟩
 ·show(lH (bv.K t) fs rc sc rl a ks F).1.2=_;unfold lH;dsimp only;rw[if_neg hc]
 ·have hn:=h2.zero hc;have hs:=h3 (hn.trans hc.symm);have ex:x=(match sD u.1.1 rl with
   |none=>((ML,1),u.2)
   |some p=>if p.length<0 then Bo (bv.K n) fs rl a ks p rc u.2 else if rc<p.length then((ML,3),u.2)else Bo (bv.K n) fs rl a ks p p.length u.2):=by
   show lH (bv.K n) fs rc sc rl a ks F=_;unfold lH;dsimp only;rw[if_pos hn,hs];rfl
  have ey:y=(match sD u.1.1 rl with
   |none=>((ML,1),u.2)
   |some p=>if p.length<0 then Bo (bv.K t) fs rl a ks p rc u.2 else if rc<p.length then((ML,3),u.2)else Bo (bv.K t) fs rl a ks p p.length u.2):=by
   show lH (bv.K t) fs rc sc rl a ks F=_;unfold lH;dsimp only;rw[if_pos hc]<;>rfl
  have two:∀(p:mi) (most:Int),x=Bo (bv.K n) fs rl a ks p most u.2->y=Bo (bv.K t) fs rl a ks p most u.2->Lat x.1.2 y.1.2/\(x.1.2=y.1.2->x.1.1=y.1.1):=fun p most h1 h2=>by
   rw[h1,h2];refine⟨atK bv h _ _ _ _ _,fun e=>?_⟩;show afj _ _=afj _ _;have e:bv.rc n p a ks (wH fs u.2 (rl++iJ) most).1.data (wH fs u.2 (rl++iJ) most).1.size=bv.rc t p a ks (wH fs u.2 (rl++iJ) most).1.data (wH fs u.2 (rl++iJ) most).1.size:=e;rw[e]
  cases hp:sD u.1.1 rl with
  |none=>
   rw[hp]at ex ey;rw[ey,ex];exact⟨.inl rfl,fun _=>rfl⟩
  |some p=>
   rw[hp]at ex ey;dsimp only at ex ey;by_cases c1:p.length<0
   ·rw[if_pos c1]at ex ey;exact two p rc ex ey
   ·rw[if_neg c1]at ex ey;by_cases c2:rc<p.length
    ·rw[if_pos c2]at ex ey;rw[ey,ex];exact⟨.inl rfl,fun _=>rfl⟩
    ·rw[if_neg c2]at ex ey;exact two p _ ex ey
def atv (bv:IU) {n t:Int} (h:n<=t) (R:jQ) (fs:List PS) (rc sc:Int) (a:fQ) (F:List dO):
  let x:=FI (bv.K n) R fs rc sc a F
  let y:=FI (bv.K t) R fs rc sc a F
  let u:=gU (bv.K t) fs sc F
  (u.1.2≠0->y.1.2.2=u.1.2)/\(u.1.2=0->Lat x.1.2.2 y.1.2.2/\(x.1.2.2=y.1.2.2->x.1.1=y.1.1/\x.1.2.1=y.1.2.1)):=by
 intro x y u;have hx:x=FI (bv.K n) R fs rc sc a F:=rfl;have hy:y=FI (bv.K t) R fs rc sc a F:=rfl
 clear_value x y
 unfold FI at hx hy;by_cases k0:a.kind=0
 ·rw[if_pos k0]at hx hy;subst hx hy;obtain⟨h1,h2,h3⟩:=asB bv h fs sc F;exact⟨fun _=>rfl,fun _=>⟨h2,fun e=>⟨h3 e,rfl⟩⟩⟩
 ·rw[if_neg k0]at hx hy;by_cases k1:a.kind=1
  ·rw[if_pos k1]at hx hy;subst hx hy;obtain⟨h1,h2⟩:=asU bv h fs rc sc Fv R.tg R.ks F;exact⟨h1,fun e=>⟨(h2 e).1,fun e'=>⟨rfl,(h2 e).2 e'⟩⟩⟩
  ·rw[if_neg k1]at hx hy;subst hx hy;obtain⟨h1,h2⟩:=asU bv h fs rc sc a.name a.auth a.keys F;exact⟨h1,fun e=>⟨(h2 e).1,fun e'=>⟨rfl,(h2 e).2 e'⟩⟩⟩
def asJ (H:aax C C1) (HR:aqw C) (hO:Has C asn asa) (c:ul) (a:fQ) (by':Nat) (hby:by'<4294967296) (hnow: -9223372036854775808<=c.now) (O:St) (hσ:Ok O):
  ai C asn [.agg c.cs,.agg a.cs,.int .u32 by'] O=some (.bool true,O):=by
 have cb:AO.below 0 (.cells c.cs FZ)=true:=c.nvs.cl;have ab:AO.below 0 (.cells a.cs FZ)=true:=a.nvs.cl;have ok1:Ok (O++[.cells c.cs FZ,.cells a.cs FZ]):=hσ.plus (by simp only[a88,aw1,cb,ab,av9])
 have ty:=fun b=>dE hσ (vs:=[.bool b]) rfl;have lg:=asE H.lng c [a] _ ok1;simp only[a07,a09,ay1,aC2,au6,av2]at lg;have aw:=H.awake _ ok1;have c10:c.cs.length=10:=rfl;have ct:c.cs.take 10=c.cs:=rfl;have ac:a.cs=[.int .u8 a.kind,.str a.name,.int .i64 a.auth.th,.sl a.auth.ids.length (a.auth.ids.flatMap sC),.sl a.keys.length (a.keys.flatMap pC)]:=rfl;have cc:c.cs=[.str c.nm,.str c.data,.sl c.fs.length (c.fs.flatMap pC),.bool c.h,.sl c.l.length (c.l.flatMap fV.cs),.int .i64 c.now,.int .i64 c.b0,.int .i64 c.b1,.int .i64 c.rc,.int .i64 c.sc]:=rfl;have hn:hand false [.agg c.cs,.agg a.cs,.int .u32 by'] O=some ([.agg c.cs,.agg a.cs,.int .u32 by'],O):=NVs.hand (.cons (.agg c.nvs) (.cons (.agg a.nvs) (.cons (.int _ _) .nil))) O;rw[hO.go hn];cases cl:Uw c [[a]]
 case true=>
  rw[cl]at lg;rw[ac]at lg aw⊢;simp only[asa,lg,aw,ty,c10,ct,aQ,dM,AV.cells,EVX,seval]
 rw[cl]at lg;by_cases cn:1152921504606846976<c.now
 ·rw[ac]at lg aw⊢;rw[cc]at lg aw⊢;simp only[asa,lg,aw,cn,ty,aQ,dM,AV.cells,EVX,seval]
 have w1:IntKind.i64.wrap (by':Int)=(by':Int):=wrE (by omega)
 have w2:IntKind.i64.wrap (c.now+(by':Int))=c.now+(by':Int):=wrE (by omega)
 obtain⟨d,hd⟩:∃d:ul,d={c with now:=c.now+by'}:=⟨_,rfl⟩;have dc:d.cs=[.str c.nm,.str c.data,.sl c.fs.length (c.fs.flatMap pC),.bool c.h,.sl c.l.length (c.l.flatMap fV.cs),.int .i64 (c.now+by'),.int .i64 c.b0,.int .i64 c.b1,.int .i64 c.rc,.int .i64 c.sc]:=by rw[hd];rfl
 have db:AO.below 0 (.cells d.cs FZ)=true:=d.nvs.cl;have ok2:Ok (O++[.cells c.cs FZ,.cells a.cs FZ,.cells d.cs FZ]):=hσ.plus (by simp only[a88,aw1,cb,ab,db,av9])
 obtain⟨R,e,bv,rok,hK,mk⟩:=apv H cl;obtain⟨oka,_⟩:VL a/\True:=⟨((Xq cl).2.2.2.2.2 [a] (by simp)).2 a (by simp),trivial⟩
 rcases mk c.now _ ok2 with⟨m1,m2⟩|⟨m1,p,T,m2,nr⟩
 ·rcases mk (c.now+by') _ ok2 with⟨n1,n2⟩|⟨n1,q,U,n2,ns⟩
  case inr=>exact absurd n1 m1
  have m1':(wL c.nm c.fs c.rc c.sc e !=0)=true:=by simpa using m1
  rw[<-hd]at n2;change ai C dG [.agg c.cs] _=_ at m2;rw[ac,dc]at m2 n2;rw[ac]at lg aw⊢;rw[cc]at lg aw m2 n2⊢;simp only[asa,lg,aw,cn,w1,w2,m1',m2,n2,ty,aQ,dM,BJ,AV.cells,AV.flat,splice,bne_self_eq_false,EVX,seval]
 rcases mk (c.now+by') T nr.ok with⟨n1,n2⟩|⟨n1,q,U,n2,ns⟩
 ·exact absurd m1 n1
 have pf:=nr.of;have qf:=ns.of;obtain⟨_,_,p3,p4,p5,p6,p7,p8⟩:=pf;obtain⟨_,_,q3,q4,q5,q6,q7,q8⟩:=qf;change p.now=c.now at p4;change p.rc=c.rc at p5;change p.sc=c.sc at p6;change p.fs=c.fs at p8;change q.rc=c.rc at q5;change q.sc=c.sc at q6;change q.fs=c.fs at q8;change q.now=c.now+by' at q4;have lT:=nr.len;have lU:=ns.len;have own:=nr.own;simp only[a04,a07,a09]at lT own;have pU:p.at' U:=(nr.at').moved fun i x h e=>by
  rw[alP ns.pre (Rp.lt nr.at' h)];exact e
 have dj:aiE p q:=fun i h h'=>by
  have a1:=Rp.lt nr.at' h;have a2:=ns.own i h';omega
 have le:c.now<=c.now+(by':Int):=by omega
 have x1:=asK HR ns.ok pU;have x2:=asK HR ns.ok ns.at';rw[p3,p4]at x1;rw[q3,q4]at x2;have y1:=atr HR.toRtHas ns.ok pU (by rw[p3];exact rok)
 have y2:=atr HR.toRtHas ns.ok ns.at' (by rw[q3];exact rok)
 rw[p3]at y1;rw[q3]at y2;have y3:=atp HR R rok U ns.ok;obtain⟨S1,o1,s1,t1,g1⟩:=aaB H.cat nr.good ns.ok pU (by rw[nr.F];decide)
 rw[p8,p6,nr.F]at s1 t1 g1;obtain⟨h1,h2,h3⟩:=asB bv le c.fs c.sc [];have b1:AO.below 0 (.cells (gU (bv.K c.now) c.fs c.sc []).1.1.cs FZ)=true:=(gU (bv.K c.now) c.fs c.sc []).1.1.nvs.cl;have okS1:Ok (S1++[.cells (gU (bv.K c.now) c.fs c.sc []).1.1.cs FZ]):=t1.ok.plus (by rw[a88,b1];rfl)
 obtain⟨qS1,dj1⟩:=t1.other ns.at' dj;obtain⟨S2,o2,s2,t2,g2⟩:=aaB H.cat ns.good okS1 (qS1.app _) (by rw[ns.F];decide)
 rw[q8,q6,ns.F]at s2 t2 g2;have b2:AO.below 0 (.cells (gU (bv.K (c.now+by')) c.fs c.sc []).1.1.cs FZ)=true:=(gU (bv.K (c.now+by')) c.fs c.sc []).1.1.nvs.cl;have okS2:Ok (S2++[.cells (gU (bv.K (c.now+by')) c.fs c.sc []).1.1.cs FZ]):=t2.ok.plus (by rw[a88,b2];rfl)
 obtain⟨pS2,dj2⟩:=t2.other ((t1.at').app _) dj1.symm;rw[h1]at t2 g2 dj2;have sok:=(J5 nr.good.case.chk nr.good.case.data nr.good.fet p.sc);rw[p8,p6,nr.F]at sok;have F1l:(gU (bv.K c.now) c.fs c.sc []).2.length<=1:=sok.2.2;obtain⟨S3,o3,s3,t3,g3⟩:=amg H.cat H.asked g1 okS2 (pS2.app _) (by show(gU (bv.K c.now) c.fs c.sc []).2.length+1<_;omega) a oka
 change ai C ik [.ref p.r 0,.agg a.cs] _=_ at s3;have f3:(p.to (gU (bv.K c.now) c.fs c.sc []).2 o1).ask (bv.K c.now) a=FI (bv.K c.now) R c.fs c.rc c.sc a (gU (bv.K c.now) c.fs c.sc []).2:=by
  show FI (bv.K c.now) p.R p.fs p.rc p.sc a _=_;rw[p3,p8,p5,p6];rfl
 rw[f3]at s3 t3 g3;have al:=atv bv le R c.fs c.rc c.sc a (gU (bv.K c.now) c.fs c.sc []).2;have u1:gU (bv.K (c.now+by')) c.fs c.sc (gU (bv.K c.now) c.fs c.sc []).2=((gU (bv.K (c.now+by')) c.fs c.sc []).1,(gU (bv.K c.now) c.fs c.sc []).2):=by
  have:=asu (bv.K (c.now+by')) c.fs c.sc [] [];rw[au6,h1]at this;exact this
 dsimp only at al;rw[u1]at al;have ok3:(FI (bv.K c.now) p.R p.fs p.rc p.sc a (gU (bv.K c.now) c.fs c.sc []).2).1.1.ok/\(FI (bv.K c.now) p.R p.fs p.rc p.sc a (gU (bv.K c.now) c.fs c.sc []).2).1.2.1.ok:=⟨(afR g1.case g1.fet p.rc p.sc a oka).1,(afR g1.case g1.fet p.rc p.sc a oka).2.1⟩;rw[p3,p8,p5,p6]at ok3;have f4:(q.to (gU (bv.K c.now) c.fs c.sc []).2 o2).ask (bv.K (c.now+by')) a=FI (bv.K (c.now+by')) R c.fs c.rc c.sc a (gU (bv.K c.now) c.fs c.sc []).2:=by
  show FI (bv.K (c.now+by')) q.R q.fs q.rc q.sc a _=_;rw[q3,q8,q5,q6];rfl
 generalize hX:FI (bv.K c.now) R c.fs c.rc c.sc a (gU (bv.K c.now) c.fs c.sc []).2=X at*;have b3:AO.below 0 (.cells X.1.1.cs FZ)=true:=X.1.1.nvs.cl;have b3':=PE X.1.2.1;have okS3:Ok (S3++[.cells X.1.1.cs FZ,.cells X.1.2.1.cs FZ]):=t3.ok.plus (by simp only[a88,aw1,b3,b3',av9])
 obtain⟨qS3,dj3⟩:=t3.other ((t2.at').app _) dj2.symm;obtain⟨S4,o4,s4,t4,g4⟩:=amg H.cat H.asked g2 okS3 (qS3.app _) (by show(gU (bv.K c.now) c.fs c.sc []).2.length+1<_;omega) a oka
 change ai C ik [.ref q.r 0,.agg a.cs] _=_ at s4;rw[f4]at s4 t4 g4;generalize hY:FI (bv.K (c.now+by')) R c.fs c.rc c.sc a (gU (bv.K c.now) c.fs c.sc []).2=Yq at*;have b4:AO.below 0 (.cells Yq.1.1.cs FZ)=true:=Yq.1.1.nvs.cl;have b4':=PE Yq.1.2.1;have okS4:Ok (S4++[.cells Yq.1.1.cs FZ,.cells Yq.1.2.1.cs FZ]):=t4.ok.plus (by simp only[a88,aw1,b4,b4',av9])
 generalize(gU (bv.K c.now) c.fs c.sc []).2=F1 at*;have l1:=t1.len;have l2:=t2.len;have l3:=t3.len;have l4:=t4.len;simp only[a04,a07,a09]at l2 l3 l4;have oq:∀i,q.has i->O.length+3<=i:=fun i h=>by have:=ns.own i h;omega
 have ow1:=t1.frm (n:=O.length+3) (by omega) own
 have ow2:=t2.frm (n:=O.length+3) (by simp;omega) oq
 have ow3:=t3.frm (n:=O.length+3) (by simp;omega) ow1
 have e0:T.take (O.length+3)=O++[AO.cells c.cs FZ,.cells a.cs FZ,.cells d.cs FZ]:=by
  have:=nr.pre;rw[a04]at this;exact this
 have k0:U.take (O.length+3)=T.take (O.length+3):=by
  have:=congrArg (List.take (O.length+3)) ns.pre;rw[aD1,az7 (by omega)]at this
  exact this
 have k1:S1.take (O.length+3)=U.take (O.length+3):=t1.pre (by omega) own
 have k2:S2.take (O.length+3)=S1.take (O.length+3):=by
  rw[t2.pre (n:=O.length+3) (by simp;omega) oq,av7 (by omega)]
 have k3:S3.take (O.length+3)=S2.take (O.length+3):=by
  rw[t3.pre (n:=O.length+3) (by simp;omega) ow1,av7 (by omega)]
 have k4:S4.take (O.length+3)=S3.take (O.length+3):=by
  rw[t4.pre (n:=O.length+3) (by simp;omega) ow2,av7 (by omega)]
 have z2:S2.take (O.length+3)=_:=k2.trans (k1.trans (k0.trans e0));have z3:S3.take (O.length+3)=_:=k3.trans z2;have z4:S4.take (O.length+3)=_:=k4.trans z3;have xd:T[O.length+2]?=some (.cells d.cs FZ):=by rw[alP e0 (by simp),dM];rfl
 have xa1:S2[O.length+1]?=some (.cells a.cs FZ):=by rw[alP z2 (by simp),dM];rfl
 have xa2:S3[O.length+1]?=some (.cells a.cs FZ):=by rw[alP z3 (by simp),dM];rfl
 have pre4:(S4++[AO.cells Yq.1.1.cs FZ,.cells Yq.1.2.1.cs FZ]).take O.length=O:=by
  rw[av7 (by omega)]
  have:=congrArg (List.take O.length) z4;rw[aD1,az7 (by omega),List.take_left']at this
  ·exact this
  ·rfl
 have tyE:=pG (vs:=[.bool true]) hσ rfl pre4;have v3:S4[S3.length]?=some (.cells X.1.1.cs FZ):=t4.old _ _ (fun h=>by have:=Rp.lt qS3 h;omega) (by rw[aQ];rfl)
 have v4:S4[S3.length+1]?=some (.cells X.1.2.1.cs FZ):=t4.old _ _ (fun h=>by have:=Rp.lt qS3 h;omega) (by rw[dM];rfl)
 have xa1L:=fun L=>aA xa1 L;have xa2L:=fun L=>aA xa2 L;have v3L:=fun L=>aA v3 L;have v4L:=fun L=>aA v4 L;have c23:=fun e:X.1.1=Yq.1.1=>show ai C Oj [.agg X.1.1.cs,.agg Yq.1.1.cs] (S4++[AO.cells Yq.1.1.cs FZ,.cells Yq.1.2.1.cs FZ])=some (.bool true,S4++[AO.cells Yq.1.1.cs FZ,.cells Yq.1.2.1.cs FZ])from by rw[<-e];exact asQ H.s23 X.1.1 ok3.1 _ (by rw[e];exact okS4)
 have c24:=fun e:X.1.2.1=Yq.1.2.1=>show ai C Ol [.agg X.1.2.1.cs,.agg Yq.1.2.1.cs] (S4++[AO.cells Yq.1.1.cs FZ,.cells Yq.1.2.1.cs FZ])=some (.bool true,S4++[AO.cells Yq.1.1.cs FZ,.cells Yq.1.2.1.cs FZ])from by rw[<-e];exact asA H.s24 X.1.2.1 ok3.2 _ (by rw[e];exact okS4)
 have spT:∀tv:kG,splice [.int .i64 0,.int .i64 0,.nils,.nils,.nils,.int .i64 0,.nils,.int .i64 0,.str []] 0 tv.cs=tv.cs:=fun _=>rfl;have spS:∀tv:SnV,splice [.int .i64 0,.int .i64 0,.nils] 0 tv.cs=tv.cs:=fun _=>rfl;have m1':((0:Int) !=0)=false:=rfl;rw[<-hd]at n2;change ai C dG [.agg c.cs] _=_ at m2;clear k0 k1 k2 k3 k4 z2 z3 z4 e0 ow1 ow2 ow3 oq own t1 t2 t3 t4 g1 g2 g3 g4 dj1 dj2 dj3 nr ns pU qS1 pS2 qS3 sok hX hY f3 f4 u1 hd mk hK pre4 ok1 ok2 okS1 okS2 okS3 okS4 ok3 cb ab db b1 b2 b3 b3' b4 b4' dj;have le2:p.R.exp<=c.now->True:=fun _=>trivial;clear le2;rw[dc,ac]at m2;rw[cc]at m2;rw[dc]at n2 xd;rw[ac]at lg aw xa1 xa2 xa1L xa2L s3 s4⊢;rw[cc]at lg aw⊢;generalize hs:(gU (bv.K c.now) c.fs c.sc []).1=s at*;generalize hu:(gU (bv.K (c.now+by')) c.fs c.sc []).1=u at*;obtain⟨⟨xs,xt,xc⟩,XF⟩:=X;obtain⟨⟨ys,yt,yc⟩,YF⟩:=Yq;obtain⟨s,scs⟩:=s;obtain⟨u,ucs⟩:=u;dsimp only at*;have rx:decide (R.exp<=c.now)=true->decide (R.exp<=c.now+by')=true:=fun h=>decide_eq_true (by have:=of_decide_eq_true h;omega)
 have key:∀bb,decide (R.exp<=c.now)=bb->decide (R.exp<=c.now+by')=true\/bb=false:=fun bb h=>by
  cases bb
  ·exact .inr rfl
  ·exact .inl (rx h)
 generalize hb1:decide (R.exp<=c.now)=e1 at*;generalize hb2:decide (R.exp<=c.now+by')=e2 at*;have key:=key _ rfl;clear rx hb1 hb2;by_cases u0:ucs=0
 ·obtain⟨la,lb⟩:=al.2 u0;have s0:=h2.zero u0;subst u0 s0;by_cases exy:xc=yc
  ·obtain⟨ea,eb⟩:=lb exy;have c23':=c23 ea;have c24':=c24 eb;subst exy;rcases key with rfl|rfl
   ·cases e1
    ·simp only[asa,lg,aw,cn,w1,w2,m1',m2,n2,x1,y1,y2,y3,s1,s2,s3,s4,xd,xa1L,xa2L,v3L,v4L,c23',c24',aw4,tyE,SnV.len,SnV.tk,SnV.fl,kG.len,kG.tk,kG.fl,aQ,jm,dM,BJ,AV.cells,AV.flat,splice,beq_self_eq_true,EVX,seval]
    ·simp only[asa,lg,aw,cn,w1,w2,m1',m2,n2,x1,x2,y1,y2,y3,s1,s2,s3,s4,xd,xa1L,xa2L,v3L,v4L,c23',c24',aw4,tyE,SnV.len,SnV.tk,SnV.fl,kG.len,kG.tk,kG.fl,aQ,jm,dM,BJ,AV.cells,AV.flat,splice,beq_self_eq_true,EVX,seval]
   ·simp only[asa,lg,aw,cn,w1,w2,m1',m2,n2,x1,y1,y2,y3,s1,s2,s3,s4,xd,xa1L,xa2L,v3L,v4L,c23',c24',aw4,tyE,SnV.len,SnV.tk,SnV.fl,kG.len,kG.tk,kG.fl,aQ,jm,dM,BJ,AV.cells,AV.flat,splice,beq_self_eq_true,EVX,seval]
  ·have exy':(xc==yc)=false:=by simpa using exy
   rcases la with h|⟨rfl,rfl⟩
   ·exact absurd h.symm exy
   rcases key with rfl|rfl
   ·cases e1
    ·simp only[asa,lg,aw,cn,w1,w2,m1',m2,n2,x1,y1,y2,y3,s1,s2,s3,s4,xd,xa1L,xa2L,exy',aw4,tyE,SnV.len,SnV.fl,kG.len,kG.fl,aQ,jm,dM,BJ,AV.cells,AV.flat,splice,beq_self_eq_true,EVX,seval]
    ·simp only[asa,lg,aw,cn,w1,w2,m1',m2,n2,x1,x2,y1,y2,y3,s1,s2,s3,s4,xd,xa1L,xa2L,exy',aw4,tyE,SnV.len,SnV.fl,kG.len,kG.fl,aQ,jm,dM,BJ,AV.cells,AV.flat,splice,beq_self_eq_true,EVX,seval]
   ·simp only[asa,lg,aw,cn,w1,w2,m1',m2,n2,x1,y1,y2,y3,s1,s2,s3,s4,xd,xa1L,xa2L,exy',aw4,tyE,SnV.len,SnV.fl,kG.len,kG.fl,aQ,jm,dM,BJ,AV.cells,AV.flat,splice,beq_self_eq_true,EVX,seval]
 ·have u0':(ucs !=0)=true:=by simpa using u0
  have e5:=al.1 u0;subst e5;rcases h2 with h|⟨rfl,rfl⟩
  ·subst h;rcases key with rfl|rfl
   ·cases e1
    ·simp only[asa,lg,aw,cn,w1,w2,m1',m2,n2,x1,y1,y2,y3,s1,s2,s3,s4,xd,xa1L,xa2L,u0',aw4,tyE,SnV.len,SnV.fl,kG.len,kG.fl,aQ,jm,dM,BJ,AV.cells,AV.flat,splice,beq_self_eq_true,bne_self_eq_false,EVX,seval]
    ·simp only[asa,lg,aw,cn,w1,w2,m1',m2,n2,x1,x2,y1,y2,y3,s1,s2,s3,s4,xd,xa1L,xa2L,u0',aw4,tyE,SnV.len,SnV.fl,kG.len,kG.fl,aQ,jm,dM,BJ,AV.cells,AV.flat,splice,beq_self_eq_true,bne_self_eq_false,EVX,seval]
   ·simp only[asa,lg,aw,cn,w1,w2,m1',m2,n2,x1,y1,y2,y3,s1,s2,s3,s4,xd,xa1L,xa2L,u0',aw4,tyE,SnV.len,SnV.fl,kG.len,kG.fl,aQ,jm,dM,BJ,AV.cells,AV.flat,splice,beq_self_eq_true,bne_self_eq_false,EVX,seval]
  ·rcases key with rfl|rfl
   ·cases e1
    ·simp only[asa,lg,aw,cn,w1,w2,m1',m2,n2,x1,y1,y2,y3,s1,s2,s3,s4,xd,xa1L,xa2L,u0',aw4,tyE,SnV.len,SnV.fl,kG.len,kG.fl,aQ,jm,dM,BJ,AV.cells,AV.flat,splice,beq_self_eq_true,bne_self_eq_false,EVX,seval]
    ·simp only[asa,lg,aw,cn,w1,w2,m1',m2,n2,x1,x2,y1,y2,y3,s1,s2,s3,s4,xd,xa1L,xa2L,u0',aw4,tyE,SnV.len,SnV.fl,kG.len,kG.fl,aQ,jm,dM,BJ,AV.cells,AV.flat,splice,beq_self_eq_true,bne_self_eq_false,EVX,seval]
   ·simp only[asa,lg,aw,cn,w1,w2,m1',m2,n2,x1,y1,y2,y3,s1,s2,s3,s4,xd,xa1L,xa2L,u0',aw4,tyE,SnV.len,SnV.fl,kG.len,kG.fl,aQ,jm,dM,BJ,AV.cells,AV.flat,splice,beq_self_eq_true,bne_self_eq_false,EVX,seval]
end Go.Ev
namespace Go.Ev
def BZ:KF:=⟨2,11,[(.tmp 4),(.tmp 5)],
 (.seq (.ops [o 4 (.mv (.c (.str []))),
 o 5 (.mv (.c (.bool false)))])
 (.seq (.ops [m 6 0,
 m 7 1,
 o 8 (.callF bz [(.t 6),(.t 7)]),
 o 9 (.extract (.t 8) 0),
 o 10 (.extract (.t 8) 1),
 m 4 9,
 m 5 10])
 (.ret [4,5])))⟩
set_option maxRecDepth 100000
variable{C C1:Ctx}
structure Kv(C:Ctx):Prop where
 has:Has C cZ bK
 cut:Has C bz cu
 scut:Has C Cf BZ
 allowed:Has C lC kW
 role:Has C xU uo
 roleOf:Has C Na MO
def ak8:iJ=[46,106,115,111,110]:=rfl
def ajj(H:Kv C)(r:LU)(hr:r.length<=64)(O:St):ai C Cf [.str (r++[46,106,115,111,110]),.str [46,106,115,111,110]] O=some (.tup [.str r,.bool true],O):=by
 have l1:(r++[46,106,115,111,110]).length=r.length+5:=by simp
 have h1:(5:Int)<=((r.length+5:Nat):Int):=by omega
 have h2:IntKind.i64.wrap (((r.length+5:Nat):Int)-5)=(r.length:Int):=by
  rw[show((r.length+5:Nat):Int)-5=(r.length:Int)from by omega]
  exact wrE (by omega)
 have h3:(0:Int)<=(r.length:Int):=by omega
 have h4:r.length<=r.length+5/\r.length+5<=r.length+5:=by omega
 have d1:(r++[46,106,115,111,110]).drop r.length=([46,106,115,111,110]:LU):=by simp
 have d2:(r++[46,106,115,111,110]).take r.length=r:=by simp
 have d3:(r++([46,106,115,111,110]:LU)).take (r.length+5)=r++[46,106,115,111,110]:=by rw[<-l1];exact aD6
 have q1:ai C cZ [.str (r++[46,106,115,111,110]),.str [46,106,115,111,110]] O=some (.bool true,O):=by
  rw[H.has.go (NVs.hand (.cons (.str _) (.cons (.str _) .nil)) _)];simp only[bK,l1,h1,h2,h3,h4,d1,d3,aaO,a07,a09,av2,au8,Option.map_none,a81,and_self,aS,EVX,seval]
 have q2:ai C bz [.str (r++[46,106,115,111,110]),.str [46,106,115,111,110]] O=some (.tup [.str r,.bool true],O):=by
  rw[H.cut.go (NVs.hand (.cons (.str _) (.cons (.str _) .nil)) _)];simp only[cu,q1,l1,h2,h3,h4,d2,au0,a98,a07,a09,av2,au8,Option.map_none,a81,and_self,aS,EVX,seval]
 rw[H.scut.go (NVs.hand (.cons (.str _) (.cons (.str _) .nil)) _)];simp only[BZ,q2,aS,EVX,seval]
def aih(H:Kv C)(r:LU)(hr:role r=true)(O:St):ai C Na [.str (r++iJ)] O=some (.tup [.str r,.int .i64 0],O):=by
 have l1:r.length<=64:=by
  unfold role at hr;simp only[a01,decide_eq_true_eq]at hr;exact hr.1.1.2
 have q1:=ajj H r l1 O;have q2:=LC H.role H.allowed r O;rw[hr]at q2;rw[ak8,H.roleOf.go (NVs.hand (.cons (.str _) .nil) _)];simp only[MO,q1,q2,aS,EVX,seval]
def FY(r:LU)(l:List fQ):Prop:=∃a∈l,(a.kind=1/\r=Fv)\/(a.kind≠0/\a.kind≠1/\a.name=r)
structure YO(rc:Int)(s:SnV×Int)(l:List fQ)(f:dO):Prop where
 zero:s.2=0
 ex:∃r p,role r=true/\f.name=r++iJ/\sD s.1 r=some p/\f.cap=(if p.length<0 then rc else p.length)/\FY r l
 le:f.cap<=rc
 cap:0<=f.cap
 size: -2<=f.size/\f.size<=f.cap
def ahC(fs:List PS)(file:LU)(cap:Int)(h:0<=cap): -2<=(xB fs file cap).size/\(xB fs file cap).size<=(xB fs file cap).cap:=by
 rw[Ea];unfold xB ab3;split
 ·split
  ·dsimp only;omega
  ·dsimp only;omega
 ·dsimp only;omega
theorem FY.more{r:LU}{l:List fQ}(h:FY r l)(a:fQ):FY r (l++[a]):=by
 obtain⟨b,hb,h⟩:=h;exact⟨b,by simp[hb],h⟩
theorem YO.more{rc s l f}(h:YO rc s l f)(a:fQ):YO rc s (l++[a]) f:=by
 obtain⟨r,p,h1,h2,h3,h4,h5⟩:=h.ex;exact⟨h.zero,⟨r,p,h1,h2,h3,h4,h5.more a⟩,h.le,h.cap,h.size⟩
def IW(K:Dt)(fs:List PS)(rc sc:Int)(l:List fQ)(F:List dO):Prop:=
 ∃rest,F=xB fs (Bz++iJ) sc::rest/\∀f∈rest,YO rc (K.sn (xB fs (Bz++iJ) sc).data (xB fs (Bz++iJ) sc).size) l f
def aad (K:Dt) (fs:List PS) (rc sc:Int) (l:List fQ) (a:fQ) (F:List dO) (h:F=[]\/IW K fs rc sc l F):
  IW K fs rc sc (l++[a]) (gU K fs sc F).2/\(gU K fs sc F).1=K.sn (xB fs (Bz++iJ) sc).data (xB fs (Bz++iJ) sc).size:=by
 unfold gU wH;dsimp only;rcases h with rfl|⟨rest,rfl,h⟩
 ·exact⟨⟨[],rfl,fun f hf=>by cases hf⟩,rfl⟩
 ·rw[aC5 (by simpa using Dn fs (Bz++iJ) sc)]
  exact⟨⟨rest,rfl,fun f hf=>(h f hf).more a⟩,rfl⟩
def ahG (K:Dt) (fs:List PS) (rc sc:Int) (l:List fQ) (F:List dO) (h:IW K fs rc sc l F) (r:LU) (most:Int)
  (hf:YO rc (K.sn (xB fs (Bz++iJ) sc).data (xB fs (Bz++iJ) sc).size) l (xB fs (r++iJ) most)):IW K fs rc sc l (wH fs F (r++iJ) most).2:=by
 obtain⟨rest,rfl,h⟩:=h;unfold wH;split
 ·exact⟨rest,rfl,h⟩
 ·refine⟨rest++[xB fs (r++iJ) most],rfl,fun f hf'=>?_⟩;rcases az8.mp hf' with hf'|hf'
  ·exact h f hf'
  ·rw[aA2.mp hf'];exact hf
def aa6 (K:Dt) (fs:List PS) (rc sc:Int) (hrc:0<=rc) (l:List fQ) (a:fQ) (F:List dO) (h:F=[]\/IW K fs rc sc l F) (r:LU) (au:eu) (ks:List PS) (ha:FY r (l++[a])):
  IW K fs rc sc (l++[a]) (lH K fs rc sc r au ks F).2:=by
 obtain⟨h1,h2⟩:=aad K fs rc sc l a F h;unfold lH;dsimp only;rw[h2];split
 ·next hz=>
  split
  ·exact h1
  ·next p hp=>
   obtain⟨pr,_,_⟩:=Hy hp;have new:∀most,0<=most->most<=rc->most=(if p.length<0 then rc else p.length)->IW K fs rc sc (l++[a]) (Bo K fs r au ks p most (gU K fs sc F).2).2:=fun most m0 m1 m2=>
    ahG K fs rc sc _ _ h1 r most ⟨hz,⟨r,p,pr,Dn _ _ _,hp,by rw[Ea,m2],ha⟩,by rw[Ea];exact m1,by rw[Ea];exact m0,ahC _ _ _ m0⟩
   split
   ·next c=>exact new rc hrc (aC4 _) (by rw[if_pos c])
   ·next c=>
    split
    ·exact h1
    ·next c2=>exact new p.length (by omega) (by omega) (by rw[if_neg c])
 ·exact h1
def ach(K:Dt)(R:jQ)(fs:List PS)(rc sc:Int)(hrc:0<=rc)(l:List fQ)(a:fQ)(F:List dO)(h:F=[]\/IW K fs rc sc l F):IW K fs rc sc (l++[a]) (FI K R fs rc sc a F).2:=by
 unfold FI;split
 ·exact(aad K fs rc sc l a F h).1
 ·next k0=>
  split
  ·next k1=>exact aa6 K fs rc sc hrc l a F h _ _ _ ⟨a,by simp,.inl ⟨k1,rfl⟩⟩
  ·next k1=>exact aa6 K fs rc sc hrc l a F h _ _ _ ⟨a,by simp,.inr ⟨k0,k1,rfl⟩⟩
def YW(K:Dt)(R:jQ)(fs:List PS)(rc sc:Int)(hrc:0<=rc):∀(m l:List fQ) (F:List dO),(F=[]\/IW K fs rc sc l F)->m≠[]->IW K fs rc sc (l++m) (ry K R fs rc sc m F)
 |[],_,_,_,h=>absurd rfl h
 |[a],l,F,h,_=>ach K R fs rc sc hrc l a F h
 |a::b::m,l,F,h,_=>by
  have:=YW K R fs rc sc hrc (b::m) (l++[a]) _ (.inr (ach K R fs rc sc hrc l a F h)) (by simp)
  rw[au2]at this;exact this
set_option maxHeartbeats 1000000
def ahR (H:GH C C1) (hA:Has C ik gZ) {K:Dt} (p:Rp) (l:List fQ) (hl:l.length<=12) (hk:∀a∈l,VL a) (v2:AV):∀(n i:Nat) (oo:Option Nat) (S:St),i+n=l.length->Ok S->
  (p.to (ry K p.R p.fs p.rc p.sc (l.take i) []) oo).at' S->(p.to (ry K p.R p.fs p.rc p.sc (l.take i) []) oo).good C1 K->(ry K p.R p.fs p.rc p.sc (l.take i) []).length<=2*i->
  ∃(oo':Option Nat) (S':St),aH C (ai C) 223 [1,2,5,7] dD [(1,MF l),(2,v2),(5,.ref p.r 0),(7,.int .i64 i)] S=some (.exit 0,[(1,MF l),(2,v2),(5,.ref p.r 0)],S')/\
   Stp S S' (p.to (ry K p.R p.fs p.rc p.sc (l.take i) []) oo) (p.to (ry K p.R p.fs p.rc p.sc l []) oo')/\(p.to (ry K p.R p.fs p.rc p.sc l []) oo').good C1 K/\(ry K p.R p.fs p.rc p.sc l []).length<=2*l.length:=by
 intro n
 induction n with
 |zero=>
  intro i oo S hi hS h1 h2 h3;have e:l.take i=l:=a08 (by omega)
  rw[e]at h1 h2 h3;refine⟨oo,S,?_,by rw[e];exact Stp.refl hS h1,h2,by omega⟩
  rw[aG (he:=rfl)];have h:¬((i:Int)<(l.length:Int)):=by omega
  unfold MF;simp only[dD,h,bU,EVX,seval]
 |succ n ih=>
  intro i oo S hi hS h1 h2 h3;have h:((i:Int)<(l.length:Int)):=by omega
  have hlt:i<l.length:=by omega
  have hb:l[i]?=some l[i]:=a02 hlt;have hm:VL l[i]:=hk _ (az1 hlt);have hw:=wrS i (by omega)
  have hp0:(0:Int)<=i:=by omega
  have fl:=dV fQ.len l;have fd:=lM fQ.len hb;have tk:l.take (i+1)=l.take i++[l[i]]:=ay7 hlt;generalize hae:l[i]=a at*;have eF:ry K p.R p.fs p.rc p.sc (l.take (i+1)) []=(FI K p.R p.fs p.rc p.sc a (ry K p.R p.fs p.rc p.sc (l.take i) [])).2:=by rw[tk,YV];rfl
  obtain⟨S1,o1,q1,q2,q3⟩:=amg H hA h2 hS h1 (by show(ry K p.R p.fs p.rc p.sc (l.take i) []).length+1<_;omega) a hm
  have ok2:=(afR h2.case h2.fet p.rc p.sc a hm).2.2.2;change Stp S S1 _ (p.to (FI K p.R p.fs p.rc p.sc a (ry K p.R p.fs p.rc p.sc (l.take i) [])).2 o1)at q2;change(p.to (FI K p.R p.fs p.rc p.sc a (ry K p.R p.fs p.rc p.sc (l.take i) [])).2 o1).good C1 K at q3;change ai C ik [.ref p.r 0,.agg a.cs] S=_ at q1;change(FI K p.R p.fs p.rc p.sc a (ry K p.R p.fs p.rc p.sc (l.take i) [])).2.length<=(ry K p.R p.fs p.rc p.sc (l.take i) []).length+2 at ok2;rw[<-eF]at q2 q3 ok2;obtain⟨oo',S',r1,r2,r3,r4⟩:=ih (i+1) o1 S1 (by omega) q2.ok q2.at' q3 (by omega)
  refine⟨oo',S',?_,q2.trans r2,r3,r4⟩;have ac:a.cs=[.int .u8 a.kind,.str a.name,.int .i64 a.auth.th,.sl a.auth.ids.length (a.auth.ids.flatMap sC),.sl a.keys.length (a.keys.flatMap pC)]:=rfl;rw[ac]at q1 fd;rw[<-r1,aG (he:=rfl)];generalize hkk:aH C (ai C) 223 [1,2,5,7] dD=kk;unfold MF;simp only[dD,h,hlt,hp0,hw,fl,fd,q1,bU,EVX,seval]
def afD(r:LU)(a:fQ):Bool:=(a.kind==1&&decide (r=Fv))||(decide (1<a.kind)&&decide (a.name=r))
def aqj{r:LU}{l:List fQ}(hk:∀a∈l,0<=a.kind)(h:FY r l):l.any (afD r)=true:=by
 obtain⟨a,ha,h⟩:=h;refine aC1.mpr ⟨a,ha,?_⟩;have:=hk a ha;unfold afD;rcases h with⟨h1,h2⟩|⟨h1,h2,h3⟩
 ·simp[h1,h2]
 ·have:1<a.kind:=by omega
  simp[this,h3]
def ad3 (l:List fQ) (hl:l.length<=12) (r:LU) (v2 v5 v8 v9 v10 v11 v13 v15 v16:AV) (O:St):∀(n i:Nat) (w:Bool),i+n=l.length->
  aH C (ai C) 223 [1,2,5,8,9,10,11,12,13,15,16,17,18] bF [(1,MF l),(2,v2),(5,v5),(8,v8),(9,v9),(10,v10),(11,v11),(12,.str r),(13,v13),(15,v15),(16,v16),(17,.bool w),(18,.int .i64 i)] O=some (.exit 4,[(1,MF l),(2,v2),(5,v5),(8,v8),(9,v9),(10,v10),(11,v11),(13,v13),(15,v15),(16,v16),(17,.bool (w||(l.drop i).any (afD r)))],O)
 |0,i,w,hi=>by
  rw[aG (he:=rfl)];have h:¬((i:Int)<(l.length:Int)):=by omega
  have h':l.drop i=[]:=au1 (by omega)
  unfold MF;simp only[bF,h,h',List.any_nil,Bool.or_false,bU,EVX,seval]
 |n+1,i,w,hi=>by
  rw[aG (he:=rfl)];have h:((i:Int)<(l.length:Int)):=by omega
  have h2:i<l.length:=by omega
  have hb:l[i]?=some l[i]:=a02 h2;have h':l.drop i=l[i]::l.drop (i+1):=as9 h2;have hw:=wrS i (by omega)
  have h0:(0:Int)<=i:=by omega
  have fl:=dV fQ.len l;have fd:=lM fQ.len hb;generalize l[i]=a at*;have ac:a.cs=[.int .u8 a.kind,.str a.name,.int .i64 a.auth.th,.sl a.auth.ids.length (a.auth.ids.flatMap sC),.sl a.keys.length (a.keys.flatMap pC)]:=rfl;rw[ac]at fd;have ih:=fun w=>ad3 l hl r v2 v5 v8 v9 v10 v11 v13 v15 v16 O n (i+1) w (by omega)
  have e:(w||(a::l.drop (i+1)).any (afD r))=((w||afD r a)||(l.drop (i+1)).any (afD r)):=by rw[List.any_cons,Bool.or_assoc]
  rw[h',e,<-ih];generalize hk:aH C (ai C) 223 [1,2,5,8,9,10,11,12,13,15,16,17,18] bF=k at*;unfold MF afD Fv;cases w with
  |true=>simp only[bF,h,hw,bU,ax9,EVX,seval]
  |false=>
   cases k1:(a.kind==1)
   ·by_cases k2:1<a.kind
    ·simp only[bF,h,h2,h0,hw,fl,fd,k1,k2,bU,aC8,ay5,aw6,EVX,seval]
    ·simp only[bF,h,h2,h0,hw,fl,fd,k1,k2,bU,ay5,EVX,seval]
   ·have e1:a.kind=1:=by simpa using k1
    have k2:¬1<a.kind:=by omega
    by_cases k3:r=[116,97,114,103,101,116,115]
    ·simp only[bF,h,h2,h0,hw,fl,fd,k1,k2,k3,bU,aC8,ay5,Bool.or_false,EVX,seval]
    ·simp only[bF,h,h2,h0,hw,fl,fd,k1,k2,k3,bU,ay5,aw6,Bool.or_false,EVX,seval]
set_option maxHeartbeats 2000000
def ZH (HR:Kv C) (HP:VW C) (c:ul) (s:SnV) (hs:s.ok) (l:List fQ) (hl:l.length<=12) (hk:∀a∈l,0<=a.kind) (F:List dO) (hF:F.length<=1000) (hj:∀f∈F.drop 1,YO c.rc (s,0) l f) (b p9:Nat) (v5:AV):∀(n i:Nat) (S:St),1<=i->i+n=F.length->Ok S->S[b]?=some (.cells c.cs FZ)->S[p9]?=some (.cells s.cs FZ)->
  ∃G,G.all (AO.below 0)=true/\aH C (ai C) 223 [1,2,5,8,9,10,11] bW [(1,MF l),(2,.ref b 0),(5,v5),(8,.sl F.length (F.flatMap (vT c.nm))),(9,.ref p9 0),(10,.int .u8 0),(11,.int .i64 i)] S=some (.exit 2,[(5,v5),(8,.sl F.length (F.flatMap (vT c.nm)))],S++G)
 |0,i,S,hi1,hi,hS,hb,h9=>by
  refine⟨[],rfl,?_⟩;rw[aG (he:=rfl)];have h:¬((i:Int)<(F.length:Int)):=by omega
  simp only[bW,h,bU,au6,EVX,seval]
 |n+1,i,S,hi1,hi,hS,hb,h9=>by
  have h:((i:Int)<(F.length:Int)):=by omega
  have h2:i<F.length:=by omega
  have hbi:F[i]?=some F[i]:=a02 h2;have hw:=wrS i (by omega)
  have h0:(0:Int)<=i:=by omega
  have fl:=dV (ab2 c.nm) F;have fd:=lM (ab2 c.nm) hbi;have hm:F[i]∈F.drop 1:=a94 (i:=i-1) (by rw[List.getElem?_drop,show 1+(i-1)=i from by omega];exact hbi)
  have jf:=hj _ hm;generalize F[i]=f at*;obtain⟨r,p,j1,j2,j3,j4,j5⟩:=jf.ex;have pf:vT c.nm f=[.str c.nm,.str f.name,.int .i64 f.cap,.int .i64 f.size]:=rfl;have q1:=aih HR r j1;rw[<-j2]at q1;have q2:=adY HP s hs.small r S hS;rw[j3]at q2;have pb:AO.below 0 (.cells p.cs FZ)=true:=p.bel;have okG:Ok (S++[.cells p.cs FZ]):=hS.plus (by rw[a88,pb];rfl)
  obtain⟨G,g1,g2⟩:=ZH HR HP c s hs l hl hk F hF hj b p9 v5 n (i+1) (S++[.cells p.cs FZ]) (by omega) (by omega) okG (aA hb _) (aA h9 _)
  refine⟨[.cells p.cs FZ]++G,by rw[aC6,g1,a88,pb];rfl,?_⟩
  have wl:=fun v16 Y=>ad3 (C:=C) l hl r (.ref b 0) v5 (.sl F.length (F.flatMap (vT c.nm))) (.ref p9 0) (.int .u8 0) (.int .i64 i) (.int .i64 0) (.bool true) v16 Y l.length 0 false (by omega)
  simp only[at6,au0,aC8,aqj hk j5]at wl;have hbL:=fun L=>aA hb L;have h9L:=fun L=>aA h9 L;have pc:p.cs=[.str p.name,.int .i64 p.version,.int .i64 p.length,.sl p.hashes.length (p.hashes.flatMap pC)]:=rfl;have cc:c.cs=[.str c.nm,.str c.data,.sl c.fs.length (c.fs.flatMap pC),.bool c.h,.sl c.l.length (c.l.flatMap fV.cs),.int .i64 c.now,.int .i64 c.b0,.int .i64 c.b1,.int .i64 c.rc,.int .i64 c.sc]:=rfl;have s1:¬f.cap<f.size:=by have:=jf.size;omega
  have s2:¬f.size< -2:=by have:=jf.size;omega
  have s3:¬c.rc<f.cap:=by have:=jf.le;omega
  rw[<-au2,<-g2,aG (he:=rfl)];generalize hkk:aH C (ai C) 223 [1,2,5,8,9,10,11] bW=kk;unfold afb UO at q2;dsimp only at q2;rw[pc]at q2⊢;rw[cc]at hb hbL;have Sc:s.cs=[.int .i64 s.ver,.int .i64 s.exp,.sl s.pins.length (s.pins.flatMap mi.cs)]:=rfl;rw[Sc]at q2 h9 h9L;by_cases c1:p.length<0
  ·have c2:¬(0:Int)<=p.length:=by omega
   rw[if_pos c1]at j4;rw[<-j4]at hb hbL;simp only[bW,h,h2,h0,hw,fl,fd,pf,q1,q2,hbL,h9,wl,c2,s1,s2,Int.lt_irrefl,decide_false,bU,aQ,jm,AV.cells,AV.flat,splice,bne_self_eq_false,EVX,seval]
  ·have c2:(0:Int)<=p.length:=by omega
   rw[if_neg c1]at j4;rw[j4]at s1 s3;rw[pf,j4]at fd;simp only[bW,h,h2,h0,hw,fl,fd,q1,q2,hbL,h9,wl,c2,s1,s2,s3,bU,aQ,jm,AV.cells,AV.flat,splice,bne_self_eq_false,EVX,seval]
end Go.Ev
