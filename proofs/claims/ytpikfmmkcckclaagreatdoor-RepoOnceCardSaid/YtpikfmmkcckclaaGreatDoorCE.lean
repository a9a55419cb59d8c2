/- Code. No conditions. -/
import Derived.Test.YtpikfmmkcckclaaGreatDoorCD
import Derived.Test.YtpikfmmkcckclaaGreatDoorCB
import Derived.Test.YtpikfmmkcckclaaGreatDoorEC
import Derived.Test.YtpikfmmkcckclaaGreatDoorCC
set_option linter.unusedVariables false
set_option linter.unusedSimpArgs false
set_option linter.defProp false
namespace Go.Ev
set_option maxRecDepth 100000
variable{C:Ctx}
theorem jE.keep{Y S:St}{nm fs F s m fo oo}(h:jE Y nm fs F s m fo oo)(hs:S[s]?=Y[s]?)(hm:S[m]?=Y[m]?)(hf:∀q,fo=some q->S[q]?=Y[q]?)(ho:∀q,oo=some q->S[q]?=Y[q]?):jE S nm fs F s m fo oo:=by
 obtain⟨fv,ov,a,b,c⟩:=h.st;refine⟨⟨fv,ov,by rw[hs];exact a,?_,?_⟩,by rw[hm];exact h.mp,h.len,h.fs_,h.os,h.fo_⟩
 ·rcases b with b|⟨q,fz,b1,b2,b3,b4⟩
  ·exact .inl b
  ·exact .inr ⟨q,fz,b1,b2,b3,by rw[hf q b1];exact b4⟩
 ·rcases c with c|⟨q,b1,b2,b3,b4⟩
  ·exact .inl c
  ·exact .inr ⟨q,b1,b2,b3,by rw[ho q b1];exact b4⟩
theorem bP.keep{Y S:St}{h l R now rc sc nm fs F r s m o fo oo}(a:bP Y h l R now rc sc nm fs F r s m o fo oo)(hr:S[r]?=Y[r]?)(ho:S[o]?=Y[o]?)(hs:S[s]?=Y[s]?)(hm:S[m]?=Y[m]?)(hf:∀q,fo=some q->S[q]?=Y[q]?)(hoo:∀q,oo=some q->S[q]?=Y[q]?):bP S h l R now rc sc nm fs F r s m o fo oo:=
 ⟨by rw[hr];exact a.rp,by rw[ho];exact a.ver,a.st.keep hs hm hf hoo,a.rs,a.rm,a.ro,a.vs,a.vm,a.vo,a.caps⟩
def anP(C:Ctx)(c:ul)(R:jQ)(e:Int)(Y:St):Prop:=
 (wL c.nm c.fs c.rc c.sc e≠0/\ai C dG [.agg c.cs] Y=some (.tup [.nilp,.int .i64 (wL c.nm c.fs c.rc c.sc e)],Y))\/
 (wL c.nm c.fs c.rc c.sc e=0/\∃r s m o fo' T,ai C dG [.agg c.cs] Y=some (.tup [.ref r 0,.int .i64 0],T)/\Ok T/\bP T c.h c.l R c.now c.rc c.sc c.nm c.fs [] r s m o fo' none/\Y.length<=r/\Y.length<=s/\Y.length<=m/\Y.length<=o/\(∀q,fo'=some q->Y.length<=q)/\T.take Y.length=Y)
def amV (H:MadeHas C) (c:ul) (hl:c.l.length<=60) (hfs:c.fs.length<=1000) (R:jQ) (e:Int)
  (hR:∀(O:St) (o:Nat),Ok O->O[o]?=some (Ep c.h c.l)->ai C uY [.ref o 0,.str c.data] O=some (.tup [.agg (Va R e).cs,.int .i64 e],O))
  {Y:St} (hτ:Ok Y):anP C c R e Y:=by
 unfold anP;have cb:AO.below 0 (.cells c.cs FZ)=true:=c.nvs.cl;have vb:AO.below 0 (Ep c.h c.l)=true:=by
  unfold Ep;cases c.h
  ·have:=Ym c.l;simp[abZ,AO.below,ae,below,this]
  ·rfl
 have a0:=fun Y:St=>show rO Y 2 32 none (.xsl 0 []) 0 []=some (.xsl 0 [],Y)from rfl;have V:=fun O=>afC H c hl O;rw[H.made28.go (NVs.hand (.cons (.agg c.nvs) .nil) _)];by_cases n0:c.fs=[]
 ·have ok2:Ok (Y++[.cells c.cs FZ,.cells [.str c.nm,.str c.data,.xsl 0 []] FZ,.cells c.cs FZ,Ep c.h c.l]):=hτ.plus (by simp only[a88,aw1,cb,vb];rfl)
  have N:=adD H.toRNewHas c.h c.l R e c.data hR ok2 (Y.length+3) (by rw[dM];rfl) c.nm (fv:=.xsl 0 []) (fs:=c.fs) (fo:=none) (.inl ⟨n0,rfl,rfl⟩) hfs c.now c.b0 c.b1 c.rc c.sc
  have ce:c.cs=[.str c.nm,.str c.data,.sl 0 [],.bool c.h,O9 c.l,.int .i64 c.now,.int .i64 c.b0,.int .i64 c.b1,.int .i64 c.rc,.int .i64 c.sc]:=by rw[ul.cs,n0];rfl
  rcases N with⟨m1,m2⟩|⟨m1,r,s,m,fo',L,m2,ok3,m3,m4,m5,m6,m7⟩
  ·left;refine⟨m1,?_⟩;have lp:=Lt (C:=C) (Y.length+1) (.str c.nm) (.str c.data) (.xsl 0 []) 0 none (fun e=>nomatch e) .nilp (.int .i64 (wL c.nm c.fs c.rc c.sc e)) (by omega) 0 0 _ rfl ok2 (by rw[dM];rfl) (.inl ⟨rfl,rfl⟩)
   obtain⟨T',q1,q2,q3,q4⟩:=lp;rw[show((0:Nat):Int)=0 from rfl]at q1;have tk:T'.take Y.length=Y:=by
    refine aw5 fun k=>?_;rw[au7];split
    ·next h=>rw[q4 k (fun e=>nomatch e),av1 h]
    ·next h=>exact(aw2 (by omega)).symm
   rw[ce]at m2 V q1⊢;unfold O9 at*;have ty:=pG (vs:=[.nilp,.int .i64 (wL c.nm c.fs c.rc c.sc e)]) hτ rfl tk;simp only[nI,V,m2,a0,yj,q1,ty,AV.cells,AV.flat,splice,EVX,seval]
  ·right;refine⟨m1,?_⟩;simp only[a04,a07,a09]at m4 m5 m6 m7;have lp:=Lt (C:=C) (Y.length+1) (.str c.nm) (.str c.data) (.xsl 0 []) 0 none (fun e=>nomatch e) (.ref r 0) (.int .i64 0) (by omega) 0 0 _ rfl ok3 (aA (by rw[dM];rfl) _) (.inl ⟨rfl,rfl⟩)
   obtain⟨T',q1,q2,q3,q4⟩:=lp;rw[show((0:Nat):Int)=0 from rfl]at q1;have tk:T'.take Y.length=Y:=by
    refine aw5 fun k=>?_;rw[au7];split
    ·next h=>rw[q4 k (fun e=>nomatch e),au2,av1 h]
    ·next h=>exact(aw2 (by omega)).symm
   refine⟨r,s,m,Y.length+3,fo',T',?_,q3,m3.keep (q4 _ (fun e=>nomatch e)) (q4 _ (fun e=>nomatch e)) (q4 _ (fun e=>nomatch e)) (q4 _ (fun e=>nomatch e)) (fun q _=>q4 q (fun e=>nomatch e)) (fun q e=>nomatch e),by omega,by omega,by omega,by omega,fun q e=>by have:=m7 q e;omega,tk⟩
   have nb:¬r<Y.length:=by omega
   have ty:tidy Y.length [.ref r 0,.int .i64 0] T'=T':=qX (by simp[ae,below,nb]) _
   rw[ce]at m2 V q1⊢;unfold O9 at*;simp only[au2,a99,au3]at q1;simp only[nI,V,m2,a0,yj,q1,ty,AV.cells,AV.flat,splice,EVX,seval]
 ·have fl:=dV FW c.fs;have h1:¬c.fs.length=0:=fun e=>n0 (List.length_eq_zero_iff.mp e);have ap:=fun Y:St=>V7 Y none (sz:=2) (bytes:=32) (n:=0) (m:=c.fs.length) (l:=[]) (c.fs.flatMap pC) h1 rfl (by omega) (by omega)
  simp only[av2,au3]at ap;have fa:=agM c.fs;have tf:(c.fs.flatMap pC).take (c.fs.length*2)=c.fs.flatMap pC:=by rw[<-fl,aD6]
  have ok2:Ok (Y++[.cells c.cs FZ,.cells [.str c.nm,.str c.data,.msl (Y.length+2) 0 c.fs.length 2] FZ,.cells (c.fs.flatMap pC) FZ,.cells c.cs FZ,Ep c.h c.l]):=RF hτ (by
   have h1:=AO.below_mono (a98 (Y.length+5)) _ cb;have h2:=AO.below_mono (a98 (Y.length+5)) _ vb;have h3:AO.below (Y.length+5) (.cells (c.fs.flatMap pC) FZ)=true:=by rw[AO.below];exact aO (a98 _) _ (fP (fun _=>rfl) _)
   have h4:AO.below (Y.length+5) (.cells [.str c.nm,.str c.data,.msl (Y.length+2) 0 c.fs.length 2] FZ)=true:=by simp[AO.below,ae,below]
   simp only[a07,a09,a88,aw1,h1,h2,h3,h4,av9])
  have N:=adD H.toRNewHas c.h c.l R e c.data hR ok2 (Y.length+4) (by rw[dM];rfl) c.nm (fv:=.msl (Y.length+2) 0 c.fs.length 2) (fs:=c.fs) (fo:=some (Y.length+2)) (.inr ⟨Y.length+2,_,rfl,n0,rfl,by rw[dM];rfl⟩) hfs c.now c.b0 c.b1 c.rc c.sc
  have ce:c.cs=[.str c.nm,.str c.data,.sl c.fs.length (c.fs.flatMap pC),.bool c.h,O9 c.l,.int .i64 c.now,.int .i64 c.b0,.int .i64 c.b1,.int .i64 c.rc,.int .i64 c.sc]:=rfl;rcases N with⟨m1,m2⟩|⟨m1,r,s,m,fo',L,m2,ok3,m3,m4,m5,m6,m7⟩
  ·left;refine⟨m1,?_⟩;have lp:=Lt (C:=C) (Y.length+1) (.str c.nm) (.str c.data) (.msl (Y.length+2) 0 c.fs.length 2) c.fs.length (some (Y.length+2)) (by simp) .nilp (.int .i64 (wL c.nm c.fs c.rc c.sc e)) hfs c.fs.length 0 _ (by omega) ok2 (by rw[dM];rfl) (.inr ⟨Y.length+2,_,rfl,rfl,fl,fP (fun _=>rfl) _,by rw[dM];rfl⟩)
   obtain⟨T',q1,q2,q3,q4⟩:=lp;rw[show((0:Nat):Int)=0 from rfl]at q1;have tk:T'.take Y.length=Y:=by
    refine aw5 fun k=>?_;rw[au7];split
    ·next h=>rw[q4 k (by simp;omega),av1 h]
    ·next h=>exact(aw2 (by omega)).symm
   rw[ce]at m2 V q1⊢;unfold O9 at*;have ty:=pG (vs:=[.nilp,.int .i64 (wL c.nm c.fs c.rc c.sc e)]) hτ rfl tk;simp only[nI,V,m2,fl,fa,ap,yj,q1,ty,AV.cells,AV.flat,splice,EVX,seval]
  ·right;refine⟨m1,?_⟩;simp only[a04,a07,a09]at m4 m5 m6 m7;have lp:=Lt (C:=C) (Y.length+1) (.str c.nm) (.str c.data) (.msl (Y.length+2) 0 c.fs.length 2) c.fs.length (some (Y.length+2)) (by simp) (.ref r 0) (.int .i64 0) hfs c.fs.length 0 _ (by omega) ok3 (aA (by rw[dM];rfl) _) (.inr ⟨Y.length+2,_,rfl,rfl,fl,fP (fun _=>rfl) _,aA (by rw[dM];rfl) _⟩)
   obtain⟨T',q1,q2,q3,q4⟩:=lp;rw[show((0:Nat):Int)=0 from rfl]at q1;have tk:T'.take Y.length=Y:=by
    refine aw5 fun k=>?_;rw[au7];split
    ·next h=>rw[q4 k (by simp;omega),au2,av1 h]
    ·next h=>exact(aw2 (by omega)).symm
   refine⟨r,s,m,Y.length+4,fo',T',?_,q3,m3.keep (q4 _ (by simp;omega)) (q4 _ (by simp)) (q4 _ (by simp;omega)) (q4 _ (by simp;omega)) (fun q e=>q4 q (by have:=m7 q e;simp;omega)) (fun q e=>nomatch e),by omega,by omega,by omega,by omega,fun q e=>by have:=m7 q e;omega,tk⟩
   have nb:¬r<Y.length:=by omega
   have ty:tidy Y.length [.ref r 0,.int .i64 0] T'=T':=qX (by simp[ae,below,nb]) _
   rw[ce]at m2 V q1⊢;unfold O9 at*;simp only[au2,a99,au3]at q1;simp only[nI,V,m2,fl,fa,ap,yj,q1,ty,AV.cells,AV.flat,splice,EVX,seval]
theorem mi.len(h:mi):h.cs.length=4:=rfl
def mi.below(h:mi):ae 0 h.cs=true:=by
 simp only[mi.cs,ae,(yY h.hashes).cl];rfl
def an8(l:List mi):NV (.sl l.length (l.flatMap mi.cs)):=.sl _ (fP mi.below l)
def Mc:LA:=[.str [],.int .i64 0,.int .i64 0,.nils]
def NE (hc:Sv C gm 2) (l:List mi) (hl:l.length<=1099511627776) (hh:∀p∈l,p.hashes.length<=1099511627776) (file:LU) (O:St) (X:AO):∀(n i:Nat) (G:St),i+n=l.length->
  ∃G',aH C (ai C) 36 [4,6,19,20,21] oH [(4,.ref (O.length+1) 0),(6,.str file),(19,.sl l.length (l.flatMap mi.cs)),(20,.int .i64 l.length),(21,.int .i64 i)] (O++X::.cells Mc FZ::G)=
   match(l.drop i).find? (fun p=>decide (p.name=file))with
   |none=>some (.exit 0,[(4,.ref (O.length+1) 0)],O++X::.cells Mc FZ::G')
   |some p=>some (.ret,[(4,.ref (O.length+1) 0),(5,.bool true)],O++X::.cells p.cs FZ::G')
 |0,i,G,hi=>by
  rw[aG (he:=rfl)];have h:¬((i:Int)<(l.length:Int)):=by omega
  have h':l.drop i=[]:=au1 (by omega)
  refine⟨G,?_⟩;simp only[oH,h,h',List.find?_nil,EVX,seval]
 |n+1,i,G,hi=>by
  rw[aG (he:=rfl)];have h:((i:Int)<(l.length:Int)):=by omega
  have h2:i<l.length:=by omega
  have hb:l[i]?=some l[i]:=a02 h2;have h':l.drop i=l[i]::l.drop (i+1):=as9 h2;have hw:=wrS i (by omega)
  have h3:(0:Int)<=i:=by omega
  have fl:=dV mi.len l;have fd:=lM mi.len hb;have hp:=hh _ (az1 h2);obtain⟨p,hpe⟩:∃p,p=l[i]:=⟨_,rfl⟩;rw[<-hpe]at fd h' hp;have hcl:=fun Y=>hc p.hashes.length (p.hashes.flatMap pC) Y (dV FW _) hp (ahD (f:=pC) (fun x=>rfl) _);cases hx:decide (p.name=file)
  ·obtain⟨G',ih⟩:=NE hc l hl hh file O X n (i+1) (G++[.cells p.cs FZ]) (by omega)
   refine⟨G',?_⟩;rw[h',List.find?_cons,hx];dsimp only;rw[<-ih];generalize hk:aH C (ai C) 36 [4,6,19,20,21] oH=k;simp only[oH,h,h2,h3,hw,hx,fl,fd,mi.cs,a99,aA3,aA4,au2,a04,AV.cells,EX,EVX,seval]
  ·refine⟨G++[.cells p.cs FZ],?_⟩;rw[h',List.find?_cons,hx];dsimp only;generalize hk:aH C (ai C) 36 [4,6,19,20,21] oH=k;simp only[oH,h,h2,h3,hx,fl,fd,hcl,mi.cs,Mc,a99,aA3,aA4,au2,a04,AV.cells,EX,EVX,seval]
def UO(s:SnV):AV:=.agg s.cs
def abU(s:SnV):NV (UO s):=.agg (.cons (.int _ _) (.cons (.int _ _) (.cons (an8 s.pins) .nil)))
def sD(s:SnV)(r:LU):Option mi:=if role r then s.pins.find? (fun p=>decide (p.name=r++iJ))else none
def kz:LA:=[.str [],.int .i64 0,.int .i64 0,.sl 0 []]
def afb:Option mi->AV
 |none=>.tup [.agg kz,.bool false]
 |some p=>.tup [.agg p.cs,.bool true]
structure VW(C:Ctx):Prop where
 allowed:Has C lC kW
 role:Has C xU uo
 file:Has C uI um
 clone:Sv C gm 2
 pin:Has C WP GN
 cap:Has C Uh Ak
structure Sz(s:SnV):Prop where
 pins:s.pins.length<=1099511627776
 hashes:∀p∈s.pins,p.hashes.length<=1099511627776
def adY(h:VW C)(s:SnV)(hs:Sz s)(r:LU)(O:St)(hσ:Ok O):ai C WP [UO s,.str r] O=some (afb (sD s r),O):=by
 rw[h.pin.go (NVs.hand (.cons (abU s) (.cons (.str _) .nil)) _)];unfold sD UO SnV.cs;have ty:=fun(vs:LA) (hv:ae 0 vs=true) (L:St)=>dE hσ hv L;cases hr:role r
 ·have fa:Ul r=.tup [.str [],.int .i64 3]:=by simp[Ul,hr]
  have t1:=ty [.agg kz,.bool false] rfl;unfold kz at t1;simp only[GN,Lu h.file h.role h.allowed,fa,aY,aX,dA,afb,kz,t1,AV.cells,AV.flat,a99,aA3,aA4,EVX,seval]
 ·have fa:Ul r=.tup [.str (r++iJ),.int .i64 0]:=by simp[Ul,hr]
  obtain⟨G,lp⟩:=NE h.clone s.pins hs.pins hs.hashes (r++iJ) O (.cells [.int .i64 s.ver,.int .i64 s.exp,.sl s.pins.length (s.pins.flatMap mi.cs)] FZ) s.pins.length 0 [] (by omega)
  rw[au0]at lp;simp only[at6,Mc]at lp;rw[if_pos rfl];cases hf:s.pins.find? (fun p=>decide (p.name=r++iJ))with
  |none=>
   rw[hf]at lp;have t1:=ty [.agg kz,.bool false] rfl;unfold kz at t1;simp only[GN,Lu h.file h.role h.allowed,fa,lp,aY,aX,dA,afb,kz,t1,AV.cells,AV.flat,a99,aA3,aA4,EVX,seval]
  |some p=>
   rw[hf]at lp;have t1:=ty [.agg p.cs,.bool true] (by simp only[ae,below,mi.below];rfl)
   unfold mi.cs at t1;simp only[GN,Lu h.file h.role h.allowed,fa,lp,aY,aX,afb,mi.cs,t1,AV.cells,a99,EVX,seval]
def Yx(o:Option mi)(most:Int):AV:=match o with
 |none=>.tup [.agg kz,.int .i64 0,.int .u8 1]
 |some p=>if p.length<0 then .tup [.agg p.cs,.int .i64 most,.int .u8 0]else if p.length>most then .tup [.agg kz,.int .i64 0,.int .u8 3]else .tup [.agg p.cs,.int .i64 p.length,.int .u8 0]
def anE{O:St}(hσ:Ok O)(a b:LA)(ha:ae 0 a=true)(hb:ae 0 b=true)(x y:Fz):Ok (O++[.cells a x,.cells b y]):=
 RF hσ (by simp[AO.below,aO (a98 _) _ ha,aO (a98 _) _ hb])
def aht(h:VW C)(s:SnV)(hs:Sz s)(r:LU)(most:Int)(O:St)(hσ:Ok O):ai C Uh [UO s,.str r,.int .i64 most] O=some (Yx (sD s r) most,O):=by
 rw[h.cap.go (NVs.hand (.cons (abU s) (.cons (.str _) (.cons (.int _ _) .nil))) _)];have ok1:=anE hσ [.int .i64 s.ver,.int .i64 s.exp,.sl s.pins.length (s.pins.flatMap mi.cs)] Mc (by have:=(abU s).cl;unfold UO SnV.cs at this;rw[below]at this;exact this) rfl FZ FZ
 have q:=adY h s hs r _ ok1;have ty:=fun(vs:LA) (hv:ae 0 vs=true) (L:St)=>dE hσ hv L;unfold UO SnV.cs Mc at*;have t1:=fun a b=>ty [.agg kz,.int .i64 a,.int .u8 b] rfl;unfold kz at t1;cases hf:sD s r with
 |none=>
  rw[hf]at q;unfold afb kz at q;dsimp only at q;simp only[Ak,q,aY,aX,dA,Yx,kz,t1,AV.cells,AV.flat,a99,aA3,aA4,EVX,seval]
 |some p=>
  rw[hf]at q;have pc:p.cs=[.str p.name,.int .i64 p.version,.int .i64 p.length,.sl p.hashes.length (p.hashes.flatMap pC)]:=rfl;unfold afb at q;dsimp only at q;rw[pc]at q;have t2:=fun a b=>ty [.agg p.cs,.int .i64 a,.int .u8 b] (by simp only[ae,below,mi.below];rfl)
  rw[pc]at t2;by_cases h1:p.length<0
  ·simp only[Ak,q,h1,aY,aX,Yx,pc,t2,AV.cells,AV.flat,a99,aA3,aA4,EVX,seval]
  ·by_cases h2:most<p.length
   ·simp only[Ak,q,h1,h2,aY,aX,dA,Yx,kz,t1,AV.cells,AV.flat,a99,aA3,aA4,EVX,seval]
   ·simp only[Ak,q,h1,h2,aY,aX,Yx,pc,t2,AV.cells,AV.flat,a99,aA3,aA4,EVX,seval]
noncomputable section
structure TSP(P:Program)(f:Nat)where
 k:TF
 p:(cTF P f).getD ⟨0,[],.skip⟩=k:=by conv=>lhs;reduce;simp only[RD,seval]
abbrev TsA(f:Nat):Type:=TSP Go.Proofs.Tryz.prog f
def Ac:TF:=(.mk ?k:TsA mY).1
def uj:TF:=(.mk ?k:TsA oQ).1
def lm:TF:=(.mk ?k:TsA lG).1
def ig:TF:=(.mk ?k:TsA fO).1
end
def dQ:CFn:=⟨7,[(.cell 2 true 3),(.cell 3 false 1)],[o 2 (.new [(.int .i64 0),(.int .i64 0),.nils] none),
 o 3 (.new [(.int .u8 0)] none)],4,yS,[(.t 2),(.t 3)],
 (.seq (.ops [.op (m 5 0),
 .op (o 6 (.callF lG [(.t 5)])),
 .op (u (.store 3 (.t 2) (.t 6))),
 .op (u (.store 1 (.t 3) (.c (.int .u8 0))))])
 .ret)⟩
def lJ:KC:=
 (.seq (.ops [m 4 2,
 o 5 (.bin .neq 5 true (.t 4) (.c .nilIface))])
 (.cond (.t 5)
 (.ops [o 6 (.build [(.int .i64 0),(.int .i64 0),.nils] []),
 m 7 2,
 o 8 (.callF mY [(.t 7)]),
 u (.store 3 (.t 0) (.t 6)),
 u (.store 1 (.t 1) (.t 8))])
 .skip))
def dw:KFn:=⟨9,3,2,lJ.forget⟩
def gX:CFn:=⟨16,[(.cell 8 true 9),(.cell 9 false 1)],[o 6 (.box (.t 2)),
 o 8 (.new [(.int .i64 0),(.int .i64 0),.nils,.nils,.nils,(.int .i64 0),.nils,(.int .i64 0),(.str [])] none),
 o 9 (.new [(.int .u8 0)] none)],10,D5,[(.t 8),(.t 9)],
 (.seq (.ops [.op (m 11 0),
 .op (m 12 1),
 .op (o 13 (.load true 2 (.t 6))),
 .op (m 14 3),
 .op (o 15 (.callF fO [(.t 11),(.t 12),(.t 13),(.t 14)])),
 .op (u (.store 9 (.t 8) (.t 15))),
 .op (u (.store 1 (.t 9) (.c (.int .u8 0))))])
 .ret)⟩
def qg:KC:=
 (.seq (.ops [m 4 2,
 o 5 (.bin .neq 5 true (.t 4) (.c .nilIface))])
 (.cond (.t 5)
 (.ops [o 6 (.build [(.int .i64 0),(.int .i64 0),.nils,.nils,.nils,(.int .i64 0),.nils,(.int .i64 0),(.str [])] []),
 m 7 2,
 o 8 (.callF mY [(.t 7)]),
 u (.store 9 (.t 0) (.t 6)),
 u (.store 1 (.t 1) (.t 8))])
 .skip))
def eY:KFn:=⟨9,3,2,qg.forget⟩
def jX(C:Ctx)(ct:vW)(n:Nat):List TOp->As->St->Option (TX×As×St)
 |[],A,O=>some (.normal,A,O)
 |.op o::l,A,O=>match kw o A with
  |true=>match aB C (avA C A) n O o.i with
   |some (.val v O')=>jX C ct n l (yA A o.dst v) O'
   |some (.call f args O')=>match ct f args O' with
    |some (.ret v,O'')=>jX C ct n l (yA A o.dst v) O''
    |some (.pan v,O'')=>some (.pan v,A,O'')
    |none=>none
   |none=>none
  |false=>jX C ct n l (yA A o.dst .undef) O
 |.panic x::l,A,O=>match avA C A x with
  |.iface t v=>some (.pan (.iface t v),A,O)
  |_=>none
 |.assert d t x::l,A,O=>match avA C A x with
  |.iface t' v=>match Nat.beq t' t with
   |true=>jX C ct n l (yA A (some d) (.tup [v,.bool true])) O
   |false=>none
  |_=>none
def yz(C:Ctx)(call:aZ)(ct:vW)(n:Nat):TC->As->St->Option (TX×As×St)
 |.skip,A,O=>some (.normal,A,O)
 |.ops l,A,O=>jX C ct n l A O
 |.drawn l,A,O=>match sW C call n l A O with
  |some (A',O')=>some (.normal,A',O')
  |none=>none
 |.seq a b,A,O=>match yz C call ct n a A O with
  |some (.normal,A',O')=>yz C call ct n b A' O'
  |r=>r
 |.cond c a b,A,O=>match avA C A c with
  |.bool true=>yz C call ct n a A O
  |.bool false=>yz C call ct n b A O
  |_=>none
 |.ret,A,O=>some (.ret,A,O)
 |.fail,_,_=>none
def Yg(n:Nat):List TOp->Bool
 |[]=>true
 |.op o::l=>Qc n o.dst&&Yg n l
 |.panic _::l=>Yg n l
 |.assert d _ _::l=>Qc n (some d)&&Yg n l
def tok(n:Nat):TC->Bool
 |.ops l=>Yg n l
 |.drawn l=>aaX n l
 |.seq a b=>tok n a&&tok n b
 |.cond _ a b=>tok n a&&tok n b
 |_=>true
structure AgF(n:Nat)(e:Env)(A:As):Prop where
 len:e.length=n
 at':∀t,e.getD t .undef=look A t
def AgF.ag{n:Nat}{e A}(h:AgF n e A)(m:Nat):Ag n m e A:=⟨h.len,fun t _=>h.at' t⟩
def AgF.of{n:Nat}{e A}(hl:e.length=n)(h:∀m,Ag n m e A):AgF n e A:=⟨hl,fun t=>(h (bit t)).at' t (by rw[yu];simp)⟩
def AgF.put{n:Nat}{e A}(h:AgF n e A){d:Option Nat}(hd:Qc n d=true)(v:AV):AgF n (put e d v) (yA A d v):=
 .of (by rw[Ia,h.len]) fun m=>Ag.put (h.ag _) hd v
def aqv(n:Nat):Option (TX×Env×St)->Option (TX×As×St)->Prop
 |none,none=>True
 |some (x,e,O),some (x',A,O')=>x=x'/\O=O'/\AgF n e A
 |_,_=>False
def J9{C:Ctx}{ct:vW}{n:Nat}:∀(l:List TOp) (e:Env) (A:As) (O:St),Yg n l=true->AgF n e A->aqv n (xw C ct l e O) (jX C ct n l A O)
 |[],e,A,O,_,h=>⟨rfl,rfl,h⟩
 |.op o::l,e,A,O,hd,h=>by
  rw[Yg,a01]at hd;unfold xw jX;rw[Ag.wanted (h.ag _)];cases kw o A with
  |false=>exact J9 l _ _ O hd.2 (h.put hd.1 _)
  |true=>
   dsimp only;rw[Ag.evI (h.ag _)];cases aB C (avA C A) n O o.i with
   |none=>trivial
   |some x=>cases x with
    |val v O'=>exact J9 l _ _ O' hd.2 (h.put hd.1 _)
    |call f args O'=>
     dsimp only;cases ct f args O' with
     |none=>trivial
     |some r=>
      obtain⟨a,O''⟩:=r;cases a with
      |ret v=>exact J9 l _ _ O'' hd.2 (h.put hd.1 _)
      |pan v=>exact⟨rfl,rfl,h⟩
 |.panic x::l,e,A,O,hd,h=>by
  unfold xw jX;rw[ahm x (h.ag _).agree];cases avA C A x<;>first|exact trivial|exact⟨rfl,rfl,h⟩
 |.assert d t x::l,e,A,O,hd,h=>by
  rw[Yg,a01]at hd;unfold xw jX;rw[ahm x (h.ag _).agree];cases avA C A x with
  |iface t' v=>
   dsimp only;cases Nat.beq t' t with
   |true=>exact J9 l _ _ O hd.2 (h.put hd.1 _)
   |false=>trivial
  |_=>trivial
def aah{C:Ctx}{call:aZ}{ct:vW}{n:Nat}:∀(c:TC) (e:Env) (A:As) (O:St),tok n c=true->AgF n e A->aqv n (evT C call ct c e O) (yz C call ct n c A O)
 |.skip,e,A,O,_,h=>⟨rfl,rfl,h⟩
 |.ret,e,A,O,_,h=>⟨rfl,rfl,h⟩
 |.fail,e,A,O,_,h=>trivial
 |.ops l,e,A,O,hd,h=>J9 l e A O hd h
 |.drawn l,e,A,O,hd,h=>by
  unfold evT yz qj sW;have q:=fun N=>abE (C:=C) (call:=call) (N:=N) l e A O hd (h.ag _);cases h1:uH C call l e O with
  |none=>
   cases h2:qH C call n l A O with
   |none=>trivial
   |some r=>have:=q 0;rw[h1,h2]at this;exact this.elim
  |some r=>
   cases h2:qH C call n l A O with
   |none=>have:=q 0;rw[h1,h2]at this;exact this.elim
   |some r'=>
    obtain⟨f,Y,rs,ss⟩:=r;obtain⟨f',Y',rs',ss'⟩:=r';have q0:=q 0;rw[h1,h2]at q0;obtain⟨a,b,c,d⟩:=q0;subst a b;have e0:AgF n f f':=.of c.len fun N=>by
     have:=q N;rw[h1,h2]at this;exact this.2.2.1
    dsimp only;rw[d];cases gB C n ss l rs' with
    |true=>exact⟨rfl,rfl,e0⟩
    |false=>trivial
 |.seq a b,e,A,O,hd,h=>by
  rw[tok,a01]at hd;unfold evT yz;have q:=aah (C:=C) (call:=call) (ct:=ct) a e A O hd.1 h;cases h1:evT C call ct a e O with
  |none=>rw[h1]at q;cases h2:yz C call ct n a A O with
   |none=>trivial
   |some r=>rw[h2]at q;exact q.elim
  |some r=>rw[h1]at q;cases h2:yz C call ct n a A O with
   |none=>rw[h2]at q;exact q.elim
   |some r'=>
    rw[h2]at q;obtain⟨x,e',O'⟩:=r;obtain⟨x',A',O''⟩:=r';obtain⟨rfl,rfl,q3⟩:=q;cases x with
    |normal=>exact aah b e' A' O' hd.2 q3
    |ret=>exact⟨rfl,rfl,q3⟩
    |pan v=>exact⟨rfl,rfl,q3⟩
 |.cond c a b,e,A,O,hd,h=>by
  rw[tok,a01]at hd;unfold evT yz;rw[ahm c (h.ag _).agree];cases avA C A c with
  |bool x=>cases x with
   |true=>exact aah a e A O hd.1 h
   |false=>exact aah b e A O hd.2 h
  |_=>trivial
def V5(n:Nat)(args:LA)(h:args.length<=n):AgF n (args++List.replicate (n-args.length) .undef) (jF 0 args):=
 .of (by simp;omega) fun m=>aaH m n args h
def MX(n0:Nat)(rs:List XR)(A:As)(O:St):Option (AV×St):=match aY A O rs with
 |none=>none
 |some vs=>match hand false vs O with
  |none=>none
  |some (vs,O3)=>some (bD vs,tidy n0 vs O3)
def N9(n0:Nat)(rs:List XR):Option (TX×As×St)->Option (Ans×St)
 |none=>none
 |some (.pan v,_,O2)=>some (.pan v,tidy n0 [v] O2)
 |some (_,A,O2)=>match MX n0 rs A O2 with
  |some (v,O')=>some (.ret v,O')
  |none=>none
def aaY{n:Nat}{e:Env}{A:As}(h:AgF n e A)(O0:St)(rs:List XR)(O:St):acE O0 rs e O=MX O0.length rs A O:=by
 unfold acE MX;rw[Tz rs (h.ag _)];rfl
def abD {C:Ctx} {call:aZ} {ct:vW} {x:TF} (hok:tok x.ntmps x.body=true) {args:LA} {O:St} {args1:LA} {O1:St} (hh:hand false args O=some (args1,O1)) (hl:Nat.ble args1.length x.ntmps=true):
  runT C call ct x args O=N9 O.length x.results (yz C call ct x.ntmps x.body (jF 0 args1) O1):=by
 unfold runT;rw[hh];dsimp only;rw[hl];dsimp only;have q:=aah (C:=C) (call:=call) (ct:=ct) x.body _ _ O1 hok (V5 x.ntmps args1 (av8 hl));cases h1:evT C call ct x.body (args1++List.replicate (x.ntmps-args1.length) .undef) O1 with
 |none=>rw[h1]at q;cases h2:yz C call ct x.ntmps x.body (jF 0 args1) O1 with
  |none=>rfl
  |some r=>rw[h2]at q;exact q.elim
 |some r=>rw[h1]at q;cases h2:yz C call ct x.ntmps x.body (jF 0 args1) O1 with
  |none=>rw[h2]at q;exact q.elim
  |some r'=>
   rw[h2]at q;obtain⟨y,e',O'⟩:=r;obtain⟨y',A',O''⟩:=r';obtain⟨rfl,rfl,q3⟩:=q;cases y with
   |pan v=>rfl
   |normal=>dsimp only[N9];rw[aaY q3];rfl
   |ret=>dsimp only[N9];rw[aaY q3];rfl
def ajd(n:Nat)(cv:LA)(r m:Nat)(v:AV)(h:cv.length<=n)(hr:r<n)(hm:m<n):AgF n (((cv++List.replicate (n-cv.length) AV.undef).set r v).set m v) ((m,v)::(r,v)::jF 0 cv):=by
 have h0:=V5 n cv h;have h1:=h0.put (d:=some r) (by simpa[Qc]using hr) v
 exact h1.put (d:=some m) (by simpa[Qc]using hm) v
def tK:XC->Bool
 |.seq a b=>tK a&&tK b
 |.cond _ a b=>tK a&&tK b
 |.block _ b=>tK b
 |.scope b=>tK b
 |.loop _=>false
 |_=>true
def rV{C:Ctx}{call:aZ}{n:Nat}:∀(x:XC) (e:Env) (O:St),tK x=true->evC C call n x e O=kL C call x e O
 |.skip,_,_,_=>rfl
 |.ops _,_,_,_=>rfl
 |.drawn _,_,_,_=>rfl
 |.seq a b,e,O,h=>by
  rw[tK,a01]at h;unfold evC kL;rw[rV a e O h.1];cases kL C call a e O with
  |none=>rfl
  |some r=>
   obtain⟨x,e',O'⟩:=r;cases x with
   |normal=>exact rV b e' O' h.2
   |exit i=>rfl
   |ret=>rfl
 |.cond c a b,e,O,h=>by
  rw[tK,a01]at h;unfold evC kL;cases av C e c with
  |bool x=>cases x with
   |true=>exact rV a e O h.1
   |false=>exact rV b e O h.2
  |_=>rfl
 |.block id b,e,O,h=>by
  rw[tK]at h;unfold evC kL;rw[rV b e O h];rfl
 |.exit _,_,_,_=>rfl
 |.ret,_,_,_=>rfl
 |.scope b,e,O,h=>by
  rw[tK]at h;unfold evC kL;exact rV b e O h
 |.fail,_,_,_=>rfl
noncomputable def LG(C:Ctx)(call:aZ)(ct:vW)(x:CFn)(k:KFn)(K:KC)(n0:Nat)(args1:LA)(O1:St):Option (AV×St):=
 match ase C call x.ntmps x.first (jF 0 args1) O1 with
 |none=>none
 |some (A0,O0)=>match yz C call ct x.ntmps x.body ((x.d,.func (.func x.clo) [] (x.caps.map (avA C A0)))::A0) O0 with
  |none=>none
  |some (tx,A2,O2)=>match dL C (IK ct) k.ntmps K ((k.m,thrown tx)::(k.r,thrown tx)::jF 0 (x.caps.map (avA C A0))) O2 with
   |some (.exit _,_,_)=>none
   |none=>none
   |some (_,_,O3)=>MX n0 x.results A2 O3
def ag3(x:CFn)(k:KFn)(K:KC):Bool:=(live k.ntmps 0 K 0 fun _=>0).isSome&&tK k.body&&aaX x.ntmps x.first&&tok x.ntmps x.body&&Nat.blt x.d x.ntmps&&Nat.blt k.r k.ntmps&&Nat.blt k.m k.ntmps&&Nat.ble x.caps.length k.ntmps
def adt {C:Ctx} {call:aZ} {ct:vW} {x:CFn} {k:KFn} {K:KC} (hK:K.forget=k.body) (hok:ag3 x k K=true) {args:LA} {O:St} {args1:LA} {O1:St} (hh:hand false args O=some (args1,O1)) (hl:Nat.ble args1.length x.ntmps=true):
  xJ C call ct x k args O=LG C call ct x k K O.length args1 O1:=by
 simp only[ag3,a01,Nat.blt_eq]at hok;obtain⟨⟨⟨⟨⟨⟨⟨k1,k2⟩,k3⟩,k4⟩,k5⟩,k6⟩,k7⟩,k8⟩:=hok;unfold xJ LG;rw[hh];dsimp only;have q:=fun N=>VF (C:=C) (call:=call) (N:=N) x.first _ _ O1 k3 ((V5 x.ntmps args1 (av8 hl)).ag _);cases h1:qc C call x.first (args1++List.replicate (x.ntmps-args1.length) .undef) O1 with
 |none=>
  cases h2:ase C call x.ntmps x.first (jF 0 args1) O1 with
  |none=>rfl
  |some r=>have:=q 0;rw[h1,h2]at this;exact this.elim
 |some r=>
  cases h2:ase C call x.ntmps x.first (jF 0 args1) O1 with
  |none=>have:=q 0;rw[h1,h2]at this;exact this.elim
  |some r'=>
   obtain⟨e0,O0⟩:=r;obtain⟨A0,O0'⟩:=r';have q0:=q 0;rw[h1,h2]at q0;obtain⟨a,c⟩:=q0;subst a;have g0:AgF x.ntmps e0 A0:=.of c.len fun N=>by
    have:=q N;rw[h1,h2]at this;exact this.2
   have ec:x.caps.map (av C e0)=x.caps.map (avA C A0):=List.map_congr_left fun y _=>ahm y (g0.ag _).agree;dsimp only;rw[ec];have g1:=g0.put (d:=some x.d) (by simpa[Qc]using k5) (.func (.func x.clo) [] (x.caps.map (avA C A0)))
   have q2:=aah (C:=C) (call:=call) (ct:=ct) x.body _ _ O0 k4 g1;unfold put yA at q2;dsimp only at q2;generalize e0.set x.d (.func (.func x.clo) [] (x.caps.map (avA C A0)))=e1 at q2⊢;generalize(x.d,AV.func (.func x.clo) [] (x.caps.map (avA C A0)))::A0=A1 at q2⊢;cases h3:evT C call ct x.body e1 O0 with
   |none=>
    rw[h3]at q2;cases h4:yz C call ct x.ntmps x.body A1 O0 with
    |none=>rfl
    |some r=>rw[h4]at q2;exact q2.elim
   |some r=>
    rw[h3]at q2;cases h4:yz C call ct x.ntmps x.body A1 O0 with
    |none=>rw[h4]at q2;exact q2.elim
    |some r'=>
     rw[h4]at q2;obtain⟨tx,e2,O2⟩:=r;obtain⟨tx',A2,O2'⟩:=r';obtain⟨rfl,rfl,q3⟩:=q2;dsimp only;rw[rV _ _ _ k2,<-hK];have ga:=ajd k.ntmps (x.caps.map (avA C A0)) k.r k.m (thrown tx) (by simpa using av8 k8) k6 k7
     rw[aw8]at ga;obtain⟨M,hM⟩:=aw3.mp k1;have q4:=wJ (C:=C) (call:=IK ct) K _ M _ hM _ _ O2 (ga.ag M);revert q4;cases kL C (IK ct) K.forget (((x.caps.map (avA C A0)++List.replicate (k.ntmps-x.caps.length) AV.undef).set k.r (thrown tx)).set k.m (thrown tx)) O2<;>cases dL C (IK ct) k.ntmps K ((k.m,thrown tx)::(k.r,thrown tx)::jF 0 (x.caps.map (avA C A0))) O2
     ·intro _;rfl
     ·intro h;exact h.elim
     ·intro h;exact h.elim
     ·rename_i r r';obtain⟨y,e3,O3⟩:=r;obtain⟨y',A3,O3'⟩:=r';rintro⟨h5,h6,_⟩;subst h5 h6;cases y with
      |exit i=>rfl
      |normal=>exact aaY q3 O x.results _
      |ret=>exact aaY q3 O x.results _
def Vs{C:Ctx}{call:aZ}{T:FuncId->Option TF}{f:FuncId}{x:TF}(h:T f=some x)(n:Nat)(args:LA)(O:St):mX C call T (n+1) f args O=runT C call (mX C call T n) x args O:=by
 rw[mX,h]
def aaT{C:Ctx}{call:aZ}{T:FuncId->Option TF}{f:FuncId}(h:T f=none)(n:Nat){args:LA}{O:St}{v:AV}{O':St}(hc:call f args O=some (v,O')):mX C call T n f args O=some (.ret v,O'):=by
 cases n with
 |zero=>rw[mX,hc]
 |succ n=>rw[mX,h];dsimp only;rw[hc]
def agW{C:Ctx}{ct:vW}{f:FuncId}{args:LA}{O:St}{v:AV}{O':St}(h:ct f args O=some (.ret v,O')):IK ct f args O=some (v,O'):=by
 rw[IK,h]
variable{call:aZ}{ct:vW}{n:Nat}
abbrev TR:=Option (TX×As×St)
def outT(ct:vW)(d:Option Nat)(A:As)(x:Option Out)(k:As->St->TR):TR:=match x with
 |some (.val v O')=>k (yA A d v) O'
 |some (.call f args O')=>match ct f args O' with
  |some (.ret v,O'')=>k (yA A d v) O''
  |some (.pan v,O'')=>some (.pan v,A,O'')
  |none=>none
 |none=>none
def tN(d:Nat)(A:As)(v:AV)(O:St)(k):outT ct (some d) A (some (.val v O)) k=k ((d,v)::A) O:=rfl
def qQ(A:As)(v:AV)(O:St)(k):outT ct none A (some (.val v O)) k=k A O:=rfl
def aoM(d:Option Nat)(A:As)(r:Option (Ans×St))(k:As->St->TR):TR:=match r with
 |some (.ret v,O'')=>k (yA A d v) O''
 |some (.pan v,O'')=>some (.pan v,A,O'')
 |none=>none
def qP(d:Option Nat)(A:As)(f:FuncId)(args:LA)(O:St)(k):outT ct d A (some (.call f args O)) k=aoM d A (ct f args O) k:=rfl
def uA(d:Nat)(A:As)(v:AV)(O:St)(k):aoM (some d) A (some (.ret v,O)) k=k ((d,v)::A) O:=rfl
def wo(d:Option Nat)(A:As)(v:AV)(O:St)(k):aoM d A (some (.pan v,O)) k=some (.pan v,A,O):=rfl
def BN(A:As)(O:St):jX C ct n [] A O=some (.normal,A,O):=rfl
def Vg(d:Nat)(i:XI)(l:List TOp)(A:As)(O:St):jX C ct n (.op (o d i)::l) A O=outT ct (some d) A (aB C (avA C A) n O i) (jX C ct n l):=rfl
def Yj(i:XI)(l:List TOp)(A:As)(O:St):jX C ct n (.op (u i)::l) A O=outT ct none A (aB C (avA C A) n O i) (jX C ct n l):=rfl
def Vf(d s:Nat)(l:List TOp)(A:As)(O:St):jX C ct n (.op (m d s)::l) A O=jX C ct n l ((d,look A s)::A) O:=rfl
def asT(d t:Nat)(A:As)(x:AV)(k:As->TR):TR:=match x with
 |.iface t' v=>match Nat.beq t' t with
  |true=>k ((d,.tup [v,.bool true])::A)
  |false=>none
 |_=>none
def Ko(d:Nat)(t:TypeId)(x:XA)(l:List TOp)(A:As)(O:St):jX C ct n (.assert d t x::l) A O=asT d t A (avA C A x) fun A=>jX C ct n l A O:=by
 rw[jX];unfold asT;cases avA C A x<;>rfl
def DK(d t:Nat)(A:As)(v:AV)(k):asT d t A (.iface t v) k=k ((d,.tup [v,.bool true])::A):=by
 unfold asT;dsimp only;rw[Nat.beq_refl]
def pnT(A:As)(O:St)(x:AV):TR:=match x with
 |.iface t v=>some (.pan (.iface t v),A,O)
 |_=>none
def IM(x:XA)(l:List TOp)(A:As)(O:St):jX C ct n (.panic x::l) A O=pnT A O (avA C A x):=by
 rw[jX];unfold pnT;cases avA C A x<;>rfl
def BF(A:As)(O:St)(t:TypeId)(v:AV):pnT A O (.iface t v)=some (.pan (.iface t v),A,O):=rfl
def alq(r:TR)(k:As->St->TR):TR:=match r with
 |some (.normal,A,O)=>k A O
 |r=>r
def jT(A:As)(O:St)(k):alq (some (.normal,A,O)) k=k A O:=rfl
def wR(A:As)(O:St)(k):alq (some (.ret,A,O)) k=some (.ret,A,O):=rfl
def wQ(v:AV)(A:As)(O:St)(k):alq (some (.pan v,A,O)) k=some (.pan v,A,O):=rfl
def BM(a b:TC)(A:As)(O:St):yz C call ct n (.seq a b) A O=alq (yz C call ct n a A O) (yz C call ct n b):=by
 rw[yz];unfold alq;rcases yz C call ct n a A O with _|⟨x,A',O'⟩
 ·rfl
 ·cases x<;>rfl
def ag7(x:AV)(a b:TR):TR:=match x with
 |.bool true=>a
 |.bool false=>b
 |_=>none
def wX(c:XA)(a b:TC)(A:As)(O:St):yz C call ct n (.cond c a b) A O=ag7 (avA C A c) (yz C call ct n a A O) (yz C call ct n b A O):=by
 rw[yz];unfold ag7;cases avA C A c with
 |bool x=>cases x<;>rfl
 |_=>rfl
def pV(a b:TR):ag7 (.bool true) a b=a:=rfl
def jR(a b:TR):ag7 (.bool false) a b=b:=rfl
def BK(l:List TOp)(A:As)(O:St):yz C call ct n (.ops l) A O=jX C ct n l A O:=rfl
def wY(A:As)(O:St):yz C call ct n .skip A O=some (.normal,A,O):=rfl
def BL(A:As)(O:St):yz C call ct n .ret A O=some (.ret,A,O):=rfl
def drT(r:Option (As×St)):TR:=match r with
 |some (A,O)=>some (.normal,A,O)
 |none=>none
def wz(A:As)(O:St):drT (some (A,O))=some (.normal,A,O):=rfl
def wU(l:List XOp)(A:As)(O:St):yz C call ct n (.drawn l) A O=drT (sW C call n l A O):=by
 rw[yz];unfold drT;rcases sW C call n l A O with _|⟨A',O'⟩<;>rfl
end Go.Ev
namespace Go.Ev
set_option maxRecDepth 100000
variable{C:Ctx}{call:aZ}{ct:vW}
def TT(f:FuncId):Option TF:=match Nat.beq f mY with
 |true=>some Ac
 |false=>match Nat.beq f oQ with
  |true=>some uj
  |false=>match Nat.beq f lG with
   |true=>some lm
   |false=>match Nat.beq f fO with
    |true=>some ig
    |false=>none
def zi(c:Int):AV:=.iface 156 (.agg [.int .u8 c])
def caught_is(n:Nat)(c:Int){O:St}(hσ:Ok O):mX C call TT (n+1) mY [zi c] O=some (.ret (.int .u8 c),O):=by
 rw[Vs (x:=Ac) rfl,abD (args1:=[zi c]) (O1:=O) (by rfl) (by rfl) (by rfl)]
 have ty:=fun L=>dE hσ (vs:=[.int .u8 c]) rfl L;unfold zi;simp only[Ac,BM,wX,BK,wY,BL,jR,jT,BN,Vg,Yj,Vf,IM,Ko,DK,BF,tN,qQ,N9,MX,aY,ty,AV.cells,AV.flat,splice,EVX,seval]
end Go.Ev
namespace Go.Ev
set_option maxRecDepth 100000
variable{C:Ctx}
def aeA (H:MadeHas C) (hf:Has C uI um) (n:Nat) {h l R now rc sc nm fs F r s m o fo oo} (rl:LU) (most:Int) {O:St} (hσ:Ok O) (a:bP O h l R now rc sc nm fs F r s m o fo oo) (hr:role rl=true) {d:LU} {z:Int} {S:St} (hg:ai C lL [.ref s 0,.str (rl++iJ),.int .i64 most] O=some (.tup [.str d,.int .i64 z,.int .i64 0],S)) (hS:tidy O.length [.str d,.int .i64 z] S=S):
  mX C (ai C) TT (n+1) oQ [.ref r 0,.str rl,.int .i64 most] O=some (.ret (.tup [.str d,.int .i64 z]),S):=by
 rw[Vs (x:=uj) rfl,abD (args1:=[.ref r 0,.str rl,.int .i64 most]) (O1:=O) (by rfl) (by rfl) (by rfl)]
 have q1:=aaT (C:=C) (call:=ai C) (T:=TT) (f:=uI) rfl n (Lu hf H.nrole H.allowed rl O);have fa:Ul rl=.tup [.str (rl++iJ),.int .i64 0]:=by simp[Ul,hr]
 rw[fa]at q1;have q2:=aaT (C:=C) (call:=ai C) (T:=TT) (f:=lL) rfl n hg;have rp:=a.rp;unfold Cm at rp;simp only[uj,q1,q2,rp,hS,BM,wX,BK,wY,BL,jR,jT,BN,Vg,Vf,IM,BF,tN,qP,uA,N9,MX,aY,AV.cells,splice,EVX,seval]
structure Req(O S:St)(s m:Nat)(F F':List dO)(oo oo':Option Nat):Prop where
 ok:Ok S
 len:O.length<=S.length
 old:∀i x,i≠s->i≠m->oo≠some i->O[i]?=some x->S[i]?=some x
 new:∀q,oo'=some q->oo=some q\/O.length<=q
 far:(S.take O.length=O/\F'=F/\oo'=oo)\/∃x,S[s]?=some x/\x.below O.length=false
def Req.refl{O:St}(h:Ok O)(s m:Nat)(F:List dO)(oo:Option Nat):Req O O s m F F oo oo:=
 ⟨h,a06 _,fun _ _ _ _ _ h=>h,fun _ h=>.inl h,.inl ⟨aD6,rfl,rfl⟩⟩
def Wh{n k:Nat}(h:n<=k){x:AO}(hx:x.below k=false):x.below n=false:=by
 cases h1:x.below n
 ·rfl
 ·rw[AO.below_mono h x h1]at hx;cases hx
def Req.base{O L S:St}{s m F F' oo oo'}(q:Req (O++L) S s m F F' oo oo'):Req O S s m F F' oo oo':=by
 have hl:O.length<=(O++L).length:=by simp
 refine⟨q.ok,ax7 hl q.len,fun i x a b c d=>q.old i x a b c (aA d _),fun k h=>?_,?_⟩
 ·rcases q.new k h with h|h
  ·exact .inl h
  ·exact .inr (ax7 hl h)
 ·rcases q.far with⟨a,b,c⟩|⟨x,a,b⟩
  ·refine .inl ⟨?_,b,c⟩;have:=congrArg (List.take O.length) a;rw[aD1,az7 hl,List.take_left']at this
   ·exact this
   ·rfl
  ·exact .inr ⟨x,a,Wh hl b⟩
theorem Req.more{O S T:St}{s m F F' oo oo'}(q:Req O S s m F F' oo oo')(hs:s<O.length)(ok:Ok T)(hl:S.length<=T.length)(h:∀i x,i<O.length->S[i]?=some x->T[i]?=some x):Req O T s m F F' oo oo':=by
 refine⟨ok,ax7 q.len hl,fun i x a b c d=>h i x (a00.mp d).1 (q.old i x a b c d),q.new,?_⟩;rcases q.far with⟨a,b,c⟩|⟨x,a,b⟩
 ·refine .inl ⟨?_,b,c⟩;refine aw5 fun k=>?_;rw[au7];split
  ·next hk=>
   have e:O[k]?=some O[k]:=a02 hk;have e2:S[k]?=O[k]?:=by
    have:=congrArg (fun l=>l[k]?) a;rw[au7,if_pos hk]at this;exact this
   rw[e];exact h k _ hk (by rw[e2,e])
  ·next hk=>exact(aw2 (by omega)).symm
 ·exact .inr ⟨x,h s x hs a,b⟩
def Req.trans{O S T:St}{s m F F' F'' oo oo' oo''}(p:Req O S s m F F' oo oo')(q:Req S T s m F' F'' oo' oo'')(hs:s<O.length)(hm:s≠m):Req O T s m F F'' oo oo'':=by
 refine⟨q.ok,ax7 p.len q.len,fun i x a b c d=>q.old i x a b (fun e=>?_) (p.old i x a b c d),fun k h=>?_,?_⟩
 ·have:=(a00.mp d).1;rcases p.new i e with e|e
  ·exact c e
  ·omega
 ·rcases q.new k h with h|h
  ·exact p.new k h
  ·exact .inr (ax7 p.len h)
 ·rcases q.far with⟨a,b,c⟩|⟨x,a,b⟩
  ·have tk:∀k x,k<S.length->S[k]?=some x->T[k]?=some x:=fun k x hk e=>by
    have:=congrArg (fun l=>l[k]?) a;rw[au7,if_pos hk]at this;rw[this,e]
   rcases p.far with⟨a',b',c'⟩|⟨x,a',b'⟩
   ·refine .inl ⟨?_,by rw[b,b'],by rw[c,c']⟩
    have:=congrArg (List.take O.length) a;rw[aD1,az7 p.len,a']at this;exact this
   ·exact .inr ⟨x,tk s x (ax8 hs p.len) a',b'⟩
  ·exact .inr ⟨x,a,Wh p.len b⟩
structure aoB(n:Nat)(r s m o:Nat)(fo oo:Option Nat):Prop where
 r:r<n
 s:s<n
 m:m<n
 o:o<n
 fo:∀q,fo=some q->q<n
 oo:∀q,oo=some q->q<n
def bP.lt{Y:St}{h l R now rc sc nm fs F r s m o fo oo}(a:bP Y h l R now rc sc nm fs F r s m o fo oo):aoB Y.length r s m o fo oo:=by
 obtain⟨fv,ov,h1,h2,h3⟩:=a.st.st;refine⟨(a00.mp a.rp).1,(a00.mp h1).1,(a00.mp a.st.mp).1,(a00.mp a.ver).1,fun q e=>?_,fun q e=>?_⟩
 ·rcases h2 with⟨_,h,_⟩|⟨q',fz,b1,b2,b3,b4⟩
  ·rw[h]at e;cases e
  ·rw[b1]at e;cases e;exact(a00.mp b4).1
 ·rcases h3 with⟨_,h,_⟩|⟨q',b1,b2,b3,b4⟩
  ·rw[h]at e;cases e
  ·rw[b1]at e;cases e;exact(a00.mp b4).1
def bP.moved{Y S:St}{h l R now rc sc nm fs F r s m o fo oo}(a:bP Y h l R now rc sc nm fs F r s m o fo oo)(hk:∀i x,(i=r\/i=s\/i=m\/i=o\/fo=some i\/oo=some i)->Y[i]?=some x->S[i]?=some x):bP S h l R now rc sc nm fs F r s m o fo oo:=by
 have k:=a.lt;have e:∀i,i<Y.length->(i=r\/i=s\/i=m\/i=o\/fo=some i\/oo=some i)->S[i]?=Y[i]?:=fun i hi hp=>by
  have:=a02 hi;rw[this];exact hk i _ hp this
 exact a.keep (e r k.r (.inl rfl)) (e o k.o (by simp)) (e s k.s (by simp)) (e m k.m (by simp)) (fun q h=>e q (k.fo q h) (by simp[h])) (fun q h=>e q (k.oo q h) (by simp[h]))
def bP.app{Y:St}{h l R now rc sc nm fs F r s m o fo oo}(a:bP Y h l R now rc sc nm fs F r s m o fo oo)(L:St):bP (Y++L) h l R now rc sc nm fs F r s m o fo oo:=a.moved fun i x _ h=>aA h L
def Req.repo{O S:St}{h l R now rc sc nm fs F F' r s m o fo oo oo'}(a:bP O h l R now rc sc nm fs F r s m o fo oo)(q:Req O S s m F F' oo oo')(b:jE S nm fs F' s m fo oo'):bP S h l R now rc sc nm fs F' r s m o fo oo':=by
 have k:=a.lt;have nr:oo'≠some r:=fun e=>by
  rcases q.new r e with e|e
  ·exact a.ro e
  ·have:=k.r;omega
 have no:oo'≠some o:=fun e=>by
  rcases q.new o e with e|e
  ·exact a.vo e
  ·have:=k.o;omega
 exact⟨q.old r _ a.rs a.rm a.ro a.rp,q.old o _ a.vs a.vm a.vo a.ver,b,a.rs,a.rm,nr,a.vs,a.vm,no,a.caps⟩
def Req.fin {O S:St} {h l R now rc sc nm fs F F' r s m o fo oo oo'} (hσ:Ok O) (a:bP O h l R now rc sc nm fs F r s m o fo oo) (q:Req O S s m F F' oo oo') (b:bP S h l R now rc sc nm fs F' r s m o fo oo') (vs:LA) (hv:ae 0 vs=true):
  ∃S',tidy O.length vs S=S'/\bP S' h l R now rc sc nm fs F' r s m o fo oo'/\Req O S' s m F F' oo oo':=by
 rcases q.far with⟨e1,e2,e3⟩|⟨x,e1,e2⟩
 ·refine⟨O,pG hσ hv e1,?_,?_⟩
  ·rw[e2,e3];exact a
  ·rw[e2,e3];exact .refl hσ _ _ _ _
 ·exact⟨S,Yh vs a.lt.s e1 e2,b,q⟩
def YK (H:StoHas C) {O:St} (hσ:Ok O) {h l R now rc sc nm fs F r s m o fo oo} (a:bP O h l R now rc sc nm fs F r s m o fo oo) (hF:F.length<1000000) (file:LU) (cap:Int) (hc:0<=cap/\cap<=65536):
  ∃S oo',ai C lL [.ref s 0,.str file,.int .i64 cap] O=some (.tup [.str (wH fs F file cap).1.data,.int .i64 (wH fs F file cap).1.size,.int .i64 0],S)/\bP S h l R now rc sc nm fs (wH fs F file cap).2 r s m o fo oo'/\Req O S s m F (wH fs F file cap).2 oo oo'/\∀vs,tidy O.length vs S=S:=by
 unfold wH;cases hf:F.find? (fun f=>decide (f.name=file))with
 |some f=>exact⟨O,oo,YM H hσ a.st file cap hc f hf,a,.refl hσ _ _ _ _,fun vs=>aS O vs⟩
 |none=>
  obtain⟨S,oo',q1,q2,q3,q4,q5,q6⟩:=YL H hσ a.st hF file cap hc hf;have fr:∃x,S[s]?=some x/\x.below O.length=false:=by
   obtain⟨fv,ov,h1,_,h3⟩:=q3.st;rcases h3 with⟨h3,_⟩|⟨k,b1,b2,b3,b4⟩
   ·simp at h3
   ·refine⟨_,h1,?_⟩;have:=q6 k b1;have n:¬k<O.length:=by omega
    rw[b3];simp[AO.below,ae,below,n]
  have q:Req O S s m F (F++[xB fs file cap]) oo oo':=⟨q2,q4,q5,fun k e=>.inr (q6 k e),.inr fr⟩;obtain⟨x,e1,e2⟩:=fr;exact⟨S,oo',q1,q.repo a q3,q,fun vs=>Yh vs a.lt.s e1 e2⟩
def fetch_any (H:MadeHas C) (hS:StoHas C) (hf:Has C uI um) (n:Nat) {h l R now rc sc nm fs F r s m o fo oo} (rl:LU) (most:Int) {O:St} (hσ:Ok O) (a:bP O h l R now rc sc nm fs F r s m o fo oo) (hF:F.length<1000000) (hc:0<=most/\most<=65536) (hr:role rl=true):
  ∃S oo',mX C (ai C) TT (n+1) oQ [.ref r 0,.str rl,.int .i64 most] O=some (.ret (.tup [.str (wH fs F (rl++iJ) most).1.data,.int .i64 (wH fs F (rl++iJ) most).1.size]),S)/\bP S h l R now rc sc nm fs (wH fs F (rl++iJ) most).2 r s m o fo oo'/\Req O S s m F (wH fs F (rl++iJ) most).2 oo oo':=by
 obtain⟨S,oo',q1,q2,q3,q4⟩:=YK hS hσ a hF (rl++iJ) most hc;exact⟨S,oo',aeA H hf n rl most hσ a hr q1 (q4 _),q2,q3⟩
structure Dt where
 sn:LU->Int->SnV×Int
 ro:mi->eu->List PS->LU->Int->kG×Int
structure Io(C:Ctx)(h:Bool)(l:List fV)(R:jQ)(now:Int)(K:Dt):Prop where
 snok:∀d z,d.length<=LB->(K.sn d z).1.ok
 sn:∀d z (O:St) (o:Nat),d.length<=LB->Ok O->O[o]?=some (Ep h l)->ai C nG [.ref o 0,.agg R.cs,.int .i64 now,.str d,.int .i64 z] O=some (.tup [.agg (K.sn d z).1.cs,.int .u8 (K.sn d z).2],O)
 snz:∀d z,(K.sn d z).2≠0->(K.sn d z).1=Vj
 roz:∀p a ks d z,(K.ro p a ks d z).2≠0->(K.ro p a ks d z).1=ML
 rook:∀p a ks d z,zC p.hashes->xM a.ids->zC ks->d.length<=LB->(K.ro p a ks d z).1.ok
 ro:∀p a ks d z (O:St) (o:Nat),zC p.hashes->xM a.ids->zC ks->d.length<=LB->Ok O->O[o]?=some (Ep h l)->ai C yO [.ref o 0,.agg p.cs,.agg a.cs,.sl ks.length (ks.flatMap pC),.int .i64 now,.str d,.int .i64 z] O=some (.tup [.agg (K.ro p a ks d z).1.cs,.int .u8 (K.ro p a ks d z).2],O)
def yB(fs:List PS)(F:List dO):Prop:=∀f∈F,f=xB fs f.name f.cap
def Du(fs:List PS):Prop:=∀p∈fs,p.2.length<=LB
def Ea(fs:List PS)(file:LU)(cap:Int):(xB fs file cap).cap=cap:=by
 unfold xB ab3;split
 ·split<;>rfl
 ·rfl
def ahB{fs:List PS}(h:Du fs)(file:LU)(cap:Int):(xB fs file cap).data.length<=LB:=by
 unfold xB;cases hf:fs.find? (fun p=>decide (p.1=file))with
 |none=>exact a98 _
 |some p=>
  unfold ab3;dsimp only;split
  ·exact a98 _
  ·exact h p (List.mem_of_find?_eq_some hf)
def ab7{fs:List PS}{F:List dO}(hF:yB fs F)(file:LU)(cap:Int):yB fs (wH fs F file cap).2/\(wH fs F file cap).1=xB fs file (wH fs F file cap).1.cap:=by
 unfold wH;cases hf:F.find? (fun f=>decide (f.name=file))with
 |some f=>
  have h1:=hF f (List.mem_of_find?_eq_some hf);have h2:f.name=file:=by simpa using List.find?_some hf
  rw[h2]at h1;exact⟨hF,h1⟩
 |none=>
  refine⟨fun f h=>?_,by dsimp only;rw[Ea]⟩
  rcases az8.mp h with h|h
  ·exact hF f h
  ·rw[aA2.mp h,Dn,Ea]
def acQ(fs:List PS)(F:List dO)(file:LU)(cap:Int):(wH fs F file cap).2.length<=F.length+1:=by
 unfold wH;split
 ·exact Nat.le_succ _
 ·simp
def Lj{fs:List PS}{F:List dO}(hd:Du fs)(hF:yB fs F)(file:LU)(cap:Int):(wH fs F file cap).1.data.length<=LB:=by
 rw[(ab7 hF file cap).2];exact ahB hd _ _
def Bz:LU:=[115,110,97,112,115,104,111,116]
def gU(K:Dt)(fs:List PS)(sc:Int)(F:List dO):(SnV×Int)×List dO:=
 let g:=wH fs F (Bz++iJ) sc
 (K.sn g.1.data g.1.size,g.2)
structure Su(C:Ctx):Prop extends MadeHas C where
 sto:StoHas C
 file:Has C uI um
 rmade:Has C kJ ni
 pin:VW C
def Tu(hC:Has C kJ ni){h l R now rc sc nm fs F r s m o fo oo}{O:St}(a:bP O h l R now rc sc nm fs F r s m o fo oo):ai C kJ [.ref r 0] O=some (.bool true,O):=by
 have hn:=iI r O;have rp:=a.rp;unfold Cm at rp;rw[hC.go hn];simp only[ni,rp,EVX,seval]
def Qe{n0:Nat}{rs:List XR}{A:As}{O:St}{vs:LA}(h:aY A O rs=some vs)(hv:NVs vs):MX n0 rs A O=some (bD vs,tidy n0 vs O):=by
 unfold MX;rw[h];dsimp only;rw[hv.hand]
def UZ(c:Int)(v:AV):Ans:=if c=0 then .ret v else .pan (zi c)
def Rz (H:Su C) (n:Nat) {h l R now rc sc nm fs F r s m o fo oo K} (hK:Io C h l R now K) (hd:Du fs) (hFo:yB fs F) {O:St} (hσ:Ok O) (a:bP O h l R now rc sc nm fs F r s m o fo oo) (hF:F.length<1000000):
  ∃S oo',mX C (ai C) TT (n+2) lG [.ref r 0] O=some (UZ (gU K fs sc F).1.2 (.agg (gU K fs sc F).1.1.cs),S)/\bP S h l R now rc sc nm fs (gU K fs sc F).2 r s m o fo oo'/\Req O S s m F (gU K fs sc F).2 oo oo':=by
 have k:=a.lt;have hc:0<=sc/\sc<=65536:=by have:=a.caps.2;unfold U6 at this;simpa using this
 have ok1:Ok (O++[.cells [.int .i64 0,.int .i64 0,.nils] FZ]):=hσ.plus rfl;obtain⟨S,oo',q1,b,q⟩:=fetch_any H.toMadeHas H.sto H.file n Bz sc ok1 (a.app _) hF hc (by decide)
 have e1:(wH fs F (Bz++iJ) sc).2=(gU K fs sc F).2:=rfl;rw[e1]at b q;obtain⟨g,hg⟩:∃g,wH fs F (Bz++iJ) sc=g:=⟨_,rfl⟩;have e2:(gU K fs sc F).1=K.sn g.1.data g.1.size:=by rw[<-hg];rfl
 have dl:g.1.data.length<=LB:=by rw[<-hg];exact Lj hd hFo _ _
 rw[e2];rw[hg]at q1;have q2:=hK.sn g.1.data g.1.size S o dl q.ok b.ver;generalize K.sn g.1.data g.1.size=t at*;obtain⟨t,c⟩:=t;dsimp only at*;have kb:=b.lt;have z:S[O.length]?=some (.cells [.int .i64 0,.int .i64 0,.nils] FZ):=q.old _ _ (by have:=k.s;omega) (by have:=k.m;omega) (fun e=>by have:=k.oo _ e;omega) (by rw[aQ];rfl)
 have tc:AO.below 0 (.cells t.cs FZ)=true:=t.nvs.cl;have rp:=b.rp;have mk:=Tu H.rmade (a.app [.cells [.int .i64 0,.int .i64 0,.nils] FZ]);have mk2:=aaT (C:=C) (call:=ai C) (T:=TT) (f:=kJ) rfl (n+1) mk;have qb:=q.base;have okT1:Ok (S++[.cells t.cs FZ]):=q.ok.plus (by rw[a88,tc];rfl)
 rw[Vs (x:=lm) rfl,abD (args1:=[.ref r 0]) (O1:=O) (by rfl) (by rfl) (by rfl)]
 have zS:=fun L=>aA z L;have pS:=fun L y=>dJ z L y;have rpS:=fun L=>aA rp L;have rp0:(O++[.cells [.int .i64 0,.int .i64 0,.nils] FZ])[r]?=_:=aA a.rp _;have Rc:=R.cs_is;have Sc:t.cs=[.int .i64 t.ver,.int .i64 t.exp,.sl t.pins.length (t.pins.flatMap mi.cs)]:=rfl;unfold Cm at rp rpS rp0;rw[Rc]at rp rpS rp0 q2;rw[Sc]at q2 okT1 tc⊢;simp only[a99,au3]at rp rpS rp0;unfold Bz at q1;by_cases hc0:c=0
 ·subst hc0;have okT:Ok ((S.set O.length (.cells [.int .i64 t.ver,.int .i64 t.exp,.sl t.pins.length (t.pins.flatMap mi.cs)] FZ))++[.cells [.int .i64 t.ver,.int .i64 t.exp,.sl t.pins.length (t.pins.flatMap mi.cs)] FZ]):=(Ok.set2 q.ok _ (AO.below_mono (a98 _) _ tc)).plus (by rw[a88,tc];rfl)
  have bT:bP (S.set O.length (.cells [.int .i64 t.ver,.int .i64 t.exp,.sl t.pins.length (t.pins.flatMap mi.cs)] FZ)) h l R now rc sc nm fs (gU K fs sc F).2 r s m o fo oo':=b.moved fun i x hi e=>aF e (fun e'=>by
   subst e';rcases hi with e|e|e|e|e|e
   ·have:=k.r;omega
   ·have:=k.s;omega
   ·have:=k.m;omega
   ·have:=k.o;omega
   ·have:=k.fo _ e;omega
   ·rcases q.new _ e with e|e
    ·have:=k.oo _ e;omega
    ·simp at e;omega) _
  have qT:=qb.more k.s okT (by simp) (fun i x hi e=>aA (aF e (by omega) _) _)
  obtain⟨S',t1,t2,t3⟩:=qT.fin hσ a (bT.app _) [.agg [.int .i64 t.ver,.int .i64 t.exp,.sl t.pins.length (t.pins.flatMap mi.cs)]] (by rw[ae,below];rw[AO.below]at tc;rw[tc];rfl)
  refine⟨S',oo',?_,t2,t3⟩;have sg:=bg z (.cells [.int .i64 t.ver,.int .i64 t.exp,.sl t.pins.length (t.pins.flatMap mi.cs)] FZ);have sgL:=fun L=>aA sg L;simp only[lm,mk2,q1,q2,rp,rp0,zS,pS,wU,wz,BM,wX,BK,wY,BL,pV,jR,jT,wR,wQ,BN,Vg,Yj,Vf,IM,Ko,DK,BF,tN,qQ,qP,uA,wo,N9,AV.cells,AV.flat,splice,EVX,seval];rw[Qe (vs:=[.agg [.int .i64 t.ver,.int .i64 t.exp,.sl t.pins.length (t.pins.flatMap mi.cs)]]) (by simp only[aY,sgL,EVX,seval]) (.cons (.agg t.nvs) .nil),t1]
  rfl
 ·have hc0':(c !=0)=true:=by simpa using hc0
  obtain⟨S',t1,t2,t3⟩:=(qb.more k.s okT1 (by simp) (fun i x hi e=>aA e _)).fin hσ a (b.app _) [zi c] rfl
  refine⟨S',oo',?_,t2,t3⟩;unfold zi at t1;simp only[lm,mk2,q1,q2,rp,rp0,hc0',t1,UZ,hc0,zi,wU,wz,BM,wX,BK,wY,BL,pV,jR,jT,wR,wQ,BN,Vg,Yj,Vf,IM,Ko,DK,BF,tN,qQ,qP,uA,wo,N9,AV.cells,AV.flat,splice,EVX,seval]
def Bo(K:Dt)(fs:List PS)(rl:LU)(a:eu)(ks:List PS)(p:mi)(most:Int)(F:List dO):(kG×Int)×List dO:=
 let g:=wH fs F (rl++iJ) most
 (K.ro p a ks g.1.data g.1.size,g.2)
def lH(K:Dt)(fs:List PS)(rc sc:Int)(rl:LU)(a:eu)(ks:List PS)(F:List dO):(kG×Int)×List dO:=
 let s:=gU K fs sc F
 if s.1.2=0 then
  match sD s.1.1 rl with
  |none=>((ML,1),s.2)
  |some p=>if p.length<0 then Bo K fs rl a ks p rc s.2 else if rc<p.length then((ML,3),s.2)else Bo K fs rl a ks p p.length s.2
 else((ML,s.1.2),s.2)
def SnV.ok.small{s:SnV}(h:s.ok):Sz s:=⟨by have:=h.len;omega,fun p hp=>by have:=(h.each p hp).1.1;omega⟩
def J5{C h l R now K}(hK:Io C h l R now K){fs F}(hd:Du fs)(hFo:yB fs F)(sc:Int):(gU K fs sc F).1.1.ok/\yB fs (gU K fs sc F).2/\(gU K fs sc F).2.length<=F.length+1:=
 ⟨hK.snok _ _ (Lj hd hFo _ _),(ab7 hFo _ _).1,acQ _ _ _ _⟩
def Hy{s:SnV}{r:LU}{p:mi}(h:sD s r=some p):role r=true/\p∈s.pins/\p.name=r++iJ:=by
 unfold sD at h;split at h
 ·next hr=>exact⟨hr,List.mem_of_find?_eq_some h,by simpa using List.find?_some h⟩
 ·cases h
def PE(t:kG):AO.below 0 (.cells t.cs FZ)=true:=t.nvs.cl
def ab9{l:LA}(h:NVs l)(i k:Nat)(O:St):hand false (.ref i k::l) O=some (.ref i k::l,O):=by
 show(match df O 12 (.ref i k::l)with|some (l,fs)=>some (l,freeze O fs)|none=>none)=_
 rw[show df O 12 (.ref i k::l)=aT O (df O 11) (.ref i k::l)from rfl,aK,apy,h.nf];rfl
def ae0 (H:Su C) (n:Nat) {h l R now rc sc nm fs F r s m o fo oo K} (hK:Io C h l R now K) (hd:Du fs) (hFo:yB fs F) {O:St} (hσ:Ok O) (a:bP O h l R now rc sc nm fs F r s m o fo oo) (hF:F.length+1<1000000) (rl:LU) (au:eu) (ks:List PS) (ha:xM au.ids) (hk:zC ks):
  ∃S oo',mX C (ai C) TT (n+3) fO [.ref r 0,.str rl,.agg au.cs,.sl ks.length (ks.flatMap pC)] O=some (UZ (lH K fs rc sc rl au ks F).1.2 (.agg (lH K fs rc sc rl au ks F).1.1.cs),S)/\bP S h l R now rc sc nm fs (lH K fs rc sc rl au ks F).2 r s m o fo oo'/\Req O S s m F (lH K fs rc sc rl au ks F).2 oo oo':=by
 have k:=a.lt;have ac:au.cs=[.int .i64 au.th,.sl au.ids.length (au.ids.flatMap sC)]:=rfl;have ab:AO.below 0 (.cells au.cs FZ)=true:=au.below;have zb:AO.below 0 (.cells [.int .i64 0,.int .i64 0,.nils,.nils,.nils,.int .i64 0,.nils,.int .i64 0,.str []] FZ)=true:=rfl;have ok1:Ok (O++[.cells au.cs FZ,.cells [.int .i64 0,.int .i64 0,.nils,.nils,.nils,.int .i64 0,.nils,.int .i64 0,.str []] FZ]):=hσ.plus (by simp only[a88,aw1,ab,zb,av9])
 obtain⟨S,oo',q1,b,q⟩:=Rz H n hK hd hFo ok1 (a.app _) (by omega)
 obtain⟨sok,sfo,sln⟩:=J5 hK hd hFo sc;have cap:=fun O hσ=>aht H.pin (gU K fs sc F).1.1 sok.small rl rc O hσ;have rcv:0<=rc/\rc<=65536:=by have:=a.caps.1;unfold U6 at this;simpa using this
 have rP:lH K fs rc sc rl au ks F=(let s:=gU K fs sc F
  if s.1.2=0 then
   match sD s.1.1 rl with
   |none=>((ML,1),s.2)
   |some p=>if p.length<0 then Bo K fs rl au ks p rc s.2 else if rc<p.length then((ML,3),s.2)else Bo K fs rl au ks p p.length s.2
  else((ML,s.1.2),s.2)):=rfl
 dsimp only at rP;rw[rP];clear rP;generalize gU K fs sc F=sp at*;obtain⟨⟨sv,c⟩,F1⟩:=sp;dsimp only at*;have kb:=b.lt;have qb:=q.base;have kp:∀i x,i<O.length+2->i≠r->i≠s->i≠m->i≠o->oo≠some i->(O++[.cells au.cs FZ,.cells [.int .i64 0,.int .i64 0,.nils,.nils,.nils,.int .i64 0,.nils,.int .i64 0,.str []] FZ])[i]?=some x->S[i]?=some x:=fun i x _ _ h2 h3 _ h5 e=>q.old i x h2 h3 h5 e;have sl2:O.length+2<=S.length:=by have:=q.len;simpa using this
 have x0:S[O.length]?=some (.cells au.cs FZ):=q.old _ _ (by have:=k.s;omega) (by have:=k.m;omega) (fun e=>by have:=k.oo _ e;omega) (by rw[aQ];rfl)
 have x1:S[O.length+1]?=some (.cells [.int .i64 0,.int .i64 0,.nils,.nils,.nils,.int .i64 0,.nils,.int .i64 0,.str []] FZ):=q.old _ _ (by have:=k.s;omega) (by have:=k.m;omega) (fun e=>by have:=k.oo _ e;omega) (by rw[dM];rfl)
 have oo1:oo'≠some O.length/\oo'≠some (O.length+1):=by
  refine⟨fun e=>?_,fun e=>?_⟩<;>rcases q.new _ e with e|e
  ·have:=k.oo _ e;omega
  ·rw[a04]at e;simp only[a07,a09]at e;omega
  ·have:=k.oo _ e;omega
  ·rw[a04]at e;simp only[a07,a09]at e;omega
 have Rc:=R.cs_is;have Sc:sv.cs=[.int .i64 sv.ver,.int .i64 sv.exp,.sl sv.pins.length (sv.pins.flatMap mi.cs)]:=rfl;have rp:=b.rp;unfold Cm at rp;rw[Rc]at rp;simp only[a99,au3]at rp;have rpS:=fun L=>aA rp L;have run:=(Vs (C:=C) (call:=ai C) (T:=TT) (f:=fO) (x:=ig) rfl (n+2) [.ref r 0,.str rl,.agg au.cs,.sl ks.length (ks.flatMap pC)] O).trans (abD (args1:=[.ref r 0,.str rl,.agg au.cs,.sl ks.length (ks.flatMap pC)]) (O1:=O) (by rfl) (ab9 (.cons (.str _) (.cons (afT au) (.cons (yY ks) .nil))) _ _ _) (by rfl))
 by_cases hc0:c=0
 case neg=>
  rw[if_neg hc0];obtain⟨S',t1,t2,t3⟩:=qb.fin hσ a b [zi c] rfl;refine⟨S',oo',?_,t2,t3⟩;unfold UZ at q1⊢;rw[if_neg hc0]at q1⊢;unfold zi at q1 t1⊢;rw[run];simp only[ig,q1,t1,wU,wz,BM,wX,BK,wY,BL,pV,jR,jT,wR,wQ,BN,Vg,Yj,Vf,IM,Ko,DK,BF,tN,qQ,qP,uA,wo,N9,AV.cells,AV.flat,splice,EVX,seval]
 rw[if_pos hc0];unfold UZ at q1;rw[if_pos hc0,Sc]at q1;have svb:AO.below 0 (.cells sv.cs FZ)=true:=sv.nvs.cl;have okS1:Ok (S++[.cells sv.cs FZ]):=q.ok.plus (by rw[a88,svb];rfl)
 have cp:=cap _ okS1;unfold UO at cp;rw[Sc]at cp;have bad:∀e:Int,e≠0->Yx (sD sv rl) rc=.tup [.agg kz,.int .i64 0,.int .u8 e]->∃S' oo',mX C (ai C) TT (n+3) fO [.ref r 0,.str rl,.agg au.cs,.sl ks.length (ks.flatMap pC)] O=some (.pan (zi e),S')/\bP S' h l R now rc sc nm fs F1 r s m o fo oo'/\Req O S' s m F F1 oo oo':=by
  intro e he hcap;rw[hcap]at cp;have zpb:AO.below 0 (.cells kz FZ)=true:=rfl;have okT:Ok (S++[.cells sv.cs FZ,.cells kz FZ]):=q.ok.plus (by simp only[a88,aw1,svb,zpb,av9])
  obtain⟨S',t1,t2,t3⟩:=(qb.more k.s okT (by simp) (fun i x hi e=>aA e _)).fin hσ a (b.app _) [zi e] rfl
  refine⟨S',oo',?_,t2,t3⟩;have he':(e !=0)=true:=by simpa using he
  rw[Sc]at t1;unfold zi kz at*;rw[run];simp only[ig,q1,cp,rpS,he',t1,aQ,jm,wU,wz,BM,wX,BK,wY,BL,pV,jR,jT,wR,wQ,BN,Vg,Yj,Vf,IM,Ko,DK,BF,tN,qQ,qP,uA,wo,N9,AV.cells,AV.flat,splice,EVX,seval]
 have good:∀(p:mi) (most:Int),sD sv rl=some p->(0<=most/\most<=65536)->Yx (sD sv rl) rc=.tup [.agg p.cs,.int .i64 most,.int .u8 0]->∃S' oo',mX C (ai C) TT (n+3) fO [.ref r 0,.str rl,.agg au.cs,.sl ks.length (ks.flatMap pC)] O=some (UZ (Bo K fs rl au ks p most F1).1.2 (.agg (Bo K fs rl au ks p most F1).1.1.cs),S')/\bP S' h l R now rc sc nm fs (Bo K fs rl au ks p most F1).2 r s m o fo oo'/\Req O S' s m F (Bo K fs rl au ks p most F1).2 oo oo':=by
  intro p most hp hm hcap;rw[hcap]at cp;obtain⟨pr,pm,_⟩:=Hy hp;have hph:=(sok.each p pm).1;have pb:AO.below 0 (.cells p.cs FZ)=true:=p.bel;have okS2:Ok (S++[.cells sv.cs FZ,.cells p.cs FZ]):=q.ok.plus (by simp only[a88,aw1,svb,pb,av9])
  obtain⟨U,o2,g1,g2,g3⟩:=fetch_any H.toMadeHas H.sto H.file (n+1) rl most okS2 (b.app _) (by omega) hm pr
  have dl:(wH fs F1 (rl++iJ) most).1.data.length<=LB:=Lj hd sfo _ _;have e1:(Bo K fs rl au ks p most F1).1=K.ro p au ks (wH fs F1 (rl++iJ) most).1.data (wH fs F1 (rl++iJ) most).1.size:=rfl;have e2:(Bo K fs rl au ks p most F1).2=(wH fs F1 (rl++iJ) most).2:=rfl;rw[e1,e2];have q2:=hK.ro p au ks _ (wH fs F1 (rl++iJ) most).1.size U o hph ha hk dl g3.ok g2.ver;generalize wH fs F1 (rl++iJ) most=g at*;generalize K.ro p au ks g.1.data g.1.size=tv at*;obtain⟨tv,d⟩:=tv;dsimp only at*;have ub:=g2.rp;unfold Cm at ub;rw[Rc]at ub;simp only[a99,au3]at ub;have ubS:=fun L=>aA ub L;have kb2:s≠S.length+1/\m≠S.length+1/\oo'≠some (S.length+1):=⟨by have:=kb.s;omega,by have:=kb.m;omega,fun e=>by have:=kb.oo _ e;omega⟩
  have y0:U[O.length]?=some (.cells au.cs FZ):=g3.old _ _ (by have:=k.s;omega) (by have:=k.m;omega) oo1.1 (aA x0 _)
  have y1:=g3.old _ _ (by have:=k.s;omega) (by have:=k.m;omega) oo1.2 (aA x1 _)
  have y2:U[S.length+1]?=some (.cells p.cs FZ):=g3.old _ _ (Ne.symm kb2.1) (Ne.symm kb2.2.1) kb2.2.2 (by rw[dM];rfl)
  have tb:=PE tv;have qU:Req O U s m F g.2 oo o2:=(qb.more k.s okS2 (by simp) (fun i x hi e=>aA e _)).trans g3 k.s b.st.sm
  have pc:p.cs=[.str p.name,.int .i64 p.version,.int .i64 p.length,.sl p.hashes.length (p.hashes.flatMap pC)]:=rfl;have y0S:=fun L=>aA y0 L;have y2S:=fun L=>aA y2 L;have y1S:=fun L=>aA y1 L;have y1p:=fun L y=>dJ y1 L y;rw[ac]at y0 y0S q2;have spT:splice [.int .i64 0,.int .i64 0,.nils,.nils,.nils,.int .i64 0,.nils,.int .i64 0,.str []] 0 tv.cs=tv.cs:=rfl;by_cases hd0:d=0
  ·subst hd0;have okT:Ok (U.set (O.length+1) (.cells tv.cs FZ)++[.cells tv.cs FZ]):=(Ok.set2 g3.ok _ (AO.below_mono (a98 _) _ tb)).plus (by rw[a88,tb];rfl)
   have ku:=g2.lt;have bT:bP (U.set (O.length+1) (.cells tv.cs FZ)) h l R now rc sc nm fs g.2 r s m o fo o2:=g2.moved fun i x hi e=>aF e (fun e'=>by
    subst e';rcases hi with e|e|e|e|e|e
    ·have:=k.r;omega
    ·have:=k.s;omega
    ·have:=k.m;omega
    ·have:=k.o;omega
    ·have:=k.fo _ e;omega
    ·rcases g3.new _ e with e|e
     ·exact oo1.2 e
     ·rw[a04]at e;simp only[a07,a09]at e;omega) _
   have qT:=qU.more k.s okT (by simp) (fun i x hi e=>aA (aF e (by omega) _) _)
   obtain⟨S',t1,t2,t3⟩:=qT.fin hσ a (bT.app _) [.agg tv.cs] (by rw[ae,below];rw[AO.below]at tb;rw[tb];rfl)
   refine⟨S',o2,?_,t2,t3⟩;have sg:=bg y1 (.cells tv.cs FZ);have sgL:=fun L=>aA sg L;rw[Sc]at g1;rw[pc]at g1 cp y2 y2S q2;rw[run];simp only[ig,q1,cp,rpS,g1,q2,ub,y0,y1S,y1p,y2,kG.len,kG.tk,kG.fl,aQ,jm,UZ,wU,wz,BM,wX,BK,wY,BL,pV,jR,jT,wR,wQ,BN,Vg,Yj,Vf,IM,Ko,DK,BF,tN,qQ,qP,uA,wo,N9,AV.cells,AV.flat,splice,EVX,seval];rw[Qe (vs:=[.agg tv.cs]) (by simp only[aY,sgL,kG.len,kG.tk,EVX,seval]) (.cons (.agg tv.nvs) .nil),t1]
   rfl
  ·have hd0':(d !=0)=true:=by simpa using hd0
   have okT:Ok (U++[.cells tv.cs FZ]):=g3.ok.plus (by rw[a88,tb];rfl)
   obtain⟨S',t1,t2,t3⟩:=(qU.more k.s okT (by simp) (fun i x hi e=>aA e _)).fin hσ a (g2.app _) [zi d] rfl
   refine⟨S',o2,?_,t2,t3⟩;rw[Sc]at g1;rw[pc]at g1 cp y2 y2S q2;unfold zi at t1;rw[run];simp only[ig,q1,cp,rpS,g1,q2,ub,y0,y2,kG.len,kG.fl,aQ,jm,hd0',t1,UZ,hd0,zi,wU,wz,BM,wX,BK,wY,BL,pV,jR,jT,wR,wQ,BN,Vg,Yj,Vf,IM,Ko,DK,BF,tN,qQ,qP,uA,wo,N9,AV.cells,AV.flat,splice,EVX,seval]
 cases hp:sD sv rl with
 |none=>exact bad 1 (by decide) (by rw[hp];rfl)
 |some p=>
  by_cases c1:p.length<0
  ·simp only[c1,if_true];exact good p rc hp rcv (by rw[hp];simp[Yx,c1])
  ·by_cases c2:rc<p.length
   ·simp only[c1,c2,if_true,if_false];exact bad 3 (by decide) (by rw[hp];simp[Yx,c1,c2])
   ·simp only[c1,c2,if_false];exact good p p.length hp (by omega) (by rw[hp];simp[Yx,c1,c2])
def XP{C h l R now K}(hK:Io C h l R now K){fs F}(hd:Du fs)(hFo:yB fs F)(rc sc:Int)(rl:LU)(au:eu)(ks:List PS)(ha:xM au.ids)(hk:zC ks):(lH K fs rc sc rl au ks F).1.1.ok/\yB fs (lH K fs rc sc rl au ks F).2/\(lH K fs rc sc rl au ks F).2.length<=F.length+2/\((lH K fs rc sc rl au ks F).1.2≠0->(lH K fs rc sc rl au ks F).1.1=ML):=by
 obtain⟨s1,s2,s3⟩:=J5 hK hd hFo sc;unfold lH;dsimp only;generalize gU K fs sc F=sp at*;obtain⟨⟨sv,c⟩,F1⟩:=sp;dsimp only at*;have q:∀p most,sD sv rl=some p->(Bo K fs rl au ks p most F1).1.1.ok/\yB fs (Bo K fs rl au ks p most F1).2/\(Bo K fs rl au ks p most F1).2.length<=F.length+2/\((Bo K fs rl au ks p most F1).1.2≠0->(Bo K fs rl au ks p most F1).1.1=ML):=fun p most hp=>
  ⟨hK.rook _ _ _ _ _ (s1.each p (Hy hp).2.1).1 ha hk (Lj hd s2 _ _),(ab7 s2 _ _).1,by have:=acQ fs F1 (rl++iJ) most;unfold Bo;dsimp only;omega,fun e=>hK.roz _ _ _ _ _ e⟩
 by_cases hc:c=0
 ·rw[if_pos hc];cases hp:sD sv rl with
  |none=>exact⟨RY,s2,by dsimp only;omega,fun _=>rfl⟩
  |some p=>
   dsimp only;by_cases c1:p.length<0
   ·rw[if_pos c1];exact q p _ hp
   ·rw[if_neg c1];by_cases c2:rc<p.length
    ·rw[if_pos c2];exact⟨RY,s2,by dsimp only;omega,fun _=>rfl⟩
    ·rw[if_neg c2];exact q p _ hp
 ·rw[if_neg hc];exact⟨RY,s2,by dsimp only;omega,fun _=>rfl⟩
def WF{n0:Nat}{rs:List XR}{A:As}{O:St}{vs vs':LA}(h:aY A O rs=some vs)(hv:hand false vs O=some (vs',O)):MX n0 rs A O=some (bD vs',tidy n0 vs' O):=by
 unfold MX;rw[h];dsimp only;rw[hv]
def aaA (H:Su C) (n:Nat) {h l R now rc sc nm fs F r s m o fo oo K} (hK:Io C h l R now K) (hd:Du fs) (hFo:yB fs F) {O:St} (hσ:Ok O) (a:bP O h l R now rc sc nm fs F r s m o fo oo) (hF:F.length<1000000):
  ∃S oo',xJ C (ai C) (mX C (ai C) TT (n+2)) dQ dw [.ref r 0] O=some (.tup [.agg (gU K fs sc F).1.1.cs,.int .u8 (gU K fs sc F).1.2],S)/\bP S h l R now rc sc nm fs (gU K fs sc F).2 r s m o fo oo'/\Req O S s m F (gU K fs sc F).2 oo oo':=by
 have k:=a.lt;have ok1:Ok (O++[.cells [.int .i64 0,.int .i64 0,.nils] FZ,.cells [.int .u8 0] FZ]):=hσ.plus rfl;obtain⟨S,oo',q1,b,q⟩:=Rz H n hK hd hFo ok1 (a.app _) hF;have sz:(gU K fs sc F).1.2≠0->(gU K fs sc F).1.1=Vj:=hK.snz _ _;generalize gU K fs sc F=sp at*;obtain⟨⟨sv,c⟩,F1⟩:=sp;dsimp only at*;have kb:=b.lt;have qb:=q.base;have x0:S[O.length]?=some (.cells [.int .i64 0,.int .i64 0,.nils] FZ):=q.old _ _ (by have:=k.s;omega) (by have:=k.m;omega) (fun e=>by have:=k.oo _ e;omega) (by rw[aQ];rfl)
 have x1:S[O.length+1]?=some (.cells [.int .u8 0] FZ):=q.old _ _ (by have:=k.s;omega) (by have:=k.m;omega) (fun e=>by have:=k.oo _ e;omega) (by rw[dM];rfl)
 have oo1:∀i,i<2->oo'≠some (O.length+i):=by
  intro i hi e;rcases q.new _ e with e|e
  ·have:=k.oo _ e;omega
  ·rw[a04]at e;simp only[a07,a09]at e;omega
 have Sc:sv.cs=[.int .i64 sv.ver,.int .i64 sv.exp,.sl sv.pins.length (sv.pins.flatMap mi.cs)]:=rfl;have svb:AO.below 0 (.cells sv.cs FZ)=true:=sv.nvs.cl;have fin:∀(cs:LA) (d:Int),ae 0 cs=true->∃S',tidy O.length [.agg sv.cs,.int .u8 c] ((S.set O.length (.cells cs FZ)).set (O.length+1) (.cells [.int .u8 d] FZ))=S'/\bP S' h l R now rc sc nm fs F1 r s m o fo oo'/\Req O S' s m F F1 oo oo':=by
  intro cs d hcs;have okT:Ok ((S.set O.length (.cells cs FZ)).set (O.length+1) (.cells [.int .u8 d] FZ)):=Ok.set2 (Ok.set2 q.ok _ (by rw[AO.below];exact aO (a98 _) _ hcs)) _ rfl
  have bT:bP ((S.set O.length (.cells cs FZ)).set (O.length+1) (.cells [.int .u8 d] FZ)) h l R now rc sc nm fs F1 r s m o fo oo':=b.moved fun i x hi e=>by
   have:∀j,j<2->i≠O.length+j:=fun j hj e'=>by
    subst e';rcases hi with e|e|e|e|e|e
    ·have:=k.r;omega
    ·have:=k.s;omega
    ·have:=k.m;omega
    ·have:=k.o;omega
    ·have:=k.fo _ e;omega
    ·exact oo1 j hj e
   exact aF (aF e (this 0 (by decide)) _) (this 1 (by decide)) _
  have qT:=qb.more k.s okT (by simp) (fun i x hi e=>aF (aF e (by omega) _) (by omega) _)
  exact qT.fin hσ a bT _ (by rw[ae,below];rw[AO.below]at svb;rw[svb];rfl)
 have g0:=fun(y:AO) (z:AO)=>aF (bg x0 y) (by omega:O.length≠O.length+1) z
 have g1:=fun(y:AO) (z:AO)=>bg (aF x1 (by omega:O.length+1≠O.length) y) z
 have g2:=fun(y:AO)=>aF x1 (by omega:O.length+1≠O.length) y
 have c1:=adt (C:=C) (call:=ai C) (ct:=mX C (ai C) TT (n+2)) (x:=dQ) (k:=dw) (K:=lJ) rfl (by rfl) (args:=[.ref r 0]) (O:=O) (args1:=[.ref r 0]) (O1:=O) rfl rfl
 rw[c1];by_cases hc0:c=0
 ·subst hc0;unfold UZ at q1;rw[if_pos rfl,Sc]at q1;obtain⟨S',t1,t2,t3⟩:=fin sv.cs 0 (by rw[AO.below]at svb;exact svb)
  refine⟨S',oo',?_,t2,t3⟩;rw[Sc]at t1;unfold LG;simp only[dQ,dw,lJ,q1,x0,g2,thrown,wU,wz,BM,wX,BK,wY,BL,pV,jR,jT,wR,wQ,BN,Vg,Yj,Vf,IM,Ko,DK,BF,tN,qQ,qP,uA,wo,N9,AV.cells,AV.flat,splice,EVX,seval];refine(Qe (vs:=[.agg sv.cs,.int .u8 0]) ?_ (.cons (.agg sv.nvs) (.cons (.int _ _) .nil))).trans ?_
  ·rw[Sc];simp only[aY,g0,g1,EVX,seval]
  ·rw[Sc,t1];rfl
 ·have hc0':(c !=0)=true:=by simpa using hc0
  unfold UZ at q1;rw[if_neg hc0]at q1;obtain⟨S',t1,t2,t3⟩:=fin [.int .i64 0,.int .i64 0,.nils] c rfl;have sv0:=sz hc0;subst sv0;refine⟨S',oo',?_,t2,t3⟩;have cc:∀Y,Ok Y->IK (mX C (ai C) TT (n+2)) mY [zi c] Y=some (.int .u8 c,Y):=fun Y hτ=>agW (C:=C) (caught_is (n+1) c hτ);have cS:=cc S q.ok;have z9:Vj.cs=[.int .i64 0,.int .i64 0,.sl 0 []]:=rfl;rw[z9]at t1⊢;unfold zi at*;unfold LG;simp only[dQ,dw,lJ,q1,x0,g2,cS,thrown,wU,wz,BM,wX,BK,wY,BL,pV,jR,jT,wR,wQ,BN,Vg,Yj,Vf,IM,Ko,DK,BF,tN,qQ,qP,uA,wo,N9,AV.cells,AV.flat,splice,EVX,seval];refine(WF (vs:=[.agg [.int .i64 0,.int .i64 0,.nils],.int .u8 c]) (vs':=[.agg [.int .i64 0,.int .i64 0,.sl 0 []],.int .u8 c]) ?_ rfl).trans ?_
  ·simp only[aY,g0,g1,EVX,seval]
  ·rw[t1];rfl
def aiI (H:Su C) (n:Nat) {h l R now rc sc nm fs F r s m o fo oo K} (hK:Io C h l R now K) (hd:Du fs) (hFo:yB fs F) {O:St} (hσ:Ok O) (a:bP O h l R now rc sc nm fs F r s m o fo oo) (hF:F.length+1<1000000) (rl:LU) (au:eu) (ks:List PS) (ha:xM au.ids) (hk:zC ks):
  ∃S oo',xJ C (ai C) (mX C (ai C) TT (n+3)) gX eY [.ref r 0,.str rl,.agg au.cs,.sl ks.length (ks.flatMap pC)] O=some (.tup [.agg (lH K fs rc sc rl au ks F).1.1.cs,.int .u8 (lH K fs rc sc rl au ks F).1.2],S)/\bP S h l R now rc sc nm fs (lH K fs rc sc rl au ks F).2 r s m o fo oo'/\Req O S s m F (lH K fs rc sc rl au ks F).2 oo oo':=by
 have k:=a.lt;have ac:au.cs=[.int .i64 au.th,.sl au.ids.length (au.ids.flatMap sC)]:=rfl;have ab:AO.below 0 (.cells au.cs FZ)=true:=au.below;have zb:AO.below 0 (.cells [.int .i64 0,.int .i64 0,.nils,.nils,.nils,.int .i64 0,.nils,.int .i64 0,.str []] FZ)=true:=rfl;have ok1:Ok (O++[.cells au.cs FZ,.cells [.int .i64 0,.int .i64 0,.nils,.nils,.nils,.int .i64 0,.nils,.int .i64 0,.str []] FZ,.cells [.int .u8 0] FZ]):=hσ.plus (by simp only[a88,aw1,ab,zb];rfl)
 obtain⟨S,oo',q1,b,q⟩:=ae0 H n hK hd hFo ok1 (a.app _) hF rl au ks ha hk;have sz:=(XP hK hd hFo rc sc rl au ks ha hk).2.2.2;generalize lH K fs rc sc rl au ks F=sp at*;obtain⟨⟨tv,c⟩,F1⟩:=sp;dsimp only at*;have kb:=b.lt;have qb:=q.base;have x1:S[O.length+1]?=some (.cells [.int .i64 0,.int .i64 0,.nils,.nils,.nils,.int .i64 0,.nils,.int .i64 0,.str []] FZ):=q.old _ _ (by have:=k.s;omega) (by have:=k.m;omega) (fun e=>by have:=k.oo _ e;omega) (by rw[dM];rfl)
 have x2:S[O.length+2]?=some (.cells [.int .u8 0] FZ):=q.old _ _ (by have:=k.s;omega) (by have:=k.m;omega) (fun e=>by have:=k.oo _ e;omega) (by rw[dM];rfl)
 have oo1:∀i,i<3->oo'≠some (O.length+i):=by
  intro i hi e;rcases q.new _ e with e|e
  ·have:=k.oo _ e;omega
  ·rw[a04]at e;simp only[a07,a09]at e;omega
 have tb:=PE tv;have fin:∀(cs:LA) (d:Int),ae 0 cs=true->∃S',tidy O.length [.agg tv.cs,.int .u8 c] ((S.set (O.length+1) (.cells cs FZ)).set (O.length+2) (.cells [.int .u8 d] FZ))=S'/\bP S' h l R now rc sc nm fs F1 r s m o fo oo'/\Req O S' s m F F1 oo oo':=by
  intro cs d hcs;have okT:Ok ((S.set (O.length+1) (.cells cs FZ)).set (O.length+2) (.cells [.int .u8 d] FZ)):=Ok.set2 (Ok.set2 q.ok _ (by rw[AO.below];exact aO (a98 _) _ hcs)) _ rfl
  have bT:bP ((S.set (O.length+1) (.cells cs FZ)).set (O.length+2) (.cells [.int .u8 d] FZ)) h l R now rc sc nm fs F1 r s m o fo oo':=b.moved fun i x hi e=>by
   have:∀j,j<3->i≠O.length+j:=fun j hj e'=>by
    subst e';rcases hi with e|e|e|e|e|e
    ·have:=k.r;omega
    ·have:=k.s;omega
    ·have:=k.m;omega
    ·have:=k.o;omega
    ·have:=k.fo _ e;omega
    ·exact oo1 j hj e
   exact aF (aF e (this 1 (by decide)) _) (this 2 (by decide)) _
  have qT:=qb.more k.s okT (by simp) (fun i x hi e=>aF (aF e (by omega) _) (by omega) _)
  exact qT.fin hσ a bT _ (by rw[ae,below];rw[AO.below]at tb;rw[tb];rfl)
 have g0:=fun(y:AO) (z:AO)=>aF (bg x1 y) (by omega:O.length+1≠O.length+2) z
 have g1:=fun(y:AO) (z:AO)=>bg (aF x2 (by omega:O.length+2≠O.length+1) y) z
 have g2:=fun(y:AO)=>aF x2 (by omega:O.length+2≠O.length+1) y
 have spT:splice [.int .i64 0,.int .i64 0,.nils,.nils,.nils,.int .i64 0,.nils,.int .i64 0,.str []] 0 tv.cs=tv.cs:=rfl;have c1:=adt (C:=C) (call:=ai C) (ct:=mX C (ai C) TT (n+3)) (x:=gX) (k:=eY) (K:=qg) rfl (by rfl) (args:=[.ref r 0,.str rl,.agg au.cs,.sl ks.length (ks.flatMap pC)]) (O:=O) (args1:=[.ref r 0,.str rl,.agg au.cs,.sl ks.length (ks.flatMap pC)]) (O1:=O) (ab9 (.cons (.str _) (.cons (afT au) (.cons (yY ks) .nil))) _ _ _) rfl
 rw[c1];rw[ac]at q1⊢;by_cases hc0:c=0
 ·subst hc0;unfold UZ at q1;rw[if_pos rfl]at q1;obtain⟨S',t1,t2,t3⟩:=fin tv.cs 0 (by rw[AO.below]at tb;exact tb)
  refine⟨S',oo',?_,t2,t3⟩;unfold LG;simp only[gX,eY,qg,q1,x1,g2,kG.len,kG.fl,thrown,aQ,wU,wz,BM,wX,BK,wY,BL,pV,jR,jT,wR,wQ,BN,Vg,Yj,Vf,IM,Ko,DK,BF,tN,qQ,qP,uA,wo,N9,AV.cells,AV.flat,splice,EVX,seval];refine(Qe (vs:=[.agg tv.cs,.int .u8 0]) ?_ (.cons (.agg tv.nvs) (.cons (.int _ _) .nil))).trans ?_
  ·simp only[aY,g0,g1,kG.len,kG.tk,EVX,seval]
  ·rw[t1];rfl
 ·have hc0':(c !=0)=true:=by simpa using hc0
  unfold UZ at q1;rw[if_neg hc0]at q1;obtain⟨S',t1,t2,t3⟩:=fin [.int .i64 0,.int .i64 0,.nils,.nils,.nils,.int .i64 0,.nils,.int .i64 0,.str []] c rfl;have sv0:=sz hc0;subst sv0;refine⟨S',oo',?_,t2,t3⟩;have cc:∀Y,Ok Y->IK (mX C (ai C) TT (n+3)) mY [zi c] Y=some (.int .u8 c,Y):=fun Y hτ=>agW (C:=C) (caught_is (n+2) c hτ);have cS:=cc S q.ok;have z9:ML.cs=[.int .i64 0,.int .i64 0,.sl 0 [],.sl 0 [],.sl 0 [],.int .i64 0,.sl 0 [],.int .i64 0,.str []]:=rfl;rw[z9]at t1⊢;unfold zi at*;unfold LG;simp only[gX,eY,qg,q1,x1,g2,cS,thrown,aQ,wU,wz,BM,wX,BK,wY,BL,pV,jR,jT,wR,wQ,BN,Vg,Yj,Vf,IM,Ko,DK,BF,tN,qQ,qP,uA,wo,N9,AV.cells,AV.flat,splice,EVX,seval];refine(WF (vs:=[.agg [.int .i64 0,.int .i64 0,.nils,.nils,.nils,.int .i64 0,.nils,.int .i64 0,.str []],.int .u8 c]) (vs':=[.agg [.int .i64 0,.int .i64 0,.sl 0 [],.sl 0 [],.sl 0 [],.int .i64 0,.sl 0 [],.int .i64 0,.str []],.int .u8 c]) ?_ rfl).trans ?_
  ·simp only[aY,g0,g1,EVX,seval]
  ·rw[t1];rfl
structure fQ where
 kind:Int
 name:LU
 auth:eu
 keys:List PS
def fQ.cs(a:fQ):LA:=[.int .u8 a.kind,.str a.name,.int .i64 a.auth.th,.sl a.auth.ids.length (a.auth.ids.flatMap sC),.sl a.keys.length (a.keys.flatMap pC)]
theorem fQ.len(a:fQ):a.cs.length=5:=rfl
theorem fQ.nvs(a:fQ):NVs a.cs:=.cons (.int _ _) (.cons (.str _) (.cons (.int _ _) (.cons (JS _) (.cons (yY _) .nil))))
def afS(l:List fQ):NV (.sl l.length (l.flatMap fQ.cs)):=.sl _ (fP (fun a=>a.nvs.cl) l)
def MF(l:List fQ):AV:=.sl l.length (l.flatMap fQ.cs)
def lsN:List PS->Nat->Nat
 |[],n=>n
 |h::l,n=>if n<40000 then lsN l (n+50+min 40000 h.1.length+min 40000 h.2.length)else n
def ako:∀(l:List PS) (n:Nat),n<=lsN l n
 |[],n=>a06 _
 |h::l,n=>by
  unfold lsN;split
  ·exact ax7 (by omega) (ako l _)
  ·exact a06 _
def ZP:∀(l:List PS) (n:Nat),lsN l n<40000->n+50*l.length<=lsN l n/\∀x∈l,x.1.length<40000/\x.2.length<40000
 |[],n,h=>⟨by simp[lsN],fun s hs=>by cases hs⟩
 |p::l,n,h=>by
  unfold lsN at*;split at h
  ·next hn=>
   rw[if_pos hn];have a:=ako l (n+50+min 40000 p.1.length+min 40000 p.2.length);have b:=ZP l _ h;refine⟨by simp only[a07];omega,fun t ht=>?_⟩
   rcases au9.mp ht with rfl|ht
   ·omega
   ·exact b.2 t ht
  ·omega
def Ti(nm data:LU)(fs:List PS):Bool:=decide (40000<=lsN fs (min 40000 data.length+min 40000 nm.length))
def adS{nm data:LU}{fs:List PS}(h:Ti nm data fs=false):fs.length<=1000/\data.length<=LB/\∀x∈fs,x.2.length<=LB:=by
 have h:lsN fs (min 40000 data.length+min 40000 nm.length)<40000:=Nat.not_le.mp (of_decide_eq_false h);have a:=ZP fs _ h;have lb:40000<=LB:=by simp only[LB];omega
 generalize LB=B at*;exact⟨by omega,by omega,fun x hx=>by have:=a.2 x hx;omega⟩
def ar7(b:Int)(a:Int):VD false (.int .i64 b) (.int .i64 a)=some (.int .i64 (if a<b then a else b)):=rfl
def agC(a:Nat):VD false (.int .i64 40000) (.int .i64 (a:Int))=some (.int .i64 ((min 40000 a:Nat):Int)):=by
 rw[ar7];have:(if(a:Int)<40000 then(a:Int)else 40000)=((min 40000 a:Nat):Int):=by split<;>omega
 rw[this]
def IZ (nm data:LU) (fs:List PS) (O:St):∀(n i acc:Nat),i+n=fs.length->acc<=200000->(acc<40000->50*i<=acc)->
  aH C (ai C) 47 [1,3,4] dK [(1,.ref O.length 0),(3,.int .i64 acc),(4,.int .i64 i)] (O++[.cells [.str nm,.str data,.sl fs.length (fs.flatMap pC)] FZ])=some (.exit 0,[(3,.int .i64 (lsN (fs.drop i) acc:Nat))],O++[.cells [.str nm,.str data,.sl fs.length (fs.flatMap pC)] FZ])
 |0,i,acc,hi,ha,hb=>by
  rw[aG (he:=rfl)];have h:¬((i:Int)<(fs.length:Int)):=by omega
  have h':fs.drop i=[]:=au1 (by omega)
  simp only[dK,h,h',lsN,bU,aQ,EVX,seval]
 |n+1,i,acc,hi,ha,hbb=>by
  rw[aG (he:=rfl)];have h:((i:Int)<(fs.length:Int)):=by omega
  have h2:i<fs.length:=by omega
  have hb:fs[i]?=some fs[i]:=a02 h2;have h':fs.drop i=fs[i]::fs.drop (i+1):=as9 h2;have h3:(0:Int)<=i:=by omega
  have fl:=dV FW fs;have fd:=lM FW hb;obtain⟨p,hpe⟩:∃p,p=fs[i]:=⟨_,rfl⟩;rw[<-hpe]at fd h';have pc:pC p=[.str p.1,.str p.2]:=rfl;rw[h',lsN];by_cases hc:acc<40000
  ·have hc':((acc:Int)<40000):=by omega
   have hw:=wrS i (by omega)
   have w1:IntKind.i64.wrap ((acc:Int)+50)=((acc+50:Nat):Int):=wrE (by omega)
   have w2:IntKind.i64.wrap (((acc+50:Nat):Int)+((min 40000 p.1.length:Nat):Int))=((acc+50+min 40000 p.1.length:Nat):Int):=wrE (by omega)
   have w3:IntKind.i64.wrap (((acc+50+min 40000 p.1.length:Nat):Int)+((min 40000 p.2.length:Nat):Int))=((acc+50+min 40000 p.1.length+min 40000 p.2.length:Nat):Int):=wrE (by omega)
   have ih:=IZ nm data fs O n (i+1) (acc+50+min 40000 p.1.length+min 40000 p.2.length) (by omega) (by omega) (by omega)
   rw[if_pos hc,<-ih];generalize hk:aH C (ai C) 47 [1,3,4] dK=k at*;simp only[dK,h,h2,h3,hc',hw,w1,w2,w3,agC,fl,fd,pc,bU,a99,aQ,EVX,seval]
  ·have hc':¬((acc:Int)<40000):=by omega
   rw[if_neg hc];simp only[dK,h,hc',bU,aQ,EVX,seval]
def U5(hC:Has C qJ qy)(nm data:LU)(fs:List PS)(O:St)(hσ:Ok O):ai C qJ [.agg [.str nm,.str data,.sl fs.length (fs.flatMap pC)]] O=some (.bool (Ti nm data fs),O):=by
 rw[hC.go (NVs.hand (.cons (.agg (.cons (.str _) (.cons (.str _) (.cons (yY _) .nil)))) .nil) _)];have lp:=IZ (C:=C) nm data fs O fs.length 0 (min 40000 data.length+min 40000 nm.length) (by omega) (by omega) (by omega)
 simp only[at6,au0]at lp;have ty:=fun b=>dE hσ (vs:=[.bool b]) rfl;have w1:IntKind.i64.wrap (((min 40000 data.length:Nat):Int)+((min 40000 nm.length:Nat):Int))=((min 40000 data.length+min 40000 nm.length:Nat):Int):=wrE (by omega)
 have e:decide ((40000:Int)<=(lsN fs (min 40000 data.length+min 40000 nm.length):Int))=Ti nm data fs:=by unfold Ti;rw[aB7];simp;omega
 simp only[qy,lp,e,ty,agC,w1,bU,aQ,AV.cells,EVX,seval]
def U0(l:List fQ):LA:=[.sl l.length (l.flatMap fQ.cs)]
def F7(l:List fQ):(U0 l).length=1:=rfl
def aiS(L:List (List fQ)):NVs (L.flatMap U0):=fun v hv=>by
 obtain⟨a,_,ha⟩:=aD3.mp hv;rw[U0,aA2]at ha;rw[ha];exact afS a
def QT(a:fQ):Bool:=decide (300<a.name.length)||(Xp [a.auth]||Tf a.keys)
def Gm(l:List fQ):Bool:=decide (12<l.length)||l.any QT
structure Pm(C:Ctx):Prop where
 store:Has C qJ qy
 verd:Has C nN jy
 auth:Has C rX xh
 keys:Has C rY mM
 lng:Has C xy Dx
def ZM (H:Pm C) (L:List (List fQ)) (m:Nat) (l:List fQ) (hm:L[m]?=some l) (hl:l.length<=12) (O:St):∀(n i:Nat),i+n=l.length->
  aH C (ai C) 69 [1,5,6] eQ [(1,.sl L.length (L.flatMap U0)),(5,.int .i64 m),(6,.int .i64 i)] O=if(l.drop i).any QT then some (.ret,[(4,.bool true)],O)else some (.exit 2,[(1,.sl L.length (L.flatMap U0)),(5,.int .i64 m)],O)
 |0,i,hi=>by
  rw[aG (he:=rfl)];have hml:m<L.length:=(a00.mp hm).1;have h:¬((i:Int)<(l.length:Int)):=by omega
  have h':l.drop i=[]:=au1 (by omega)
  have h0:(0:Int)<=m:=by omega
  have fl:=dV F7 L;have fd:=lM F7 hm;rw[aw9]at fl fd;have pc:U0 l=[.sl l.length (l.flatMap fQ.cs)]:=rfl;simp only[eQ,h,h',h0,hml,fl,fd,pc,List.any_nil,bU,aw9,EVX,seval]
 |n+1,i,hi=>by
  rw[aG (he:=rfl)];have hml:m<L.length:=(a00.mp hm).1;have h:((i:Int)<(l.length:Int)):=by omega
  have h2:i<l.length:=by omega
  have hb:l[i]?=some l[i]:=a02 h2;have h':l.drop i=l[i]::l.drop (i+1):=as9 h2;have h0:(0:Int)<=m:=by omega
  have h3:(0:Int)<=i:=by omega
  have fl:=dV F7 L;have fd:=lM F7 hm;rw[aw9]at fl fd;have pc:U0 l=[.sl l.length (l.flatMap fQ.cs)]:=rfl;have fi:=dV fQ.len l;have fe:=lM fQ.len hb;obtain⟨a,hae⟩:∃a,a=l[i]:=⟨_,rfl⟩;rw[<-hae]at fe h';have ac:a.cs=[.int .u8 a.kind,.str a.name,.int .i64 a.auth.th,.sl a.auth.ids.length (a.auth.ids.flatMap sC),.sl a.keys.length (a.keys.flatMap pC)]:=rfl;have q2:∀Y,ai C rX [.xsl 1 [.int .i64 a.auth.th,.sl a.auth.ids.length (a.auth.ids.flatMap sC)]] Y=some (.bool (Xp [a.auth]),Y):=fun Y=>aeV H.auth [a.auth] (by simp) Y
  have q3:=fun Y=>Xj H.keys a.keys Y;have hw:=wrS i (by omega)
  have ih:=ZM H L m l hm hl O n (i+1) (by omega)
  rw[h',List.any_cons,QT];generalize hk:aH C (ai C) 69 [1,5,6] eQ=k at*;by_cases c:300<a.name.length
  ·have c':(300:Int)<(a.name.length:Int):=by omega
   simp only[eQ,h,h2,h3,h0,hml,c,c',fl,fd,fi,fe,pc,ac,bU,aw9,ax9,EVX,seval]
  ·have c':¬(300:Int)<(a.name.length:Int):=by omega
   cases c1:Xp [a.auth]<;>cases c2:Tf a.keys<;>simp only[c1,c2]at q2 q3<;>simp only[eQ,h,h2,h3,h0,hml,hw,c,c',q2,q3,ih,fl,fd,fi,fe,pc,ac,bU,aw9,ax9,aC8,EVX,seval]
def Xo (H:Pm C) (L:List (List fQ)) (hL:L.length<=100) (O:St):∀(n m:Nat),m+n=L.length->
  aH C (ai C) 69 [1,5] eU [(1,.sl L.length (L.flatMap U0)),(5,.int .i64 m)] O=if(L.drop m).any Gm then some (.ret,[(4,.bool true)],O)else some (.exit 0,[],O)
 |0,m,hi=>by
  rw[aG (he:=rfl)];have h:¬((m:Int)<(L.length:Int)):=by omega
  have h':L.drop m=[]:=au1 (by omega)
  simp only[eU,h,h',List.any_nil,bU,EVX,seval]
 |n+1,m,hi=>by
  rw[aG (he:=rfl)];have h:((m:Int)<(L.length:Int)):=by omega
  have h2:m<L.length:=by omega
  have hb:L[m]?=some L[m]:=a02 h2;have h':L.drop m=L[m]::L.drop (m+1):=as9 h2;have hw:=wrS m (by omega)
  have h0:(0:Int)<=m:=by omega
  have fl:=dV F7 L;have fd:=lM F7 hb;rw[aw9]at fl fd;obtain⟨l,hae⟩:∃a,a=L[m]:=⟨_,rfl⟩;rw[<-hae]at h' hb fd;have pc:U0 l=[.sl l.length (l.flatMap fQ.cs)]:=rfl;have ih:=Xo H L hL O n (m+1) (by omega)
  rw[h',List.any_cons,Gm];by_cases c:12<l.length
  ·have c':(12:Int)<(l.length:Int):=by omega
   generalize hk:aH C (ai C) 69 [1,5] eU=k at*;simp only[eU,h,h2,h0,c,c',fl,fd,pc,bU,aw9,ax9,EVX,seval]
  ·have c':¬(12:Int)<(l.length:Int):=by omega
   have lp:=ZM H L m l hb (by omega) O l.length 0 (by omega)
   simp only[at6,au0]at lp;generalize hk:aH C (ai C) 69 [1,5] eU=k at*;cases c2:l.any QT<;>rw[c2]at lp<;>simp only[eU,h,h2,h0,hw,c,c',lp,ih,fl,fd,pc,bU,aw9,ax9,aC8,EVX,seval]
def Uw(c:ul)(L:List (List fQ)):Bool:=Ti c.nm c.data c.fs||(uM c.l||L.any Gm)
def ad7(H:Pm C)(c:ul)(L:List (List fQ))(hL:L.length<=100)(O:St)(hσ:Ok O)(v:AV)(hn:hand false [.agg c.cs,v] O=some ([.agg c.cs,.sl L.length (L.flatMap U0)],O)):ai C xy [.agg c.cs,v] O=some (.bool (Uw c L),O):=by
 rw[H.lng.go hn];have cb:AO.below 0 (.cells c.cs FZ)=true:=c.nvs.cl;have ok1:Ok (O++[.cells c.cs FZ]):=hσ.plus (by rw[a88,cb];rfl)
 have ty:=fun b=>dE hσ (vs:=[.bool b]) rfl;have ce:c.cs=[.str c.nm,.str c.data,.sl c.fs.length (c.fs.flatMap pC),.bool c.h,.sl c.l.length (c.l.flatMap fV.cs),.int .i64 c.now,.int .i64 c.b0,.int .i64 c.b1,.int .i64 c.rc,.int .i64 c.sc]:=rfl;have q1:=U5 H.store c.nm c.data c.fs _ ok1;have q2:=OB H.verd c.l;have lp:=fun Y=>Xo H L hL Y L.length 0 (by omega)
 simp only[at6,au0]at lp;rw[ce]at q1⊢;unfold Uw;cases c1:Ti c.nm c.data c.fs<;>cases c2:uM c.l<;>cases c3:L.any Gm<;>simp only[c1,c2,c3]at q1 q2 lp<;>simp only[Dx,q1,q2,lp,ty,aQ,AV.cells,ax9,aC8,EVX,seval]
def aeW(H:Pm C)(c:ul)(L:List (List fQ))(hL:L.length<=100)(O:St)(hσ:Ok O):ai C xy [.agg c.cs,.xsl L.length (L.flatMap U0)] O=some (.bool (Uw c L),O):=
 ad7 H c L hL O hσ _ (by
  rw[oW,aK,(NV.agg c.nvs).nf,aK,akI,(aiS L).nf,vG];rfl)
end Go.Ev
namespace Go.Ev
set_option maxRecDepth 100000
variable{C C1:Ctx}
def Req.close {O L S T:St} {h l R now rc sc nm fs F F' r s m o fo oo oo'} (hσ:Ok O) (a:bP O h l R now rc sc nm fs F r s m o fo oo) (q:Req (O++L) S s m F F' oo oo') (b:bP S h l R now rc sc nm fs F' r s m o fo oo') (okT:Ok T) (hl:S.length<=T.length) (hT:∀i x,S[i]?=some x->(i<O.length\/O.length+L.length<=i)->T[i]?=some x) (vs:LA) (hv:ae 0 vs=true):
  ∃S',tidy O.length vs T=S'/\bP S' h l R now rc sc nm fs F' r s m o fo oo'/\Req O S' s m F F' oo oo':=by
 have k:=a.lt;have bT:bP T h l R now rc sc nm fs F' r s m o fo oo':=b.moved fun i x hi e=>hT i x e (by
  rcases hi with rfl|rfl|rfl|rfl|e|e
  ·exact .inl k.r
  ·exact .inl k.s
  ·exact .inl k.m
  ·exact .inl k.o
  ·exact .inl (k.fo _ e)
  ·rcases q.new _ e with e|e
   ·exact .inl (k.oo _ e)
   ·exact .inr (by simpa using e))
 exact(q.base.more k.s okT hl (fun i x hi e=>hT i x e (.inl hi))).fin hσ a bT vs hv
def Req.kept{O L S:St}{h l R now rc sc nm fs F F' r s m o fo oo oo'}(a:bP O h l R now rc sc nm fs F r s m o fo oo)(q:Req (O++L) S s m F F' oo oo')(i:Nat){x:AO}(hx:L[i]?=some x):S[O.length+i]?=some x:=by
 have k:=a.lt;exact q.old _ _ (by have:=k.s;omega) (by have:=k.m;omega) (fun e=>by have:=k.oo _ e;omega) (by rw[dM];exact hx)
structure GH(C C1:Ctx):Prop where
 req:Su C1
 snap:∀a O v,xJ C1 (ai C1) (mX C1 (ai C1) TT 8) dQ dw a O=some v->ai C gJ a O=some v
 role:∀a O v,xJ C1 (ai C1) (mX C1 (ai C1) TT 8) gX eY a O=some v->ai C qK a O=some v
 made:Has C kJ ni
 targets:Has C Cc BR
structure CaseOk(C1:Ctx)(h:Bool)(l:List fV)(R:jQ)(now:Int)(K:Dt)(fs:List PS):Prop where
 chk:Io C1 h l R now K
 root:R.ok
 data:Du fs
def TW (H:GH C C1) {h l R now rc sc nm fs F r s m o fo oo K} (hK:CaseOk C1 h l R now K fs) (hFo:yB fs F) {O:St} (hσ:Ok O) (a:bP O h l R now rc sc nm fs F r s m o fo oo) (hF:F.length<1000000):
  ∃S oo',ai C gJ [.ref r 0] O=some (.tup [.agg (gU K fs sc F).1.1.cs,.int .u8 (gU K fs sc F).1.2],S)/\bP S h l R now rc sc nm fs (gU K fs sc F).2 r s m o fo oo'/\Req O S s m F (gU K fs sc F).2 oo oo':=by
 obtain⟨S,oo',q1,q2,q3⟩:=aaA H.req 6 hK.chk hK.data hFo hσ a hF;exact⟨S,oo',H.snap _ _ _ q1,q2,q3⟩
def afJ (H:GH C C1) {h l R now rc sc nm fs F r s m o fo oo K} (hK:CaseOk C1 h l R now K fs) (hFo:yB fs F) {O:St} (hσ:Ok O) (a:bP O h l R now rc sc nm fs F r s m o fo oo) (hF:F.length+1<1000000) (rl:LU) (au:eu) (ks:List PS) (ha:xM au.ids) (hk:zC ks):
  ∃S oo',ai C qK [.ref r 0,.str rl,.agg au.cs,.sl ks.length (ks.flatMap pC)] O=some (.tup [.agg (lH K fs rc sc rl au ks F).1.1.cs,.int .u8 (lH K fs rc sc rl au ks F).1.2],S)/\bP S h l R now rc sc nm fs (lH K fs rc sc rl au ks F).2 r s m o fo oo'/\Req O S s m F (lH K fs rc sc rl au ks F).2 oo oo':=by
 obtain⟨S,oo',q1,q2,q3⟩:=aiI H.req 5 hK.chk hK.data hFo hσ a hF rl au ks ha hk;exact⟨S,oo',H.role _ _ _ q1,q2,q3⟩
def Fv:LU:=[116,97,114,103,101,116,115]
def aeh (H:GH C C1) {h l R now rc sc nm fs F r s m o fo oo K} (hK:CaseOk C1 h l R now K fs) (hFo:yB fs F) {O:St} (hσ:Ok O) (a:bP O h l R now rc sc nm fs F r s m o fo oo) (hF:F.length+1<1000000):
  ∃S oo',ai C Cc [.ref r 0] O=some (.tup [.agg (lH K fs rc sc Fv R.tg R.ks F).1.1.cs,.int .u8 (lH K fs rc sc Fv R.tg R.ks F).1.2],S)/\bP S h l R now rc sc nm fs (lH K fs rc sc Fv R.tg R.ks F).2 r s m o fo oo'/\Req O S s m F (lH K fs rc sc Fv R.tg R.ks F).2 oo oo':=by
 have hn:=iI r O;have ok1:Ok (O++[.cells [.int .i64 0,.int .i64 0,.nils,.nils,.nils,.int .i64 0,.nils,.int .i64 0,.str []] FZ]):=hσ.plus rfl;obtain⟨S,oo',q1,b,q⟩:=afJ H hK hFo ok1 (a.app _) hF Fv R.tg R.ks hK.root.tg hK.root.ks;generalize lH K fs rc sc Fv R.tg R.ks F=sp at*;obtain⟨⟨tv,c⟩,F1⟩:=sp;dsimp only at*;have x0:S[O.length]?=some _:=q.kept a 0 rfl;have tb:=PE tv;have mk:=Tu H.made (a.app [.cells [.int .i64 0,.int .i64 0,.nils,.nils,.nils,.int .i64 0,.nils,.int .i64 0,.str []] FZ]);have okT:Ok (S.set O.length (.cells tv.cs FZ)):=Ok.set2 q.ok _ (AO.below_mono (a98 _) _ tb);obtain⟨S',t1,t2,t3⟩:=q.close hσ a b okT (by simp) (fun i x e hi=>aF e (by simp at hi;omega) _) [.agg tv.cs,.int .u8 c] (by rw[ae,below];rw[AO.below]at tb;rw[tb];rfl)
 refine⟨S',oo',?_,t2,t3⟩;have rp:=a.rp;have Rc:=R.cs_is;unfold Cm at rp;rw[Rc]at rp;simp only[a99,au3]at rp;have rpS:=fun L=>aA rp L;have ta:R.tg.cs=[.int .i64 R.tg.th,.sl R.tg.ids.length (R.tg.ids.flatMap sC)]:=rfl;unfold Fv at q1;rw[ta]at q1;have spT:splice [.int .i64 0,.int .i64 0,.nils,.nils,.nils,.int .i64 0,.nils,.int .i64 0,.str []] 0 tv.cs=tv.cs:=rfl;have sg:=bg x0 (.cells tv.cs FZ);have nvs:NVs [.agg tv.cs,.int .u8 c]:=.cons (.agg tv.nvs) (.cons (.int _ _) .nil);rw[H.targets.go hn];generalize hE:xu=eR;simp only[BR,mk,q1,rpS,x0,spT,kG.len,kG.fl,AV.cells,EVX,seval];rw[<-hE];refine(Vu (vs:=[.agg tv.cs,.int .u8 c]) ?_ nvs).trans (by rw[t1];rfl)
 simp only[aY,sg,kG.len,kG.tk,EVX,seval]
structure aea(C:Ctx):Prop extends TelHas C where
 rmade:Has C kJ ni
 rfet:Has C jM BQ
def aeb (H:aea C) {h l R now rc sc nm fs F r s m o fo oo} {O:St} (hσ:Ok O) (a:bP O h l R now rc sc nm fs F r s m o fo oo) (hu:Uniq F):
  ai C jM [.ref r 0] O=some (.sl F.length (F.flatMap (vT nm)),O):=by
 have hn:=iI r O;have rp:=a.rp;have mk:=Tu H.rmade a;have q:=YJ H.toTelHas hσ a.st hu;unfold Cm at rp;rw[H.rfet.go hn];simp only[BQ,mk,q,rp,aS,EVX,seval]
def FI(K:Dt)(R:jQ)(fs:List PS)(rc sc:Int)(a:fQ)(F:List dO):(SnV×kG×Int)×List dO:=
 if a.kind=0 then(((gU K fs sc F).1.1,ML,(gU K fs sc F).1.2),(gU K fs sc F).2)
 else if a.kind=1 then((Vj,(lH K fs rc sc Fv R.tg R.ks F).1),(lH K fs rc sc Fv R.tg R.ks F).2)
 else((Vj,(lH K fs rc sc a.name a.auth a.keys F).1),(lH K fs rc sc a.name a.auth a.keys F).2)
structure VL(a:fQ):Prop where
 ids:xM a.auth.ids
 keys:zC a.keys
def aiT (H:GH C C1) (hA:Has C ik gZ) {h l R now rc sc nm fs F r s m o fo oo K} (hK:CaseOk C1 h l R now K fs) (hFo:yB fs F) {O:St} (hσ:Ok O) (a:bP O h l R now rc sc nm fs F r s m o fo oo) (hF:F.length+1<1000000) (k:fQ) (hk:VL k):
  ∃S oo',ai C ik [.ref r 0,.agg k.cs] O=some (.tup [.agg (FI K R fs rc sc k F).1.1.cs,.agg (FI K R fs rc sc k F).1.2.1.cs,.int .u8 (FI K R fs rc sc k F).1.2.2],S)/\bP S h l R now rc sc nm fs (FI K R fs rc sc k F).2 r s m o fo oo'/\Req O S s m F (FI K R fs rc sc k F).2 oo oo':=by
 have kb:AO.below 0 (.cells k.cs FZ)=true:=k.nvs.cl;have kc:k.cs=[.int .u8 k.kind,.str k.name,.int .i64 k.auth.th,.sl k.auth.ids.length (k.auth.ids.flatMap sC),.sl k.keys.length (k.keys.flatMap pC)]:=rfl;have ok1:Ok (O++[.cells k.cs FZ,.cells [.int .i64 0,.int .i64 0,.nils] FZ,.cells [.int .i64 0,.int .i64 0,.nils,.nils,.nils,.int .i64 0,.nils,.int .i64 0,.str []] FZ]):=hσ.plus (by simp only[a88,aw1,kb];rfl)
 have hn:=ab9 (NVs.cons (NV.agg k.nvs) .nil) r 0 O;have spT:∀tv:kG,splice [.int .i64 0,.int .i64 0,.nils,.nils,.nils,.int .i64 0,.nils,.int .i64 0,.str []] 0 tv.cs=tv.cs:=fun _=>rfl;have spS:∀tv:SnV,splice [.int .i64 0,.int .i64 0,.nils] 0 tv.cs=tv.cs:=fun _=>rfl;rw[hA.go hn];unfold FI;by_cases k0:k.kind=0
 ·rw[if_pos k0];obtain⟨S,oo',q1,b,q⟩:=TW H hK hFo ok1 (a.app _) (by omega)
  generalize gU K fs sc F=sp at*;obtain⟨⟨sv,c⟩,F1⟩:=sp;dsimp only at*;have x0:S[O.length]?=some _:=q.kept a 0 rfl;have x1:S[O.length+1]?=some _:=q.kept a 1 rfl;have x2:S[O.length+2]?=some _:=q.kept a 2 rfl;have svb:AO.below 0 (.cells sv.cs FZ)=true:=sv.nvs.cl;have g1:=fun y=>bg x1 y;have e2:=fun y=>aF x2 (by omega:O.length+2≠O.length+1) y
  have g2:=fun y z=>bg (e2 y) z;have g3:=fun y z=>aF (g1 y) (by omega:O.length+1≠O.length+2) z
  have okT:Ok (((S.set (O.length+1) (.cells sv.cs FZ)).set (O.length+2) (.cells [.int .i64 0,.int .i64 0,.nils,.nils,.nils,.int .i64 0,.nils,.int .i64 0,.str []] FZ))++[.cells sv.cs FZ]):=(Ok.set2 (Ok.set2 q.ok _ (AO.below_mono (a98 _) _ svb)) _ rfl).plus (by rw[a88,svb];rfl)
  obtain⟨S',t1,t2,t3⟩:=q.close hσ a b okT (by simp) (fun i x e hi=>aA (aF (aF e (by simp at hi;omega) _) (by simp at hi;omega) _) _) [.agg sv.cs,.agg ML.cs,.int .u8 c] (by rw[AO.below]at svb;simp only[ae,below,svb];rfl)
  refine⟨S',oo',?_,t2,t3⟩;rw[k0]at kc;rw[kc]at x0 q1⊢;have y1:=fun L=>aA x1 L;have p1:=fun L y=>dJ x1 L y;have p2:=fun L y z=>dJ (e2 y) L z;have e2L:=fun y L=>aA (e2 y) L;generalize hE:xu=eR;simp only[gZ,q1,y1,p1,p2,e2L,spS,SnV.len,SnV.tk,SnV.fl,aQ,jm,AV.cells,AV.flat,EVX,seval];rw[<-hE];refine(EO (vs:=[.agg sv.cs,.agg [.int .i64 0,.int .i64 0,.nils,.nils,.nils,.int .i64 0,.nils,.int .i64 0,.str []],.int .u8 c]) (vs':=[.agg sv.cs,.agg ML.cs,.int .u8 c]) ?_ (by rw[oW,aK,(NV.agg sv.nvs).nf];rfl)).trans (by erw[t1];rfl)
  have h1:=fun y z L=>aA (g3 y z) L;have h2:=fun y z L=>aA (g2 y z) L;simp only[aY,h1,h2,SnV.len,SnV.tk,EVX,seval]
 rw[if_neg k0];by_cases k1:k.kind=1
 ·rw[if_pos k1];obtain⟨S,oo',q1,b,q⟩:=aeh H hK hFo ok1 (a.app _) hF;generalize lH K fs rc sc Fv R.tg R.ks F=sp at*;obtain⟨⟨sv,c⟩,F1⟩:=sp;dsimp only at*;have x0:S[O.length]?=some _:=q.kept a 0 rfl;have x1:S[O.length+1]?=some _:=q.kept a 1 rfl;have x2:S[O.length+2]?=some _:=q.kept a 2 rfl;have svb:=PE sv;have g1:=fun y=>bg x1 y;have e2:=fun y=>aF x2 (by omega:O.length+2≠O.length+1) y
  have g2:=fun y z=>bg (e2 y) z;have g3:=fun y z=>aF (g1 y) (by omega:O.length+1≠O.length+2) z
  have okT:Ok (((S.set (O.length+1) (.cells [.int .i64 0,.int .i64 0,.nils] FZ)).set (O.length+2) (.cells sv.cs FZ))++[.cells sv.cs FZ]):=(Ok.set2 (Ok.set2 q.ok _ rfl) _ (AO.below_mono (a98 _) _ svb)).plus (by rw[a88,svb];rfl)
  obtain⟨S',t1,t2,t3⟩:=q.close hσ a b okT (by simp) (fun i x e hi=>aA (aF (aF e (by simp at hi;omega) _) (by simp at hi;omega) _) _) [.agg Vj.cs,.agg sv.cs,.int .u8 c] (by rw[AO.below]at svb;simp only[ae,below,svb];rfl)
  refine⟨S',oo',?_,t2,t3⟩;rw[k1]at kc;rw[kc]at x0 q1⊢;have y1:=fun L=>aA x1 L;have p1:=fun L y=>dJ x1 L y;have p2:=fun L y z=>dJ (e2 y) L z;have e2L:=fun y L=>aA (e2 y) L;have f3:∀i z (y:AO),(S.set i z++[y])[S.length]?=some y:=fun i z y=>by rw[fG (by simp)];rfl
  generalize hE:xu=eR;simp only[gZ,q1,y1,p1,p2,e2L,f3,spT,yj,reO,kG.len,kG.tk,kG.fl,aQ,jm,AV.cells,AV.flat,EVX,seval];rw[<-hE];refine(EO (vs:=[.agg [.int .i64 0,.int .i64 0,.nils],.agg sv.cs,.int .u8 c]) (vs':=[.agg Vj.cs,.agg sv.cs,.int .u8 c]) ?_ (by rw[oW,aK,aX,aK,OH,aK,OH,aK,dA,vG,aK,(NV.agg sv.nvs).nf];rfl)).trans (by erw[t1];rfl)
  have h1:=fun y z L=>aA (g3 y z) L;have h2:=fun y z L=>aA (g2 y z) L;simp only[aY,h1,h2,kG.len,kG.tk,EVX,seval]
 ·rw[if_neg k1];obtain⟨S,oo',q1,b,q⟩:=afJ H hK hFo ok1 (a.app _) hF k.name k.auth k.keys hk.ids hk.keys;generalize lH K fs rc sc k.name k.auth k.keys F=sp at*;obtain⟨⟨sv,c⟩,F1⟩:=sp;dsimp only at*;have x0:S[O.length]?=some _:=q.kept a 0 rfl;have x1:S[O.length+1]?=some _:=q.kept a 1 rfl;have x2:S[O.length+2]?=some _:=q.kept a 2 rfl;have svb:=PE sv;have g1:=fun y=>bg x1 y;have e2:=fun y=>aF x2 (by omega:O.length+2≠O.length+1) y
  have g2:=fun y z=>bg (e2 y) z;have g3:=fun y z=>aF (g1 y) (by omega:O.length+1≠O.length+2) z
  have okT:Ok (((S.set (O.length+1) (.cells [.int .i64 0,.int .i64 0,.nils] FZ)).set (O.length+2) (.cells sv.cs FZ))++[.cells sv.cs FZ]):=(Ok.set2 (Ok.set2 q.ok _ rfl) _ (AO.below_mono (a98 _) _ svb)).plus (by rw[a88,svb];rfl)
  obtain⟨S',t1,t2,t3⟩:=q.close hσ a b okT (by simp) (fun i x e hi=>aA (aF (aF e (by simp at hi;omega) _) (by simp at hi;omega) _) _) [.agg Vj.cs,.agg sv.cs,.int .u8 c] (by rw[AO.below]at svb;simp only[ae,below,svb];rfl)
  refine⟨S',oo',?_,t2,t3⟩;have k0':(k.kind==0)=false:=by simpa using k0
  have k1':(k.kind==1)=false:=by simpa using k1
  have ac:k.auth.cs=[.int .i64 k.auth.th,.sl k.auth.ids.length (k.auth.ids.flatMap sC)]:=rfl;rw[ac]at q1;rw[kc]at x0 q1⊢;have y1:=fun L=>aA x1 L;have p1:=fun L y=>dJ x1 L y;have p2:=fun L y z=>dJ (e2 y) L z;have e2L:=fun y L=>aA (e2 y) L;have f3:∀i z (y:AO),(S.set i z++[y])[S.length]?=some y:=fun i z y=>by rw[fG (by simp)];rfl
  generalize hE:xu=eR;simp only[gZ,k0',k1',q1,y1,p1,p2,e2L,f3,spT,yj,reO,kG.len,kG.tk,kG.fl,aQ,jm,AV.cells,AV.flat,EVX,seval];rw[<-hE];refine(EO (vs:=[.agg [.int .i64 0,.int .i64 0,.nils],.agg sv.cs,.int .u8 c]) (vs':=[.agg Vj.cs,.agg sv.cs,.int .u8 c]) ?_ (by rw[oW,aK,aX,aK,OH,aK,OH,aK,dA,vG,aK,(NV.agg sv.nvs).nf];rfl)).trans (by erw[t1];rfl)
  have h1:=fun y z L=>aA (g3 y z) L;have h2:=fun y z L=>aA (g2 y z) L;simp only[aY,h1,h2,kG.len,kG.tk,EVX,seval]
def ab2(nm:LU)(f:dO):(vT nm f).length=4:=rfl
def atz(nm:LU)(F:List dO):NV (.sl F.length (F.flatMap (vT nm))):=.sl _ (fP (fun _=>rfl) F)
def asI (nm:LU) (F:List dO) (hF:F.length<=1000000) (O:St):∀(n i:Nat),i+n=F.length->
  aH C (ai C) 26 [0,1,5] IY [(0,.sl F.length (F.flatMap (vT nm))),(1,.sl F.length (F.flatMap (vT nm))),(5,.int .i64 i)] O=some (.exit 0,[],O)
 |0,i,hi=>by
  rw[aG (he:=rfl)];have h:¬((i:Int)<(F.length:Int)):=by omega
  simp only[IY,h,bU,EVX,seval]
 |n+1,i,hi=>by
  rw[aG (he:=rfl)];have h:((i:Int)<(F.length:Int)):=by omega
  have h2:i<F.length:=by omega
  have hb:F[i]?=some F[i]:=a02 h2;have hw:=wrS i (by omega)
  have h0:(0:Int)<=i:=by omega
  have fl:=dV (ab2 nm) F;have fd:=lM (ab2 nm) hb;generalize F[i]=f at*;have pc:vT nm f=[.str nm,.str f.name,.int .i64 f.cap,.int .i64 f.size]:=rfl;have ih:=asI nm F hF O n (i+1) (by omega)
  have ec:jW 72 [.str nm,.str f.name,.int .i64 f.cap,.int .i64 f.size] [.str nm,.str f.name,.int .i64 f.cap,.int .i64 f.size]=some true:=by simp[jW,nK]
  generalize hk:aH C (ai C) 26 [0,1,5] IY=k at*;simp only[IY,h,h2,h0,hw,ih,ec,au8,fl,fd,pc,bU,EVX,seval]
def atq(hC:Has C Om NS)(nm:LU)(F:List dO)(hF:F.length<=1000000)(O:St):ai C Om [.sl F.length (F.flatMap (vT nm)),.sl F.length (F.flatMap (vT nm))] O=some (.bool true,O):=by
 rw[hC.go (NVs.hand (.cons (atz nm F) (.cons (atz nm F) .nil)) _)];have lp:=asI (C:=C) nm F hF O F.length 0 (by omega)
 simp only[at6]at lp;simp only[NS,lp,bU,EVX,seval]
def asL(fs:List PS)(F:List dO)(file:LU)(cap:Int):∃Yq,(wH fs F file cap).2=F++Yq:=by
 unfold wH;cases F.find? (fun f=>decide (f.name=file))with
 |some f=>exact⟨[],(au6 _).symm⟩
 |none=>exact⟨_,rfl⟩
def asx(fs:List PS)(F X:List dO)(file:LU)(cap cap':Int):wH fs ((wH fs F file cap).2++X) file cap'=((wH fs F file cap).1,(wH fs F file cap).2++X):=by
 unfold wH;cases hf:F.find? (fun f=>decide (f.name=file))with
 |some f=>
  dsimp only;rw[List.find?_append,hf];rfl
 |none=>
  dsimp only;rw[List.find?_append,List.find?_append,hf,aC5 (by simpa using Dn fs file cap)]
  rfl
def Me(F:List dO):Prop:=F.Pairwise fun f g=>f.name≠g.name
def Me.uniq:∀{F:List dO},Me F->Uniq F
 |[],_,_,h=>by cases h
 |g::F,hd,f,h=>by
  obtain⟨h1,h2⟩:=List.pairwise_cons.mp hd;rcases au9.mp h with rfl|h
  ·exact aC5 (by simp)
  ·rw[List.find?_cons_of_neg (by simpa using h1 f h)]
   exact Me.uniq h2 f h
def Me.ne{F:List dO}(h:Me F){i j:Nat}(hij:i<j){f g:dO}(hi:F[i]?=some f)(hj:F[j]?=some g):f.name≠g.name:=by
 obtain⟨a,rfl⟩:=a00.mp hi;obtain⟨b,rfl⟩:=a00.mp hj;exact List.pairwise_iff_getElem.mp h i j a b hij
def TL{fs:List PS}{F:List dO}(h:Me F)(file:LU)(cap:Int):Me (wH fs F file cap).2:=by
 unfold wH;cases hf:F.find? (fun f=>decide (f.name=file))with
 |some f=>exact h
 |none=>
  refine List.pairwise_append.mpr ⟨h,List.pairwise_singleton _ _,fun f hfm g hg=>?_⟩;rw[aA2.mp hg,Dn];have:=List.find?_eq_none.mp hf f hfm;simpa using this
def atg(K:Dt)(fs:List PS)(sc:Int)(F:List dO):∃Yq,(gU K fs sc F).2=F++Yq:=asL _ _ _ _
def asu(K:Dt)(fs:List PS)(sc:Int)(F X:List dO):gU K fs sc ((gU K fs sc F).2++X)=((gU K fs sc F).1,(gU K fs sc F).2++X):=by
 unfold gU;rw[asx]
def OZ{F:List dO}(h:Me F)(K:Dt)(fs:List PS)(sc:Int):Me (gU K fs sc F).2:=TL h _ _
def asz(K:Dt)(fs:List PS)(rc sc:Int)(rl:LU)(a:eu)(ks:List PS)(F:List dO):∃Yq,(lH K fs rc sc rl a ks F).2=(gU K fs sc F).2++Yq:=by
 unfold lH;dsimp only;split
 ·split
  ·exact⟨[],(au6 _).symm⟩
  ·split
   ·exact asL _ _ _ _
   ·split
    ·exact⟨[],(au6 _).symm⟩
    ·exact asL _ _ _ _
 ·exact⟨[],(au6 _).symm⟩
def XQ{F:List dO}(h:Me F)(K:Dt)(fs:List PS)(rc sc:Int)(rl:LU)(a:eu)(ks:List PS):Me (lH K fs rc sc rl a ks F).2:=by
 have h1:=OZ h K fs sc;unfold lH;dsimp only;split
 ·split
  ·exact h1
  ·split
   ·exact TL h1 _ _
   ·split
    ·exact h1
    ·exact TL h1 _ _
 ·exact h1
def asH(K:Dt)(fs:List PS)(rc sc:Int)(rl:LU)(a:eu)(ks:List PS)(F X:List dO):lH K fs rc sc rl a ks ((lH K fs rc sc rl a ks F).2++X)=((lH K fs rc sc rl a ks F).1,(lH K fs rc sc rl a ks F).2++X):=by
 obtain⟨Yq,hY⟩:=asz K fs rc sc rl a ks F;have hs:=asu K fs sc F (Yq++X);rw[<-au2,<-hY]at hs;generalize hG:(lH K fs rc sc rl a ks F).2++X=G at hs⊢;rw[lH];rw[hs];rw[lH]at hG⊢;dsimp only at hG⊢;by_cases c:(gU K fs sc F).1.2=0
 ·simp only[if_pos c]at hG⊢;cases hp:sD (gU K fs sc F).1.1 rl with
  |none=>rfl
  |some p=>
   simp only[hp]at hG⊢;by_cases c1:p.length<0
   ·simp only[if_pos c1]at hG⊢;unfold Bo at hG⊢;dsimp only at hG⊢;rw[<-hG,asx]
   ·simp only[if_neg c1]at hG⊢;by_cases c2:rc<p.length
    ·simp only[if_pos c2]at hG⊢
    ·simp only[if_neg c2]at hG⊢;unfold Bo at hG⊢;dsimp only at hG⊢;rw[<-hG,asx]
 ·simp only[if_neg c]
def aty(K:Dt)(R:jQ)(fs:List PS)(rc sc:Int)(a:fQ)(F:List dO):∃Yq,(FI K R fs rc sc a F).2=F++Yq:=by
 have h:∀rl au ks,∃Yq,(lH K fs rc sc rl au ks F).2=F++Yq:=fun rl au ks=>by
  obtain⟨Yq,hY⟩:=asz K fs rc sc rl au ks F;obtain⟨Z,hZ⟩:=atg K fs sc F;exact⟨Z++Yq,by rw[hY,hZ,au2]⟩
 unfold FI;split
 ·exact atg K fs sc F
 ·split
  ·exact h _ _ _
  ·exact h _ _ _
def ahl{F:List dO}(h:Me F)(K:Dt)(R:jQ)(fs:List PS)(rc sc:Int)(a:fQ):Me (FI K R fs rc sc a F).2:=by
 unfold FI;split
 ·exact OZ h K fs sc
 ·split
  ·exact XQ h K fs rc sc _ _ _
  ·exact XQ h K fs rc sc _ _ _
def atl(K:Dt)(R:jQ)(fs:List PS)(rc sc:Int)(a:fQ)(F X:List dO):FI K R fs rc sc a ((FI K R fs rc sc a F).2++X)=((FI K R fs rc sc a F).1,(FI K R fs rc sc a F).2++X):=by
 unfold FI;by_cases c:a.kind=0
 ·simp only[if_pos c,asu]
 ·by_cases d:a.kind=1
  ·simp only[if_neg c,if_pos d,asH]
  ·simp only[if_neg c,if_neg d,asH]
def ry(K:Dt)(R:jQ)(fs:List PS)(rc sc:Int):List fQ->List dO->List dO
 |[],F=>F
 |a::l,F=>ry K R fs rc sc l (FI K R fs rc sc a F).2
def atd(K:Dt)(R:jQ)(fs:List PS)(rc sc:Int):∀(l:List fQ) (F:List dO),∃Yq,ry K R fs rc sc l F=F++Yq
 |[],F=>⟨[],(au6 _).symm⟩
 |a::l,F=>by
  obtain⟨Yq,hY⟩:=aty K R fs rc sc a F;obtain⟨Z,hZ⟩:=atd K R fs rc sc l (FI K R fs rc sc a F).2;exact⟨Yq++Z,by rw[ry,hZ,hY,au2]⟩
def YV(K:Dt)(R:jQ)(fs:List PS)(rc sc:Int):∀(l k:List fQ) (F:List dO),ry K R fs rc sc (l++k) F=ry K R fs rc sc k (ry K R fs rc sc l F)
 |[],_,_=>rfl
 |a::l,k,F=>by rw[a99,ry,YV K R fs rc sc l k,ry]
def ati(K:Dt)(R:jQ)(fs:List PS)(rc sc:Int)(l:List fQ)(k:Nat)(a:fQ)(hk:l[k]?=some a)(F:List dO):FI K R fs rc sc a (ry K R fs rc sc l F)=((FI K R fs rc sc a (ry K R fs rc sc (l.take k) F)).1,ry K R fs rc sc l F):=by
 have hlt:=(a00.mp hk).1;have e:l=l.take k++a::l.drop (k+1):=by
  have h2:l[k]=a:=by rw[a02 hlt]at hk;exact aA9 hk
  rw[<-h2,<-as9 hlt,List.take_append_drop]
 have e2:ry K R fs rc sc l F=ry K R fs rc sc (l.drop (k+1)) (FI K R fs rc sc a (ry K R fs rc sc (l.take k) F)).2:=by
  conv=>lhs;rw[e]
  rw[YV,ry]
 obtain⟨Yq,hY⟩:=atd K R fs rc sc (l.drop (k+1)) (FI K R fs rc sc a (ry K R fs rc sc (l.take k) F)).2;rw[e2,hY,atl]
structure Rp where
 h:Bool
 l:List fV
 R:jQ
 now:Int
 rc:Int
 sc:Int
 nm:LU
 fs:List PS
 F:List dO
 r:Nat
 s:Nat
 m:Nat
 o:Nat
 fo:Option Nat
 oo:Option Nat
def Rp.at'(p:Rp)(S:St):Prop:=bP S p.h p.l p.R p.now p.rc p.sc p.nm p.fs p.F p.r p.s p.m p.o p.fo p.oo
def Rp.has(p:Rp)(i:Nat):Prop:=i=p.r\/i=p.s\/i=p.m\/i=p.o\/p.fo=some i\/p.oo=some i
def Rp.to(p:Rp)(F:List dO)(oo:Option Nat):Rp:={p with F:=F,oo:=oo}
def Rp.lt{p:Rp}{S:St}(a:p.at' S){i:Nat}(h:p.has i):i<S.length:=by
 have k:=bP.lt a;rcases h with rfl|rfl|rfl|rfl|e|e
 ·exact k.r
 ·exact k.s
 ·exact k.m
 ·exact k.o
 ·exact k.fo _ e
 ·exact k.oo _ e
def Rp.moved{p:Rp}{S T:St}(a:p.at' S)(h:∀i x,p.has i->S[i]?=some x->T[i]?=some x):p.at' T:=bP.moved a fun i x hi e=>h i x hi e
def Rp.app{p:Rp}{S:St}(a:p.at' S)(L:St):p.at' (S++L):=bP.app a L
structure Stp(S S':St)(p p':Rp):Prop where
 ok:Ok S'
 at':p'.at' S'
 len:S.length<=S'.length
 old:∀i x,¬p.has i->S[i]?=some x->S'[i]?=some x
 new:∀i,p'.has i->p.has i\/S.length<=i
def Req.stp{S S':St}{p:Rp}{F':List dO}{oo':Option Nat}(q:Req S S' p.s p.m p.F F' p.oo oo')(b:(p.to F' oo').at' S'):Stp S S' p (p.to F' oo'):=
 ⟨q.ok,b,q.len,fun i x h e=>q.old i x (fun e'=>h (by simp[Rp.has,e'])) (fun e'=>h (by simp[Rp.has,e'])) (fun e'=>h (by simp[Rp.has,e'])) e,fun i h=>by
  rcases h with e|e|e|e|e|e
  ·exact .inl (.inl e)
  ·exact .inl (.inr (.inl e))
  ·exact .inl (.inr (.inr (.inl e)))
  ·exact .inl (.inr (.inr (.inr (.inl e))))
  ·exact .inl (.inr (.inr (.inr (.inr (.inl e)))))
  ·rcases q.new i e with e|e
   ·exact .inl (.inr (.inr (.inr (.inr (.inr e)))))
   ·exact .inr e⟩
structure Rp.good(C1:Ctx)(K:Dt)(p:Rp):Prop where
 case:CaseOk C1 p.h p.l p.R p.now K p.fs
 fet:yB p.fs p.F
 uniq:Me p.F
def Rp.ask(p:Rp)(K:Dt)(a:fQ):(SnV×kG×Int)×List dO:=FI K p.R p.fs p.rc p.sc a p.F
def afR{C1 h l R now K fs}(hK:CaseOk C1 h l R now K fs){F}(hFo:yB fs F)(rc sc:Int)(a:fQ)(ha:VL a):(FI K R fs rc sc a F).1.1.ok/\(FI K R fs rc sc a F).1.2.1.ok/\yB fs (FI K R fs rc sc a F).2/\(FI K R fs rc sc a F).2.length<=F.length+2:=by
 have z:Vj.ok:=⟨by decide,fun _ h=>by cases h⟩
 obtain⟨s1,s2,s3⟩:=J5 hK.chk hK.data hFo sc;unfold FI;split
 ·exact⟨s1,RY,s2,by dsimp only;omega⟩
 ·split
  ·obtain⟨r1,r2,r3,_⟩:=XP hK.chk hK.data hFo rc sc Fv R.tg R.ks hK.root.tg hK.root.ks;exact⟨z,r1,r2,r3⟩
  ·obtain⟨r1,r2,r3,_⟩:=XP hK.chk hK.data hFo rc sc a.name a.auth a.keys ha.ids ha.keys;exact⟨z,r1,r2,r3⟩
def amg (H:GH C C1) (hA:Has C ik gZ) {K:Dt} {p:Rp} (g:p.good C1 K) {S:St} (hS:Ok S) (a:p.at' S) (hF:p.F.length+1<1000000) (k:fQ) (hk:VL k):
  ∃S' oo',ai C ik [.ref p.r 0,.agg k.cs] S=some (.tup [.agg (p.ask K k).1.1.cs,.agg (p.ask K k).1.2.1.cs,.int .u8 (p.ask K k).1.2.2],S')/\Stp S S' p (p.to (p.ask K k).2 oo')/\(p.to (p.ask K k).2 oo').good C1 K:=by
 obtain⟨S',oo',q1,q2,q3⟩:=aiT H hA g.case g.fet hS a hF k hk;exact⟨S',oo',q1,Req.stp q3 q2,g.case,(afR g.case g.fet _ _ k hk).2.2.1,ahl g.uniq K p.R p.fs p.rc p.sc k⟩
def VN(H:aea C){p:Rp}{S:St}(hS:Ok S)(a:p.at' S)(hu:Me p.F):ai C jM [.ref p.r 0] S=some (.sl p.F.length (p.F.flatMap (vT p.nm)),S):=aeb H hS a hu.uniq
def Rp.of(p:Rp)(c:ul)(R:jQ):Prop:=p.h=c.h/\p.l=c.l/\p.R=R/\p.now=c.now/\p.rc=c.rc/\p.sc=c.sc/\p.nm=c.nm/\p.fs=c.fs
def amW (H:MadeHas C) (c:ul) (hl:c.l.length<=60) (hfs:c.fs.length<=1000) (R:jQ) (e:Int)
  (hR:∀(O:St) (o:Nat),Ok O->O[o]?=some (Ep c.h c.l)->ai C uY [.ref o 0,.str c.data] O=some (.tup [.agg (Va R e).cs,.int .i64 e],O))
  {Y:St} (hτ:Ok Y):
  (wL c.nm c.fs c.rc c.sc e≠0/\ai C dG [.agg c.cs] Y=some (.tup [.nilp,.int .i64 (wL c.nm c.fs c.rc c.sc e)],Y))\/
  (wL c.nm c.fs c.rc c.sc e=0/\∃(p:Rp) (T:St),ai C dG [.agg c.cs] Y=some (.tup [.ref p.r 0,.int .i64 0],T)/\Ok T/\p.at' T/\p.of c R/\p.F=[]/\(∀i,p.has i->Y.length<=i)/\T.take Y.length=Y):=by
 rcases amV H c hl hfs R e hR hτ with h|⟨h0,r,s,m,o,fo,T,h1,h2,h3,h4,h5,h6,h7,h8,h9⟩
 ·exact .inl h
 ·refine .inr ⟨h0,⟨c.h,c.l,R,c.now,c.rc,c.sc,c.nm,c.fs,[],r,s,m,o,fo,none⟩,T,h1,h2,h3,⟨rfl,rfl,rfl,rfl,rfl,rfl,rfl,rfl⟩,rfl,fun i hi=>?_,h9⟩;rcases hi with rfl|rfl|rfl|rfl|e|e
  ·exact h4
  ·exact h5
  ·exact h6
  ·exact h7
  ·exact h8 _ e
  ·cases e
def alV:Me []:=.nil
def alQ{S S':St}{n:Nat}(hn:n<=S.length)(h:∀i x,i<n->S[i]?=some x->S'[i]?=some x):S'.take n=S.take n:=by
 refine aw5 fun k=>?_;rw[au7,au7];split
 ·next hk=>
  have e:S[k]?=some S[k]:=a02 (by omega)
  rw[e];exact h k _ hk e
 ·rfl
def Stp.pre{S S':St}{p p':Rp}(q:Stp S S' p p'){n:Nat}(hn:n<=S.length)(h:∀i,p.has i->n<=i):S'.take n=S.take n:=
 alQ hn fun i x hi e=>q.old i x (fun hp=>by have:=h i hp;omega) e
def Stp.frm{S S':St}{p p':Rp}(q:Stp S S' p p'){n:Nat}(hn:n<=S.length)(h:∀i,p.has i->n<=i):∀i,p'.has i->n<=i:=fun i hi=>by
 rcases q.new i hi with e|e
 ·exact h i e
 ·omega
structure Kept(S:St)(pa pb:Nat)(was:Int)(x:Option (SnV×kG×Int)):Prop where
 none':x=none->S[pa]?=some (.cells [.int .i64 0,.int .i64 0,.nils] FZ)/\S[pb]?=some (.cells [.int .i64 0,.int .i64 0,.nils,.nils,.nils,.int .i64 0,.nils,.int .i64 0,.str []] FZ)
 some':∀y,x=some y->S[pa]?=some (.cells y.1.cs FZ)/\S[pb]?=some (.cells y.2.1.cs FZ)/\was=y.2.2
theorem Kept.ex{S pa pb was x}(h:Kept S pa pb was x):∃a b,S[pa]?=some (.cells a FZ)/\S[pb]?=some (.cells b FZ)/\a.length=3/\b.length=9:=by
 cases x with
 |none=>exact⟨_,_,(h.none' rfl).1,(h.none' rfl).2,rfl,rfl⟩
 |some y=>exact⟨_,_,(h.some' y rfl).1,(h.some' y rfl).2.1,rfl,rfl⟩
def Kept.moved{S T pa pb was x}(h:Kept S pa pb was x)(ha:∀y,S[pa]?=some y->T[pa]?=some y)(hb:∀y,S[pb]?=some y->T[pb]?=some y):Kept T pa pb was x:=
 ⟨fun e=>⟨ha _ (h.none' e).1,hb _ (h.none' e).2⟩,fun y e=>⟨ha _ (h.some' y e).1,hb _ (h.some' y e).2.1,(h.some' y e).2.2⟩⟩
def atw (H:GH C C1) (hA:Has C ik gZ) {K:Dt} (p:Rp) (l:List fQ) (hl:l.length<=12) (hk:∀a∈l,VL a) (k:Nat) (pa pb n0:Nat) (hab:pa≠pb):∀(n i:Nat) (oo:Option Nat) (S:St) (was:Int),i+n=l.length->Ok S->
  (p.to (ry K p.R p.fs p.rc p.sc (l.take i) []) oo).at' S->(p.to (ry K p.R p.fs p.rc p.sc (l.take i) []) oo).good C1 K->(ry K p.R p.fs p.rc p.sc (l.take i) []).length<=2*i->¬(p.to (ry K p.R p.fs p.rc p.sc (l.take i) []) oo).has pa->¬(p.to (ry K p.R p.fs p.rc p.sc (l.take i) []) oo).has pb->
  (∀j,(p.to (ry K p.R p.fs p.rc p.sc (l.take i) []) oo).has j->n0<=j)->n0<=pa->n0<=pb->n0<=S.length->
  Kept S pa pb was (if i<=k then none else(l[k]?).map fun a=>(FI K p.R p.fs p.rc p.sc a (ry K p.R p.fs p.rc p.sc (l.take k) [])).1)->
  ∃(oo':Option Nat) (S':St) (was':Int),aH C (ai C) 124 [1,7,9,10,11,12,13] pK [(1,MF l),(7,.ref p.r 0),(9,.int .i64 k),(10,.ref pa 0),(11,.ref pb 0),(12,.int .u8 was),(13,.int .i64 i)] S=some (.exit 0,[(1,MF l),(7,.ref p.r 0),(9,.int .i64 k),(10,.ref pa 0),(11,.ref pb 0),(12,.int .u8 was')],S')/\Ok S'/\
   (p.to (ry K p.R p.fs p.rc p.sc l []) oo').at' S'/\(p.to (ry K p.R p.fs p.rc p.sc l []) oo').good C1 K/\(ry K p.R p.fs p.rc p.sc l []).length<=2*l.length/\¬(p.to (ry K p.R p.fs p.rc p.sc l []) oo').has pa/\¬(p.to (ry K p.R p.fs p.rc p.sc l []) oo').has pb/\
   (∀j,(p.to (ry K p.R p.fs p.rc p.sc l []) oo').has j->n0<=j)/\n0<=S'.length/\S'.take n0=S.take n0/\
   Kept S' pa pb was' (if l.length<=k then none else(l[k]?).map fun a=>(FI K p.R p.fs p.rc p.sc a (ry K p.R p.fs p.rc p.sc (l.take k) [])).1):=by
 intro n
 induction n with
 |zero=>
  intro i oo S was hi hS h1 h2 h3 h4 h5 h6 h7 h8 h9 h10;have e:l.take i=l:=a08 (by omega)
  have ei:i=l.length:=by omega
  rw[e]at h1 h2 h3 h4 h5 h6;rw[ei]at h3 h10;refine⟨oo,S,was,?_,hS,h1,h2,h3,h4,h5,h6,h9,rfl,h10⟩;rw[aG (he:=rfl)];have h:¬((i:Int)<(l.length:Int)):=by omega
  unfold MF;simp only[pK,h,bU,EVX,seval]
 |succ n ih=>
  intro i oo S was hi hS h1 h2 h3 h4 h5 h6 h7 h8 h9 h10;have h:((i:Int)<(l.length:Int)):=by omega
  have hlt:i<l.length:=by omega
  have hb:l[i]?=some l[i]:=a02 hlt;have hm:VL l[i]:=hk _ (az1 hlt);have hw:=wrS i (by omega)
  have hp0:(0:Int)<=i:=by omega
  have fl:=dV fQ.len l;have fd:=lM fQ.len hb;have tk:l.take (i+1)=l.take i++[l[i]]:=ay7 hlt;generalize hae:l[i]=a at*;have eF:ry K p.R p.fs p.rc p.sc (l.take (i+1)) []=(FI K p.R p.fs p.rc p.sc a (ry K p.R p.fs p.rc p.sc (l.take i) [])).2:=by rw[tk,YV];rfl
  obtain⟨S1,o1,q1,q2,q3⟩:=amg H hA h2 hS h1 (by show(ry K p.R p.fs p.rc p.sc (l.take i) []).length+1<_;omega) a hm
  have ok2:=afR h2.case h2.fet p.rc p.sc a hm;have q2':=q2;change Stp S S1 _ (p.to (FI K p.R p.fs p.rc p.sc a (ry K p.R p.fs p.rc p.sc (l.take i) [])).2 o1)at q2;change(p.to (FI K p.R p.fs p.rc p.sc a (ry K p.R p.fs p.rc p.sc (l.take i) [])).2 o1).good C1 K at q3;change ai C ik [.ref p.r 0,.agg a.cs] S=some (.tup [.agg (FI K p.R p.fs p.rc p.sc a (ry K p.R p.fs p.rc p.sc (l.take i) [])).1.1.cs,.agg (FI K p.R p.fs p.rc p.sc a (ry K p.R p.fs p.rc p.sc (l.take i) [])).1.2.1.cs,.int .u8 (FI K p.R p.fs p.rc p.sc a (ry K p.R p.fs p.rc p.sc (l.take i) [])).1.2.2],S1)at q1;change _/\_/\yB _ (FI K p.R p.fs p.rc p.sc a (ry K p.R p.fs p.rc p.sc (l.take i) [])).2/\(FI K p.R p.fs p.rc p.sc a (ry K p.R p.fs p.rc p.sc (l.take i) [])).2.length<=(ry K p.R p.fs p.rc p.sc (l.take i) []).length+2 at ok2;have hFk:i=k->(l[k]?).map (fun a=>(FI K p.R p.fs p.rc p.sc a (ry K p.R p.fs p.rc p.sc (l.take k) [])).1)=some (FI K p.R p.fs p.rc p.sc a (ry K p.R p.fs p.rc p.sc (l.take i) [])).1:=fun e=>by rw[<-e,hb];rfl
  obtain⟨a0,b0,x1,x2,x3,x4⟩:=h10.ex;have pal:pa<S.length:=(a00.mp x1).1;have pbl:pb<S.length:=(a00.mp x2).1;generalize FI K p.R p.fs p.rc p.sc a (ry K p.R p.fs p.rc p.sc (l.take i) [])=G at*;obtain⟨⟨sv,tv,c⟩,F1⟩:=G;dsimp only at*;have na:¬(p.to F1 o1).has pa:=fun e=>by rcases q2.new _ e with e|e;exact h4 e;omega
  have nb:¬(p.to F1 o1).has pb:=fun e=>by rcases q2.new _ e with e|e;exact h5 e;omega
  have from1:∀j,(p.to F1 o1).has j->n0<=j:=q2.frm h9 h6;have y1:=q2.old _ _ h4 x1;have y2:=q2.old _ _ h5 x2;have pre1:S1.take n0=S.take n0:=q2.pre h9 h6;have svb:AO.below 0 (.cells sv.cs FZ)=true:=sv.nvs.cl;have tvb:=PE tv;have okT:Ok (S1++[.cells sv.cs FZ,.cells tv.cs FZ]):=q2.ok.plus (by simp only[a88,aw1,svb,tvb,av9])
  have l1:=q2.len;have ac:a.cs=[.int .u8 a.kind,.str a.name,.int .i64 a.auth.th,.sl a.auth.ids.length (a.auth.ids.flatMap sC),.sl a.keys.length (a.keys.flatMap pC)]:=rfl;have spT:∀tv:kG,splice [.int .i64 0,.int .i64 0,.nils,.nils,.nils,.int .i64 0,.nils,.int .i64 0,.str []] 0 tv.cs=tv.cs:=fun _=>rfl;have spS:∀tv:SnV,splice [.int .i64 0,.int .i64 0,.nils] 0 tv.cs=tv.cs:=fun _=>rfl;rw[ac]at q1 fd;by_cases eik:i=k
  ·have ek:((i:Int)==(k:Int))=true:=by simp[eik]
   have okS2:Ok (((S1++[AO.cells sv.cs FZ,.cells tv.cs FZ]).set pa (.cells sv.cs FZ)).set pb (.cells tv.cs FZ)):=Ok.set2 (Ok.set2 okT _ (AO.below_mono (a98 _) _ svb)) _ (AO.below_mono (a98 _) _ tvb);have e1:(S1++[AO.cells sv.cs FZ,.cells tv.cs FZ]).set pa (.cells sv.cs FZ)=S1.set pa (.cells sv.cs FZ)++[.cells sv.cs FZ,.cells tv.cs FZ]:=dJ y1 _ _;have y2s:=aF y2 (fun e=>hab e.symm) (.cells sv.cs FZ);have e2:((S1++[AO.cells sv.cs FZ,.cells tv.cs FZ]).set pa (.cells sv.cs FZ)).set pb (.cells tv.cs FZ)=(S1.set pa (.cells sv.cs FZ)).set pb (.cells tv.cs FZ)++[.cells sv.cs FZ,.cells tv.cs FZ]:=by rw[e1];exact dJ y2s _ _
   rw[e2]at okS2;have at2:(p.to F1 o1).at' ((S1.set pa (.cells sv.cs FZ)).set pb (.cells tv.cs FZ)++[AO.cells sv.cs FZ,.cells tv.cs FZ]):=(q2.at').moved fun j x hj e=>aA (aF (aF e (fun(e':j=pa)=>na (e'▸hj)) _) (fun(e':j=pb)=>nb (e'▸hj)) _) _;have kept2:Kept ((S1.set pa (.cells sv.cs FZ)).set pb (.cells tv.cs FZ)++[AO.cells sv.cs FZ,.cells tv.cs FZ]) pa pb c (if i+1<=k then none else(l[k]?).map fun a=>(FI K p.R p.fs p.rc p.sc a (ry K p.R p.fs p.rc p.sc (l.take k) [])).1):=by
    rw[if_neg (by omega),hFk eik]
    exact⟨fun e=>(by cases e),fun y e=>by
     cases e;exact⟨aA (aF (bg y1 _) hab _) _,aA (bg y2s _) _,rfl⟩⟩
   have pre2:((S1.set pa (.cells sv.cs FZ)).set pb (.cells tv.cs FZ)++[AO.cells sv.cs FZ,.cells tv.cs FZ]).take n0=S.take n0:=by
    rw[<-pre1];exact alQ (by omega) fun j x hj e=>aA (aF (aF e (by omega) _) (by omega) _) _
   obtain⟨oo',S',was',r1,r2,r3,r4,r5,r6,r7,r8,r9,r10,r11⟩:=ih (i+1) o1 _ c (by omega) okS2 (by rw[eF];exact at2) (by rw[eF];exact q3) (by rw[eF];have:=ok2.2.2.2;omega) (by rw[eF];exact na) (by rw[eF];exact nb) (by rw[eF];exact from1) h7 h8 (by simp;omega) kept2
   refine⟨oo',S',was',?_,r2,r3,r4,r5,r6,r7,r8,r9,by rw[r10,pre2],r11⟩
   rw[<-r1,aG (he:=rfl)];generalize hkk:aH C (ai C) 124 [1,7,9,10,11,12,13] pK=kk;unfold MF;have z1:=fun L=>aA y1 L;have z3:=fun y L=>aA (aF y2 (fun e=>hab e.symm) y) L;have p1:=fun L y=>dJ y1 L y;have p2:=fun L y z=>dJ (aF y2 (fun e=>hab e.symm) y) L z;have spA:splice a0 0 sv.cs=sv.cs:=atG (by rw[x3];rfl)
   have spB:splice b0 0 tv.cs=tv.cs:=atG (by rw[x4];rfl)
   have f3:∀(y:AO) (L:St) (d:Nat),(S1.set pa y++L)[S1.length+d]?=L[d]?:=fun y L d=>xK (by simp) L d
   simp only[pK,h,hlt,hp0,hw,ek,fl,fd,q1,z1,z3,p1,p2,f3,x3,x4,spA,spB,spS,spT,yj,reO,SnV.len,SnV.tk,SnV.fl,kG.len,kG.tk,kG.fl,aQ,jm,dM,BJ,bU,AV.cells,EVX,seval]
  ·have ek:((i:Int)==(k:Int))=false:=by simp only[beq_eq_false_iff_ne,ne_eq];omega
   have kept2:Kept (S1++[AO.cells sv.cs FZ,.cells tv.cs FZ]) pa pb was (if i+1<=k then none else(l[k]?).map fun a=>(FI K p.R p.fs p.rc p.sc a (ry K p.R p.fs p.rc p.sc (l.take k) [])).1):=by
    have e:(if i+1<=k then none else(l[k]?).map fun a=>(FI K p.R p.fs p.rc p.sc a (ry K p.R p.fs p.rc p.sc (l.take k) [])).1)=(if i<=k then none else(l[k]?).map fun a=>(FI K p.R p.fs p.rc p.sc a (ry K p.R p.fs p.rc p.sc (l.take k) [])).1):=by
     by_cases c1:i<=k
     ·rw[if_pos c1,if_pos (by omega)]
     ·rw[if_neg c1,if_neg (by omega)]
    rw[e];exact h10.moved (fun y e=>aA (q2.old _ _ h4 e) _) (fun y e=>aA (q2.old _ _ h5 e) _)
   have pre2:(S1++[AO.cells sv.cs FZ,.cells tv.cs FZ]).take n0=S.take n0:=by
    rw[<-pre1];exact alQ (by omega) fun j x hj e=>aA e _
   obtain⟨oo',S',was',r1,r2,r3,r4,r5,r6,r7,r8,r9,r10,r11⟩:=ih (i+1) o1 _ was (by omega) okT (by rw[eF];exact(q2.at').app _) (by rw[eF];exact q3) (by rw[eF];have:=ok2.2.2.2;omega) (by rw[eF];exact na) (by rw[eF];exact nb) (by rw[eF];exact from1) h7 h8 (by simp;omega) kept2
   refine⟨oo',S',was',?_,r2,r3,r4,r5,r6,r7,r8,r9,by rw[r10,pre2],r11⟩
   rw[<-r1,aG (he:=rfl)];generalize hkk:aH C (ai C) 124 [1,7,9,10,11,12,13] pK=kk;unfold MF;simp only[pK,h,hlt,hp0,hw,ek,fl,fd,q1,spS,spT,SnV.len,SnV.fl,kG.len,kG.fl,aQ,jm,dM,BJ,bU,AV.cells,EVX,seval]
end Go.Ev
namespace Go.Ev
set_option maxRecDepth 100000
variable{C:Ctx}
structure IU where
 S:LU->SnV
 s1:LU->Int
 s2:LU->Int
 s3:LU->Int
 sen:LU->Bool
 T:LU->kG
 t1:LU->Int
 t2:LU->Int
 t3:LU->Int
 ten:LU->eu->List PS->Bool
 od:LU->List PS->Bool
def IU.sc(b:IU)(now:Int)(d:LU)(z:Int):Int:=Ry z (b.s1 d) (b.s2 d) (b.s3 d) (b.sen d) (decide ((b.S d).exp<=now))
def IU.rc(b:IU)(now:Int)(p:mi)(a:eu)(ks:List PS)(d:LU)(z:Int):Int:=XO z p.length d.length (b.od d p.hashes) (b.t1 d) (b.t2 d) (b.t3 d) (b.ten d a ks) (b.T d).ver p.version (decide ((b.T d).exp<=now))
def IU.K(b:IU)(now:Int):Dt:=⟨fun d z=>(afi (b.S d) (b.sc now d z),b.sc now d z),fun p a ks d z=>(afj (b.T d) (b.rc now p a ks d z),b.rc now p a ks d z)⟩
def Il(hC:Has C mZ xP)(a b:Int)(O:St):ai C mZ [.int .i64 a,.int .i64 b] O=some (.bool (decide (a<=b)),O):=by
 rw[hC.go (NVs.hand (.cons (.int _ _) (.cons (.int _ _) .nil)) _)];by_cases c:a<=b
 ·simp only[xP,c,EVX,seval]
 ·simp only[xP,c,EVX,seval]
def al6 (H:ChkTot C) (hO:Has C mZ xP) (h:Bool) (l:List fV) (b1:uM l=false) (data:LU) (b4:data.length<=LB):
  ∃(T:kG) (e1 e2 e3:Int) (en:eu->List PS->Bool) (od:List PS->Bool),T.ok/\∀(p:mi) (a:eu) (ks:List PS) (now size:Int) (O:St) (o:Nat),zC p.hashes->xM a.ids->zC ks->Ok O->O[o]?=some (Ep h l)->
   ai C yO [.ref o 0,.agg p.cs,.agg a.cs,.sl ks.length (ks.flatMap pC),.int .i64 now,.str data,.int .i64 size] O=
    some (.tup [.agg (afj T (XO size p.length data.length (od p.hashes) e1 e2 e3 (en a ks) T.ver p.version (decide (T.exp<=now)))).cs,.int .u8 (XO size p.length data.length (od p.hashes) e1 e2 e3 (en a ks) T.ver p.version (decide (T.exp<=now)))],O):=by
 obtain⟨j,n1,e1,q1⟩:=H.rd data b4;obtain⟨r,e2,mr,q2⟩:=H.sg j;have q5x:∀a:eu×List PS,∃en:Bool,xM a.1.ids->zC a.2->∀Y o,Y[o]?=some (Ep h l)->ai C iF [.ref o 0,r,.agg (aC a.1.th a.1.ids),.sl a.2.length (a.2.flatMap pC)] Y=some (.bool en,Y):=fun a=>by
  by_cases c:xM a.1.ids/\zC a.2
  ·obtain⟨en,q⟩:=H.enough h l r a.1.th a.1.ids a.2 b1 c.1 c.2 mr;exact⟨en,fun _ _=>q⟩
  ·exact⟨false,fun c1 c2=>absurd ⟨c1,c2⟩ c⟩
 obtain⟨en,q5⟩:=Classical.axiomOfChoice q5x;obtain⟨k,ps,rfl,lp⟩:=abg mr;obtain⟨T,e3,tok,q3⟩:=H.tg k;obtain⟨D,q6⟩:=H.dig data b4;obtain⟨x0,x1,x2,x3,x4,je,ox0,ox1,ox2,ox3,ox4⟩:=j.ones;obtain⟨r0,r1,r2,r3,r4,ke,or0,or1,or2,or3,or4⟩:=k.ones;unfold JV.av at q1 q2 q3;rw[je]at q1 q2;rw[ke]at q2 q3 q5;have odx:∀hs:List PS,∃b:Bool,zC hs->∀(Y:St) (o:Nat) (F:fK),Ok Y->Y[o]?=some (.cells F.cs FZ)->F.ph=.sl hs.length (hs.flatMap pC)->F.data=data->ai C fJ [.ref o 0] Y=some (.bool b,Y):=fun hs=>by
  by_cases c:zC hs
  case neg=>exact⟨false,fun h=>absurd h c⟩
  by_cases c0:hs.length=0
  ·have:hs=[]:=au5 c0;subst this;exact⟨false,fun _ Y o F hτ hF hp hd=>Tm H.role.toChkHas hτ hF [] hp⟩
  ·obtain⟨d,b,q⟩:=H.hash hs c;exact⟨_,fun _ Y o F hτ hF hp hd=>XB H.role.toChkHas hτ hF hs.length _ hp c0 (by rw[hp];exact q Y) (by rw[hd];exact q6 Y)⟩
 obtain⟨od,qo⟩:=Classical.axiomOfChoice odx;refine⟨T,e1,e2,e3,fun a ks=>en (a,ks),od,tok,fun p a ks now size O o hh ha hk hσ ho=>?_⟩;have hl:o<O.length:=(a00.mp ho).1;have hI:(inf h l o a.th a.ids ks p.name p.version p.length (.sl p.hashes.length (p.hashes.flatMap pC)) now data size).ok O.length:=⟨.inr ⟨o,rfl,hl⟩,uN _ (JS a.ids),uN _ (yY ks),(uN _ (yY p.hashes)).b0⟩;rw[<-ano];exact Yy H.role hσ hI (uN _ (yY p.hashes)) ⟨rfl,rfl⟩
  {x0:=x0,x1:=x1,x2:=x2,x3:=x3,x4:=x4,n1:=n1,e1:=e1,r0:=r0,r1:=r1,r2:=r2,r3:=r3,r4:=r4,r5:=.sl ps.length (ps.flatMap pC),e2:=e2,en:=en (a,ks)
   hx0:=ox0,hx1:=ox1,hx2:=ox2,hx3:=ox3,hx4:=ox4,hr0:=or0,hr1:=or1,hr2:=or2,hr3:=or3,hr4:=or4,hr5:=uN _ (yY ps)
   rd:=fun Y _=>q1 Y,sg:=fun _ Y _=>q2 Y
   enough:=fun _ _ Y _ hx=>q5 (a,ks) ha hk Y o (hx o _ ho)
   tv:=T.ver,tx:=T.exp,t2:=.sl T.list.length (T.list.flatMap TgV.cs),t3:=.sl T.del.keys.length (T.del.keys.flatMap pC),t4:=.sl T.del.roles.length (T.del.roles.flatMap RoV.cs),t5:=.int .i64 T.del.thr,t6:=.sl T.del.ids.length (T.del.ids.flatMap sC),t7:=.int .i64 T.del.bits,t8:=.str T.del.pre,e3:=e3,ov:=decide (T.exp<=now),od:=od p.hashes
   h2:=uN _ (.sl _ (fP (fun r=>r.bel) T.list)),h3:=uN _ (yY _),h4:=uN _ (.sl _ (UL T.del.roles)),h5:=Fa _ _,h6:=uN _ (JS _),h7:=Fa _ _,h8:=agJ _
   tg:=fun _ _ Y _=>q3 Y,over:=fun Y _=>Il hO _ _ Y,odig:=qo p.hashes hh}
def alE (H:ChkTot C) (hO:Has C mZ xP) (h:Bool) (l:List fV) (R:jQ) (data:LU) (b1:uM l=false) (b2:xM R.sn.ids) (b3:zC R.ks) (b4:data.length<=LB):
  ∃(S:SnV) (e1 e2 e3:Int) (en:Bool),S.ok/\∀(now size:Int) (O:St) (o:Nat),Ok O->O[o]?=some (Ep h l)->
   ai C nG [.ref o 0,.agg R.cs,.int .i64 now,.str data,.int .i64 size] O=
    some (.tup [.agg (afi S (Ry size e1 e2 e3 en (decide (S.exp<=now)))).cs,.int .u8 (Ry size e1 e2 e3 en (decide (S.exp<=now)))],O):=by
 obtain⟨S,e1,e2,e3,en,ov,sok,q,r⟩:=alF H h l R data b1 b2 b3 b4;have e:∀now,ov now=decide (S.exp<=now):=fun now=>by
  have:=(q now []).symm.trans (Il hO _ _ _);simpa using this
 refine⟨S,e1,e2,e3,en,sok,fun now size O o hσ ho=>?_⟩;rw[<-anl,<-e];exact r now size O o hσ ho
def aiV(H:ChkTot C)(hO:Has C mZ xP)(h:Bool)(l:List fV)(b1:uM l=false)(R:jQ)(b2:xM R.sn.ids)(b3:zC R.ks):∃b:IU,∀now,Io C h l R now (b.K now):=by
 have sx:∀d:LU,∃x:SnV×Int×Int×Int×Bool,d.length<=LB->x.1.ok/\∀(now size:Int) (O:St) (o:Nat),Ok O->O[o]?=some (Ep h l)->
   ai C nG [.ref o 0,.agg R.cs,.int .i64 now,.str d,.int .i64 size] O=
    some (.tup [.agg (afi x.1 (Ry size x.2.1 x.2.2.1 x.2.2.2.1 x.2.2.2.2 (decide (x.1.exp<=now)))).cs,.int .u8 (Ry size x.2.1 x.2.2.1 x.2.2.2.1 x.2.2.2.2 (decide (x.1.exp<=now)))],O):=fun d=>by
  by_cases c:d.length<=LB
  ·obtain⟨S,e1,e2,e3,en,q⟩:=alE H hO h l R d b1 b2 b3 c;exact⟨(S,e1,e2,e3,en),fun _=>q⟩
  ·exact⟨(Vj,0,0,0,false),fun h=>absurd h c⟩
 have tx:∀d:LU,∃x:kG×Int×Int×Int×(eu->List PS->Bool)×(List PS->Bool),d.length<=LB->x.1.ok/\∀(p:mi) (a:eu) (ks:List PS) (now size:Int) (O:St) (o:Nat),zC p.hashes->xM a.ids->zC ks->Ok O->O[o]?=some (Ep h l)->
   ai C yO [.ref o 0,.agg p.cs,.agg a.cs,.sl ks.length (ks.flatMap pC),.int .i64 now,.str d,.int .i64 size] O=
    some (.tup [.agg (afj x.1 (XO size p.length d.length (x.2.2.2.2.2 p.hashes) x.2.1 x.2.2.1 x.2.2.2.1 (x.2.2.2.2.1 a ks) x.1.ver p.version (decide (x.1.exp<=now)))).cs,.int .u8 (XO size p.length d.length (x.2.2.2.2.2 p.hashes) x.2.1 x.2.2.1 x.2.2.2.1 (x.2.2.2.2.1 a ks) x.1.ver p.version (decide (x.1.exp<=now)))],O):=fun d=>by
  by_cases c:d.length<=LB
  ·obtain⟨T,e1,e2,e3,en,od,q⟩:=al6 H hO h l b1 d c;exact⟨(T,e1,e2,e3,en,od),fun _=>q⟩
  ·exact⟨(ML,0,0,0,fun _ _=>false,fun _=>false),fun h=>absurd h c⟩
 obtain⟨f,hf⟩:=Classical.axiomOfChoice sx;obtain⟨g,hg⟩:=Classical.axiomOfChoice tx;refine⟨⟨fun d=>(f d).1,fun d=>(f d).2.1,fun d=>(f d).2.2.1,fun d=>(f d).2.2.2.1,fun d=>(f d).2.2.2.2,fun d=>(g d).1,fun d=>(g d).2.1,fun d=>(g d).2.2.1,fun d=>(g d).2.2.2.1,fun d=>(g d).2.2.2.2.1,fun d=>(g d).2.2.2.2.2⟩,fun now=>⟨fun d z hd=>?_,fun d z O o hd hσ ho=>?_,fun d z e=>?_,fun p a ks d z e=>?_,fun p a ks d z h1 h2 h3 hd=>?_,fun p a ks d z O o h1 h2 h3 hd hσ ho=>?_⟩⟩
 ·exact anm (hf d hd).1 _
 ·exact(hf d hd).2 now z O o hσ ho
 ·exact if_neg e
 ·exact if_neg e
 ·exact anp (hg d hd).1 _
 ·exact(hg d hd).2 p a ks now z O o h1 h2 h3 hσ ho
end Go.Ev
namespace Go.Ev
set_option maxRecDepth 100000
variable{C C1:Ctx}
structure aax(C C1:Ctx):Prop where
 cat:GH C C1
 made:MadeHas C
 asked:Has C ik gZ
 lng:Pm C
 fet:aea C
 s26:Has C Om NS
 s23:aoD C
 s24:aoF C
 awake:∀O,Ok O->ai C mD [] O=some (.bool true,O)
 root:∀(h:Bool) (l:List fV),uM l=false->∀data:LU,data.length<=LB->∃(R:jQ) (e:Int),R.ok/\∀(O:St) (o:Nat),Ok O->O[o]?=some (Ep h l)->ai C uY [.ref o 0,.str data] O=some (.tup [.agg (Va R e).cs,.int .i64 e],O)
 chk:∀(h:Bool) (l:List fV),uM l=false->∀(R:jQ),R.ok->∃b:IU,∀now:Int,Io C1 h l R now (b.K now)
def afq{l:List fQ}(h:Gm l=false):l.length<=12/\∀a∈l,VL a:=by
 unfold Gm at h;rw[ay2]at h;refine⟨Nat.not_lt.mp (of_decide_eq_false h.1),fun a ha=>?_⟩;have h2:=List.any_eq_false.mp h.2 a ha;unfold QT at h2;simp only[az0,not_or,Bool.not_eq_true]at h2;exact⟨aim (th:=a.auth.th) h2.2.1,afr h2.2.2⟩
def Xq{c:ul}{L:List (List fQ)}(h:Uw c L=false):uM c.l=false/\c.l.length<=60/\c.fs.length<=1000/\c.data.length<=LB/\Du c.fs/\∀l∈L,l.length<=12/\∀a∈l,VL a:=by
 unfold Uw at h;simp only[ay2]at h;obtain⟨h1,h2,h3⟩:=h;obtain⟨s1,s2,s3⟩:=adS h1;refine⟨h2,?_,s1,s2,s3,fun l hl=>?_⟩
 ·unfold uM at h2;rw[ay2]at h2;exact Nat.not_lt.mp (of_decide_eq_false h2.1)
 ·have:=List.any_eq_false.mp h3 l hl;exact afq (by simpa using this)
structure afG(C1:Ctx)(bv:IU)(c:ul)(R:jQ)(Y T:St)(p:Rp):Prop where
 ok:Ok T
 at':p.at' T
 of:p.of c R
 F:p.F=[]
 own:∀i,p.has i->Y.length<=i
 pre:T.take Y.length=Y
 good:p.good C1 (bv.K c.now)
theorem afG.len{C1 bv c R Y T p}(h:afG C1 bv c R Y T p):Y.length<=T.length:=by
 have:=congrArg List.length h.pre;rw[ay6]at this;omega
def Stp.refl{S:St}{p:Rp}(hS:Ok S)(a:p.at' S):Stp S S p p:=⟨hS,a,a06 _,fun _ _ _ h=>h,fun _ h=>.inl h⟩
def Stp.trans{S T U:St}{p q r:Rp}(s:Stp S T p q)(t:Stp T U q r):Stp S U p r:=
 ⟨t.ok,t.at',ax7 s.len t.len,fun i x h e=>t.old i x (fun h'=>by
  rcases s.new i h' with h''|h''
  ·exact h h''
  ·have:=(a00.mp e).1;omega) (s.old i x h e),fun i h=>by
  rcases t.new i h with h|h
  ·exact s.new i h
  ·exact .inr (ax7 s.len h)⟩
theorem Stp.more{S T:St}{p q:Rp}(s:Stp S T p q){L:St}(hL:Ok (T++L)):Stp S (T++L) p q:=
 ⟨hL,(s.at').app L,by have:=s.len;simp;omega,fun i x h e=>aA (s.old i x h e) L,s.new⟩
def aiE(p q:Rp):Prop:=∀i,p.has i->¬q.has i
def aiE.symm{p q:Rp}(h:aiE p q):aiE q p:=fun i a b=>h i b a
def Stp.other{S S':St}{p p' q:Rp}(s:Stp S S' p p')(a:q.at' S)(d:aiE p q):q.at' S'/\aiE p' q:=
 ⟨a.moved fun i x h e=>s.old i x (fun h'=>d i h' h) e,fun i h h'=>by
  rcases s.new i h with e|e
  ·exact d i e h'
  ·have:=Rp.lt a h';omega⟩
def atu (nm:LU) (F:List dO) (hd:Me F) (hF:F.length<=1000) (v1 v7 v9 v10 v11 v12:AV) (i:Nat) (hi:i<F.length) (O:St):∀(n j:Nat),j+n=i->
  aH C (ai C) 124 [1,7,9,10,11,12,17,18,19] vZ [(1,v1),(7,v7),(9,v9),(10,v10),(11,v11),(12,v12),(17,.sl F.length (F.flatMap (vT nm))),(18,.int .i64 i),(19,.int .i64 j)] O=some (.exit 4,[(1,v1),(7,v7),(9,v9),(10,v10),(11,v11),(12,v12),(17,.sl F.length (F.flatMap (vT nm))),(18,.int .i64 i)],O)
 |0,j,hj=>by
  rw[aG (he:=rfl)];have h:¬((j:Int)<(i:Int)):=by omega
  simp only[vZ,h,EVX,seval]
 |n+1,j,hj=>by
  rw[aG (he:=rfl)];have h:((j:Int)<(i:Int)):=by omega
  have hjl:j<F.length:=by omega
  have bi:F[i]?=some F[i]:=a02 hi;have bj:F[j]?=some F[j]:=a02 hjl;have ne:=hd.ne (by omega) bj bi
  have hw:=wrS j (by omega)
  have h0:(0:Int)<=i:=by omega
  have h1:(0:Int)<=j:=by omega
  have fl:=dV (ab2 nm) F;have fi:=lM (ab2 nm) bi;have fj:=lM (ab2 nm) bj;generalize F[i]=f at*;generalize F[j]=g at*;have pf:∀f,vT nm f=[.str nm,.str f.name,.int .i64 f.cap,.int .i64 f.size]:=fun _=>rfl;have ih:=atu nm F hd hF v1 v7 v9 v10 v11 v12 i hi O n (j+1) (by omega)
  generalize hk:aH C (ai C) 124 [1,7,9,10,11,12,17,18,19] vZ=k at*;simp only[vZ,h,hi,hjl,h0,h1,hw,ih,ne,fl,fi,fj,pf,EVX,seval]
def atj (nm:LU) (F:List dO) (hd:Me F) (hF:F.length<=1000) (v1 v7 v9 v10 v11 v12:AV) (O:St):∀(n i:Nat),i+n=F.length->
  aH C (ai C) 124 [1,7,9,10,11,12,17,18] FH [(1,v1),(7,v7),(9,v9),(10,v10),(11,v11),(12,v12),(17,.sl F.length (F.flatMap (vT nm))),(18,.int .i64 i)] O=some (.exit 2,[(1,v1),(7,v7),(9,v9),(10,v10),(11,v11),(12,v12),(17,.sl F.length (F.flatMap (vT nm)))],O)
 |0,i,hi=>by
  rw[aG (he:=rfl)];have h:¬((i:Int)<(F.length:Int)):=by omega
  simp only[FH,h,bU,EVX,seval]
 |n+1,i,hi=>by
  rw[aG (he:=rfl)];have h:((i:Int)<(F.length:Int)):=by omega
  have hw:=wrS i (by omega)
  have lp:=atu (C:=C) nm F hd hF v1 v7 v9 v10 v11 v12 i (by omega) O i 0 (by omega)
  simp only[at6]at lp;have ih:=atj nm F hd hF v1 v7 v9 v10 v11 v12 O n (i+1) (by omega)
  generalize hk:aH C (ai C) 124 [1,7,9,10,11,12,17,18] FH=k at*;simp only[FH,h,hw,lp,ih,bU,EVX,seval]
set_option maxHeartbeats 2000000
def asN (H:aax C C1) (hO:Has C aso asg) (c:ul) (l:List fQ) (w:Nat) (hw:w<256) (O:St) (hσ:Ok O):
  ai C aso [.agg c.cs,MF l,.int .u8 w] O=some (.bool true,O):=by
 have cb:AO.below 0 (.cells c.cs FZ)=true:=c.nvs.cl;have ok1:Ok (O++[.cells c.cs FZ]):=hσ.plus (by rw[a88,cb];rfl)
 have ty:=fun b=>dE hσ (vs:=[.bool b]) rfl;have lg:=aeW H.lng c [l] (by simp) _ ok1
 simp only[a07,a09,ay1,aC2,au6,av2]at lg;unfold U0 at lg;have aw:=H.awake _ ok1;have c10:c.cs.length=10:=rfl;have ct:c.cs.take 10=c.cs:=rfl;have hn:hand false [.agg c.cs,MF l,.int .u8 w] O=some ([.agg c.cs,MF l,.int .u8 w],O):=NVs.hand (.cons (.agg c.nvs) (.cons (afS l) (.cons (.int _ _) .nil))) O;rw[hO.go hn];unfold MF;cases cl:Uw c [l]
 case true=>
  rw[cl]at lg;simp only[asg,lg,aw,ty,c10,ct,aQ,AV.cells,EVX,seval]
 rw[cl]at lg;by_cases l0:l.length=0
 ·have l0':((l.length:Int)==0)=true:=by simp[l0]
  simp only[asg,lg,aw,l0',ty,c10,ct,bU,aQ,AV.cells,EVX,seval]
 have l0':((l.length:Int)==0)=false:=by simpa using l0
 obtain⟨v1,v2,v3,v4,v5,v6⟩:=Xq cl;obtain⟨l12,lok⟩:=v6 l (by simp)
 obtain⟨R,e,rok,hR⟩:=H.root c.h c.l v1 c.data v4;obtain⟨bv,hK⟩:=H.chk c.h c.l v1 R rok;replace hK:=hK c.now;generalize bv.K c.now=K at hK;rcases amW H.made c v2 v3 R e hR ok1 with⟨m1,m2⟩|⟨m1,p,T,m2,okT,atT,po,pF,pfrom,ptake⟩
 ·have m1':(wL c.nm c.fs c.rc c.sc e !=0)=true:=by simpa using m1
  simp only[asg,lg,aw,l0',m1',m2,ty,c10,ct,bU,aQ,AV.cells,EVX,seval]
 obtain⟨k,hk⟩:∃k,w%l.length=k:=⟨_,rfl⟩;have kl:k<l.length:=by rw[<-hk];exact Nat.mod_lt _ (by omega)
 have bk:l[k]?=some l[k]:=a02 kl;obtain⟨a,ha⟩:∃a,l[k]=a:=⟨_,rfl⟩;rw[ha]at bk;have good:(p.to (ry K p.R p.fs p.rc p.sc (l.take 0) []) p.oo).good C1 K:=by
  obtain⟨h1,h2,h3,h4,h5,h6,h7,h8⟩:=po;refine⟨⟨?_,?_,?_⟩,fun f hf=>(by cases hf),alV⟩
  ·show Io C1 p.h p.l p.R p.now K;rw[h1,h2,h3,h4];exact hK
  ·show p.R.ok;rw[h3];exact rok
  ·show Du p.fs;rw[h8];exact v5
 have pto:p.to (ry K p.R p.fs p.rc p.sc (l.take 0) []) p.oo=p:=by
  show p.to [] p.oo=p;unfold Rp.to;rw[<-pF]
 have lT:O.length+1<=T.length:=by
  have:=congrArg List.length ptake;rw[ay6]at this;simp only[a04,a07,a09]at this;omega
 simp only[a04,a07,a09]at pfrom ptake;have okT2:Ok (T++[.cells [.int .i64 0,.int .i64 0,.nils] FZ,.cells [.int .i64 0,.int .i64 0,.nils,.nils,.nils,.int .i64 0,.nils,.int .i64 0,.str []] FZ]):=okT.plus rfl;obtain⟨oo',S,was',r1,r2,r3,r4,r5,r6,r7,r8,r9,r10,r11⟩:=atw H.cat H.asked (K:=K) p l l12 lok k T.length (T.length+1) O.length (by omega) l.length 0 p.oo _ 0 (by omega) okT2 (by rw[pto];exact atT.app _) good (by simp[ry]) (by rw[pto];intro h;have:=Rp.lt atT h;omega) (by rw[pto];intro h;have:=Rp.lt atT h;omega) (by rw[pto];intro j h;have:=pfrom j h;omega) (by omega) (by omega) (by simp;omega) (by rw[if_pos (a98 _)];exact⟨fun _=>⟨by rw[aQ];rfl,by rw[dM];rfl⟩,fun y e=>by cases e⟩)
 obtain⟨S2,o2,a1,a2,a3⟩:=amg H.cat H.asked r4 r2 r3 (by show(ry K p.R p.fs p.rc p.sc l []).length+1<_;omega) a (lok a (by rw[<-ha];exact az1 kl))
 have again:=ati K p.R p.fs p.rc p.sc l k a bk [];have okk:=afR r4.case r4.fet p.rc p.sc a (lok a (by rw[<-ha];exact az1 kl))
 change ai C ik [.ref p.r 0,.agg a.cs] S=some (.tup [.agg (FI K p.R p.fs p.rc p.sc a (ry K p.R p.fs p.rc p.sc l [])).1.1.cs,.agg (FI K p.R p.fs p.rc p.sc a (ry K p.R p.fs p.rc p.sc l [])).1.2.1.cs,.int .u8 (FI K p.R p.fs p.rc p.sc a (ry K p.R p.fs p.rc p.sc l [])).1.2.2],S2)at a1;change Stp S S2 _ (p.to (FI K p.R p.fs p.rc p.sc a (ry K p.R p.fs p.rc p.sc l [])).2 o2)at a2;change(p.to (FI K p.R p.fs p.rc p.sc a (ry K p.R p.fs p.rc p.sc l [])).2 o2).good C1 K at a3;rw[if_neg (by omega),bk]at r11
 change Kept _ _ _ _ (some (FI K p.R p.fs p.rc p.sc a (ry K p.R p.fs p.rc p.sc (l.take k) [])).1)at r11;change(FI K p.R p.fs p.rc p.sc a (ry K p.R p.fs p.rc p.sc l [])).1.1.ok/\(FI K p.R p.fs p.rc p.sc a (ry K p.R p.fs p.rc p.sc l [])).1.2.1.ok/\_ at okk;rw[again]at a1 a2 a3 okk;generalize FI K p.R p.fs p.rc p.sc a (ry K p.R p.fs p.rc p.sc (l.take k) [])=G at*;have nm1:(p.to (ry K p.R p.fs p.rc p.sc l []) oo').F=ry K p.R p.fs p.rc p.sc l []:=rfl;have fe:=VN H.fet r2 r3 r4.uniq;generalize ry K p.R p.fs p.rc p.sc l []=F at*;change ai C jM [.ref p.r 0] S=some (.sl F.length (F.flatMap (vT p.nm)),S)at fe;have dF:Me F:=r4.uniq;obtain⟨⟨sv,tv,d⟩,F1⟩:=G;dsimp only at a1 a2 a3 okk r11;obtain⟨y1,y2,y3⟩:=r11.some' _ rfl;dsimp only at y1 y2 y3;subst y3;have nd:=atj (C:=C) p.nm F dF (by omega) (MF l) (.ref p.r 0) (.int .i64 k) (.ref T.length 0) (.ref (T.length+1) 0) (.int .u8 was') S F.length 0 (by omega)
 simp only[at6]at nd r1;have svb:AO.below 0 (.cells sv.cs FZ)=true:=sv.nvs.cl;have tvb:=PE tv;have okS3:Ok (S2++[.cells sv.cs FZ,.cells tv.cs FZ]):=a2.ok.plus (by simp only[a88,aw1,svb,tvb,av9])
 have z1:=a2.old _ _ r6 y1;have z2:=a2.old _ _ r7 y2;have z1L:=fun L=>aA z1 L;have z2L:=fun L=>aA z2 L;have c23:=asQ H.s23 sv okk.1 _ okS3;have c24:=asA H.s24 tv okk.2.1 _ okS3;have fe2:=VN H.fet okS3 ((a2.at').app _) a3.uniq;change ai C jM [.ref p.r 0] (S2++[.cells sv.cs FZ,.cells tv.cs FZ])=some (.sl F.length (F.flatMap (vT p.nm)),_)at fe2;have c26:=atq H.s26 p.nm F (by omega) (S2++[.cells sv.cs FZ,.cells tv.cs FZ])
 have pre3:(S2++[AO.cells sv.cs FZ,.cells tv.cs FZ]).take O.length=O:=by
  have e1:S2.take O.length=S.take O.length:=a2.pre r9 r8;have e2:(T++[AO.cells [.int .i64 0,.int .i64 0,.nils] FZ,.cells [.int .i64 0,.int .i64 0,.nils,.nils,.nils,.int .i64 0,.nils,.int .i64 0,.str []] FZ]).take O.length=O:=by
   rw[av7 (by omega)]
   have:=congrArg (List.take O.length) ptake;rw[aD1,az7 (by omega),List.take_left']at this
   ·exact this
   ·rfl
  have:=a2.len;rw[av7 (by omega),e1,r10,e2]
 have tyE:=pG (vs:=[.bool true]) hσ rfl pre3;have ac:a.cs=[.int .u8 a.kind,.str a.name,.int .i64 a.auth.th,.sl a.auth.ids.length (a.auth.ids.flatMap sC),.sl a.keys.length (a.keys.flatMap pC)]:=rfl;have fl:=dV fQ.len l;have fd:=lM fQ.len bk;have hk0:(0:Int)<=(k:Int):=by omega
 have w1:IntKind.i64.wrap (w:Int)=(w:Int):=wrE (by omega)
 rw[ac]at a1 fd;unfold MF at r1 nd;have l0i:¬((l.length:Int)=0):=by omega
 have tm:(w:Int).tmod (l.length:Int)=(k:Int):=by rw[<-hk];exact(Int.ofNat_tmod w l.length).symm
 have spT:∀tv:kG,splice [.int .i64 0,.int .i64 0,.nils,.nils,.nils,.int .i64 0,.nils,.int .i64 0,.str []] 0 tv.cs=tv.cs:=fun _=>rfl;have spS:∀tv:SnV,splice [.int .i64 0,.int .i64 0,.nils] 0 tv.cs=tv.cs:=fun _=>rfl;simp only[asg,lg,aw,l0',l0i,tm,m2,w1,r1,fe,nd,a1,z1L,z2L,c23,c24,fe2,c26,hk0,kl,fl,fd,tyE,spS,spT,SnV.len,SnV.tk,SnV.fl,kG.len,kG.tk,kG.fl,c10,ct,bU,aQ,jm,dM,BJ,AV.cells,EVX,seval]
set_option maxHeartbeats 4000000
structure aqx(C:Ctx):Prop where
 rmade:Has C kJ ni
 root:Has C SN Sj
 auth:Has C U3 UY
 keys:Sv C kK 2
 strs:Sv C bQ 1
structure aqw(C:Ctx):Prop extends aqx C where
 expired:Has C MJ MC
 s22:Has C Oi NP
 s14:Has C DT Dy
 s15:Has C DU Dz
def Lat(c d:Int):Prop:=d=c\/(c=0/\d=10)
theorem Lat.zero{c d:Int}(h:Lat c d)(hd:d=0):c=0:=by
 rcases h with h|h<;>omega
end Go.Ev
namespace Go.Ev
def BZ:KF:=⟨2,11,[(.tmp 4),(.tmp 5)],
 (.seq (.ops [o 4 (.mv (.c (.str []))),
 o 5 (.mv (.c (.bool false)))])
 (.seq (.ops [m 6 0,
 m 7 1,
 o 8 (.callF bz [(.t 6),(.t 7)]),
 o 9 (.extract (.t 8) 0),
 o 10 (.extract (.t 8) 1),
 m 4 9,
 m 5 10])
 (.ret [4,5])))⟩
set_option maxRecDepth 100000
variable{C C1:Ctx}
structure Kv(C:Ctx):Prop where
 has:Has C cZ bK
 cut:Has C bz cu
 scut:Has C Cf BZ
 allowed:Has C lC kW
 role:Has C xU uo
 roleOf:Has C Na MO
def FY(r:LU)(l:List fQ):Prop:=∃a∈l,(a.kind=1/\r=Fv)\/(a.kind≠0/\a.kind≠1/\a.name=r)
structure YO(rc:Int)(s:SnV×Int)(l:List fQ)(f:dO):Prop where
 zero:s.2=0
 ex:∃r p,role r=true/\f.name=r++iJ/\sD s.1 r=some p/\f.cap=(if p.length<0 then rc else p.length)/\FY r l
 le:f.cap<=rc
 cap:0<=f.cap
 size: -2<=f.size/\f.size<=f.cap
theorem FY.more{r:LU}{l:List fQ}(h:FY r l)(a:fQ):FY r (l++[a]):=by
 obtain⟨b,hb,h⟩:=h;exact⟨b,by simp[hb],h⟩
theorem YO.more{rc s l f}(h:YO rc s l f)(a:fQ):YO rc s (l++[a]) f:=by
 obtain⟨r,p,h1,h2,h3,h4,h5⟩:=h.ex;exact⟨h.zero,⟨r,p,h1,h2,h3,h4,h5.more a⟩,h.le,h.cap,h.size⟩
set_option maxHeartbeats 1000000
set_option maxHeartbeats 2000000
set_option maxHeartbeats 4000000
end Go.Ev
namespace Go.Ev
set_option maxRecDepth 100000
variable{C:Ctx}{PK:PkI}
def TI(v:AV):Prop:=∃n e:Int,v=.tup [.int .i64 n,.int .i64 e]
set_option maxHeartbeats 4000000 in
def aiB(H:Vp C PK)(s:LU)(O:St)(hσ:Ok O):∃v,ai C Bh [.str s] O=some (v,O)/\TI v:=by
 rw[H.read.go (NVs.hand (.cons (.str _) .nil) _)];cases hl:((s.length:Int) !=20)with
 |true=>
  refine⟨.tup [.int .i64 0,.int .i64 3],?_,⟨_,_,rfl⟩⟩;simp only[fM,hl,aS,EVX,seval]
 |false=>
 have hn:s.length=20:=by simp at hl;omega
 have at':∀i,i<20->s[i]?=some (s[i]?.getD 0):=fun i hi=>by rw[a02 (by omega)];rfl
 have a4:=at' 4 (by omega)
 have a7:=at' 7 (by omega)
 have a10:=at' 10 (by omega)
 have a13:=at' 13 (by omega)
 have a16:=at' 16 (by omega)
 have a19:=at' 19 (by omega)
 generalize s[4]?.getD 0=c4 at a4;generalize s[7]?.getD 0=c7 at a7;generalize s[10]?.getD 0=c10 at a10;generalize s[13]?.getD 0=c13 at a13;generalize s[16]?.getD 0=c16 at a16;generalize s[19]?.getD 0=c19 at a19;have bad:∀{r:Option (AV×St)},r=some (.tup [.int .i64 0,.int .i64 3],O)->∃v,r=some (v,O)/\TI v:=fun h=>⟨_,h,⟨_,_,rfl⟩⟩;cases h4:((c4.toNat:Int) !=45)with
 |true=>exact bad (by simp only[fM,hl,a4,h4,aS,EVX,seval])
 |false=>
 cases h7:((c7.toNat:Int) !=45)with
 |true=>exact bad (by simp only[fM,hl,a4,h4,a7,h7,aS,EVX,seval])
 |false=>
 cases h10:((c10.toNat:Int) !=84)with
 |true=>exact bad (by simp only[fM,hl,a4,h4,a7,h7,a10,h10,aS,EVX,seval])
 |false=>
 cases h13:((c13.toNat:Int) !=58)with
 |true=>exact bad (by simp only[fM,hl,a4,h4,a7,h7,a10,h10,a13,h13,aS,EVX,seval])
 |false=>
 cases h16:((c16.toNat:Int) !=58)with
 |true=>exact bad (by simp only[fM,hl,a4,h4,a7,h7,a10,h10,a13,h13,a16,h16,aS,EVX,seval])
 |false=>
 cases h19:((c19.toNat:Int) !=90)with
 |true=>exact bad (by simp only[fM,hl,a4,h4,a7,h7,a10,h10,a13,h13,a16,h16,a19,h19,aS,EVX,seval])
 |false=>
 have dig:∀(a b:Nat),b<=20->∃d,ai C FU [.str ((s.take b).drop a)] O=some (.int .i64 d,O):=fun a b hb=>by
  obtain⟨v,h1,h2⟩:=BI H.digits (.cons (.str ((s.take b).drop a)) .nil) (.cons _ _ _ _ (.strb _ (by simp[LB];omega)) .nil) hσ
  obtain⟨d,rfl⟩:=Nq h2;exact⟨d,h1⟩
 obtain⟨year,e1⟩:=dig 0 4 (by omega)
 obtain⟨month,e2⟩:=dig 5 7 (by omega)
 obtain⟨day,e3⟩:=dig 8 10 (by omega)
 obtain⟨hour,e4⟩:=dig 11 13 (by omega)
 obtain⟨minute,e5⟩:=dig 14 16 (by omega)
 obtain⟨second,e6⟩:=dig 17 19 (by omega)
 simp only[au0]at e1;obtain⟨dd,e7,hdd⟩:=aiA H year month O hσ;have n4:4<=s.length:=by omega
 have n7:7<=s.length:=by omega
 have n10:10<=s.length:=by omega
 have n13:13<=s.length:=by omega
 have n16:16<=s.length:=by omega
 have n19:19<=s.length:=by omega
 by_cases hd:day<1
 ·exact bad (by simp only[fM,hl,a4,h4,a7,h7,a10,h10,a13,h13,a16,h16,a19,h19,e1,e2,e3,n4,n7,n10,hd,au0,au8,and_self,aS,EVX,seval])
 by_cases hd2:day>dd
 ·exact bad (by simp only[fM,hl,a4,h4,a7,h7,a10,h10,a13,h13,a16,h16,a19,h19,e1,e2,e3,e7,n4,n7,n10,hd,hd2,au0,au8,and_self,aS,EVX,seval])
 have hmon:=hdd (by omega)
 have ut:∀(a b:Int),∃q,ai C Js [.int .i64 a,.int .i64 b] O=some (.bool q,O):=fun a b=>by
  obtain⟨v,h1,h2⟩:=BI H.upTo (.cons (.int .i64 a) (.cons (.int .i64 b) .nil)) (.cons _ _ _ _ (.int _ _) (.cons _ _ _ _ (.int _ _) .nil)) hσ;obtain⟨d,rfl⟩:=JA h2;exact⟨d,h1⟩
 obtain⟨u1,e8⟩:=ut hour 23;obtain⟨u2,e9⟩:=ut minute 59;obtain⟨u3,e10⟩:=ut second 59;cases u1 with
 |false=>exact bad (by simp only[fM,hl,a4,h4,a7,h7,a10,h10,a13,h13,a16,h16,a19,h19,e1,e2,e3,e4,e5,e6,e7,e8,n4,n7,n10,n13,n16,n19,hd,hd2,au0,au8,and_self,aS,EVX,seval])
 |true=>
 cases u2 with
 |false=>exact bad (by simp only[fM,hl,a4,h4,a7,h7,a10,h10,a13,h13,a16,h16,a19,h19,e1,e2,e3,e4,e5,e6,e7,e8,e9,n4,n7,n10,n13,n16,n19,hd,hd2,au0,au8,and_self,aS,EVX,seval])
 |true=>
 cases u3 with
 |false=>exact bad (by simp only[fM,hl,a4,h4,a7,h7,a10,h10,a13,h13,a16,h16,a19,h19,e1,e2,e3,e4,e5,e6,e7,e8,e9,e10,n4,n7,n10,n13,n16,n19,hd,hd2,au0,au8,and_self,aS,EVX,seval])
 |true=>
 obtain⟨vs,e11,hs⟩:=BI H.start (.cons (.int .i64 year) .nil) (.cons _ _ _ _ (.int _ _) .nil) hσ;obtain⟨st,rfl⟩:=Nq hs;obtain⟨vl,e12,hl2⟩:=BI H.leap (.cons (.int .i64 year) .nil) (.cons _ _ _ _ (.int _ _) .nil) hσ;obtain⟨lp,rfl⟩:=JA hl2;have hb:=H.bef;have gv:∀E,avA C E (.g tZ)=.eptr bef:=fun E=>by show AV.eptr ((C.gl tZ).getD [])=_;rw[hb];rfl
 have w1:IntKind.i64.wrap (month-1)=month-1:=wrE (by omega)
 have g2:0<=month-1:=by omega
 have bl:bef.length=13:=rfl;have l2:(month-1).toNat<13:=by omega
 have l4:(month-1).toNat<=bef.length:=by omega
 obtain⟨z,hz⟩:=aep (month-1).toNat l2;have good:∀{r:Option (AV×St)} (n e:Int),r=some (.tup [.int .i64 n,.int .i64 e],O)->∃v,r=some (v,O)/\TI v:=fun n e h=>⟨_,h,⟨_,_,rfl⟩⟩;by_cases hm2:month>2
 ·cases lp with
  |true=>
   refine good (IntKind.i64.wrap (IntKind.i64.wrap (IntKind.i64.wrap (IntKind.i64.wrap (IntKind.i64.wrap (IntKind.i64.wrap (st+z)+day)-1)+1)*86400)+IntKind.i64.wrap (IntKind.i64.wrap (IntKind.i64.wrap (hour*3600)+IntKind.i64.wrap (minute*60))+second))) 0 ?_;simp only[fM,hl,a4,h4,a7,h7,a10,h10,a13,h13,a16,h16,a19,h19,e1,e2,e3,e4,e5,e6,e7,e8,e9,e10,e11,e12,n4,n7,n10,n13,n16,n19,hd,hd2,hm2,w1,g2,l2,l4,hz,gv,au0,au8,and_self,aS,EVX,seval]
  |false=>
   refine good (IntKind.i64.wrap (IntKind.i64.wrap (IntKind.i64.wrap (IntKind.i64.wrap (IntKind.i64.wrap (st+z)+day)-1)*86400)+IntKind.i64.wrap (IntKind.i64.wrap (IntKind.i64.wrap (hour*3600)+IntKind.i64.wrap (minute*60))+second))) 0 ?_;simp only[fM,hl,a4,h4,a7,h7,a10,h10,a13,h13,a16,h16,a19,h19,e1,e2,e3,e4,e5,e6,e7,e8,e9,e10,e11,e12,n4,n7,n10,n13,n16,n19,hd,hd2,hm2,w1,g2,l2,l4,hz,gv,au0,au8,and_self,aS,EVX,seval]
 ·refine good (IntKind.i64.wrap (IntKind.i64.wrap (IntKind.i64.wrap (IntKind.i64.wrap (IntKind.i64.wrap (st+z)+day)-1)*86400)+IntKind.i64.wrap (IntKind.i64.wrap (IntKind.i64.wrap (hour*3600)+IntKind.i64.wrap (minute*60))+second))) 0 ?_;simp only[fM,hl,a4,h4,a7,h7,a10,h10,a13,h13,a16,h16,a19,h19,e1,e2,e3,e4,e5,e6,e7,e8,e9,e10,e11,n4,n7,n10,n13,n16,n19,hd,hd2,hm2,w1,g2,l2,l4,hz,gv,au0,au8,and_self,aS,EVX,seval]
def abT(H:Vp C PK):gu C PK Bh (.pure [.strb] (.tup [.int .i64,.int .i64])):=
 vI H.read rfl fun azs hm=>by
  obtain⟨x,rfl,h1⟩:=YC hm;obtain⟨a,rfl,ha⟩:=xC h1;intro O hσ;obtain⟨v,h,n,e,rfl⟩:=aiB H a O hσ;exact⟨_,h,.tup _ _ (.cons _ _ _ _ (.int _ _) (.cons _ _ _ _ (.int _ _) .nil))⟩
end Go.Ev
namespace Go.Ev
def aoW(gl:Nat->Option Sh)(mt:List (TypeId×String×FuncId))(h:List (FuncId×Sm)):Cfg:={aqD mt h with gl:=gl}
def ael{C:Ctx}{gl:Nat->Option Sh}{mt:List (TypeId×String×FuncId)}{hd:List (FuncId×Sm)}(h0:∀n s,gl n=some s->∀V:Val,M V s (.eptr ((C.gl n).getD [])))(h1:∀p∈mt,methodOf C.P p.1 .nilp p.2.1=some (p.2.2,.nilp))(h2:∀p∈hd,gu C gz p.1 p.2){rows:List (FuncId×Sm)}(h3:∀p∈rows,Has C p.1 (kA C.P p.1))(h:(aej (aoW gl mt hd) (aoi C.P rows)).isSome=true):∀p∈rows,gu C gz p.1 p.2:=by
 obtain⟨X',hX⟩:=aw3.mp h;have hs:=(afM (C:=C) (X:=aoW gl mt hd) h0 (fun t m f hf v=>by
  obtain⟨p,hp,rfl⟩:=a97.mp hf;have e:=List.find?_some hp;simp only[a01,beq_iff_eq]at e
  grind [aps]) (fun f m hm=>by
  obtain⟨p,hp,rfl⟩:=ax1.mp hm
  grind [at7]) (fun p hp=>by
  obtain⟨q,hq,rfl⟩:=ax1.mp hp;exact h3 q hq) hX).1
 exact fun p hp=>hs _ _ ((acd hX).2 _ (ax1.mpr ⟨p,hp,rfl⟩))
set_option maxRecDepth 100000
variable{C:Ctx}
def aet(hC:Has C bQ iM)(ns:List LU)(h0:0<ns.length)(hn:ns.length<=8192)(O:St)(hσ:Ok O):ai C bQ [.sl ns.length (ns.map .str)] O=some (.sl ns.length (ns.map .str),O):=by
 have hb:ae 0 (ns.map AV.str)=true:=by
  clear h0 hn
  induction ns with
  |nil=>rfl
  |cons a l ih=>rw[av3,ae,ih];rfl
 have hnv:NVs (ns.map AV.str):=fun v hv=>by
  obtain⟨s,_,rfl⟩:=ax1.mp hv;exact .str s
 rw[hC.go (NVs.hand (.cons (.sl _ hb) .nil) _)];have fa:(ns.map AV.str).all AV.flat=true:=by
  rw[a90];intro v hv;obtain⟨s,_,rfl⟩:=ax1.mp hv;rfl
 have h1:¬ns.length=0:=by omega
 have sn:(ns.map AV.str).length=ns.length:=by simp
 have ap:=fun Y:St=>V7 Y none (sz:=1) (bytes:=16) (n:=0) (m:=ns.length) (l:=[]) (ns.map .str) h1 rfl (by omega) (by omega)
 simp only[av2,au3]at ap;have nm:=OJ (Y:=O++[.cells (ns.map .str) FZ]) (q:=O.length) (n:=ns.length) (sz:=1) (l:=ns.map .str) (fz:=FZ) (by rw[aQ];rfl) (by simp) hnv
 have fz:=zL (Y:=O++[.cells (ns.map .str) FZ]) (q:=O.length) (l:=ns.map .str) (by rw[aQ];rfl)
 have hd:hand false [.msl O.length 0 ns.length 1] (O++[.cells (ns.map .str) FZ])=some ([.sl ns.length (ns.map .str)],O++[.cells (ns.map .str) ⟨true,none⟩]):=by
  show(match(match asb _ (df _ 11) (.msl O.length 0 ns.length 1),aT _ (df _ 11) []with|some (v,fs),some (l,gs)=>some (v::l,fs++gs)|_,_=>none)with|some (l,fs)=>some (l,freeze _ fs)|none=>none)=_
  rw[nm];show some ([AV.sl ns.length (ns.map .str)],freeze (O++[.cells (ns.map .str) FZ]) [O.length])=_;rw[fz,jm];rfl
 have ty:=dE hσ (vs:=[.sl ns.length (ns.map .str)]) (by rw[ae,below,hb];rfl) [.cells (ns.map .str) ⟨true,none⟩]
 have body:dL C (ai C) iM.ntmps iM.body (jF 0 [.sl ns.length (ns.map .str)]) O=some (.ret,[(2,.msl O.length 0 ns.length 1)],O++[.cells (ns.map .str) FZ]):=by
  simp only[iM,fa,h0,sn,ap,EVX,seval]
 rw[body,EO (vs:=[.msl O.length 0 ns.length 1]) rfl hd];exact congrArg (fun t=>some (_,t)) ty
def YA(hC:Pe C dR kY)(xs:List EL)(h0:xs≠[])(hn:xs.length<=8192)(O:St)(hσ:Ok O):ai C dR [.sl xs.length (kQ xs)] O=some (.msl O.length 0 xs.length 6,O++[.cells (kQ xs) FZ]):=by
 have hl:0<xs.length:=List.length_pos_iff.mpr h0;rw[hC.go];have fa:(kQ xs).all AV.flat=true:=by
  rw[a90];intro v hv;obtain⟨x,_,hx⟩:=aD3.mp hv;exact a90.mp (yN x) v hx
 have h1:¬xs.length=0:=by omega
 have sn:=acB xs;have ap:=fun Y:St=>V7 Y none (sz:=6) (bytes:=96) (n:=0) (m:=xs.length) (l:=[]) (kQ xs) h1 rfl (by omega) (by omega)
 simp only[av2,au3]at ap;have ty:tidy O.length [.msl O.length 0 xs.length 6] (O++[.cells (kQ xs) FZ])=O++[.cells (kQ xs) FZ]:=by
  unfold tidy;have:ae O.length [.msl O.length 0 xs.length 6]=false:=by simp[ae,below]
  split
  ·rfl
  ·rw[this];simp
 simp only[kY,fa,hl,sn,ap,ty,qG,aY,EVX,seval]
def alT(n:Nat)(h:n<18446744073709551616):IntKind.u64.wrap (n:Int)=n:=by
 simp[IntKind.wrap,IntKind.bits,IntKind.signed];omega
def tV(n:Nat)(h:n<4294967296):IntKind.u32.wrap (n:Int)=n:=by
 simp[IntKind.wrap,IntKind.bits,IntKind.signed];omega
def aqX:(List.range 256).all (fun b=>match Td[b]? with|some c=>decide (b<2^c.toNat)&&decide (c.toNat<=8)|none=>false)=true:=by decide+kernel
def aqY(hC:Has C oO eG)(x:Nat)(hx:x<18446744073709551616):∃L:Nat,x<2^L/\L<=64/\∀O,ai C oO [.int .u64 x] O=some (.int .i64 L,O):=by
 have go:=fun O=>hC.go (O:=O) (NVs.hand (.cons (.int .u64 (x:Int)) .nil) _);have f:∀(k y:Nat),(y:Int).fdiv ((2^k:Nat):Int)=((y/2^k:Nat):Int):=fun k y=>by
  rw[az6 _ (Int.natCast_nonneg _)];rfl
 have f32:∀y:Nat,(y:Int).fdiv (2^min 32 IntKind.u64.bits)=((y/4294967296:Nat):Int):=f 32;have f16:∀y:Nat,(y:Int).fdiv (2^min 16 IntKind.u64.bits)=((y/65536:Nat):Int):=f 16;have f8:∀y:Nat,(y:Int).fdiv (2^min 8 IntKind.u64.bits)=((y/256:Nat):Int):=f 8;have fin:∀(n y:Nat),y=x/2^n->y<256->n<=56->(∀c:UInt8,Td[y]?=some c->IntKind.i64.wrap (c.toNat:Int)=c.toNat->IntKind.i64.wrap ((n:Int)+c.toNat)=((n+c.toNat:Nat):Int)->IntKind.u8.wrap (y:Int)=y->(0:Int)<=y->∀O,ai C oO [.int .u64 x] O=some (.int .i64 (n+c.toNat:Nat),O))->∃L:Nat,x<2^L/\L<=64/\∀O,ai C oO [.int .u64 x] O=some (.int .i64 L,O):=fun n y hy h1 h2 h=>by
  have t:=a90.mp aqX y (ay9.mpr h1);split at t
  ·rename_i c hc;simp only[a01,decide_eq_true_eq]at t;refine⟨n+c.toNat,?_,by omega,h c hc (by rw[w64]<;>omega) (by rw[w64]<;>omega) (by rw[IntKind.wrap_u8];omega) (by omega)⟩
   rw[hy,Nat.div_lt_iff_lt_mul (Nat.pow_pos (by decide)),Nat.mul_comm,<-Nat.pow_add]at t
   exact t.1
  ·cases t
 by_cases c1:(4294967296:Int)<=(x:Int)
 ·by_cases c2:(65536:Int)<=((x/4294967296:Nat):Int)
  ·by_cases c3:(256:Int)<=((x/4294967296/65536:Nat):Int)
   ·refine fin 56 (x/4294967296/65536/256) (by omega) (by omega) (by omega) fun c hc g1 g2 g3 g4 O=>?_
    rw[go];simp only[eG,c1,c2,c3,f32,f16,f8,hc,g1,g3,g4,a81,EVX,seval];exact congrArg (fun v=>some (AV.int IntKind.i64 v,O)) g2
   ·refine fin 48 (x/4294967296/65536) (by omega) (by omega) (by omega) fun c hc g1 g2 g3 g4 O=>?_
    rw[go];simp only[eG,c1,c2,c3,f32,f16,hc,g1,g3,g4,a81,EVX,seval];exact congrArg (fun v=>some (AV.int IntKind.i64 v,O)) g2
  ·by_cases c3:(256:Int)<=((x/4294967296:Nat):Int)
   ·refine fin 40 (x/4294967296/256) (by omega) (by omega) (by omega) fun c hc g1 g2 g3 g4 O=>?_
    rw[go];simp only[eG,c1,c2,c3,f32,f8,hc,g1,g3,g4,a81,EVX,seval];exact congrArg (fun v=>some (AV.int IntKind.i64 v,O)) g2
   ·refine fin 32 (x/4294967296) (by omega) (by omega) (by omega) fun c hc g1 g2 g3 g4 O=>?_
    rw[go];simp only[eG,c1,c2,c3,f32,hc,g1,g3,g4,a81,EVX,seval];exact congrArg (fun v=>some (AV.int IntKind.i64 v,O)) g2
 ·by_cases c2:(65536:Int)<=((x:Nat):Int)
  ·by_cases c3:(256:Int)<=((x/65536:Nat):Int)
   ·refine fin 24 (x/65536/256) (by omega) (by omega) (by omega) fun c hc g1 g2 g3 g4 O=>?_
    rw[go];simp only[eG,c1,c2,c3,f16,f8,hc,g1,g3,g4,a81,EVX,seval];exact congrArg (fun v=>some (AV.int IntKind.i64 v,O)) g2
   ·refine fin 16 (x/65536) (by omega) (by omega) (by omega) fun c hc g1 g2 g3 g4 O=>?_
    rw[go];simp only[eG,c1,c2,c3,f16,hc,g1,g3,g4,a81,EVX,seval];exact congrArg (fun v=>some (AV.int IntKind.i64 v,O)) g2
  ·by_cases c3:(256:Int)<=((x:Nat):Int)
   ·refine fin 8 (x/256) (by omega) (by omega) (by omega) fun c hc g1 g2 g3 g4 O=>?_
    rw[go];simp only[eG,c1,c2,c3,f8,hc,g1,g3,g4,a81,EVX,seval];exact congrArg (fun v=>some (AV.int IntKind.i64 v,O)) g2
   ·refine fin 0 (x) (by omega) (by omega) (by omega) fun c hc g1 g2 g3 g4 O=>?_
    rw[go];simp only[eG,c1,c2,c3,hc,g1,g3,g4,a81,EVX,seval];exact congrArg (fun v=>some (AV.int IntKind.i64 v,O)) (by simpa using g2)
def p10:LA:=(List.range 20).map fun i=>AV.int .u64 ((10^i:Nat):Int)
def arG:(List.range 65).all (fun L=>decide (2^L<=10^(L*78913/262144+1))&&decide (L*78913/262144<20))=true:=by decide+kernel
structure NdHas(C:Ctx):Prop where
 len:Has C oO eG
 log:Has C lV lQ
 b2i:Has C asi lN
 nd:Has C iR sO
 gl:C.gl qM=some p10
def ar1(hC:Has C lV lQ)(L:Nat)(hL:L<=64)(O:St):ai C lV [.int .i64 L] O=some (.int .i64 (L*78913/262144:Nat),O):=by
 rw[hC.go (NVs.hand (.cons (.int _ _) .nil) _)];have w:IntKind.i64.wrap ((L:Int)*78913)=((L*78913:Nat):Int):=wrE (by omega)
 have f:∀y:Nat,(y:Int).fdiv (2^min 18 IntKind.i64.bits)=((y/262144:Nat):Int):=fun y=>by
  rw[az6 _ (by decide)];rfl
 simp only[lQ,w,f,EVX,seval]
def b2i(hC:Has C asi lN)(b:Bool)(O:St):ai C asi [.bool b] O=some (.int .i64 (if b then 1 else 0),O):=by
 rw[hC.go (NVs.hand (.cons (.bool _) .nil) _)];cases b<;>simp only[lN,ay4,EVX,seval]
def numDigits(H:NdHas C)(u:Nat)(hu:u<18446744073709551616):∃d:Nat,u<10^d/\d<=20/\∀O,ai C iR [.int .u64 u] O=some (.int .i64 d,O):=by
 obtain⟨L,l1,l3,q1⟩:=aqY H.len u hu;have t:=a90.mp arG L (ay9.mpr (by omega))
 simp only[a01,decide_eq_true_eq]at t;obtain⟨t1,t2⟩:=t;have q2:=ar1 H.log L l3;generalize L*78913/262144=n at*;have hg:p10[n]?=some (.int .u64 ((10^n:Nat):Int)):=by
  unfold p10;rw[ax5,List.getElem?_range t2];rfl
 have hgl:=H.gl;refine⟨n+(if 10^n<=u then 1 else 0),?_,?_,fun O=>?_⟩
 ·split
  ·omega
  ·rename_i h;simpa using Nat.lt_of_not_le h
 ·split<;>omega
 ·rw[H.nd.go (NVs.hand (.cons (.int _ _) .nil) _)];have b:=b2i H.b2i (decide (10^n<=u)) O;have dn:p10.drop n=.int .u64 ((10^n:Nat):Int)::p10.drop (n+1):=by
   rw[as9 (by simp[p10];omega)]
   congr 1
   exact aA9 ((a02 (by simp[p10];omega)).symm.trans hg)
  have hn0:(0:Int)<=(n:Int):=by omega
  have hn20:n<20:=t2;have hd:decide (((10^n:Nat):Int)<=(u:Int))=decide (10^n<=u):=by
   rw[aB7];simp only[decide_eq_true_eq];omega
  have hl:p10.length=20:=rfl;have hle:n<=20:=by omega
  simp only[sO,q1,q2,hgl,dn,hl,hle,hn0,hn20,hd,b,a81,az2,decide_eq_true_eq,EVX,seval];refine congrArg (fun v=>some (AV.int IntKind.i64 v,O)) ?_;split<;>(rw[w64]<;>omega)
def sm_at(a:Nat)(h:a<100):eX[a*2]?=some (eX.getD (a*2) 0)/\eX[a*2+1]?=some (eX.getD (a*2+1) 0):=by
 have e:∀x,x<200->eX[x]?=some (eX.getD x 0):=fun x hx=>by
  rw[av4,a02 (by omega)];rfl
 exact⟨e _ (by omega),e _ (by omega)⟩
def aq9(l:LU)(i:Nat)(b:UInt8)(h:i<l.length):splice (ofBytes l) i [.int .u8 (b.toNat:Int)]=ofBytes (l.set i b):=by
 unfold splice ofBytes;rw[List.map_set,List.set_eq_take_append_cons_drop,if_pos (by simpa using h)]
 simp
def Uy(a:Nat)(ha:a<100):IntKind.u32.wrap ((a:Int)*2)=((a*2:Nat):Int)/\IntKind.u32.wrap (((a*2:Nat):Int)+1)=((a*2+1:Nat):Int)/\(0:Int)<=((a*2:Nat):Int)/\(0:Int)<=((a*2+1:Nat):Int):=⟨by have:=tV (a*2) (by omega);rw[<-this];rfl,by have:=tV (a*2+1) (by omega);rw[<-this];rfl,by omega,by omega⟩
def agj (d:Nat) (hd:d<=20) (O:St) (q:Nat) {x0:AO} (hq:O[q]?=some x0):∀(n i u:Nat) (l:LU),i<=d->i/8=n->u<10^i->u<18446744073709551616->l.length=24->∃(u':Nat) (l':LU),u'<10^(i%8)/\l'.length=24/\
  aH C (ai C) 167 [0,1,4] aU [(0,.msl q 1 d 1),(1,.int .u64 u),(4,.int .i64 i)] (O.set q (.cells (ofBytes l) FZ))=
   some (.exit 0,[(0,.msl q 1 d 1),(1,.int .u64 u'),(4,.int .i64 (i%8:Nat))],O.set q (.cells (ofBytes l') FZ))
 |0,i,u,l,hi,hn,hu,hu2,hl=>by
  have e:i%8=i:=Nat.mod_eq_of_lt (by omega)
  refine⟨u,l,by rw[e];exact hu,hl,?_⟩
  rw[aG (he:=rfl)];have h:¬(8:Int)<=(i:Int):=by omega
  simp only[aU,h,e,EVX,seval]
 |n+1,i,U,l,hi,hn,hu,hu2,hl=>by
  have h:(8:Int)<=(i:Int):=by omega
  obtain⟨j,rfl⟩:∃j,i=j+8:=⟨i-8,by omega⟩
  have step:∃l2:LU,l2.length=24/\aH C (ai C) 167 [0,1,4] aU [(0,.msl q 1 d 1),(1,.int .u64 U),(4,.int .i64 (j+8:Nat))] (O.set q (.cells (ofBytes l) FZ))=aH C (ai C) 167 [0,1,4] aU [(0,.msl q 1 d 1),(1,.int .u64 (U/100000000:Nat)),(4,.int .i64 j)] (O.set q (.cells (ofBytes l2) FZ)):=by
   have gs:∀(x:AO),(O.set q x)[q]?=some x:=fun x=>bg hq x;obtain⟨us,hus⟩:∃x,U%100000000=x:=⟨_,rfl⟩;obtain⟨hh,hhh⟩:∃x,us/10000=x:=⟨_,rfl⟩;obtain⟨ll,hll⟩:∃x,us%10000=x:=⟨_,rfl⟩;obtain⟨a1,ha1⟩:∃x,hh/100=x:=⟨_,rfl⟩;obtain⟨a2,ha2⟩:∃x,hh%100=x:=⟨_,rfl⟩;obtain⟨a3,ha3⟩:∃x,ll/100=x:=⟨_,rfl⟩;obtain⟨a4,ha4⟩:∃x,ll%100=x:=⟨_,rfl⟩;have t1:(U:Int).tmod 100000000=(us:Int):=by rw[<-hus];rfl
   have t2:(U:Int).tdiv 100000000=((U/100000000:Nat):Int):=rfl;have t3:(us:Int).tdiv 10000=(hh:Int):=by rw[<-hhh];rfl
   have t4:(us:Int).tmod 10000=(ll:Int):=by rw[<-hll];rfl
   have t5:(hh:Int).tdiv 100=(a1:Int):=by rw[<-ha1];rfl
   have t6:(hh:Int).tmod 100=(a2:Int):=by rw[<-ha2];rfl
   have t7:(ll:Int).tdiv 100=(a3:Int):=by rw[<-ha3];rfl
   have t8:(ll:Int).tmod 100=(a4:Int):=by rw[<-ha4];rfl
   have w0:=alT (U/100000000) (by omega)
   have w1:=tV us (by omega)
   have w2:=tV hh (by omega)
   have w3:=tV a1 (by omega)
   have w4:=tV a3 (by omega)
   obtain⟨x1,y1,z1,v1⟩:=Uy a1 (by omega)
   obtain⟨s1,r1⟩:=sm_at a1 (by omega)
   obtain⟨x2,y2,z2,v2⟩:=Uy a2 (by omega)
   obtain⟨s2,r2⟩:=sm_at a2 (by omega)
   obtain⟨x3,y3,z3,v3⟩:=Uy a3 (by omega)
   obtain⟨s3,r3⟩:=sm_at a3 (by omega)
   obtain⟨x4,y4,z4,v4⟩:=Uy a4 (by omega)
   obtain⟨s4,r4⟩:=sm_at a4 (by omega)
   have iw:∀(k:Int) (r:Nat),k+r=8->0<=k->IntKind.i64.wrap (((j+8:Nat):Int)-k)=((j+r:Nat):Int):=fun k r h h0=>by rw[w64]<;>omega
   have i1:=iw 1 7 rfl (by decide)
   have i2:=iw 2 6 rfl (by decide)
   have i3:=iw 3 5 rfl (by decide)
   have i4:=iw 4 4 rfl (by decide)
   have i5:=iw 5 3 rfl (by decide)
   have i6:=iw 6 2 rfl (by decide)
   have i7:=iw 7 1 rfl (by decide)
   have i8:IntKind.i64.wrap (((j+8:Nat):Int)-8)=(j:Int):=iw 8 0 rfl (by decide)
   have n8:(0:Int)<=(j:Int):=by omega
   have l8:j<d:=by omega
   have c8:1+j+1<=24:=by omega
   have d8:1+j<24:=by omega
   have ng:∀r:Nat,(0:Int)<=((j+r:Nat):Int):=fun r=>Int.natCast_nonneg _;have lg:∀r:Nat,r<8->j+r<d:=fun r h=>by omega
   have cg:∀r:Nat,r<8->1+(j+r)+1<=24:=fun r h=>by omega
   have c2:∀r:Nat,r<8->1+(j+r)<24:=fun r h=>by omega
   refine⟨?_,?_,?_⟩
   rotate_left 2
   ·rw[aG (he:=rfl)];generalize hk:aH C (ai C) 167 [0,1,4] aU=k;simp only[aU,h,gs,t1,t2,t3,t4,t5,t6,t7,t8,w0,w1,w2,w3,w4,x1,y1,z1,v1,s1,r1,x2,y2,z2,v2,s2,r2,x3,y3,z3,v3,s3,r3,x4,y4,z4,v4,s4,r4,i1,i2,i3,i4,i5,i6,i7,i8,n8,l8,c8,d8,ng,lg,cg,c2,aq9,hl,a95,aI,a81,ax4,AV.cells,AV.flat,EVX,seval];rfl
   ·simp only[a95,hl]
  obtain⟨l2,hl2,e2⟩:=step;obtain⟨u',l',a,b,c⟩:=agj d hd O q hq n j (U/100000000) l2 (by omega) (by omega) (by rw[Nat.div_lt_iff_lt_mul (by decide)];rw[Nat.pow_add]at hu;exact hu) (by omega) hl2
  rw[Nat.add_mod_right];exact⟨u',l',a,b,e2.trans c⟩
def aj(n:Nat):IntKind.u8.wrap (n:Int)=((UInt8.ofNat n).toNat:Int):=by
 rw[IntKind.wrap_u8,UInt8.toNat_ofNat'];omega
def arS (hC:Pe C dm dU) (d u:Nat) (l:LU) (hl:l.length=24) (hd:u<10^d) (hd20:d<=20) (hu:u<18446744073709551616) (O:St) (q:Nat) (hq:O[q]?=some (.cells (ofBytes l) FZ)):
  ∃l':LU,l'.length=24/\ai C dm [.msl q 1 d 1,.int .u64 u] O=some (.tup [],O.set q (.cells (ofBytes l') FZ)):=by
 obtain⟨x,l2,hx,hl2,lp⟩:=agj (C:=C) d hd20 O q hq (d/8) d u l (a06 _) rfl hd hu hl;rw[set_self hq]at lp;have gs:∀(x:AO),(O.set q x)[q]?=some x:=fun x=>bg hq x;have ty:∀x:AO,tidy O.length [] (O.set q x)=O.set q x:=fun x=>by
  have:=aS (O.set q x) [];rwa[a95]at this
 have hr:d%8<8:=Nat.mod_lt _ (by decide)
 have hrd:d%8<=d:=Nat.mod_le _ _;generalize d%8=r at*;have hx7:x<10000000:=ax8 hx (Nat.pow_le_pow_right (j:=7) (by decide) (by omega))
 have wx:=tV x (by omega)
 have t1:∀y:Nat,(y:Int).tmod 10000=((y%10000:Nat):Int):=fun y=>rfl;have t2:∀y:Nat,(y:Int).tdiv 10000=((y/10000:Nat):Int):=fun y=>rfl;have t3:∀y:Nat,(y:Int).tmod 100=((y%100:Nat):Int):=fun y=>rfl;have t4:∀y:Nat,(y:Int).tdiv 100=((y/100:Nat):Int):=fun y=>rfl;have w1:=tV (x/10000) (by omega)
 have w2:=tV (x/100) (by omega)
 have w3:=tV (x/10000/100) (by omega)
 have w4:=tV (x%10000/100) (by omega)
 obtain⟨xa,ya,za,va⟩:=Uy (x%10000/100) (by omega)
 obtain⟨sa,ra⟩:=sm_at (x%10000/100) (by omega)
 obtain⟨xb,yb,zb,vb⟩:=Uy (x%10000%100) (by omega)
 obtain⟨sb,rb⟩:=sm_at (x%10000%100) (by omega)
 obtain⟨xc,yc,zc,vc⟩:=Uy (x/10000%100) (by omega)
 obtain⟨sc,rc⟩:=sm_at (x/10000%100) (by omega)
 obtain⟨xd,yd,zd,vd⟩:=Uy (x%100) (by omega)
 obtain⟨sd,rd⟩:=sm_at (x%100) (by omega)
 have q1:∀y:Nat,y<10000000->IntKind.u32.wrap (48+(y:Int))=((48+y:Nat):Int):=fun y hy=>by have:=tV (48+y) (by omega);rw[<-this];rfl
 have q2:=q1 x hx7;have q3:=q1 (x/100) (by omega)
 have q4:=q1 (x/10000) (by omega)
 have q5:=q1 (x/10000/100) (by omega)
 have lg:∀k,k<r->k<d:=fun k h=>by omega
 have h8:r=0\/r=1\/r=2\/r=3\/r=4\/r=5\/r=6\/r=7:=by omega
 rcases h8 with rfl|rfl|rfl|rfl|rfl|rfl|rfl|rfl;all_goals
  simp only[at6,Int.natCast_zero,Int.natCast_one]at lp;refine⟨?_,?_,?_⟩
  rotate_left 2
  ·rw[hC.go];simp only[dU,lp,gs,ty,wx,t1,t2,t3,t4,w1,w2,w3,w4,xa,ya,za,va,sa,ra,xb,yb,zb,vb,sb,rb,xc,yc,zc,vc,sc,rc,xd,yd,zd,vd,sd,rd,q2,q3,q4,q5,aj,w64,lg,hl2,aq9,aI,a95,Uf,aY,bD,a81,ax4,AV.cells,AV.flat,EVX,seval];rfl
  ·simp only[a95,hl2]
end Go.Ev
