/- Code of functions as the evaluator has it, and what some of them compute. No conditions. -/
import Derived.Test.YtegpahkgmealkaaGreatDoorCC
import Derived.Test.YtegpahkgmealkaaGreatDoorCB
import Derived.Test.YtegpahkgmealkaaGreatDoorEC
set_option linter.unusedVariables false
set_option linter.unusedSimpArgs false
namespace Go.Ev
set_option maxRecDepth 100000
variable{C:Ctx}
theorem alm{I:InF}{n:Nat}(h:I.ok n)(k:Nat)(hk:n<=k):below k I.v=true:=by
 rcases h.v with h|⟨p,e,hp⟩
 ·exact below_mono (Nat.zero_le _) _ h.cl
 ·rw[e];simp only[below,decide_eq_true_eq];omega
section
variable{O:St}{I:InF}
def Told.F1(t:Told C O I):dZ:=I.F.withX t.x0 t.x1 t.x2 t.x3 t.x4
def Told.F2(t:Told C O I):dZ:=t.F1.withE t.r0 t.r1 t.r2 t.r3 t.r4 t.r5
theorem Told.F1_b(t:Told C O I){n:Nat}(h:I.ok n){k:Nat}(hk:n<=k):ae k t.F1.cs=true:=by
 simp only[Told.F1,dZ.withX,dZ.cs,InF.F,ae,below,alm h k hk,h.a2.b,h.ks.b,below_mono (Nat.zero_le _) _ h.ph,t.hx0.b,t.hx1.b,t.hx2.b,t.hx3.b,t.hx4.b,Bool.and_self]
theorem Told.F2_b(t:Told C O I){n:Nat}(h:I.ok n){k:Nat}(hk:n<=k):ae k t.F2.cs=true:=by
 simp only[Told.F2,Told.F1,dZ.withX,dZ.withE,dZ.cs,InF.F,ae,below,alm h k hk,h.a2.b,h.ks.b,below_mono (Nat.zero_le _) _ h.ph,t.hx0.b,t.hx1.b,t.hx2.b,t.hx3.b,t.hx4.b,t.hr0.b,t.hr1.b,t.hr2.b,t.hr3.b,t.hr4.b,t.hr5.b,Bool.and_self]
theorem Told.F3_b(t:Told C O I){n:Nat}(h:I.ok n){k:Nat}(hk:n<=k)(a b:Int):ae k (t.F2.withV a b).cs=true:=by
 simp only[Told.F2,Told.F1,dZ.withX,dZ.withE,dZ.withV,dZ.cs,InF.F,ae,below,alm h k hk,h.a2.b,h.ks.b,below_mono (Nat.zero_le _) _ h.ph,t.hx0.b,t.hx1.b,t.hx2.b,t.hx3.b,t.hx4.b,t.hr0.b,t.hr1.b,t.hr2.b,t.hr3.b,t.hr4.b,t.hr5.b,Bool.and_self]
theorem Ei.T_b(t:Ei C O I):ae 0 t.T=true:=by
 simp only[Ei.T,ae,below,t.h2.b,t.h3.b,t.h4.b,t.h5.b,t.h6.b,t.h7.b,t.h8.b,Bool.and_self]
theorem alj{n:Nat}(h:I.ok n):ae 0 I.pin=true:=by simp only[InF.pin,ae,below,h.ph,Bool.and_self]
theorem aiZ{n:Nat}(h:I.ok n):ae 0 I.auth=true:=by simp only[InF.auth,ae,below,h.a2.b,Bool.and_self]
def TW(I:InF):St:=[.cells I.pin FZ,.cells I.auth FZ,.cells zT FZ]
theorem af7(H:J5 C){B:St}(okB:Ok B)(hB:O.length<=B.length)(hx:∀F T G,Ext O (QS B F T++G))(hI:I.ok O.length)(t:Ei C O I):∃r S'',uN C (B.length+3) (TY B.length (B.length+1) (B.length+2)) (QS B I.F zT) r S''/\r=t.c/\∃F' T',S''=QS B F' T'/\(r=0->T'=t.T):=by
 have ok0:Ok (QS B I.F zT):=Il okB (Qb hI (by omega)) rfl
 have ok1:Ok (QS B t.F1 zT):=Il okB (t.F1_b hI (by omega)) rfl
 have ok2:Ok (QS B t.F2 zT):=Il okB (t.F2_b hI (by omega)) rfl
 have ok3:Ok (QS B (t.F2.withV t.tv t.tx) t.T):=Il okB (t.F3_b hI (by omega) _ _) t.T_b
 have hf:ae (B.length+3) [.ref B.length 0]=true:=by simp[ae,below]
 have hat:ae (B.length+3) [.ref (B.length+1) 0,.ref (B.length+2) 0]=true:=by simp[ae,below]
 have lenG:∀(F T) (G:St),B.length+3<=(QS B F T++G).length:=fun F T G=>by rw[List.length_append,dQ];omega
 unfold Ei.c IQ;refine uN.step _ _ (I.size== -1) hf rfl (dQ ..) (dQ ..) ok0 (fun G hG=>TA H.toChkHas hG (EH ..)) (fun h=>⟨by rw[if_pos h];rfl,_,_,rfl,fun h=>by cases h⟩) (fun n1=>?_)
 rw[if_neg (by rw[n1];decide)]
 refine uN.step _ _ (decide (I.size<0)||(decide (0<=I.pl)&&decide (I.pl<(I.data.length:Int)))) hf rfl (dQ ..) (dQ ..) ok0 (fun G hG=>afJ H.toChkHas hG (EH ..)) (fun h=>⟨by rw[if_pos h];rfl,_,_,rfl,fun h=>by cases h⟩) (fun n2=>?_)
 rw[if_neg (by rw[n2];decide)]
 refine uN.step _ _ (decide (0<=I.pl)&&decide ((I.data.length:Int)<I.pl)) hf rfl (dQ ..) (dQ ..) ok0 (fun G hG=>afh H.toChkHas hG (EH ..)) (fun h=>⟨by rw[if_pos h];rfl,_,_,rfl,fun h=>by cases h⟩) (fun n3=>?_)
 rw[if_neg (by rw[n3];decide)]
 refine uN.step _ _ t.od hf rfl (dQ ..) (dQ ..) ok0 (fun G hG=>t.odig _ _ I.F hG (EH ..) rfl rfl) (fun h=>⟨by rw[if_pos h];rfl,_,_,rfl,fun h=>by cases h⟩) (fun n4=>?_)
 rw[if_neg (by rw[n4];decide)]
 refine uN.step _ _ (t.e1 !=0) (S':=QS B t.F1 zT) hf rfl (dQ ..) (dQ ..) ok1 (fun G hG=>?_) (fun h=>⟨by rw[if_pos h];rfl,_,_,rfl,fun h=>by cases h⟩) (fun n5=>?_)
 ·have:=V7 H.toChkHas hG (EH B I.F zT G) t.hx0.toOne t.hx1.toOne t.hx2.toOne t.hx3.toOne t.hx4.toOne (t.F1_b hI (by have:=lenG I.F zT G;omega)) (t.rd _ hG)
  rw[Gn]at this;exact this
 have e1:t.e1=0:=by simpa using n5
 rw[if_neg (by rw[n5];decide)]
 refine uN.step _ _ (t.e2 !=0) (S':=QS B t.F2 zT) hf rfl (dQ ..) (dQ ..) ok2 (fun G hG=>?_) (fun h=>⟨by rw[if_pos h];rfl,_,_,rfl,fun h=>by cases h⟩) (fun n6=>?_)
 ·have:=IJ H.toChkHas hG (EH B t.F1 zT G) t.hr0.toOne t.hr1.toOne t.hr2.toOne t.hr3.toOne t.hr4.toOne t.hr5.toOne (t.F2_b hI (by have:=lenG t.F1 zT G;omega)) (t.sg e1 _ hG)
  rw[Gn]at this;exact this
 have e2:t.e2=0:=by simpa using n6
 rw[if_neg (by rw[n6];decide)]
 refine uN.step _ _ (t.e3 !=0) (S':=QS B (t.F2.withV t.tv t.tx) t.T) rfl hat (dQ ..) (dQ ..) ok3 (fun G hG=>?_) (fun h=>⟨by rw[if_pos h];rfl,_,_,rfl,fun h=>by cases h⟩) (fun n7=>?_)
 ·have hl:=lenG t.F2 zT G;have:=afx H.role1 hG (EH B t.F2 zT G) (anw B t.F2 zT G) (anx B t.F2 zT G) (by omega) (by omega) (by omega) t.h2.toOne t.h3.toOne t.h4.toOne t.h5.toOne t.h6.toOne t.h7.toOne t.h8.toOne (by simp only[ae,t.h2.b,t.h3.b,t.h4.b,t.h5.b,t.h6.b,t.h7.b,t.h8.b,Bool.and_self]) (t.F3_b hI (by omega) _ _) (t.tg e1 e2 _ hG)
  rw[acn,Gn]at this;exact this
 rw[if_neg (by rw[n7];decide)]
 refine uN.step _ _ (!t.en) hf rfl (dQ ..) (dQ ..) ok3 (fun G hG=>PU H.toChkHas hG (EH ..) (t.enough e1 e2 _ hG (hx _ _ _))) (fun h=>⟨by rw[if_pos h];rfl,_,_,rfl,fun h=>by cases h⟩) (fun n8=>?_)
 rw[if_neg (by rw[n8];decide)]
 refine uN.step _ _ (t.tv !=I.pv) hf rfl (dQ ..) (dQ ..) ok3 (fun G hG=>PZ H.toChkHas hG (EH ..)) (fun h=>⟨by rw[if_pos h];rfl,_,_,rfl,fun h=>by cases h⟩) (fun n9=>?_)
 rw[if_neg (by rw[n9];decide)]
 refine uN.step _ _ t.ov hf rfl (dQ ..) (dQ ..) ok3 (fun G hG=>RN H.toChkHas hG (EH ..) (t.over _ hG)) (fun h=>⟨by rw[if_pos h];rfl,_,_,rfl,fun h=>by cases h⟩) (fun n10=>?_)
 rw[if_neg (by rw[n10];decide)]
 exact⟨0,_,.nil _,rfl,_,_,rfl,fun _=>rfl⟩
theorem Eh.S_b(t:Eh C O I):ae 0 t.S=true:=by simp only[Eh.S,ae,below,t.h2.b,Bool.and_self]
theorem afi(H:J5 C)(hpl:I.pl= -1){B:St}(okB:Ok B)(hB:O.length<=B.length)(hx:∀F T G,Ext O (QS B F T++G))(hI:I.ok O.length)(t:Eh C O I):∃r S'',uN C (B.length+3) (Ui B.length (B.length+1) (B.length+2)) (QS B I.F zS) r S''/\r=t.c/\∃F' T',S''=QS B F' T'/\(r=0->T'=t.S):=by
 have ok0:Ok (QS B I.F zS):=Il okB (Qb hI (by omega)) rfl
 have ok1:Ok (QS B t.F1 zS):=Il okB (t.F1_b hI (by omega)) rfl
 have ok2:Ok (QS B t.F2 zS):=Il okB (t.F2_b hI (by omega)) rfl
 have ok3:Ok (QS B (t.F2.withV 0 t.sx) t.S):=Il okB (t.F3_b hI (by omega) _ _) t.S_b
 have hf:ae (B.length+3) [.ref B.length 0]=true:=by simp[ae,below]
 have hat:ae (B.length+3) [.ref (B.length+1) 0,.ref (B.length+2) 0]=true:=by simp[ae,below]
 have lenG:∀(F T) (G:St),B.length+3<=(QS B F T++G).length:=fun F T G=>by rw[List.length_append,dQ];omega
 unfold Eh.c IV;refine uN.step _ _ (I.size== -1) hf rfl (dQ ..) (dQ ..) ok0 (fun G hG=>TA H.toChkHas hG (EH ..)) (fun h=>⟨by rw[if_pos h];rfl,_,_,rfl,fun h=>by cases h⟩) (fun n1=>?_)
 rw[if_neg (by rw[n1];decide)]
 refine uN.step _ _ (decide (I.size<0)) hf rfl (dQ ..) (dQ ..) ok0 (fun G hG=>by
  have:=afJ H.toChkHas hG (EH B I.F zS G);rw[show I.F.pl= -1 from hpl,show decide ((0:Int)<= -1)=false from rfl,Bool.false_and,Bool.or_false]at this;exact this) (fun h=>⟨by rw[if_pos h];rfl,_,_,rfl,fun h=>by cases h⟩) (fun n2=>?_)
 rw[if_neg (by rw[n2];decide)]
 refine uN.step _ _ (t.e1 !=0) (S':=QS B t.F1 zS) hf rfl (dQ ..) (dQ ..) ok1 (fun G hG=>?_) (fun h=>⟨by rw[if_pos h];rfl,_,_,rfl,fun h=>by cases h⟩) (fun n5=>?_)
 ·have:=V7 H.toChkHas hG (EH B I.F zS G) t.hx0.toOne t.hx1.toOne t.hx2.toOne t.hx3.toOne t.hx4.toOne (t.F1_b hI (by have:=lenG I.F zS G;omega)) (t.rd _ hG)
  rw[Gn]at this;exact this
 have e1:t.e1=0:=by simpa using n5
 rw[if_neg (by rw[n5];decide)]
 refine uN.step _ _ (t.e2 !=0) (S':=QS B t.F2 zS) hf rfl (dQ ..) (dQ ..) ok2 (fun G hG=>?_) (fun h=>⟨by rw[if_pos h];rfl,_,_,rfl,fun h=>by cases h⟩) (fun n6=>?_)
 ·have:=IJ H.toChkHas hG (EH B t.F1 zS G) t.hr0.toOne t.hr1.toOne t.hr2.toOne t.hr3.toOne t.hr4.toOne t.hr5.toOne (t.F2_b hI (by have:=lenG t.F1 zS G;omega)) (t.sg e1 _ hG)
  rw[Gn]at this;exact this
 have e2:t.e2=0:=by simpa using n6
 rw[if_neg (by rw[n6];decide)]
 refine uN.step _ _ (t.e3 !=0) (S':=QS B (t.F2.withV 0 t.sx) t.S) rfl hat (dQ ..) (dQ ..) ok3 (fun G hG=>?_) (fun h=>⟨by rw[if_pos h];rfl,_,_,rfl,fun h=>by cases h⟩) (fun n7=>?_)
 ·have hl:=lenG t.F2 zS G;have:=afz H.snap1 hG (EH B t.F2 zS G) (anw B t.F2 zS G) (anx B t.F2 zS G) (by omega) (by omega) (by omega) t.h2.toOne (by simp only[ae,t.h2.b,Bool.and_self]) (t.F3_b hI (by omega) _ _) (t.sn e1 e2 _ hG)
  rw[acn,Gn]at this;exact this
 rw[if_neg (by rw[n7];decide)]
 refine uN.step _ _ (!t.en) hf rfl (dQ ..) (dQ ..) ok3 (fun G hG=>PU H.toChkHas hG (EH ..) (t.enough e1 e2 _ hG (hx _ _ _))) (fun h=>⟨by rw[if_pos h];rfl,_,_,rfl,fun h=>by cases h⟩) (fun n8=>?_)
 rw[if_neg (by rw[n8];decide)]
 refine uN.step _ _ t.ov hf rfl (dQ ..) (dQ ..) ok3 (fun G hG=>RN H.toChkHas hG (EH ..) (t.over _ hG)) (fun h=>⟨by rw[if_pos h];rfl,_,_,rfl,fun h=>by cases h⟩) (fun n10=>?_)
 rw[if_neg (by rw[n10];decide)]
 exact⟨0,_,.nil _,rfl,_,_,rfl,fun _=>rfl⟩
end
theorem alk{I:InF}(h:NV I.ph):NV (.agg I.pin):=.agg (.cons (.str _) (.cons (.int _ _) (.cons (.int _ _) (.cons h .nil))))
theorem ali{I:InF}{n:Nat}(h:I.ok n):NV (.agg I.auth):=.agg (.cons (.int _ _) (.cons h.a2.nv .nil))
theorem akz{I:InF}{n:Nat}(h:I.ok n):(∀O r,aU O r I.v=some (I.v,[])):=by
 rcases h.v with h|⟨p,e,_⟩
 ·exact h.nf
 ·intro O r;rw[e];rfl
theorem acW{n:Nat}{rs:List XR}{e:As}{Y:St}{vs:LA}(h:bI e Y rs=some vs)(h2:NVs vs):BN n rs (some (.ret,e,Y))=some (bi vs,tidy n vs Y):=by
 rw[qJ,h];dsimp only;rw[h2.hand]
theorem Xy{n:Nat}{rs:List XR}{e:As}{Y O3:St}{vs vs':LA}(h:bI e Y rs=some vs)(h2:hand false vs Y=some (vs',O3)):BN n rs (some (.ret,e,Y))=some (bi vs',tidy n vs' O3):=by
 rw[qJ,h];dsimp only;rw[h2]
section
variable{O:St}{I:InF}
theorem UO (H:J5 C) (hσ:Ok O) (hI:I.ok O.length) (hp:pY I.ph) (hv:I.v.flat=true/\I.v.cells=[I.v]) (t:Ei C O I):
  ai C zf [I.v,.agg I.pin,.agg I.auth,I.ks,.int .i64 I.now,.str I.data,.int .i64 I.size] O=some (.tup [.agg (if t.c=0 then t.T else zTn),.int .u8 t.c],O):=by
 have lB:(O++TW I).length=O.length+3:=by simp[TW]
 have okB:Ok (O++TW I):=hσ.plus (by simp only[TW,List.all_cons,List.all_nil,AO.below,alj hI,aiZ hI,Bool.true_and];rfl)
 obtain⟨r,S'',R,hr,F',T',hS,hT⟩:=af7 H okB (by omega) (fun F T G=>afw _ F T G) hI t
 have hn:hand false [I.v,.agg I.pin,.agg I.auth,I.ks,.int .i64 I.now,.str I.data,.int .i64 I.size] O=some ([I.v,.agg I.pin,.agg I.auth,I.ks,.int .i64 I.now,.str I.data,.int .i64 I.size],O):=by
  have n1:=akz hI;have n2:=(alk hp.nv).nf;have n3:=(ali hI).nf;have n4:=hI.ks.nv.nf;show(match bZ O 12 [I.v,.agg I.pin,.agg I.auth,I.ks,.int .i64 I.now,.str I.data,.int .i64 I.size]with|some (l,fs)=>some (l,freeze O fs)|none=>none)=_
  rw[show bZ O 12 [I.v,.agg I.pin,.agg I.auth,I.ks,.int .i64 I.now,.str I.data,.int .i64 I.size]=aJ O (bZ O 11) [I.v,.agg I.pin,.agg I.auth,I.ks,.int .i64 I.now,.str I.data,.int .i64 I.size]from rfl];simp only[aJ,n1,n2,n3,n4];rfl
 rw[H.role.go hn];have ok0:Ok (QS (O++TW I) I.F zT):=Il okB (Qb hI (by omega)) rfl
 have R':=R;rw[<-dQ (O++TW I) I.F zT]at R';have first:=EQ H.first R' ok0 (by simp[TY]) (by
  intro x hx;simp only[TY,List.mem_cons,List.not_mem_nil,or_false]at hx;rcases hx with rfl|rfl|rfl|rfl|rfl|rfl|rfl|rfl|rfl|rfl<;>first|exact al1 .. |exact acN ..)
 rw[hS]at first
 rw[lB]at first
 rw[show(TY (O.length+3) (O.length+3+1) (O.length+3+2)).length=10 from rfl]at first
 have go:∀F T,QS (O++TW I) F T=O++[.cells I.pin FZ,.cells I.auth FZ,.cells zT FZ,.cells F.cs FZ,.cells [.ref (O.length+3) 0] FZ,.cells T FZ]:=fun F T=>by
  unfold QS;rw[lB,List.append_assoc];rfl
 rw[go,go]at first
 simp only[TY,mt,ag6,T3.cs,List.flatMap_cons,List.flatMap_nil,List.cons_append,List.nil_append,List.append_nil,Nat.add_assoc,Nat.reduceAdd]at first
 have ty:=fun(vs:LA) (h:ae 0 vs=true) L=>df hσ (vs:=vs) h L;obtain⟨vf,vc⟩:=hv;obtain⟨⟨k1,k2,_⟩,_⟩:=hI.a2;obtain⟨⟨k3,k4,_⟩,_⟩:=hI.ks;obtain⟨⟨k5,k6,_⟩,_⟩:=hp;rw[<-hr];obtain⟨⟨a2,b2,c2⟩,_⟩:=t.h2;obtain⟨⟨a3,b3,c3⟩,_⟩:=t.h3;obtain⟨⟨a4,b4,c4⟩,_⟩:=t.h4;obtain⟨⟨a5,b5,c5⟩,_⟩:=t.h5;obtain⟨⟨a6,b6,c6⟩,_⟩:=t.h6;obtain⟨⟨a7,b7,c7⟩,_⟩:=t.h7;obtain⟨⟨a8,b8,c8⟩,_⟩:=t.h8;have tb:=t.T_b;have tn:NVs t.T:=.cons (.int _ _) (.cons (.int _ _) (.cons c2 (.cons c3 (.cons c4 (.cons c5 (.cons c6 (.cons c7 (.cons c8 .nil))))))));by_cases hc:r=0
 ·rw[if_pos hc];have hT:=hT hc;subst hT;have body:dI C (ai C) iO.ntmps iO.body (mg 0 [I.v,.agg I.pin,.agg I.auth,I.ks,.int .i64 I.now,.str I.data,.int .i64 I.size]) O=some (.ret,[(14,.ref (O.length+2) 0),(15,.int .u8 0)],O++[.cells I.pin FZ,.cells I.auth FZ,.cells t.T FZ,.cells F'.cs FZ,.cells [.ref (O.length+3) 0] FZ,.cells t.T FZ]):=by
   subst hc;unfold InF.F dZ.cs InF.pin InF.auth zT Ei.T at*;simp only[iO,first,vc,k4,a2,a3,a4,a5,a6,a7,a8,splice,cu,EVX,seval]
  have res:bI [(14,.ref (O.length+2) 0),(15,.int .u8 0)] (O++[.cells I.pin FZ,.cells I.auth FZ,.cells t.T FZ,.cells F'.cs FZ,.cells [.ref (O.length+3) 0] FZ,.cells t.T FZ]) iO.results=some [.agg t.T,.int .u8 0]:=by
   unfold Ei.T;simp only[iO,bI,dW,EVX,seval]
  rw[body,acW res (.cons (.agg tn) (.cons (.int _ _) .nil)),ty _ (by rw[ae,below,tb];rfl),hc]
  rfl
 ·rw[if_neg hc];have hc':(r !=0)=true:=by rw[bne_iff_ne];exact hc
  have body:dI C (ai C) iO.ntmps iO.body (mg 0 [I.v,.agg I.pin,.agg I.auth,I.ks,.int .i64 I.now,.str I.data,.int .i64 I.size]) O=some (.ret,[(14,.ref (O.length+2) 0),(15,.int .u8 r)],O++[.cells I.pin FZ,.cells I.auth FZ,.cells zT FZ,.cells F'.cs FZ,.cells [.ref (O.length+3) 0] FZ,.cells T' FZ]):=by
   unfold InF.F dZ.cs InF.pin InF.auth zT at*;simp only[iO,first,hc',vc,k4,splice,cu,EVX,seval]
  have res:bI [(14,.ref (O.length+2) 0),(15,.int .u8 r)] (O++[.cells I.pin FZ,.cells I.auth FZ,.cells zT FZ,.cells F'.cs FZ,.cells [.ref (O.length+3) 0] FZ,.cells T' FZ]) iO.results=some [.agg zT,.int .u8 r]:=by
   unfold zT;simp only[iO,bI,dW,EVX,seval]
  have hh:hand false [.agg zT,.int .u8 r] (O++[.cells I.pin FZ,.cells I.auth FZ,.cells zT FZ,.cells F'.cs FZ,.cells [.ref (O.length+3) 0] FZ,.cells T' FZ])=some ([.agg zTn,.int .u8 r],O++[.cells I.pin FZ,.cells I.auth FZ,.cells zT FZ,.cells F'.cs FZ,.cells [.ref (O.length+3) 0] FZ,.cells T' FZ]):=rfl;rw[body,Xy res hh,ty _ rfl];rfl
def sF(I:InF)(c0 c1 c3 c4 c7 c8:AV):LA:=[c0,c1,I.ks,c3,c4,.int .i64 I.a1,I.a2,c7,c8]
def Uh(I:InF)(c0 c1 c3 c4 c7 c8:AV):St:=[.cells (sF I c0 c1 c3 c4 c7 c8) FZ,.cells zS FZ]
theorem KT (H:J5 C) (hσ:Ok O) (hI:I.ok O.length) (hv:I.v.flat=true/\I.v.cells=[I.v]) (hp:I.pn=[]/\I.pv=0/\I.pl= -1/\I.ph=.nils) (t:Eh C O I) {c0 c1 c3 c4 c7 c8:AV} (h0:pY c0) (h1:pY c1) (h3:pY c3) (h4:pY c4) (h7:pY c7) (h8:pY c8):
  ai C qY [I.v,.agg (sF I c0 c1 c3 c4 c7 c8),.int .i64 I.now,.str I.data,.int .i64 I.size] O=some (.tup [.agg (if t.c=0 then t.S else zSn),.int .u8 t.c],O):=by
 have rb:ae 0 (sF I c0 c1 c3 c4 c7 c8)=true:=by simp only[sF,ae,below,h0.b,h1.b,h3.b,h4.b,h7.b,h8.b,hI.ks.b,hI.a2.b,Bool.and_self]
 have rn:NV (.agg (sF I c0 c1 c3 c4 c7 c8)):=.agg (.cons h0.nv (.cons h1.nv (.cons hI.ks.nv (.cons h3.nv (.cons h4.nv (.cons (.int _ _) (.cons hI.a2.nv (.cons h7.nv (.cons h8.nv .nil)))))))));have lB:(O++Uh I c0 c1 c3 c4 c7 c8).length=O.length+2:=by simp[Uh]
 have okB:Ok (O++Uh I c0 c1 c3 c4 c7 c8):=hσ.plus (by simp only[Uh,List.all_cons,List.all_nil,AO.below,rb,Bool.true_and];rfl)
 obtain⟨r,S'',R,hr,F',T',hS,hT⟩:=afi H hp.2.2.1 okB (by omega) (fun F T G=>afw _ F T G) hI t
 have hn:hand false [I.v,.agg (sF I c0 c1 c3 c4 c7 c8),.int .i64 I.now,.str I.data,.int .i64 I.size] O=some ([I.v,.agg (sF I c0 c1 c3 c4 c7 c8),.int .i64 I.now,.str I.data,.int .i64 I.size],O):=by
  have n1:=akz hI;have n2:=rn.nf;show(match bZ O 12 [I.v,.agg (sF I c0 c1 c3 c4 c7 c8),.int .i64 I.now,.str I.data,.int .i64 I.size]with|some (l,fs)=>some (l,freeze O fs)|none=>none)=_
  rw[show bZ O 12 [I.v,.agg (sF I c0 c1 c3 c4 c7 c8),.int .i64 I.now,.str I.data,.int .i64 I.size]=aJ O (bZ O 11) [I.v,.agg (sF I c0 c1 c3 c4 c7 c8),.int .i64 I.now,.str I.data,.int .i64 I.size]from rfl];simp only[aJ,n1,n2];rfl
 rw[H.snap.go hn];have ok0:Ok (QS (O++Uh I c0 c1 c3 c4 c7 c8) I.F zS):=Il okB (Qb hI (by omega)) rfl
 have R':=R;rw[<-dQ (O++Uh I c0 c1 c3 c4 c7 c8) I.F zS]at R';have first:=EQ H.first R' ok0 (by simp[Ui]) (by
  intro x hx;simp only[Ui,List.mem_cons,List.not_mem_nil,or_false]at hx;rcases hx with rfl|rfl|rfl|rfl|rfl|rfl|rfl<;>first|exact al1 .. |exact acN ..)
 rw[hS]at first
 rw[lB]at first
 rw[show(Ui (O.length+2) (O.length+2+1) (O.length+2+2)).length=7 from rfl]at first
 have go:∀F T,QS (O++Uh I c0 c1 c3 c4 c7 c8) F T=O++[.cells (sF I c0 c1 c3 c4 c7 c8) FZ,.cells zS FZ,.cells F.cs FZ,.cells [.ref (O.length+2) 0] FZ,.cells T FZ]:=fun F T=>by
  unfold QS;rw[lB,List.append_assoc];rfl
 rw[go,go]at first
 simp only[Ui,mt,ag6,T3.cs,List.flatMap_cons,List.flatMap_nil,List.cons_append,List.nil_append,List.append_nil,Nat.add_assoc,Nat.reduceAdd]at first
 have ty:=fun(vs:LA) (h:ae 0 vs=true) L=>df hσ (vs:=vs) h L;obtain⟨vf,vc⟩:=hv;obtain⟨p1,p2,p3,p4⟩:=hp;obtain⟨⟨k1,k2,_⟩,_⟩:=hI.a2;obtain⟨⟨k3,k4,_⟩,_⟩:=hI.ks;obtain⟨⟨f0,g0,_⟩,_⟩:=h0;obtain⟨⟨f1,g1,_⟩,_⟩:=h1;obtain⟨⟨f3,g3,_⟩,_⟩:=h3;obtain⟨⟨f4,g4,_⟩,_⟩:=h4;obtain⟨⟨f7,g7,_⟩,_⟩:=h7;obtain⟨⟨f8,g8,_⟩,_⟩:=h8;rw[<-hr];obtain⟨⟨a2,b2,c2⟩,_⟩:=t.h2;have tb:=t.S_b;have tn:NVs t.S:=.cons (.int _ _) (.cons (.int _ _) (.cons c2 .nil));by_cases hc:r=0
 ·rw[if_pos hc];have hT:=hT hc;subst hT;have body:dI C (ai C) dF.ntmps dF.body (mg 0 [I.v,.agg (sF I c0 c1 c3 c4 c7 c8),.int .i64 I.now,.str I.data,.int .i64 I.size]) O=some (.ret,[(10,.ref (O.length+1) 0),(11,.int .u8 0)],O++[.cells (sF I c0 c1 c3 c4 c7 c8) FZ,.cells t.S FZ,.cells F'.cs FZ,.cells [.ref (O.length+2) 0] FZ,.cells t.S FZ]):=by
   subst hc;unfold InF.F dZ.cs sF zS Eh.S at*;simp only[dF,p1,p2,p3,p4]at first⊢
   simp only[first,vc,k2,k4,a2,splice,cu,EVX,seval]
  have res:bI [(10,.ref (O.length+1) 0),(11,.int .u8 0)] (O++[.cells (sF I c0 c1 c3 c4 c7 c8) FZ,.cells t.S FZ,.cells F'.cs FZ,.cells [.ref (O.length+2) 0] FZ,.cells t.S FZ]) dF.results=some [.agg t.S,.int .u8 0]:=by
   unfold Eh.S;simp only[dF,bI,dW,EVX,seval]
  rw[body,acW res (.cons (.agg tn) (.cons (.int _ _) .nil)),ty _ (by rw[ae,below,tb];rfl),hc]
  rfl
 ·rw[if_neg hc];have hc':(r !=0)=true:=by rw[bne_iff_ne];exact hc
  have body:dI C (ai C) dF.ntmps dF.body (mg 0 [I.v,.agg (sF I c0 c1 c3 c4 c7 c8),.int .i64 I.now,.str I.data,.int .i64 I.size]) O=some (.ret,[(10,.ref (O.length+1) 0),(11,.int .u8 r)],O++[.cells (sF I c0 c1 c3 c4 c7 c8) FZ,.cells zS FZ,.cells F'.cs FZ,.cells [.ref (O.length+2) 0] FZ,.cells T' FZ]):=by
   unfold InF.F dZ.cs sF zS at*;simp only[dF,p1,p2,p3,p4]at first⊢
   simp only[first,hc',vc,k2,k4,splice,cu,EVX,seval]
  have res:bI [(10,.ref (O.length+1) 0),(11,.int .u8 r)] (O++[.cells (sF I c0 c1 c3 c4 c7 c8) FZ,.cells zS FZ,.cells F'.cs FZ,.cells [.ref (O.length+2) 0] FZ,.cells T' FZ]) dF.results=some [.agg zS,.int .u8 r]:=by
   unfold zS;simp only[dF,bI,dW,EVX,seval]
  have hh:hand false [.agg zS,.int .u8 r] (O++[.cells (sF I c0 c1 c3 c4 c7 c8) FZ,.cells zS FZ,.cells F'.cs FZ,.cells [.ref (O.length+2) 0] FZ,.cells T' FZ])=some ([.agg zSn,.int .u8 r],O++[.cells (sF I c0 c1 c3 c4 c7 c8) FZ,.cells zS FZ,.cells F'.cs FZ,.cells [.ref (O.length+2) 0] FZ,.cells T' FZ]):=rfl;rw[body,Xy res hh,ty _ rfl];rfl
end
variable{V:Val}
theorem DY{r:LA}(h:Ms V [] r):r=[]:=by cases h;rfl
theorem X4{s:Sh}{t:List Sh}{r:LA}(h:Ms V (s::t) r)(h1:s.one=true):∃v b,r=v::b/\M V s v/\Ms V t b:=by
 cases h with
 |one _ _ v b _ h3 h4=>exact⟨v,b,rfl,h3,h4⟩
 |jv=>cases h1
 |jg=>cases h1
theorem zo{t:List Sh}{r:LA}(h:Ms V (.strb::t) r):∃s b,r=.str s::b/\s.length<=LB/\Ms V t b:=by
 obtain⟨v,b,rfl,h3,h4⟩:=X4 h rfl;cases h3 with
 |strb s hs=>exact⟨s,b,rfl,hs,h4⟩
theorem Cb{k:IntKind}{t:List Sh}{r:LA}(h:Ms V (.int k::t) r):∃n b,r=.int k n::b/\Ms V t b:=by
 obtain⟨v,b,rfl,h3,h4⟩:=X4 h rfl;cases h3 with
 |int k n=>exact⟨n,b,rfl,h4⟩
theorem ajO{t:List Sh}{r:LA}(h:Ms V (.bool::t) r):∃n b,r=.bool n::b/\Ms V t b:=by
 obtain⟨v,b,rfl,h3,h4⟩:=X4 h rfl;cases h3 with
 |bool n=>exact⟨n,b,rfl,h4⟩
theorem al0{t:List Sh}{r:LA}(h:Ms V (.jv::t) r):∃(j:JV) (b:LA),r=j.cs++b/\Ms V t b:=by
 cases h with
 |one _ _ _ _ h1=>cases h1
 |jv _ j b h=>exact⟨j,b,rfl,h⟩
theorem adv{α:Type}{e:List Sh}{f:α->LA}{P:α->Prop}(h:∀r,Ms V e r->∃x,r=f x/\P x):∀{rs:List LA},MRs V e rs->∃xs:List α,rs=xs.map f/\∀x∈xs,P x
 |_,.nil _=>⟨[],rfl,fun x hx=>by cases hx⟩
 |_,.cons _ r rs hr hrs=>by
  obtain⟨x,rfl,px⟩:=h r hr;obtain⟨xs,rfl,pxs⟩:=adv h hrs;exact⟨x::xs,rfl,fun y hy=>by
   rcases List.mem_cons.mp hy with rfl|hy
   ·exact px
   ·exact pxs y hy⟩
theorem aog{α:Type}{e:List Sh}{f:α->LA}{P:α->Prop}(h:∀r,Ms V e r->∃x,r=f x/\P x){v:AV}(hm:M V (.slx e) v):∃xs:List α,v=.sl xs.length (xs.flatMap f)/\xs.length<=8192/\∀x∈xs,P x:=by
 cases hm with
 |slx _ rs hl hr=>
  obtain⟨xs,rfl,px⟩:=adv h hr;rw[List.length_map]at hl⊢;exact⟨xs,by rw[List.flatMap],hl,px⟩
theorem Aq{α:Type}{e:List Sh}{f:α->LA}{P:α->Prop}(h:∀r,Ms V e r->∃x,r=f x/\P x){t:List Sh}{r:LA}(hm:Ms V (.slx e::t) r):∃(xs:List α) (b:LA),r=.sl xs.length (xs.flatMap f)::b/\xs.length<=8192/\(∀x∈xs,P x)/\Ms V t b:=by
 obtain⟨v,b,rfl,h3,h4⟩:=X4 hm rfl;obtain⟨xs,rfl,h5,h6⟩:=aog h h3;exact⟨xs,b,rfl,h5,h6,h4⟩
theorem ade(r:LA)(h:Ms V [.strb] r):∃s,r=sC s/\True:=by
 obtain⟨s,b,rfl,_,h1⟩:=zo h;rw[DY h1];exact⟨s,rfl,trivial⟩
theorem agU(r:LA)(h:Ms V [.strb,.strb] r):∃s,r=pC s/\True:=by
 obtain⟨s,b,rfl,_,h1⟩:=zo h;obtain⟨u,b,rfl,_,h2⟩:=zo h1;rw[DY h2];exact⟨(s,u),rfl,trivial⟩
theorem ao5(r:LA)(h:Ms V [.strb,.int .i64,.slx [.strb,.strb],.jv] r):∃t,r=TgV.cs t/\t.hs.length<=1099511627776:=by
 obtain⟨s,b,rfl,_,h1⟩:=zo h;obtain⟨n,b,rfl,h2⟩:=Cb h1;obtain⟨hs,b,rfl,hl,_,h3⟩:=Aq agU h2;obtain⟨j,b,rfl,h4⟩:=al0 h3;rw[DY h4,List.append_nil];exact⟨⟨s,n,hs,j⟩,rfl,show hs.length<=_ by omega⟩
theorem ao4(r:LA)(h:Ms V [.strb,.int .i64,.slx [.strb],.bool,.slx [.strb],.slx [.strb]] r):∃t,r=RoV.cs t/\t.ok:=by
 obtain⟨s,b,rfl,_,h1⟩:=zo h;obtain⟨n,b,rfl,h2⟩:=Cb h1;obtain⟨a1,b,rfl,l1,_,h3⟩:=Aq ade h2;obtain⟨te,b,rfl,h4⟩:=ajO h3;obtain⟨a2,b,rfl,l2,_,h5⟩:=Aq ade h4;obtain⟨a3,b,rfl,l3,_,h6⟩:=Aq ade h5;rw[DY h6];exact⟨⟨s,n,a1,te,a2,a3⟩,rfl,⟨show a1.length<=_ by omega,show a2.length<=_ by omega,show a3.length<=_ by omega⟩⟩
def anc:Sh:=.agg [.int .i64,.int .i64,.slx [.strb,.int .i64,.slx [.strb,.strb],.jv],.slx [.strb,.strb],.slx [.strb,.int .i64,.slx [.strb],.bool,.slx [.strb],.slx [.strb]],.int .i64,.slx [.strb],.int .i64,.strb]
theorem agW{v:AV}(h:M V anc v):∃t:wG,v=.agg t.cs/\t.ok:=by
 cases h with
 |agg _ v h=>
  obtain⟨a,b,rfl,h1⟩:=Cb h;obtain⟨e,b,rfl,h2⟩:=Cb h1;obtain⟨l,b,rfl,l1,q1,h3⟩:=Aq ao5 h2;obtain⟨k,b,rfl,l2,_,h4⟩:=Aq agU h3;obtain⟨r,b,rfl,l3,q3,h5⟩:=Aq ao4 h4;obtain⟨th,b,rfl,h6⟩:=Cb h5;obtain⟨i,b,rfl,l4,_,h7⟩:=Aq ade h6;obtain⟨n,b,rfl,h8⟩:=Cb h7;obtain⟨p,b,rfl,_,h9⟩:=zo h8;rw[DY h9];exact⟨⟨a,e,l,⟨k,r,th,i,n,p⟩⟩,rfl,⟨show l.length<=_ by omega,q1,⟨show k.length<=_ by omega,show r.length<=_ by omega,q3,show i.length<=_ by omega⟩⟩⟩
def acZ:Sh:=.agg [.jv,.slx [.strb,.strb]]
theorem adc{v:AV}(h:M V acZ v):∃(j:JV) (l:List PS),v=.agg (j.cs++[.sl l.length (l.flatMap pC)])/\l.length<=8192:=by
 cases h with
 |agg _ v h=>
  obtain⟨j,b,rfl,h1⟩:=al0 h;obtain⟨l,b,rfl,l1,_,h2⟩:=Aq agU h1;rw[DY h2];exact⟨j,l,rfl,l1⟩
theorem am5{v:AV}(h:M V .jv v):∃j:JV,v=j.av:=by
 cases h with
 |jv j=>exact⟨j,rfl⟩
theorem ajG{v:AV}(h:M V .strb v):∃s:LU,v=.str s:=by
 cases h with
 |strb s _=>exact⟨s,rfl⟩
theorem ao3{v:AV}(h:M V .bool v):∃b:Bool,v=.bool b:=by
 cases h with
 |bool b=>exact⟨b,rfl⟩
theorem agT{s:Sh}{k:IntKind}{v:AV}(h:M V (.tup [s,.int k]) v):∃x n,v=.tup [x,.int k n]/\M V s x:=by
 cases h with
 |tup _ _ h=>
  cases h with
  |cons _ _ x b h1 h2=>
   cases h2 with
   |cons _ _ y b h3 h4=>
    cases h4;cases h3 with
    |int k n=>exact⟨x,n,rfl,h1⟩
theorem ao2{s:Sh}{k k':IntKind}{v:AV}(h:M V (.tup [s,.int k,.int k']) v):∃x n m,v=.tup [x,.int k n,.int k' m]/\M V s x:=by
 cases h with
 |tup _ _ h=>
  cases h with
  |cons _ _ x b h1 h2=>
   cases h2 with
   |cons _ _ y b h3 h4=>
    cases h4 with
    |cons _ _ z b h5 h6=>
    cases h6;cases h3 with
    |int k n=>cases h5 with
     |int k' m=>exact⟨x,n,m,rfl,h1⟩
theorem adu{α:Type}{e:List Sh}{f:α->LA}:∀(l:List α),(∀x∈l,Ms V e (f x))->MRs V e (l.map f)
 |[],_=>.nil _
 |x::l,h=>.cons _ _ _ (h x (by simp)) (adu l fun y hy=>h y (by simp[hy]))
theorem abH{α:Type}{e:List Sh}{f:α->LA}(l:List α)(h:∀x∈l,Ms V e (f x))(hl:l.length<=8192):M V (.slx e) (.sl l.length (l.flatMap f)):=by
 have:=M.slx e (l.map f) (by rw[List.length_map];exact hl) (adu l h)
 rwa[List.length_map,<-List.flatMap]at this
theorem qN(n:Nat){l:LA}(h:NV (.sl n l)):pY (.sl n l):=⟨⟨rfl,rfl,h⟩,h.cl⟩
theorem BA(k:IntKind)(n:Int):pY (.int k n):=⟨⟨rfl,rfl,.int _ _⟩,rfl⟩
theorem adA(s:LU):pY (.str s):=⟨⟨rfl,rfl,.str _⟩,rfl⟩
theorem JV.ones(j:JV):∃a b c d e,j.cs=[a,b,c,d,e]/\pY a/\pY b/\pY c/\pY d/\pY e:=by
 have h1:=j.nvs;have h2:=j.bel;obtain⟨k,n,t,ns,is,a1,a3,a2,a4,rfl⟩:=j.ex;rw[JV.mk_cs]at*;refine⟨_,_,_,_,_,rfl,BA _ _,BA _ _,adA _,qN _ (h1 _ (by simp)),qN _ (h1 _ (by simp))⟩
def YK(l:List LU):Prop:=l.length<=8192/\∀s∈l,s.length<=LB
def NC(hs:List PS):Prop:=hs.length<=8192/\∀x∈hs,x.1.length<=LB/\x.2.length<=LB
end Go.Ev
namespace Go.Ev
set_option maxRecDepth 100000
variable{C:Ctx}
theorem apH(hC:Has C apF apC)(a b:LU)(ha:a.length<=LB)(hb:b.length<=LB)(O:St)(hσ:Ok O):∃q:Bool,ai C apF [.str a,.str b] O=some (.bool q,O)/\(q=true->b.length<=a.length):=by
 simp only[LB]at ha hb;rw[hC.go (NVs.hand (.cons (.str _) (.cons (.str _) .nil)) _)];by_cases h:b.length<=a.length
 ·have h1:((a.length:Int)>=(b.length:Int)):=by omega
  have h2:IntKind.i64.wrap ((a.length:Int)-b.length)=((a.length-b.length:Nat):Int):=wrE (by omega)
  have h3:(0:Int)<=((a.length-b.length:Nat):Int):=by omega
  have h4:a.length-b.length<=a.length/\a.length<=a.length:=by omega
  refine⟨decide (a.drop (a.length-b.length)=b),?_,fun _=>h⟩;simp only[apC,h1,h2,h3,h4,List.take_length,afU,Option.map_some,Option.map_none,Int.toNat_natCast,and_self,aX,EVX,seval]
 ·have h1:¬((a.length:Int)>=(b.length:Int)):=by omega
  refine⟨false,?_,fun hf=>by cases hf⟩
  simp only[apC,h1,aX,EVX,seval]
theorem apG(hC:Has C apD apE)(hS:Has C apF apC)(a b:LU)(ha:a.length<=LB)(hb:b.length<=LB)(O:St)(hσ:Ok O):∃(t:LU) (q:Bool),ai C apD [.str a,.str b] O=some (.tup [.str t,.bool q],O)/\t.length<=LB:=by
 obtain⟨q,e,hq⟩:=apH hS a b ha hb O hσ;rw[hC.go (NVs.hand (.cons (.str _) (.cons (.str _) .nil)) _)];cases q with
 |false=>
  refine⟨a,false,?_,ha⟩;simp only[apE,e,aX,EVX,seval]
 |true=>
  have h:=hq rfl;have ha':=ha;simp only[LB]at ha' hb;have h2:IntKind.i64.wrap ((a.length:Int)-b.length)=((a.length-b.length:Nat):Int):=wrE (by omega)
  have h3:(0:Int)<=((a.length-b.length:Nat):Int):=by omega
  have h4:a.length-b.length<=a.length:=by omega
  refine⟨(a.take (a.length-b.length)).drop 0,true,?_,by simp;omega⟩
  simp only[apE,e,h2,h3,h4,Nat.zero_le,Option.map_some,Option.map_none,Int.toNat_natCast,and_self,aX,EVX,seval]
theorem apI(PK:PkI)(hC:Has C apD apE)(hS:Has C apF apC):fC C PK apD (.pure [.strb,.strb] (.tup [.strb,.bool])):=
 sQ hC rfl fun xs hm=>by
  obtain⟨x,y,rfl,h1,h2⟩:=agL hm;obtain⟨a,rfl,ha⟩:=wO h1;obtain⟨b,rfl,hb⟩:=wO h2;intro O hσ;obtain⟨t,q,h,ht⟩:=apG hC hS a b ha hb O hσ;exact⟨_,h,.tup _ _ (.cons _ _ _ _ (.strb t ht) (.cons _ _ _ _ (.bool q) .nil))⟩
variable{PK:PkI}
theorem yK{f:FuncId}{args:List Sh}{res:Sh}(h:fC C PK f (.pure args res)){azs:LA}(hn:NVs azs)(hm:Mt V0 args azs){O:St}(hσ:Ok O):∃v,ai C f azs O=some (v,O)/\M V0 res v:=h O azs azs O hσ (hn.hand O) hσ hm
theorem II{V:Val}{k:IntKind}{v:AV}(h:M V (.int k) v):∃n,v=.int k n:=by cases h;exact⟨_,rfl⟩
theorem FC{V:Val}{v:AV}(h:M V .bool v):∃n,v=.bool n:=by cases h;exact⟨_,rfl⟩
def anI:List Int:=[0,31,59,90,120,151,181,212,243,273,304,334,365]
def bef:LA:=anI.map (.int .i64)
theorem aaX(i:Nat)(h:i<13):∃x,(bef.drop i).head? =some (.int .i64 x):=by
 unfold bef;rw[List.head?_drop,List.getElem?_map,List.getElem?_eq_getElem (show i<anI.length from h)];exact⟨_,rfl⟩
structure Qe(C:Ctx)(PK:PkI):Prop where
 days:Has C OV oQ
 read:Has C xW eu
 bef:C.gl qm=some bef
 leap:fC C PK OW (.pure [.int .i64] .bool)
 upTo:fC C PK Fe (.pure [.int .i64,.int .i64] .bool)
 start:fC C PK Ll (.pure [.int .i64] (.int .i64))
 digits:fC C PK BV (.pure [.strb] (.int .i64))
theorem afp(H:Qe C PK)(y m:Int)(O:St)(hσ:Ok O):∃d,ai C OV [.int .i64 y,.int .i64 m] O=some (.int .i64 d,O)/\(1<=d->1<=m/\m<=12):=by
 rw[H.days.go (NVs.hand (.cons (.int _ _) (.cons (.int _ _) .nil)) _)];by_cases h1:y<1970
 ·exact⟨0,by simp only[oQ,h1,aX,EVX,seval],by omega⟩
 by_cases h2:y>9999
 ·exact⟨0,by simp only[oQ,h1,h2,aX,EVX,seval],by omega⟩
 by_cases h3:m<1
 ·exact⟨0,by simp only[oQ,h1,h2,h3,aX,EVX,seval],by omega⟩
 by_cases h4:m>12
 ·exact⟨0,by simp only[oQ,h1,h2,h3,h4,aX,EVX,seval],by omega⟩
 have hb:=H.bef;have w1:IntKind.i64.wrap (m-1)=m-1:=wrE (by omega)
 have a1:0<=m:=by omega
 have a2:0<=m-1:=by omega
 have bl:bef.length=13:=rfl;have l1:m.toNat<13:=by omega
 have l2:(m-1).toNat<13:=by omega
 have l3:m.toNat<=bef.length:=by omega
 have l4:(m-1).toNat<=bef.length:=by omega
 obtain⟨x,hx⟩:=aaX m.toNat l1;obtain⟨z,hz⟩:=aaX (m-1).toNat l2;obtain⟨b,hl,hbm⟩:=yK H.leap (.cons (.int .i64 y) .nil) (.cons _ _ _ _ (.int _ _) .nil) hσ;obtain⟨b,rfl⟩:=FC hbm;have gv:∀E,avA C E (.g qm)=.eptr bef:=fun E=>by show AV.eptr ((C.gl qm).getD [])=_;rw[hb];rfl
 cases h5:(m==(2:Int))with
 |false=>
  refine⟨IntKind.i64.wrap (x-z),?_,by omega⟩
  simp only[oQ,h1,h2,h3,h4,h5,w1,a1,a2,l1,l2,l3,l4,hx,hz,gv,Option.map_some,and_self,aX,EVX,seval]
 |true=>
  cases b with
  |true=>
   refine⟨IntKind.i64.wrap (IntKind.i64.wrap (x-z)+1),?_,by omega⟩
   simp only[oQ,h1,h2,h3,h4,h5,w1,a1,a2,l1,l2,l3,l4,hx,hz,hl,gv,Option.map_some,and_self,aX,EVX,seval]
  |false=>
   refine⟨IntKind.i64.wrap (x-z),?_,by omega⟩
   simp only[oQ,h1,h2,h3,h4,h5,w1,a1,a2,l1,l2,l3,l4,hx,hz,hl,gv,Option.map_some,and_self,aX,EVX,seval]
def PB(Q:Prop)(v:AV):Prop:=∃b:Bool,v=.bool b/\(b=true->Q)
theorem PB.no{Q:Prop}:PB Q (.bool false):=⟨false,rfl,fun h=>by cases h⟩
theorem PB.yes{Q:Prop}(h:Q):PB Q (.bool true):=⟨true,rfl,fun _=>h⟩
structure Di(C:Ctx)(PK:PkI):Prop where
 proper:Has C Fb aH
 written:Has C Ep yC
 may:Has C OU kP
 May:Has C mQ OB
 valid:fC C PK xR (.pure [.strb] .bool)
 ascending:fC C PK mV (.pure [.slx [.strb]] .bool)
theorem UG(H:Di C PK)(s:LU)(O:St)(hσ:Ok O):∃b:Bool,ai C Ep [.str s] O=some (.bool b,O)/\(b=true->s.length<=4096):=by
 rw[H.written.go (NVs.hand (.cons (.str _) .nil) _)];by_cases h:(s.length:Int)<=4096
 ·obtain⟨v,h1,h2⟩:=yK H.valid (.cons (.str s) .nil) (.cons _ _ _ _ (.strb s (by simp only[LB];omega)) .nil) hσ
  obtain⟨b,rfl⟩:=FC h2;exact⟨b,by simp only[yC,h,h1,aX,EVX,seval],fun _=>by omega⟩
 ·exact⟨false,by simp only[yC,h,aX,EVX,seval],fun hf=>by cases hf⟩
theorem Un(ns:List LU)(i:Nat)(h:i<ns.length):(ns.map AV.str).drop i=.str ns[i]::(ns.map AV.str).drop (i+1):=by
 rw[List.drop_eq_getElem_cons (l:=ns.map AV.str) (by simpa using h),List.getElem_map]
theorem Py (H:Di C PK) (ns:List LU) (hn:ns.length<=8192) (O:St) (hσ:Ok O):∀(n i:Nat),i+n=ns.length->
  (aB C (ai C) 99 [89,90,91] dX [(89,.sl ns.length (ns.map .str)),(90,.int .i64 ns.length),(91,.int .i64 i)] O=some (.exit 1,[],O)/\∀x∈ns.drop i,x.length<=4096)\/
  aB C (ai C) 99 [89,90,91] dX [(89,.sl ns.length (ns.map .str)),(90,.int .i64 ns.length),(91,.int .i64 i)] O=some (.ret,[(2,.bool false)],O)
 |0,i,hi=>by
  left;refine⟨?_,by rw[List.drop_of_length_le (by omega)];simp⟩
  rw[aA (he:=rfl)];have h:¬((i:Int)<(ns.length:Int)):=by omega
  simp only[dX,h,EVX,seval]
 |n+1,i,hi=>by
  have h:((i:Int)<(ns.length:Int)):=by omega
  have h2:i<ns.length:=by omega
  have h3:(0:Int)<=i:=by omega
  have hw:=wrS i (by omega)
  have sl:(ns.map AV.str).length=ns.length:=by simp
  have dr:=Un ns i h2;have dn:ns.drop i=ns[i]::ns.drop (i+1):=List.drop_eq_getElem_cons h2;generalize ns[i]=x at dr dn;obtain⟨b,e,hb⟩:=UG H x O hσ;have ih:=Py H ns hn O hσ n (i+1) (by omega)
  cases b with
  |false=>
   right;rw[aA (he:=rfl)];simp only[dX,h,h2,h3,sl,dr,e,EVX,seval]
  |true=>
   rcases ih with⟨ih,hq⟩|ih
   ·left;refine⟨?_,fun y hy=>?_⟩
    ·rw[aA (he:=rfl)];generalize hk:aB C (ai C) 99 [89,90,91] dX=rest at*;simp only[dX,h,h2,h3,hw,sl,dr,e,ih,EVX,seval]
    ·rw[dn]at hy;rcases List.mem_cons.mp hy with rfl|hy
     ·exact hb rfl
     ·exact hq y hy
   ·right;rw[aA (he:=rfl)];generalize hk:aB C (ai C) 99 [89,90,91] dX=rest at*;simp only[dX,h,h2,h3,hw,sl,dr,e,ih,EVX,seval]
def Xd(k:Int)(t:LU)(ns:List LU)(is:List JV):Prop:=t.length<=4096/\(∀x∈ns,x.length<=4096)/\(k≠4->k≠5->is=[])
set_option maxHeartbeats 4000000 in
theorem af5(H:Di C PK)(k n:Int)(t:LU)(ns:List LU)(is:List JV)(h1:ns.length<=is.length)(h3:k=5->is.length<=ns.length)(h2:is.length<=8192)(h4:StB t ns)(O:St)(hσ:Ok O):∃v,ai C Fb [(JV.mk k n t ns is h1 h3 h2 h4).av] O=some (v,O)/\PB (Xd k t ns is) v:=by
 rw[H.proper.go (NVs.hand (.cons (JV.nv _) .nil) _)];have ty:=fun(q:Bool)=>df hσ (vs:=[.bool q]) rfl;have ca:(JV.mk k n t ns is h1 h3 h2 h4).av=.agg [.int .u8 k,.int .i64 n,.str t,.sl ns.length (ns.map .str),.sl is.length (aG is)]:=by unfold JV.av;rw[JV.mk_cs]
 have nt:∀{r:Option (AV×St)},r=some (.bool false,O)->∃v,r=some (v,O)/\PB (Xd k t ns is) v:=fun h=>⟨_,h,PB.no⟩;have yt:∀{r:Option (AV×St)},r=some (.bool true,O)->Xd k t ns is->∃v,r=some (v,O)/\PB (Xd k t ns is) v:=fun h g=>⟨_,h,PB.yes g⟩
 let B:Int->AO:=fun k=>.cells [.int .u8 k,.int .i64 n,.str t,.sl ns.length (ns.map .str),.sl is.length (aG is)] FZ
 have okB:∀k,Ok (O++[.cells [.int .u8 k,.int .i64 n,.str t,.sl ns.length (ns.map .str),.sl is.length (aG is)] FZ]):=fun k=>adW hσ (by simp[AO.below,ae,Ev.below,aK (Nat.zero_le _) _ (ny ns),aK (Nat.zero_le _) _ (fJ is)])
 have tB:t=[]->t.length<=4096:=fun h=>by rw[h];simp
 have nB:¬(ns.length:Int)>0->ns=[]:=fun h=>List.eq_nil_of_length_eq_zero (by omega)
 have nD:¬(is.length:Int)>0->is=[]:=fun h=>List.eq_nil_of_length_eq_zero (by omega)
 have sl:(ns.map AV.str).length=ns.length:=by simp
 by_cases hk:k=1
 ·subst hk;cases hT:decide (t=[])with
  |false=>exact nt (by simp only[aH,ca,hT,AV.cells,Bool.not_false,jA,ty,EVX,seval])
  |true=>
  have ht:t=[]:=by simpa using hT
  by_cases hC:(ns.length:Int)>0
  ·exact nt (by simp only[aH,ca,hT,hC,bH,AV.cells,decide_true,Bool.not_true,Bool.not_false,jA,ty,EVX,seval])
  have hns:=nB hC;by_cases hD:(is.length:Int)>0
  ·exact nt (by simp only[aH,ca,hT,hC,hD,bH,AV.cells,decide_true,decide_false,Bool.not_true,Bool.not_false,jA,ty,EVX,seval])
  cases h0:(n==0)with
  |true=>exact yt (by simp only[aH,ca,hT,hC,hD,h0,bH,AV.cells,decide_false,Bool.not_true,Bool.not_false,jA,ty,EVX,seval]) ⟨tB ht,by rw[hns];simp,fun _ _=>nD hD⟩
  |false=>
  cases h1':(n==1)with
  |true=>exact yt (by simp only[aH,ca,hT,hC,hD,h0,h1',bH,AV.cells,decide_false,Bool.not_true,Bool.not_false,jA,ty,EVX,seval]) ⟨tB ht,by rw[hns];simp,fun _ _=>nD hD⟩
  |false=>exact nt (by simp only[aH,ca,hT,hC,hD,h0,h1',bH,AV.cells,decide_false,Bool.not_true,Bool.not_false,jA,ty,EVX,seval])
 by_cases hk:k=2
 ·subst hk;cases hT:decide (t=[])with
  |false=>exact nt (by simp only[aH,ca,hT,AV.cells,Bool.not_false,jA,ty,EVX,seval])
  |true=>
  have ht:t=[]:=by simpa using hT
  by_cases hC:(ns.length:Int)>0
  ·exact nt (by simp only[aH,ca,hT,hC,bH,AV.cells,decide_true,Bool.not_true,Bool.not_false,jA,ty,EVX,seval])
  have hns:=nB hC;by_cases hD:(is.length:Int)>0
  ·exact nt (by simp only[aH,ca,hT,hC,hD,bH,AV.cells,decide_true,decide_false,Bool.not_true,Bool.not_false,jA,ty,EVX,seval])
  exact yt (by simp only[aH,ca,hT,hC,hD,bH,AV.cells,decide_false,Bool.not_true,Bool.not_false,jA,ty,EVX,seval]) ⟨tB ht,by rw[hns];simp,fun _ _=>nD hD⟩
 by_cases hk:k=3
 ·subst hk;cases hN:(n !=0)with
  |true=>exact nt (by simp only[aH,ca,hN,AV.cells,Bool.not_true,ty,EVX,seval])
  |false=>
  by_cases hC:(ns.length:Int)>0
  ·exact nt (by simp only[aH,ca,hN,hC,bH,AV.cells,decide_true,Bool.not_true,Bool.not_false,ty,EVX,seval])
  have hns:=nB hC;by_cases hD:(is.length:Int)>0
  ·exact nt (by simp only[aH,ca,hN,hC,hD,bH,AV.cells,decide_true,decide_false,Bool.not_false,ty,EVX,seval])
  obtain⟨bw,ew,hw⟩:=UG H t _ (okB 3);cases bw with
  |true=>exact yt (by simp only[aH,ca,hN,hC,hD,ew,bH,AV.cells,decide_false,Bool.not_false,ty,EVX,seval]) ⟨hw rfl,by rw[hns];simp,fun _ _=>nD hD⟩
  |false=>exact nt (by simp only[aH,ca,hN,hC,hD,ew,bH,AV.cells,decide_false,Bool.not_false,ty,EVX,seval])
 by_cases hk:k=4
 ·subst hk;cases hN:(n !=0)with
  |true=>exact nt (by simp only[aH,ca,hN,AV.cells,Bool.not_true,ty,EVX,seval])
  |false=>
  cases hT:decide (t=[])with
  |false=>exact nt (by simp only[aH,ca,hN,hT,AV.cells,Bool.not_false,jA,ty,EVX,seval])
  |true=>
  have ht:t=[]:=by simpa using hT
  by_cases hC:(ns.length:Int)>0
  ·exact nt (by simp only[aH,ca,hN,hT,hC,bH,AV.cells,decide_true,Bool.not_true,Bool.not_false,jA,ty,EVX,seval])
  have hns:=nB hC;exact yt (by simp only[aH,ca,hN,hT,hC,bH,AV.cells,decide_false,Bool.not_true,Bool.not_false,jA,ty,EVX,seval]) ⟨tB ht,by rw[hns];simp,fun h _=>absurd rfl h⟩
 by_cases hk:k=5
 ·subst hk;cases hN:(n !=0)with
  |true=>exact nt (by simp only[aH,ca,hN,AV.cells,Bool.not_true,ty,EVX,seval])
  |false=>
  cases hT:decide (t=[])with
  |false=>exact nt (by simp only[aH,ca,hN,hT,AV.cells,Bool.not_false,jA,ty,EVX,seval])
  |true=>
  have ht:t=[]:=by simpa using hT
  cases hL:((ns.length:Int) !=is.length)with
  |true=>exact nt (by simp only[aH,ca,hN,hT,hL,bH,AV.cells,Bool.not_true,Bool.not_false,jA,ty,EVX,seval])
  |false=>
  obtain⟨va,ea,hva⟩:=yK H.ascending (.cons (.sl ns.length (ny ns)) .nil) (.cons _ _ _ _ (by
   obtain⟨rs,r1,r2,r3⟩:=Ua (V:=V0) ns h4.ns;rw[<-r1,<-r2];exact .slx _ rs (by rw[r1];simp only[LS];omega) r3) .nil) (okB 5)
  obtain⟨ba,rfl⟩:=FC hva;cases ba with
  |false=>exact nt (by simp only[aH,ca,hN,hT,hL,ea,bH,AV.cells,Bool.not_true,Bool.not_false,jA,ty,EVX,seval])
  |true=>
  have lp:=Py H ns (by omega) _ (okB 5) ns.length 0 (by omega)
  simp only[Int.cast_ofNat_Int,List.drop_zero]at lp;rcases lp with⟨lp,hq⟩|lp
  ·exact yt (by simp only[aH,ca,hN,hT,hL,ea,lp,bH,AV.cells,Bool.not_true,Bool.not_false,jA,ty,EVX,seval]) ⟨tB ht,hq,fun _ h=>absurd rfl h⟩
  ·exact nt (by simp only[aH,ca,hN,hT,hL,ea,lp,bH,AV.cells,Bool.not_true,Bool.not_false,jA,ty,EVX,seval])
 have k1:(k !=1)=true:=by simpa using‹¬k=1›
 have q1:(k==1)=false:=by simpa using‹¬k=1›
 have k2:(k !=2)=true:=by simpa using‹¬k=2›
 have q2:(k==2)=false:=by simpa using‹¬k=2›
 have k3:(k !=3)=true:=by simpa using‹¬k=3›
 have q3:(k==3)=false:=by simpa using‹¬k=3›
 have k4:(k !=4)=true:=by simpa using‹¬k=4›
 have q4:(k==4)=false:=by simpa using‹¬k=4›
 have k5:(k !=5)=true:=by simpa using‹¬k=5›
 have q5:(k==5)=false:=by simpa using‹¬k=5›
 cases hN:(n !=0)with
 |true=>exact nt (by simp only[aH,ca,k1,k2,hN,AV.cells,Bool.not_true,ty,EVX,seval])
 |false=>
 cases hT:decide (t=[])with
 |false=>exact nt (by simp only[aH,ca,k1,k2,k3,hN,hT,AV.cells,Bool.not_false,jA,ty,EVX,seval])
 |true=>
 by_cases hC:(ns.length:Int)>0
 ·exact nt (by simp only[aH,ca,k1,k2,k3,k5,hN,hT,hC,bH,AV.cells,decide_true,Bool.not_true,Bool.not_false,jA,ty,EVX,seval])
 by_cases hD:(is.length:Int)>0
 ·exact nt (by simp only[aH,ca,k1,k2,k3,k4,k5,hN,hT,hC,hD,bH,AV.cells,decide_true,decide_false,Bool.not_true,Bool.not_false,jA,ty,EVX,seval])
 exact nt (by simp only[aH,ca,k1,k2,k3,k4,k5,q1,q2,q3,q4,q5,hN,hT,hC,hD,bH,AV.cells,decide_false,Bool.not_true,Bool.not_false,jA,ty,EVX,seval])
mutual
def JW.cnt:JW->Nat
 |.mk _ _ _ _ is=>Ie is+1
def Ie:List JW->Nat
 |[]=>0
 |j::l=>j.cnt+Ie l
end
mutual
def JW.Good:JW->Prop
 |.mk k n t ns is=>(t.length<=4096/\(∀x∈ns,x.length<=4096)/\(k≠4->k≠5->is=[]))/\SG is
def SG:List JW->Prop
 |[]=>True
 |j::l=>j.Good/\SG l
end
def vK(L:Int):AO:=.cells [.int .i64 L] FZ
def alq(C:Ctx)(j:JV):Prop:=∀(nested L:Int) (O:St) (o:Nat),Ok O->0<=L->L<=8192->O[o]?=some (vK L)->∃(b:Bool) (L':Int),ai C OU [j.av,.int .i64 nested,.ref o 0] O=some (.bool b,O.set o (vK L'))/\(b=true->0<=L'/\(j.w.cnt:Int)+L'<=L/\j.w.Good)
theorem ZX (is:List JV) (hn:is.length<=8192) (IH:∀j∈is,alq C j) (nested:Int) (o:Nat) (O:St) (ho:o<O.length):∀(n i:Nat),i+n=is.length->∀(L:Int) (Y:St),Ok Y->0<=L->L<=8192->O.length<=Y.length->Y.take O.length=O.set o (vK L)->
  ∃(L':Int) (Y':St),Y'.take O.length=O.set o (vK L')/\
  ((aB C (ai C) 47 [1,2,34,35,36] iM [(1,.int .i64 nested),(2,.ref o 0),(34,.sl is.length (aG is)),(35,.int .i64 is.length),(36,.int .i64 i)] Y=some (.exit 0,[],Y')/\0<=L'/\(Ie ((is.drop i).map (·.w)):Int)+L'<=L/\SG ((is.drop i).map (·.w)))\/
   aB C (ai C) 47 [1,2,34,35,36] iM [(1,.int .i64 nested),(2,.ref o 0),(34,.sl is.length (aG is)),(35,.int .i64 is.length),(36,.int .i64 i)] Y=some (.ret,[(6,.bool false)],Y'))
 |0,i,hi,L,Y,hτ,h0,h8,hl,ht=>by
  refine⟨L,Y,ht,.inl ⟨?_,h0,?_,?_⟩⟩
  ·rw[aA (he:=rfl)];have h:¬((i:Int)<(is.length:Int)):=by omega
   simp only[iM,h,EVX,seval]
  ·rw[List.drop_of_length_le (by omega)]
   simp[Ie]
  ·rw[List.drop_of_length_le (by omega)]
   trivial
 |n+1,i,hi,L,Y,hτ,h0,h8,hl,ht=>by
  have h:((i:Int)<(is.length:Int)):=by omega
  have h2:i<is.length:=by omega
  have w2:=wrS i (by omega)
  have p2:(0:Int)<=(i:Int):=by omega
  have d2:=uG is i h2;have sl:=iZ is;have hj:is[i]∈is:=List.getElem_mem h2;have dn:is.drop i=is[i]::is.drop (i+1):=List.drop_eq_getElem_cons h2;generalize is[i]=j at*;generalize aG (is.drop (i+1))=R at*;have jl:=JV.len j;have jf:=JV.flat j;have jt:(j.cs++R).take 5=j.cs:=by rw[<-jl];simp
  have je:5<=(j.cs++R).length:=by simp[jl]
  have jt':j.cs.take 5=j.cs:=List.take_of_length_le (by rw[JV.len];exact Nat.le_refl _)
  have je':5<=j.cs.length:=by rw[JV.len];exact Nat.le_refl _
  have sp:∀a b c d e:AV,splice [a,b,c,d,e] 0 j.cs=j.cs:=fun a b c d e=>by simp[splice,jl]
  have ok1:Ok (Y++[.cells j.cs FZ]):=hτ.plus (by rw[List.all_cons,show AO.below 0 (.cells j.cs FZ)=true from j.bel];rfl)
  have hL:Y[o]?=some (vK L):=by
   have:(Y.take O.length)[o]?=some (vK L):=by rw[ht];simp[ho]
   rw[List.getElem?_take]at this;rwa[if_pos ho]at this
  obtain⟨b,L',q,hq⟩:=IH j hj (IntKind.i64.wrap (nested-1)) L _ o ok1 h0 h8 (aF hL _);rw[eF hL]at q;have t2:(Y.set o (vK L')++[AO.cells j.cs FZ]:St).take O.length=O.set o (vK L'):=by
   rw[oN _ _ _ (by simpa using hl),List.take_set,ht,List.set_set]
  have g1:=fun L=>fH (show Y.length=Y.length from rfl) L;have s1:=fun L y=>pV (show Y.length=Y.length from rfl) L y;unfold JV.av at q;cases b with
  |false=>
   refine⟨L',_,t2,.inr ?_⟩;rw[aA (he:=rfl)];simp only[iM,h,h2,p2,d2,sl,q,g1,s1,jl,jf,jt,je,jt',sp,Int.toNat_natCast,AV.cells,EVX,seval]
  |true=>
   obtain⟨q1,q2,q3⟩:=hq rfl;obtain⟨L2,Y',e1,e2⟩:=ZX is hn IH nested o O ho n (i+1) (by omega) L' _ ((hτ.set o rfl).plus (by rw[List.all_cons,show AO.below 0 (.cells j.cs FZ)=true from j.bel];rfl)) q1 (by omega) (by simp;omega) t2
   refine⟨L2,Y',e1,?_⟩;have hs:∀r,aB C (ai C) 47 [1,2,34,35,36] iM [(1,.int .i64 nested),(2,.ref o 0),(34,.sl is.length (aG is)),(35,.int .i64 is.length),(36,.int .i64 (i+1:Nat))] (Y.set o (vK L')++[AO.cells j.cs FZ])=r->aB C (ai C) 47 [1,2,34,35,36] iM [(1,.int .i64 nested),(2,.ref o 0),(34,.sl is.length (aG is)),(35,.int .i64 is.length),(36,.int .i64 i)] Y=r:=fun r e=>by
    rw[aA (he:=rfl)];generalize hk:aB C (ai C) 47 [1,2,34,35,36] iM=kk at*;simp only[iM,h,h2,w2,p2,d2,sl,q,g1,s1,e,jl,jf,jt,je,jt',sp,Int.toNat_natCast,AV.cells,EVX,seval]
   rcases e2 with⟨e2,e3,e4,e5⟩|e2
   ·refine .inl ⟨hs _ e2,e3,?_,?_⟩
    ·rw[dn,List.map_cons,Ie];omega
    ·rw[dn,List.map_cons];exact⟨q3,e5⟩
   ·exact .inr (hs _ e2)
theorem JV.mk_lt(k n:Int)(t:LU)(ns:List LU)(is:List JV)(h1:ns.length<=is.length)(h3:k=5->is.length<=ns.length)(h2:is.length<=8192)(h4:StB t ns)(x:JV)(hx:x∈is):SizeOf.sizeOf x.w<SizeOf.sizeOf (JV.mk k n t ns is h1 h3 h2 h4).w:=by
 show SizeOf.sizeOf x.w<SizeOf.sizeOf (JW.mk k n t ns (is.map (·.w)));have:SizeOf.sizeOf x.w<SizeOf.sizeOf (is.map (·.w)):=List.sizeOf_lt_of_mem (List.mem_map_of_mem hx);simp;omega
theorem Nv(H:Di C PK):∀(m:Nat) (j:JV),SizeOf.sizeOf j.w<m->alq C j
 |0,j,hm=>absurd hm (by omega)
 |m+1,j,hm=>by
  intro nested L O o hσ h0 h8 hL;obtain⟨k,n,t,ns,is,h1,h3,h2,h4,rfl⟩:=j.ex;have IH:∀x∈is,alq C x:=fun x hx=>Nv H m x (by have:=JV.mk_lt k n t ns is h1 h3 h2 h4 x hx;omega)
  have ho:o<O.length:=(List.getElem?_eq_some_iff.mp hL).1;have w1:IntKind.i64.wrap (L-1)=L-1:=wrE (by omega)
  have hn:hand false [(JV.mk k n t ns is h1 h3 h2 h4).av,.int .i64 nested,.ref o 0] O=some ([(JV.mk k n t ns is h1 h3 h2 h4).av,.int .i64 nested,.ref o 0],O):=by
   rw[sN,aP,(JV.nv _).nf,aP,aP];rfl
  have okp:Ok (O.set o (vK (L-1))++[.cells (JV.mk k n t ns is h1 h3 h2 h4).cs FZ]):=(hσ.set o rfl).plus (by rw[List.all_cons,show AO.below 0 (.cells (JV.mk k n t ns is h1 h3 h2 h4).cs FZ)=true from JV.bel _];rfl)
  obtain⟨v,pe,pb⟩:=af5 H k n t ns is h1 h3 h2 h4 _ okp;have ty:=fun(q:Bool) L' L=>Gf hσ o (x:=vK L') rfl [.bool q] rfl L;have ca:(JV.mk k n t ns is h1 h3 h2 h4).av=.agg [.int .u8 k,.int .i64 n,.str t,.sl ns.length (ns.map .str),.sl is.length (aG is)]:=by unfold JV.av;rw[JV.mk_cs]
  have gl:=fun L' L=>aF (bM hL (vK L')) L;have g0:=fun L=>aF hL L;have p0:=fun L y=>eF hL L y;have tk:=fun(q:Bool) S L' (h:List.take O.length S=O.set o (vK L'))=>wY (vs:=[.bool q]) hσ (x:=vK L') rfl rfl h;have lp:=ZX is h2 IH nested o O ho is.length 0 (by omega) (L-1)
  rw[JV.mk_cs]at okp;rw[ca,JV.mk_cs]at pe;rw[ca]at hn;rw[ca,H.may.go hn];have tp:(O.set o (vK (L-1))++[AO.cells [.int .u8 k,.int .i64 n,.str t,.sl ns.length (ns.map .str),.sl is.length (aG is)] FZ]:St).take O.length=O.set o (vK (L-1)):=by
   rw[List.take_append_of_le_length (by simp),List.take_of_length_le (by simp)]
  dsimp only[vK]at*;by_cases hz:L-1<0
  ·exact⟨false,L-1,by simp only[kP,hz,w1,g0,p0,gl,ty,AV.cells,AV.flat,splice,EVX,seval],fun h=>by cases h⟩
  obtain⟨b,rfl,hb⟩:=pb;cases b with
  |false=>exact⟨false,L-1,by simp only[kP,hz,pe,w1,g0,p0,gl,ty,AV.cells,AV.flat,splice,jG,EVX,seval],fun h=>by cases h⟩
  |true=>
  obtain⟨b1,b2,b3⟩:=hb rfl;have gd:∀(c:Nat),SG (is.map (·.w))->Ie (is.map (·.w))=c->(JV.mk k n t ns is h1 h3 h2 h4).w.cnt=c+1/\(JV.mk k n t ns is h1 h3 h2 h4).w.Good:=fun c hg hc=>by
   refine⟨?_,⟨b1,b2,fun x y=>?_⟩,hg⟩
   ·show Ie (is.map (·.w))+1=_;rw[hc]
   ·rw[b3 x y];rfl
  have fin:k≠4->k≠5->0<=L-1/\((JV.mk k n t ns is h1 h3 h2 h4).w.cnt:Int)+(L-1)<=L/\(JV.mk k n t ns is h1 h3 h2 h4).w.Good:=fun x y=>by
   obtain⟨e1,e2⟩:=gd 0 (by rw[b3 x y];trivial) (by rw[b3 x y];rfl)
   rw[e1];exact⟨by omega,by omega,e2⟩
  by_cases k4:k=4
  ·subst k4;cases hN:(nested==0)with
   |true=>exact⟨false,L-1,by simp only[kP,hz,pe,hN,w1,g0,p0,gl,ty,AV.cells,AV.flat,splice,jG,EVX,seval],fun h=>by cases h⟩
   |false=>
   obtain⟨L2,Y',t',q⟩:=lp _ okp (by omega) (by omega) (by simp) tp
   simp only[Int.cast_ofNat_Int,List.drop_zero]at q;rcases q with⟨q,q1,q2,q3⟩|q
   ·have tq:=tk true _ _ t';obtain⟨e1,e2⟩:=gd _ q3 rfl;refine⟨true,L2,by simp only[kP,hz,pe,hN,q,tq,w1,g0,p0,gl,AV.cells,AV.flat,splice,jG,EVX,seval],fun _=>⟨q1,by rw[e1];omega,e2⟩⟩
   ·have tq:=tk false _ _ t';exact⟨false,L2,by simp only[kP,hz,pe,hN,q,tq,w1,g0,p0,gl,AV.cells,AV.flat,splice,jG,EVX,seval],fun h=>by cases h⟩
  by_cases k5:k=5
  ·subst k5;cases hN:(nested==0)with
   |true=>exact⟨false,L-1,by simp only[kP,hz,pe,hN,w1,g0,p0,gl,ty,AV.cells,AV.flat,splice,jG,EVX,seval],fun h=>by cases h⟩
   |false=>
   obtain⟨L2,Y',t',q⟩:=lp _ okp (by omega) (by omega) (by simp) tp
   simp only[Int.cast_ofNat_Int,List.drop_zero]at q;rcases q with⟨q,q1,q2,q3⟩|q
   ·have tq:=tk true _ _ t';obtain⟨e1,e2⟩:=gd _ q3 rfl;refine⟨true,L2,by simp only[kP,hz,pe,hN,q,tq,w1,g0,p0,gl,AV.cells,AV.flat,splice,jG,EVX,seval],fun _=>⟨q1,by rw[e1];omega,e2⟩⟩
   ·have tq:=tk false _ _ t';exact⟨false,L2,by simp only[kP,hz,pe,hN,q,tq,w1,g0,p0,gl,AV.cells,AV.flat,splice,jG,EVX,seval],fun h=>by cases h⟩
  have n4:(k !=4)=true:=by simpa using k4
  have n5:(k !=5)=true:=by simpa using k5
  exact⟨true,L-1,by simp only[kP,hz,pe,n4,n5,w1,g0,p0,gl,ty,AV.cells,AV.flat,splice,jG,EVX,seval],fun _=>fin k4 k5⟩
theorem Nu(H:Di C PK)(j:JV)(O:St)(hσ:Ok O):∃b:Bool,ai C mQ [j.av] O=some (.bool b,O)/\(b=true->j.w.cnt<=8192/\j.w.Good):=by
 have ok1:Ok (O++[.cells j.cs FZ,vK 8192]):=hσ.plus (by rw[List.all_cons,show AO.below 0 (.cells j.cs FZ)=true from j.bel];rfl)
 obtain⟨b,L',q,hq⟩:=Nv H _ j (Nat.lt_succ_self _) 12 8192 _ (O.length+1) ok1 (by omega) (by omega) (by rw[dW];rfl)
 refine⟨b,?_,fun h=>?_⟩
 ·have hn:hand false [j.av] O=some ([j.av],O):=NVs.hand (.cons j.nv .nil) _;have ty:=fun(q:Bool)=>df hσ (vs:=[.bool q]) rfl;have jl:=JV.len j;have jt':j.cs.take 5=j.cs:=List.take_of_length_le (by rw[JV.len];exact Nat.le_refl _)
  have je':5<=j.cs.length:=by rw[JV.len];exact Nat.le_refl _
  unfold JV.av at*;dsimp only[vK]at*;rw[H.May.go hn];simp only[OB,q,jl,jt',ty,AV.cells,splice,EVX,seval]
 ·obtain⟨h1,h2,h3⟩:=hq h;exact⟨by omega,h3⟩
def bT:Fz:=⟨false,some (248,true)⟩
def uT:Fz:=⟨false,some (5,false)⟩
structure BldHas(C:Ctx):Prop where
 copy0:∀(O:St) (o:Nat) (b:AV),O[o]?=some (.cells [.nilp,b] bT)->ai C iJ [.ref o 0] O=some (.undef,O.set o (.cells [.ref o 0,b] bT))
 copy1:∀(O:St) (o:Nat) (b:AV),O[o]?=some (.cells [.ref o 0,b] bT)->ai C iJ [.ref o 0] O=some (.undef,O)
 str0:∀(O:St) (o:Nat) (p:AV),O[o]?=some (.cells [p,.nils] bT)->ai C fV [.ref o 0] O=some (.str [],O)
 str1:∀(O:St) (o q:Nat) (p:AV) (w:LU),O[o]?=some (.cells [p,.msl q 0 w.length 1] bT)->O[q]?=some (.cells (ofBytes w) uT)->w≠[]->w.length<=1099511627776->ai C fV [.ref o 0] O=some (.str w,O.set q .dead)
 wstr:Has C oW jM
 wbyte:Has C eH qx
def Bk(Y:St)(o:Nat)(w:LU)(qo:Option Nat):Prop:=∃p b,Y[o]?=some (.cells [p,b] bT)/\(p=.nilp\/p=.ref o 0)/\((qo=none/\w=[]/\b=.nils)\/∃q,qo=some q/\q≠o/\w≠[]/\b=.msl q 0 w.length 1/\Y[q]?=some (.cells (ofBytes w) uT))
structure TrB(o:Nat)(Y:St)(qo:Option Nat)(Y':St)(qo':Option Nat):Prop where
 ok:Ok Y'
 len:Y.length<=Y'.length
 old:∀i x,i≠o->qo≠some i->Y[i]?=some x->Y'[i]?=some x
 q:∀i,qo'=some i->qo=some i\/Y.length<=i
theorem TrB.refl{o:Nat}{Y:St}{qo:Option Nat}(h:Ok Y):TrB o Y qo Y qo:=⟨h,Nat.le_refl _,fun _ _ _ _ h=>h,fun _ h=>.inl h⟩
theorem TrB.trans{o:Nat}{Y Y1 Y2:St}{qo q1 q2:Option Nat}(h:TrB o Y qo Y1 q1)(k:TrB o Y1 q1 Y2 q2):TrB o Y qo Y2 q2 where
 ok:=k.ok
 len:=Nat.le_trans h.len k.len
 old:=fun i x hi hq hx=>k.old i x hi (fun e=>by
  rcases h.q i e with e|e
  ·exact hq e
  ·have:=(List.getElem?_eq_some_iff.mp hx).1;omega) (h.old i x hi hq hx)
 q:=fun i e=>by
  rcases k.q i e with e|e
  ·exact h.q i e
  ·have:=h.len;exact .inr (by omega)
theorem TrB.plus{o:Nat}{Y:St}{qo:Option Nat}(h:Ok Y){L:St}(hL:L.all (AO.below (Y.length+L.length))=true):TrB o Y qo (Y++L) qo:=⟨h.app hL,by simp,fun _ _ _ _ hx=>aF hx L,fun _ e=>.inl e⟩
theorem Bk.plus{o:Nat}{Y:St}{qo:Option Nat}{w:LU}(h:Bk Y o w qo)(L:St):Bk (Y++L) o w qo:=by
 obtain⟨p,b,h1,h2,h3⟩:=h;refine⟨p,b,aF h1 L,h2,?_⟩;rcases h3 with h3|⟨q,e1,e2,e3,e4,e5⟩
 ·exact .inl h3
 ·exact .inr ⟨q,e1,e2,e3,e4,aF e5 L⟩
theorem Bk.lt{o:Nat}{Y:St}{qo:Option Nat}{w:LU}(h:Bk Y o w qo):o<Y.length:=by
 obtain⟨p,b,h1,h2,h3⟩:=h;exact(List.getElem?_eq_some_iff.mp h1).1
theorem Bk.qlt{o:Nat}{Y:St}{qo:Option Nat}{w:LU}(h:Bk Y o w qo){i:Nat}(e:qo=some i):i<Y.length:=by
 obtain⟨p,b,h1,h2,h3⟩:=h;rcases h3 with⟨h3,_⟩|⟨q,e1,e2,e3,e4,e5⟩
 ·rw[h3]at e;cases e
 ·rw[e1]at e;cases e;exact(List.getElem?_eq_some_iff.mp e5).1
theorem Qz{o:Nat}{Y S:St}{qo qo':Option Nat}{w:LU}(vs:LA)(ho:o<Y.length)(h:TrB o Y qo S qo')(b:Bk S o w qo'):TrB o Y qo (tidy Y.length vs S) qo'/\Bk (tidy Y.length vs S) o w qo':=by
 unfold tidy;split
 ·exact⟨h,b⟩
 split
 ·rename_i hc;rw[Bool.and_eq_true]at hc;have hl:(S.take Y.length).length=Y.length:=by
   have:=h.len;simp;omega
  have hg:∀i,i<Y.length->(S.take Y.length)[i]?=S[i]?:=fun i hi=>by rw[List.getElem?_take,if_pos hi]
  obtain⟨p,c,h1,h2,h3⟩:=b;refine⟨⟨?_,by rw[hl];exact Nat.le_refl _,fun i x hi hq hx=>?_,h.q⟩,p,c,by rw[hg _ ho];exact h1,h2,?_⟩
  ·unfold Ok;rw[hl];exact hc.2
  ·rw[hg _ (List.getElem?_eq_some_iff.mp hx).1];exact h.old i x hi hq hx
  ·rcases h3 with h3|⟨q,e1,e2,e3,e4,e5⟩
   ·exact .inl h3
   ·refine .inr ⟨q,e1,e2,e3,e4,?_⟩;have hb:=List.all_eq_true.mp hc.2 (.cells [p,c] bT) (List.mem_of_getElem? (by rw[hg _ ho];exact h1))
    have:q<Y.length:=by
     rw[e4]at hb;simp only[AO.below,ae,below,Bool.and_eq_true,decide_eq_true_eq]at hb;exact hb.2.1
    rw[hg _ this];exact e5
 ·exact⟨h,b⟩
theorem acH(H:BldHas C){o:Nat}{Y:St}{w:LU}{qo:Option Nat}(hτ:Ok Y)(hb:Bk Y o w qo):∃b Y1,ai C iJ [.ref o 0] Y=some (.undef,Y1)/\Y1[o]?=some (.cells [.ref o 0,b] bT)/\Y1.length=Y.length/\Ok Y1/\(∀i x,i≠o->Y[i]?=some x->Y1[i]?=some x)/\((qo=none/\w=[]/\b=.nils)\/∃q,qo=some q/\q≠o/\w≠[]/\b=.msl q 0 w.length 1/\Y1[q]?=some (.cells (ofBytes w) uT)):=by
 have ho:=hb.lt;obtain⟨p,b,h1,h2,h3⟩:=hb;rcases h2 with rfl|rfl
 ·refine⟨b,_,H.copy0 Y o b h1,bM h1 _,by simp,?_,fun i x hi hx=>aI hx hi _,?_⟩
  ·refine hτ.set2 o ?_;have:=List.all_eq_true.mp hτ _ (List.mem_of_getElem? h1);simp only[AO.below,ae,below,Bool.and_true,Bool.and_eq_true,decide_eq_true_eq]at this⊢;exact⟨ho,this.2⟩
  ·rcases h3 with h3|⟨q,e1,e2,e3,e4,e5⟩
   ·exact .inl h3
   ·exact .inr ⟨q,e1,e2,e3,e4,aI e5 e2 _⟩
 ·exact⟨b,Y,H.copy1 Y o b h1,h1,rfl,hτ,fun _ _ _ h=>h,h3⟩
theorem afO {o:Nat} {Y:St} {w cs:LU} {b:AV} {qo:Option Nat} (hτ:Ok Y) (h0:Y[o]?=some (.cells [.ref o 0,b] bT)) (h3:(qo=none/\w=[]/\b=.nils)\/∃q,qo=some q/\q≠o/\w≠[]/\b=.msl q 0 w.length 1/\Y[q]?=some (.cells (ofBytes w) uT)) (hc:cs≠[]) (hl:w.length+cs.length<=1099511627776):
  ∃S:St,qV Y 1 1 (some (5,false)) b cs.length (ofBytes cs)=some (.msl Y.length 0 (w++cs).length 1,S++[.cells (ofBytes (w++cs)) uT])/\S.length=Y.length/\S[o]?=some (.cells [.ref o 0,b] bT)/\(∀i x,qo≠some i->Y[i]?=some x->S[i]?=some x)/\Ok S:=by
 have hm:¬cs.length=0:=fun e=>hc (List.eq_nil_of_length_eq_zero e);rcases h3 with⟨rfl,rfl,rfl⟩|⟨q,rfl,e2,e3,rfl,e5⟩
 ·refine⟨Y,?_,rfl,h0,fun _ _ _ h=>h,hτ⟩;rw[Dj _ _ (ofBytes cs) hm (by simp at hl;omega) (by simp at hl;omega)]
  rfl
 ·refine⟨Y.set q .dead,?_,by simp,aI h0 (fun e=>e2 e.symm) _,fun i x hi hx=>aI hx (fun e=>hi (by rw[e])) _,hτ.set2 q rfl⟩
  unfold qV;rw[if_neg hm];simp only[e5];rw[if_pos ⟨trivial,by rw[au];omega,by omega,by omega⟩,FK,List.length_append]
  rfl
theorem CZ (H:BldHas C) {o:Nat} {Y:St} {w:LU} {qo:Option Nat} (s:LU) (hτ:Ok Y) (hb:Bk Y o w qo) (hl:w.length+s.length<=1099511627776):
  ∃Y' qo',ai C oW [.ref o 0,.str s] Y=some (.tup [.int .i64 s.length,.nilIface],Y')/\Bk Y' o (w++s) qo'/\TrB o Y qo Y' qo':=by
 have ho:=hb.lt;obtain⟨b,Y1,c1,c2,c3,c4,c5,c6⟩:=acH H hτ hb;have hn:hand false [.ref o 0,.str s] Y=some ([.ref o 0,.str s],Y):=rfl;rw[H.wstr.go hn];by_cases hs:s=[]
 ·subst hs;have an:qV Y1 1 1 (some (5,false)) b 0 []=some (b,Y1):=by
   rcases c6 with⟨_,_,rfl⟩|⟨q,_,_,_,rfl,_⟩<;>rfl
  have ty:=CY Y1 [.int .i64 0,.nilIface];rw[c3]at ty;have ss:=set_self c2;have fb:b.flat=true:=by rcases c6 with⟨_,_,rfl⟩|⟨q,_,_,_,rfl,_⟩<;>rfl
  refine⟨Y1,qo,?_,?_,c4,by rw[c3];exact Nat.le_refl _,fun i x hi _ hx=>c5 i x hi hx,fun i e=>.inl e⟩
  ·dsimp only[bT]at*;rcases c6 with⟨_,_,rfl⟩|⟨q,_,_,_,rfl,_⟩<;>simp only[jM,c1,c2,an,ty,ss,splice,ofBytes,List.map_nil,List.length_nil,AV.flat,AV.cells,EVX,seval]
  ·rw[List.append_nil];exact⟨_,b,c2,.inr rfl,c6⟩
 ·obtain⟨S,a1,a2,a3,a4,a5⟩:=afO c4 c2 c6 hs hl;have fl:=rE s;rw[c3]at a1;have sp:=fun L y=>eF a3 L y;have sg:=fun L=>aF a3 L;have okS:Ok (S.set o (.cells [.ref o 0,.msl Y.length 0 (w++s).length 1] bT)++[.cells (ofBytes (w++s)) uT]):=by
   have:=(Ok.app a5 (l:=[.cells (ofBytes (w++s)) uT]) (by simp[AO.below,iT])).set2 o (x:=.cells [.ref o 0,.msl Y.length 0 (w++s).length 1] bT) (by
    simp only[AO.below,ae,below,Bool.and_true,Bool.and_eq_true,decide_eq_true_eq,List.length_append,List.length_cons,List.length_nil];omega)
   rwa[sp]at this
  have bkS:Bk (S.set o (.cells [.ref o 0,.msl Y.length 0 (w++s).length 1] bT)++[.cells (ofBytes (w++s)) uT]) o (w++s) (some Y.length):=by
   refine⟨_,_,aF (bM a3 _) _,.inr rfl,.inr ⟨_,rfl,by omega,by simp[hs],rfl,?_⟩⟩
   rw[fH (by simp[a2,c3])];rfl
  have trS:TrB o Y qo (S.set o (.cells [.ref o 0,.msl Y.length 0 (w++s).length 1] bT)++[.cells (ofBytes (w++s)) uT]) (some Y.length):=by
   refine⟨okS,by simp[a2,c3],fun i x hi hq hx=>aF (aI (a4 i x hq (c5 i x hi hx)) hi _) _,fun i e=>.inr ?_⟩
   cases e;exact Nat.le_refl _
  obtain⟨t1,t2⟩:=Qz [.int .i64 s.length,.nilIface] ho trS bkS;refine⟨_,_,?_,t2,t1⟩;dsimp only[bT,uT]at*;simp only[jM,c1,c2,a1,sp,sg,fl,splice,AV.flat,AV.cells,EVX,seval]
theorem rG (H:BldHas C) {o:Nat} {Y:St} {w:LU} {qo:Option Nat} (c:UInt8) (hτ:Ok Y) (hb:Bk Y o w qo) (hl:w.length+1<=1099511627776):
  ∃Y' qo',ai C eH [.ref o 0,.int .u8 c.toNat] Y=some (.nilIface,Y')/\Bk Y' o (w++[c]) qo'/\TrB o Y qo Y' qo':=by
 have ho:=hb.lt;obtain⟨b,Y1,c1,c2,c3,c4,c5,c6⟩:=acH H hτ hb;have hn:hand false [.ref o 0,.int .u8 c.toNat] Y=some ([.ref o 0,.int .u8 c.toNat],Y):=rfl;rw[H.wbyte.go hn];obtain⟨S,a1,a2,a3,a4,a5⟩:=afO (cs:=[c]) c4 c2 c6 (by simp) hl
 rw[c3]at a1;have sp:=fun L y=>eF a3 L y;have sg:=fun L=>aF a3 L;have okS:Ok (S.set o (.cells [.ref o 0,.msl Y.length 0 (w++[c]).length 1] bT)++[.cells (ofBytes (w++[c])) uT]):=by
  have:=(Ok.app a5 (l:=[.cells (ofBytes (w++[c])) uT]) (by simp[AO.below,iT])).set2 o (x:=.cells [.ref o 0,.msl Y.length 0 (w++[c]).length 1] bT) (by
   simp only[AO.below,ae,below,Bool.and_true,Bool.and_eq_true,decide_eq_true_eq,List.length_append,List.length_cons,List.length_nil];omega)
  rwa[sp]at this
 have bkS:Bk (S.set o (.cells [.ref o 0,.msl Y.length 0 (w++[c]).length 1] bT)++[.cells (ofBytes (w++[c])) uT]) o (w++[c]) (some Y.length):=by
  refine⟨_,_,aF (bM a3 _) _,.inr rfl,.inr ⟨_,rfl,by omega,by simp,rfl,?_⟩⟩
  rw[fH (by simp[a2,c3])];rfl
 have trS:TrB o Y qo (S.set o (.cells [.ref o 0,.msl Y.length 0 (w++[c]).length 1] bT)++[.cells (ofBytes (w++[c])) uT]) (some Y.length):=by
  refine⟨okS,by simp[a2,c3],fun i x hi hq hx=>aF (aI (a4 i x hq (c5 i x hi hx)) hi _) _,fun i e=>.inr ?_⟩
  cases e;exact Nat.le_refl _
 obtain⟨t1,t2⟩:=Qz [.nilIface] ho trS bkS;refine⟨_,_,?_,t2,t1⟩;have o1:ofBytes [c]=[.int .u8 c.toNat]:=rfl;have l1:[c].length=1:=rfl;dsimp only[bT,uT]at*;rw[o1,l1]at a1;simp only[qx,c1,c2,a1,sp,sg,splice,AV.flat,AV.cells,EVX,seval]
structure I7(C:Ctx):Prop extends BldHas C where
 quote:∀s:LU,s.length<=4096->∀O,Ok O->∃(q:LU) (e:Int),ai C BR [.str s] O=some (.tup [.str q,.int .i64 e],O)/\q.length<=65536
 num:∀n O,Ok O->∃s:LU,ai C Jn [.int .i64 n] O=some (.str s,O)/\s.length<=64
 enc:Has C dR uO
 enc1:Has C qX Ci
 enc2:Has C oC gY
theorem Zh (H:I7 C) {o:Nat} {Y:St} {w:LU} {qo:Option Nat} (s:LU) (hs:s.length<=4096) (hτ:Ok Y) (hb:Bk Y o w qo) (hl:w.length+65536<=1099511627776):
  ∃Y' w' qo',ai C qX [.str s,.ref o 0] Y=some (bi [],Y')/\Bk Y' o w' qo'/\TrB o Y qo Y' qo'/\w'.length<=w.length+65536:=by
 obtain⟨q,e,q1,q2⟩:=H.quote s hs Y hτ;obtain⟨S,q',r1,r2,r3⟩:=CZ H.toBldHas q hτ hb (by omega)
 have hn:hand false [.str s,.ref o 0] Y=some ([.str s,.ref o 0],Y):=rfl;obtain⟨t1,t2⟩:=Qz [] hb.lt r3 r2;refine⟨_,_,q',?_,t2,t1,by rw[List.length_append];omega⟩
 rw[H.enc1.go hn];simp only[Ci,q1,r1,EVX,seval]
structure WE(o a b:Nat)(Y:St)(qo:Option Nat):Prop where
 na:a≠o
 nb:b≠o
 qa:qo≠some a
 qb:qo≠some b
 ca:Y[a]?=some (.cells [.func (.func qX) [] [.ref o 0]] FZ)
 cb:Y[b]?=some (.cells [.func (.func oC) [] [.ref o 0,.ref a 0,.ref b 0]] FZ)
theorem TrB.qn{o i:Nat}{Y Y':St}{qo qo':Option Nat}(t:TrB o Y qo Y' qo')(hi:i<Y.length)(h:qo≠some i):qo'≠some i:=fun e=>by
 rcases t.q _ e with e|e
 ·exact h e
 ·omega
theorem WE.step{o a b:Nat}{Y Y':St}{qo qo':Option Nat}(h:WE o a b Y qo)(t:TrB o Y qo Y' qo'):WE o a b Y' qo':=
 ⟨h.na,h.nb,t.qn (List.getElem?_eq_some_iff.mp h.ca).1 h.qa,t.qn (List.getElem?_eq_some_iff.mp h.cb).1 h.qb,t.old _ _ h.na h.qa h.ca,t.old _ _ h.nb h.qb h.cb⟩
def aiX(C:Ctx)(j:JV):Prop:=∀(o a b:Nat) (Y:St) (w:LU) (qo:Option Nat),Ok Y->Bk Y o w qo->WE o a b Y qo->j.w.Good->w.length+j.w.cnt*131076<=1099511627776+65538->
 ∃Y' w' qo',ai C oC [j.av,.ref o 0,.ref a 0,.ref b 0] Y=some (bi [],Y')/\Bk Y' o w' qo'/\TrB o Y qo Y' qo'/\w'.length+65538<=w.length+j.w.cnt*131076
theorem acP:∀j:JW,1<=j.cnt
 |.mk _ _ _ _ is=>by
  show 1<=Ie is+1;omega
theorem Zg (H:I7 C) (is:List JV) (hn:is.length<=8192) (IH:∀j∈is,aiX C j) (o a b:Nat):∀(n i:Nat),i+n=is.length->∀(Y:St) (w:LU) (qo:Option Nat),Ok Y->Bk Y o w qo->WE o a b Y qo->SG ((is.drop i).map (·.w))->w.length+Ie ((is.drop i).map (·.w))*131076<=1099511627776->
  ∃Y' w' qo',aB C (ai C) 76 [1,3,34,35,36] eQ [(1,.ref o 0),(3,.ref b 0),(34,.sl is.length (aG is)),(35,.int .i64 is.length),(36,.int .i64 i)] Y=some (.exit 1,[(1,.ref o 0)],Y')/\Bk Y' o w' qo'/\TrB o Y qo Y' qo'/\w'.length<=w.length+Ie ((is.drop i).map (·.w))*131076
 |0,i,hi,Y,w,qo,hτ,hb,hw,hg,hl=>by
  refine⟨Y,w,qo,?_,hb,.refl hτ,by omega⟩
  rw[aA (he:=rfl)];have h:¬((i:Int)<(is.length:Int)):=by omega
  simp only[eQ,h,EVX,seval]
 |n+1,i,hi,Y,w,qo,hτ,hb,hw,hg,hl=>by
  have h:((i:Int)<(is.length:Int)):=by omega
  have h2:i<is.length:=by omega
  have w2:=wrS i (by omega)
  have p2:(0:Int)<=(i:Int):=by omega
  have d2:=uG is i h2;have sl:=iZ is;have hj:is[i]∈is:=List.getElem_mem h2;have dn:is.drop i=is[i]::is.drop (i+1):=List.drop_eq_getElem_cons h2;generalize is[i]=j at*;generalize aG (is.drop (i+1))=R at*;rw[dn,List.map_cons]at hg hl⊢;obtain⟨g1,g2⟩:=hg;rw[Ie]at hl⊢;have cp:=acP j.w;have jl:=JV.len j;have jf:=JV.flat j;have jt:(j.cs++R).take 5=j.cs:=by rw[<-jl];simp
  have je:5<=(j.cs++R).length:=by simp[jl]
  have jt':j.cs.take 5=j.cs:=List.take_of_length_le (by rw[JV.len];exact Nat.le_refl _)
  have je':5<=j.cs.length:=by rw[JV.len];exact Nat.le_refl _
  have sp:∀a b c d e:AV,splice [a,b,c,d,e] 0 j.cs=j.cs:=fun a b c d e=>by simp[splice,jl]
  have hL:([.cells j.cs FZ]:St).all (AO.below (Y.length+1))=true:=by
   simp only[List.all_cons,List.all_nil,Bool.and_true,AO.below];exact aK (Nat.zero_le _) _ j.bel
  have tr1:=TrB.plus (o:=o) (qo:=qo) hτ hL;have bk1:=hb.plus [.cells j.cs FZ];have we1:=hw.step tr1;have bx1:(Y++[AO.cells j.cs FZ]:St)[Y.length]?=some (.cells j.cs FZ):=by rw[fH rfl];rfl
  have s1:=fun L y=>pV (show Y.length=Y.length from rfl) L y;have ne:Y.length≠o:=by have:=hb.lt;omega
  have nq:qo≠some Y.length:=fun e=>by have:=hb.qlt e;omega
  have key:∃Y2 w2 q2,(if 0<(i:Int)then ai C eH [.ref o 0,.int .u8 44] (Y++[AO.cells j.cs FZ])=some (.nilIface,Y2)else Y2=Y++[AO.cells j.cs FZ])/\Bk Y2 o w2 q2/\TrB o (Y++[AO.cells j.cs FZ]) qo Y2 q2/\w2.length<=w.length+1:=by
   split
   ·obtain⟨Y2,q2,e1,e2,e3⟩:=rG H.toBldHas 44 tr1.ok bk1 (by omega)
    exact⟨Y2,_,q2,e1,e2,e3,by simp⟩
   ·exact⟨_,w,qo,rfl,bk1,.refl tr1.ok,by omega⟩
  obtain⟨Y2,w2',q2,k1,k2,k3,k4⟩:=key;have we2:=we1.step k3;have bx2:=k3.old _ _ ne nq bx1;obtain⟨Y3,w3,q3,e1,e2,e3,e4⟩:=IH j hj o a b Y2 w2' q2 k3.ok k2 we2 g1 (by omega)
  have we3:=we2.step e3;obtain⟨Y4,w4,q4,f1,f2,f3,f4⟩:=Zg H is hn IH o a b n (i+1) (by omega) Y3 w3 q3 e3.ok e2 we3 g2 (by omega)
  refine⟨Y4,w4,q4,?_,f2,((tr1.trans k3).trans e3).trans f3,by omega⟩
  have cb:=we2.cb;unfold JV.av at e1;rw[aA (he:=rfl)];generalize hk:aB C (ai C) 76 [1,3,34,35,36] eQ=kk at*;by_cases hz:0<(i:Int)
  ·rw[if_pos hz]at k1;simp only[eQ,h,h2,w2,p2,d2,sl,hz,k1,e1,f1,cb,bx2,s1,jl,jf,jt,je,jt',sp,jk,Int.toNat_natCast,AV.cells,EVX,seval]
  ·rw[if_neg hz]at k1;subst k1;simp only[eQ,h,h2,w2,p2,d2,sl,hz,e1,f1,cb,bx1,s1,jl,jf,jt,je,jt',sp,jk,Int.toNat_natCast,AV.cells,EVX,seval]
theorem acV (H:I7 C) (is:List JV) (ns:List LU) (hns:ns.length=is.length) (hnb:∀x∈ns,x.length<=4096) (hn:is.length<=8192) (IH:∀j∈is,aiX C j) (c0 c1 c2:AV) (o a b v0:Nat) (hv:v0≠o):∀(n i:Nat),i+n=is.length->∀(Y:St) (w:LU) (qo:Option Nat),Ok Y->Bk Y o w qo->WE o a b Y qo->qo≠some v0->Y[v0]?=some (.cells [c0,c1,c2,.sl ns.length (ns.map .str),.sl is.length (aG is)] FZ)->SG ((is.drop i).map (·.w))->w.length+Ie ((is.drop i).map (·.w))*131076<=1099511627776->
  ∃Y' w' qo',aB C (ai C) 76 [1,2,3,4,53,54,55] gK [(1,.ref o 0),(2,.ref a 0),(3,.ref b 0),(4,.ref v0 0),(53,.sl is.length (aG is)),(54,.int .i64 is.length),(55,.int .i64 i)] Y=some (.exit 3,[(1,.ref o 0)],Y')/\Bk Y' o w' qo'/\TrB o Y qo Y' qo'/\w'.length<=w.length+Ie ((is.drop i).map (·.w))*131076
 |0,i,hi,Y,w,qo,hτ,hb,hw,_,_,hg,hl=>by
  refine⟨Y,w,qo,?_,hb,.refl hτ,by omega⟩
  rw[aA (he:=rfl)];have h:¬((i:Int)<(is.length:Int)):=by omega
  simp only[gK,h,EVX,seval]
 |n+1,i,hi,Y,w,qo,hτ,hb,hw,qv,hv0,hg,hl=>by
  have h:((i:Int)<(is.length:Int)):=by omega
  have h2:i<is.length:=by omega
  have h2n:i<ns.length:=by omega
  have w2:=wrS i (by omega)
  have p2:(0:Int)<=(i:Int):=by omega
  have d2:=uG is i h2;have dr:=Un ns i h2n;have sl:=iZ is;have sn:(ns.map AV.str).length=ns.length:=by simp
  have hj:is[i]∈is:=List.getElem_mem h2;have hx:ns[i].length<=4096:=hnb _ (List.getElem_mem h2n);have dn:is.drop i=is[i]::is.drop (i+1):=List.drop_eq_getElem_cons h2;generalize is[i]=j at*;generalize ns[i]=x at*;generalize hR:aG (is.drop (i+1))=R at*;rw[dn,List.map_cons]at hg hl⊢;obtain⟨g1,g2⟩:=hg;rw[Ie]at hl⊢;have cp:=acP j.w;have jl:=JV.len j;have jf:=JV.flat j;have jt:(j.cs++R).take 5=j.cs:=by rw[<-jl];simp
  have je:5<=(j.cs++R).length:=by simp[jl]
  have jt':j.cs.take 5=j.cs:=List.take_of_length_le (by rw[JV.len];exact Nat.le_refl _)
  have je':5<=j.cs.length:=by rw[JV.len];exact Nat.le_refl _
  have sp:∀a b c d e:AV,splice [a,b,c,d,e] 0 j.cs=j.cs:=fun a b c d e=>by simp[splice,jl]
  have hL:([.cells j.cs FZ]:St).all (AO.below (Y.length+1))=true:=by
   simp only[List.all_cons,List.all_nil,Bool.and_true,AO.below];exact aK (Nat.zero_le _) _ j.bel
  have tr1:=TrB.plus (o:=o) (qo:=qo) hτ hL;have bk1:=hb.plus [.cells j.cs FZ];have we1:=hw.step tr1;have bx1:(Y++[AO.cells j.cs FZ]:St)[Y.length]?=some (.cells j.cs FZ):=by rw[fH rfl];rfl
  have s1:=fun L y=>pV (show Y.length=Y.length from rfl) L y;have ne:Y.length≠o:=by have:=hb.lt;omega
  have nq:qo≠some Y.length:=fun e=>by have:=hb.qlt e;omega
  have vl:v0<Y.length:=(List.getElem?_eq_some_iff.mp hv0).1;have key:∃Y2 w2 q2,(if 0<(i:Int)then ai C eH [.ref o 0,.int .u8 44] (Y++[AO.cells j.cs FZ])=some (.nilIface,Y2)else Y2=Y++[AO.cells j.cs FZ])/\Bk Y2 o w2 q2/\TrB o (Y++[AO.cells j.cs FZ]) qo Y2 q2/\w2.length<=w.length+1:=by
   split
   ·obtain⟨Y2,q2,e1,e2,e3⟩:=rG H.toBldHas 44 tr1.ok bk1 (by omega)
    exact⟨Y2,_,q2,e1,e2,e3,by simp⟩
   ·exact⟨_,w,qo,rfl,bk1,.refl tr1.ok,by omega⟩
  obtain⟨Y2,w2',q2,k1,k2,k3,k4⟩:=key;have we2:=we1.step k3;obtain⟨Y3,w3,q3,t1,t2,t3,t4⟩:=Zh H x hx k3.ok k2 (by omega)
  have we3:=we2.step t3;obtain⟨Y4,q4,u1,u2,u3⟩:=rG H.toBldHas 58 t3.ok t2 (by omega)
  have we4:=we3.step u3;have T4:=(k3.trans t3).trans u3;have bx4:=T4.old _ _ ne nq bx1;have v2:=k3.old _ _ hv qv (tr1.old _ _ hv qv hv0);have qv4:=T4.qn (by simp;omega) qv
  have v4:=T4.old _ _ hv qv (tr1.old _ _ hv qv hv0);obtain⟨Y5,w5,q5,e1,e2,e3,e4⟩:=IH j hj o a b Y4 _ q4 u3.ok u2 we4 g1 (by rw[List.length_append,List.length_cons,List.length_nil];omega)
  rw[List.length_append,List.length_cons,List.length_nil]at e4;have we5:=we4.step e3;have v5:=e3.old _ _ hv qv4 v4;have qv5:=e3.qn (List.getElem?_eq_some_iff.mp v4).1 qv4;obtain⟨Y6,w6,q6,f1,f2,f3,f4⟩:=acV H is ns hns hnb hn IH c0 c1 c2 o a b v0 hv n (i+1) (by omega) Y5 w5 q5 e3.ok e2 we5 qv5 v5 g2 (by omega)
  refine⟨Y6,w6,q6,?_,f2,((tr1.trans T4).trans e3).trans f3,by omega⟩
  have ca:=we2.ca;have cb:=we4.cb;have q58:((58:UInt8).toNat:Int)=58:=rfl;rw[q58]at u1;unfold JV.av at e1;rw[aA (he:=rfl)];generalize hk:aB C (ai C) 76 [1,2,3,4,53,54,55] gK=kk at*;by_cases hz:0<(i:Int)
  ·rw[if_pos hz]at k1;simp only[gK,h,h2,h2n,w2,p2,d2,dr,sl,sn,hz,k1,t1,u1,e1,f1,ca,cb,bx4,v2,s1,jl,jf,jt,je,jt',sp,jk,Int.toNat_natCast,AV.cells,EVX,seval]
  ·rw[if_neg hz]at k1;subst k1;simp only[gK,h,h2,h2n,w2,p2,d2,dr,sl,sn,hz,t1,u1,e1,f1,ca,cb,bx4,v2,s1,jl,jf,jt,je,jt',sp,jk,Int.toNat_natCast,AV.cells,EVX,seval]
set_option maxHeartbeats 1000000 in
theorem Vq(H:I7 C):∀(m:Nat) (j:JV),SizeOf.sizeOf j.w<m->aiX C j
 |0,j,hm=>absurd hm (by omega)
 |m+1,j,hm=>by
  intro o a b Y w qo hτ hb hw hg hl;obtain⟨k,n,t,ns,is,h1,h3,h2,h4,rfl⟩:=j.ex;have IH:∀x∈is,aiX C x:=fun x hx=>Vq H m x (by have:=JV.mk_lt k n t ns is h1 h3 h2 h4 x hx;omega)
  have ho:=hb.lt;have hn:hand false [(JV.mk k n t ns is h1 h3 h2 h4).av,.ref o 0,.ref a 0,.ref b 0] Y=some ([(JV.mk k n t ns is h1 h3 h2 h4).av,.ref o 0,.ref a 0,.ref b 0],Y):=by
   rw[sN,aP,(JV.nv _).nf,aP,aP,aP];rfl
  have ca:(JV.mk k n t ns is h1 h3 h2 h4).av=.agg [.int .u8 k,.int .i64 n,.str t,.sl ns.length (ns.map .str),.sl is.length (aG is)]:=by unfold JV.av;rw[JV.mk_cs]
  obtain⟨⟨g1,g2,g3⟩,g4⟩:(t.length<=4096/\(∀x∈ns,x.length<=4096)/\(k≠4->k≠5->is.map (fun x:JV=>x.w)=[]))/\SG (is.map fun x:JV=>x.w):=hg;have ct:(JV.mk k n t ns is h1 h3 h2 h4).w.cnt=Ie (is.map (·.w))+1:=rfl;rw[ct]at hl⊢;have hL:([.cells [.int .u8 k,.int .i64 n,.str t,.sl ns.length (ns.map .str),.sl is.length (aG is)] FZ]:St).all (AO.below (Y.length+1))=true:=by
   have:=aK (Nat.zero_le (Y.length+1)) _ (JV.bel (JV.mk k n t ns is h1 h3 h2 h4));rw[JV.mk_cs]at this;simp only[List.all_cons,List.all_nil,Bool.and_true,AO.below];exact this
  have tr1:=TrB.plus (o:=o) (qo:=qo) hτ hL;have bk1:=hb.plus [.cells [.int .u8 k,.int .i64 n,.str t,.sl ns.length (ns.map .str),.sl is.length (aG is)] FZ];have we1:=hw.step tr1;have bx:(Y++[AO.cells [.int .u8 k,.int .i64 n,.str t,.sl ns.length (ns.map .str),.sl is.length (aG is)] FZ]:St)[Y.length]?=some (.cells [.int .u8 k,.int .i64 n,.str t,.sl ns.length (ns.map .str),.sl is.length (aG is)] FZ):=by rw[fH rfl];rfl
  have s1:=fun L y=>pV (show Y.length=Y.length from rfl) L y;have ne:Y.length≠o:=by omega
  have nq:qo≠some Y.length:=fun e=>by have:=hb.qlt e;omega
  have gv:=we1.ca;suffices hh:∃(S:St) (w':LU) (q':Option Nat),Bk S o w' q'/\TrB o (Y++[.cells [.int .u8 k,.int .i64 n,.str t,.sl ns.length (ns.map .str),.sl is.length (aG is)] FZ]) qo S q'/\w'.length+65538<=w.length+(Ie (is.map fun x:JV=>x.w)+1)*131076/\ai C oC [(JV.mk k n t ns is h1 h3 h2 h4).av,.ref o 0,.ref a 0,.ref b 0] Y=some (bi [],tidy Y.length [] S) by
   obtain⟨S,w',q',x1,x2,x3,x4⟩:=hh;obtain⟨y1,y2⟩:=Qz [] ho (tr1.trans x2) x1;exact⟨_,_,_,x4,y2,y1,x3⟩
  rw[ca]at hn⊢;rw[H.enc2.go hn];by_cases k1:k=1
  ·subst k1;cases hN:(n==1)with
   |true=>
    obtain⟨S,q',r1,r2,r3⟩:=CZ H.toBldHas [116,114,117,101] tr1.ok bk1 (by simp;omega)
    exact⟨S,_,q',r2,r3,by simp;omega,by simp only[gY,hN,r1,bx,AV.cells,EVX,seval]⟩
   |false=>
    obtain⟨S,q',r1,r2,r3⟩:=CZ H.toBldHas [102,97,108,115,101] tr1.ok bk1 (by simp;omega)
    exact⟨S,_,q',r2,r3,by simp;omega,by simp only[gY,hN,r1,bx,AV.cells,EVX,seval]⟩
  by_cases k2:k=2
  ·subst k2;obtain⟨x,x1,x2⟩:=H.num n _ tr1.ok;obtain⟨S,q',r1,r2,r3⟩:=CZ H.toBldHas x tr1.ok bk1 (by omega)
   exact⟨S,_,q',r2,r3,by simp;omega,by simp only[gY,x1,r1,bx,AV.cells,EVX,seval]⟩
  by_cases k3:k=3
  ·subst k3;obtain⟨S,w',q',r1,r2,r3,r4⟩:=Zh H t g1 tr1.ok bk1 (by omega)
   exact⟨S,w',q',r2,r3,by omega,by simp only[gY,r1,gv,bx,jk,AV.cells,List.cons_append,EVX,seval]⟩
  by_cases k4:k=4
  ·subst k4;obtain⟨S1,q1,r1,r2,r3⟩:=rG H.toBldHas 91 tr1.ok bk1 (by omega)
   obtain⟨S2,w2,q2,e1,e2,e3,e4⟩:=Zg H is h2 IH o a b is.length 0 (by omega) S1 _ q1 r3.ok r2 (we1.step r3) g4 (by rw[List.length_append,List.length_cons,List.length_nil,List.drop_zero];omega)
   obtain⟨S3,q3,f1,f2,f3⟩:=rG H.toBldHas 93 e3.ok e2 (by rw[List.length_append,List.length_cons,List.length_nil,List.drop_zero]at e4;omega)
   rw[List.length_append,List.length_cons,List.length_nil,List.drop_zero]at e4;have bx1:=r3.old _ _ ne nq bx;rw[show(((91:UInt8).toNat:Nat):Int)=91 from rfl]at r1;rw[show(((93:UInt8).toNat:Nat):Int)=93 from rfl]at f1;simp only[Int.cast_ofNat_Int]at e1;exact⟨S3,_,q3,f2,(r3.trans e3).trans f3,by rw[List.length_append,List.length_cons,List.length_nil];omega,by simp only[gY,r1,e1,f1,bx1,bx,AV.cells,bH,EVX,seval]⟩
  by_cases k5:k=5
  ·subst k5;have h5:=h3 rfl;obtain⟨S1,q1,r1,r2,r3⟩:=rG H.toBldHas 123 tr1.ok bk1 (by omega)
   have bx1:=r3.old _ _ ne nq bx;obtain⟨S2,w2,q2,e1,e2,e3,e4⟩:=acV H is ns (by omega) g2 h2 IH _ _ _ o a b Y.length ne is.length 0 (by omega) S1 _ q1 r3.ok r2 (we1.step r3) (r3.qn (by simp) nq) bx1 g4 (by rw[List.length_append,List.length_cons,List.length_nil,List.drop_zero];omega)
   rw[List.length_append,List.length_cons,List.length_nil,List.drop_zero]at e4;obtain⟨S3,q3,f1,f2,f3⟩:=rG H.toBldHas 125 e3.ok e2 (by omega)
   rw[show(((123:UInt8).toNat:Nat):Int)=123 from rfl]at r1;rw[show(((125:UInt8).toNat:Nat):Int)=125 from rfl]at f1;simp only[Int.cast_ofNat_Int]at e1;exact⟨S3,_,q3,f2,(r3.trans e3).trans f3,by rw[List.length_append,List.length_cons,List.length_nil];omega,by simp only[gY,r1,e1,f1,bx1,bx,AV.cells,bH,EVX,seval]⟩
  have n1:(k==1)=false:=by simpa using k1
  have n2:(k==2)=false:=by simpa using k2
  have n3:(k==3)=false:=by simpa using k3
  have n4:(k==4)=false:=by simpa using k4
  have n5:(k==5)=false:=by simpa using k5
  exact⟨_,w,qo,bk1,.refl tr1.ok,by omega,by simp only[gY,n1,n2,n3,n4,n5,bx,AV.cells,EVX,seval]⟩
theorem TrB.take{o n:Nat}{O Y S:St}{q':Option Nat}(h:TrB o Y none S q')(hn:n=O.length)(ht:Y.take n=O)(ho:n<=o):S.take n=O:=by
 subst hn;apply List.ext_getElem?;intro i;rw[List.getElem?_take];split
 ·rename_i hi;have h1:(Y.take O.length)[i]?=some O[i]:=by rw[ht];exact List.getElem?_eq_getElem hi
  rw[List.getElem?_take,if_pos hi]at h1;rw[h.old i _ (by omega) (fun e=>by cases e) h1,List.getElem?_eq_getElem hi]
 ·rw[List.getElem?_eq_none (by omega)]
theorem PW(H:I7 C)(V:Di C PK)(j:JV)(O:St)(hσ:Ok O):∃(s:LU) (e:Int),ai C dR [j.av] O=some (.tup [.str s,.int .i64 e],O)/\s.length<=LB:=by
 have hn:hand false [j.av] O=some ([j.av],O):=NVs.hand (.cons j.nv .nil) _;have ok1:Ok (O++[.cells j.cs FZ]):=hσ.plus (by rw[List.all_cons,show AO.below 0 (.cells j.cs FZ)=true from j.bel];rfl)
 obtain⟨b,m1,m2⟩:=Nu V j _ ok1;have ty:=fun(s:LU) (e:Int)=>df hσ (vs:=[.str s,.int .i64 e]) rfl;have jl:=JV.len j;have jt':j.cs.take 5=j.cs:=List.take_of_length_le (by rw[JV.len];exact Nat.le_refl _)
 have je':5<=j.cs.length:=by rw[JV.len];exact Nat.le_refl _
 cases b with
 |false=>
  refine⟨[],3,?_,lb0⟩;unfold JV.av at*;rw[H.enc.go hn];simp only[uO,m1,jl,jt',ty,AV.cells,EVX,seval]
 |true=>
  obtain⟨c1,c2⟩:=m2 rfl
  let B:St:=[.cells j.cs FZ,.cells [.nilp,.nils] bT,.cells [.func (.func qX) [] [.ref (O.length+1) 0]] FZ,.cells [.func (.func oC) [] [.ref (O.length+1) 0,.ref (O.length+2) 0,.ref (O.length+3) 0]] FZ]
  have okB:Ok (O++B):=hσ.app (by
   have:=aK (Nat.zero_le (O.length+4)) _ j.bel;simp[B,AO.below,ae,below,this])
  have bk:Bk (O++B) (O.length+1) [] none:=⟨.nilp,.nils,by rw[dW];rfl,.inl rfl,.inl ⟨rfl,rfl,rfl⟩⟩
  have we:WE (O.length+1) (O.length+2) (O.length+3) (O++B) none:=⟨by omega,by omega,by simp,by simp,by rw[dW];rfl,by rw[dW];rfl⟩
  obtain⟨S,w,q',e1,e2,e3,e4⟩:=Vq H _ j (Nat.lt_succ_self _) (O.length+1) (O.length+2) (O.length+3) _ [] none okB bk we c2 (by simp only[List.length_nil];omega)
  simp only[List.length_nil]at e4;have tk:S.take O.length=O:=e3.take rfl (by simp) (by omega)
  have fin:∃S',ai C fV [.ref (O.length+1) 0] S=some (.str w,S')/\S'.take O.length=O:=by
   obtain⟨p,c,x1,x2,x3⟩:=e2;rcases x3 with⟨_,rfl,rfl⟩|⟨q,x3,x4,x5,rfl,x6⟩
   ·exact⟨S,H.str0 _ _ _ x1,tk⟩
   ·refine⟨_,H.str1 _ _ _ _ _ x1 x6 x5 (by omega),?_⟩
    rcases e3.q q x3 with h|h
    ·cases h
    ·have lB:(O++B).length=O.length+4:=by simp[B]
     rw[cZ _ _ _ (by omega),tk]
  obtain⟨S',s1,s2⟩:=fin;have tq:=yA (vs:=[.str w,.int .i64 0]) hσ rfl s2;refine⟨w,0,?_,by simp only[LB];omega⟩
  dsimp only[B,bT]at e1;unfold JV.av at*;rw[H.enc.go hn];simp only[uO,m1,e1,s1,tq,jl,jt',jk,AV.cells,AV.flat,splice,EVX,seval]
structure Xe(C:Ctx):Prop extends CopyHas C where
 clone:∀xs:List EL,xs≠[]->xs.length<=8192->∀O,Ok O->ai C dw [.sl xs.length (jE xs)] O=some (.msl O.length 0 xs.length 6,O++[.cells (jE xs) FZ])
 srt:Qd C ji Bh
 of:Has C qg sK
def Bf(Y:St)(lo n sz:Nat)(l:LA)(x:AV):Prop:=(n=0/\x=.nils)\/(0<n/\∃q,x=.msl q 0 n sz/\Y[q]?=some (.cells l FZ)/\lo<=q)
theorem Bf.same{Y:St}{lo n sz:Nat}{l:LA}{x:AV}(h:Bf Y lo n sz l x):same x x=true:=by
 rcases h with⟨_,rfl⟩|⟨_,q,rfl,_⟩
 ·rfl
 ·exact aam ..
theorem Bf.flat{Y:St}{lo n sz:Nat}{l:LA}{x:AV}(h:Bf Y lo n sz l x):x.flat=true:=by
 rcases h with⟨_,rfl⟩|⟨_,q,rfl,_⟩<;>rfl
theorem Bf.mono{Y Y':St}{lo n sz:Nat}{l:LA}{x:AV}(h:Bf Y lo n sz l x)(k:∀q w,lo<=q->x=.msl q 0 n sz->Y[q]?=some w->Y'[q]?=some w):Bf Y' lo n sz l x:=by
 rcases h with h|⟨h0,q,e,h1,h2⟩
 ·exact .inl h
 ·exact .inr ⟨h0,q,e,k q _ h2 e h1,h2⟩
theorem afG {Y:St} {lo n sz bytes:Nat} {l:LA} {x:AV} (cs:LA) (h:Bf Y lo n sz l x) (hl:l.length=n*sz) (hb:(n+1)*bytes<=70368744177664) (hn:n+1<=70368744177664) (hok:Ok Y):
  ∃S:St,qV Y sz bytes none x 1 cs=some (.msl Y.length 0 (n+1) sz,S++[.cells (l++cs) FZ])/\S.length=Y.length/\(∀i w,x≠ .msl i 0 n sz\/i<lo->Y[i]?=some w->S[i]?=some w)/\Ok S:=by
 rcases h with⟨rfl,rfl⟩|⟨h0,q,rfl,h1,h2⟩
 ·refine⟨Y,?_,rfl,fun _ _ _ h=>h,hok⟩;have:l=[]:=List.eq_nil_of_length_eq_zero (by omega)
  subst this;rw[Dj _ none cs (by omega) (by omega) (by omega)]
  rfl
 ·refine⟨Y.set q .dead,?_,by simp,fun i w hi h=>aI h (by
   rcases hi with hi|hi
   ·exact fun e=>hi (by rw[e])
   ·omega) _,hok.set2 _ rfl⟩
  exact NF cs h1 (by omega) hl hb hn
structure OI(O:St)(xs:List EL)(i:Nat)(x1 x2:AV)(Y:St):Prop where
 ok:Ok Y
 res:Y[O.length]?=some ni
 row:Y[O.length+1]?=some (.cells (jE xs) FZ)
 v:Y[O.length+2]?=some (.cells [.int .u8 5,.int .i64 0,.str [],x1,x2] FZ)
 a1:Bf Y (O.length+3) i 1 (lH (xs.take i)) x1
 a2:Bf Y (O.length+3) i 5 (vT (xs.take i)) x2
 ne:∀q,x1=.msl q 0 i 1->x2≠ .msl q 0 i 5
 pre:Y.take O.length=O
theorem afk(xs:List EL):ae 0 (lH xs)=true:=by
 have:=ny (xs.map fun x=>x.1.1);rwa[List.map_map]at this
theorem We (H:Xe C) (O:St) (xs:List EL) (hN:xs.length<=8192):∀(n i:Nat),i+n=xs.length->∀(x1 x2:AV) (Y:St),OI O xs i x1 x2 Y->
  (∃x1' x2' Y',aB C (ai C) 51 [2,4,5,13,14,15] bK [(2,.ref O.length 0),(4,.msl (O.length+1) 0 xs.length 6),(5,.ref (O.length+2) 0),(13,.msl (O.length+1) 0 xs.length 6),(14,.int .i64 xs.length),(15,.int .i64 i)] Y=some (.exit 0,[(2,.ref O.length 0),(5,.ref (O.length+2) 0)],Y')/\OI O xs xs.length x1' x2' Y')\/
  (∃Y',aB C (ai C) 51 [2,4,5,13,14,15] bK [(2,.ref O.length 0),(4,.msl (O.length+1) 0 xs.length 6),(5,.ref (O.length+2) 0),(13,.msl (O.length+1) 0 xs.length 6),(14,.int .i64 xs.length),(15,.int .i64 i)] Y=some (.ret,[(2,.ref O.length 0),(3,.int .i64 7)],Y')/\Y'[O.length]?=some ni/\Y'.take O.length=O)
 |0,i,hi,x1,x2,Y,I=>by
  have h:¬((i:Int)<(xs.length:Int)):=by omega
  refine .inl ⟨x1,x2,Y,?_,by have:i=xs.length:=by omega
                             subst this;exact I⟩
  rw[aA (he:=rfl)];simp only[bK,h,EVX,seval]
 |n+1,i,hi,x1,x2,Y,I=>by
  obtain⟨hok,hres,hrow,hv,ha1,ha2,hne,hpre⟩:=I;have li:i<xs.length:=by omega
  have h:((i:Int)<(xs.length:Int)):=by omega
  have pi:(0:Int)<=(i:Int):=by omega
  have hw:=wrS i (by omega)
  have di:=GV xs i li;have ht:xs.take (i+1)=xs.take i++[xs[i]]:=by rw[List.take_succ_eq_append_getElem li]
  have lt:(xs.take i).length=i:=by simp;omega
  have lna:=Jw (xs.take i);have lva:=Ot (xs.take i);rw[lt]at lna lva;have ca:∀l,AV.cells (.agg l)=l:=fun _=>rfl;have nl:O.length+2<Y.length:=(List.getElem?_eq_some_iff.mp hv).1;have hprev:0<i->∃(y:EL),(jE xs).drop ((i-1)*6)=elC y++(jE (xs.drop i)):=fun h0=>by
   have:=GV xs (i-1) (by omega)
   rw[show i-1+1=i by omega]at this
   exact⟨_,this⟩
  generalize hm:xs[i]=x at*;have okb:Ok (Y++[.cells (elC x) FZ]):=hok.plus (by rw[List.all_cons,show AO.below 0 (.cells (elC x) FZ)=true from Ql x];rfl)
  have r0:=fun L=>aF hrow L;have b0:=fun L=>aF hv L;have c0:=fun L=>aF hres L;have cp0:=fun L y=>eF hres L y;have g1:=fun L=>fH (show Y.length=Y.length from rfl) L;have s1:=fun L y=>pV (show Y.length=Y.length from rfl) L y;have eh:(elC x).head? =some (.str x.1.1):=rfl;have et:(elC x).drop 1=x.2.cs:=rfl;have ek:x.2.cs.take 5=x.2.cs:=List.take_of_length_le (by rw[JV.len];exact Nat.le_refl _)
  have el:5<=x.2.cs.length:=by rw[JV.len];exact Nat.le_refl _
  have jl:=JV.len x.2;have jf:=JV.flat x.2;have nx1:x1≠ .msl Y.length 0 i 1:=fun e=>by
   rcases ha1 with⟨_,e'⟩|⟨_,q,e',h1,_⟩
   ·rw[e']at e;cases e
   ·rw[e']at e;have:=(List.getElem?_eq_some_iff.mp h1).1;cases e;omega
  have q2l:∀q,x2=.msl q 0 i 5->q<Y.length:=fun q e=>by
   rcases ha2 with⟨_,e'⟩|⟨_,q',e',h1,_⟩
   ·rw[e']at e;cases e
   ·rw[e']at e;have:=(List.getElem?_eq_some_iff.mp h1).1;cases e;exact this
  obtain⟨S1,n1,n2,n3,n4⟩:=afG (bytes:=16) [.str x.1.1] (ha1.mono fun q w hq e hw=>aF hw [AO.cells (elC x) FZ]) (by rw[lna,Nat.mul_one]) (by omega) (by omega) okb
  rw[<-Pi,List.length_append,List.length_cons,List.length_nil]at n1;rw[List.length_append,List.length_cons,List.length_nil]at n2;simp only[Nat.zero_add]at n1 n2;have v1:=n3 _ _ (.inr (by omega)) (b0 [AO.cells (elC x) FZ])
  have r1:=n3 _ _ (.inr (by omega)) (r0 [AO.cells (elC x) FZ])
  have c1:=n3 _ _ (.inr (by omega)) (c0 [AO.cells (elC x) FZ])
  have x1b:=n3 Y.length _ (.inl nx1) (by rw[g1];rfl)
  have bv1:=fun L=>aF v1 L;have pv1:=fun L y=>eF v1 L y;have gv2:=fun L=>aF (bM v1 (.cells [.int .u8 5,.int .i64 0,.str [],.msl (Y.length+1) 0 (i+1) 1,x2] FZ)) L;have gx2:=fun L=>aF (aI x1b (show Y.length≠O.length+2 by omega) (.cells [.int .u8 5,.int .i64 0,.str [],.msl (Y.length+1) 0 (i+1) 1,x2] FZ)) L
  have ok2:Ok (S1.set (O.length+2) (.cells [.int .u8 5,.int .i64 0,.str [],.msl (Y.length+1) 0 (i+1) 1,x2] FZ)++[AO.cells (lH (xs.take i++[x])) FZ]):=by
   have:=(n4.plus (L:=[AO.cells (lH (xs.take i++[x])) FZ]) (by
    rw[List.all_cons,show AO.below 0 (AO.cells (lH (xs.take i++[x])) FZ)=true from afk _];rfl)).set2 (O.length+2) (x:=(.cells [.int .u8 5,.int .i64 0,.str [],.msl (Y.length+1) 0 (i+1) 1,x2] FZ)) (by
    have h2:below (Y.length+1+1) x2=true:=by
     have:=List.all_eq_true.mp hok _ (List.mem_of_getElem? hv);simp only[AO.below,ae,below,Bool.and_true,Bool.and_eq_true]at this;exact below_mono (by omega) x2 this.2.2.2.2
    simp only[AO.below,ae,below,Bool.and_true,Bool.true_and,Bool.and_eq_true,decide_eq_true_eq,List.length_append,List.length_cons,List.length_nil,n2];exact⟨by omega,h2⟩)
   rwa[pv1]at this
  have L2:(S1.set (O.length+2) (.cells [.int .u8 5,.int .i64 0,.str [],.msl (Y.length+1) 0 (i+1) 1,x2] FZ)).length=Y.length+1:=by rw[List.length_set,n2]
  have ha2':Bf (S1.set (O.length+2) (.cells [.int .u8 5,.int .i64 0,.str [],.msl (Y.length+1) 0 (i+1) 1,x2] FZ)++[AO.cells (lH (xs.take i++[x])) FZ]) (O.length+3) i 5 (vT (xs.take i)) x2:=ha2.mono fun q w hq e hw=>aF (aI (n3 q w (.inl fun e'=>hne q e' e) (aF hw _)) (by omega) _) _
  have cpy:=JR H.toCopyHas x.2 _ ok2;have sx:=ha2.same;obtain⟨S3,m1,m2,m3,m4⟩:=afG (bytes:=80) x.2.cs ha2' lva (by omega) (by omega) ok2
  rw[<-UC,List.length_append,L2,List.length_cons,List.length_nil]at m1;rw[List.length_append,L2,List.length_cons,List.length_nil]at m2;simp only[Nat.zero_add,Nat.add_assoc,Nat.reduceAdd]at m1 m2;have v3:=m3 _ _ (.inr (by omega)) (gv2 [AO.cells (lH (xs.take i++[x])) FZ])
  have r3:=m3 _ _ (.inr (by omega)) (aF (aI r1 (show O.length+1≠O.length+2 by omega) (.cells [.int .u8 5,.int .i64 0,.str [],.msl (Y.length+1) 0 (i+1) 1,x2] FZ)) [AO.cells (lH (xs.take i++[x])) FZ])
  have c3:=m3 _ _ (.inr (by omega)) (aF (aI c1 (show O.length≠O.length+2 by omega) (.cells [.int .u8 5,.int .i64 0,.str [],.msl (Y.length+1) 0 (i+1) 1,x2] FZ)) [AO.cells (lH (xs.take i++[x])) FZ])
  have nm3:=m3 (Y.length+1) (AO.cells (lH (xs.take i++[x])) FZ) (.inl fun e=>by have:=q2l _ e;omega) (by rw[fH L2];rfl)
  have bv3:=fun L=>aF v3 L;have pv3:=fun L y=>eF v3 L y;have tk3:S3.take O.length=O:=by
   apply List.ext_getElem?;intro k;rw[List.getElem?_take];split
   ·rename_i hk;have h1:(Y.take O.length)[k]?=some O[k]:=by rw[hpre];exact List.getElem?_eq_getElem hk
    rw[List.getElem?_take,if_pos hk]at h1;rw[m3 k _ (.inr (by omega)) (aF (aI (n3 k _ (.inr (by omega)) (aF h1 _)) (by omega) _) _),List.getElem?_eq_getElem hk]
   ·rw[List.getElem?_eq_none (by omega)]
  have ok4:Ok (S3.set (O.length+2) (.cells [.int .u8 5,.int .i64 0,.str [],.msl (Y.length+1) 0 (i+1) 1,.msl (Y.length+2) 0 (i+1) 5] FZ)++[AO.cells (vT (xs.take i++[x])) FZ]):=by
   have:=(m4.plus (L:=[AO.cells (vT (xs.take i++[x])) FZ]) (by
    rw[List.all_cons,show AO.below 0 (AO.cells (vT (xs.take i++[x])) FZ)=true from fJ _];rfl)).set2 (O.length+2) (x:=(.cells [.int .u8 5,.int .i64 0,.str [],.msl (Y.length+1) 0 (i+1) 1,.msl (Y.length+2) 0 (i+1) 5] FZ)) (by
    simp only[AO.below,ae,below,Bool.and_true,Bool.true_and,Bool.and_eq_true,decide_eq_true_eq,List.length_append,List.length_cons,List.length_nil,m2];omega)
   rwa[pv3]at this
  have I2:OI O xs (i+1) (.msl (Y.length+1) 0 (i+1) 1) (.msl (Y.length+2) 0 (i+1) 5) (S3.set (O.length+2) (.cells [.int .u8 5,.int .i64 0,.str [],.msl (Y.length+1) 0 (i+1) 1,.msl (Y.length+2) 0 (i+1) 5] FZ)++[AO.cells (vT (xs.take i++[x])) FZ]):=by
   rw[<-ht]at nm3⊢;refine⟨by rw[ht];exact ok4,aF (aI c3 (by omega) _) _,aF (aI r3 (by omega) _) _,aF (bM v3 _) _,.inr ⟨by omega,_,rfl,aF (aI nm3 (by omega) _) _,by omega⟩,.inr ⟨by omega,_,rfl,?_,by omega⟩,fun q e1 e2=>(by injection e1;injection e2;omega),?_⟩
   ·rw[fH (by rw[List.length_set,m2])];rfl
   ·rw[oN _ _ _ (by rw[List.length_set,m2];omega),cZ _ _ _ (by omega),tk3]
  have rcv:=We H O xs hN n (i+1) (by omega) _ _ _ I2
  have go:∀r,aB C (ai C) 51 [2,4,5,13,14,15] bK [(2,.ref O.length 0),(4,.msl (O.length+1) 0 xs.length 6),(5,.ref (O.length+2) 0),(13,.msl (O.length+1) 0 xs.length 6),(14,.int .i64 xs.length),(15,.int .i64 (i+1:Nat))] (S3.set (O.length+2) (.cells [.int .u8 5,.int .i64 0,.str [],.msl (Y.length+1) 0 (i+1) 1,.msl (Y.length+2) 0 (i+1) 5] FZ)++[AO.cells (vT (xs.take i++[x])) FZ])=r->
    (aB C (ai C) 51 [2,4,5,13,14,15] bK [(2,.ref O.length 0),(4,.msl (O.length+1) 0 xs.length 6),(5,.ref (O.length+2) 0),(13,.msl (O.length+1) 0 xs.length 6),(14,.int .i64 xs.length),(15,.int .i64 i)] Y=r\/∃Y',aB C (ai C) 51 [2,4,5,13,14,15] bK [(2,.ref O.length 0),(4,.msl (O.length+1) 0 xs.length 6),(5,.ref (O.length+2) 0),(13,.msl (O.length+1) 0 xs.length 6),(14,.int .i64 xs.length),(15,.int .i64 i)] Y=some (.ret,[(2,.ref O.length 0),(3,.int .i64 7)],Y')/\Y'[O.length]?=some ni/\Y'.take O.length=O):=fun r e=>by
   have cpy':=cpy;unfold JV.av at cpy';rw[aA (he:=rfl)];generalize hk:aB C (ai C) 51 [2,4,5,13,14,15] bK=kk at*;by_cases hz:(i:Int)>0
   ·obtain⟨y,dy⟩:=hprev (by omega)
    have w1:IntKind.i64.wrap ((i:Int)-1)=((i-1:Nat):Int):=wrE (by omega)
    have l1:i-1<xs.length:=by omega
    have p1:(0:Int)<=((i-1:Nat):Int):=by omega
    have hy:∀R,(elC y++R).head? =some (.str y.1.1):=fun _=>rfl;cases hd:decide (y.1.1=x.1.1)with
    |true=>
     refine .inr ⟨Y.set O.length ni++[AO.cells (elC x) FZ],?_,aF (bM hres _) _,by rw[oN _ _ _ (by simp;omega),cZ _ _ _ (Nat.le_refl _),hpre]⟩
     dsimp only[ni]at*;simp only[hz,dy,w1,l1,p1,hy,hd,c0,cp0,bK,h,li,pi,di,hrow,r0,g1,s1,eh,ca,EU,lI,vk,splice,Int.toNat_natCast,List.length_append,Nat.le_add_right,EVX,seval]
    |false=>
     refine .inl ?_;simp only[hz,dy,w1,l1,p1,hy,hd,bK,h,li,pi,hw,di,hrow,r0,b0,g1,s1,eh,et,ek,jl,jf,n1,bv1,pv1,gv2,gx2,cpy',sx,m1,bv3,pv3,e,ca,EU,lI,vk,splice,Int.toNat_natCast,List.length_append,Nat.le_add_right,EVX,seval]
   ·refine .inl ?_;simp only[hz,bK,h,li,pi,hw,di,hrow,b0,g1,s1,eh,et,ek,jl,jf,n1,bv1,pv1,gv2,gx2,cpy',sx,m1,bv3,pv3,e,ca,EU,lI,vk,splice,Int.toNat_natCast,List.length_append,Nat.le_add_right,EVX,seval]
  rcases rcv with⟨x1',x2',Y',e1,e2⟩|⟨Y',e1,e2⟩
  ·rcases go _ e1 with e|e
   ·exact .inl ⟨x1',x2',Y',e,e2⟩
   ·exact .inr e
  ·rcases go _ e1 with e|e
   ·exact .inr ⟨Y',e,e2⟩
   ·exact .inr e
theorem aa0(H:Xe C)(xs:List EL)(h1:xs≠[])(hN:xs.length<=8192)(O:St)(hσ:Ok O):∃(j:JV) (e:Int),ai C qg [.sl xs.length (jE xs)] O=some (.tup [j.av,.int .i64 e],O):=by
 have hn:hand false [.sl xs.length (jE xs)] O=some ([.sl xs.length (jE xs)],O):=NVs.hand (.cons (.sl _ (Rz xs)) .nil) _;have cl:=H.clone xs h1 hN (O++[ni]) (hσ.plus rfl);have bx:∀ys:List EL,AO.below 0 (.cells (jE ys) FZ)=true:=Rz;obtain⟨ys,y1,y2⟩:=H.srt (O++[ni,.cells (jE xs) FZ]) (hσ.plus (by rw[List.all_cons,List.all_cons,bx];rfl)) (O.length+1) (by simp) none xs.length (by omega) xs rfl
 unfold row at y2;rw[F9,F9]at y2;dsimp only[List.set,ajk]at y2;have I0:OI O ys 0 .nils .nils (O++[ni,.cells (jE ys) FZ,.cells [.int .u8 5,.int .i64 0,.str [],.nils,.nils] FZ]):=by
  refine⟨hσ.plus (by rw[List.all_cons,List.all_cons,bx];rfl),by rw[cu];rfl,by rw[dW];rfl,by rw[dW];rfl,.inl ⟨rfl,rfl⟩,.inl ⟨rfl,rfl⟩,fun q e=>(by cases e),by simp⟩
 have lp:=We H O ys (by omega) ys.length 0 (by omega) _ _ _ I0
 rw[y1]at lp;have sd:O.set O.length .dead=O:=List.set_eq_of_length_le (Nat.le_refl _);have st3:∀a b c:AO,(O++[a,b,c]:St)[O.length+2]?=some c:=fun a b c=>by rw[dW];rfl
 have fin:∃(j:JV) (e:Int) (x:RX),aB C (ai C) 51 [2,4,5,13,14,15] bK [(2,.ref O.length 0),(4,.msl (O.length+1) 0 xs.length 6),(5,.ref (O.length+2) 0),(13,.msl (O.length+1) 0 xs.length 6),(14,.int .i64 xs.length),(15,.int .i64 0)] (O++[ni,.cells (jE ys) FZ,.cells [.int .u8 5,.int .i64 0,.str [],.nils,.nils] FZ])=x/\
   ((x=some (.ret,[(2,.ref O.length 0),(3,.int .i64 7)],(match x with|some (_,_,Y)=>Y|none=>[]))/\∀E,look E 2=.ref O.length 0->look E 3=.int .i64 7->BN O.length [.cell 2 true 5,.tmp 3] (some (.ret,E,(match x with|some (_,_,Y)=>Y|none=>[])))=some (.tup [j.av,.int .i64 e],O))\/
    ∃Y' c,x=some (.exit 0,[(2,.ref O.length 0),(5,.ref (O.length+2) 0)],Y')/\Y'[O.length]?=some ni/\Y'[O.length+2]?=some (.cells c FZ)/\c.length=5/\c.all AV.flat=true/\∀E,look E 2=.ref O.length 0->look E 3=.int .i64 0->BN O.length [.cell 2 true 5,.tmp 3] (some (.ret,E,Y'.set O.length (.cells c FZ)))=some (.tup [j.av,.int .i64 e],O)):=by
  simp only[Int.cast_ofNat_Int]at lp;rcases lp with⟨x1,x2,Y',l1,l2⟩|⟨Y',l1,l2,l3⟩
  ·obtain⟨hok,hres,hrow,hv,ha1,ha2,hne,hpre⟩:=l2;have hp:¬xs.length=0:=fun e=>h1 (List.eq_nil_of_length_eq_zero e);rcases ha1 with⟨e,_⟩|⟨_,q1,rfl,a1,a2⟩
   ·omega
   rcases ha2 with⟨e,_⟩|⟨_,q2,rfl,b1,b2⟩
   ·omega
   rw[List.take_of_length_le (by omega)]at a1 b1
   refine⟨ajS ys (by omega),0,_,l1,.inr ⟨Y',_,rfl,hres,hv,rfl,rfl,fun E h2 h3=>?_⟩⟩
   have:=acX (Y:=Y'.set O.length (.cells [.int .u8 5,.int .i64 0,.str [],.msl q1 0 xs.length 1,.msl q2 0 xs.length 5] FZ)) (o:=O.length) (x:=.dead) hσ rfl 0 E h2 h3 (by rw[cZ _ _ _ (Nat.le_refl _),hpre,sd]) ys (by omega) q1 q2 (by rw[y1];exact bM hres _) (aI a1 (by omega) _) (aI b1 (by omega) _) (by omega) (by omega) (fun e=>hne q1 rfl (by rw[e]))
   rwa[sd]at this
  ·refine⟨JV.zero,7,_,l1,.inl ⟨rfl,fun E h2 h3=>?_⟩⟩;have:=EW (Y:=Y') (o:=O.length) (x:=.dead) hσ rfl 7 E h2 h3 (by rw[l3,sd]) l2
   rwa[sd]at this
 obtain⟨j,e,x,f1,f2⟩:=fin;refine⟨j,e,?_⟩;rw[H.of.go hn];generalize hE:BN=eR at*;rcases f2 with⟨f2,f3⟩|⟨Y',c,f2,g1,g2,g3,g4,f3⟩
 ·generalize(match x with|some (_,_,Y)=>Y|none=>[])=Y' at*
  rw[f2]at f1;have f4:=f3 [(2,.ref O.length 0),(3,.int .i64 7)] rfl rfl;unfold ni at*;simp only[sK,cl,y2,f1,f4,st3,splice,AV.cells,AV.flat,EVX,seval]
 ·rw[f2]at f1;have t5:c.take 5=c:=List.take_of_length_le (by omega)
  have sp:∀a b d e f:AV,splice [a,b,d,e,f] 0 c=c:=fun a b d e f=>by simp[splice,g3]
  unfold ni at*;simp only[sK,cl,y2,f1,st3,g1,g2,g3,g4,t5,sp,AV.cells,AV.flat,EVX,seval];refine f3 _ ?_ ?_<;>rfl
def MP:List Sh:=[.strb,.int .i64,.int .i64,.slx [.strb,.strb]]
structure xk(C:Ctx)(PK:PkI):Prop where
 text:fC C PK En (.pk [.strb] .strb)
 num:fC C PK Fa (.pk [.strb,.int .i64,.int .i64] (.int .i64))
 obj:fC C PK Bg (.pk [.strb,.int .i64] .jv)
 fail:fC C PK Em (.pk [.int .i64] (.tup []))
 done:fC C PK Ej (.pk [] (.int .i64))
 of:fC C PK Vx (.pof [.jv])
 pin:fC C PK Ld (.pure [.strb,.jv] (.tup [.agg MP,.int .i64]))
 when:fC C PK xW (.pure [.strb] (.tup [.int .i64,.int .i64]))
 May:fC C PK mQ (.pure [.jv] .bool)
 parts:Has C Lh JZ
 pType:Has C rD wE
 pVersion:Has C nV yO
 pExpires:Has C nU yN
 pMeta:Has C ry wC
 snapOf:Has C ru Gm
theorem FT{f:FuncId}{args:List Sh}{res:Sh}(h:fC C PK f (.pk args res)){O:St}{o:Nat}{ms:List Nat}{azs:LA}(hσ:Ok O)(hn:NVs azs)(hp:PK.ok O o ms)(hm:Mt V0 args azs):∃v O2,ai C f (.ref o 0::azs) O=some (v,O2)/\M V0 res v/\Ok O2/\O2.length=O.length/\(∀i,i∉o::ms->O2[i]?=O[i]?)/\PK.ok O2 o ms:=
 h O o ms azs azs O hσ (by rw[sN,aP,hn.nf];rfl) hσ hp hm
def Xc(n0 p:Nat)(os:List Nat)(Y:St)(x:AV):Prop:=x=.nils\/∃q rs,x=.msl q 0 rs.length 4/\Y[q]?=some (.cells rs.flatten FZ)/\rs.length<=LS/\MRs V0 MP rs/\q∉os/\q≠p/\n0<=q
structure SI(PK:PkI)(O0:St)(o p:Nat)(ms:List Nat)(x:AV)(Y:St):Prop where
 ok:Ok Y
 pk:PK.ok Y o ms
 lt:∀i∈o::ms,i<Y.length
 ge:∀i∈o::ms,O0.length<=i
 np:p∉o::ms
 gp:O0.length<=p
 s:∃a b,Y[p]?=some (.cells [.int .i64 a,.int .i64 b,x] FZ)
 meta_:Xc O0.length p (o::ms) Y x
 keep:∀(i:Nat) (y:AO),O0[i]?=some y->Y[i]?=some y
theorem SI.pl{O0:St}{o p:Nat}{ms:List Nat}{x:AV}{Y:St}(h:SI PK O0 o p ms x Y):p<Y.length:=by
 obtain⟨a,b,h⟩:=h.s;exact(List.getElem?_eq_some_iff.mp h).1
theorem SI.pick{O0:St}{o p:Nat}{ms:List Nat}{x:AV}{Y Y2:St}(h:SI PK O0 o p ms x Y)(h1:Ok Y2)(h2:Y2.length=Y.length)(h3:∀i,i∉o::ms->Y2[i]?=Y[i]?)(h4:PK.ok Y2 o ms):SI PK O0 o p ms x Y2:=by
 obtain⟨a,b,hs⟩:=h.s;refine⟨h1,h4,fun i hi=>by rw[h2];exact h.lt i hi,h.ge,h.np,h.gp,⟨a,b,by rw[h3 _ h.np];exact hs⟩,?_,fun i y hy=>?_⟩
 ·rcases h.meta_ with hm|⟨q,rs,e1,e2,e3,e4,e5,e6,e7⟩
  ·exact .inl hm
  ·exact .inr ⟨q,rs,e1,by rw[h3 _ e5];exact e2,e3,e4,e5,e6,e7⟩
 ·rw[h3]
  ·exact h.keep i y hy
  ·intro hi;have:=h.ge i hi;have:=(List.getElem?_eq_some_iff.mp hy).1;omega
theorem SI.plus{O0:St}{o p:Nat}{ms:List Nat}{x:AV}{Y:St}(h:SI PK O0 o p ms x Y)(L:St)(hL:L.all (AO.below (Y.length+L.length))=true):SI PK O0 o p ms x (Y++L):=by
 obtain⟨a,b,hs⟩:=h.s;refine⟨h.ok.app hL,PK.fr h.pk fun i hi=>by rw[List.getElem?_append_left (h.lt i hi)],fun i hi=>by rw[List.length_append];have:=h.lt i hi;omega,h.ge,h.np,h.gp,⟨a,b,aF hs L⟩,?_,fun i y hy=>aF (h.keep i y hy) L⟩
 rcases h.meta_ with hm|⟨q,rs,e1,e2,e3,e4,e5,e6,e7⟩
 ·exact .inl hm
 ·exact .inr ⟨q,rs,e1,aF e2 L,e3,e4,e5,e6,e7⟩
theorem SI.set{O0:St}{o p:Nat}{ms:List Nat}{x:AV}{Y:St}(h:SI PK O0 o p ms x Y)(a b:Int):SI PK O0 o p ms x (Y.set p (.cells [.int .i64 a,.int .i64 b,x] FZ)):=by
 obtain⟨a',b',hs⟩:=h.s;refine⟨h.ok.set2 p ?_,PK.fr h.pk fun i hi=>?_,fun i hi=>by rw[List.length_set];exact h.lt i hi,h.ge,h.np,h.gp,⟨a,b,bM hs _⟩,?_,fun i y hy=>?_⟩
 ·have:=List.all_eq_true.mp h.ok _ (List.mem_of_getElem? hs);simp only[AO.below,ae,below,Bool.true_and]at this⊢;exact this
 ·rw[List.getElem?_set_ne (fun e=>h.np (by rw[e];exact hi))]
 ·rcases h.meta_ with hm|⟨q,rs,e1,e2,e3,e4,e5,e6,e7⟩
  ·exact .inl hm
  ·exact .inr ⟨q,rs,e1,aI e2 e6 _,e3,e4,e5,e6,e7⟩
 ·have:=h.gp;have:=(List.getElem?_eq_some_iff.mp hy).1;exact aI (h.keep i y hy) (by omega) _
theorem SI.tidy{O0:St}{o p n:Nat}{ms:List Nat}{x:AV}{S:St}(h:SI PK O0 o p ms x S)(vs:LA)(hn:n<=S.length)(hp:p<n)(ho:∀i∈o::ms,i<n)(h0:O0.length<=n):SI PK O0 o p ms x (Ev.tidy n vs S):=by
 unfold Ev.tidy;split
 ·exact h
 split
 ·rename_i hc;rw[Bool.and_eq_true]at hc;have hl:(S.take n).length=n:=by simp;omega
  have hg:∀i,i<n->(S.take n)[i]?=S[i]?:=fun i hi=>by rw[List.getElem?_take,if_pos hi]
  obtain⟨a,b,hs⟩:=h.s;refine⟨?_,PK.fr h.pk fun i hi=>hg i (ho i hi),fun i hi=>by rw[hl];exact ho i hi,h.ge,h.np,h.gp,⟨a,b,by rw[hg _ hp];exact hs⟩,?_,fun i y hy=>?_⟩
  ·unfold Ok;rw[hl];exact hc.2
  ·rcases h.meta_ with hm|⟨q,rs,e1,e2,e3,e4,e5,e6,e7⟩
   ·exact .inl hm
   ·refine .inr ⟨q,rs,e1,?_,e3,e4,e5,e6,e7⟩;have hb:=List.all_eq_true.mp hc.2 _ (List.mem_of_getElem? ((hg _ hp).trans hs));have:q<n:=by
     rw[e1]at hb;simp only[AO.below,ae,below,Bool.and_true,Bool.true_and,decide_eq_true_eq]at hb;exact hb
    rw[hg _ this];exact e2
  ·rw[hg _ (by have:=(List.getElem?_eq_some_iff.mp hy).1;omega)]
   exact h.keep i y hy
 ·exact h
def anv(C:Ctx)(PK:PkI)(f:FuncId):Prop:=∀(O0:St) (o p:Nat) (ms:List Nat) (Y:St),SI PK O0 o p ms .nils Y->O0.length<=Y.length->∃Y' x,ai C f [.ref o 0,.ref p 0] Y=some (bi [],Y')/\SI PK O0 o p ms x Y'/\Y.length<=Y'.length
def afv(C:Ctx)(PK:PkI)(f:FuncId):Prop:=∀(O0:St) (o p:Nat) (ms:List Nat) (Y:St),SI PK O0 o p ms .nils Y->O0.length<=Y.length->∃Y',ai C f [.ref o 0,.ref p 0] Y=some (bi [],Y')/\SI PK O0 o p ms .nils Y'/\Y.length<=Y'.length
theorem Oq(s:LU)(h:s.length<=LB){l:List Sh}{m:LA}(k:Mt V0 l m):Mt V0 (.strb::l) (.str s::m):=.cons _ _ _ _ (.strb s h) k
theorem PR(n:Int){l:List Sh}{m:LA}(k:Mt V0 l m):Mt V0 (.int .i64::l) (.int .i64 n::m):=.cons _ _ _ _ (.int _ n) k
theorem Gi{n:Nat}{vs:LA}{S:St}(h:n<=S.length):n<=(Ev.tidy n vs S).length:=by
 unfold Ev.tidy;split
 ·exact h
 split
 ·simp;omega
 ·exact h
end Go.Ev
namespace Go.Ev
set_option maxRecDepth 100000
variable{C:Ctx}{V:Val}
structure SnV where
 ver:Int
 exp:Int
 pins:List yD
def SnV.cs(s:SnV):LA:=[.int .i64 s.ver,.int .i64 s.exp,.sl s.pins.length (s.pins.flatMap yD.cs)]
structure SnV.ok(s:SnV):Prop where
 len:s.pins.length<=8192
 each:∀p∈s.pins,NC p.hashes/\p.name.length<=LB
theorem am6(r:LA)(h:Ms V [.strb,.strb] r):∃s,r=pC s/\s.1.length<=LB/\s.2.length<=LB:=by
 obtain⟨s,b,rfl,h0,h1⟩:=zo h;obtain⟨u,b,rfl,h3,h2⟩:=zo h1;rw[DY h2];exact⟨(s,u),rfl,h0,h3⟩
theorem ajF(r:LA)(h:Ms V MP r):∃p,r=yD.cs p/\NC p.hashes/\p.name.length<=LB:=by
 obtain⟨s,b,rfl,h0,h1⟩:=zo h;obtain⟨n,b,rfl,h2⟩:=Cb h1;obtain⟨m,b,rfl,h3⟩:=Cb h2;obtain⟨hs,b,rfl,hl,hb,h4⟩:=Aq am6 h3;rw[DY h4];exact⟨⟨s,n,m,hs⟩,rfl,⟨hl,hb⟩,h0⟩
theorem agV{v:AV}(h:M V (.agg [.int .i64,.int .i64,.slx MP]) v):∃s:SnV,v=.agg s.cs/\s.ok:=by
 cases h with
 |agg _ v h=>
  obtain⟨a,b,rfl,h1⟩:=Cb h;obtain⟨e,b,rfl,h2⟩:=Cb h1;obtain⟨l,b,rfl,l1,q1,h3⟩:=Aq ajF h2;rw[DY h3];exact⟨⟨a,e,l⟩,rfl,l1,q1⟩
theorem yD.len4(p:yD):p.cs.length=4:=rfl
theorem yD.nvs(p:yD):NVs p.cs:=.cons (.str _) (.cons (.int _ _) (.cons (.int _ _) (.cons (uJ _) .nil)))
theorem yD.bel(p:yD):ae 0 p.cs=true:=p.nvs.cl
theorem SnV.nvs(s:SnV):NVs s.cs:=.cons (.int _ _) (.cons (.int _ _) (.cons (.sl _ (nN (fun p=>p.bel) s.pins)) .nil))
structure WV(C:Ctx):Prop where
 role:J5 C
 hash:∀hs:List PS,NC hs->∃(d:LU) (b:Bool),∀Y,ai C rX [.sl hs.length (hs.flatMap pC),.str [115,104,97,50,53,54]] Y=some (.tup [.str d,.bool b],Y)
 rd:∀data:LU,data.length<=LB->∃(j:JV) (n e:Int),∀Y,ai C fK [.str data] Y=some (.tup [j.av,.int .i64 n,.int .i64 e],Y)
 sg:∀j:JV,∃(r:AV) (e:Int),M V0 acZ r/\∀Y,ai C ql [j.av] Y=some (.tup [r,.int .i64 e],Y)
 tg:∀j:JV,∃(t:wG) (e:Int),t.ok/\∀Y,ai C wM [j.av] Y=some (.tup [.agg t.cs,.int .i64 e],Y)
 sn:∀j:JV,∃(s:SnV) (e:Int),s.ok/\∀Y,ai C ru [j.av] Y=some (.tup [.agg s.cs,.int .i64 e],Y)
 over:∀a b:Int,∃ov:Bool,∀Y,ai C mW [.int .i64 a,.int .i64 b] Y=some (.bool ov,Y)
 dig:∀s:LU,s.length<=LB->∃d:LU,∀Y,ai C mP [.str s] Y=some (.str d,Y)
 enough:∀(h:Bool) (l:List eG) (r:AV) (th:Int) (ids:List LU) (ks:List PS),wR l=false->YK ids->NC ks->M V0 acZ r->∃b:Bool,∀Y o,Y[o]?=some (Ou h l)->ai C iU [.ref o 0,r,.agg (aC th ids),.sl ks.length (ks.flatMap pC)] Y=some (.bool b,Y)
def inf(h:Bool)(l:List eG)(o:Nat)(th:Int)(ids:List LU)(ks:List PS)(pn:LU)(pv pl:Int)(ph:AV)(now:Int)(data:LU)(size:Int):InF:=
 ⟨.ref o 0,th,.sl ids.length (ids.flatMap sC),.sl ks.length (ks.flatMap pC),pn,pv,pl,ph,now,data,size⟩
theorem ai7 (H:WV C) (h:Bool) (l:List eG) (th:Int) (ids:List LU) (ks:List PS) (data:LU) (b1:wR l=false) (b2:YK ids) (b3:NC ks) (b4:data.length<=LB):
  ∃(T:wG) (e1 e2 e3:Int) (en:Bool) (od:List PS->Bool) (ov:Int->Bool),T.ok/\(∀now Y,ai C mW [.int .i64 T.exp,.int .i64 now] Y=some (.bool (ov now),Y))/\∀(pn:LU) (pv pl:Int) (hs:List PS) (now size:Int) (O:St) (o:Nat),NC hs->Ok O->O[o]?=some (Ou h l)->
   ai C zf [.ref o 0,.agg [.str pn,.int .i64 pv,.int .i64 pl,.sl hs.length (hs.flatMap pC)],.agg (aC th ids),.sl ks.length (ks.flatMap pC),.int .i64 now,.str data,.int .i64 size] O=
    some (.tup [.agg (if IQ size pl data.length (od hs) e1 e2 e3 en T.ver pv (ov now)=0 then T.cs else zTn),.int .u8 (IQ size pl data.length (od hs) e1 e2 e3 en T.ver pv (ov now))],O):=by
 obtain⟨j,n1,e1,q1⟩:=H.rd data b4;obtain⟨r,e2,mr,q2⟩:=H.sg j;obtain⟨en,q5⟩:=H.enough h l r th ids ks b1 b2 b3 mr;obtain⟨k,ps,rfl,lp⟩:=adc mr;obtain⟨T,e3,tok,q3⟩:=H.tg k;obtain⟨D,q6⟩:=H.dig data b4;obtain⟨ov,q4⟩:=Classical.axiomOfChoice (fun now=>H.over T.exp now);obtain⟨x0,x1,x2,x3,x4,je,ox0,ox1,ox2,ox3,ox4⟩:=j.ones;obtain⟨r0,r1,r2,r3,r4,ke,or0,or1,or2,or3,or4⟩:=k.ones;unfold JV.av at q1 q2 q3;rw[je]at q1 q2;rw[ke]at q2 q3 q5;have odx:∀hs:List PS,∃b:Bool,NC hs->∀(Y:St) (o:Nat) (F:dZ),Ok Y->Y[o]?=some (.cells F.cs FZ)->F.ph=.sl hs.length (hs.flatMap pC)->F.data=data->ai C dY [.ref o 0] Y=some (.bool b,Y):=fun hs=>by
  by_cases c:NC hs
  case neg=>exact⟨false,fun h=>absurd h c⟩
  by_cases c0:hs.length=0
  ·have:hs=[]:=List.eq_nil_of_length_eq_zero c0;subst this;exact⟨false,fun _ Y o F hτ hF hp hd=>N9 H.role.toChkHas hτ hF [] hp⟩
  ·obtain⟨d,b,q⟩:=H.hash hs c;exact⟨_,fun _ Y o F hτ hF hp hd=>TF H.role.toChkHas hτ hF hs.length _ hp c0 (by rw[hp];exact q Y) (by rw[hd];exact q6 Y)⟩
 obtain⟨od,qo⟩:=Classical.axiomOfChoice odx;refine⟨T,e1,e2,e3,en,od,ov,tok,q4,fun pn pv pl hs now size O o hh hσ ho=>?_⟩;have hl:o<O.length:=(List.getElem?_eq_some_iff.mp ho).1;have hI:(inf h l o th ids ks pn pv pl (.sl hs.length (hs.flatMap pC)) now data size).ok O.length:=⟨.inr ⟨o,rfl,hl⟩,qN _ (CV ids),qN _ (uJ ks),(qN _ (uJ hs)).b0⟩;exact UO H.role hσ hI (qN _ (uJ hs)) ⟨rfl,rfl⟩
  {x0:=x0,x1:=x1,x2:=x2,x3:=x3,x4:=x4,n1:=n1,e1:=e1,r0:=r0,r1:=r1,r2:=r2,r3:=r3,r4:=r4,r5:=.sl ps.length (ps.flatMap pC),e2:=e2,en:=en
   hx0:=ox0,hx1:=ox1,hx2:=ox2,hx3:=ox3,hx4:=ox4,hr0:=or0,hr1:=or1,hr2:=or2,hr3:=or3,hr4:=or4,hr5:=qN _ (uJ ps)
   rd:=fun Y _=>q1 Y,sg:=fun _ Y _=>q2 Y
   enough:=fun _ _ Y _ hx=>q5 Y o (hx o _ ho)
   tv:=T.ver,tx:=T.exp,t2:=.sl T.list.length (T.list.flatMap TgV.cs),t3:=.sl T.del.keys.length (T.del.keys.flatMap pC),t4:=.sl T.del.roles.length (T.del.roles.flatMap RoV.cs),t5:=.int .i64 T.del.thr,t6:=.sl T.del.ids.length (T.del.ids.flatMap sC),t7:=.int .i64 T.del.bits,t8:=.str T.del.pre,e3:=e3,ov:=ov now,od:=od hs
   h2:=qN _ (.sl _ (nN (fun r=>r.bel) T.list)),h3:=qN _ (uJ _),h4:=qN _ (.sl _ (PL T.del.roles)),h5:=BA _ _,h6:=qN _ (CV _),h7:=BA _ _,h8:=adA _
   tg:=fun _ _ Y _=>q3 Y,over:=fun Y _=>q4 now Y,odig:=qo hs hh}
structure Eg where
 ver:Int
 exp:Int
 ks:List PS
 rt:fD
 sn:fD
 tg:fD
def Eg.cs(r:Eg):LA:=[.int .i64 r.ver,.int .i64 r.exp,.sl r.ks.length (r.ks.flatMap pC),.int .i64 r.rt.th,.sl r.rt.ids.length (r.rt.ids.flatMap sC),.int .i64 r.sn.th,.sl r.sn.ids.length (r.sn.ids.flatMap sC),.int .i64 r.tg.th,.sl r.tg.ids.length (r.tg.ids.flatMap sC)]
theorem Eg.nvs(r:Eg):NVs r.cs:=.cons (.int _ _) (.cons (.int _ _) (.cons (uJ _) (.cons (.int _ _) (.cons (CV _) (.cons (.int _ _) (.cons (CV _) (.cons (.int _ _) (.cons (CV _) .nil))))))))
theorem aiz (H:WV C) (h:Bool) (l:List eG) (R:Eg) (data:LU) (b1:wR l=false) (b2:YK R.sn.ids) (b3:NC R.ks) (b4:data.length<=LB):
  ∃(S:SnV) (e1 e2 e3:Int) (en:Bool) (ov:Int->Bool),S.ok/\(∀now Y,ai C mW [.int .i64 S.exp,.int .i64 now] Y=some (.bool (ov now),Y))/\∀(now size:Int) (O:St) (o:Nat),Ok O->O[o]?=some (Ou h l)->
   ai C qY [.ref o 0,.agg R.cs,.int .i64 now,.str data,.int .i64 size] O=
    some (.tup [.agg (if IV size e1 e2 e3 en (ov now)=0 then S.cs else zSn),.int .u8 (IV size e1 e2 e3 en (ov now))],O):=by
 obtain⟨j,n1,e1,q1⟩:=H.rd data b4;obtain⟨r,e2,mr,q2⟩:=H.sg j;obtain⟨en,q5⟩:=H.enough h l r R.sn.th R.sn.ids R.ks b1 b2 b3 mr;obtain⟨k,ps,rfl,lp⟩:=adc mr;obtain⟨S,e3,sok,q3⟩:=H.sn k;obtain⟨ov,q4⟩:=Classical.axiomOfChoice (fun now=>H.over S.exp now);obtain⟨x0,x1,x2,x3,x4,je,ox0,ox1,ox2,ox3,ox4⟩:=j.ones;obtain⟨r0,r1,r2,r3,r4,ke,or0,or1,or2,or3,or4⟩:=k.ones;unfold JV.av at q1 q2 q3;rw[je]at q1 q2;rw[ke]at q2 q3 q5;refine⟨S,e1,e2,e3,en,ov,sok,q4,fun now size O o hσ ho=>?_⟩;have hl:o<O.length:=(List.getElem?_eq_some_iff.mp ho).1;have hI:(inf h l o R.sn.th R.sn.ids R.ks [] 0 (-1) .nils now data size).ok O.length:=⟨.inr ⟨o,rfl,hl⟩,qN _ (CV _),qN _ (uJ _),rfl⟩;exact KT H.role hσ hI ⟨rfl,rfl⟩ ⟨rfl,rfl,rfl,rfl⟩
  {x0:=x0,x1:=x1,x2:=x2,x3:=x3,x4:=x4,n1:=n1,e1:=e1,r0:=r0,r1:=r1,r2:=r2,r3:=r3,r4:=r4,r5:=.sl ps.length (ps.flatMap pC),e2:=e2,en:=en
   hx0:=ox0,hx1:=ox1,hx2:=ox2,hx3:=ox3,hx4:=ox4,hr0:=or0,hr1:=or1,hr2:=or2,hr3:=or3,hr4:=or4,hr5:=qN _ (uJ ps)
   rd:=fun Y _=>q1 Y,sg:=fun _ Y _=>q2 Y
   enough:=fun _ _ Y _ hx=>q5 Y o (hx o _ ho)
   sv:=S.ver,sx:=S.exp,s2:=.sl S.pins.length (S.pins.flatMap yD.cs),e3:=e3,ov:=ov now
   h2:=qN _ (.sl _ (nN (fun p=>p.bel) S.pins))
   sn:=fun _ _ Y _=>q3 Y,over:=fun Y _=>q4 now Y}
  (BA _ _) (BA _ _) (BA _ _) (qN _ (CV _)) (BA _ _) (qN _ (CV _))
end Go.Ev
namespace Go.Ev
set_option maxRecDepth 100000
variable{C:Ctx}
structure QL(C:Ctx):Prop where
 pin:Has C vX vW
 snap:Has C zW zI
 hashes:Has C fU fQ
theorem UV(H:QL C)(p:yD)(hp:NC p.hashes)(O:St)(hσ:Ok O):ai C vX [.agg p.cs,.agg p.cs] O=some (.bool true,O):=by
 have nv:NV (.agg p.cs):=.agg p.nvs;rw[H.pin.go (NVs.hand (.cons nv (.cons nv .nil)) _)];have hO:Ok (O++[.cells p.cs FZ,.cells p.cs FZ]):=hσ.plus (by
  have:AO.below 0 (.cells p.cs FZ)=true:=p.bel;rw[List.all_cons,this,List.all_cons,this];rfl)
 have q1:=CU H.hashes p.hashes (by have:=hp.1;omega)
 have ty:=df hσ (vs:=[.bool true]) rfl;unfold yD.cs at⊢;simp only[vW,q1,ty,cu,dW,AV.cells,List.cons_append,List.take_succ_cons,EVX,seval]
theorem TT (H:QL C) (s:SnV) (hs:s.ok) (q:Nat):∀(m i:Nat) (Y:St),i+m=s.pins.length->Ok Y->Y[q]?=some (.cells s.cs FZ)->Y[q+1]?=some (.cells s.cs FZ)->
  aB C (ai C) 46 [2,3,5] iy [(2,.ref q 0),(3,.ref (q+1) 0),(5,.int .i64 i)] Y=some (.exit 0,[],Y)
 |0,i,Y,hi,hτ,f2,f3=>by
  rw[aA (he:=rfl)];have h:¬((i:Int)<(s.pins.length:Int)):=by omega
  unfold SnV.cs at f2;simp only[iy,h,f2,bH,EVX,seval]
 |m+1,i,Y,hi,hτ,f2,f3=>by
  have hlt:i<s.pins.length:=by omega
  have h8:=hs.len;have fa:=lL yD.len4 (List.getElem?_eq_getElem hlt);have hp:=(hs.each _ (List.getElem_mem hlt)).1;generalize s.pins[i]=p at*;have ih:=TT H s hs q m (i+1) Y (by omega) hτ f2 f3
  have q1:=UV H p hp Y hτ;rw[aA (he:=rfl)];have h:((i:Int)<(s.pins.length:Int)):=by omega
  have hw:=wrS i (by omega)
  have h3:(0:Int)<=i:=by omega
  have fl:=dA yD.len4 s.pins;unfold SnV.cs at f2 f3;have pc:p.cs=[.str p.name,.int .i64 p.version,.int .i64 p.length,.sl p.hashes.length (p.hashes.flatMap pC)]:=rfl;rw[pc]at q1 fa;generalize(s.pins.drop (i+1)).flatMap yD.cs=R at fa;generalize hF:s.pins.flatMap yD.cs=F at*;generalize hk:aB C (ai C) 46 [2,3,5] iy=k at*;simp only[List.cons_append,List.nil_append]at fa;simp only[iy,h,hlt,h3,hw,fl,fa,f2,f3,q1,ih,bH,List.cons_append,List.nil_append,List.take_succ_cons,List.take_zero,EVX,seval]
theorem abX(H:QL C)(s:SnV)(hs:s.ok)(O:St)(hσ:Ok O):ai C zW [.agg s.cs,.agg s.cs] O=some (.bool true,O):=by
 have nv:NV (.agg s.cs):=.agg s.nvs;rw[H.snap.go (NVs.hand (.cons nv (.cons nv .nil)) _)];have hO:Ok (O++[.cells s.cs FZ,.cells s.cs FZ]):=hσ.plus (by
  have:AO.below 0 (.cells s.cs FZ)=true:=s.nvs.cl;rw[List.all_cons,this,List.all_cons,this];rfl)
 have lp:=TT H s hs O.length s.pins.length 0 _ (by omega) hO (by rw[cu];rfl) (by rw[dW];rfl)
 rw[show((0:Nat):Int)=0 from rfl]at lp;have ty:=df hσ (vs:=[.bool true]) rfl;unfold SnV.cs at lp⊢;simp only[zI,lp,bH,ty,cu,dW,AV.cells,List.cons_append,List.nil_append,List.take_succ_cons,EVX,seval]
theorem VS:∀(l:List PS) (n:Nat),lhN l n<5000->∀x∈l,x.1.length<5000/\x.2.length<5000
 |[],n,h=>fun s hs=>by cases hs
 |p::l,n,h=>by
  unfold lhN at h;split at h
  ·have a:=ahn l (n+10+min 5000 p.1.length+min 5000 p.2.length);intro t ht;rcases List.mem_cons.mp ht with rfl|ht
   ·omega
   ·exact VS l _ h t ht
  ·omega
theorem Yp{l:List PS}(h:Tm l=false):NC l:=by
 have h:lhN l 0<5000:=Nat.not_le.mp (of_decide_eq_false h);have a:=adp l 0 h;exact⟨by omega,fun x hx=>by have:=VS l 0 h x hx;simp only[LB];omega⟩
theorem ahb:∀(l:List fD) (n:Nat),n<=laN l n
 |[],n=>Nat.le_refl _
 |a::l,n=>Nat.le_trans (aho _ _) (ahb l _)
theorem ZO:∀(l:List LU) (n m:Nat),n<=m->5000<=liN l n->5000<=liN l m
 |[],n,m,h,k=>by unfold liN at*;omega
 |s::l,n,m,h,k=>by
  unfold liN at*;by_cases c:m<5000
  ·rw[if_pos (by omega)]at k
   rw[if_pos c];exact ZO l _ _ (by omega) k
  ·rw[if_neg c];omega
theorem ZR{a:fD}:∀(l:List fD) (n:Nat),a∈l->Am [a]=true->5000<=laN l n
 |b::l,n,h,k=>by
  have k':5000<=liN a.ids 0:=of_decide_eq_true k;unfold laN;rcases List.mem_cons.mp h with rfl|h
  ·exact Nat.le_trans (ZO _ 0 n (by omega) k') (ahb l _)
  ·exact ZR l _ h k
theorem ac5{a:fD}{l:List fD}(h:Am l=false)(ha:a∈l):Am [a]=false:=by
 cases k:Am [a]with
 |false=>rfl
 |true=>exact absurd (ZR l 0 ha k) (of_decide_eq_false h)
def ano:wG:=⟨0,0,[],⟨[],[],0,[],0,[]⟩⟩
theorem aky:ano.ok:=⟨by decide,fun _ h=>(by cases h),⟨by decide,by decide,fun _ h=>(by cases h),by decide⟩⟩
def apK(T:wG)(c:Int):wG:=if c=0 then T else ano
theorem ak9(T:wG)(c:Int):(if c=0 then T.cs else zTn)=(apK T c).cs:=by
 unfold apK;split<;>rfl
theorem aka{T:wG}(h:T.ok)(c:Int):(apK T c).ok:=by
 unfold apK;split
 ·exact h
 ·exact aky
theorem wG.len(t:wG):t.cs.length=9:=rfl
theorem wG.fl(t:wG):t.cs.all AV.flat=true:=rfl
theorem wG.tk(t:wG):t.cs.take 9=t.cs:=rfl
def ap6:SnV:=⟨0,0,[]⟩
def TV(S:SnV)(c:Int):SnV:=if c=0 then S else ap6
theorem ak6(S:SnV)(c:Int):(if c=0 then S.cs else zSn)=(TV S c).cs:=by
 unfold TV;split<;>rfl
theorem ak7{S:SnV}(h:S.ok)(c:Int):(TV S c).ok:=by
 unfold TV;split
 ·exact h
 ·exact⟨by decide,fun _ h=>by cases h⟩
theorem SnV.len(t:SnV):t.cs.length=3:=rfl
theorem SnV.fl(t:SnV):t.cs.all AV.flat=true:=rfl
theorem SnV.tk(t:SnV):t.cs.take 3=t.cs:=rfl
def Two(c d:Int)(b1 b2:Bool):Prop:=(d=c/\(c !=0)=true/\(c !=10)=true/\True/\True)\/(c=0/\d=0/\True/\True/\b1=false/\b2=false)\/(c=0/\d=10/\True/\True/\b1=false/\b2=true)\/(c=10/\d=0/\True/\True/\b1=true/\b2=false)\/(c=10/\d=10/\True/\True/\b1=true/\b2=true)
theorem uy{c:Prop} [Decidable c](v:Int)(h:(v !=0)=true/\(v !=10)=true){x y:Int}{b1 b2:Bool}(t:Two x y b1 b2):Two (if c then v else x) (if c then v else y) b1 b2:=by
 by_cases k:c
 ·rw[if_pos k,if_pos k];exact .inl ⟨rfl,h.1,h.2,trivial,trivial⟩
 ·rw[if_neg k,if_neg k];exact t
theorem ae1(b1 b2:Bool):Two (if b1=true then 10 else 0) (if b2=true then 10 else 0) b1 b2:=by
 cases b1<;>cases b2<;>simp[Two]
theorem ai8(size pl dl:Int)(od:Bool)(e1 e2 e3:Int)(en:Bool)(tv pv:Int)(b1 b2:Bool):Two (IQ size pl dl od e1 e2 e3 en tv pv b1) (IQ size pl dl od e1 e2 e3 en tv pv b2) b1 b2:=
 uy _ ⟨rfl,rfl⟩ (uy _ ⟨rfl,rfl⟩ (uy _ ⟨rfl,rfl⟩ (uy _ ⟨rfl,rfl⟩ (uy _ ⟨rfl,rfl⟩ (uy _ ⟨rfl,rfl⟩ (uy _ ⟨rfl,rfl⟩ (uy _ ⟨rfl,rfl⟩ (uy _ ⟨rfl,rfl⟩ (ae1 b1 b2)))))))))
theorem aiA(size e1 e2 e3:Int)(en:Bool)(b1 b2:Bool):Two (IV size e1 e2 e3 en b1) (IV size e1 e2 e3 en b2) b1 b2:=
 uy _ ⟨rfl,rfl⟩ (uy _ ⟨rfl,rfl⟩ (uy _ ⟨rfl,rfl⟩ (uy _ ⟨rfl,rfl⟩ (uy _ ⟨rfl,rfl⟩ (uy _ ⟨rfl,rfl⟩ (ae1 b1 b2))))))
theorem abz (hC:Has C tZ tu) (hv:Has C iV eP) (h:Bool) (l:List eG) (data:LU) (O:St) (hσ:Ok O):
  ai C tZ [.agg (byA h l),.str data] O=some (.bool (wR l||decide (12000<data.length)),O):=by
 rw[hC.go (NVs.hand (.cons (Rh h l) (.cons (.str _) .nil)) _)];have ty:=fun b=>df hσ (vs:=[.bool b]) rfl;have e:decide ((12000:Int)<(data.length:Int))=decide (12000<data.length):=by rw[Bool.eq_iff_iff];simp;omega
 unfold byA;cases hl:wR l<;>simp only[tu,Bool.true_or,Ju hv,hl,e,ty,AV.cells,EVX,seval]
theorem wz (l:List PS) (O:St):∀(n i acc:Nat),i+n=l.length->acc<=15010->(acc<5000->10*i<=acc)->
  aB C (ai C) 35 [0,3,4] bW [(0,.sl l.length (l.flatMap pC)),(3,.int .i64 acc),(4,.int .i64 i)] O=some (.exit 0,[(3,.int .i64 (lhN (l.drop i) acc:Nat))],O)
 |0,i,acc,hi,ha,hb=>by
  rw[aA (he:=rfl)];have h:¬((i:Int)<(l.length:Int)):=by omega
  have h':l.drop i=[]:=List.drop_eq_nil_of_le (by omega)
  simp only[bW,h,h',lhN,bH,EVX,seval]
 |n+1,i,acc,hi,ha,hbb=>by
  rw[aA (he:=rfl)];have h:((i:Int)<(l.length:Int)):=by omega
  have h2:i<l.length:=by omega
  have hb:l[i]?=some l[i]:=List.getElem?_eq_getElem h2;have h':l.drop i=l[i]::l.drop (i+1):=List.drop_eq_getElem_cons h2;have h3:(0:Int)<=i:=by omega
  have fl:=dA DZ l;have fd:=lL DZ hb;obtain⟨p,hpe⟩:∃p,p=l[i]:=⟨_,rfl⟩;rw[<-hpe]at fd h';have pc:pC p=[.str p.1,.str p.2]:=rfl;rw[h',lhN];by_cases hc:acc<5000
  ·have hc':((acc:Int)<5000):=by omega
   have hw:=wrS i (by omega)
   have w1:IntKind.i64.wrap ((acc:Int)+10)=((acc+10:Nat):Int):=wrE (by omega)
   have w2:IntKind.i64.wrap (((acc+10:Nat):Int)+((min 5000 p.1.length:Nat):Int))=((acc+10+min 5000 p.1.length:Nat):Int):=wrE (by omega)
   have w3:IntKind.i64.wrap (((acc+10+min 5000 p.1.length:Nat):Int)+((min 5000 p.2.length:Nat):Int))=((acc+10+min 5000 p.1.length+min 5000 p.2.length:Nat):Int):=wrE (by omega)
   have ih:=wz l O n (i+1) (acc+10+min 5000 p.1.length+min 5000 p.2.length) (by omega) (by omega) (by omega)
   rw[if_pos hc,<-ih];generalize hk:aB C (ai C) 35 [0,3,4] bW=k at*;simp only[bW,h,h2,h3,hc',hw,w1,w2,w3,ZZ,fl,fd,pc,bH,List.cons_append,EVX,seval]
  ·have hc':¬((acc:Int)<5000):=by omega
   rw[if_neg hc];simp only[bW,h,hc',bH,EVX,seval]
theorem NT(hC:Has C nK nC)(l:List PS)(O:St):ai C nK [.sl l.length (l.flatMap pC)] O=some (.bool (Tm l),O):=by
 rw[hC.go (NVs.hand (.cons (uJ l) .nil) _)];have lp:=wz (C:=C) l O l.length 0 0 (by omega) (by omega) (by omega)
 simp only[Int.cast_ofNat_Int,List.drop_zero]at lp;have e:decide ((5000:Int)<=(lhN l 0:Int))=Tm l:=by unfold Tm;rw[Bool.eq_iff_iff];simp;omega
 simp only[nC,lp,e,EVX,seval]
structure NE(C:Ctx):Prop where
 hashes:Has C nK nC
 auth:Has C lF sW
 keys:Has C pI kK
 by_:Has C xM qE
def X0(p:yD)(a:fD)(ks:List PS):Bool:=decide (1000<p.name.length)||(Tm p.hashes||(Am [a]||DW ks))
theorem XW (h:NE C) (p:yD) (a:fD) (ks:List PS) (O:St) (hσ:Ok O):
  ai C xM [.agg p.cs,.agg a.cs,.sl ks.length (ks.flatMap pC)] O=some (.bool (X0 p a ks),O):=by
 rw[h.by_.go (NVs.hand (.cons (amC p) (.cons (acA a) (.cons (adn ks) .nil))) _)];have ty:=fun b=>df hσ (vs:=[.bool b]) rfl;have pc:p.cs=[.str p.name,.int .i64 p.version,.int .i64 p.length,.sl p.hashes.length (p.hashes.flatMap pC)]:=rfl;have ac:a.cs=[.int .i64 a.th,.sl a.ids.length (a.ids.flatMap sC)]:=rfl;have q1:=fun Y=>NT h.hashes p.hashes Y;have q2:∀Y,ai C lF [.xsl 1 a.cs] Y=some (.bool (Am [a]),Y):=fun Y=>by
  have:=Td h.auth [a] (by simp) Y
  simpa using this
 have q3:=fun Y=>Fq h.keys ks Y;rw[ac]at q2;unfold X0;by_cases c:1000<p.name.length
 ·have c':(1000:Int)<(p.name.length:Int):=by omega
  simp only[qE,pc,ac,c,c',ty,Bool.true_or,AV.cells,EVX,seval]
 ·have c':¬(1000:Int)<(p.name.length:Int):=by omega
  cases c1:Tm p.hashes<;>cases c2:Am [a]<;>simp only[qE,pc,ac,c,c',c1,c2,q1,q2,q3,ty,Bool.true_or,Bool.false_or,AV.cells,EVX,seval]
structure aaO(C:Ctx):Prop extends JudHas C where
 both:Has C zQ sZ
 ver:Has C vC uP
theorem ajg (H:aaO C) (h:Bool) (l:List eG) (hl:l.length<=60) (O:St) (hσ:Ok O):
  ai C zQ [.agg (byA h l)] O=some (.tup [.ref (O.length+1) 0,.ref (O.length+2) 0],O++[.cells (byA h l) FZ,Ou h l,aaf h l]):=by
 have tk:∀Y,tidy O.length [.ref (O.length+1) 0,.ref (O.length+2) 0] Y=Y:=fun Y=>wX (by simp[ae,below]) Y
 have b2:(byA h l).length=2:=rfl;have bl:byA h l=[.bool h,Nw l]:=rfl;have q1:=ajA H.toJudHas (O++[.cells (byA h l) FZ]);have q2:=aiI H.toJudHas l hl (O++[.cells (byA h l) FZ]);have sl:same (Nw l) (Nw l)=true:=by
  refine Yk _ _ fun v hv=>?_;obtain⟨x,_,hx⟩:=List.mem_flatMap.mp hv;simp only[eG.cs,List.mem_cons,List.not_mem_nil,or_false]at hx;rcases hx with rfl|rfl|rfl<;>exact CW _
 have fl:AV.flat (Nw l)=true:=rfl;have cl:AV.cells (Nw l)=[Nw l]:=rfl;have ca:∀l,AV.cells (.agg l)=l:=fun _=>rfl;have cs:∀x:AV,splice [.bool false,.nils] 1 [x]=[.bool false,x]:=fun _=>rfl;rw[H.both.go (NVs.hand (.cons (Rh h l) .nil) _)];cases h
 ·simp only[sZ,bl,AV.cells,EVX,seval];simp only[bl]at q2;simp only[q2,Ou,aaf,sl,fl,cl,cs,ca,tk,EVX,seval]
 ·simp only[sZ,bl,AV.cells,EVX,seval];simp only[bl]at q1;simp only[q1,Ou,aaf,tk,AV.cells,EVX,seval]
theorem anj (H:aaO C) (h:Bool) (l:List eG) (hl:l.length<=60) (O:St) (hσ:Ok O):
  ai C vC [.agg (byA h l)] O=some (.ref (O.length+2) 0,O++[.cells (byA h l) FZ,.cells (byA h l) FZ,Ou h l,aaf h l]):=by
 have tk:∀Y,tidy O.length [.ref (O.length+2) 0] Y=Y:=fun Y=>wX (by simp[ae,below]) Y
 have b2:(byA h l).length=2:=rfl;have bt:(byA h l).take 2=byA h l:=rfl;have ca:∀l,AV.cells (.agg l)=l:=fun _=>rfl;have nb:(AO.cells (byA h l) FZ).below 0=true:=by
  have:=(Rh h l).cl;rw[below]at this;exact this
 have q1:=ajg H h l hl (O++[.cells (byA h l) FZ]) (hσ.more (by simp only[List.all_cons,List.all_nil,nb,Bool.and_true]))
 rw[H.ver.go (NVs.hand (.cons (Rh h l) .nil) _)];simp only[uP,ca,b2,bt,q1,tk,EVX,seval]
def Tn(r:Eg):Bool:=DW r.ks||Am [r.rt,r.sn,r.tg]
theorem Tf(hC:Has C pJ pz)(h:NE C)(r:Eg)(O:St)(hσ:Ok O):ai C pJ [.agg r.cs] O=some (.bool (Tn r),O):=by
 rw[hC.go (NVs.hand (.cons (.agg r.nvs) .nil) _)];have ty:=fun b=>df hσ (vs:=[.bool b]) rfl;have q2:∀Y,ai C lF [.xsl 3 [.int .i64 r.rt.th,.sl r.rt.ids.length (r.rt.ids.flatMap sC),.int .i64 r.sn.th,.sl r.sn.ids.length (r.sn.ids.flatMap sC),.int .i64 r.tg.th,.sl r.tg.ids.length (r.tg.ids.flatMap sC)]] Y=some (.bool (Am [r.rt,r.sn,r.tg]),Y):=fun Y=>Td h.auth [r.rt,r.sn,r.tg] (by simp) Y
 have q3:=fun Y=>Fq h.keys r.ks Y;unfold Tn Eg.cs;cases c:DW r.ks<;>simp only[pz,c,q2,q3,ty,Bool.true_or,Bool.false_or,AV.cells,AV.flat,splice,EVX,seval]
variable{V:Val}
theorem akh{a:AV}(h:UW a=true):NV a:=by
 cases a<;>first|(cases h;done)|exact .bool _|exact .int _ _|exact .str _
theorem aan{l:LA}(h:l.all UW=true):NVs l:=fun v hv=>akh (List.all_eq_true.mp h v hv)
theorem afc{l:LA}(h:l.all UW=true):l.all AV.flat=true:=by
 rw[List.all_eq_true]at*;intro v hv;have:=h v hv;cases v<;>first|(cases this;done)|rfl
theorem ab7(hC:Has C aZ jK)(n:Nat)(l:LA)(hl:l.length=n*3)(h0:0<n)(hn:n<=1099511627776)(hs:l.all UW=true)(O:St)(hσ:Ok O):ai C aZ [.sl n l] O=some (.sl n l,O):=by
 have ns:=aan hs;rw[hC.go (NVs.hand (.cons (.sl n ns.cl) .nil) _)];have fa:=afc hs;have h1:¬n=0:=by omega
 have ap:=fun Y:St=>aaT Y none (sz:=3) (bytes:=48) (n:=0) (m:=n) (l:=[]) l h1 rfl (by omega) (by omega)
 simp only[Nat.zero_add,List.nil_append]at ap;have ft:l.take (n*3)=l:=List.take_of_length_le (by omega)
 have nr:∀Y,bZ Y 11 l=some (l,[]):=fun Y=>by
  show aJ Y (bZ Y 10) l=_;exact ns.nf _ _
 have hd:∀Y:St,hand false [.msl Y.length 0 n 3] (Y++[.cells l FZ])=some ([.sl n l],Y++[.cells l ⟨true,none⟩]):=fun Y=>by
  have hle:0+n*3<=l.length:=by omega
  have:aU (Y++[.cells l FZ]) (bZ (Y++[.cells l FZ]) 11) (.msl Y.length 0 n 3)=some (.sl n l,[Y.length]):=by
   unfold aU;rw[cu];show(if 0+n*3<=l.length then match bZ _ 11 ((l.drop 0).take (n*3))with|some (l,fs)=>some (AV.sl n l,Y.length::fs)|none=>none else none)=_
   rw[if_pos hle,List.drop_zero,ft,nr]
  rw[sN,aP,this,zt];show some ([AV.sl n l],freeze (Y++[.cells l FZ]) [Y.length])=_;unfold freeze;rw[cu];show some ([AV.sl n l],freeze ((Y++[AO.cells l FZ]).set Y.length (AO.cells l ⟨true,none⟩)) [])=_;rw[Ee];rfl
 have ty:=fun L=>df hσ (vs:=[.sl n l]) (by rw[ae,below,ns.cl];rfl) L
 have e:∀(E:As) (Y:St),look E 2=.msl O.length 0 n 3->Y=O++[AO.cells l FZ]->BN O.length [.tmp 2] (some (.ret,E,Y))=some (.sl n l,O):=fun E Y hE hτ=>by
  subst hτ;rw[qJ,show bI E (O++[AO.cells l FZ]) [.tmp 2]=some [look E 2]from rfl,hE];dsimp only;rw[hd];dsimp only;rw[ty];rfl
 generalize hK:BN=eR at*;simp only[jK,hl,h0,fa,ap,EVX,seval];rw[<-hK]at*;exact e _ _ rfl rfl
theorem VT:∀(l:List LU) (n:Nat),liN l n<5000->n+10*l.length<=liN l n/\∀s∈l,s.length<5000
 |[],n,h=>⟨by simp[liN],fun s hs=>by cases hs⟩
 |s::l,n,h=>by
  unfold liN at*;split at h
  ·rename_i hn;rw[if_pos hn];obtain⟨a,b⟩:=VT l _ h;refine⟨by simp only[List.length_cons];omega,fun t ht=>?_⟩
   rcases List.mem_cons.mp ht with rfl|ht
   ·omega
   ·exact b t ht
  ·omega
theorem WH{th:Int}{ids:List LU}(h:Am [⟨th,ids⟩]=false):YK ids:=by
 have h:liN ids 0<5000:=Nat.not_le.mp (of_decide_eq_false h);obtain⟨a,b⟩:=VT ids 0 h;exact⟨by omega,fun s hs=>by have:=b s hs;simp only[LB];omega⟩
theorem Ug{l:List PS}(h:DW l=false):NC l:=by
 simp only[DW,Bool.or_eq_false_iff,decide_eq_false_iff_not,List.any_eq_false,ZP,Bool.not_eq_true]at h;refine⟨by omega,fun p hp=>?_⟩
 have:=h.2 p hp;simp only[LB];omega
theorem BD{l:List eG}(h:wR l=false):l.length<=8192/\∀p∈l,p.id.length<=LB/\p.sig.length<=LB/\p.dig.length<=LB:=by
 simp only[wR,Bool.or_eq_false_iff,decide_eq_false_iff_not,List.any_eq_false,ZQ,Bool.not_eq_true]at h;refine⟨by omega,fun p hp=>?_⟩
 have:=h.2 p hp;simp only[LB];omega
theorem ami{th:Int}{ids:List LU}(h:YK ids):M V (.agg [.int .i64,.slx [.strb]]) (.agg (aC th ids)):=
 .agg _ _ (.one _ _ _ _ rfl (.int _ _) (.one _ _ _ _ rfl (abH ids (fun s hs=>.one _ _ _ _ rfl (.strb _ (h.2 s hs)) .nil) h.1) .nil))
theorem ahr{l:List PS}(h:NC l):M V (.slx [.strb,.strb]) (.sl l.length (l.flatMap pC)):=
 abH l (fun p hp=>.one _ _ _ _ rfl (.strb _ (h.2 p hp).1) (.one _ _ _ _ rfl (.strb _ (h.2 p hp).2) .nil)) h.1
theorem ajL{l:List eG}(h:wR l=false):M V (.slx [.strb,.strb,.strb]) (Nw l):=
 abH l (fun p hp=>.one _ _ _ _ rfl (.strb _ ((BD h).2 p hp).1) (.one _ _ _ _ rfl (.strb _ ((BD h).2 p hp).2.1) (.one _ _ _ _ rfl (.strb _ ((BD h).2 p hp).2.2) .nil))) (BD h).1
end Go.Ev
namespace Go.Ev
set_option maxRecDepth 100000
set_option maxHeartbeats 4000000
variable{C:Ctx}
structure afu(C:Ctx):Prop where
 lby:NE C
 verd:Has C iV eP
 lng:Has C tZ tu
 ver:aaO C
 same:aaM C
 awake:∀O,Ok O->ai C kF [] O=some (.bool true,O)
def aiR(h:Bool)(l:List eG):St:=[.cells (byA h l) FZ,.cells (byA h l) FZ,Ou h l,aaf h l]
theorem aiS(h:Bool)(l:List eG):(aiR h l).all (AO.below 0)=true:=by
 have nb:(AO.cells (byA h l) FZ).below 0=true:=by
  have:=(Rh h l).cl;rw[below]at this;exact this
 have vb:(Ou h l).below 0=true:=by
  cases h
  ·simp[Ou,Yz,AO.below,ae,below,JU]
  ·rfl
 have rb:(aaf h l).below 0=true:=by
  cases h
  ·simp[aaf,AO.below,ae,below,JU]
  ·rfl
 unfold aiR;simp only[List.all_cons,List.all_nil,nb,vb,rb,Bool.and_true]
theorem NU (P:WV C) (H:afu C) (hS:QL C) (hR:Has C pJ pz) (hL:Has C nM fP) (h:Bool) (l:List eG) (pin:yD) (a:fD) (ks:List PS) (now thn:Int) (data:LU) (size:Int) (r:Eg) (O:St) (hσ:Ok O):
  ai C nM [.agg (byA h l),.agg pin.cs,.agg a.cs,.sl ks.length (ks.flatMap pC),.int .i64 now,.int .i64 thn,.str data,.int .i64 size,.agg r.cs] O=some (.bool true,O):=by
 have nb:(AO.cells (byA h l) FZ).below 0=true:=by
  have:=(Rh h l).cl;rw[below]at this;exact this
 have np:(AO.cells pin.cs FZ).below 0=true:=pin.bel;have na:(AO.cells a.cs FZ).below 0=true:=a.below;have nr:(AO.cells r.cs FZ).below 0=true:=r.nvs.cl;rw[hL.go (NVs.hand (.cons (Rh h l) (.cons (.agg pin.nvs) (.cons (acA a) (.cons (uJ ks) (.cons (.int _ _) (.cons (.int _ _) (.cons (.str _) (.cons (.int _ _) (.cons (.agg r.nvs) .nil))))))))) _)];have okB:Ok (O++[.cells (byA h l) FZ,.cells pin.cs FZ,.cells a.cs FZ,.cells r.cs FZ]):=hσ.more (by simp only[List.all_cons,List.all_nil,nb,na,np,nr,Bool.and_true])
 have ty:=fun b=>df hσ (vs:=[.bool b]) rfl;have q1:=abz H.lng H.verd h l data _ okB;have q2:=XW H.lby pin a ks _ okB;have q3:=Tf hR H.lby r _ okB;have q6:=H.awake _ okB;have a2:a.cs.length=2:=rfl;have at2:a.cs.take 2=a.cs:=rfl;have p2:pin.cs.length=4:=rfl;have pt2:pin.cs.take 4=pin.cs:=rfl;have r2:r.cs.length=9:=rfl;have rt2:r.cs.take 9=r.cs:=rfl;have b2:(byA h l).length=2:=rfl;have bt2:(byA h l).take 2=byA h l:=rfl;cases c1:(wR l||decide (12000<data.length))
 case true=>
  rw[c1]at q1;simp only[fP,q1,q6,ty,b2,bt2,AV.cells,EVX,seval]
 rw[c1]at q1;cases c2:X0 pin a ks
 case true=>
  rw[c2]at q2;simp only[fP,q1,q2,q6,ty,a2,at2,b2,bt2,p2,pt2,AV.cells,EVX,seval]
 rw[c2]at q2;cases c3:Tn r
 case true=>
  rw[c3]at q3;simp only[fP,q1,q2,q3,q6,ty,a2,at2,b2,bt2,p2,pt2,r2,rt2,AV.cells,EVX,seval]
 rw[c3]at q3;have hl60:l.length<=60:=by
  simp only[wR,Bool.or_eq_false_iff,decide_eq_false_iff_not]at c1;omega
 have dl:data.length<=LB:=by
  simp only[Bool.or_eq_false_iff,decide_eq_false_iff_not]at c1;simp only[LB];omega
 have v1:=anj H.ver h l hl60 _ okB;have c4:wR l=false:=(Bool.or_eq_false_iff.mp c1).1;have c5:Tm pin.hashes=false/\Am [a]=false/\DW ks=false:=by
  unfold X0 at c2;simp only[Bool.or_eq_false_iff]at c2;exact c2.2
 have c6:DW r.ks=false/\Am [r.rt,r.sn,r.tg]=false:=Bool.or_eq_false_iff.mp c3;obtain⟨T,e1,e2,e3,en,od,ov,tok,qo,qr⟩:=ai7 P h l a.th a.ids ks data c4 (WH (th:=a.th) c5.2.1) (Ug c5.2.2) dl;obtain⟨S,f1,f2,f3,fn,ow,sok,wo,wr⟩:=aiz P h l r data c4 (WH (th:=r.sn.th) (ac5 c6.2 (by simp))) (Ug c6.1) dl
 have tw:=ai8 size pin.length data.length (od pin.hashes) e1 e2 e3 en T.ver pin.version (ov now) (ov thn);have sw:=aiA size f1 f2 f3 fn (ow now) (ow thn);have hh:=Yp c5.1;have r0:∀now Y o,Ok Y->Y[o]?=some (Ou h l)->ai C zf [.ref o 0,.agg pin.cs,.agg a.cs,.sl ks.length (ks.flatMap pC),.int .i64 now,.str data,.int .i64 size] Y=some (.tup [.agg (apK T (IQ size pin.length data.length (od pin.hashes) e1 e2 e3 en T.ver pin.version (ov now))).cs,.int .u8 (IQ size pin.length data.length (od pin.hashes) e1 e2 e3 en T.ver pin.version (ov now))],Y):=fun now Y o hτ ho=>by
  rw[<-ak9];exact qr pin.name pin.version pin.length pin.hashes now size Y o hh hτ ho
 have s0:∀now Y o,Ok Y->Y[o]?=some (Ou h l)->ai C qY [.ref o 0,.agg r.cs,.int .i64 now,.str data,.int .i64 size] Y=some (.tup [.agg (TV S (IV size f1 f2 f3 fn (ow now))).cs,.int .u8 (IV size f1 f2 f3 fn (ow now))],Y):=fun now Y o hτ ho=>by
  rw[<-ak6];exact wr now size Y o hτ ho
 have rn:=r0 now;have rt:=r0 thn;have sn:=s0 now;have st:=s0 thn;clear r0 s0 qr wr;obtain⟨c,hc⟩:∃c,IQ size pin.length data.length (od pin.hashes) e1 e2 e3 en T.ver pin.version (ov now)=c:=⟨_,rfl⟩;obtain⟨d,hd⟩:∃c,IQ size pin.length data.length (od pin.hashes) e1 e2 e3 en T.ver pin.version (ov thn)=c:=⟨_,rfl⟩;obtain⟨c',hc'⟩:∃c,IV size f1 f2 f3 fn (ow now)=c:=⟨_,rfl⟩;obtain⟨d',hd'⟩:∃c,IV size f1 f2 f3 fn (ow thn)=c:=⟨_,rfl⟩;rw[hc]at rn tw;rw[hd]at rt tw;rw[hc']at sn sw;rw[hd']at st sw;have spT:∀t:wG,splice [.int .i64 0,.int .i64 0,.nils,.nils,.nils,.int .i64 0,.nils,.int .i64 0,.str []] 0 t.cs=t.cs:=fun t=>rfl;have spS:∀t:SnV,splice [.int .i64 0,.int .i64 0,.nils] 0 t.cs=t.cs:=fun t=>rfl;have nvO:=aiS h l;unfold aiR at nvO;obtain⟨B,hB⟩:∃B,byA h l=B:=⟨_,rfl⟩;obtain⟨V,hV⟩:∃V,Ou h l=V:=⟨_,rfl⟩;obtain⟨R,hR'⟩:∃R,aaf h l=R:=⟨_,rfl⟩;obtain⟨A,hA⟩:∃A,a.cs=A:=⟨_,rfl⟩;obtain⟨N,hN⟩:∃A,pin.cs=A:=⟨_,rfl⟩;obtain⟨Q,hQ⟩:∃A,r.cs=A:=⟨_,rfl⟩;simp only[hB,hV,hR',hA,hN,hQ]at q1 q2 q3 q6 v1 nvO nb na np nr okB b2 bt2 a2 at2 p2 pt2 r2 rt2 rn rt sn st⊢;simp only[List.all_cons,List.all_nil,Bool.and_true,Bool.and_eq_true]at nvO;have hT:∀t:wG,AO.below 0 (.cells t.cs FZ)=true:=fun t=>t.nvs.cl;have hSn:∀t:SnV,AO.below 0 (.cells t.cs FZ)=true:=fun t=>t.nvs.cl;have ok:∀G:St,G.all (AO.below 0)=true->Ok (O++([.cells B FZ,.cells N FZ,.cells A FZ,.cells Q FZ,.cells B FZ,.cells B FZ,V,R]++G)):=fun G hG=>hσ.more (by
  rw[List.all_append,hG];simp only[List.all_cons,List.all_nil,nb,na,np,nr,nvO,Bool.and_true])
 have hv:∀G:St,(O++([.cells B FZ,.cells N FZ,.cells A FZ,.cells Q FZ,.cells B FZ,.cells B FZ,V,R]++G))[O.length+6]?=some V:=fun G=>by rw[dW];rfl
 have k1:=rn _ _ (ok [] rfl) (hv _);have k2:=rt _ _ (ok [.cells (apK T c).cs FZ] (by simp only[List.all_cons,hT];rfl)) (hv _)
 have k3:=abY H.same (apK T c) (aka tok c) _ (ok [.cells (apK T c).cs FZ,.cells (apK T d).cs FZ] (by simp only[List.all_cons,hT];rfl))
 have k4:=sn _ _ (ok [.cells (apK T c).cs FZ,.cells (apK T d).cs FZ] (by simp only[List.all_cons,hT];rfl)) (hv _)
 have k5:=st _ _ (ok [.cells (apK T c).cs FZ,.cells (apK T d).cs FZ,.cells (TV S c').cs FZ] (by simp only[List.all_cons,hT,hSn];rfl)) (hv _)
 have k6:=abX hS (TV S c') (ak7 sok c') _ (ok [.cells (apK T c).cs FZ,.cells (apK T d).cs FZ,.cells (TV S c').cs FZ,.cells (TV S d').cs FZ] (by simp only[List.all_cons,hT,hSn];rfl))
 clear rn rt sn st ok hv;have rT0:∀T,apK T 0=T:=fun _=>if_pos rfl;have rT1:∀T,apK T 10=ano:=fun _=>if_neg (by decide)
 have rS0:∀T,TV T 0=T:=fun _=>if_pos rfl;have rS1:∀T,TV T 10=ap6:=fun _=>if_neg (by decide)
 have on:=qo now;have ot:=qo thn;have pn:=wo now;have pt:=wo thn;clear qo wo;have hdT:∀t:wG,(List.drop 1 t.cs).head? =some (.int .i64 t.exp):=fun _=>rfl;have hdS:∀t:SnV,(List.drop 1 t.cs).head? =some (.int .i64 t.exp):=fun _=>rfl;rcases tw with⟨rfl,n0,n10,g1,g2⟩|⟨rfl,rfl,n0,n10,g1,g2⟩|⟨rfl,rfl,n0,n10,g1,g2⟩|⟨rfl,rfl,n0,n10,g1,g2⟩|⟨rfl,rfl,n0,n10,g1,g2⟩;all_goals rcases sw with⟨rfl,m0,m10,g3,g4⟩|⟨rfl,rfl,m0,m10,g3,g4⟩|⟨rfl,rfl,m0,m10,g3,g4⟩|⟨rfl,rfl,m0,m10,g3,g4⟩|⟨rfl,rfl,m0,m10,g3,g4⟩
 all_goals
  simp only[g1,g2,g3,g4,rT0,rT1,rS0,rS1,List.cons_append,List.nil_append]at k1 k2 k3 k4 k5 k6 on ot pn pt;simp only[fP,q1,q2,q3,q6,v1,k1,k2,k3,k4,k5,k6,on,ot,pn,pt,n0,n10,m0,m10,hdT,hdS,ty,a2,at2,b2,bt2,p2,pt2,r2,rt2,spT,spS,wG.len,wG.tk,wG.fl,SnV.len,SnV.tk,SnV.fl,AV.cells,List.append_assoc,beq_self_eq_true,bne_self_eq_false,EVX,seval]
variable{PK:PkI}
theorem ahs{V:Val}{v:AV}(h:M V .strb v):∃s,v=.str s/\s.length<=LB:=wO h
theorem af1(H:xk C PK):afv C PK rD:=by
 intro O0 o p ms Y I hl;obtain⟨v,O2,e1,m1,k1,k2,k3,k4⟩:=FT (azs:=[.str [95,116,121,112,101]]) H.text I.ok (.cons (.str _) .nil) I.pk (Oq _ (by simp[LB]) .nil)
 obtain⟨s,rfl,_⟩:=ahs m1;have I2:=I.pick k1 k2 k3 k4;have hn:hand false [.ref o 0,.ref p 0] Y=some ([.ref o 0,.ref p 0],Y):=rfl;rw[H.pType.go hn];cases c:decide (s=[115,110,97,112,115,104,111,116])with
 |true=>
  refine⟨_,?_,I2.tidy [] (by omega) I.pl I.lt hl,Gi (by omega)⟩
  simp only[wE,e1,c,jA,AV.cells,AV.flat,EVX,seval]
 |false=>
  obtain⟨w,O3,f1,n1,j1,j2,j3,j4⟩:=FT (azs:=[.int .i64 13]) H.fail I2.ok (.cons (.int _ _) .nil) I2.pk (PR _ .nil);refine⟨_,?_,(I2.pick j1 j2 j3 j4).tidy [] (by omega) I.pl I.lt hl,Gi (by omega)⟩
  simp only[wE,e1,c,f1,jA,AV.cells,AV.flat,EVX,seval]
theorem Yd(H:xk C PK):afv C PK nV:=by
 intro O0 o p ms Y I hl;obtain⟨v,O2,e1,m1,k1,k2,k3,k4⟩:=FT (azs:=[.str [118,101,114,115,105,111,110],.int .i64 1,.int .i64 1099511627776]) H.num I.ok (.cons (.str _) (.cons (.int _ _) (.cons (.int _ _) .nil))) I.pk (Oq _ (by simp[LB]) (PR _ (PR _ .nil)))
 obtain⟨n,rfl⟩:=II m1;have I2:=I.pick k1 k2 k3 k4;obtain⟨a,b,hs⟩:=I2.s;have hn:hand false [.ref o 0,.ref p 0] Y=some ([.ref o 0,.ref p 0],Y):=rfl;rw[H.pVersion.go hn];refine⟨_,?_,(I2.set n b).tidy [] (by rw[List.length_set];omega) I.pl I.lt hl,Gi (by rw[List.length_set];omega)⟩
 simp only[yO,e1,hs,splice,AV.cells,AV.flat,EVX,seval]
theorem aht{V:Val}{a b:Sh}{v:AV}(h:M V (.tup [a,b]) v):∃x y,v=.tup [x,y]/\M V a x/\M V b y:=by
 cases h with|tup _ l h=>obtain⟨x,y,rfl,h1,h2⟩:=agL h;exact⟨x,y,rfl,h1,h2⟩
theorem Yc(H:xk C PK):afv C PK nU:=by
 intro O0 o p ms Y I hl;obtain⟨v,O2,e1,m1,k1,k2,k3,k4⟩:=FT (azs:=[.str [101,120,112,105,114,101,115]]) H.text I.ok (.cons (.str _) .nil) I.pk (Oq _ (by simp[LB]) .nil)
 obtain⟨s,rfl,hs⟩:=ahs m1;have I2:=I.pick k1 k2 k3 k4;obtain⟨w,e2,m2⟩:=yK H.when (.cons (.str s) .nil) (Oq _ hs .nil) I2.ok;obtain⟨x,y,rfl,q1,q2⟩:=aht m2;obtain⟨n,rfl⟩:=II q1;obtain⟨e,rfl⟩:=II q2;obtain⟨w,O3,f1,n1,j1,j2,j3,j4⟩:=FT (azs:=[.int .i64 e]) H.fail I2.ok (.cons (.int _ _) .nil) I2.pk (PR _ .nil);have I3:=I2.pick j1 j2 j3 j4;obtain⟨a,b,hs⟩:=I3.s;have hn:hand false [.ref o 0,.ref p 0] Y=some ([.ref o 0,.ref p 0],Y):=rfl;rw[H.pExpires.go hn];refine⟨_,?_,(I3.set a n).tidy [] (by rw[List.length_set];omega) I.pl I.lt hl,Gi (by rw[List.length_set];omega)⟩
 simp only[yN,e1,e2,f1,hs,splice,AV.cells,AV.flat,EVX,seval]
theorem ms1{V:Val}{s:Sh}{t:List Sh}{l:LA}(hs:s.one=true)(h:Ms V (s::t) l):∃v b,l=v::b/\M V s v/\Ms V t b:=by
 cases h with
 |one _ _ v b h1 h2 h3=>exact⟨v,b,rfl,h2,h3⟩
 |jv _ j b h=>cases hs
 |jg _ _ _ j r h1 h2=>cases hs
theorem af4{l:LA}(h:Ms V0 MP l):∃(s:LU) (a b:Int) (rs:List LA),l=[.str s,.int .i64 a,.int .i64 b,.sl rs.length rs.flatten]/\ae 0 rs.flatten=true:=by
 obtain⟨v1,b1,rfl,h1,k1⟩:=ms1 rfl h;obtain⟨v2,b2,rfl,h2,k2⟩:=ms1 rfl k1;obtain⟨v3,b3,rfl,h3,k3⟩:=ms1 rfl k2;obtain⟨v4,b4,rfl,h4,k4⟩:=ms1 rfl k3;cases k4;obtain⟨s,rfl,_⟩:=wO h1;obtain⟨a,rfl⟩:=II h2;obtain⟨b,rfl⟩:=II h3;cases h4 with
 |slx _ rs hl hr=>
  exact⟨s,a,b,rs,rfl,(MRs.nvs (by rfl) hr).cl⟩
def U3(n0 p vb:Nat)(os:List Nat)(Y:St)(i:Nat)(x:AV):Prop:=(i=0/\x=.nils)\/(0<i/\∃q rs,x=.msl q 0 i 4/\rs.length=i/\Y[q]?=some (.cells rs.flatten FZ)/\MRs V0 MP rs/\q∉os/\q≠p/\n0<=q/\q≠vb)
def ap8(PK:PkI)(O0:St)(o p:Nat)(ms:List Nat)(Y:St)(x:RX):Prop:=∃Y' x',(x=some (.exit 0,[],Y')\/x=some (.ret,[],Y'))/\SI PK O0 o p ms x' Y'/\Y.length<=Y'.length
theorem U3.of{n0 p vb i:Nat}{os:List Nat}{Y:St}{x:AV}(hi:i<=8192)(h:U3 n0 p vb os Y i x):Xc n0 p os Y x:=by
 rcases h with⟨_,rfl⟩|⟨_,q,rs,rfl,e1,e2,e3,e4,e5,e6,_⟩
 ·exact .inl rfl
 ·exact .inr ⟨q,rs,by rw[e1],e2,by rw[e1];exact hi,e3,e4,e5,e6⟩
theorem aj3 {Y:St} {n0 p vb i:Nat} {os:List Nat} {x:AV} {l:LA} (h:U3 n0 p vb os Y i x) (hl:Ms V0 MP l) (hi:i<=8192) (hok:Ok Y):
  ∃(S:St) (rs:List LA),qV Y 4 56 none x 1 l=some (.msl Y.length 0 (i+1) 4,S++[.cells rs.flatten FZ])/\rs.length=i+1/\MRs V0 MP rs/\S.length=Y.length/\(∀k y,k∈os\/k=p\/k<n0\/k=vb->Y[k]?=some y->S[k]?=some y)/\Ok S:=by
 rcases h with⟨rfl,rfl⟩|⟨h0,q,rs,rfl,e1,e2,e3,e4,e5,e6,e7⟩
 ·refine⟨Y,[l],?_,rfl,MRs.one hl,rfl,fun _ _ _ h=>h,hok⟩;rw[Dj _ none l (by omega) (by omega) (by omega)]
  simp
 ·refine⟨Y.set q .dead,rs++[l],?_,by simp[e1],e3.app (MRs.one hl),by simp,fun k y hk h=>aI h (fun e=>?_) _,hok.set2 _ rfl⟩
  ·rw[NF l e2 (by omega) (by rw[MRs.len e3,e1];rfl) (by omega) (by omega)]
   simp
  ·subst e;rcases hk with hk|hk|hk|hk
   ·exact e4 hk
   ·exact e5 hk
   ·omega
   ·exact e7 hk
theorem VX (H:xk C PK) (O0:St) (o p vb:Nat) (ms:List Nat) (c0 c1 c2:AV) (ns:List LU) (is:List JV) (hle:ns.length<=is.length) (h8:is.length<=8192) (hns:∀x∈ns,x.length<=LB) (hvp:vb≠p) (hvo:vb∉o::ms) (hv0:O0.length<=vb):∀(n i:Nat),i+n=ns.length->∀(x:AV) (Y:St),SI PK O0 o p ms x Y->U3 O0.length p vb (o::ms) Y i x->O0.length<=Y.length->
  Y[vb]?=some (.cells [c0,c1,c2,.sl ns.length (ns.map .str),.sl is.length (aG is)] FZ)->
  ap8 PK O0 o p ms Y (aB C (ai C) 45 [0,1,4,12,13,14] dB [(0,.ref o 0),(1,.ref p 0),(4,.ref vb 0),(12,.sl ns.length (ns.map .str)),(13,.int .i64 ns.length),(14,.int .i64 i)] Y)
 |0,i,hi,x,Y,I,hm,hl,hv=>by
  have h:¬((i:Int)<(ns.length:Int)):=by omega
  refine⟨Y,x,.inl ?_,I,Nat.le_refl _⟩;rw[aA (he:=rfl)];simp only[dB,h,EVX,seval]
 |n+1,i,hi,x,Y,I,hm,hl,hv=>by
  have h:((i:Int)<(ns.length:Int)):=by omega
  have h2:i<is.length:=by omega
  have h2n:i<ns.length:=by omega
  have w2:=wrS i (by omega)
  have p2:(0:Int)<=(i:Int):=by omega
  have d2:=uG is i h2;have dr:=Un ns i h2n;have sl:=iZ is;have sn:(ns.map AV.str).length=ns.length:=by simp
  have hx:ns[i].length<=LB:=hns _ (List.getElem_mem h2n);generalize is[i]=j at*;generalize ns[i]=s at*;generalize aG (is.drop (i+1))=R at*;have jl:=JV.len j;have jf:=JV.flat j;have jt:(j.cs++R).take 5=j.cs:=by rw[<-jl];simp
  have je:5<=(j.cs++R).length:=by simp[jl]
  obtain⟨v,e1,m1⟩:=yK H.pin (azs:=[.str s,j.av]) (.cons (.str s) (.cons j.nv .nil)) (Oq _ hx (.cons _ _ _ _ (.jv j) .nil)) I.ok;obtain⟨a,b,rfl,m2,m3⟩:=aht m1;obtain⟨e,rfl⟩:=II m3;cases m2 with
  |agg _ l ml=>
  obtain⟨s1,a1,b1,rs1,rfl,hb⟩:=af4 ml;have hL:([.cells [.str s1,.int .i64 a1,.int .i64 b1,.sl rs1.length rs1.flatten] FZ]:St).all (AO.below (Y.length+1))=true:=by
   simp only[List.all_cons,List.all_nil,Bool.and_true,AO.below,ae,below,Bool.true_and];exact aK (Nat.zero_le _) _ hb
  have I1:=I.plus _ hL;have g1:=fun L=>fH (show Y.length=Y.length from rfl) L;have s1':=fun L y=>pV (show Y.length=Y.length from rfl) L y;unfold JV.av at e1;cases ce:(e !=0)with
  |true=>
   obtain⟨w,O3,f1,n1,j1,j2,j3,j4⟩:=FT (azs:=[.int .i64 e]) H.fail I1.ok (.cons (.int _ _) .nil) I1.pk (PR _ .nil);refine⟨O3,x,.inr ?_,I1.pick j1 j2 j3 j4,by rw[j2];simp⟩
   rw[aA (he:=rfl)];generalize hk:aB C (ai C) 45 [0,1,4,12,13,14] dB=kk at*;simp only[dB,h,h2,h2n,w2,p2,d2,dr,sl,sn,hv,e1,ce,f1,g1,s1',jl,jf,jt,je,splice,Int.toNat_natCast,AV.cells,AV.flat,EVX,seval]
  |false=>
   have hm1:U3 O0.length p vb (o::ms) (Y++[AO.cells [.str s1,.int .i64 a1,.int .i64 b1,.sl rs1.length rs1.flatten] FZ]) i x:=by
    rcases hm with hm|⟨h0,q,rs,y1,y2,y3,y4,y5,y6,y7,y8⟩
    ·exact .inl hm
    ·exact .inr ⟨h0,q,rs,y1,y2,aF y3 _,y4,y5,y6,y7,y8⟩
   obtain⟨S,rs,t1,t2,t3,t4,t5,t6⟩:=aj3 hm1 ml (by omega) I1.ok
   rw[List.length_append,List.length_cons,List.length_nil]at t1 t4;simp only[Nat.zero_add]at t1 t4;obtain⟨a0,b0,hs⟩:=I1.s;have hs2:=t5 p _ (.inr (.inl rfl)) hs;have pv:=fun L y=>eF hs2 L y;have gv:=fun L=>aF hs2 L;have pl:=I.pl;have ok3:Ok (S.set p (.cells [.int .i64 a0,.int .i64 b0,.msl (Y.length+1) 0 (i+1) 4] FZ)++[.cells rs.flatten FZ]):=by
    have:=(t6.plus (L:=[.cells rs.flatten FZ]) (by
     rw[List.all_cons,show AO.below 0 (.cells rs.flatten FZ)=true from(MRs.nvs (by rfl) t3).cl];rfl)).set2 p (x:=.cells [.int .i64 a0,.int .i64 b0,.msl (Y.length+1) 0 (i+1) 4] FZ) (by
     simp only[AO.below,ae,below,Bool.and_true,Bool.true_and,decide_eq_true_eq,List.length_append,List.length_cons,List.length_nil,t4];omega)
    rwa[pv]at this
   have L3:(S.set p (.cells [.int .i64 a0,.int .i64 b0,.msl (Y.length+1) 0 (i+1) 4] FZ)).length=Y.length+1:=by rw[List.length_set,t4]
   have blk:(S.set p (.cells [.int .i64 a0,.int .i64 b0,.msl (Y.length+1) 0 (i+1) 4] FZ)++[.cells rs.flatten FZ]:St)[Y.length+1]?=some (.cells rs.flatten FZ):=by rw[fH L3];rfl
   have no:Y.length+1∉o::ms:=fun hi=>by have:=I.lt _ hi;omega
   have vl:vb<Y.length:=(List.getElem?_eq_some_iff.mp hv).1;have I3:SI PK O0 o p ms (.msl (Y.length+1) 0 (i+1) 4) (S.set p (.cells [.int .i64 a0,.int .i64 b0,.msl (Y.length+1) 0 (i+1) 4] FZ)++[.cells rs.flatten FZ]):=by
    refine⟨ok3,PK.fr I1.pk fun k hk=>?_,fun k hk=>by rw[List.length_append,L3];have:=I.lt k hk;omega,I.ge,I.np,I.gp,⟨a0,b0,aF (bM hs2 _) _⟩,.inr ⟨_,rs,by rw[t2],blk,by rw[t2];simp only[LS];omega,t3,no,by omega,by omega⟩,fun k y hy=>?_⟩
    ·have hk2:=I1.lt k hk;have e:=List.getElem?_eq_getElem hk2;rw[e];exact aF (aI (t5 k _ (.inl hk) e) (fun e'=>I.np (by rw[<-e'];exact hk)) _) _
    ·have:=(List.getElem?_eq_some_iff.mp hy).1;have:=I.gp;exact aF (aI (t5 k _ (.inr (.inr (.inl (by omega)))) (I1.keep k y hy)) (by omega) _) _
   have mi3:U3 O0.length p vb (o::ms) (S.set p (.cells [.int .i64 a0,.int .i64 b0,.msl (Y.length+1) 0 (i+1) 4] FZ)++[.cells rs.flatten FZ]) (i+1) (.msl (Y.length+1) 0 (i+1) 4):=
    .inr ⟨by omega,_,rs,rfl,t2,blk,t3,no,by omega,by omega,by omega⟩
   obtain⟨Y',x',r1,r2,r3⟩:=VX H O0 o p vb ms c0 c1 c2 ns is hle h8 hns hvp hvo hv0 n (i+1) (by omega) _ _ I3 mi3 (by rw[List.length_append,L3];omega) (aF (aI (t5 vb _ (.inr (.inr (.inr rfl))) (aF hv _)) hvp _) _)
   have go:∀r,aB C (ai C) 45 [0,1,4,12,13,14] dB [(0,.ref o 0),(1,.ref p 0),(4,.ref vb 0),(12,.sl ns.length (ns.map .str)),(13,.int .i64 ns.length),(14,.int .i64 (i+1:Nat))] (S.set p (.cells [.int .i64 a0,.int .i64 b0,.msl (Y.length+1) 0 (i+1) 4] FZ)++[.cells rs.flatten FZ])=r->aB C (ai C) 45 [0,1,4,12,13,14] dB [(0,.ref o 0),(1,.ref p 0),(4,.ref vb 0),(12,.sl ns.length (ns.map .str)),(13,.int .i64 ns.length),(14,.int .i64 i)] Y=r:=fun r er=>by
    have xf:x.flat=true:=by
     rcases hm with⟨_,rfl⟩|⟨_,q,_,rfl,_⟩<;>rfl
    rw[aA (he:=rfl)];generalize hk:aB C (ai C) 45 [0,1,4,12,13,14] dB=kk at*;simp only[dB,h,h2,h2n,w2,p2,d2,dr,sl,sn,hv,e1,ce,hs,t1,pv,gv,er,xf,g1,s1',jl,jf,jt,je,splice,Int.toNat_natCast,AV.cells,AV.flat,EVX,seval]
   refine⟨Y',x',r1.imp (fun e=>go _ e) (fun e=>go _ e),r2,by rw[List.length_append,L3]at r3;omega⟩
theorem af0(H:xk C PK):anv C PK ry:=by
 intro O0 o p ms Y I hl;obtain⟨v,O2,e1,m1,k1,k2,k3,k4⟩:=FT (azs:=[.str [109,101,116,97],.int .i64 256]) H.obj I.ok (.cons (.str _) (.cons (.int _ _) .nil)) I.pk (Oq _ (by simp[LB]) (PR _ .nil))
 have I2:=I.pick k1 k2 k3 k4;obtain⟨j,rfl⟩:=VL m1;obtain⟨k,n,t,ns,is,h1,h3,h2,h4,rfl⟩:=j.ex;have ca:(JV.mk k n t ns is h1 h3 h2 h4).av=.agg [.int .u8 k,.int .i64 n,.str t,.sl ns.length (ns.map .str),.sl is.length (aG is)]:=by unfold JV.av;rw[JV.mk_cs]
 rw[ca]at e1;have hL:([.cells [.int .u8 k,.int .i64 n,.str t,.sl ns.length (ns.map .str),.sl is.length (aG is)] FZ]:St).all (AO.below (O2.length+1))=true:=by
  have:=aK (Nat.zero_le (O2.length+1)) _ (JV.bel (JV.mk k n t ns is h1 h3 h2 h4));rw[JV.mk_cs]at this;simp only[List.all_cons,List.all_nil,Bool.and_true,AO.below];exact this
 have I3:=I2.plus _ hL;have bx:(O2++[AO.cells [.int .u8 k,.int .i64 n,.str t,.sl ns.length (ns.map .str),.sl is.length (aG is)] FZ]:St)[O2.length]?=some (.cells [.int .u8 k,.int .i64 n,.str t,.sl ns.length (ns.map .str),.sl is.length (aG is)] FZ):=by rw[fH rfl];rfl
 have s1:=fun L y=>pV (show O2.length=O2.length from rfl) L y;obtain⟨Y',x',r1,r2,r3⟩:=VX H O0 o p O2.length ms _ _ _ ns is h1 h2 h4.ns (by have:=I2.pl;omega) (fun hi=>by have:=I2.lt _ hi;omega) (by omega) ns.length 0 (by omega) .nils _ I3 (.inl ⟨rfl,rfl⟩) (by simp;omega) bx
 simp only[List.length_append,List.length_cons,List.length_nil]at r3;have hn:hand false [.ref o 0,.ref p 0] Y=some ([.ref o 0,.ref p 0],Y):=rfl;rw[H.pMeta.go hn];refine⟨_,x',?_,r2.tidy [] (by omega) I.pl I.lt hl,Gi (by omega)⟩
 simp only[Int.natCast_zero,Int.cast_ofNat_Int]at r1;rcases r1 with r1|r1
 ·simp only[wC,e1,bx,s1,r1,splice,AV.cells,AV.flat,He,List.cons_append,EVX,seval]
 ·simp only[wC,e1,bx,s1,r1,splice,AV.cells,AV.flat,He,List.cons_append,EVX,seval]
def FP:LA:=[.func (.func rD) [] [],.func (.func nV) [] [],.func (.func nU) [] [],.func (.func ry) [] []]
theorem aa7(H:xk C PK)(O:St):ai C Lh [] O=some (.sl 4 FP,O):=by
 rw[H.parts.go (by rfl)]
 have hh:hand false [.xsl 4 FP] O=some ([.sl 4 FP],O):=rfl;simp only[JZ,AV.cells,AV.flat,rep,EVX,seval];rfl
theorem Qu (H:xk C PK) (O0:St) (o p n2:Nat) (ms:List Nat) (f:FuncId) (i:Nat) (hi:i<4) (R:LA) (hd:FP.drop i=.func (.func f) [] []::R) (Y Y':St) (hp:ai C f [.ref o 0,.ref p 0] (Y++[.cells [.func (.func f) [] []] FZ])=some (bi [],Y')):
  aB C (ai C) 33 [2,4,5,15,16,17] oU [(2,.ref n2 0),(4,.ref o 0),(5,.ref p 0),(15,.sl 4 FP),(16,.int .i64 4),(17,.int .i64 i)] Y=aB C (ai C) 33 [2,4,5,15,16,17] oU [(2,.ref n2 0),(4,.ref o 0),(5,.ref p 0),(15,.sl 4 FP),(16,.int .i64 4),(17,.int .i64 (i+1:Nat))] Y':=by
 have h:((i:Int)<(4:Int)):=by omega
 have w2:=wrS i (by omega)
 have p2:(0:Int)<=(i:Int):=by omega
 have pl:FP.length=4:=rfl;have g1:=fun L=>fH (show Y.length=Y.length from rfl) L;have s1:=fun L y=>pV (show Y.length=Y.length from rfl) L y
 conv=>lhs;rw[aA (he:=rfl)]
 generalize hk:aB C (ai C) 33 [2,4,5,15,16,17] oU=kk at*;simp only[oU,h,hi,w2,p2,pl,hd,hp,g1,s1,jk,splice,Int.toNat_natCast,AV.cells,AV.flat,EVX,seval]
theorem Zj {O Y:St} {p:Nat} {os:List Nat} {n0:Nat} (hσ:Ok O) (hn0:O.length<=n0) (a b e:Int) (x:AV) (hm:Xc n0 p os Y x) (E:As) (h2:look E 2=.ref (O.length+1) 0) (h3:look E 3=.int .i64 e) (hl:Y[O.length+1]?=some (.cells [.int .i64 a,.int .i64 b,x] FZ)) (ht:Y.take O.length=O):
  ∃v,BN O.length [.cell 2 true 3,.tmp 3] (some (.ret,E,Y))=some (v,O)/\M V0 (.tup [.agg [.int .i64,.int .i64,.slx MP],.int .i64]) v:=by
 have m0:∀rs,rs.length<=LS->MRs V0 MP rs->M V0 (.tup [.agg [.int .i64,.int .i64,.slx MP],.int .i64]) (.tup [.agg [.int .i64 a,.int .i64 b,.sl rs.length rs.flatten],.int .i64 e]):=fun rs h1 h2=>
  .tup _ _ (.cons _ _ _ _ (.agg _ _ (.one _ _ _ _ rfl (.int _ _) (.one _ _ _ _ rfl (.int _ _) (.one _ _ _ _ rfl (.slx _ rs h1 h2) .nil)))) (PR e .nil))
 have xf:x.flat=true:=by
  rcases hm with rfl|⟨q,_,rfl,_⟩<;>rfl
 rw[qJ];have hr:bI E Y [.cell 2 true 3,.tmp 3]=some [.agg [.int .i64 a,.int .i64 b,x],.int .i64 e]:=by
  simp only[bI,h2,h3,hl,pt,AV.flat,List.drop_zero,List.length_cons,List.length_nil,List.take,List.all_cons,List.all_nil,xf];rfl
 rw[hr];dsimp only;rcases hm with rfl|⟨q,rs,rfl,e2,e3,e4,e5,e6,e7⟩
 ·have hh:hand false [.agg [.int .i64 a,.int .i64 b,.nils],.int .i64 e] Y=some ([.agg [.int .i64 a,.int .i64 b,.sl 0 []],.int .i64 e],Y):=by
   rw[sN,aP,bu,aP,aP,aP,dE,zt];rfl
  rw[hh];dsimp only;rw[yA hσ rfl ht];exact⟨_,rfl,m0 [] (by simp) (.nil _)⟩
 ·have nv:=MRs.nvs (by rfl) e4
  have hh:hand false [.agg [.int .i64 a,.int .i64 b,.msl q 0 rs.length 4],.int .i64 e] Y=some ([.agg [.int .i64 a,.int .i64 b,.sl rs.length rs.flatten],.int .i64 e],Y.set q (.cells rs.flatten ⟨true,none⟩)):=by
   rw[sN,aP,bu,aP,aP,aP,N8 e2 (show rs.flatten.length=rs.length*4 from MRs.len e4) nv,zt,<-Ah e2];rfl
  rw[hh];dsimp only;rw[yA hσ (by simp only[ae,below,nv.cl,Bool.and_true]) (by rw[cZ _ _ _ (by omega),ht])]
  exact⟨_,rfl,m0 rs e3 e4⟩
theorem ac7(H:xk C PK)(j:JV)(O:St)(hσ:Ok O):∃v,ai C ru [j.av] O=some (v,O)/\M V0 (.tup [.agg [.int .i64,.int .i64,.slx MP],.int .i64]) v:=by
 have hn:hand false [j.av] O=some ([j.av],O):=NVs.hand (.cons j.nv .nil) _;have ok2:Ok (O++[.cells j.cs FZ,.cells [.int .i64 0,.int .i64 0,.nils] FZ]):=hσ.plus (by rw[List.all_cons,show AO.below 0 (.cells j.cs FZ)=true from j.bel];rfl)
 obtain⟨vm,m1,m2⟩:=yK H.May (azs:=[j.av]) (.cons j.nv .nil) (.cons _ _ _ _ (.jv j) .nil) ok2;obtain⟨b,rfl⟩:=FC m2;have jl:=JV.len j;have jf:=JV.flat j;have jt':j.cs.take 5=j.cs:=List.take_of_length_le (by rw[JV.len];exact Nat.le_refl _)
 have je':5<=j.cs.length:=by rw[JV.len];exact Nat.le_refl _
 have m0:∀e,M V0 (.tup [.agg [.int .i64,.int .i64,.slx MP],.int .i64]) (.tup [.agg [.int .i64 0,.int .i64 0,.sl 0 []],.int .i64 e]):=fun e=>
  .tup _ _ (.cons _ _ _ _ (.agg _ _ (.one _ _ _ _ rfl (.int _ _) (.one _ _ _ _ rfl (.int _ _) (.one _ _ _ _ rfl (.slx _ [] (by simp) (.nil _)) .nil)))) (PR e .nil))
 cases b with
 |false=>
  have ty:=fun(e:Int)=>df hσ (vs:=[.agg [.int .i64 0,.int .i64 0,.sl 0 []],.int .i64 e]) rfl;refine⟨_,?_,m0 3⟩;unfold JV.av at*;rw[H.snapOf.go hn];simp only[Gm,m1,jl,jf,jt',je',ty,bI,bu,dE,AV.cells,AV.flat,splice,EVX,seval]
 |true=>
  obtain⟨L,o,ms,f1,f2,f3,f4⟩:=H.of _ [j.av] [j.av] _ ok2 (NVs.hand (.cons j.nv .nil) _) ok2 (.cons _ _ _ _ (.jv j) .nil);generalize hp:O++[AO.cells j.cs FZ,.cells [.int .i64 0,.int .i64 0,.nils] FZ]=O2 at*;have l2:O2.length=O.length+2:=by rw[<-hp];simp
  have lo:(((4:Nat):Int))=4:=rfl;have g0:O2[O.length]?=some (.cells j.cs FZ):=by rw[<-hp,cu];rfl
  have lT:O2.length<=(O2++L).length:=by simp
  have kT:∀(i:Nat) (y:AO),O2[i]?=some y->(O2++L)[i]?=some y:=fun i y hy=>aF hy _;generalize hT:O2++L=T at*;have I0:SI PK O2 o T.length ms .nils (T++[.cells [.int .i64 0,.int .i64 0,.nils] FZ]):=by
   refine⟨f2.plus rfl,PK.fr f4 fun i hi=>by rw[List.getElem?_append_left (f3 i hi).2],fun i hi=>by have:=(f3 i hi).2;rw[List.length_append];omega,fun i hi=>(f3 i hi).1,fun hi=>by have:=(f3 _ hi).2;omega,lT,⟨0,0,by rw[fH rfl];rfl⟩,.inl rfl,fun i y hy=>aF (kT i y hy) _⟩
  have fb:∀(f:FuncId) (n:Nat),([.cells [.func (.func f) [] []] FZ]:St).all (AO.below n)=true:=fun f n=>rfl;obtain⟨Y1,p1,I1,l1⟩:=af1 H O2 o _ ms _ (I0.plus _ (fb rD _)) (by rw[List.length_append,List.length_append];omega)
  obtain⟨Y2,p2,I2,k2⟩:=Yd H O2 o _ ms _ (I1.plus _ (fb nV _)) (by simp only[List.length_append,List.length_cons,List.length_nil]at l1⊢;omega)
  obtain⟨Y3,p3,I3,k3⟩:=Yc H O2 o _ ms _ (I2.plus _ (fb nU _)) (by simp only[List.length_append,List.length_cons,List.length_nil]at l1 k2⊢;omega)
  obtain⟨Y4,x,p4,I4,k4⟩:=af0 H O2 o _ ms _ (I3.plus _ (fb ry _)) (by simp only[List.length_append,List.length_cons,List.length_nil]at l1 k2 k3⊢;omega)
  have q1:=Qu H O2 o _ (O.length+1) ms _ 0 (by omega) _ rfl _ _ p1
  have q2:=Qu H O2 o _ (O.length+1) ms _ 1 (by omega) _ rfl _ _ p2
  have q3:=Qu H O2 o _ (O.length+1) ms _ 2 (by omega) _ rfl _ _ p3
  have q4:=Qu H O2 o _ (O.length+1) ms _ 3 (by omega) _ rfl _ _ p4
  have q5:aB C (ai C) 33 [2,4,5,15,16,17] oU [(2,.ref (O.length+1) 0),(4,.ref o 0),(5,.ref T.length 0),(15,.sl 4 FP),(16,.int .i64 4),(17,.int .i64 (3+1:Nat))] Y4=some (.exit 0,[(2,.ref (O.length+1) 0),(4,.ref o 0),(5,.ref T.length 0)],Y4):=by
   rw[aA (he:=rfl)];have h:¬((((3+1:Nat):Nat):Int)<(4:Int)):=by omega
   simp only[oU,h,EVX,seval]
  rw[q2]at q1;rw[q3]at q1;rw[q4,q5]at q1;obtain⟨w,O3,d1,d2,j1,j2,j3,j4⟩:=FT (azs:=[]) H.done I4.ok .nil I4.pk .nil;obtain⟨e,rfl⟩:=II d2;have I5:=I4.pick j1 j2 j3 j4;obtain⟨a,b,hs⟩:=I5.s;have hres:O3[O.length+1]?=some (.cells [.int .i64 0,.int .i64 0,.nils] FZ):=I5.keep _ _ (by rw[<-hp,dW];rfl)
  have hpre:O3.take O.length=O:=by
   apply List.ext_getElem?;intro i;rw[List.getElem?_take];split
   ·rename_i hi;have h1:O2[i]?=some O[i]:=by rw[<-hp];exact aF (List.getElem?_eq_getElem hi) _
    rw[I5.keep i _ h1,List.getElem?_eq_getElem hi]
   ·rw[List.getElem?_eq_none (by omega)]
  have pt2:∀y:AO,(O3.set (O.length+1) y).take O.length=O:=fun y=>by rw[cZ _ _ _ (by omega),hpre]
  have sr:=fun y=>bM hres y;unfold JV.av at*;rw[H.snapOf.go hn];simp only[Int.natCast_zero,Int.cast_ofNat_Int]at q1;cases ce:(e !=0)with
  |true=>
   obtain⟨v,v1,v2⟩:=Zj (n0:=O2.length) (p:=0) (os:=[]) (Y:=O3.set (O.length+1) (.cells [.int .i64 0,.int .i64 0,.nils] FZ)) hσ (by omega) 0 0 e .nils (.inl rfl) [(2,.ref (O.length+1) 0),(3,.int .i64 e)] rfl rfl (sr _) (pt2 _)
   refine⟨v,?_,v2⟩;rw[<-v1];simp only[Gm,m1,f1,aa7 H,q1,d1,ce,hres,g0,fH,pV,jl,jf,jt',je',hp,AV.cells,AV.flat,splice,EVX,seval]
  |false=>
   have e0:e=0:=by simpa using ce
   have mf:x.flat=true:=by
    rcases I5.meta_ with rfl|⟨q,_,rfl,_⟩<;>rfl
   have m5:Xc O2.length T.length (o::ms) (O3.set (O.length+1) (.cells [.int .i64 a,.int .i64 b,x] FZ)) x:=by
    rcases I5.meta_ with hm|⟨q,rs,y1,y2,y3,y4,y5,y6,y7⟩
    ·exact .inl hm
    ·exact .inr ⟨q,rs,y1,aI y2 (by omega) _,y3,y4,y5,y6,y7⟩
   obtain⟨v,v1,v2⟩:=Zj (Y:=O3.set (O.length+1) (.cells [.int .i64 a,.int .i64 b,x] FZ)) hσ (by omega) a b 0 x m5 [(2,.ref (O.length+1) 0),(3,.int .i64 0)] rfl rfl (sr _) (pt2 _)
   refine⟨v,?_,v2⟩;rw[<-v1];clear v1 v2 m5;rcases I5.meta_ with hx|⟨q,rs,hx,_⟩<;>subst hx<;>simp only[Gm,m1,f1,aa7 H,q1,d1,ce,hres,hs,g0,fH,pV,jl,jf,jt',je',hp,AV.cells,AV.flat,splice,EVX,seval]
theorem aed {tg:Option (TypeId×Bool)} (O:St) (k:Nat) (acc cs:LU) (m:Nat) (hm:cs.length=m) (h0:0<m) (hl:acc.length+m<=70368744177664):
  qV (pile O k (.cells (ofBytes acc) FZ)) 1 1 tg (.msl (O.length+k) 0 acc.length 1) m (ofBytes cs)=some (.msl (O.length+(k+1)) 0 (acc++cs).length 1,pile O (k+1) (.cells (ofBytes (acc++cs)) FZ)):=by
 have hm0:¬m=0:=by omega
 have ht:(if none=tg then tg else none)=none:=by split<;>simp_all
 unfold qV;rw[if_neg hm0];simp only[FQ];rw[if_pos ⟨trivial,by rw[au];omega,by omega,hl⟩,aa8,Px,FK,List.length_append,hm,ht]
theorem ady{O:St}(h:Ok O)(k:Nat)(acc:LU)(fz:Fz):Ok (pile O k (.cells (ofBytes acc) fz)):=by
 unfold pile;refine h.app ?_;rw[List.all_append,Bool.and_eq_true];refine⟨?_,by simp[AO.below,iT]⟩
 rw[List.all_eq_true];intro x hx;obtain⟨_,rfl⟩:=List.mem_replicate.mp hx;rfl
theorem aks(v:Int):∃b:UInt8,IntKind.u8.wrap v=(b.toNat:Int):=by
 have h:0<=IntKind.u8.wrap v/\IntKind.u8.wrap v<256:=by rw[IntKind.wrap_u8];omega
 refine⟨UInt8.ofNat (IntKind.u8.wrap v).toNat,?_⟩;simp only[UInt8.toNat_ofNat'];omega
structure QD(C:Ctx)(PK:PkI):Prop where
 decode:Has C zg yT
 is:fC C PK EZ (.pure [.strb] .bool)
 digit:fC C PK jS (.pure [.strb,.int .i64] (.tup [.int .i64,.bool]))
theorem Zb(H:QD C PK)(s:LU)(hs:s.length<=LB)(i:Int){O:St}(hσ:Ok O):∃(d:Int) (b:Bool),ai C jS [.str s,.int .i64 i] O=some (.tup [.int .i64 d,.bool b],O):=by
 obtain⟨v,h1,h2⟩:=yK H.digit (.cons (.str s) (.cons (.int .i64 i) .nil)) (.cons _ _ _ _ (.strb s hs) (.cons _ _ _ _ (.int _ _) .nil)) hσ;obtain⟨w,rfl,hw⟩:=agP h2;obtain⟨x,y,rfl,hx,hy⟩:=agL hw;obtain⟨d,rfl⟩:=II hx;obtain⟨b,rfl⟩:=FC hy;exact⟨d,b,h1⟩
theorem O4 (H:QD C PK) (s:LU) (hs:s.length<=LB) (O:St) (hσ:Ok O):∀(n i k:Nat) (acc:LU),i+2*n=s.length->acc.length+n<=s.length->
  ∃(k':Nat) (acc':LU),aB C (ai C) 50 [0,4,5] oh [(0,.str s),(4,.msl (O.length+k) 0 acc.length 1),(5,.int .i64 i)] (pile O k (.cells (ofBytes acc) FZ))=
   some (.exit 0,[(4,.msl (O.length+k') 0 acc'.length 1)],pile O k' (.cells (ofBytes acc') FZ))/\acc'.length<=s.length
 |0,i,k,acc,hi,ha=>by
  refine⟨k,acc,?_,by omega⟩
  rw[aA (he:=rfl)];have h:¬((i:Int)<(s.length:Int)):=by omega
  simp only[oh,h,bH,EVX,seval]
 |n+1,i,k,acc,hi,ha=>by
  have hs':=hs;simp only[LB]at hs';have h:((i:Int)<(s.length:Int)):=by omega
  have hw1:=wrS i (by omega)
  have hw2:IntKind.i64.wrap ((i:Int)+2)=((i+2:Nat):Int):=wrE (by omega)
  obtain⟨d1,b1,e1⟩:=Zb H s hs (i:Int) (ady hσ k acc FZ);obtain⟨d2,b2,e2⟩:=Zb H s hs ((i+1:Nat):Int) (ady hσ k acc FZ);have n4:¬((4:Int)<0):=by decide
  obtain⟨v,hv⟩:∃v,v=(BitVec.ofInt IntKind.i64.bits (IntKind.i64.wrap (d1*2^(min (4:Nat) IntKind.i64.bits)))|||BitVec.ofInt IntKind.i64.bits d2).toNat:=⟨_,rfl⟩;obtain⟨b,hb⟩:=aks (IntKind.i64.wrap (v:Int));have happ:∀tg,qV (pile O k (.cells (ofBytes acc) FZ)) 1 1 tg (.msl (O.length+k) 0 acc.length 1) 1 [.int .u8 b.toNat]=some (.msl (O.length+(k+1)) 0 (acc++[b]).length 1,pile O (k+1) (.cells (ofBytes (acc++[b])) FZ)):=fun tg=>aed O k acc [b] 1 rfl (by omega) (by omega)
  obtain⟨k',acc',ih,hl⟩:=O4 H s hs O hσ n (i+2) (k+1) (acc++[b]) (by omega) (by simp;omega)
  refine⟨k',acc',?_,hl⟩;rw[aA (he:=rfl)];generalize hk:aB C (ai C) 50 [0,4,5] oh=rest at*;simp only[oh,h,hw1,hw2,e1,e2,n4,<-hv,hb,happ,ih,bH,splice,EVX,seval]
theorem hex_Decode(H:QD C PK)(s:LU)(hs:s.length<=LB)(O:St)(hσ:Ok O):∃(t:LU) (e:Int),ai C zg [.str s] O=some (.tup [.str t,.int .i64 e],O)/\t.length<=LB:=by
 rw[H.decode.go (NVs.hand (.cons (.str _) .nil) _)];have hs':=hs;simp only[LB]at hs';obtain⟨v,h1,h2⟩:=yK H.is (.cons (.str s) .nil) (.cons _ _ _ _ (.strb s hs) .nil) hσ;obtain⟨b,rfl⟩:=FC h2;cases b with
 |false=>exact⟨[],3,by simp only[yT,h1,aX,EVX,seval],by simp[LB]⟩
 |true=>
  have n2:¬((2:Int)=0):=by decide
  cases hr:((s.length:Int).tmod 2 !=0)with
  |true=>exact⟨[],4,by simp only[yT,h1,n2,hr,aX,EVX,seval],by simp[LB]⟩
  |false=>
   have hr':(s.length:Int).tmod 2=0:=by simpa using hr
   rw[Int.tmod_eq_emod_of_nonneg (by omega)]at hr'
   obtain⟨k',acc',lp,hl⟩:=O4 H s hs O hσ (s.length/2) 0 0 [] (by omega) (by simp;omega)
   simp only[List.length_nil,Nat.add_zero,Int.cast_ofNat_Int]at lp;have hw:IntKind.i64.wrap ((s.length:Int).tdiv 2)=((s.length/2:Nat):Int):=by
    have:(s.length:Int).tdiv 2=((s.length/2:Nat):Int):=by rw[Int.tdiv_eq_ediv_of_nonneg (by omega)];omega
    rw[this,w64]<;>omega
   have c1:(0:Int)<=((s.length/2:Nat):Int):=by omega
   have c2:((s.length/2:Nat):Int)<=9223372036854775807:=by omega
   have c3:((s.length/2:Nat):Int)<=140737488355328:=by omega
   have c0:(0:Int)<=0:=by decide
   have hp:O++[AO.cells [] FZ]=pile O 0 (.cells (ofBytes []) FZ):=rfl;have hb:=qI acc';have ht:(ofBytes acc').take acc'.length=ofBytes acc':=List.take_of_length_le (by rw[au];omega)
   have hy:tidy O.length [.str acc',.int .i64 0] (pile O k' (.cells (ofBytes acc') FZ))=O:=WM hσ rfl _ _;refine⟨acc',0,?_,by omega⟩
   simp only[yT,h1,n2,hr,hw,c0,c1,c2,c3,hp,lp,hb,ht,hy,FQ,au,Int.toNat_zero,Int.one_mul,Nat.mul_one,List.drop_zero,Nat.zero_add,and_self,EVX,seval]
theorem UY(H:QD C PK):fC C PK zg (.pure [.strb] (.tup [.strb,.int .i64])):=
 sQ H.decode rfl fun azs hm=>by
  obtain⟨x,rfl,h1⟩:=SQ hm;obtain⟨a,rfl,ha⟩:=wO h1;intro O hσ;obtain⟨t,e,h,ht⟩:=hex_Decode H a ha O hσ;exact⟨_,h,.tup _ _ (.cons _ _ _ _ (.strb t ht) (.cons _ _ _ _ (.int _ _) .nil))⟩
theorem Yr(H:Gp C)(hC:Has C fK oP):fC C PK fK (.pure [.strb] (.tup [.jv,.int .i64,.int .i64])):=
 sQ hC rfl fun azs hm=>by
  obtain⟨x,rfl,h1⟩:=SQ hm;obtain⟨a,rfl,ha⟩:=wO h1;intro O hσ;obtain⟨j,p,e,h⟩:=af6 H hC a O hσ;exact⟨_,h,.tup _ _ (.cons _ _ _ _ (.jv j) (.cons _ _ _ _ (.int _ _) (.cons _ _ _ _ (.int _ _) .nil)))⟩
theorem Yu(H:Di C PK):fC C PK mQ (.pure [.jv] .bool):=
 sQ H.May rfl fun azs hm=>by
  obtain⟨x,rfl,h1⟩:=SQ hm;obtain⟨j,rfl⟩:=VL h1;intro O hσ;obtain⟨b,h,_⟩:=Nu H j O hσ;exact⟨_,h,.bool b⟩
theorem U0(H:CopyHas C):fC C PK zi (.pure [.jv] .jv):=
 sQ H.copy rfl fun azs hm=>by
  obtain⟨x,rfl,h1⟩:=SQ hm;obtain⟨j,rfl⟩:=VL h1;intro O hσ;exact⟨_,JR H j O hσ,.jv j⟩
theorem Yt(H:CopyHas C)(F:Qc C)(hC:Has C xU uA):fC C PK xU (.pure [.jv,.strb] (.tup [.jv,.bool])):=
 sQ hC rfl fun azs hm=>by
  obtain⟨x,y,rfl,h1,h2⟩:=agL hm;obtain⟨j,rfl⟩:=VL h1;obtain⟨s,rfl,_⟩:=wO h2;intro O hσ;obtain⟨j',b,h⟩:=afn H F hC j s O hσ;exact⟨_,h,.tup _ _ (.cons _ _ _ _ (.jv j') (.cons _ _ _ _ (.bool b) .nil))⟩
theorem P8(H:I7 C)(V:Di C PK)(hC:Has C dR uO):fC C PK dR (.pure [.jv] (.tup [.strb,.int .i64])):=
 sQ hC rfl fun azs hm=>by
  obtain⟨x,rfl,h1⟩:=SQ hm;obtain⟨j,rfl⟩:=VL h1;intro O hσ;obtain⟨s,e,h,hl⟩:=PW H V j O hσ;exact⟨_,h,.tup _ _ (.cons _ _ _ _ (.strb s hl) (.cons _ _ _ _ (.int _ _) .nil))⟩
theorem aav(H:Xe C)(hC:Has C qg sK):fC C PK qg (.pure [.slc 2 [.strb,.jv,.strb,.jv]] (.tup [.jv,.int .i64])):=
 sQ hC rfl fun azs hm=>by
  obtain⟨x,rfl,h1⟩:=SQ hm;obtain⟨l,rfl,h2⟩:=agO h1;intro O hσ;cases h2 with
  |one _ _ v1 b1 _ x1 y1=>
   obtain⟨s1,rfl,l1⟩:=wO x1;cases y1 with
   |one _ _ _ _ h _ _=>exact absurd h (by decide)
   |jv _ j1 b2 y2=>
    cases y2 with
    |one _ _ v3 b3 _ x3 y3=>
     obtain⟨s2,rfl,l2⟩:=wO x3;cases y3 with
     |one _ _ _ _ h _ _=>exact absurd h (by decide)
     |jv _ j2 b4 y4=>
      cases y4;obtain⟨j,e,h⟩:=aa0 H [(⟨s1,l1⟩,j1),(⟨s2,l2⟩,j2)] (by simp) (by simp) O hσ
      have e1:jE [(⟨s1,l1⟩,j1),(⟨s2,l2⟩,j2)]=.str s1::(j1.cs++.str s2::(j2.cs++[])):=by simp[jE,elC]
      rw[e1]at h;exact⟨_,h,.tup _ _ (.cons _ _ _ _ (.jv j) (.cons _ _ _ _ (.int _ _) .nil))⟩
variable{V:Val}
theorem ac6(H:xk C PK):fC C PK ru (.pure [.jv] (.tup [.agg [.int .i64,.int .i64,.slx MP],.int .i64])):=
 sQ H.snapOf rfl fun azs hm=>by
  obtain⟨x,rfl,h1⟩:=SQ hm;obtain⟨j,rfl⟩:=VL h1;intro O hσ;obtain⟨v,h,k⟩:=ac7 H j O hσ;exact⟨v,h,k⟩
theorem am7{v:AV}(h:M V (.tup [.strb,.bool]) v):∃s b,v=.tup [.str s,.bool b]:=by
 cases h with
 |tup _ _ h=>
  cases h with
  |cons _ _ x b h1 h2=>
   cases h2 with
   |cons _ _ y b h3 h4=>
    cases h4;cases h1;cases h3;exact⟨_,_,rfl⟩
theorem apJ{D:Ctx}{PK:PkI}{f:FuncId}{l args:List Sh}(h:fC D PK f (.ro l args .bool))(hc:cls args=true){cs:LA}{fz:Fz}(hcs:Ms V0 l cs)(hb:ae 0 cs=true){azs:LA}(hm:Mt V0 args azs):∃b:Bool,∀(O:St) (o:Nat),O[o]?=some (.cells cs fz)->pRo D f (.ref o 0::azs) O=some (.bool b,O):=by
 have hn:=Mt.nvs hm hc;have ok1:Ok [AO.cells cs fz]:=by
  have:Ok ([]++[AO.cells cs fz]):=ahK.plus (by
   have:AO.below 0 (.cells cs fz)=true:=hb;rw[List.all_cons,this];rfl)
  exact this
 have hh:∀(Y:St) (o:Nat),hand false (.ref o 0::azs) Y=some (.ref o 0::azs,Y):=fun Y o=>by
  show(match bZ Y 12 (.ref o 0::azs)with|some (l,fs)=>some (l,freeze Y fs)|none=>none)=_
  rw[show bZ Y 12 (.ref o 0::azs)=(match aU Y (bZ Y 11) (.ref o 0),aJ Y (bZ Y 11) azs with|some (v,fs),some (l,gs)=>some (v::l,fs++gs)|_,_=>none)from rfl,hn.nf,show aU Y (bZ Y 11) (.ref o 0)=some (.ref o 0,[])from rfl]
  rfl
 obtain⟨v,e,hv⟩:=h [.cells cs fz] 0 azs azs [.cells cs fz] cs fz ok1 (hh _ 0) ok1 rfl hcs hm;obtain⟨b,rfl⟩:=ao3 hv;refine⟨b,fun O o ho=>?_⟩;simp only[pRo,hh,ho,hn.cl,hb,e,and_self,if_true,below]
end Go.Ev
