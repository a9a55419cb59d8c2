/- An evaluator. No conditions. -/
import Derived.Test.YtaaomenfchndjaaGreatDoorEA
import Derived.Orders
import Derived.LoopN
import Derived.Scope
import Derived.ScopeJumps
set_option linter.unusedVariables false
set_option linter.unusedSimpArgs false
set_option linter.defProp false
open _root_ renaming Nat→T,rfl→w8,Option→P,List→W,Bool→F,if_neg→w9,Array→j9,if_pos→X2,if_true→Z0,absurd→K3,Int→J1
open Go.Ev renaming binOp→h,evC→t,Ctx→H,same→j,XOp→X,evI→j7,Env→K,ofBytes→f,put→Z3,below→K8,a04→K9,a07→J2
open Go renaming findLabel→v,BinOp→D,execOp→j6,World→Y,Oper→R,Value→i,run_underlying→X1,Act→y,yielded→Z6,Operand→K0,IntKind→p,wp_mono→K4,undef→K5,TypeId→K6
open BitVec renaming ofInt→d
open Go.Region renaming wanted→k9,binds→J0
open List renaming replicate→j0
open Classical renaming choose→x,choose_spec→K7
open Nat renaming strongRecOn→j8,le_max_right→I,le_max_left→N,testBit_or→q
open Array renaming replicate→Z1,getElem?_replicate→Z2
open Go.Instr renaming sureAddr→K1
open Option renaming rec→K2
namespace Go.Ev
open Bool renaming true→eT, false→eF
open Option renaming some→J, none→U
open List renaming length→z
open Go.IntKind renaming i64→r
open Go.RowKit
section
variable{C:Ctx}{g:Gh}{w:World}{O:St}{e:Env}{ρ:Operand->Value}
def aec(p:WR g w O)(S:C.np=eT\/∀b,g.pl b=eT)(k:∀x a,cA x=J a->VR g (av C e a) (ρ x))(o:Oper){xi:XI}(h:cI C.P o=J xi){out:Out}(d:j7 C e O xi=J out):IV C.P o ρ g O w out:=by
 obtain⟨dst,op,type,pos,after,guard⟩:=o;cases op
 case convert=>exact anI p k h d
 case makeSlice=>exact ahB p k h d
 case indexAddr=>exact ahA p k h d
 case index=>exact au7 p k h d
 case lookup=>exact apP p k h d
 case mapUpdate=>exact ahC p k h d
 case insert=>exact apO p k h d
 case call=>exact c_call p k h d
 case slice=>exact au8 p k h d
 case buildSlice=>exact afT p k h d
 all_goals (simp only[cI]at h;try (cases h;done))
 case move x=>simp only[aB4,K9,aC3,J2]at h;obtain⟨a,ha,rfl⟩:=h;simp[j7,aF]at d;subst d;exact dD p w8 (k x a ha)
 case assign x=>simp only[aB4,K9,aC3,J2]at h;obtain⟨a,ha,rfl⟩:=h;simp[j7,aF]at d;subst d;exact dD p w8 (k x a ha)
 case pick c x y=>
  simp only[aB4,K9,aC3,J2]at h;obtain⟨ac,W,ax,aw,ay,az,rfl⟩:=h;simp only[j7,aF]at d;have B:=k c ac W;split at d;·rename_i b hb;rw[hb]at B;simp at d;subst d;refine dD p (v':=if b then ρ x else ρ y) ?_ (by grind);generalize Z:ρ c=cv at B;cases B;simp[j6,Z,asBool]
  ·cases d
 case alloc t=>simp only[aB4,K9,aC3,J2]at h;obtain⟨z,M,rfl⟩:=h;obtain⟨i,v,B,h2,h3⟩:=JQ M;simp only[j7,aF]at d;cases d;have hv:=vN g v z h3;refine⟨_,_,BL p t ⟨eF,ad4 C.P t eT⟩ (λt' x' al=>⟨(ad5 al).1,λ_=>hv.bX⟩) hv.cP.hS (by rw[hv.bX];exact a09 _),.inl ⟨_,?_,ary p _⟩⟩;simp[j6,Instr.alloc,JI B h2,newVar,newRow];rfl
 case box t x=>simp only[aB4,K9,aC3,J2]at h;obtain⟨a,ha,rfl⟩:=h;simp only[j7,aF]at d;cases d;have hv:=k x a ha;refine⟨_,_,BL p t FZ (λ_ _ ht=>nomatch ht) hv.cP.hS (by rw[hv.bX];exact a09 _),.inl ⟨_,?_,ary p _⟩⟩;simp[j6,Instr.box,newVar,newRow];rfl
 case build t V=>
  simp only[aB4,K9,aC3]at h;obtain⟨z,M,u,H,h⟩:=h;obtain⟨i,v,B,h2,h3⟩:=JQ M;have hv:=vN g v z h3;cases u<;>simp only at h<;>first|(cases h;done)|skip
  case array n el=>
   simp only[K9,J2]at h;obtain⟨ie,af,qs,L,rfl⟩:=h;simp only[j7,aF]at d;split at d;·rename_i l G;cases d;obtain⟨Q,hf,hr⟩:=N8 _ k V.toList qs L _ v.cells _ hv.cP G;refine dD p (v':=.agg Q) ?_ (.cX _ _ hr);have K:Instr.fill (λi=>J (i*ie.size,ie.size)) v.cells (Array.map (λx=>(x.fst,ρ x.snd)) V).toList=J Q:=(by simpa using hf);simp only[j6,Instr.build,Sem.run_bind,JI B h2,Result.andThen_ok,X1 H,run_sizeOf af,K,Sem.run_pure]
   ·cases d
  case struct fs=>
   split at h;·cases h
   ·rename_i E;simp only[Bool.not_eq_true,Bool.not_eq_false']at E;simp only[K9,J2]at h;obtain⟨qs,L,rfl⟩:=h;simp only[j7,aF]at d;split at d
    ·rename_i l G;cases d;obtain⟨Q,hf,hr⟩:=N8 _ k V.toList qs L _ v.cells _ hv.cP G;refine dD p (v':=.agg Q) ?_ (.cX _ _ hr);have S:(λx=>(Array.map (λf:Field=>(f.offset,((C.P.info? f.type).map (·.size)).getD 0)) fs)[x]?)=(λ(i:Nat)=>(fs[i]? :Option Field).bind λ(f:Field)=>(C.P.info? f.type).bind λa=>J (f.offset,a.size)):=by
      funext i;simp only[Array.getElem?_map];cases ab:fs[i]? with
      |none=>rfl|some f=>have hf:f∈fs:=Array.mem_of_getElem? ab;obtain⟨j,hj⟩:=aE5.1 (aB0.1 E f (Array.mem_toList_iff.2 hf));simp[hj]
     have K:Instr.fill (λx=>(Array.map (λf:Field=>(f.offset,((C.P.info? f.type).map (·.size)).getD 0)) fs)[x]?) v.cells (Array.map (λx=>(x.fst,ρ x.snd)) V).toList=J Q:=by rw[S];simpa using hf
     simp only[j6,Instr.build,Sem.run_bind,JI B h2,Result.andThen_ok,X1 H,run_places fs E,K,Sem.run_pure]
    ·cases d
 case load t x=>
  simp only[aB4,K9,aC3,J2]at h;obtain⟨u,H,i,hi,a,ha,rfl⟩:=h;have A:=k x a ha;simp only[j7,aF]at d;have key:∀(b off:Nat) (l:LA) (v:AV),ρ x=.pointer (J ⟨b,off,U⟩)->Cells g w l b off->pt (Fh u) i.size l=J v->IV C.P ⟨dst,.load t x,type,pos,after,guard⟩ ρ g O w (.ev v O):=λb off l v hp R I=>by obtain⟨D,B,h2⟩:=ac8 R H hi I;exact dD p (by simp[j6,Instr.loadAt,K1,hp,B]) h2
  generalize F:av C e a=N at A d;generalize q:ρ x=T at A;cases A<;>simp only at d<;>first|(cases d;done)|skip
  ·rename_i o off ho;split at d;·rename_i l fz G;simp only[aB5]at d;obtain⟨v,I,rfl⟩:=d;have R:=(p.bA o _ G).cP.cB off;grind
   ·cases d
  ·rename_i l b off h;simp only[aB5]at d;obtain⟨v,I,rfl⟩:=d;exact key _ _ _ v q (h.cP p) I
 case store t x y=>
  simp only[aB4,K9,aC3,J2]at h;obtain⟨i,hi,a,ha,b,hb,rfl⟩:=h;have A:=k x a ha;have hy:=k y b hb;simp only[j7,aF]at d;generalize F:av C e a=N at A d;generalize q:ρ x=T at A;cases A<;>simp only at d<;>first|(cases d;done)|skip
  rename_i o' off ho;split at d
  ·rename_i l G;split at d
   ·rename_i hh;cases d;have Y:=hy.cP;obtain⟨w',B,h2⟩:=QT (P:=C.P) (off:=off) p G Y (by omega) hh.2.2;refine⟨w',g,h2,.inr ⟨w8,?_⟩⟩;have ak:(ρ y).cells.size=i.size:=by rw[hy.bX];exact hh.1
    simp[j6,Instr.storeAt,K1,q,storeVar,run_sizeOf hi,ak,B]
   ·cases d
  ·cases d
 case nilCheck x=>
  simp only[aB4,K9,aC3,J2]at h;obtain⟨a,ha,rfl⟩:=h;have A:=k x a ha;simp only[j7,aF]at d;have hx0:=A;generalize F:av C e a=N at A d hx0;generalize q:ρ x=T at A hx0;cases A<;>first|(cases d;done)|skip
  ·cases d;exact dD p (by simp[j6,q]) hx0
  ·cases d;exact dD p (by simp[j6,q]) hx0
  ·rename_i f x1 y1 x2 y2 hx1 aD;cases f<;>first|(cases d;done)|skip
   cases d;exact dD p (by simp[j6,q]) hx0
  ·cases d;exact dD p (by simp[j6,q]) hx0
 case binOp op t x y yt=>
  simp only[aB4,K9,aC3,J2]at h;obtain⟨a,ha,b,hb,rfl⟩:=h;simp only[j7,aF,aB5]at d;obtain⟨v,hv,rfl⟩:=d;have aq:binOp op (LC C.P t) (isC x||isC y) (av C e a) (av C e b)=J v/\(C.np=eT->akW (av C e a) (av C e b)=eF):=by unfold CG at hv;grind
  obtain⟨D,B,h2⟩:=anF (P:=C.P) (w:=w) op t x y _ _ aq.1 (k x a ha) (k y b hb) p.uf (λh2=>by
   grind)
  refine dD p (v':=D) ?_ h2;simp only[j6];have:(do let _<-eqGuard op t x y (ρ x) (ρ y);Go.binOp op t (ρ x) (ρ y):Sem Value).run C.P w=.ok D w:=B;rw[Sem.run_bind,this];rfl
 case unOp op t x=>simp only[aB4,K9,aC3,J2]at h;obtain⟨a,ha,rfl⟩:=h;simp only[j7,aF,aB5]at d;obtain⟨v,hv,rfl⟩:=d;obtain⟨D,B,h2⟩:=atr (P:=C.P) (w:=w) op _ hv (k x a ha);exact dD p (by simp[j6,B]) h2
 case makeInterface t x=>
  simp only[aB4,K9,aC3]at h;obtain⟨u,H,h⟩:=h;have A:∃a,cA x=J a/\xi=.gT t a/\(∀m,u≠ .interface m):=by cases u<;>simp only[K9,J2]at h<;>first|(cases h;done)|(obtain⟨a,ha,rfl⟩:=h;exact⟨a,ha,w8,by intro m;simp⟩)
  obtain⟨a,ha,rfl,ah⟩:=A;simp only[j7,aF]at d;cases d;refine dD p (v':=.iface t (ρ x)) ?_ (.dx _ _ _ (k x a ha));cases u<;>first|(exact K3 w8 (ah _))|simp[j6,Instr.makeInterface,X1 H]
 case makeFunc fn first s=>
  simp only[aB4,K9,aC3,J2]at h;obtain⟨a,ha,b,hb,rfl⟩:=h;simp only[j7,aF]at d;cases d;refine dD p (v':=.func fn (first.map ρ) (s.map ρ)) (by simp[j6,Instr.makeFunc]) ?_;have B:=V9 k _ _ ha;have h2:=V9 k _ _ hb;have e1:first.map ρ=⟨first.toList.map ρ⟩:=by apply aG8;simp
  have e2:s.map ρ=⟨s.toList.map ρ⟩:=by apply aG8;simp
  grind [VR]
 case makeMap t cB=>
  cases cB with
  |some cB=>cases h
  |none=>
   cases h;simp only[j7,aF]at d;cases d;have ad:=abS p (.map #[] 0) (.dz []) 0 (by
    refine⟨#[],0,?_,w8,w8,by simp⟩;simp only[Gh.ac,Z0];exact Fv w _)
   refine⟨_,_,ad,.inl ⟨.map (J w.heap.size),?_,?_⟩⟩;·simp[j6,Instr.makeMap];rfl
   ·have:=VR.dz (g:=g.ac w.heap.size 0) O.length (by simp[Gh.ac,p.n]);simpa[Gh.ac,p.n]using this
 case fieldAddr t x fi=>
  simp only[aB4,K9,aC3]at h;obtain⟨u,H,h⟩:=h;cases u<;>simp only at h<;>first|(cases h;done)|skip
  rename_i fs;simp only[K9]at h;obtain⟨f,hf,i,hi,h⟩:=h;split at h;·cases h
  ·rename_i M;simp only[K9,J2]at h;obtain⟨a,ha,rfl⟩:=h;have A:=k x a ha;simp only[j7,aF]at d;generalize F:av C e a=N at A d;generalize q:ρ x=T at A;cases A<;>simp only at d<;>first|(cases d;done)|skip
   ·rename_i o' off ho;cases d;refine dD p (v':=.pointer (J ⟨g.ob o',off+f.offset,U⟩)) ?_ (.da _ _ ho);simp[j6,Instr.fieldAt,X1 H,hf,K1,q,fieldPlace,run_sizeOf hi,M,addr_add]
   ·rename_i l b off X;split at d;·cases d;refine dD p (v':=.pointer (J ⟨b,off+f.offset,U⟩)) ?_ (.ec _ _ _ (X.cB _));simp[j6,Instr.fieldAt,X1 H,hf,K1,q,fieldPlace,run_sizeOf hi,M,addr_add]
    ·cases d
 case field t x fi=>
  simp only[aB4,K9,aC3]at h;obtain⟨u,H,h⟩:=h;cases u<;>simp only at h<;>first|(cases h;done)|skip
  rename_i fs;simp only[K9,J2]at h;obtain⟨f,hf,u',an,i,hi,a,ha,rfl⟩:=h;have A:=k x a ha;simp only[j7,aF]at d;generalize F:av C e a=N at A d;generalize q:ρ x=T at A;cases A<;>simp only at d<;>first|(cases d;done)|skip
  rename_i l l' G;simp only[aB5]at d;obtain⟨v,hv,rfl⟩:=d;obtain⟨D,B,h2⟩:=acu (P:=C.P) w G an hi f.offset hv;exact dD p (by simp[j6,Instr.field,X1 H,hf,q,asAgg,B]) h2
 case extract x ix=>
  simp only[aB4,K9,aC3,J2]at h;obtain⟨a,ha,rfl⟩:=h;have A:=k x a ha;simp only[j7,aF]at d;generalize F:av C e a=N at A d;generalize q:ρ x=T at A;cases A<;>simp only at d<;>first|(cases d;done)|skip
  rename_i l l' G;split at d;·rename_i v hv;cases d;obtain⟨D,B,h2⟩:=G.cd hv;exact dD p (by simp[j6,Instr.extract,q,B]) h2
  ·cases d
end
def GL(C:H)(g:Gh):Prop:=(∀n l,C.gl n=J l->CR g l n 0/\g.pl n=eT)/\(C.np=eT\/∀b,g.pl b=eT)
theorem GL.D{C:H}{g g':Gh}(h:GL C g)(a:g.le g'):GL C g':=⟨λn l c=>⟨(h.1 n l c).1.D a,(congrFun a.pl n).trans (h.1 n l c).2⟩,h.2.imp id (λe b=>(congrFun a.pl b).trans (e b))⟩
def AR(g:Gh)(e:K)(a:y):Prop:=VRs g e a.tmps.toList
theorem AR.D{g g':Gh}{e:K}{a:y}(h:AR g e a)(b:g.le g'):AR g' e a:=VRs.D b h
def AR.cn{g:Gh}{e:K}{a:y}(h:AR g e a){v:AV}{v':i}(hv:VR g v v')(d:P T):AR g (Z3 e d v) (a.put d v'):=by
 cases d with
 |none=>exact h|some d=>have:=VRs.cg d h hv;simpa[AR,Act.put,Z3]using this
def AX(g:Gh):VR g .dT K5:=.de _ _ .db
def AR.el{C:H}{g:Gh}{e:K}{a:y}(h:AR g e a)(k:GL C g)(x:K0)(b:XA)(hb:cA x=J b):VR g (av C e b) (a.eval x):=by
 cases x with
 |tmp t=>
  simp[cA]at hb;subst hb;simp only[av,Act.eval];have c:=h.I;simp only[aK5]at c;rcases aL0 t (z e) with d|d;·obtain⟨v,i,h2⟩:=VRs.cd h (a01 d);simp_all
  ·rw[aD4,aB9 d];have:a.tmps[t]?=U:=aI0 (by omega);simp[this];exact AX g
 |const v=>simp only[cA,aB5]at hb;obtain⟨j,i,rfl⟩:=hb;exact vN g v j i
 |global n=>
  simp[cA]at hb;subst hb;simp only[av,Act.eval];cases c:C.gl n with
  |none=>exact .ec _ _ _ (.db _ _)|some l=>exact .ec _ _ _ (k.1 n l c).1
 |func f=>simp[cA]at hb;subst hb;exact .dv _ _ _ _ _ .db .db
def Does(P:Program)(f:FuncId)(args:W i)(w:Y)(R:i->Y->Prop):Prop:=
 match(callFunc f ⟨args⟩).run P w with
 |.ok (.enter d a) b=>Calls P d a b λe c=>∃v,e=.returned v/\R v c|.ok (.value v) b=>R v b|_=>False
def fZ(C:H)(call:bY):Prop:=
 ∀f args O v b,call f args O=J (v,b)->∀g w a,VRs g args a->WR g w O->GL C g->Does C.P f a w λd e=>∃c,Goes g O w c b e/\VR c v d
section
variable{C:Ctx}{call:bY}
def awm (i:fZ C call) {o:R} {g:Gh} {e:K} {O:St} {w:Y} {a:Act} (A:WR g w O) {ρ:K0->Value} (p:j6 a.eval o=j6 ρ o) (u:∀x b,cA x=J b->VR g (av C e b) (ρ x)) (y:GL C g) {v:AV} {O':St}
  (c:(match j7 C e O ((cI C.P o).getD .eC)with|J (.ev v O')=>J (v,O')|J (.fI f args O')=>call f args O'|U=>U)=J (v,O'))
  {next:Act->Y->Prop} {Q:Exit->Act->Y->Prop} (t:∀v' k g',Goes g O w g' O' k->VR g' v v'->next (a.put o.dst v') k):o.wp C.P a w next Q:=by
 cases s:cI C.P o with
 |none=>rw[s]at c;simp[j7,aF]at c
 |some B=>
  rw[s]at c;simp only[aG9]at c;cases j:j7 C e O B with
  |none=>rw[j]at c;cases c
  |some out=>
   rw[j]at c;have hs:=aec (C:=C) A y.2 u o s j;cases out with
   |ev v0 O0=>
    simp at c;obtain⟨rfl,rfl⟩:=c;obtain⟨k,g',q,hr⟩:=hs;unfold Oper.wp;rw[p];rcases hr with⟨v',l,h2⟩|⟨rfl,l⟩;·rw[l];exact t v' k g' q h2
    ·rw[l];exact t K5 k g' q (AX g')
   |fI f args O0=>
    obtain⟨rfl,d,l,h2⟩:=hs;simp only at c;have m:=i f args O0 v O' c g w d l A y;unfold Oper.wp;rw[p,h2];unfold Does at m;generalize(callFunc f ⟨d⟩).run C.P w=N at m;cases N with
    |halt h k=>exact m.elim
    |ok n k=>
     cases n<;>first|exact m.elim|skip
     ·obtain⟨g',h3,h4⟩:=m;exact t _ _ g' h3 h4
     grind [Oper.upon,Calls.mono]
def adh{g:Gh}{e:K}{a:y}(h:AR g e a)(ops:j9 R)(o:R){gd:P (T×F)}(f:Lu ops o=J gd):k9 o (Z6 ops a.tmps)=(match gd with|U=>eT|J (t,b)=>match e[t]? with|J (.cW c)=>c==b|_=>eF):=by
 unfold Lu at f;unfold k9;cases i:o.guard with
 |none=>grind
 |some p=>
  obtain⟨j,k⟩:=p;rw[i]at f;simp only at f⊢;split at f;·rename_i d l;simp at f;subst f;simp only[Z6,l,Option.bind_some];have n:=VRs.I h;simp only[aK5]at n;cases m:e[d]? with|none=>grind|some x=>obtain⟨v,q,h2⟩:=VRs.cd h m;grind [VR]
  ·cases f
end
section
variable{C:Ctx}{call:bY}
def anH{ops:j9 R}{i:T}{o:R}{x:X}(h:cOp C.P eF ops i o=J x):∃gd,Lu ops o=J gd/\x={ba:=o.dst,i:=(cI C.P o).getD .eC,bm:=gd}:=by simp only[cOp,aB4,K9]at h;grind
def aeR (f:fZ C call) (ops:j9 Oper) {Q:Exit->Act->Y->Prop}:∀(l:W Oper) (k:T) (xs:W X),ops.toList.drop k=l->adp C.P eF ops k l=J xs->∀(e s:Env) (O O':St),wG C call xs e O=J (s,O')->
  ∀(g:Gh) (w:Y) (a:Act),AR g e a->WR g w O->GL C g->(∀g' D a',AR g' s a'->a'.defers=a.defers->Goes g O w g' O' D->Q .normal a' D)->wpOps C.P ops Q (List.range' k l.length) a w
 |[],k,xs,K,n,e,s,O,O',d,g,w,a,ha,A,y,G=>by simp[adp]at n;subst n;simp[wG]at d;obtain⟨rfl,rfl⟩:=d;simp only[a96,List.range'_zero,wpOps];exact G g w a ha w8 (.ax A)
 |o::l,k,xs,K,n,e,s,O,O',d,g,w,a,ha,A,y,G=>by
  simp only[adp]at n;split at n
  ·rename_i x F N h2;simp at n;subst n;obtain⟨gd,I,rfl⟩:=anH N;simp only[wG]at d;have hok:ops[k]?=J o:=by have:=congrArg (λz:W Oper=>z[0]?) K;simpa using this
   have L:ops.toList.drop (k+1)=l:=by rw[<-aK1,K];rfl
   rw[a94,List.range'_succ];simp only[wpOps,hok];have S:=adh ha ops o I;cases c:EF C call {ba:=o.dst,i:=(cI C.P o).getD .eC,bm:=gd} e O with
   |none=>rw[c]at d;cases d
   |some p=>
    obtain⟨v,M⟩:=p;rw[c]at d;simp only at d;have R:=aeR f ops (Q:=Q) l (k+1) F L h2 (Z3 e o.dst v) s M O' d;have q:∀B E u,Goes g O w u M E->VR u v B->wpOps C.P ops Q (List.range' (k+1) l.length) (a.put o.dst B) E:=λB E u m hv=>by refine R u E (a.put o.dst B) ((ha.D m.le).cn hv o.dst) m.wr (y.D m.le) λg' D a' H P t=>G g' D a' H ?_ (m.N t);rw[P];cases o.dst<;>rfl
    unfold EF at c;have h:sJ {ba:=o.dst,i:=(cI C.P o).getD .eC,bm:=gd} e=k9 o (Z6 ops a.tmps):=(by grind [sJ]);split at c;·rename_i j;rw[h]at j;rw[X2 j];exact .inl (awm f A w8 (λx b hb=>ha.el y x b hb) y c q)
    ·rename_i j;rw[h]at j;rw[w9 j];simp at c;obtain⟨rfl,rfl⟩:=c;exact q K5 w g (.ax A) (AX g)
  ·cases n
def ZV{P:Program}{c:Code}{Q b:Exit->y->Y->Prop}(h:∀e a w,Q e a w->b e a w):∀(n:T) (a:y) (w:Y),Code.rounds P c Q n a w->Code.rounds P c b n a w|0,_,_,hr=>hr|n+1,a,w,hr=>by rw[rounds_succ]at hr⊢;refine K4 hr λe a' f d=>?_;cases e<;>first|exact h _ _ _ d|exact ZV h n a' f d
def XE.to:XE->Exit|.du=>.normal|.dq id=>if id<1000000 then .exit id else .goto ((id-1000001)/2)|.ea=>.ret
def Post(C:H)(g:Gh)(O:St)(w:Y)(a:y)(x:XE)(c:K)(O':St):Exit->y->Y->Prop:=
 λex a' d=>ex=x.to/\a'.defers=a.defers/\∃b,AR b c a'/\Goes g O w b O' d
def ahk(C:H)(call:bY):Prop:=
 ∀(id:T) (ops:j9 R) (l:W X),afS C.P ops=J l->∀(e c:K) (O b:St),wK C call l e O=J (c,b)->∀(g:Gh) (w:Y) (a:y),AR g e a->WR g w O->GL C g->
  (Code.region id ops eT).wp C.P (Post C g O w a .du c b) a w
def JX(C:H)(call:bY):Prop:=ahk C call/\True
def XC.bw:XC->T->F|.dq i,k=>i==k|.eA a b,k=>a.bw k||b.bw k|.eJ _ a b,k=>a.bw k||b.bw k|.eG id b,k=>b.bw k&&k !=id|.fL b,k=>b.bw k|.fg b,k=>b.bw k|_,_=>eF
def F5(n:T):∀(c:XC) (e d:K) (O O':St) (k:T),t C call n c e O=J (.dq k,d,O')->c.bw k=eT
 |.eI,_,_,_,_,_,h=>by simp[t]at h
 |.ea,_,_,_,_,_,h=>by simp[t]at h
 |.eC,_,_,_,_,_,h=>by simp[t]at h
 |.fu l,e,d,O,O',k,h=>by simp only[t]at h;split at h<;>simp at h
 |.eO l,e,d,O,O',k,h=>by simp only[t]at h;split at h<;>simp at h
 |.dq i,e,d,O,O',k,h=>by simp[t]at h;simp[XC.bw,h.1]
 |.eA a b,e,d,O,O',k,h=>by
  simp only[t]at h;rw[XC.bw,aE7];split at h;·exact .inr (F5 n b _ _ _ _ _ h)
  ·exact .inl (F5 n a _ _ _ _ _ h)
 |.eJ c a b,e,d,O,O',k,h=>by
  simp only[t]at h;rw[XC.bw,aE7];split at h;·exact .inl (F5 n a _ _ _ _ _ h)
  ·exact .inr (F5 n b _ _ _ _ _ h)
  ·cases h
 |.eG id b,e,d,O,O',k,h=>by
  simp only[t]at h;rw[XC.bw,a02];cases hb:t C call n b e O with
  |none=>rw[hb]at h;cases h
  |some q=>
   obtain⟨x,e1,j⟩:=q;rw[hb]at h;cases x with
   |du=>simp at h|ea=>simp at h
   |dq i=>
    simp only[J2,aC2]at h;obtain⟨f,rfl,rfl⟩:=h;split at f;·cases f
    ·rename_i hi;cases f;exact⟨F5 n b _ _ _ _ _ hb,by simpa using hi⟩
 |.fg b,e,d,O,O',k,h=>by simp only[t]at h;exact F5 n b _ _ _ _ _ h
 |.fL b,e,d,O,O',k,h=>by
  simp only[t]at h;have:∀m e O,vY (t C call n b) m e O=J (.dq k,d,O')->b.bw k=eT:=by
   intro m
   induction m with
   |zero=>intro e O h;cases h
   |succ m g=>
    intro e O h;simp only[vY]at h;split at h;·exact g _ _ h
    ·exact F5 n b _ _ _ _ _ h
  exact this n e O h
def Ii(P:Program)(p:T->F):∀(c:Code),BX p c=eT->(∀k,(cC P c).bw k=eT->k<1000000\/∃l,p l=eT/\k=zZ l)/\∀l q,cL P c l=J q->∀k,q.bw k=eT->k<1000000\/∃l,p l=eT/\k=zZ l
 |.skip,h=>⟨λk d=>by simp[cC,XC.bw]at d,λl q hr=>by simp[cL]at hr⟩
 |.label m,h=>⟨λk d=>by simp[cC,XC.bw]at d,λl q hr=>by
  simp only[cL]at hr;split at hr;·cases hr;intro k d;simp[XC.bw]at d
  ·cases hr⟩
 |.ret,h=>⟨λk d=>by simp[cC,XC.bw]at d,λl q hr=>by simp[cL]at hr⟩|.refuse _,h=>⟨λk d=>by simp[cC,XC.bw]at d,λl q hr=>by simp[cL]at hr⟩|.rangeFunc ..,h=>⟨λk d=>by simp[cC,XC.bw]at d,λl q hr=>by simp[cL]at hr⟩
 |.region id ops g,h=>⟨λk d=>by
  simp only[cC]at d;split at d;·split at d<;>simp[XC.bw]at d
  ·simp[XC.bw]at d,λl q hr=>by simp[cL]at hr⟩
 |.goto l,h=>⟨λk d=>by simp[cC,XC.bw]at d;exact .inr ⟨l,h,d.symm⟩,λl q hr=>by simp[cL]at hr⟩
 |.exit id,h=>⟨λk d=>by
  simp only[cC]at d;split at d;·rename_i hid;simp[XC.bw]at d;exact .inl (by omega)
  ·simp[XC.bw]at d,λl q hr=>by simp[cL]at hr⟩
 |.seq a b,h=>by
  simp only[BX,a02]at h;have ha:=Ii P p a h.1;have hb:=Ii P p b h.2;refine⟨λk d=>?_,λl q hr k d=>?_⟩;·simp only[cC,XC.bw,aE7]at d;exact d.elim (ha.1 k) (hb.1 k)
  ·simp only[cL]at hr;split at hr;·rename_i r0 hr0;cases hr;simp only[XC.bw,aE7]at d;exact d.elim (ha.2 l r0 hr0 k) (hb.1 k)
   ·exact hb.2 l q hr k d
 |.cond c a b,h=>by
  simp only[BX,a02]at h;have ha:=Ii P p a h.1;have hb:=Ii P p b h.2;refine⟨λk d=>?_,λl q hr=>by simp[cL]at hr⟩;simp only[cC]at d;split at d;·simp only[XC.bw,aE7]at d;exact d.elim (ha.1 k) (hb.1 k)
  ·simp[XC.bw]at d
 |.block id b,h=>by
  have hb:=Ii P p b h;refine⟨λk d=>?_,λl q hr=>by simp[cL]at hr⟩;simp only[cC]at d;split at d;·simp only[XC.bw,a02]at d;exact hb.1 k d.1
  ·simp[XC.bw]at d
 |.loop b,h=>by have hb:=Ii P p b h;refine⟨λk d=>?_,λl q hr=>by simp[cL]at hr⟩;simp only[cC,XC.bw]at d;exact hb.1 k d
 |.scope b,h=>by
  have hb:=Ii P p b h;refine⟨λk d=>?_,λl q hr=>by simp[cL]at hr⟩;simp only[cC]at d;cases hj:KP b with
  |none=>
   rw[hj]at d;simp only at d;split at d;·simp only[XC.bw]at d;exact hb.1 k d
   ·simp[XC.bw]at d
  |some l=>
   rw[hj]at d;simp only at d;cases f:cL P b l with
   |none=>rw[f]at d;split at d<;>first|(rename_i j;cases j;done)|simp[XC.bw]at d
   |some c=>
    rw[f]at d;cases e:BX (· ==l) b with
    |false=>rw[e]at d;simp[XC.bw]at d
    |true=>
     rw[e]at d;simp only[XC.bw,a02,aE7,bne_iff_ne,ne_eq,beq_iff_eq]at d;obtain⟨d,i⟩:=d;rcases d with⟨d|d,_⟩|⟨d|d,_⟩;·exact hb.1 k d
     ·exact K3 d.symm i
     ·exact hb.2 l c f k d
     ·exact K3 d.symm i
def alZ(P:Program):∀(c:Code) (l:T),cL P c l=(v c l).map (cC P)
 |.seq a b,l=>by
  rw[cL,v,alZ P a l];cases v a l with
  |some f=>simp[cC]|none=>simp[alZ P b l]
 |.label d,l=>by rw[cL,v];split<;>simp[cC]
 |.skip,l=>by simp[cL,v]
 |.ret,l=>by simp[cL,v]
 |.refuse _,l=>by simp[cL,v]
 |.rangeFunc ..,l=>by simp[cL,v]
 |.region ..,l=>by simp[cL,v]
 |.goto _,l=>by simp[cL,v]
 |.exit _,l=>by simp[cL,v]
 |.cond ..,l=>by simp[cL,v]
 |.block ..,l=>by simp[cL,v]
 |.loop _,l=>by simp[cL,v]
 |.scope _,l=>by simp[cL,v]
def least(p:T->Prop)(h:∃n,p n):∃n,p n/\∀m,m<n->¬p m:=by
 obtain⟨n,b⟩:=h
 induction n using j8 with
 |_ n c=>
  by_cases hm:∃m,m<n/\p m;·obtain⟨m,a,h2⟩:=hm;exact c m a h2
  ·exact⟨n,b,λm a h2=>hm ⟨m,a,h2⟩⟩
def alD {P:Program} {c d:Code} {Q:Exit->y->Y->Prop} {a:y} {w:Y} (l:T) (b:T->y->Y->Prop) (hf:v c l=J d) (first:c.wp P (Exit.jump l (λa w=>∃n,b n a w) Q) a w)
  (pass:∀n a w,b n a w->d.wp P (Exit.jump l (λa' j=>∃m,m<n/\b m a' j) Q) a w):(Code.scope c).wp P Q a w:=by
 classical
 let k:y->Y->T:=λa w=>if h:∃n,b n a w then x (least _ h)else 0
 refine wp_scope_jumps l (λa w=>∃n,b n a w) k hf first λa w o=>?_
 have p:k a w=x (least _ o):=dif_pos o;have hs:=K7 (least _ o);rw[<-p]at hs;refine K4 (pass _ a w hs.1) λex a' j q=>?_;cases ex with
 |goto t=>
  obtain⟨s,m,hm,f⟩:=q;refine⟨s,⟨m,f⟩,?_⟩;have e:∃n,b n a' j:=⟨m,f⟩;have i:k a' j=x (least _ e):=dif_pos e;have g:=K7 (least _ e);rw[<-i]at g;rcases aL0 m (k a' j)with h|h;·exact K3 f (g.2 m h)
  ·omega
 |_=>exact q
def U3:∀(c:Code) (l:T) (f:Code),v c l=J f->SizeOf.sizeOf f<=SizeOf.sizeOf c
 |.seq a b,l,f,h=>by
  rw[v]at h;split at h;·rename_i r0 d;cases h;have:=U3 a l r0 d;simp;omega
  ·have:=U3 b l f h;simp;omega
 |.label e,l,f,h=>by
  rw[v]at h;split at h;·cases h;simp
  ·cases h
 |.skip,l,f,h=>by simp[v]at h
 |.ret,l,f,h=>by simp[v]at h
 |.refuse _,l,f,h=>by simp[v]at h
 |.rangeFunc ..,l,f,h=>by simp[v]at h
 |.region ..,l,f,h=>by simp[v]at h
 |.goto _,l,f,h=>by simp[v]at h
 |.exit _,l,f,h=>by simp[v]at h
 |.cond ..,l,f,h=>by simp[v]at h
 |.block ..,l,f,h=>by simp[v]at h
 |.loop _,l,f,h=>by simp[v]at h
 |.scope _,l,f,h=>by simp[v]at h
def ah7(id:T):(XE.dq id).to=.exit id\/∃l,(XE.dq id).to=.goto l:=by
 unfold XE.to;split;·rename_i h;cases h
 ·rename_i i h;cases h;split;·exact .inl w8
  ·exact .inr ⟨_,w8⟩
 ·rename_i h;cases h
def pX (o:fZ C call) (k:JX C call) (n:Nat):∀(c:Code) (e v:Env) (O O':St) (x:XE),evC C call n (cC C.P c) e O=J (x,v,O')->∀(g:Gh) (w:World) (a:Act),AR g e a->WR g w O->GL C g->
   c.wp C.P (Post C g O w a x v O') a w
  |.skip,e,v,O,O',x,d,g,w,a,ha,t,u=>by simp[cC,evC]at d;obtain⟨rfl,rfl,rfl⟩:=d;exact wp_skip ⟨w8,w8,g,ha,.ax t⟩
  |.label l,e,v,O,O',x,d,g,w,a,ha,t,u=>by simp[cC,evC]at d;obtain⟨rfl,rfl,rfl⟩:=d;exact wp_label ⟨w8,w8,g,ha,.ax t⟩
  |.exit id,e,v,O,O',x,d,g,w,a,ha,t,u=>by
   simp only[cC]at d;split at d;·rename_i hid;simp[evC]at d;obtain⟨rfl,rfl,rfl⟩:=d;exact wp_exit ⟨by simp[XE.to,hid],w8,g,ha,.ax t⟩
   ·simp[evC]at d
  |.ret,e,v,O,O',x,d,g,w,a,ha,t,u=>by simp[cC,evC]at d;obtain⟨rfl,rfl,rfl⟩:=d;exact wp_ret ⟨w8,w8,g,ha,.ax t⟩
  |.region id ops aa,e,v,O,O',x,d,g,w,a,ha,t,u=>by
   simp only[cC]at d;cases aa with
   |true=>
    simp only[Z0]at d;split at d
    ·rename_i l D;simp only[evC]at d;split at d;·rename_i e1 A q;simp at d;obtain⟨rfl,rfl,rfl⟩:=d;exact k.1 id ops l D e e1 O A q g w a ha t u
     ·cases d
    ·simp[evC]at d
   |false=>
    simp only[aF3,if_false]at d;split at d
    ·rename_i l D;simp only[evC]at d;split at d;·rename_i e1 A q;simp at d;obtain⟨rfl,rfl,rfl⟩:=d;refine wp_region ?_;have:=aeR o ops (Q:=Post C g O w a .du e1 A) ops.toList 0 l w8 D e e1 O A q g w a ha t u (λg' w' a' ah aq f=>⟨w8,aq,g',ah,f⟩);rw[List.range_eq_range'];simpa using this
     ·cases d
    ·simp[evC]at d
  |.seq c1 c2,e,v,O,O',x,d,g,w,a,ha,t,u=>by
   simp only[cC,evC]at d;refine wp_seq ?_;cases F:evC C call n (cC C.P c1) e O with
   |none=>rw[F]at d;cases d
   |some p=>
    obtain⟨x1,e1,A⟩:=p;rw[F]at d;refine K4 (pX o k n c1 e e1 O A x1 F g w a ha t u) λex a1 L ⟨E,q,s,j,f⟩=>?_;subst E;cases x1 with
    |du=>simp only at d;refine K4 (pX o k n c2 e1 v A O' x d s L a1 j f.wr (u.D f.le)) λex a2 w2 ⟨E,Y,g2,W,M⟩=>?_;exact⟨E,Y.trans q,g2,W,f.N M⟩|dq id=>simp at d;obtain⟨rfl,rfl,rfl⟩:=d;have K:Post C g O w a (.dq id) e1 A (XE.dq id).to a1 L:=⟨w8,q,s,j,f⟩;rcases ah7 id with T|⟨l,T⟩<;>rw[T]at K⊢<;>exact K
    |ea=>simp at d;obtain⟨rfl,rfl,rfl⟩:=d;exact⟨w8,q,s,j,f⟩
  |.cond c c1 c2,e,v,O,O',x,d,g,w,a,ha,t,u=>by
   simp only[cC]at d;cases S:cA c with
   |none=>rw[S]at d;simp[evC]at d
   |some b=>
    rw[S]at d;simp only[evC]at d;have hv:=ha.el u c b S;split at d;·rename_i hb;rw[hb]at hv;generalize X:a.eval c=cv at hv;cases hv;exact wp_cond_true X (pX o k n c1 e v O O' x d g w a ha t u)
    ·rename_i hb;rw[hb]at hv;generalize X:a.eval c=cv at hv;cases hv;exact wp_cond_false X (pX o k n c2 e v O O' x d g w a ha t u)
    ·cases d
  |.block id b,e,v,O,O',x,d,g,w,a,ha,t,u=>by
   simp only[cC]at d;by_cases hid:id<1000000
   case neg=>rw[w9 hid]at d;simp[evC]at d
   rw[X2 hid]at d;simp only[evC]at d;refine wp_block ?_;cases F:evC C call n (cC C.P b) e O with
   |none=>rw[F]at d;cases d
   |some p=>
    obtain⟨x1,e1,A⟩:=p;rw[F]at d;refine K4 (pX o k n b e e1 O A x1 F g w a ha t u) λex a1 L ⟨E,q,s,j,f⟩=>?_;subst E;cases x1 with
    |du=>simp at d;obtain⟨rfl,rfl,rfl⟩:=d;exact⟨w8,q,s,j,f⟩
    |dq i=>
     simp at d;obtain⟨N,rfl,rfl⟩:=d;by_cases hi:i=id;·subst hi;rw[X2 w8]at N;subst N;rw[show(XE.dq i).to=.exit i from by simp[XE.to,hid]];simp only[Exit.inBlock,Z0];exact⟨w8,q,s,j,f⟩
     ·rw[w9 hi]at N;subst N;have K:Post C g O w a (.dq i) e1 A (XE.dq i).to a1 L:=⟨w8,q,s,j,f⟩;rcases ah7 i with T|⟨l,T⟩<;>rw[T]at K⊢;·simp only[Exit.inBlock,w9 hi];exact K
      ·exact K
    |ea=>simp at d;obtain⟨rfl,rfl,rfl⟩:=d;exact⟨w8,q,s,j,f⟩
  |.loop b,e,v,O,O',x,d,g,w,a,ha,t,u=>by
   simp only[cC,evC]at d;refine wp_loop_rounds n ?_;have key:∀(m:Nat) (e:Env) (O:St) (g0:Gh) (w0:World) (a0:Act),vY (evC C call n (cC C.P b)) m e O=J (x,v,O')->AR g0 e a0->WR g0 w0 O->GL C g0->Code.rounds C.P b (Post C g0 O w0 a0 x v O') m a0 w0:=by
    intro m
    induction m with
    |zero=>intro e O g0 w0 a0 h;cases h
    |succ m ih=>
     intro e O g0 w0 a0 h ak ax ad;rw[rounds_succ];simp only[vY]at h;cases F:evC C call n (cC C.P b) e O with
     |none=>rw[F]at h;cases h
     |some p=>
      obtain⟨x1,e1,A⟩:=p;rw[F]at h;refine K4 (pX o k n b e e1 O A x1 F g0 w0 a0 ak ax ad) λex a1 L ⟨E,q,s,j,f⟩=>?_;subst E;cases x1 with
      |du=>simp only at h;have:=ih e1 A s L a1 h j f.wr (ad.D f.le);simp only[XE.to,Exit.then];exact ZV (λex a2 w2 ⟨E,Y,g2,W,M⟩=>⟨E,Y.trans q,g2,W,f.N M⟩) m a1 L this|dq id=>simp at h;obtain⟨rfl,rfl,rfl⟩:=h;have K:Post C g0 O w0 a0 (.dq id) e1 A (XE.dq id).to a1 L:=⟨w8,q,s,j,f⟩;rcases ah7 id with T|⟨l,T⟩<;>rw[T]at K⊢<;>exact K
      |ea=>simp at h;obtain⟨rfl,rfl,rfl⟩:=h;exact⟨w8,q,s,j,f⟩
   exact key n e O g w a d ha t u
  |.scope b,e,v,O,O',x,d,g,w,a,ha,t,u=>by
   simp only[cC]at d;cases hj:KP b with
   |none=>
    rw[hj]at d;simp only at d;split at d
    ·rename_i aw;simp only[evC]at d;refine wp_scope_straight ?_;refine K4 (pX o k n b e v O O' x d g w a ha t u) λex a1 L ⟨E,q,s,j,f⟩=>?_;subst E;cases x with
     |du=>exact⟨w8,q,s,j,f⟩|ea=>exact⟨w8,q,s,j,f⟩
     |dq i=>
      have hi:i<1000000:=by
       rcases(Ii C.P _ b aw).1 i (F5 n _ _ _ _ _ _ d)with h|⟨l,h,_⟩;·exact h
       ·cases h
      have K:Post C g O w a (.dq i) v O' (XE.dq i).to a1 L:=⟨w8,q,s,j,f⟩;rw[show(XE.dq i).to=.exit i from by simp[XE.to,hi]]at K⊢;exact K
    ·simp[evC]at d
   |some l=>
    rw[hj]at d;simp only at d;cases S:cL C.P b l with
    |none=>rw[S]at d;split at d<;>first|(rename_i F;cases F;done)|simp[evC]at d
    |some c=>
     rw[S]at d;cases Z:BX (· ==l) b with
     |false=>rw[Z]at d;simp[evC]at d
     |true=>
      rw[Z]at d;simp only[evC]at d;rw[alZ,aB5]at S;obtain⟨I,hf,rfl⟩:=S;have ac:NK l≠zZ l:=by unfold NK zZ;omega
      have an:cL C.P b l=J (cC C.P I):=by rw[alZ,hf];rfl
      have V:=Ii C.P _ b Z;have ab:∀i,(i<1000000\/∃l',(l'==l)=eT/\i=zZ l')->i≠zZ l->i<1000000:=λi h hi=>by
       rcases h with h|⟨l',F,h2⟩;·exact h
       ·rw[beq_iff_eq]at F;subst F;exact K3 h2 hi
      have af:(XE.dq (zZ l)).to=.goto l:=by simp[XE.to,zZ];omega
      have P:∀i,i<1000000->(XE.dq i).to=.exit i:=λi hi=>by simp[XE.to,hi]
      have R:∀i,i<1000000->i≠zZ l/\i≠NK l:=λi hi=>by unfold zZ NK;omega
      refine alD l (λm a0 w0=>∃e0 O0 g0 y,vY (evC C call n (.eG (zZ l) (.eA (cC C.P I) (.dq (NK l))))) m e0 O0=J (y,v,O')/\(match y with|.dq i=>if i=NK l then XE.du else .dq i|y=>y)=x/\AR g0 e0 a0/\a0.defers=a.defers/\Goes g O w g0 O0 w0) hf ?_ ?_
      ·cases hb:evC C call n (cC C.P b) e O with
       |none=>rw[hb]at d;simp at d
       |some cB=>
        obtain⟨x1,e1,A⟩:=cB;rw[hb]at d;refine K4 (pX o k n b e e1 O A x1 hb g w a ha t u) λex a1 L ⟨E,q,s,j,f⟩=>?_;subst E;cases x1 with
        |du=>simp only[w9 ac,Z0,J2,aC2]at d;obtain⟨rfl,rfl,rfl⟩:=d;exact⟨w8,q,s,j,f⟩
        |ea=>simp only[J2,aC2]at d;obtain⟨rfl,rfl,rfl⟩:=d;exact⟨w8,q,s,j,f⟩
        |dq i=>
         by_cases hi:i=zZ l
         ·subst hi;rw[af];simp only[Z0]at d;refine⟨w8,n,e1,A,s,?_⟩;split at d;·rename_i i1 e2 O2 D;simp only[J2,aC2]at d;obtain⟨E,rfl,rfl⟩:=d;exact⟨_,D,E,j,q,f⟩
          ·rename_i au;refine⟨x,d,?_,j,q,f⟩;cases x with|dq i1=>exact(au _ _ _ d).elim|du=>rfl|ea=>rfl
         ·have G:=ab i (V.1 i (F5 n _ _ _ _ _ _ hb)) hi;simp only[w9 hi,w9 (R i G).2,J2,aC2]at d;obtain⟨rfl,rfl,rfl⟩:=d;rw[P i G];exact⟨(P i G).symm,q,s,j,f⟩
      ·rintro m a0 w0 ⟨e0,O0,g0,y,D,hy,al,H,B⟩;cases m with
       |zero=>cases D
       |succ m=>
        simp only[vY,evC]at D;cases hb:evC C call n (cC C.P I) e0 O0 with
        |none=>rw[hb]at D;simp at D
        |some cB=>
         obtain⟨x1,e1,A⟩:=cB;rw[hb]at D;refine K4 (pX o k n I e0 e1 O0 A x1 hb g0 w0 a0 al B.wr (u.D B.le)) λex a1 L ⟨E,q,s,j,f⟩=>?_;subst E;cases x1 with
         |du=>simp only[w9 ac,J2,aC2]at D;obtain⟨rfl,rfl,rfl⟩:=D;simp only[Z0]at hy;subst hy;exact⟨w8,q.trans H,s,j,B.N f⟩
         |ea=>simp only[J2,aC2]at D;obtain⟨rfl,rfl,rfl⟩:=D;simp only at hy;subst hy;exact⟨w8,q.trans H,s,j,B.N f⟩
         |dq i=>
          by_cases hi:i=zZ l;·subst hi;rw[af];simp only[Z0]at D;exact⟨w8,m,by omega,e1,A,s,y,D,hy,j,q.trans H,B.N f⟩
          ·have G:=ab i (V.2 l _ an i (F5 n _ _ _ _ _ _ hb)) hi;simp only[w9 hi,J2,aC2]at D;obtain⟨rfl,rfl,rfl⟩:=D;simp only[w9 (R i G).2]at hy;subst hy;rw[P i G];exact⟨(P i G).symm,q.trans H,s,j,B.N f⟩
  |.goto l,e,v,O,O',x,d,g,w,a,ha,t,u=>by simp[cC,evC]at d;obtain⟨rfl,rfl,rfl⟩:=d;exact wp_goto ⟨by simp[XE.to,zZ];omega,w8,g,ha,.ax t⟩
  |.rangeFunc ..,e,v,O,O',x,d,g,w,a,ha,t,u=>by simp[cC,evC]at d
  |.refuse _,e,v,O,O',x,d,g,w,a,ha,t,u=>by simp[cC,evC]at d
 termination_by c=>SizeOf.sizeOf c
 decreasing_by
  all_goals simp_wf
  all_goals first
   |omega|(have:=U3 _ _ _ hf;omega)
end
section
variable{C:Ctx}{g:Gh}{w:World}{O:St}
def QH{O:St}{o:T}{x:AO}(h:O[o]?=J x):O.set o x=O:=by apply aD6;grind
def Gy:∀(fs:W T) (O:St) (g:Gh),WR g w O->∃g',Goes g O w g' (freeze O fs) w/\∀o∈fs,∀l fz,O[o]?=J (.cP l fz)->CR g' l (g.ob o) 0
 |[],O,g,d=>⟨g,.ax d,by simp⟩
 |o::fs,O,g,d=>by
  cases h:O[o]? with
  |none=>obtain⟨g',e,h2⟩:=Gy fs O g d;grind [freeze]
  |some x=>
   cases x with
   |em=>obtain⟨g',e,h2⟩:=Gy fs O g d;grind [freeze]
   |dz q=>obtain⟨g',e,h2⟩:=Gy fs O g d;grind [freeze]
   |cP l0 a=>
    obtain⟨n,e,k⟩:=ai9 d h;have c:freeze O (o::fs)=freeze (O.set o (.cP l0 ⟨eT,a.t⟩)) fs:=by
     obtain⟨b0,s⟩:=a;cases b0 with
     |false=>simp[freeze,h]|true=>simp[freeze,h,QH h]
    obtain⟨p,h2,h3⟩:=Gy fs (O.set o (.cP l0 ⟨eT,a.t⟩)) n e.wr;refine⟨p,by rw[c];exact e.N h2,λj b l fz i=>?_⟩;have m:j<g.n:=d.lt i;by_cases f:j=o;·subst f;rw[h]at i;simp at i;obtain⟨rfl,_⟩:=i;exact k.D h2.le
    ·rcases aC8.1 b with rfl|b;·exact K3 w8 f
     ·have:=h3 j b l fz (by grind);rwa[e.le.ob j m]at this
def afs(g:Gh)(O:St)(fs:W T):Prop:=∀o∈fs,∀l a,O[o]?=J (.cP l a)->CR g l (g.ob o) 0
theorem afs.dh{fs gs:W T}(h:afs g O (fs++gs)):afs g O fs:=λo a=>h o (by simp[a])
def afs.ds{fs gs:W T}(h:afs g O (fs++gs)):afs g O gs:=λo a=>h o (by simp[a])
def ajK(g:Gh)(O:St)(d:LA->P (LA×W T)):Prop:=∀l a fs,d l=J (a,fs)->afs g O fs->(∀vs,VRs g l vs->VRs g a vs)/\∀b off,CR g l b off->CR g a b off
mutual
def aeL(N:LA->P (LA×W T))(hr:ajK g O N):∀(a:AV) (a':AV) (fs:W T),cu O N a=J (a',fs)->afs g O fs->∀v,VR g a v->VR g a' v
 |.cY,a',fs,h,_,v,hv=>by grind [cu,VR]
 |.fS,a',fs,h,_,v,hv=>by grind [cu,VR]
 |.eB n l,a',fs,h,hf,v,hv=>by
  simp only[cu]at h;split at h;·rename_i i c e;simp at h;obtain⟨rfl,rfl⟩:=h;cases hv with|eB _ _ b off k=>exact .sl _ _ _ _ _ ((CY N hr l i c e hf).2 b off k) (a09 _)
  ·cases h
 |.dj o off m E,a',fs,h,hf,v,hv=>by
  simp only[cu]at h;split at h
  ·rename_i l s e;split at h
   ·rename_i hlen;split at h;·rename_i i c q;simp at h;obtain⟨rfl,rfl⟩:=h;cases hv with|dj _ _ _ _ cap I A hb=>have k:=hf o (by simp) l s e;have j:=(k.cB off).cD (m*E);simp only[aC4]at j;exact .sl _ _ _ _ _ ((hr _ i c q (λD p=>hf D (by simp[p]))).2 _ _ j) A
    ·cases h
   ·cases h
  ·cases h
 |.dv f x y,a',fs,h,hf,v,hv=>by
  simp only[cu]at h;split at h;·rename_i G c H w d h2;simp at h;obtain⟨rfl,rfl⟩:=h;cases hv with|dv _ _ _ L M B C=>exact .dv _ _ _ _ _ ((CY N hr x G c d hf.dh).1 _ B) ((CY N hr y H w h2 hf.ds).1 _ C)
  ·cases h
 |.dx t u,a',fs,h,hf,v,hv=>by
  simp only[cu]at h;split at h;·rename_i F c d;simp at h;obtain⟨rfl,rfl⟩:=h;cases hv with|dx _ _ K hv=>exact .dx _ _ _ (aeL N hr u F c d hf _ hv)
  ·cases h
 |.cX l,a',fs,h,hf,v,hv=>by
  simp only[cu]at h;split at h;·rename_i i c d;simp at h;obtain⟨rfl,rfl⟩:=h;cases hv with|cX _ vs e=>exact .cX _ _ ((CY N hr l i c d hf).1 _ e)
  ·cases h
 |.de l,a',fs,h,hf,v,hv=>by
  simp only[cu]at h;split at h;·rename_i i c d;simp at h;obtain⟨rfl,rfl⟩:=h;cases hv with|de _ vs e=>exact .de _ _ ((CY N hr l i c d hf).1 _ e)
  ·cases h
 |.cW _,a',fs,h,_,v,hv=>by grind [cu]
 |.cQ _ _,a',fs,h,_,v,hv=>by grind [cu]
 |.cU _,a',fs,h,_,v,hv=>by grind [cu]
 |.ep,a',fs,h,_,v,hv=>by grind [cu]
 |.da _ _,a',fs,h,_,v,hv=>by grind [cu]
 |.ec _,a',fs,h,_,v,hv=>by grind [cu]
 |.sl _ _,a',fs,h,_,v,hv=>by grind [cu]
 |.dz _,a',fs,h,_,v,hv=>by grind [cu]
 |.eE,a',fs,h,_,v,hv=>by grind [cu]
 |.eo,a',fs,h,_,v,hv=>by grind [cu]
 |.eb,a',fs,h,_,v,hv=>by grind [cu]
def CY(q:LA->P (LA×W T))(hr:ajK g O q):∀(l c:LA) (fs:W T),bI O q l=J (c,fs)->afs g O fs->(∀vs,VRs g l vs->VRs g c vs)/\∀b off,CR g l b off->CR g c b off
 |[],c,fs,h,_=>by grind [bI]
 |a::l,c,fs,h,hf=>by
  simp only[bI]at h;split at h
  ·rename_i a' d e f i h2;simp at h;obtain⟨rfl,rfl⟩:=h;have k:=aeL q hr a a' d i hf.dh;have m:=CY q hr l e f h2 hf.ds;exact⟨λvs hv=>by grind [VRs],
    λb off j=>by grind [CR]⟩
  ·cases h
end
def aix:∀n,ajK g O (eX O n)
 |0=>λl a fs h _=>by cases h
 |n+1=>λl a fs h hf=>CY (eX O n) (aix n) l a fs h hf
def wz(a:WR g w O)(raw:F){l c:LA}{O':St}(h:hand raw l O=J (c,O')){vs:W i}(hv:VRs g l vs):∃g',Goes g O w g' O' w/\VRs g' c vs:=by
 unfold hand at h;split at h;·simp at h;obtain⟨rfl,rfl⟩:=h;exact⟨g,.ax a,hv⟩
 ·split at h;·rename_i l1 fs e;simp at h;obtain⟨rfl,rfl⟩:=h;obtain⟨g',h2,h3⟩:=Gy fs O g a;refine⟨g',h2,(aix 12 l l1 fs e (λo f l0 d b=>?_)).1 _ (hv.D h2.le)⟩;rw[h2.le.ob o (a.lt b)];exact h3 o f l0 d b
  ·cases h
def OD{g0:Gh}{O0:St}{w0:Y}(a:Goes g0 O0 w0 g O w)(b:WR g0 w0 O0){l:LA}{vs:W i}(hv:VRs g l vs):∃g',Goes g0 O0 w0 g' (tidy (z O0) l O) w/\VRs g' l vs:=by
 unfold tidy;split;·exact⟨g,a,hv⟩
 ·split;·rename_i hb;simp only[a02]at hb;exact⟨_,aqr a b.n hb.2,hv.bh hb.1⟩
  ·exact⟨g,a,hv⟩
def GL.gw{C:H}{g:Gh}:GL {C with gl:=λ_=>U,np:=eT} g:=⟨λn l h=>(by cases h),Or.inl w8⟩
def Na (n:WR g w O) {e:K} {a:Act} (ha:AR g e a):∀(rs:W ResultVar) (xs:W XR),cR C.P rs=J xs->∀(vs:LA),YH e O xs=J vs->
  ∃vs',(rs.mapM (m:=Sem) λ|.tmp t=>pure (a.tmps.getD t K5)|.cell s t=>do loadVar t (<-asAddr (a.tmps.getD s K5))).run C.P w=.ok vs' w/\VRs g vs vs'
 |[],xs,b,vs,hv=>by simp[cR]at b;subst b;simp[YH]at hv;subst hv;exact⟨[],w8,.db⟩
 |.tmp t::rs,xs,b,vs,hv=>by
  simp only[cR,aB5]at b;obtain⟨f,k,rfl⟩:=b;simp only[YH]at hv;split at hv
  ·rename_i d h2;simp at hv;subst hv;obtain⟨vs',h3,h4⟩:=Na n ha rs f k d h2;refine⟨a.tmps.getD t K5::vs',?_,.cV _ _ _ _ ?_ h4⟩;·simp_all
   ·have:=AR.el (C:={C with gl:=λ_=>U,np:=eT}) ha GL.gw (.tmp t) (.t t) w8;exact this
  ·cases hv
 |.cell t E::rs,xs,b,vs,hv=>by
  simp only[cR,aB4,K9,aC3,J2]at b;obtain⟨u,y,i,hi,f,k,rfl⟩:=b;simp only[YH]at hv;split at hv
  ·rename_i o off d h5 h2;split at hv
   ·rename_i c B x;split at hv
    ·rename_i v l;simp at hv;subst hv;obtain⟨vs',h3,h4⟩:=Na n ha rs f k d h2;have j:=AR.el (C:={C with gl:=λ_=>U,np:=eT}) ha GL.gw (.tmp t) (.t t) w8;simp only[av]at j;rw[h5]at j;generalize p:a.eval (.tmp t)=q at j;cases j;have h:=(n.bA o _ x).cP.cB off;simp only[aC4]at h;obtain⟨A,h6,h7⟩:=ac8 (P:=C.P) h y hi l;refine⟨A::vs',?_,.cV _ _ _ _ h7 h4⟩;simp only[Act.eval]at p;have D:(asAddr (a.tmps.getD t K5)).run C.P w=.ok ⟨g.ob o,off,U⟩ w:=by rw[p];rfl
     simp_all
    ·cases hv
   ·cases hv
  ·cases hv
def YV:∀(vs:LA) (vs':W i),VRs g vs vs'->VR g (dG vs) (if h:(⟨vs'⟩:j9 i).size=1 then(⟨vs'⟩:j9 i)[0]else .tuple ⟨vs'⟩)
 |[],_,.db=>by simp;exact .de _ _ .db
 |[a],_,.cV _ v _ _ x .db=>by simpa[dG]using x
 |a::b::l,_,.cV _ v _ _ x (.cV _ u _ c y z)=>by grind [dG,VR,VRs]
end
def ajH(C:H):Prop:=∀f x,C.fs f=J x->cF C.P f=J x/\(∃fn,C.P.funcs[f]?=J fn/\(fn.name== "runtime.NumGoroutine")=eF)
def Yd(C:H):Prop:=∀f h,C.eV f=J h->∀args O v b,h args O=J (v,b)->∀g w a,VRs g args a->WR g w O->GL C g->Does C.P f a w λd e=>∃c,Goes g O w c b e/\VR c v d
def VRs.fc{g:Gh}(n:T){a:AV}{v:i}(h:VR g a v):VRs g (j0 n a) (j0 n v):=by
 induction n with
 |zero=>exact .db|succ n b=>exact .cV _ _ _ _ h b
def KY {P:Program} (fn:Func) (tmps:j9 i) (w:Y) {vs:W i} (h:(fn.results.toList.mapM (m:=Sem) λ|.tmp t=>pure (tmps.getD t K5)|.cell a t=>do loadVar t (<-asAddr (tmps.getD a K5))).run P w=.ok vs w):
  (results fn tmps).run P w=.ok (if h:(⟨vs⟩:j9 i).size=1 then(⟨vs⟩:j9 i)[0]else .tuple ⟨vs⟩) w:=by
 have key:(fn.results.mapM (m:=Sem) λ|.tmp t=>pure (tmps.getD t K5)|.cell a t=>do loadVar t (<-asAddr (tmps.getD a K5))).run P w=.ok ⟨vs⟩ w:=by rw[<-Array.toArray_toList (xs:=fn.results),List.mapM_toArray,Sem.run_map,h];rfl
 unfold results;rw[Sem.run_bind];show Result.andThen ((fn.results.mapM (m:=Sem) λ|.tmp t=>pure (tmps.getD t K5)|.cell a t=>do loadVar t (<-asAddr (tmps.getD a K5))).run P w) _=_;rw[key];rfl
def aeb{C:Ctx}(s:ajH C)(e:Yd C)(b:∀call,fZ C call->JX C call):∀n,fZ C (evF C n)
 |0=>λf args O v W h=>by cases h
 |n+1=>by
  have Z:=aeb s e b n;intro f args O v W h g w a ha R Y;simp only[evF]at h;split at h;·rename_i p hp;exact e f p hp args O v W h g w a ha R Y
  ·split at h;·cases h
   ·rename_i x hx;obtain⟨q,fn,l,m⟩:=s f x hx;simp only[cF,aB4,K9,aC3,J2]at q;obtain⟨aa,k,body,hb,V,S,rfl⟩:=q;rw[l]at k;cases k;split at h;·cases h
    ·rename_i i O1 L;split at h;·cases h
     ·rename_i hlen;have y:(callFunc f ⟨a⟩).run C.P w=.ok (.enter f ⟨a⟩) w:=by have F:fn.name≠ "runtime.NumGoroutine":=(by simpa using m);simp[callFunc,l,F,hb]
      unfold Does;rw[y];simp only;obtain⟨E,c,A⟩:=wz R _ L ha;split at h;·cases h
      ·cases h
      ·rename_i xe e1 O2 N I;refine calls_of_wp l hb ?_;have hl:=A.I;have H:AR E (i++j0 (fn.ntmps-z i) .dT) {tmps:=(⟨a⟩:j9 Value)++Z1 (fn.ntmps-(⟨a⟩:j9 Value).size) K5,defers:=[]}:=by have F:=A.cM (VRs.fc (fn.ntmps-z i) (AX E));have:z a=z i:=hl;simpa[AR,this]using F
       refine K4 (pX Z (b _ Z) n body _ e1 O1 O2 xe I E w _ H c.wr (Y.D c.le)) λex a2 D ⟨K,hd,g2,G,d⟩=>?_;split at h;·cases h
       ·rename_i vs hres;split at h;·cases h
        ·rename_i o O3 M;simp at h;obtain⟨rfl,rfl⟩:=h;obtain⟨T,hr1,hr2⟩:=Na (C:=C) d.wr G _ V S vs hres;obtain⟨g3,t,P⟩:=wz d.wr _ M hr2;obtain⟨g4,u,Q⟩:=OD ((c.N d).N t) R P;have j:a2.defers=[]/\∃v,(results fn a2.tmps).run C.P D=.ok v D/\∃B,Ending.returned v=.returned B/\∃X,Goes g O w X (tidy (z O) o O3) D/\VR X (dG o) B:=
          ⟨hd,_,KY fn a2.tmps D hr1,_,w8,g4,u,YV o T Q⟩
         subst K;cases xe with
         |du=>exact j|ea=>exact j|dq id=>exact(N id w8).elim
mutual
theorem same_eq:∀a b:AV,j a b=eT->a=b
 |.cW a,b,h=>by cases b<;>simp[j]at h;rw[h]
 |.cQ k a,b,h=>by cases b<;>simp[j]at h;rw[h.1,h.2]
 |.cU a,b,h=>by cases b<;>simp[j,xP]at h;rw[h]
 |.ep,b,h=>by cases b<;>simp[j]at h;rfl
 |.da _ _,b,h=>by cases b<;>simp[j]at h;rw[h.1,h.2]
 |.ec a,b,h=>by cases b<;>simp[j]at h;rw[yY _ _ h]
 |.cY,b,h=>by cases b<;>simp[j]at h;rfl
 |.fS,b,h=>by cases b<;>simp[j]at h;rfl
 |.sl n a,b,h=>by cases b<;>simp[j]at h;rw[h.1,yY _ _ h.2]
 |.eB n a,b,h=>by cases b<;>simp[j]at h;rw[h.1,yY _ _ h.2]
 |.dj _ _ _ _,b,h=>by cases b<;>simp[j]at h;rw[h.1.1.1,h.1.1.2,h.1.2,h.2]
 |.dz _,b,h=>by cases b<;>simp[j]at h;rw[h]
 |.eE,b,h=>by cases b<;>simp[j]at h;rfl
 |.dv f x y,b,h=>by cases b<;>simp[j]at h;rw[h.1.1,yY _ _ h.1.2,yY _ _ h.2]
 |.eo,b,h=>by cases b<;>simp[j]at h;rfl
 |.dx t a,b,h=>by cases b<;>simp[j]at h;rw[h.1,same_eq _ _ h.2]
 |.eb,b,h=>by cases b<;>simp[j]at h;rfl
 |.cX a,b,h=>by cases b<;>simp[j]at h;rw[yY _ _ h]
 |.de a,b,h=>by cases b<;>simp[j]at h;rw[yY _ _ h]
theorem yY:∀a b:LA,zG a b=eT->a=b
 |[],b,h=>by cases b<;>simp[zG]at h;rfl
 |a::x,b,h=>by cases b<;>simp[zG]at h;rw[same_eq _ _ h.1,yY _ _ h.2]
end
section
variable{C:Ctx}
def Agree(e a:K)(l:W T):Prop:=∀t∈l,e.getD t .dT=a.getD t .dT
def PO{e a:K}(x:XA)(h:Agree e a x.aE):av C e x=av C a x:=by cases x<;>simp only[av];exact h _ (by simp[XA.aE])
def Iu{e b:K}:∀(l:W XA),Agree e b (Ae l)->l.map (av C e)=l.map (av C b)|[],_=>w8|x::l,h=>by simp only[aC9];rw[PO x (λt a=>h t (by simp[Ae,a])),Iu l (λt a=>h t (by simp[Ae,a]))]
def Ir{e a:K}(x:P XA)(h:Agree e a (Vf x)):x.map (av C e)=x.map (av C a):=by
 cases x with
 |none=>rfl|some x=>simp only[aC5];rw[PO x h]
def adR{e b:K}:∀(l:W (T×T×XA)),Agree e b (Qz l)->(l.map λ(o,s,x)=>(o,s,av C e x))=(l.map λ(o,s,x)=>(o,s,av C b x))|[],_=>w8|(o,s,x)::l,h=>by simp only[aC9];rw[PO x (λt a=>h t (by simp[Qz,a])),adR l (λt a=>h t (by simp[Qz,a]))]
def anQ{e o:K}(s:e.length=o.length)(O:St)(j:XI)(h:Agree e o j.aE):j7 C e O j=j7 C o O j:=by
 by_cases i:∃k d p x,j=.gD k d p x;·obtain⟨k,d,p,x,rfl⟩:=i;simp only[j7,aF];rw[PO x h,s]
 have mem:∀{x:XA},(∀t∈x.aE,t∈j.aE)->av C e x=av C o x:=λ{x} u=>PO x (λt g=>h t (u t g));cases j<;>simp only[XI.aE]at h mem<;>simp only[j7,aF]<;>first
  |(exact K3 ⟨_,_,_,_,w8⟩ i)|rfl|(rw[mem (λt g=>g)])|(rename_i a b;rw[mem (x:=a) (λt g=>by simp[g]),mem (x:=b) (λt g=>by simp[g])])|(rename_i a b c;rw[mem (x:=a) (λt g=>by simp[g]),mem (x:=b) (λt g=>by simp[g]),mem (x:=c) (λt g=>by simp[g])])|(rw[adR _ h])|skip
 case it fn x y=>rw[Iu x (λt g=>h t (by simp[g])),Iu y (λt g=>h t (by simp[g]))]
 case gH x a b=>rw[mem (x:=x) (λt g=>by simp[g]),Ir a (λt g=>h t (by simp[g])),Ir b (λt g=>h t (by simp[g]))]
 case ii p x a b c=>rw[mem (x:=x) (λt g=>by simp[g]),Ir a (λt g=>h t (by simp[g])),Ir b (λt g=>h t (by simp[g]))]
 case gF n p x a b c=>rw[mem (x:=x) (λt g=>by simp[g]),Ir a (λt g=>h t (by simp[g])),Ir b (λt g=>h t (by simp[g]))]
 case hG z m k ok=>grind
 all_goals first
  |(rw[Iu _ h])|(rename_i f l;rw[mem (x:=f) (λt g=>by simp[g]),Iu l (λt g=>h t (by simp[g]))])|(rename_i f m l;rw[mem (x:=f) (λt g=>by simp[g]),Iu l (λt g=>h t (by simp[g]))])|(rename_i q;rw[mem (x:=q) (λt g=>by simp[g])])
theorem Yl{e:K}{O:St}{b:XI}{out:Out}(a:b.aD=eF)(h:j7 C e O b=J out):∃v,out=.ev v O:=by
 cases b<;>simp[XI.aD]at a<;>simp only[j7,aF]at h<;>
  (repeat' (first|(cases h;exact⟨_,w8⟩)|(cases h;done)|(simp only[aB5]at h;obtain⟨_,_,rfl⟩:=h;exact⟨_,w8⟩)|(rw[a]at h;cases h;exact⟨_,w8⟩)|split at h))
def anR{e:K}{O:St}{a:XI}{v:AV}(b:a.aD=eF)(c:a.eq=eF)(h:j7 C e O a=J (.ev v O))(O':St):j7 C e O' a=J (.ev v O'):=by
 cases a<;>simp[XI.aD]at b<;>simp[XI.eq]at c<;>simp only[j7,aF]at h⊢<;>
  (repeat' (first|(cases h;rfl)|(cases h;done)|(simp only[aB5]at h⊢;obtain⟨u,d,hv⟩:=h;cases hv;exact⟨_,d,w8⟩)|(split at h<;>simp_all [Es])))
end
mutual
theorem jT:∀a:AV,j a a=eT
 |.cW a=>by simp[j]
 |.cQ k a=>by simp[j]
 |.cU a=>by simp[j,xP]
 |.ep=>by simp[j]
 |.da o f=>by simp[j]
 |.ec a=>by rw[j];exact yF a
 |.cY=>by simp[j]
 |.fS=>by simp[j]
 |.sl n l=>by rw[j,yF l];simp
 |.eB n l=>by rw[j,yF l];simp
 |.dj o f n z=>by simp[j]
 |.dz m=>by simp[j]
 |.eE=>by simp[j]
 |.dv f x y=>by rw[j,yF x,yF y];simp
 |.eo=>by simp[j]
 |.dx t v=>by rw[j,jT v];simp
 |.eb=>by simp[j]
 |.cX l=>by rw[j];exact yF l
 |.de l=>by rw[j];exact yF l
theorem yF:∀l:LA,zG l l=eT
 |[]=>by simp[zG]
 |a::l=>by rw[zG,jT a,yF l];rfl
end
def direct(o:R):W T:=(o.after.toList.filter (J0 .any)).map (·.on)
structure Anc(ops:List Oper)(an:List (List Nat)):Prop where
 dt:an.length=ops.length
 lt:∀(i:Nat) (o:Oper),ops[i]?=some o->∀j∈direct o,j<i
 oS:∀(i:Nat) (o:Oper),ops[i]?=some o->∀k,k∈an.getD i []->k∈direct o\/∃j∈direct o,k∈an.getD j []
def adN:∀(l done:W R) (acc an:W (W T)),Anc done acc->anz acc l=J an->Anc (done++l) an
 |[],done,acc,an,h,d=>by grind [anz]
 |o::l,done,acc,an,h,d=>by
  simp only[anz]at d;split at d
  ·rename_i c;have h2:Anc (done++[o]) (acc++[((o.after.toList.filter (J0 .any)).map (·.on)++((o.after.toList.filter (J0 .any)).map (·.on)).flatMap λj=>acc.getD j []).eraseDups]):=by
    have e:∀j∈direct o,j<z acc:=λj hj=>by simpa using aB0.1 c j hj
    refine⟨by simp[h.dt],λi n a j hj=>?_,λi n a k b=>?_⟩;·grind [Anc]
    ·rw[aF4]at a;split at a;·rename_i m;have e1:(acc++[((o.after.toList.filter (J0 .any)).map (·.on)++((o.after.toList.filter (J0 .any)).map (·.on)).flatMap λj=>acc.getD j []).eraseDups]).getD i []=acc.getD i []:=(by grind [Anc]);grind [Anc]
     ·rename_i g;have hi:i-z done=0:=(by grind);rw[hi]at a;simp at a;subst a;have f:i=z acc:=by rw[h.dt];omega
      subst f;rw[aD4,aH8 (a09 _)]at b;simp only[Nat.sub_self,aJ1,aG9,List.mem_eraseDups,aE4,aH6]at b;rcases b with b|⟨j,hj,b⟩;·exact .inl b
      ·refine .inr ⟨j,hj,?_⟩;grind
   have:=adN l (done++[o]) _ an h2 d;simpa using this
  ·cases d
def atY{ops:W R}{an:W (W T)}(h:anz [] ops=J an):Anc ops an:=by have:=adN ops [] [] an ⟨w8,by simp,by simp⟩ h;simpa using this
section
variable{ops:Array Oper}{an:List (List Nat)}
def Closed(ops:j9 R)(L:T->F):Prop:=∀(i:T) (o:R),ops[i]?=J o->L i=eT->∀j∈direct o,L j=eT
theorem ahs(ha:Anc ops.toList an){L:T->F}(f:Closed ops L):∀(i:T) (o:R),ops[i]?=J o->(∀j∈direct o,L j=eT)->∀k∈an.getD i [],L k=eT:=by
 intro i
 induction i using j8 with
 |_ i m=>
  intro o e d k g;rcases ha.oS i o (by simpa using e) k g with h|⟨j,c,h2⟩;·exact d k h
  ·have hj:=ha.lt i o (by simpa using e) j c;have a:j<ops.size:=(by grind);have b:ops[j]?=J ops[j]:=aD1 a;exact m j hj _ b (λq l=>f j _ b (d j c) q l) k h2
theorem apu(ha:Anc ops.toList an):∀(i:T) (o:R),ops[i]?=J o->∀k∈an.getD i [],k<i:=by
 intro i
 induction i using j8 with
 |_ i d=>
  intro o a k b;rcases ha.oS i o (by simpa using a) k b with h|⟨j,c,h2⟩;·exact ha.lt i o (by simpa using a) k h
  grind [Anc]
end
structure Run(C:Ctx)(call:bY)(l:List XOp)(E:Nat->Env)(S:Nat->St)(V:Nat->AV):Prop where
 op:∀(i:Nat) (o:XOp),l[i]?=some o->EF C call o (E i) (S i)=some (V i,S (i+1))
 aR:∀(i:Nat) (o:XOp),l[i]?=some o->E (i+1)=put (E i) o.ba (V i)
def abu {C:H} {call:bY}:∀(l:W X) (e a:K) (O O':St) (rs:W (K×AV)) (ss:W St),zV C call l e O=J (a,O',rs,ss)->
  ∃E S V,E 0=e/\S 0=O/\E (z l)=a/\S (z l)=O'/\Run C call l E S V/\(∀i,i<z l->rs[i]?=J (E i,V i))/\(∀i,i<=z l->ss[i]?=J (S i))
 |[],e,a,O,O',rs,ss,h=>by simp[zV]at h;obtain⟨rfl,rfl,rfl,rfl⟩:=h;exact⟨λ_=>e,λ_=>O,λ_=>.dT,w8,w8,w8,w8,⟨by simp,by simp⟩,by simp,λi hi=>by simp at hi;subst hi;rfl⟩
 |o::l,e,a,O,O',rs,ss,h=>by
  simp only[zV]at h;split at h
  ·rename_i v j q;split at h
   ·rename_i e2 k f g h2;simp at h;obtain⟨rfl,rfl,rfl,rfl⟩:=h;obtain⟨E,S,V,s,u,b,c,t,m,n⟩:=abu l _ e2 j k f g h2;refine⟨λi=>match i with|0=>e|i+1=>E i,λi=>match i with|0=>O|i+1=>S i,λi=>match i with|0=>v|i+1=>V i,w8,w8,b,c,⟨λi p d=>?_,λi p d=>?_⟩,λi hi=>?_,λi hi=>?_⟩;·grind [Run]
    ·grind [Run]
    ·grind
    grind
   ·cases h
  ·cases h
def Ur {C:H} {ss:W St}:∀(l:W X) (rs:W (K×AV)),BM C ss l rs=eT->∀(i:T) (o:X) (e:K) (v:AV),l[i]?=J o->rs[i]?=J (e,v)->sJ o e=eT->∀c∈o.bo,
  ∃s d v1 v2 s1 s2,ss[c]?=J s/\ss[c+1]?=J d/\j7 C e s o.i=J (.ev v1 s1)/\j7 C e d o.i=J (.ev v2 s2)/\v1=v/\v2=v
 |[],rs,h,i,o,e,v,b,hr,j,c,g=>by simp at b
 |k::l,[],h,i,o,e,v,b,hr,j,c,g=>by simp at hr
 |k::l,(e0,v0)::rs,h,i,o,e,v,b,hr,j,c,g=>by
  simp only[BM,a02,aE7,aJ2]at h;cases i with
  |succ i=>exact Ur l rs h.2 i o e v (by simpa using b) (by simpa using hr) j c g
  |zero=>
   simp at b hr;obtain⟨rfl⟩:=b;obtain⟨rfl,rfl⟩:=hr;rcases h.1 with f|f;·rw[j]at f;cases f
   ·have key:∀q:W T,Om C k e0 v0 ss q=eT->c∈q->∃s d v1 v2 s1 s2,ss[c]?=J s/\ss[c+1]?=J d/\j7 C e0 s k.i=J (.ev v1 s1)/\j7 C e0 d k.i=J (.ev v2 s2)/\v1=v0/\v2=v0:=by
     intro q
     induction q with
     |nil=>intro _ hm;simp at hm
     |cons q0 q n=>
      intro m hm;simp only[Om,a02]at m;rcases aC8.1 hm with rfl|hm
      ·have a:=m.1;split at a
       ·rename_i s d h2 h3;split at a;·rename_i v1 s1 v2 s2 h4 h5;simp only[a02]at a;grind [same_eq]
        ·cases a
       ·cases a
      ·exact n m.2 hm
    exact key _ f g
section
variable{C:Ctx}{call:bY}{ops:Array Oper}{an:List (List Nat)}{l:List XOp}{E:Nat->Env}{S:Nat->St}{V:Nat->AV}
theorem SE(hok:Ky an l=eT){i j:T}(a:i<j){x y:X}(d:l[i]?=J x)(c:l[j]?=J y)(h:clash x y=eT\/(x.i.aD=eT/\y.i.aD=eT)):i∈an.getD j []:=by unfold Ky at hok;have hj:j<z l:=(a00.1 c).1;have b:=aB0.1 hok j (aG6.2 hj);simp only[a02]at b;have h2:=aB0.1 b.2 i (aG6.2 a);unfold akR at h2;grind
theorem ami(hok:Ky an l=eT){j:T}{y:X}(b:l[j]?=J y){k d sz:T}{x:XA}(hf:y.i=.gD k d sz x):k∈an.getD j []:=by unfold Ky at hok;have hj:j<z l:=(a00.1 b).1;have a:=aB0.1 hok j (aG6.2 hj);simp only[a02]at a;have h2:=a.1;unfold akf at h2;obtain⟨c,i,g,lo⟩:=y;grind
structure Std(ops:Array Oper)(l:List XOp)(E:Nat->Env)(S:Nat->St)(V:Nat->AV)(L:Nat->Bool)(e:Env)(k:Nat):Prop where
 g1:Closed ops L
 dt:e.length=(E 0).length
 aR:∀t,t<(E 0).length->(∃j o,l[j]?=some o/\L j=true/\o.ba=some t/\e[t]?=some (V j)/\∀j' o',l[j']?=some o'->L j'=true->o'.ba=some t->j'<=j)\/((∀j o,l[j]?=some o->L j=true->o.ba≠some t)/\e[t]?=(E 0)[t]?)
 mA:k<=l.length
 oF:∀c o,l[c]?=some o->o.i.aD=true->c<k->L c=true
 kb:∀c o,l[c]?=some o->o.i.aD=true->k<=c->L c=false
theorem Oj(e:K)(d:P T)(v:AV):z (Z3 e d v)=z e:=by cases d<;>simp[Z3]
theorem amX(e:K)(d:P T)(v:AV)(t:T):(Z3 e d v)[t]?=if d=J t/\t<z e then J v else e[t]?:=by
 cases d with
 |none=>simp[Z3]|some d=>simp only[Z3,List.getElem?_set];grind
theorem Run.hn(a:Run C call l E S V):∀i,i<=z l->z (E i)=z (E 0)|0,_=>w8|i+1,h=>by have hi:i<z l:=(by omega);rw[a.aR i _ (a01 hi),Oj];exact a.hn i (by omega)
theorem Run.hP(a:Run C call l E S V):∀i,i<=z l->∀t,t<z (E 0)->(∃j o,j<i/\l[j]?=J o/\o.ba=J t/\(E i)[t]?=J (V j)/\∀c e,c<i->l[c]?=J e->e.ba=J t->c<=j)\/((∀j o,j<i->l[j]?=J o->o.ba≠J t)/\(E i)[t]?=(E 0)[t]?)
 |0,_,t,d=>.inr ⟨λj o hj=>by omega,w8⟩
 |i+1,h,t,d=>by
  have hi:i<z l:=(by omega);have b:=a01 hi;rw[a.aR i _ b,amX,a.hn i (by omega)];by_cases g:l[i].ba=J t;·grind
  ·rw[w9 (λh=>g h.1)];rcases a.hP i (by omega) t d with⟨j,o,f,h2,h3,h4,h5⟩|⟨f,h2⟩;·grind
   grind
theorem Run.gn(k:Run C call l E S V){a b:T}(m:a<=b)(hb:b<=z l)(e:∀c o,a<=c->c<b->l[c]?=J o->o.i.aD=eF):S a=S b:=by
 induction b with
 |zero=>grind
 |succ b p=>
  rcases aL0 a (b+1)with h|h
  ·rw[p (by omega) (by omega) (λc o j h2=>e c o j (by omega))];have g:b<z l:=(by omega);have f:=a01 g;have d:=k.op b _ f;have n:=e b _ (by omega) (by omega) f;unfold EF at d;split at d;·cases i:j7 C (E b) (S b) l[b].i with|none=>rw[i]at d;cases d|some out=>grind [Yl]
   ·simp at d;exact d.2
  grind
end
set_option linter.unusedSectionVars false
section
variable{C:Ctx}{call:bY}{ops:Array Oper}{an:List (List Nat)}{l:List XOp}{E:Nat->Env}{S:Nat->St}{V:Nat->AV}{L:Nat->Bool}{e:Env}{k:Nat}
structure Rdy(ops:Array Oper)(L:Nat->Bool)(i:Nat):Prop where
 un:L i=false
 oq:∀o,ops[i]?=some o->∀j∈direct o,L j=true
variable(hlen:l.length=ops.size)(ha:Anc ops.toList an)(hok:Ky an l=true)
 include hlen ha hok
theorem Std.fk(hs:Std ops l E S V L e k){i:T}(hr:Rdy ops L i)(hi:i<z l){j:T}(hj:j∈an.getD i []):L j=eT:=by have a:ops[i]?=J (ops[i]'(by omega)):=aD1 (by omega);exact ahs ha hs.g1 i _ a (hr.oq _ a) j hj
theorem Std.fq(hs:Std ops l E S V L e k){i:T}(hr:Rdy ops L i){j:T}(hj:j<z l)(b:i∈an.getD j []):L j=eF:=by
 cases hL:L j with
 |false=>rfl|true=>have a:ops[j]?=J (ops[j]'(by omega)):=aD1 (by omega);have:=ahs ha hs.g1 j _ a (hs.g1 j _ a hL) i b;rw[hr.un]at this;cases this
theorem Std.dR(hs:Std ops l E S V L e k)(f:Run C call l E S V){i:T}(hr:Rdy ops L i){x:X}(p:l[i]?=J x):Agree (E i) e x.aE:=by
 have hi:i<z l:=(a00.1 p).1;intro t q;rw[aD4,aD4];have y:=f.hn i (by omega);rcases aL0 t (z (E 0)) with a|a
 ·congr 1;have A:∀j o,l[j]?=J o->L j=eT->o.ba=J t->j<i:=λj o c hL m=>by
   rcases Nat.lt_trichotomy j i with h|h|h;·exact h
   ·subst h;rw[hr.un]at hL;cases hL
   ·have g:clash x o=eT:=by unfold clash;simp[m,q]
    have:=SE hok h p c (.inl g);rw[hs.fq hlen ha hok hr (a00.1 c).1 this]at hL;cases hL
  have B:∀j o,l[j]?=J o->j<i->o.ba=J t->L j=eT:=λj o c n m=>by
   have g:clash o x=eT:=by unfold clash;simp[m,q]
   exact hs.fk hlen ha hok hr hi (SE hok n c p (.inl g))
  rcases hs.aR t a with⟨j,o,w,h2,h3,h4,h5⟩|⟨w,h2⟩
  ·rcases f.hP i (by omega) t a with⟨D,F,d,b,s,u,v⟩|⟨d,b⟩;·grind
   grind
  ·rcases f.hP i (by omega) t a with⟨D,F,d,b,s,u,v⟩|⟨d,b⟩;·grind
   ·rw[b,h2]
 grind [hs.dt]
def xJ(L:T->F)(i:T):T->F:=λj=>if j=i then eT else L j
theorem Std.cn (hs:Std ops l E S V L e k) {i:T} (hr:Rdy ops L i) {x:X} (s:l[i]?=J x) {k':T} (y:k'<=z l) (d:∀c o,l[c]?=J o->o.i.aD=eT->c<k'->xJ L i c=eT) (a:∀c o,l[c]?=J o->o.i.aD=eT->k'<=c->xJ L i c=eF):
  Std ops l E S V (xJ L i) (Z3 e x.ba (V i)) k':=by
 have hi:i<z l:=(a00.1 s).1;refine⟨λj o p hL q u=>?_,by rw[Oj];exact hs.dt,λt A=>?_,y,d,a⟩
 ·simp only[xJ]at hL⊢;split;·rfl
  ·by_cases b:j=i;·subst b;exact hr.oq o p q u
   ·rw[w9 b]at hL;exact hs.g1 j o p hL q u
 ·rw[amX,hs.dt];by_cases g:x.ba=J t
  ·rw[X2 ⟨g,A⟩];refine .inl ⟨i,x,s,by simp[xJ],g,w8,λB C f m n=>?_⟩;rcases aL0 i B with h|h
   ·exfalso;have v:clash x C=eT:=by unfold clash;simp[g,n]
    have:=hs.fq hlen ha hok hr (a00.1 f).1 (SE hok h s f (.inl v));simp only[xJ]at m;grind
   ·exact h
  ·rw[w9 (λh=>g h.1)];have hL:∀j o,l[j]?=J o->o.ba=J t->xJ L i j=L j:=λj o p w=>by simp only[xJ];grind
   grind [Std]
theorem Std.bE (hs:Std ops l E S V L e k) (D:Run C call l E S V) (ab:∀(i:Nat) (o:XOp),l[i]?=J o->sJ o (E i)=eT->∀c∈o.bo,∃v1 v2 s1 s2,j7 C (E i) (S c) o.i=J (.ev v1 s1)/\j7 C (E i) (S (c+1)) o.i=J (.ev v2 s2)/\v1=V i/\v2=V i)
  (q:∀(i:Nat) (o:XOp),l[i]?=J o->o.i.eq=eT->∀(c:Nat) (R:XOp),l[c]?=J R->R.i.aD=eT->c≠i->c∉an.getD i []->i∉an.getD c []->c∈o.bo) {i:Nat} (hr:Rdy ops L i) {x:XOp} (B:l[i]?=J x):
  ∃k',EF C call x e (S k)=J (V i,S k')/\Std ops l E S V (xJ L i) (Z3 e x.ba (V i)) k':=by
 have hi:i<z l:=(a00.1 B).1;have M:=hs.dR hlen ha hok D hr B;have n:∀s,EF C call x e s=EF C call x (E i) s:=λs=>by
  have w:sJ x e=sJ x (E i):=by
   unfold sJ;cases hg:x.bm with
   |none=>rfl|some p=>obtain⟨t,b⟩:=p;have ht:t∈x.aE:=(by simp[XOp.aE,hg]);have:=M t ht;rw[aD4,aD4]at this;simp only;have el:=D.hn i (by omega);grind [Std]
  have h2:j7 C e s x.i=j7 C (E i) s x.i:=(anQ (by rw[hs.dt];exact D.hn i (by omega)) s x.i (λt ht=>M t (by simp[XOp.aE,ht]))).symm;unfold EF;rw[w,h2]
 have y:x.i.aD=eT->S k=S i:=λG=>by
  rcases Nat.le_total k i with h|h;·refine D.gn h (by omega) λc o w h2 f=>?_;cases a:o.i.aD with|false=>rfl|true=>have:=hs.fk hlen ha hok hr hi (SE hok h2 f B (.inr ⟨a,G⟩));rw[hs.kb c o f a w]at this;cases this
  grind [Std,Rdy]
 cases G:x.i.aD with
 |true=>
  refine⟨i+1,by rw[n,y G];exact D.op i x B,hs.cn hlen ha hok hr B (by omega) (λc o f a h=>?_) (λc o f a h=>?_)⟩
  ·simp only[xJ];split;·rfl
   ·exact hs.fk hlen ha hok hr hi (SE hok (by omega) f B (.inr ⟨a,G⟩))
  ·simp only[xJ];rw[w9 (by omega)];exact hs.fq hlen ha hok hr (a00.1 f).1 (SE hok (by omega) B f (.inr ⟨G,a⟩))
 |false=>
  refine⟨k,?_,hs.cn hlen ha hok hr B hs.mA (λc o f a h=>?_) (λc o f a h=>?_)⟩
  ·rw[n];have j:=D.op i x B;unfold EF at j⊢;split
   ·rename_i hw;rw[X2 hw]at j;cases A:j7 C (E i) (S i) x.i with
    |none=>rw[A]at j;cases j
    |some out=>
     rw[A]at j;obtain⟨v,rfl⟩:=Yl G A;simp at j;obtain⟨rfl,_⟩:=j;cases I:x.i.eq with
     |false=>rw[anR G I A (S k)]
     |true=>
      by_cases K:S k=S i;·rw[K,A]
      ·
       have F:∃c∈x.bo,S k=S c\/S k=S (c+1):=by
        rcases aL0 k i with O|O
        ·
         have F:∃c,k<=c/\c<i/\∃o,l[c]?=J o/\o.i.aD=eT:=by refine aI2 λX=>K (D.gn (by omega) (by omega) λc o w h2 f=>?_);grind
         have Q:∃c,(k<=c/\c<i/\∃o,l[c]?=J o/\o.i.aD=eT)/\∀d,d<c->¬(k<=d/\d<i/\∃o,l[d]?=J o/\o.i.aD=eT):=by
          obtain⟨u,H⟩:=F
          induction u using j8 with
          |_ u ih=>
           by_cases W:∃d,d<u/\(k<=d/\d<i/\∃o,l[d]?=J o/\o.i.aD=eT);·obtain⟨d,w,h2⟩:=W;exact ih d w h2
           grind
         obtain⟨c,⟨w,h2,o,f,a⟩,hm⟩:=Q;refine⟨c,q i x B I c o f a (by omega) (λg=>?_) (λg=>?_),.inl (D.gn w (by omega) λd R h3 h4 Y=>?_)⟩;·have:=hs.fk hlen ha hok hr hi g;rw[hs.kb c o f a w]at this;cases this
         ·have Z:ops[c]?=J (ops[c]'(by omega)):=aD1 (by omega);have:=apu ha c _ Z i g;omega
         grind
        ·have F:∃c,i<=c/\c<k/\∃o,l[c]?=J o/\o.i.aD=eT:=by refine aI2 λX=>K (D.gn O hs.mA λc o w h2 f=>?_).symm;grind
         have P:∃c,(i<=c/\c<k/\∃o,l[c]?=J o/\o.i.aD=eT)/\∀d,c<d->¬(i<=d/\d<k/\∃o,l[d]?=J o/\o.i.aD=eT):=by
          obtain⟨u,H⟩:=F;have key:∀m u,k-u=m->(i<=u/\u<k/\∃o,l[u]?=J o/\o.i.aD=eT)->∃c,(i<=c/\c<k/\∃o,l[c]?=J o/\o.i.aD=eT)/\∀d,c<d->¬(i<=d/\d<k/\∃o,l[d]?=J o/\o.i.aD=eT):=by
           intro m
           induction m using j8 with
           |_ m ih=>
            intro u hm H;by_cases T:∃d,u<d/\(i<=d/\d<k/\∃o,l[d]?=J o/\o.i.aD=eT);·obtain⟨d,w,h2⟩:=T;exact ih (k-d) (by omega) d w8 h2
            grind
          exact key _ u w8 H
         obtain⟨c,⟨w,h2,o,f,a⟩,hm⟩:=P;have N:c≠i:=λh=>by grind
         refine⟨c,q i x B I c o f a N (λg=>?_) (λg=>?_),.inr (D.gn (by omega) hs.mA λd R h3 h4 Y=>?_).symm⟩;·have aa:ops[i]?=J (ops[i]'(by omega)):=aD1 (by omega);have:=apu ha i _ aa c g;omega
         ·have:=hs.fq hlen ha hok hr (a00.1 f).1 g;rw[hs.oF c o f a h2]at this;cases this
         grind
       grind [Yl]
   grind
  ·simp only[xJ];split;·rfl
   ·exact hs.oF c o f a h
  ·simp only[xJ];rw[w9 (λN=>by grind)];exact hs.kb c o f a h
end
structure rX(ops:Array Oper)(k j d:Nat)(t:TypeId)(x:Operand):Prop where
 lt:k<j
 di:∃o,ops[k]?=some o/\o.dst=some d/\o.op=.alloc t/\o.guard=none
 st:∃o,ops[j]?=some o/\o.dst=none/\o.op=.store t (.tmp d) x/\o.guard=none
 nx:x≠ .tmp d
 nr:∀(q:Nat) (o:Oper),ops[q]?=some o->q≠k->q≠j->o.dst≠some d/\∀y∈o.op.operands,y≠ .tmp d
 gd:∀(q:Nat) (o:Oper) (r:Nat) (b:Bool),ops[q]?=some o->o.guard=some (r,b)->r≠k
def ajT{o:R}{d:T}{t:K6}(h:QX o=J (d,t)):o.dst=J d/\o.op=.alloc t/\o.guard=U:=by grind [QX]
def alr{o:R}{d:T}{t:K6}{x:K0}(h:Tf o=J (t,d,x)):o.dst=U/\o.op=.store t (.tmp d) x/\o.guard=U:=by grind [Tf]
def aii{d:T}{x:K0}:amy d x=eT↔x=.tmp d:=by cases x<;>simp[amy]
def MG{ops:j9 R}{k j:T}(h:uN ops k=J j):∃d t x,rX ops k j d t x:=by
 unfold uN at h;split at h
 ·rename_i d e C;obtain⟨ok,hok,a⟩:=a04.1 C;obtain⟨a1,a2,a3⟩:=ajT a;split at h;·cases h
  ·rename_i G;split at h
   ·rename_i F hf;split at h
    ·rename_i t w x hj;obtain⟨H,g,m⟩:=a04.1 hj;obtain⟨b1,u,v⟩:=alr m;split at h
     ·rename_i p;simp at h;subst h;simp only[a02,decide_eq_true_eq,beq_iff_eq,aJ2]at p;obtain⟨⟨⟨A,rfl⟩,rfl⟩,h4⟩:=p;refine⟨w,t,x,A,⟨_,hok,a1,a2,a3⟩,⟨_,g,b1,u,v⟩,λD=>?_,λq o f l i=>?_,λq o N b f B=>?_⟩;·rw[aii.2 D]at h4;cases h4
      ·have s:q∉[F]:=by simp;exact i
       rw[<-hf,List.mem_filter,aG6,not_and]at s;have c:=(aG3.1 f).1;have:=s c;simp only[aiv,f,a02,bne_iff_ne,ne_eq,aE7,beq_iff_eq,not_and,not_or]at this;obtain⟨q1,q2⟩:=this l;refine⟨q1,λy E n=>q2 ?_⟩;rw[aJ7];exact⟨_,Array.mem_toList_iff.2 E,aii.2 n⟩
      grind [aeq]
     ·cases h
    ·cases h
   ·cases h
 ·cases h
def yS{ops:j9 R}{k j d:T}{t:K6}{x:K0}(h:rX ops k j d t x):(ops[k]?).bind QX=J (d,t):=by grind [h.di,QX]
def aa7{ops:j9 R}{k j d:T}{t:K6}{x:K0}(h:rX ops k j d t x):(ops[j]?).bind Tf=J (t,d,x):=by grind [h.st,Tf]
theorem UW{ops:j9 R}{k k' j d a:T}{t b:K6}{x c:K0}(h:rX ops k j d t x)(e:rX ops k' j a b c):k=k':=by grind [rX]
def akg{ops:j9 R}{k k' j c d a:T}{t e:K6}{x f:K0}(h:rX ops k j d t x)(g:rX ops k' c a e f)(b:k≠k'):d≠a:=by grind [rX]
section
variable{C:Ctx}{ops:Array Oper}
inductive Cls(C:Ctx)(ops:Array Oper)(i:Nat)(o:Oper)(x:XOp):Prop|eZ (h0:∀k,uN ops k≠some i) (h1:uN ops i=none) (gd:Option (Nat×Bool)) (hg:Lu ops o=some gd) (hx:x.ba=o.dst/\x.i=(cI C.P o).getD .eC/\x.bm=gd)|gP (j d:Nat) (t:TypeId) (y:Operand) (h:uN ops i=some j) (hf:rX ops i j d t y) (z:AV) (hz:JP C.P t=some z) (hx:x.ba=none/\x.i=.gP/\x.bm=none)|gD (k d:Nat) (t:TypeId) (y:Operand) (h:uN ops k=some i) (hf:rX ops k i d t y) (z:AV) (hz:JP C.P t=some z) (inf:TypeInfo) (hi:C.P.info? t=some inf) (hzs:z.cP.length=inf.size) (a:XA) (ha:cA y=some a) (hx:x.ba=some d/\x.i=.gD k d inf.size a/\x.bm=none)
def apX{i:T}{o:R}{x:X}(l:ops[i]?=J o)(h:cOp C.P eT ops i o=J x):Cls C ops i o x:=by
 simp only[cOp,aB4,K9,aE0,Z0]at h;obtain⟨gd,g,h⟩:=h;split at h
 ·rename_i hf;obtain⟨j,hj⟩:=aE5.1 hf;obtain⟨d,t,y,b⟩:=MG hj;obtain⟨s,f,h2,h3,h4⟩:=b.di;rw[l]at f;cases f;rw[h3]at h;simp only at h;split at h
  ·rename_i z m;simp at h;subst h;have c:gd=U:=by simp[Lu,h4]at g;exact g.symm
   exact .gP j d t y hj b z m ⟨w8,w8,c⟩
  ·cases h
 ·rename_i hf;split at h
  ·rename_i k p;have e:=aL2 p;simp only[beq_iff_eq]at e;obtain⟨d,t,y,b⟩:=MG e;have e1:=yS b;have e2:=aa7 b;rw[l]at e2;simp only[Option.bind_some]at e2;rw[e1,e2]at h;simp only at h;split at h
   ·rename_i z inf a m hi ha;split at h
    ·rename_i n;simp at h;subst h;obtain⟨s,f,h2,h3,h4⟩:=b.st;rw[l]at f;cases f;have c:gd=U:=by simp[Lu,h4]at g;exact g.symm
     exact .gD k d t y e b z m inf hi n a ha ⟨w8,w8,c⟩
    ·cases h
   ·cases h
  ·rename_i p;simp at h;subst h;refine .eZ (λk b=>?_) (by simpa using hf) gd g ⟨w8,w8,w8⟩;obtain⟨d,t,y,q⟩:=MG b;grind [rX]
end
section
variable{C:Ctx}{call:bY}{ops:Array Oper}
def ag8{g:Gh}{w:Y}{O:St}(h:WR g w O)(o:Obj):Goes g O w g O (Bo w o):=by
 refine⟨.ax g,⟨h.n,λb i v hv=>?_,λb i v hv=>by grind [rJ,WR],λk y a=>?_,h.inj⟩,w8,w8,w8,by simp[Bo],λb hb d=>⟨d,rJ w o hb,λ_=>w8⟩⟩;·rw[Au (rJ w o (h.cK hv))];exact h.im b i v hv
 ·exact OR.D (h.bA k y a) (.ax g) (h.lt a) (λc=>rJ w o (h.ee a c)) (λ_ _ _ hv=>hv)
def akk{g:Gh}{w:Y}{O:St}(h:WR g w O):afC g O w.heap.size:=λo x b a c=>by have:=h.ee b a;omega
def akm {g:Gh} {w l:Y} {O:St} (h:WR g w O) {b:T} (A:afC g O b) (o:∀i,g.im b i=U) (hb:b<w.heap.size) (F:l.os=w.os) (u:l.tape=w.tape) (D:l.output=w.output) (G:l.heap.size=w.heap.size)
  (j:∀k,k≠b->l.heap[k]?=w.heap[k]?) (x:AO) (s:T) (K:OR (g.ac b s) l g.n x):WR (g.ac b s) l (O++[x]):=by
 have f:=g.ce b s;refine⟨by simp[Gh.ac,h.n],λd i v hv=>?_,λd i v hv=>?_,λk y B=>?_,λk k' y H B C q t m=>?_⟩
 ·by_cases c:d=b;·subst c;have:g.im d i=J v:=hv;rw[o i]at this;cases this
  ·rw[Au (j d c)];exact h.im d i v hv
 ·by_cases c:d=b;·subst c;have:g.im d i=J v:=hv;rw[o i]at this;cases this
  ·rw[j d c];exact h.uf d i v hv
 ·rcases lD B with⟨_,n⟩|⟨I,rfl⟩;·exact OR.D (h.bA k y n) f (h.lt n) (λq=>j _ (λe=>A k y n q e)) (λ_ _ _ hv=>hv)
  grind [h.n]
 ·rcases lD B with⟨a,n⟩|⟨a,ha⟩<;>rcases lD C with⟨a',p⟩|⟨a',E⟩;·grind [WR,Gh.le]
  ·exfalso;rw[f.ob k (h.lt n)]at m;rw[<-h.n]at a';subst a';simp[Gh.ac]at m;exact A k y n q m
  ·exfalso;rw[f.ob k' (h.lt p)]at m;rw[<-h.n]at a;subst a;simp[Gh.ac]at m;exact A k' H p t m.symm
  ·omega
structure Sim(C:Ctx)(ops:Array Oper)(L:Nat->Bool)(g0:Gh)(O0:St)(w0:World)(d0:List Deferred)(e:Env)(s:St)(a:Act)(w:World)(g:Gh)(a':Act)(B:Nat->Nat):Prop where
 le:g0.le g
 wr:WR g w s
 os:w.os=w0.os
 dn:w.tape=w0.tape
 cc:w.output=w0.output
 aq:w0.heap.size<=w.heap.size
 fr:∀b,b<w0.heap.size->afC g0 O0 b->afC g s b/\w.heap[b]?=w0.heap[b]? /\∀i,g.im b i=g0.im b i
 ar:AR g e a'
 g2:a.defers=d0
 hJ:a.tmps.size=a'.tmps.size
 il:∀t,(∀k j d ty y,uN ops k=some j->rX ops k j d ty y->L k=true->L j=false->t≠d)->a.tmps[t]?=a'.tmps[t]?
 gP:∀k j d ty y,uN ops k=some j->rX ops k j d ty y->L k=true->L j=false->w0.heap.size<=B k/\B k<w.heap.size/\afC g s (B k)/\(∀i,g.im (B k) i=none)/\(d<a.tmps.size->a.tmps[d]?=some (.pointer (some ⟨B k,0,none⟩)))/\∃c i z,w.heap[B k]?=some (.cells c ty)/\C.P.info? ty=some i/\JP C.P ty=some z/\c.size=z.cP.length
 i8:∀k k' j j' d d' ty ty' y y',uN ops k=some j->rX ops k j d ty y->L k=true->L j=false->uN ops k'=some j'->rX ops k' j' d' ty' y'->L k'=true->L j'=false->k≠k'->B k≠B k'
def Sim.fx{L:T->F}{g0:Gh}{O0:St}{w0:Y}{d0:W Deferred}{e:K}{s:St}{a:y}{w:Y}{g:Gh}{a':y}{B:T->T}(h:Sim C ops L g0 O0 w0 d0 e s a w g a' B):Goes g0 O0 w0 g s w:=
 ⟨h.le,h.wr,h.os,h.dn,h.cc,h.aq,h.fr⟩
end
section
variable{C:Ctx}{call:bY}{ops:Array Oper}{L:Nat->Bool}{g0:Gh}{O0:St}{w0:World}{d0:List Deferred}{e:Env}{s:St}{a:Act}{w:World}{g:Gh}{a':Act}{B:Nat->Nat}{Q:Exit->Act->World->Prop}
theorem MW(a:y)(d:P T)(v:i)(t:T):(a.put d v).tmps[t]?=if d=J t/\t<a.tmps.size then J v else a.tmps[t]?:=by
 cases d with
 |none=>simp[Act.put]|some d=>simp only[Act.put,Array.getElem?_setIfInBounds];grind
def FC(a:y)(d:P T)(v:i):(a.put d v).tmps.size=a.tmps.size:=by cases d<;>simp[Act.put]
def put_defers(a:y)(d:P T)(v:i):(a.put d v).defers=a.defers:=by cases d<;>rfl
def aef{x:K0}(h:∀t,x=.tmp t->a.tmps[t]?=a'.tmps[t]?):a.eval x=a'.eval x:=by
 cases x with
 |tmp t=>simp only[Act.eval];have:=h t w8;simp[this]|_=>rfl
theorem aoI (G:fZ C call) (l:Sim C ops L g0 O0 w0 d0 e s a w g a' B) (Z:GL C g) {i:Nat} {o:Oper} (ho:ops[i]?=J o) {x:XOp} (h0:∀k,uN ops k≠J i) (h1:uN ops i=U) {gd:Option (Nat×Bool)} (V:Lu ops o=J gd)
  (hx:x.ba=o.dst/\x.i=(cI C.P o).getD .eC/\x.bm=gd) {v:AV} {X:St} (m:EF C call x e s=J (v,X)) {K:Act->World->Prop} (hK:∀a1 w1 g1 T B1,Sim C ops (xJ L i) g0 O0 w0 d0 (Z3 e x.ba v) X a1 w1 g1 T B1->K a1 w1):wpOp C.P ops Q i K a w:=by
 have H:∀k j,uN ops k=J j->xJ L i k=L k/\xJ L i j=L j:=λk j hf=>by simp only[xJ];grind
 have D:∀k j d A y,uN ops k=J j->rX ops k j d A y->o.dst≠J d/\∀z∈o.op.operands,z≠ .tmp d:=λk j d A y hf F=>
  F.nr i o ho (λh=>by subst h;rw[h1]at hf;cases hf) (λh=>by subst h;exact h0 k hf)
 have I:∀z∈o.op.operands,a.eval z=a'.eval z:=λz hz=>aef λt R=>l.il t λk j d A y hf F _ _ O=>(D k j d A y hf F).2 z hz (by rw[R,O]);have W:k9 o (Z6 ops a.tmps)=k9 o (Z6 ops a'.tmps):=by
  unfold k9;cases n:o.guard with
  |none=>rfl
  |some p=>
   obtain⟨cB,b⟩:=p;simp only;have:Z6 ops a.tmps cB=Z6 ops a'.tmps cB:=by
    unfold Z6;cases aa:(ops[cB]?).bind (·.dst)with
    |none=>rfl
    |some t=>
     simp only[Option.bind_some];have R:a.tmps[t]?=a'.tmps[t]?:=l.il t λk j d A y hf F _ _ O=>by grind [rX]
     rw[R]
   rw[this]
 have q:sJ x e=k9 o (Z6 ops a.tmps):=by rw[W,adh l.ar ops o V];grind [sJ]
 have E:∀S Y P,Goes g s w P X Y->VR P v S->K (a.put o.dst S) Y:=λS Y P n hv=>by
  have f:=l.fx.N n;refine hK _ _ P (a'.put o.dst S) B ⟨f.le,f.wr,f.os,f.dn,f.cc,f.aq,f.fr,by rw[hx.1];exact(l.ar.D n.le).cn hv o.dst,by rw[put_defers];exact l.g2,by rw[FC,FC];exact l.hJ,λt R=>?_,λk j d A y hf F hk hj=>?_,λk k' j j' d d' A ab y y' q1 q2 q3 q4 q5 q6 q7 q8 q9=>?_⟩;·grind [MW,Sim]
  ·rw[(H k j hf).1]at hk;rw[(H k j hf).2]at hj;obtain⟨b0,b1,b2,b3,b4,c,inf,z,b5,b6,b7,b8⟩:=l.gP k j d A y hf F hk hj;obtain⟨f1,f2,f3⟩:=n.fr (B k) b1 b2;refine⟨b0,aG2 b1 n.aq,f1,λi=>by rw[f3,b3],λhd=>?_,c,inf,z,by rw[f2];exact b5,b6,b7,b8⟩;rw[MW,w9 (λh=>(D k j d A y hf F).1 h.1)];exact b4 (by rwa[FC]at hd)
  grind [Sim]
 unfold wpOp;simp only[ho];unfold EF at m;split at m
 ·rename_i u;rw[q]at u;rw[X2 u];have N:∀cs b,o.op≠ .select cs b:=λcs b M=>by
   have:cI C.P o=U:=by obtain⟨_,op,_,_,_,_⟩:=o;simp only at M;subst M;rfl
   grind [j7,aF]
  refine .inl (awm G l.wr (execOp_congr o N I) (λz b hb=>l.ar.el Z z b hb) Z ?_ E);rw[<-hx.2.1];exact m
 ·rename_i u;rw[q]at u;rw[w9 u];simp at m;obtain⟨rfl,rfl⟩:=m;exact E K5 w g (.ax l.wr) (AX g)
def asH (u:Sim C ops L g0 O0 w0 d0 e s a w g a' B) {i:Nat} {o:Oper} (ho:ops[i]?=J o) {j d:Nat} {t:K6} {y:K0} (hf:uN ops i=J j) (N:rX ops i j d t y) {z:AV} (hz:JP C.P t=J z) (hi:L i=eF) (hj:L j=eF)
  {K:Act->World->Prop} (hK:∀a1 w1 g1 P B1,Sim C ops (xJ L i) g0 O0 w0 d0 e s a1 w1 g1 P B1->K a1 w1):wpOp C.P ops Q i K a w:=by
 obtain⟨o',Z,h2,h3,h4⟩:=N.di;rw[ho]at Z;cases Z;obtain⟨inf,O,k1,k2,k3⟩:=JQ hz;have I:(j6 a.eval o).run C.P w=.ok (.value (.pointer (J ⟨w.heap.size,0,U⟩))) (Bo w (.cells O.cells t)):=by obtain⟨dst,op,D,pos,af,gd⟩:=o;simp only at h3;subst h3;simp[j6,Instr.alloc,JI k1 k2,newVar,newRow];rfl
 unfold wpOp;simp only[ho];have V:k9 o (Z6 ops a.tmps)=eT:=by unfold k9;rw[h4]
 rw[X2 V];refine .inl ?_;unfold Oper.wp;rw[I,Oper.upon_value,h2];have F:=ag8 u.wr (.cells O.cells t);have n:=u.fx.N F;have l:∀k m,uN ops k=J m->k≠i->xJ L i k=L k/\xJ L i m=L m:=λk m f S=>by simp only[xJ];refine⟨w9 S,w9 (λh=>?_)⟩;subst h;obtain⟨E,t',G,p⟩:=MG f;grind [p.st]
 refine hK _ _ g a' (λq=>if q=i then w.heap.size else B q) ⟨n.le,n.wr,n.os,n.dn,n.cc,n.aq,n.fr,u.ar,by rw[put_defers];exact u.g2,by rw[FC];exact u.hJ,λt' ht=>?_,λk m E D G f p H x=>?_,λk k' W X d1 d2 D Y y1 y2 q1 q2 q3 q4 q5 q6 q7 q8 q9=>?_⟩;·have T:t'≠d:=ht i j d t y hf N (by simp[xJ]) (by simp only[xJ];rw[w9 (by have:=N.lt;omega)];exact hj);rw[MW,w9 (λh=>T (by simpa using h.1.symm))];grind [Sim]
 ·by_cases b:k=i
  ·subst b;rw[hf]at f;cases f;obtain⟨rfl,rfl⟩:E=d/\D=t:=(by grind [rX]);simp only[Z0];refine⟨u.aq,by simp[Bo],akk u.wr,λi=>?_,λR=>?_,O.cells,inf,z,Fv w _,k1,hz,(vN g O z k3).bX⟩;·cases hv:g.im w.heap.size i with|none=>rfl|some v=>exact K3 (u.wr.cK hv) (Nat.lt_irrefl _)
   ·rw[MW,X2 ⟨w8,by rwa[FC]at R⟩]
  ·rw[(l k m f b).1]at H;rw[(l k m f b).2]at x;simp only[w9 b];obtain⟨b0,b1,b2,b3,b4,c,M,z',b5,b6,b7,b8⟩:=u.gP k m E D G f p H x;obtain⟨f1,f2,f3⟩:=F.fr (B k) b1 b2;refine⟨b0,aG2 b1 F.aq,f1,b3,λR=>?_,c,M,z',by rw[f2];exact b5,b6,b7,b8⟩;rw[MW,w9 (λh=>akg p N b (by simpa using h.1.symm))];exact b4 (by rwa[FC]at R)
 ·have aa:∀k m E D G,uN ops k=J m->rX ops k m E D G->k≠i->xJ L i k=eT->xJ L i m=eF->B k<w.heap.size:=λk m E D G f p b H x=>by rw[(l k m f b).1]at H;rw[(l k m f b).2]at x;exact(u.gP k m E D G f p H x).2.1
  by_cases b:k=i;·grind
  ·by_cases A:k'=i;·grind
   ·simp only[w9 b,w9 A];rw[(l k W q1 b).1]at q3;rw[(l k W q1 b).2]at q4;rw[(l k' X q5 A).1]at q7;rw[(l k' X q5 A).2]at q8;exact u.i8 k k' W X d1 d2 D Y y1 y2 q1 q2 q3 q4 q5 q6 q7 q8 q9
end
section
variable{C:Ctx}{call:bY}{ops:Array Oper}{L:Nat->Bool}{g0:Gh}{O0:St}{w0:World}{d0:List Deferred}{e:Env}{s:St}{a:Act}{w:World}{g:Gh}{a':Act}{B:Nat->Nat}{Q:Exit->Act->World->Prop}
theorem asG (f:Sim C ops L g0 O0 w0 d0 e s a w g a' B) (hg:GL C g) {i:Nat} {o:Oper} (ho:ops[i]?=J o) {k d:Nat} {t:K6} {y:K0} (hf:uN ops k=J i) (hF:rX ops k i d t y) {z:AV} (hz:JP C.P t=J z) {inf:TypeInfo} (I:C.P.info? t=J inf) (aX:z.cP.length=inf.size)
  {b:XA} (hb:cA y=J b) (hi:L i=eF) (hk:L k=eT) {v:AV} {s':St} (H:j7 C e s (.gD k d inf.size b)=J (.ev v s')) {K:Act->World->Prop} (hK:∀a1 w1 g1 ah B1,Sim C ops (xJ L i) g0 O0 w0 d0 (Z3 e (J d) v) s' a1 w1 g1 ah B1->K a1 w1):wpOp C.P ops Q i K a w:=by
 obtain⟨o',h1,h2,h3,h4⟩:=hF.st;rw[ho]at h1;cases h1;simp only[j7,aF]at H;split at H
 ·rename_i hc;cases H;obtain⟨hd,hlen,N⟩:=hc;obtain⟨b0,b1,b2,b3,b4,c,aL,z',b5,b6,b7,b8⟩:=f.gP k i d t y hf hF hk hi;rw[I]at b6;cases b6;rw[hz]at b7;cases b7;have ak:=f.ar.I;simp only[aK5]at ak;have an:d<a.tmps.size:=by rw[f.hJ];omega
  have aa:a.tmps[d]?=J (.pointer (J ⟨B k,0,U⟩)):=b4 an;have aq:a.eval y=a'.eval y:=aef λW ht=>f.il W λk' n Y ad y' l m E p V=>by
   subst V;by_cases A:k'=k;·grind [rX]
   ·have aR:i≠n:=λh=>by subst h;exact A (UW m hF)
    grind [Op.operands,rX]
  have az:=f.ar.el hg y b hb;have M:=az.cP;have al:(a'.eval y).cells.toList.length=inf.size:=by rw[M.I];exact hlen
  have aw:=run_storeCells_cells (P:=C.P) (B k) 0 (a'.eval y).cells.toList 0 w (λj hj=>by
   rw[cell_of_heap b5,aD1 (by omega)];rfl) (λj hj=>by simp[World.frozen?,b5]) (M.ef N)
  have ab:(j6 a.eval o).run C.P w=.ok .skip (w.setCells (B k) (0+0) (a'.eval y).cells.toList):=by obtain⟨dst,op,X,pos,af,gd⟩:=o;simp only at h3;subst h3;have au:a.eval (.tmp d)=.pointer (J ⟨B k,0,U⟩):=(by simp[Act.eval,aa]);have ax:(a'.eval y).cells.size=inf.size:=(by simpa using al);simp[j6,Instr.storeAt,K1,au,aq,storeVar,run_sizeOf I,ax,aw]
  unfold wpOp;simp only[ho];have aE:k9 o (Z6 ops a.tmps)=eT:=by unfold k9;rw[h4]
  rw[X2 aE];refine .inl ?_;unfold Oper.wp;rw[ab,Oper.upon_skip,h2];obtain⟨r1,r2,r3,r4⟩:=BQ (B k) (a'.eval y).cells.toList (0+0) w;have hh:=BI (B k) (a'.eval y).cells.toList (0+0) w c t (0,0) b5;have S:∀q,q≠B k->(w.setCells (B k) (0+0) (a'.eval y).cells.toList).heap[q]?=w.heap[q]?:=λq hq=>xy _ _ _ w q hq;have F:=g.ce (B k) inf.size;have aD:WR (g.ac (B k) inf.size) (w.setCells (B k) (0+0) (a'.eval y).cells.toList) (s++[.cP (av C e b).cP FZ]):=by
   refine akm f.wr b2 b3 b1 r1 r2 r3 r4 S _ _ ⟨Qw c (0+0) (a'.eval y).cells.toList,t,(0,0),?_,?_,?_,λq x hx=>?_,⟨w8,λ_ _ ht=>nomatch ht⟩,λq v hv=>?_⟩;·simp only[Gh.ac,Z0];exact hh
   ·rw[xG];simp[Gh.ac];omega
   ·rw[xG];omega
   ·rw[MV _ _ _ (by omega)];have hq:=(a00.1 hx).1;obtain⟨u,u1,u2⟩:=M.cd hx;rw[X2 (by omega)];exact⟨u,by simpa using u1,u2.D F⟩
   ·exfalso;simp only[Gh.ac,Z0]at hv;rw[b3]at hv;cases hv
  have D:∀k' n,uN ops k'=J n->k'≠k->xJ L i k'=L k'/\xJ L i n=L n:=λk' n l aK=>by
   obtain⟨Y,W,y',m⟩:=MG l;simp only[xJ];refine⟨w9 (λh=>?_),w9 (λh=>?_)⟩;·grind [m.di]
   grind [UW]
  have aM:xJ L i i=eT:=(by simp[xJ]);have T:∀k' n (l:uN ops k'=J n),xJ L i k'=eT->xJ L i n=eF->k'≠k:=λk' n l _ p h=>by grind
  refine hK _ _ (g.ac (B k) inf.size) (a'.put (J d) (.pointer (J ⟨B k,0,U⟩))) B ⟨f.le.N F,aD,r1.trans f.os,r2.trans f.dn,r3.trans f.cc,by rw[r4];exact f.aq,λq hq hu=>?_,?_,f.g2,f.hJ.trans (FC a' _ _).symm,λW ht=>?_,λk' n Y X y' l m E p=>?_,λk1 k2 j1 j2 d1 d2 X ad y1 y2 q1 q2 q3 q4 q5 q6 q7 q8 q9=>?_⟩
  ·obtain⟨u1,u2,u3⟩:=f.fr q hq hu;refine⟨λo2 x2 hx2 R=>?_,by rw[S q (by omega)];exact u2,u3⟩;rcases lD hx2 with⟨_,G⟩|⟨O,rfl⟩;·rw[F.ob o2 (f.wr.lt G)];exact u1 o2 x2 G R
   grind [f.wr.n,Gh.ac]
  ·have ay:VR (g.ac (B k) inf.size) (.da s.length 0) (.pointer (J ⟨B k,0,U⟩)):=by have:=VR.da (g:=g.ac (B k) inf.size) s.length 0 (by simp[Gh.ac,f.wr.n]);simpa[Gh.ac,f.wr.n]using this
   exact(f.ar.D F).cn ay (J d)
  ·show a.tmps[W]?=_;rw[MW];by_cases V:d=W;·grind
   ·rw[w9 (λh=>V (by simpa using h.1))];refine f.il W λk' n Y X y' l m E p=>?_;by_cases A:k'=k;·subst A;have e1:=yS hF;rw[yS m]at e1;grind
    grind
  ·have A:=T k' n l E p;rw[(D k' n l A).1]at E;rw[(D k' n l A).2]at p;obtain⟨e0,e1,e2,e3,e4,c2,ac,z2,e5,e6,e7,e8⟩:=f.gP k' n Y X y' l m E p;have Z:=f.i8 k' k n i Y d X t y' y l m E p hf hF hk hi A;refine⟨e0,by rw[r4];exact e1,λo2 x2 hx2 R=>?_,e3,e4,c2,ac,z2,by rw[S _ Z];exact e5,e6,e7,e8⟩;rcases lD hx2 with⟨_,G⟩|⟨O,rfl⟩;·rw[F.ob o2 (f.wr.lt G)];exact e2 o2 x2 G R
   ·rw[<-f.wr.n]at O;subst O;simp[Gh.ac];exactλh=>Z h.symm
  ·have n1:=T k1 j1 q1 q3 q4;have n2:=T k2 j2 q5 q7 q8;rw[(D k1 j1 q1 n1).1]at q3;rw[(D k1 j1 q1 n1).2]at q4;rw[(D k2 j2 q5 n2).1]at q7;rw[(D k2 j2 q5 n2).2]at q8;exact f.i8 k1 k2 j1 j2 d1 d2 X ad y1 y2 q1 q2 q3 q4 q5 q6 q7 q8 q9
 ·cases H
end
section
variable{C:Ctx}{call:bY}
def ahy(a:F)(ops:j9 R):∀(l:W R) (k:T) (xs:W X),adp C.P a ops k l=J xs->z xs=z l/\∀(i:T) (o:R),l[i]?=J o->∃x,xs[i]?=J x/\cOp C.P a ops (k+i) o=J x
 |[],k,xs,h=>by simp[adp]at h;subst h;simp
 |o::l,k,xs,h=>by
  simp only[adp]at h;split at h;·rename_i x b c h2;simp at h;subst h;obtain⟨i1,i2⟩:=ahy a ops l (k+1) b h2;grind
  ·cases h
def anG{a:F}{ops:j9 R}{i:T}{o:R}{x:X}(h:cOp C.P a ops i o=J x):x.bo=[]:=by simp only[cOp,aB4,K9]at h;grind
def cnt(L:T->F)(n:T):T:=z ((List.range n).filter L)
theorem aub(L:T->F)(n i:T)(hi:i<n)(hL:L i=eF):cnt (xJ L i) n=cnt L n+1:=by
 unfold cnt
 induction n with
 |zero=>omega
 |succ n b=>
  rw[List.range_succ,List.filter_append,List.filter_append,a03,a03];by_cases a:i=n;·grind [xJ,List.filter_congr]
  ·have:=b (by omega);have c:xJ L i n=L n:=by simp only[xJ];rw[w9 (λh=>a h.symm)]
   grind
def apY(L:T->F)(n:T)(h:cnt L n=n):∀i,i<n->L i=eT:=by grind [cnt,List.length_filter_eq_length_iff]
def Me(hm:C.P.follows .mixedOrders=eT)(bp:fZ C call):ahk C call:=by
 intro id ops l hc e0 e1 O0 O1 G g0 v a0 bm bO bx;simp only[afS,aB4,K9]at hc;obtain⟨l0,bB,an,bo,hc⟩:=hc;split at hc
 ·rename_i W;simp at hc;subst hc;have L:=atY bo;obtain⟨f,H⟩:=ahy (C:=C) eT ops ops.toList 0 l0 bB;have hlen:(uA an l0).length=ops.size:=(by simp[uA,f]);have I:∀(i:Nat) (x:XOp),(uA an l0)[i]?=J x->∃x0,l0[i]?=J x0/\x.ba=x0.ba/\x.i=x0.i/\x.bm=x0.bm/\(x0.i.eq=eT->x.bo=aay an l0 i):=λi x hx=>by simp only[uA,aF7,List.getElem?_zipIdx,aB5]at hx;grind
  have D:∀(i:Nat) (x0:XOp),l0[i]?=J x0->∃x,(uA an l0)[i]?=J x/\x.ba=x0.ba/\x.i=x0.i/\x.bm=x0.bm:=λi x0 hx=>by grind
  have hok:Ky an (uA an l0)=eT:=by
   unfold Ky at W⊢;rw[aB0]at W⊢;intro j hj;rw[aG6,hlen]at hj;have F:=W j (by grind);simp only[a02]at F⊢;obtain⟨xj,ba,d1,d2,d3⟩:=D j _ (a01 (show j<l0.length by rw[f];simpa using hj));refine⟨?_,?_⟩;·have h2:=F.1;unfold akf at h2⊢;rw[a01 (show j<l0.length by rw[f];simpa using hj)]at h2;rw[ba];obtain⟨a1,a2,a3,a4⟩:=xj;simp only at d2;generalize l0[j]'(by rw[f];simpa using hj)=xq at h2 d2;obtain⟨c1,c2,c3,c4⟩:=xq;grind
   ·rw[aB0];intro i hi;have h3:=aB0.1 F.2 i hi;have cn:=aG6.1 hi;obtain⟨xi,bS,f1,f2,f3⟩:=D i _ (a01 (show i<l0.length by rw[f];simp;omega));unfold akR at h3⊢;rw[a01 (show j<l0.length by rw[f];simpa using hj),a01 (show i<l0.length by rw[f];simp;omega)]at h3;rw[bS,ba];have ct:i<l0.length:=by rw[f];simp;omega
    have cv:j<l0.length:=by rw[f];simpa using hj
    have e1:clash xi xj=clash l0[i] l0[j]:=by unfold clash XOp.aE;rw[d1,d2,d3,f1,f2,f3]
    simp only[e1,d2,f2];exact h3
  unfold wK at G;split at G
  ·rename_i e2 O2 rs ss aM;split at G
   ·rename_i aL;simp at G;obtain⟨rfl,rfl⟩:=G;obtain⟨E,S,V,au,bh,bb,bj,hR,bN,cD⟩:=abu _ _ _ _ _ _ _ aM;have bL:∀(i:Nat) (o:XOp),(uA an l0)[i]?=J o->sJ o (E i)=eT->∀c∈o.bo,∃v1 v2 s1 s2,j7 C (E i) (S c) o.i=J (.ev v1 s1)/\j7 C (E i) (S (c+1)) o.i=J (.ev v2 s2)/\v1=V i/\v2=V i:=λi o N hw c Y=>by
     have hi:=(a00.1 N).1;obtain⟨s,s',v1,v2,s1,s2,q1,q2,q3,q4,q5,q6⟩:=Ur _ _ aL i o (E i) (V i) N (bN i hi) hw c Y;have cc:c<(uA an l0).length:=by
      obtain⟨x0,F,h2,h3,h4,h5⟩:=I i o N;by_cases ah:x0.i.eq=eT;·grind [aay]
      ·exfalso;simp only[uA,aF7,List.getElem?_zipIdx,aB5]at N;obtain⟨p,⟨x1,X,rfl⟩,rfl⟩:=N;rw[F]at X;cases X;simp only[w9 ah]at Y;obtain⟨o',ab⟩:∃o',ops.toList[i]?=J o':=⟨_,a01 (by rw[hlen]at hi;simpa using hi)⟩;obtain⟨x2,g2,g3⟩:=H i o' ab;rw[F]at g2;cases g2;have bE:x0.bo=[]:=anG g3;rw[bE]at Y;cases Y
     grind
    have aa:∀(i:Nat) (o:XOp),(uA an l0)[i]?=J o->o.i.eq=eT->∀(c:Nat) (o':XOp),(uA an l0)[c]?=J o'->o'.i.aD=eT->c≠i->c∉an.getD i []->i∉an.getD c []->c∈o.bo:=λi o N ah c o' ab cd cz cx cy=>by obtain⟨x0,F,h2,h3,h4,h5⟩:=I i o N;obtain⟨y0,k1,k2,k3,k4,k5⟩:=I c o' ab;rw[h5 (by rw[<-h3];exact ah)];unfold aay;grind
    refine wp_region_any hm ?_;have ay:=Goes.hm bO (v.drawn+1);have key:∀(A:Nat) (listed:j9 Bool) (e:Env) (k:Nat) (a:Act) (w:World) (g:Gh) (a':Act) (B:Nat->Nat),listed.size=ops.size->cnt (λj=>listed.getD j eF) ops.size+A=ops.size->
      Std ops (uA an l0) E S V (λj=>listed.getD j eF) e k->Sim C ops (λj=>listed.getD j eF) g0 O0 {v with drawn:=v.drawn+1} a0.defers e (S k) a w g a' B->
      wpAny C.P .any ops (Post C g0 O0 v a0 .du e2 O2) A listed a w:=by
     have ad:∀(listed:j9 Bool) (e:Env) (k:Nat) (a:Act) (w:World) (g:Gh) (a':Act) (B:Nat->Nat),(∀i,i<ops.size->listed.getD i eF=eT)->Std ops (uA an l0) E S V (λj=>listed.getD j eF) e k->Sim C ops (λj=>listed.getD j eF) g0 O0 {v with drawn:=v.drawn+1} a0.defers e (S k) a w g a' B->Post C g0 O0 v a0 .du e2 O2 .normal a w:=by
      intro listed e k a w g a' B R m n;have bi:S k=O2:=by
       rw[<-bj];refine hR.gn m.mA (a09 _) λc o F h2 N=>?_;cases br:o.i.aD with
       |false=>rfl|true=>have:=m.kb c o N br F;grind
      have cg:e=e2:=by
       rw[<-bb];apply aD6;intro t;rcases aL0 t (E 0).length with ht|ht
       ·rcases m.aR t ht with⟨j,o,F,h2,h3,h4,h5⟩|⟨F,h2⟩
        ·rcases hR.hP _ (a09 _) t ht with⟨j2,o2,q1,q2,q3,q4,q5⟩|⟨q1,q2⟩;·grind
         grind
        ·rcases hR.hP _ (a09 _) t ht with⟨j2,o2,q1,q2,q3,q4,q5⟩|⟨q1,q2⟩;·grind
         ·rw[h2,q2]
       ·rw[aB9 (by rw[m.dt];exact ht),aB9 (by rw[hR.hn _ (a09 _)];exact ht)]
      have cE:a.tmps=a'.tmps:=by apply Array.ext_getElem?;intro t;refine n.il t λk j d ty y hf M hk hj=>?_;grind [M.st]
      refine⟨w8,n.g2,g,?_,?_⟩;·grind [n.ar,AR]
      ·have:=n.fx;rw[bi]at this;exact ay.N ⟨this.le,this.wr,this.os,this.dn,this.cc,this.aq,this.fr⟩
     intro A
     induction A with
     |zero=>intro listed e k a w g a' B aR ax m n;have R:=apY _ _ (show cnt (λj=>listed.getD j eF) ops.size=ops.size by omega);refine⟨?_,ad listed e k a w g a' B R m n⟩;refine List.eq_nil_iff_forall_not_mem.2 λi hi=>?_;obtain⟨F,o,h2,_⟩:=mem_ready.1 hi;grind
     |succ A ih=>
      intro listed e k a w g a' B aR ax m n;refine⟨λaK=>?_,λi hi=>?_⟩
      ·exfalso;have bv:∃i,i<ops.size/\listed.getD i eF=eF:=by
        refine aI2 λcB=>?_;have R:∀i,i<ops.size->listed.getD i eF=eT:=λi hi=>by grind
        have:cnt (λj=>listed.getD j eF) ops.size=ops.size:=(by grind [cnt,List.filter_eq_self]);omega
       have aE:∃i,(i<ops.size/\listed.getD i eF=eF)/\∀j,j<i->¬(j<ops.size/\listed.getD j eF=eF):=by
        obtain⟨i0,cp⟩:=bv
        induction i0 using j8 with
        |_ i0 cK=>grind
       obtain⟨i,⟨F,h2⟩,h3⟩:=aE;have:i∈Region.ready .any ops listed:=by
        rw[mem_ready];have Z:i<listed.size:=(by omega);refine⟨by simp[Z]at h2⊢;exact h2,ops[i],aD1 F,λed cf b9=>?_⟩;have az:ed.on∈direct ops[i]:=by unfold direct;grind
        have aD:=L.lt i ops[i] (by simp) ed.on az;grind
       rw[aK]at this;cases this
      ·obtain⟨F,o,N,h3⟩:=mem_ready.1 hi;have aD:=(aG3.1 N).1;have Z:i<listed.size:=(by omega);have aX:listed.getD i eF=eF:=by simp[Z]at F⊢;exact F
       have hr:Rdy ops (λj=>listed.getD j eF) i:=⟨aX,λo' ab j hj=>by
        grind [direct]⟩
       have Q:(λj=>(listed.setIfInBounds i eT).getD j eF)=xJ (λj=>listed.getD j eF) i:=by
        funext j;simp only[xJ];by_cases af:j=i;·subst af;simp[Z]
        ·rw[w9 af,getD_set_ne eF (λh=>af h.symm)]
       obtain⟨x0,hx0,ac⟩:=H i o (by simpa using N);simp only[aC4]at ac;obtain⟨x,hx,d1,d2,d3⟩:=D i x0 hx0;obtain⟨k',T,aq⟩:=m.bE hlen L hok hR bL aa hr hx;have ak:∀a1 w1 X P B1,Sim C ops (xJ (λj=>listed.getD j eF) i) g0 O0 {v with drawn:=v.drawn+1} a0.defers (Z3 e x.ba (V i)) (S k') a1 w1 X P B1->wpAny C.P .any ops (Post C g0 O0 v a0 .du e2 O2) A (listed.setIfInBounds i eT) a1 w1:=λa1 w1 X P B1 al=>by refine ih (listed.setIfInBounds i eT) (Z3 e x.ba (V i)) k' a1 w1 X P B1 (by simpa using aR) ?_ (by rw[Q];exact aq) (by rw[Q];exact al);grind [aub]
       have cm:GL C g:=bx.D n.le;cases apX (C:=C) N ac with
       |eZ p0 p1 gd bA K=>grind [aoI]
       |gP j d t y hf M z hz K=>
        have bw:∃oj xj,ops[j]?=J oj/\(uA an l0)[j]?=J xj/\∃sz q,xj.i=.gD i d sz q:=by
         obtain⟨oj,q1,q2,q3,q4⟩:=M.st;obtain⟨bU,X,g2⟩:=H j oj (by simpa using q1);simp only[aC4]at g2;obtain⟨xj,g3,g4,g5,g6⟩:=D j bU X;cases apX (C:=C) q1 g2 with
         |eZ p0 p1 gd bA K=>exact K3 hf (p0 i)|gP j' d' t' y' cj bd z' cG b2=>grind [bd.di]|gD k2 b6 t2 y2 ck aw z2 cH b5 cq b4 a2 b8 b3=>obtain rfl:=UW aw M;have e1:=yS M;rw[yS aw]at e1;grind
        obtain⟨oj,xj,q1,q2,sz,q,q3⟩:=bw;have be:listed.getD j eF=eF:=m.fq hlen L hok hr (a00.1 q2).1 (ami hok q2 q3);have bk:V i=.dT/\S k'=S k:=by unfold EF at T;grind [j7,aF]
        refine asH n N hf M hz aX be λa1 w1 X P B1 al=>ak a1 w1 X P B1 ?_;rw[d1,K.1,bk.2];exact al
       |gD k2 d t y hf M z hz inf bX cJ b hb K=>
        have b7:listed.getD k2 eF=eT:=m.fk hlen L hok hr (by rw[hlen];exact aD) (ami hok hx (by rw[d2];exact K.2.1));have bV:j7 C e (S k) (.gD k2 d inf.size b)=J (.ev (V i) (S k')):=by
         unfold EF at T;have bR:sJ x e=eT:=by unfold sJ;rw[d3,K.2.2]
         rw[X2 bR,d2,K.2.1]at T;grind [j7,aF]
        grind [asG]
    refine key ops.size (Z1 ops.size eF) e0 0 a0 _ g0 a0 (λ_=>0) (by simp) ?_ ?_ ?_
    ·have:(λj=>(Z1 ops.size eF).getD j eF)=λ_=>eF:=by funext j;simp[Z2];split<;>rfl
     rw[this];simp[cnt]
    ·have M:∀j,(Z1 ops.size eF).getD j eF=eF:=λj=>by simp[Z2];split<;>rfl
     refine⟨λi o _ hL=>(by rw[M]at hL;cases hL),by rw[au],λt ht=>.inr ⟨λj o _ hL=>(by rw[M]at hL;cases hL),by rw[au]⟩,a97 _,λc o _ _ h=>by omega,λc o _ _ _=>M c⟩
    ·have M:∀j,(Z1 ops.size eF).getD j eF=eF:=λj=>by simp[Z2];split<;>rfl
     rw[bh];exact⟨.ax g0,ay.wr,w8,w8,w8,a09 _,λb _ hu=>⟨hu,w8,λ_=>w8⟩,bm,w8,w8,λt _=>w8,λk j d ty y _ _ hk=>(by rw[M]at hk;cases hk),λk k' j j' d d' ty cM y y' _ _ hk=>(by rw[M]at hk;cases hk)⟩
   ·cases G
  ·cases G
 ·simp at hc
end
section
variable{C:Ctx}{call:bY}
def MH(hm:C.P.follows .mixedOrders=eT)(a:fZ C call):True:=trivial
def PX{C:H}(hm:C.P.follows .mixedOrders=eT)(b:ajH C)(a:Yd C)(n:T):fZ C (evF C n):=aeb b a (λcall h=>⟨Me hm h,MH hm h⟩) n
end
def Le{b:Type}(x y:P b):Prop:=∀a,x=J a->y=J a
def Le.cx{a:Type}{x:P a}:Le x x:=λ_ h=>h
def Le.N{b:Type}{x y z:P b}(h:Le x y)(g:Le y z):Le x z:=λa e=>g a (h a e)
def Le.gw{a:Type}{y:P a}:Le Option.none y:=λ_ h=>nomatch h
def Le.pw{c e:Type}{x y:P c}{f g:c->P e}(h:Le x y)(d:∀a,Le (f a) (g a)):Le (x.bind f) (y.bind g):=by
 intro b hb;cases x with
 |none=>cases hb|some a=>rw[h a (by rfl)];exact d a b hb
def Le.hl{c:Type}{x y:P c}(h:Le x y)(g:Le y x):x=y:=by
 cases x with
 |none=>cases y with|none=>rfl|some b=>exact(g b (by rfl)).trans (by rfl)
 |some a=>exact(h a (by rfl)).symm
open Classical in
noncomputable def lim{a:Type}(f:T->P a):P a:=
 if h:∃n,(f n).isSome then f (x h)else U
def aA9{a:Type}(f:T->P a):Prop:=∀n m,n<=m->Le (f n) (f m)
def ac6{d:Type}{f:T->P d}(hf:aA9 f){a:d}:lim f=J a↔∃n,f n=J a:=by
 unfold lim;constructor
 ·intro h;split at h;·exact⟨_,h⟩
  ·cases h
 ·rintro⟨n,h⟩;have c:∃n,(f n).isSome:=⟨n,by rw[h];rfl⟩;rw[dif_pos c];have g:=K7 c;obtain⟨b,hb⟩:=aE5.mp g;rw[hb];have e:=hf _ _ (N n (x c)) a h;have h2:=hf _ _ (I n (x c)) b hb;rw[<-h2,e]
abbrev Body:=K->St->P (XE×K×St)
def Gp{b c:Body}(h:∀e O,Le (b e O) (c e O)):∀(n m:T),n<=m->∀e O,Le (vY b n e O) (vY c m e O)
 |0,_,_,_,_=>Le.gw|n+1,0,d,_,_=>K3 d (by omega)
 |n+1,m+1,d,e,O=>by
  intro a ha;unfold vY at ha⊢;cases hb:b e O with
  |none=>rw[hb]at ha;cases ha
  |some j=>
   rw[h e O j hb];rw[hb]at ha;obtain⟨k,g,f⟩:=j;cases k with
   |du=>exact Gp h n m (by omega) g f a ha|dq i=>exact ha|ea=>exact ha
noncomputable def agS(b:Body):Body:=λe O=>lim λn=>vY b n e O
theorem Il{b:Body}{e O d}:agS b e O=J d↔∃n,vY b n e O=J d:=
 ac6 (λn m h=>Gp (λ_ _=>Le.cx) n m h e O)
noncomputable def qg(C:H)(call:bY):XC->Body
 |.eI,e,O=>J (.du,e,O)|.fu l,e,O=>match wG C call l e O with|J (f,d)=>J (.du,f,d)|U=>U
 |.eO l,e,O=>match wK C call l e O with|J (f,d)=>J (.du,f,d)|U=>U
 |.eA a b,e,O=>match qg C call a e O with|J (.du,f,d)=>qg C call b f d|h=>h
 |.eJ c a b,e,O=>match av C e c with|.cW eT=>qg C call a e O|.cW eF=>qg C call b e O|_=>U
 |.eG id b,e,O=>match qg C call b e O with|J (.dq i,f,d)=>J (if i=id then .du else .dq i,f,d)|h=>h
 |.fL b,e,O=>agS (qg C call b) e O|.dq id,e,O=>J (.dq id,e,O)|.ea,e,O=>J (.ea,e,O)|.fg b,e,O=>qg C call b e O|.eC,_,_=>U
def EP(c d:bY):Prop:=∀f a O,Le (c f a O) (d f a O)
def RH{C:H}{c d:bY}(h:EP c d)(o:X)(e:K)(O:St):Le (EF C c o e O) (EF C d o e O):=by
 intro f hr;unfold EF at hr⊢;split at hr
 ·rw[X2 (by assumption)];split at hr;·exact hr
  ·exact h _ _ _ _ hr
  ·cases hr
 grind
def NM{C:H}{c d:bY}(h:EP c d):∀(l:W X) (e:K) (O:St),Le (wG C c l e O) (wG C d l e O)
 |[],_,_=>Le.cx
 |o::l,e,O=>by
  intro f hr;unfold wG at hr⊢;cases a:EF C c o e O with
  |none=>rw[a]at hr;cases hr|some v=>rw[RH h o e O v a];rw[a]at hr;exact NM h l _ _ f hr
def UO{C:H}{c d:bY}(h:EP c d):∀(l:W X) (e:K) (O:St),Le (zV C c l e O) (zV C d l e O)
 |[],_,_=>Le.cx
 |o::l,e,O=>by
  intro f hr;unfold zV at hr⊢;cases b:EF C c o e O with
  |none=>rw[b]at hr;cases hr
  |some v=>
   rw[RH h o e O v b];rw[b]at hr;dsimp only at hr⊢;cases a:zV C c l (Z3 e o.ba v.1) v.2 with
   |none=>rw[a]at hr;cases hr|some q=>rw[UO h l _ _ q a];rw[a]at hr;exact hr
def Wy{C:H}{c d:bY}(h:EP c d)(l:W X)(e:K)(O:St):Le (wK C c l e O) (wK C d l e O):=by
 intro f hr;unfold wK at hr⊢;cases a:zV C c l e O with
 |none=>rw[a]at hr;cases hr|some q=>rw[UO h l _ _ q a];rw[a]at hr;exact hr
def uZ{C:H}{c d:bY}(h:EP c d){n m:T}(g:n<=m):∀(x:XC) (e:K) (O:St),Le (t C c n x e O) (t C d m x e O)
 |.eI,_,_=>Le.cx
 |.fu l,e,O=>by
  intro y hr;unfold t at hr⊢;cases f:wG C c l e O with
  |none=>rw[f]at hr;cases hr|some q=>rw[NM h l _ _ q f];rw[f]at hr;exact hr
 |.eO l,e,O=>by
  intro y hr;unfold t at hr⊢;cases f:wK C c l e O with
  |none=>rw[f]at hr;cases hr|some q=>rw[Wy h l _ _ q f];rw[f]at hr;exact hr
 |.eA a b,e,O=>by
  intro y hr;unfold t at hr⊢;cases f:t C c n a e O with
  |none=>rw[f]at hr;cases hr
  |some q=>
   rw[uZ h g a _ _ q f];rw[f]at hr;obtain⟨k,o,j⟩:=q;cases k with
   |du=>exact uZ h g b _ _ y hr|dq i=>exact hr|ea=>exact hr
 |.eJ q a b,e,O=>by
  intro y hr;unfold t at hr⊢;split at hr;·exact uZ h g a _ _ y hr
  ·exact uZ h g b _ _ y hr
  ·cases hr
 |.eG id b,e,O=>by
  intro y hr;unfold t at hr⊢;cases f:t C c n b e O with
  |none=>rw[f]at hr;cases hr|some q=>rw[uZ h g b _ _ q f];rw[f]at hr;exact hr
 |.fL b,e,O=>Gp (λe O=>uZ h g b e O) n m g e O|.dq _,_,_=>Le.cx|.ea,_,_=>Le.cx|.fg b,e,O=>uZ h g b e O|.eC,_,_=>Le.gw
def abR(C:H)(run:XC->Body):bY:=λf args O=>
 match C.eV f with
 |J h=>h args O|U=>
 match C.fs f with
 |U=>U
 |J x=>
  match hand (C.eL f) args O with
  |U=>U
  |J (args,b)=>
   if z args>x.W then U else
   match run x.ap (args++j0 (x.W-z args) .dT) b with
   |J (.dq _,_,_)=>U|U=>U
   |J (_,e,a)=>
    match YH e a x.an with
    |U=>U|J vs=>match hand (C.eL f) vs a with|U=>U|J (vs,c)=>J (dG vs,tidy (z O) vs c)
def PW(C:H)(n:T):evF C (n+1)=abR C (t C (evF C n) n):=by funext f args O;rfl
def ael{C:H}{i s:XC->Body}(h:∀x e O,Le (i x e O) (s x e O)):EP (abR C i) (abR C s):=by
 intro f args O a ha;unfold abR at ha⊢;cases c:C.eV f with
 |some q=>rw[c]at ha;exact ha
 |none=>
  rw[c]at ha;dsimp only at ha⊢;cases d:C.fs f with
  |none=>rw[d]at ha;cases ha
  |some x=>
   rw[d]at ha;dsimp only at ha⊢;cases b:hand (C.eL f) args O with
   |none=>rw[b]at ha;cases ha
   |some q=>
    rw[b]at ha;dsimp only at ha⊢;split at ha;·cases ha
    ·rw[w9 (by assumption)];cases hr:i x.ap (q.1++j0 (x.W-z q.1) .dT) q.2 with|none=>rw[hr]at ha;cases ha|some t=>rw[h _ _ _ t hr];rw[hr]at ha;exact ha
def abq{C:H}:∀(n m:T),n<=m->EP (evF C n) (evF C m)|0,_,_=>λ_ _ _=>Le.gw|n+1,0,h=>K3 h (by omega)|n+1,m+1,h=>by rw[PW,PW];exact ael λx e O=>uZ (abq n m (by omega)) (by omega) x e O
noncomputable def ai(C:H):bY:=λf args O=>lim λn=>evF C n f args O
def Nc{C:H}{f args O d}:ai C f args O=J d↔∃n,evF C n f args O=J d:=
 ac6 (λn m h=>abq n m h f args O)
def Kz{C:H}{c d:bY}(h:EP c d){n:T}:∀(x:XC) (e:K) (O:St),Le (t C c n x e O) (qg C d x e O)
 |.eI,_,_=>Le.cx
 |.fu l,e,O=>by
  intro y hr;unfold t at hr;unfold qg;cases f:wG C c l e O with
  |none=>rw[f]at hr;cases hr|some q=>rw[NM h l _ _ q f];rw[f]at hr;exact hr
 |.eO l,e,O=>by
  intro y hr;unfold t at hr;unfold qg;cases f:wK C c l e O with
  |none=>rw[f]at hr;cases hr|some q=>rw[Wy h l _ _ q f];rw[f]at hr;exact hr
 |.eA a b,e,O=>by
  intro y hr;unfold t at hr;unfold qg;cases f:t C c n a e O with
  |none=>rw[f]at hr;cases hr
  |some q=>
   rw[Kz h a _ _ q f];rw[f]at hr;obtain⟨k,m,j⟩:=q;cases k with
   |du=>exact Kz h b _ _ y hr|dq i=>exact hr|ea=>exact hr
 |.eJ q a b,e,O=>by
  intro y hr;unfold t at hr;unfold qg;split at hr;·rename_i g;rw[g];exact Kz h a _ _ y hr
  ·rename_i g;rw[g];exact Kz h b _ _ y hr
  ·cases hr
 |.eG id b,e,O=>by
  intro y hr;unfold t at hr;unfold qg;cases f:t C c n b e O with
  |none=>rw[f]at hr;cases hr|some q=>rw[Kz h b _ _ q f];rw[f]at hr;exact hr
 |.fL b,e,O=>by intro y hr;unfold t at hr;unfold qg;exact Il.mpr ⟨n,Gp (λe O=>Kz h b e O) n n (a09 n) e O y hr⟩
 |.dq _,_,_=>Le.cx|.ea,_,_=>Le.cx|.fg b,e,O=>by intro y hr;unfold t at hr;unfold qg;exact Kz h b e O y hr
 |.eC,_,_=>Le.gw
section
variable {C:Ctx} {cs:Nat->bY} {L:bY}
  (hm:∀n m,n<=m->EP (cs n) (cs m)) (hL:∀f a O r,L f a O=some r->∃k,cs k f a O=some r)
 include hL in
def aqi {o e O d} (h:EF C L o e O=J d):∃k,EF C (cs k) o e O=J d:=by
  unfold EF at h⊢;split at h
  ·rename_i b;simp only[X2 b];cases hi:j7 C e O o.i with
   |none=>rw[hi]at h;cases h
   |some out=>
    rw[hi]at h;cases out with
    |ev v a=>exact⟨0,h⟩|fI f args a=>exact hL _ _ _ _ h
  simp_all
 include hm hL
def amj:∀{l e O d},wG C L l e O=J d->∃k,wG C (cs k) l e O=J d
 |[],_,_,_,h=>⟨0,h⟩
 |o::l,e,O,d,h=>by
  unfold wG at h;cases a:EF C L o e O with
  |none=>rw[a]at h;cases h|some q=>rw[a]at h;obtain⟨k,b⟩:=aqi hL a;obtain⟨j,hj⟩:=amj h;refine⟨max k j,?_⟩;unfold wG;rw[RH (hm k _ (N k j)) o e O q b];exact NM (hm j _ (I k j)) l _ _ d hj
def amk:∀{l e O d},zV C L l e O=J d->∃k,zV C (cs k) l e O=J d
 |[],_,_,_,h=>⟨0,h⟩
 |o::l,e,O,d,h=>by
  unfold zV at h;cases b:EF C L o e O with
  |none=>rw[b]at h;cases h
  |some q=>
   rw[b]at h;dsimp only at h;cases a:zV C L l (Z3 e o.ba q.1) q.2 with
   |none=>rw[a]at h;cases h|some t=>obtain⟨k,c⟩:=aqi hL b;obtain⟨j,hj⟩:=amk a;refine⟨max k j,?_⟩;unfold zV;rw[RH (hm k _ (N k j)) o e O q c];dsimp only;rw[UO (hm j _ (I k j)) l _ _ t hj];rw[a]at h;exact h
def WQ:∀(x:XC) {e O y},qg C L x e O=J y->∃k,t C (cs k) k x e O=J y
 |.eI,_,_,_,h=>⟨0,h⟩
 |.fu l,e,O,y,h=>by
  unfold qg at h;cases d:wG C L l e O with
  |none=>rw[d]at h;cases h|some q=>obtain⟨k,c⟩:=amj hm hL d;grind [t]
 |.eO l,e,O,y,h=>by
  unfold qg wK at h;cases d:zV C L l e O with
  |none=>rw[d]at h;cases h|some q=>obtain⟨k,c⟩:=amk hm hL d;grind [t,wK]
 |.eA a b,e,O,y,h=>by
  unfold qg at h;cases d:qg C L a e O with
  |none=>rw[d]at h;cases h
  |some q=>
   rw[d]at h;obtain⟨k,c⟩:=WQ a d;obtain⟨x,g,f⟩:=q;cases x with
   |du=>obtain⟨j,hj⟩:=WQ b h;refine⟨max k j,?_⟩;unfold t;rw[uZ (hm k _ (N k j)) (N k j) a e O _ c];exact uZ (hm j _ (I k j)) (I k j) b _ _ y hj
   |dq i=>grind [t]|ea=>grind [t]
 |.eJ q a b,e,O,y,h=>by
  unfold qg at h;split at h;·rename_i o;obtain⟨k,c⟩:=WQ a h;grind [t]
  ·rename_i o;obtain⟨k,c⟩:=WQ b h;grind [t]
  ·cases h
 |.eG id b,e,O,y,h=>by
  unfold qg at h;cases d:qg C L b e O with
  |none=>rw[d]at h;cases h|some q=>obtain⟨k,c⟩:=WQ b d;grind [t]
 |.fL b,e,O,y,h=>by
  unfold qg at h;obtain⟨n,m⟩:=Il.mp h;have:∀(n:T) (e:K) (O:St) (y:XE×K×St),vY (qg C L b) n e O=J y->∃k,t C (cs k) k (.fL b) e O=J y:=by
   intro n
   induction n with
   |zero=>intro e O y h;cases h
   |succ n p=>
    intro e O y h;unfold vY at h;cases hb:qg C L b e O with
    |none=>rw[hb]at h;cases h
    |some q=>
     rw[hb]at h;obtain⟨k,c⟩:=WQ b hb;obtain⟨x,g,f⟩:=q;cases x with
     |du=>obtain⟨j,hj⟩:=p _ _ _ h;refine⟨max k j+1,?_⟩;unfold t at hj⊢;unfold vY;rw[uZ (hm k _ (by omega)) (by omega:k<=max k j+1) b e O _ c];exact Gp (λe O=>uZ (hm j _ (by omega)) (by omega:j<=max k j+1) b e O) j (max k j) (by omega) _ _ y hj
     |dq i=>refine⟨k+1,?_⟩;unfold t vY;rw[uZ (hm k _ (by omega)) (by omega:k<=k+1) b e O _ c];exact h|ea=>refine⟨k+1,?_⟩;unfold t vY;rw[uZ (hm k _ (by omega)) (by omega:k<=k+1) b e O _ c];exact h
  exact this n e O y m
 |.dq _,_,_,_,h=>⟨0,h⟩|.ea,_,_,_,h=>⟨0,h⟩|.fg b,e,O,y,h=>by unfold qg at h;obtain⟨k,c⟩:=WQ b h;exact⟨k,by unfold t;exact c⟩
 |.eC,_,_,_,h=>by unfold qg at h;cases h
end
def agR(C:H):ai C=abR C (qg C (ai C)):=by
 funext f args O;refine Le.hl ?_ ?_;·intro a h;obtain⟨n,h⟩:=Nc.mp h;cases n with|zero=>cases h|succ n=>rw[PW]at h;exact ael (λx e O=>Kz (λf a O i h=>Nc.mpr ⟨n,h⟩) x e O) f args O a h
 ·intro a h;have hm:∀n m,n<=m->EP (evF C n) (evF C m):=abq;have hL:∀f a O i,ai C f a O=J i->∃k,evF C k f a O=J i:=λf a O i h=>Nc.mp h;refine Nc.mpr ?_;unfold abR at h;cases b:C.eV f with
  |some q=>rw[b]at h;exact⟨1,by rw[PW];unfold abR;rw[b];exact h⟩
  |none=>
   rw[b]at h;dsimp only at h;cases d:C.fs f with
   |none=>rw[d]at h;cases h
   |some x=>
    rw[d]at h;dsimp only at h;cases c:hand (C.eL f) args O with
    |none=>rw[c]at h;cases h
    |some q=>
     rw[c]at h;dsimp only at h;split at h;·cases h
     ·rename_i hlen;cases hr:qg C (ai C) x.ap (q.1++j0 (x.W-z q.1) .dT) q.2 with|none=>rw[hr]at h;cases h|some t=>obtain⟨k,g⟩:=WQ hm hL x.ap hr;refine⟨k+1,?_⟩;rw[PW];unfold abR;grind
def Iz{C:H}(hm:C.P.follows .mixedOrders=eT)(b:ajH C)(a:Yd C):fZ C (ai C):=by intro f args O v c h;obtain⟨n,h⟩:=Nc.mp h;exact PX hm b a n f args O v c h
inductive KC where
 |eI|fu (l:List XOp)|eZ (l:List XOp)|eO (l:List XOp)|eA (a b:KC)|eJ (c:XA) (a b:KC)|eG (id:Nat) (b:KC)|fL (keep:List Nat) (b:KC)|dq (keep:List Nat) (id:Nat)|ea (keep:List Nat)|fg (b:KC)|eC
def KC.ad:KC->XC|.eI=>.eI|.fu l=>.fu l|.eZ l=>.eO l|.eO l=>.eO l|.eA a b=>.eA a.ad b.ad|.eJ c a b=>.eJ c a.ad b.ad|.eG id b=>.eG id b.ad|.fL _ b=>.fL b.ad|.dq _ id=>.dq id|.ea _=>.ea|.fg b=>.fg b.ad|.eC=>.eC
structure KF where
 hd:Nat
 W:Nat
 an:List XR
 ap:KC
def KF.ad(k:KF):XF:=⟨k.hd,k.W,k.an,k.ap.ad⟩
def ayT(C:H)(e:K)(O:St)(i:XI):j7 C e O i=aF C (av C e) (z e) O i:=w8
abbrev As:=W (T×AV)
def look:As->T->AV|[],_=>.dT|(k,v)::A,t=>if k=t then v else look A t
def avA(C:H)(A:As):XA->AV|.t n=>look A n|.c v=>v|.g n=>.ec ((C.gl n).getD [])
def yw(b:F):AV->F|.cW c=>c==b|_=>eF
def lK(o:X)(A:As):F:=
 match o.bm with
 |U=>eT|J (t,b)=>yw b (look A t)
def Dx(A:As)(d:P T)(v:AV):As:=
 match d with
 |J d=>(d,v)::A|U=>A
def keepA(k:W T)(A:As):As:=k.map λt=>(t,look A t)
def wZ(C:H)(call:bY)(n:T)(o:X)(A:As)(O:St):P (AV×St):=
 if lK o A then
  match aF C (avA C A) n O o.i with
  |J (.ev v a)=>J (v,a)|J (.fI f args a)=>call f args a|U=>U
 else J (.dT,O)
def fK(C:H)(call:bY)(n:T):W X->As->St->P (As×St)|[],A,O=>J (A,O)|o::l,A,O=>match wZ C call n o A O with|J (v,a)=>fK C call n l (Dx A o.ba v) a|U=>U
def qH(C:H)(call:bY)(n:T):W X->As->St->P (As×St×W (As×AV)×W St)
 |[],A,O=>J (A,O,[],[O])
 |o::l,A,O=>match wZ C call n o A O with
  |J (v,c)=>match qH C call n l (Dx A o.ba v) c with|J (b,a,rs,d)=>J (b,a,(A,v)::rs,O::d)|U=>U
  |U=>U
def lG(C:H)(n:T)(o:X)(A:As)(v:AV)(ss:W St):W T->F|[]=>eT|c::l=>(match ss[c]?,ss[c+1]? with|J s,J a=>(match aF C (avA C A) n s o.i,aF C (avA C A) n a o.i with|J (.ev v1 _),J (.ev v2 _)=>j v1 v&&j v2 v|_,_=>eF)|_,_=>eF)&&lG C n o A v ss l
def fQ(C:H)(n:T)(ss:W St):W X->W (As×AV)->F|o::l,(A,v)::rs=>(!lK o A||lG C n o A v ss o.bo)&&fQ C n ss l rs|_,_=>eT
def zU(C:H)(call:bY)(n:T)(l:W X)(A:As)(O:St):P (As×St):=
 match qH C call n l A O with
 |J (a,b,rs,c)=>if fQ C n c l rs then J (a,b)else U|U=>U
abbrev IC:=As->St->P (XE×As×St)
def loopA(b:IC):T->As->St->P (XE×As×St)|0,_,_=>U|n+1,e,O=>match b e O with|J (.du,c,a)=>loopA b n c a|d=>d
def ac9{b:IC}:∀(n m:T),n<=m->∀e O,Le (loopA b n e O) (loopA b m e O)
 |0,_,_,_,_=>Le.gw|n+1,0,c,_,_=>K3 c (by omega)
 |n+1,m+1,c,e,O=>by
  intro a ha;unfold loopA at ha⊢;cases hb:b e O with
  |none=>rw[hb]at ha;cases ha
  |some h=>
   rw[hb]at ha;obtain⟨k,f,d⟩:=h;cases k with
   |du=>exact ac9 n m (by omega) f d a ha|dq i=>exact ha|ea=>exact ha
noncomputable def Ey(b:IC):IC:=λe O=>lim λn=>loopA b n e O
theorem wC{b:IC}{e O d}:Ey b e O=J d↔∃n,loopA b n e O=J d:=
 ac6 (λn m h=>ac9 n m h e O)
theorem GM (b:IC) (e:As) (O:St):Ey b e O=
  match b e O with
  |J (.du,d,c)=>Ey b d c|f=>f:=by
 refine Le.hl ?_ ?_;·intro a h;obtain⟨n,h⟩:=wC.mp h;cases n with|zero=>cases h|succ n=>grind [loopA,wC]
 ·intro a h;refine wC.mpr ?_;cases hb:b e O with
  |none=>rw[hb]at h;cases h
  |some f=>
   rw[hb]at h;obtain⟨k,d,c⟩:=f;cases k with
   |du=>obtain⟨n,h⟩:=wC.mp h;exact⟨n+1,by unfold loopA;rw[hb];exact h⟩
   |dq i=>exact⟨1,by unfold loopA;rw[hb];exact h⟩|ea=>exact⟨1,by unfold loopA;rw[hb];exact h⟩
noncomputable def gu(C:H)(call:bY)(n:T):KC->IC
 |.eI,e,O=>J (.du,e,O)|.fu l,e,O|.eZ l,e,O=>match fK C call n l e O with|J (f,d)=>J (.du,f,d)|U=>U
 |.eO l,e,O=>match zU C call n l e O with|J (f,d)=>J (.du,f,d)|U=>U
 |.eA a b,e,O=>match gu C call n a e O with|J (.du,f,d)=>gu C call n b f d|h=>h
 |.eJ c a b,e,O=>match avA C e c with|.cW eT=>gu C call n a e O|.cW eF=>gu C call n b e O|_=>U
 |.eG id b,e,O=>match gu C call n b e O with|J (.dq i,f,d)=>J (if i=id then .du else .dq i,f,d)|h=>h
 |.fL m b,e,O=>Ey (λe O=>gu C call n b (keepA m e) O) e O|.dq m id,e,O=>J (.dq id,keepA m e,O)|.ea m,e,O=>J (.ea,keepA m e,O)|.fg b,e,O=>gu C call n b e O|.eC,_,_=>U
def bit(t:T):T:=1<<<t
def bits:W T->T|[]=>0|t::l=>bit t|||bits l
def without(m:T):P T->T|U=>m|J d=>(m|||bit d)^^^bit d
def KQ:W X->T->T|[],N=>N|o::l,N=>bits o.aE|||without (KQ l N) o.ba
def SB(l:W X):F:=l.all λo=>o.bo.isEmpty
def Ws(n:T):P T->F|U=>eT|J d=>decide (d<n)
def afZ(n:T)(l:W X):F:=l.all λo=>Ws n o.ba
def live(n R:T):KC->T->(T->T)->P T
 |.eI,N,_=>J N|.fu l,N,_=>if afZ n l then J (KQ l N)else U|.eZ l,N,_=>if afZ n l&&SB l then J (KQ l N)else U|.eO l,N,_=>if afZ n l then J (KQ l N)else U|.eA a b,N,X=>match live n R b N X with|J M=>live n R a M X|U=>U
 |.eJ c a b,N,X=>match live n R a N X,live n R b N X with|J A,J B=>J (bits c.aE|||(A|||B))|_,_=>U
 |.eG id b,N,X=>live n R b N λi=>if i=id then N else X i|.fL k b,_,X=>match live n R b (bits k) X with|J A=>if A|||bits k=bits k then J (bits k)else U|U=>U
 |.dq k id,_,X=>if X id|||bits k=bits k then J (bits k)else U|.ea k,_,_=>if R|||bits k=bits k then J (bits k)else U|.fg b,N,X=>live n R b N X|.eC,_,_=>J 0
def Ij:W XR->T|[]=>0|.fT t::l=>bit t|||Ij l|.eN t _ _::l=>bit t|||Ij l
def KF.ok(k:KF):F:=(live k.W (Ij k.an) k.ap (Ij k.an) λ_=>Ij k.an).isSome
structure Ag(n m:Nat)(e:Env)(A:As):Prop where
 dt:e.length=n
 az:∀t,m.testBit t=true->e.getD t .dT=look A t
theorem Ag.dh{n m k:T}{e A}(h:Ag n (m|||k) e A):Ag n m e A:=⟨h.dt,λt a=>h.az t (by rw[q,a];rfl)⟩
def Ag.ds{n m k:T}{e A}(h:Ag n (m|||k) e A):Ag n k e A:=⟨h.dt,λt a=>h.az t (by rw[q,a,aH9])⟩
def Dt(d t:T):(bit d).testBit t=decide (d=t):=by unfold bit;rw[Nat.one_shiftLeft,Nat.testBit_two_pow]
def ait:∀(l:W T) (t:T),t∈l->(bits l).testBit t=eT
 |a::l,t,h=>by
  unfold bits;rw[q,Dt];rcases aC8.mp h with h|h;·subst h;simp
  ·rw[ait l t h,aH9]
def ahw:∀(l:W T) (t:T),(bits l).testBit t=eT->t∈l
 |[],t,h=>by unfold bits at h;simp at h
 |a::l,t,h=>by
  unfold bits at h;rw[q,Dt,aE7]at h;rcases h with h|h;·grind
  ·exact aI9 _ (ahw l t h)
def AgL(l:W T)(e:K)(A:As):Prop:=∀t∈l,e.getD t .dT=look A t
def Ag.dR{n:T}{l:W T}{e A}(h:Ag n (bits l) e A):AgL l e A:=λt a=>h.az t (ait l t a)
def aad(m d t:T):(without m (J d)).testBit t=(m.testBit t&& !decide (d=t)):=by unfold without;rw[Nat.testBit_xor,q,Dt];grind
def aqo(e:K)(d t:T)(v:AV):(e.set d v).getD t .dT=if d=t/\t<z e then v else e.getD t .dT:=by grind
def Ag.cn{n m:T}{d:P T}{e A}(h:Ag n (without m d) e A)(b:Ws n d=eT)(v:AV):Ag n m (Z3 e d v) (Dx A d v):=by
 refine⟨by rw[Oj,h.dt],?_⟩;intro t c;cases d with
 |none=>exact h.az t c
 |some d=>
  have b:d<n:=(by simpa[Ws]using b);unfold Z3 Dx;dsimp only;rw[aqo,h.dt];unfold look;by_cases a:d=t;·grind
  ·rw[w9 (λh=>a h.1),w9 a];exact h.az t (by rw[aad,c];simp[a])
def Sv:∀(k:W T) (A:As) (t:T),t∈k->look (keepA k A) t=look A t
 |a::k,A,t,h=>by
  show(if a=t then look A a else look (keepA k A) t)=_;by_cases b:a=t;·rw[X2 b,b]
  ·rw[w9 b];exact Sv k A t ((aC8.mp h).resolve_left λh=>b h.symm)
theorem Ag.au{n:T}{k:W T}{e A}(h:Ag n (bits k) e A):Ag n (bits k) e (keepA k A):=
 ⟨h.dt,λt a=>by rw[Sv k A t (ahw k t a),h.az t a]⟩
def anC{C:H}{e:K}{A:As}(x:XA)(h:AgL x.aE e A):av C e x=avA C A x:=by
 cases x with
 |t n=>exact h n (aC7.mpr w8)|c v=>rfl|g n=>rfl
section
variable{a a':XA->AV}
def AgX(l:W T)(a a':XA->AV):Prop:=∀x:XA,(∀t∈x.aE,t∈l)->a x=a' x
theorem AgX.fi{l k:W T}(h:AgX l a a')(b:∀t∈k,t∈l):AgX k a a':=λx d=>h x λt c=>b t (d t c)
def adS:∀(l:W XA),AgX (Ae l) a a'->l.map a=l.map a'|[],_=>w8|x::l,h=>by simp only[aC9];rw[h x (λt b=>by simp[Ae,b]),adS l (h.fi λt b=>by simp[Ae,b])]
def adQ(x:P XA)(h:AgX (Vf x) a a'):x.map a=x.map a':=by
 cases x with
 |none=>rfl|some x=>simp only[aC5];rw[h x (λt b=>b)]
def avV:∀(l:W (T×T×XA)),AgX (Qz l) a a'->(l.map λ(o,s,x)=>(o,s,a x))=(l.map λ(o,s,x)=>(o,s,a' x))|[],_=>w8|(o,s,x)::l,h=>by simp only[aC9];rw[h x (λt b=>by simp[Qz,b]),avV l (h.fi λt b=>by simp[Qz,b])]
def ak8(C:H)(n:T)(O:St)(e:XI)(h:AgX e.aE a a'):aF C a n O e=aF C a' n O e:=by
 have mem:∀{x:XA},(∀t∈x.aE,t∈e.aE)->a x=a' x:=λ{x} g=>h x g;cases e<;>simp only[XI.aE]at h mem<;>simp only[aF]<;>first
  |rfl|(rw[mem (λt d=>d)])|(rename_i a b;rw[mem (x:=a) (λt d=>by simp[d]),mem (x:=b) (λt d=>by simp[d])])|(rename_i a b c;rw[mem (x:=a) (λt d=>by simp[d]),mem (x:=b) (λt d=>by simp[d]),mem (x:=c) (λt d=>by simp[d])])|(rw[avV _ h])|skip
 case it fn x y=>rw[adS x (h.fi λt d=>by simp[d]),adS y (h.fi λt d=>by simp[d])]
 case gH x a b=>rw[mem (x:=x) (λt d=>by simp[d]),adQ a (h.fi λt d=>by simp[d]),adQ b (h.fi λt d=>by simp[d])]
 case ii i x a b c=>rw[mem (x:=x) (λt d=>by simp[d]),adQ a (h.fi λt d=>by simp[d]),adQ b (h.fi λt d=>by simp[d])]
 case gF n i x a b c=>rw[mem (x:=x) (λt d=>by simp[d]),adQ a (h.fi λt d=>by simp[d]),adQ b (h.fi λt d=>by simp[d])]
 case hG z m k ok=>grind
 all_goals first
  |(rw[adS _ h])|(rename_i f l;rw[mem (x:=f) (λt d=>by simp[d]),adS l (h.fi λt d=>by simp[d])])|(rename_i f m l;rw[mem (x:=f) (λt d=>by simp[d]),adS l (h.fi λt d=>by simp[d])])|(rename_i q;rw[mem (x:=q) (λt d=>by simp[d])])
end
theorem Ag.hK{n:T}{o:X}{e A}(h:Ag n (bits o.aE) e A):sJ o e=lK o A:=by
 unfold sJ lK;cases a:o.bm with
 |none=>rfl
 |some q=>
  obtain⟨t,b⟩:=q;dsimp only;have c:=h.dR t (by unfold XOp.aE;rw[a];simp);rw[<-c,aD4];unfold yw;cases e[t]? with
  |none=>rfl|some v=>cases v<;>rfl
theorem Ag.nA{C:H}{n:T}{o:X}{e A}(h:Ag n (bits o.aE) e A)(O:St):j7 C e O o.i=aF C (avA C A) n O o.i:=by rw[ayT,h.dt];exact ak8 C n O o.i λx b=>anC x λt a=>h.dR t (by unfold XOp.aE;exact aG1 _ (b t a))
def Ag.op{C:H}{call:bY}{n:T}{o:X}{e A}(h:Ag n (bits o.aE) e A)(O:St):EF C call o e O=wZ C call n o A O:=by unfold EF wZ;rw[h.hK,h.nA];grind
def Rel(n:T)(N:XE->T):P (XE×K×St)->P (XE×As×St)->Prop|U,U=>True|J (k,e,O),J (k',b,a)=>k=k'/\O=a/\Ag n (N k) e b|_,_=>False
def aaA {C:H} {call:bY} {n N:T}:∀(l:W X) (e:K) (A:As) (O:St),afZ n l=eT->Ag n (KQ l N) e A->
  match wG C call l e O,fK C call n l A O with
  |J (f,Y),J (c,b)=>Y=b/\Ag n N f c|U,U=>True|_,_=>False
 |[],e,A,O,_,h=>⟨w8,h⟩
 |o::l,e,A,O,a,h=>by
  unfold afZ at a;rw[a08,a02]at a;unfold wG fK;rw[Ag.op h.dh O];cases wZ C call n o A O with
  |none=>trivial|some q=>exact aaA l _ _ q.2 a.2 (h.ds.cn a.1 q.1)
theorem ZQ{C:H}{n:T}{o:X}{e A}(h:Ag n (bits o.aE) e A)(v:AV)(ss:W St):∀l,Om C o e v ss l=lG C n o A v ss l
 |[]=>w8
 |c::l=>by
  unfold Om lG;rw[ZQ h v ss l];simp only[h.nA,aF];cases ss[c]? with
  |none=>rfl
  |some s=>cases ss[c+1]? with
   |none=>rfl
   |some a=>
    dsimp only;cases aF C (avA C A) n s o.i with
    |none=>rfl|some x=>cases aF C (avA C A) n a o.i with|none=>cases x<;>rfl|some y=>cases x<;>cases y<;>rfl
def agO {C:H} {call:bY} {n N:T}:∀(l:W X) (e:K) (A:As) (O:St),afZ n l=eT->Ag n (KQ l N) e A->
  match zV C call l e O,qH C call n l A O with
  |J (f,Y,rs,j),J (i,g,b,c)=>Y=g/\j=c/\Ag n N f i/\∀d,BM C d l rs=fQ C n d l b|U,U=>True|_,_=>False
 |[],e,A,O,_,h=>⟨w8,w8,h,λ_=>w8⟩
 |o::l,e,A,O,a,h=>by
  unfold afZ at a;rw[a08,a02]at a;unfold zV qH;rw[Ag.op h.dh O];cases wZ C call n o A O with
  |none=>trivial
  |some q=>
   dsimp only;have:=agO (C:=C) (call:=call) (N:=N) l _ _ q.2 a.2 (h.ds.cn a.1 q.1);revert this;cases zV C call l (Z3 e o.ba q.1) q.2 with
   |none=>grind|some x=>cases qH C call n l (Dx A o.ba q.1) q.2 with|none=>intro h;exact h.elim|some k=>grind [BM,fQ,h.dh.hK,ZQ,h.dh]
theorem Uo{C:H}{zs:W St}:∀(l:W X) (rs:W (K×AV)),SB l=eT->BM C zs l rs=eT
 |[],_,_=>by unfold BM;rfl
 |_::_,[],_=>by unfold BM;rfl
 |o::l,(e,v)::rs,h=>by unfold SB at h;rw[a08,a02]at h;unfold BM;rw[Uo l rs h.2];have:o.bo=[]:=(by simpa using h.1);rw[this];unfold Om;simp
theorem anc{C:H}{call:bY}:∀(l:W X) (e:K) (O:St),(zV C call l e O).map (λd=>(d.1,d.2.1))=wG C call l e O
 |[],_,_=>w8
 |o::l,e,O=>by
  unfold zV wG;cases EF C call o e O with
  |none=>rfl|some q=>dsimp only;rw[<-anc l];grind
def ahN{C:H}{call:bY}{l:W X}(h:SB l=eT)(e:K)(O:St):wK C call l e O=wG C call l e O:=by grind [wK,anc,Uo]
def outs(N R:T)(X:T->T):XE->T|.du=>N|.dq i=>X i|.ea=>R
def BJ{C:Ctx}{call:bY}{n R:T}:∀(k:KC) (N M:T) (X:T->T),live n R k N X=J M->∀(e:K) (d:As) (O:St),Ag n M e d->Rel n (outs N R X) (qg C call k.ad e O) (gu C call n k d O)
 |.eI,N,M,X,h,e,d,O,ha=>by cases h;exact⟨w8,w8,ha⟩
 |.fu l,N,M,X,h,e,d,O,ha=>by
  unfold live at h;split at h
  ·rename_i w;cases h;unfold KC.ad qg gu;have:=aaA (C:=C) (call:=call) l e d O w ha;revert this;cases wG C call l e O<;>cases fK C call n l d O;·intro _;trivial
   ·intro h;exact h.elim
   ·intro h;exact h.elim
   ·rintro⟨j,h2⟩;exact⟨w8,j,h2⟩
  ·cases h
 |.eZ l,N,M,X,h,e,d,O,ha=>by
  unfold live at h;split at h
  ·rename_i y;cases h;rw[a02]at y;unfold KC.ad qg gu;rw[ahN y.2];have:=aaA (C:=C) (call:=call) l e d O y.1 ha;revert this;cases wG C call l e O<;>cases fK C call n l d O;·intro _;trivial
   ·intro h;exact h.elim
   ·intro h;exact h.elim
   ·rintro⟨j,h2⟩;exact⟨w8,j,h2⟩
  ·cases h
 |.eO l,N,M,X,h,e,d,O,ha=>by
  unfold live at h;split at h
  case isFalse=>cases h
  rename_i w;cases h;unfold KC.ad qg gu wK zU;have:=agO (C:=C) (call:=call) l e d O w ha;revert this;cases zV C call l e O<;>cases qH C call n l d O;·intro _;trivial
  ·intro h;exact h.elim
  ·intro h;exact h.elim
  ·rename_i cB o;obtain⟨f,Y,rs,H⟩:=cB;obtain⟨t,v,E,I⟩:=o;rintro⟨j,h2,h3,h4⟩;subst h2;dsimp only;rw[h4];cases fQ C n H l E;·trivial
   ·exact⟨w8,j,h3⟩
 |.eA a b,N,M,X,h,e,d,O,ha=>by
  unfold live at h;cases hb:live n R b N X with
  |none=>rw[hb]at h;cases h
  |some B=>
   rw[hb]at h;have:=BJ (C:=C) (call:=call) a B M X h e d O ha;unfold KC.ad qg gu;revert this;cases qg C call a.ad e O<;>cases gu C call n a d O;·intro _;trivial
   ·intro h;exact h.elim
   ·intro h;exact h.elim
   ·rename_i cB o;obtain⟨x,f,Y⟩:=cB;obtain⟨F,t,v⟩:=o;rintro⟨j,h2,h3⟩;subst j h2;cases x with|du=>exact BJ b N B X hb _ _ _ h3|dq i=>exact⟨w8,w8,h3⟩|ea=>exact⟨w8,w8,h3⟩
 |.eJ c a b,N,M,X,h,e,d,O,ha=>by
  unfold live at h;cases s:live n R a N X with
  |none=>rw[s]at h;cases h
  |some A=>cases hB:live n R b N X with
   |none=>rw[s,hB]at h;cases h
   |some B=>
    rw[s,hB]at h;cases h;unfold KC.ad qg gu;rw[anC c (ha.dh.dR)];cases avA C d c with
    |cW q=>cases q with|true=>exact BJ a N A X s e d O ha.ds.dh|false=>exact BJ b N B X hB e d O ha.ds.ds
    |_=>trivial
 |.eG id b,N,M,X,h,e,d,O,ha=>by
  unfold live at h;have:=BJ (C:=C) (call:=call) b N M _ h e d O ha;unfold KC.ad qg gu;revert this;cases qg C call b.ad e O<;>cases gu C call n b d O;·intro _;trivial
  ·intro h;exact h.elim
  ·intro h;exact h.elim
  ·rename_i cB o;obtain⟨x,f,Y⟩:=cB;obtain⟨F,t,v⟩:=o;rintro⟨j,h2,h3⟩;subst j h2;cases x with
   |du=>exact⟨w8,w8,h3⟩
   |dq i=>
    refine⟨w8,w8,?_⟩;unfold outs at h3;dsimp only at h3;split;·rename_i hi;rw[X2 hi]at h3;exact h3
    ·rename_i hi;rw[w9 hi]at h3;exact h3
   |ea=>exact⟨w8,w8,h3⟩
 |.fL m b,N,M,X,h,e,d,O,ha=>by
  unfold live at h;cases s:live n R b (bits m) X with
  |none=>rw[s]at h;cases h
  |some A=>
   rw[s]at h;dsimp only at h;split at h
   ·rename_i hm;cases h;have u:∀{f:K} {t:As},Ag n (bits m) f t->Ag n A f t:=λ{f t} g=>by rw[<-hm]at g;exact g.dh
    have step:∀(p:T) (e:K) (d:As) (O:St),Ag n (bits m) e d->Rel n (outs N R X) (vY (qg C call b.ad) p e O) (loopA (λe O=>gu C call n b (keepA m e) O) p d O):=by
     intro p
     induction p with
     |zero=>intro e d O _;trivial
     |succ p G=>
      intro e d O ha;unfold vY loopA;have:=BJ (C:=C) (call:=call) b (bits m) A X s e (keepA m d) O (u ha.au);revert this;cases qg C call b.ad e O<;>cases gu C call n b (keepA m d) O;·intro _;trivial
      ·intro h;exact h.elim
      ·intro h;exact h.elim
      ·rename_i cB o;obtain⟨x,f,Y⟩:=cB;obtain⟨F,t,v⟩:=o;rintro⟨j,h2,h3⟩;subst j h2;cases x with|du=>exact G _ _ _ h3|dq i=>exact⟨w8,w8,h3⟩|ea=>exact⟨w8,w8,h3⟩
    unfold KC.ad qg gu;cases j:agS (qg C call b.ad) e O with
    |some cB=>
     obtain⟨p,D⟩:=Il.mp j;have:=step p e d O ha;rw[D]at this;cases h2:loopA (λe O=>gu C call n b (keepA m e) O) p d O with
     |none=>rw[h2]at this;exact this.elim|some o=>grind [wC]
    |none=>
     cases h2:Ey (λe O=>gu C call n b (keepA m e) O) d O with
     |none=>trivial
     |some o=>
      obtain⟨p,D⟩:=wC.mp h2;have:=step p e d O ha;rw[D]at this;cases h3:vY (qg C call b.ad) p e O with
      |none=>rw[h3]at this;exact this.elim|some cB=>grind [Il]
   ·cases h
 |.dq m i,N,M,X,h,e,d,O,ha=>by
  unfold live at h;split at h;·rename_i hm;cases h;have g:=ha.au;rw[<-hm]at g;refine⟨w8,w8,?_⟩;exact g.dh
  ·cases h
 |.ea m,N,M,X,h,e,d,O,ha=>by
  unfold live at h;split at h;·rename_i hm;cases h;have g:=ha.au;rw[<-hm]at g;refine⟨w8,w8,?_⟩;exact g.dh
  ·cases h
 |.fg b,N,M,X,h,e,d,O,ha=>by unfold live at h;unfold KC.ad qg gu;exact BJ b N M X h e d O ha
 |.eC,N,M,X,h,e,d,O,ha=>by unfold KC.ad qg gu;trivial
def aZ(A:As)(O:St):W XR->P LA
 |[]=>J []|.fT t::l=>match aZ A O l with|J vs=>J (look A t::vs)|U=>U
 |.eN t ag a::l=>match look A t,aZ A O l with
  |.da o off,J vs=>match O[o]? with
   |J (.cP c _)=>match pt ag a (c.drop off)with|J v=>J (v::vs)|U=>U
   |_=>U
  |_,_=>U
def YI{n:T}{O:St}{e:K}{A:As}:∀(l:W XR),Ag n (Ij l) e A->YH e O l=aZ A O l
 |[],_=>w8|.fT t::l,h=>by unfold YH aZ;rw[YI l h.ds,h.dh.az t (by rw[Dt];simp)];cases aZ A O l<;>rfl
 |.eN t ag a::l,h=>by unfold YH aZ;rw[YI l h.ds,h.dh.az t (by rw[Dt];simp)];cases look A t<;>rfl
def oH:T->LA->As|_,[]=>[]|i,v::l=>(i,v)::oH (i+1) l
def aeB:∀(l:LA) (i t:T),look (oH i l) t=if t<i then .dT else l.getD (t-i) .dT
 |[],i,t=>by unfold oH look;split<;>simp
 |v::l,i,t=>by unfold oH look;rw[aeB l (i+1) t];grind
def afH(m:T)(n:T)(args:LA)(h:z args<=n):Ag n m (args++j0 (n-z args) .dT) (oH 0 args):=by refine⟨by simp;omega,?_⟩;intro t _;rw[aeB,w9 (by omega),Nat.sub_zero];grind
noncomputable def GK(C:H)(K:KF)(raw:F)(args:LA)(O:St):P (AV×St):=
 match hand raw args O with
 |U=>U
 |J (args,b)=>
  if z args>K.W then U else
  match gu C (ai C) K.W K.ap (oH 0 args) b with
  |J (.dq _,_,_)=>U|U=>U
  |J (_,e,a)=>
   match aZ e a K.an with
   |U=>U|J vs=>match hand raw vs a with|U=>U|J (vs,c)=>J (dG vs,tidy (z O) vs c)
structure Has(C:Ctx)(f:FuncId)(K:KF):Prop where
 fs:C.fs f=some K.ad
 eV:C.eV f=none
 eL:C.eL f=false
 ok:K.ok=true
def asA {C:H} {f:FuncId} {K:KF} {raw:F} (b:C.fs f=J K.ad) (g:C.eV f=U) (hr:C.eL f=raw) (hok:K.ok=eT) (args:LA) (O:St):
  ai C f args O=GK C K raw args O:=by
 rw[agR];unfold abR GK;rw[g,b,hr];dsimp only[KF.ad];cases hand raw args O with
 |none=>rfl
 |some q=>
  obtain⟨args,a⟩:=q;dsimp only;split;·rfl
  ·rename_i hlen;unfold KF.ok at hok;obtain⟨M,d⟩:=aE5.mp hok;have:=BJ (C:=C) (call:=ai C) K.ap _ M _ d (args++j0 (K.W-z args) .dT) _ a (afH M K.W args (by omega));revert this;cases qg C (ai C) K.ap.ad (args++j0 (K.W-z args) .dT) a<;>cases gu C (ai C) K.W K.ap (oH 0 args) a;·intro _;rfl
   ·intro h;exact h.elim
   ·intro h;exact h.elim
   ·rename_i y j;obtain⟨x,e,Y⟩:=y;obtain⟨m,l,k⟩:=j;rintro⟨c,h2,h3⟩;subst c h2;cases x with|dq i=>rfl|du=>dsimp only;rw[YI (O:=Y) K.an h3];all_goals grind|ea=>dsimp only;rw[YI (O:=Y) K.an h3];all_goals grind
def Has.cG{C:H}{f:FuncId}{K:KF}(h:Has C f K)(args:LA)(O:St):ai C f args O=GK C K eF args O:=
 asA h.fs h.eV h.eL h.ok args O
def o(d:T)(i:XI):X:=⟨J d,i,U,[]⟩
def u(i:XI):X:=⟨U,i,U,[]⟩
def og(d:T)(t:T)(b:F)(i:XI):X:=⟨J d,i,J (t,b),[]⟩
def ug(t:T)(b:F)(i:XI):X:=⟨U,i,J (t,b),[]⟩
def m(d s:T):X:=⟨J d,.mv (.t s),U,[]⟩
def out(call:bY)(d:P T)(e:As)(x:P Out)(k:As->St->P (As×St)):P (As×St):=
 match x with
 |J (.ev v a)=>k (Dx e d v) a|J (.fI f args a)=>match call f args a with|J (v,b)=>k (Dx e d v) b|U=>U
 |U=>U
def look_nil(t:T):look [] t=.dT:=w8
def Su(k:T)(v:AV)(A:As)(t:T):look ((k,v)::A) t=if k=t then v else look A t:=w8
def Xn(A:As):keepA [] A=[]:=w8
def Sl(t:T)(k:W T)(A:As):keepA (t::k) A=(t,look A t)::keepA k A:=w8
def VJ(i:T):oH i []=[]:=w8
def QZ(i:T)(v:AV)(l:LA):oH i (v::l)=(i,v)::oH (i+1) l:=w8
def axm(k:p)(v:AV)(O:St):P Out:=
 match v with
 |.cQ _ n=>J (.ev (.cQ k (k.wrap n)) O)|_=>U
def Xg(k j:p)(n:J1)(O:St):axm k (.cQ j n) O=J (.ev (.cQ k (k.wrap n)) O):=w8
def aal(np:F)(op:D)(ek:T)(c:F)(b:F)(y:AV):CG np op ek c (.cW b) y=h op ek c (.cW b) y:=by cases np<;>rfl
def ab7(np:F)(op:D)(ek:T)(c:F)(k:p)(b:J1)(y:AV):CG np op ek c (.cQ k b) y=h op ek c (.cQ k b) y:=by cases np<;>rfl
def ab8(np:F)(op:D)(ek:T)(c:F)(s:LU)(y:AV):CG np op ek c (.cU s) y=h op ek c (.cU s) y:=by cases np<;>rfl
def VL(np:F)(op:D)(ek:T)(c:F)(y:AV):CG np op ek c .ep y=h op ek c .ep y:=by cases np<;>rfl
def Yf(np:F)(op:D)(ek:T)(c:F)(a b:T)(y:AV):CG np op ek c (.da a b) y=h op ek c (.da a b) y:=by cases np<;>rfl
def VK(np:F)(op:D)(ek:T)(c:F)(l:LA):CG np op ek c (.ec l) .ep=h op ek c (.ec l) .ep:=by cases np<;>rfl
def VM(np:F)(op:D)(ek:T)(c:F)(y:AV):CG np op ek c .cY y=h op ek c .cY y:=by cases np<;>rfl
def afL(np:F)(op:D)(ek:T)(c:F)(y:AV):CG np op ek c .fS y=h op ek c .fS y:=by cases np<;>rfl
def alT(np:F)(op:D)(ek:T)(c:F)(i:T)(l:LA)(y:AV):CG np op ek c (.sl i l) y=h op ek c (.sl i l) y:=by cases np<;>rfl
def afO(np:F)(op:D)(ek:T)(c:F)(i:T)(l:LA)(y:AV):CG np op ek c (.eB i l) y=h op ek c (.eB i l) y:=by cases np<;>rfl
def afN(np:F)(op:D)(ek:T)(c:F)(i j p q:T)(y:AV):CG np op ek c (.dj i j p q) y=h op ek c (.dj i j p q) y:=by cases np<;>rfl
def afM(np:F)(op:D)(ek:T)(c:F)(i:T)(y:AV):CG np op ek c (.dz i) y=h op ek c (.dz i) y:=by cases np<;>rfl
def Ri(np:F)(op:D)(ek:T)(c:F)(y:AV):CG np op ek c .eE y=h op ek c .eE y:=by cases np<;>rfl
def aam(np:F)(op:D)(ek:T)(c:F)(f:Fn)(l d:LA)(y:AV):CG np op ek c (.dv f l d) y=h op ek c (.dv f l d) y:=by cases np<;>rfl
def Ny(np:F)(op:D)(ek:T)(c:F)(y:AV):CG np op ek c .eo y=h op ek c .eo y:=by cases np<;>rfl
def PP(np:F)(op:D)(ek:T)(c:F)(t:K6)(v:AV)(y:AV):CG np op ek c (.dx t v) y=h op ek c (.dx t v) y:=by cases np<;>rfl
def Gi(np:F)(op:D)(ek:T)(c:F)(y:AV):CG np op ek c .eb y=h op ek c .eb y:=by cases np<;>rfl
def ab6(np:F)(op:D)(ek:T)(c:F)(l:LA)(y:AV):CG np op ek c (.cX l) y=h op ek c (.cX l) y:=by cases np<;>rfl
def agi(C:H)(a:XA->AV)(n0:T)(O:St)(k:p)(x:XA):aF C a n0 O (.jc k x)=axm k (a x) O:=w8
def Aa (C:H) (a:XA->AV) (n0:T) (O:St) (k:T) (x:XA):aF C a n0 O (.dt k x)=match bC O k (a x)with|J n=>J (.ev (.cQ r (n:J1)) O)|U=>U:=by show Option.map _ _=_;cases bC O k (a x)<;>rfl
variable(C:Ctx)(call:bY)(n:Nat)
theorem au3(e:As)(t:T):avA C e (.t t)=look e t:=w8
theorem au1(e:As)(v:AV):avA C e (.c v)=v:=w8
theorem au2(e:As)(n:T):avA C e (.g n)=.ec ((C.gl n).getD []):=w8
theorem aaB(d:T)(e:As)(v:AV)(O:St)(k):out call (J d) e (J (.ev v O)) k=k ((d,v)::e) O:=w8
theorem Xz(e:As)(v:AV)(O:St)(k):out call U e (J (.ev v O)) k=k e O:=w8
theorem aiF(d:T)(e:As)(f:FuncId)(args:LA)(O:St)(k):out call (J d) e (J (.fI f args O)) k=match call f args O with|J (v,a)=>k ((d,v)::e) a|U=>U:=w8
theorem aeT(e:As)(f:FuncId)(args:LA)(O:St)(k):out call U e (J (.fI f args O)) k=match call f args O with|J (_,a)=>k e a|U=>U:=w8
theorem Xy(d:P T)(e:As)(k):out call d e U k=U:=w8
theorem RJ(e:As)(O:St):fK C call n [] e O=J (e,O):=w8
theorem aaq(d:T)(i:XI)(l:W X)(e:As)(O:St):fK C call n (o d i::l) e O=out call (J d) e (aF C (avA C e) n O i) (fK C call n l):=by grind [wZ,o,fK,lK,out]
theorem aar(i:XI)(l:W X)(e:As)(O:St):fK C call n (u i::l) e O=out call U e (aF C (avA C e) n O i) (fK C call n l):=by grind [wZ,u,fK,lK,out]
theorem aap(d s:T)(l:W X)(e:As)(O:St):fK C call n (m d s::l) e O=fK C call n l ((d,look e s)::e) O:=w8
theorem Kr(c:F):yw eT (.cW c)=c:=by cases c<;>rfl
theorem H8(c:F):yw eF (.cW c)= !c:=by cases c<;>rfl
theorem abr(d t:T)(b:F)(i:XI)(l:W X)(e:As)(O:St):fK C call n (og d t b i::l) e O=if yw b (look e t)then out call (J d) e (aF C (avA C e) n O i) (fK C call n l)else fK C call n l ((d,.dT)::e) O:=by
 show(match wZ C call n (og d t b i) e O with|J (v,a)=>fK C call n l (Dx e (J d) v) a|U=>U)=_;unfold wZ lK out og;dsimp only;by_cases hb:yw b (look e t)=eT;·grind
 ·rw[w9 hb,w9 hb];rfl
theorem abt(t:T)(b:F)(i:XI)(l:W X)(e:As)(O:St):fK C call n (ug t b i::l) e O=if yw b (look e t)then out call U e (aF C (avA C e) n O i) (fK C call n l)else fK C call n l e O:=by
 show(match wZ C call n (ug t b i) e O with|J (v,a)=>fK C call n l (Dx e U v) a|U=>U)=_;unfold wZ lK out ug;dsimp only;by_cases hb:yw b (look e t)=eT;·grind
 ·rw[w9 hb,w9 hb];rfl
theorem XL(e:As)(O:St)(t:T)(l:W XR):aZ e O (.fT t::l)=match aZ e O l with|J vs=>J (look e t::vs)|U=>U:=w8
theorem XK(e:As)(O:St):aZ e O []=J []:=w8
theorem ao7(k:W T)(e:As):keepA k (keepA k e)=keepA k e:=by unfold keepA;apply List.map_congr_left;intro t a;exact congrArg (Prod.mk t) (Sv k e t a)
noncomputable def aG(k:W T)(b:KC)(e:As)(O:St):P (XE×As×St):=Ey (λe O=>gu C call n b (keepA k e) O) e O
theorem aca(k:W T)(b:KC)(e:As)(O:St):aG C call n k b (keepA k e) O=aG C call n k b e O:=by unfold aG;rw[GM,GM _ e,ao7]
theorem SQ(k:W T)(b:KC)(e:As)(O:St):gu C call n (.fL k b) e O=aG C call n k b (keepA k e) O:=(aca C call n k b e O).symm
theorem mX {k:W T} {b:KC} {e:As} (he:keepA k e=e) (O:St):aG C call n k b e O=match gu C call n b e O with|J (.du,c,a)=>aG C call n k b (keepA k c) a|d=>d:=by grind [aG,GM,aca]
theorem SS(e:As)(O:St):gu C call n .eI e O=J (.du,e,O):=w8
theorem ajb(l:W X)(e:As)(O:St):gu C call n (.fu l) e O=match fK C call n l e O with|J (b,a)=>J (.du,b,a)|U=>U:=w8
theorem acP(l:W X)(e:As)(O:St):gu C call n (.eZ l) e O=match fK C call n l e O with|J (b,a)=>J (.du,b,a)|U=>U:=w8
theorem ajc(a b:KC)(e:As)(O:St):gu C call n (.eA a b) e O=match gu C call n a e O with|J (.du,d,c)=>gu C call n b d c|f=>f:=w8
theorem af7(c:XA)(a b:KC)(e:As)(O:St):gu C call n (.eJ c a b) e O=match avA C e c with|.cW eT=>gu C call n a e O|.cW eF=>gu C call n b e O|_=>U:=w8
theorem acO(id:T)(b:KC)(e:As)(O:St):gu C call n (.eG id b) e O=match gu C call n b e O with|J (.dq i,c,a)=>J (if i=id then .du else .dq i,c,a)|d=>d:=w8
theorem SN(k:W T)(id:T)(e:As)(O:St):gu C call n (.dq k id) e O=J (.dq id,keepA k e,O):=w8
theorem XP(k:W T)(e:As)(O:St):gu C call n (.ea k) e O=J (.ea,keepA k e,O):=w8
theorem Ox(b:KC)(e:As)(O:St):gu C call n (.fg b) e O=gu C call n b e O:=w8
theorem w64{n:J1}(h: -9223372036854775808<=n)(a:n<=9223372036854775807):IntKind.i64.wrap n=n:=by rw[IntKind.wrap_i64];omega
theorem wrE{a b:J1}(h:a=b/\ -9223372036854775808<=a/\a<=9223372036854775807):IntKind.i64.wrap a=b:=by rw[w64 h.2.1 h.2.2,h.1]
theorem wrS(n:T)(h:n<9223372036854775807):IntKind.i64.wrap ((n:J1)+1)=((n+1:T):J1):=wrE (by omega)
theorem wu8{n:J1}(h:0<=n)(a:n<=255):IntKind.u8.wrap n=n:=by rw[IntKind.wrap_u8];omega
theorem aAq{n:J1}(h:0<=n)(a:n<=4294967295):IntKind.u32.wrap n=n:=by rw[IntKind.wrap_u32];omega
theorem wu64{n:J1}(h:0<=n)(a:n<=18446744073709551615):IntKind.u64.wrap n=n:=by unfold IntKind.wrap;simp[IntKind.bits,IntKind.signed];omega
theorem FI(O:St)(vs:LA):tidy (z O) vs O=O:=by simp[tidy]
end Go.Ev
namespace Go.Ev
open Bool renaming true→eT, false→eF
open Option renaming some→J, none→U
open List renaming length→z
open Go.IntKind renaming i64→r
section
variable(ek:Nat)(c:Bool)(k k':IntKind)(a b:Int)
theorem VO:h .add ek c (.cQ k a) (.cQ k b)=J (.cQ k (k.wrap (a+b))):=by simp[h,vW]
theorem Rn:h .sub ek c (.cQ k a) (.cQ k b)=J (.cQ k (k.wrap (a-b))):=by simp[h,vW]
theorem VW:h .mul ek c (.cQ k a) (.cQ k b)=J (.cQ k (k.wrap (a*b))):=by simp[h,vW]
theorem VP:h .and ek c (.cQ k a) (.cQ k b)=J (.cQ k (k.wrap (d k.bits a&&&d k.bits b).toNat)):=by simp[h,vW]
theorem aba:h .or ek c (.cQ k a) (.cQ k b)=J (.cQ k (k.wrap (d k.bits a|||d k.bits b).toNat)):=by simp[h,vW]
theorem V7:h .xor ek c (.cQ k a) (.cQ k b)=J (.cQ k (k.wrap (d k.bits a^^^d k.bits b).toNat)):=by simp[h,vW]
theorem IY:h .andNot ek c (.cQ k a) (.cQ k b)=J (.cQ k (k.wrap (d k.bits a&&& ~~~(d k.bits b)).toNat)):=by simp[h,vW]
theorem VQ:h .eql ek c (.cQ k a) (.cQ k b)=J (.cW (a==b)):=by simp[h,vW]
theorem VX:h .neq ek c (.cQ k a) (.cQ k b)=J (.cW (a !=b)):=by simp[h,vW]
theorem VV:h .lss ek c (.cQ k a) (.cQ k b)=J (.cW (a<b)):=by simp[h,vW]
theorem VU:h .leq ek c (.cQ k a) (.cQ k b)=J (.cW (a<=b)):=by simp[h,vW]
theorem VT:h .gtr ek c (.cQ k a) (.cQ k b)=J (.cW (a>b)):=by simp[h,vW]
theorem VS:h .geq ek c (.cQ k a) (.cQ k b)=J (.cW (a>=b)):=by simp[h,vW]
theorem VY:h .quo ek c (.cQ k a) (.cQ k b)=if b=0 then U else J (.cQ k (k.wrap (a.tdiv b))):=by simp[h,vW]
theorem VZ:h .rem ek c (.cQ k a) (.cQ k b)=if b=0 then U else J (.cQ k (a.tmod b)):=by simp[h,vW]
theorem V4:h .shl ek c (.cQ k a) (.cQ k' b)=if b<0 then U else J (.cQ k (k.wrap (a*2^min b.toNat k.bits))):=by simp[h,Ez]
theorem V5:h .shr ek c (.cQ k a) (.cQ k' b)=if b<0 then U else J (.cQ k (a.fdiv (2^min b.toNat k.bits))):=by simp[h,Ez]
theorem V6(op:D)(x y:LU):h op ek c (.cU x) (.cU y)=uJ op x y:=w8
theorem Ko(op:D)(q:F)(y:AV):h op ek c (.cW q) y=zQ op (eqA ek c (.cW q) y):=w8
theorem Gm(op:D)(y:AV):h op ek c .ep y=zQ op (eqA ek c .ep y):=w8
theorem E5(op:D)(i j:T)(y:AV):h op ek c (.da i j) y=zQ op (eqA ek c (.da i j) y):=w8
theorem Gl(op:D)(l:LA)(y:AV):h op ek c (.ec l) y=zQ op (eqA ek c (.ec l) y):=w8
theorem Gn(op:D)(y:AV):h op ek c .cY y=zQ op (eqA ek c .cY y):=w8
theorem Nz(op:D)(y:AV):h op ek c .fS y=zQ op (eqA ek c .fS y):=w8
theorem Rl(op:D)(i:T)(l:LA)(y:AV):h op ek c (.sl i l) y=zQ op (eqA ek c (.sl i l) y):=w8
theorem NE(op:D)(i:T)(l:LA)(y:AV):h op ek c (.eB i l) y=zQ op (eqA ek c (.eB i l) y):=w8
theorem ND(op:D)(i j p q:T)(y:AV):h op ek c (.dj i j p q) y=zQ op (eqA ek c (.dj i j p q) y):=w8
theorem NC(op:D)(i:T)(y:AV):h op ek c (.dz i) y=zQ op (eqA ek c (.dz i) y):=w8
theorem FT(op:D)(y:AV):h op ek c .eE y=zQ op (eqA ek c .eE y):=w8
theorem Kq(op:D)(f:Fn)(l d:LA)(y:AV):h op ek c (.dv f l d) y=zQ op (eqA ek c (.dv f l d) y):=w8
theorem DW(op:D)(y:AV):h op ek c .eo y=zQ op (eqA ek c .eo y):=w8
theorem DV(op:D)(t:K6)(v:AV)(y:AV):h op ek c (.dx t v) y=zQ op (eqA ek c (.dx t v) y):=w8
theorem yL(op:D)(y:AV):h op ek c .eb y=zQ op (eqA ek c .eb y):=w8
theorem IZ(op:D)(l:LA)(y:AV):h op ek c (.cX l) y=zQ op (eqA ek c (.cX l) y):=w8
end
def ahd(q:F):unOp .not (.cW q)=J (.cW !q):=w8
def ahc(k:p)(n:J1):unOp .neg (.cQ k n)=J (.cQ k (k.wrap (0-n))):=w8
def NG(q:F):(AV.cW q).cP=[(AV.cW q)]:=w8
def RQ(q:F):(AV.cW q).Q=eT:=w8
def Ru(k:p)(n:J1):(AV.cQ k n).cP=[(AV.cQ k n)]:=w8
def WU(k:p)(n:J1):(AV.cQ k n).Q=eT:=w8
def RF(s:LU):(AV.cU s).cP=[(AV.cU s)]:=w8
def WY(s:LU):(AV.cU s).Q=eT:=w8
def NI:AV.ep.cP=[AV.ep]:=w8
def RY:AV.ep.Q=eT:=w8
def Rz(i j:T):(AV.da i j).cP=[(AV.da i j)]:=w8
def WX(i j:T):(AV.da i j).Q=eT:=w8
def NH(l:LA):(AV.ec l).cP=[(AV.ec l)]:=w8
def RS(l:LA):(AV.ec l).Q=eT:=w8
def NJ:AV.cY.cP=[AV.cY]:=w8
def RZ:AV.cY.Q=eT:=w8
def Rt:AV.fS.cP=[AV.fS]:=w8
def WT:AV.fS.Q=eT:=w8
def Wh(i:T)(l:LA):(AV.sl i l).cP=[(AV.sl i l)]:=w8
def KL(i:T)(l:LA):(AV.sl i l).Q=eT:=w8
def RG(i:T)(l:LA):(AV.eB i l).cP=[(AV.eB i l)]:=w8
def WZ(i:T)(l:LA):(AV.eB i l).Q=eT:=w8
def Ry(i j p q:T):(AV.dj i j p q).cP=[(AV.dj i j p q)]:=w8
def WW(i j p q:T):(AV.dj i j p q).Q=eT:=w8
def Rw(i:T):(AV.dz i).cP=[(AV.dz i)]:=w8
def WV(i:T):(AV.dz i).Q=eT:=w8
def H9:AV.eE.cP=[AV.eE]:=w8
def KJ:AV.eE.Q=eT:=w8
def cells_func(f:Fn)(l d:LA):(AV.dv f l d).cP=[(AV.dv f l d)]:=w8
def RU(f:Fn)(l d:LA):(AV.dv f l d).Q=eT:=w8
def FU:AV.eo.cP=[AV.eo]:=w8
def Ic:AV.eo.Q=eT:=w8
def Kv(t:K6)(v:AV):(AV.dx t v).cP=[(AV.dx t v)]:=w8
def N9(t:K6)(v:AV):(AV.dx t v).Q=eT:=w8
def DZ:AV.eb.cP=[AV.eb]:=w8
def FY:AV.eb.Q=eT:=w8
def Rq(l:LA):(AV.cX l).cP=l:=w8
def Lh(a x:AV)(l:LA):splice (a::l) 0 [x]=x::l:=w8
def Ld(a:AV)(l v:LA)(n:T):splice (a::l) (n+1) v=a::splice l n v:=by unfold splice;grind
def Ok(O:St):Prop:=O.all (AO.below (z O))=eT
def ED{O:St}(a:Ok O){vs:LA}(hv:ae (z O) vs=eT)(l:St):tidy (z O) vs (O++l)=O:=by
 unfold tidy;split;·simp_all
 ·have b:(O++l).take (z O)=O:=(by simp);rw[b,hv,a];rfl
def qY{n:T}{vs:LA}(hv:ae n vs=eF)(O:St):tidy n vs O=O:=by unfold tidy;rw[hv];split<;>rfl
mutual
theorem below_mono{n k:T}(h:n<=k):∀v:AV,K8 n v=eT->K8 k v=eT
 |.da o _,hv=>by simp[K8]at hv⊢;omega
 |.dj o _ _ _,hv=>by simp[K8]at hv⊢;omega
 |.dz o,hv=>by simp[K8]at hv⊢;omega
 |.dv _ x y,hv=>by simp only[K8,a02]at hv⊢;exact⟨aP h x hv.1,aP h y hv.2⟩
 |.dx _ v,hv=>by simp only[K8]at hv⊢;exact below_mono h v hv
 |.cX l,hv=>by simp only[K8]at hv⊢;exact aP h l hv
 |.de l,hv=>by simp only[K8]at hv⊢;exact aP h l hv
 |.ec l,hv=>by simp only[K8]at hv⊢;exact aP h l hv
 |.sl _ l,hv=>by simp only[K8]at hv⊢;exact aP h l hv
 |.eB _ l,hv=>by simp only[K8]at hv⊢;exact aP h l hv
 |.cW _,_|.cQ _ _,_|.cU _,_|.ep,_|.cY,_|.fS,_|.eE,_|.eo,_|.eb,_=>by simp[K8]
theorem aP{n k:T}(h:n<=k):∀l:LA,ae n l=eT->ae k l=eT
 |[],_=>by simp[ae]
 |v::l,hv=>by simp only[ae,a02]at hv⊢;exact⟨below_mono h v hv.1,aP h l hv.2⟩
end
def AO.Y{n k:T}(h:n<=k):∀x:AO,AO.below n x=eT->AO.below k x=eT
 |.cP l _,a=>aP h l a|.dz b,a=>by simp only[AO.below,a02]at a⊢;grind [aP]
 |.em,_=>w8
def Ok.eD{O:St}(h:Ok O){l:St}(a:l.all (AO.below (z O+z l))=eT):Ok (O++l):=by unfold Ok;rw[aK2,a03,a02];refine⟨?_,a⟩;rw[aB0];intro x b;exact AO.Y (by omega) x (aB0.mp h x b)
def Ok.db:Ok []:=w8
def pile(O:St)(k:T)(x:AO):St:=O++(j0 k .em++[x])
def ZN(O:St)(k:T)(x:AO):z (pile O k x)=z O+(k+1):=by simp[pile]
def Qs(O:St)(k:T)(x:AO):(pile O k x)[z O+k]?=J x:=by grind [pile]
def aiJ(O:St)(k:T)(x y:AO):(pile O k x).set (z O+k) .em++[y]=pile O (k+1) y:=by unfold pile;rw[List.set_append_right _ _ (by omega),List.set_append_right _ _ (by simp)];simp[List.replicate_succ',aB2]
def aff{O:St}(a:Ok O){vs:LA}(hv:ae (z O) vs=eT)(k:T)(x:AO):tidy (z O) vs (pile O k x)=O:=ED a hv _
def aJ(l:LU):z (f l)=z l:=by simp[f]
def Qn(l d:LU):f l++f d=f (l++d):=by simp[f]
def yx:∀l:LU,bytesOf (f l)=J l|[]=>w8|b::l=>by have:=yx l;unfold f at this⊢;rw[aC9];unfold bytesOf afQ;rw[this];simp
def AQ(l:LU):(f l).all AV.Q=eT:=by rw[aB0];intro v hv;unfold f at hv;obtain⟨b,_,rfl⟩:=aE8.mp hv;rfl
def nT(n:T):∀l:LU,ae n (f l)=eT|[]=>w8|b::l=>by have:=nT n l;unfold f at this⊢;simp[ae,K8,this]
def atx(k:p)(b:k.signed=eF)(a:T)(ha:a<2^k.bits):k.wrap (a:J1)=(a:J1):=by unfold IntKind.wrap;rw[b];have:((a:J1)%(2^k.bits:J1))=(a:J1):=Int.emod_eq_of_lt (by omega) (by exact_mod_cast ha);simp[this]
def apN(w a:T)(ha:a<2^w):(d w (a:J1)).toNat=a:=by grind
def apv (k:p) (c:k.signed=eF) (a b:T) (ha:a<2^k.bits) (hb:b<2^k.bits):
  k.wrap ((d k.bits (a:J1)&&&d k.bits (b:J1)).toNat:J1)=((a&&&b:T):J1):=by
 rw[BitVec.toNat_and,apN _ _ ha,apN _ _ hb];exact atx k c _ (Nat.and_lt_two_pow a hb)
def ayB (k:p) (c:k.signed=eF) (a b:T) (ha:a<2^k.bits) (hb:b<2^k.bits):
  k.wrap ((d k.bits (a:J1)^^^d k.bits (b:J1)).toNat:J1)=((a^^^b:T):J1):=by
 rw[BitVec.toNat_xor,apN _ _ ha,apN _ _ hb];exact atx k c _ (Nat.xor_lt_two_pow ha hb)
def YM:AV->F|.cW _|.cQ _ _|.cU _=>eT|_=>eF
def kK(o:T)(O:St):hand eF [.da o 0] O=J ([.da o 0],O):=w8
def ML(o p:T)(O:St):hand eF [.da o 0,.da p 0] O=J ([.da o 0,.da p 0],O):=w8
noncomputable section
def aat{ρ:Type}(v:AV):(AV->ρ)->ρ:=
 AV.rec (motive_1:=λ_=>(AV->ρ)->ρ) (motive_2:=λ_=>Unit)
  (λb k=>k (.cW b)) (λa b k=>k (.cQ a b)) (λs k=>k (.cU s)) (λk=>k .ep) (λa b k=>k (.da a b)) (λa _ k=>k (.ec a)) (λk=>k .cY) (λk=>k .fS) (λa b _ k=>k (.sl a b)) (λa b _ k=>k (.eB a b))
  (λa b c d k=>k (.dj a b c d)) (λa k=>k (.dz a)) (λk=>k .eE) (λa b c _ _ k=>k (.dv a b c)) (λk=>k .eo) (λa b _ k=>k (.dx a b)) (λk=>k .eb) (λa _ k=>k (.cX a)) (λa _ k=>k (.de a)) () (λ_ _ _ _=>()) v
def abQ{ρ:Type}(v:AV)(k:AV->ρ):aat v k=k v:=by cases v<;>rfl
def lkR(A:As)(t:T):AV:=List.rec (motive:=λ_=>AV) .dT (λp _ a=>Prod.rec (λk v=>Bool.rec a v (Nat.beq k t)) p) A
def agq:∀(A:As) (t:T),lkR A t=look A t
 |[],_=>w8
 |(k,v)::d,t=>by
  show(Bool.rec (lkR d t) v (Nat.beq k t):AV)=if k=t then v else look d t;rw[agq d t];by_cases h:k=t
  ·subst h;simp
  ·cases hb:Nat.beq k t;·rw[w9 h]
   simp_all
def avR(C:H)(A:As)(x:XA):AV:=XA.rec (λn=>lkR A n) (λv=>v) (λn=>.ec ((C.gl n).getD [])) x
def apy(C:H)(A:As):avR C A=avA C A:=funext λx=>by
 cases x
 case t n=>exact agq A n
 all_goals rfl
def axV{ρ:Type}(d:P T)(A:As)(k:As->ρ)(v:AV):ρ:=K2 (motive:=λ_=>ρ) (k A) (λd=>aat v λv=>k ((d,v)::A)) d
def av1{ρ:Type}(d:P T)(A:As)(k:As->ρ)(v:AV):axV d A k v=k (Dx A d v):=by
 cases d;·rfl
 ·exact abQ v _
abbrev PH:=H->(XA->AV)->T->St->P Out
def sG(i:XI):PH:=λC a n O=>aF C a n O i
def qMv(x:XA):PH:=λC a n O=>J (.ev (a x) O)
def azB(ag:F)(sz:T)(x:XA):PH:=λC a n O=>match a x with
 |.ec l=>(pt ag sz l).map (.ev · O)|.da o off=>match O[o]? with|J (.cP l _)=>(pt ag sz (l.drop off)).map (.ev · O)|_=>U
 |_=>U
def aAj(op:D)(ek:T)(b:F)(x y:XA):PH:=λC a n O=>(CG C.np op ek b (a x) (a y)).map (.ev · O)
def aAk(k:p)(x:XA):PH:=λC a n O=>match a x with|.cQ _ n=>J (.ev (.cQ k (k.wrap n)) O)|_=>U
def av2(x i:XA):PH:=λC a n O=>match uq (a i),a x with
 |J i,.cU s=>match s[i]? with|J b=>J (.ev (.cQ .u8 b.toNat) O)|U=>U
 |_,_=>U
def as4(x:XA)(i:T):PH:=λC a n O=>match a x with
 |.de l=>match l[i]? with|J v=>J (.ev v O)|U=>U
 |_=>U
def aAl(k:T)(x:XA):PH:=λC a n O=>(bC O k (a x)).map λn=>.ev (.cQ r n) O
def axW(f:FuncId)(l:W XA):PH:=λC a n O=>J (.fI f (l.map a) O)
def evQ(i:XI):PH:=XI.rec (motive:=λ_=>PH) qMv (λa b c=>sG (.fe a b c)) (λa b=>sG (.eM a b)) (λa=>sG (.jp a)) (λa b=>sG (.hZ a b)) (λa b c d=>sG (.gL a b c d)) azB (λa b c=>sG (.fR a b c)) (λa=>sG (.iP a)) aAj (λa b=>sG (.un a b)) aAk (λa=>sG (.ma a)) (λa=>sG (.mz a)) (λa=>sG (.k9 a)) (λa=>sG (.mL a)) (λa=>sG (.mN a)) (λa b=>sG (.gT a b)) (λa b c=>sG (.it a b c)) (sG .iA) (λa b c d e=>sG (.gj a b c d e)) (λa b c=>sG (.gH a b c)) (λa b c d e=>sG (.ii a b c d e)) (λa b c d e f=>sG (.gF a b c d e f)) (λa b=>sG (.ga a b)) (λa b c d=>sG (.iX a b c d)) (λa b c d=>sG (.gb a b c d)) (λa b c=>sG (.ey a b c)) (λa b c d e=>sG (.io a b c d e)) av2 (λa b c d=>sG (.hG a b c d)) (λa b c=>sG (.hQ a b c)) (λa b c=>sG (.ip a b c)) (λa b c=>sG (.g9 a b c)) as4 (λa b c d e f=>sG (.eD a b c d e f)) aAl (λa=>sG (.jd a)) (λa b c=>sG (.ld a b c)) (λa b c=>sG (.ir a b c)) axW (λa b=>sG (.iz a b)) (λa b c=>sG (.hD a b c)) (sG .gP) (λa b c d=>sG (.gD a b c d)) (sG .eC) i
def axe(i:XI)(C:H)(a:XA->AV)(n:T)(O:St):evQ i C a n O=aF C a n O i:=by cases i<;>rfl
def azw(call:bY)(d:P Out):P (AV×St):=K2 (motive:=λ_=>P (AV×St)) U (λo=>Out.rec (motive:=λ_=>P (AV×St)) (λv O=>J (v,O)) (λf a O=>call f a O) o) d
def atH(g:P (T×F))(A:As):F:=K2 (motive:=λ_=>F) eT (λp=>Prod.rec (motive:=λ_=>F) (λt b=>yw b (lkR A t)) p) g
def atI(o:X)(A:As):atH o.bm A=lK o A:=by
 unfold atH lK;cases o.bm with
 |none=>rfl|some p=>exact congrArg (yw p.2) (agq A p.1)
def auP(C:H)(call:bY)(n:T)(o:X)(A:As)(O:St):P (AV×St):=Bool.rec (motive:=λ_=>P (AV×St)) (J (.dT,O)) (azw call (evQ o.i C (avR C A) n O)) (atH o.bm A)
def auQ(C:H)(call:bY)(n:T)(o:X)(A:As)(O:St):auP C call n o A O=wZ C call n o A O:=by
 unfold auP wZ azw;rw[axe,atI,apy];cases lK o A;·rfl
 ·simp only[Z0];cases aF C (avA C A) n O o.i with|none=>rfl|some x=>cases x<;>rfl
abbrev RO:=P (As×St)
def awj(d:P T)(A:As)(a:As->St->RO)(f:P (AV×St)):RO:=K2 (motive:=λ_=>RO) U (λp=>Prod.rec (motive:=λ_=>RO) (λv O=>axV d A (λA=>a A O) v) p) f
def aop(C:H)(call:bY)(n:T)(l:W X):As->St->RO:=
 List.rec (motive:=λ_=>As->St->RO) (λA O=>J (A,O)) (λo _ a A O=>awj o.ba A a (auP C call n o A O)) l
def amT(C:H)(call:bY)(n:T):∀(l:W X) (A:As) (O:St),aop C call n l A O=fK C call n l A O
 |[],_,_=>w8
 |o::l,A,O=>by
  show awj o.ba A (aop C call n l) (auP C call n o A O)=(match wZ C call n o A O with|J (v,a)=>fK C call n l (Dx A o.ba v) a|U=>U);rw[auQ];cases wZ C call n o A O with
  |none=>rfl|some p=>obtain⟨v,Y⟩:=p;show axV o.ba A (λA=>aop C call n l A Y) v=_;rw[av1,amT C call n l]
def keepR{ρ:Type}(k:W T)(A:As):(As->ρ)->ρ:=List.rec (motive:=λ_=>(As->ρ)->ρ) (λf=>f []) (λt _ a f=>aat (lkR A t) λv=>a λE=>f ((t,v)::E)) k
def Xm{ρ:Type}:∀(k:W T) (A:As) (f:As->ρ),keepR k A f=f (keepA k A)|[],_,_=>w8|t::k,A,f=>by show aat (lkR A t) (λv=>keepR k A λE=>f ((t,v)::E))=_;rw[abQ,Xm k A,agq];rfl
abbrev RR1:=P (XE×As×St)
def xeR(d:RO):RR1:=K2 (motive:=λ_=>RR1) U (λp=>Prod.rec (motive:=λ_=>RR1) (λA O=>J (.du,A,O)) p) d
def onR(d:RR1)(f:As->St->RR1)(g:T->As->St->RR1):RR1:=K2 (motive:=λ_=>RR1) U (λq=>Prod.rec (motive:=λ_=>RR1) (λx p=>Prod.rec (motive:=λ_=>RR1) (λA O=>XE.rec (motive:=λ_=>RR1) (f A O) (λi=>g i A O) (J (.ea,A,O)) x) p) q) d
def exR(i:T)(A:As)(O:St):RR1:=J (.dq i,A,O)
def noR(A:As)(O:St):RR1:=J (.du,A,O)
def apI(v:AV):P F:=match v with|.cW b=>J b|_=>U
def ifR(q:P F)(a b:RR1):RR1:=K2 (motive:=λ_=>RR1) U (λq=>Bool.rec (motive:=λ_=>RR1) b a q) q
def arf(b:IC)(k:W T)(m:T):IC:=Nat.rec (motive:=λ_=>IC) (λ_ _=>U) (λ_ a A O=>keepR k A λA=>onR (b A O) a exR) m
def kkR(C:H)(call:bY)(n m:T)(c:KC):IC:=KC.rec (motive:=λ_=>IC)
 noR (λl A O=>xeR (aop C call n l A O)) (λl A O=>xeR (aop C call n l A O)) (λl A O=>xeR (zU C call n l A O))
 (λ_ _ a b A O=>onR (a A O) b exR)
 (λc _ _ a b A O=>ifR (apI (avR C A c)) (a A O) (b A O))
 (λid _ b A O=>onR (b A O) noR λi A O=>Bool.rec (motive:=λ_=>RR1) (exR i A O) (noR A O) (Nat.beq i id))
 (λk _ b=>arf b k m) (λk id A O=>keepR k A λA=>exR id A O) (λk A O=>keepR k A λA=>J (.ea,A,O)) (λ_ b=>b) (λ_ _=>U) c
def aip(k:W T)(b a:IC)(h:∀A O,Le (b A O) (a A O)):∀(m:T) (A:As) (O:St),Le (arf b k m A O) (loopA (λe O=>a (keepA k e) O) m A O)
 |0,_,_=>Le.gw
 |m+1,A,O=>by
  intro f hr;change keepR k A (λA=>onR (b A O) (arf b k m) exR)=J f at hr;rw[Xm]at hr;unfold loopA;cases hb:b (keepA k A) O with
  |none=>rw[hb]at hr;cases hr
  |some q=>
   obtain⟨x,c,d⟩:=q;rw[h _ _ _ hb];rw[hb]at hr;cases x with
   |du=>exact aip k b a h m c d f hr|dq i=>exact hr|ea=>exact hr
def Qh(C:H)(call:bY)(n m:T):∀(c:KC) (A:As) (O:St),Le (kkR C call n m c A O) (gu C call n c A O)
 |.eI,_,_=>Le.cx|.fu l,A,O|.eZ l,A,O=>by intro h hr;change xeR (aop C call n l A O)=J h at hr;rw[amT]at hr;unfold gu;cases f:fK C call n l A O<;>rw[f]at hr<;>exact hr
 |.eO l,A,O=>by intro h hr;change xeR (zU C call n l A O)=J h at hr;unfold gu;cases f:zU C call n l A O<;>rw[f]at hr<;>exact hr
 |.eA a b,A,O=>by
  intro h hr;change onR (kkR C call n m a A O) (kkR C call n m b) exR=J h at hr;unfold gu;cases ha:kkR C call n m a A O with
  |none=>rw[ha]at hr;cases hr
  |some q=>
   obtain⟨x,d,e⟩:=q;rw[Qh C call n m a A O _ ha];rw[ha]at hr;cases x with
   |du=>exact Qh C call n m b d e h hr|dq i=>exact hr|ea=>exact hr
 |.eJ c a b,A,O=>by
  intro h hr;change ifR (apI (avR C A c)) (kkR C call n m a A O) (kkR C call n m b A O)=J h at hr;rw[apy]at hr;unfold gu;cases g:avA C A c<;>rw[g]at hr
  case cW q=>
   cases q;·exact Qh C call n m b A O h hr
   ·exact Qh C call n m a A O h hr
  all_goals cases hr
 |.eG id b,A,O=>by
  intro h hr;change onR (kkR C call n m b A O) noR (λi A O=>Bool.rec (motive:=λ_=>RR1) (exR i A O) (noR A O) (Nat.beq i id))=J h at hr;unfold gu;cases ha:kkR C call n m b A O with
  |none=>rw[ha]at hr;cases hr
  |some q=>
   obtain⟨x,d,e⟩:=q;rw[Qh C call n m b A O _ ha];rw[ha]at hr;cases x with
   |du=>exact hr
   |dq i=>
    change(Bool.rec (motive:=λ_=>RR1) (exR i d e) (noR d e) (Nat.beq i id))=J h at hr;cases hb:Nat.beq i id<;>rw[hb]at hr;·grind [aL6,exR]
    ·rw[<-hr,a95 hb];simp[noR]
   |ea=>exact hr
 |.fL k b,A,O=>λh hr=>wC.mpr ⟨m,aip k _ _ (Qh C call n m b) m A O h hr⟩|.dq k id,A,O=>by intro h hr;change keepR k A (λA=>exR id A O)=J h at hr;rw[Xm]at hr;exact hr
 |.ea k,A,O=>by intro h hr;change keepR k A (λA=>J (.ea,A,O))=J h at hr;rw[Xm]at hr;exact hr
 |.fg b,A,O=>Qh C call n m b A O|.eC,_,_=>Le.gw
end
end Go.Ev
