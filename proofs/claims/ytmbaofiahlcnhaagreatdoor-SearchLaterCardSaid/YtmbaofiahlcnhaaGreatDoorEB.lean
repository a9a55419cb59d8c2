/- An evaluator. No conditions. -/
import Derived.Test.YtmbaofiahlcnhaaGreatDoorEA
import Derived.Orders
import Derived.LoopN
import Derived.Scope
import Derived.ScopeJumps
set_option linter.unusedVariables false
set_option linter.unusedSimpArgs false
set_option linter.defProp false
namespace Go.Ev
open Bool renaming true→eT, false→eF
open Option renaming some→J, none→U
open List renaming length→z
open Go.IntKind renaming i64→r
open Go.RowKit
section
variable{C:Ctx}{g:Gh}{w:World}{O:St}{e:Env}{ρ:Operand->Value}
def ac3(p:WR g w O)(S:C.np=eT\/∀b,g.pl b=eT)(k:∀x a,cA x=J a->VR g (av C e a) (ρ x))(o:Oper){xi:XI}(h:cI C.P o=J xi){out:Out}(d:evI C e O xi=J out):Gg C.P o ρ g O w out:=by
 obtain⟨dst,op,type,pos,after,guard⟩:=o;cases op
 case convert=>exact akZ p k h d
 case makeSlice=>exact afg p k h d
 case indexAddr=>exact aff p k h d
 case index=>exact aqM p k h d
 case lookup=>exact an2 p k h d
 case mapUpdate=>exact afh p k h d
 case insert=>exact an1 p k h d
 case call=>exact c_call p k h d
 case slice=>exact aqN p k h d
 case buildSlice=>exact adI p k h d
 all_goals (simp only[cI]at h;try (cases h;done))
 case move x=>simp only[ay3,a03,ay7,a05]at h;obtain⟨a,ha,rfl⟩:=h;simp[evI,aB]at d;subst d;exact bQ p rfl (k x a ha)
 case assign x=>simp only[ay3,a03,ay7,a05]at h;obtain⟨a,ha,rfl⟩:=h;simp[evI,aB]at d;subst d;exact bQ p rfl (k x a ha)
 case pick c x y=>
  simp only[ay3,a03,ay7,a05]at h;obtain⟨ac,W,ax,aw,ay,az,rfl⟩:=h;simp only[evI,aB]at d;have B:=k c ac W;split at d;·rename_i b hb;rw[hb]at B;simp at d;subst d;refine bQ p (v':=if b then ρ x else ρ y) ?_ (by grind);generalize Z:ρ c=cv at B;cases B;simp[execOp,Z,asBool]
  ·cases d
 case alloc t=>simp only[ay3,a03,ay7,a05]at h;obtain⟨dv,M,rfl⟩:=h;obtain⟨i,v,B,h2,h3⟩:=Hr M;simp only[evI,aB]at d;cases d;have hv:=sJ g v dv h3;refine⟨_,_,zy p t ⟨eF,aaV C.P t eT⟩ (λt' x' al=>⟨(aaW al).1,λ_=>hv.bA⟩) hv.cH.hn (by rw[hv.bA];exact a06 _),.inl ⟨_,?_,aoK p _⟩⟩;simp[execOp,Instr.alloc,Hf B h2,newVar,newRow];rfl
 case box t x=>simp only[ay3,a03,ay7,a05]at h;obtain⟨a,ha,rfl⟩:=h;simp only[evI,aB]at d;cases d;have hv:=k x a ha;refine⟨_,_,zy p t FZ (λ_ _ ht=>nomatch ht) hv.cH.hn (by rw[hv.bA];exact a06 _),.inl ⟨_,?_,aoK p _⟩⟩;simp[execOp,Instr.box,newVar,newRow];rfl
 case build t V=>
  simp only[ay3,a03,ay7]at h;obtain⟨dv,M,u,H,h⟩:=h;obtain⟨i,v,B,h2,h3⟩:=Hr M;have hv:=sJ g v dv h3;cases u<;>simp only at h<;>first|(cases h;done)|skip
  case array n el=>
   simp only[a03,a05]at h;obtain⟨ie,af,qs,L,rfl⟩:=h;simp only[evI,aB]at d;split at d;·rename_i l G;cases d;obtain⟨Q,hf,hr⟩:=KQ _ k V.toList qs L _ v.cells _ hv.cH G;refine bQ p (v':=.agg Q) ?_ (.da _ _ hr);have K:Instr.fill (λi=>J (i*ie.size,ie.size)) v.cells (Array.map (λx=>(x.fst,ρ x.snd)) V).toList=J Q:=(by simpa using hf);simp only[execOp,Instr.build,Sem.run_bind,Hf B h2,Result.andThen_ok,run_underlying H,run_sizeOf af,K,Sem.run_pure]
   ·cases d
  case struct fs=>
   split at h;·cases h
   ·rename_i E;simp only[Bool.not_eq_true,Bool.not_eq_false']at E;simp only[a03,a05]at h;obtain⟨qs,L,rfl⟩:=h;simp only[evI,aB]at d;split at d
    ·rename_i l G;cases d;obtain⟨Q,hf,hr⟩:=KQ _ k V.toList qs L _ v.cells _ hv.cH G;refine bQ p (v':=.agg Q) ?_ (.da _ _ hr);have S:(λx=>(Array.map (λf:Field=>(f.offset,((C.P.info? f.type).map (·.size)).getD 0)) fs)[x]?)=(λ(i:Nat)=>(fs[i]? :Option Field).bind λ(f:Field)=>(C.P.info? f.type).bind λa=>J (f.offset,a.size)):=by
      funext i;simp only[Array.getElem?_map];cases ab:fs[i]? with
      |none=>rfl|some f=>have hf:f∈fs:=Array.mem_of_getElem? ab;obtain⟨j,hj⟩:=aA7.1 (a97.1 E f (Array.mem_toList_iff.2 hf));simp[hj]
     have K:Instr.fill (λx=>(Array.map (λf:Field=>(f.offset,((C.P.info? f.type).map (·.size)).getD 0)) fs)[x]?) v.cells (Array.map (λx=>(x.fst,ρ x.snd)) V).toList=J Q:=by rw[S];simpa using hf
     simp only[execOp,Instr.build,Sem.run_bind,Hf B h2,Result.andThen_ok,run_underlying H,run_places fs E,K,Sem.run_pure]
    ·cases d
 case load t x=>
  simp only[ay3,a03,ay7,a05]at h;obtain⟨u,H,i,hi,a,ha,rfl⟩:=h;have A:=k x a ha;simp only[evI,aB]at d;have key:∀(b off:Nat) (l:LA) (v:AV),ρ x=.pointer (J ⟨b,off,U⟩)->Cells g w l b off->pt (Dv u) i.size l=J v->Gg C.P ⟨dst,.load t x,type,pos,after,guard⟩ ρ g O w (.ew v O):=λb off l v hp R I=>by obtain⟨D,B,h2⟩:=aa1 R H hi I;exact bQ p (by simp[execOp,Instr.loadAt,Instr.sureAddr,hp,B]) h2
  generalize F:av C e a=N at A d;generalize q:ρ x=T at A;cases A<;>simp only at d<;>first|(cases d;done)|skip
  ·rename_i o off ho;split at d;·rename_i l fz G;simp only[ay4]at d;obtain⟨v,I,rfl⟩:=d;have R:=(p.bx o _ G).cH.ci off;grind
   ·cases d
  ·rename_i l b off h;simp only[ay4]at d;obtain⟨v,I,rfl⟩:=d;exact key _ _ _ v q (h.cH p) I
 case store t x y=>
  simp only[ay3,a03,ay7,a05]at h;obtain⟨i,hi,a,ha,b,hb,rfl⟩:=h;have A:=k x a ha;have hy:=k y b hb;simp only[evI,aB]at d;generalize F:av C e a=N at A d;generalize q:ρ x=T at A;cases A<;>simp only at d<;>first|(cases d;done)|skip
  rename_i o' off ho;split at d
  ·rename_i l G;split at d
   ·rename_i hh;cases d;have Y:=hy.cH;obtain⟨w',B,h2⟩:=Ou (P:=C.P) (off:=off) p G Y (by omega) hh.2.2;refine⟨w',g,h2,.inr ⟨rfl,?_⟩⟩;have ak:(ρ y).cells.size=i.size:=by rw[hy.bA];exact hh.1
    simp[execOp,Instr.storeAt,Instr.sureAddr,q,storeVar,run_sizeOf hi,ak,B]
   ·cases d
  ·cases d
 case nilCheck x=>
  simp only[ay3,a03,ay7,a05]at h;obtain⟨a,ha,rfl⟩:=h;have A:=k x a ha;simp only[evI,aB]at d;have hx0:=A;generalize F:av C e a=N at A d hx0;generalize q:ρ x=T at A hx0;cases A<;>first|(cases d;done)|skip
  ·cases d;exact bQ p (by simp[execOp,q]) hx0
  ·cases d;exact bQ p (by simp[execOp,q]) hx0
  ·rename_i f x1 y1 x2 y2 hx1 aD;cases f<;>first|(cases d;done)|skip
   cases d;exact bQ p (by simp[execOp,q]) hx0
  ·cases d;exact bQ p (by simp[execOp,q]) hx0
 case binOp op t x y yt=>
  simp only[ay3,a03,ay7,a05]at h;obtain⟨a,ha,b,hb,rfl⟩:=h;simp only[evI,aB,ay4]at d;obtain⟨v,hv,rfl⟩:=d;have aq:binOp op (I9 C.P t) (isC x||isC y) (av C e a) (av C e b)=J v/\(C.np=eT->ait (av C e a) (av C e b)=eF):=by unfold Ac at hv;grind
  obtain⟨D,B,h2⟩:=akV (P:=C.P) (w:=w) op t x y _ _ aq.1 (k x a ha) (k y b hb) p.uf (λh2=>by
   grind)
  refine bQ p (v':=D) ?_ h2;simp only[execOp];have:(do let _<-eqGuard op t x y (ρ x) (ρ y);Go.binOp op t (ρ x) (ρ y):Sem Value).run C.P w=.ok D w:=B;rw[Sem.run_bind,this];rfl
 case unOp op t x=>simp only[ay3,a03,ay7,a05]at h;obtain⟨a,ha,rfl⟩:=h;simp only[evI,aB,ay4]at d;obtain⟨v,hv,rfl⟩:=d;obtain⟨D,B,h2⟩:=aqe (P:=C.P) (w:=w) op _ hv (k x a ha);exact bQ p (by simp[execOp,B]) h2
 case makeInterface t x=>
  simp only[ay3,a03,ay7]at h;obtain⟨u,H,h⟩:=h;have A:∃a,cA x=J a/\xi=.gN t a/\(∀m,u≠ .interface m):=by cases u<;>simp only[a03,a05]at h<;>first|(cases h;done)|(obtain⟨a,ha,rfl⟩:=h;exact⟨a,ha,rfl,by intro m;simp⟩)
  obtain⟨a,ha,rfl,ah⟩:=A;simp only[evI,aB]at d;cases d;refine bQ p (v':=.iface t (ρ x)) ?_ (.eb _ _ _ (k x a ha));cases u<;>first|(exact absurd rfl (ah _))|simp[execOp,Instr.makeInterface,run_underlying H]
 case makeFunc fn first s=>
  simp only[ay3,a03,ay7,a05]at h;obtain⟨a,ha,b,hb,rfl⟩:=h;simp only[evI,aB]at d;cases d;refine bQ p (v':=.func fn (first.map ρ) (s.map ρ)) (by simp[execOp,Instr.makeFunc]) ?_;have B:=TK k _ _ ha;have h2:=TK k _ _ hb;have e1:first.map ρ=⟨first.toList.map ρ⟩:=by apply aD6;simp
  have e2:s.map ρ=⟨s.toList.map ρ⟩:=by apply aD6;simp
  grind [VR]
 case makeMap t du=>
  cases du with
  |some du=>cases h
  |none=>
   cases h;simp only[evI,aB]at d;cases d;have ad:=afL p (.map #[] 0) (.ec []) 0 (by
    refine⟨#[],0,?_,rfl,rfl,by simp⟩;simp only[Gh.ab,if_true];exact G6 w _)
   refine⟨_,_,ad,.inl ⟨.map (J w.heap.size),?_,?_⟩⟩;·simp[execOp,Instr.makeMap];rfl
   ·have:=VR.ec (g:=g.ab w.heap.size 0) (z O) (by simp[Gh.ab,p.n]);simpa[Gh.ab,p.n]using this
 case fieldAddr t x fi=>
  simp only[ay3,a03,ay7]at h;obtain⟨u,H,h⟩:=h;cases u<;>simp only at h<;>first|(cases h;done)|skip
  rename_i fs;simp only[a03]at h;obtain⟨f,hf,i,hi,h⟩:=h;split at h;·cases h
  ·rename_i M;simp only[a03,a05]at h;obtain⟨a,ha,rfl⟩:=h;have A:=k x a ha;simp only[evI,aB]at d;generalize F:av C e a=N at A d;generalize q:ρ x=T at A;cases A<;>simp only at d<;>first|(cases d;done)|skip
   ·rename_i o' off ho;cases d;refine bQ p (v':=.pointer (J ⟨g.ob o',off+f.offset,U⟩)) ?_ (.c8 _ _ ho);simp[execOp,Instr.fieldAt,run_underlying H,hf,Instr.sureAddr,q,fieldPlace,run_sizeOf hi,M,addr_add]
   ·rename_i l b off X;split at d;·cases d;refine bQ p (v':=.pointer (J ⟨b,off+f.offset,U⟩)) ?_ (.em _ _ _ (X.ci _));simp[execOp,Instr.fieldAt,run_underlying H,hf,Instr.sureAddr,q,fieldPlace,run_sizeOf hi,M,addr_add]
    ·cases d
 case field t x fi=>
  simp only[ay3,a03,ay7]at h;obtain⟨u,H,h⟩:=h;cases u<;>simp only at h<;>first|(cases h;done)|skip
  rename_i fs;simp only[a03,a05]at h;obtain⟨f,hf,u',an,i,hi,a,ha,rfl⟩:=h;have A:=k x a ha;simp only[evI,aB]at d;generalize F:av C e a=N at A d;generalize q:ρ x=T at A;cases A<;>simp only at d<;>first|(cases d;done)|skip
  rename_i l l' G;simp only[ay4]at d;obtain⟨v,hv,rfl⟩:=d;obtain⟨D,B,h2⟩:=aak (P:=C.P) w G an hi f.offset hv;exact bQ p (by simp[execOp,Instr.field,run_underlying H,hf,q,asAgg,B]) h2
 case extract x ix=>
  simp only[ay3,a03,ay7,a05]at h;obtain⟨a,ha,rfl⟩:=h;have A:=k x a ha;simp only[evI,aB]at d;generalize F:av C e a=N at A d;generalize q:ρ x=T at A;cases A<;>simp only at d<;>first|(cases d;done)|skip
  rename_i l l' G;split at d;·rename_i v hv;cases d;obtain⟨D,B,h2⟩:=G.b2 hv;exact bQ p (by simp[execOp,Instr.extract,q,B]) h2
  ·cases d
end
def GL(C:Ctx)(g:Gh):Prop:=(∀n l,C.gl n=J l->CR g l n 0/\g.pl n=eT)/\(C.np=eT\/∀b,g.pl b=eT)
theorem GL.D{C:Ctx}{g g':Gh}(h:GL C g)(a:g.le g'):GL C g':=⟨λn l c=>⟨(h.1 n l c).1.D a,(congrFun a.pl n).trans (h.1 n l c).2⟩,h.2.imp id (λe b=>(congrFun a.pl b).trans (e b))⟩
def AR(g:Gh)(e:Env)(a:Act):Prop:=VRs g e a.tmps.toList
theorem AR.D{g g':Gh}{e:Env}{a:Act}(h:AR g e a)(b:g.le g'):AR g' e a:=VRs.D b h
def AR.b9{g:Gh}{e:Env}{a:Act}(h:AR g e a){v:AV}{v':Value}(hv:VR g v v')(d:Option Nat):AR g (Ev.put e d v) (a.put d v'):=by
 cases d with
 |none=>exact h|some d=>have:=VRs.co d h hv;simpa[AR,Act.put,Ev.put]using this
def yI(g:Gh):VR g .dT undef:=.df _ _ .de
def AR.dk{C:Ctx}{g:Gh}{e:Env}{a:Act}(h:AR g e a)(k:GL C g)(x:Operand)(b:XA)(hb:cA x=J b):VR g (av C e b) (a.eval x):=by
 cases x with
 |tmp t=>
  simp[cA]at hb;subst hb;simp only[av,Act.eval];have c:=h.I;simp only[aG7]at c;rcases aH3 t (z e) with d|d;·obtain⟨v,i,h2⟩:=VRs.b2 h (a02 d);simp_all
  ·rw[az8,aA1 d];have:a.tmps[t]?=U:=aH1 (by omega);simp[this];exact yI g
 |const v=>simp only[cA,ay4]at hb;obtain⟨j,i,rfl⟩:=hb;exact sJ g v j i
 |global n=>
  simp[cA]at hb;subst hb;simp only[av,Act.eval];cases c:C.gl n with
  |none=>exact .em _ _ _ (.de _ _)|some l=>exact .em _ _ _ (k.1 n l c).1
 |func f=>simp[cA]at hb;subst hb;exact .ea _ _ _ _ _ .de .de
def Does(P:Program)(f:FuncId)(args:List Value)(w:World)(R:Value->World->Prop):Prop:=
 match(callFunc f ⟨args⟩).run P w with
 |.ok (.enter d a) b=>Calls P d a b λe c=>∃v,e=.returned v/\R v c|.ok (.value v) b=>R v b|_=>False
def eY(C:Ctx)(call:bH):Prop:=
 ∀f args O v b,call f args O=J (v,b)->∀g w a,VRs g args a->WR g w O->GL C g->Does C.P f a w λd e=>∃c,Goes g O w c b e/\VR c v d
section
variable{C:Ctx}{call:bH}
def asV (i:eY C call) {o:Oper} {g:Gh} {e:Env} {O:St} {w:World} {a:Act} (A:WR g w O) {ρ:Operand->Value} (p:execOp a.eval o=execOp ρ o) (u:∀x b,cA x=J b->VR g (av C e b) (ρ x)) (y:GL C g) {v:AV} {O':St}
  (c:(match evI C e O ((cI C.P o).getD .eD)with|J (.ew v O')=>J (v,O')|J (.fh f args O')=>call f args O'|U=>U)=J (v,O'))
  {next:Act->World->Prop} {Q:Exit->Act->World->Prop} (t:∀v' k g',Goes g O w g' O' k->VR g' v v'->next (a.put o.dst v') k):o.wp C.P a w next Q:=by
 cases s:cI C.P o with
 |none=>rw[s]at c;simp[evI,aB]at c
 |some B=>
  rw[s]at c;simp only[aD7]at c;cases j:evI C e O B with
  |none=>rw[j]at c;cases c
  |some out=>
   rw[j]at c;have hs:=ac3 (C:=C) A y.2 u o s j;cases out with
   |ew v0 O0=>
    simp at c;obtain⟨rfl,rfl⟩:=c;obtain⟨k,g',q,hr⟩:=hs;unfold Oper.wp;rw[p];rcases hr with⟨v',l,h2⟩|⟨rfl,l⟩;·rw[l];exact t v' k g' q h2
    ·rw[l];exact t undef k g' q (yI g')
   |fh f args O0=>
    obtain⟨rfl,d,l,h2⟩:=hs;simp only at c;have m:=i f args O0 v O' c g w d l A y;unfold Oper.wp;rw[p,h2];unfold Does at m;generalize(callFunc f ⟨d⟩).run C.P w=N at m;cases N with
    |halt h k=>exact m.elim
    |ok n k=>
     cases n<;>first|exact m.elim|skip
     ·obtain⟨g',h3,h4⟩:=m;exact t _ _ g' h3 h4
     grind [Oper.upon,Calls.mono]
def ab9{g:Gh}{e:Env}{a:Act}(h:AR g e a)(ops:Array Oper)(o:Oper){gd:Option (Nat×Bool)}(f:I8 ops o=J gd):Region.wanted o (yielded ops a.tmps)=(match gd with|U=>eT|J (t,b)=>match e[t]? with|J (.cX c)=>c==b|_=>eF):=by
 unfold I8 at f;unfold Region.wanted;cases i:o.guard with
 |none=>grind
 |some p=>
  obtain⟨j,k⟩:=p;rw[i]at f;simp only at f⊢;split at f;·rename_i d l;simp at f;subst f;simp only[yielded,l,Option.bind_some];have n:=VRs.I h;simp only[aG7]at n;cases m:e[d]? with|none=>grind|some x=>obtain⟨v,q,h2⟩:=VRs.b2 h m;grind [VR]
  ·cases f
end
section
variable{C:Ctx}{call:bH}
def akY{ops:Array Oper}{i:Nat}{o:Oper}{x:XOp}(h:cOp C.P eF ops i o=J x):∃gd,I8 ops o=J gd/\x={aM:=o.dst,i:=(cI C.P o).getD .eD,aS:=gd}:=by simp only[cOp,ay3,a03]at h;grind
def acL (f:eY C call) (ops:Array Oper) {Q:Exit->Act->World->Prop}:∀(l:List Oper) (k:Nat) (xs:List XOp),ops.toList.drop k=l->abh C.P eF ops k l=J xs->∀(e s:Env) (O O':St),tV C call xs e O=J (s,O')->
  ∀(g:Gh) (w:World) (a:Act),AR g e a->WR g w O->GL C g->(∀g' D a',AR g' s a'->a'.defers=a.defers->Goes g O w g' O' D->Q .normal a' D)->wpOps C.P ops Q (List.range' k (z l)) a w
 |[],k,xs,K,n,e,s,O,O',d,g,w,a,ha,A,y,G=>by simp[abh]at n;subst n;simp[tV]at d;obtain⟨rfl,rfl⟩:=d;simp only[a94,List.range'_zero,wpOps];exact G g w a ha rfl (.ah A)
 |o::l,k,xs,K,n,e,s,O,O',d,g,w,a,ha,A,y,G=>by
  simp only[abh]at n;split at n
  ·rename_i x F N h2;simp at n;subst n;obtain⟨gd,I,rfl⟩:=akY N;simp only[tV]at d;have hok:ops[k]?=J o:=by have:=congrArg (λdu:List Oper=>du[0]?) K;simpa using this
   have L:ops.toList.drop (k+1)=l:=by rw[<-aG4,K];rfl
   rw[a90,List.range'_succ];simp only[wpOps,hok];have S:=ab9 ha ops o I;cases c:CB C call {aM:=o.dst,i:=(cI C.P o).getD .eD,aS:=gd} e O with
   |none=>rw[c]at d;cases d
   |some p=>
    obtain⟨v,M⟩:=p;rw[c]at d;simp only at d;have R:=acL f ops (Q:=Q) l (k+1) F L h2 (put e o.dst v) s M O' d;have q:∀B E u,Goes g O w u M E->VR u v B->wpOps C.P ops Q (List.range' (k+1) (z l)) (a.put o.dst B) E:=λB E u m hv=>by refine R u E (a.put o.dst B) ((ha.D m.le).b9 hv o.dst) m.wr (y.D m.le) λg' D a' H P t=>G g' D a' H ?_ (m.N t);rw[P];cases o.dst<;>rfl
    unfold CB at c;have h:pW {aM:=o.dst,i:=(cI C.P o).getD .eD,aS:=gd} e=Region.wanted o (yielded ops a.tmps):=(by grind [pW]);split at c;·rename_i j;rw[h]at j;rw[if_pos j];exact .inl (asV f A rfl (λx b hb=>ha.dk y x b hb) y c q)
    ·rename_i j;rw[h]at j;rw[if_neg j];simp at c;obtain⟨rfl,rfl⟩:=c;exact q undef w g (.ah A) (yI g)
  ·cases n
def XM{P:Program}{c:Code}{Q b:Exit->Act->World->Prop}(h:∀e a w,Q e a w->b e a w):∀(n:Nat) (a:Act) (w:World),Code.rounds P c Q n a w->Code.rounds P c b n a w|0,_,_,hr=>hr|n+1,a,w,hr=>by rw[rounds_succ]at hr⊢;refine wp_mono hr λe a' f d=>?_;cases e<;>first|exact h _ _ _ d|exact XM h n a' f d
def XE.to:XE->Exit|.dp=>.normal|.dq id=>if id<1000000 then .exit id else .goto ((id-1000001)/2)|.ef=>.ret
def Post(C:Ctx)(g:Gh)(O:St)(w:World)(a:Act)(x:XE)(c:Env)(O':St):Exit->Act->World->Prop:=
 λex a' d=>ex=x.to/\a'.defers=a.defers/\∃b,AR b c a'/\Goes g O w b O' d
def aeZ(C:Ctx)(call:bH):Prop:=
 ∀(id:Nat) (ops:Array Oper) (l:List XOp),adH C.P ops=J l->∀(e c:Env) (O b:St),uh C call l e O=J (c,b)->∀(g:Gh) (w:World) (a:Act),AR g e a->WR g w O->GL C g->
  (Code.region id ops eT).wp C.P (Post C g O w a .dp c b) a w
def Hw(C:Ctx)(call:bH):Prop:=aeZ C call/\True
def XC.be:XC->Nat->Bool|.dq i,k=>i==k|.eK a b,k=>a.be k||b.be k|.eJ _ a b,k=>a.be k||b.be k|.eE id b,k=>b.be k&&k !=id|.fp b,k=>b.be k|.eV b,k=>b.be k|_,_=>eF
def DW(n:Nat):∀(c:XC) (e d:Env) (O O':St) (k:Nat),evC C call n c e O=J (.dq k,d,O')->c.be k=eT
 |.eI,_,_,_,_,_,h=>by simp[evC]at h
 |.ef,_,_,_,_,_,h=>by simp[evC]at h
 |.eD,_,_,_,_,_,h=>by simp[evC]at h
 |.fe l,e,d,O,O',k,h=>by simp only[evC]at h;split at h<;>simp at h
 |.eL l,e,d,O,O',k,h=>by simp only[evC]at h;split at h<;>simp at h
 |.dq i,e,d,O,O',k,h=>by simp[evC]at h;simp[XC.be,h.1]
 |.eK a b,e,d,O,O',k,h=>by
  simp only[evC]at h;rw[XC.be,aB4];split at h;·exact .inr (DW n b _ _ _ _ _ h)
  ·exact .inl (DW n a _ _ _ _ _ h)
 |.eJ c a b,e,d,O,O',k,h=>by
  simp only[evC]at h;rw[XC.be,aB4];split at h;·exact .inl (DW n a _ _ _ _ _ h)
  ·exact .inr (DW n b _ _ _ _ _ h)
  ·cases h
 |.eE id b,e,d,O,O',k,h=>by
  simp only[evC]at h;rw[XC.be,a01];cases hb:evC C call n b e O with
  |none=>rw[hb]at h;cases h
  |some q=>
   obtain⟨x,e1,j⟩:=q;rw[hb]at h;cases x with
   |dp=>simp at h|ef=>simp at h
   |dq i=>
    simp only[a05,ay8]at h;obtain⟨f,rfl,rfl⟩:=h;split at f;·cases f
    ·rename_i hi;cases f;exact⟨DW n b _ _ _ _ _ hb,by simpa using hi⟩
 |.eV b,e,d,O,O',k,h=>by simp only[evC]at h;exact DW n b _ _ _ _ _ h
 |.fp b,e,d,O,O',k,h=>by
  simp only[evC]at h;have:∀m e O,sZ (evC C call n b) m e O=J (.dq k,d,O')->b.be k=eT:=by
   intro m
   induction m with
   |zero=>intro e O h;cases h
   |succ m g=>
    intro e O h;simp only[sZ]at h;split at h;·exact g _ _ h
    ·exact DW n b _ _ _ _ _ h
  exact this n e O h
def FD(P:Program)(p:Nat->Bool):∀(c:Code),zL p c=eT->(∀k,(cC P c).be k=eT->k<1000000\/∃l,p l=eT/\k=xI l)/\∀l q,cL P c l=J q->∀k,q.be k=eT->k<1000000\/∃l,p l=eT/\k=xI l
 |.skip,h=>⟨λk d=>by simp[cC,XC.be]at d,λl q hr=>by simp[cL]at hr⟩
 |.label m,h=>⟨λk d=>by simp[cC,XC.be]at d,λl q hr=>by
  simp only[cL]at hr;split at hr;·cases hr;intro k d;simp[XC.be]at d
  ·cases hr⟩
 |.ret,h=>⟨λk d=>by simp[cC,XC.be]at d,λl q hr=>by simp[cL]at hr⟩|.refuse _,h=>⟨λk d=>by simp[cC,XC.be]at d,λl q hr=>by simp[cL]at hr⟩|.rangeFunc ..,h=>⟨λk d=>by simp[cC,XC.be]at d,λl q hr=>by simp[cL]at hr⟩
 |.region id ops g,h=>⟨λk d=>by
  simp only[cC]at d;split at d;·split at d<;>simp[XC.be]at d
  ·simp[XC.be]at d,λl q hr=>by simp[cL]at hr⟩
 |.goto l,h=>⟨λk d=>by simp[cC,XC.be]at d;exact .inr ⟨l,h,d.symm⟩,λl q hr=>by simp[cL]at hr⟩
 |.exit id,h=>⟨λk d=>by
  simp only[cC]at d;split at d;·rename_i hid;simp[XC.be]at d;exact .inl (by omega)
  ·simp[XC.be]at d,λl q hr=>by simp[cL]at hr⟩
 |.seq a b,h=>by
  simp only[zL,a01]at h;have ha:=FD P p a h.1;have hb:=FD P p b h.2;refine⟨λk d=>?_,λl q hr k d=>?_⟩;·simp only[cC,XC.be,aB4]at d;exact d.elim (ha.1 k) (hb.1 k)
  ·simp only[cL]at hr;split at hr;·rename_i r0 hr0;cases hr;simp only[XC.be,aB4]at d;exact d.elim (ha.2 l r0 hr0 k) (hb.1 k)
   ·exact hb.2 l q hr k d
 |.cond c a b,h=>by
  simp only[zL,a01]at h;have ha:=FD P p a h.1;have hb:=FD P p b h.2;refine⟨λk d=>?_,λl q hr=>by simp[cL]at hr⟩;simp only[cC]at d;split at d;·simp only[XC.be,aB4]at d;exact d.elim (ha.1 k) (hb.1 k)
  ·simp[XC.be]at d
 |.block id b,h=>by
  have hb:=FD P p b h;refine⟨λk d=>?_,λl q hr=>by simp[cL]at hr⟩;simp only[cC]at d;split at d;·simp only[XC.be,a01]at d;exact hb.1 k d.1
  ·simp[XC.be]at d
 |.loop b,h=>by have hb:=FD P p b h;refine⟨λk d=>?_,λl q hr=>by simp[cL]at hr⟩;simp only[cC,XC.be]at d;exact hb.1 k d
 |.scope b,h=>by
  have hb:=FD P p b h;refine⟨λk d=>?_,λl q hr=>by simp[cL]at hr⟩;simp only[cC]at d;cases hj:IE b with
  |none=>
   rw[hj]at d;simp only at d;split at d;·simp only[XC.be]at d;exact hb.1 k d
   ·simp[XC.be]at d
  |some l=>
   rw[hj]at d;simp only at d;cases f:cL P b l with
   |none=>rw[f]at d;split at d<;>first|(rename_i j;cases j;done)|simp[XC.be]at d
   |some c=>
    rw[f]at d;cases e:zL (· ==l) b with
    |false=>rw[e]at d;simp[XC.be]at d
    |true=>
     rw[e]at d;simp only[XC.be,a01,aB4,bne_iff_ne,ne_eq,beq_iff_eq]at d;obtain⟨d,i⟩:=d;rcases d with⟨d|d,_⟩|⟨d|d,_⟩;·exact hb.1 k d
     ·exact absurd d.symm i
     ·exact hb.2 l c f k d
     ·exact absurd d.symm i
def ajp(P:Program):∀(c:Code) (l:Nat),cL P c l=(findLabel c l).map (cC P)
 |.seq a b,l=>by
  rw[cL,findLabel,ajp P a l];cases findLabel a l with
  |some f=>simp[cC]|none=>simp[ajp P b l]
 |.label d,l=>by rw[cL,findLabel];split<;>simp[cC]
 |.skip,l=>by simp[cL,findLabel]
 |.ret,l=>by simp[cL,findLabel]
 |.refuse _,l=>by simp[cL,findLabel]
 |.rangeFunc ..,l=>by simp[cL,findLabel]
 |.region ..,l=>by simp[cL,findLabel]
 |.goto _,l=>by simp[cL,findLabel]
 |.exit _,l=>by simp[cL,findLabel]
 |.cond ..,l=>by simp[cL,findLabel]
 |.block ..,l=>by simp[cL,findLabel]
 |.loop _,l=>by simp[cL,findLabel]
 |.scope _,l=>by simp[cL,findLabel]
def least(p:Nat->Prop)(h:∃n,p n):∃n,p n/\∀m,m<n->¬p m:=by
 obtain⟨n,b⟩:=h
 induction n using Nat.strongRecOn with
 |_ n c=>
  by_cases hm:∃m,m<n/\p m;·obtain⟨m,a,h2⟩:=hm;exact c m a h2
  ·exact⟨n,b,λm a h2=>hm ⟨m,a,h2⟩⟩
def aj0 {P:Program} {c d:Code} {Q:Exit->Act->World->Prop} {a:Act} {w:World} (l:Nat) (b:Nat->Act->World->Prop) (hf:findLabel c l=J d) (first:c.wp P (Exit.jump l (λa w=>∃n,b n a w) Q) a w)
  (pass:∀n a w,b n a w->d.wp P (Exit.jump l (λa' j=>∃m,m<n/\b m a' j) Q) a w):(Code.scope c).wp P Q a w:=by
 classical
 let k:Act->World->Nat:=λa w=>if h:∃n,b n a w then Classical.choose (least _ h)else 0
 refine wp_scope_jumps l (λa w=>∃n,b n a w) k hf first λa w o=>?_
 have p:k a w=Classical.choose (least _ o):=dif_pos o;have hs:=Classical.choose_spec (least _ o);rw[<-p]at hs;refine wp_mono (pass _ a w hs.1) λex a' j q=>?_;cases ex with
 |goto t=>
  obtain⟨s,m,hm,f⟩:=q;refine⟨s,⟨m,f⟩,?_⟩;have e:∃n,b n a' j:=⟨m,f⟩;have i:k a' j=Classical.choose (least _ e):=dif_pos e;have g:=Classical.choose_spec (least _ e);rw[<-i]at g;rcases aH3 m (k a' j)with h|h;·exact absurd f (g.2 m h)
  ·omega
 |_=>exact q
def Rq:∀(c:Code) (l:Nat) (f:Code),findLabel c l=J f->SizeOf.sizeOf f<=SizeOf.sizeOf c
 |.seq a b,l,f,h=>by
  rw[findLabel]at h;split at h;·rename_i r0 d;cases h;have:=Rq a l r0 d;simp;omega
  ·have:=Rq b l f h;simp;omega
 |.label e,l,f,h=>by
  rw[findLabel]at h;split at h;·cases h;simp
  ·cases h
 |.skip,l,f,h=>by simp[findLabel]at h
 |.ret,l,f,h=>by simp[findLabel]at h
 |.refuse _,l,f,h=>by simp[findLabel]at h
 |.rangeFunc ..,l,f,h=>by simp[findLabel]at h
 |.region ..,l,f,h=>by simp[findLabel]at h
 |.goto _,l,f,h=>by simp[findLabel]at h
 |.exit _,l,f,h=>by simp[findLabel]at h
 |.cond ..,l,f,h=>by simp[findLabel]at h
 |.block ..,l,f,h=>by simp[findLabel]at h
 |.loop _,l,f,h=>by simp[findLabel]at h
 |.scope _,l,f,h=>by simp[findLabel]at h
def aeO(id:Nat):(XE.dq id).to=.exit id\/∃l,(XE.dq id).to=.goto l:=by
 unfold XE.to;split;·rename_i h;cases h
 ·rename_i i h;cases h;split;·exact .inl rfl
  ·exact .inr ⟨_,rfl⟩
 ·rename_i h;cases h
def mY (o:eY C call) (k:Hw C call) (n:Nat):∀(c:Code) (e v:Env) (O O':St) (x:XE),evC C call n (cC C.P c) e O=J (x,v,O')->∀(g:Gh) (w:World) (a:Act),AR g e a->WR g w O->GL C g->
   c.wp C.P (Post C g O w a x v O') a w
  |.skip,e,v,O,O',x,d,g,w,a,ha,t,u=>by simp[cC,evC]at d;obtain⟨rfl,rfl,rfl⟩:=d;exact wp_skip ⟨rfl,rfl,g,ha,.ah t⟩
  |.label l,e,v,O,O',x,d,g,w,a,ha,t,u=>by simp[cC,evC]at d;obtain⟨rfl,rfl,rfl⟩:=d;exact wp_label ⟨rfl,rfl,g,ha,.ah t⟩
  |.exit id,e,v,O,O',x,d,g,w,a,ha,t,u=>by
   simp only[cC]at d;split at d;·rename_i hid;simp[evC]at d;obtain⟨rfl,rfl,rfl⟩:=d;exact wp_exit ⟨by simp[XE.to,hid],rfl,g,ha,.ah t⟩
   ·simp[evC]at d
  |.ret,e,v,O,O',x,d,g,w,a,ha,t,u=>by simp[cC,evC]at d;obtain⟨rfl,rfl,rfl⟩:=d;exact wp_ret ⟨rfl,rfl,g,ha,.ah t⟩
  |.region id ops aa,e,v,O,O',x,d,g,w,a,ha,t,u=>by
   simp only[cC]at d;cases aa with
   |true=>
    simp only[if_true]at d;split at d
    ·rename_i l D;simp only[evC]at d;split at d;·rename_i e1 A q;simp at d;obtain⟨rfl,rfl,rfl⟩:=d;exact k.1 id ops l D e e1 O A q g w a ha t u
     ·cases d
    ·simp[evC]at d
   |false=>
    simp only[aC3,if_false]at d;split at d
    ·rename_i l D;simp only[evC]at d;split at d;·rename_i e1 A q;simp at d;obtain⟨rfl,rfl,rfl⟩:=d;refine wp_region ?_;have:=acL o ops (Q:=Post C g O w a .dp e1 A) ops.toList 0 l rfl D e e1 O A q g w a ha t u (λg' w' a' ah aq f=>⟨rfl,aq,g',ah,f⟩);rw[List.range_eq_range'];simpa using this
     ·cases d
    ·simp[evC]at d
  |.seq c1 c2,e,v,O,O',x,d,g,w,a,ha,t,u=>by
   simp only[cC,evC]at d;refine wp_seq ?_;cases F:evC C call n (cC C.P c1) e O with
   |none=>rw[F]at d;cases d
   |some p=>
    obtain⟨x1,e1,A⟩:=p;rw[F]at d;refine wp_mono (mY o k n c1 e e1 O A x1 F g w a ha t u) λex a1 L ⟨E,q,s,j,f⟩=>?_;subst E;cases x1 with
    |dp=>simp only at d;refine wp_mono (mY o k n c2 e1 v A O' x d s L a1 j f.wr (u.D f.le)) λex a2 w2 ⟨E,Y,g2,W,M⟩=>?_;exact⟨E,Y.trans q,g2,W,f.N M⟩|dq id=>simp at d;obtain⟨rfl,rfl,rfl⟩:=d;have K:Post C g O w a (.dq id) e1 A (XE.dq id).to a1 L:=⟨rfl,q,s,j,f⟩;rcases aeO id with T|⟨l,T⟩<;>rw[T]at K⊢<;>exact K
    |ef=>simp at d;obtain⟨rfl,rfl,rfl⟩:=d;exact⟨rfl,q,s,j,f⟩
  |.cond c c1 c2,e,v,O,O',x,d,g,w,a,ha,t,u=>by
   simp only[cC]at d;cases S:cA c with
   |none=>rw[S]at d;simp[evC]at d
   |some b=>
    rw[S]at d;simp only[evC]at d;have hv:=ha.dk u c b S;split at d;·rename_i hb;rw[hb]at hv;generalize X:a.eval c=cv at hv;cases hv;exact wp_cond_true X (mY o k n c1 e v O O' x d g w a ha t u)
    ·rename_i hb;rw[hb]at hv;generalize X:a.eval c=cv at hv;cases hv;exact wp_cond_false X (mY o k n c2 e v O O' x d g w a ha t u)
    ·cases d
  |.block id b,e,v,O,O',x,d,g,w,a,ha,t,u=>by
   simp only[cC]at d;by_cases hid:id<1000000
   case neg=>rw[if_neg hid]at d;simp[evC]at d
   rw[if_pos hid]at d;simp only[evC]at d;refine wp_block ?_;cases F:evC C call n (cC C.P b) e O with
   |none=>rw[F]at d;cases d
   |some p=>
    obtain⟨x1,e1,A⟩:=p;rw[F]at d;refine wp_mono (mY o k n b e e1 O A x1 F g w a ha t u) λex a1 L ⟨E,q,s,j,f⟩=>?_;subst E;cases x1 with
    |dp=>simp at d;obtain⟨rfl,rfl,rfl⟩:=d;exact⟨rfl,q,s,j,f⟩
    |dq i=>
     simp at d;obtain⟨N,rfl,rfl⟩:=d;by_cases hi:i=id;·subst hi;rw[if_pos rfl]at N;subst N;rw[show(XE.dq i).to=.exit i from by simp[XE.to,hid]];simp only[Exit.inBlock,if_true];exact⟨rfl,q,s,j,f⟩
     ·rw[if_neg hi]at N;subst N;have K:Post C g O w a (.dq i) e1 A (XE.dq i).to a1 L:=⟨rfl,q,s,j,f⟩;rcases aeO i with T|⟨l,T⟩<;>rw[T]at K⊢;·simp only[Exit.inBlock,if_neg hi];exact K
      ·exact K
    |ef=>simp at d;obtain⟨rfl,rfl,rfl⟩:=d;exact⟨rfl,q,s,j,f⟩
  |.loop b,e,v,O,O',x,d,g,w,a,ha,t,u=>by
   simp only[cC,evC]at d;refine wp_loop_rounds n ?_;have key:∀(m:Nat) (e:Env) (O:St) (g0:Gh) (w0:World) (a0:Act),sZ (evC C call n (cC C.P b)) m e O=J (x,v,O')->AR g0 e a0->WR g0 w0 O->GL C g0->Code.rounds C.P b (Post C g0 O w0 a0 x v O') m a0 w0:=by
    intro m
    induction m with
    |zero=>intro e O g0 w0 a0 h;cases h
    |succ m ih=>
     intro e O g0 w0 a0 h ak ax ad;rw[rounds_succ];simp only[sZ]at h;cases F:evC C call n (cC C.P b) e O with
     |none=>rw[F]at h;cases h
     |some p=>
      obtain⟨x1,e1,A⟩:=p;rw[F]at h;refine wp_mono (mY o k n b e e1 O A x1 F g0 w0 a0 ak ax ad) λex a1 L ⟨E,q,s,j,f⟩=>?_;subst E;cases x1 with
      |dp=>simp only at h;have:=ih e1 A s L a1 h j f.wr (ad.D f.le);simp only[XE.to,Exit.then];exact XM (λex a2 w2 ⟨E,Y,g2,W,M⟩=>⟨E,Y.trans q,g2,W,f.N M⟩) m a1 L this|dq id=>simp at h;obtain⟨rfl,rfl,rfl⟩:=h;have K:Post C g0 O w0 a0 (.dq id) e1 A (XE.dq id).to a1 L:=⟨rfl,q,s,j,f⟩;rcases aeO id with T|⟨l,T⟩<;>rw[T]at K⊢<;>exact K
      |ef=>simp at h;obtain⟨rfl,rfl,rfl⟩:=h;exact⟨rfl,q,s,j,f⟩
   exact key n e O g w a d ha t u
  |.scope b,e,v,O,O',x,d,g,w,a,ha,t,u=>by
   simp only[cC]at d;cases hj:IE b with
   |none=>
    rw[hj]at d;simp only at d;split at d
    ·rename_i aw;simp only[evC]at d;refine wp_scope_straight ?_;refine wp_mono (mY o k n b e v O O' x d g w a ha t u) λex a1 L ⟨E,q,s,j,f⟩=>?_;subst E;cases x with
     |dp=>exact⟨rfl,q,s,j,f⟩|ef=>exact⟨rfl,q,s,j,f⟩
     |dq i=>
      have hi:i<1000000:=by
       rcases(FD C.P _ b aw).1 i (DW n _ _ _ _ _ _ d)with h|⟨l,h,_⟩;·exact h
       ·cases h
      have K:Post C g O w a (.dq i) v O' (XE.dq i).to a1 L:=⟨rfl,q,s,j,f⟩;rw[show(XE.dq i).to=.exit i from by simp[XE.to,hi]]at K⊢;exact K
    ·simp[evC]at d
   |some l=>
    rw[hj]at d;simp only at d;cases S:cL C.P b l with
    |none=>rw[S]at d;split at d<;>first|(rename_i F;cases F;done)|simp[evC]at d
    |some c=>
     rw[S]at d;cases Z:zL (· ==l) b with
     |false=>rw[Z]at d;simp[evC]at d
     |true=>
      rw[Z]at d;simp only[evC]at d;rw[ajp,ay4]at S;obtain⟨I,hf,rfl⟩:=S;have ac:Ky l≠xI l:=by unfold Ky xI;omega
      have an:cL C.P b l=J (cC C.P I):=by rw[ajp,hf];rfl
      have V:=FD C.P _ b Z;have ab:∀i,(i<1000000\/∃l',(l'==l)=eT/\i=xI l')->i≠xI l->i<1000000:=λi h hi=>by
       rcases h with h|⟨l',F,h2⟩;·exact h
       ·rw[beq_iff_eq]at F;subst F;exact absurd h2 hi
      have af:(XE.dq (xI l)).to=.goto l:=by simp[XE.to,xI];omega
      have P:∀i,i<1000000->(XE.dq i).to=.exit i:=λi hi=>by simp[XE.to,hi]
      have R:∀i,i<1000000->i≠xI l/\i≠Ky l:=λi hi=>by unfold xI Ky;omega
      refine aj0 l (λm a0 w0=>∃e0 O0 g0 y,sZ (evC C call n (.eE (xI l) (.eK (cC C.P I) (.dq (Ky l))))) m e0 O0=J (y,v,O')/\(match y with|.dq i=>if i=Ky l then XE.dp else .dq i|y=>y)=x/\AR g0 e0 a0/\a0.defers=a.defers/\Goes g O w g0 O0 w0) hf ?_ ?_
      ·cases hb:evC C call n (cC C.P b) e O with
       |none=>rw[hb]at d;simp at d
       |some dv=>
        obtain⟨x1,e1,A⟩:=dv;rw[hb]at d;refine wp_mono (mY o k n b e e1 O A x1 hb g w a ha t u) λex a1 L ⟨E,q,s,j,f⟩=>?_;subst E;cases x1 with
        |dp=>simp only[if_neg ac,if_true,a05,ay8]at d;obtain⟨rfl,rfl,rfl⟩:=d;exact⟨rfl,q,s,j,f⟩
        |ef=>simp only[a05,ay8]at d;obtain⟨rfl,rfl,rfl⟩:=d;exact⟨rfl,q,s,j,f⟩
        |dq i=>
         by_cases hi:i=xI l
         ·subst hi;rw[af];simp only[if_true]at d;refine⟨rfl,n,e1,A,s,?_⟩;split at d;·rename_i i1 e2 O2 D;simp only[a05,ay8]at d;obtain⟨E,rfl,rfl⟩:=d;exact⟨_,D,E,j,q,f⟩
          ·rename_i au;refine⟨x,d,?_,j,q,f⟩;cases x with|dq i1=>exact(au _ _ _ d).elim|dp=>rfl|ef=>rfl
         ·have G:=ab i (V.1 i (DW n _ _ _ _ _ _ hb)) hi;simp only[if_neg hi,if_neg (R i G).2,a05,ay8]at d;obtain⟨rfl,rfl,rfl⟩:=d;rw[P i G];exact⟨(P i G).symm,q,s,j,f⟩
      ·rintro m a0 w0 ⟨e0,O0,g0,y,D,hy,al,H,B⟩;cases m with
       |zero=>cases D
       |succ m=>
        simp only[sZ,evC]at D;cases hb:evC C call n (cC C.P I) e0 O0 with
        |none=>rw[hb]at D;simp at D
        |some dv=>
         obtain⟨x1,e1,A⟩:=dv;rw[hb]at D;refine wp_mono (mY o k n I e0 e1 O0 A x1 hb g0 w0 a0 al B.wr (u.D B.le)) λex a1 L ⟨E,q,s,j,f⟩=>?_;subst E;cases x1 with
         |dp=>simp only[if_neg ac,a05,ay8]at D;obtain⟨rfl,rfl,rfl⟩:=D;simp only[if_true]at hy;subst hy;exact⟨rfl,q.trans H,s,j,B.N f⟩
         |ef=>simp only[a05,ay8]at D;obtain⟨rfl,rfl,rfl⟩:=D;simp only at hy;subst hy;exact⟨rfl,q.trans H,s,j,B.N f⟩
         |dq i=>
          by_cases hi:i=xI l;·subst hi;rw[af];simp only[if_true]at D;exact⟨rfl,m,by omega,e1,A,s,y,D,hy,j,q.trans H,B.N f⟩
          ·have G:=ab i (V.2 l _ an i (DW n _ _ _ _ _ _ hb)) hi;simp only[if_neg hi,a05,ay8]at D;obtain⟨rfl,rfl,rfl⟩:=D;simp only[if_neg (R i G).2]at hy;subst hy;rw[P i G];exact⟨(P i G).symm,q.trans H,s,j,B.N f⟩
  |.goto l,e,v,O,O',x,d,g,w,a,ha,t,u=>by simp[cC,evC]at d;obtain⟨rfl,rfl,rfl⟩:=d;exact wp_goto ⟨by simp[XE.to,xI];omega,rfl,g,ha,.ah t⟩
  |.rangeFunc ..,e,v,O,O',x,d,g,w,a,ha,t,u=>by simp[cC,evC]at d
  |.refuse _,e,v,O,O',x,d,g,w,a,ha,t,u=>by simp[cC,evC]at d
 termination_by c=>SizeOf.sizeOf c
 decreasing_by
  all_goals simp_wf
  all_goals first
   |omega|(have:=Rq _ _ _ hf;omega)
end
section
variable{C:Ctx}{g:Gh}{w:World}{O:St}
def Oh{O:St}{o:Nat}{x:AO}(h:O[o]?=J x):O.set o x=O:=by apply aA9;grind
def En:∀(fs:List Nat) (O:St) (g:Gh),WR g w O->∃g',Goes g O w g' (freeze O fs) w/\∀o∈fs,∀l fz,O[o]?=J (.cH l fz)->CR g' l (g.ob o) 0
 |[],O,g,d=>⟨g,.ah d,by simp⟩
 |o::fs,O,g,d=>by
  cases h:O[o]? with
  |none=>obtain⟨g',e,h2⟩:=En fs O g d;grind [freeze]
  |some x=>
   cases x with
   |eq=>obtain⟨g',e,h2⟩:=En fs O g d;grind [freeze]
   |ec q=>obtain⟨g',e,h2⟩:=En fs O g d;grind [freeze]
   |cH l0 a=>
    obtain⟨n,e,k⟩:=afK d h;have c:freeze O (o::fs)=freeze (O.set o (.cH l0 ⟨eT,a.t⟩)) fs:=by
     obtain⟨b0,s⟩:=a;cases b0 with
     |false=>simp[freeze,h]|true=>simp[freeze,h,Oh h]
    obtain⟨p,h2,h3⟩:=En fs (O.set o (.cH l0 ⟨eT,a.t⟩)) n e.wr;refine⟨p,by rw[c];exact e.N h2,λj b l fz i=>?_⟩;have m:j<g.n:=d.lt i;by_cases f:j=o;·subst f;rw[h]at i;simp at i;obtain⟨rfl,_⟩:=i;exact k.D h2.le
    ·rcases az4.1 b with rfl|b;·exact absurd rfl f
     ·have:=h3 j b l fz (by grind);rwa[e.le.ob j m]at this
def adi(g:Gh)(O:St)(fs:List Nat):Prop:=∀o∈fs,∀l a,O[o]?=J (.cH l a)->CR g l (g.ob o) 0
theorem adi.cM{fs a:List Nat}(h:adi g O (fs++a)):adi g O fs:=λo b=>h o (by simp[b])
def adi.cQ{fs a:List Nat}(h:adi g O (fs++a)):adi g O a:=λo b=>h o (by simp[b])
def ahm(g:Gh)(O:St)(d:LA->Option (LA×List Nat)):Prop:=∀l a fs,d l=J (a,fs)->adi g O fs->(∀vs,VRs g l vs->VRs g a vs)/\∀b off,CR g l b off->CR g a b off
mutual
def acF(N:LA->Option (LA×List Nat))(hr:ahm g O N):∀(a:AV) (a':AV) (fs:List Nat),bI O N a=J (a',fs)->adi g O fs->∀v,VR g a v->VR g a' v
 |.cY,a',fs,h,_,v,hv=>by grind [bI,VR]
 |.fu,a',fs,h,_,v,hv=>by grind [bI,VR]
 |.eC n l,a',fs,h,hf,v,hv=>by
  simp only[bI]at h;split at h;·rename_i i c e;simp at h;obtain⟨rfl,rfl⟩:=h;cases hv with|eC _ _ b off k=>exact .sl _ _ _ _ _ ((Aq N hr l i c e hf).2 b off k) (a06 _)
  ·cases h
 |.dj o off m E,a',fs,h,hf,v,hv=>by
  simp only[bI]at h;split at h
  ·rename_i l s e;split at h
   ·rename_i hlen;split at h;·rename_i i c q;simp at h;obtain⟨rfl,rfl⟩:=h;cases hv with|dj _ _ _ _ cap I A hb=>have k:=hf o (by simp) l s e;have j:=(k.ci off).cj (m*E);simp only[az5]at j;exact .sl _ _ _ _ _ ((hr _ i c q (λD p=>hf D (by simp[p]))).2 _ _ j) A
    ·cases h
   ·cases h
  ·cases h
 |.ea f x y,a',fs,h,hf,v,hv=>by
  simp only[bI]at h;split at h;·rename_i G c H w d h2;simp at h;obtain⟨rfl,rfl⟩:=h;cases hv with|ea _ _ _ L M B C=>exact .ea _ _ _ _ _ ((Aq N hr x G c d hf.cM).1 _ B) ((Aq N hr y H w h2 hf.cQ).1 _ C)
  ·cases h
 |.eb t u,a',fs,h,hf,v,hv=>by
  simp only[bI]at h;split at h;·rename_i F c d;simp at h;obtain⟨rfl,rfl⟩:=h;cases hv with|eb _ _ K hv=>exact .eb _ _ _ (acF N hr u F c d hf _ hv)
  ·cases h
 |.da l,a',fs,h,hf,v,hv=>by
  simp only[bI]at h;split at h;·rename_i i c d;simp at h;obtain⟨rfl,rfl⟩:=h;cases hv with|da _ vs e=>exact .da _ _ ((Aq N hr l i c d hf).1 _ e)
  ·cases h
 |.df l,a',fs,h,hf,v,hv=>by
  simp only[bI]at h;split at h;·rename_i i c d;simp at h;obtain⟨rfl,rfl⟩:=h;cases hv with|df _ vs e=>exact .df _ _ ((Aq N hr l i c d hf).1 _ e)
  ·cases h
 |.cX _,a',fs,h,_,v,hv=>by grind [bI]
 |.cU _ _,a',fs,h,_,v,hv=>by grind [bI]
 |.cV _,a',fs,h,_,v,hv=>by grind [bI]
 |.ev,a',fs,h,_,v,hv=>by grind [bI]
 |.c8 _ _,a',fs,h,_,v,hv=>by grind [bI]
 |.em _,a',fs,h,_,v,hv=>by grind [bI]
 |.sl _ _,a',fs,h,_,v,hv=>by grind [bI]
 |.ec _,a',fs,h,_,v,hv=>by grind [bI]
 |.eA,a',fs,h,_,v,hv=>by grind [bI]
 |.ep,a',fs,h,_,v,hv=>by grind [bI]
 |.ej,a',fs,h,_,v,hv=>by grind [bI]
def Aq(q:LA->Option (LA×List Nat))(hr:ahm g O q):∀(l c:LA) (fs:List Nat),aZ O q l=J (c,fs)->adi g O fs->(∀vs,VRs g l vs->VRs g c vs)/\∀b off,CR g l b off->CR g c b off
 |[],c,fs,h,_=>by grind [aZ]
 |a::l,c,fs,h,hf=>by
  simp only[aZ]at h;split at h
  ·rename_i a' d e f i h2;simp at h;obtain⟨rfl,rfl⟩:=h;have k:=acF q hr a a' d i hf.cM;have m:=Aq q hr l e f h2 hf.cQ;exact⟨λvs hv=>by grind [VRs],
    λb off j=>by grind [CR]⟩
  ·cases h
end
def ag7:∀n,ahm g O (dS O n)
 |0=>λl a fs h _=>by cases h
 |n+1=>λl a fs h hf=>Aq (dS O n) (ag7 n) l a fs h hf
def tJ(a:WR g w O)(raw:Bool){l c:LA}{O':St}(h:hand raw l O=J (c,O')){vs:List Value}(hv:VRs g l vs):∃g',Goes g O w g' O' w/\VRs g' c vs:=by
 unfold hand at h;split at h;·simp at h;obtain⟨rfl,rfl⟩:=h;exact⟨g,.ah a,hv⟩
 ·split at h;·rename_i l1 fs e;simp at h;obtain⟨rfl,rfl⟩:=h;obtain⟨g',h2,h3⟩:=En fs O g a;refine⟨g',h2,(ag7 12 l l1 fs e (λo f l0 d b=>?_)).1 _ (hv.D h2.le)⟩;rw[h2.le.ob o (a.lt b)];exact h3 o f l0 d b
  ·cases h
def LD{g0:Gh}{O0:St}{w0:World}(a:Goes g0 O0 w0 g O w)(b:WR g0 w0 O0){l:LA}{vs:List Value}(hv:VRs g l vs):∃g',Goes g0 O0 w0 g' (tidy (z O0) l O) w/\VRs g' l vs:=by
 unfold tidy;split;·exact⟨g,a,hv⟩
 ·split;·rename_i hb;simp only[a01]at hb;exact⟨_,anH a b.n hb.2,hv.aP hb.1⟩
  ·exact⟨g,a,hv⟩
def GL.gb{C:Ctx}{g:Gh}:GL {C with gl:=λ_=>U,np:=eT} g:=⟨λn l h=>(by cases h),Or.inl rfl⟩
def JK (n:WR g w O) {e:Env} {a:Act} (ha:AR g e a):∀(rs:List ResultVar) (xs:List XR),cR C.P rs=J xs->∀(vs:LA),V9 e O xs=J vs->
  ∃vs',(rs.mapM (m:=Sem) λ|.tmp t=>pure (a.tmps.getD t undef)|.cell s t=>do loadVar t (<-asAddr (a.tmps.getD s undef))).run C.P w=.ok vs' w/\VRs g vs vs'
 |[],xs,b,vs,hv=>by simp[cR]at b;subst b;simp[V9]at hv;subst hv;exact⟨[],rfl,.de⟩
 |.tmp t::rs,xs,b,vs,hv=>by
  simp only[cR,ay4]at b;obtain⟨f,k,rfl⟩:=b;simp only[V9]at hv;split at hv
  ·rename_i d h2;simp at hv;subst hv;obtain⟨vs',h3,h4⟩:=JK n ha rs f k d h2;refine⟨a.tmps.getD t undef::vs',?_,.cW _ _ _ _ ?_ h4⟩;·simp_all
   ·have:=AR.dk (C:={C with gl:=λ_=>U,np:=eT}) ha GL.gb (.tmp t) (.t t) rfl;exact this
  ·cases hv
 |.cell t E::rs,xs,b,vs,hv=>by
  simp only[cR,ay3,a03,ay7,a05]at b;obtain⟨u,y,i,hi,f,k,rfl⟩:=b;simp only[V9]at hv;split at hv
  ·rename_i o off d h5 h2;split at hv
   ·rename_i c B x;split at hv
    ·rename_i v l;simp at hv;subst hv;obtain⟨vs',h3,h4⟩:=JK n ha rs f k d h2;have j:=AR.dk (C:={C with gl:=λ_=>U,np:=eT}) ha GL.gb (.tmp t) (.t t) rfl;simp only[av]at j;rw[h5]at j;generalize p:a.eval (.tmp t)=q at j;cases j;have h:=(n.bx o _ x).cH.ci off;simp only[az5]at h;obtain⟨A,h6,h7⟩:=aa1 (P:=C.P) h y hi l;refine⟨A::vs',?_,.cW _ _ _ _ h7 h4⟩;simp only[Act.eval]at p;have D:(asAddr (a.tmps.getD t undef)).run C.P w=.ok ⟨g.ob o,off,U⟩ w:=by rw[p];rfl
     simp_all
    ·cases hv
   ·cases hv
  ·cases hv
def WB:∀(vs:LA) (vs':List Value),VRs g vs vs'->VR g (bW vs) (if h:(⟨vs'⟩:Array Value).size=1 then(⟨vs'⟩:Array Value)[0]else .tuple ⟨vs'⟩)
 |[],_,.de=>by simp;exact .df _ _ .de
 |[a],_,.cW _ v _ _ x .de=>by simpa[bW]using x
 |a::b::l,_,.cW _ v _ _ x (.cW _ u _ c y d)=>by grind [bW,VR,VRs]
end
def ahj(C:Ctx):Prop:=∀f x,C.fs f=J x->cF C.P f=J x/\(∃fn,C.P.funcs[f]?=J fn/\(fn.name== "runtime.NumGoroutine")=eF)
def VB(C:Ctx):Prop:=∀f h,C.fg f=J h->∀args O v b,h args O=J (v,b)->∀g w a,VRs g args a->WR g w O->GL C g->Does C.P f a w λd e=>∃c,Goes g O w c b e/\VR c v d
def VRs.dQ{g:Gh}(n:Nat){a:AV}{v:Value}(h:VR g a v):VRs g (List.replicate n a) (List.replicate n v):=by
 induction n with
 |zero=>exact .de|succ n b=>exact .cW _ _ _ _ h b
def IP {P:Program} (fn:Func) (tmps:Array Value) (w:World) {vs:List Value} (h:(fn.results.toList.mapM (m:=Sem) λ|.tmp t=>pure (tmps.getD t undef)|.cell a t=>do loadVar t (<-asAddr (tmps.getD a undef))).run P w=.ok vs w):
  (results fn tmps).run P w=.ok (if h:(⟨vs⟩:Array Value).size=1 then(⟨vs⟩:Array Value)[0]else .tuple ⟨vs⟩) w:=by
 have key:(fn.results.mapM (m:=Sem) λ|.tmp t=>pure (tmps.getD t undef)|.cell a t=>do loadVar t (<-asAddr (tmps.getD a undef))).run P w=.ok ⟨vs⟩ w:=by rw[<-Array.toArray_toList (xs:=fn.results),List.mapM_toArray,Sem.run_map,h];rfl
 unfold results;rw[Sem.run_bind];show Result.andThen ((fn.results.mapM (m:=Sem) λ|.tmp t=>pure (tmps.getD t undef)|.cell a t=>do loadVar t (<-asAddr (tmps.getD a undef))).run P w) _=_;rw[key];rfl
def ac2{C:Ctx}(s:ahj C)(e:VB C)(b:∀call,eY C call->Hw C call):∀n,eY C (evF C n)
 |0=>λf args O v W h=>by cases h
 |n+1=>by
  have Z:=ac2 s e b n;intro f args O v W h g w a ha R Y;simp only[evF]at h;split at h;·rename_i p hp;exact e f p hp args O v W h g w a ha R Y
  ·split at h;·cases h
   ·rename_i x hx;obtain⟨q,fn,l,m⟩:=s f x hx;simp only[cF,ay3,a03,ay7,a05]at q;obtain⟨aa,k,body,hb,V,S,rfl⟩:=q;rw[l]at k;cases k;split at h;·cases h
    ·rename_i i O1 L;split at h;·cases h
     ·rename_i hlen;have y:(callFunc f ⟨a⟩).run C.P w=.ok (.enter f ⟨a⟩) w:=by have F:fn.name≠ "runtime.NumGoroutine":=(by simpa using m);simp[callFunc,l,F,hb]
      unfold Does;rw[y];simp only;obtain⟨E,c,A⟩:=tJ R _ L ha;split at h;·cases h
      ·cases h
      ·rename_i xe e1 O2 N I;refine calls_of_wp l hb ?_;have hl:=A.I;have H:AR E (i++List.replicate (fn.ntmps-z i) .dT) {tmps:=(⟨a⟩:Array Value)++Array.replicate (fn.ntmps-(⟨a⟩:Array Value).size) undef,defers:=[]}:=by have F:=A.cv (VRs.dQ (fn.ntmps-z i) (yI E));have:z a=z i:=hl;simpa[AR,this]using F
       refine wp_mono (mY Z (b _ Z) n body _ e1 O1 O2 xe I E w _ H c.wr (Y.D c.le)) λex a2 D ⟨K,hd,g2,G,d⟩=>?_;split at h;·cases h
       ·rename_i vs hres;split at h;·cases h
        ·rename_i o O3 M;simp at h;obtain⟨rfl,rfl⟩:=h;obtain⟨T,hr1,hr2⟩:=JK (C:=C) d.wr G _ V S vs hres;obtain⟨g3,t,P⟩:=tJ d.wr _ M hr2;obtain⟨g4,u,Q⟩:=LD ((c.N d).N t) R P;have j:a2.defers=[]/\∃v,(results fn a2.tmps).run C.P D=.ok v D/\∃B,Ending.returned v=.returned B/\∃X,Goes g O w X (tidy (z O) o O3) D/\VR X (bW o) B:=
          ⟨hd,_,IP fn a2.tmps D hr1,_,rfl,g4,u,WB o T Q⟩
         subst K;cases xe with
         |dp=>exact j|ef=>exact j|dq id=>exact(N id rfl).elim
mutual
theorem same_eq:∀a b:AV,same a b=eT->a=b
 |.cX a,b,h=>by cases b<;>simp[same]at h;rw[h]
 |.cU k a,b,h=>by cases b<;>simp[same]at h;rw[h.1,h.2]
 |.cV a,b,h=>by cases b<;>simp[same,vk]at h;rw[h]
 |.ev,b,h=>by cases b<;>simp[same]at h;rfl
 |.c8 _ _,b,h=>by cases b<;>simp[same]at h;rw[h.1,h.2]
 |.em a,b,h=>by cases b<;>simp[same]at h;rw[wM _ _ h]
 |.cY,b,h=>by cases b<;>simp[same]at h;rfl
 |.fu,b,h=>by cases b<;>simp[same]at h;rfl
 |.sl n a,b,h=>by cases b<;>simp[same]at h;rw[h.1,wM _ _ h.2]
 |.eC n a,b,h=>by cases b<;>simp[same]at h;rw[h.1,wM _ _ h.2]
 |.dj _ _ _ _,b,h=>by cases b<;>simp[same]at h;rw[h.1.1.1,h.1.1.2,h.1.2,h.2]
 |.ec _,b,h=>by cases b<;>simp[same]at h;rw[h]
 |.eA,b,h=>by cases b<;>simp[same]at h;rfl
 |.ea f x y,b,h=>by cases b<;>simp[same]at h;rw[h.1.1,wM _ _ h.1.2,wM _ _ h.2]
 |.ep,b,h=>by cases b<;>simp[same]at h;rfl
 |.eb t a,b,h=>by cases b<;>simp[same]at h;rw[h.1,same_eq _ _ h.2]
 |.ej,b,h=>by cases b<;>simp[same]at h;rfl
 |.da a,b,h=>by cases b<;>simp[same]at h;rw[wM _ _ h]
 |.df a,b,h=>by cases b<;>simp[same]at h;rw[wM _ _ h]
theorem wM:∀a b:LA,xk a b=eT->a=b
 |[],b,h=>by cases b<;>simp[xk]at h;rfl
 |a::x,b,h=>by cases b<;>simp[xk]at h;rw[same_eq _ _ h.1,wM _ _ h.2]
end
section
variable{C:Ctx}
def Agree(e a:Env)(l:List Nat):Prop:=∀t∈l,e.getD t .dT=a.getD t .dT
def MX{e a:Env}(x:XA)(h:Agree e a x.aw):av C e x=av C a x:=by cases x<;>simp only[av];exact h _ (by simp[XA.aw])
def FO{e b:Env}:∀(l:List XA),Agree e b (xO l)->l.map (av C e)=l.map (av C b)|[],_=>rfl|x::l,h=>by simp only[az3];rw[MX x (λt a=>h t (by simp[xO,a])),FO l (λt a=>h t (by simp[xO,a]))]
def FN{e a:Env}(x:Option XA)(h:Agree e a (RJ x)):x.map (av C e)=x.map (av C a):=by
 cases x with
 |none=>rfl|some x=>simp only[az2];rw[MX x h]
def abN{e b:Env}:∀(l:List (Nat×Nat×XA)),Agree e b (N9 l)->(l.map λ(o,s,x)=>(o,s,av C e x))=(l.map λ(o,s,x)=>(o,s,av C b x))|[],_=>rfl|(o,s,x)::l,h=>by simp only[az3];rw[MX x (λt a=>h t (by simp[N9,a])),abN l (λt a=>h t (by simp[N9,a]))]
def al7{e o:Env}(s:z e=z o)(O:St)(j:XI)(h:Agree e o j.aw):evI C e O j=evI C o O j:=by
 by_cases i:∃k d p x,j=.gA k d p x;·obtain⟨k,d,p,x,rfl⟩:=i;simp only[evI,aB];rw[MX x h,s]
 have mem:∀{x:XA},(∀t∈x.aw,t∈j.aw)->av C e x=av C o x:=λ{x} u=>MX x (λt g=>h t (u t g));cases j<;>simp only[XI.aw]at h mem<;>simp only[evI,aB]<;>first
  |(exact absurd ⟨_,_,_,_,rfl⟩ i)|rfl|(rw[mem (λt g=>g)])|(rename_i a b;rw[mem (x:=a) (λt g=>by simp[g]),mem (x:=b) (λt g=>by simp[g])])|(rename_i a b c;rw[mem (x:=a) (λt g=>by simp[g]),mem (x:=b) (λt g=>by simp[g]),mem (x:=c) (λt g=>by simp[g])])|(rw[abN _ h])|skip
 case ia fn x y=>rw[FO x (λt g=>h t (by simp[g])),FO y (λt g=>h t (by simp[g]))]
 case gt x a b=>rw[mem (x:=x) (λt g=>by simp[g]),FN a (λt g=>h t (by simp[g])),FN b (λt g=>h t (by simp[g]))]
 case hQ p x a b c=>rw[mem (x:=x) (λt g=>by simp[g]),FN a (λt g=>h t (by simp[g])),FN b (λt g=>h t (by simp[g]))]
 case gj n p x a b c=>rw[mem (x:=x) (λt g=>by simp[g]),FN a (λt g=>h t (by simp[g])),FN b (λt g=>h t (by simp[g]))]
 case gR N m k ok=>grind
 all_goals first
  |(rw[FO _ h])|(rename_i f l;rw[mem (x:=f) (λt g=>by simp[g]),FO l (λt g=>h t (by simp[g]))])|(rename_i f m l;rw[mem (x:=f) (λt g=>by simp[g]),FO l (λt g=>h t (by simp[g]))])|(rename_i q;rw[mem (x:=q) (λt g=>by simp[g])])
theorem VM{e:Env}{O:St}{b:XI}{out:Out}(a:b.aq=eF)(h:evI C e O b=J out):∃v,out=.ew v O:=by
 cases b<;>simp[XI.aq]at a<;>simp only[evI,aB]at h<;>
  (repeat' (first|(cases h;exact⟨_,rfl⟩)|(cases h;done)|(simp only[ay4]at h;obtain⟨_,_,rfl⟩:=h;exact⟨_,rfl⟩)|(rw[a]at h;cases h;exact⟨_,rfl⟩)|split at h))
def al8{e:Env}{O:St}{a:XI}{v:AV}(b:a.aq=eF)(c:a.dl=eF)(h:evI C e O a=J (.ew v O))(O':St):evI C e O' a=J (.ew v O'):=by
 cases a<;>simp[XI.aq]at b<;>simp[XI.dl]at c<;>simp only[evI,aB]at h⊢<;>
  (repeat' (first|(cases h;rfl)|(cases h;done)|(simp only[ay4]at h⊢;obtain⟨u,d,hv⟩:=h;cases hv;exact⟨_,d,rfl⟩)|(split at h<;>simp_all [BX])))
end
mutual
theorem yG:∀a:AV,same a a=eT
 |.cX a=>by simp[same]
 |.cU k a=>by simp[same]
 |.cV a=>by simp[same,vk]
 |.ev=>by simp[same]
 |.c8 o f=>by simp[same]
 |.em a=>by rw[same];exact vX a
 |.cY=>by simp[same]
 |.fu=>by simp[same]
 |.sl n l=>by rw[same,vX l];simp
 |.eC n l=>by rw[same,vX l];simp
 |.dj o f n d=>by simp[same]
 |.ec m=>by simp[same]
 |.eA=>by simp[same]
 |.ea f x y=>by rw[same,vX x,vX y];simp
 |.ep=>by simp[same]
 |.eb t v=>by rw[same,yG v];simp
 |.ej=>by simp[same]
 |.da l=>by rw[same];exact vX l
 |.df l=>by rw[same];exact vX l
theorem vX:∀l:LA,xk l l=eT
 |[]=>by simp[xk]
 |a::l=>by rw[xk,yG a,vX l];rfl
end
def direct(o:Oper):List Nat:=(o.after.toList.filter (Region.binds .any)).map (·.on)
structure Anc(ops:List Oper)(an:List (List Nat)):Prop where
 dt:an.length=ops.length
 lt:∀(i:Nat) (o:Oper),ops[i]?=some o->∀j∈direct o,j<i
 m9:∀(i:Nat) (o:Oper),ops[i]?=some o->∀k,k∈an.getD i []->k∈direct o\/∃j∈direct o,k∈an.getD j []
def abH:∀(l done:List Oper) (acc an:List (List Nat)),Anc done acc->akP acc l=J an->Anc (done++l) an
 |[],done,acc,an,h,d=>by grind [akP]
 |o::l,done,acc,an,h,d=>by
  simp only[akP]at d;split at d
  ·rename_i c;have h2:Anc (done++[o]) (acc++[((o.after.toList.filter (Region.binds .any)).map (·.on)++((o.after.toList.filter (Region.binds .any)).map (·.on)).flatMap λj=>acc.getD j []).eraseDups]):=by
    have e:∀j∈direct o,j<z acc:=λj hj=>by simpa using a97.1 c j hj
    refine⟨by simp[h.dt],λi n a j hj=>?_,λi n a k b=>?_⟩;·grind [Anc]
    ·rw[aC0]at a;split at a;·rename_i m;have e1:(acc++[((o.after.toList.filter (Region.binds .any)).map (·.on)++((o.after.toList.filter (Region.binds .any)).map (·.on)).flatMap λj=>acc.getD j []).eraseDups]).getD i []=acc.getD i []:=(by grind [Anc]);grind [Anc]
     ·rename_i g;have hi:i-z done=0:=(by grind);rw[hi]at a;simp at a;subst a;have f:i=z acc:=by rw[h.dt];omega
      subst f;rw[az8,aE3 (a06 _)]at b;simp only[Nat.sub_self,aF5,aD7,List.mem_eraseDups,aD3,aG2]at b;rcases b with b|⟨j,hj,b⟩;·exact .inl b
      ·refine .inr ⟨j,hj,?_⟩;grind
   have:=abH l (done++[o]) _ an h2 d;simpa using this
  ·cases d
def aqD{ops:List Oper}{an:List (List Nat)}(h:akP [] ops=J an):Anc ops an:=by have:=abH ops [] [] an ⟨rfl,by simp,by simp⟩ h;simpa using this
section
variable{ops:Array Oper}{an:List (List Nat)}
def Closed(ops:Array Oper)(L:Nat->Bool):Prop:=∀(i:Nat) (o:Oper),ops[i]?=J o->L i=eT->∀j∈direct o,L j=eT
theorem af8(ha:Anc ops.toList an){L:Nat->Bool}(f:Closed ops L):∀(i:Nat) (o:Oper),ops[i]?=J o->(∀j∈direct o,L j=eT)->∀k∈an.getD i [],L k=eT:=by
 intro i
 induction i using Nat.strongRecOn with
 |_ i m=>
  intro o e d k g;rcases ha.m9 i o (by simpa using e) k g with h|⟨j,c,h2⟩;·exact d k h
  ·have hj:=ha.lt i o (by simpa using e) j c;have a:j<ops.size:=(by grind);have b:ops[j]?=J ops[j]:=aA0 a;exact m j hj _ b (λq l=>f j _ b (d j c) q l) k h2
theorem amJ(ha:Anc ops.toList an):∀(i:Nat) (o:Oper),ops[i]?=J o->∀k∈an.getD i [],k<i:=by
 intro i
 induction i using Nat.strongRecOn with
 |_ i d=>
  intro o a k b;rcases ha.m9 i o (by simpa using a) k b with h|⟨j,c,h2⟩;·exact ha.lt i o (by simpa using a) k h
  grind [Anc]
end
structure Run(C:Ctx)(call:bH)(l:List XOp)(E:Nat->Env)(S:Nat->St)(V:Nat->AV):Prop where
 op:∀(i:Nat) (o:XOp),l[i]?=some o->CB C call o (E i) (S i)=some (V i,S (i+1))
 az:∀(i:Nat) (o:XOp),l[i]?=some o->E (i+1)=put (E i) o.aM (V i)
def Zw {C:Ctx} {call:bH}:∀(l:List XOp) (e a:Env) (O O':St) (rs:List (Env×AV)) (ss:List St),xB C call l e O=J (a,O',rs,ss)->
  ∃E S V,E 0=e/\S 0=O/\E (z l)=a/\S (z l)=O'/\Run C call l E S V/\(∀i,i<z l->rs[i]?=J (E i,V i))/\(∀i,i<=z l->ss[i]?=J (S i))
 |[],e,a,O,O',rs,ss,h=>by simp[xB]at h;obtain⟨rfl,rfl,rfl,rfl⟩:=h;exact⟨λ_=>e,λ_=>O,λ_=>.dT,rfl,rfl,rfl,rfl,⟨by simp,by simp⟩,by simp,λi hi=>by simp at hi;subst hi;rfl⟩
 |o::l,e,a,O,O',rs,ss,h=>by
  simp only[xB]at h;split at h
  ·rename_i v j q;split at h
   ·rename_i e2 k f g h2;simp at h;obtain⟨rfl,rfl,rfl,rfl⟩:=h;obtain⟨E,S,V,s,u,b,c,t,m,n⟩:=Zw l _ e2 j k f g h2;refine⟨λi=>match i with|0=>e|i+1=>E i,λi=>match i with|0=>O|i+1=>S i,λi=>match i with|0=>v|i+1=>V i,rfl,rfl,b,c,⟨λi p d=>?_,λi p d=>?_⟩,λi hi=>?_,λi hi=>?_⟩;·grind [Run]
    ·grind [Run]
    ·grind
    grind
   ·cases h
  ·cases h
def QA {C:Ctx} {ss:List St}:∀(l:List XOp) (rs:List (Env×AV)),zA C ss l rs=eT->∀(i:Nat) (o:XOp) (e:Env) (v:AV),l[i]?=J o->rs[i]?=J (e,v)->pW o e=eT->∀c∈o.aT,
  ∃s d v1 v2 s1 s2,ss[c]?=J s/\ss[c+1]?=J d/\evI C e s o.i=J (.ew v1 s1)/\evI C e d o.i=J (.ew v2 s2)/\v1=v/\v2=v
 |[],rs,h,i,o,e,v,b,hr,j,c,g=>by simp at b
 |k::l,[],h,i,o,e,v,b,hr,j,c,g=>by simp at hr
 |k::l,(e0,v0)::rs,h,i,o,e,v,b,hr,j,c,g=>by
  simp only[zA,a01,aB4,aF6]at h;cases i with
  |succ i=>exact QA l rs h.2 i o e v (by simpa using b) (by simpa using hr) j c g
  |zero=>
   simp at b hr;obtain⟨rfl⟩:=b;obtain⟨rfl,rfl⟩:=hr;rcases h.1 with f|f;·rw[j]at f;cases f
   ·have key:∀q:List Nat,Lh C k e0 v0 ss q=eT->c∈q->∃s d v1 v2 s1 s2,ss[c]?=J s/\ss[c+1]?=J d/\evI C e0 s k.i=J (.ew v1 s1)/\evI C e0 d k.i=J (.ew v2 s2)/\v1=v0/\v2=v0:=by
     intro q
     induction q with
     |nil=>intro _ hm;simp at hm
     |cons q0 q n=>
      intro m hm;simp only[Lh,a01]at m;rcases az4.1 hm with rfl|hm
      ·have a:=m.1;split at a
       ·rename_i s d h2 h3;split at a;·rename_i v1 s1 v2 s2 h4 h5;simp only[a01]at a;grind [same_eq]
        ·cases a
       ·cases a
      ·exact n m.2 hm
    exact key _ f g
section
variable{C:Ctx}{call:bH}{ops:Array Oper}{an:List (List Nat)}{l:List XOp}{E:Nat->Env}{S:Nat->St}{V:Nat->AV}
theorem Pq(hok:Ih an l=eT){i j:Nat}(a:i<j){x y:XOp}(d:l[i]?=J x)(c:l[j]?=J y)(h:clash x y=eT\/(x.i.aq=eT/\y.i.aq=eT)):i∈an.getD j []:=by unfold Ih at hok;have hj:j<z l:=(a00.1 c).1;have b:=a97.1 hok j (aD4.2 hj);simp only[a01]at b;have h2:=a97.1 b.2 i (aD4.2 a);unfold aiq at h2;grind
theorem ajI(hok:Ih an l=eT){j:Nat}{y:XOp}(b:l[j]?=J y){k d sz:Nat}{x:XA}(hf:y.i=.gA k d sz x):k∈an.getD j []:=by unfold Ih at hok;have hj:j<z l:=(a00.1 b).1;have a:=a97.1 hok j (aD4.2 hj);simp only[a01]at a;have h2:=a.1;unfold ahN at h2;obtain⟨c,i,g,lo⟩:=y;grind
structure Std(ops:Array Oper)(l:List XOp)(E:Nat->Env)(S:Nat->St)(V:Nat->AV)(L:Nat->Bool)(e:Env)(k:Nat):Prop where
 fv:Closed ops L
 dt:e.length=(E 0).length
 az:∀t,t<(E 0).length->(∃j o,l[j]?=some o/\L j=true/\o.aM=some t/\e[t]?=some (V j)/\∀j' o',l[j']?=some o'->L j'=true->o'.aM=some t->j'<=j)\/((∀j o,l[j]?=some o->L j=true->o.aM≠some t)/\e[t]?=(E 0)[t]?)
 k6:k<=l.length
 m6:∀c o,l[c]?=some o->o.i.aq=true->c<k->L c=true
 h1:∀c o,l[c]?=some o->o.i.aq=true->k<=c->L c=false
theorem La(e:Env)(d:Option Nat)(v:AV):z (put e d v)=z e:=by cases d<;>simp[put]
theorem aki(e:Env)(d:Option Nat)(v:AV)(t:Nat):(put e d v)[t]?=if d=J t/\t<z e then J v else e[t]?:=by
 cases d with
 |none=>simp[put]|some d=>simp only[put,List.getElem?_set];grind
theorem Run.gE(a:Run C call l E S V):∀i,i<=z l->z (E i)=z (E 0)|0,_=>rfl|i+1,h=>by have hi:i<z l:=(by omega);rw[a.az i _ (a02 hi),La];exact a.gE i (by omega)
theorem Run.hl(a:Run C call l E S V):∀i,i<=z l->∀t,t<z (E 0)->(∃j o,j<i/\l[j]?=J o/\o.aM=J t/\(E i)[t]?=J (V j)/\∀c e,c<i->l[c]?=J e->e.aM=J t->c<=j)\/((∀j o,j<i->l[j]?=J o->o.aM≠J t)/\(E i)[t]?=(E 0)[t]?)
 |0,_,t,d=>.inr ⟨λj o hj=>by omega,rfl⟩
 |i+1,h,t,d=>by
  have hi:i<z l:=(by omega);have b:=a02 hi;rw[a.az i _ b,aki,a.gE i (by omega)];by_cases g:l[i].aM=J t;·grind
  ·rw[if_neg (λh=>g h.1)];rcases a.hl i (by omega) t d with⟨j,o,f,h2,h3,h4,h5⟩|⟨f,h2⟩;·grind
   grind
theorem Run.e8(k:Run C call l E S V){a b:Nat}(m:a<=b)(hb:b<=z l)(e:∀c o,a<=c->c<b->l[c]?=J o->o.i.aq=eF):S a=S b:=by
 induction b with
 |zero=>grind
 |succ b p=>
  rcases aH3 a (b+1)with h|h
  ·rw[p (by omega) (by omega) (λc o j h2=>e c o j (by omega))];have g:b<z l:=(by omega);have f:=a02 g;have d:=k.op b _ f;have n:=e b _ (by omega) (by omega) f;unfold CB at d;split at d;·cases i:evI C (E b) (S b) l[b].i with|none=>rw[i]at d;cases d|some out=>grind [VM]
   ·simp at d;exact d.2
  grind
end
set_option linter.unusedSectionVars false
section
variable{C:Ctx}{call:bH}{ops:Array Oper}{an:List (List Nat)}{l:List XOp}{E:Nat->Env}{S:Nat->St}{V:Nat->AV}{L:Nat->Bool}{e:Env}{k:Nat}
structure Rdy(ops:Array Oper)(L:Nat->Bool)(i:Nat):Prop where
 un:L i=false
 mL:∀o,ops[i]?=some o->∀j∈direct o,L j=true
variable(hlen:l.length=ops.size)(ha:Anc ops.toList an)(hok:Ih an l=true)
 include hlen ha hok
theorem Std.ei(hs:Std ops l E S V L e k){i:Nat}(hr:Rdy ops L i)(hi:i<z l){j:Nat}(hj:j∈an.getD i []):L j=eT:=by have a:ops[i]?=J (ops[i]'(by omega)):=aA0 (by omega);exact af8 ha hs.fv i _ a (hr.mL _ a) j hj
theorem Std.ek(hs:Std ops l E S V L e k){i:Nat}(hr:Rdy ops L i){j:Nat}(hj:j<z l)(b:i∈an.getD j []):L j=eF:=by
 cases hL:L j with
 |false=>rfl|true=>have a:ops[j]?=J (ops[j]'(by omega)):=aA0 (by omega);have:=af8 ha hs.fv j _ a (hs.fv j _ a hL) i b;rw[hr.un]at this;cases this
theorem Std.c7(hs:Std ops l E S V L e k)(f:Run C call l E S V){i:Nat}(hr:Rdy ops L i){x:XOp}(p:l[i]?=J x):Agree (E i) e x.aw:=by
 have hi:i<z l:=(a00.1 p).1;intro t q;rw[az8,az8];have y:=f.gE i (by omega);rcases aH3 t (z (E 0)) with a|a
 ·congr 1;have A:∀j o,l[j]?=J o->L j=eT->o.aM=J t->j<i:=λj o c hL m=>by
   rcases Nat.lt_trichotomy j i with h|h|h;·exact h
   ·subst h;rw[hr.un]at hL;cases hL
   ·have g:clash x o=eT:=by unfold clash;simp[m,q]
    have:=Pq hok h p c (.inl g);rw[hs.ek hlen ha hok hr (a00.1 c).1 this]at hL;cases hL
  have B:∀j o,l[j]?=J o->j<i->o.aM=J t->L j=eT:=λj o c n m=>by
   have g:clash o x=eT:=by unfold clash;simp[m,q]
   exact hs.ei hlen ha hok hr hi (Pq hok n c p (.inl g))
  rcases hs.az t a with⟨j,o,w,h2,h3,h4,h5⟩|⟨w,h2⟩
  ·rcases f.hl i (by omega) t a with⟨D,F,d,b,s,u,v⟩|⟨d,b⟩;·grind
   grind
  ·rcases f.hl i (by omega) t a with⟨D,F,d,b,s,u,v⟩|⟨d,b⟩;·grind
   ·rw[b,h2]
 grind [hs.dt]
def uV(L:Nat->Bool)(i:Nat):Nat->Bool:=λj=>if j=i then eT else L j
theorem Std.b9 (hs:Std ops l E S V L e k) {i:Nat} (hr:Rdy ops L i) {x:XOp} (s:l[i]?=J x) {k':Nat} (y:k'<=z l) (d:∀c o,l[c]?=J o->o.i.aq=eT->c<k'->uV L i c=eT) (a:∀c o,l[c]?=J o->o.i.aq=eT->k'<=c->uV L i c=eF):
  Std ops l E S V (uV L i) (Ev.put e x.aM (V i)) k':=by
 have hi:i<z l:=(a00.1 s).1;refine⟨λj o p hL q u=>?_,by rw[La];exact hs.dt,λt A=>?_,y,d,a⟩
 ·simp only[uV]at hL⊢;split;·rfl
  ·by_cases b:j=i;·subst b;exact hr.mL o p q u
   ·rw[if_neg b]at hL;exact hs.fv j o p hL q u
 ·rw[aki,hs.dt];by_cases g:x.aM=J t
  ·rw[if_pos ⟨g,A⟩];refine .inl ⟨i,x,s,by simp[uV],g,rfl,λB C f m n=>?_⟩;rcases aH3 i B with h|h
   ·exfalso;have v:clash x C=eT:=by unfold clash;simp[g,n]
    have:=hs.ek hlen ha hok hr (a00.1 f).1 (Pq hok h s f (.inl v));simp only[uV]at m;grind
   ·exact h
  ·rw[if_neg (λh=>g h.1)];have hL:∀j o,l[j]?=J o->o.aM=J t->uV L i j=L j:=λj o p w=>by simp only[uV];grind
   grind [Std]
theorem Std.bk (hs:Std ops l E S V L e k) (D:Run C call l E S V) (ab:∀(i:Nat) (o:XOp),l[i]?=J o->pW o (E i)=eT->∀c∈o.aT,∃v1 v2 s1 s2,evI C (E i) (S c) o.i=J (.ew v1 s1)/\evI C (E i) (S (c+1)) o.i=J (.ew v2 s2)/\v1=V i/\v2=V i)
  (q:∀(i:Nat) (o:XOp),l[i]?=J o->o.i.dl=eT->∀(c:Nat) (R:XOp),l[c]?=J R->R.i.aq=eT->c≠i->c∉an.getD i []->i∉an.getD c []->c∈o.aT) {i:Nat} (hr:Rdy ops L i) {x:XOp} (B:l[i]?=J x):
  ∃k',CB C call x e (S k)=J (V i,S k')/\Std ops l E S V (uV L i) (Ev.put e x.aM (V i)) k':=by
 have hi:i<z l:=(a00.1 B).1;have M:=hs.c7 hlen ha hok D hr B;have n:∀s,CB C call x e s=CB C call x (E i) s:=λs=>by
  have w:pW x e=pW x (E i):=by
   unfold pW;cases hg:x.aS with
   |none=>rfl|some p=>obtain⟨t,b⟩:=p;have ht:t∈x.aw:=(by simp[XOp.aw,hg]);have:=M t ht;rw[az8,az8]at this;simp only;have el:=D.gE i (by omega);grind [Std]
  have h2:evI C e s x.i=evI C (E i) s x.i:=(al7 (by rw[hs.dt];exact D.gE i (by omega)) s x.i (λt ht=>M t (by simp[XOp.aw,ht]))).symm;unfold CB;rw[w,h2]
 have y:x.i.aq=eT->S k=S i:=λG=>by
  rcases Nat.le_total k i with h|h;·refine D.e8 h (by omega) λc o w h2 f=>?_;cases a:o.i.aq with|false=>rfl|true=>have:=hs.ei hlen ha hok hr hi (Pq hok h2 f B (.inr ⟨a,G⟩));rw[hs.h1 c o f a w]at this;cases this
  grind [Std,Rdy]
 cases G:x.i.aq with
 |true=>
  refine⟨i+1,by rw[n,y G];exact D.op i x B,hs.b9 hlen ha hok hr B (by omega) (λc o f a h=>?_) (λc o f a h=>?_)⟩
  ·simp only[uV];split;·rfl
   ·exact hs.ei hlen ha hok hr hi (Pq hok (by omega) f B (.inr ⟨a,G⟩))
  ·simp only[uV];rw[if_neg (by omega)];exact hs.ek hlen ha hok hr (a00.1 f).1 (Pq hok (by omega) B f (.inr ⟨G,a⟩))
 |false=>
  refine⟨k,?_,hs.b9 hlen ha hok hr B hs.k6 (λc o f a h=>?_) (λc o f a h=>?_)⟩
  ·rw[n];have j:=D.op i x B;unfold CB at j⊢;split
   ·rename_i hw;rw[if_pos hw]at j;cases A:evI C (E i) (S i) x.i with
    |none=>rw[A]at j;cases j
    |some out=>
     rw[A]at j;obtain⟨v,rfl⟩:=VM G A;simp at j;obtain⟨rfl,_⟩:=j;cases I:x.i.dl with
     |false=>rw[al8 G I A (S k)]
     |true=>
      by_cases K:S k=S i;·rw[K,A]
      ·
       have F:∃c∈x.aT,S k=S c\/S k=S (c+1):=by
        rcases aH3 k i with O|O
        ·
         have F:∃c,k<=c/\c<i/\∃o,l[c]?=J o/\o.i.aq=eT:=by refine aG5 λX=>K (D.e8 (by omega) (by omega) λc o w h2 f=>?_);grind
         have Q:∃c,(k<=c/\c<i/\∃o,l[c]?=J o/\o.i.aq=eT)/\∀d,d<c->¬(k<=d/\d<i/\∃o,l[d]?=J o/\o.i.aq=eT):=by
          obtain⟨u,H⟩:=F
          induction u using Nat.strongRecOn with
          |_ u ih=>
           by_cases W:∃d,d<u/\(k<=d/\d<i/\∃o,l[d]?=J o/\o.i.aq=eT);·obtain⟨d,w,h2⟩:=W;exact ih d w h2
           grind
         obtain⟨c,⟨w,h2,o,f,a⟩,hm⟩:=Q;refine⟨c,q i x B I c o f a (by omega) (λg=>?_) (λg=>?_),.inl (D.e8 w (by omega) λd R h3 h4 Y=>?_)⟩;·have:=hs.ei hlen ha hok hr hi g;rw[hs.h1 c o f a w]at this;cases this
         ·have Z:ops[c]?=J (ops[c]'(by omega)):=aA0 (by omega);have:=amJ ha c _ Z i g;omega
         grind
        ·have F:∃c,i<=c/\c<k/\∃o,l[c]?=J o/\o.i.aq=eT:=by refine aG5 λX=>K (D.e8 O hs.k6 λc o w h2 f=>?_).symm;grind
         have P:∃c,(i<=c/\c<k/\∃o,l[c]?=J o/\o.i.aq=eT)/\∀d,c<d->¬(i<=d/\d<k/\∃o,l[d]?=J o/\o.i.aq=eT):=by
          obtain⟨u,H⟩:=F;have key:∀m u,k-u=m->(i<=u/\u<k/\∃o,l[u]?=J o/\o.i.aq=eT)->∃c,(i<=c/\c<k/\∃o,l[c]?=J o/\o.i.aq=eT)/\∀d,c<d->¬(i<=d/\d<k/\∃o,l[d]?=J o/\o.i.aq=eT):=by
           intro m
           induction m using Nat.strongRecOn with
           |_ m ih=>
            intro u hm H;by_cases T:∃d,u<d/\(i<=d/\d<k/\∃o,l[d]?=J o/\o.i.aq=eT);·obtain⟨d,w,h2⟩:=T;exact ih (k-d) (by omega) d rfl h2
            grind
          exact key _ u rfl H
         obtain⟨c,⟨w,h2,o,f,a⟩,hm⟩:=P;have N:c≠i:=λh=>by grind
         refine⟨c,q i x B I c o f a N (λg=>?_) (λg=>?_),.inr (D.e8 (by omega) hs.k6 λd R h3 h4 Y=>?_).symm⟩;·have aa:ops[i]?=J (ops[i]'(by omega)):=aA0 (by omega);have:=amJ ha i _ aa c g;omega
         ·have:=hs.ek hlen ha hok hr (a00.1 f).1 g;rw[hs.m6 c o f a h2]at this;cases this
         grind
       grind [VM]
   grind
  ·simp only[uV];split;·rfl
   ·exact hs.m6 c o f a h
  ·simp only[uV];rw[if_neg (λN=>by grind)];exact hs.h1 c o f a h
end
structure pI(ops:Array Oper)(k j d:Nat)(t:TypeId)(x:Operand):Prop where
 lt:k<j
 dr:∃o,ops[k]?=some o/\o.dst=some d/\o.op=.alloc t/\o.guard=none
 st:∃o,ops[j]?=some o/\o.dst=none/\o.op=.store t (.tmp d) x/\o.guard=none
 nx:x≠ .tmp d
 lS:∀(q:Nat) (o:Oper),ops[q]?=some o->q≠k->q≠j->o.dst≠some d/\∀y∈o.op.operands,y≠ .tmp d
 gd:∀(q:Nat) (o:Oper) (r:Nat) (b:Bool),ops[q]?=some o->o.guard=some (r,b)->r≠k
def ahw{o:Oper}{d:Nat}{t:TypeId}(h:Oz o=J (d,t)):o.dst=J d/\o.op=.alloc t/\o.guard=U:=by grind [Oz]
def aiT{o:Oper}{d:Nat}{t:TypeId}{x:Operand}(h:PP o=J (t,d,x)):o.dst=U/\o.op=.store t (.tmp d) x/\o.guard=U:=by grind [PP]
def afS{d:Nat}{x:Operand}:ajV d x=eT↔x=.tmp d:=by cases x<;>simp[ajV]
def Jv{ops:Array Oper}{k j:Nat}(h:rD ops k=J j):∃d t x,pI ops k j d t x:=by
 unfold rD at h;split at h
 ·rename_i d e C;obtain⟨ok,hok,a⟩:=a03.1 C;obtain⟨a1,a2,a3⟩:=ahw a;split at h;·cases h
  ·rename_i G;split at h
   ·rename_i F hf;split at h
    ·rename_i t w x hj;obtain⟨H,g,m⟩:=a03.1 hj;obtain⟨b1,u,v⟩:=aiT m;split at h
     ·rename_i p;simp at h;subst h;simp only[a01,decide_eq_true_eq,beq_iff_eq,aF6]at p;obtain⟨⟨⟨A,rfl⟩,rfl⟩,h4⟩:=p;refine⟨w,t,x,A,⟨_,hok,a1,a2,a3⟩,⟨_,g,b1,u,v⟩,λD=>?_,λq o f l i=>?_,λq o N b f B=>?_⟩;·rw[afS.2 D]at h4;cases h4
      ·have s:q∉[F]:=by simp;exact i
       rw[<-hf,List.mem_filter,aD4,not_and]at s;have c:=(aD0.1 f).1;have:=s c;simp only[ag6,f,a01,bne_iff_ne,ne_eq,aB4,beq_iff_eq,not_and,not_or]at this;obtain⟨q1,q2⟩:=this l;refine⟨q1,λy E n=>q2 ?_⟩;rw[aG9];exact⟨_,Array.mem_toList_iff.2 E,afS.2 n⟩
      grind [ach]
     ·cases h
    ·cases h
   ·cases h
 ·cases h
def wH{ops:Array Oper}{k j d:Nat}{t:TypeId}{x:Operand}(h:pI ops k j d t x):(ops[k]?).bind Oz=J (d,t):=by grind [h.dr,Oz]
def X6{ops:Array Oper}{k j d:Nat}{t:TypeId}{x:Operand}(h:pI ops k j d t x):(ops[j]?).bind PP=J (t,d,x):=by grind [h.st,PP]
theorem Rf{ops:Array Oper}{k k' j d a:Nat}{t b:TypeId}{x c:Operand}(h:pI ops k j d t x)(e:pI ops k' j a b c):k=k':=by grind [pI]
def ahO{ops:Array Oper}{k k' j c d a:Nat}{t e:TypeId}{x f:Operand}(h:pI ops k j d t x)(g:pI ops k' c a e f)(b:k≠k'):d≠a:=by grind [pI]
section
variable{C:Ctx}{ops:Array Oper}
inductive Cls(C:Ctx)(ops:Array Oper)(i:Nat)(o:Oper)(x:XOp):Prop|eO (h0:∀k,rD ops k≠some i) (h1:rD ops i=none) (gd:Option (Nat×Bool)) (hg:I8 ops o=some gd) (hx:x.aM=o.dst/\x.i=(cI C.P o).getD .eD/\x.aS=gd)|gH (j d:Nat) (t:TypeId) (y:Operand) (h:rD ops i=some j) (hf:pI ops i j d t y) (z:AV) (hz:Hq C.P t=some z) (hx:x.aM=none/\x.i=.gH/\x.aS=none)|gA (k d:Nat) (t:TypeId) (y:Operand) (h:rD ops k=some i) (hf:pI ops k i d t y) (z:AV) (hz:Hq C.P t=some z) (inf:TypeInfo) (hi:C.P.info? t=some inf) (hzs:z.cH.length=inf.size) (a:XA) (ha:cA y=some a) (hx:x.aM=some d/\x.i=.gA k d inf.size a/\x.aS=none)
def ana{i:Nat}{o:Oper}{x:XOp}(m:ops[i]?=J o)(h:cOp C.P eT ops i o=J x):Cls C ops i o x:=by
 simp only[cOp,ay3,a03,aA6,if_true]at h;obtain⟨gd,g,h⟩:=h;split at h
 ·rename_i hf;obtain⟨j,hj⟩:=aA7.1 hf;obtain⟨d,t,y,b⟩:=Jv hj;obtain⟨u,f,h2,h3,h4⟩:=b.dr;rw[m]at f;cases f;rw[h3]at h;simp only at h;split at h
  ·rename_i N n;simp at h;subst h;have c:gd=U:=by simp[I8,h4]at g;exact g.symm
   exact .gH j d t y hj b N n ⟨rfl,rfl,c⟩
  ·cases h
 ·rename_i hf;split at h
  ·rename_i k q;have e:=List.find?_some q;simp only[beq_iff_eq]at e;obtain⟨d,t,y,b⟩:=Jv e;have e1:=wH b;have e2:=X6 b;rw[m]at e2;simp only[Option.bind_some]at e2;rw[e1,e2]at h;simp only at h;split at h
   ·rename_i N inf a n hi ha;split at h
    ·rename_i p;simp at h;subst h;obtain⟨u,f,h2,h3,h4⟩:=b.st;rw[m]at f;cases f;have c:gd=U:=by simp[I8,h4]at g;exact g.symm
     exact .gA k d t y e b N n inf hi p a ha ⟨rfl,rfl,c⟩
    ·cases h
   ·cases h
  ·rename_i q;simp at h;subst h;refine .eO (λk b=>?_) (by simpa using hf) gd g ⟨rfl,rfl,rfl⟩;obtain⟨d,t,y,s⟩:=Jv b;grind [pI]
end
section
variable{C:Ctx}{call:bH}{ops:Array Oper}
def adV{g:Gh}{w:World}{O:St}(h:WR g w O)(o:Obj):Goes g O w g O (yX w o):=by
 refine⟨.ah g,⟨h.n,λb i v hv=>?_,λb i v hv=>by grind [oV,WR],λk y a=>?_,h.inj⟩,rfl,rfl,rfl,by simp[yX],λb hb d=>⟨d,oV w o hb,λ_=>rfl⟩⟩;·rw[yh (oV w o (h.ct hv))];exact h.im b i v hv
 ·exact OR.D (h.bx k y a) (.ah g) (h.lt a) (λc=>oV w o (h.db a c)) (λ_ _ _ hv=>hv)
def ahS{g:Gh}{w:World}{O:St}(h:WR g w O):ads g O w.heap.size:=λo x b a c=>by have:=h.db b a;omega
def ahV {g:Gh} {w l:World} {O:St} (h:WR g w O) {b:Nat} (A:ads g O b) (o:∀i,g.im b i=U) (hb:b<w.heap.size) (F:l.os=w.os) (u:l.tape=w.tape) (D:l.output=w.output) (G:l.heap.size=w.heap.size)
  (j:∀k,k≠b->l.heap[k]?=w.heap[k]?) (x:AO) (s:Nat) (K:OR (g.ab b s) l g.n x):WR (g.ab b s) l (O++[x]):=by
 have f:=g.cd b s;refine⟨by simp[Gh.ab,h.n],λd i v hv=>?_,λd i v hv=>?_,λk y B=>?_,λk k' y H B C q t m=>?_⟩
 ·by_cases c:d=b;·subst c;have:g.im d i=J v:=hv;rw[o i]at this;cases this
  ·rw[yh (j d c)];exact h.im d i v hv
 ·by_cases c:d=b;·subst c;have:g.im d i=J v:=hv;rw[o i]at this;cases this
  ·rw[j d c];exact h.uf d i v hv
 ·rcases jL B with⟨_,n⟩|⟨I,rfl⟩;·exact OR.D (h.bx k y n) f (h.lt n) (λq=>j _ (λe=>A k y n q e)) (λ_ _ _ hv=>hv)
  grind [h.n]
 ·rcases jL B with⟨a,n⟩|⟨a,ha⟩<;>rcases jL C with⟨a',p⟩|⟨a',E⟩;·grind [WR,Gh.le]
  ·exfalso;rw[f.ob k (h.lt n)]at m;rw[<-h.n]at a';subst a';simp[Gh.ab]at m;exact A k y n q m
  ·exfalso;rw[f.ob k' (h.lt p)]at m;rw[<-h.n]at a;subst a;simp[Gh.ab]at m;exact A k' H p t m.symm
  ·omega
structure Sim(C:Ctx)(ops:Array Oper)(L:Nat->Bool)(g0:Gh)(O0:St)(w0:World)(d0:List Deferred)(e:Env)(s:St)(a:Act)(w:World)(g:Gh)(a':Act)(B:Nat->Nat):Prop where
 le:g0.le g
 wr:WR g w s
 os:w.os=w0.os
 cO:w.tape=w0.tape
 bX:w.output=w0.output
 al:w0.heap.size<=w.heap.size
 fr:∀b,b<w0.heap.size->ads g0 O0 b->ads g s b/\w.heap[b]?=w0.heap[b]? /\∀i,g.im b i=g0.im b i
 ar:AR g e a'
 fx:a.defers=d0
 he:a.tmps.size=a'.tmps.size
 hx:∀t,(∀k j d ty y,rD ops k=some j->pI ops k j d ty y->L k=true->L j=false->t≠d)->a.tmps[t]?=a'.tmps[t]?
 gH:∀k j d ty y,rD ops k=some j->pI ops k j d ty y->L k=true->L j=false->w0.heap.size<=B k/\B k<w.heap.size/\ads g s (B k)/\(∀i,g.im (B k) i=none)/\(d<a.tmps.size->a.tmps[d]?=some (.pointer (some ⟨B k,0,none⟩)))/\∃c i z,w.heap[B k]?=some (.cells c ty)/\C.P.info? ty=some i/\Hq C.P ty=some z/\c.size=z.cH.length
 hB:∀k k' j j' d d' ty ty' y y',rD ops k=some j->pI ops k j d ty y->L k=true->L j=false->rD ops k'=some j'->pI ops k' j' d' ty' y'->L k'=true->L j'=false->k≠k'->B k≠B k'
def Sim.ff{L:Nat->Bool}{g0:Gh}{O0:St}{w0:World}{d0:List Deferred}{e:Env}{s:St}{a:Act}{w:World}{g:Gh}{a':Act}{B:Nat->Nat}(h:Sim C ops L g0 O0 w0 d0 e s a w g a' B):Goes g0 O0 w0 g s w:=
 ⟨h.le,h.wr,h.os,h.cO,h.bX,h.al,h.fr⟩
end
section
variable{C:Ctx}{call:bH}{ops:Array Oper}{L:Nat->Bool}{g0:Gh}{O0:St}{w0:World}{d0:List Deferred}{e:Env}{s:St}{a:Act}{w:World}{g:Gh}{a':Act}{B:Nat->Nat}{Q:Exit->Act->World->Prop}
theorem JH(a:Act)(d:Option Nat)(v:Value)(t:Nat):(a.put d v).tmps[t]?=if d=J t/\t<a.tmps.size then J v else a.tmps[t]?:=by
 cases d with
 |none=>simp[Act.put]|some d=>simp only[Act.put,Array.getElem?_setIfInBounds];grind
def DC(a:Act)(d:Option Nat)(v:Value):(a.put d v).tmps.size=a.tmps.size:=by cases d<;>simp[Act.put]
def put_defers(a:Act)(d:Option Nat)(v:Value):(a.put d v).defers=a.defers:=by cases d<;>rfl
def ac6{x:Operand}(h:∀t,x=.tmp t->a.tmps[t]?=a'.tmps[t]?):a.eval x=a'.eval x:=by
 cases x with
 |tmp t=>simp only[Act.eval];have:=h t rfl;simp[this]|_=>rfl
theorem am2 (G:eY C call) (l:Sim C ops L g0 O0 w0 d0 e s a w g a' B) (Z:GL C g) {i:Nat} {o:Oper} (ho:ops[i]?=J o) {x:XOp} (h0:∀k,rD ops k≠J i) (h1:rD ops i=U) {gd:Option (Nat×Bool)} (V:I8 ops o=J gd)
  (hx:x.aM=o.dst/\x.i=(cI C.P o).getD .eD/\x.aS=gd) {v:AV} {X:St} (m:CB C call x e s=J (v,X)) {K:Act->World->Prop} (hK:∀a1 w1 g1 T B1,Sim C ops (uV L i) g0 O0 w0 d0 (Ev.put e x.aM v) X a1 w1 g1 T B1->K a1 w1):wpOp C.P ops Q i K a w:=by
 have H:∀k j,rD ops k=J j->uV L i k=L k/\uV L i j=L j:=λk j hf=>by simp only[uV];grind
 have D:∀k j d A y,rD ops k=J j->pI ops k j d A y->o.dst≠J d/\∀dv∈o.op.operands,dv≠ .tmp d:=λk j d A y hf F=>
  F.lS i o ho (λh=>by subst h;rw[h1]at hf;cases hf) (λh=>by subst h;exact h0 k hf)
 have I:∀dv∈o.op.operands,a.eval dv=a'.eval dv:=λdv hz=>ac6 λt R=>l.hx t λk j d A y hf F _ _ O=>(D k j d A y hf F).2 dv hz (by rw[R,O]);have W:Region.wanted o (yielded ops a.tmps)=Region.wanted o (yielded ops a'.tmps):=by
  unfold Region.wanted;cases n:o.guard with
  |none=>rfl
  |some p=>
   obtain⟨du,b⟩:=p;simp only;have:yielded ops a.tmps du=yielded ops a'.tmps du:=by
    unfold yielded;cases aa:(ops[du]?).bind (·.dst)with
    |none=>rfl
    |some t=>
     simp only[Option.bind_some];have R:a.tmps[t]?=a'.tmps[t]?:=l.hx t λk j d A y hf F _ _ O=>by grind [pI]
     rw[R]
   rw[this]
 have q:pW x e=Region.wanted o (yielded ops a.tmps):=by rw[W,ab9 l.ar ops o V];grind [pW]
 have E:∀S Y P,Goes g s w P X Y->VR P v S->K (a.put o.dst S) Y:=λS Y P n hv=>by
  have f:=l.ff.N n;refine hK _ _ P (a'.put o.dst S) B ⟨f.le,f.wr,f.os,f.cO,f.bX,f.al,f.fr,by rw[hx.1];exact(l.ar.D n.le).b9 hv o.dst,by rw[put_defers];exact l.fx,by rw[DC,DC];exact l.he,λt R=>?_,λk j d A y hf F hk hj=>?_,λk k' j j' d d' A ab y y' q1 q2 q3 q4 q5 q6 q7 q8 q9=>?_⟩;·grind [JH,Sim]
  ·rw[(H k j hf).1]at hk;rw[(H k j hf).2]at hj;obtain⟨b0,b1,b2,b3,b4,c,inf,dv,b5,b6,b7,b8⟩:=l.gH k j d A y hf F hk hj;obtain⟨f1,f2,f3⟩:=n.fr (B k) b1 b2;refine⟨b0,aC9 b1 n.al,f1,λi=>by rw[f3,b3],λhd=>?_,c,inf,dv,by rw[f2];exact b5,b6,b7,b8⟩;rw[JH,if_neg (λh=>(D k j d A y hf F).1 h.1)];exact b4 (by rwa[DC]at hd)
  grind [Sim]
 unfold wpOp;simp only[ho];unfold CB at m;split at m
 ·rename_i u;rw[q]at u;rw[if_pos u];have N:∀cs b,o.op≠ .select cs b:=λcs b M=>by
   have:cI C.P o=U:=by obtain⟨_,op,_,_,_,_⟩:=o;simp only at M;subst M;rfl
   grind [evI,aB]
  refine .inl (asV G l.wr (execOp_congr o N I) (λdv b hb=>l.ar.dk Z dv b hb) Z ?_ E);rw[<-hx.2.1];exact m
 ·rename_i u;rw[q]at u;rw[if_neg u];simp at m;obtain⟨rfl,rfl⟩:=m;exact E undef w g (.ah l.wr) (yI g)
def apM (u:Sim C ops L g0 O0 w0 d0 e s a w g a' B) {i:Nat} {o:Oper} (ho:ops[i]?=J o) {j d:Nat} {t:TypeId} {y:Operand} (hf:rD ops i=J j) (N:pI ops i j d t y) {co:AV} (hz:Hq C.P t=J co) (hi:L i=eF) (hj:L j=eF)
  {K:Act->World->Prop} (hK:∀a1 w1 g1 P B1,Sim C ops (uV L i) g0 O0 w0 d0 e s a1 w1 g1 P B1->K a1 w1):wpOp C.P ops Q i K a w:=by
 obtain⟨o',Z,h2,h3,h4⟩:=N.dr;rw[ho]at Z;cases Z;obtain⟨inf,O,k1,k2,k3⟩:=Hr hz;have I:(execOp a.eval o).run C.P w=.ok (.value (.pointer (J ⟨w.heap.size,0,U⟩))) (yX w (.cells O.cells t)):=by obtain⟨dst,op,D,pos,af,gd⟩:=o;simp only at h3;subst h3;simp[execOp,Instr.alloc,Hf k1 k2,newVar,newRow];rfl
 unfold wpOp;simp only[ho];have V:Region.wanted o (yielded ops a.tmps)=eT:=by unfold Region.wanted;rw[h4]
 rw[if_pos V];refine .inl ?_;unfold Oper.wp;rw[I,Oper.upon_value,h2];have F:=adV u.wr (.cells O.cells t);have n:=u.ff.N F;have l:∀k m,rD ops k=J m->k≠i->uV L i k=L k/\uV L i m=L m:=λk m f S=>by simp only[uV];refine⟨if_neg S,if_neg (λh=>?_)⟩;subst h;obtain⟨E,t',G,p⟩:=Jv f;grind [p.st]
 refine hK _ _ g a' (λq=>if q=i then w.heap.size else B q) ⟨n.le,n.wr,n.os,n.cO,n.bX,n.al,n.fr,u.ar,by rw[put_defers];exact u.fx,by rw[DC];exact u.he,λt' ht=>?_,λk m E D G f p H x=>?_,λk k' W X d1 d2 D Y y1 y2 q1 q2 q3 q4 q5 q6 q7 q8 q9=>?_⟩;·have T:t'≠d:=ht i j d t y hf N (by simp[uV]) (by simp only[uV];rw[if_neg (by have:=N.lt;omega)];exact hj);rw[JH,if_neg (λh=>T (by simpa using h.1.symm))];grind [Sim]
 ·by_cases b:k=i
  ·subst b;rw[hf]at f;cases f;obtain⟨rfl,rfl⟩:E=d/\D=t:=(by grind [pI]);simp only[if_true];refine⟨u.al,by simp[yX],ahS u.wr,λi=>?_,λR=>?_,O.cells,inf,co,G6 w _,k1,hz,(sJ g O co k3).bA⟩;·cases hv:g.im w.heap.size i with|none=>rfl|some v=>exact absurd (u.wr.ct hv) (Nat.lt_irrefl _)
   ·rw[JH,if_pos ⟨rfl,by rwa[DC]at R⟩]
  ·rw[(l k m f b).1]at H;rw[(l k m f b).2]at x;simp only[if_neg b];obtain⟨b0,b1,b2,b3,b4,c,M,z',b5,b6,b7,b8⟩:=u.gH k m E D G f p H x;obtain⟨f1,f2,f3⟩:=F.fr (B k) b1 b2;refine⟨b0,aC9 b1 F.al,f1,b3,λR=>?_,c,M,z',by rw[f2];exact b5,b6,b7,b8⟩;rw[JH,if_neg (λh=>ahO p N b (by simpa using h.1.symm))];exact b4 (by rwa[DC]at R)
 ·have aa:∀k m E D G,rD ops k=J m->pI ops k m E D G->k≠i->uV L i k=eT->uV L i m=eF->B k<w.heap.size:=λk m E D G f p b H x=>by rw[(l k m f b).1]at H;rw[(l k m f b).2]at x;exact(u.gH k m E D G f p H x).2.1
  by_cases b:k=i;·grind
  ·by_cases A:k'=i;·grind
   ·simp only[if_neg b,if_neg A];rw[(l k W q1 b).1]at q3;rw[(l k W q1 b).2]at q4;rw[(l k' X q5 A).1]at q7;rw[(l k' X q5 A).2]at q8;exact u.hB k k' W X d1 d2 D Y y1 y2 q1 q2 q3 q4 q5 q6 q7 q8 q9
end
section
variable{C:Ctx}{call:bH}{ops:Array Oper}{L:Nat->Bool}{g0:Gh}{O0:St}{w0:World}{d0:List Deferred}{e:Env}{s:St}{a:Act}{w:World}{g:Gh}{a':Act}{B:Nat->Nat}{Q:Exit->Act->World->Prop}
theorem apL (f:Sim C ops L g0 O0 w0 d0 e s a w g a' B) (hg:GL C g) {i:Nat} {o:Oper} (ho:ops[i]?=J o) {k d:Nat} {t:TypeId} {y:Operand} (hf:rD ops k=J i) (hF:pI ops k i d t y) {co:AV} (hz:Hq C.P t=J co) {inf:TypeInfo} (I:C.P.info? t=J inf) (bb:z co.cH=inf.size)
  {b:XA} (hb:cA y=J b) (hi:L i=eF) (hk:L k=eT) {v:AV} {s':St} (H:evI C e s (.gA k d inf.size b)=J (.ew v s')) {K:Act->World->Prop} (hK:∀a1 w1 g1 ah B1,Sim C ops (uV L i) g0 O0 w0 d0 (Ev.put e (J d) v) s' a1 w1 g1 ah B1->K a1 w1):wpOp C.P ops Q i K a w:=by
 obtain⟨o',h1,h2,h3,h4⟩:=hF.st;rw[ho]at h1;cases h1;simp only[evI,aB]at H;split at H
 ·rename_i hc;cases H;obtain⟨hd,hlen,N⟩:=hc;obtain⟨b0,b1,b2,b3,b4,c,aM,z',b5,b6,b7,b8⟩:=f.gH k i d t y hf hF hk hi;rw[I]at b6;cases b6;rw[hz]at b7;cases b7;have ak:=f.ar.I;simp only[aG7]at ak;have an:d<a.tmps.size:=by rw[f.he];omega
  have aa:a.tmps[d]?=J (.pointer (J ⟨B k,0,U⟩)):=b4 an;have aq:a.eval y=a'.eval y:=ac6 λW ht=>f.hx W λk' n Y ad y' l m E p V=>by
   subst V;by_cases A:k'=k;·grind [pI]
   ·have ba:i≠n:=λh=>by subst h;exact A (Rf m hF)
    grind [Op.operands,pI]
  have az:=f.ar.dk hg y b hb;have M:=az.cH;have al:(a'.eval y).cells.toList.length=inf.size:=by rw[M.I];exact hlen
  have aw:=run_storeCells_cells (P:=C.P) (B k) 0 (a'.eval y).cells.toList 0 w (λj hj=>by
   rw[cell_of_heap b5,aA0 (by omega)];rfl) (λj hj=>by simp[World.frozen?,b5]) (M.eo N)
  have ab:(execOp a.eval o).run C.P w=.ok .skip (w.setCells (B k) (0+0) (a'.eval y).cells.toList):=by obtain⟨dst,op,X,pos,af,gd⟩:=o;simp only at h3;subst h3;have au:a.eval (.tmp d)=.pointer (J ⟨B k,0,U⟩):=(by simp[Act.eval,aa]);have ax:(a'.eval y).cells.size=inf.size:=(by simpa using al);simp[execOp,Instr.storeAt,Instr.sureAddr,au,aq,storeVar,run_sizeOf I,ax,aw]
  unfold wpOp;simp only[ho];have aE:Region.wanted o (yielded ops a.tmps)=eT:=by unfold Region.wanted;rw[h4]
  rw[if_pos aE];refine .inl ?_;unfold Oper.wp;rw[ab,Oper.upon_skip,h2];obtain⟨r1,r2,r3,r4⟩:=zF (B k) (a'.eval y).cells.toList (0+0) w;have hh:=zu (B k) (a'.eval y).cells.toList (0+0) w c t (0,0) b5;have S:∀q,q≠B k->(w.setCells (B k) (0+0) (a'.eval y).cells.toList).heap[q]?=w.heap[q]?:=λq hq=>uN _ _ _ w q hq;have F:=g.cd (B k) inf.size;have aD:WR (g.ab (B k) inf.size) (w.setCells (B k) (0+0) (a'.eval y).cells.toList) (s++[.cH (av C e b).cH FZ]):=by
   refine ahV f.wr b2 b3 b1 r1 r2 r3 r4 S _ _ ⟨NY c (0+0) (a'.eval y).cells.toList,t,(0,0),?_,?_,?_,λq x hx=>?_,⟨rfl,λ_ _ ht=>nomatch ht⟩,λq v hv=>?_⟩;·simp only[Gh.ab,if_true];exact hh
   ·rw[uS];simp[Gh.ab];omega
   ·rw[uS];omega
   ·rw[JG _ _ _ (by omega)];have hq:=(a00.1 hx).1;obtain⟨u,u1,u2⟩:=M.b2 hx;rw[if_pos (by omega)];exact⟨u,by simpa using u1,u2.D F⟩
   ·exfalso;simp only[Gh.ab,if_true]at hv;rw[b3]at hv;cases hv
  have D:∀k' n,rD ops k'=J n->k'≠k->uV L i k'=L k'/\uV L i n=L n:=λk' n l aL=>by
   obtain⟨Y,W,y',m⟩:=Jv l;simp only[uV];refine⟨if_neg (λh=>?_),if_neg (λh=>?_)⟩;·grind [m.dr]
   grind [Rf]
  have aR:uV L i i=eT:=(by simp[uV]);have T:∀k' n (l:rD ops k'=J n),uV L i k'=eT->uV L i n=eF->k'≠k:=λk' n l _ p h=>by grind
  refine hK _ _ (g.ab (B k) inf.size) (a'.put (J d) (.pointer (J ⟨B k,0,U⟩))) B ⟨f.le.N F,aD,r1.trans f.os,r2.trans f.cO,r3.trans f.bX,by rw[r4];exact f.al,λq hq hu=>?_,?_,f.fx,f.he.trans (DC a' _ _).symm,λW ht=>?_,λk' n Y X y' l m E p=>?_,λk1 k2 j1 j2 d1 d2 X ad y1 y2 q1 q2 q3 q4 q5 q6 q7 q8 q9=>?_⟩
  ·obtain⟨u1,u2,u3⟩:=f.fr q hq hu;refine⟨λo2 x2 hx2 R=>?_,by rw[S q (by omega)];exact u2,u3⟩;rcases jL hx2 with⟨_,G⟩|⟨O,rfl⟩;·rw[F.ob o2 (f.wr.lt G)];exact u1 o2 x2 G R
   grind [f.wr.n,Gh.ab]
  ·have ay:VR (g.ab (B k) inf.size) (.c8 (z s) 0) (.pointer (J ⟨B k,0,U⟩)):=by have:=VR.c8 (g:=g.ab (B k) inf.size) (z s) 0 (by simp[Gh.ab,f.wr.n]);simpa[Gh.ab,f.wr.n]using this
   exact(f.ar.D F).b9 ay (J d)
  ·show a.tmps[W]?=_;rw[JH];by_cases V:d=W;·grind
   ·rw[if_neg (λh=>V (by simpa using h.1))];refine f.hx W λk' n Y X y' l m E p=>?_;by_cases A:k'=k;·subst A;have e1:=wH hF;rw[wH m]at e1;grind
    grind
  ·have A:=T k' n l E p;rw[(D k' n l A).1]at E;rw[(D k' n l A).2]at p;obtain⟨e0,e1,e2,e3,e4,c2,ac,z2,e5,e6,e7,e8⟩:=f.gH k' n Y X y' l m E p;have Z:=f.hB k' k n i Y d X t y' y l m E p hf hF hk hi A;refine⟨e0,by rw[r4];exact e1,λo2 x2 hx2 R=>?_,e3,e4,c2,ac,z2,by rw[S _ Z];exact e5,e6,e7,e8⟩;rcases jL hx2 with⟨_,G⟩|⟨O,rfl⟩;·rw[F.ob o2 (f.wr.lt G)];exact e2 o2 x2 G R
   ·rw[<-f.wr.n]at O;subst O;simp[Gh.ab];exactλh=>Z h.symm
  ·have n1:=T k1 j1 q1 q3 q4;have n2:=T k2 j2 q5 q7 q8;rw[(D k1 j1 q1 n1).1]at q3;rw[(D k1 j1 q1 n1).2]at q4;rw[(D k2 j2 q5 n2).1]at q7;rw[(D k2 j2 q5 n2).2]at q8;exact f.hB k1 k2 j1 j2 d1 d2 X ad y1 y2 q1 q2 q3 q4 q5 q6 q7 q8 q9
 ·cases H
end
section
variable{C:Ctx}{call:bH}
def afd(a:Bool)(ops:Array Oper):∀(l:List Oper) (k:Nat) (xs:List XOp),abh C.P a ops k l=J xs->z xs=z l/\∀(i:Nat) (o:Oper),l[i]?=J o->∃x,xs[i]?=J x/\cOp C.P a ops (k+i) o=J x
 |[],k,xs,h=>by simp[abh]at h;subst h;simp
 |o::l,k,xs,h=>by
  simp only[abh]at h;split at h;·rename_i x b c h2;simp at h;subst h;obtain⟨d,e⟩:=afd a ops l (k+1) b h2;grind
  ·cases h
def akX{a:Bool}{ops:Array Oper}{i:Nat}{o:Oper}{x:XOp}(h:cOp C.P a ops i o=J x):x.aT=[]:=by simp only[cOp,ay3,a03]at h;grind
def cnt(L:Nat->Bool)(n:Nat):Nat:=z ((List.range n).filter L)
theorem aqQ(L:Nat->Bool)(n i:Nat)(hi:i<n)(hL:L i=eF):cnt (uV L i) n=cnt L n+1:=by
 unfold cnt
 induction n with
 |zero=>omega
 |succ n b=>
  rw[List.range_succ,List.filter_append,List.filter_append,a04,a04];by_cases a:i=n;·grind [uV,List.filter_congr]
  ·have:=b (by omega);have c:uV L i n=L n:=by simp only[uV];rw[if_neg (λh=>a h.symm)]
   grind
def anb(L:Nat->Bool)(n:Nat)(h:cnt L n=n):∀i,i<n->L i=eT:=by grind [cnt,List.length_filter_eq_length_iff]
def Jr(hm:C.P.follows .mixedOrders=eT)(bw:eY C call):aeZ C call:=by
 intro id ops l hc e0 e1 O0 O1 G g0 v a0 br bU bE;simp only[adH,ay3,a03]at hc;obtain⟨l0,bN,an,bv,hc⟩:=hc;split at hc
 ·rename_i W;simp at hc;subst hc;have L:=aqD bv;obtain⟨f,H⟩:=afd (C:=C) eT ops ops.toList 0 l0 bN;have hlen:z (qW an l0)=ops.size:=(by simp[qW,f]);have I:∀(i:Nat) (x:XOp),(qW an l0)[i]?=J x->∃x0,l0[i]?=J x0/\x.aM=x0.aM/\x.i=x0.i/\x.aS=x0.aS/\(x0.i.dl=eT->x.aT=Yy an l0 i):=λi x hx=>by simp only[qW,aC6,List.getElem?_zipIdx,ay4]at hx;grind
  have D:∀(i:Nat) (x0:XOp),l0[i]?=J x0->∃x,(qW an l0)[i]?=J x/\x.aM=x0.aM/\x.i=x0.i/\x.aS=x0.aS:=λi x0 hx=>by grind
  have hok:Ih an (qW an l0)=eT:=by
   unfold Ih at W⊢;rw[a97]at W⊢;intro j hj;rw[aD4,hlen]at hj;have F:=W j (by grind);simp only[a01]at F⊢;obtain⟨xj,bd,d1,d2,d3⟩:=D j _ (a02 (show j<z l0 by rw[f];simpa using hj));refine⟨?_,?_⟩;·have h2:=F.1;unfold ahN at h2⊢;rw[a02 (show j<z l0 by rw[f];simpa using hj)]at h2;rw[bd];obtain⟨a1,a2,a3,a4⟩:=xj;simp only at d2;generalize l0[j]'(by rw[f];simpa using hj)=xq at h2 d2;obtain⟨c1,c2,c3,c4⟩:=xq;grind
   ·rw[a97];intro i hi;have h3:=a97.1 F.2 i hi;have cv:=aD4.1 hi;obtain⟨xi,b2,f1,f2,f3⟩:=D i _ (a02 (show i<z l0 by rw[f];simp;omega));unfold aiq at h3⊢;rw[a02 (show j<z l0 by rw[f];simpa using hj),a02 (show i<z l0 by rw[f];simp;omega)]at h3;rw[b2,bd];have cz:i<z l0:=by rw[f];simp;omega
    have cB:j<z l0:=by rw[f];simpa using hj
    have e1:clash xi xj=clash l0[i] l0[j]:=by unfold clash XOp.aw;rw[d1,d2,d3,f1,f2,f3]
    simp only[e1,d2,f2];exact h3
  unfold uh at G;split at G
  ·rename_i e2 O2 rs ss aR;split at G
   ·rename_i aM;simp at G;obtain⟨rfl,rfl⟩:=G;obtain⟨E,S,V,au,bk,be,bo,hR,bS,cJ⟩:=Zw _ _ _ _ _ _ _ aR;have bR:∀(i:Nat) (o:XOp),(qW an l0)[i]?=J o->pW o (E i)=eT->∀c∈o.aT,∃v1 v2 s1 s2,evI C (E i) (S c) o.i=J (.ew v1 s1)/\evI C (E i) (S (c+1)) o.i=J (.ew v2 s2)/\v1=V i/\v2=V i:=λi o N hw c Y=>by
     have hi:=(a00.1 N).1;obtain⟨s,s',v1,v2,s1,s2,q1,q2,q3,q4,q5,q6⟩:=QA _ _ aM i o (E i) (V i) N (bS i hi) hw c Y;have cj:c<z (qW an l0):=by
      obtain⟨x0,F,h2,h3,h4,h5⟩:=I i o N;by_cases ah:x0.i.dl=eT;·grind [Yy]
      ·exfalso;simp only[qW,aC6,List.getElem?_zipIdx,ay4]at N;obtain⟨p,⟨x1,X,rfl⟩,rfl⟩:=N;rw[F]at X;cases X;simp only[if_neg ah]at Y;obtain⟨o',ab⟩:∃o',ops.toList[i]?=J o':=⟨_,a02 (by rw[hlen]at hi;simpa using hi)⟩;obtain⟨x2,g2,g3⟩:=H i o' ab;rw[F]at g2;cases g2;have bO:x0.aT=[]:=akX g3;rw[bO]at Y;cases Y
     grind
    have aa:∀(i:Nat) (o:XOp),(qW an l0)[i]?=J o->o.i.dl=eT->∀(c:Nat) (o':XOp),(qW an l0)[c]?=J o'->o'.i.aq=eT->c≠i->c∉an.getD i []->i∉an.getD c []->c∈o.aT:=λi o N ah c o' ab ck cG cD cE=>by obtain⟨x0,F,h2,h3,h4,h5⟩:=I i o N;obtain⟨y0,k1,k2,k3,k4,k5⟩:=I c o' ab;rw[h5 (by rw[<-h3];exact ah)];unfold Yy;grind
    refine wp_region_any hm ?_;have ay:=Goes.gy bU (v.drawn+1);have key:∀(A:Nat) (listed:Array Bool) (e:Env) (k:Nat) (a:Act) (w:World) (g:Gh) (a':Act) (B:Nat->Nat),listed.size=ops.size->cnt (λj=>listed.getD j eF) ops.size+A=ops.size->
      Std ops (qW an l0) E S V (λj=>listed.getD j eF) e k->Sim C ops (λj=>listed.getD j eF) g0 O0 {v with drawn:=v.drawn+1} a0.defers e (S k) a w g a' B->
      wpAny C.P .any ops (Post C g0 O0 v a0 .dp e2 O2) A listed a w:=by
     have ad:∀(listed:Array Bool) (e:Env) (k:Nat) (a:Act) (w:World) (g:Gh) (a':Act) (B:Nat->Nat),(∀i,i<ops.size->listed.getD i eF=eT)->Std ops (qW an l0) E S V (λj=>listed.getD j eF) e k->Sim C ops (λj=>listed.getD j eF) g0 O0 {v with drawn:=v.drawn+1} a0.defers e (S k) a w g a' B->Post C g0 O0 v a0 .dp e2 O2 .normal a w:=by
      intro listed e k a w g a' B R m n;have bm:S k=O2:=by
       rw[<-bo];refine hR.e8 m.k6 (a06 _) λc o F h2 N=>?_;cases bx:o.i.aq with
       |false=>rfl|true=>have:=m.h1 c o N bx F;grind
      have cn:e=e2:=by
       rw[<-be];apply aA9;intro t;rcases aH3 t (z (E 0)) with ht|ht
       ·rcases m.az t ht with⟨j,o,F,h2,h3,h4,h5⟩|⟨F,h2⟩
        ·rcases hR.hl _ (a06 _) t ht with⟨j2,o2,q1,q2,q3,q4,q5⟩|⟨q1,q2⟩;·grind
         grind
        ·rcases hR.hl _ (a06 _) t ht with⟨j2,o2,q1,q2,q3,q4,q5⟩|⟨q1,q2⟩;·grind
         ·rw[h2,q2]
       ·rw[aA1 (by rw[m.dt];exact ht),aA1 (by rw[hR.gE _ (a06 _)];exact ht)]
      have cK:a.tmps=a'.tmps:=by apply Array.ext_getElem?;intro t;refine n.hx t λk j d ty y hf M hk hj=>?_;grind [M.st]
      refine⟨rfl,n.fx,g,?_,?_⟩;·grind [n.ar,AR]
      ·have:=n.ff;rw[bm]at this;exact ay.N ⟨this.le,this.wr,this.os,this.cO,this.bX,this.al,this.fr⟩
     intro A
     induction A with
     |zero=>intro listed e k a w g a' B ba ax m n;have R:=anb _ _ (show cnt (λj=>listed.getD j eF) ops.size=ops.size by omega);refine⟨?_,ad listed e k a w g a' B R m n⟩;refine List.eq_nil_iff_forall_not_mem.2 λi hi=>?_;obtain⟨F,o,h2,_⟩:=mem_ready.1 hi;grind
     |succ A ih=>
      intro listed e k a w g a' B ba ax m n;refine⟨λaL=>?_,λi hi=>?_⟩
      ·exfalso;have bA:∃i,i<ops.size/\listed.getD i eF=eF:=by
        refine aG5 λcH=>?_;have R:∀i,i<ops.size->listed.getD i eF=eT:=λi hi=>by grind
        have:cnt (λj=>listed.getD j eF) ops.size=ops.size:=(by grind [cnt,List.filter_eq_self]);omega
       have aE:∃i,(i<ops.size/\listed.getD i eF=eF)/\∀j,j<i->¬(j<ops.size/\listed.getD j eF=eF):=by
        obtain⟨i0,cx⟩:=bA
        induction i0 using Nat.strongRecOn with
        |_ i0 cQ=>grind
       obtain⟨i,⟨F,h2⟩,h3⟩:=aE;have:i∈Region.ready .any ops listed:=by
        rw[mem_ready];have Z:i<listed.size:=(by omega);refine⟨by simp[Z]at h2⊢;exact h2,ops[i],aA0 F,λed cm cg=>?_⟩;have az:ed.on∈direct ops[i]:=by unfold direct;grind
        have aD:=L.lt i ops[i] (by simp) ed.on az;grind
       rw[aL]at this;cases this
      ·obtain⟨F,o,N,h3⟩:=mem_ready.1 hi;have aD:=(aD0.1 N).1;have Z:i<listed.size:=(by omega);have bb:listed.getD i eF=eF:=by simp[Z]at F⊢;exact F
       have hr:Rdy ops (λj=>listed.getD j eF) i:=⟨bb,λo' ab j hj=>by
        grind [direct]⟩
       have Q:(λj=>(listed.setIfInBounds i eT).getD j eF)=uV (λj=>listed.getD j eF) i:=by
        funext j;simp only[uV];by_cases af:j=i;·subst af;simp[Z]
        ·rw[if_neg af,getD_set_ne eF (λh=>af h.symm)]
       obtain⟨x0,hx0,ac⟩:=H i o (by simpa using N);simp only[az5]at ac;obtain⟨x,hx,d1,d2,d3⟩:=D i x0 hx0;obtain⟨k',T,aq⟩:=m.bk hlen L hok hR bR aa hr hx;have ak:∀a1 w1 X P B1,Sim C ops (uV (λj=>listed.getD j eF) i) g0 O0 {v with drawn:=v.drawn+1} a0.defers (Ev.put e x.aM (V i)) (S k') a1 w1 X P B1->wpAny C.P .any ops (Post C g0 O0 v a0 .dp e2 O2) A (listed.setIfInBounds i eT) a1 w1:=λa1 w1 X P B1 al=>by refine ih (listed.setIfInBounds i eT) (Ev.put e x.aM (V i)) k' a1 w1 X P B1 (by simpa using ba) ?_ (by rw[Q];exact aq) (by rw[Q];exact al);grind [aqQ]
       have ct:GL C g:=bE.D n.le;cases ana (C:=C) N ac with
       |eO p0 p1 gd bL K=>grind [am2]
       |gH j d t y hf M co hz K=>
        have bB:∃oj xj,ops[j]?=J oj/\(qW an l0)[j]?=J xj/\∃sz q,xj.i=.gA i d sz q:=by
         obtain⟨oj,q1,q2,q3,q4⟩:=M.st;obtain⟨b3,X,g2⟩:=H j oj (by simpa using q1);simp only[az5]at g2;obtain⟨xj,g3,g4,g5,g6⟩:=D j b3 X;cases ana (C:=C) q1 g2 with
         |eO p0 p1 gd bL K=>exact absurd hf (p0 i)|gH j' d' t' y' cp bh z' cM b6=>grind [bh.dr]|gA k2 cc t2 y2 cq aw z2 cN b9 cy b8 a2 cf b7=>obtain rfl:=Rf aw M;have e1:=wH M;rw[wH aw]at e1;grind
        obtain⟨oj,xj,q1,q2,sz,q,q3⟩:=bB;have bj:listed.getD j eF=eF:=m.ek hlen L hok hr (a00.1 q2).1 (ajI hok q2 q3);have bp:V i=.dT/\S k'=S k:=by unfold CB at T;grind [evI,aB]
        refine apM n N hf M hz bb bj λa1 w1 X P B1 al=>ak a1 w1 X P B1 ?_;rw[d1,K.1,bp.2];exact al
       |gA k2 d t y hf M co hz inf b5 cP b hb K=>
        have cd:listed.getD k2 eF=eT:=m.ei hlen L hok hr (by rw[hlen];exact aD) (ajI hok hx (by rw[d2];exact K.2.1));have b4:evI C e (S k) (.gA k2 d inf.size b)=J (.ew (V i) (S k')):=by
         unfold CB at T;have bX:pW x e=eT:=by unfold pW;rw[d3,K.2.2]
         rw[if_pos bX,d2,K.2.1]at T;grind [evI,aB]
        grind [apL]
    refine key ops.size (Array.replicate ops.size eF) e0 0 a0 _ g0 a0 (λ_=>0) (by simp) ?_ ?_ ?_
    ·have:(λj=>(Array.replicate ops.size eF).getD j eF)=λ_=>eF:=by funext j;simp[Array.getElem?_replicate];split<;>rfl
     rw[this];simp[cnt]
    ·have M:∀j,(Array.replicate ops.size eF).getD j eF=eF:=λj=>by simp[Array.getElem?_replicate];split<;>rfl
     refine⟨λi o _ hL=>(by rw[M]at hL;cases hL),by rw[au],λt ht=>.inr ⟨λj o _ hL=>(by rw[M]at hL;cases hL),by rw[au]⟩,a99 _,λc o _ _ h=>by omega,λc o _ _ _=>M c⟩
    ·have M:∀j,(Array.replicate ops.size eF).getD j eF=eF:=λj=>by simp[Array.getElem?_replicate];split<;>rfl
     rw[bk];exact⟨.ah g0,ay.wr,rfl,rfl,rfl,a06 _,λb _ hu=>⟨hu,rfl,λ_=>rfl⟩,br,rfl,rfl,λt _=>rfl,λk j d ty y _ _ hk=>(by rw[M]at hk;cases hk),λk k' j j' d d' ty cS y y' _ _ hk=>(by rw[M]at hk;cases hk)⟩
   ·cases G
  ·cases G
 ·simp at hc
end
section
variable{C:Ctx}{call:bH}
def Jw(hm:C.P.follows .mixedOrders=eT)(a:eY C call):True:=trivial
def Nl{C:Ctx}(hm:C.P.follows .mixedOrders=eT)(b:ahj C)(a:VB C)(n:Nat):eY C (evF C n):=ac2 b a (λcall h=>⟨Jr hm h,Jw hm h⟩) n
end
def Le{b:Type}(x y:Option b):Prop:=∀a,x=J a->y=J a
def Le.cf{a:Type}{x:Option a}:Le x x:=λ_ h=>h
def Le.N{b:Type}{x y d:Option b}(h:Le x y)(g:Le y d):Le x d:=λa e=>g a (h a e)
def Le.gb{a:Type}{y:Option a}:Le Option.none y:=λ_ h=>nomatch h
def Le.ox{c e:Type}{x y:Option c}{f g:c->Option e}(h:Le x y)(d:∀a,Le (f a) (g a)):Le (x.bind f) (y.bind g):=by
 intro b hb;cases x with
 |none=>cases hb|some a=>rw[h a (by rfl)];exact d a b hb
def Le.gx{c:Type}{x y:Option c}(h:Le x y)(g:Le y x):x=y:=by
 cases x with
 |none=>cases y with|none=>rfl|some b=>exact(g b (by rfl)).trans (by rfl)
 |some a=>exact(h a (by rfl)).symm
open Classical in
noncomputable def lim{a:Type}(f:Nat->Option a):Option a:=
 if h:∃n,(f n).isSome then f (Classical.choose h)else U
def awV{a:Type}(f:Nat->Option a):Prop:=∀n m,n<=m->Le (f n) (f m)
def Z9{d:Type}{f:Nat->Option d}(hf:awV f){a:d}:lim f=J a↔∃n,f n=J a:=by
 unfold lim;constructor
 ·intro h;split at h;·exact⟨_,h⟩
  ·cases h
 ·rintro⟨n,h⟩;have c:∃n,(f n).isSome:=⟨n,by rw[h];rfl⟩;rw[dif_pos c];have g:=Classical.choose_spec c;obtain⟨b,hb⟩:=aA7.mp g;rw[hb];have e:=hf _ _ (Nat.le_max_left n (Classical.choose c)) a h;have h2:=hf _ _ (Nat.le_max_right n (Classical.choose c)) b hb;rw[<-h2,e]
abbrev Body:=Env->St->Option (XE×Env×St)
def Ec{b c:Body}(h:∀e O,Le (b e O) (c e O)):∀(n m:Nat),n<=m->∀e O,Le (sZ b n e O) (sZ c m e O)
 |0,_,_,_,_=>Le.gb|n+1,0,d,_,_=>absurd d (by omega)
 |n+1,m+1,d,e,O=>by
  intro a ha;unfold sZ at ha⊢;cases hb:b e O with
  |none=>rw[hb]at ha;cases ha
  |some j=>
   rw[h e O j hb];rw[hb]at ha;obtain⟨k,g,f⟩:=j;cases k with
   |dp=>exact Ec h n m (by omega) g f a ha|dq i=>exact ha|ef=>exact ha
noncomputable def aez(b:Body):Body:=λe O=>lim λn=>sZ b n e O
theorem FI{b:Body}{e O d}:aez b e O=J d↔∃n,sZ b n e O=J d:=
 Z9 (λn m h=>Ec (λ_ _=>Le.cf) n m h e O)
noncomputable def ni(C:Ctx)(call:bH):XC->Body
 |.eI,e,O=>J (.dp,e,O)|.fe l,e,O=>match tV C call l e O with|J (f,d)=>J (.dp,f,d)|U=>U
 |.eL l,e,O=>match uh C call l e O with|J (f,d)=>J (.dp,f,d)|U=>U
 |.eK a b,e,O=>match ni C call a e O with|J (.dp,f,d)=>ni C call b f d|h=>h
 |.eJ c a b,e,O=>match av C e c with|.cX eT=>ni C call a e O|.cX eF=>ni C call b e O|_=>U
 |.eE id b,e,O=>match ni C call b e O with|J (.dq i,f,d)=>J (if i=id then .dp else .dq i,f,d)|h=>h
 |.fp b,e,O=>aez (ni C call b) e O|.dq id,e,O=>J (.dq id,e,O)|.ef,e,O=>J (.ef,e,O)|.eV b,e,O=>ni C call b e O|.eD,_,_=>U
def CX(c d:bH):Prop:=∀f a O,Le (c f a O) (d f a O)
def OX{C:Ctx}{c d:bH}(h:CX c d)(o:XOp)(e:Env)(O:St):Le (CB C c o e O) (CB C d o e O):=by
 intro f hr;unfold CB at hr⊢;split at hr
 ·rw[if_pos (by assumption)];split at hr;·exact hr
  ·exact h _ _ _ _ hr
  ·cases hr
 grind
def KA{C:Ctx}{c d:bH}(h:CX c d):∀(l:List XOp) (e:Env) (O:St),Le (tV C c l e O) (tV C d l e O)
 |[],_,_=>Le.cf
 |o::l,e,O=>by
  intro f hr;unfold tV at hr⊢;cases a:CB C c o e O with
  |none=>rw[a]at hr;cases hr|some v=>rw[OX h o e O v a];rw[a]at hr;exact KA h l _ _ f hr
def QV{C:Ctx}{c d:bH}(h:CX c d):∀(l:List XOp) (e:Env) (O:St),Le (xB C c l e O) (xB C d l e O)
 |[],_,_=>Le.cf
 |o::l,e,O=>by
  intro f hr;unfold xB at hr⊢;cases b:CB C c o e O with
  |none=>rw[b]at hr;cases hr
  |some v=>
   rw[OX h o e O v b];rw[b]at hr;dsimp only at hr⊢;cases a:xB C c l (put e o.aM v.1) v.2 with
   |none=>rw[a]at hr;cases hr|some q=>rw[QV h l _ _ q a];rw[a]at hr;exact hr
def Ua{C:Ctx}{c d:bH}(h:CX c d)(l:List XOp)(e:Env)(O:St):Le (uh C c l e O) (uh C d l e O):=by
 intro f hr;unfold uh at hr⊢;cases a:xB C c l e O with
 |none=>rw[a]at hr;cases hr|some q=>rw[QV h l _ _ q a];rw[a]at hr;exact hr
def rO{C:Ctx}{c d:bH}(h:CX c d){n m:Nat}(g:n<=m):∀(x:XC) (e:Env) (O:St),Le (evC C c n x e O) (evC C d m x e O)
 |.eI,_,_=>Le.cf
 |.fe l,e,O=>by
  intro y hr;unfold evC at hr⊢;cases f:tV C c l e O with
  |none=>rw[f]at hr;cases hr|some q=>rw[KA h l _ _ q f];rw[f]at hr;exact hr
 |.eL l,e,O=>by
  intro y hr;unfold evC at hr⊢;cases f:uh C c l e O with
  |none=>rw[f]at hr;cases hr|some q=>rw[Ua h l _ _ q f];rw[f]at hr;exact hr
 |.eK a b,e,O=>by
  intro y hr;unfold evC at hr⊢;cases f:evC C c n a e O with
  |none=>rw[f]at hr;cases hr
  |some q=>
   rw[rO h g a _ _ q f];rw[f]at hr;obtain⟨k,o,j⟩:=q;cases k with
   |dp=>exact rO h g b _ _ y hr|dq i=>exact hr|ef=>exact hr
 |.eJ q a b,e,O=>by
  intro y hr;unfold evC at hr⊢;split at hr;·exact rO h g a _ _ y hr
  ·exact rO h g b _ _ y hr
  ·cases hr
 |.eE id b,e,O=>by
  intro y hr;unfold evC at hr⊢;cases f:evC C c n b e O with
  |none=>rw[f]at hr;cases hr|some q=>rw[rO h g b _ _ q f];rw[f]at hr;exact hr
 |.fp b,e,O=>Ec (λe O=>rO h g b e O) n m g e O|.dq _,_,_=>Le.cf|.ef,_,_=>Le.cf|.eV b,e,O=>rO h g b e O|.eD,_,_=>Le.gb
def ZO(C:Ctx)(run:XC->Body):bH:=λf args O=>
 match C.fg f with
 |J h=>h args O|U=>
 match C.fs f with
 |U=>U
 |J x=>
  match hand (C.dF f) args O with
  |U=>U
  |J (args,b)=>
   if z args>x.L then U else
   match run x.aE (args++List.replicate (x.L-z args) .dT) b with
   |J (.dq _,_,_)=>U|U=>U
   |J (_,e,a)=>
    match V9 e a x.Y with
    |U=>U|J vs=>match hand (C.dF f) vs a with|U=>U|J (vs,c)=>J (bW vs,tidy (z O) vs c)
def Nk(C:Ctx)(n:Nat):evF C (n+1)=ZO C (evC C (evF C n) n):=by funext f args O;rfl
def acd{C:Ctx}{i s:XC->Body}(h:∀x e O,Le (i x e O) (s x e O)):CX (ZO C i) (ZO C s):=by
 intro f args O a ha;unfold ZO at ha⊢;cases c:C.fg f with
 |some q=>rw[c]at ha;exact ha
 |none=>
  rw[c]at ha;dsimp only at ha⊢;cases d:C.fs f with
  |none=>rw[d]at ha;cases ha
  |some x=>
   rw[d]at ha;dsimp only at ha⊢;cases b:hand (C.dF f) args O with
   |none=>rw[b]at ha;cases ha
   |some q=>
    rw[b]at ha;dsimp only at ha⊢;split at ha;·cases ha
    ·rw[if_neg (by assumption)];cases hr:i x.aE (q.1++List.replicate (x.L-z q.1) .dT) q.2 with|none=>rw[hr]at ha;cases ha|some t=>rw[h _ _ _ t hr];rw[hr]at ha;exact ha
def Zt{C:Ctx}:∀(n m:Nat),n<=m->CX (evF C n) (evF C m)|0,_,_=>λ_ _ _=>Le.gb|n+1,0,h=>absurd h (by omega)|n+1,m+1,h=>by rw[Nk,Nk];exact acd λx e O=>rO (Zt n m (by omega)) (by omega) x e O
noncomputable def ai(C:Ctx):bH:=λf args O=>lim λn=>evF C n f args O
def JM{C:Ctx}{f args O d}:ai C f args O=J d↔∃n,evF C n f args O=J d:=
 Z9 (λn m h=>Zt n m h f args O)
def Ii{C:Ctx}{c d:bH}(h:CX c d){n:Nat}:∀(x:XC) (e:Env) (O:St),Le (evC C c n x e O) (ni C d x e O)
 |.eI,_,_=>Le.cf
 |.fe l,e,O=>by
  intro y hr;unfold evC at hr;unfold ni;cases f:tV C c l e O with
  |none=>rw[f]at hr;cases hr|some q=>rw[KA h l _ _ q f];rw[f]at hr;exact hr
 |.eL l,e,O=>by
  intro y hr;unfold evC at hr;unfold ni;cases f:uh C c l e O with
  |none=>rw[f]at hr;cases hr|some q=>rw[Ua h l _ _ q f];rw[f]at hr;exact hr
 |.eK a b,e,O=>by
  intro y hr;unfold evC at hr;unfold ni;cases f:evC C c n a e O with
  |none=>rw[f]at hr;cases hr
  |some q=>
   rw[Ii h a _ _ q f];rw[f]at hr;obtain⟨k,m,j⟩:=q;cases k with
   |dp=>exact Ii h b _ _ y hr|dq i=>exact hr|ef=>exact hr
 |.eJ q a b,e,O=>by
  intro y hr;unfold evC at hr;unfold ni;split at hr;·rename_i g;rw[g];exact Ii h a _ _ y hr
  ·rename_i g;rw[g];exact Ii h b _ _ y hr
  ·cases hr
 |.eE id b,e,O=>by
  intro y hr;unfold evC at hr;unfold ni;cases f:evC C c n b e O with
  |none=>rw[f]at hr;cases hr|some q=>rw[Ii h b _ _ q f];rw[f]at hr;exact hr
 |.fp b,e,O=>by intro y hr;unfold evC at hr;unfold ni;exact FI.mpr ⟨n,Ec (λe O=>Ii h b e O) n n (a06 n) e O y hr⟩
 |.dq _,_,_=>Le.cf|.ef,_,_=>Le.cf|.eV b,e,O=>by intro y hr;unfold evC at hr;unfold ni;exact Ii h b e O y hr
 |.eD,_,_=>Le.gb
section
variable {C:Ctx} {cs:Nat->bH} {L:bH}
  (hm:∀n m,n<=m->CX (cs n) (cs m)) (hL:∀f a O r,L f a O=some r->∃k,cs k f a O=some r)
 include hL in
def anx {o e O d} (h:CB C L o e O=J d):∃k,CB C (cs k) o e O=J d:=by
  unfold CB at h⊢;split at h
  ·rename_i b;simp only[if_pos b];cases hi:evI C e O o.i with
   |none=>rw[hi]at h;cases h
   |some out=>
    rw[hi]at h;cases out with
    |ew v a=>exact⟨0,h⟩|fh f args a=>exact hL _ _ _ _ h
  simp_all
 include hm hL
def ajJ:∀{l e O d},tV C L l e O=J d->∃k,tV C (cs k) l e O=J d
 |[],_,_,_,h=>⟨0,h⟩
 |o::l,e,O,d,h=>by
  unfold tV at h;cases a:CB C L o e O with
  |none=>rw[a]at h;cases h|some q=>rw[a]at h;obtain⟨k,b⟩:=anx hL a;obtain⟨j,hj⟩:=ajJ h;refine⟨max k j,?_⟩;unfold tV;rw[OX (hm k _ (Nat.le_max_left k j)) o e O q b];exact KA (hm j _ (Nat.le_max_right k j)) l _ _ d hj
def ajK:∀{l e O d},xB C L l e O=J d->∃k,xB C (cs k) l e O=J d
 |[],_,_,_,h=>⟨0,h⟩
 |o::l,e,O,d,h=>by
  unfold xB at h;cases b:CB C L o e O with
  |none=>rw[b]at h;cases h
  |some q=>
   rw[b]at h;dsimp only at h;cases a:xB C L l (put e o.aM q.1) q.2 with
   |none=>rw[a]at h;cases h|some t=>obtain⟨k,c⟩:=anx hL b;obtain⟨j,hj⟩:=ajK a;refine⟨max k j,?_⟩;unfold xB;rw[OX (hm k _ (Nat.le_max_left k j)) o e O q c];dsimp only;rw[QV (hm j _ (Nat.le_max_right k j)) l _ _ t hj];rw[a]at h;exact h
def Uo:∀(x:XC) {e O y},ni C L x e O=J y->∃k,evC C (cs k) k x e O=J y
 |.eI,_,_,_,h=>⟨0,h⟩
 |.fe l,e,O,y,h=>by
  unfold ni at h;cases d:tV C L l e O with
  |none=>rw[d]at h;cases h|some q=>obtain⟨k,c⟩:=ajJ hm hL d;grind [evC]
 |.eL l,e,O,y,h=>by
  unfold ni uh at h;cases d:xB C L l e O with
  |none=>rw[d]at h;cases h|some q=>obtain⟨k,c⟩:=ajK hm hL d;grind [evC,uh]
 |.eK a b,e,O,y,h=>by
  unfold ni at h;cases d:ni C L a e O with
  |none=>rw[d]at h;cases h
  |some q=>
   rw[d]at h;obtain⟨k,c⟩:=Uo a d;obtain⟨x,g,f⟩:=q;cases x with
   |dp=>obtain⟨j,hj⟩:=Uo b h;refine⟨max k j,?_⟩;unfold evC;rw[rO (hm k _ (Nat.le_max_left k j)) (Nat.le_max_left k j) a e O _ c];exact rO (hm j _ (Nat.le_max_right k j)) (Nat.le_max_right k j) b _ _ y hj
   |dq i=>grind [evC]|ef=>grind [evC]
 |.eJ q a b,e,O,y,h=>by
  unfold ni at h;split at h;·rename_i o;obtain⟨k,c⟩:=Uo a h;grind [evC]
  ·rename_i o;obtain⟨k,c⟩:=Uo b h;grind [evC]
  ·cases h
 |.eE id b,e,O,y,h=>by
  unfold ni at h;cases d:ni C L b e O with
  |none=>rw[d]at h;cases h|some q=>obtain⟨k,c⟩:=Uo b d;grind [evC]
 |.fp b,e,O,y,h=>by
  unfold ni at h;obtain⟨n,m⟩:=FI.mp h;have:∀(n:Nat) (e:Env) (O:St) (y:XE×Env×St),sZ (ni C L b) n e O=J y->∃k,evC C (cs k) k (.fp b) e O=J y:=by
   intro n
   induction n with
   |zero=>intro e O y h;cases h
   |succ n p=>
    intro e O y h;unfold sZ at h;cases hb:ni C L b e O with
    |none=>rw[hb]at h;cases h
    |some q=>
     rw[hb]at h;obtain⟨k,c⟩:=Uo b hb;obtain⟨x,g,f⟩:=q;cases x with
     |dp=>obtain⟨j,hj⟩:=p _ _ _ h;refine⟨max k j+1,?_⟩;unfold evC at hj⊢;unfold sZ;rw[rO (hm k _ (by omega)) (by omega:k<=max k j+1) b e O _ c];exact Ec (λe O=>rO (hm j _ (by omega)) (by omega:j<=max k j+1) b e O) j (max k j) (by omega) _ _ y hj
     |dq i=>refine⟨k+1,?_⟩;unfold evC sZ;rw[rO (hm k _ (by omega)) (by omega:k<=k+1) b e O _ c];exact h|ef=>refine⟨k+1,?_⟩;unfold evC sZ;rw[rO (hm k _ (by omega)) (by omega:k<=k+1) b e O _ c];exact h
  exact this n e O y m
 |.dq _,_,_,_,h=>⟨0,h⟩|.ef,_,_,_,h=>⟨0,h⟩|.eV b,e,O,y,h=>by unfold ni at h;obtain⟨k,c⟩:=Uo b h;exact⟨k,by unfold evC;exact c⟩
 |.eD,_,_,_,h=>by unfold ni at h;cases h
end
def aey(C:Ctx):ai C=ZO C (ni C (ai C)):=by
 funext f args O;refine Le.gx ?_ ?_;·intro a h;obtain⟨n,h⟩:=JM.mp h;cases n with|zero=>cases h|succ n=>rw[Nk]at h;exact acd (λx e O=>Ii (λf a O i h=>JM.mpr ⟨n,h⟩) x e O) f args O a h
 ·intro a h;have hm:∀n m,n<=m->CX (evF C n) (evF C m):=Zt;have hL:∀f a O i,ai C f a O=J i->∃k,evF C k f a O=J i:=λf a O i h=>JM.mp h;refine JM.mpr ?_;unfold ZO at h;cases b:C.fg f with
  |some q=>rw[b]at h;exact⟨1,by rw[Nk];unfold ZO;rw[b];exact h⟩
  |none=>
   rw[b]at h;dsimp only at h;cases d:C.fs f with
   |none=>rw[d]at h;cases h
   |some x=>
    rw[d]at h;dsimp only at h;cases c:hand (C.dF f) args O with
    |none=>rw[c]at h;cases h
    |some q=>
     rw[c]at h;dsimp only at h;split at h;·cases h
     ·rename_i hlen;cases hr:ni C (ai C) x.aE (q.1++List.replicate (x.L-z q.1) .dT) q.2 with|none=>rw[hr]at h;cases h|some t=>obtain⟨k,g⟩:=Uo hm hL x.aE hr;refine⟨k+1,?_⟩;rw[Nk];unfold ZO;grind
def JO{C:Ctx}(hm:C.P.follows .mixedOrders=eT)(b:ahj C)(a:VB C):eY C (ai C):=by intro f args O v c h;obtain⟨n,h⟩:=JM.mp h;exact Nl hm b a n f args O v c h
inductive KC where
 |eI|fe (l:List XOp)|eO (l:List XOp)|eL (l:List XOp)|eK (a b:KC)|eJ (c:XA) (a b:KC)|eE (id:Nat) (b:KC)|fp (keep:List Nat) (b:KC)|dq (keep:List Nat) (id:Nat)|ef (keep:List Nat)|eV (b:KC)|eD
def KC.V:KC->XC|.eI=>.eI|.fe l=>.fe l|.eO l=>.eL l|.eL l=>.eL l|.eK a b=>.eK a.V b.V|.eJ c a b=>.eJ c a.V b.V|.eE id b=>.eE id b.V|.fp _ b=>.fp b.V|.dq _ id=>.dq id|.ef _=>.ef|.eV b=>.eV b.V|.eD=>.eD
structure KF where
 f5:Nat
 L:Nat
 Y:List XR
 aE:KC
def KF.V(k:KF):XF:=⟨k.f5,k.L,k.Y,k.aE.V⟩
def avC(C:Ctx)(e:Env)(O:St)(i:XI):evI C e O i=aB C (av C e) (z e) O i:=rfl
abbrev As:=List (Nat×AV)
def look:As->Nat->AV|[],_=>.dT|(k,v)::A,t=>if k=t then v else look A t
def avA(C:Ctx)(A:As):XA->AV|.t n=>look A n|.c v=>v|.g n=>.em ((C.gl n).getD [])
def vM(b:Bool):AV->Bool|.cX c=>c==b|_=>eF
def lH(o:XOp)(A:As):Bool:=
 match o.aS with
 |U=>eT|J (t,b)=>vM b (look A t)
def A8(A:As)(d:Option Nat)(v:AV):As:=
 match d with
 |J d=>(d,v)::A|U=>A
def keepA(k:List Nat)(A:As):As:=k.map λt=>(t,look A t)
def vw(C:Ctx)(call:bH)(n:Nat)(o:XOp)(A:As)(O:St):Option (AV×St):=
 if lH o A then
  match aB C (avA C A) n O o.i with
  |J (.ew v a)=>J (v,a)|J (.fh f args a)=>call f args a|U=>U
 else J (.dT,O)
def dY(C:Ctx)(call:bH)(n:Nat):List XOp->As->St->Option (As×St)|[],A,O=>J (A,O)|o::l,A,O=>match vw C call n o A O with|J (v,a)=>dY C call n l (A8 A o.aM v) a|U=>U
def qM(C:Ctx)(call:bH)(n:Nat):List XOp->As->St->Option (As×St×List (As×AV)×List St)
 |[],A,O=>J (A,O,[],[O])
 |o::l,A,O=>match vw C call n o A O with
  |J (v,c)=>match qM C call n l (A8 A o.aM v) c with|J (b,a,rs,d)=>J (b,a,(A,v)::rs,O::d)|U=>U
  |U=>U
def oC(C:Ctx)(n:Nat)(o:XOp)(A:As)(v:AV)(ss:List St):List Nat->Bool|[]=>eT|c::l=>(match ss[c]?,ss[c+1]? with|J s,J a=>(match aB C (avA C A) n s o.i,aB C (avA C A) n a o.i with|J (.ew v1 _),J (.ew v2 _)=>same v1 v&&same v2 v|_,_=>eF)|_,_=>eF)&&oC C n o A v ss l
def gG(C:Ctx)(n:Nat)(ss:List St):List XOp->List (As×AV)->Bool|o::l,(A,v)::rs=>(!lH o A||oC C n o A v ss o.aT)&&gG C n ss l rs|_,_=>eT
def xA(C:Ctx)(call:bH)(n:Nat)(l:List XOp)(A:As)(O:St):Option (As×St):=
 match qM C call n l A O with
 |J (a,b,rs,c)=>if gG C n c l rs then J (a,b)else U|U=>U
abbrev FU:=As->St->Option (XE×As×St)
def loopA(b:FU):Nat->As->St->Option (XE×As×St)|0,_,_=>U|n+1,e,O=>match b e O with|J (.dp,c,a)=>loopA b n c a|d=>d
def aa2{b:FU}:∀(n m:Nat),n<=m->∀e O,Le (loopA b n e O) (loopA b m e O)
 |0,_,_,_,_=>Le.gb|n+1,0,c,_,_=>absurd c (by omega)
 |n+1,m+1,c,e,O=>by
  intro a ha;unfold loopA at ha⊢;cases hb:b e O with
  |none=>rw[hb]at ha;cases ha
  |some h=>
   rw[hb]at ha;obtain⟨k,f,d⟩:=h;cases k with
   |dp=>exact aa2 n m (by omega) f d a ha|dq i=>exact ha|ef=>exact ha
noncomputable def Ce(b:FU):FU:=λe O=>lim λn=>loopA b n e O
theorem tK{b:FU}{e O d}:Ce b e O=J d↔∃n,loopA b n e O=J d:=
 Z9 (λn m h=>aa2 n m h e O)
theorem Ez (b:FU) (e:As) (O:St):Ce b e O=
  match b e O with
  |J (.dp,d,c)=>Ce b d c|f=>f:=by
 refine Le.gx ?_ ?_;·intro a h;obtain⟨n,h⟩:=tK.mp h;cases n with|zero=>cases h|succ n=>grind [loopA,tK]
 ·intro a h;refine tK.mpr ?_;cases hb:b e O with
  |none=>rw[hb]at h;cases h
  |some f=>
   rw[hb]at h;obtain⟨k,d,c⟩:=f;cases k with
   |dp=>obtain⟨n,h⟩:=tK.mp h;exact⟨n+1,by unfold loopA;rw[hb];exact h⟩
   |dq i=>exact⟨1,by unfold loopA;rw[hb];exact h⟩|ef=>exact⟨1,by unfold loopA;rw[hb];exact h⟩
noncomputable def eX(C:Ctx)(call:bH)(n:Nat):KC->FU
 |.eI,e,O=>J (.dp,e,O)|.fe l,e,O|.eO l,e,O=>match dY C call n l e O with|J (f,d)=>J (.dp,f,d)|U=>U
 |.eL l,e,O=>match xA C call n l e O with|J (f,d)=>J (.dp,f,d)|U=>U
 |.eK a b,e,O=>match eX C call n a e O with|J (.dp,f,d)=>eX C call n b f d|h=>h
 |.eJ c a b,e,O=>match avA C e c with|.cX eT=>eX C call n a e O|.cX eF=>eX C call n b e O|_=>U
 |.eE id b,e,O=>match eX C call n b e O with|J (.dq i,f,d)=>J (if i=id then .dp else .dq i,f,d)|h=>h
 |.fp m b,e,O=>Ce (λe O=>eX C call n b (keepA m e) O) e O|.dq m id,e,O=>J (.dq id,keepA m e,O)|.ef m,e,O=>J (.ef,keepA m e,O)|.eV b,e,O=>eX C call n b e O|.eD,_,_=>U
def bit(t:Nat):Nat:=1<<<t
def bits:List Nat->Nat|[]=>0|t::l=>bit t|||bits l
def without(m:Nat):Option Nat->Nat|U=>m|J d=>(m|||bit d)^^^bit d
def IG:List XOp->Nat->Nat|[],N=>N|o::l,N=>bits o.aw|||without (IG l N) o.aM
def Pn(l:List XOp):Bool:=l.all λo=>o.aT.isEmpty
def TV(n:Nat):Option Nat->Bool|U=>eT|J d=>decide (d<n)
def adN(n:Nat)(l:List XOp):Bool:=l.all λo=>TV n o.aM
def live(n R:Nat):KC->Nat->(Nat->Nat)->Option Nat
 |.eI,N,_=>J N|.fe l,N,_=>if adN n l then J (IG l N)else U|.eO l,N,_=>if adN n l&&Pn l then J (IG l N)else U|.eL l,N,_=>if adN n l then J (IG l N)else U|.eK a b,N,X=>match live n R b N X with|J M=>live n R a M X|U=>U
 |.eJ c a b,N,X=>match live n R a N X,live n R b N X with|J A,J B=>J (bits c.aw|||(A|||B))|_,_=>U
 |.eE id b,N,X=>live n R b N λi=>if i=id then N else X i|.fp k b,_,X=>match live n R b (bits k) X with|J A=>if A|||bits k=bits k then J (bits k)else U|U=>U
 |.dq k id,_,X=>if X id|||bits k=bits k then J (bits k)else U|.ef k,_,_=>if R|||bits k=bits k then J (bits k)else U|.eV b,N,X=>live n R b N X|.eD,_,_=>J 0
def FH:List XR->Nat|[]=>0|.fX t::l=>bit t|||FH l|.eS t _ _::l=>bit t|||FH l
def KF.ok(k:KF):Bool:=(live k.L (FH k.Y) k.aE (FH k.Y) λ_=>FH k.Y).isSome
structure Ag(n m:Nat)(e:Env)(A:As):Prop where
 dt:e.length=n
 bh:∀t,m.testBit t=true->e.getD t .dT=look A t
theorem Ag.cM{n m k:Nat}{e A}(h:Ag n (m|||k) e A):Ag n m e A:=⟨h.dt,λt a=>h.bh t (by rw[Nat.testBit_or,a];rfl)⟩
def Ag.cQ{n m k:Nat}{e A}(h:Ag n (m|||k) e A):Ag n k e A:=⟨h.dt,λt a=>h.bh t (by rw[Nat.testBit_or,a,aE4])⟩
def AX(d t:Nat):(bit d).testBit t=decide (d=t):=by unfold bit;rw[Nat.one_shiftLeft,Nat.testBit_two_pow]
def ag4:∀(l:List Nat) (t:Nat),t∈l->(bits l).testBit t=eT
 |a::l,t,h=>by
  unfold bits;rw[Nat.testBit_or,AX];rcases az4.mp h with h|h;·subst h;simp
  ·rw[ag4 l t h,aE4]
def afb:∀(l:List Nat) (t:Nat),(bits l).testBit t=eT->t∈l
 |[],t,h=>by unfold bits at h;simp at h
 |a::l,t,h=>by
  unfold bits at h;rw[Nat.testBit_or,AX,aB4]at h;rcases h with h|h;·grind
  ·exact aF2 _ (afb l t h)
def AgL(l:List Nat)(e:Env)(A:As):Prop:=∀t∈l,e.getD t .dT=look A t
def Ag.c7{n:Nat}{l:List Nat}{e A}(h:Ag n (bits l) e A):AgL l e A:=λt a=>h.bh t (ag4 l t a)
def Yc(m d t:Nat):(without m (J d)).testBit t=(m.testBit t&& !decide (d=t)):=by unfold without;rw[Nat.testBit_xor,Nat.testBit_or,AX];grind
def anF(e:Env)(d t:Nat)(v:AV):(e.set d v).getD t .dT=if d=t/\t<z e then v else e.getD t .dT:=by grind
def Ag.b9{n m:Nat}{d:Option Nat}{e A}(h:Ag n (without m d) e A)(b:TV n d=eT)(v:AV):Ag n m (put e d v) (A8 A d v):=by
 refine⟨by rw[La,h.dt],?_⟩;intro t c;cases d with
 |none=>exact h.bh t c
 |some d=>
  have b:d<n:=(by simpa[TV]using b);unfold Go.Ev.put A8;dsimp only;rw[anF,h.dt];unfold look;by_cases a:d=t;·grind
  ·rw[if_neg (λh=>a h.1),if_neg a];exact h.bh t (by rw[Yc,c];simp[a])
def Pj:∀(k:List Nat) (A:As) (t:Nat),t∈k->look (keepA k A) t=look A t
 |a::k,A,t,h=>by
  show(if a=t then look A a else look (keepA k A) t)=_;by_cases b:a=t;·rw[if_pos b,b]
  ·rw[if_neg b];exact Pj k A t ((az4.mp h).resolve_left λh=>b h.symm)
theorem Ag.an{n:Nat}{k:List Nat}{e A}(h:Ag n (bits k) e A):Ag n (bits k) e (keepA k A):=
 ⟨h.dt,λt a=>by rw[Pj k A t (afb k t a),h.bh t a]⟩
def akS{C:Ctx}{e:Env}{A:As}(x:XA)(h:AgL x.aw e A):av C e x=avA C A x:=by
 cases x with
 |t n=>exact h n (aB2.mpr rfl)|c v=>rfl|g n=>rfl
section
variable{a a':XA->AV}
def AgX(l:List Nat)(a a':XA->AV):Prop:=∀x:XA,(∀t∈x.aw,t∈l)->a x=a' x
theorem AgX.ee{l k:List Nat}(h:AgX l a a')(b:∀t∈k,t∈l):AgX k a a':=λx d=>h x λt c=>b t (d t c)
def abO:∀(l:List XA),AgX (xO l) a a'->l.map a=l.map a'|[],_=>rfl|x::l,h=>by simp only[az3];rw[h x (λt b=>by simp[xO,b]),abO l (h.ee λt b=>by simp[xO,b])]
def abM(x:Option XA)(h:AgX (RJ x) a a'):x.map a=x.map a':=by
 cases x with
 |none=>rfl|some x=>simp only[az2];rw[h x (λt b=>b)]
def asv:∀(l:List (Nat×Nat×XA)),AgX (N9 l) a a'->(l.map λ(o,s,x)=>(o,s,a x))=(l.map λ(o,s,x)=>(o,s,a' x))|[],_=>rfl|(o,s,x)::l,h=>by simp only[az3];rw[h x (λt b=>by simp[N9,b]),asv l (h.ee λt b=>by simp[N9,b])]
def ahI(C:Ctx)(n:Nat)(O:St)(e:XI)(h:AgX e.aw a a'):aB C a n O e=aB C a' n O e:=by
 have mem:∀{x:XA},(∀t∈x.aw,t∈e.aw)->a x=a' x:=λ{x} g=>h x g;cases e<;>simp only[XI.aw]at h mem<;>simp only[aB]<;>first
  |rfl|(rw[mem (λt d=>d)])|(rename_i a b;rw[mem (x:=a) (λt d=>by simp[d]),mem (x:=b) (λt d=>by simp[d])])|(rename_i a b c;rw[mem (x:=a) (λt d=>by simp[d]),mem (x:=b) (λt d=>by simp[d]),mem (x:=c) (λt d=>by simp[d])])|(rw[asv _ h])|skip
 case ia fn x y=>rw[abO x (h.ee λt d=>by simp[d]),abO y (h.ee λt d=>by simp[d])]
 case gt x a b=>rw[mem (x:=x) (λt d=>by simp[d]),abM a (h.ee λt d=>by simp[d]),abM b (h.ee λt d=>by simp[d])]
 case hQ i x a b c=>rw[mem (x:=x) (λt d=>by simp[d]),abM a (h.ee λt d=>by simp[d]),abM b (h.ee λt d=>by simp[d])]
 case gj n i x a b c=>rw[mem (x:=x) (λt d=>by simp[d]),abM a (h.ee λt d=>by simp[d]),abM b (h.ee λt d=>by simp[d])]
 case gR j m k ok=>grind
 all_goals first
  |(rw[abO _ h])|(rename_i f l;rw[mem (x:=f) (λt d=>by simp[d]),abO l (h.ee λt d=>by simp[d])])|(rename_i f m l;rw[mem (x:=f) (λt d=>by simp[d]),abO l (h.ee λt d=>by simp[d])])|(rename_i q;rw[mem (x:=q) (λt d=>by simp[d])])
end
theorem Ag.hh{n:Nat}{o:XOp}{e A}(h:Ag n (bits o.aw) e A):pW o e=lH o A:=by
 unfold pW lH;cases a:o.aS with
 |none=>rfl
 |some q=>
  obtain⟨t,b⟩:=q;dsimp only;have c:=h.c7 t (by unfold XOp.aw;rw[a];simp);rw[<-c,az8];unfold vM;cases e[t]? with
  |none=>rfl|some v=>cases v<;>rfl
theorem Ag.lY{C:Ctx}{n:Nat}{o:XOp}{e A}(h:Ag n (bits o.aw) e A)(O:St):Go.Ev.evI C e O o.i=aB C (avA C A) n O o.i:=by rw[avC,h.dt];exact ahI C n O o.i λx b=>akS x λt a=>h.c7 t (by unfold XOp.aw;exact aC8 _ (b t a))
def Ag.op{C:Ctx}{call:bH}{n:Nat}{o:XOp}{e A}(h:Ag n (bits o.aw) e A)(O:St):CB C call o e O=vw C call n o A O:=by unfold CB vw;rw[h.hh,h.lY];grind
def Rel(n:Nat)(N:XE->Nat):Option (XE×Env×St)->Option (XE×As×St)->Prop|U,U=>True|J (k,e,O),J (k',b,a)=>k=k'/\O=a/\Ag n (N k) e b|_,_=>False
def YB {C:Ctx} {call:bH} {n N:Nat}:∀(l:List XOp) (e:Env) (A:As) (O:St),adN n l=eT->Ag n (IG l N) e A->
  match tV C call l e O,dY C call n l A O with
  |J (f,Y),J (c,b)=>Y=b/\Ag n N f c|U,U=>True|_,_=>False
 |[],e,A,O,_,h=>⟨rfl,h⟩
 |o::l,e,A,O,a,h=>by
  unfold adN at a;rw[a07,a01]at a;unfold tV dY;rw[Ag.op h.cM O];cases vw C call n o A O with
  |none=>trivial|some q=>exact YB l _ _ q.2 a.2 (h.cQ.b9 a.1 q.1)
theorem XH{C:Ctx}{n:Nat}{o:XOp}{e A}(h:Ag n (bits o.aw) e A)(v:AV)(ss:List St):∀l,Lh C o e v ss l=oC C n o A v ss l
 |[]=>rfl
 |c::l=>by
  unfold Lh oC;rw[XH h v ss l];simp only[h.lY,aB];cases ss[c]? with
  |none=>rfl
  |some s=>cases ss[c+1]? with
   |none=>rfl
   |some a=>
    dsimp only;cases aB C (avA C A) n s o.i with
    |none=>rfl|some x=>cases aB C (avA C A) n a o.i with|none=>cases x<;>rfl|some y=>cases x<;>cases y<;>rfl
def aew {C:Ctx} {call:bH} {n N:Nat}:∀(l:List XOp) (e:Env) (A:As) (O:St),adN n l=eT->Ag n (IG l N) e A->
  match xB C call l e O,qM C call n l A O with
  |J (f,Y,rs,j),J (i,g,b,c)=>Y=g/\j=c/\Ag n N f i/\∀d,zA C d l rs=gG C n d l b|U,U=>True|_,_=>False
 |[],e,A,O,_,h=>⟨rfl,rfl,h,λ_=>rfl⟩
 |o::l,e,A,O,a,h=>by
  unfold adN at a;rw[a07,a01]at a;unfold xB qM;rw[Ag.op h.cM O];cases vw C call n o A O with
  |none=>trivial
  |some q=>
   dsimp only;have:=aew (C:=C) (call:=call) (N:=N) l _ _ q.2 a.2 (h.cQ.b9 a.1 q.1);revert this;cases xB C call l (put e o.aM q.1) q.2 with
   |none=>grind|some x=>cases qM C call n l (A8 A o.aM q.1) q.2 with|none=>intro h;exact h.elim|some k=>grind [zA,gG,h.cM.hh,XH,h.cM]
theorem Qz{C:Ctx}{zs:List St}:∀(l:List XOp) (rs:List (Env×AV)),Pn l=eT->zA C zs l rs=eT
 |[],_,_=>by unfold zA;rfl
 |_::_,[],_=>by unfold zA;rfl
 |o::l,(e,v)::rs,h=>by unfold Pn at h;rw[a07,a01]at h;unfold zA;rw[Qz l rs h.2];have:o.aT=[]:=(by simpa using h.1);rw[this];unfold Lh;simp
theorem akv{C:Ctx}{call:bH}:∀(l:List XOp) (e:Env) (O:St),(xB C call l e O).map (λd=>(d.1,d.2.1))=tV C call l e O
 |[],_,_=>rfl
 |o::l,e,O=>by
  unfold xB tV;cases CB C call o e O with
  |none=>rfl|some q=>dsimp only;rw[<-akv l];grind
def afr{C:Ctx}{call:bH}{l:List XOp}(h:Pn l=eT)(e:Env)(O:St):uh C call l e O=tV C call l e O:=by grind [uh,akv,Qz]
def outs(N R:Nat)(X:Nat->Nat):XE->Nat|.dp=>N|.dq i=>X i|.ef=>R
def zx{C:Ctx}{call:bH}{n R:Nat}:∀(k:KC) (N M:Nat) (X:Nat->Nat),live n R k N X=J M->∀(e:Env) (d:As) (O:St),Ag n M e d->Rel n (outs N R X) (ni C call k.V e O) (eX C call n k d O)
 |.eI,N,M,X,h,e,d,O,ha=>by cases h;exact⟨rfl,rfl,ha⟩
 |.fe l,N,M,X,h,e,d,O,ha=>by
  unfold live at h;split at h
  ·rename_i w;cases h;unfold KC.V ni eX;have:=YB (C:=C) (call:=call) l e d O w ha;revert this;cases tV C call l e O<;>cases dY C call n l d O;·intro _;trivial
   ·intro h;exact h.elim
   ·intro h;exact h.elim
   ·rintro⟨j,h2⟩;exact⟨rfl,j,h2⟩
  ·cases h
 |.eO l,N,M,X,h,e,d,O,ha=>by
  unfold live at h;split at h
  ·rename_i y;cases h;rw[a01]at y;unfold KC.V ni eX;rw[afr y.2];have:=YB (C:=C) (call:=call) l e d O y.1 ha;revert this;cases tV C call l e O<;>cases dY C call n l d O;·intro _;trivial
   ·intro h;exact h.elim
   ·intro h;exact h.elim
   ·rintro⟨j,h2⟩;exact⟨rfl,j,h2⟩
  ·cases h
 |.eL l,N,M,X,h,e,d,O,ha=>by
  unfold live at h;split at h
  case isFalse=>cases h
  rename_i w;cases h;unfold KC.V ni eX uh xA;have:=aew (C:=C) (call:=call) l e d O w ha;revert this;cases xB C call l e O<;>cases qM C call n l d O;·intro _;trivial
  ·intro h;exact h.elim
  ·intro h;exact h.elim
  ·rename_i dv o;obtain⟨f,Y,rs,H⟩:=dv;obtain⟨t,v,E,I⟩:=o;rintro⟨j,h2,h3,h4⟩;subst h2;dsimp only;rw[h4];cases gG C n H l E;·trivial
   ·exact⟨rfl,j,h3⟩
 |.eK a b,N,M,X,h,e,d,O,ha=>by
  unfold live at h;cases hb:live n R b N X with
  |none=>rw[hb]at h;cases h
  |some B=>
   rw[hb]at h;have:=zx (C:=C) (call:=call) a B M X h e d O ha;unfold KC.V ni eX;revert this;cases ni C call a.V e O<;>cases eX C call n a d O;·intro _;trivial
   ·intro h;exact h.elim
   ·intro h;exact h.elim
   ·rename_i dv o;obtain⟨x,f,Y⟩:=dv;obtain⟨F,t,v⟩:=o;rintro⟨j,h2,h3⟩;subst j h2;cases x with|dp=>exact zx b N B X hb _ _ _ h3|dq i=>exact⟨rfl,rfl,h3⟩|ef=>exact⟨rfl,rfl,h3⟩
 |.eJ c a b,N,M,X,h,e,d,O,ha=>by
  unfold live at h;cases s:live n R a N X with
  |none=>rw[s]at h;cases h
  |some A=>cases hB:live n R b N X with
   |none=>rw[s,hB]at h;cases h
   |some B=>
    rw[s,hB]at h;cases h;unfold KC.V ni eX;rw[akS c (ha.cM.c7)];cases avA C d c with
    |cX q=>cases q with|true=>exact zx a N A X s e d O ha.cQ.cM|false=>exact zx b N B X hB e d O ha.cQ.cQ
    |_=>trivial
 |.eE id b,N,M,X,h,e,d,O,ha=>by
  unfold live at h;have:=zx (C:=C) (call:=call) b N M _ h e d O ha;unfold KC.V ni eX;revert this;cases ni C call b.V e O<;>cases eX C call n b d O;·intro _;trivial
  ·intro h;exact h.elim
  ·intro h;exact h.elim
  ·rename_i dv o;obtain⟨x,f,Y⟩:=dv;obtain⟨F,t,v⟩:=o;rintro⟨j,h2,h3⟩;subst j h2;cases x with
   |dp=>exact⟨rfl,rfl,h3⟩
   |dq i=>
    refine⟨rfl,rfl,?_⟩;unfold outs at h3;dsimp only at h3;split;·rename_i hi;rw[if_pos hi]at h3;exact h3
    ·rename_i hi;rw[if_neg hi]at h3;exact h3
   |ef=>exact⟨rfl,rfl,h3⟩
 |.fp m b,N,M,X,h,e,d,O,ha=>by
  unfold live at h;cases s:live n R b (bits m) X with
  |none=>rw[s]at h;cases h
  |some A=>
   rw[s]at h;dsimp only at h;split at h
   ·rename_i hm;cases h;have u:∀{f:Env} {t:As},Ag n (bits m) f t->Ag n A f t:=λ{f t} g=>by rw[<-hm]at g;exact g.cM
    have step:∀(p:Nat) (e:Env) (d:As) (O:St),Ag n (bits m) e d->Rel n (outs N R X) (sZ (ni C call b.V) p e O) (loopA (λe O=>eX C call n b (keepA m e) O) p d O):=by
     intro p
     induction p with
     |zero=>intro e d O _;trivial
     |succ p G=>
      intro e d O ha;unfold sZ loopA;have:=zx (C:=C) (call:=call) b (bits m) A X s e (keepA m d) O (u ha.an);revert this;cases ni C call b.V e O<;>cases eX C call n b (keepA m d) O;·intro _;trivial
      ·intro h;exact h.elim
      ·intro h;exact h.elim
      ·rename_i dv o;obtain⟨x,f,Y⟩:=dv;obtain⟨F,t,v⟩:=o;rintro⟨j,h2,h3⟩;subst j h2;cases x with|dp=>exact G _ _ _ h3|dq i=>exact⟨rfl,rfl,h3⟩|ef=>exact⟨rfl,rfl,h3⟩
    unfold KC.V ni eX;cases j:aez (ni C call b.V) e O with
    |some dv=>
     obtain⟨p,D⟩:=FI.mp j;have:=step p e d O ha;rw[D]at this;cases h2:loopA (λe O=>eX C call n b (keepA m e) O) p d O with
     |none=>rw[h2]at this;exact this.elim|some o=>grind [tK]
    |none=>
     cases h2:Ce (λe O=>eX C call n b (keepA m e) O) d O with
     |none=>trivial
     |some o=>
      obtain⟨p,D⟩:=tK.mp h2;have:=step p e d O ha;rw[D]at this;cases h3:sZ (ni C call b.V) p e O with
      |none=>rw[h3]at this;exact this.elim|some dv=>grind [FI]
   ·cases h
 |.dq m i,N,M,X,h,e,d,O,ha=>by
  unfold live at h;split at h;·rename_i hm;cases h;have g:=ha.an;rw[<-hm]at g;refine⟨rfl,rfl,?_⟩;exact g.cM
  ·cases h
 |.ef m,N,M,X,h,e,d,O,ha=>by
  unfold live at h;split at h;·rename_i hm;cases h;have g:=ha.an;rw[<-hm]at g;refine⟨rfl,rfl,?_⟩;exact g.cM
  ·cases h
 |.eV b,N,M,X,h,e,d,O,ha=>by unfold live at h;unfold KC.V ni eX;exact zx b N M X h e d O ha
 |.eD,N,M,X,h,e,d,O,ha=>by unfold KC.V ni eX;trivial
def aU(A:As)(O:St):List XR->Option LA
 |[]=>J []|.fX t::l=>match aU A O l with|J vs=>J (look A t::vs)|U=>U
 |.eS t ag a::l=>match look A t,aU A O l with
  |.c8 o off,J vs=>match O[o]? with
   |J (.cH c _)=>match pt ag a (c.drop off)with|J v=>J (v::vs)|U=>U
   |_=>U
  |_,_=>U
def We{n:Nat}{O:St}{e:Env}{A:As}:∀(l:List XR),Ag n (FH l) e A->V9 e O l=aU A O l
 |[],_=>rfl|.fX t::l,h=>by unfold V9 aU;rw[We l h.cQ,h.cM.bh t (by rw[AX];simp)];cases aU A O l<;>rfl
 |.eS t ag a::l,h=>by unfold V9 aU;rw[We l h.cQ,h.cM.bh t (by rw[AX];simp)];cases look A t<;>rfl
def lQ:Nat->LA->As|_,[]=>[]|i,v::l=>(i,v)::lQ (i+1) l
def acu:∀(l:LA) (i t:Nat),look (lQ i l) t=if t<i then .dT else l.getD (t-i) .dT
 |[],i,t=>by unfold lQ look;split<;>simp
 |v::l,i,t=>by unfold lQ look;rw[acu l (i+1) t];grind
def adx(m:Nat)(n:Nat)(args:LA)(h:z args<=n):Ag n m (args++List.replicate (n-z args) .dT) (lQ 0 args):=by refine⟨by simp;omega,?_⟩;intro t _;rw[acu,if_neg (by omega),Nat.sub_zero];grind
noncomputable def Ey(C:Ctx)(K:KF)(raw:Bool)(args:LA)(O:St):Option (AV×St):=
 match hand raw args O with
 |U=>U
 |J (args,b)=>
  if z args>K.L then U else
  match eX C (ai C) K.L K.aE (lQ 0 args) b with
  |J (.dq _,_,_)=>U|U=>U
  |J (_,e,a)=>
   match aU e a K.Y with
   |U=>U|J vs=>match hand raw vs a with|U=>U|J (vs,c)=>J (bW vs,tidy (z O) vs c)
structure Has(C:Ctx)(f:FuncId)(K:KF):Prop where
 fs:C.fs f=some K.V
 fg:C.fg f=none
 dF:C.dF f=false
 ok:K.ok=true
def apF {C:Ctx} {f:FuncId} {K:KF} {raw:Bool} (b:C.fs f=J K.V) (g:C.fg f=U) (hr:C.dF f=raw) (hok:K.ok=eT) (args:LA) (O:St):
  ai C f args O=Ey C K raw args O:=by
 rw[aey];unfold ZO Ey;rw[g,b,hr];dsimp only[KF.V];cases hand raw args O with
 |none=>rfl
 |some q=>
  obtain⟨args,a⟩:=q;dsimp only;split;·rfl
  ·rename_i hlen;unfold KF.ok at hok;obtain⟨M,d⟩:=aA7.mp hok;have:=zx (C:=C) (call:=ai C) K.aE _ M _ d (args++List.replicate (K.L-z args) .dT) _ a (adx M K.L args (by omega));revert this;cases ni C (ai C) K.aE.V (args++List.replicate (K.L-z args) .dT) a<;>cases eX C (ai C) K.L K.aE (lQ 0 args) a;·intro _;rfl
   ·intro h;exact h.elim
   ·intro h;exact h.elim
   ·rename_i y j;obtain⟨x,e,Y⟩:=y;obtain⟨m,l,k⟩:=j;rintro⟨c,h2,h3⟩;subst c h2;cases x with|dq i=>rfl|dp=>dsimp only;rw[We (O:=Y) K.Y h3];all_goals grind|ef=>dsimp only;rw[We (O:=Y) K.Y h3];all_goals grind
def Has.cm{C:Ctx}{f:FuncId}{K:KF}(h:Has C f K)(args:LA)(O:St):ai C f args O=Ey C K eF args O:=
 apF h.fs h.fg h.dF h.ok args O
def o(d:Nat)(i:XI):XOp:=⟨J d,i,U,[]⟩
def u(i:XI):XOp:=⟨U,i,U,[]⟩
def og(d:Nat)(t:Nat)(b:Bool)(i:XI):XOp:=⟨J d,i,J (t,b),[]⟩
def ug(t:Nat)(b:Bool)(i:XI):XOp:=⟨U,i,J (t,b),[]⟩
def m(d s:Nat):XOp:=⟨J d,.mv (.t s),U,[]⟩
def out(call:bH)(d:Option Nat)(e:As)(x:Option Out)(k:As->St->Option (As×St)):Option (As×St):=
 match x with
 |J (.ew v a)=>k (A8 e d v) a|J (.fh f args a)=>match call f args a with|J (v,b)=>k (A8 e d v) b|U=>U
 |U=>U
def look_nil(t:Nat):look [] t=.dT:=rfl
def Pi(k:Nat)(v:AV)(A:As)(t:Nat):look ((k,v)::A) t=if k=t then v else look A t:=rfl
def UM(A:As):keepA [] A=[]:=rfl
def Ph(t:Nat)(k:List Nat)(A:As):keepA (t::k) A=(t,look A t)::keepA k A:=rfl
def SS(i:Nat):lQ i []=[]:=rfl
def OA(i:Nat)(v:AV)(l:LA):lQ i (v::l)=(i,v)::lQ (i+1) l:=rfl
def au4(k:IntKind)(v:AV)(O:St):Option Out:=
 match v with
 |.cU _ n=>J (.ew (.cU k (k.wrap n)) O)|_=>U
def UG(k j:IntKind)(n:Int)(O:St):au4 k (.cU j n) O=J (.ew (.cU k (k.wrap n)) O):=rfl
def Ym(np:Bool)(op:BinOp)(ek:Nat)(c:Bool)(b:Bool)(y:AV):Ac np op ek c (.cX b) y=binOp op ek c (.cX b) y:=by cases np<;>rfl
def Zb(np:Bool)(op:BinOp)(ek:Nat)(c:Bool)(k:IntKind)(b:Int)(y:AV):Ac np op ek c (.cU k b) y=binOp op ek c (.cU k b) y:=by cases np<;>rfl
def Zc(np:Bool)(op:BinOp)(ek:Nat)(c:Bool)(s:LU)(y:AV):Ac np op ek c (.cV s) y=binOp op ek c (.cV s) y:=by cases np<;>rfl
def SX(np:Bool)(op:BinOp)(ek:Nat)(c:Bool)(y:AV):Ac np op ek c .ev y=binOp op ek c .ev y:=by cases np<;>rfl
def VG(np:Bool)(op:BinOp)(ek:Nat)(c:Bool)(a b:Nat)(y:AV):Ac np op ek c (.c8 a b) y=binOp op ek c (.c8 a b) y:=by cases np<;>rfl
def SV(np:Bool)(op:BinOp)(ek:Nat)(c:Bool)(l:LA):Ac np op ek c (.em l) .ev=binOp op ek c (.em l) .ev:=by cases np<;>rfl
def SY(np:Bool)(op:BinOp)(ek:Nat)(c:Bool)(y:AV):Ac np op ek c .cY y=binOp op ek c .cY y:=by cases np<;>rfl
def adA(np:Bool)(op:BinOp)(ek:Nat)(c:Bool)(y:AV):Ac np op ek c .fu y=binOp op ek c .fu y:=by cases np<;>rfl
def aji(np:Bool)(op:BinOp)(ek:Nat)(c:Bool)(i:Nat)(l:LA)(y:AV):Ac np op ek c (.sl i l) y=binOp op ek c (.sl i l) y:=by cases np<;>rfl
def adD(np:Bool)(op:BinOp)(ek:Nat)(c:Bool)(i:Nat)(l:LA)(y:AV):Ac np op ek c (.eC i l) y=binOp op ek c (.eC i l) y:=by cases np<;>rfl
def adC(np:Bool)(op:BinOp)(ek:Nat)(c:Bool)(i j p q:Nat)(y:AV):Ac np op ek c (.dj i j p q) y=binOp op ek c (.dj i j p q) y:=by cases np<;>rfl
def adB(np:Bool)(op:BinOp)(ek:Nat)(c:Bool)(i:Nat)(y:AV):Ac np op ek c (.ec i) y=binOp op ek c (.ec i) y:=by cases np<;>rfl
def OD(np:Bool)(op:BinOp)(ek:Nat)(c:Bool)(y:AV):Ac np op ek c .eA y=binOp op ek c .eA y:=by cases np<;>rfl
def Yn(np:Bool)(op:BinOp)(ek:Nat)(c:Bool)(f:Fn)(l d:LA)(y:AV):Ac np op ek c (.ea f l d) y=binOp op ek c (.ea f l d) y:=by cases np<;>rfl
def J8(np:Bool)(op:BinOp)(ek:Nat)(c:Bool)(y:AV):Ac np op ek c .ep y=binOp op ek c .ep y:=by cases np<;>rfl
def MZ(np:Bool)(op:BinOp)(ek:Nat)(c:Bool)(t:TypeId)(v:AV)(y:AV):Ac np op ek c (.eb t v) y=binOp op ek c (.eb t v) y:=by cases np<;>rfl
def D7(np:Bool)(op:BinOp)(ek:Nat)(c:Bool)(y:AV):Ac np op ek c .ej y=binOp op ek c .ej y:=by cases np<;>rfl
def Za(np:Bool)(op:BinOp)(ek:Nat)(c:Bool)(l:LA)(y:AV):Ac np op ek c (.da l) y=binOp op ek c (.da l) y:=by cases np<;>rfl
def ae4(C:Ctx)(a:XA->AV)(n0:Nat)(O:St)(k:IntKind)(x:XA):aB C a n0 O (.iv k x)=au4 k (a x) O:=rfl
def xJ (C:Ctx) (a:XA->AV) (n0:Nat) (O:St) (k:Nat) (x:XA):aB C a n0 O (.dt k x)=match bP O k (a x)with|J n=>J (.ew (.cU r (n:Int)) O)|U=>U:=by show Option.map _ _=_;cases bP O k (a x)<;>rfl
variable(C:Ctx)(call:bH)(n:Nat)
theorem aqJ(e:As)(t:Nat):avA C e (.t t)=look e t:=rfl
theorem aqH(e:As)(v:AV):avA C e (.c v)=v:=rfl
theorem aqI(e:As)(n:Nat):avA C e (.g n)=.em ((C.gl n).getD []):=rfl
theorem YC(d:Nat)(e:As)(v:AV)(O:St)(k):out call (J d) e (J (.ew v O)) k=k ((d,v)::e) O:=rfl
theorem U1(e:As)(v:AV)(O:St)(k):out call U e (J (.ew v O)) k=k e O:=rfl
theorem agf(d:Nat)(e:As)(f:FuncId)(args:LA)(O:St)(k):out call (J d) e (J (.fh f args O)) k=match call f args O with|J (v,a)=>k ((d,v)::e) a|U=>U:=rfl
theorem acN(e:As)(f:FuncId)(args:LA)(O:St)(k):out call U e (J (.fh f args O)) k=match call f args O with|J (_,a)=>k e a|U=>U:=rfl
theorem U0(d:Option Nat)(e:As)(k):out call d e U k=U:=rfl
theorem OY(e:As)(O:St):dY C call n [] e O=J (e,O):=rfl
theorem Yt(d:Nat)(i:XI)(l:List XOp)(e:As)(O:St):dY C call n (o d i::l) e O=out call (J d) e (aB C (avA C e) n O i) (dY C call n l):=by grind [vw,o,dY,lH,out]
theorem Yu(i:XI)(l:List XOp)(e:As)(O:St):dY C call n (u i::l) e O=out call U e (aB C (avA C e) n O i) (dY C call n l):=by grind [vw,u,dY,lH,out]
theorem Yr(d s:Nat)(l:List XOp)(e:As)(O:St):dY C call n (m d s::l) e O=dY C call n l ((d,look e s)::e) O:=rfl
theorem Ia(c:Bool):vM eT (.cX c)=c:=by cases c<;>rfl
theorem Ff(c:Bool):vM eF (.cX c)= !c:=by cases c<;>rfl
theorem Zu(d t:Nat)(b:Bool)(i:XI)(l:List XOp)(e:As)(O:St):dY C call n (og d t b i::l) e O=if vM b (look e t)then out call (J d) e (aB C (avA C e) n O i) (dY C call n l)else dY C call n l ((d,.dT)::e) O:=by
 show(match vw C call n (og d t b i) e O with|J (v,a)=>dY C call n l (A8 e (J d) v) a|U=>U)=_;unfold vw lH out og;dsimp only;by_cases hb:vM b (look e t)=eT;·grind
 ·rw[if_neg hb,if_neg hb];rfl
theorem Zv(t:Nat)(b:Bool)(i:XI)(l:List XOp)(e:As)(O:St):dY C call n (ug t b i::l) e O=if vM b (look e t)then out call U e (aB C (avA C e) n O i) (dY C call n l)else dY C call n l e O:=by
 show(match vw C call n (ug t b i) e O with|J (v,a)=>dY C call n l (A8 e U v) a|U=>U)=_;unfold vw lH out ug;dsimp only;by_cases hb:vM b (look e t)=eT;·grind
 ·rw[if_neg hb,if_neg hb];rfl
theorem U8(e:As)(O:St)(t:Nat)(l:List XR):aU e O (.fX t::l)=match aU e O l with|J vs=>J (look e t::vs)|U=>U:=rfl
theorem U7(e:As)(O:St):aU e O []=J []:=rfl
theorem alp(k:List Nat)(e:As):keepA k (keepA k e)=keepA k e:=by unfold keepA;apply List.map_congr_left;intro t a;exact congrArg (Prod.mk t) (Pj k e t a)
noncomputable def aH(k:List Nat)(b:KC)(e:As)(O:St):Option (XE×As×St):=Ce (λe O=>eX C call n b (keepA k e) O) e O
theorem aa3(k:List Nat)(b:KC)(e:As)(O:St):aH C call n k b (keepA k e) O=aH C call n k b e O:=by unfold aH;rw[Ez,Ez _ e,alp]
theorem PH(k:List Nat)(b:KC)(e:As)(O:St):eX C call n (.fp k b) e O=aH C call n k b (keepA k e) O:=(aa3 C call n k b e O).symm
theorem kF {k:List Nat} {b:KC} {e:As} (he:keepA k e=e) (O:St):aH C call n k b e O=match eX C call n b e O with|J (.dp,c,a)=>aH C call n k b (keepA k c) a|d=>d:=by grind [aH,Ez,aa3]
theorem PI(e:As)(O:St):eX C call n .eI e O=J (.dp,e,O):=rfl
theorem agJ(l:List XOp)(e:As)(O:St):eX C call n (.fe l) e O=match dY C call n l e O with|J (b,a)=>J (.dp,b,a)|U=>U:=rfl
theorem aaF(l:List XOp)(e:As)(O:St):eX C call n (.eO l) e O=match dY C call n l e O with|J (b,a)=>J (.dp,b,a)|U=>U:=rfl
theorem agK(a b:KC)(e:As)(O:St):eX C call n (.eK a b) e O=match eX C call n a e O with|J (.dp,d,c)=>eX C call n b d c|f=>f:=rfl
theorem acV(c:XA)(a b:KC)(e:As)(O:St):eX C call n (.eJ c a b) e O=match avA C e c with|.cX eT=>eX C call n a e O|.cX eF=>eX C call n b e O|_=>U:=rfl
theorem aaE(id:Nat)(b:KC)(e:As)(O:St):eX C call n (.eE id b) e O=match eX C call n b e O with|J (.dq i,c,a)=>J (if i=id then .dp else .dq i,c,a)|d=>d:=rfl
theorem PG(k:List Nat)(id:Nat)(e:As)(O:St):eX C call n (.dq k id) e O=J (.dq id,keepA k e,O):=rfl
theorem Ve(k:List Nat)(e:As)(O:St):eX C call n (.ef k) e O=J (.ef,keepA k e,O):=rfl
theorem Lp(b:KC)(e:As)(O:St):eX C call n (.eV b) e O=eX C call n b e O:=rfl
theorem w64{n:Int}(h: -9223372036854775808<=n)(a:n<=9223372036854775807):IntKind.i64.wrap n=n:=by rw[IntKind.wrap_i64];omega
theorem wrE{a b:Int}(h:a=b/\ -9223372036854775808<=a/\a<=9223372036854775807):IntKind.i64.wrap a=b:=by rw[w64 h.2.1 h.2.2,h.1]
theorem wrS(n:Nat)(h:n<9223372036854775807):IntKind.i64.wrap ((n:Int)+1)=((n+1:Nat):Int):=wrE (by omega)
theorem wu8{n:Int}(h:0<=n)(a:n<=255):IntKind.u8.wrap n=n:=by rw[IntKind.wrap_u8];omega
theorem axe{n:Int}(h:0<=n)(a:n<=4294967295):IntKind.u32.wrap n=n:=by rw[IntKind.wrap_u32];omega
theorem wu64{n:Int}(h:0<=n)(a:n<=18446744073709551615):IntKind.u64.wrap n=n:=by unfold IntKind.wrap;simp[IntKind.bits,IntKind.signed];omega
theorem DD(O:St)(vs:LA):tidy (z O) vs O=O:=by simp[tidy]
end Go.Ev
namespace Go.Ev
open Bool renaming true→eT, false→eF
open Option renaming some→J, none→U
open List renaming length→z
open Go.IntKind renaming i64→r
section
variable(ek:Nat)(c:Bool)(k k':IntKind)(a b:Int)
theorem Tf:binOp .add ek c (.cU k a) (.cU k b)=J (.cU k (k.wrap (a+b))):=by simp[binOp,sU]
theorem OG:binOp .sub ek c (.cU k a) (.cU k b)=J (.cU k (k.wrap (a-b))):=by simp[binOp,sU]
theorem Tu:binOp .mul ek c (.cU k a) (.cU k b)=J (.cU k (k.wrap (a*b))):=by simp[binOp,sU]
theorem Ti:binOp .and ek c (.cU k a) (.cU k b)=J (.cU k (k.wrap (BitVec.ofInt k.bits a&&&BitVec.ofInt k.bits b).toNat)):=by simp[binOp,sU]
theorem Ze:binOp .or ek c (.cU k a) (.cU k b)=J (.cU k (k.wrap (BitVec.ofInt k.bits a|||BitVec.ofInt k.bits b).toNat)):=by simp[binOp,sU]
theorem TG:binOp .xor ek c (.cU k a) (.cU k b)=J (.cU k (k.wrap (BitVec.ofInt k.bits a^^^BitVec.ofInt k.bits b).toNat)):=by simp[binOp,sU]
theorem Gl:binOp .andNot ek c (.cU k a) (.cU k b)=J (.cU k (k.wrap (BitVec.ofInt k.bits a&&& ~~~(BitVec.ofInt k.bits b)).toNat)):=by simp[binOp,sU]
theorem Tj:binOp .eql ek c (.cU k a) (.cU k b)=J (.cX (a==b)):=by simp[binOp,sU]
theorem Tv:binOp .neq ek c (.cU k a) (.cU k b)=J (.cX (a !=b)):=by simp[binOp,sU]
theorem Tt:binOp .lss ek c (.cU k a) (.cU k b)=J (.cX (a<b)):=by simp[binOp,sU]
theorem Tq:binOp .leq ek c (.cU k a) (.cU k b)=J (.cX (a<=b)):=by simp[binOp,sU]
theorem Tn:binOp .gtr ek c (.cU k a) (.cU k b)=J (.cX (a>b)):=by simp[binOp,sU]
theorem Tm:binOp .geq ek c (.cU k a) (.cU k b)=J (.cX (a>=b)):=by simp[binOp,sU]
theorem Tz:binOp .quo ek c (.cU k a) (.cU k b)=if b=0 then U else J (.cU k (k.wrap (a.tdiv b))):=by simp[binOp,sU]
theorem TA:binOp .rem ek c (.cU k a) (.cU k b)=if b=0 then U else J (.cU k (a.tmod b)):=by simp[binOp,sU]
theorem TB:binOp .shl ek c (.cU k a) (.cU k' b)=if b<0 then U else J (.cU k (k.wrap (a*2^min b.toNat k.bits))):=by simp[binOp,Cf]
theorem TD:binOp .shr ek c (.cU k a) (.cU k' b)=if b<0 then U else J (.cU k (a.fdiv (2^min b.toNat k.bits))):=by simp[binOp,Cf]
theorem TE(op:BinOp)(x y:LU):binOp op ek c (.cV x) (.cV y)=sV op x y:=rfl
theorem H8(op:BinOp)(q:Bool)(y:AV):binOp op ek c (.cX q) y=xy op (eqA ek c (.cX q) y):=rfl
theorem Ea(op:BinOp)(y:AV):binOp op ek c .ev y=xy op (eqA ek c .ev y):=rfl
theorem Dk(op:BinOp)(i j:Nat)(y:AV):binOp op ek c (.c8 i j) y=xy op (eqA ek c (.c8 i j) y):=rfl
theorem D9(op:BinOp)(l:LA)(y:AV):binOp op ek c (.em l) y=xy op (eqA ek c (.em l) y):=rfl
theorem Eb(op:BinOp)(y:AV):binOp op ek c .cY y=xy op (eqA ek c .cY y):=rfl
theorem J9(op:BinOp)(y:AV):binOp op ek c .fu y=xy op (eqA ek c .fu y):=rfl
theorem OE(op:BinOp)(i:Nat)(l:LA)(y:AV):binOp op ek c (.sl i l) y=xy op (eqA ek c (.sl i l) y):=rfl
theorem Kr(op:BinOp)(i:Nat)(l:LA)(y:AV):binOp op ek c (.eC i l) y=xy op (eqA ek c (.eC i l) y):=rfl
theorem Kq(op:BinOp)(i j p q:Nat)(y:AV):binOp op ek c (.dj i j p q) y=xy op (eqA ek c (.dj i j p q) y):=rfl
theorem Ko(op:BinOp)(i:Nat)(y:AV):binOp op ek c (.ec i) y=xy op (eqA ek c (.ec i) y):=rfl
theorem DN(op:BinOp)(y:AV):binOp op ek c .eA y=xy op (eqA ek c .eA y):=rfl
theorem H9(op:BinOp)(f:Fn)(l d:LA)(y:AV):binOp op ek c (.ea f l d) y=xy op (eqA ek c (.ea f l d) y):=rfl
theorem Bz(op:BinOp)(y:AV):binOp op ek c .ep y=xy op (eqA ek c .ep y):=rfl
theorem Bv(op:BinOp)(t:TypeId)(v:AV)(y:AV):binOp op ek c (.eb t v) y=xy op (eqA ek c (.eb t v) y):=rfl
theorem wC(op:BinOp)(y:AV):binOp op ek c .ej y=xy op (eqA ek c .ej y):=rfl
theorem Gm(op:BinOp)(l:LA)(y:AV):binOp op ek c (.da l) y=xy op (eqA ek c (.da l) y):=rfl
end
def aeT(q:Bool):unOp .not (.cX q)=J (.cX !q):=rfl
def aeS(k:IntKind)(n:Int):unOp .neg (.cU k n)=J (.cU k (k.wrap (0-n))):=rfl
def Kt(q:Bool):(AV.cX q).cH=[(AV.cX q)]:=rfl
def O6(q:Bool):(AV.cX q).C=eT:=rfl
def OM(k:IntKind)(n:Int):(AV.cU k n).cH=[(AV.cU k n)]:=rfl
def Ut(k:IntKind)(n:Int):(AV.cU k n).C=eT:=rfl
def OV(s:LU):(AV.cV s).cH=[(AV.cV s)]:=rfl
def Uy(s:LU):(AV.cV s).C=eT:=rfl
def Kv:AV.ev.cH=[AV.ev]:=rfl
def O9:AV.ev.C=eT:=rfl
def OU(i j:Nat):(AV.c8 i j).cH=[(AV.c8 i j)]:=rfl
def Ux(i j:Nat):(AV.c8 i j).C=eT:=rfl
def Ku(l:LA):(AV.em l).cH=[(AV.em l)]:=rfl
def O7(l:LA):(AV.em l).C=eT:=rfl
def Kw:AV.cY.cH=[AV.cY]:=rfl
def Pe:AV.cY.C=eT:=rfl
def OL:AV.fu.cH=[AV.fu]:=rfl
def Us:AV.fu.C=eT:=rfl
def TM(i:Nat)(l:LA):(AV.sl i l).cH=[(AV.sl i l)]:=rfl
def Iz(i:Nat)(l:LA):(AV.sl i l).C=eT:=rfl
def OW(i:Nat)(l:LA):(AV.eC i l).cH=[(AV.eC i l)]:=rfl
def Uz(i:Nat)(l:LA):(AV.eC i l).C=eT:=rfl
def OQ(i j p q:Nat):(AV.dj i j p q).cH=[(AV.dj i j p q)]:=rfl
def Uw(i j p q:Nat):(AV.dj i j p q).C=eT:=rfl
def OO(i:Nat):(AV.ec i).cH=[(AV.ec i)]:=rfl
def Uu(i:Nat):(AV.ec i).C=eT:=rfl
def Fg:AV.eA.cH=[AV.eA]:=rfl
def Iy:AV.eA.C=eT:=rfl
def cells_func(f:Fn)(l d:LA):(AV.ea f l d).cH=[(AV.ea f l d)]:=rfl
def O8(f:Fn)(l d:LA):(AV.ea f l d).C=eT:=rfl
def DR:AV.ep.cH=[AV.ep]:=rfl
def Fq:AV.ep.C=eT:=rfl
def Ie(t:TypeId)(v:AV):(AV.eb t v).cH=[(AV.eb t v)]:=rfl
def KR(t:TypeId)(v:AV):(AV.eb t v).C=eT:=rfl
def BC:AV.ej.cH=[AV.ej]:=rfl
def DV:AV.ej.C=eT:=rfl
def OJ(l:LA):(AV.da l).cH=l:=rfl
def IW(a x:AV)(l:LA):splice (a::l) 0 [x]=x::l:=rfl
def IV(a:AV)(l v:LA)(n:Nat):splice (a::l) (n+1) v=a::splice l n v:=by unfold splice;grind
def Ok(O:St):Prop:=O.all (AO.below (z O))=eT
def Cj{O:St}(a:Ok O){vs:LA}(hv:ae (z O) vs=eT)(l:St):tidy (z O) vs (O++l)=O:=by
 unfold tidy;split;·simp_all
 ·have b:(O++l).take (z O)=O:=(by simp);rw[b,hv,a];rfl
def wW{n:Nat}{vs:LA}(hv:ae n vs=eF)(O:St):tidy n vs O=O:=by unfold tidy;rw[hv];split<;>rfl
mutual
theorem below_mono{n k:Nat}(h:n<=k):∀v:AV,below n v=eT->below k v=eT
 |.c8 o _,hv=>by simp[below]at hv⊢;omega
 |.dj o _ _ _,hv=>by simp[below]at hv⊢;omega
 |.ec o,hv=>by simp[below]at hv⊢;omega
 |.ea _ x y,hv=>by simp only[below,a01]at hv⊢;exact⟨aK h x hv.1,aK h y hv.2⟩
 |.eb _ v,hv=>by simp only[below]at hv⊢;exact below_mono h v hv
 |.da l,hv=>by simp only[below]at hv⊢;exact aK h l hv
 |.df l,hv=>by simp only[below]at hv⊢;exact aK h l hv
 |.em l,hv=>by simp only[below]at hv⊢;exact aK h l hv
 |.sl _ l,hv=>by simp only[below]at hv⊢;exact aK h l hv
 |.eC _ l,hv=>by simp only[below]at hv⊢;exact aK h l hv
 |.cX _,_|.cU _ _,_|.cV _,_|.ev,_|.cY,_|.fu,_|.eA,_|.ep,_|.ej,_=>by simp[below]
theorem aK{n k:Nat}(h:n<=k):∀l:LA,ae n l=eT->ae k l=eT
 |[],_=>by simp[ae]
 |v::l,hv=>by simp only[ae,a01]at hv⊢;exact⟨below_mono h v hv.1,aK h l hv.2⟩
end
def AO.au{n k:Nat}(h:n<=k):∀x:AO,AO.below n x=eT->AO.below k x=eT
 |.cH l _,a=>aK h l a|.ec b,a=>by simp only[AO.below,a01]at a⊢;grind [aK]
 |.eq,_=>rfl
def Ok.eG{O:St}(h:Ok O){l:St}(a:l.all (AO.below (z O+z l))=eT):Ok (O++l):=by unfold Ok;rw[aH9,a04,a01];refine⟨?_,a⟩;rw[a97];intro x b;exact AO.au (by omega) x (a97.mp h x b)
def Ok.de:Ok []:=rfl
def pile(O:St)(k:Nat)(x:AO):St:=O++(List.replicate k .eq++[x])
def XB(O:St)(k:Nat)(x:AO):z (pile O k x)=z O+(k+1):=by simp[pile]
def NS(O:St)(k:Nat)(x:AO):(pile O k x)[z O+k]?=J x:=by grind [pile]
def agj(O:St)(k:Nat)(x y:AO):(pile O k x).set (z O+k) .eq++[y]=pile O (k+1) y:=by unfold pile;rw[List.set_append_right _ _ (by omega),List.set_append_right _ _ (by simp)];simp[List.replicate_succ',ay2]
def ad4{O:St}(a:Ok O){vs:LA}(hv:ae (z O) vs=eT)(k:Nat)(x:AO):tidy (z O) vs (pile O k x)=O:=Cj a hv _
def aI(l:LU):z (ofBytes l)=z l:=by simp[ofBytes]
def NM(l d:LU):ofBytes l++ofBytes d=ofBytes (l++d):=by simp[ofBytes]
def vN:∀l:LU,bytesOf (ofBytes l)=J l|[]=>rfl|b::l=>by have:=vN l;unfold ofBytes at this⊢;rw[az3];unfold bytesOf adF;rw[this];simp
def yE(l:LU):(ofBytes l).all AV.C=eT:=by rw[a97];intro v hv;unfold ofBytes at hv;obtain⟨b,_,rfl⟩:=aC1.mp hv;rfl
def kY(n:Nat):∀l:LU,ae n (ofBytes l)=eT|[]=>rfl|b::l=>by have:=kY n l;unfold ofBytes at this⊢;simp[ae,below,this]
def aqj(k:IntKind)(b:k.signed=eF)(a:Nat)(ha:a<2^k.bits):k.wrap (a:Int)=(a:Int):=by unfold IntKind.wrap;rw[b];have:((a:Int)%(2^k.bits:Int))=(a:Int):=Int.emod_eq_of_lt (by omega) (by exact_mod_cast ha);simp[this]
def an0(w a:Nat)(ha:a<2^w):(BitVec.ofInt w (a:Int)).toNat=a:=by grind
def amK (k:IntKind) (c:k.signed=eF) (a b:Nat) (ha:a<2^k.bits) (hb:b<2^k.bits):
  k.wrap ((BitVec.ofInt k.bits (a:Int)&&&BitVec.ofInt k.bits (b:Int)).toNat:Int)=((a&&&b:Nat):Int):=by
 rw[BitVec.toNat_and,an0 _ _ ha,an0 _ _ hb];exact aqj k c _ (Nat.and_lt_two_pow a hb)
def avi (k:IntKind) (c:k.signed=eF) (a b:Nat) (ha:a<2^k.bits) (hb:b<2^k.bits):
  k.wrap ((BitVec.ofInt k.bits (a:Int)^^^BitVec.ofInt k.bits (b:Int)).toNat:Int)=((a^^^b:Nat):Int):=by
 rw[BitVec.toNat_xor,an0 _ _ ha,an0 _ _ hb];exact aqj k c _ (Nat.xor_lt_two_pow ha hb)
def Wl:AV->Bool|.cX _|.cU _ _|.cV _=>eT|_=>eF
def jM(o:Nat)(O:St):hand eF [.c8 o 0] O=J ([.c8 o 0],O):=rfl
def Jz(o p:Nat)(O:St):hand eF [.c8 o 0,.c8 p 0] O=J ([.c8 o 0,.c8 p 0],O):=rfl
noncomputable section
def Yv{ρ:Type}(v:AV):(AV->ρ)->ρ:=
 AV.rec (motive_1:=λ_=>(AV->ρ)->ρ) (motive_2:=λ_=>Unit)
  (λb k=>k (.cX b)) (λa b k=>k (.cU a b)) (λs k=>k (.cV s)) (λk=>k .ev) (λa b k=>k (.c8 a b)) (λa _ k=>k (.em a)) (λk=>k .cY) (λk=>k .fu) (λa b _ k=>k (.sl a b)) (λa b _ k=>k (.eC a b))
  (λa b c d k=>k (.dj a b c d)) (λa k=>k (.ec a)) (λk=>k .eA) (λa b c _ _ k=>k (.ea a b c)) (λk=>k .ep) (λa b _ k=>k (.eb a b)) (λk=>k .ej) (λa _ k=>k (.da a)) (λa _ k=>k (.df a)) () (λ_ _ _ _=>()) v
def ZN{ρ:Type}(v:AV)(k:AV->ρ):Yv v k=k v:=by cases v<;>rfl
def lkR(A:As)(t:Nat):AV:=List.rec (motive:=λ_=>AV) .dT (λp _ a=>Prod.rec (λk v=>Bool.rec a v (Nat.beq k t)) p) A
def aeb:∀(A:As) (t:Nat),lkR A t=look A t
 |[],_=>rfl
 |(k,v)::d,t=>by
  show(Bool.rec (lkR d t) v (Nat.beq k t):AV)=if k=t then v else look d t;rw[aeb d t];by_cases h:k=t
  ·subst h;simp
  ·cases hb:Nat.beq k t;·rw[if_neg h]
   simp_all
def avR(C:Ctx)(A:As)(x:XA):AV:=XA.rec (λn=>lkR A n) (λv=>v) (λn=>.em ((C.gl n).getD [])) x
def amM(C:Ctx)(A:As):avR C A=avA C A:=funext λx=>by
 cases x
 case t n=>exact aeb A n
 all_goals rfl
def auG{ρ:Type}(d:Option Nat)(A:As)(k:As->ρ)(v:AV):ρ:=Option.rec (motive:=λ_=>ρ) (k A) (λd=>Yv v λv=>k ((d,v)::A)) d
def arB{ρ:Type}(d:Option Nat)(A:As)(k:As->ρ)(v:AV):auG d A k v=k (A8 A d v):=by
 cases d;·rfl
 ·exact ZN v _
abbrev MQ:=Ctx->(XA->AV)->Nat->St->Option Out
def sG(i:XI):MQ:=λC a n O=>aB C a n O i
def qMv(x:XA):MQ:=λC a n O=>J (.ew (a x) O)
def awn(ag:Bool)(sz:Nat)(x:XA):MQ:=λC a n O=>match a x with
 |.em l=>(pt ag sz l).map (.ew · O)|.c8 o off=>match O[o]? with|J (.cH l _)=>(pt ag sz (l.drop off)).map (.ew · O)|_=>U
 |_=>U
def ax5(op:BinOp)(ek:Nat)(b:Bool)(x y:XA):MQ:=λC a n O=>(Ac C.np op ek b (a x) (a y)).map (.ew · O)
def ax6(k:IntKind)(x:XA):MQ:=λC a n O=>match a x with|.cU _ n=>J (.ew (.cU k (k.wrap n)) O)|_=>U
def arC(x i:XA):MQ:=λC a n O=>match qK (a i),a x with
 |J i,.cV s=>match s[i]? with|J b=>J (.ew (.cU .u8 b.toNat) O)|U=>U
 |_,_=>U
def apd(x:XA)(i:Nat):MQ:=λC a n O=>match a x with
 |.df l=>match l[i]? with|J v=>J (.ew v O)|U=>U
 |_=>U
def ax7(k:Nat)(x:XA):MQ:=λC a n O=>(bP O k (a x)).map λn=>.ew (.cU r n) O
def auH(f:FuncId)(l:List XA):MQ:=λC a n O=>J (.fh f (l.map a) O)
def evQ(i:XI):MQ:=XI.rec (motive:=λ_=>MQ) qMv (λa b c=>sG (.gL a b c)) (λa b=>sG (.eN a b)) (λa=>sG (.iB a)) (λa b=>sG (.hA a b)) (λa b c d=>sG (.gw a b c d)) awn (λa b c=>sG (.fI a b c)) (λa=>sG (.ip a)) ax5 (λa b=>sG (.un a b)) ax6 (λa=>sG (.kl a)) (λa=>sG (.k9 a)) (λa=>sG (.jn a)) (λa=>sG (.lj a)) (λa=>sG (.ln a)) (λa b=>sG (.gN a b)) (λa b c=>sG (.ia a b c)) (sG .io) (λa b c d e=>sG (.gB a b c d e)) (λa b c=>sG (.gt a b c)) (λa b c d e=>sG (.hQ a b c d e)) (λa b c d e f=>sG (.gj a b c d e f)) (λa b=>sG (.fW a b)) (λa b c d=>sG (.iu a b c d)) (λa b c d=>sG (.fY a b c d)) (λa b c=>sG (.ey a b c)) (λa b c d e=>sG (.hX a b c d e)) arC (λa b c d=>sG (.gR a b c d)) (λa b c=>sG (.gT a b c)) (λa b c=>sG (.hY a b c)) (λa b c=>sG (.gO a b c)) apd (λa b c d e f=>sG (.eG a b c d e f)) ax7 (λa=>sG (.iz a)) (λa b c=>sG (.jN a b c)) (λa b c=>sG (.hZ a b c)) auH (λa b=>sG (.ij a b)) (λa b c=>sG (.gP a b c)) (sG .gH) (λa b c d=>sG (.gA a b c d)) (sG .eD) i
def atX(i:XI)(C:Ctx)(a:XA->AV)(n:Nat)(O:St):evQ i C a n O=aB C a n O i:=by cases i<;>rfl
def awi(call:bH)(d:Option Out):Option (AV×St):=Option.rec (motive:=λ_=>Option (AV×St)) U (λo=>Out.rec (motive:=λ_=>Option (AV×St)) (λv O=>J (v,O)) (λf a O=>call f a O) o) d
def aqo(g:Option (Nat×Bool))(A:As):Bool:=Option.rec (motive:=λ_=>Bool) eT (λp=>Prod.rec (motive:=λ_=>Bool) (λt b=>vM b (lkR A t)) p) g
def aqp(o:XOp)(A:As):aqo o.aS A=lH o A:=by
 unfold aqo lH;cases o.aS with
 |none=>rfl|some p=>exact congrArg (vM p.2) (aeb A p.1)
def ars(C:Ctx)(call:bH)(n:Nat)(o:XOp)(A:As)(O:St):Option (AV×St):=Bool.rec (motive:=λ_=>Option (AV×St)) (J (.dT,O)) (awi call (evQ o.i C (avR C A) n O)) (aqo o.aS A)
def art(C:Ctx)(call:bH)(n:Nat)(o:XOp)(A:As)(O:St):ars C call n o A O=vw C call n o A O:=by
 unfold ars vw awi;rw[atX,aqp,amM];cases lH o A;·rfl
 ·simp only[if_true];cases aB C (avA C A) n O o.i with|none=>rfl|some x=>cases x<;>rfl
abbrev RO:=Option (As×St)
def asR(d:Option Nat)(A:As)(a:As->St->RO)(f:Option (AV×St)):RO:=Option.rec (motive:=λ_=>RO) U (λp=>Prod.rec (motive:=λ_=>RO) (λv O=>auG d A (λA=>a A O) v) p) f
def alI(C:Ctx)(call:bH)(n:Nat)(l:List XOp):As->St->RO:=
 List.rec (motive:=λ_=>As->St->RO) (λA O=>J (A,O)) (λo _ a A O=>asR o.aM A a (ars C call n o A O)) l
def ake(C:Ctx)(call:bH)(n:Nat):∀(l:List XOp) (A:As) (O:St),alI C call n l A O=dY C call n l A O
 |[],_,_=>rfl
 |o::l,A,O=>by
  show asR o.aM A (alI C call n l) (ars C call n o A O)=(match vw C call n o A O with|J (v,a)=>dY C call n l (A8 A o.aM v) a|U=>U);rw[art];cases vw C call n o A O with
  |none=>rfl|some p=>obtain⟨v,Y⟩:=p;show auG o.aM A (λA=>alI C call n l A Y) v=_;rw[arB,ake C call n l]
def keepR{ρ:Type}(k:List Nat)(A:As):(As->ρ)->ρ:=List.rec (motive:=λ_=>(As->ρ)->ρ) (λf=>f []) (λt _ a f=>Yv (lkR A t) λv=>a λE=>f ((t,v)::E)) k
def UL{ρ:Type}:∀(k:List Nat) (A:As) (f:As->ρ),keepR k A f=f (keepA k A)|[],_,_=>rfl|t::k,A,f=>by show Yv (lkR A t) (λv=>keepR k A λE=>f ((t,v)::E))=_;rw[ZN,UL k A,aeb];rfl
abbrev RR1:=Option (XE×As×St)
def xeR(d:RO):RR1:=Option.rec (motive:=λ_=>RR1) U (λp=>Prod.rec (motive:=λ_=>RR1) (λA O=>J (.dp,A,O)) p) d
def onR(d:RR1)(f:As->St->RR1)(g:Nat->As->St->RR1):RR1:=Option.rec (motive:=λ_=>RR1) U (λq=>Prod.rec (motive:=λ_=>RR1) (λx p=>Prod.rec (motive:=λ_=>RR1) (λA O=>XE.rec (motive:=λ_=>RR1) (f A O) (λi=>g i A O) (J (.ef,A,O)) x) p) q) d
def exR(i:Nat)(A:As)(O:St):RR1:=J (.dq i,A,O)
def noR(A:As)(O:St):RR1:=J (.dp,A,O)
def amV(v:AV):Option Bool:=match v with|.cX b=>J b|_=>U
def ifR(q:Option Bool)(a b:RR1):RR1:=Option.rec (motive:=λ_=>RR1) U (λq=>Bool.rec (motive:=λ_=>RR1) b a q) q
def aot(b:FU)(k:List Nat)(m:Nat):FU:=Nat.rec (motive:=λ_=>FU) (λ_ _=>U) (λ_ a A O=>keepR k A λA=>onR (b A O) a exR) m
def kkR(C:Ctx)(call:bH)(n m:Nat)(c:KC):FU:=KC.rec (motive:=λ_=>FU)
 noR (λl A O=>xeR (alI C call n l A O)) (λl A O=>xeR (alI C call n l A O)) (λl A O=>xeR (xA C call n l A O))
 (λ_ _ a b A O=>onR (a A O) b exR)
 (λc _ _ a b A O=>ifR (amV (avR C A c)) (a A O) (b A O))
 (λid _ b A O=>onR (b A O) noR λi A O=>Bool.rec (motive:=λ_=>RR1) (exR i A O) (noR A O) (Nat.beq i id))
 (λk _ b=>aot b k m) (λk id A O=>keepR k A λA=>exR id A O) (λk A O=>keepR k A λA=>J (.ef,A,O)) (λ_ b=>b) (λ_ _=>U) c
def ag0(k:List Nat)(b a:FU)(h:∀A O,Le (b A O) (a A O)):∀(m:Nat) (A:As) (O:St),Le (aot b k m A O) (loopA (λe O=>a (keepA k e) O) m A O)
 |0,_,_=>Le.gb
 |m+1,A,O=>by
  intro f hr;change keepR k A (λA=>onR (b A O) (aot b k m) exR)=J f at hr;rw[UL]at hr;unfold loopA;cases hb:b (keepA k A) O with
  |none=>rw[hb]at hr;cases hr
  |some q=>
   obtain⟨x,c,d⟩:=q;rw[h _ _ _ hb];rw[hb]at hr;cases x with
   |dp=>exact ag0 k b a h m c d f hr|dq i=>exact hr|ef=>exact hr
def NH(C:Ctx)(call:bH)(n m:Nat):∀(c:KC) (A:As) (O:St),Le (kkR C call n m c A O) (eX C call n c A O)
 |.eI,_,_=>Le.cf|.fe l,A,O|.eO l,A,O=>by intro h hr;change xeR (alI C call n l A O)=J h at hr;rw[ake]at hr;unfold eX;cases f:dY C call n l A O<;>rw[f]at hr<;>exact hr
 |.eL l,A,O=>by intro h hr;change xeR (xA C call n l A O)=J h at hr;unfold eX;cases f:xA C call n l A O<;>rw[f]at hr<;>exact hr
 |.eK a b,A,O=>by
  intro h hr;change onR (kkR C call n m a A O) (kkR C call n m b) exR=J h at hr;unfold eX;cases ha:kkR C call n m a A O with
  |none=>rw[ha]at hr;cases hr
  |some q=>
   obtain⟨x,d,e⟩:=q;rw[NH C call n m a A O _ ha];rw[ha]at hr;cases x with
   |dp=>exact NH C call n m b d e h hr|dq i=>exact hr|ef=>exact hr
 |.eJ c a b,A,O=>by
  intro h hr;change ifR (amV (avR C A c)) (kkR C call n m a A O) (kkR C call n m b A O)=J h at hr;rw[amM]at hr;unfold eX;cases g:avA C A c<;>rw[g]at hr
  case cX q=>
   cases q;·exact NH C call n m b A O h hr
   ·exact NH C call n m a A O h hr
  all_goals cases hr
 |.eE id b,A,O=>by
  intro h hr;change onR (kkR C call n m b A O) noR (λi A O=>Bool.rec (motive:=λ_=>RR1) (exR i A O) (noR A O) (Nat.beq i id))=J h at hr;unfold eX;cases ha:kkR C call n m b A O with
  |none=>rw[ha]at hr;cases hr
  |some q=>
   obtain⟨x,d,e⟩:=q;rw[NH C call n m b A O _ ha];rw[ha]at hr;cases x with
   |dp=>exact hr
   |dq i=>
    change(Bool.rec (motive:=λ_=>RR1) (exR i d e) (noR d e) (Nat.beq i id))=J h at hr;cases hb:Nat.beq i id<;>rw[hb]at hr;·grind [Nat.beq_refl,exR]
    ·rw[<-hr,ay0 hb];simp[noR]
   |ef=>exact hr
 |.fp k b,A,O=>λh hr=>tK.mpr ⟨m,ag0 k _ _ (NH C call n m b) m A O h hr⟩|.dq k id,A,O=>by intro h hr;change keepR k A (λA=>exR id A O)=J h at hr;rw[UL]at hr;exact hr
 |.ef k,A,O=>by intro h hr;change keepR k A (λA=>J (.ef,A,O))=J h at hr;rw[UL]at hr;exact hr
 |.eV b,A,O=>NH C call n m b A O|.eD,_,_=>Le.gb
end
end Go.Ev
