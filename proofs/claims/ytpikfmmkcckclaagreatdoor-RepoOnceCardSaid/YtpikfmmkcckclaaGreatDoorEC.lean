/- An evaluator. No conditions. -/
import Derived.Test.YtpikfmmkcckclaaGreatDoorEB
import Derived.ChangeShapes
import Derived.OpenShut
import Derived.Carry
import Derived.WalkSmall
import Derived.Recover
set_option linter.unusedVariables false
set_option linter.unusedSimpArgs false
set_option linter.defProp false
namespace Go.Ev
open Go.RowKit
def adk:Value->Bool
 |.int .u8 _=>false
 |_=>true
def adl:Option Value->Bool
 |some (.int .i64 _)=>false
 |_=>true
def gh0(T:Nat->Bool)(W:World):Gh:=⟨T,0,fun _=>0,fun _=>0,fun b i=>match T b with
 |true=>W.cell? ⟨b,i,none⟩
 |false=>(W.cell? ⟨b,i,none⟩).filter fun v=>adk v||adl (W.cell? ⟨b,i+1,none⟩)⟩
def im0{T:Nat->Bool}{W:World}{b i:Nat}{v:Value}(h:W.cell? ⟨b,i,none⟩=some v)(hn:(adk v||adl (W.cell? ⟨b,i+1,none⟩))=true):(gh0 T W).im b i=some v:=by
 show(match T b with|true=>W.cell? ⟨b,i,none⟩|false=>(W.cell? ⟨b,i,none⟩).filter fun v=>adk v||adl (W.cell? ⟨b,i+1,none⟩))=_
 grind
theorem ao1{T:Nat->Bool}{W:World}{b i:Nat}(h:T b=true):(gh0 T W).im b i=W.cell? ⟨b,i,none⟩:=by
 show(match T b with|true=>W.cell? ⟨b,i,none⟩|false=>(W.cell? ⟨b,i,none⟩).filter fun v=>adk v||adl (W.cell? ⟨b,i+1,none⟩))=_
 rw[h]
theorem ao0{T:Nat->Bool}{W:World}{b i:Nat}(h:T b=false):(gh0 T W).im b i=(W.cell? ⟨b,i,none⟩).filter fun v=>adk v||adl (W.cell? ⟨b,i+1,none⟩):=by
 show(match T b with|true=>W.cell? ⟨b,i,none⟩|false=>(W.cell? ⟨b,i,none⟩).filter fun v=>adk v||adl (W.cell? ⟨b,i+1,none⟩))=_
 rw[h]
def anL{g:Gh}{a:AV}{v:Value}(h:VR g a v)(hb:isByte a=false):adk v=true:=by
 cases h<;>first|rfl|skip
 rename_i k n;cases k<;>first|rfl|cases hb
def wr0{T:Nat->Bool}{W:World}(h:∀b,T b=true->∃c e,W.heap[b]?=some (.cells c e (0,0))):WR (gh0 T W) W []:=⟨rfl,fun b i v hv=>(by
 grind [ao0,Option.filter_eq_some_iff,ao1]),fun b i v hv=>(by
 cases hT:T b with
 |false=>exact .inl ⟨hT,fun j n m hj hj'=>by
  grind [ao0,Option.filter_eq_some_iff,adk,adl]⟩
 |true=>
  grind),fun o x hx=>by simp at hx,fun o o' x x' hx=>by simp at hx⟩
def isI:AV->Bool
 |.int .i64 _=>true
 |_=>false
def anM{g:Gh}{a:AV}{v:Value}(h:VR g a v)(hb:isI a=false):adl (some v)=true:=by
 cases h<;>first|rfl|skip
 rename_i k n;cases k<;>first|rfl|cases hb
def okB:LA->Bool
 |[]=>true
 |[a]=>!isByte a
 |a::a'::l=>(!isByte a|| !isI a')&&okB (a'::l)
def akK:∀{l:LA},okB l=true->∀{j:Nat} {a:AV},l[j]?=some a->isByte a=true->∃a',l[j+1]?=some a'/\isI a'=false
 |[],_,j,a,h,_=>by simp at h
 |[x],ho,j,a,h,hb=>by
  grind [okB]
 |x::y::l,ho,j,a,h,hb=>by
  rw[okB,a01]at ho;cases j with
  |zero=>
   grind
  |succ j=>exact akK ho.2 (j:=j) (by simpa using h) hb
def abY(C:Ctx)(b:Nat):Bool:=(C.gl b).isSome
def afz{C:Ctx}{W:World}(tabs:∀g l,C.gl g=some l->Tab W g l):∀b,abY C b=true->∃c e,W.heap[b]?=some (.cells c e (0,0)):=by
 intro b hb;obtain⟨l,hl⟩:=aw3.mp hb;obtain⟨c,e,hh,_⟩:=tabs b l hl;exact⟨c,e,hh⟩
def gl0{C:Ctx}{W:World}(hn:C.np=true)(tabs:∀g l,C.gl g=some l->Tab W g l):GL C (gh0 (abY C) W):=by
 refine⟨fun n l hl=>⟨?_,by show abY C n=true;unfold abY;rw[hl];rfl⟩,.inl hn⟩
 obtain⟨c,e,hh,hc⟩:=tabs n l hl
 grind [CR.of_get,ao1,abY,World.cell?]
def Rd(T:Nat->Bool)(P:Program)(W:World)(t:TypeId){α:Type}(Q:α->Prop)(f:α->LA):Prop:=
 ∀(H:Type) (enc:TypeId×Value->H) (sp:Nat->Bool) (held:Bool) (fuel:Nat) (cs:List Value) (x:DataW H×List MemPlace),DataW.trod enc P W 0 sp held fuel t cs=some x->∃a,Q a/\VRs (gh0 T W) (f a) cs
section
variable{T:Nat->Bool}{P:Program}{W:World}{t e:TypeId}
def OT{k:IntKind}(ht:P.underlying t=some (.int k)):Rd T P W t (fun n:Int=>(Lit.int k n).wf=true) (fun n=>[.int k n]):=by
 intro H enc sp held fuel cs x h;obtain⟨n,rfl,_,hw⟩:=DataW.trod_int ht h;exact⟨n,hw,.cons _ _ _ _ (.int _ _) .nil⟩
def anj(ht:P.underlying t=some .bool):Rd T P W t (fun _:Bool=>True) (fun b=>[.bool b]):=by
 intro H enc sp held fuel cs x h;obtain⟨n,rfl,_⟩:=DataW.trod_bool ht h;exact⟨n,trivial,.cons _ _ _ _ (.bool _) .nil⟩
def Ei(ht:P.underlying t=some .string):Rd T P W t (fun s:LU=>s.length<=maxLen) (fun s=>[.str s]):=by
 intro H enc sp held fuel cs x h;obtain⟨⟨⟨s⟩⟩,rfl,_,hw⟩:=DataW.trod_string ht h;exact⟨s,hw,.cons _ _ _ _ (.str _) .nil⟩
def Zc{W:World}{a:Addr}{n:Nat}{cs:List Value}(h:W.cells? 0 a n=some cs):cs.length=n/\∀j,j<n->W.cell? (a.add j)=cs[j]? /\cs[j]?.isSome:=by
 unfold World.cells? at h;split at h
 ·have hl:=mapM_some_length h;refine⟨by simpa using hl,fun j hj=>?_⟩
  have hg:=mapM_some_get h j j (by simp[hj])
  grind
 ·cases h
theorem cell_spot{W:World}{a:Addr}{v:Value}(h:W.cell? a=some v):a.spot=none:=by
 unfold World.cell? at h;split at h
 ·simp_all
 ·cases h
def Uu{α:Type}{R:Nat->α->Prop}:∀(n:Nat),(∀i,i<n->∃x,R i x)->∃xs:List α,xs.length=n/\∀i (x:α),xs[i]?=some x->R i x
 |0,_=>⟨[],rfl,fun i x h=>by simp at h⟩
 |n+1,h=>by
  obtain⟨xs,h1,h2⟩:=Uu n fun i hi=>h i (by omega)
  obtain⟨y,hy⟩:=h n (by omega)
  refine⟨xs++[y],by simp[h1],fun i x hx=>?_⟩
  grind
def ag8{γ:Gh}{α:Type}{f:α->LA}{k:Nat}(hk:∀x,(f x).length=k){b:Nat}:∀(xs:List α) (off:Nat),(∀i (x:α),xs[i]?=some x->∀j a,(f x)[j]?=some a->∃v,γ.im b (off+i*k+j)=some v/\VR γ a v)->CR γ (xs.flatMap f) b off
 |[],off,_=>.nil _ _
 |x::xs,off,h=>by
  rw[ay1];refine CR.of_get fun i a ha=>?_;rw[ax2]at ha;split at ha
  ·have:=h 0 x rfl i a ha;simpa using this
  ·rename_i hi;rw[hk]at ha hi;have ih:=ag8 hk xs (off+k) (fun i' x' hx' j a' ha'=>by
    have:=h (i'+1) x' (by simpa using hx') j a' ha'
    obtain⟨v,h1,h2⟩:=this;exact⟨v,by rw[<-h1];congr 1;rw[aB4];omega,h2⟩)
   obtain⟨v,h1,h2⟩:=ih.get ha
   grind
def JP {α:Type} {Q:α->Prop} {f:α->LA} {k:Nat} (ht:P.underlying t=some (.slice e)) (hc:P.cellsOf e=k) (hk:∀x,(f x).length=k) (hpos:0<k) (hu:∀x,okB (f x)=true) (he:Rd T P W e Q f):
  Rd T P W t (fun xs:List α=>xs.length<=maxLen/\∀x∈xs,Q x) (fun xs=>[.sl xs.length (xs.flatMap f)]):=by
 intro H enc sp held fuel cs x h;rcases DataW.trod_slice ht h with⟨rfl,_⟩|⟨a,len,cap,elems,rest,n,_,rfl,_,_,hle,hcap,hel,hat,_,_⟩
 ·exact⟨[],⟨a98 _,fun x hx=>by cases hx⟩,.cons _ _ _ _ .slNil .nil⟩
 ·rw[hc]at hat
  have hs0:0<len->a.spot=none:=fun h0=>by
   have h1:=hat 0 h0;rw[a02 (by omega),a03]at h1
   obtain⟨c1,hc1,_⟩:=h1;obtain⟨_,hg⟩:=Zc hc1
   grind [cell_spot,Addr.add]
  have:∀i,i<len->∃y:α,Q y/\a.spot=none/\∀j av,(f y)[j]?=some av->∃v,(gh0 T W).im a.block (a.off+i*k+j)=some v/\VR (gh0 T W) av v:=by
   intro i hi;have hi2:i<elems.length:=by omega
   have h1:=hat i hi;rw[a02 hi2,a03]at h1;obtain⟨cs1,hc1,hy⟩:=h1;obtain⟨y,hq,hv⟩:=he H enc sp held n cs1 _ hy;obtain⟨hl,hg⟩:=Zc hc1;have hs:=hs0 (by omega)
   refine⟨y,hq,hs,fun j av hav=>?_⟩;have hj:j<k:=by grind
   obtain⟨v,h4,h5⟩:=hv.get hav;have atC:∀j v,cs1[j]?=some v->W.cell? ⟨a.block,a.off+i*k+j,none⟩=some v:=fun j v e=>by
    have hj:j<k:=by grind
    rw[<-e,<-(hg j hj).1];obtain⟨ab,ao,asp⟩:=a
    grind [addr_add]
   refine⟨v,im0 (atC j v h4) ?_,h5⟩;cases hb:isByte av with
   |false=>rw[anL h5 hb];rfl
   |true=>
    obtain⟨a',g1,g2⟩:=akK (hu y) hav hb;obtain⟨v',g3,g4⟩:=hv.get g1;rw[show a.off+i*k+j+1=a.off+i*k+(j+1)from by omega,atC (j+1) v' g3,anM g4 g2,aB1]
  obtain⟨xs,hxl,hx⟩:=Uu len this;refine⟨xs,⟨by omega,fun x hx'=>?_⟩,.cons _ _ _ _ ?_ .nil⟩
  ·obtain⟨i,hi,rfl⟩:=List.getElem_of_mem hx';exact(hx i _ (a02 hi)).1
  ·cases xs with
   |nil=>
    grind [VR]
   |cons y ys=>
    have hs:=(hx 0 y rfl).2.1;have ea:a=⟨a.block,a.off,none⟩:=by cases a;simp_all
    rw[ea,<-hxl];refine .sl _ _ _ _ _ (ag8 hk _ _ fun i x hx' j av hav=>(hx i x hx').2.2 j av hav) (by omega)
def RdF(T:Nat->Bool)(P:Program)(W:World):List Field->Nat->{α:Type}->(α->Prop)->(α->LA)->Prop:=fun fs off α Q f=>
 ∀(H:Type) (enc:TypeId×Value->H) (sp:Nat->Bool) (held:Bool) (fuel:Nat) (cs:List Value),(∀g∈fs,(DataW.trod enc P W 0 sp held fuel g.type ((cs.drop g.offset).take (P.cellsOf g.type))).isSome)->cs.length=off+(fs.map fun g=>P.cellsOf g.type).sum->∃a,Q a/\VRs (gh0 T W) (f a) (cs.drop off)
def Ff{off:Nat}:RdF T P W [] off (fun _:Unit=>True) (fun _=>[]):=by
 intro H enc sp held fuel cs _ hl;refine⟨(),trivial,?_⟩;rw[au1 (by simp at hl;omega)]
 exact .nil
def fE {α β:Type} {Q:α->Prop} {f:α->LA} {Q':β->Prop} {f':β->LA} {g:Field} {fs:List Field} {off:Nat} (ho:g.offset=off) (h:Rd T P W g.type Q f) (hf:RdF T P W fs (off+P.cellsOf g.type) Q' f'):
  RdF T P W (g::fs) off (fun x:α×β=>Q x.1/\Q' x.2) (fun x=>f x.1++f' x.2):=by
 intro H enc sp held fuel cs hall hl;obtain⟨y,hy⟩:=aw3.mp (hall g (by simp))
 obtain⟨a,hq,hv⟩:=h H enc sp held fuel _ _ hy;obtain⟨b,hq',hv'⟩:=hf H enc sp held fuel cs (fun g' hg'=>hall g' (by simp[hg'])) (by simp at hl;omega)
 refine⟨(a,b),⟨hq,hq'⟩,?_⟩;have:cs.drop off=(cs.drop off).take (P.cellsOf g.type)++cs.drop (off+P.cellsOf g.type):=by
  rw[<-aD0,List.take_append_drop]
 rw[this,<-ho];exact hv.append (by rw[ho];exact hv')
def yh{α:Type}{Q:α->Prop}{f:α->LA}{fs:Array Field}(ht:P.underlying t=some (.struct fs))(hc:P.cellsOf t=(fs.toList.map fun g=>P.cellsOf g.type).sum)(h:RdF T P W fs.toList 0 Q f):Rd T P W t Q f:=by
 intro H enc sp held fuel cs x hx;obtain⟨xs,n,_,_,hl,hxl,hat⟩:=DataW.trod_struct ht hx;have:=h H enc sp held n cs (fun g hg=>by
  obtain⟨i,hi,rfl⟩:=List.getElem_of_mem hg;have hi':i<fs.size:=by simpa using hi
  have h2:=hat i fs[i] (by simp[hi'])
  grind) (by rw[hl,hc];omega)
 simpa using this
def Rd.map{α β:Type}{Q:α->Prop}{f:α->LA}{Q':β->Prop}{f':β->LA}(h:Rd T P W t Q f)(g:α->β)(hq:∀a,Q a->Q' (g a))(hf:∀a,f' (g a)=f a):Rd T P W t Q' f':=by
 intro H enc sp held fuel cs x hx;obtain⟨a,h1,h2⟩:=h H enc sp held fuel cs x hx
 grind
end
def ame {T:Nat->Bool} {P:Program} {W:World} {t:TypeId} {fs:Array Field} {base:Nat} {v:Value} (ht:P.underlying t=some (.struct fs)) (hv:Value.okWide P W .any base t v) {α:Type} {Q:α->Prop} {f:α->LA} (hr:Rd T P W t Q f) {H:Type} {enc:TypeId×Value->H} {sp:Nat->Bool} {held:Bool} {d:DataW H} {ps:List MemPlace} (h:DataW.Trod enc P W 0 sp held t v d ps):
  ∃a,Q a/\VR (gh0 T W) (.agg (f a)) v:=by
 simp only[Value.okWide,ht]at hv;obtain⟨cs,rfl,_,_⟩:=hv;obtain⟨n,hn⟩:=h;obtain⟨a,hq,hx⟩:=hr H enc sp held n _ _ hn;exact⟨a,hq,.agg _ _ hx⟩
def amf {T:Nat->Bool} {P:Program} {W:World} {t:TypeId} {base:Nat} {v:Value} (hna:∀cs,¬Value.okWide P W .any base t (.agg cs)) (hv:Value.okWide P W .any base t v) {α:Type} {Q:α->Prop} {f:α->AV} (hr:Rd T P W t Q (fun a=>[f a])) {H:Type} {enc:TypeId×Value->H} {sp:Nat->Bool} {held:Bool} {d:DataW H} {ps:List MemPlace} (h:DataW.Trod enc P W 0 sp held t v d ps):
  ∃a,Q a/\VR (gh0 T W) (f a) v:=by
 obtain⟨n,hn⟩:=h;obtain⟨a,hq,hx⟩:=hr H enc sp held n _ _ hn;refine⟨a,hq,?_⟩;have:v.cells.toList=[v]:=by
  cases v with
  |agg cs=>exact absurd hv (hna cs)
  |_=>rfl
 grind [VRs]
def atB{P:Program}{W:World}{t:TypeId}{base:Nat}{k:IntKind}(ht:P.underlying t=some (.int k)):∀cs,¬Value.okWide P W .any base t (.agg cs):=fun cs h=>by simp[Value.okWide,ht,Cell.okWide,Cell.ok]at h
def akC{P:Program}{W:World}{t e:TypeId}{base:Nat}(ht:P.underlying t=some (.slice e)):∀cs,¬Value.okWide P W .any base t (.agg cs):=fun cs h=>by simp[Value.okWide,ht,Cell.okWide,Cell.ok]at h
def aeq {C:Ctx} {call:aZ} (hc:dW C call) {f:FuncId} (hf:IV C.P f) (hn:C.np=true) {azs:LA} {b:Bool} (h:call f azs []=some (.bool b,[])) {W:World} (tabs:∀g l,C.gl g=some l->Tab W g l) {args:List Value} (ha:VRs (gh0 (abY C) W) azs args):
  Calls C.P f ⟨args⟩ W fun e w'=>e=.returned (.bool b)/\Below W.heap.size W w':=by
 have hd:=hc f azs [] (.bool b) [] h (gh0 (abY C) W) W args ha (wr0 (afz tabs)) (gl0 hn tabs);unfold Does at hd;rw[hf.enter]at hd;refine Calls.mono hd fun e w' ⟨v2,he,g',hgo,hr⟩=>?_;cases hr;exact⟨he,hgo.os,hgo.tape,hgo.output,hgo.size,fun k hk=>(hgo.fr k hk (fun o x hx=>by simp at hx)).2.1⟩
def anw{g g':Gh}{a:AV}{v:Value}(h:Vb a=true)(hv:VR g a v):VR g' a v:=by
 cases hv<;>first|(cases h;done)|constructor
def afc {C D:Ctx} {call:aZ} (hc:dW C call) (hP:D.P=C.P) (hgl:D.gl=C.gl) (hs:∀n l,C.gl n=some l->l.all Vb=true) {f:FuncId} {b:Bool} (h:call f [] []=some (.bool b,[])):
  POK D f fun args O=>match args with|[]=>some (.bool b,O)|_=>none:=by
 intro args O v O' h1 g w args' ha hw hg;dsimp only at h1;split at h1
 ·cases h1;cases ha;have hw2:WR ⟨fun _=>true,0,g.ob,g.bs,fun b i=>if g.pl b then g.im b i else none⟩ w []:=⟨rfl,fun b i v hv=>(by
   grind [WR]),fun b i v hv=>(by
   grind [WR]),fun o x hx=>by simp at hx,fun o o' x x' hx=>by simp at hx⟩
  have hd:=hc f [] [] (.bool b) [] h _ w [] .nil hw2 ⟨fun n l hl=>⟨?_,rfl⟩,.inr fun _=>rfl⟩
  ·rw[<-hP]at hd;have mono:∀v' w',(∃g',Goes ⟨fun _=>true,0,g.ob,g.bs,fun b i=>if g.pl b then g.im b i else none⟩ [] w g' [] w'/\VR g' (.bool b) v')->∃g',Goes g O w g' O w'/\VR g' (.bool b) v':=by
    rintro v' w' ⟨g',hgo,hr⟩;cases hr;exact⟨g,uJ hw ⟨hgo.os,hgo.tape,hgo.output,hgo.size,fun k hk=>(hgo.fr k hk (fun o x hx=>by simp at hx)).2.1⟩,.bool _⟩
   unfold Does at hd⊢;split at hd
   ·exact Calls.mono hd fun e w' ⟨v2,he,hR⟩=>⟨v2,he,mono _ _ hR⟩
   ·exact mono _ _ hd
   ·exact hd
  ·obtain⟨h3,h4⟩:=hg.1 n l (by rw[hgl];exact hl)
   refine CR.of_get fun i a hi=>?_;obtain⟨v,h5,h6⟩:=h3.get hi;refine⟨v,?_,anw (a90.mp (hs n l hl) a (a94 hi)) h6⟩
   grind
 ·cases h1
open Go.RowKit Go.ChangeShapes
def NF {H:Type} {enc:TypeId×Value->H} {P:Program} {W W':World} (hl:laidOutB P=true) (hb:Below W.heap.size W W'):∀{ts:List TypeId} {vs:List Value} {ds:List (DataW H)} {ps:List MemPlace},(ts.all fun t=>P.readableRec t&&decide (t<P.types.size))=true->
  DataW.TrodAll enc P W 0 (fun _=>true) true ts vs ds ps->(∀x∈ps,x.block<W.heap.size)->DataW.TrodAll enc P W' 0 (fun b=>decide (b<W.heap.size)) true ts vs ds ps
 |[],vs,ds,ps,_,h,_=>by
  obtain⟨rfl,rfl,rfl⟩:=trodAll_nil h;rfl
 |t::ts,vs,ds,ps,ht,h,hlt=>by
  obtain⟨v,vs',d,ds',p,q,rfl,rfl,rfl,h1,h2⟩:=trodAll_cons h;simp only[a88,a01,decide_eq_true_eq]at ht;exact trodAll_cons_mk (Below.trod hl ht.1.1 ht.1.2 h1 hb fun x hx=>hlt x (by simp[hx])) (NF hl hb (by simpa using ht.2) h2 fun x hx=>hlt x (by simp[hx]))
theorem ac2{H:Type}{enc:TypeId×Value->H}{P:Program}{W:World}{b:Nat}{sp:Nat->Bool}{hd:Bool}:∀(fuel:Nat) (t:TypeId) (l:Lit) (p:List MemPlace),DataW.trod enc P W b sp hd fuel t []≠some (.lit l,p)
 |0,t,l,p,h=>by cases h
 |fuel+1,t,l,p,h=>by
  unfold DataW.trod at h
  grind [a97]
def aku{α β:Type}(f:α->Option β){l:List α}{x:β}(h:l.mapM f=some [x]):∃a,f a=some x:=by
 cases l with
 |nil=>simp at h
 |cons a r=>
  grind [a03]
theorem ac1{H:Type}{enc:TypeId×Value->H}{P:Program}{W:World}{b:Nat}{sp:Nat->Bool}{hd:Bool}(fuel:Nat)(t:TypeId)(l:Lit)(p:List MemPlace)(h:DataW.trod enc P W b sp hd fuel t []=some (.agg [.lit l],p)):False:=by
 cases fuel with
 |zero=>cases h
 |succ fuel=>
  unfold DataW.trod at h;split at h;all_goals first
   |(cases h;done)
   |(rename_i h1;cases h1;done)
   |(rename_i h1 _;cases h1;done)
   | (split at h
      ·rw[a97]at h;obtain⟨xs,h1,e⟩:=h;have e1:=congrArg (fun x=>match x.1 with|DataW.agg l=>l|_=>[]) e
       dsimp only at e1
       match xs,e1 with
       |_::_::_,e1=>simp at e1
       |[y],e1=>
        obtain⟨z,hz⟩:=aku _ h1
        grind [ac2]
      ·cases h)
def alS {H:Type} {enc:TypeId×Value->H} {P:Program} {W:World} {b:Nat} {sp:Nat->Bool} {fuel:Nat} {u:TypeId} {cs:List Value} {d:DataW H} {p:List MemPlace} (h:DataW.trod enc P W b sp false fuel u cs=some (.ptr d,p)):
  ∃n e a cs' p',P.underlying u=some (.pointer e)/\cs=[.pointer (some a)]/\W.cells? b a (P.cellsOf e)=some cs'/\DataW.trod enc P W b sp false n e cs'=some (d,p'):=by
 cases fuel with
 |zero=>cases h
 |succ fuel=>
  unfold DataW.trod at h;split at h
  case h_6 e a he=>
   rw[a97]at h;obtain⟨x,hx,e1⟩:=h;rw[a03]at hx
   grind
  all_goals first
   |(cases h;done)
   |(rw[a97]at h;obtain⟨x,_,e⟩:=h;cases e;done)
   |(split at h<;>first
    |(cases h;done)
    |(rw[a97]at h;obtain⟨x,_,e⟩:=h;cases e;done)
    |grind [a03,a97]
    |grind [a03])
def apu{P:Program}{W:World}{t e:TypeId}{base:Nat}(ht:P.underlying t=some (.pointer e)):∀cs,¬Value.okWide P W .any base t (.agg cs):=fun cs h=>by simp[Value.okWide,ht,Cell.okWide,Cell.ok]at h
def ad5 {P:Program} {W:World} {laid:List (String×DataW Unit)} (h:laidMet P laid W) {n name:String} {s:LU} {t:TypeId} {ms:Array (String×TypeId)} {g:Nat} (hm:(n,.iface name (.ptr (.agg [.lit (.string s)])))∈laid)
  (h1:P.globalNamed n=some g) (h2:(P.globals[g]?).map (·.type)=some t) (h3:P.underlying t=some (.interface ms)):∃u,Tab W g [.iface u (.eptr [])]:=by
 obtain⟨ps,hL,_,hc⟩:=h;obtain⟨g',t',cs,fuel,p,k1,k2,k3,k4,k5⟩:=abl hL hm;obtain rfl:=aA9 (h1.symm.trans k1);obtain rfl:=aA9 (h2.symm.trans k2);have hv:∃n' u v p',cs.toList=[.iface u v]/\DataW.trod (fun _=>()) P W 0 (fun _=>true) false n' u v.cells.toList=some (.ptr (.agg [.lit (.string s)]),p'):=by
  generalize cs.toList=l at k4;cases fuel with
  |zero=>cases k4
  |succ fuel=>
   unfold DataW.trod at k4;rw[h3]at k4
   match l,k4 with
   |[.nilIface],k4=>cases k4
   |[.iface u v],k4=>
    dsimp only at k4;cases hn:P.typeName? 3 u with
    |none=>rw[hn]at k4;cases k4
    |some nm=>
     rw[hn]at k4;dsimp only at k4;rw[a97]at k4
     grind
 obtain⟨n',u,v,p',hcs,hv⟩:=hv;have hsz:cs.size=1:=by
  have:=congrArg List.length hcs;simpa using this
 have h0:MemPlace.cell g 0∈ps:=k5 _ (by simp[MemPlace.row,hsz])
 obtain⟨⟨c,e',hh⟩,hok⟩:=hc g 0 h0;have hccs:c=cs:=by
  grind [World.var?]
 subst hccs;have c0:c[0]?=some (.iface u v):=by
  rw[<-Array.getElem?_toList,hcs];rfl
 have hok:=hok u v (by unfold World.cell?;rw[hh];exact c0)
 obtain⟨n2,e2,a,cs',p2,q1,q2,q3,q4⟩:=alS hv;have ev:v=.pointer (some a):=by
  cases v with
  |agg l=>exact absurd hok (apu q1 l)
  |_=>exact(List.cons.inj q2).1
 subst ev;have hsp:a.spot=none:=by
  cases hs:a.spot with
  |none=>rfl
  |some k=>
   exfalso;have hcell:W.cell? (a.add 0)=none:=by
    show W.cell? a=none
    grind [World.cell?]
   have:cs'=[]:=by
    unfold World.cells? at q3;rw[if_pos (a98 _)]at q3;cases hn:P.cellsOf e2 with
    |zero=>rw[hn]at q3;simpa using q3.symm
    |succ m=>
     grind [List.range_succ_eq_map]
   grind [ac1]
 obtain⟨b,o,sp⟩:=a;dsimp only at hsp;subst hsp;exact⟨u,c,e',hh,fun i x hx=>by
  cases i with
  |zero=>
   simp only[aA7,a05]at hx;subst hx;exact⟨_,c0,fun γ=>.iface _ _ _ (.eptr _ _ _ (.nil _ _))⟩
  |succ i=>simp at hx⟩
def EVA:type_of%@look_nil/\type_of%@Lr/\type_of%@QO/\type_of%@Lp/\type_of%@Pv/\type_of%@Kz/\type_of%@Rq/\type_of%@Ro/\type_of%@LW/\type_of%@adM/\type_of%@XY/\type_of%@adN/\type_of%@aa9/\type_of%@XX/\type_of%@LQ/\type_of%@Rw/\type_of%@Ih/\type_of%@LV/\type_of%@KX/\type_of%@Vx/\type_of%@Vy/\type_of%@WI/\type_of%@WJ/\type_of%@Vw/\type_of%@VG/\type_of%@Rf/\type_of%@ads/\type_of%@aa1/\type_of%@QZ/\type_of%@amj/\type_of%@amh/\type_of%@ami/\type_of%@EI/\type_of%@CO/\type_of%@zW/\type_of%@PH/\type_of%@KH/\type_of%@PQ/\type_of%@PI/\type_of%@Wi/\type_of%@PY/\type_of%@DN/\type_of%@PL/\type_of%@PR/\type_of%@PP/\type_of%@PO/\type_of%@PN/\type_of%@PM/\type_of%@PT/\type_of%@PU/\type_of%@PV/\type_of%@PW/\type_of%@PX/\type_of%@EG/\type_of%@AQ/\type_of%@zI/\type_of%@AP/\type_of%@AU/\type_of%@GY/\type_of%@KG/\type_of%@G6/\type_of%@G5/\type_of%@GZ/\type_of%@Ad/\type_of%@EH/\type_of%@yJ/\type_of%@yI/\type_of%@sU/\type_of%@DR/\type_of%@ac4/\type_of%@ac3/\type_of%@G8/\type_of%@KZ/\type_of%@KN/\type_of%@Qv/\type_of%@KR/\type_of%@Qz/\type_of%@Ha/\type_of%@Ld/\type_of%@KQ/\type_of%@Qy/\type_of%@G9/\type_of%@La/\type_of%@He/\type_of%@Lh/\type_of%@KL/\type_of%@Qu/\type_of%@P7/\type_of%@EX/\type_of%@KT/\type_of%@QA/\type_of%@KP/\type_of%@Qx/\type_of%@KO/\type_of%@Qw/\type_of%@CP/\type_of%@EW/\type_of%@cells_func/\type_of%@Lc/\type_of%@Ae/\type_of%@CW/\type_of%@EK/\type_of%@Hz/\type_of%@yM/\type_of%@Ai/\type_of%@KJ/\type_of%@Fp/\type_of%@Fj/\type_of%@aB.eq_1/\type_of%@aB.eq_2/\type_of%@aB.eq_3/\type_of%@aB.eq_4/\type_of%@aB.eq_5/\type_of%@aB.eq_6/\type_of%@aB.eq_7/\type_of%@aB.eq_8/\type_of%@aB.eq_9/\type_of%@Vq/\type_of%@V9/\type_of%@We/\type_of%@Py/\type_of%@SB/\type_of%@Px/\type_of%@Pz/\type_of%@aaK/\type_of%@afV/\type_of%@aaN/\type_of%@aaM/\type_of%@aaL/\type_of%@KE/\type_of%@Vr/\type_of%@GX/\type_of%@Je/\type_of%@AC/\type_of%@V8/\type_of%@aB.eq_10/\type_of%@aB.eq_11/\type_of%@abh/\type_of%@aB.eq_13/\type_of%@aB.eq_14/\type_of%@aB.eq_15/\type_of%@aB.eq_16/\type_of%@aB.eq_18/\type_of%@aB.eq_19/\type_of%@aB.eq_20/\type_of%@aB.eq_21/\type_of%@aB.eq_22/\type_of%@aB.eq_23/\type_of%@aB.eq_24/\type_of%@aB.eq_25/\type_of%@aB.eq_26/\type_of%@aB.eq_27/\type_of%@aB.eq_28/\type_of%@aB.eq_29/\type_of%@aB.eq_30/\type_of%@aB.eq_31/\type_of%@aB.eq_32/\type_of%@aB.eq_33/\type_of%@aB.eq_34/\type_of%@aB.eq_35/\type_of%@aB.eq_36/\type_of%@aB.eq_37/\type_of%@uK/\type_of%@aB.eq_39/\type_of%@aB.eq_40/\type_of%@aB.eq_41/\type_of%@aB.eq_42/\type_of%@aB.eq_43/\type_of%@aB.eq_44/\type_of%@aB.eq_45/\type_of%@aB.eq_46/\type_of%@aB.eq_47/\type_of%@QI:=
 ⟨@look_nil,@Lr,@QO,@Lp,@Pv,@Kz,@Rq,@Ro,@LW,@adM,@XY,@adN,@aa9,@XX,@LQ,@Rw,@Ih,@LV,@KX,@Vx,@Vy,@WI,@WJ,@Vw,@VG,@Rf,@ads,@aa1,@QZ,@amj,@amh,@ami,@EI,@CO,@zW,@PH,@KH,@PQ,@PI,@Wi,@PY,@DN,@PL,@PR,@PP,@PO,@PN,@PM,@PT,@PU,@PV,@PW,@PX,@EG,@AQ,@zI,@AP,@AU,@GY,@KG,@G6,@G5,@GZ,@Ad,@EH,@yJ,@yI,@sU,@DR,@ac4,@ac3,@G8,@KZ,@KN,@Qv,@KR,@Qz,@Ha,@Ld,@KQ,@Qy,@G9,@La,@He,@Lh,@KL,@Qu,@P7,@EX,@KT,@QA,@KP,@Qx,@KO,@Qw,@CP,@EW,@cells_func,@Lc,@Ae,@CW,@EK,@Hz,@yM,@Ai,@KJ,@Fp,@Fj,@aB.eq_1,@aB.eq_2,@aB.eq_3,@aB.eq_4,@aB.eq_5,@aB.eq_6,@aB.eq_7,@aB.eq_8,@aB.eq_9,@Vq,@V9,@We,@Py,@SB,@Px,@Pz,@aaK,@afV,@aaN,@aaM,@aaL,@KE,@Vr,@GX,@Je,@AC,@V8,@aB.eq_10,@aB.eq_11,@abh,@aB.eq_13,@aB.eq_14,@aB.eq_15,@aB.eq_16,@aB.eq_18,@aB.eq_19,@aB.eq_20,@aB.eq_21,@aB.eq_22,@aB.eq_23,@aB.eq_24,@aB.eq_25,@aB.eq_26,@aB.eq_27,@aB.eq_28,@aB.eq_29,@aB.eq_30,@aB.eq_31,@aB.eq_32,@aB.eq_33,@aB.eq_34,@aB.eq_35,@aB.eq_36,@aB.eq_37,@uK,@aB.eq_39,@aB.eq_40,@aB.eq_41,@aB.eq_42,@aB.eq_43,@aB.eq_44,@aB.eq_45,@aB.eq_46,@aB.eq_47,@QI⟩
variable{C:Ctx}{call:aZ}{n:Nat}
abbrev RX:=Option (XE×As×St)
def alp(r:RX)(k:As->St->RX):RX:=match r with
 |some (.normal,e,O)=>k e O
 |r=>r
def Wj(id:Nat)(r:RX):RX:=match r with
 |some (.exit i,e,O)=>some (if i=id then .normal else .exit i,e,O)
 |r=>r
def akN(r:Option (As×St)):RX:=match r with
 |some (e,O)=>some (.normal,e,O)
 |none=>none
noncomputable def Zd(C:Ctx)(call:aZ)(n:Nat)(v:AV)(a b:KC)(e:As)(O:St):RX:=match v with
 |.bool true=>dL C call n a e O
 |.bool false=>dL C call n b e O
 |_=>none
noncomputable def ogK(C:Ctx)(call:aZ)(n:Nat)(b:Bool)(d:Option Nat)(i:XI)(l:List XOp)(e:As)(O:St):Option (As×St):=match b with
 |true=>out call d e (aB C (avA C e) n O i) (ase C call n l)
 |false=>ase C call n l (yA e d .undef) O
def adc(r:RX)(k:As->St->RX):RX:=match r with
 |some (.normal,e,O)=>k e O
 |r=>r
def aj9(d:Option Nat)(e:As)(r:Option (AV×St))(k:As->St->Option (As×St)):Option (As×St):=match r with
 |some (v,O)=>k (yA e d v) O
 |none=>none
def xu(n:Nat)(rs:List XR)(r:RX):Option (AV×St):=match r with
 |some (.exit _,_,_)=>none
 |none=>none
 |some (_,e,O2)=>match aY e O2 rs with
  |none=>none
  |some vs=>match hand false vs O2 with
   |none=>none
   |some (vs,O3)=>some (bD vs,tidy n vs O3)
def UN(e O k):alp (some (.normal,e,O)) k=k e O:=rfl
def aab(i e O k):alp (some (.exit i,e,O)) k=some (.exit i,e,O):=rfl
def adO(e O k):alp (some (.ret,e,O)) k=some (.ret,e,O):=rfl
def aac(k):alp none k=none:=rfl
def MW(id e O):Wj id (some (.normal,e,O))=some (.normal,e,O):=rfl
def TZ(id i e O):Wj id (some (.exit i,e,O))=some (if i=id then .normal else .exit i,e,O):=rfl
def Wl(id e O):Wj id (some (.ret,e,O))=some (.ret,e,O):=rfl
def Ua(id):Wj id none=none:=rfl
def QU(e O k):adc (some (.normal,e,O)) k=k e O:=rfl
def Xu(i e O k):adc (some (.exit i,e,O)) k=some (.exit i,e,O):=rfl
def ZO(e O k):adc (some (.ret,e,O)) k=some (.ret,e,O):=rfl
def Xv(k):adc none k=none:=rfl
def Z8(e O):akN (some (e,O))=some (.normal,e,O):=rfl
def Z7:akN none=none:=rfl
def Wx(a b e O):Zd C call n (.bool true) a b e O=dL C call n a e O:=rfl
def Ue(a b e O):Zd C call n (.bool false) a b e O=dL C call n b e O:=rfl
def aji(c:Bool)(a b e O):Zd C call n (.bool c) a b e O=if c=true then dL C call n a e O else dL C call n b e O:=by cases c<;>rfl
def ado(d i l e O):ogK C call n true (some d) i l e O=out call (some d) e (aB C (avA C e) n O i) (ase C call n l):=rfl
def Z4(d i l e O):ogK C call n false (some d) i l e O=ase C call n l ((d,.undef)::e) O:=rfl
def ae2(i l e O):ogK C call n true none i l e O=out call none e (aB C (avA C e) n O i) (ase C call n l):=rfl
def aaj(i l e O):ogK C call n false none i l e O=ase C call n l e O:=rfl
def PZ(b:Bool):rU b .undef=false:=by cases b<;>rfl
def amu(c:Bool)(a b e O):Zd C call n (.bool c) a b e O=match c with|true=>dL C call n a e O|false=>dL C call n b e O:=by cases c<;>rfl
def amv(c:Bool)(a b e O):Zd C call n (.bool !c) a b e O=match c with|true=>dL C call n b e O|false=>dL C call n a e O:=by cases c<;>rfl
def ara(b d i l e O):ogK C call n b (some d) i l e O=match b with|true=>out call (some d) e (aB C (avA C e) n O i) (ase C call n l)|false=>ase C call n l ((d,.undef)::e) O:=by cases b<;>rfl
def arb(b d i l e O):ogK C call n (!b) (some d) i l e O=match b with|true=>ase C call n l ((d,.undef)::e) O|false=>out call (some d) e (aB C (avA C e) n O i) (ase C call n l):=by cases b<;>rfl
def aol(d t:Nat)(b:Bool)(i:XI)(l:List XOp)(e:As)(O:St):ase C call n (og d t b i::l) e O=ogK C call n (rU b (look e t)) (some d) i l e O:=by
 rw[WI];unfold ogK;cases rU b (look e t)<;>rfl
def aom(t:Nat)(b:Bool)(i:XI)(l:List XOp)(e:As)(O:St):ase C call n (ug t b i::l) e O=ogK C call n (rU b (look e t)) none i l e O:=by
 rw[WJ];unfold ogK;cases rU b (look e t)<;>rfl
def Ws(d e v O k):aj9 (some d) e (some (v,O)) k=k ((d,v)::e) O:=rfl
def Uc(e v O k):aj9 none e (some (v,O)) k=k e O:=rfl
def aa0(d:Option Nat)(e:As)(f:FuncId)(args:LA)(O:St)(k):out call d e (some (.call f args O)) k=aj9 d e (call f args O) k:=rfl
def uD(n rs e O):xu n rs (some (.ret,e,O))=match aY e O rs with
 |none=>none
 |some vs=>match hand false vs O with
  |none=>none
  |some (vs,O3)=>some (bD vs,tidy n vs O3):=rfl
def Ug(n rs e O):xu n rs (some (.normal,e,O))=match aY e O rs with
 |none=>none
 |some vs=>match hand false vs O with
  |none=>none
  |some (vs,O3)=>some (bD vs,tidy n vs O3):=rfl
def Zg(n rs):xu n rs none=none:=rfl
def alz(l:List XOp)(e:As)(O:St):dL C call n (.ops l) e O=akN (ase C call n l e O):=rfl
def adV(l:List XOp)(e:As)(O:St):dL C call n (.plain l) e O=akN (ase C call n l e O):=rfl
def adU(l:List XOp)(e:As)(O:St):dL C call n (.drawn l) e O=akN (sW C call n l e O):=rfl
def alA(a b:KC)(e:As)(O:St):dL C call n (.seq a b) e O=alp (dL C call n a e O) (dL C call n b):=rfl
def ah6(c:XA)(a b:KC)(e:As)(O:St):dL C call n (.cond c a b) e O=Zd C call n (avA C e c) a b e O:=rfl
def adT(id:Nat)(b:KC)(e:As)(O:St):dL C call n (.block id b) e O=Wj id (dL C call n b e O):=rfl
def aG{k:List Nat}{b:KC}{e:As}(he:keepA k e=e)(O:St):aH C call n k b e O=adc (dL C call n b e O) fun e' O'=>aH C call n k b (keepA k e') O':=jh C call n he O
def Has.go{f:FuncId}{K:KF}(h:Has C f K){args args':LA}{O:St}(hn:hand false args O=some (args',O))(hl:Nat.ble args'.length K.ntmps=true:=by rfl):ai C f args O=xu O.length K.results (dL C (ai C) K.ntmps K.body (jF 0 args') O):=by
 have hl:=Nat.not_lt.mpr (av8 hl);rw[h.run];unfold BG;rw[hn];dsimp only;rw[if_neg hl];rfl
def nK:∀x y:LU,jU x y=decide (x=y)
 |[],[]=>by simp[jU]
 |[],_::_=>by simp[jU]
 |_::_,[]=>by simp[jU]
 |a::x,b::y=>by
  rw[jU,nK x y];by_cases h:a=b<;>simp[h]
def aaO(x y:LU):rQ .eql x y=some (.bool (decide (x=y))):=by rw[<-nK];rfl
def kH(x y:LU):rQ .neq x y=some (.bool !(decide (x=y))):=by rw[<-nK];rfl
def aj3(x y:LU):rQ .lss x y=some (.bool (Op.bytesLess x y)):=rfl
def aj2(x y:LU):rQ .leq x y=some (.bool (Op.bytesLess x y||decide (x=y))):=by rw[<-nK];rfl
def aj1(x y:LU):rQ .gtr x y=some (.bool !(Op.bytesLess x y||decide (x=y))):=by rw[<-nK];rfl
def aj0(x y:LU):rQ .geq x y=some (.bool !(Op.bytesLess x y)):=rfl
def aoT{x y:LU}(h:x.length+y.length<=9223372036854775807):rQ .add x y=some (.str (x++y)):=by
 unfold rQ;dsimp only;rw[if_neg (by omega)]
def ant(A:As)(O:St)(v:AV)(r:Option (As×St×List (As×AV)×List St)):Option (As×St×List (As×AV)×List St):=match r with
 |some (A',O'',rs,ss)=>some (A',O'',(A,v)::rs,O::ss)
 |none=>none
def aae(d:Option Nat)(A:As)(O:St)(x:Option (AV×St))(k:As->St->Option (As×St×List (As×AV)×List St)):=match x with
 |some (v,O')=>ant A O v (k (yA A d v) O')
 |none=>none
def opR(call:aZ)(x:Option Out):Option (AV×St):=match x with
 |some (.val v O')=>some (v,O')
 |some (.call f args O')=>call f args O'
 |none=>none
def al5(A:As)(O:St):qH C call n [] A O=some (A,O,[],[O]):=rfl
def arv(d:Nat)(i:XI)(l:List XOp)(A:As)(O:St):qH C call n (o d i::l) A O=aae (some d) A O (opR call (aB C (avA C A) n O i)) (qH C call n l):=rfl
def arw(i:XI)(l:List XOp)(A:As)(O:St):qH C call n (u i::l) A O=aae none A O (opR call (aB C (avA C A) n O i)) (qH C call n l):=rfl
def aru(d s:Nat)(l:List XOp)(A:As)(O:St):qH C call n (m d s::l) A O=aae (some d) A O (some (look A s,O)) (qH C call n l):=rfl
def arx(d:Option Nat)(i:XI)(c:List Nat)(l:List XOp)(A:As)(O:St):qH C call n (⟨d,i,none,c⟩::l) A O=aae d A O (opR call (aB C (avA C A) n O i)) (qH C call n l):=rfl
def X7(d A O v O' k):aae (some d) A O (some (v,O')) k=ant A O v (k ((d,v)::A) O'):=rfl
def UT(A O v O' k):aae none A O (some (v,O')) k=ant A O v (k A O'):=rfl
def agK(v O):opR call (some (.val v O))=some (v,O):=rfl
def adp(f args O):opR call (some (.call f args O))=call f args O:=rfl
def aa7(A O v A' O' rs ss):ant A O v (some (A',O',rs,ss))=some (A',O',(A,v)::rs,O::ss):=rfl
def anU(C:Ctx)(n:Nat)(l:List XOp)(r:Option (As×St×List (As×AV)×List St)):Option (As×St):=match r with
 |some (A',O',rs,ss)=>if gB C n ss l rs then some (A',O')else none
 |none=>none
def ajn(l:List XOp)(A:As)(O:St):sW C call n l A O=anU C n l (qH C call n l A O):=rfl
def agb(l:List XOp)(A' O' rs ss):anU C n l (some (A',O',rs,ss))=if gB C n ss l rs then some (A',O')else none:=rfl
def al2(ss:List St)(l):gB C n ss [] l=true:=rfl
def arn(d:Nat)(i:XI)(l:List XOp)(ss:List St)(A:As)(v:AV)(rs):gB C n ss (o d i::l) ((A,v)::rs)=gB C n ss l rs:=by
 show((!kw (o d i) A||mG C n (o d i) A v ss [])&&_)=_;rw[mG,aB1,aw6]
def aro(i:XI)(l:List XOp)(ss:List St)(A:As)(v:AV)(rs):gB C n ss (u i::l) ((A,v)::rs)=gB C n ss l rs:=by
 show((!kw (u i) A||mG C n (u i) A v ss [])&&_)=_;rw[mG,aB1,aw6]
def arl(d s:Nat)(l:List XOp)(ss:List St)(A:As)(v:AV)(rs):gB C n ss (m d s::l) ((A,v)::rs)=gB C n ss l rs:=by
 show((!kw (m d s) A||mG C n (m d s) A v ss [])&&_)=_;rw[mG,aB1,aw6]
def reR(C:Ctx)(n:Nat)(A:As)(i:XI)(v:AV)(s s':Option St):Bool:=match s,s' with
 |some s,some s'=>(match aB C (avA C A) n s i,aB C (avA C A) n s' i with
  |some (.val v1 _),some (.val v2 _)=>same v1 v&&same v2 v
  |_,_=>false)
 |_,_=>false
def reO(v:AV)(x y:Option Out):Bool:=match x,y with
 |some (.val v1 _),some (.val v2 _)=>same v1 v&&same v2 v
 |_,_=>false
def adz(A:As)(i:XI)(v:AV)(s s':St):reR C n A i v (some s) (some s')=reO v (aB C (avA C A) n s i) (aB C (avA C A) n s' i):=rfl
def agT(v v1 v2:AV)(s1 s2:St):reO v (some (.val v1 s1)) (some (.val v2 s2))=(same v1 v&&same v2 v):=rfl
def arp(d:Option Nat)(i:XI)(c:List Nat)(l:List XOp)(ss:List St)(A:As)(v:AV)(rs):gB C n ss (⟨d,i,none,c⟩::l) ((A,v)::rs)=((c.all fun c=>reR C n A i v ss[c]? ss[c+1]?)&&gB C n ss l rs):=by
 show((!kw ⟨d,i,none,c⟩ A||mG C n ⟨d,i,none,c⟩ A v ss c)&&_)=_;have:∀c':List Nat,mG C n ⟨d,i,none,c⟩ A v ss c'=c'.all fun c=>reR C n A i v ss[c]? ss[c+1]?:=by
  intro c'
  induction c' with
  |nil=>rfl
  |cons x c' ih=>rw[mG,ih,a88];rfl
 rw[this];rfl
def JU(k:IntKind)(a:Int):same (.int k a) (.int k a)=true:=by cases k<;>simp[same]<;>rfl
def JX(s:LU):same (.str s) (.str s)=true:=by simp[same,nK]
def LP(b:Bool):same (.bool b) (.bool b)=true:=by simp[same]
def aQ(O L:St):(O++L)[O.length]?=L[0]?:=by grind
def dM(O L:St)(k:Nat):(O++L)[O.length+k]?=L[k]?:=by grind
def jm(O L:St)(x:AO):(O++L).set O.length x=O++L.set 0 x:=by grind
def BJ(O L:St)(k:Nat)(x:AO):(O++L).set (O.length+k) x=O++L.set k x:=by grind
def st_len(O L:St):(O++L).length=O.length+L.length:=a04
def alH(O L M:St):O++L++M=O++(L++M):=au2 _ _ _
def aS(O:St)(vs:LA):tidy O.length vs O=O:=zW O vs
def dE{O:St}(hσ:Ok O){vs:LA}(hv:ae 0 vs=true)(l:St):tidy O.length vs (O++l)=O:=BA hσ (aO (a98 _) _ hv) l
def RF{O:St}(hσ:Ok O){L:St}(hl:L.all (AO.below (O.length+L.length))=true):Ok (O++L):=hσ.app hl
def agF(O r)(b:Bool):asb O r (.bool b)=some (.bool b,[]):=rfl
def OH(O r)(k:IntKind)(i:Int):asb O r (.int k i)=some (.int k i,[]):=rfl
def akH(O r)(s:LU):asb O r (.str s)=some (.str s,[]):=rfl
def aod(O r)(i:Nat)(l:LA):asb O r (.sl i l)=some (.sl i l,[]):=rfl
structure NV(v:AV):Prop where
 nf:∀O r,asb O r v=some (v,[])
 cl:below 0 v=true
def NVs(l:LA):Prop:=∀v∈l,NV v
def NVs.nil:NVs []:=fun v h=>nomatch h
def NVs.cons{v l}(h:NV v)(k:NVs l):NVs (v::l):=fun x hx=>by
 rcases au9.mp hx with rfl|hx
 ·exact h
 ·exact k x hx
def NVs.app{a b}(h:NVs a)(k:NVs b):NVs (a++b):=fun x hx=>by
 rcases az8.mp hx with hx|hx
 ·exact h x hx
 ·exact k x hx
def NVs.nf:∀{l:LA},NVs l->∀O r,aT O r l=some (l,[])
 |[],_,_,_=>rfl
 |v::l,h,O,r=>by
  show(match asb O r v,aT O r l with|some (v,fs),some (l,gs)=>some (v::l,fs++gs)|_,_=>none)=_
  rw[(h v (by simp)).nf,NVs.nf (fun x hx=>h x (by simp[hx]))]
  rfl
def NVs.cl:∀{l:LA},NVs l->ae 0 l=true
 |[],_=>rfl
 |v::l,h=>by
  rw[ae,(h v (by simp)).cl,NVs.cl (fun x hx=>h x (by simp[hx]))];rfl
def NV.bool(b:Bool):NV (.bool b):=⟨fun _ _=>rfl,rfl⟩
def NV.int(k:IntKind)(i:Int):NV (.int k i):=⟨fun _ _=>rfl,rfl⟩
def NV.str(s:LU):NV (.str s):=⟨fun _ _=>rfl,rfl⟩
def NV.sl(i:Nat){l:LA}(h:ae 0 l=true):NV (.sl i l):=⟨fun _ _=>rfl,by rw[below];exact h⟩
def NV.agg{l:LA}(h:NVs l):NV (.agg l):=⟨fun O r=>by
 show(match aT O r l with|some (l,fs)=>some (AV.agg l,fs)|none=>none)=_
 rw[h.nf],by rw[below];exact h.cl⟩
def NV.tup{l:LA}(h:NVs l):NV (.tup l):=⟨fun O r=>by
 show(match aT O r l with|some (l,fs)=>some (AV.tup l,fs)|none=>none)=_
 rw[h.nf],by rw[below];exact h.cl⟩
def NVs.hand{l:LA}(h:NVs l)(O:St):hand false l O=some (l,O):=by
 show(match df O 12 l with|some (l,fs)=>some (l,freeze O fs)|none=>none)=_
 rw[show df O 12 l=aT O (df O 11) l from rfl,h.nf];rfl
def ah8(a x:AV)(l v:LA):splice (a::l) 0 (x::v)=x::splice l 0 v:=by simp[splice]
def alG(l:LA):splice l 0 []=l:=by simp[splice]
def atG{l v:LA}(h:v.length=l.length):splice l 0 v=v:=by simp[splice,h]
def afP(O:St)(sz bytes:Nat)(ty)(i:Nat)(l cs:LA):rO O sz bytes ty (.sl i l) 0 cs=some (.sl i l,O):=rfl
def acg(O:St)(sz bytes:Nat)(ty)(cs:LA):rO O sz bytes ty .nils 0 cs=some (.nils,O):=rfl
def GV(O:St){sz bytes:Nat}(ty){m:Nat}(cs:LA)(hm:¬m=0)(h1:m*bytes<=70368744177664)(h2:m<=70368744177664):rO O sz bytes ty .nils m cs=some (.msl O.length 0 m sz,O++[.cells cs ⟨false,ty⟩]):=by
 unfold rO;grind
def V7(O:St){sz bytes:Nat}(ty){n m:Nat}{l:LA}(cs:LA)(hm:¬m=0)(hl:l.length=n*sz)(h1:(n+m)*bytes<=70368744177664)(h2:n+m<=70368744177664):rO O sz bytes ty (.xsl n l) m cs=some (.msl O.length 0 (n+m) sz,O++[.cells (l++cs) ⟨false,ty⟩]):=by
 unfold rO;grind
def Sv(C:Ctx)(f:FuncId)(sz:Nat):Prop:=∀(n:Nat) (l:LA) (O:St),l.length=n*sz->n<=1099511627776->l.all Vb=true->ai C f [.sl n l] O=some (.sl n l,O)
end Go.Ev
namespace Go.Ev
def EVB:type_of%@look_nil/\type_of%@Lr/\type_of%@QO/\type_of%@Lp/\type_of%@Pv/\type_of%@Kz/\type_of%@Rq/\type_of%@Ro/\type_of%@LW/\type_of%@LQ/\type_of%@Rw/\type_of%@Ih/\type_of%@LV/\type_of%@KX/\type_of%@Vx/\type_of%@Vy/\type_of%@Vw/\type_of%@VG/\type_of%@Rf/\type_of%@QZ/\type_of%@amj/\type_of%@amh/\type_of%@ami/\type_of%@EI/\type_of%@CO/\type_of%@PH/\type_of%@KH/\type_of%@PQ/\type_of%@PI/\type_of%@Wi/\type_of%@PY/\type_of%@DN/\type_of%@PL/\type_of%@PR/\type_of%@PP/\type_of%@PO/\type_of%@PN/\type_of%@PM/\type_of%@PT/\type_of%@PU/\type_of%@PV/\type_of%@PW/\type_of%@PX/\type_of%@EG/\type_of%@AQ/\type_of%@zI/\type_of%@AP/\type_of%@AU/\type_of%@GY/\type_of%@KG/\type_of%@G6/\type_of%@G5/\type_of%@GZ/\type_of%@Ad/\type_of%@EH/\type_of%@yJ/\type_of%@yI/\type_of%@sU/\type_of%@DR/\type_of%@ac4/\type_of%@ac3/\type_of%@G8/\type_of%@KZ/\type_of%@KN/\type_of%@Qv/\type_of%@KR/\type_of%@Qz/\type_of%@Ha/\type_of%@Ld/\type_of%@KQ/\type_of%@Qy/\type_of%@G9/\type_of%@La/\type_of%@He/\type_of%@Lh/\type_of%@KL/\type_of%@Qu/\type_of%@P7/\type_of%@EX/\type_of%@KT/\type_of%@QA/\type_of%@KP/\type_of%@Qx/\type_of%@KO/\type_of%@Qw/\type_of%@CP/\type_of%@EW/\type_of%@cells_func/\type_of%@Lc/\type_of%@Ae/\type_of%@CW/\type_of%@EK/\type_of%@Hz/\type_of%@yM/\type_of%@Ai/\type_of%@KJ/\type_of%@Fp/\type_of%@Fj/\type_of%@aB.eq_1/\type_of%@aB.eq_2/\type_of%@aB.eq_3/\type_of%@aB.eq_4/\type_of%@aB.eq_5/\type_of%@aB.eq_6/\type_of%@aB.eq_7/\type_of%@aB.eq_8/\type_of%@aB.eq_9/\type_of%@Vq/\type_of%@V9/\type_of%@We/\type_of%@Py/\type_of%@SB/\type_of%@Px/\type_of%@Pz/\type_of%@aaK/\type_of%@afV/\type_of%@aaN/\type_of%@aaM/\type_of%@aaL/\type_of%@KE/\type_of%@Vr/\type_of%@GX/\type_of%@Je/\type_of%@AC/\type_of%@V8/\type_of%@aB.eq_10/\type_of%@aB.eq_11/\type_of%@abh/\type_of%@aB.eq_13/\type_of%@aB.eq_14/\type_of%@aB.eq_15/\type_of%@aB.eq_16/\type_of%@aB.eq_18/\type_of%@aB.eq_19/\type_of%@aB.eq_20/\type_of%@aB.eq_21/\type_of%@aB.eq_22/\type_of%@aB.eq_23/\type_of%@aB.eq_24/\type_of%@aB.eq_25/\type_of%@aB.eq_26/\type_of%@aB.eq_27/\type_of%@aB.eq_28/\type_of%@aB.eq_29/\type_of%@aB.eq_30/\type_of%@aB.eq_31/\type_of%@aB.eq_32/\type_of%@aB.eq_33/\type_of%@aB.eq_34/\type_of%@aB.eq_35/\type_of%@aB.eq_36/\type_of%@aB.eq_37/\type_of%@uK/\type_of%@aB.eq_39/\type_of%@aB.eq_40/\type_of%@aB.eq_41/\type_of%@aB.eq_42/\type_of%@aB.eq_43/\type_of%@aB.eq_44/\type_of%@aB.eq_45/\type_of%@aB.eq_46/\type_of%@aB.eq_47/\type_of%@QI/\type_of%@UN/\type_of%@aab/\type_of%@adO/\type_of%@aac/\type_of%@MW/\type_of%@TZ/\type_of%@Wl/\type_of%@Ua/\type_of%@QU/\type_of%@Xu/\type_of%@ZO/\type_of%@Xv/\type_of%@Z8/\type_of%@Z7/\type_of%@Wx/\type_of%@Ue/\type_of%@ado/\type_of%@Z4/\type_of%@ae2/\type_of%@aaj/\type_of%@aol/\type_of%@aom/\type_of%@Ws/\type_of%@Uc/\type_of%@aa0/\type_of%@uD/\type_of%@Ug/\type_of%@Zg/\type_of%@alz/\type_of%@adV/\type_of%@adU/\type_of%@alA/\type_of%@ah6/\type_of%@adT/\type_of%@aaO/\type_of%@kH/\type_of%@aj3/\type_of%@aj2/\type_of%@aj1/\type_of%@aj0/\type_of%@agF/\type_of%@OH/\type_of%@akH/\type_of%@aod/\type_of%@PZ/\type_of%@ah8/\type_of%@alG/\type_of%@afP/\type_of%@acg/\type_of%@al5/\type_of%@arv/\type_of%@arw/\type_of%@aru/\type_of%@arx/\type_of%@X7/\type_of%@UT/\type_of%@agK/\type_of%@adp/\type_of%@aa7/\type_of%@ajn/\type_of%@agb/\type_of%@al2/\type_of%@arn/\type_of%@aro/\type_of%@arl/\type_of%@arp/\type_of%@adz/\type_of%@agT/\type_of%@JU/\type_of%@JX/\type_of%@LP/\type_of%@aQ/\type_of%@dM/\type_of%@jm/\type_of%@BJ/\type_of%@st_len/\type_of%@alH/\type_of%@aS:=
 ⟨@look_nil,@Lr,@QO,@Lp,@Pv,@Kz,@Rq,@Ro,@LW,@LQ,@Rw,@Ih,@LV,@KX,@Vx,@Vy,@Vw,@VG,@Rf,@QZ,@amj,@amh,@ami,@EI,@CO,@PH,@KH,@PQ,@PI,@Wi,@PY,@DN,@PL,@PR,@PP,@PO,@PN,@PM,@PT,@PU,@PV,@PW,@PX,@EG,@AQ,@zI,@AP,@AU,@GY,@KG,@G6,@G5,@GZ,@Ad,@EH,@yJ,@yI,@sU,@DR,@ac4,@ac3,@G8,@KZ,@KN,@Qv,@KR,@Qz,@Ha,@Ld,@KQ,@Qy,@G9,@La,@He,@Lh,@KL,@Qu,@P7,@EX,@KT,@QA,@KP,@Qx,@KO,@Qw,@CP,@EW,@cells_func,@Lc,@Ae,@CW,@EK,@Hz,@yM,@Ai,@KJ,@Fp,@Fj,@aB.eq_1,@aB.eq_2,@aB.eq_3,@aB.eq_4,@aB.eq_5,@aB.eq_6,@aB.eq_7,@aB.eq_8,@aB.eq_9,@Vq,@V9,@We,@Py,@SB,@Px,@Pz,@aaK,@afV,@aaN,@aaM,@aaL,@KE,@Vr,@GX,@Je,@AC,@V8,@aB.eq_10,@aB.eq_11,@abh,@aB.eq_13,@aB.eq_14,@aB.eq_15,@aB.eq_16,@aB.eq_18,@aB.eq_19,@aB.eq_20,@aB.eq_21,@aB.eq_22,@aB.eq_23,@aB.eq_24,@aB.eq_25,@aB.eq_26,@aB.eq_27,@aB.eq_28,@aB.eq_29,@aB.eq_30,@aB.eq_31,@aB.eq_32,@aB.eq_33,@aB.eq_34,@aB.eq_35,@aB.eq_36,@aB.eq_37,@uK,@aB.eq_39,@aB.eq_40,@aB.eq_41,@aB.eq_42,@aB.eq_43,@aB.eq_44,@aB.eq_45,@aB.eq_46,@aB.eq_47,@QI,@UN,@aab,@adO,@aac,@MW,@TZ,@Wl,@Ua,@QU,@Xu,@ZO,@Xv,@Z8,@Z7,@Wx,@Ue,@ado,@Z4,@ae2,@aaj,@aol,@aom,@Ws,@Uc,@aa0,@uD,@Ug,@Zg,@alz,@adV,@adU,@alA,@ah6,@adT,@aaO,@kH,@aj3,@aj2,@aj1,@aj0,@agF,@OH,@akH,@aod,@PZ,@ah8,@alG,@afP,@acg,@al5,@arv,@arw,@aru,@arx,@X7,@UT,@agK,@adp,@aa7,@ajn,@agb,@al2,@arn,@aro,@arl,@arp,@adz,@agT,@JU,@JX,@LP,@aQ,@dM,@jm,@BJ,@st_len,@alH,@aS⟩
set_option maxRecDepth 100000
variable{C:Ctx}
def jV(f:FuncId)(x y args:LA)(O:St):G7 C (.func (.func f) x y) args O=some (.call f (x++args++y) O):=rfl
def apy(O r)(a b:Nat):asb O r (.ref a b)=some (.ref a b,[]):=rfl
def amZ(O r)(f:Fn)(x y:LA):asb O r (.func f x y)=match aT O r x,aT O r y with
 |some (x,fs),some (y,gs)=>some (.func f x y,fs++gs)
 |_,_=>none:=rfl
def akI(O r)(n:Nat)(l:LA):asb O r (.xsl n l)=match aT O r l with|some (l,fs)=>some (.sl n l,fs)|none=>none:=rfl
def vG(O r):aT O r []=some ([],[]):=rfl
def aK(O r)(v:AV)(l:LA):aT O r (v::l)=match asb O r v,aT O r l with
 |some (v,fs),some (l,gs)=>some (v::l,fs++gs)
 |_,_=>none:=rfl
def oW(l:LA)(O:St):hand false l O=match aT O (df O 11) l with|some (l,fs)=>some (l,freeze O fs)|none=>none:=rfl
def aX(O r)(l:LA):asb O r (.agg l)=match aT O r l with|some (l,fs)=>some (.agg l,fs)|none=>none:=rfl
def dA(O r):asb O r .nils=some (.sl 0 [],[]):=rfl
def drop_at{l:LA}{i:Nat}{v:AV}(h:l[i]?=some v):∃r,l.drop i=v::r:=by
 have hi:=(a00.mp h).1;refine⟨l.drop (i+1),?_⟩;rw[as9 hi]
 grind
def dV{α:Type}{f:α->LA}{k:Nat}(h:∀x,(f x).length=k):∀l:List α,(l.flatMap f).length=l.length*k
 |[]=>by simp
 |x::l=>by simp[h,dV h l,aB4,aD8]
theorem Zr{α:Type}{f:α->LA}{k:Nat}(h:∀x,(f x).length=k):∀(l:List α) (i:Nat),(l.flatMap f).drop (i*k)=(l.drop i).flatMap f
 |l,0=>by simp
 |[],i+1=>by simp
 |x::l,i+1=>by
  rw[ay1,aB0,<-Zr h l i,aB4,Nat.one_mul,aD8];rw[<-h x,List.drop_append];simp
def fP{α:Type}{f:α->LA}(h:∀x,ae 0 (f x)=true):∀l:List α,ae 0 (l.flatMap f)=true
 |[]=>rfl
 |x::l=>by
  rw[ay1];have:=fP h l;revert this;have hx:=h x;revert hx;generalize f x=a;generalize l.flatMap f=b;intro ha hb
  induction a with
  |nil=>exact hb
  |cons v a ih=>
   rw[ae,a01]at ha;rw[a99,ae,ha.1,ih ha.2];rfl
def ahD{α:Type}{f:α->LA}(h:∀x,(f x).all Vb=true)(l:List α):(l.flatMap f).all Vb=true:=by
 grind
def lM{α:Type}{f:α->LA}{k:Nat}(h:∀x,(f x).length=k){l:List α}{i:Nat}{x:α}(hx:l[i]?=some x):(l.flatMap f).drop (i*k)=f x++(l.drop (i+1)).flatMap f:=by
 have hi:i<l.length:=(a00.mp hx).1
 grind [as9,Zr]
def aky(a:Nat):VD false (.int .i64 5000) (.int .i64 (a:Int))=some (.int .i64 ((min 5000 a:Nat):Int)):=by
 show some (AV.int .i64 (if(a:Int)<5000 then(a:Int)else 5000))=_
 grind
def EVC:
 (∀{α:Type} (a:α),(a=a)=True)
 /\(∀{α:Type} {a:α} {azs bs:List α},a::azs++bs=a::(azs++bs))
 /\(∀{α:Type} (azs:List α),[]++azs=azs)
 /\(∀{α:Type} (azs:List α),azs++[]=azs)
 /\(∀{α:Type} {a:α} {azs:List α},(a::azs).length=azs.length+1)
 /\(∀{α:Type},([]:List α).length=0)
 /\(∀{α β:Type} {f:α->β} {a:α} {l:List α},List.map f (a::l)=f a::List.map f l)
 /\(∀{α β:Type} {f:α->β},List.map f []=[])
 /\(∀{α:Type} {_:Decidable True} (t e:α),(if True then t else e)=t)
 /\(∀{α:Type} {_:Decidable False} (t e:α),(if False then t else e)=e)
 /\(∀{α β:Type} (a:α) (f:α->β),Option.map f (some a)=some (f a))
 /\(∀{α β:Type} (f:α->β),Option.map f none=none)
 /\(!true)=false
 /\(!false)=true
 /\(false=true)=False
 /\(∀(h:Decidable True),decide True=true)
 /\(∀(h:Decidable False),decide False=false)
 /\(∀{p:Prop} [Decidable p],(decide p=true)=p)
 /\(∀(b:Bool),((!b)=true)=(b=false))
 /\(∀{p:Prop} {x:Decidable p},decide p=false↔¬p)
 /\(∀{α:Type} {a:α} {l:List α},(a::l)[0]?=some a)
 /\(∀{α:Type} {a:α} {i:Nat} {l:List α},(a::l)[i+1]?=l[i]?)
 /\(∀{α β:Type},(bind:Option α->(α->Option β)->Option β)=Option.bind)
 /\(∀{α β:Type} (a:α) (f:α->Option β),(some a).bind f=f a)
 /\(∀{α:Type},(pure:α->Option α)=some)
 /\(∀(p:Prop),(p/\p)=p)
 /\(∀(p:Prop),(True/\p)=p)
 /\(∀(p:Prop),(p/\True)=p)
 /\(∀{α:Type} {a:α} {l:List α} {f:α->Bool},(a::l).all f=(f a&&l.all f))
 /\(∀{α:Type} {f:α->Bool},[].all f=true)
 /\(∀(b:Bool),(b&&b)=b)
 /\(∀(b:Bool),(b&&true)=b)
 /\(∀(b:Bool),(true&&b)=b)
 /\(∀{α:Type} {a:α} {azs:List α} {i:Nat},List.take (i+1) (a::azs)=a::List.take i azs)
 /\(∀{α:Type} {l:List α},List.take 0 l=[])
 /\(∀{α:Type} {i:Nat},List.take i ([]:List α)=[])
 /\(∀{α:Type} {a:α} {l:List α} {i:Nat},List.drop (i+1) (a::l)=List.drop i l)
 /\(∀{α:Type} {l:List α},List.drop 0 l=l)
 /\(∀{α:Type} {i:Nat},List.drop i ([]:List α)=[])
 /\(∀(n:Nat),0+n=n)
 /\(∀(n:Nat),n+0=n)
 /\(∀{α:Type} [BEq α] [LawfulBEq α] (a:α),(a !=a)=false)
 /\(∀(b:Bool),(b||false)=b)
 /\(∀(b:Bool),(false||b)=b)
 /\(∀(n:Nat),n*1=n)
 /\(∀(n:Nat),1*n=n)
 /\(∀(n:Nat),n<=n)
 /\(∀{α:Type} [LT α] {x y:α},x>y↔y<x)
 /\(∀{α:Type} {a:α} {l:List α},(a::l).head? =some a)
 /\∀{n:Nat},@Nat.cast Int instNatCastInt (no_index (OfNat.ofNat n))=OfNat.ofNat n:=And.intro @eq_self.{1} (And.intro @List.cons_append.{0} (And.intro @List.nil_append.{0} (And.intro @List.append_nil.{0} (And.intro @List.length_cons.{0} (And.intro @List.length_nil.{0} (And.intro @List.map_cons.{0,0} (And.intro @List.map_nil.{0,0} (And.intro @if_true.{1} (And.intro @if_false.{1} (And.intro @Option.map_some.{0,0} (And.intro @Option.map_none.{0,0} (And.intro @Bool.not_true (And.intro @Bool.not_false (And.intro @Bool.false_eq_true (And.intro @decide_true (And.intro @decide_false (And.intro @decide_eq_true_eq (And.intro @Bool.not_eq_true' (And.intro @decide_eq_false_iff_not (And.intro @List.getElem?_cons_zero.{0} (And.intro @List.getElem?_cons_succ.{0} (And.intro @Option.bind_eq_bind.{0} (And.intro @Option.bind_some.{0,0} (And.intro @Option.pure_def.{0} (And.intro @and_self (And.intro @true_and (And.intro @and_true (And.intro @List.all_cons.{0} (And.intro @List.all_nil.{0} (And.intro @Bool.and_self (And.intro @Bool.and_true (And.intro @Bool.true_and (And.intro @List.take_succ_cons.{0} (And.intro @List.take_zero.{0} (And.intro @List.take_nil.{0} (And.intro @List.drop_succ_cons.{0} (And.intro @List.drop_zero.{0} (And.intro @List.drop_nil.{0} (And.intro @Nat.zero_add (And.intro @Nat.add_zero (And.intro @bne_self_eq_false.{0} (And.intro @Bool.or_false (And.intro @Bool.false_or (And.intro @Nat.mul_one (And.intro @Nat.one_mul (And.intro @Nat.le_refl (And.intro @gt_iff_lt.{0} (And.intro @List.head?_cons.{0} (@Int.cast_ofNat_Int)))))))))))))))))))))))))))))))))))))))))))))))))
def EVD:
 (∀(n:Nat),((n:Int)).toNat=n)
 /\Int.toNat 0=0
 /\(∀{α:Type} (a:α) (l:List α),a::l≠[])
 /\(∀{α:Type} [LE α] {x y:α},x>=y↔y<=x)
 /\(∀(a:Int),a<=a)
 /\(∀{α:Type} [BEq α] [ReflBEq α] (a:α),(a==a)=true)
 /\(∀{α:Type} {x:α} {xs:List α} {i:Nat} {a:α},(x::xs).set (i+1) a=x::xs.set i a)
 /\(∀{α:Type} {x:α} {xs:List α} {a:α},(x::xs).set 0 a=a::xs)
 /\∀(n m:Nat),n<=m+n:=And.intro @Int.toNat_natCast (And.intro @Int.toNat_zero (And.intro @List.cons_ne_nil.{0} (And.intro @ge_iff_le.{0} (And.intro @Int.le_refl (And.intro @beq_self_eq_true.{0} (And.intro @List.set_cons_succ.{0} (And.intro @List.set_cons_zero.{0} (@Nat.le_add_left))))))))
def ckQ(l:List XOp)(c:KC):KC:=.seq (.ops l) c
def cqL(d n x:Nat):XOp:=o d (.load true n (.t x))
def cqF(d x:Nat):XOp:=o d (.load false 1 (.t x))
def cqA(d n x:Nat):XOp:=o d (.fieldAddr n (.t x))
def cqE(d x n:Nat):XOp:=o d (.extract (.t x) n)
def cqS(n x y:Nat):XOp:=u (.store n (.t x) (.t y))
def cqB(d:Nat)(b:BinOp)(k:Nat)(c:Bool)(x y:Nat):XOp:=o d (.bin b k c (.t x) (.t y))
def cqC(d:Nat)(b:BinOp)(k:Nat)(c:Bool)(x:Nat)(n:Int):XOp:=o d (.bin b k c (.t x) (.c (.int .i64 n)))
def cqK(d f:Nat)(l:List Nat):XOp:=o d (.callF f (l.map .t))
def cqN(d k x:Nat):XOp:=o d (.len k (.t x))
def cqI(d:Nat)(n:Int):XOp:=o d (.mv (.c (.int .i64 n)))
def cqT(d:Nat)(b:Bool):XOp:=o d (.mv (.c (.bool b)))
def cvI(n:Int):AV:=.int .i64 n
def cvU(n:Int):AV:=.int .u8 n
def cvE:AV:=.str []
def ccI(n:Int):XA:=.c (.int .i64 n)
def ccU(n:Int):XA:=.c (.int .u8 n)
def ccS(l:LU):XA:=.c (.str l)
def cqR:Nat->AV->LA->LA
 |0,_,l=>l
 |n+1,x,l=>x::cqR n x l
def EVQ:type_of%@cqR.eq_1/\type_of%@cqR.eq_2/\type_of%@ckQ.eq_1/\type_of%@cqL.eq_1/\type_of%@cqF.eq_1/\type_of%@cqA.eq_1/\type_of%@cqE.eq_1/\type_of%@cqS.eq_1/\type_of%@cqB.eq_1/\type_of%@cqC.eq_1/\type_of%@cqK.eq_1/\type_of%@cqN.eq_1/\type_of%@cqI.eq_1/\type_of%@cqT.eq_1/\type_of%@cvI.eq_1/\type_of%@cvU.eq_1/\type_of%@cvE.eq_1/\type_of%@ccI.eq_1/\type_of%@ccU.eq_1/\type_of%@ccS.eq_1:=⟨@cqR.eq_1,@cqR.eq_2,@ckQ.eq_1,@cqL.eq_1,@cqF.eq_1,@cqA.eq_1,@cqE.eq_1,@cqS.eq_1,@cqB.eq_1,@cqC.eq_1,@cqK.eq_1,@cqN.eq_1,@cqI.eq_1,@cqT.eq_1,@cvI.eq_1,@cvU.eq_1,@cvE.eq_1,@ccI.eq_1,@ccU.eq_1,@ccS.eq_1⟩
def EVU:type_of%@uF.eq_1/\type_of%@uF.eq_2/\type_of%@uF.eq_3/\type_of%@eqA.eq_1/\type_of%@eqA.eq_2/\type_of%@eqA.eq_3/\type_of%@eqA.eq_4/\type_of%@eqA.eq_5/\type_of%@bV.eq_1/\type_of%@bV.eq_2/\type_of%@bV.eq_3/\type_of%@bV.eq_4/\type_of%@bV.eq_5/\type_of%@bV.eq_6/\type_of%@bV.eq_7/\type_of%@bV.eq_8/\type_of%@bV.eq_9/\type_of%@bV.eq_10/\type_of%@bV.eq_11/\type_of%@bV.eq_12/\type_of%@bV.eq_13/\type_of%@bV.eq_14/\type_of%@bV.eq_15/\type_of%@bV.eq_16/\type_of%@bV.eq_17/\type_of%@bV.eq_18/\type_of%@bV.eq_19/\type_of%@bV.eq_20/\type_of%@bV.eq_21/\type_of%@bV.eq_22/\type_of%@bV.eq_23/\type_of%@bV.eq_24/\type_of%@bV.eq_25/\type_of%@bV.eq_26/\type_of%@bU.eq_1/\type_of%@bU.eq_2/\type_of%@bU.eq_3/\type_of%@bU.eq_4/\type_of%@bU.eq_5/\type_of%@bU.eq_6/\type_of%@bU.eq_7/\type_of%@bU.eq_8/\type_of%@bU.eq_9/\type_of%@bU.eq_10/\type_of%@bU.eq_11/\type_of%@oI.eq_1/\type_of%@oI.eq_2/\type_of%@gQ.eq_1/\type_of%@gQ.eq_2/\type_of%@pt.eq_1/\type_of%@bD.eq_1/\type_of%@bD.eq_2/\type_of%@hand.eq_1/\type_of%@df.eq_1/\type_of%@df.eq_2/\type_of%@aT.eq_1/\type_of%@aT.eq_2/\type_of%@asb.eq_1/\type_of%@asb.eq_2/\type_of%@asb.eq_3/\type_of%@asb.eq_4/\type_of%@asb.eq_5/\type_of%@asb.eq_6/\type_of%@asb.eq_7/\type_of%@asb.eq_8/\type_of%@asb.eq_9/\type_of%@freeze.eq_1/\type_of%@freeze.eq_2/\type_of%@ji.eq_1/\type_of%@ji.eq_2/\type_of%@gY.eq_1/\type_of%@gY.eq_2/\type_of%@gY.eq_3/\type_of%@gY.eq_4/\type_of%@gY.eq_5/\type_of%@gY.eq_6/\type_of%@isStr.eq_1/\type_of%@isStr.eq_2/\type_of%@zA.eq_1/\type_of%@zA.eq_2/\type_of%@rep.eq_1/\type_of%@rep.eq_2/\type_of%@Cb.eq_1/\type_of%@Cb.eq_2/\type_of%@Cj.eq_1/\type_of%@Cj.eq_2/\type_of%@Cj.eq_3:=⟨@uF.eq_1,@uF.eq_2,@uF.eq_3,@eqA.eq_1,@eqA.eq_2,@eqA.eq_3,@eqA.eq_4,@eqA.eq_5,@bV.eq_1,@bV.eq_2,@bV.eq_3,@bV.eq_4,@bV.eq_5,@bV.eq_6,@bV.eq_7,@bV.eq_8,@bV.eq_9,@bV.eq_10,@bV.eq_11,@bV.eq_12,@bV.eq_13,@bV.eq_14,@bV.eq_15,@bV.eq_16,@bV.eq_17,@bV.eq_18,@bV.eq_19,@bV.eq_20,@bV.eq_21,@bV.eq_22,@bV.eq_23,@bV.eq_24,@bV.eq_25,@bV.eq_26,@bU.eq_1,@bU.eq_2,@bU.eq_3,@bU.eq_4,@bU.eq_5,@bU.eq_6,@bU.eq_7,@bU.eq_8,@bU.eq_9,@bU.eq_10,@bU.eq_11,@oI.eq_1,@oI.eq_2,@gQ.eq_1,@gQ.eq_2,@pt.eq_1,@bD.eq_1,@bD.eq_2,@hand.eq_1,@df.eq_1,@df.eq_2,@aT.eq_1,@aT.eq_2,@asb.eq_1,@asb.eq_2,@asb.eq_3,@asb.eq_4,@asb.eq_5,@asb.eq_6,@asb.eq_7,@asb.eq_8,@asb.eq_9,@freeze.eq_1,@freeze.eq_2,@ji.eq_1,@ji.eq_2,@gY.eq_1,@gY.eq_2,@gY.eq_3,@gY.eq_4,@gY.eq_5,@gY.eq_6,@isStr.eq_1,@isStr.eq_2,@zA.eq_1,@zA.eq_2,@rep.eq_1,@rep.eq_2,@Cb.eq_1,@Cb.eq_2,@Cj.eq_1,@Cj.eq_2,@Cj.eq_3⟩
def EVY:type_of%@EVQ/\type_of%@EVC/\type_of%@EVA/\type_of%@EVU:=⟨@EVQ,@EVC,@EVA,@EVU⟩
def EVX:type_of%@EVQ/\type_of%@EVC/\type_of%@EVD/\type_of%@EVB/\type_of%@EVU:=⟨@EVQ,@EVC,@EVD,@EVB,@EVU⟩
open Go.RowKit
inductive Ans where
 |ret (v:AV)
 |pan (v:AV)
abbrev vW:=FuncId->LA->St->Option (Ans×St)
inductive TOp where
 |op (o:XOp)
 |panic (x:XA)
 |assert (d:Nat) (t:TypeId) (x:XA)
inductive TC where
 |skip
 |ops (l:List TOp)
 |drawn (l:List XOp)
 |seq (a b:TC)
 |cond (c:XA) (a b:TC)
 |ret
 |fail
inductive TX where
 |normal
 |ret
 |pan (v:AV)
structure TF where
 ntmps:Nat
 results:List XR
 body:TC
def abf(P:Program)(t:TypeId):Bool:=match P.underlying t with
 |some (.interface _)=>false
 |some _=>true
 |none=>false
def aqC(P:Program)(ops:Array Oper)(o:Oper):Option TOp:=
 match FK ops o with
 |none=>none
 |some gd=>match o.op,o.dst,gd with
  |.panic x,_,none=>(cA x).map .panic
  |.typeAssert x _ t true,some d,none=>if abf P t then(cA x).map (.assert d t)else none
  |_,_,_=>some (.op {dst:=o.dst,i:=(cI P o).getD .fail,guard:=gd})
def acm(P:Program)(ops:Array Oper):List Oper->Option (List TOp)
 |[]=>some []
 |o::l=>match aqC P ops o,acm P ops l with
  |some a,some azs=>some (a::azs)
  |_,_=>none
def cT(P:Program):Code->TC
 |.skip=>.skip
 |.region _ ops draw=>if draw then(match aaR P ops with
  |some l=>.drawn l
  |none=>.fail)else(match acm P ops ops.toList with
  |some l=>.ops l
  |none=>.fail)
 |.seq a b=>.seq (cT P a) (cT P b)
 |.cond c a b=>match cA c with
  |some c=>.cond c (cT P a) (cT P b)
  |none=>.fail
 |.ret=>.ret
 |_=>.fail
def cTF(P:Program)(f:FuncId):Option TF:=do
 let fn<-P.funcs[f]?
 let b<-fn.body
 pure {ntmps:=fn.ntmps,results:=<-cR P fn.results.toList,body:=cT P b}
def xw(C:Ctx)(ct:vW):List TOp->Env->St->Option (TX×Env×St)
 |[],e,O=>some (.normal,e,O)
 |.op o::l,e,O=>match mV o e with
  |true=>match evI C e O o.i with
   |some (.val v O')=>xw C ct l (put e o.dst v) O'
   |some (.call f args O')=>match ct f args O' with
    |some (.ret v,O'')=>xw C ct l (put e o.dst v) O''
    |some (.pan v,O'')=>some (.pan v,e,O'')
    |none=>none
   |none=>none
  |false=>xw C ct l (put e o.dst .undef) O
 |.panic x::l,e,O=>match av C e x with
  |.iface t v=>some (.pan (.iface t v),e,O)
  |_=>none
 |.assert d t x::l,e,O=>match av C e x with
  |.iface t' v=>match Nat.beq t' t with
   |true=>xw C ct l (put e (some d) (.tup [v,.bool true])) O
   |false=>none
  |_=>none
def evT(C:Ctx)(call:aZ)(ct:vW):TC->Env->St->Option (TX×Env×St)
 |.skip,e,O=>some (.normal,e,O)
 |.ops l,e,O=>xw C ct l e O
 |.drawn l,e,O=>match qj C call l e O with
  |some (e',O')=>some (.normal,e',O')
  |none=>none
 |.seq a b,e,O=>match evT C call ct a e O with
  |some (.normal,e',O')=>evT C call ct b e' O'
  |r=>r
 |.cond c a b,e,O=>match av C e c with
  |.bool true=>evT C call ct a e O
  |.bool false=>evT C call ct b e O
  |_=>none
 |.ret,e,O=>some (.ret,e,O)
 |.fail,_,_=>none
def acE(O0:St)(rs:List XR)(e:Env)(O:St):Option (AV×St):=match Tv e O rs with
 |none=>none
 |some vs=>match hand false vs O with
  |none=>none
  |some (vs,O3)=>some (bD vs,tidy O0.length vs O3)
def runT(C:Ctx)(call:aZ)(ct:vW)(x:TF)(args:LA)(O:St):Option (Ans×St):=
 match hand false args O with
 |none=>none
 |some (args1,O1)=>match Nat.ble args1.length x.ntmps with
  |false=>none
  |true=>match evT C call ct x.body (args1++List.replicate (x.ntmps-args1.length) .undef) O1 with
   |none=>none
   |some (.pan v,_,O2)=>some (.pan v,tidy O.length [v] O2)
   |some (_,e,O2)=>match acE O x.results e O2 with
    |some (v,O')=>some (.ret v,O')
    |none=>none
def mX(C:Ctx)(call:aZ)(T:FuncId->Option TF):Nat->vW
 |0,f,args,O=>match call f args O with
  |some (v,O')=>some (.ret v,O')
  |none=>none
 |n+1,f,args,O=>match T f with
  |some x=>runT C call (mX C call T n) x args O
  |none=>match call f args O with
   |some (v,O')=>some (.ret v,O')
   |none=>none
def IK(ct:vW):aZ:=fun f args O=>match ct f args O with
 |some (.ret v,O')=>some (v,O')
 |_=>none
def TN(P:Program)(f:FuncId)(args:List Value)(w:World)(R RP:Value->World->Prop):Prop:=
 match(callFunc f ⟨args⟩).run P w with
 |.ok (.enter f' azs) w'=>Calls P f' azs w' fun e w''=>(∃v,e=.returned v/\R v w'')\/∃v,e=.panicked [{v,recovered:=false}]/\RP v w''
 |.ok (.value v) w'=>R v w'
 |_=>False
def GG(C:Ctx)(ct:vW):Prop:=
 ∀f args O a O',ct f args O=some (a,O')->∀g w args',VRs g args args'->WR g w O->GL C g->
  TN C.P f args' w (fun v' w'=>∃v,a=.ret v/\∃g',Goes g O w g' O' w'/\VR g' v v') fun v' w'=>∃v,a=.pan v/\∃g',Goes g O w g' O' w'/\VR g' v v'
def acy{P:Program}{f:FuncId}{args:List Value}{w:World}{R R' RP:Value->World->Prop}(h:Does P f args w R)(hr:∀v w',R v w'->R' v w'):TN P f args w R' RP:=by
 unfold Does at h;unfold TN;generalize(callFunc f ⟨args⟩).run P w=r at h⊢;cases r with
 |halt x w'=>exact h
 |ok n w'=>
  cases n<;>first|exact h.elim|skip
  ·exact hr _ _ h
  grind [Calls.mono]
def ajl{P:Program}{f:FuncId}{args:List Value}{w:World}{R R' RP:Value->World->Prop}(h:TN P f args w R RP)(hr:∀v w',R v w'->R' v w')(hp:∀v w',RP v w'->False):Does P f args w R':=by
 unfold TN at h;unfold Does;generalize(callFunc f ⟨args⟩).run P w=r at h⊢;cases r with
 |halt x w'=>exact h
 |ok n w'=>
  cases n<;>first|exact h.elim|skip
  ·exact hr _ _ h
  grind [Calls.mono]
section
variable{call:aZ}{ct:vW}
def adG(h:GG C ct):dW C (IK ct):=by
 intro f args O v O' hc g w args' ha hw hg;unfold IK at hc;split at hc
 ·rename_i v1 O1 h1;simp only[a05,av6]at hc;obtain⟨rfl,rfl⟩:=hc;exact ajl (h f args O _ _ h1 g w args' ha hw hg) (fun v' w' ⟨v2,e,x⟩=>by cases e;exact x) (fun v' w' ⟨v2,e,x⟩=>by cases e)
 ·cases hc
def PostT(g:Gh)(O:St)(w:World)(a:Act)(x:TX)(e':Env)(O':St):Exit->Act->World->Prop:=
 fun ex a' w'=>a'.defers=a.defers/\∃g',AR g' e' a'/\Goes g O w g' O' w'/\match x with
  |.normal=>ex=.normal
  |.ret=>ex=.ret
  |.pan v=>∃v',VR g' v v'/\ex=.panic [{v:=v',recovered:=false}]
def PostT.trans{g g1:Gh}{O O1 O':St}{w w1:World}{a a1:Act}{x:TX}{e':Env}(hd:a1.defers=a.defers)(hgo:Goes g O w g1 O1 w1){ex:Exit}{a':Act}{w':World}(h:PostT g1 O1 w1 a1 x e' O' ex a' w'):PostT g O w a x e' O' ex a' w':=by
 obtain⟨h1,g',h2,h3,h4⟩:=h;exact⟨h1.trans hd,g',h2,hgo.trans h3,h4⟩
theorem ac0 (hct:GG C ct) {o:Oper} {g:Gh} {e:Env} {O:St} {w:World} {a:Act} (ha:AR g e a) (hw:WR g w O) (hg:GL C g) {Q:Exit->Act->World->Prop} {next:Act->World->Prop}
  {out:Out} (hev:evI C e O ((cI C.P o).getD .fail)=some out) (hx:match out with
   |.val v O'=>∀v' w' g',Goes g O w g' O' w'->VR g' v v'->next (a.put o.dst v') w'
   |.call f args O0=>∃an O',ct f args O0=some (an,O')/\match an with
    |.ret v=>∀v' w' g',Goes g O w g' O' w'->VR g' v v'->next (a.put o.dst v') w'
    |.pan v=>∀v' w' g',Goes g O w g' O' w'->VR g' v v'->Q (.panic [{v:=v',recovered:=false}]) a w'):o.wp C.P a w next Q:=by
 cases hc:cI C.P o with
 |none=>rw[hc]at hev;simp[evI,aB]at hev
 |some xi=>
  rw[hc]at hev;simp only[az2]at hev;have hs:=Zk (C:=C) hw hg.2 (fun x b hb=>ha.eval hg x b hb) o hc hev;cases out with
  |val v0 O0=>
   obtain⟨w',g',hgo,hr⟩:=hs;unfold Oper.wp;rcases hr with⟨v',h1,h2⟩|⟨rfl,h1⟩
   ·rw[h1];exact hx v' w' g' hgo h2
   ·rw[h1];exact hx undef w' g' hgo (vK g')
  |call f args O0=>
   obtain⟨rfl,args',h1,h2⟩:=hs;obtain⟨an,O',hcal,hx⟩:=hx;have hd:=hct f args O0 an O' hcal g w args' h1 hw hg;unfold Oper.wp;rw[h2];unfold TN at hd;generalize(callFunc f ⟨args'⟩).run C.P w=r at hd;cases r with
   |halt h w'=>exact hd.elim
   |ok n w'=>
    cases n<;>first|exact hd.elim|skip
    ·obtain⟨v,rfl,g',h3,h4⟩:=hd;exact hx _ _ g' h3 h4
    grind [Oper.upon,Calls.mono]
def afl{P:Program}{t xt:TypeId}(h:abf P t=true)(v:Value)(w:World):(Instr.typeAssert (.iface t v) xt t true).run P w=.ok (.tuple #[v,.bool true]) w:=by
 unfold abf at h;unfold Instr.typeAssert;cases hu:P.underlying t with
 |none=>rw[hu]at h;cases h
 |some d=>
  rw[hu]at h;cases d<;>first|(cases h;done)|(simp[go_sem,underlying,hu];done)|skip
def Yi (hct:GG C ct) (ops:Array Oper) {Q:Exit->Act->World->Prop}:∀(l:List Oper) (k:Nat) (xs:List TOp),ops.toList.drop k=l->acm C.P ops l=some xs->∀(e e':Env) (O O':St) (x:TX),xw C ct xs e O=some (x,e',O')->
  ∀(g:Gh) (w:World) (a:Act),AR g e a->WR g w O->GL C g->(∀ex a' w',PostT g O w a x e' O' ex a' w'->Q ex a' w')->wpOps C.P ops Q (List.range' k l.length) a w
 |[],k,xs,hk,hx,e,e',O,O',x,hev,g,w,a,ha,hw,hg,hQ=>by
  simp[acm]at hx;subst hx;simp[xw]at hev;obtain⟨rfl,rfl,rfl⟩:=hev;simp only[a09,List.range'_zero,wpOps];exact hQ _ _ _ ⟨rfl,g,ha,.refl hw,rfl⟩
 |o::l,k,xs,hk,hx,e,e',O,O',x,hev,g,w,a,ha,hw,hg,hQ=>by
  simp only[acm]at hx;split at hx
  ·rename_i xo azs h1 h2;simp at hx;subst hx;have hok:ops[k]?=some o:=by
    have:=congrArg (fun z:List Oper=>z[0]?) hk;simpa using this
   have hk':ops.toList.drop (k+1)=l:=by rw[<-aD0,hk];rfl
   rw[a07,List.range'_succ];simp only[wpOps,hok];have rest:∀v v' w1 g1 O1,xw C ct azs (put e o.dst v) O1=some (x,e',O')->Goes g O w g1 O1 w1->VR g1 v v'->wpOps C.P ops Q (List.range' (k+1) l.length) (a.put o.dst v') w1:=fun v v' w1 g1 O1 hv1 hgo hv=>by
    refine Yi hct ops (Q:=Q) l (k+1) azs hk' h2 (put e o.dst v) e' O1 O' x hv1 g1 w1 (a.put o.dst v') ((ha.mono hgo.le).put hv o.dst) hgo.wr (hg.mono hgo.le) fun ex a' w' hp=>hQ ex a' w' (hp.trans ?_ hgo);cases o.dst<;>rfl
   unfold aqC at h1;cases hgd:FK ops o with
   |none=>rw[hgd]at h1;cases h1
   |some gd=>
    rw[hgd]at h1;simp only at h1;have hy:=Yp ha ops o hgd;split at h1
    ·
     rename_i y hop;simp only[a97]at h1;obtain⟨b,hb,rfl⟩:=h1;simp only[xw]at hev;rw[if_pos (by rw[hy])]
     refine .inl ?_;have hv:=ha.eval hg y b hb;split at hev
     ·rename_i t v hav;simp at hev;obtain⟨rfl,rfl,rfl⟩:=hev;rw[hav]at hv;unfold Oper.wp;have:(execOp a.eval o).run C.P w=((Instr.panic (a.eval y)).run C.P w).andThen fun v w=>.ok (.value v) w:=by
       simp only[execOp,hop];rw[Sem.run_bind];rfl
      rw[this];generalize a.eval y=vy at hv;cases hv with
      |iface _ _ v' hv'=>
       rw[run_panic_iface];exact hQ _ _ _ ⟨rfl,g,ha,.refl hw,_,.iface _ _ _ hv',rfl⟩
     ·cases hev
    ·
     rename_i y t0 t d hop hdst;split at h1
     ·rename_i hif;simp only[a97]at h1;obtain⟨b,hb,rfl⟩:=h1;simp only[xw]at hev;rw[if_pos (by rw[hy])]
      refine .inl ?_;have hv:=ha.eval hg y b hb;split at hev
      ·rename_i t' v hav;split at hev
       ·rename_i hbt;have:=at7 hbt;subst this;rw[hav]at hv;unfold Oper.wp;have:(execOp a.eval o).run C.P w=((Instr.typeAssert (a.eval y) t0 t' true).run C.P w).andThen fun v w=>.ok (.value v) w:=by
         simp only[execOp,hop];rw[Sem.run_bind];rfl
        rw[this];generalize a.eval y=vy at hv;cases hv with
        |iface _ _ v' hv'=>
         rw[afl hif];rw[<-hdst]at hev;exact rest _ _ w g O hev (.refl hw) (.tup _ _ (.cons _ _ _ _ hv' (.cons _ _ _ _ (.bool _) .nil)))
       ·cases hev
      ·cases hev
     ·cases h1
    ·simp only[a05]at h1;subst h1;simp only[xw]at hev;rename_i gd' _ _ _ _ _;have hwant:mV {dst:=o.dst,i:=(cI C.P o).getD .fail,guard:=gd'} e=Region.wanted o (yielded ops a.tmps):=by
      grind [mV]
     split at hev
     ·rename_i hwt;rw[hwant]at hwt;rw[if_pos hwt];refine .inl ?_;split at hev
      ·grind [ac0]
      ·rename_i f args O1 he1;split at hev
       ·grind [ac0]
       ·rename_i v O2 hc2;simp at hev;obtain⟨rfl,rfl,rfl⟩:=hev;exact ac0 hct ha hw hg he1 ⟨_,_,hc2,fun v' w' g' hgo hv=>hQ _ _ _ ⟨rfl,g',ha.mono hgo.le,hgo,v',hv,rfl⟩⟩
       ·cases hev
      ·cases hev
     ·rename_i hwt;rw[hwant]at hwt;rw[if_neg (by rw[hwt];simp)]
      exact rest .undef undef w g O hev (.refl hw) (vK g)
  ·cases hx
def Eo (hcall:dW C call) (hdrawn:Ey C call) (hct:GG C ct):∀(c:Code) (e e':Env) (O O':St) (x:TX),evT C call ct (cT C.P c) e O=some (x,e',O')->∀(g:Gh) (w:World) (a:Act),AR g e a->WR g w O->GL C g->
  c.wp C.P (PostT g O w a x e' O') a w
 |.skip,e,e',O,O',x,hev,g,w,a,ha,hw,hg=>by
  simp[cT,evT]at hev;obtain⟨rfl,rfl,rfl⟩:=hev;exact wp_skip ⟨rfl,g,ha,.refl hw,rfl⟩
 |.ret,e,e',O,O',x,hev,g,w,a,ha,hw,hg=>by
  simp[cT,evT]at hev;obtain⟨rfl,rfl,rfl⟩:=hev;exact wp_ret ⟨rfl,g,ha,.refl hw,rfl⟩
 |.region id ops draw,e,e',O,O',x,hev,g,w,a,ha,hw,hg=>by
  simp only[cT]at hev;cases draw with
  |true=>
   simp only[if_true]at hev;split at hev
   ·rename_i l hl;simp only[evT]at hev;split at hev
    ·rename_i e1 O1 hd;simp at hev;obtain⟨rfl,rfl,rfl⟩:=hev;refine wp_mono (hdrawn.1 id ops l hl e e1 O O1 hd g w a ha hw hg) fun ex a1 w1 ⟨hx,hd,g1,ha1,hgo⟩=>⟨hd,g1,ha1,hgo,hx⟩
    ·cases hev
   ·simp[evT]at hev
  |false=>
   simp only[ay4,if_false]at hev;split at hev
   ·rename_i l hl;simp only[evT]at hev;refine wp_region ?_;have:=Yi hct ops (Q:=PostT g O w a x e' O') ops.toList 0 l rfl hl e e' O O' x hev g w a ha hw hg (fun ex a' w' h=>h);rw[List.range_eq_range'];simpa using this
   ·simp[evT]at hev
 |.seq c1 c2,e,e',O,O',x,hev,g,w,a,ha,hw,hg=>by
  simp only[cT,evT]at hev;refine wp_seq ?_;split at hev
  ·rename_i e1 O1 h1;refine wp_mono (Eo hcall hdrawn hct c1 e e1 O O1 .normal h1 g w a ha hw hg) fun ex a1 w1 hp=>?_;obtain⟨hd,g1,ha1,hgo,hx⟩:=hp;simp only at hx;subst hx;exact wp_mono (Eo hcall hdrawn hct c2 e1 e' O1 O' x hev g1 w1 a1 ha1 hgo.wr (hg.mono hgo.le)) fun ex a2 w2 hp=>hp.trans hd hgo
  ·rename_i hne;refine wp_mono (Eo hcall hdrawn hct c1 e e' O O' x hev g w a ha hw hg) fun ex a1 w1 hp=>?_;cases x with
   |normal=>exact(hne _ _ hev).elim
   |ret=>obtain⟨hd,g1,ha1,hgo,hx⟩:=hp;simp only at hx;subst hx;exact⟨hd,g1,ha1,hgo,rfl⟩
   |pan v=>obtain⟨hd,g1,ha1,hgo,v',hv,hx⟩:=hp;subst hx;exact⟨hd,g1,ha1,hgo,v',hv,rfl⟩
 |.cond c c1 c2,e,e',O,O',x,hev,g,w,a,ha,hw,hg=>by
  simp only[cT]at hev;cases hc:cA c with
  |none=>rw[hc]at hev;simp[evT]at hev
  |some b=>
   rw[hc]at hev;simp only[evT]at hev;have hv:=ha.eval hg c b hc;split at hev
   ·rename_i hb;rw[hb]at hv;generalize hcv:a.eval c=cv at hv;cases hv;exact wp_cond_true hcv (Eo hcall hdrawn hct c1 e e' O O' x hev g w a ha hw hg)
   ·rename_i hb;rw[hb]at hv;generalize hcv:a.eval c=cv at hv;cases hv;exact wp_cond_false hcv (Eo hcall hdrawn hct c2 e e' O O' x hev g w a ha hw hg)
   ·cases hev
 |.label _,e,e',O,O',x,hev,g,w,a,ha,hw,hg=>by simp[cT,evT]at hev
 |.exit _,e,e',O,O',x,hev,g,w,a,ha,hw,hg=>by simp[cT,evT]at hev
 |.block _ _,e,e',O,O',x,hev,g,w,a,ha,hw,hg=>by simp[cT,evT]at hev
 |.loop _,e,e',O,O',x,hev,g,w,a,ha,hw,hg=>by simp[cT,evT]at hev
 |.scope _,e,e',O,O',x,hev,g,w,a,ha,hw,hg=>by simp[cT,evT]at hev
 |.rangeFunc ..,e,e',O,O',x,hev,g,w,a,ha,hw,hg=>by simp[cT,evT]at hev
 |.goto _,e,e',O,O',x,hev,g,w,a,ha,hw,hg=>by simp[cT,evT]at hev
 |.refuse _,e,e',O,O',x,hev,g,w,a,ha,hw,hg=>by simp[cT,evT]at hev
end
section
variable{call:aZ}{ct:vW}
def Ob {fn:Func} {xrs:List XR} (hxr:cR C.P fn.results.toList=some xrs) {g0 g:Gh} {w0 w:World} {O0 O:St} (h0:WR g0 w0 O0) (hgo:Goes g0 O0 w0 g O w) {e:Env} {a:Act} (ha:AR g e a) {v:AV} {O':St} (h:acE O0 xrs e O=some (v,O')):
  ∃v',(Go.results fn a.tmps).run C.P w=.ok v' w/\∃g',Goes g0 O0 w0 g' O' w/\VR g' v v':=by
 unfold acE at h;split at h
 ·cases h
 ·rename_i vs hres;split at h
  ·cases h
  ·rename_i vs2 O3 hh2;simp at h;obtain⟨rfl,rfl⟩:=h;obtain⟨vs',hr1,hr2⟩:=Gw (C:=C) hgo.wr ha _ xrs hxr vs hres;obtain⟨g3,hgo3,hv3⟩:=pW hgo.wr _ hh2 hr2;obtain⟨g4,hgo4,hv4⟩:=Ik (hgo.trans hgo3) h0 hv3;exact⟨_,Fg fn a.tmps w hr1,g4,hgo4,TK vs2 vs' hv4⟩
def N7(C:Ctx)(f:FuncId):Prop:=∃fn,C.P.funcs[f]?=some fn/\(fn.name== "runtime.NumGoroutine")=false
def SH{f:FuncId}{fn:Func}(hfn:C.P.funcs[f]?=some fn)(hname:(fn.name== "runtime.NumGoroutine")=false){b:Code}(hb:fn.body=some b)(args':List Value)(w:World):(callFunc f ⟨args'⟩).run C.P w=.ok (.enter f ⟨args'⟩) w:=by
 have h1:fn.name≠ "runtime.NumGoroutine":=by simpa using hname
 simp[callFunc,hfn,h1,hb]
def aaJ{g:Gh}{args:LA}{args':List Value}(hv:VRs g args args')(n:Nat)(ds:List Deferred):AR g (args++List.replicate (n-args.length) .undef) {tmps:=(⟨args'⟩:Array Value)++Array.replicate (n-(⟨args'⟩:Array Value).size) undef,defers:=ds}:=by
 have h1:=hv.append (VRs.replicate (n-args.length) (vK g));have:args'.length=args.length:=hv.length;simpa[AR,this]using h1
def afk (hcall:dW C call) (hdrawn:Ey C call) (hct:GG C ct) {f:FuncId} {x:TF} (hx:cTF C.P f=some x) (hn:N7 C f) {args:LA} {O:St} {an:Ans} {O':St} (h:runT C call ct x args O=some (an,O')) {g:Gh} {w:World} {args':List Value} (ha:VRs g args args') (hw:WR g w O) (hg:GL C g):
  TN C.P f args' w (fun v' w'=>∃v,an=.ret v/\∃g',Goes g O w g' O' w'/\VR g' v v') fun v' w'=>∃v,an=.pan v/\∃g',Goes g O w g' O' w'/\VR g' v v':=by
 obtain⟨fn,hfn,hname⟩:=hn;simp only[cTF,a96,a03,au4,a05]at hx;obtain⟨fn',hfn',body,hb,xrs,hxr,rfl⟩:=hx;rw[hfn]at hfn';cases hfn';unfold runT at h;split at h
 ·cases h
 ·rename_i args1 O1 hh1;split at h
  ·cases h
  ·obtain⟨g1,hgo1,hv1⟩:=pW hw _ hh1 ha;unfold TN;rw[SH hfn hname hb];simp only;cases hev:evT C call ct (cT C.P body) (args1++List.replicate (fn.ntmps-args1.length) .undef) O1 with
   |none=>simp only at h;rw[hev]at h;cases h
   |some r=>
    obtain⟨tx,e2,O2⟩:=r;simp only at h;rw[hev]at h;refine calls_of_wp hfn hb ?_;refine wp_mono (Eo hcall hdrawn hct body _ e2 O1 O2 tx hev g1 w _ (aaJ hv1 fn.ntmps []) hgo1.wr (hg.mono hgo1.le)) fun ex a2 w2 hp=>?_;obtain⟨hd,g2,ha2,hgo2,hx⟩:=hp;cases tx with
    |pan v=>
     simp at h;obtain⟨rfl,rfl⟩:=h;obtain⟨v',hv',rfl⟩:=hx;obtain⟨g4,hgo4,hv4⟩:=Ik (hgo1.trans hgo2) hw (.cons _ _ _ _ hv' .nil);cases hv4 with
     |cons _ _ _ _ hv4 _=>exact⟨hd,.inr ⟨_,rfl,_,rfl,g4,hgo4,hv4⟩⟩
    |normal=>
     simp only at hx h;subst hx;cases he:acE O xrs e2 O2 with
     |none=>rw[he]at h;cases h
     |some r=>
      obtain⟨v,O4⟩:=r;rw[he]at h;simp at h;obtain⟨rfl,rfl⟩:=h;obtain⟨v',h1,g',h2,h3⟩:=Ob hxr hw (hgo1.trans hgo2) ha2 he;exact⟨hd,_,h1,.inl ⟨_,rfl,_,rfl,g',h2,h3⟩⟩
    |ret=>
     simp only at hx h;subst hx;cases he:acE O xrs e2 O2 with
     |none=>rw[he]at h;cases h
     |some r=>
      obtain⟨v,O4⟩:=r;rw[he]at h;simp at h;obtain⟨rfl,rfl⟩:=h;obtain⟨v',h1,g',h2,h3⟩:=Ob hxr hw (hgo1.trans hgo2) ha2 he;exact⟨hd,_,h1,.inl ⟨_,rfl,_,rfl,g',h2,h3⟩⟩
def aoE(C:Ctx)(T:FuncId->Option TF):Prop:=∀f x,T f=some x->cTF C.P f=some x/\N7 C f
def Ud(hm:C.P.follows .mixedOrders=true)(hcall:dW C call){T:FuncId->Option TF}(hT:aoE C T):∀n,GG C (mX C call T n)
 |0=>by
  intro f args O a O' h g w args' ha hw hg;unfold mX at h;split at h
  ·rename_i v O1 hc;simp at h;obtain⟨rfl,rfl⟩:=h;exact acy (hcall f args O _ _ hc g w args' ha hw hg) fun v' w' hr=>⟨_,rfl,hr⟩
  ·cases h
 |n+1=>by
  intro f args O a O' h g w args' ha hw hg;unfold mX at h;split at h
  ·rename_i x hx;obtain⟨h1,h2⟩:=hT f x hx;exact afk hcall ⟨F8 hm hcall,Gg hm hcall⟩ (Ud hm hcall hT n) h1 h2 h ha hw hg
  ·split at h
   ·rename_i v O1 hc;simp at h;obtain⟨rfl,rfl⟩:=h;exact acy (hcall f args O _ _ hc g w args' ha hw hg) fun v' w' hr=>⟨_,rfl,hr⟩
   ·cases h
end
structure CFn where
 ntmps:Nat
 results:List XR
 first:List XOp
 d:Nat
 clo:FuncId
 caps:List XA
 body:TC
structure KFn where
 ntmps:Nat
 r:Nat
 m:Nat
 body:XC
def anT(o1 o2:Oper):Option (Nat×FuncId×List XA):=
 match o1.dst,o1.op,o1.guard with
 |some d,.makeFunc (.func g) ⟨[]⟩ cs,none=>match o2.dst,o2.op,o2.guard with
  |none,.defer ⟨.value (.tmp d'),⟨[]⟩,_⟩,none=>if d'=d then(cAs cs.toList).map fun l=>(d,g,l)else none
  |_,_,_=>none
 |_,_,_=>none
def cCF(P:Program)(f:FuncId):Option CFn:=
 match P.funcs[f]? with
 |some fn=>match fn.body with
  |some (.seq (.region _ ops0 false) (.seq (.region _ ⟨[o1,o2]⟩ false) c))=>match Yv P false ops0 0 ops0.toList,anT o1 o2,cR P fn.results.toList with
   |some l,some (d,g,cs),some rs=>if d<fn.ntmps then some ⟨fn.ntmps,rs,l,d,g,cs,cT P c⟩else none
   |_,_,_=>none
  |_=>none
 |none=>none
def aoh(o1 o2:Oper):Option (Nat×Nat):=
 match o1.dst,o1.op,o1.guard with
 |some r,.call ⟨.builtin .recover,⟨[]⟩,_⟩,none=>match o2.dst,o2.op,o2.guard with
  |some m,.assign (.tmp r'),none=>if r'=r then some (r,m)else none
  |_,_,_=>none
 |_,_,_=>none
def cKF(P:Program)(f:FuncId):Option KFn:=
 match P.funcs[f]? with
 |some fn=>match fn.body with
  |some (.seq (.region _ ⟨[o1,o2]⟩ false) c)=>match aoh o1 o2,fn.results with
   |some (r,m),⟨[]⟩=>if r<fn.ntmps then some ⟨fn.ntmps,r,m,cC P c⟩else none
   |_,_=>none
  |_=>none
 |none=>none
def thrown:TX->AV
 |.pan v=>v
 |_=>.nilIface
def xJ(C:Ctx)(call:aZ)(ct:vW)(x:CFn)(k:KFn)(args:LA)(O:St):Option (AV×St):=
 match hand false args O with
 |none=>none
 |some (args1,O1)=>match qc C call x.first (args1++List.replicate (x.ntmps-args1.length) .undef) O1 with
  |none=>none
  |some (e0,O0)=>match evT C call ct x.body (e0.set x.d (.func (.func x.clo) [] (x.caps.map (av C e0)))) O0 with
   |none=>none
   |some (tx,e2,O2)=>match evC C (IK ct) 1 k.body ((((x.caps.map (av C e0))++List.replicate (k.ntmps-x.caps.length) AV.undef).set k.r (thrown tx)).set k.m (thrown tx)) O2 with
    |some (.exit _,_,_)=>none
    |none=>none
    |some (_,_,O3)=>acE O x.results e2 O3
section
variable{call:aZ}{ct:vW}
def abM{g:Gh}{e:Env}{a:Act}(ha:AR g e a){v:AV}{v':Value}(hv:VR g v v')(d:Nat):AR g (e.set d v) (a.put (some d) v'):=ha.put hv (some d)
def Md(g:Gh)(u:FrameMode)(r:AV)(r':Value)(u':FrameMode):Prop:=VR g r r'/\settle u'=.returning/\((u=.returning/\r'=.nilIface/\u'=.returning)\/(u=.panicking [{v:=r',recovered:=false}]/\u'=.panicking [{v:=r',recovered:=true}]))
def ahu (hcall:dW C call) (hdrawn:Ey C call) {f:FuncId} {k:KFn} (hk:cKF C.P f=some k) {g:Gh} {O:St} {w:World} (hw:WR g w O) (hg:GL C g) {cv:LA} {cv':List Value} (hcv:VRs g cv cv') {u u':FrameMode} {r:AV} {r':Value} (hu:Md g u r r' u')
  {xe:XE} {e3:Env} {O3:St} (hev:evC C call 1 k.body (((cv++List.replicate (k.ntmps-cv.length) AV.undef).set k.r r).set k.m r) O=some (xe,e3,O3)) (hne:∀id,xe≠ .exit id):
  CallsD C.P f ⟨cv'⟩ u w fun e u1 w'=>∃v,e=.returned v/\u1=u'/\∃g',Goes g O w g' O3 w':=by
 unfold cKF at hk;split at hk
 ·rename_i fn hfn;split at hk
  ·rename_i id o1 o2 c hb;split at hk
   ·rename_i r0 m0 hrec hres;have hlt:r0<fn.ntmps:=by
     grind
    rw[if_pos hlt]at hk;simp only[a05]at hk;subst hk;simp only at hev;refine callsD_of_wpS hfn hb fun c₀ cs hc0=>?_;unfold aoh at hrec;split at hrec
    ·rename_i rr at1 h1 h2 h3;split at hrec
     ·rename_i mm rr' h4 h5 h6;split at hrec
      ·rename_i hrr;simp only[a05,av6]at hrec;obtain⟨rfl,rfl⟩:=hrec;subst hrr;refine wpS_seq (wpS_region ?_);have w1:∀l,Region.wanted o1 l=true:=fun l=>by simp[Region.wanted,h3]
       have w2:∀l,Region.wanted o2 l=true:=fun l=>by simp[Region.wanted,h6]
       have r1:∀a:Act,(execOp a.eval o1).run C.P w=.ok .recover w:=fun a=>by simp[execOp,h2,resolve,invoke,go_sem]
       have r2:∀a:Act,(execOp a.eval o2).run C.P w=.ok (.value (a.eval (.tmp rr'))) w:=fun a=>by simp[execOp,h5,go_sem]
       have har:=aaJ hcv fn.ntmps [];have hs:∀c1:Frame,c1={c₀ with mode:=u'}->∀a1:Act,a1.defers=[]->AR g (((cv++List.replicate (fn.ntmps-cv.length) AV.undef).set rr' r).set mm r) a1->c.wpS C.P (bodyPostS C.P fn c₀ cs fun e u1 w'=>∃v,e=.returned v/\u1=u'/\∃g',Goes g O w g' O3 w') a1 (c1::cs) w:=by
        intro c1 hc1 a1 hd1 ha1;refine wpS_of_wp (wp_mono (nM hcall hdrawn 1 c _ e3 O O3 xe hev g w a1 ha1 hw hg) fun ex a2 w2 ⟨hx,hd,g2,ha2,hgo2⟩=>?_);subst hx;have fin:a2.defers=[]/\∃u1,c1::cs={c₀ with mode:=u1}::cs/\∃v,(Go.results fn a2.tmps).run C.P w2=.ok v w2/\∃v1,Ending.returned v=.returned v1/\u1=u'/\∃g',Goes g O w g' O3 w2:=by
         refine⟨hd.trans hd1,u',by rw[hc1],_,Fg fn a2.tmps w2 (vs:=[]) ?_,_,rfl,rfl,g2,hgo2⟩
         rw[hres];rfl
        cases xe with
        |normal=>exact fin
        |ret=>exact fin
        |exit id=>exact(hne id rfl).elim
       have e0:(⟨[o1,o2]⟩:Array Oper)[0]?=some o1:=rfl;have e1:(⟨[o1,o2]⟩:Array Oper)[1]?=some o2:=rfl;have sz:List.range (⟨[o1,o2]⟩:Array Oper).size=[0,1]:=rfl;rw[sz];simp only[wpOpsS,e0,e1,w1,w2,if_true,r1,r2,Oper.upon];obtain⟨hr,hset,hu⟩:=hu;rw[h1,h4];have hput:∀q:Value,((⟨(⟨cv'⟩:Array Value)++Array.replicate (fn.ntmps-(⟨cv'⟩:Array Value).size) undef,[]⟩:Act).put (some rr') q).eval (.tmp rr')=q:=fun q=>by
        have:rr'<cv'.length+(fn.ntmps-cv'.length):=ax8 hlt (by omega)
        simp[Act.put,Act.eval,this]
       simp only[hput];have har2:=abM (abM har hr rr') hr mm;rcases hu with⟨rfl,rfl,rfl⟩|⟨rfl,rfl⟩
       ·have hrc:recoverD (c₀::cs)=none:=by simp[recoverD,hc0]
        rw[hrc];exact hs _ (by rw[<-hc0]) _ rfl har2
       ·have hrc:recoverD (c₀::cs)=some (r',{c₀ with mode:=.panicking [{v:=r',recovered:=true}]}::cs):=by simp[recoverD,hc0]
        rw[hrc];exact hs _ rfl _ rfl har2
      ·cases hrec
     ·cases hrec
    ·cases hrec
   ·cases hk
  ·cases hk
 ·cases hk
def Zm:∀{l:List XOp} {e e':Env} {O O':St},qc C call l e O=some (e',O')->e'.length=e.length
 |[],e,e',O,O',h=>by simp[qc]at h;rw[h.1]
 |o::l,e,e',O,O',h=>by
  unfold qc at h;split at h
  ·rw[Zm h];unfold put;split<;>simp
  ·cases h
def ag2{g:Gh}{e:Env}{a:Act}(ha:AR g e a)(hg:GL C g):∀(l:List Operand) (xs:List XA),cAs l=some xs->VRs g (xs.map (av C e)) (l.map a.eval)
 |[],xs,h=>by simp[cAs]at h;subst h;exact .nil
 |x::l,xs,h=>by
  simp only[cAs]at h;split at h
  ·rename_i b bs h1 h2;simp at h;subst h;exact .cons _ _ _ _ (ha.eval hg x b h1) (ag2 ha hg l bs h2)
  ·cases h
def abt(hcall:dW C call)(hdrawn:Ey C call)(hct:GG C ct)(hdr:Ey C (IK ct)){f:FuncId}{x:CFn}{k:KFn}(hx:cCF C.P f=some x)(hn:N7 C f)(hk:cKF C.P x.clo=some k)(hnk:N7 C x.clo):POK C f (xJ C call ct x k):=by
 intro args O v O' h g w args' ha hw hg;obtain⟨kfn,hkfn,hkname⟩:=hnk;have hkb:∃b,kfn.body=some b:=by
  grind [cKF]
 obtain⟨kb,hkb⟩:=hkb;obtain⟨fn,hfn,hname⟩:=hn;unfold cCF at hx;rw[hfn]at hx;simp only at hx;split at hx
 ·rename_i id0 ops0 id1 o1 o2 c hb;split at hx
  ·rename_i l0 d gf cs rs hl hdef hrs;have hlt:d<fn.ntmps:=by
    grind
   rw[if_pos hlt]at hx;simp only[a05]at hx;subst hx;simp only at hk hkfn;unfold anT at hdef;split at hdef
   ·rename_i dd gg ccs h1 h2 h3;split at hdef
    ·rename_i dd' at2 h4 h5 h6;split at hdef
     ·rename_i hdd;subst hdd;simp only[a97,av6]at hdef;obtain⟨xs,hxs,rfl,rfl,rfl⟩:=hdef;unfold xJ at h;split at h
      ·cases h
      ·rename_i args1 O1 hh1;split at h
       ·cases h
       ·rename_i e0 O0 hev0;split at h
        ·cases h
        ·rename_i tx e2 O2 hev2;obtain⟨g1,hgo1,hv1⟩:=pW hw _ hh1 ha;unfold Does;rw[SH hfn hname hb];simp only;refine calls_of_wp_defers hfn hb (wp_seq ?_);have hc0:evC C call 1 (cC C.P (.region id0 ops0 false)) (args1++List.replicate (fn.ntmps-args1.length) .undef) O1=some (.normal,e0,O0):=by
          simp only[cC,ay4,if_false,hl,evC]
          grind
         refine wp_mono (nM hcall hdrawn 1 _ _ e0 O1 O0 .normal hc0 g1 w _ (aaJ hv1 fn.ntmps []) hgo1.wr (hg.mono hgo1.le)) fun ex a1 w1 ⟨hx1,hd1,g2,ha2,hgo2⟩=>?_;subst hx1;refine wp_seq (wp_region ?_);have w1':∀l,Region.wanted o1 l=true:=fun l=>by simp[Region.wanted,h3]
         have w2':∀l,Region.wanted o2 l=true:=fun l=>by simp[Region.wanted,h6]
         have q0:(⟨[o1,o2]⟩:Array Oper)[0]?=some o1:=rfl;have q1:(⟨[o1,o2]⟩:Array Oper)[1]?=some o2:=rfl;have sz:List.range (⟨[o1,o2]⟩:Array Oper).size=[0,1]:=rfl;have hg2:=(hg.mono hgo1.le).mono hgo2.le;have hcs:=ag2 ha2 hg2 _ _ hxs;have hmap:ccs.map a1.eval=⟨ccs.toList.map a1.eval⟩:=by
          grind
         have hfv:VR g2 (.func (.func gg) [] (xs.map (av C e0))) (.func (.func gg) ⟨[]⟩ ⟨ccs.toList.map a1.eval⟩):=VR.func (.func gg) [] (xs.map (av C e0)) [] (ccs.toList.map a1.eval) .nil hcs;have r1:(execOp a1.eval o1).run C.P w1=.ok (.value (.func (.func gg) ⟨[]⟩ ⟨ccs.toList.map a1.eval⟩)) w1:=by
          rw[<-hmap];simp only[execOp,h2];rw[show Array.map a1.eval ⟨[]⟩=⟨[]⟩from by simp,Sem.run_bind]
          rfl
         have hdl:dd'<a1.tmps.size:=by
          have:=VRs.length ha2;have h0:e0.length=args1.length+(fn.ntmps-args1.length):=by
           rw[Zm hev0];simp
          grind
         have r2:(execOp (a1.put (some dd') (.func (.func gg) ⟨[]⟩ ⟨ccs.toList.map a1.eval⟩)).eval o2).run C.P w1=.ok (.defer {target:=.fn (.func gg) ⟨ccs.toList.map a1.eval⟩,args:=⟨[]⟩}) w1:=by
          simp[execOp,h5,resolve,Act.put,Act.eval,hdl,Deferred.ofValue]
         rw[sz];simp only[wpOps,q0,q1,w1',w2',if_true,Oper.wp,r1,h1,r2,h4,Oper.upon];refine .inl (.inl ?_);have har3:AR g2 (e0.set dd' (.func (.func gg) [] (xs.map (av C e0)))) ({a1.put (some dd') (.func (.func gg) ⟨[]⟩ ⟨ccs.toList.map a1.eval⟩)with defers:={target:=.fn (.func gg) ⟨ccs.toList.map a1.eval⟩,args:=⟨[]⟩}::(a1.put (some dd') (.func (.func gg) ⟨[]⟩ ⟨ccs.toList.map a1.eval⟩)).defers}):=abM ha2 hfv dd';refine wp_mono (Eo hcall hdrawn hct c _ e2 O0 O2 tx hev2 g2 w1 _ har3 hgo2.wr hg2) fun ex a4 w4 hp=>?_;obtain⟨hd4,g4,ha4,hgo4,hx4⟩:=hp;have hdd4:a4.defers=[{target:=.fn (.func gg) ⟨ccs.toList.map a1.eval⟩,args:=⟨[]⟩}]:=by
          rw[hd4];show _::a1.defers=_;rw[hd1]
         have fin:∀(u u':FrameMode) (r:AV) (r':Value),u≠ .run->Md g4 u r r' u'->r=(thrown tx)->Leaves C.P fn a4.tmps (fun e w''=>∃v1,e=.returned v1/\∃g',Goes g O w g' O' w''/\VR g' v v1) a4.defers u w4:=by
          intro u u' r r' hne hu hr;rw[hdd4];split at h
          ·cases h
          ·cases h
          ·rename_i xe e3 O3 hne3 hev3;refine leaves_cons (f:=gg) (args:=⟨ccs.toList.map a1.eval⟩) hne ?_ ?_
           ·have:=SH hkfn hkname hkb (ccs.toList.map a1.eval) w4
            grind [invoke]
           ·have hset:=hu.2.1;have hlen:(xs.map (av C e0)).length=xs.length:=by simp
            rw[<-hr]at hev3;simp only at hev3;rw[<-hlen]at hev3;refine(ahu (adG hct) hdr hk hgo4.wr (hg2.mono hgo4.le) (hcs.mono hgo4.le) hu hev3 (fun id he=>by subst he;exact hne3 _ rfl)).mono ?_
            rintro e u1 w5 ⟨v5,rfl,rfl,g5,hgo5⟩;simp only;rw[hset];obtain⟨v',k1,g',k2,k3⟩:=Ob hrs hw (((hgo1.trans hgo2).trans hgo4).trans hgo5) (ha4.mono hgo5.le) h;exact⟨v',k1,v',rfl,g',k2,k3⟩
         cases tx with
         |normal=>
          simp only at hx4;subst hx4;exact fin .returning .returning .nilIface .nilIface (by simp) ⟨.nilIface,rfl,.inl ⟨rfl,rfl,rfl⟩⟩ rfl
         |ret=>
          simp only at hx4;subst hx4;exact fin .returning .returning .nilIface .nilIface (by simp) ⟨.nilIface,rfl,.inl ⟨rfl,rfl,rfl⟩⟩ rfl
         |pan vp=>
          obtain⟨vp',hvp,rfl⟩:=hx4;exact fin _ (.panicking [{v:=vp',recovered:=true}]) vp vp' (by simp) ⟨hvp,rfl,.inr ⟨rfl,rfl⟩⟩ rfl
     ·cases hdef
    ·cases hdef
   ·cases hdef
  ·cases hx
 ·cases hx
def aa3(hm:C.P.follows .mixedOrders=true){T:FuncId->Option TF}(hT:aoE C T)(n:Nat){f:FuncId}{x:CFn}{k:KFn}(hx:cCF C.P f=some x)(hn:N7 C f)(hk:cKF C.P x.clo=some k)(hnk:N7 C x.clo)(call:aZ)(hc:dW C call):POK C f (xJ C call (mX C call T n) x k):=by
 have ht:=Ud hm hc hT n;have hr:=adG ht;exact abt hc ⟨F8 hm hc,Gg hm hc⟩ ht ⟨F8 hm hr,Gg hm hr⟩ hx hn hk hnk
end
def ajF {g:Gh} {w w':World} {O:St} (h:WR g w O) {o:Nat} {l l':LA} {tg:Option (TypeId×Bool)} (hx0:O[o]?=some (.cells l ⟨false,tg⟩)) (hos:w'.os=w.os) (htape:w'.tape=w.tape) (hout:w'.output=w.output) (hsz:w.heap.size<=w'.heap.size)
  (hne:∀k,k<w.heap.size->k≠g.ob o->w'.heap[k]?=w.heap[k]?) (hx:OR g w' o (.cells l' ⟨false,tg⟩)):Goes g O w g (O.set o (.cells l' ⟨false,tg⟩)) w':=by
 obtain⟨c,e,fr,h1,h2,h3,h4,h5,h6⟩:=h.obj o _ hx0;have him:∀i v,g.im (g.ob o) i≠some v:=fun i v hv=>absurd (h6 i v hv).1 (by simp)
 refine⟨.refl g,⟨by simp[h.n],fun b i v hv=>?_,fun b i v hv=>?_,fun k y hy=>?_,fun k k' y y' hy hy' hl hl' he=>?_⟩,hos,htape,hout,hsz,fun b hb hu=>⟨fun k y hy hl=>?_,hne b hb (fun e=>hu o _ hx0 rfl e.symm),fun _=>rfl⟩⟩
 ·have hb:b≠g.ob o:=fun hb=>him i v (hb▸hv);rw[uV (hne b (h.im_lt hv) hb)];exact h.im b i v hv
 ·grind [WR]
 ·rcases mP hy with⟨hk,hz⟩|⟨rfl,_,rfl⟩
  ·exact OR.mono (h.obj k y hz) (.refl g) (h.lt hz) (fun hl=>hne _ (h.ob_lt hz hl) fun e=>hk (h.inj k o y _ hz hx0 hl rfl e)) (fun _ _ _ hv=>hv)
  ·exact hx
 ·rcases mP hy with⟨hk,hz⟩|⟨hk,_,rfl⟩
  ·rcases mP hy' with⟨hk',hz'⟩|⟨hk',_,rfl⟩
   ·exact h.inj k k' y y' hz hz' hl hl' he
   ·subst hk';exact absurd (h.inj k k' y _ hz hx0 hl rfl he) hk
  ·rcases mP hy' with⟨hk',hz'⟩|⟨hk',_,rfl⟩
   ·subst hk;exact absurd (h.inj k' k y' _ hz' hx0 hl' rfl he.symm) hk'
   ·rw[hk,hk']
 ·rcases mP hy with⟨hk,hz⟩|⟨hk,_,rfl⟩
  ·exact hu k y hz hl
  ·subst hk;exact hu k _ hx0 rfl
end Go.Ev
