/- Code. No conditions. -/
import Derived.Test.YtaaomenfchndjaaGreatDoorCF
set_option linter.unusedVariables false
set_option linter.unusedSimpArgs false
set_option linter.defProp false
set_option maxHeartbeats 4000000
set_option maxRecDepth 100000
namespace Go.Ev
open List renaming length→z
open Option renaming some→J, none→U
open Bool renaming true→eT
variable{C:Ctx}{PK:PkI}
def Rx(Y:St)(lo:Nat)(x:AV)(l:List PS):Prop:=∃q,x=.dj q 0 (z l) 2/\Y[q]?=J (.cP (l.flatMap pC) FZ)/\lo<=q
def Rx.eD{Y:St}{lo:Nat}{x:AV}{l:List PS}(h:Rx Y lo x l)(L:St):Rx (Y++L) lo x l:=by obtain⟨q,e,h,a⟩:=h;exact⟨q,e,aj h L,a⟩
theorem Rx.hu{Y:St}{lo:Nat}{x:AV}{l:List PS}(h:Rx Y lo x l)(hok:Ok Y)(p:PS)(d:z l<=1000000)(b:lo<=z Y):∃(v:AV) (S:St),uD Y 2 32 U x 1 [.cU p.1,.cU p.2]=J (v,S)/\Ok S/\Rx S lo v (l++[p])/\(∀k,k<lo->S[k]?=Y[k]?)/\lo<=z S:=by
 have sl:=bz wB l;have e1:l.flatMap pC++[.cU p.1,.cU p.2]=(l++[p]).flatMap pC:=by rw[List.flatMap_append];rfl
 have bl:∀n,AO.below n (.cP ((l++[p]).flatMap pC) FZ)=eT:=λn=>AO.Y (a97 _) _ (dP (λ_=>rfl) _);obtain⟨q,rfl,a,h2⟩:=h;refine⟨_,_,Lt _ a (by decide) (by omega) (by omega) (by omega),?_,⟨z Y,by simp,?_,by omega⟩,λk c=>?_,by simp;omega⟩;·rw[e1];exact(Ok.bd hok q rfl).H (by rw[a08,bl];rfl)
 ·rw[e1];exact aU (by simp) _
 ·rw[aC1 (by simp;omega),aE2 (by omega)]
end Go.Ev
namespace Go.Ev
open List renaming length→z
open Option renaming some→J, none→U
open Bool renaming true→eT
variable{C:Ctx}
structure RI(O0:St)(o p:Nat)(ms:List Nat)(cs:LA)(Y:St):Prop where
 ok:Ok Y
 pk:cO.ok Y o ms
 lt:∀i∈o::ms,i<Y.length
 ge:∀i∈o::ms,O0.length<=i
 np:p∉o::ms
 gp:O0.length<=p
 r:Y[p]?=some (.cP cs FZ)
 au:∀(i:Nat) (y:AO),O0[i]?=some y->Y[i]?=some y
def RI.fe{O0:St}{o p:Nat}{ms:List Nat}{cs:LA}{Y a:St}(h:RI O0 o p ms cs Y)(c:Ok a)(h2:z a=z Y)(h3:∀i,i∉o::ms->a[i]?=Y[i]?)(h4:cO.ok a o ms):RI O0 o p ms cs a:=
 ⟨c,h4,λi hi=>by rw[h2];exact h.lt i hi,h.ge,h.np,h.gp,by rw[h3 _ h.np];exact h.r,λi y b=>by
  rw[h3];·exact h.au i y b
  ·intro hi;have:=h.ge i hi;have:=(a00.mp b).1;omega⟩
def RI.cg{O0:St}{o p:Nat}{ms:List Nat}{cs:LA}{Y:St}(h:RI O0 o p ms cs Y)(a:LA)(hb:ae 0 a=eT):RI O0 o p ms a (Y.set p (.cP a FZ)):=by
 refine⟨Ok.bd h.ok p (by rw[AO.below];exact aP (a97 _) _ hb),cO.fr h.pk λi hi=>?_,λi hi=>by rw[a99];exact h.lt i hi,h.ge,h.np,h.gp,bF h.r _,λi y b=>?_⟩;·exact aE2 (λe:p=i=>h.np (by rw[e];exact hi))
 ·have:=(a00.mp b).1;have:=h.gp;rw[aE2 (by omega)];exact h.au i y b
end Go.Ev
