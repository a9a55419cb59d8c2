/- Code of functions as the evaluator has it, and what some of them compute. No conditions. -/
import Derived.Test.YtpphohnabmlhpaaGreatDoorCD
import Derived.Test.YtpphohnabmlhpaaGreatDoorED
import Derived.Shelf.SlSortCmp.WholeK
set_option linter.unusedVariables false
set_option linter.unusedSimpArgs false
namespace Go.Ev
open Go.RowKit Go.Shelf Go.Lib Go.Sort Go.Proofs
set_option maxRecDepth 10000
def Wx(xs:List EL)(i:Nat):LU:=match xs[i]? with|some x=>x.1.1|none=>[]
def aad(xs:List EL)(i j:Nat):Int:=compareBytes (Wx xs i) (Wx xs j)
theorem afJ(xs:List EL):SWO (ltOf (aad xs))where
 irrefl x:=by simp[ltOf,aad,ac4]
 trans x y z h1 h2:=decide_eq_true (XU _ _ _ (of_decide_eq_true h1) (of_decide_eq_true h2))
 ntrans x y z h1 h2:=decide_eq_false (TR _ _ _ (of_decide_eq_false h1) (of_decide_eq_false h2))
def zk(xs:List EL):Array Nat:=pdq (ltOf (aad xs)) (Array.range xs.length) 0 (Array.range xs.length).size (Lib.bitLen (Array.range xs.length).size) true true
theorem amF(xs:List EL):(zk xs).size=xs.length/\∀i,i<xs.length->(zk xs)[i]! <xs.length:=by
 have h:=(pdq_sorts (ltOf (aad xs)) (afJ xs) (Array.range xs.length) 0 (Array.range xs.length).size (Lib.bitLen (Array.range xs.length).size) true true (Nat.zero_le _) (Nat.le_refl _) (Or.inl rfl)).1;refine⟨by have:=h.1;unfold zk;rw[this];simp,fun i hi=>?_⟩
 exact permIn_all (Array.range xs.length) (zk xs) 0 (Array.range xs.length).size (fun j=>j<xs.length) (Nat.le_refl _) h (fun j _ hj=>by
  have hj':j<xs.length:=by simpa using hj
  rw[getElem!_pos _ j hj];simpa using hj') i (Nat.zero_le _) (by simpa using hi)
def aok:EL:=(⟨[],by decide⟩,JV.zero)
instance:Inhabited EL:=⟨aok⟩
def RJ(xs:List EL):List EL:=(List.range xs.length).map fun t=>xs.getD ((zk xs)[t]!) aok
theorem Gg(xs:List EL):(RJ xs).length=xs.length:=by simp[RJ]
open Classical in
noncomputable def NH(fc:FuncId)(args:LA)(O:St):Option (AV×St):=
 match args with
 |[.msl o 0 n 6,.func (.func g) [] []]=>match O[o]? with
  |some (.cells l ⟨false,t⟩)=>if h:g=fc/\n<4611686018427387904/\∃xs:List EL,l=jB xs/\xs.length=n then some (.tup [],O.set o (.cells (jB (RJ h.2.2.choose)) ⟨false,t⟩))else none
  |_=>none
 |_=>none
theorem Jt(xs:List EL):(jB xs).length=xs.length*6:=dh kY xs
theorem afX(xs:List EL)(i r:Nat)(hi:i<xs.length)(hr:r<6):(jB xs)[i*6+r]?=(elC xs[i])[r]?:=by
 have h:=mD kY (List.getElem?_eq_getElem hi);have e:(jB xs)[i*6+r]?=((jB xs).drop (i*6))[r]?:=by rw[List.getElem?_drop]
 rw[e];unfold jB;rw[h,List.getElem?_append_left (by rw[kY];exact hr)]
def tX(c:Array Value)(n i:Nat):List Value:=if i<n then(List.range 6).map fun r=>c[i*6+r]! else[.string ⟨⟨[]⟩⟩,.int .i64 0,.int .i64 0,.int .i64 0,.int .i64 0,.int .i64 0]
theorem xY(c:Array Value)(n i:Nat):(tX c n i).length=6:=by
 unfold tX;split<;>simp
theorem aan(c:Array Value)(n i r:Nat)(hi:i<n)(hr:r<6):(tX c n i)[r]! =c[i*6+r]!:=by
 unfold tX;rw[if_pos hi,getElem!_pos _ r (by simpa using hr)]
 simp
section
variable{C:Ctx}{ρ:Ren}{fs fc:FuncId}
theorem ad1 (L:SlLaysF0.n6 C.P ρ) (hfs:ρ.f 6=fs) (hfn:AB C.P fs) (aE:∀w,(isAgg (ρ.t 24)).run C.P w=.ok true w) (zE:∀w,(Go.sizeOf (ρ.t 24)).run C.P w=.ok 6 w)
  (eg:∀args w,(callFunc fc args).run C.P w=.ok (.enter fc args) w)
  (afL:∀(x y:LU) (u v:List Value) (W:World),u.length=5->v.length=5->Calls C.P fc #[.agg (.string ⟨⟨x⟩⟩::u).toArray,.agg (.string ⟨⟨y⟩⟩::v).toArray] W fun e w'=>e=.returned (.int .i64 (compareBytes x y))/\∃q os',w'=grow (W.drewN q) os'):
  POK C fs (NH fc):=by
 intro args O v O' h g w args' ha hw hg;unfold NH at h;split at h
 ·rename_i o n gf;split at h
  ·rename_i l t ho;split at h
   ·rename_i hx;simp only[Option.some.injEq,Prod.mk.injEq]at h;obtain⟨rfl,rfl⟩:=h;have hxs:=hx.2.2.choose_spec;generalize hx.2.2.choose=xs at hxs;obtain⟨rfl,hn,_⟩:=hx;obtain⟨rfl,hlen⟩:=hxs;have hlen6:=Jt xs;obtain⟨c,e,fr,h1,h2',h3,h4,h5,h6⟩:=hw.obj o _ ho;have hfr:fr=(0,0):=h5.1;subst hfr;cases ha with
    |cons _ v1 _ l1 x1 y1=>
    cases y1 with
    |cons _ v2 _ l2 x2 y2=>
    cases y2;cases x1 with
    |msl _ _ _ _ cap hog hncap hcap=>
    cases x2 with
    |func _ _ _ x' y' k1 k2=>
    cases k1;cases k2;have cell:∀i,i<n->∀r,r<6->∃x,(elC xs[i]!)[r]?=some x/\VR g x c[i*6+r]!:=fun i hi r hr=>by
     have hi':i<xs.length:=by omega
     have e1:=afX xs i r hi' hr;have hl6:=kY xs[i];have e2:(elC xs[i])[r]?=some (elC xs[i])[r]:=List.getElem?_eq_getElem (by omega)
     rw[e2]at e1;obtain⟨u,hu,hv⟩:=h4 _ _ e1;have e3:xs[i]! =xs[i]:=getElem!_pos xs i hi';refine⟨_,by rw[e3];exact e2,?_⟩
     obtain⟨hb,hu2⟩:=Array.getElem?_eq_some_iff.mp hu;rw[getElem!_pos c _ hb,hu2];exact hv
    have fst:∀i,∃u,tX c n i=.string ⟨⟨Wx xs i⟩⟩::u/\u.length=5:=fun i=>by
     have hl:=xY c n i;by_cases hi:i<n
     ·obtain⟨x,hx1,hx2⟩:=cell i hi 0 (by decide)
      have hi':i<xs.length:=by omega
      have e3:xs[i]! =xs[i]:=getElem!_pos xs i hi';have hx3:x=.str (Wx xs i):=by
       have:Wx xs i=(xs[i]).1.1:=by unfold Wx;rw[List.getElem?_eq_getElem hi']
       rw[this];rw[e3]at hx1;exact(Option.some.inj hx1).symm
      rw[hx3]at hx2;have e0:=aan c n i 0 hi (by decide)
      cases hE:tX c n i with
      |nil=>rw[hE]at hl;cases hl
      |cons a u=>
       rw[hE]at e0 hl;refine⟨u,?_,by simpa using hl⟩
       have:a=c[i*6+0]!:=e0;rw[this];generalize c[i*6+0]! =q at hx2;cases hx2;rfl
     ·refine⟨[.int .i64 0,.int .i64 0,.int .i64 0,.int .i64 0,.int .i64 0],?_,rfl⟩;unfold tX Wx;rw[if_neg hi,List.getElem?_eq_none (by omega)]
    have oneC:∀i,∀v∈tX c n i,v.oneCell'=true:=fun i v hv=>by
     by_cases hi:i<n
     ·unfold tX at hv;rw[if_pos hi]at hv;obtain⟨r,hr,rfl⟩:=List.mem_map.mp hv;obtain⟨x,hx1,hx2⟩:=cell i hi r (List.mem_range.mp hr);exact hx2.one (List.all_eq_true.mp (uK _) x (List.mem_of_getElem? hx1))
     ·unfold tX at hv;rw[if_neg hi]at hv;simp only[List.mem_cons,List.not_mem_nil,or_false]at hv;rcases hv with rfl|rfl|rfl|rfl|rfl|rfl<;>rfl
    have hsz0:(Array.range xs.length).size=n:=by simp[hlen]
    have rg:∀j,j<n->(Array.range xs.length)[j]! =j:=fun j hj=>by
     rw[getElem!_pos _ j (by rw[hsz0];exact hj)];simp
    have fk:∀t,t<n*6->(flatK (tX c n) 6 (Array.range xs.length))[t]! =c[t]!:=fun t ht=>by
     have hq:t/6<n:=by omega
     rw[get_flatK _ _ _ _ (by rw[hsz0];exact ht),rg _ hq,aan _ _ _ _ hq (Nat.mod_lt _ (by decide))]
     congr 1
     omega
    have hH:HoldsK (tX c n) 6 w (g.ob o) 0 (Array.range xs.length):=by
     intro t ht;have ht':t<n*6:=by rw[size_flatK,hsz0]at ht;exact ht
     refine⟨?_,?_⟩
     ·rw[fk t ht',Nat.zero_add];show w.cell? ⟨g.ob o,t,none⟩=some c[t]!;rw[cell_of_heap h1,getElem!_pos c t (by omega)]
      exact Array.getElem?_eq_getElem (by omega)
     ·rw[World.frozen?,h1];rfl
    have hb:g.ob o<w.heap.size:=(Array.getElem?_eq_some_iff.mp h1).1;have hcmp:CmpLays C.P gf #[] (tX c n) 6 (aad xs) (g.ob o) 0 (Array.range xs.length).size w:=fun m os dk _ i j=>by
     obtain⟨u,hu,lu⟩:=fst i;obtain⟨u',hu',lu'⟩:=fst j;rw[hu,hu'];exact afL (Wx xs i) (Wx xs j) u u' _ lu lu'
    have run:=AnyQ.slices_SortFunc_eq L 6 aE zE (tX c n) (xY c n) oneC (aad xs) (afJ xs) gf #[] (g.ob o) 0 cap (Array.range xs.length) w eg hcmp hH hb (by omega)
    rw[hfs,hsz0]at run;refine zK hfn (run.mono fun e' w2 ⟨he,q,os,hw2⟩=>⟨_,he,g,?_,.tup _ _ .nil⟩);have hd:=amF xs;have hd0:pdq (ltOf (aad xs)) (Array.range xs.length) 0 n (Lib.bitLen n) true true=zk xs:=by unfold zk;rw[hsz0]
    rw[hd0]at hw2;have hF:(flatK (tX c n) 6 (zk xs)).size=n*6:=by rw[size_flatK,hd.1,hlen]
    have heap:w2.heap=(w.heap.modify (g.ob o) (onCells (putCells id 0 (flatK (tX c n) 6 (zk xs)))))++os:=by rw[hw2];rfl
    have hms:(w.heap.modify (g.ob o) (onCells (putCells id 0 (flatK (tX c n) 6 (zk xs))))).size=w.heap.size:=by simp
    have h2:w2.heap[g.ob o]?=some (.cells (putCells id 0 (flatK (tX c n) 6 (zk xs)) c) e (0,0)):=by
     rw[heap,Array.getElem?_append_left (by rw[hms];exact hb),Array.getElem?_modify,if_pos rfl,h1]
     rfl
    have psz:(putCells id 0 (flatK (tX c n) 6 (zk xs)) c).size=c.size:=by simp[putCells]
    refine agh hw ho (by rw[hw2];rfl) (by rw[hw2];rfl) (by rw[hw2];rfl) (by rw[heap];simp) (fun k hk hne=>?_) ⟨_,e,(0,0),h2,by rw[psz];exact h2',by rw[psz,Jt,Gg];omega,fun i x hx=>?_,?_,?_⟩
    ·rw[heap,Array.getElem?_append_left (by rw[hms];exact hk),Array.getElem?_modify,if_neg (fun h=>hne h.symm)]
    ·have hi:i<n*6:=by
      have:=(List.getElem?_eq_some_iff.mp hx).1;rw[Jt,Gg]at this;omega
     have hq:i/6<n:=by omega
     have hr:i%6<6:=Nat.mod_lt _ (by decide)
     have hoi:=hd.2 (i/6) (by omega)
     have ei:i=i/6*6+i%6:=by omega
     have es:(RJ xs)[i/6]'(by rw[Gg];omega)=xs[(zk xs)[i/6]!]!:=by
      unfold RJ;rw[List.getElem_map,List.getElem_range,List.getD_eq_getElem?_getD,List.getElem?_eq_getElem hoi,getElem!_pos xs _ hoi];rfl
     have hx':=hx;rw[ei,afX (RJ xs) (i/6) (i%6) (by rw[Gg];omega) hr,es]at hx'
     obtain⟨y,hy1,hy2⟩:=cell ((zk xs)[i/6]!) (by omega) (i%6) hr
     rw[hy1]at hx';cases hx';refine⟨(flatK (tX c n) 6 (zk xs))[i]!,?_,?_⟩
     ·unfold putCells;rw[Array.getElem?_mapIdx,Array.getElem?_eq_getElem (by omega),Option.map_some,if_pos ⟨Nat.zero_le _,by rw[hF];omega⟩]
      rfl
     ·rw[get_flatK _ _ _ _ (by rw[hd.1,hlen];exact hi),aan _ _ _ _ (by omega) hr]
      exact hy2
    ·refine⟨rfl,fun t' x' ht=>?_⟩;obtain⟨q1,q2⟩:=h5.2 t' x' ht;refine⟨q1,fun hx=>?_⟩;rw[psz,Jt,Gg,<-Jt];exact q2 hx
    ·intro i v hv;exact absurd (h6 i v hv).1 (by simp)
   ·cases h
  ·cases h
 ·cases h
theorem adm{D:Ctx}(hq:∀args O,ai D fs args O=NH fc args O):Oq D fs fc:=by
 intro O hσ o ho t N hN xs hxs;have hex:fc=fc/\N<4611686018427387904/\∃ys:List EL,jB xs=jB ys/\ys.length=N:=⟨rfl,by omega,xs,rfl,hxs⟩
 refine⟨RJ hex.2.2.choose,by rw[Gg];exact hex.2.2.choose_spec.2,?_⟩
 rw[hq];unfold NH aj8;simp only[adb ho t xs];rw[dif_pos hex,aki]
end
end Go.Ev
