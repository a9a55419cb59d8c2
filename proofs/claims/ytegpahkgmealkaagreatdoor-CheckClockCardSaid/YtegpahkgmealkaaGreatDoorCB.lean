/- Code of functions as the evaluator has it, and what some of them compute. No conditions. -/
import Derived.Test.YtegpahkgmealkaaGreatDoorCA
import Derived.Test.YtegpahkgmealkaaGreatDoorEC
import Derived.Test.YtegpahkgmealkaaGreatDoorED
import Derived.Test.YtegpahkgmealkaaGreatDoorProg
set_option linter.unusedVariables false
set_option linter.unusedSimpArgs false
namespace Go.Ev
def V0:Val:=⟨[0],[]⟩
theorem U4{V:Val}(h:V.ν[0]?=some 0):V0.le V:=⟨fun i a hi=>by
 cases i with
 |zero=>simp[V0]at hi;subst hi;exact h
 |succ i=>simp[V0]at hi,fun i a hi=>by simp[V0]at hi⟩
def fC(C:Ctx)(PK:PkI)(f:FuncId):Sm->Prop
 |.pure args res=>∀(O:St) (azs as':LA) (O1:St),Ok O->hand false azs O=some (as',O1)->Ok O1->Mt V0 args as'->∃v,ai C f azs O=some (v,O1)/\M V0 res v
 |.ro l args res=>∀(O:St) (o:Nat) (azs as':LA) (O1:St) (cs:LA) (fz:Fz),Ok O->hand false (.ref o 0::azs) O=some (.ref o 0::as',O1)->Ok O1->O1[o]?=some (.cells cs fz)->Ms V0 l cs->Mt V0 args as'->∃v,ai C f (.ref o 0::azs) O=some (v,O1)/\M V0 res v
 |.pof args=>∀(O:St) (azs as':LA) (O1:St),Ok O->hand false azs O=some (as',O1)->Ok O1->Mt V0 args as'->∃(L:St) (o:Nat) (ms:List Nat),ai C f azs O=some (.ref o 0,O1++L)/\Ok (O1++L)/\(∀i∈o::ms,O1.length<=i/\i<(O1++L).length)/\PK.ok (O1++L) o ms
 |.pk args res=>∀(O:St) (o:Nat) (ms:List Nat) (azs as':LA) (O1:St),Ok O->hand false (.ref o 0::azs) O=some (.ref o 0::as',O1)->Ok O1->PK.ok O1 o ms->Mt V0 args as'->∃v O2,ai C f (.ref o 0::azs) O=some (v,O2)/\M V0 res v/\Ok O2/\O2.length=O1.length/\(∀i,i∉o::ms->O2[i]?=O1[i]?)/\PK.ok O2 o ms
 |.chg H args res=>∀(O:St) (azs as':LA) (O1:St),Ok O->hand false azs O=some (as',O1)->Ok O1->∀(F:Frm) (W:Vo) (E:As),G PK F W (Hab H) E O1->Mt W.toVal args as'->∃v O2,ai C f azs O=some (v,O2)/\M V0 res v/\Ok O2/\O2.length=O1.length/\(∀i,(∀(k:Nat) a,W.own[k]?=some a->i∉a)->O2[i]?=O1[i]?)/\∀(k:Nat) h,H[k]?=some h->HM PK W F O2 k h
theorem MRs.nvs{V:Val}{e:List Sh}(hc:cls e=true):∀{rs:List LA},MRs V e rs->NVs rs.flatten
 |_,.nil _=>.nil
 |_,.cons _ r rs x y=>by rw[List.flatten_cons];exact(Ms.nvs x hc).app (MRs.nvs hc y)
theorem adM{V:Val}:∀{rs:List LA},MRs V [.jv] rs->∃is:List JV,is.length=rs.length/\rs.flatten=aG is
 |_,.nil _=>⟨[],rfl,rfl⟩
 |_,.cons _ r rs x y=>by
  obtain⟨is,h1,h2⟩:=adM y;cases x with
  |one _ _ _ _ h=>cases h
  |jv _ j b hb=>
   cases hb;exact⟨j::is,by simp[h1],by rw[List.flatten_cons,h2,aG,List.append_nil]⟩
theorem Ar {O:St} {r:LA->Option (LA×List Nat)}:∀{a:LA} (b:LA),NVs a->aJ O r (a++b)=match aJ O r b with
  |some (l,fs)=>some (a++l,fs)
  |none=>none
 |[],b,_=>by
  rw[List.nil_append];cases aJ O r b<;>rfl
 |v::a,b,h=>by
  show(match aU O r v,aJ O r (a++b)with|some (v,fs),some (l,gs)=>some (v::l,fs++gs)|_,_=>none)=_
  rw[(h v (by simp)).nf,Ar b (fun x hx=>h x (by simp[hx]))]
  cases aJ O r b<;>rfl
theorem ahA{V:Val}(h0:V.ν[0]?=some 0){e:List Sh}(hj:jvN [] 3 e=true):∀{rs:List LA},MRs V e rs->MRs V [.jv] rs
 |_,.nil _=>.nil _
 |_,.cons _ r rs x y=>by
  obtain⟨j,rfl⟩:=aby (Sb.nil (W:=V) h0) 3 hj x;refine .cons _ _ _ ?_ (ahA h0 hj y);have:=Ms.jv (V:=V) [] j [] .nil;rwa[List.append_nil]at this
theorem adK{V:Val}(h0:V.ν[0]?=some 0){a:Nat}{e:List Sh}{rs:List LA}(h:V.ν[a]?=some rs.length)(hm:MRs V e rs):M V (amQ a e) (.sl rs.length rs.flatten):=by
 unfold amQ;split
 ·rename_i hj;obtain⟨is,h1,h2⟩:=adM (ahA h0 hj hm);rw[<-h1,h2];exact .slj _ _ (by rw[h1];exact h)
 ·exact .sl _ _ _ h hm
theorem aez{V:Val}{O:St}{R:LA->Option (LA×List Nat)}{s s':Sh}{v:AV}(ho:s.one=true)(h:M V s v)(hs:abo s=some s'):s'.one=true/\∃v',aU O R v=some (v',[])/\M V s' v':=by
 unfold abo at hs;split at hs
 ·cases hs;cases h;exact⟨rfl,.sl 0 [],rfl,.slc _ _ _ .nil⟩
 ·rename_i n l;split at hs
  ·rename_i hc;cases hs;obtain⟨w,rfl,hw⟩:=agQ h;refine⟨rfl,.sl n w,?_,.slc _ _ _ hw⟩;unfold aU;rw[(Ms.nvs hw hc).nf]
  ·cases hs
 ·split at hs
  ·rename_i hc;cases hs;exact⟨ho,v,(M.nv h hc).nf _ _,h⟩
  ·cases hs
theorem LV{V:Val}{O:St}{R:LA->Option (LA×List Nat)}:∀{e:List Sh} {r:LA},Ms V e r->∀{e':List Sh},OY e=some e'->∃r',aJ O R r=some (r',[])/\Ms V e' r'
 |_,_,.nil,e',hs=>by cases hs;exact⟨[],rfl,.nil⟩
 |_,_,.one s t v b a x y,e',hs=>by
  simp only[OY]at hs;split at hs
  ·rename_i s2 t2 h1 h2;cases hs;obtain⟨o1,v',e1,m1⟩:=aez (O:=O) (R:=R) a x h1;obtain⟨r',e2,m2⟩:=LV (O:=O) (R:=R) y h2;refine⟨v'::r',?_,.one _ _ _ _ o1 m1 m2⟩;unfold aJ;rw[e1,e2];rfl
  ·cases hs
 |_,_,.jv t j b x,e',hs=>by
  simp only[OY]at hs;split at hs
  ·rename_i s2 t2 h1 h2;cases hs;cases h1;obtain⟨r',e2,m2⟩:=LV (O:=O) (R:=R) x h2;exact⟨j.cs++r',by rw[Ar _ j.nvs,e2],.jv _ _ _ m2⟩
  ·cases hs
 |_,_,.jg a b t j r x y,e',hs=>by
  simp only[OY]at hs;split at hs
  ·rename_i s2 t2 h1 h2;cases hs;cases h1;obtain⟨r',e2,m2⟩:=LV (O:=O) (R:=R) y h2;exact⟨j.cs++r',by rw[Ar _ j.nvs,e2],.jg _ _ _ _ _ x m2⟩
  ·cases hs
theorem TC{O:St}{R:LA->Option (LA×List Nat)}:∀{a b a' b':LA},aJ O R a=some (a',[])->aJ O R b=some (b',[])->aJ O R (a++b)=some (a'++b',[])
 |[],b,a',b',h1,h2=>by cases h1;exact h2
 |v::a,b,a',b',h1,h2=>by
  unfold aJ at h1;split at h1
  ·rename_i w fs l gs e1 e2;simp only[Option.some.injEq,Prod.mk.injEq,List.append_eq_nil_iff]at h1;obtain⟨rfl,rfl,rfl⟩:=h1;have:=TC e2 h2;show aJ O R (v::(a++b))=_;unfold aJ;rw[e1,this];rfl
  ·cases h1
theorem VH{V:Val}{O:St}{R:LA->Option (LA×List Nat)}{e e':List Sh}(hs:OY e=some e'):∀{rs:List LA},MRs V e rs->∃rs',aJ O R rs.flatten=some (rs'.flatten,[])/\MRs V e' rs'/\rs'.length=rs.length
 |_,.nil _=>⟨[],rfl,.nil _,rfl⟩
 |_,.cons _ r rs x y=>by
  obtain⟨r',e1,m1⟩:=LV (O:=O) (R:=R) x hs;obtain⟨rs',e2,m2,l2⟩:=VH (O:=O) (R:=R) hs y;exact⟨r'::rs',by rw[List.flatten_cons,List.flatten_cons];exact TC e1 e2,.cons _ _ _ m1 m2,by simp[l2]⟩
section
variable{C:Ctx}{X:Cfg}{PK:PkI}{O0:Frm}{V:Vo}{A:Ab}{E:As}{Y:St}
def Fr(V:Vo)(A:Ab)(o:Nat):Prop:=∃k:Nat,V.own[k]?=some [o]/\∃y:HO,A.heap[k]?=some y/\((∃a e,y=HO.arr a e)\/(∃a e,y=HO.arrm a e))
theorem afD{m:Bool}{k a w:Nat}{e:List Sh}(hk:J6 m A.heap k a w=some e){o:Nat}(ho:V.own[k]?=some [o]):Fr V A o:=by
 refine⟨k,ho,?_⟩;unfold J6 at hk;split at hk
 ·rename_i b e' hh;exact⟨_,hh,.inl ⟨_,_,rfl⟩⟩
 ·rename_i b e' hh;exact⟨_,hh,.inr ⟨_,_,rfl⟩⟩
 ·cases hk
theorem YO(h:G PK O0 V A E Y){m:Bool}{k a w:Nat}{s':Sh}(hs:VG A.heap m k a w=some s'){n o:Nat}(hn:V.ν[a]?=some n)(ho:V.ρ[k]?=some (some o))(hp:m=false->0<n):∃v' fs,aU Y (bZ Y 11) (.msl o 0 n w)=some (v',fs)/\M V.toVal s' v'/\∀o∈fs,Fr V A o:=by
 unfold VG at hs;split at hs
 ·rename_i e hk;simp only[Option.map_eq_some_iff]at hs;obtain⟨e',he',rfl⟩:=hs;obtain⟨hw,n',hn',hh⟩:=QP h hk;rw[hn]at hn';cases hn';rcases hh with⟨hm,rfl,_⟩|⟨o',rs,fz,h3,h4,h5,h6,h7⟩
  ·exact absurd (hp hm) (by omega)
  ·rw[ho]at h3;cases h3;have hlen:=h7.len;obtain⟨rs',e1,m1,l1⟩:=VH (O:=Y) (R:=bZ Y 10) he' h7;refine⟨.sl n rs'.flatten,[o],?_,?_,fun q hq=>?_⟩
   ·unfold aU;rw[h5];dsimp only;rw[if_pos (by rw[hlen,h6,hw];omega),List.drop_zero,List.take_of_length_le (by rw[hlen,h6,hw];omega)]
    show(match aJ Y (bZ Y 10) rs.flatten with|some (l,fs)=>some (AV.sl n l,o::fs)|none=>none)=_
    rw[e1]
   ·rw[<-h6,<-l1];exact adK h.zero (by rw[l1,h6];exact hn) m1
   ·simp at hq;subst hq;exact afD hk h4
 ·cases hs
theorem aec(h:G PK O0 V A E Y){m:Bool}{k a w:Nat}{s':Sh}(hs:VG A.heap m k a w=some s')(hn:V.ν[a]?=some 0):∃v' fs,aU Y (bZ Y 11) .nils=some (v',fs)/\M V.toVal s' v'/\∀o∈fs,Fr V A o:=by
 unfold VG at hs;split at hs
 ·rename_i e hk;simp only[Option.map_eq_some_iff]at hs;obtain⟨e',he',rfl⟩:=hs;exact⟨.sl 0 [],[],rfl,adK (rs:=[]) h.zero hn (.nil _),by simp⟩
 ·cases hs
mutual
theorem SK(h:G PK O0 V A E Y):∀{s:Sh} {v:AV},M V.toVal s v->∀{s':Sh},Bl A.heap s=some s'->∃v' fs,aU Y (bZ Y 11) v=some (v',fs)/\M V.toVal s' v'/\∀o∈fs,Fr V A o
 |_,_,.undef,s',hs=>by cases hs;exact⟨_,_,rfl,.undef,by simp⟩
 |_,_,.bool b,s',hs=>by cases hs;exact⟨_,_,rfl,.bool b,by simp⟩
 |_,_,.bc b,s',hs=>by cases hs;exact⟨_,_,rfl,.bc b,by simp⟩
 |_,_,.tst x c y a b e f,s',hs=>by cases hs;exact⟨_,_,rfl,.tst x c y a b e f,by simp⟩
 |_,_,.teq x c y a b e f g,s',hs=>by cases hs;exact⟨_,_,rfl,.teq x c y a b e f g,by simp⟩
 |_,_,.int k n,s',hs=>by cases hs;exact⟨_,_,rfl,.int k n,by simp⟩
 |_,_,.ic k n,s',hs=>by cases hs;exact⟨_,_,rfl,.ic k n,by simp⟩
 |_,_,.sym j c a e,s',hs=>by cases hs;exact⟨_,_,rfl,.sym j c a e,by simp⟩
 |_,_,.str x,s',hs=>by cases hs;exact⟨_,_,rfl,.str x,by simp⟩
 |_,_,.strb x e,s',hs=>by cases hs;exact⟨_,_,rfl,.strb x e,by simp⟩
 |_,_,.sc x,s',hs=>by cases hs;exact⟨_,_,rfl,.sc x,by simp⟩
 |_,_,.strl i x e,s',hs=>by cases hs;exact⟨_,_,rfl,.strl i x e,by simp⟩
 |_,_,.nilp,s',hs=>by cases hs;exact⟨_,_,rfl,.nilp,by simp⟩
 |_,_,.nils,s',hs=>by cases hs;exact⟨_,_,rfl,.slc 0 [] [] .nil,by simp⟩
 |_,_,.nilF,s',hs=>by cases hs;exact⟨_,_,rfl,.nilF,by simp⟩
 |_,_,.nilI,s',hs=>by cases hs;exact⟨_,_,rfl,.nilI,by simp⟩
 |_,_,.nilM,s',hs=>by cases hs;exact⟨_,_,rfl,.nilM,by simp⟩
 |_,_,.sl i e rs a b,s',hs=>by
  simp only[Bl]at hs;split at hs
  ·cases hs;exact⟨_,_,rfl,.sl i e rs a b,by simp⟩
  ·cases hs
 |_,_,.slx e rs a b,s',hs=>by
  simp only[Bl]at hs;split at hs
  ·cases hs;exact⟨_,_,rfl,.slx e rs a b,by simp⟩
  ·cases hs
 |_,_,.slj i is a,s',hs=>by cases hs;exact⟨_,_,rfl,.slj i is a,by simp⟩
 |_,_,.sljx is a,s',hs=>by cases hs;exact⟨_,_,rfl,.sljx is a,by simp⟩
 |_,_,.xsl n e l a,s',hs=>by
  simp only[Bl]at hs;split at hs
  ·rename_i l' hl;cases hs;obtain⟨w,fs,h1,h2,h3⟩:=Fg h a hl;refine⟨.sl n w,fs,?_,.slc _ _ _ h2,h3⟩;unfold aU;rw[h1]
  ·cases hs
 |_,_,.slc n e l a,s',hs=>by
  simp only[Bl]at hs;split at hs
  ·cases hs;exact⟨_,_,rfl,.slc n e l a,by simp⟩
  ·cases hs
 |_,_,.acc0 k a e x,s',hs=>aec (m:=false) h hs x
 |_,_,.acc k a e o n x y z,s',hs=>YO (m:=false) h hs x z (fun _=>y)
 |_,_,.accm k a e o n x z,s',hs=>YO (m:=true) h hs x z (fun hf=>by cases hf)
 |_,_,.agg l v a,s',hs=>by
  simp only[Bl]at hs;split at hs
  ·rename_i l' hl;cases hs;obtain⟨w,fs,h1,h2,h3⟩:=Fg h a hl;refine⟨.agg w,fs,?_,.agg _ _ h2,h3⟩;unfold aU;rw[h1]
  ·cases hs
 |_,_,.tup l v a,s',hs=>by
  simp only[Bl]at hs;split at hs
  ·rename_i l' hl;cases hs;obtain⟨w,fs,h1,h2,h3⟩:=Ff h a hl;refine⟨.tup w,fs,?_,.tup _ _ h2,h3⟩;unfold aU;rw[h1]
  ·cases hs
 |_,_,.jv j,s',hs=>by cases hs;exact⟨_,_,j.nv.nf _ _,.jv j,by simp⟩
 |_,_,.jg a b j x,s',hs=>by cases hs;exact⟨_,_,j.nv.nf _ _,.jg a b j x,by simp⟩
 |_,_,.ref k off o a,s',hs=>by cases hs;exact⟨_,_,rfl,.ref k off o a,by simp⟩
 |_,_,.eptr off l v r a c b,s',hs=>by
  simp only[Bl]at hs;split at hs
  ·cases hs;exact⟨_,_,rfl,.eptr off l v r a c b,by simp⟩
  ·cases hs
 |_,_,.map k o a,s',hs=>by cases hs;exact⟨_,_,rfl,.map k o a,by simp⟩
 |_,_,.pk k o a,s',hs=>by cases hs;exact⟨_,_,rfl,.pk k o a,by simp⟩
 |_,_,.func f x y u v a b,s',hs=>by
  simp only[Bl]at hs;split at hs
  ·rename_i x' y' hx hy;cases hs;obtain⟨w,fs,h1,h2,h3⟩:=Ff h a hx;obtain⟨w',fs',h1',h2',h3'⟩:=Ff h b hy;refine⟨.func f w w',fs++fs',?_,.func _ _ _ _ _ h2 h2',fun o ho=>?_⟩
   ·unfold aU;rw[h1,h1']
   ·rcases List.mem_append.mp ho with ho|ho
    ·exact h3 o ho
    ·exact h3' o ho
  ·cases hs
 |_,_,.iface t s v a,s',hs=>by
  simp only[Bl]at hs;split at hs
  ·rename_i s2 hs2;cases hs;obtain⟨w,fs,h1,h2,h3⟩:=SK h a hs2;refine⟨.iface t w,fs,?_,.iface _ _ _ h2,h3⟩;unfold aU;rw[h1]
  ·cases hs
theorem Fg(h:G PK O0 V A E Y):∀{l:List Sh} {v:LA},Ms V.toVal l v->∀{l':List Sh},Iz A.heap l=some l'->∃v' fs,aJ Y (bZ Y 11) v=some (v',fs)/\Ms V.toVal l' v'/\∀o∈fs,Fr V A o
 |_,_,.nil,l',hs=>by cases hs;exact⟨[],[],rfl,.nil,by simp⟩
 |_,_,.one s t v b a x y,l',hs=>by
  have hu:Iz A.heap (s::t)=if s.one then(match Bl A.heap s,Iz A.heap t with
   |some s',some t=>if s'.one then some (s'::t)else none
   |_,_=>none)else none:=by cases s<;>first|rfl|cases a
  rw[hu,if_pos a]at hs;split at hs
  ·rename_i s2 t2 hs2 ht2;split at hs
   ·rename_i hone;cases hs;obtain⟨w,fs,h1,h2,h3⟩:=SK h x hs2;obtain⟨w',fs',h1',h2',h3'⟩:=Fg h y ht2;refine⟨w::w',fs++fs',?_,.one _ _ _ _ hone h2 h2',fun o ho=>?_⟩
    ·unfold aJ;rw[h1,h1']
    ·rcases List.mem_append.mp ho with ho|ho
     ·exact h3 o ho
     ·exact h3' o ho
   ·cases hs
  ·cases hs
 |_,_,.jv t j b x,l',hs=>by
  simp only[Iz]at hs;split at hs
  ·rename_i t2 ht2;cases hs;obtain⟨w,fs,h1,h2,h3⟩:=Fg h x ht2;refine⟨j.cs++w,fs,?_,.jv _ _ _ h2,h3⟩;rw[Ar _ j.nvs,h1]
  ·cases hs
 |_,_,.jg a b t j r x y,l',hs=>by
  simp only[Iz]at hs;split at hs
  ·rename_i t2 ht2;cases hs;obtain⟨w,fs,h1,h2,h3⟩:=Fg h y ht2;refine⟨j.cs++w,fs,?_,.jg _ _ _ _ _ x h2,h3⟩;rw[Ar _ j.nvs,h1]
  ·cases hs
theorem Ff(h:G PK O0 V A E Y):∀{l:List Sh} {v:LA},Mt V.toVal l v->∀{l':List Sh},Es A.heap l=some l'->∃v' fs,aJ Y (bZ Y 11) v=some (v',fs)/\Mt V.toVal l' v'/\∀o∈fs,Fr V A o
 |_,_,.nil,l',hs=>by cases hs;exact⟨[],[],rfl,.nil,by simp⟩
 |_,_,.cons s t v b x y,l',hs=>by
  simp only[Es]at hs;split at hs
  ·rename_i s2 t2 hs2 ht2;cases hs;obtain⟨w,fs,h1,h2,h3⟩:=SK h x hs2;obtain⟨w',fs',h1',h2',h3'⟩:=Ff h y ht2;refine⟨w::w',fs++fs',?_,.cons _ _ _ _ h2 h2',fun o ho=>?_⟩
   ·unfold aJ;rw[h1,h1']
   ·rcases List.mem_append.mp ho with ho|ho
    ·exact h3 o ho
    ·exact h3' o ho
  ·cases hs
end
theorem aeR{α:Type}{l:List α}{k:Nat}{y:α}(h:l[k]?=some y):l.set k y=l:=by
 apply List.ext_getElem?;intro i;rw[List.getElem?_set];split
 ·rename_i e;subst e;split
  ·exact h.symm
  ·rename_i hl;rw[List.getElem?_eq_none (by omega)]
 ·rfl
theorem VB:∀(fs:List Nat) {Y:St},G PK O0 V A E Y->(∀o∈fs,Fr V A o)->G PK O0 V A E (freeze Y fs)/\Ch V A Y V A (freeze Y fs)
 |[],Y,h,_=>⟨h,.refl⟩
 |o::fs,Y,h,hf=>by
  have ih:=fun{Y':St} (h':G PK O0 V A E Y')=>VB fs h' (fun q hq=>hf q (by simp[hq]))
  unfold freeze;split
  ·rename_i l t hl;obtain⟨k,ho,y,hy,hya⟩:=hf o (by simp)
   have hrange:=h.rng k _ ho o (by simp)
   have hHM:=h.heap _ _ hy;have hset:=h.set (k:=k) (o:=o) (x:=.cells l ⟨true,t⟩) (y:=y) ((List.getElem?_eq_some_iff.mp hy).1) ho (by
     have:=List.all_eq_true.mp h.ok _ (List.mem_of_getElem? hl);exact this) (by
    rcases hya with⟨a,e,rfl⟩|⟨a,e,rfl⟩
    ·obtain⟨n,h1,h2⟩:=hHM;refine⟨n,h1,?_⟩;rcases h2 with⟨_,h2⟩|⟨h2,o',rs,fz,h3,h4,h5,h6,h7⟩
     ·rw[ho]at h2;cases h2
     ·rw[ho]at h4;cases h4;rw[hl]at h5;cases h5;exact .inr ⟨h2,o,rs,⟨true,t⟩,h3,ho,by rw[List.getElem?_set_self hrange.2],h6,h7⟩
    ·obtain⟨n,h1,o',rs,fz,h3,h4,h5,h6,h7⟩:=hHM;rw[ho]at h4;cases h4;rw[hl]at h5;cases h5;exact⟨n,h1,o,rs,⟨true,t⟩,h3,ho,by rw[List.getElem?_set_self hrange.2],h6,h7⟩)
   have hset:G PK O0 V A E (Y.set o (.cells l ⟨true,t⟩)):=by
    rw[aeR hy]at hset;exact hset
   obtain⟨g1,g2⟩:=ih hset;refine⟨g1,Ch.trans (.state fun k' l' o' hk' ho'=>?_) g2⟩;rw[List.getElem?_set_ne];intro e;subst e;by_cases hkk:k=k'
   ·subst hkk;rw[hy]at hk';cases hk';rcases hya with⟨_,_,e⟩|⟨_,_,e⟩<;>cases e
   ·exact h.dis k k' _ _ hkk ho ho' o (by simp) (by simp)
  ·exact ih h
theorem ad7(h:G PK O0 V A E Y){ss ss':List Sh}{azs:LA}(hm:Mt V.toVal ss azs)(hs:Es A.heap ss=some ss'):∃as' Y1,hand false azs Y=some (as',Y1)/\Mt V.toVal ss' as'/\G PK O0 V A E Y1/\Ch V A Y V A Y1:=by
 obtain⟨w,fs,h1,h2,h3⟩:=Ff h hm hs;obtain⟨g1,g2⟩:=VB fs h h3;refine⟨w,freeze Y fs,?_,h2,g1,g2⟩;show(match bZ Y 12 azs with|some (l,fs)=>some (l,freeze Y fs)|none=>none)=_
 rw[show bZ Y 12 azs=aJ Y (bZ Y 11) azs from rfl,h1]
end
theorem Ms.single{V:Val}{t:Sh}{v:AV}(h:Ms V [t] [v]):M V t v:=by
 generalize hl:[v]=w at h;cases h with
 |one _ _ x b h1 h2 h3=>cases hl;exact h2
 |jv _ j b hb=>
  have:=congrArg List.length hl;rw[List.length_append,j.len]at this;simp at this;omega
 |jg _ _ _ j b hj hb=>
  have:=congrArg List.length hl;rw[List.length_append,j.len]at this;simp at this;omega
section
variable{C:Ctx}{X:Cfg}{PK:PkI}{O0:Frm}{V:Vo}{A:Ab}{E:As}{Y:St}
structure Op(V:Vo)(A:Ab)(V':Vo)(A':Ab):Prop where
 le:V.toVal.le V'.toVal
 own:V'.own=V.own
 ρ:V'.ρ=V.ρ
 wr:A'.wr=A.wr
 ls:A'.ls=A.ls
 env:A'.env=A.env
 heap:A'.heap=A.heap
theorem Op.refl:Op V A V A:=⟨.rfl,rfl,rfl,rfl,rfl,rfl,rfl⟩
theorem Op.trans{V' V'':Vo}{A' A'':Ab}(h:Op V A V' A')(k:Op V' A' V'' A''):Op V A V'' A'':=⟨h.le.trans k.le,k.own.trans h.own,k.ρ.trans h.ρ,k.wr.trans h.wr,k.ls.trans h.ls,k.env.trans h.env,k.heap.trans h.heap⟩
theorem Op.ch{V':Vo}{A':Ab}(h:Op V A V' A'):Ch V A Y V' A' Y:=
 ⟨h.le,fun k hk=>by rw[h.wr];exact hk,h.ls,h.env,fun k l hk _=>⟨by rw[h.heap];exact hk,by rw[h.own],fun _ _ _ _=>rfl⟩⟩
theorem CP(h:G PK O0 V A E Y){l:List Sh}{v:LA}(hl:Ms V.toVal l v):∃V':Vo,Op V A V' (opened A l).2/\G PK O0 V' (opened A l).2 E Y/\Ms V'.toVal (opened A l).1 v:=by
 obtain⟨V',h1,h2,h3,h4,h5⟩:=Wi h hl;exact⟨V',⟨h1,h2,h3,rfl,rfl,rfl,rfl⟩,h4,h5⟩
theorem aa4(h:G PK O0 V A E Y){s:Sh}{v:AV}(hm:M V.toVal s v):∃V':Vo,Op V A V' (aa3 A s).2/\G PK O0 V' (aa3 A s).2 E Y/\M V'.toVal (aa3 A s).1 v:=by
 have one:∀s:Sh,M V.toVal s v->∃V':Vo,Op V A V' (if s.one then(match opened A [s]with|([t],A)=>(t,A)|_=>(s,A))else(s,A)).2/\G PK O0 V' (if s.one then(match opened A [s]with|([t],A)=>(t,A)|_=>(s,A))else(s,A)).2 E Y/\M V'.toVal (if s.one then(match opened A [s]with|([t],A)=>(t,A)|_=>(s,A))else(s,A)).1 v:=by
  intro s hm;cases ho:s.one with
  |false=>exact⟨V,.refl,h,hm⟩
  |true=>
   simp only[if_true];obtain⟨V',h1,h2,h3⟩:=CP h (Ms.one s [] v [] ho hm .nil);revert h1 h2 h3;generalize opened A [s]=q;obtain⟨t,A'⟩:=q;intro h1 h2 h3;rcases t with _|⟨t,_|⟨t',l⟩⟩
   ·exact⟨V,.refl,h,hm⟩
   ·exact⟨V',h1,h2,Ms.single h3⟩
   ·exact⟨V,.refl,h,hm⟩
 cases s with
 |agg l=>
  obtain⟨w,rfl,hw⟩:=agJ hm;obtain⟨V',h1,h2,h3⟩:=CP h hw;exact⟨V',h1,h2,.agg _ _ h3⟩
 |jv=>
  obtain⟨w,rfl,hw⟩:=anW hm;obtain⟨V',h1,h2,h3⟩:=CP h hw;exact⟨V',h1,h2,JA h3⟩
 |_=>exact one _ hm
theorem CO:∀{l:List Sh} {w:LA} {V:Vo} {A:Ab},G PK O0 V A E Y->Mt V.toVal l w->∃V':Vo,Op V A V' (CJ A l).2/\G PK O0 V' (CJ A l).2 E Y/\Mt V'.toVal (CJ A l).1 w
 |[],_,V,A,h,.nil=>⟨V,.refl,h,.nil⟩
 |s::l,_,V,A,h,.cons _ _ v b h1 h2=>by
  obtain⟨V1,o1,g1,m1⟩:=aa4 h h1;obtain⟨V2,o2,g2,m2⟩:=CO g1 (Mt.mono o1.le h2);exact⟨V2,o1.trans o2,g2,.cons _ _ _ _ (m1.mono o2.le) m2⟩
theorem TE(h:G PK O0 V A E Y){s:Sh}{v:AV}(hm:M V.toVal s v):∃V':Vo,Op V A V' (Au A s).2/\G PK O0 V' (Au A s).2 E Y/\M V'.toVal (Au A s).1 v:=by
 cases s with
 |tup l=>
  obtain⟨w,rfl,hw⟩:=agP hm;obtain⟨V',h1,h2,h3⟩:=CO h hw;exact⟨V',h1,h2,.tup _ _ h3⟩
 |_=>exact aa4 h hm
theorem aeW{O:St}{r:LA->Option (LA×List Nat)}{v:AV}{o f:Nat}{fs:List Nat}(h:aU O r v=some (.ref o f,fs)):v=.ref o f:=by
 cases v<;>simp only[aU]at h<;>(first|(cases h;done)|skip)
 all_goals (repeat' split at h)<;>cases h
 all_goals rfl
theorem Zz{O O1:St}{azs as':LA}{o f:Nat}(h:hand false azs O=some (.ref o f::as',O1)):∃bs,azs=.ref o f::bs:=by
 have h:(match bZ O 12 azs with|some (l,fs)=>some (l,freeze O fs)|none=>none)=some (.ref o f::as',O1):=h
 rw[show bZ O 12 azs=aJ O (bZ O 11) azs from rfl]at h;cases azs with
 |nil=>cases h
 |cons a bs=>
  cases h1:aU O (bZ O 11) a with
  |none=>unfold aJ at h;rw[h1]at h;cases h
  |some p=>
   obtain⟨v,fs⟩:=p;cases h2:aJ O (bZ O 11) bs with
   |none=>unfold aJ at h;rw[h1,h2]at h;cases h
   |some q=>
    unfold aJ at h;rw[h1,h2]at h;cases h;exact⟨bs,by rw[aeW h1]⟩
theorem G.pk_new (h:G PK O0 V A E Y) {L:St} {o:Nat} {ms:List Nat} (hok:Ok (Y++L)) (hr:∀i∈o::ms,Y.length<=i/\i<(Y++L).length) (hp:PK.ok (Y++L) o ms):
  ∃V':Vo,Ch V A Y V' (A.push .pk) (Y++L)/\G PK O0 V' (A.push .pk) E (Y++L)/\M V'.toVal (.pk A.heap.length) (.ref o 0):=by
 have hle:V.toVal.le (⟨⟨V.ν,V.ρ++[some o]⟩,V.own++[o::ms]⟩:Vo).toVal:=⟨fun i a ha=>ha,fun i a ha=>by
  show(V.ρ++[some o])[i]?=some a;rw[List.getElem?_append_left (List.getElem?_eq_some_iff.mp ha).1];exact ha⟩
 have hρ:(V.ρ++[some o])[A.heap.length]?=some (some o):=by rw[<-h.lρ];simp
 have hown:(V.own++[o::ms])[A.heap.length]?=some (o::ms):=by rw[<-h.lo];simp
 have hoo:∀(k:Nat) a,(V.own++[o::ms])[k]?=some a->V.own[k]?=some a\/k=A.heap.length/\a=o::ms:=fun k a ha=>by
  rw[List.getElem?_append]at ha;split at ha
  ·exact .inl ha
  ·rename_i hk;right;have:=(List.getElem?_eq_some_iff.mp ha).1;simp at this;have hk0:k-V.own.length=0:=by omega
   rw[hk0]at ha;simp at ha;exact⟨by rw[<-h.lo];omega,ha.symm⟩
 have hold:∀(i:Nat),i<Y.length->(Y++L)[i]?=Y[i]?:=fun i hi=>List.getElem?_append_left hi;have hlen:Y.length<=(Y++L).length:=by simp
 refine⟨⟨⟨V.ν,V.ρ++[some o]⟩,V.own++[o::ms]⟩,⟨hle,fun _ hk=>hk,rfl,rfl,fun k l hk _=>?_⟩,⟨fun t s ht=>(h.env t s ht).mono hle,h.lν,by simp[h.lρ,Ab.push],by simp[h.lo,Ab.push],h.zero,fun f hf=>(h.facts f hf).mono hle,fun k z hk=>?_,fun k k' a b hkk ha hb i hi hi'=>?_,fun k a ha i hi=>?_,fun k o' hk=>?_,?_,hok⟩,.pk _ _ hρ⟩
 ·have hlt:k<A.heap.length:=(List.getElem?_eq_some_iff.mp hk).1;refine⟨?_,?_,fun _ o' _ ho'=>hold o' (h.rng k _ ho' o' (by simp)).2⟩
  ·show(A.heap++[.pk])[k]?=_;rw[List.getElem?_append_left hlt];exact hk
  ·show(V.own++[o::ms])[k]?=_;rw[List.getElem?_append_left (by rw[h.lo];exact hlt)]
 ·have hk:(A.heap++[.pk])[k]?=some z:=hk;rw[List.getElem?_append]at hk;split at hk
  ·rename_i hlt;refine HM.mono (V:=V) (Y:=Y) hle ?_ (fun a ha i hi=>hold i (h.rng k a ha i hi).2) (fun i hi _=>hold i (Nat.lt_of_lt_of_le hi h.len)) (h.heap k z hk);show(V.own++[o::ms])[k]?=_;rw[List.getElem?_append_left (by rw[h.lo];exact hlt)]
  ·rename_i hge;have:=(List.getElem?_eq_some_iff.mp hk).1;simp at this;have hk0:k=A.heap.length:=by omega
   subst hk0;simp at hk;subst hk;exact⟨o,ms,hρ,hown,hp⟩
 ·rcases hoo k a ha with ha|⟨rfl,rfl⟩<;>rcases hoo k' b hb with hb|⟨rfl,rfl⟩
  ·exact h.dis k k' a b hkk ha hb i hi hi'
  ·exact absurd (h.rng k a ha _ hi).2 (by have:=(hr i hi').1;omega)
  ·exact absurd (h.rng k' b hb _ hi').2 (by have:=(hr i hi).1;omega)
  ·exact hkk rfl
 ·rcases hoo k a ha with ha|⟨rfl,rfl⟩
  ·have:=h.rng k a ha i hi;exact⟨this.1,by omega⟩
  ·have:=h.len;have:=hr i hi;exact⟨.inl (by omega),by omega⟩
 ·have hk:(V.ρ++[some o])[k]?=some (some o'):=hk;rw[List.getElem?_append]at hk;split at hk
  ·have:=h.ρl k o' hk;omega
  ·have:=(List.getElem?_eq_some_iff.mp hk).1;simp at this;have hk0:k-V.ρ.length=0:=by omega
   rw[hk0]at hk;simp at hk;subst hk;exact(hr o (by simp)).2
 ·exact⟨by have:=h.len;omega,fun i hi hw=>by rw[hold i (Nat.lt_of_lt_of_le hi h.len)];exact h.base.2 i hi hw⟩
theorem G.pk_upd (h:G PK O0 V A E Y) {k o:Nat} {ms:List Nat} {Y':St} (hh:A.heap[k]?=some .pk) (ho:V.ρ[k]?=some (some o)) (hw:V.own[k]?=some (o::ms)) (hok:Ok Y') (hl:Y'.length=Y.length) (hr:∀i,i∉o::ms->Y'[i]?=Y[i]?) (hp:PK.ok Y' o ms):
  Ch V A Y V {A with wr:=k::A.wr} Y'/\G PK O0 V {A with wr:=k::A.wr} E Y':=by
 have hge:∀i∈o::ms,i<O0.length->i∉O0.w->False:=fun i hi h1 h2=>by
  rcases(h.rng k _ hw i hi).1 with h3|h3
  ·omega
  ·exact h2 h3
 refine⟨⟨.rfl,fun j hj=>by simp[hj],rfl,rfl,fun j x hj hjw=>⟨hj,rfl,fun l o' hx ho'=>hr o' fun hm=>?_⟩⟩,⟨h.env,h.lν,h.lρ,h.lo,h.zero,h.facts,fun j z hj=>?_,h.dis,fun j a ha i hi=>by rw[hl];exact h.rng j a ha i hi,fun j o' hj=>by rw[hl];exact h.ρl j o' hj,?_,hok⟩⟩
 ·by_cases hkj:k=j
  ·subst hkj;rw[hh]at hj;cases hj;cases hx
  ·exact h.dis k j _ _ hkj hw ho' o' hm (by simp)
 ·by_cases hkj:k=j
  ·subst hkj;rw[hh]at hj;cases hj;exact⟨o,ms,ho,hw,hp⟩
  ·refine HM.mono (V:=V) (Y:=Y) .rfl rfl (fun a ha i hi=>hr i fun hm=>h.dis k j _ _ hkj hw ha i hm hi) (fun i hi hw'=>hr i fun hm=>hge i hm hi hw') (h.heap j z hj)
 ·exact⟨by rw[hl];exact h.len,fun i hi hw'=>by rw[hr i fun hm=>hge i hm hi hw'];exact h.base.2 i hi hw'⟩
theorem MH{F:Frm}:∀{m:List Bool} {H:List HO} {k0:Nat} {V:Vo} {A:Ab},G PK F V A E Y->(∀(j:Nat) h,H[j]?=some h->HM PK V F Y (k0+j) h)->∃V':Vo,Op V A V' (gm A m H).2/\G PK F V' (gm A m H).2 E Y/\(gm A m H).1.length=H.length/\∀(j:Nat) h,(gm A m H).1[j]?=some h->HM PK V' F Y (k0+j) h
 |m,[],k0,V,A,g,_=>by
  have he:gm A m []=([],A):=by cases m<;>simp[gm]
  rw[he];exact⟨V,.refl,g,rfl,fun j h hj=>by simp at hj⟩
 |[],x::H,k0,V,A,g,hH=>by
  have he:gm A [] (x::H)=(x::H,A):=by simp[gm]
  rw[he];exact⟨V,.refl,g,rfl,hH⟩
 |b::m,x::H,k0,V,A,g,hH=>by
  have hx:=hH 0 x rfl;have hrest:∀(j:Nat) h,H[j]?=some h->HM PK V F Y (k0+1+j) h:=fun j h hj=>by
   have:=hH (j+1) h (by simpa using hj)
   rwa[show k0+(j+1)=k0+1+j by omega]at this
  have keep:gm A (b::m) (x::H)=(x::(gm A m H).1,(gm A m H).2)->∃V':Vo,Op V A V' (gm A (b::m) (x::H)).2/\G PK F V' (gm A (b::m) (x::H)).2 E Y/\(gm A (b::m) (x::H)).1.length=(x::H).length/\∀(j:Nat) h,(gm A (b::m) (x::H)).1[j]?=some h->HM PK V' F Y (k0+j) h:=fun he=>by
   obtain⟨V',o1,g1,l1,m1⟩:=MH (m:=m) (k0:=k0+1) g hrest;rw[he];refine⟨V',o1,g1,by simp[l1],fun j h hj=>?_⟩
   cases j with
   |zero=>
    simp at hj;subst hj;exact HM.mono (V:=V) (Y:=Y) o1.le (by rw[o1.own]) (fun _ _ _ _=>rfl) (fun _ _ _=>rfl) hx
   |succ j=>
    have:=m1 j h (by simpa using hj)
    rwa[show k0+1+j=k0+(j+1) by omega]at this
  cases b with
  |false=>exact keep (by simp[gm])
  |true=>
   cases x with
   |cells l=>
    obtain⟨o,cs,q1,q2,q3,q4⟩:=hx;obtain⟨V1,o1,g1,m1⟩:=CP g q4;obtain⟨V2,o2,g2,l2,m2⟩:=MH (m:=m) (k0:=k0+1) g1 (fun j h hj=>HM.mono (V:=V) (Y:=Y) o1.le (by rw[o1.own]) (fun _ _ _ _=>rfl) (fun _ _ _=>rfl) (hrest j h hj))
    refine⟨V2,o1.trans o2,g2,by simp[gm,l2],fun j h hj=>?_⟩
    cases j with
    |zero=>
     simp only[gm,List.getElem?_cons_zero,Option.some.injEq]at hj;subst hj;exact⟨o,cs,o2.le.ρ _ _ (o1.le.ρ _ _ q1),by rw[o2.own,o1.own];exact q2,q3,m1.mono o2.le⟩
    |succ j=>
     have:=m2 j h (by simpa[gm]using hj)
     rwa[show k0+1+j=k0+(j+1) by omega]at this
   |ro l=>exact keep rfl
   |arr a e=>exact keep rfl
   |arrm a e=>exact keep rfl
   |map v=>exact keep rfl
   |pk=>exact keep rfl
   |dead=>exact keep rfl
theorem JB:∀{m:List Bool} {H:List HO} {A:Ab} {k:Nat},m[k]?≠some true->(gm A m H).1[k]?=H[k]?
 |m,[],A,k,_=>by cases m<;>simp[gm]
 |[],x::H,A,k,_=>by simp[gm]
 |b::m,x::H,A,0,h=>by
  cases b with
  |true=>simp at h
  |false=>simp[gm]
 |b::m,x::H,A,k+1,h=>by
  cases b with
  |false=>simp only[gm,List.getElem?_cons_succ];exact JB h
  |true=>
   cases x<;>(simp only[gm,List.getElem?_cons_succ];exact JB h)
theorem G.heapset{F:Frm}(h:G PK F V A E Y){H:List HO}(hl:H.length=A.heap.length)(hH:∀(k:Nat) x,H[k]?=some x->HM PK V F Y k x):G PK F V {A with heap:=H} E Y:=
 ⟨h.env,h.lν,by rw[hl];exact h.lρ,by rw[hl];exact h.lo,h.zero,h.facts,hH,h.dis,h.rng,h.ρl,h.base,h.ok⟩
theorem FW:∀(H l:List HO),(wV H l).length=l.length
 |[],l=>rfl
 |h::H,[]=>rfl
 |h::H,x::l=>by simp[wV,FW H l]
theorem Yf:∀{H l:List HO} {k:Nat} {z:HO},(wV H l)[k]?=some z->(∃h,H[k]?=some h/\fZ h=false/\z=h)\/(l[k]?=some z/\∀h,H[k]?=some h->fZ h=true)
 |[],l,k,z,hz=>.inr ⟨hz,fun h hh=>by simp at hh⟩
 |h::H,[],k,z,hz=>by simp[wV]at hz
 |h::H,x::l,0,z,hz=>by
  simp only[wV,List.getElem?_cons_zero,Option.some.injEq]at hz;cases hd:fZ h with
  |true=>rw[hd]at hz;exact .inr ⟨by simpa using hz,fun h' hh=>by simp at hh;rw[<-hh];exact hd⟩
  |false=>rw[hd]at hz;exact .inl ⟨h,rfl,hd,by simpa using hz.symm⟩
 |h::H,x::l,k+1,z,hz=>by
  simp only[wV,List.getElem?_cons_succ]at hz;have:=Yf hz;simpa using this
theorem XQ:∀{H:List HO} {j k:Nat} {h:HO},H[k]?=some h->fZ h=false->j+k∈ixs j H
 |[],_,_,_,hh,_=>by simp at hh
 |h0::H,j,0,h,hh,hd=>by
  simp at hh;subst hh;simp[ixs,hd]
 |h0::H,j,k+1,h,hh,hd=>by
  have:=XQ (j:=j+1) (by simpa using hh) hd
  rw[show j+1+k=j+(k+1) by omega]at this
  simp only[ixs];split
  ·exact this
  ·exact List.mem_cons_of_mem _ this
theorem HM.into{V W:Vo}{F:Frm}(hle:W.toVal.le V.toVal){k:Nat}(ho:V.own[k]?=W.own[k]?){Y:St}{x:HO}(h:HM PK W F Y k x):HM PK V F Y k x:=HM.mono hle ho (fun _ _ _ _=>rfl) (fun _ _ _=>rfl) h
theorem G.chg_upd (h:G PK O0 V A E Y) {H:List HO} {W:Vo} (hs:H.length<=A.heap.length) (hν:W.ν=νθ V.toVal [(0,0)]) (hρ:W.ρ=ρθ V.toVal (List.range H.length)) (hown:W.own=UT V (List.range H.length) H) {Y':St} (hok:Ok Y') (hl:Y'.length=Y.length) (hr:∀i,(∀(k:Nat) a,W.own[k]?=some a->i∉a)->Y'[i]?=Y[i]?) (hh:∀(k:Nat) h,H[k]?=some h->HM PK W O0 Y' k h):
  W.toVal.le V.toVal/\Ch V A Y V {A with heap:=wV H A.heap,wr:=ixs 0 H++A.wr} Y'/\G PK O0 V {A with heap:=wV H A.heap,wr:=ixs 0 H++A.wr} E Y':=by
 have hrl:(List.range H.length).length=H.length:=by simp
 have hW:∀(k:Nat) a,W.own[k]?=some a->a=[]\/V.own[k]?=some a/\∃x,H[k]?=some x/\fZ x=false:=fun k a ha=>by
  rw[hown]at ha;have hk:k<H.length:=by
   have:=(List.getElem?_eq_some_iff.mp ha).1;rwa[ML hrl]at this
  rw[MK (List.getElem?_range hk) (List.getElem?_eq_getElem hk)]at ha;cases hd:fZ H[k]with
  |true=>rw[hd]at ha;cases ha;exact .inl rfl
  |false=>
   rw[hd]at ha;simp only[Bool.false_eq_true,if_false,Option.some.injEq]at ha;cases hv:V.own[k]? with
   |none=>rw[hv]at ha;exact .inl ha.symm
   |some b=>rw[hv]at ha;cases ha;exact .inr ⟨rfl,_,List.getElem?_eq_getElem hk,hd⟩
 have hWo:∀(k:Nat) x,H[k]?=some x->fZ x=false->k<V.own.length->V.own[k]?=W.own[k]?:=fun k x hx hd hk=>by
  have hk':=(List.getElem?_eq_some_iff.mp hx).1;rw[hown,MK (List.getElem?_range hk') hx,hd,List.getElem?_eq_getElem hk];rfl
 have hle:W.toVal.le V.toVal:=by
  refine⟨fun i a ha=>?_,fun i a ha=>?_⟩
  ·rw[hν]at ha;cases i with
   |zero=>
    simp only[νθ,List.map_cons,List.map_nil,List.getElem?_cons_zero,Option.some.injEq]at ha;rw[h.zero]at ha⊢;simp at ha;rw[ha]
   |succ i=>simp[νθ]at ha
  ·rw[hρ]at ha;have hi:i<H.length:=by
    have:=(List.getElem?_eq_some_iff.mp ha).1;simpa[ρθ]using this
   unfold ρθ at ha;rw[List.getElem?_map,List.getElem?_range hi]at ha;have ha:some (V.ρ[i]?).join=some a:=ha;have hiV:i<V.ρ.length:=by
    rw[h.lρ];omega
   rw[List.getElem?_eq_getElem hiV]at ha⊢;simpa using ha
 have hun:∀(k:Nat) a,V.own[k]?=some a->(∀x,H[k]?=some x->fZ x=true)->∀i∈a,Y'[i]?=Y[i]?:=fun k a ha hd i hi=>hr i fun k' b hb hib=>by
  rcases hW k' b hb with rfl|⟨hb',x,hx,hxd⟩
  ·simp at hib
  ·by_cases hkk:k=k'
   ·subst hkk;rw[hd x hx]at hxd;cases hxd
   ·exact h.dis k k' a b hkk ha hb' i hi hib
 have hfr:∀i,i<O0.length->i∉O0.w->Y'[i]?=Y[i]?:=fun i hi hiw=>hr i fun k' b hb hib=>by
  rcases hW k' b hb with rfl|⟨hb',x,hx,hxd⟩
  ·simp at hib
  ·rcases(h.rng k' b hb' i hib).1 with h1|h1
   ·omega
   ·exact hiw h1
 refine⟨hle,⟨.rfl,fun k hk=>List.mem_append_right _ hk,rfl,rfl,fun k x hk hkw=>?_⟩,⟨h.env,h.lν,by simp[FW,h.lρ],by simp[FW,h.lo],h.zero,h.facts,fun k z hk=>?_,h.dis,fun k a ha i hi=>by rw[hl];exact h.rng k a ha i hi,fun k o ho=>by rw[hl];exact h.ρl k o ho,⟨by rw[hl];exact h.len,fun i hi hiw=>by rw[hfr i hi hiw];exact h.base.2 i hi hiw⟩,hok⟩⟩
 ·have hdead:∀y,H[k]?=some y->fZ y=true:=fun y hy=>by
   cases hd:fZ y with
   |true=>rfl
   |false=>exact absurd (List.mem_append_left _ (by have:=XQ (j:=0) hy hd;rwa[Nat.zero_add]at this)) hkw
  refine⟨?_,rfl,fun l o hx ho=>hun k _ ho hdead o (by simp)⟩
  cases hz:(wV H A.heap)[k]? with
  |none=>
   have:=List.getElem?_eq_none_iff.mp hz;rw[FW]at this;have:=(List.getElem?_eq_some_iff.mp hk).1;omega
  |some z=>
   rcases Yf hz with⟨y,hy,hyd,rfl⟩|⟨hy,_⟩
   ·rw[hdead _ hy]at hyd;cases hyd
   ·exact hy.symm.trans hk|>.symm▸rfl
 ·have hk:(wV H A.heap)[k]?=some z:=hk;have hklt:k<V.own.length:=by
   rw[h.lo,<-FW H A.heap];exact(List.getElem?_eq_some_iff.mp hk).1
  rcases Yf hk with⟨y,hy,hyd,rfl⟩|⟨hy,hdead⟩
  ·exact HM.into hle (hWo k _ hy hyd hklt) (hh k _ hy)
  ·exact HM.mono (V:=V) (Y:=Y) .rfl rfl (fun a ha i hi=>hun k a ha hdead i hi) hfr (h.heap k z hy)
theorem aiO(h:G PK O0 V A E Y){f:FuncId}{m:Sm}(hs:fC C PK f m){ss ss':List Sh}{azs:LA}(hm:Mt V.toVal ss azs)(hh:Es A.heap ss=some ss'){s:Sh}{A':Ab}(hu:UA A ss' m=some (s,A')):Res PK O0 V A E Y (ai C f azs Y) s A':=by
 obtain⟨as',Y1,e1,e2,g1,c1⟩:=ad7 h hm hh;have fin:∀{r:Option (AV×St)} {v:AV} {res:Sh},r=some (v,Y1)->M V0 res v->Res PK O0 V A E Y r (Au A res).1 (Au A res).2:=fun{r v res} hr hv=>by
  obtain⟨V',o1,o2,o3⟩:=TE g1 (hv.mono (U4 h.zero));exact⟨v,Y1,V',hr,c1.trans o1.ch,o2,o3⟩
 cases m with
 |pure args res=>
  simp only[UA]at hu;split at hu
  ·rename_i hsub;obtain⟨v,hv,hmv⟩:=hs Y azs as' Y1 h.ok e1 g1.ok (Nk (Sb.into h.zero h.facts) e2 hsub);have:=fin hv hmv;cases hq:Au A res;rw[hq]at hu this;cases hu;exact this
  ·cases hu
 |ro l args res=>
  simp only[UA]at hu;split at hu
  ·rename_i k ss2;obtain⟨v',as2,rfl⟩:∃v' as2,as'=v'::as2:=by cases e2;exact⟨_,_,rfl⟩
   cases e2 with
   |cons _ _ _ _ m1 m2=>
    obtain⟨o,ho,rfl⟩:=L6 m1;obtain⟨bs,rfl⟩:=Zz e1;have key:∀(l':List Sh) (cs:LA) (fz:Fz),Y1[o]?=some (.cells cs fz)->Ms V.toVal l' cs->(if subs A.facts [] [] l l'&&JQ A.facts [] [] args ss2 then some (Au A res)else none)=some (s,A')->Res PK O0 V A E Y (ai C f (.ref o 0::bs) Y) s A':=by
     intro l' cs fz hcs hms hu;split at hu
     ·rename_i hsub;rw[Bool.and_eq_true]at hsub;obtain⟨v,hv,hmv⟩:=hs Y o bs as2 Y1 cs fz h.ok e1 g1.ok hcs (zA (Sb.into h.zero h.facts) hms hsub.1) (Nk (Sb.into h.zero h.facts) m2 hsub.2);have:=fin hv hmv;cases hq:Au A res;rw[hq]at hu this;cases hu;exact this
     ·cases hu
    split at hu
    ·rename_i l' hl';obtain⟨o',cs,fz,h1,h2,h3,h4,h5⟩:=g1.heap _ _ hl';rw[ho]at h1;cases h1;exact key l' cs fz h4 h5 hu
    ·rename_i l' hl';obtain⟨o',cs,h1,h2,h4,h5⟩:=g1.heap _ _ hl';rw[ho]at h1;cases h1;exact key l' cs _ h4 h5 hu
    ·cases hu
  ·cases hu
 |pof args=>
  simp only[UA]at hu;split at hu
  ·rename_i hsub;cases hu;obtain⟨L,o,ms,hv,hok,hr,hp⟩:=hs Y azs as' Y1 h.ok e1 g1.ok (Nk (Sb.into h.zero h.facts) e2 hsub);obtain⟨V',o1,o2,o3⟩:=g1.pk_new hok hr hp;exact⟨_,_,V',hv,c1.trans o1,o2,o3⟩
  ·cases hu
 |pk args res=>
  simp only[UA]at hu;split at hu
  ·rename_i k ss2;split at hu
   ·rename_i hsub;obtain⟨v',as2,rfl⟩:∃v' as2,as'=v'::as2:=by cases e2;exact⟨_,_,rfl⟩
    cases e2 with
    |cons _ _ _ _ m1 m2=>
     simp only[Bool.and_eq_true]at hsub;obtain⟨o,ho,rfl⟩:=anX m1;obtain⟨bs,rfl⟩:=Zz e1;have hpk:A.heap[k]?=some .pk:=by
      cases hq:A.heap[k]? with
      |none=>rw[hq]at hsub;cases hsub.1
      |some y=>rw[hq]at hsub;cases y<;>first|rfl|cases hsub.1
     obtain⟨o',ms,h1,h2,h3⟩:=g1.heap _ _ hpk;rw[ho]at h1;cases h1;obtain⟨v,Y2,hv,hmv,hok,hlen,hr,hp⟩:=hs Y o ms bs as2 Y1 h.ok e1 g1.ok h3 (Nk (Sb.into h.zero h.facts) m2 hsub.2);obtain⟨c2,g2⟩:=g1.pk_upd hpk ho h2 hok hlen hr hp;obtain⟨V',o1,o2,o3⟩:=TE g2 (hmv.mono (U4 h.zero));cases hq:Au {A with wr:=k::A.wr} res
     rw[hq]at hu o1 o2 o3;cases hu;exact⟨v,Y2,V',hv,c1.trans (c2.trans o1.ch),o2,o3⟩
   ·cases hu
  ·cases hu
 |chg H args res=>
  simp only[UA]at hu;split at hu
  ·rename_i hsub;simp only[Bool.and_eq_true,decide_eq_true_eq]at hsub;obtain⟨W,gW,w1,w2,w3,_⟩:=BH g1 hsub.1.2;have hsb:Sb A.facts [] (List.range H.length) V.toVal W.toVal:=⟨h.zero,h.facts,fun j i c ho=>by simp[vN]at ho,fun k k' o ho hk'=>by
    cases hp:(List.range H.length)[k]? with
    |none=>rw[hp]at ho;cases ho
    |some q=>
     rw[hp]at ho;simp only[eqO,beq_iff_eq]at ho;subst ho;rw[w2];unfold ρθ;rw[List.getElem?_map,hp];show some (V.ρ[q]?).join=_;rw[hk'];rfl⟩
   obtain⟨v,Y2,hv,hmv,hok,hlen,hr,hp⟩:=hs Y azs as' Y1 h.ok e1 g1.ok O0 W E gW (Nk hsb e2 hsub.2);obtain⟨_,c2,g2⟩:=g1.chg_upd hsub.1.1 w1 w2 w3 hok hlen hr hp;obtain⟨V1,o1,g3,l3,m3⟩:=MH (m:=H.map fun h=>!fZ h) (k0:=0) g2 (H:=wV H A.heap) (fun j x hj=>by rw[Nat.zero_add];exact g2.heap j x hj)
   have g4:=g3.heapset (H:=(gm {A with heap:=wV H A.heap,wr:=ixs 0 H++A.wr} (H.map fun h=>!fZ h) (wV H A.heap)).1) (by rw[l3,o1.heap]) (fun k x hk=>by have:=m3 k x hk;rwa[Nat.zero_add]at this)
   have c3:Ch V {A with heap:=wV H A.heap,wr:=ixs 0 H++A.wr} Y2 V1 {(gm {A with heap:=wV H A.heap,wr:=ixs 0 H++A.wr} (H.map fun h=>!fZ h) (wV H A.heap)).2 with heap:=(gm {A with heap:=wV H A.heap,wr:=ixs 0 H++A.wr} (H.map fun h=>!fZ h) (wV H A.heap)).1} Y2:=by
    refine⟨o1.le,fun k hk=>by show k∈(gm _ _ _).2.wr;rw[o1.wr];exact hk,o1.ls,o1.env,fun k x hk hw=>⟨?_,by rw[o1.own],fun _ _ _ _=>rfl⟩⟩
    have hw:k∉(gm {A with heap:=wV H A.heap,wr:=ixs 0 H++A.wr} (H.map fun h=>!fZ h) (wV H A.heap)).2.wr:=hw;rw[o1.wr]at hw;refine(JB fun hm=>hw ?_).trans hk;rw[List.getElem?_map]at hm;cases hy:H[k]? with
    |none=>rw[hy]at hm;cases hm
    |some y=>
     rw[hy]at hm;simp only[Option.map_some,Option.some.injEq,Bool.not_eq_true']at hm;exact List.mem_append_left _ (by have:=XQ (j:=0) hy hm;rwa[Nat.zero_add]at this)
   obtain⟨V',o4,o5,o6⟩:=TE g4 ((hmv.mono (U4 h.zero)).mono o1.le);cases hq:Au {(gm {A with heap:=wV H A.heap,wr:=ixs 0 H++A.wr} (H.map fun h=>!fZ h) (wV H A.heap)).2 with heap:=(gm {A with heap:=wV H A.heap,wr:=ixs 0 H++A.wr} (H.map fun h=>!fZ h) (wV H A.heap)).1} res
   rw[hq]at hu o4 o5 o6;cases hu;exact⟨v,Y2,V',hv,c1.trans (c2.trans (c3.trans o4.ch)),o5,o6⟩
  ·cases hu
def Io(C:Ctx)(X:Cfg)(PK:PkI):Prop:=∀f m,m∈X.sm f->fC C PK f m
theorem WP(h:G PK O0 V A E Y){f:FuncId}{ss ss':List Sh}{azs:LA}(hm:Mt V.toVal ss azs)(hh:Es A.heap ss=some ss'){s:Sh}{A':Ab}:∀(l:List Sm),(∀m∈l,fC C PK f m)->YG A ss' l=some (s,A')->Res PK O0 V A E Y (ai C f azs Y) s A'
 |[],_,hu=>by cases hu
 |m::l,hs,hu=>by
  unfold YG at hu;split at hu
  ·rename_i r hr;cases hu;exact aiO h (hs m (by simp)) hm hh hr
  ·exact WP h hm hh l (fun m hm=>hs m (by simp[hm])) hu
theorem Y7(hs:Io C X PK):AC C X PK O0:=fun V A E Y f ss azs s A' h hm hc=>by
 unfold QM at hc;split at hc
 ·rename_i ss' hh;exact WP h hm hh _ (hs f) hc
 ·cases hc
end
section
variable{C:Ctx}{X:Cfg}{PK:PkI}{O0:Frm}{V:Vo}{A:Ab}{E:As}{Y:St}
theorem VQ(h:G PK O0 V A E Y){c:XA}{b:Bool}(hb:avA C E c=.bool b):G PK O0 V (ways.kn c A b) E Y:=by
 cases c with
 |t n=>
  refine h.envle fun t s ht=>?_;simp only[la]at ht;split at ht
  ·rename_i hn;cases ht;subst hn;have:look E n=.bool b:=hb;rw[this];exact .bc b
  ·exact h.env t s ht
 |c v=>exact h
 |g n=>exact h
structure Same(A A':Ab):Prop where
 nx:A'.nx=A.nx
 heap:A'.heap=A.heap
 wr:A'.wr=A.wr
 ls:A'.ls=A.ls
theorem Same.facts(A:Ab)(fs:Fs):Same A {A with facts:=fs}:=⟨rfl,rfl,rfl,rfl⟩
theorem Same.kn{A B:Ab}(h:Same A B)(c:XA)(b:Bool):Same A (ways.kn c B b):=by
 cases c<;>exact⟨h.nx,h.heap,h.wr,h.ls⟩
theorem YH(hg:BI C X)(h:G PK O0 V A E Y){c:XA}{ws:List (Bool×Ab)}(hw:ways X A c=some ws):∃b A',(b,A')∈ws/\avA C E c=.bool b/\G PK O0 V A' E Y/\Same A A':=by
 unfold ways at hw;split at hw
 ·rename_i b hb;cases hw;exact⟨b,A,by simp,anV (aQ hg h hb),h,⟨rfl,rfl,rfl,rfl⟩⟩
 ·rename_i hb;cases hw;have hm:=aQ hg h hb;obtain⟨b,he⟩:∃b,avA C E c=.bool b:=by
   revert hm;generalize avA C E c=v;intro hm;cases hm;exact⟨_,rfl⟩
  refine⟨b,ways.kn c A b,?_,he,VQ h he,Same.kn ⟨rfl,rfl,rfl,rfl⟩ c b⟩;cases b<;>simp
 ·rename_i x c' y hb;cases hw;have hm:=aQ hg h hb;obtain⟨p,q,hp,hq,he⟩:∃p q:Nat,V.ν[x]?=some p/\V.ν[y]?=some q/\avA C E c=.bool (decide ((p:Int)+c'<=q)):=by
   revert hm;generalize avA C E c=v;intro hm;cases hm with|tst _ _ _ p q e f=>exact⟨p,q,e,f,rfl⟩
  by_cases hh:(p:Int)+c'<=q
  ·rw[decide_eq_true hh]at he;have h1:=h.fact (f:=(x,c',y)) ⟨p,q,hp,hq,hh⟩;exact⟨true,_,by simp,he,VQ h1 he,Same.kn (Same.facts A _) c true⟩
  ·rw[decide_eq_false hh]at he;have h1:=h.fact (f:=(y,1-c',x)) ⟨q,p,hq,hp,by simp only;omega⟩
   exact⟨false,_,by simp,he,VQ h1 he,Same.kn (Same.facts A _) c false⟩
 ·rename_i pp x c' y hb;cases hw;have hm:=aQ hg h hb;obtain⟨p,q,hp,hq,he⟩:∃p q:Nat,V.ν[x]?=some p/\V.ν[y]?=some q/\avA C E c=.bool (decide ((p:Int)+c'=q)==pp):=by
   revert hm;generalize avA C E c=v;intro hm;cases hm with|teq _ _ _ _ p q e f=>exact⟨p,q,e,f,rfl⟩
  by_cases hh:(p:Int)+c'=q
  ·rw[decide_eq_true hh,show(true==pp)=pp by cases pp<;>rfl]at he
   have h1:=(h.fact (f:=(y,-c',x)) ⟨q,p,hq,hp,by simp only;omega⟩).fact (f:=(x,c',y)) ⟨p,q,hp,hq,by simp only;omega⟩
   exact⟨pp,_,by simp,he,VQ h1 he,Same.kn (Same.facts A _) c pp⟩
  ·rw[decide_eq_false hh,show(false==pp)= !pp by cases pp<;>rfl]at he
   refine⟨!pp,_,List.mem_cons_of_mem _ List.mem_cons_self,he,?_,?_⟩
   ·split
    ·rename_i hy;simp only[Bool.and_eq_true,beq_iff_eq]at hy;obtain⟨rfl,hy⟩:=hy;rw[h.zero]at hq;cases hq;have:=vJ h.zero h.facts hy h.zero hp;exact VQ (h.fact (f:=(0,1-c',x)) ⟨0,p,h.zero,hp,by simp only;omega⟩) he
    ·exact VQ h he
   ·split
    ·exact Same.kn (Same.facts A _) c _
    ·exact Same.kn ⟨rfl,rfl,rfl,rfl⟩ c _
 ·cases hw
theorem G.ptS(h:G PK O0 V A E Y){s:Sh}{v:AV}(hv:M V.toVal s v)(d:Option Nat):G PK O0 V (ptS A d s) (yg E d v) Y:=by
 cases d with
 |none=>exact h
 |some d=>exact h.put hv d
theorem G.sees(h:G PK O0 V A E Y)(k:List Nat):G PK O0 V (A.sees k) E Y:=⟨h.env,h.lν,h.lρ,h.lo,h.zero,h.facts,h.heap,h.dis,h.rng,h.ρl,h.base,h.ok⟩
structure Cr(V:Vo)(A:Ab)(Y:St)(V':Vo)(A':Ab)(Y':St):Prop where
 le:V.toVal.le V'.toVal
 wr:∀k∈A.wr,k∈A'.wr
 ls:∀k∈A.ls,k∈A'.ls
 c:∀k x,A.heap[k]?=some x->k∉A'.wr->A'.heap[k]?=some x/\V'.own[k]?=V.own[k]? /\∀l o,x=.cells l->V.own[k]?=some [o]->Y'[o]?=Y[o]?
theorem Cr.refl:Cr V A Y V A Y:=⟨.rfl,fun _ h=>h,fun _ h=>h,fun _ _ h _=>⟨h,rfl,fun _ _ _ _=>rfl⟩⟩
theorem Cr.trans{V' V'':Vo}{A' A'':Ab}{Y' Y'':St}(h:Cr V A Y V' A' Y')(k:Cr V' A' Y' V'' A'' Y''):Cr V A Y V'' A'' Y'':=by
 refine⟨h.le.trans k.le,fun q hq=>k.wr q (h.wr q hq),fun q hq=>k.ls q (h.ls q hq),fun q l hq hw=>?_⟩;obtain⟨h1,h2,h3⟩:=h.c q l hq (fun hn=>hw (k.wr q hn));obtain⟨k1,k2,k3⟩:=k.c q l h1 hw;exact⟨k1,k2.trans h2,fun l o hx ho=>(k3 l o hx (h2.trans ho)).trans (h3 l o hx ho)⟩
theorem Ch.cr{V':Vo}{A':Ab}{Y':St}(h:Ch V A Y V' A' Y'):Cr V A Y V' A' Y':=⟨h.le,h.wr,fun k hk=>by rw[h.ls];exact hk,h.c⟩
theorem Same.cr{A':Ab}(h:Same A A'):Cr V A Y V A' Y:=⟨.rfl,fun k hk=>by rw[h.wr];exact hk,fun k hk=>by rw[h.ls];exact hk,fun k l hk _=>⟨by rw[h.heap];exact hk,rfl,fun _ _ _ _=>rfl⟩⟩
theorem Cr.put{V':Vo}{A':Ab}{Y':St}(h:Cr V A Y V' A' Y')(d:Option Nat)(s:Sh):Cr V A Y V' (ptS A' d s) Y':=by
 cases d with
 |none=>exact h
 |some d=>exact⟨h.le,h.wr,h.ls,h.c⟩
theorem Cr.sees{V':Vo}{A':Ab}{Y':St}(h:Cr V A Y V' A' Y')(k:List Nat):Cr V A Y V' (A'.sees k) Y':=⟨h.le,h.wr,fun q hq=>List.mem_append_right _ (h.ls q hq),h.c⟩
mutual
theorem JI:∀v:AV,same v v=true
 |.bool b=>Hz b
 |.int k a=>F6 k a
 |.str s=>CW s
 |.nilp=>rfl
 |.ref a b=>by simp[same]
 |.eptr a=>by rw[same];exact o8 a
 |.nils=>rfl
 |.emp=>rfl
 |.sl n a=>by rw[same,o8 a];simp
 |.xsl n a=>by rw[same,o8 a];simp
 |.msl a b c d=>by simp[same]
 |.map a=>by simp[same]
 |.nilMap=>rfl
 |.func f a b=>by rw[same,o8 a,o8 b];simp
 |.nilFunc=>rfl
 |.iface t a=>by rw[same,JI a];simp
 |.nilIface=>rfl
 |.agg a=>by rw[same];exact o8 a
 |.tup a=>by rw[same];exact o8 a
theorem o8:∀l:LA,vS l l=true
 |[]=>rfl
 |a::l=>by rw[vS,JI a,o8 l];rfl
end
end
section
variable{C:Ctx}{X:Cfg}{PK:PkI}{O0:Frm}{V:Vo}{A:Ab}{E:As}{Y:St}
theorem acs (hg:BI C X) (hmt:J4 C X) (hcall:AC C X PK O0) (h:G PK O0 V A E Y) {n:Nat} {dr:Bool} {o:XOp} {A1:Ab} (ho:Xk X n dr o A=some A1):
  ∃v Y1 V1,opR (ai C) (aj C (avA C E) n Y o.i)=some (v,Y1)/\Cr V A Y V1 A1 Y1/\G PK O0 V1 A1 (yg E o.dst v) Y1/\(dr=true->o.loose≠[]->∃ks,xZ X A o.i=some ks/\∀k∈ks,k∈A1.ls):=by
 unfold Xk at ho;split at ho
 ·rename_i s A' hi;obtain⟨v,Y1,V1,e1,e2,e3,e4⟩:=aly hg hmt hcall h hi;split at ho
  ·split at ho
   ·rename_i ks hks;cases ho;exact⟨v,Y1,V1,e1,(e2.cr.sees ks).put _ _,(e3.sees ks).ptS e4 _,fun _ _=>⟨ks,hks,fun k hk=>by
     have:k∈(A'.sees ks).ls:=List.mem_append_left _ hk;cases o.dst<;>exact this⟩⟩
   ·cases ho
  ·rename_i hd;cases ho;refine⟨v,Y1,V1,e1,e2.cr.put _ _,e3.ptS e4 _,fun h1 h2=>?_⟩;subst h1;simp at hd;exact absurd hd h2
 ·cases ho
theorem look_ok(hg:BI C X)(h:G PK O0 V A E Y){n:Nat}{i:XI}{ks:List Nat}(hk:xZ X A i=some ks){v:AV}{Y1:St}(hr:opR (ai C) (aj C (avA C E) n Y i)=some (v,Y1)){z:St}(hz:∀k∈ks,∀o,V.ρ[k]?=some (some o)->z[o]?=Y[o]?):aj C (avA C E) n z i=some (.val v z):=by
 unfold xZ at hk;split at hk
 ·rename_i ag sz x;split at hk
  ·rename_i k off hx;cases hk;obtain⟨o,ho,he⟩:=L6 (aQ hg h hx);rw[aj.eq_7,he]at hr⊢;dsimp only at hr⊢;rw[hz k (by simp) o ho]
   split at hr
   ·rename_i l fz hl;cases hp:pt ag sz (l.drop off)with
    |none=>rw[hp]at hr;cases hr
    |some y=>rw[hp]at hr;cases hr;rfl
   ·cases hr
  ·rename_i off l hx;cases hk;obtain⟨w,r,he,_⟩:=XO (aQ hg h hx);rw[aj.eq_7,he]at hr⊢;dsimp only at hr⊢;cases hp:pt ag sz ((w++r).drop off)with
   |none=>rw[hp]at hr;cases hr
   |some y=>rw[hp]at hr;cases hr;rfl
  ·cases hk
 ·rename_i x;rw[qM]at hr⊢;have:bH z 0 (avA C E x)=bH Y 0 (avA C E x):=rfl;rw[this];split at hr
  ·cases hr;rfl
  ·cases hr
 ·rename_i x;rw[qM]at hr⊢;have:bH z 1 (avA C E x)=bH Y 1 (avA C E x):=rfl;rw[this];split at hr
  ·cases hr;rfl
  ·cases hr
 ·cases hk
theorem O9(hg:BI C X)(h:G PK O0 V A E Y){n:Nat}{i:XI}{s:Sh}{A':Ab}(hi:abI X n A i=some (s,A')){ks:List Nat}(hk:xZ X A i=some ks):∀k∈ks,(∃l,A.heap[k]?=some (.cells l))\/(∃l,A.heap[k]?=some (.ro l)):=by
 intro k hkk;unfold xZ at hk;split at hk
 ·rename_i ag sz x;split at hk
  ·rename_i k' off hx;cases hk;simp at hkk;subst hkk;simp only[abI,hx]at hi;split at hi
   ·rename_i l hl;exact .inl ⟨l,hl⟩
   ·rename_i l hl;exact .inr ⟨l,hl⟩
   ·cases hi
  ·cases hk;simp at hkk
  ·cases hk
 ·cases hk;simp at hkk
 ·cases hk;simp at hkk
 ·cases hk
theorem Vw{n:Nat}{o:XOp}{E:As}{Y:St}(h:jo o E=true):mF C (ai C) n o E Y=opR (ai C) (aj C (avA C E) n Y o.i):=by
 unfold mF;rw[if_pos h];cases aj C (avA C E) n Y o.i with
 |none=>rfl
 |some r=>cases r<;>rfl
theorem Zp{n:Nat}{o:XOp}{E:As}{Y:St}(h:jo o E=false):mF C (ai C) n o E Y=some (.undef,Y):=by
 unfold mF;rw[h];rfl
theorem NQ{α β γ:Type}{f:α->Option β}{g:β->Option (List γ)}:∀{ws:List α} {As:List γ},ws.foldr (fun w r=>stepM (f w) g r) (some [])=some As->∀w∈ws,∃A azs,f w=some A/\g A=some azs/\∀B∈azs,B∈As
 |[],_,_,w,hw=>by simp at hw
 |w0::ws,As,h,w,hw=>by
  rw[List.foldr_cons]at h;unfold stepM at h;split at h
  ·rename_i A hA;split at h
   ·rename_i azs bs h1 h2;cases h;rcases List.mem_cons.mp hw with rfl|hw
    ·exact⟨A,azs,hA,h1,fun B hB=>List.mem_append_left _ hB⟩
    ·obtain⟨A',as',e1,e2,e3⟩:=NQ h2 w hw;exact⟨A',as',e1,e2,fun B hB=>List.mem_append_right _ (e3 B hB)⟩
   ·cases h
  ·cases h
theorem step_ok (hg:BI C X) (hmt:J4 C X) (hcall:AC C X PK O0) (h:G PK O0 V A E Y) {n:Nat} {dr:Bool} {o:XOp} {l:List XOp} {As:List Ab} (ho:Ip X n dr (o::l) A=some As):
  ∃v Y1 V1 A1 azs,mF C (ai C) n o E Y=some (v,Y1)/\Cr V A Y V1 A1 Y1/\G PK O0 V1 A1 (yg E o.dst v) Y1/\Ip X n dr l A1=some azs/\(∀B∈azs,B∈As)/\
   (dr=true->jo o E=true->o.loose≠[]->∃ks:List Nat,(∀k∈ks,k∈A1.ls/\((∃l,A.heap[k]?=some (.cells l))\/(∃l,A.heap[k]?=some (.ro l))))/\∀z:St,(∀k∈ks,∀o:Nat,V.ρ[k]?=some (some o)->z[o]?=Y[o]?)->aj C (avA C E) n z o.i=some (.val v z)):=by
 have wanted:∀{V':Vo} {A':Ab},G PK O0 V' A' E Y->V'.ρ=V.ρ->A'.heap=A.heap->jo o E=true->∀{A1:Ab},Xk X n dr o A'=some A1->∃v Y1 V1,mF C (ai C) n o E Y=some (v,Y1)/\Cr V' A' Y V1 A1 Y1/\G PK O0 V1 A1 (yg E o.dst v) Y1/\(dr=true->jo o E=true->o.loose≠[]->∃ks:List Nat,(∀k∈ks,k∈A1.ls/\((∃l,A.heap[k]?=some (.cells l))\/(∃l,A.heap[k]?=some (.ro l))))/\∀z:St,(∀k∈ks,∀o:Nat,V.ρ[k]?=some (some o)->z[o]?=Y[o]?)->aj C (avA C E) n z o.i=some (.val v z)):=by
  intro V' A' h' hρ hh hw A1 h1;obtain⟨v,Y1,V1,e1,e2,e3,e4⟩:=acs hg hmt hcall h' h1;refine⟨v,Y1,V1,by rw[Vw hw];exact e1,e2,e3,fun hd _ hl=>?_⟩
  obtain⟨ks,hks,hkm⟩:=e4 hd hl;have hab:∃s A2,abI X n A' o.i=some (s,A2):=by
   unfold Xk at h1;split at h1
   ·rename_i s A2 hi;exact⟨s,A2,hi⟩
   ·cases h1
  obtain⟨s,A2,hi⟩:=hab;refine⟨ks,fun k hk=>⟨hkm k hk,by rw[<-hh];exact O9 hg h' hi hks k hk⟩,fun z hz=>look_ok hg h' hks e1 (fun k hk o' ho'=>hz k hk o' (by rw[<-hρ];exact ho'))⟩
 have notw:∀{A':Ab},G PK O0 V A' E Y->jo o E=false->mF C (ai C) n o E Y=some (.undef,Y)/\G PK O0 V (ptS A' o.dst .undef) (yg E o.dst .undef) Y:=fun h' hw=>⟨Zp hw,h'.ptS .undef _⟩;cases hgu:o.guard with
 |none=>
  have hw:jo o E=true:=by unfold jo;rw[hgu]
  simp only[Ip,hgu]at ho;split at ho
  ·rename_i A1 h1;obtain⟨v,Y1,V1,e1,e2,e3,e4⟩:=wanted h rfl rfl hw h1;exact⟨v,Y1,V1,A1,As,e1,e2,e3,ho,fun B hB=>hB,e4⟩
  ·cases ho
 |some p=>
  obtain⟨t,b⟩:=p;have hwe:jo o E=nI b (look E t):=by unfold jo;rw[hgu]
  simp only[Ip,hgu]at ho;split at ho
  ·cases ho
  ·rename_i ws hws;have:∃b' A',(b',A')∈ws/\nI b (look E t)=(b'==b)/\G PK O0 V A' E Y/\Same A A':=by
    split at hws
    ·rename_i hu;cases hws;have hm:=h.env _ _ hu;have he:look E t=.undef:=by
      revert hm;generalize look E t=v;intro hm;cases hm;rfl
     exact⟨!b,A,by simp,by rw[he];cases b<;>rfl,h,⟨rfl,rfl,rfl,rfl⟩⟩
    ·obtain⟨b',A',h1,h2,h3,h4⟩:=YH hg h hws;refine⟨b',A',h1,?_,h3,h4⟩;have:look E t=.bool b':=h2;rw[this];rfl
   obtain⟨b',A',hmem,hb,g',hsame⟩:=this;obtain⟨A1,azs,f1,f2,f3⟩:=NQ (f:=fun w:Bool×Ab=>if w.1==b then Xk X n dr o w.2 else some (ptS w.2 o.dst .undef)) (g:=fun A=>Ip X n dr l A) ho _ hmem;cases hbb:b'==b with
   |true=>
    simp only[hbb,if_true]at f1;obtain⟨v,Y1,V1,e1,e2,e3,e4⟩:=wanted g' rfl hsame.heap (by rw[hwe,hb,hbb]) f1
    exact⟨v,Y1,V1,A1,azs,e1,hsame.cr.trans e2,e3,f2,f3,e4⟩
   |false=>
    simp only[hbb,Bool.false_eq_true,if_false,Option.some.injEq]at f1;subst f1;have hw:jo o E=false:=by rw[hwe,hb,hbb]
    obtain⟨e1,e2⟩:=notw g' hw;exact⟨.undef,Y,V,_,azs,e1,hsame.cr.put _ _,e2,f2,f3,fun _ hw'=>by rw[hw]at hw';cases hw'⟩
theorem QO (hg:BI C X) (hmt:J4 C X) (hcall:AC C X PK O0) {n:Nat}:∀(l:List XOp) {V:Vo} {A:Ab} {E:As} {Y:St} {As:List Ab},G PK O0 V A E Y->Ip X n false l A=some As->
  ∃A'∈As,∃V' E' Y',dD C (ai C) n l E Y=some (E',Y')/\Cr V A Y V' A' Y'/\G PK O0 V' A' E' Y'
 |[],V,A,E,Y,As,h,ho=>by
  cases ho;exact⟨A,by simp,V,E,Y,rfl,.refl,h⟩
 |o::l,V,A,E,Y,As,h,ho=>by
  obtain⟨v,Y1,V1,A1,azs,e1,c1,g1,e2,e3,e4⟩:=step_ok hg hmt hcall h ho;obtain⟨A',hA',V',E',Y',r1,c2,g2⟩:=QO hg hmt hcall l g1 e2;refine⟨A',e3 A' hA',V',E',Y',?_,c1.trans c2,g2⟩;unfold dD;rw[e1];exact r1
structure Wn(V:Vo)(A:Ab)(Y:St)(V':Vo)(A':Ab)(Y':St)(new:List Nat):Prop where
 le:V.toVal.le V'.toVal
 c:∀k x,A.heap[k]?=some x->k∉new->A'.heap[k]?=some x/\V'.own[k]?=V.own[k]? /\∀l o,x=.cells l->V.own[k]?=some [o]->Y'[o]?=Y[o]?
theorem aen (hg:BI C X) (hmt:J4 C X) (hcall:AC C X PK O0) (h:G PK O0 V A E Y) {n j:Nat} {o:XOp} {l:List XOp} {wt:List (Nat×Nat)} {lt:List (Nat×Nat×List Nat)} {As:List Rg} (ho:Xi X n (o::l) j (A,wt,lt)=some As):
  ∃(v:AV) (Y1:St) (V1:Vo) (A1:Ab) (new:List Nat) (ks:List Nat) (azs:List Rg),mF C (ai C) n o E Y=some (v,Y1)/\Wn V A Y V1 A1 Y1 new/\G PK O0 V1 A1 (yg E o.dst v) Y1/\Xi X n l (j+1) (A1,new.map (fun k=>(k,j))++wt,ks.map (fun k=>(k,j,o.loose))++lt)=some azs/\(∀B∈azs,B∈As)/\
   (jo o E=true->o.loose≠[]->(∀k∈ks,(∃l,A.heap[k]?=some (.cells l))\/(∃l,A.heap[k]?=some (.ro l)))/\∀z:St,(∀k∈ks,∀o:Nat,V.ρ[k]?=some (some o)->z[o]?=Y[o]?)->aj C (avA C E) n z o.i=some (.val v z)):=by
 have wanted:∀{A':Ab} {q:Rg},G PK O0 V A' E Y->A'.heap=A.heap->jo o E=true->agf X n j o A' wt lt=some q->∃(v:AV) (Y1:St) (V1:Vo) (A1:Ab) (new:List Nat) (ks:List Nat),q=(A1,new.map (fun k=>(k,j))++wt,ks.map (fun k=>(k,j,o.loose))++lt)/\mF C (ai C) n o E Y=some (v,Y1)/\Wn V A Y V1 A1 Y1 new/\G PK O0 V1 A1 (yg E o.dst v) Y1/\
   (jo o E=true->o.loose≠[]->(∀k∈ks,(∃l,A.heap[k]?=some (.cells l))\/(∃l,A.heap[k]?=some (.ro l)))/\∀z:St,(∀k∈ks,∀o:Nat,V.ρ[k]?=some (some o)->z[o]?=Y[o]?)->aj C (avA C E) n z o.i=some (.val v z)):=by
  intro A' q h' hh hw hq;have h0:G PK O0 V {A' with wr:=[]} E Y:=wrA A' [] h';unfold agf at hq;split at hq
  ·rename_i A1 h1;split at hq
   ·rename_i ks hks;cases hq;obtain⟨v,Y1,V1,e1,e2,e3,_⟩:=acs hg hmt hcall h0 h1;refine⟨v,Y1,V1,A1,A1.wr,ks,rfl,by rw[Vw hw];exact e1,⟨e2.le,fun k x hk hn=>e2.c k x (by show A'.heap[k]?=_;rw[hh];exact hk) hn⟩,e3,fun _ hl=>?_⟩
    have hks:xZ X A' o.i=some ks:=by
     have:o.loose.isEmpty=false:=by cases ho:o.loose with
      |nil=>exact absurd ho hl
      |cons _ _=>rfl
     rw[this]at hks;exact hks
    have hab:∃s A2,abI X n {A' with wr:=[]} o.i=some (s,A2):=by
     unfold Xk at h1;split at h1
     ·rename_i s A2 hi;exact⟨s,A2,hi⟩
     ·cases h1
    obtain⟨s,A2,hi⟩:=hab;exact⟨fun k hk=>by rw[<-hh];exact O9 hg h0 hi (ks:=ks) hks k hk,fun z hz=>look_ok hg h' hks e1 hz⟩
   ·cases hq
  ·cases hq
 cases hgu:o.guard with
 |none=>
  have hw:jo o E=true:=by unfold jo;rw[hgu]
  simp only[Xi,hgu]at ho;split at ho
  ·rename_i q hq;obtain⟨v,Y1,V1,A1,new,ks,rfl,e1,e2,e3,e4⟩:=wanted h rfl hw hq;exact⟨v,Y1,V1,A1,new,ks,As,e1,e2,e3,ho,fun B hB=>hB,e4⟩
  ·cases ho
 |some p=>
  obtain⟨t,b⟩:=p;have hwe:jo o E=nI b (look E t):=by unfold jo;rw[hgu]
  simp only[Xi,hgu]at ho;split at ho
  ·cases ho
  ·rename_i ws hws;have:∃b' A',(b',A')∈ws/\nI b (look E t)=(b'==b)/\G PK O0 V A' E Y/\Same A A':=by
    split at hws
    ·rename_i hu;cases hws;have hm:=h.env _ _ hu;have he:look E t=.undef:=by
      revert hm;generalize look E t=v;intro hm;cases hm;rfl
     exact⟨!b,A,by simp,by rw[he];cases b<;>rfl,h,⟨rfl,rfl,rfl,rfl⟩⟩
    ·obtain⟨b',A',h1,h2,h3,h4⟩:=YH hg h hws;refine⟨b',A',h1,?_,h3,h4⟩;have:look E t=.bool b':=h2;rw[this];rfl
   obtain⟨b',A',hmem,hb,g',hsame⟩:=this;obtain⟨q,azs,f1,f2,f3⟩:=NQ (f:=fun w:Bool×Ab=>if w.1==b then agf X n j o w.2 wt lt else some (ptS w.2 o.dst .undef,wt,lt)) (g:=fun q=>Xi X n l (j+1) q) ho _ hmem;cases hbb:b'==b with
   |true=>
    simp only[hbb,if_true]at f1;obtain⟨v,Y1,V1,A1,new,ks,rfl,e1,e2,e3,e4⟩:=wanted g' hsame.heap (by rw[hwe,hb,hbb]) f1
    exact⟨v,Y1,V1,A1,new,ks,azs,e1,e2,e3,f2,f3,e4⟩
   |false=>
    simp only[hbb,Bool.false_eq_true,if_false,Option.some.injEq]at f1;subst f1;have hw:jo o E=false:=by rw[hwe,hb,hbb]
    refine⟨.undef,Y,V,_,[],[],azs,Zp hw,⟨.rfl,fun k x hk _=>⟨?_,rfl,fun _ _ _ _=>rfl⟩⟩,g'.ptS .undef _,f2,f3,fun hw'=>by rw[hw]at hw';cases hw'⟩
    have:(ptS A' o.dst .undef).heap=A'.heap:=by cases o.dst<;>rfl
    rw[this,hsame.heap];exact hk
theorem ajz{V':Vo}{A':Ab}{E':As}{Y':St}(h:G PK O0 V A E Y)(h':G PK O0 V' A' E' Y')(hle:V.toVal.le V'.toVal):A.heap.length<=A'.heap.length:=by
 rw[<-h.lρ,<-h'.lρ];by_cases hn:V.ρ.length=0
 ·omega
 ·have:=hle.ρ (V.ρ.length-1) _ (List.getElem?_eq_getElem (by omega))
  have:=(List.getElem?_eq_some_iff.mp this).1;omega
def At(O0:Frm)(N:Nat)(V:Vo)(A:Ab)(Y:St)(wt:List (Nat×Nat))(a b:Nat)(z:St):Prop:=∀o,(o<O0.length/\o∉O0.w\/∃k l,k<N/\A.heap[k]?=some (.cells l)/\V.own[k]?=some [o]/\∀w,(k,w)∈wt->¬(a<=w/\w<b))->z[o]?=Y[o]?
theorem acp (hg:BI C X) (hmt:J4 C X) (hcall:AC C X PK O0) {n N:Nat}:∀(l:List XOp) {j:Nat} {V:Vo} {A:Ab} {E:As} {Y:St} {wt:List (Nat×Nat)} {lt:List (Nat×Nat×List Nat)} {As:List Rg},N<=A.heap.length->G PK O0 V A E Y->Xi X n l j (A,wt,lt)=some As->
  ∃p∈As,∃V' E' Y' rs ss,lD C (ai C) n l E Y=some (E',Y',rs,ss)/\V.toVal.le V'.toVal/\G PK O0 V' p.1 E' Y'/\ss.length=l.length+1/\(∀q∈wt,q∈p.2.1)/\(∀q∈lt,q∈p.2.2)/\
   (∀(d:Nat) (z:St),ss[d]?=some z->At O0 N V A Y p.2.1 j (j+d) z)/\
   ∀ps:List St,ps.length=j->(∀(c:Nat) (z:St),ps[c]?=some z->At O0 N V A Y wt c j z)->(∀o∈l,∀c∈o.loose,c+1<(ps++ss).length)->(∀q∈p.2.2,q.1<N/\∀c∈q.2.2,∀w,(q.1,w)∈p.2.1->¬(min q.2.1 c<=w/\w<max q.2.1 (c+1)))->dN C n (ps++ss) l rs=true
 |[],j,V,A,E,Y,wt,lt,As,hN,h,ho=>by
  cases ho;refine⟨_,List.mem_singleton_self _,V,E,Y,[],[Y],rfl,.rfl,h,rfl,fun q hq=>hq,fun q hq=>hq,fun d z hz=>?_,fun _ _ _ _ _=>rfl⟩;cases d with
  |zero=>simp at hz;subst hz;exact fun _ _=>rfl
  |succ d=>simp at hz
 |o::l,j,V,A,E,Y,wt,lt,As,hN,h,ho=>by
  obtain⟨v,Y1,V1,A1,new,ks,azs,e1,wn,g1,e2,e3,e4⟩:=aen hg hmt hcall h ho;have hl1:=ajz h g1 wn.le;obtain⟨p,hp,V',E',Y',rs,ss,r1,le2,g2,r2,w1,t1,post,fin⟩:=acp hg hmt hcall l (Nat.le_trans hN hl1) g1 e2;have hpost:∀(d:Nat) (z:St),(Y::ss)[d]?=some z->At O0 N V A Y p.2.1 j (j+d) z:=fun d z hz=>by
   cases d with
   |zero=>simp at hz;subst hz;exact fun _ _=>rfl
   |succ d=>
    intro q hq;have h1:=post d z (by simpa using hz)
    rcases hq with hq|⟨k,c,k1,k2,k3,k4⟩
    ·rw[h1 q (.inl hq),g1.old hq.1 hq.2,h.old hq.1 hq.2]
    ·have hn:k∉new:=fun hn=>k4 j (w1 _ (List.mem_append_left _ (List.mem_map.mpr ⟨k,hn,rfl⟩))) ⟨Nat.le_refl _,by omega⟩
     obtain⟨c1,c2,c3⟩:=wn.c k _ k2 hn;rw[h1 q (.inr ⟨k,c,k1,c1,c2.trans k3,fun w hw hc=>k4 w hw ⟨by omega,by omega⟩⟩)]
     exact c3 c q rfl k3
  refine⟨p,e3 p hp,V',E',Y',(E,v)::rs,Y::ss,?_,wn.le.trans le2,g2,by simp[r2],fun q hq=>w1 q (List.mem_append_right _ hq),fun q hq=>t1 q (List.mem_append_right _ hq),hpost,fun ps hps hpre hlo hall=>?_⟩
  ·unfold lD;rw[e1];dsimp only;rw[r1]
  ·have hzs:ps++Y::ss=(ps++[Y])++ss:=by simp
   have hrest:=fin (ps++[Y]) (by simp[hps]) (fun c z hz=>by
    intro q hq;rw[List.getElem?_append]at hz;rcases hq with hq|⟨k,cl',k1,k2,k3,k4⟩
    ·split at hz
     ·rw[hpre c z hz q (.inl hq),g1.old hq.1 hq.2,h.old hq.1 hq.2]
     ·have:z=Y:=by
       rename_i hc;have hlt:=(List.getElem?_eq_some_iff.mp hz).1;simp at hlt;have h0:c-ps.length=0:=by omega
       rw[h0]at hz;simpa using hz.symm
      subst this;rw[g1.old hq.1 hq.2,h.old hq.1 hq.2]
    ·have hcj:c<=j:=by
      split at hz
      ·omega
      ·have hlt:=(List.getElem?_eq_some_iff.mp hz).1;simp at hlt;omega
     have hn:k∉new:=fun hn=>k4 j (List.mem_append_left _ (List.mem_map.mpr ⟨k,hn,rfl⟩)) ⟨hcj,by omega⟩
     obtain⟨x,hx⟩:∃x,A.heap[k]?=some x:=⟨_,List.getElem?_eq_getElem (Nat.lt_of_lt_of_le k1 hN)⟩;obtain⟨c1,c2,c3⟩:=wn.c k x hx hn;rw[k2]at c1;cases c1;have ho':V.own[k]?=some [q]:=c2.symm.trans k3;rw[c3 cl' q rfl ho'];split at hz
     ·exact hpre c z hz q (.inr ⟨k,cl',k1,hx,ho',fun w hw hc=>k4 w (List.mem_append_right _ hw) ⟨hc.1,by omega⟩⟩)
     ·have:z=Y:=by
       have hlt:=(List.getElem?_eq_some_iff.mp hz).1;simp at hlt;have h0:c-ps.length=0:=by omega
       rw[h0]at hz;simpa using hz.symm
      rw[this]) (fun o' ho' c hc=>by rw[<-hzs];exact hlo o' (by simp[ho']) c hc) hall
   rw[<-hzs]at hrest;unfold dN;rw[hrest,Bool.and_true];cases hw:jo o E with
   |false=>rfl
   |true=>
    by_cases hlo0:o.loose=[]
    ·rw[hlo0];simp[iF]
    ·obtain⟨hkind,hlook⟩:=e4 hw hlo0;have key:∀c∈o.loose,∀(d:Nat) (z:St),(d=c\/d=c+1)->(ps++Y::ss)[d]?=some z->aj C (avA C E) n z o.i=some (.val v z):=fun c hc d z hd hz=>by
      refine hlook z fun k hk q hq=>?_;obtain⟨kN,hno⟩:=hall (k,j,o.loose) (t1 _ (List.mem_append_left _ (List.mem_map.mpr ⟨k,hk,rfl⟩)));have hno:=hno c hc;dsimp only at hno;have hobj:∀(wt':List (Nat×Nat)) (a b:Nat),(∀w,(k,w)∈wt'->¬(a<=w/\w<b))->At O0 N V A Y wt' a b z->z[q]?=Y[q]?:=fun wt' a b hab hat=>by
       rcases hkind k hk with⟨l',hl'⟩|⟨l',hl'⟩
       ·obtain⟨o2,cs,q1,q2,q3,q4⟩:=h.heap _ _ hl';rw[hq]at q1;cases q1;exact hat q (.inr ⟨k,l',kN,hl',q2,hab⟩)
       ·obtain⟨o2,cs,fz,q1,q2,q3,q4⟩:=h.heap _ _ hl';rw[hq]at q1;cases q1;exact hat q (.inl q3)
      rw[List.getElem?_append]at hz;split at hz
      ·rename_i hlt;refine hobj wt d j (fun w hw hc'=>hno w (w1 _ (List.mem_append_right _ hw)) ⟨?_,?_⟩) (hpre d z hz)
       ·omega
       ·omega
      ·rename_i hge;refine hobj p.2.1 j d (fun w hw hc'=>hno w hw ⟨?_,?_⟩) ?_
       ·omega
       ·omega
       ·have:=hpost (d-ps.length) z hz;rwa[show j+(d-ps.length)=d by omega]at this
     have recs:∀L:List Nat,(∀c∈L,c∈o.loose)->iF C n o E v (ps++Y::ss) L=true:=by
      intro L
      induction L with
      |nil=>intro _;rfl
      |cons c L ih=>
       intro hL;have hc:=hlo o (by simp) c (hL c (by simp))
       unfold iF;rw[List.getElem?_eq_getElem (show c<(ps++Y::ss).length by omega),List.getElem?_eq_getElem hc]
       dsimp only;rw[key c (hL c (by simp)) c _ (.inl rfl) (List.getElem?_eq_getElem (by omega)),key c (hL c (by simp)) (c+1) _ (.inr rfl) (List.getElem?_eq_getElem hc)]
       dsimp only;rw[JI,ih (fun c' hc'=>hL c' (by simp[hc']))]
       rfl
     rw[recs o.loose (fun c hc=>hc)];simp
end
section
variable{C:Ctx}{X:Cfg}{PK:PkI}{O0:Frm}{V:Vo}{A:Ab}{E:As}{Y:St}
theorem XU{env:List (Nat×Sh)}{t:Nat}{s:Sh}:∀(m:List Nat),la t (m.filterMap fun t=>(la t env).map fun s=>(t,s))=some s->t∈m/\la t env=some s
 |[],h=>by cases h
 |t0::m,h=>by
  rw[List.filterMap_cons]at h;split at h
  ·obtain⟨h1,h2⟩:=XU m h;exact⟨by simp[h1],h2⟩
  ·rename_i p hp;cases hq:la t0 env with
   |none=>rw[hq]at hp;cases hp
   |some s0=>
    rw[hq]at hp;cases hp;simp only[la]at h;split at h
    ·rename_i he;subst he;cases h;exact⟨by simp,hq⟩
    ·obtain⟨h1,h2⟩:=XU m h;exact⟨by simp[h1],h2⟩
theorem G.keep(h:G PK O0 V A E Y)(m:List Nat):G PK O0 V (A.keep m) (keepA m E) Y:=by
 refine⟨fun t s ht=>?_,h.lν,h.lρ,h.lo,h.zero,h.facts,h.heap,h.dis,h.rng,h.ρl,h.base,h.ok⟩;obtain⟨h1,h2⟩:=XU m ht;rw[Hq m E t h1];exact h.env t s h2
theorem uI:∀{o:qG} {B:Ab},(XE.normal,B)∈o->B∈zq o
 |[],B,h0=>by simp at h0
 |(x,B')::o,B,h0=>by
  rcases List.mem_cons.mp h0 with h|h
  ·cases h;exact List.mem_cons_self
  ·clear h0;cases x with
   |normal=>exact List.mem_cons_of_mem _ (uI h)
   |exit i=>exact uI (o:=o) h
   |ret=>exact uI (o:=o) h
theorem pR:∀{o:qG} {x:XE} {B:Ab},(x,B)∈o->x≠ .normal->(x,B)∈others o
 |[],x,B,h0,hx=>by simp at h0
 |(y,B')::o,x,B,h0,hx=>by
  rcases List.mem_cons.mp h0 with h|h
  ·cases h;clear h0;cases y with
   |normal=>exact absurd rfl hx
   |exit i=>exact List.mem_cons_self
   |ret=>exact List.mem_cons_self
  ·clear h0;cases y with
   |normal=>exact pR (o:=o) h hx
   |exit i=>exact List.mem_cons_of_mem _ (pR h hx)
   |ret=>exact List.mem_cons_of_mem _ (pR h hx)
theorem NS{a r:Option qG}{o:qG}(h:VN a r=some o):∃x y,a=some x/\r=some y/\o=x++y:=by
 unfold VN at h;split at h
 ·cases h;exact⟨_,_,rfl,rfl,rfl⟩
 ·cases h
theorem NH{f:Ab->Option qG}:∀{l:List Ab} {o:qG},acG f l=some o->∀B∈l,∃x,f B=some x/\∀p∈x,p∈o
 |[],_,_,B,hB=>by simp at hB
 |B0::l,o,h,B,hB=>by
  obtain⟨x,y,h1,h2,rfl⟩:=NS h;rcases List.mem_cons.mp hB with rfl|hB
  ·exact⟨x,h1,fun p hp=>List.mem_append_left _ hp⟩
  ·obtain⟨z,h3,h4⟩:=NH h2 B hB;exact⟨z,h3,fun p hp=>List.mem_append_right _ (h4 p hp)⟩
theorem VA{α:Type}{f:α->Option qG}:∀{ws:List α} {o:qG},ws.foldr (fun w r=>VN (f w) r) (some [])=some o->∀w∈ws,∃x,f w=some x/\∀p∈x,p∈o
 |[],_,_,w,hw=>by simp at hw
 |w0::ws,o,h,w,hw=>by
  rw[List.foldr_cons]at h;obtain⟨x,y,h1,h2,rfl⟩:=NS h;rcases List.mem_cons.mp hw with rfl|hw
  ·exact⟨x,h1,fun p hp=>List.mem_append_left _ hp⟩
  ·obtain⟨z,h3,h4⟩:=VA h2 w hw;exact⟨z,h3,fun p hp=>List.mem_append_right _ (h4 p hp)⟩
theorem ajC{n i:Nat}(h:i<n):(am4 n)[i]?=some (i,0):=by
 unfold am4;rw[List.getElem?_map,List.getElem?_range h];rfl
theorem Ak(n h:Nat):∀(k:Nat) (l m:List HO),(Fh n h k l m).length=k
 |0,_,_=>by simp[Fh]
 |k+1,x::l,y::m=>by simp[Fh,Ak n h k l m]
 |k+1,[],m=>by simp[Fh,Ak n h k [] []]
 |k+1,x::l,[]=>by simp[Fh,Ak n h k [] []]
theorem adk(base:Ab)(lv:List Nat):∀(l:List Ab) (J:Ab),J.heap.length=base.heap.length->(l.foldl (VM base lv) J).heap.length=base.heap.length
 |[],J,h=>h
 |B::l,J,h=>adk base lv l _ (Ak _ _ _ _ _)
theorem aaG{V:Val}{θo:List Nat}{k:Nat}(h:θo[k]?=some k)(hk:k<V.ρ.length):(ρθ V θo)[k]?=V.ρ[k]?:=by
 unfold ρθ;rw[List.getElem?_map,h];show some (V.ρ[k]?).join=_;rw[List.getElem?_eq_getElem hk];rfl
theorem adl(base:Ab)(lv:List Nat):∀(l:List Ab) (J:Ab),J.nx=base.nx->(l.foldl (VM base lv) J).nx=base.nx
 |[],J,h=>h
 |B::l,J,h=>adl base lv l _ rfl
theorem abk{nb hb:Nat}{J S:Ab}{i:Nat}(h:i<nb)(hJ:i<J.nx):(fit nb hb J S).1[i]?=some (i,0):=by
 unfold fit;dsimp only;rw[List.getElem?_map,List.getElem?_range hJ];simp[h]
theorem ags{nb hb:Nat}{J S:Ab}{k:Nat}(h:k<hb)(hJ:k<J.heap.length):(fit nb hb J S).2[k]?=some k:=by
 unfold fit;dsimp only;rw[List.getElem?_map,List.getElem?_range hJ];simp[h]
theorem abx(h:G PK O0 V A E Y){base:Ab}{lv:List Nat}{l:List Ab}(hA:A∈l):∃J∈Qr base lv l,∃W:Vo,G PK O0 W J E Y/\(∀i,i<base.nx->i<A.nx->W.ν[i]?=V.ν[i]?)/\∀k,k<base.heap.length->k<A.heap.length->W.ρ[k]?=V.ρ[k]?:=by
 rcases l with _|⟨B,_|⟨B',l⟩⟩
 ·simp at hA
 ·simp at hA;subst hA;exact⟨A,by simp[Qr],V,h,fun _ _ _=>rfl,fun _ _ _=>rfl⟩
 ·unfold Qr;dsimp only;split
  ·rename_i hall;rw[Bool.and_eq_true]at hall;have hs:=List.all_eq_true.mp hall.2 A hA;obtain⟨W,g,e1,e2,_,e3⟩:=BH h hs;refine⟨_,List.mem_singleton_self _,W,g,fun i hi hi'=>?_,fun k hk hk'=>?_⟩
   ·obtain⟨a,b,h1,h2,h3⟩:=e3 i (i,0) (ajC (by rw[adl base lv (B'::l) (VM base lv B B) rfl];exact hi))
    rw[h2,h1]
    congr 1
    omega
   ·rw[e2];exact aaG (by rw[List.getElem?_range (by rw[adk base lv (B'::l) (VM base lv B B) (Ak _ _ _ _ _)];exact hk)]) (by rw[h.lρ];exact hk')
  ·split
   ·rename_i hall;rw[Bool.and_eq_true,Bool.and_eq_true,decide_eq_true_eq]at hall;have hs:=List.all_eq_true.mp hall.2.2 A hA;obtain⟨W,g,e1,e2,_,e3⟩:=BH h hs;refine⟨_,List.mem_singleton_self _,W,g,fun i hi hi'=>?_,fun k hk hk'=>?_⟩
    ·obtain⟨a,b,h1,h2,h3⟩:=e3 i (i,0) (abk hi (by omega))
     rw[h2,h1]
     congr 1
     dsimp only at h3;omega
    ·rw[e2];exact aaG (ags hk (by omega)) (by rw[h.lρ];exact hk')
   ·exact⟨A,hA,V,h,fun _ _ _=>rfl,fun _ _ _=>rfl⟩
theorem ah4(h:G PK O0 V A E Y){k:KC}{base:Ab}{lv:List Nat}{l:List Ab}(hA:A∈l):∃J∈ah3 k base lv l,∃W:Vo,G PK O0 W J E Y/\(∀i,i<base.nx->i<A.nx->W.ν[i]?=V.ν[i]?)/\∀k,k<base.heap.length->k<A.heap.length->W.ρ[k]?=V.ρ[k]?:=by
 unfold ah3;split
 ·exact⟨A,hA,V,h,fun _ _ _=>rfl,fun _ _ _=>rfl⟩
 ·exact abx h hA
def Rk(PK:PkI)(O0:Frm)(V:Vo)(A:Ab)(o:qG)(r:Option (XE×As×St)):Prop:=∃x E' Y' A' V',(x,A')∈o/\r=some (x,E',Y')/\G PK O0 V' A' E' Y'/\(∀i,i<A.nx->V'.ν[i]?=V.ν[i]?)/\∀k,k<A.heap.length->V'.ρ[k]?=V.ρ[k]?
theorem ame{V V':Vo}(h:V.toVal.le V'.toVal)(g:G PK O0 V A E Y):∀i,i<A.nx->V'.ν[i]?=V.ν[i]?:=fun i hi=>by
 have h1:=List.getElem?_eq_getElem (show i<V.ν.length by rw[g.lν];exact hi)
 rw[h1];exact h.ν i _ h1
theorem amf{V V':Vo}(h:V.toVal.le V'.toVal)(g:G PK O0 V A E Y):∀k,k<A.heap.length->V'.ρ[k]?=V.ρ[k]?:=fun i hi=>by
 have h1:=List.getElem?_eq_getElem (show i<V.ρ.length by rw[g.lρ];exact hi)
 rw[h1];exact h.ρ i _ h1
theorem ad9{V V':Vo}{A':Ab}{E':As}{Y':St}(g:G PK O0 V A E Y)(g':G PK O0 V' A' E' Y')(h:∀i,i<A.heap.length->V'.ρ[i]?=V.ρ[i]?):A.heap.length<=A'.heap.length:=by
 by_cases h0:A.heap.length=0
 ·omega
 ·have h1:=h (A.heap.length-1) (by omega)
  rw[List.getElem?_eq_getElem (show A.heap.length-1<V.ρ.length by rw[g.lρ];omega)]at h1
  have:=(List.getElem?_eq_some_iff.mp h1).1;rw[g'.lρ]at this;omega
theorem ahJ{V V':Vo}{A':Ab}{E':As}{Y':St}(g:G PK O0 V A E Y)(g':G PK O0 V' A' E' Y')(h:∀i,i<A.nx->V'.ν[i]?=V.ν[i]?):A.nx<=A'.nx:=by
 by_cases h0:A.nx=0
 ·omega
 ·have h1:=h (A.nx-1) (by omega)
  rw[List.getElem?_eq_getElem (show A.nx-1<V.ν.length by rw[g.lν];omega)]at h1
  have:=(List.getElem?_eq_some_iff.mp h1).1;rw[g'.lν]at this;omega
theorem ajK {m:List Nat} {run:Ab->Option qG} {body:Ij} (hrun:∀(H:Ab) (o:qG),run H=some o->∀(V:Vo) (E:As) (Y:St),G PK O0 V H E Y->Rk PK O0 V H o (body E Y))
  {o':qG} (hl:aaQ m run A=some o') (h:G PK O0 V A E Y):Rk PK O0 V A o' (sH (fun e O=>body (keepA m e) O) E Y):=by
 unfold aaQ at hl;dsimp only at hl;split at hl
 ·cases hl
 ·rename_i H hH;clear hH;split at hl
  ·cases hl
  ·rename_i o ho;split at hl
   ·rename_i hc;simp only[Bool.and_eq_true,decide_eq_true_eq]at hc;obtain⟨⟨⟨⟨c1,c1'⟩,c2⟩,c3⟩,c4⟩:=hc;cases hl;have hnx:(A.keep m).nx=A.nx:=rfl;have hhl:(A.keep m).heap.length=A.heap.length:=rfl;have hmeas:∃f:Vo->Nat,∀(W V1 W':Vo) (N:Ab) (E1:As) (Y1:St),(∀i,i<H.nx->V1.ν[i]?=W.ν[i]?)->N∈(zq o).map (·.keep m)->G PK O0 V1 N E1 Y1->(∀(i:Nat) (p:Nat×Int),(fit (A.keep m).nx (A.keep m).heap.length H N).1[i]?=some p->∃a b:Nat,V1.ν[p.1]?=some a/\W'.ν[i]?=some b/\(b:Int)=a+p.2)->(∀i,i<A.nx->W'.ν[i]?=W.ν[i]?)->f W'<f W:=by
     simp only[Bool.or_eq_true]at c4;rcases c4 with c4|c4
     ·refine⟨fun _=>0,fun W V1 W' N E1 Y1 _ hN=>?_⟩;rw[List.isEmpty_iff.mp c4]at hN;simp at hN
     ·obtain⟨x,hx,hx'⟩:=List.any_eq_true.mp c4;simp only[Bool.and_eq_true,Bool.or_eq_true,decide_eq_true_eq]at hx';obtain⟨hx1,hx2⟩:=hx';have hxn:x<H.nx:=List.mem_range.mp hx;rcases hx2 with hx2|hx2
      ·obtain⟨s,hs,hs'⟩:=List.any_eq_true.mp hx2;have hsn:s<A.nx:=List.mem_range.mp hs;refine⟨fun W=>(W.ν[s]?.getD 0)-(W.ν[x]?.getD 0),fun W V1 W' N E1 Y1 e1 hN g1 e2 e3=>?_⟩;have hne:=List.all_eq_true.mp hs' N hN;unfold al2 at hne;split at hne
       ·rename_i i d hid;simp only[Bool.and_eq_true,beq_iff_eq,decide_eq_true_eq]at hne;obtain⟨⟨⟨rfl,hd⟩,_⟩,hle⟩:=hne;obtain⟨a,b,q1,q2,q3⟩:=e2 _ _ hid;have hVs:V1.ν[s]?=W.ν[s]?:=e1 s (by omega)
        have hVx:V1.ν[i]?=W.ν[i]?:=e1 i hxn;obtain⟨ns,hns⟩:∃ns,V1.ν[s]?=some ns:=by
         refine⟨_,List.getElem?_eq_getElem ?_⟩;rw[g1.lν];have h1:=(List.getElem?_eq_some_iff.mp q1).1;rw[g1.lν]at h1;omega
        have h2:=vJ g1.zero g1.facts hle q1 hns;dsimp only at q1 q3;show(W'.ν[s]?.getD 0)-(W'.ν[i]?.getD 0)<(W.ν[s]?.getD 0)-(W.ν[i]?.getD 0);rw[e3 s hsn,<-hVs,hns,q2,<-hVx,q1];simp only[Option.getD_some];omega
       ·cases hne
      ·refine⟨fun W=>W.ν[x]?.getD 0,fun W V1 W' N E1 Y1 e1 hN g1 e2 e3=>?_⟩;have hne:=List.all_eq_true.mp hx2 N hN;unfold lowers at hne;split at hne
       ·rename_i i d hid;simp only[Bool.and_eq_true,beq_iff_eq,decide_eq_true_eq]at hne;obtain⟨rfl,hd⟩:=hne;obtain⟨a,b,q1,q2,q3⟩:=e2 _ _ hid;have hVx:V1.ν[i]?=W.ν[i]?:=e1 i hxn;dsimp only at q1 q3;show W'.ν[i]?.getD 0<W.ν[i]?.getD 0;rw[q2,<-hVx,q1];simp only[Option.getD_some];omega
       ·cases hne
    obtain⟨f,hf⟩:=hmeas;have rounds:∀(μ:Nat) (W:Vo) (E:As) (Y:St),f W<μ->G PK O0 W H (keepA m E) Y->(∀i,i<A.nx->W.ν[i]?=V.ν[i]?)->(∀k,k<A.heap.length->W.ρ[k]?=V.ρ[k]?)->Rk PK O0 V A (others o) (sH (fun e O=>body (keepA m e) O) E Y):=by
     intro μ
     induction μ with
     |zero=>intro W E Y hμ;omega
     |succ μ ih=>
      intro W E Y hμ g hb hbρ;obtain⟨x,E1,Y1,A1,V1,r1,r2,r3,r4,r5⟩:=hrun H o ho W _ _ g;rw[yw];rw[r2];cases x with
      |exit i=>exact⟨_,E1,Y1,A1,V1,pR r1 (by simp),rfl,r3,fun i hi=>by rw[r4 i (by omega),hb i hi],fun k hk=>by rw[r5 k (by omega),hbρ k hk]⟩
      |ret=>exact⟨_,E1,Y1,A1,V1,pR r1 (by simp),rfl,r3,fun i hi=>by rw[r4 i (by omega),hb i hi],fun k hk=>by rw[r5 k (by omega),hbρ k hk]⟩
      |normal=>
       dsimp only;have hN:A1.keep m∈(zq o).map (·.keep m):=List.mem_map.mpr ⟨A1,uI r1,rfl⟩;have hsub:=List.all_eq_true.mp c3 _ hN;have gk:=r3.keep m;obtain⟨W',g',e1,e2,_,e3⟩:=BH gk hsub;have hbase:∀i,i<A.nx->W'.ν[i]?=W.ν[i]?:=fun i hi=>by
        obtain⟨a,b,q1,q2,q3⟩:=e3 i (i,0) (abk (nb:=(A.keep m).nx) hi (by omega))
        rw[q2,<-r4 i (by omega),q1]
        congr 1
        dsimp only at q3;omega
       exact ih W' E1 Y1 (by have:=hf W V1 W' _ _ _ r4 hN gk e3 hbase;omega) g' (fun i hi=>by rw[hbase i hi,hb i hi]) (fun k hk=>by rw[e2,aaG (ags (nb:=(A.keep m).nx) (hb:=(A.keep m).heap.length) hk (by omega)) (by rw[gk.lρ];have:=ad9 g r3 r5;show k<A1.heap.length;omega),r5 k (by omega),hbρ k hk])
    obtain⟨W,g,e1,e2,_,e3⟩:=BH (h.keep m) c2;refine rounds (f W+1) W E Y (by omega) g (fun i hi=>?_) (fun k hk=>?_)
    ·obtain⟨a,b,q1,q2,q3⟩:=e3 i (i,0) (abk (nb:=(A.keep m).nx) hi (by omega))
     rw[q2,q1]
     congr 1
     dsimp only at q3;omega
    ·rw[e2,aaG (ags (nb:=(A.keep m).nx) (hb:=(A.keep m).heap.length) hk (by omega)) (by rw[h.lρ];exact hk)]
   ·cases hl
theorem aiM{m:List Nat}{run:Ab->Option qG}{body:Ij}(hrun:∀(H:Ab) (o:qG),run H=some o->∀(V:Vo) (E:As) (Y:St),G PK O0 V H E Y->Rk PK O0 V H o (body E Y)):∀(n:Nat) {V:Vo} {A:Ab} {E:As} {Y:St} {o':qG},acu m run n A=some o'->G PK O0 V A E Y->Rk PK O0 V A o' (sH (fun e O=>body (keepA m e) O) E Y)
 |0,V,A,E,Y,o',hu,h=>by cases hu
 |n+1,V,A,E,Y,o',hu,h=>by
  unfold acu at hu;split at hu
  ·cases hu
  ·rename_i o ho;obtain⟨a,b,h1,h2,rfl⟩:=NS hu;cases h1;obtain⟨x,E1,Y1,A1,V1,r1,r2,r3,r4,r5⟩:=hrun _ o ho V _ _ (h.keep m);rw[yw,r2];cases x with
   |exit i=>exact⟨_,E1,Y1,A1,V1,List.mem_append_left _ (pR r1 (by simp)),rfl,r3,r4,r5⟩
   |ret=>exact⟨_,E1,Y1,A1,V1,List.mem_append_left _ (pR r1 (by simp)),rfl,r3,r4,r5⟩
   |normal=>
    dsimp only;obtain⟨z,hz,hsub⟩:=NH h2 A1 (uI r1);obtain⟨x2,E2,Y2,A2,V2,s1,s2,s3,s4,s5⟩:=aiM hrun n hz r3;have hA1:=ahJ (h.keep m) r3 r4;have hA2:=ad9 (h.keep m) r3 r5;exact⟨x2,E2,Y2,A2,V2,List.mem_append_right _ (hsub _ s1),s2,s3,fun i hi=>by rw[s4 i (Nat.lt_of_lt_of_le hi hA1),r4 i hi],fun k hk=>by rw[s5 k (Nat.lt_of_lt_of_le hk hA2),r5 k hk]⟩
theorem afB(hg:BI C X)(hmt:J4 C X)(hcall:AC C X PK O0){n:Nat}:∀(k:KC) (lv:List Nat) (A:Ab) (o:qG),abK X n k lv A=some o->∀(V:Vo) (E:As) (Y:St),G PK O0 V A E Y->Rk PK O0 V A o (dI C (ai C) n k E Y):=by
 intro k
 induction k with
 |skip=>intro lv A o hk V E Y h;cases hk;exact⟨.normal,E,Y,A,V,by simp,rfl,h,fun _ _=>rfl,fun _ _=>rfl⟩
 |fail=>intro lv A o hk V E Y h;cases hk
 |exit m id=>intro lv A o hk V E Y h;cases hk;exact⟨.exit id,_,Y,_,V,by simp,rfl,h.keep m,fun _ _=>rfl,fun _ _=>rfl⟩
 |ret m=>intro lv A o hk V E Y h;cases hk;exact⟨.ret,_,Y,_,V,by simp,rfl,h.keep m,fun _ _=>rfl,fun _ _=>rfl⟩
 |scope b ih=>intro lv A o hk V E Y h;exact ih lv A o hk V E Y h
 |ops l=>
  intro lv A o hk V E Y h;simp only[abK,Option.map_eq_some_iff]at hk;obtain⟨azs,has,rfl⟩:=hk;obtain⟨A',hA',V',E',Y',r1,c1,g1⟩:=QO hg hmt hcall l h has;refine⟨.normal,E',Y',A',V',List.mem_map.mpr ⟨A',hA',rfl⟩,?_,g1,ame c1.le h,amf c1.le h⟩;unfold dI;rw[r1]
 |plain l=>
  intro lv A o hk V E Y h;simp only[abK,Option.map_eq_some_iff]at hk;obtain⟨azs,has,rfl⟩:=hk;obtain⟨A',hA',V',E',Y',r1,c1,g1⟩:=QO hg hmt hcall l h has;refine⟨.normal,E',Y',A',V',List.mem_map.mpr ⟨A',hA',rfl⟩,?_,g1,ame c1.le h,amf c1.le h⟩;unfold dI;rw[r1]
 |drawn l=>
  intro lv A o hk V E Y h;simp only[abK]at hk;split at hk
  ·rename_i azs has;split at hk
   ·rename_i hc;rw[Bool.and_eq_true]at hc;cases hk;obtain⟨p,hp,V',E',Y',rs,ss,r1,le1,g1,r2,_,_,_,fin⟩:=acp (N:=A.heap.length) hg hmt hcall l (Nat.le_refl _) h has;have hre:dN C n ss l rs=true:=by
     have:=fin [] rfl (fun c z hz=>by simp at hz) (fun o ho c hc'=>by
      have h1:=List.all_eq_true.mp (List.all_eq_true.mp hc.2 o ho) c hc';simp only[decide_eq_true_eq]at h1;rw[List.nil_append];omega) (fun q hq=>by
      have h1:=List.all_eq_true.mp hc.1 p hp;unfold aag at h1;have h2:=List.all_eq_true.mp h1 q hq;simp only[Bool.and_eq_true,decide_eq_true_eq]at h2;refine⟨h2.1,fun c hc' w hw hb=>?_⟩;have h3:=List.all_eq_true.mp (List.all_eq_true.mp h2.2 c hc') _ hw;simp only[bne_self_eq_false,Bool.false_or,Bool.not_eq_true',Bool.and_eq_false_iff,decide_eq_false_iff_not]at h3;rcases h3 with h3|h3
      ·exact h3 hb.1
      ·exact h3 hb.2)
     simpa using this
    refine⟨.normal,E',Y',p.1,V',List.mem_map.mpr ⟨p,hp,rfl⟩,?_,g1,ame le1 h,amf le1 h⟩;unfold dI vw;rw[r1];dsimp only;rw[if_pos hre]
   ·cases hk
  ·cases hk
 |seq a b iha ihb=>
  intro lv A o hk V E Y h;simp only[abK]at hk;split at hk
  ·cases hk
  ·rename_i o1 ho1;split at hk
   ·rename_i o2 ho2;cases hk;obtain⟨x,E1,Y1,A1,V1,r1,r2,r3,r4,r5⟩:=iha _ _ _ ho1 V E Y h;cases x with
    |exit i=>
     refine⟨_,E1,Y1,A1,V1,List.mem_append_left _ (pR r1 (by simp)),?_,r3,r4,r5⟩
     unfold dI;rw[r2]
    |ret=>
     refine⟨_,E1,Y1,A1,V1,List.mem_append_left _ (pR r1 (by simp)),?_,r3,r4,r5⟩
     unfold dI;rw[r2]
    |normal=>
     obtain⟨J,hJ,W,gW,eW,eWρ⟩:=ah4 (k:=a) (base:=A) (lv:=D8 b++lv) r3 (uI r1);obtain⟨oJ,hoJ,hsub⟩:=NH ho2 J hJ;have hA1:=ahJ h r3 r4;have eWV:∀i,i<A.nx->W.ν[i]?=V.ν[i]?:=fun i hi=>by rw[eW i hi (by omega),r4 i hi]
     have hJn:=ahJ h gW eWV;have hA1h:=ad9 h r3 r5;have eWVρ:∀k,k<A.heap.length->W.ρ[k]?=V.ρ[k]?:=fun k hk=>by rw[eWρ k hk (by omega),r5 k hk]
     have hJh:=ad9 h gW eWVρ;obtain⟨x2,E2,Y2,A2,V2,s1,s2,s3,s4,s5⟩:=ihb _ _ _ hoJ W E1 Y1 gW;refine⟨x2,E2,Y2,A2,V2,List.mem_append_right _ (hsub _ s1),?_,s3,fun i hi=>by rw[s4 i (by omega),eWV i hi],fun k hk=>by rw[s5 k (by omega),eWVρ k hk]⟩
     unfold dI;rw[r2];exact s2
   ·cases hk
 |cond c a b iha ihb=>
  intro lv A o hk V E Y h;simp only[abK]at hk;split at hk
  ·cases hk
  ·rename_i ws hws;obtain⟨bb,A',hm,he,g',hsame⟩:=YH hg h hws;obtain⟨x,hx,hsub⟩:=VA (f:=fun w:Bool×Ab=>if w.1 then abK X n a lv w.2 else abK X n b lv w.2) hk _ hm;cases bb with
   |true=>
    obtain⟨y,E1,Y1,A1,V1,r1,r2,r3,r4,r5⟩:=iha lv A' x hx V E Y g';refine⟨y,E1,Y1,A1,V1,hsub _ r1,?_,r3,fun i hi=>r4 i (by rw[hsame.nx];exact hi),fun k hk=>r5 k (by rw[hsame.heap];exact hk)⟩
    unfold dI;rw[he];exact r2
   |false=>
    obtain⟨y,E1,Y1,A1,V1,r1,r2,r3,r4,r5⟩:=ihb lv A' x (by simpa using hx) V E Y g'
    refine⟨y,E1,Y1,A1,V1,hsub _ r1,?_,r3,fun i hi=>r4 i (by rw[hsame.nx];exact hi),fun k hk=>r5 k (by rw[hsame.heap];exact hk)⟩
    unfold dI;rw[he];exact r2
 |block id b ih=>
  intro lv A o hk V E Y h;simp only[abK]at hk;split at hk
  ·rename_i o1 ho1;cases hk;obtain⟨x,E1,Y1,A1,V1,r1,r2,r3,r4,r5⟩:=ih _ _ _ ho1 V E Y h;refine⟨outOf id x,E1,Y1,A1,V1,List.mem_map.mpr ⟨_,r1,rfl⟩,?_,r3,r4,r5⟩;unfold dI;rw[r2];cases x with
   |exit i=>rfl
   |ret=>rfl
   |normal=>rfl
  ·cases hk
 |loop m b ih=>
  intro lv A o hk V E Y h;have hk:Xj m (fun H=>abK X n b m H) A=some o:=hk;unfold Xj at hk;split at hk
  ·rename_i o1 ho1;cases hk;exact ajK (body:=dI C (ai C) n b) (fun H o ho V E Y g=>ih m H o ho V E Y g) ho1 h
  ·exact aiM (body:=dI C (ai C) n b) (fun H o ho V E Y g=>ih m H o ho V E Y g) 6 hk h
end
theorem Jq:∀(fs:List Nat) (O:St),(freeze O fs).length=O.length
 |[],O=>rfl
 |o::fs,O=>by
  unfold freeze;split
  ·rw[Jq fs];simp
  ·exact Jq fs O
theorem LW{O O1:St}{azs as':LA}(h:hand false azs O=some (as',O1)):O1.length=O.length:=by
 have h:(match bZ O 12 azs with|some (l,fs)=>some (l,freeze O fs)|none=>none)=some (as',O1):=h
 split at h
 ·cases h;exact Jq _ O
 ·cases h
theorem UM{l:LA}(h:below 0 (bi l)=true):ae 0 l=true:=by
 unfold bi at h;split at h
 ·rw[ae,h];rfl
 ·rw[below]at h;exact h
theorem anf{V:Val}{l:List Sh}{w:LA}(h:Mt V l w):M V (ane l) (bi w):=by
 cases h with
 |nil=>exact .tup _ _ .nil
 |cons s t v b h1 h2=>
  cases h2 with
  |nil=>exact h1
  |cons s' t' v' b' h3 h4=>exact .tup _ _ (.cons _ _ _ _ h1 (.cons _ _ _ _ h3 h4))
theorem EI{V:Val}:∀{l:List Sh} {w:LA},Mt V l w->∀{i t:Nat} {s:Sh},la t (Iq i l)=some s->M V s (look (mg i w) t)
 |_,_,.nil,i,t,s,h=>by cases h
 |_,_,.cons s0 l v w h1 h2,i,t,s,h=>by
  simp only[Iq,la]at h;simp only[mg,look];split at h
  ·rename_i hi;cases h;rw[if_pos hi];exact h1
  ·rename_i hi;rw[if_neg hi];exact EI h2 h
section
variable{C:Ctx}{X:Cfg}{PK:PkI}{O0:Frm}{V:Vo}{A:Ab}{E:As}{Y:St}
theorem Qx(h:G PK O0 V A E Y):∀{rs:List XR} {l:List Sh},rsS A rs=some l->∃vs,bI E Y rs=some vs/\Mt V.toVal l vs
 |[],l,hr=>by cases hr;exact⟨[],rfl,.nil⟩
 |.tmp t::rs,l,hr=>by
  simp only[rsS]at hr;split at hr
  ·rename_i s r hs hr';cases hr;obtain⟨vs,h1,h2⟩:=Qx h hr';refine⟨look E t::vs,?_,.cons _ _ _ _ (h.env t s hs) h2⟩;unfold bI;rw[h1]
  ·cases hr
 |.cell t ag sz::rs,l,hr=>by
  simp only[rsS]at hr;split at hr
  ·rename_i k off r hs hr';obtain⟨vs,h1,h2⟩:=Qx h hr';split at hr
   ·rename_i c hc;split at hr
    ·rename_i s hl;cases hr;obtain⟨o,ho,he⟩:=L6 (h.env t _ hs);obtain⟨o',cs,q1,q2,q3,q4⟩:=h.heap _ _ hc;rw[ho]at q1;cases q1;obtain⟨y,hy,hm⟩:=FB q4 hl;refine⟨y::vs,?_,.cons _ _ _ _ hm h2⟩;unfold bI;rw[h1,he];dsimp only;rw[q3];dsimp only;rw[hy]
    ·cases hr
   ·cases hr
  ·cases hr
theorem adP (hg:BI C X) (hmt:J4 C X) (hs:Io C X PK) {K:KF} {O O1:St} {azs as':LA} (hh:hand false azs O=some (as',O1)) (hlen:as'.length<=K.ntmps) {F:Frm} (h:G PK F V A (mg 0 as') O1) {o:qG} (hk:abK X K.ntmps K.body [] A=some o) {res:Sh} (hcl:cl res=true) (he:endOk K res o=true):
  ∃v vs x A' V' E' Y1,(x,A')∈o/\yH C K false azs O=some (v,tidy O.length vs Y1)/\M V0 res v/\ae 0 vs=true/\G PK F V' A' E' Y1/\∀k,k<A.heap.length->V'.ρ[k]?=V.ρ[k]?:=by
 obtain⟨x,E',Y',A',V',r1,r2,g,_,gρ⟩:=afB hg hmt (Y7 hs) K.body [] A o hk V _ _ h;have hend:=List.all_eq_true.mp he _ r1;have fin:(match rsS A' K.results with
  |some l=>match Es A'.heap l with
   |some l=>sub A'.facts [] [] res (ane l)
   |none=>false
  |none=>false)=true->∃v vs Y1,(match bI E' Y' K.results with
   |none=>none
   |some vs=>match hand false vs Y' with
    |none=>none
    |some (vs,O3)=>some (bi vs,tidy O.length vs O3))=some (v,tidy O.length vs Y1)/\M V0 res v/\ae 0 vs=true/\G PK F V' A' E' Y1:=by
  intro hend;split at hend
  ·rename_i l hl;split at hend
   ·rename_i l' hl';obtain⟨vs,e1,e2⟩:=Qx g hl;obtain⟨vs',Y1,e3,e4,g1,_⟩:=ad7 g e2 hl';have hm:M V0 res (bi vs'):=Oo (Sb.into g1.zero g1.facts) (anf e4) hend;refine⟨bi vs',vs',Y1,?_,hm,UM (hm.nv hcl).cl,g1⟩;rw[e1];dsimp only;rw[e3]
   ·cases hend
  ·cases hend
 unfold yH;rw[hh];dsimp only;rw[if_neg (by omega),r2]
 cases x with
 |exit i=>cases hend
 |normal=>
  obtain⟨v,vs,Y1,f1,f2,f3,f4⟩:=fin hend;exact⟨v,vs,_,A',V',E',Y1,r1,f1,f2,f3,f4,gρ⟩
 |ret=>
  obtain⟨v,vs,Y1,f1,f2,f3,f4⟩:=fin hend;exact⟨v,vs,_,A',V',E',Y1,r1,f1,f2,f3,f4,gρ⟩
theorem adZ{n:Nat}{vs:LA}{Y:St}(hb:ae 0 vs=true)(ha:(Y.take n).all (AO.below n)=true)(hn:n<=Y.length):tidy n vs Y=Y.take n:=by
 unfold tidy;split
 ·rename_i hl;rw[List.take_of_length_le (by omega)]
 ·rw[ha,qj (Nat.zero_le n) hb];rfl
theorem Vd{O1 Y:St}(h1:O1.length<=Y.length)(h2:∀i,i<O1.length->Y[i]?=O1[i]?):Y.take O1.length=O1:=by
 apply List.ext_getElem?;intro i;rw[List.getElem?_take];split
 ·rename_i hi;exact h2 i hi
 ·rename_i hi;rw[List.getElem?_eq_none (by omega)]
theorem aij(hg:BI C X)(hmt:J4 C X)(hs:Io C X PK){K:KF}{O O1:St}{azs as':LA}(hok1:Ok O1)(hh:hand false azs O=some (as',O1))(hlen:as'.length<=K.ntmps)(h:G PK ⟨O1,[]⟩ V A (mg 0 as') O1){o:qG}(hk:abK X K.ntmps K.body [] A=some o){res:Sh}(hcl:cl res=true)(he:endOk K res o=true):∃v,yH C K false azs O=some (v,O1)/\M V0 res v:=by
 obtain⟨v,vs,x,A',V',E',Y1,_,f1,f2,f3,f4,_⟩:=adP hg hmt hs hh hlen h hk hcl he;have hn:O1.length=O.length:=LW hh;have ht:Y1.take O1.length=O1:=Vd f4.base.1 (fun i hi=>f4.base.2 i hi (by simp))
 refine⟨v,?_,f2⟩;rw[f1,<-hn,adZ (n:=O1.length) f3 (by rw[ht];exact hok1) f4.base.1,ht]
theorem G.start(PK:PkI){O1:St}(h:Ok O1)(E:As):G PK ⟨O1,[]⟩ ⟨V0,[]⟩ {env:=[],heap:=[],nx:=1,facts:=[]} E O1:=
 ⟨fun t s ht=>(by cases ht),rfl,rfl,rfl,rfl,fun f hf=>(by simp at hf),fun k x hk=>(by simp at hk),fun k k' a b _ ha=>(by simp at ha),fun k a ha=>(by simp at ha),fun k o ho=>(by simp[V0]at ho),⟨Nat.le_refl _,fun _ _ _=>rfl⟩,h⟩
theorem QN(hg:BI C X)(hmt:J4 C X)(hs:Io C X PK){f:FuncId}{K:KF}(hK:Has C f K){m:Sm}(h:abF X K m=true):fC C PK f m:=by
 cases m with
 |pure args res=>
  simp only[abF,Bool.and_eq_true,decide_eq_true_eq]at h;obtain⟨⟨⟨h1,h2⟩,h3⟩,h4⟩:=h;split at h4
  ·rename_i o ho;intro O azs as' O1 hok hh hok1 hm;rw[hK.run];obtain⟨V1,o1,g1,m1⟩:=CO (G.start PK hok1 (mg 0 as')) hm;refine aij hg hmt hs hok1 hh (by rw[hm.len];exact h3) (g1.envle (l:=Iq 0 (CJ {env:=[],heap:=[],nx:=1,facts:=[]} args).1) fun t s ht=>EI m1 ht) ho h2 h4
  ·cases h4
 |ro l args res=>
  simp only[abF,Bool.and_eq_true,decide_eq_true_eq]at h;obtain⟨⟨⟨⟨h0,h1⟩,h2⟩,h3⟩,h4⟩:=h;split at h4
  ·rename_i o ho;intro O q azs as' O1 cs fz hok hh hok1 hcs hl hm;rw[hK.run];obtain⟨V1,o1,g1,m1⟩:=CP (G.start PK hok1 (mg 0 (.ref q 0::as'))) hl;have hq:q<O1.length:=(List.getElem?_eq_some_iff.mp hcs).1;have hle:V1.toVal.le (⟨V1.ν,[some q]⟩:Val):=⟨fun _ _ hi=>hi,fun i a hi=>by rw[o1.ρ]at hi;simp[V0]at hi⟩
   have g2:G PK ⟨O1,[]⟩ ⟨⟨V1.ν,[some q]⟩,[[]]⟩ {(Ev.opened {env:=[],heap:=[],nx:=1,facts:=[]} l).2 with heap:=[.ro (Ev.opened {env:=[],heap:=[],nx:=1,facts:=[]} l).1]} (mg 0 (.ref q 0::as')) O1:=by
    refine⟨fun t s ht=>(g1.env t s ht).mono hle,g1.lν,rfl,rfl,g1.zero,fun f hf=>(g1.facts f hf).mono hle,fun k x hk=>?_,fun k k' a b hkk ha hb i hi=>?_,fun k a ha i hi=>?_,fun k o' ho'=>?_,g1.base,g1.ok⟩
    ·cases k with
     |zero=>
      simp at hk;subst hk;exact⟨q,cs,fz,rfl,rfl,⟨hq,by simp⟩,hcs,m1.mono hle⟩
     |succ k=>simp at hk
    ·cases k with
     |zero=>simp at ha;subst ha;simp at hi
     |succ k=>simp at ha
    ·cases k with
     |zero=>simp at ha;subst ha;simp at hi
     |succ k=>simp at ha
    ·cases k with
     |zero=>simp at ho';subst ho';exact hq
     |succ k=>simp at ho'
   obtain⟨V3,o3,g3,m3⟩:=CO g2 (hm.mono (U4 g2.zero));refine aij hg hmt hs hok1 hh (by rw[List.length_cons,hm.len];exact h3) (g3.envle (l:=(0,.ref 0 0)::Iq 1 (CJ {(Ev.opened {env:=[],heap:=[],nx:=1,facts:=[]} l).2 with heap:=[.ro (Ev.opened {env:=[],heap:=[],nx:=1,facts:=[]} l).1]} args).1) fun t s ht=>?_) ho h2 h4
   simp only[la]at ht;simp only[mg,look];split at ht
   ·rename_i hi;cases ht;rw[if_pos hi];exact .ref _ _ q (o3.le.ρ 0 (some q) rfl)
   ·rename_i hi;rw[if_neg hi];exact EI m3 ht
  ·cases h4
 |pof args=>cases h
 |pk args res=>cases h
 |chg H args res=>
  simp only[abF,Bool.and_eq_true,decide_eq_true_eq]at h;obtain⟨⟨⟨h1,h2⟩,h3⟩,h4⟩:=h;split at h4
  ·rename_i o ho;intro O azs as' O1 hok hh hok1 F W E0 gW hm;rw[hK.run];have hHk:∀(k:Nat) x,H[k]?=some x->okH x=true:=fun k x hx=>List.all_eq_true.mp h1 x (List.mem_of_getElem? hx);have gS:G PK ⟨O1,W.own.flatten⟩ W (Hab H) (mg 0 as') O1:=by
    refine⟨fun t s ht=>(by cases ht),gW.lν,gW.lρ,gW.lo,gW.zero,gW.facts,fun k x hk=>?_,gW.dis,fun k a ha i hi=>⟨.inr (List.mem_flatten.mpr ⟨a,List.mem_of_getElem? ha,hi⟩),(gW.rng k a ha i hi).2⟩,gW.ρl,⟨Nat.le_refl _,fun _ _ _=>rfl⟩,gW.ok⟩
    have h5:=gW.heap k x hk;have h6:=hHk k x hk;cases x with
    |cells l=>exact h5
    |map v=>exact h5
    |dead=>exact h5
    |ro l=>cases h6
    |arr a e=>cases h6
    |arrm a e=>cases h6
    |pk=>cases h6
   obtain⟨V1,o1,g1,l1,m1⟩:=MH (k0:=0) (m:=H.map fun _=>true) gS (H:=H) (fun j x hj=>by rw[Nat.zero_add];exact gS.heap j x hj)
   have g2:=g1.heapset (H:=(gm (Hab H) (H.map fun _=>true) H).1) (by rw[l1,o1.heap];rfl) (fun k x hk=>by have:=m1 k x hk;rwa[Nat.zero_add]at this)
   obtain⟨V3,o3,g3,m3⟩:=CO g2 (hm.mono o1.le);simp only[agm,Bool.and_eq_true]at h4;obtain⟨v,vs,x,A',V',E',Y1,r1,f1,f2,f3,f4,f5⟩:=adP hg hmt hs hh (by rw[hm.len];exact h3) (g3.envle (l:=Iq 0 (CJ {(gm (Hab H) (H.map fun _=>true) H).2 with heap:=(gm (Hab H) (H.map fun _=>true) H).1} args).1) fun t s ht=>EI m3 ht) ho h2 h4.1
   obtain⟨W2,gE,w1,w2,w3,_⟩:=BH f4 (List.all_eq_true.mp h4.2 _ r1);have hn:O1.length=O.length:=LW hh;have hheap:(CJ {(gm (Hab H) (H.map fun _=>true) H).2 with heap:=(gm (Hab H) (H.map fun _=>true) H).1} args).2.heap.length=H.length:=by rw[o3.heap];exact l1
   have hρ:∀k,k<H.length->W2.ρ[k]?=W.ρ[k]?:=fun k hk=>by
    have h6:k<V'.ρ.length:=by
     have h7:=f5 k (by show k<_;rw[hheap];exact hk)
     rw[o3.ρ]at h7;have h8:(V1.ρ)[k]?=W.ρ[k]?:=by rw[o1.ρ]
     have h9:k<W.ρ.length:=by rw[gW.lρ];exact hk
     rw[h8,List.getElem?_eq_getElem h9]at h7;exact(List.getElem?_eq_some_iff.mp h7).1
    rw[w2,aaG (List.getElem?_range hk) h6,f5 k (by show k<_;rw[hheap];exact hk),o3.ρ]
    show V1.ρ[k]?=_;rw[o1.ρ]
   have hW2:W2.toVal.le W.toVal:=by
    refine⟨fun i a ha=>?_,fun i a ha=>?_⟩
    ·have h0:=gE.zero;have hl:=gE.lν;cases i with
     |zero=>rw[h0]at ha;cases ha;exact gW.zero
     |succ i=>
      have:=(List.getElem?_eq_some_iff.mp ha).1;rw[hl]at this;simp[Hab]at this
    ·have:=(List.getElem?_eq_some_iff.mp ha).1;rw[gE.lρ]at this;rw[<-hρ i this];exact ha
   have hN:∀(k o:Nat),W2.ρ[k]?=some (some o)->o<O1.length:=fun k o hk=>gW.ρl k o (hW2.ρ _ _ hk);have hlt:O1.length<=Y1.length:=f4.base.1;have hall:(Y1.take O1.length).all (AO.below O1.length)=true:=by
    rw[List.all_eq_true];intro z hz;obtain⟨i,hi,rfl⟩:=List.mem_iff_getElem.mp hz;have hi1:i<O1.length:=by simp at hi;omega
    have hiτ:Y1[i]?=some ((Y1.take O1.length)[i]):=by rw[List.getElem_take];exact List.getElem?_eq_getElem (by omega)
    by_cases hw:i∈W.own.flatten
    ·obtain⟨a,ha,hia⟩:=List.mem_flatten.mp hw;obtain⟨k,hk,rfl⟩:=List.mem_iff_getElem.mp ha;have hkH:k<H.length:=by rw[gW.lo]at hk;exact hk
     have hx:H[k]?=some H[k]:=List.getElem?_eq_getElem hkH;have hs1:=gW.heap k _ hx;have hs2:=gE.heap k _ hx;have ho1:W.own[k]?=some W.own[k]:=List.getElem?_eq_getElem hk;have h6:=hHk k _ hx;revert hs1 hs2 h6;generalize H[k]=y;intro hs1 hs2 h6;cases y with
     |cells l=>
      obtain⟨q,cs,p1,p2,p3,p4⟩:=hs1;obtain⟨q',cs',p1',p2',p3',p4'⟩:=hs2;rw[hρ k hkH,p1]at p1';cases p1';rw[ho1]at p2;simp only[Option.some.injEq]at p2;rw[p2]at hia;simp at hia;subst hia;rw[p3']at hiτ;rw[<-Option.some.inj hiτ];exact Ms.bels hN p4'
     |map v=>
      obtain⟨q,cs,p1,p2,p3,p4⟩:=hs1;obtain⟨q',cs',p1',p2',p3',p4'⟩:=hs2;rw[hρ k hkH,p1]at p1';cases p1';rw[ho1]at p2;simp only[Option.some.injEq]at p2;rw[p2]at hia;simp at hia;subst hia;rw[p3']at hiτ;rw[<-Option.some.inj hiτ];exact RG _ fun p hp=>⟨(p4' p hp).1,M.bel hN (p4' p hp).2⟩
     |dead=>
      have hs1:W.own[k]?=some []:=hs1;rw[ho1]at hs1;simp only[Option.some.injEq]at hs1;rw[hs1]at hia;simp at hia
     |ro l=>cases h6
     |arr a e=>cases h6
     |arrm a e=>cases h6
     |pk=>cases h6
    ·have h7:=f4.base.2 i hi1 hw;rw[hiτ]at h7;exact List.all_eq_true.mp hok1 _ (List.mem_of_getElem? h7.symm)
   have hlen2:(Y1.take O1.length).length=O1.length:=by simp;omega
   refine⟨v,Y1.take O1.length,?_,f2,by unfold Ok;rw[hlen2];exact hall,hlen2,fun i hi=>?_,fun k y hy=>?_⟩
   ·rw[f1,<-hn,adZ f3 hall hlt]
   ·rw[List.getElem?_take];split
    ·rename_i hi1;refine f4.base.2 i hi1 fun hw=>?_;obtain⟨a,ha,hia⟩:=List.mem_flatten.mp hw;obtain⟨k,hk,rfl⟩:=List.mem_iff_getElem.mp ha;exact hi k _ (List.getElem?_eq_getElem hk) hia
    ·rename_i hi1;rw[List.getElem?_eq_none (by omega)]
   ·have hkH:k<H.length:=(List.getElem?_eq_some_iff.mp hy).1;have hs1:=gW.heap k _ hy;have hs2:=gE.heap k _ hy;have h6:=hHk k _ hy;cases y with
    |cells l=>
     obtain⟨q,cs,p1,p2,p3,p4⟩:=hs1;obtain⟨q',cs',p1',p2',p3',p4'⟩:=hs2;rw[hρ k hkH,p1]at p1';cases p1';refine⟨q,cs',p1,p2,?_,p4'.mono hW2⟩;rw[List.getElem?_take,if_pos (gW.ρl k q p1)];exact p3'
    |map v=>
     obtain⟨q,cs,p1,p2,p3,p4⟩:=hs1;obtain⟨q',cs',p1',p2',p3',p4'⟩:=hs2;rw[hρ k hkH,p1]at p1';cases p1';refine⟨q,cs',p1,p2,?_,fun p hp=>⟨(p4' p hp).1,(p4' p hp).2.mono hW2⟩⟩;rw[List.getElem?_take,if_pos (gW.ρl k q p1)];exact p3'
    |dead=>exact hs1
    |ro l=>cases h6
    |arr a e=>cases h6
    |arrm a e=>cases h6
    |pk=>cases h6
  ·cases h4
def Cfg.add(X:Cfg)(f:FuncId)(m:Sm):Cfg:={X with sm:=fun g=>if g=f then m::X.sm g else X.sm g}
theorem an4(hs:Io C X PK){f:FuncId}{m:Sm}(h:fC C PK f m):Io C (X.add f m) PK:=fun g q hq=>by
 by_cases hgf:g=f
 ·have hq:q∈(if g=f then m::X.sm g else X.sm g):=hq;rw[if_pos hgf]at hq;rcases List.mem_cons.mp hq with rfl|hq
  ·exact hgf▸h
  ·exact hs g q hq
 ·have hq:q∈(if g=f then m::X.sm g else X.sm g):=hq;rw[if_neg hgf]at hq;exact hs g q hq
end
def errs:List Int:=[10,3]
def alI(e:Int):LA:=[.int .u8 0,.int .i64 0,.str [],.nils,.nils,.nilMap,.int .i64 e]
def eY:PkI where
 ok Y o ms:=(∃(j:JV) (m:Nat) (es:List (AV×AV)) (e:Int),ms=[m]/\o≠m/\Y[o]?=some (.cells (j.cs++[.map m,.int .i64 e]) FZ)/\Y[m]?=some (.map es)/\∀p∈es,(∃s,p.1=.str s)/\∃n,p.2=.int .i64 n)\/(∃e∈errs,ms=[]/\Y[o]?=some (.cells (alI e) FZ))
 fr:=by
  rintro Y Y' o ms (⟨j,m,es,e,rfl,h1,h2,h3,h4⟩|⟨e,h1,rfl,h2⟩) hk
  ·exact .inl ⟨j,m,es,e,rfl,h1,(hk o (by simp)).trans h2,(hk m (by simp)).trans h3,h4⟩
  ·exact .inr ⟨e,h1,rfl,(hk o (by simp)).trans h2⟩
def HA:List HO:=[.cells [.jv,.map 1,.int .i64],.map (.int .i64)]
def HE(e:Int):List HO:=[.cells [.ic .u8 0,.ic .i64 0,.sc [],.nils,.nils,.nilM,.ic .i64 e]]
section
variable{C:Ctx}{X:Cfg}{O0:Frm}{V:Vo}{A:Ab}{E:As}{Y:St}
theorem alJ{V:Val}(e:Int):Ms V [.ic .u8 0,.ic .i64 0,.sc [],.nils,.nils,.nilM,.ic .i64 e] (alI e):=
 .one _ _ _ _ rfl (.ic _ _) (.one _ _ _ _ rfl (.ic _ _) (.one _ _ _ _ rfl (.sc _) (.one _ _ _ _ rfl .nils (.one _ _ _ _ rfl .nils (.one _ _ _ _ rfl .nilM (.one _ _ _ _ rfl (.ic _ _) .nil))))))
theorem acD{V:Val}{e:Int}{cs:LA}(h:Ms V [.ic .u8 0,.ic .i64 0,.sc [],.nils,.nils,.nilM,.ic .i64 e] cs):cs=alI e:=by
 obtain⟨v1,r1,rfl,m1,h⟩:=h.inv rfl;obtain⟨v2,r2,rfl,m2,h⟩:=h.inv rfl;obtain⟨v3,r3,rfl,m3,h⟩:=h.inv rfl;obtain⟨v4,r4,rfl,m4,h⟩:=h.inv rfl;obtain⟨v5,r5,rfl,m5,h⟩:=h.inv rfl;obtain⟨v6,r6,rfl,m6,h⟩:=h.inv rfl;obtain⟨v7,r7,rfl,m7,h⟩:=h.inv rfl;cases h;cases m1;cases m2;cases m3;cases m4;cases m5;cases m6;cases m7;rfl
theorem Zy{V:Val}{cs:LA}(h:Ms V [.jv,.map 1,.int .i64] cs):∃(j:JV) (m:Nat) (e:Int),cs=j.cs++[.map m,.int .i64 e]/\V.ρ[1]?=some (some m):=by
 cases h with
 |one _ _ _ _ h=>cases h
 |jv _ j b h=>
  obtain⟨v1,r1,rfl,m1,h⟩:=h.inv rfl;obtain⟨v2,r2,rfl,m2,h⟩:=h.inv rfl;cases h;obtain⟨m,h1,rfl⟩:=agM m1;cases m2;exact⟨j,m,_,rfl,h1⟩
theorem ajx{V:Val}(j:JV){m:Nat}(e:Int)(h:V.ρ[1]?=some (some m)):Ms V [.jv,.map 1,.int .i64] (j.cs++[.map m,.int .i64 e]):=
 .jv _ _ _ (.one _ _ _ _ rfl (.map _ _ h) (.one _ _ _ _ rfl (.int _ _) .nil))
theorem Qv{k:Nat}{a x:List Nat}(h:([x]:List (List Nat))[k]?=some a):k=0/\a=x:=by
 cases k with
 |zero=>simp at h;exact⟨rfl,h.symm⟩
 |succ k=>simp at h
theorem QA{k:Nat}{a x y:List Nat}(h:([x,y]:List (List Nat))[k]?=some a):(k=0/\a=x)\/(k=1/\a=y):=by
 rcases k with _|_|k
 ·simp at h;exact .inl ⟨rfl,h.symm⟩
 ·simp at h;exact .inr ⟨rfl,h.symm⟩
 ·simp at h
theorem aop{f:FuncId}{args:List Sh}{res:Sh}(h1:fC C eY f (.chg HA (.ref 0 0::args) res))(h2:∀e∈errs,fC C eY f (.chg (HE e) (.ref 0 0::args) res)):fC C eY f (.pk args res):=by
 intro O o ms azs as' O1 hok hh hok1 hp hm;rcases hp with⟨j,m,es,e,rfl,hne,ho,hmm,hes⟩|⟨e,he,rfl,ho⟩
 ·have hol:=(List.getElem?_eq_some_iff.mp ho).1;have hml:=(List.getElem?_eq_some_iff.mp hmm).1;have hle:V0.le (⟨[0],[some o,some m]⟩:Val):=U4 rfl;have g:G eY ⟨O1,[o,m]⟩ ⟨⟨[0],[some o,some m]⟩,[[o],[m]]⟩ (Hab HA) [] O1:=by
   refine⟨fun t s ht=>(by cases ht),rfl,rfl,rfl,rfl,fun f hf=>(by simp[Hab]at hf),fun k x hk=>?_,fun k k' a b hkk ha hb i hi hi'=>?_,fun k a ha i hi=>?_,fun k q hk=>?_,⟨Nat.le_refl _,fun _ _ _=>rfl⟩,hok1⟩
   ·rcases k with _|_|k
    ·simp[Hab,HA]at hk;subst hk;exact⟨o,_,rfl,rfl,ho,ajx j e rfl⟩
    ·simp[Hab,HA]at hk;subst hk;exact⟨m,es,rfl,rfl,hmm,fun p hp=>⟨(hes p hp).1,by obtain⟨n,hn⟩:=(hes p hp).2;rw[hn];exact .int _ _⟩⟩
    ·simp[Hab,HA]at hk
   ·rcases QA ha with⟨rfl,rfl⟩|⟨rfl,rfl⟩<;>rcases QA hb with⟨rfl,rfl⟩|⟨rfl,rfl⟩
    ·exact hkk rfl
    ·simp at hi hi';omega
    ·simp at hi hi';omega
    ·exact hkk rfl
   ·rcases QA ha with⟨rfl,rfl⟩|⟨rfl,rfl⟩<;>simp at hi<;>subst hi
    ·exact⟨.inr (by simp),hol⟩
    ·exact⟨.inr (by simp),hml⟩
   ·rcases k with _|_|k
    ·simp at hk;subst hk;exact hol
    ·simp at hk;subst hk;exact hml
    ·simp at hk
  obtain⟨v,O2,e1,e2,e3,e4,e5,e6⟩:=h1 O _ _ O1 hok hh hok1 _ _ _ g (.cons _ _ _ _ (.ref _ _ o rfl) (hm.mono hle));refine⟨v,O2,e1,e2,e3,e4,fun i hi=>e5 i fun k a ha hia=>?_,.inl ?_⟩
  ·rcases QA ha with⟨rfl,rfl⟩|⟨rfl,rfl⟩<;>simp at hia<;>subst hia<;>simp at hi
  ·obtain⟨o',cs,q1,q2,q3,q4⟩:=e6 0 _ rfl;obtain⟨m',es',p1,p2,p3,p4⟩:=e6 1 _ rfl;simp at q1 p1;subst q1 p1;obtain⟨j',m'',e',rfl,hρ⟩:=Zy q4;simp at hρ;subst hρ;exact⟨j',_,es',e',rfl,hne,q3,p3,fun p hp=>⟨(p4 p hp).1,by
    have:=(p4 p hp).2;revert this;generalize p.2=w;intro this;cases this;exact⟨_,rfl⟩⟩⟩
 ·have hol:=(List.getElem?_eq_some_iff.mp ho).1;have hle:V0.le (⟨[0],[some o]⟩:Val):=U4 rfl;have g:G eY ⟨O1,[o]⟩ ⟨⟨[0],[some o]⟩,[[o]]⟩ (Hab (HE e)) [] O1:=by
   refine⟨fun t s ht=>(by cases ht),rfl,rfl,rfl,rfl,fun f hf=>(by simp[Hab]at hf),fun k x hk=>?_,fun k k' a b hkk ha hb i hi hi'=>?_,fun k a ha i hi=>?_,fun k q hk=>?_,⟨Nat.le_refl _,fun _ _ _=>rfl⟩,hok1⟩
   ·rcases k with _|k
    ·simp[Hab,HE]at hk;subst hk;exact⟨o,_,rfl,rfl,ho,alJ e⟩
    ·simp[Hab,HE]at hk
   ·obtain⟨rfl,rfl⟩:=Qv ha;obtain⟨rfl,rfl⟩:=Qv hb;exact hkk rfl
   ·obtain⟨rfl,rfl⟩:=Qv ha;simp at hi;subst hi;exact⟨.inr (by simp),hol⟩
   ·rcases k with _|k
    ·simp at hk;subst hk;exact hol
    ·simp at hk
  obtain⟨v,O2,e1,e2,e3,e4,e5,e6⟩:=h2 e he O _ _ O1 hok hh hok1 _ _ _ g (.cons _ _ _ _ (.ref _ _ o rfl) (hm.mono hle));refine⟨v,O2,e1,e2,e3,e4,fun i hi=>e5 i fun k a ha hia=>?_,.inr ?_⟩
  ·obtain⟨rfl,rfl⟩:=Qv ha;simp at hia;subst hia;simp at hi
  ·obtain⟨o',cs,q1,q2,q3,q4⟩:=e6 0 _ rfl;simp at q1;subst q1;exact⟨e,he,rfl,by rw[acD q4]at q3;exact q3⟩
def akY:List Sh->Option Nat
 |[]=>none
 |.map k::_=>some k
 |_::l=>akY l
def L8(A:Ab)(k:Nat):Bool:=match A.heap[k]? with
 |some (.cells l)=>(match akY l with
  |some k'=>Uo (Hab HA) A [(0,0)] [k,k']
  |none=>errs.any fun e=>Uo (Hab (HE e)) A [(0,0)] [k])
 |_=>false
def alQ(K:KF)(o:qG):Bool:=o.all fun p=>match p.1 with
 |.exit _=>false
 |_=>match rsS p.2 K.results with
  |some [.ref k 0]=>L8 p.2 k
  |_=>false
theorem ZC{F:Frm}(h:G eY F V A E Y)(hF:F.w=[]){k o:Nat}(ho:V.ρ[k]?=some (some o))(hp:L8 A k=true):∃ms,eY.ok Y o ms/\∀i∈o::ms,F.length<=i/\i<Y.length:=by
 have hge:∀(W:Vo) (H:List HO) (E':As),G eY F W (Hab H) E' Y->∀(k:Nat) a,W.own[k]?=some a->∀i∈a,F.length<=i/\i<Y.length:=fun W H E' g k a ha i hi=>by
  have:=g.rng k a ha i hi;refine⟨?_,this.2⟩;rcases this.1 with h1|h1
  ·exact h1
  ·rw[hF]at h1;simp at h1
 unfold L8 at hp;split at hp
 ·rename_i l hl;split at hp
  ·rename_i k' hk';obtain⟨W,g,w1,w2,w3,_⟩:=BH h hp;obtain⟨o',cs,q1,q2,q3,q4⟩:=g.heap 0 _ rfl;obtain⟨m',es',p1,p2,p3,p4⟩:=g.heap 1 _ rfl;rw[w2]at q1;simp only[ρθ,List.map_cons,List.getElem?_cons_zero,ho,Option.some.injEq]at q1;have q1:some o=some o':=q1;cases q1;obtain⟨j',m'',e',rfl,hρ⟩:=Zy q4;rw[p1]at hρ;cases hρ;refine⟨[m'],.inl ⟨j',m',es',e',rfl,fun hne=>?_,q3,p3,fun p hp=>⟨(p4 p hp).1,by
    have:=(p4 p hp).2;revert this;generalize p.2=w;intro this;cases this;exact⟨_,rfl⟩⟩⟩,fun i hi=>?_⟩
   ·subst hne;exact g.dis 0 1 _ _ (by omega) q2 p2 o (by simp) (by simp)
   ·simp at hi;rcases hi with rfl|rfl
    ·exact hge W _ _ g 0 _ q2 i (by simp)
    ·exact hge W _ _ g 1 _ p2 i (by simp)
  ·obtain⟨e,he,hs⟩:=List.any_eq_true.mp hp;obtain⟨W,g,w1,w2,w3,_⟩:=BH h hs;obtain⟨o',cs,q1,q2,q3,q4⟩:=g.heap 0 _ rfl;rw[w2]at q1;simp only[ρθ,List.map_cons,List.getElem?_cons_zero,ho,Option.some.injEq]at q1;have q1:some o=some o':=q1;cases q1;refine⟨[],.inr ⟨e,he,rfl,by rw[acD q4]at q3;exact q3⟩,fun i hi=>?_⟩
   simp at hi;subst hi;exact hge W _ _ g 0 _ q2 i (by simp)
 ·cases hp
def afC(X:Cfg)(K:KF)(args:List Sh):Bool:=decide (args.length<=K.ntmps)&&(match abK X K.ntmps K.body [] (startA args)with
 |some o=>alQ K o
 |none=>false)
theorem amD(hg:BI C X)(hmt:J4 C X)(hs:Io C X eY){f:FuncId}{K:KF}(hK:Has C f K){args:List Sh}(h:afC X K args=true):fC C eY f (.pof args):=by
 simp only[afC,Bool.and_eq_true,decide_eq_true_eq]at h;obtain⟨h3,h4⟩:=h;split at h4
 ·rename_i o ho;intro O azs as' O1 hok hh hok1 hm;rw[hK.run];obtain⟨V1,o1,g1,m1⟩:=CO (G.start eY hok1 (mg 0 as')) hm;obtain⟨x,E',Y',A',V',r1,r2,g,_,_⟩:=afB hg hmt (Y7 hs) K.body [] _ o ho V1 _ _ (g1.envle (l:=Iq 0 (CJ {env:=[],heap:=[],nx:=1,facts:=[]} args).1) fun t s ht=>EI m1 ht);have hend:=List.all_eq_true.mp h4 _ r1;have hn:O1.length=O.length:=LW hh;have fin:(match rsS A' K.results with
   |some [.ref k 0]=>L8 A' k
   |_=>false)=true->∃(L:St) (o:Nat) (ms:List Nat),(match bI E' Y' K.results with
    |none=>none
    |some vs=>match hand false vs Y' with
     |none=>none
     |some (vs,O3)=>some (bi vs,tidy O.length vs O3))=some (.ref o 0,O1++L)/\Ok (O1++L)/\(∀i∈o::ms,O1.length<=i/\i<(O1++L).length)/\eY.ok (O1++L) o ms:=by
   intro hend;split at hend
   ·rename_i k hl;obtain⟨vs,e1,e2⟩:=Qx g hl;cases e2 with
    |cons _ _ v b m2 m3=>
     cases m3;obtain⟨q,hq,rfl⟩:=L6 m2;obtain⟨ms,p1,p2⟩:=ZC g rfl hq hend;have htake:Y'.take O1.length=O1:=Vd g.base.1 (fun i hi=>g.base.2 i hi (by simp))
     have hτ:Y'=O1++Y'.drop O1.length:=by
      conv=>lhs;rw[<-List.take_append_drop O1.length Y',htake]
     refine⟨Y'.drop O1.length,q,ms,?_,by rw[<-hτ];exact g.ok,by rw[<-hτ];exact p2,by rw[<-hτ];exact p1⟩
     rw[e1];dsimp only;rw[show hand false [AV.ref q 0] Y'=some ([.ref q 0],Y')from rfl];dsimp only;rw[wX (by
      have:¬q<O.length:=by
       have:=(p2 q (by simp)).1
       have h5:O1.length<=q:=this;omega
      simp only[ae,below,decide_eq_false this,Bool.false_and]),<-hτ]
     rfl
   ·cases hend
  unfold yH;rw[hh];dsimp only;rw[if_neg (by rw[hm.len];omega),r2]
  cases x with
  |exit i=>cases hend
  |normal=>exact fin hend
  |ret=>exact fin hend
 ·cases h4
def abG(X:Cfg)(K:KF):Sm->Bool
 |.pk args res=>abF X K (.chg HA (.ref 0 0::args) res)&&errs.all fun e=>abF X K (.chg (HE e) (.ref 0 0::args) res)
 |.pof args=>afC X K args
 |m=>abF X K m
theorem alx(hg:BI C X)(hmt:J4 C X)(hs:Io C X eY){f:FuncId}{K:KF}(hK:Has C f K){m:Sm}(h:abG X K m=true):fC C eY f m:=by
 cases m with
 |pk args res=>
  simp only[abG,Bool.and_eq_true]at h;exact aop (QN hg hmt hs hK h.1) fun e he=>QN hg hmt hs hK (List.all_eq_true.mp h.2 e he)
 |pof args=>exact amD hg hmt hs hK h
 |pure args res=>exact QN hg hmt hs hK h
 |ro l args res=>exact QN hg hmt hs hK h
 |chg H args res=>exact QN hg hmt hs hK h
def aaP(X:Cfg):List (FuncId×KF×Sm)->Option Cfg
 |[]=>some X
 |(f,K,m)::l=>match abG X K m with
  |true=>aaP (X.add f m) l
  |false=>none
theorem acr:∀{l:List (FuncId×KF×Sm)} {X X':Cfg},BI C X->J4 C X->Io C X eY->(∀p∈l,Has C p.1 p.2.1)->aaP X l=some X'->Io C X' eY/\BI C X'/\J4 C X'
 |[],X,X',hg,hmt,hs,_,h=>by cases h;exact⟨hs,hg,hmt⟩
 |(f,K,m)::l,X,X',hg,hmt,hs,hK,h=>by
  unfold aaP at h;split at h
  ·rename_i hf;exact acr (X:=X.add f m) hg hmt (an4 hs (alx hg hmt hs (hK (f,K,m) (by simp)) hf)) (fun p hp=>hK p (by simp[hp])) h
  ·cases h
end
section
variable{C:Ctx}{PK:PkI}
theorem agC{f:FuncId}{K:KF}(h:Has C f K){O O1:St}{azs as':LA}(hh:hand false azs O=some (as',O1))(hn:NVs as'):ai C f azs O=ai C f as' O1:=by
 rw[h.run,h.run];unfold yH;rw[hh,hn.hand O1];dsimp only;rw[LW hh]
theorem sQ{f:FuncId}{K:KF}{args:List Sh}{res:Sh}(hK:Has C f K)(hc:cls args=true)(h:∀azs,Mt V0 args azs->∀O,Ok O->∃v,ai C f azs O=some (v,O)/\M V0 res v):fC C PK f (.pure args res):=fun O azs as' O1 hok hh hok1 hm=>by
 rw[agC hK hh (Mt.nvs hm hc)];exact h as' hm O1 hok1
theorem aeX{O:St}{r:LA->Option (LA×List Nat)}{v:AV}{s:LU}{fs:List Nat}(h:aU O r v=some (.str s,fs)):v=.str s/\fs=[]:=by
 cases v<;>simp only[aU]at h<;>(first|(cases h;done)|skip)
 all_goals (repeat' split at h)<;>cases h
 all_goals exact⟨rfl,rfl⟩
theorem aeA{O O1:St}:∀{azs:LA} {ss:List LU},hand false azs O=some (ss.map .str,O1)->azs=ss.map .str/\O1=O:=by
 have key:∀{azs:LA} {ss:List LU} {fs:List Nat},aJ O (bZ O 11) azs=some (ss.map .str,fs)->azs=ss.map .str/\fs=[]:=by
  intro azs
  induction azs with
  |nil=>
   intro ss fs h;cases ss with
   |nil=>cases h;exact⟨rfl,rfl⟩
   |cons s ss=>cases h
  |cons a azs ih=>
   intro ss fs h;cases h1:aU O (bZ O 11) a with
   |none=>unfold aJ at h;rw[h1]at h;cases h
   |some p=>
    obtain⟨v,gs⟩:=p;cases h2:aJ O (bZ O 11) azs with
    |none=>unfold aJ at h;rw[h1,h2]at h;cases h
    |some q=>
     obtain⟨w,hs⟩:=q;unfold aJ at h;rw[h1,h2]at h;cases ss with
     |nil=>cases h
     |cons s ss=>
      simp only[List.map_cons,Option.some.injEq,Prod.mk.injEq,List.cons.injEq]at h;obtain⟨⟨rfl,rfl⟩,rfl⟩:=h;obtain⟨e1,e2⟩:=aeX h1;obtain⟨e3,e4⟩:=ih h2;exact⟨by rw[e1,e3];rfl,by rw[e2,e4];rfl⟩
 intro azs ss h;have h:(match bZ O 12 azs with|some (l,fs)=>some (l,freeze O fs)|none=>none)=some (ss.map AV.str,O1):=h
 rw[show bZ O 12 azs=aJ O (bZ O 11) azs from rfl]at h;cases h1:aJ O (bZ O 11) azs with
 |none=>rw[h1]at h;cases h
 |some p=>
  obtain⟨l,fs⟩:=p;rw[h1]at h;simp only[Option.some.injEq,Prod.mk.injEq]at h;obtain⟨rfl,rfl⟩:=h;obtain⟨e1,e2⟩:=key h1;exact⟨e1,by rw[e2];rfl⟩
theorem wO{V:Val}{v:AV}(h:M V .strb v):∃s,v=.str s/\s.length<=LB:=by cases h with|strb s e=>exact⟨s,rfl,e⟩
theorem VL{V:Val}{v:AV}(h:M V .jv v):∃j:JV,v=j.av:=by cases h with|jv j=>exact⟨j,rfl⟩
theorem SQ{V:Val}{a:Sh}{azs:LA}(h:Mt V [a] azs):∃x,azs=[x]/\M V a x:=by
 cases h with|cons _ _ x b h1 h2=>cases h2;exact⟨x,rfl,h1⟩
theorem agL{V:Val}{a b:Sh}{azs:LA}(h:Mt V [a,b] azs):∃x y,azs=[x,y]/\M V a x/\M V b y:=by
 cases h with|cons _ _ x c h1 h2=>obtain⟨y,rfl,h3⟩:=SQ h2;exact⟨x,y,rfl,h1,h3⟩
end
def YF(m:Nat):List Nat:=(List.range (Nat.log2 m+1)).filter fun t=>m.testBit t
def agt(g:Nat->KC×Nat):Nat->Nat->KC×Nat
 |0,m=>(.loop (YF m) (g m).1,m)
 |n+1,m=>match Nat.beq ((g m).2|||m) m with
  |true=>(.loop (YF m) (g m).1,m)
  |false=>agt g n ((g m).2|||m)
def ann(R:Nat):XC->Nat->(Nat->Nat)->KC×Nat
 |.skip,N,_=>(.skip,N)
 |.ops l,N,_=>(.ops l,Bv l N)
 |.drawn l,N,_=>(match Hr l with|true=>.plain l|false=>.drawn l,Bv l N)
 |.seq a b,N,X=>match ann R b N X with
  |(b,M)=>match ann R a M X with
   |(a,L)=>(.seq a b,L)
 |.cond c a b,N,X=>match ann R a N X with
  |(a,A)=>match ann R b N X with
   |(b,B)=>(.cond c a b,bits c.reads|||(A|||B))
 |.block id b,N,X=>match ann R b N fun i=>if i=id then N else X i with
  |(b,B)=>(.block id b,B)
 |.loop b,_,X=>agt (fun m=>ann R b m X) 60 0
 |.exit id,_,X=>(.exit (YF (X id)) id,X id)
 |.ret,_,_=>(.ret (YF R),R)
 |.scope b,N,X=>match ann R b N X with
  |(b,B)=>(.scope b,B)
 |.fail,_,_=>(.fail,0)
theorem OX{g:Nat->KC×Nat}{c:XC}(h:∀m,(g m).1.forget=c):∀n m,(agt g n m).1.forget=.loop c
 |0,m=>by unfold agt;simp only[KC.forget,h]
 |n+1,m=>by
  unfold agt;split
  ·simp only[KC.forget,h]
  ·exact OX h n _
theorem aaS(R:Nat):∀(c:XC) (N:Nat) (X:Nat->Nat),(ann R c N X).1.forget=c:=by
 intro c
 induction c with
 |skip=>intro N X;rfl
 |fail=>intro N X;rfl
 |ops l=>intro N X;rfl
 |exit id=>intro N X;rfl
 |ret=>intro N X;rfl
 |drawn l=>
  intro N X;unfold ann;cases Hr l<;>rfl
 |seq a b iha ihb=>
  intro N X;unfold ann;rcases hb:ann R b N X with⟨b',M⟩;have e:=ihb N X;rw[hb]at e;dsimp only at e⊢;rcases ha:ann R a M X with⟨a',L⟩;have e2:=iha M X;rw[ha]at e2;dsimp only at e2⊢;rw[KC.forget,e,e2]
 |cond c a b iha ihb=>
  intro N X;unfold ann;rcases hb:ann R b N X with⟨b',M⟩;have e:=ihb N X;rw[hb]at e;dsimp only at e⊢;rcases ha:ann R a N X with⟨a',L⟩;have e2:=iha N X;rw[ha]at e2;dsimp only at e2⊢;rw[KC.forget,e,e2]
 |block id b ih=>
  intro N X;unfold ann;rcases hb:ann R b N (fun i=>if i=id then N else X i)with⟨b',M⟩;have e:=ih N fun i=>if i=id then N else X i;rw[hb]at e;dsimp only at e⊢;rw[KC.forget,e]
 |scope b ih=>
  intro N X;unfold ann;rcases hb:ann R b N X with⟨b',M⟩;have e:=ih N X;rw[hb]at e;dsimp only at e⊢;rw[KC.forget,e]
 |loop b ih=>
  intro N X;unfold ann;exact OX (fun m=>ih m X) 60 0
def alB(x:XF):KF:=⟨x.nargs,x.ntmps,x.results,(ann (zx x.results) x.body (zx x.results) fun _=>zx x.results).1⟩
theorem OD(x:XF):(alB x).forget=x:=by
 unfold alB KF.forget;dsimp only;rw[aaS]
def kA(P:Program)(f:FuncId):KF:=alB ((cF P f).getD ⟨0,0,[],.fail⟩)
def QQ(P:Program)(f:FuncId):Bool:=(cF P f).isSome&&UR P f&&(kA P f).ok
theorem ajy{P:Program}{gl raw prim}{f:FuncId}(h:QQ P f=true)(hp:prim f=none)(hr:raw f=false):Has (gX P gl raw prim) f (kA P f):=by
 unfold QQ at h;rw[Bool.and_eq_true,Bool.and_eq_true]at h;refine XK ?_ h.1.2 h.2 hp hr;unfold kA;rw[OD];obtain⟨x,hx⟩:=Option.isSome_iff_exists.mp h.1.1;rw[hx];rfl
theorem amk{P:Program}{t:TypeId}{m:String}{f:FuncId}(h:methodOf P t .nilp m=some (f,.nilp))(v:AV):methodOf P t v m=some (f,v):=by
 unfold methodOf at h⊢;split at h
 ·rename_i i hi;split at h
  ·rename_i q hq;split at h
   ·cases h
   ·rename_i hp;split at h
    ·rename_i g p hg;split at h
     ·rename_i hv;cases h;simp only[if_neg hp,if_pos hv]
     ·cases h
    ·cases h
  ·cases h
 ·cases h
def ag5(mt:List (TypeId×String×FuncId))(h:List (FuncId×Sm)):Cfg:={gl:=fun _=>none,sm:=fun f=>(h.filter fun p=>Nat.beq p.1 f).map (·.2),mt:=fun t m=>(mt.find? fun p=>p.1==t&&p.2.1==m).map (·.2.2)}
theorem YN:∀{l:List (FuncId×KF×Sm)} {X X':Cfg},aaP X l=some X'->(∀f m,m∈X.sm f->m∈X'.sm f)/\∀p∈l,p.2.2∈X'.sm p.1
 |[],X,X',h=>by cases h;exact⟨fun _ _ h=>h,fun _ h=>by simp at h⟩
 |(f,K,m)::l,X,X',h=>by
  unfold aaP at h;split at h
  ·obtain⟨h1,h2⟩:=YN h;have add:∀g k,k∈X.sm g\/(g=f/\k=m)->k∈(X.add f m).sm g:=fun g k hk=>by
    unfold Cfg.add;dsimp only;rcases hk with hk|⟨rfl,rfl⟩
    ·by_cases e:g=f<;>simp[e,hk]<;>simp_all
    ·simp
   refine⟨fun g k hk=>h1 g k (add g k (.inl hk)),fun p hp=>?_⟩;rcases List.mem_cons.mp hp with rfl|hp
   ·exact h1 _ _ (add _ _ (.inr ⟨rfl,rfl⟩))
   ·exact h2 p hp
  ·cases h
def alc(P:Program)(l:List (FuncId×Sm)):List (FuncId×KF×Sm):=l.map fun p=>(p.1,kA P p.1,p.2)
theorem aeb{C:Ctx}{mt:List (TypeId×String×FuncId)}{hd:List (FuncId×Sm)}(h1:∀p∈mt,methodOf C.P p.1 .nilp p.2.1=some (p.2.2,.nilp))(h2:∀p∈hd,fC C eY p.1 p.2){rows:List (FuncId×Sm)}(h3:∀p∈rows,Has C p.1 (kA C.P p.1))(h:(aaP (ag5 mt hd) (alc C.P rows)).isSome=true):∀p∈rows,fC C eY p.1 p.2:=by
 obtain⟨X',hX⟩:=Option.isSome_iff_exists.mp h;have hs:=(acr (C:=C) (X:=ag5 mt hd) (fun n s hn=>by cases hn) (fun t m f hf v=>by
  obtain⟨p,hp,rfl⟩:=Option.map_eq_some_iff.mp hf;have e:=List.find?_some hp;simp only[Bool.and_eq_true,beq_iff_eq]at e;obtain⟨rfl,rfl⟩:=e;exact amk (h1 p (List.mem_of_find?_eq_some hp)) v) (fun f m hm=>by
  obtain⟨p,hp,rfl⟩:=List.mem_map.mp hm;have hq:=List.mem_filter.mp hp;have e:=Nat.eq_of_beq_eq_true hq.2;rw[<-e];exact h2 p hq.1) (fun p hp=>by
  obtain⟨q,hq,rfl⟩:=List.mem_map.mp hp;exact h3 q hq) hX).1
 exact fun p hp=>hs _ _ ((YN hX).2 _ (List.mem_map.mpr ⟨p,hp,rfl⟩))
noncomputable section
def inL(l:List Nat)(f:Nat):Bool:=List.rec (motive:=fun _=>Bool) false (fun x _ ih=>Bool.rec ih true (Nat.beq f x)) l
def ajo:List (FuncId×WY)->FuncId->Option WY
 |[],_=>none
 |(g,e)::l,f=>match Nat.beq f g with
  |true=>some e
  |false=>ajo l f
def tA(P:Program)(sp:List (FuncId×WY))(raw imp:List Nat)(M:MM):Tr2:=fun f=>match ajo sp f with
 |some e=>some e
 |none=>match QQ P f with
  |true=>some (.both (ahx (M f)) (kA P f) (inL raw f) (Bool.rec true false (inL imp f)))
  |false=>none
theorem XT{P:Program}{gl raw prim}{f:FuncId}(h:QQ P f=true):KOK (gX P gl raw prim) f (kA P f):=by
 unfold QQ at h;rw[Bool.and_eq_true,Bool.and_eq_true]at h;refine amc ?_ h.1.2 h.2;unfold kA;rw[OD];obtain⟨x,hx⟩:=Option.isSome_iff_exists.mp h.1.1;rw[hx];rfl
theorem acY{C:Ctx}:∀{l:List (FuncId×WY)},(∀p∈l,EOK C p.1 p.2)->∀f e,ajo l f=some e->EOK C f e
 |[],_,f,e,h=>by cases h
 |(g,k)::l,hl,f,e,h=>by
  unfold ajo at h;split at h
  ·rename_i hb;have:=Nat.eq_of_beq_eq_true hb;subst this;cases h;exact hl _ List.mem_cons_self
  ·exact acY (fun p hp=>hl p (by simp[hp])) f e h
theorem aoW{P:Program}{gl raw prim}{sp:List (FuncId×WY)}{rw_ imp:List Nat}{M:MM}(hs:∀p∈sp,EOK (gX P gl raw prim) p.1 p.2)(hM:MOK (gX P gl raw prim) M):∀f e,tA P sp rw_ imp M f=some e->EOK (gX P gl raw prim) f e:=by
 intro f e h;unfold tA at h;split at h
 ·rename_i e' he;cases h;exact acY hs f _ he
 ·split at h
  ·rename_i ha;cases h;exact⟨ahy hM f,XT ha⟩
  ·cases h
end
def trL:KC->List KC->List KC->KC×List KC×List KC
 |.seq a b,l,r=>match trL a l r with
  |(a,l,r)=>match trL b l r with
   |(b,s)=>(.seq a b,s)
 |.cond c a b,l,r=>match trL a l r with
  |(a,l,r)=>match trL b l r with
   |(b,s)=>(.cond c a b,s)
 |.block i b,l,r=>match trL b l r with
  |(b,s)=>(.block i b,s)
 |.scope b,l,r=>match trL b l r with
  |(b,s)=>(.scope b,s)
 |.loop m b,l,r=>match trL b l r with
  |(b,x::l,r)=>(.loop m x,l,r++[b])
  |(b,[],r)=>(.loop m b,[],r++[b])
 |c,l,r=>(c,l,r)
theorem rdU(n:Nat)(h:n<2^8):UInt8.ofBitVec (BitVec.ofFin ⟨n,h⟩)=UInt8.ofNat n:=by
 apply UInt8.toNat_inj.mp;rw[UInt8.toNat_ofNat'];exact(Nat.mod_eq_of_lt h).symm
theorem RD:(∀n:Nat,Int.ofNat (no_index (OfNat.ofNat n))=(OfNat.ofNat n:Int))/\(∀n:Nat,Int.negSucc n= -((n+1:Nat):Int))/\(∀(n:Nat) (h:n<2^8),UInt8.ofBitVec (BitVec.ofFin ⟨n,h⟩)=UInt8.ofNat n)/\(∀d i,(⟨some d,i,none,[]⟩:XOp)=o d i)/\(∀i,(⟨none,i,none,[]⟩:XOp)=u i)/\(∀d t b i,(⟨some d,i,some (t,b),[]⟩:XOp)=og d t b i)/\(∀d s,o d (.mv (.t s))=m d s)/\(∀n:Nat,((no_index (OfNat.ofNat n):Nat):Int)=OfNat.ofNat n)/\(∀n:Nat,UInt8.ofBitVec (BitVec.ofNat 8 n)=UInt8.ofNat n):=⟨fun _=>rfl,fun _=>rfl,rdU,fun _ _=>rfl,fun _=>rfl,fun _ _ _ _=>rfl,fun _ _=>rfl,fun _=>rfl,fun _=>rfl⟩
structure KSP(P:Program)(f:Nat)(ls:List KC)where
 k:KF
 p:(⟨(kA P f).nargs,(kA P f).ntmps,(kA P f).results,(trL (kA P f).body ls []).1⟩:KF)=k:=by conv=>lhs;reduce;simp only[RD,seval]
structure LSP(P:Program)(f:Nat)(ls:List KC)(i:Nat)where
 k:KC
 p:(trL (kA P f).body ls []).2.2.getD i .fail=k:=by conv=>lhs;reduce;simp only[RD,seval]
set_option maxRecDepth 1000000
abbrev nM:FuncId:=3
abbrev tZ:FuncId:=4
abbrev xM:FuncId:=5
abbrev pJ:FuncId:=6
abbrev kF:FuncId:=7
abbrev vC:FuncId:=8
abbrev zf:FuncId:=9
abbrev mW:FuncId:=10
abbrev zX:FuncId:=11
abbrev qY:FuncId:=12
abbrev zW:FuncId:=13
abbrev iV:FuncId:=14
abbrev nK:FuncId:=15
abbrev lF:FuncId:=16
abbrev pI:FuncId:=17
abbrev zU:FuncId:=20
abbrev La:FuncId:=22
abbrev XB:FuncId:=23
abbrev zQ:FuncId:=28
abbrev vz:FuncId:=29
abbrev wM:FuncId:=30
abbrev BP:FuncId:=31
abbrev mJ:FuncId:=32
abbrev qZ:FuncId:=33
abbrev tY:FuncId:=34
abbrev dY:FuncId:=35
abbrev nS:FuncId:=36
abbrev jW:FuncId:=37
abbrev lK:FuncId:=38
abbrev lQ:FuncId:=39
abbrev mG:FuncId:=40
abbrev zV:FuncId:=41
abbrev uj:FuncId:=42
abbrev pG:FuncId:=43
abbrev ru:FuncId:=44
abbrev vX:FuncId:=45
abbrev Zq:FuncId:=46
abbrev qg:FuncId:=56
abbrev abf:FuncId:=59
abbrev aet:FuncId:=61
abbrev iU:FuncId:=62
abbrev uh:FuncId:=64
abbrev ui:FuncId:=65
abbrev Iw:FuncId:=66
abbrev mQ:FuncId:=67
abbrev Vx:FuncId:=68
abbrev En:FuncId:=69
abbrev Em:FuncId:=70
abbrev Fa:FuncId:=71
abbrev xW:FuncId:=72
abbrev Bg:FuncId:=74
abbrev Ej:FuncId:=77
abbrev rX:FuncId:=78
abbrev mP:FuncId:=79
abbrev fK:FuncId:=80
abbrev ql:FuncId:=81
abbrev rO:FuncId:=82
abbrev fU:FuncId:=83
abbrev fA:FuncId:=84
abbrev Lh:FuncId:=85
abbrev dR:FuncId:=87
abbrev zg:FuncId:=89
abbrev zh:FuncId:=90
abbrev vF:FuncId:=91
abbrev abg:FuncId:=93
abbrev Ll:FuncId:=97
abbrev OV:FuncId:=98
abbrev dw:FuncId:=104
abbrev ji:FuncId:=105
abbrev Bh:FuncId:=106
abbrev zi:FuncId:=108
abbrev RQ:FuncId:=110
abbrev aZ:FuncId:=114
abbrev OU:FuncId:=115
abbrev BV:FuncId:=121
abbrev Fe:FuncId:=122
abbrev OW:FuncId:=123
abbrev xU:FuncId:=128
abbrev NM:FuncId:=132
abbrev Ac:FuncId:=133
abbrev rP:FuncId:=134
abbrev rD:FuncId:=136
abbrev nV:FuncId:=137
abbrev nU:FuncId:=138
abbrev ry:FuncId:=139
abbrev qX:FuncId:=141
abbrev BR:FuncId:=142
abbrev oW:FuncId:=143
abbrev oC:FuncId:=144
abbrev Jn:FuncId:=145
abbrev eH:FuncId:=146
abbrev fV:FuncId:=147
abbrev EZ:FuncId:=149
abbrev jS:FuncId:=150
abbrev E8:FuncId:=151
abbrev BQ:FuncId:=152
abbrev DD:FuncId:=153
abbrev DF:FuncId:=154
abbrev kX:FuncId:=163
abbrev dS:FuncId:=169
abbrev kC:FuncId:=170
abbrev iW:FuncId:=171
abbrev Fb:FuncId:=177
abbrev xR:FuncId:=178
abbrev Lj:FuncId:=181
abbrev NL:FuncId:=189
abbrev rq:FuncId:=190
abbrev Ae:FuncId:=191
abbrev DK:FuncId:=192
abbrev RP:FuncId:=193
abbrev nT:FuncId:=194
abbrev pK:FuncId:=195
abbrev mO:FuncId:=196
abbrev Ld:FuncId:=197
abbrev iJ:FuncId:=199
abbrev yQ:FuncId:=200
abbrev vY:FuncId:=211
abbrev mM:FuncId:=221
abbrev oO:FuncId:=230
abbrev Ep:FuncId:=235
abbrev mV:FuncId:=236
abbrev Vy:FuncId:=237
abbrev kz:FuncId:=240
abbrev BU:FuncId:=241
abbrev iY:FuncId:=242
abbrev oD:FuncId:=248
abbrev uD:FuncId:=249
abbrev E5:FuncId:=250
abbrev DC:FuncId:=251
abbrev Ad:FuncId:=252
abbrev jT:FuncId:=253
abbrev xw:FuncId:=254
abbrev gG:FuncId:=257
abbrev aW:FuncId:=285
abbrev zZ:FuncId:=286
abbrev Aa:FuncId:=287
abbrev xP:FuncId:=288
abbrev zY:FuncId:=289
abbrev xO:FuncId:=290
abbrev xN:FuncId:=291
abbrev rf:FuncId:=292
abbrev wK:FuncId:=293
abbrev wL:FuncId:=294
abbrev xQ:FuncId:=295
abbrev dU:FuncId:=296
abbrev yF:FuncId:=297
abbrev rV:FuncId:=298
abbrev gI:FuncId:=299
abbrev bQ:FuncId:=300
abbrev apD:FuncId:=306
abbrev Jl:FuncId:=307
abbrev Jm:FuncId:=308
abbrev bg:FuncId:=309
abbrev kw:FuncId:=311
abbrev ku:FuncId:=312
abbrev apF:FuncId:=315
abbrev DI:FuncId:=316
abbrev Af:FuncId:=317
abbrev Lc:FuncId:=318
abbrev NP:FuncId:=319
abbrev Jo:FuncId:=332
abbrev Eo:FuncId:=333
abbrev DL:FuncId:=342
abbrev Bi:FuncId:=343
abbrev kG:FuncId:=344
abbrev xu:FuncId:=345
abbrev DJ:FuncId:=351
abbrev rW:FuncId:=352
abbrev vG:FuncId:=353
abbrev Zv:Nat:=0
abbrev qm:Nat:=1
abbrev zl:Nat:=2
abbrev rY:Nat:=4
abbrev pM:Nat:=5
abbrev oG:Nat:=6
abbrev nX:Nat:=9
abbrev pO:Nat:=10
def Jy:LA:=List.replicate 256 .nilFunc
abbrev NZ:LU:=[0,1,2,2,3,3,3,3,4,4,4,4,4,4,4,4,5,5,5,5,5,5,5,5,5,5,5,5,5,5,5,5,6,6,6,6,6,6,6,6,6,6,6,6,6,6,6,6,6,6,6,6,6,6,6,6,6,6,6,6,6,6,6,6,7,7,7,7,7,7,7,7,7,7,7,7,7,7,7,7,7,7,7,7,7,7,7,7,7,7,7,7,7,7,7,7,7,7,7,7,7,7,7,7,7,7,7,7,7,7,7,7,7,7,7,7,7,7,7,7,7,7,7,7,7,7,7,7,8,8,8,8,8,8,8,8,8,8,8,8,8,8,8,8,8,8,8,8,8,8,8,8,8,8,8,8,8,8,8,8,8,8,8,8,8,8,8,8,8,8,8,8,8,8,8,8,8,8,8,8,8,8,8,8,8,8,8,8,8,8,8,8,8,8,8,8,8,8,8,8,8,8,8,8,8,8,8,8,8,8,8,8,8,8,8,8,8,8,8,8,8,8,8,8,8,8,8,8,8,8,8,8,8,8,8,8,8,8,8,8,8,8,8,8,8,8,8,8,8,8,8,8,8,8,8,8]
abbrev dM:LU:=[48,48,48,49,48,50,48,51,48,52,48,53,48,54,48,55,48,56,48,57,49,48,49,49,49,50,49,51,49,52,49,53,49,54,49,55,49,56,49,57,50,48,50,49,50,50,50,51,50,52,50,53,50,54,50,55,50,56,50,57,51,48,51,49,51,50,51,51,51,52,51,53,51,54,51,55,51,56,51,57,52,48,52,49,52,50,52,51,52,52,52,53,52,54,52,55,52,56,52,57,53,48,53,49,53,50,53,51,53,52,53,53,53,54,53,55,53,56,53,57,54,48,54,49,54,50,54,51,54,52,54,53,54,54,54,55,54,56,54,57,55,48,55,49,55,50,55,51,55,52,55,53,55,54,55,55,55,56,55,57,56,48,56,49,56,50,56,51,56,52,56,53,56,54,56,55,56,56,56,57,57,48,57,49,57,50,57,51,57,52,57,53,57,54,57,55,57,56,57,57]
abbrev KsA(f:Nat)(ls:List KC):Type:=KSP Go.Proofs.Tryz.prog f ls
abbrev LsA(f:Nat)(ls:List KC)(i:Nat):Type:=LSP Go.Proofs.Tryz.prog f ls i
noncomputable section
def uO:KF:=(.mk ?k:KsA 87 []).1
def Ci:KF:=(.mk ?k:KsA 141 []).1
def eQ:KC:=(.mk ?k:LsA 144 [] 0).1
attribute [local irreducible] eQ
def gK:KC:=(.mk ?k:LsA 144 [eQ] 1).1
attribute [local irreducible] gK
def gY:KF:=(.mk ?k:KsA 144 [eQ,gK]).1
def iO:KF:=(.mk ?k:KsA 9 []).1
def zG:KF:=(.mk ?k:KsA 29 []).1
def dF:KF:=(.mk ?k:KsA 12 []).1
def sU:KF:=(.mk ?k:KsA 43 []).1
def qR:KF:=(.mk ?k:KsA 33 []).1
def xA:KF:=(.mk ?k:KsA 40 []).1
def xB:KF:=(.mk ?k:KsA 32 []).1
def uz:KF:=(.mk ?k:KsA 37 []).1
def yL:KF:=(.mk ?k:KsA 36 []).1
def jC:KF:=(.mk ?k:KsA 35 []).1
def rH:KF:=(.mk ?k:KsA 39 []).1
def sV:KF:=(.mk ?k:KsA 34 []).1
def vV:KF:=(.mk ?k:KsA 38 []).1
def dP:KC:=(.mk ?k:LsA 31 [] 0).1
attribute [local irreducible] dP
def xg:KF:=(.mk ?k:KsA 31 [dP]).1
def oh:KC:=(.mk ?k:LsA 89 [] 0).1
attribute [local irreducible] oh
def yT:KF:=(.mk ?k:KsA 89 [oh]).1
def apE:KF:=(.mk ?k:KsA 306 []).1
def apC:KF:=(.mk ?k:KsA 315 []).1
def I8:KF:=⟨2,24,[(.cell 4 true 5),(.tmp 5)],(ckQ [o 4 (.new [cvU 0,cvI 0,cvI 0,cvI 0,cvE] none),cqI 5 0]
 (.seq (ckQ [m 7 1,cqC 8 .lss 0 true 7 0,m 9 8,og 10 9 false (.mv (.t 1)),og 11 9 false (.mv (.t 0)),og 12 9 false (.len 0 (.t 11)),og 13 9 false (.bin .gtr 0 false (.t 10) (.t 12)),o 14 (.pick (.t 9) (.c (.bool true)) (.t 13))]
 (.cond (.t 14)
 (ckQ [o 15 (.build [cvU 0,cvI 0,cvI 0,cvI 0,cvE] []),cqS 5 4 15,cqI 5 1]
 (.ret [4,5]))
 .skip))
 (ckQ [cqK 16 uD [],o 6 (.new Jy none),cqS 256 6 16]
 (ckQ [m 17 0,m 18 0,m 19 1,cqK 20 DC [18,19],cqK 21 E5 [6,17,20],cqE 22 21 0,cqE 23 21 1,cqS 5 4 22,m 5 23]
 (.ret [4,5])))))⟩
def Ox:KF:=(.mk ?k:KsA 291 []).1
def Oy:KF:=(.mk ?k:KsA 290 []).1
def Oz:KF:=(.mk ?k:KsA 288 []).1
def QF:KF:=(.mk ?k:KsA 289 []).1
def yU:KF:=(.mk ?k:KsA 292 []).1
def QG:KF:=(.mk ?k:KsA 286 []).1
def QH:KF:=(.mk ?k:KsA 287 []).1
def I9:KF:=(.mk ?k:KsA 307 []).1
def jD:KC:=(.mk ?k:LsA 251 [] 0).1
attribute [local irreducible] jD
def Ja:KF:=(.mk ?k:KsA 251 [jD]).1
def Dc:KF:=(.mk ?k:KsA 293 []).1
def AL:KF:=(.mk ?k:KsA 250 []).1
def lZ:KC:=(.mk ?k:LsA 294 [] 0).1
attribute [local irreducible] lZ
def zK:KF:=(.mk ?k:KsA 294 [lZ]).1
def bG:KC:=(.mk ?k:LsA 308 [] 0).1
attribute [local irreducible] bG
def Df:KF:=(.mk ?k:KsA 308 [bG]).1
def iQ:KC:=(.mk ?k:LsA 316 [] 0).1
attribute [local irreducible] iQ
def iP:KF:=(.mk ?k:KsA 316 [iQ]).1
def bK:KC:=(.mk ?k:LsA 56 [] 0).1
attribute [local irreducible] bK
def sK:KF:=(.mk ?k:KsA 56 [bK]).1
def oP:KF:=(.mk ?k:KsA 80 []).1
def gB:KC:=(.mk ?k:LsA 254 [] 0).1
attribute [local irreducible] gB
def BK:KF:=(.mk ?k:KsA 254 [gB]).1
def qU:KF:=(.mk ?k:KsA 192 []).1
def dm:KC:=(.mk ?k:LsA 133 [] 0).1
attribute [local irreducible] dm
def tN:KF:=(.mk ?k:KsA 133 [dm]).1
def lX:KF:=(.mk ?k:KsA 295 []).1
def bJ:KC:=(.mk ?k:LsA 195 [] 0).1
attribute [local irreducible] bJ
def lh:KF:=(.mk ?k:KsA 195 [bJ]).1
def bU:KF:=(.mk ?k:KsA 253 []).1
def jq:KF:=(.mk ?k:KsA 252 []).1
def bC:KC:=(.mk ?k:LsA 196 [] 0).1
attribute [local irreducible] bC
def jJ:KF:=(.mk ?k:KsA 196 [bC]).1
def aO:KF:=(.mk ?k:KsA 134 []).1
def kE:KF:=(.mk ?k:KsA 194 []).1
def aT:KC:=(.mk ?k:LsA 240 [] 0).1
attribute [local irreducible] aT
def gz:KF:=(.mk ?k:KsA 240 [aT]).1
def oU:KC:=(.mk ?k:LsA 44 [] 0).1
attribute [local irreducible] oU
def Gm:KF:=(.mk ?k:KsA 44 [oU]).1
def yN:KF:=(.mk ?k:KsA 138 []).1
def dB:KC:=(.mk ?k:LsA 139 [] 0).1
attribute [local irreducible] dB
def wC:KF:=(.mk ?k:KsA 139 [dB]).1
def wE:KF:=(.mk ?k:KsA 136 []).1
def yO:KF:=(.mk ?k:KsA 137 []).1
def JZ:KF:=(.mk ?k:KsA 85 []).1
def jZ:KC:=(.mk ?k:LsA 241 [] 0).1
attribute [local irreducible] jZ
def BL:KF:=(.mk ?k:KsA 241 [jZ]).1
def oz:KC:=(.mk ?k:LsA 108 [] 0).1
attribute [local irreducible] oz
def J3:KF:=(.mk ?k:KsA 108 [oz]).1
def uA:KF:=(.mk ?k:KsA 128 []).1
def OB:KF:=(.mk ?k:KsA 67 []).1
def bP:KC:=(.mk ?k:LsA 236 [] 0).1
attribute [local irreducible] bP
def lY:KF:=(.mk ?k:KsA 236 [bP]).1
def ja:KC:=(.mk ?k:LsA 171 [] 0).1
attribute [local irreducible] ja
def uU:KF:=(.mk ?k:KsA 171 [ja]).1
def iR:KC:=(.mk ?k:LsA 170 [] 0).1
attribute [local irreducible] iR
def pX:KF:=(.mk ?k:KsA 170 [iR]).1
def yX:KF:=(.mk ?k:KsA 181 []).1
def qF:KF:=(.mk ?k:KsA 242 []).1
def iM:KC:=(.mk ?k:LsA 115 [] 0).1
attribute [local irreducible] iM
def kP:KF:=(.mk ?k:KsA 115 [iM]).1
def dX:KC:=(.mk ?k:LsA 177 [] 0).1
attribute [local irreducible] dX
def aH:KF:=(.mk ?k:KsA 177 [dX]).1
def yC:KF:=(.mk ?k:KsA 235 []).1
def oQ:KF:=(.mk ?k:KsA 98 []).1
def eu:KF:=(.mk ?k:KsA 72 []).1
def jM:KF:=(.mk ?k:KsA 143 []).1
def qx:KF:=(.mk ?k:KsA 146 []).1
def gy:KF:=(.mk ?k:KsA 169 []).1
def jL:KF:=(.mk ?k:KsA 104 []).1
def dJ:KF:=⟨1,25,[(.tmp 2)],(ckQ [cqI 2 0]
 (.seq (ckQ [m 3 0,o 4 (.bin .geq 0 true (.t 3) (.c (.int .u64 4294967296)))]
 (.cond (.t 4)
 (ckQ [m 5 0,o 6 (.bin .shr 0 true (.t 5) (.c (.int .u64 32))),m 0 6]
 (.ops [cqI 2 32]))
 .skip))
 (.seq (ckQ [m 7 0,o 8 (.bin .geq 0 true (.t 7) (.c (.int .u64 65536)))]
 (.cond (.t 8)
 (ckQ [m 9 0,o 10 (.bin .shr 0 true (.t 9) (.c (.int .u64 16))),m 0 10]
 (.ops [m 11 2,cqC 12 .add 0 true 11 16,m 2 12]))
 .skip))
 (.seq (ckQ [m 13 0,o 14 (.bin .geq 0 true (.t 13) (.c (.int .u64 256)))]
 (.cond (.t 14)
 (ckQ [m 15 0,o 16 (.bin .shr 0 true (.t 15) (.c (.int .u64 8))),m 0 16]
 (.ops [m 17 2,cqC 18 .add 0 true 17 8,m 2 18]))
 .skip))
 (ckQ [m 19 2,m 20 0,o 21 (.i2i .u8 (.t 20)),o 22 (.idxStr (ccS NZ) (.t 21)),o 23 (.i2i .i64 (.t 22)),cqB 24 .add 0 false 19 23,m 2 24]
 (.ret [2]))))))⟩
def jY:KF:=(.mk ?k:KsA 311 []).1
def jX:KF:=(.mk ?k:KsA 312 []).1
def pW:KF:=(.mk ?k:KsA 299 []).1
def aN:KC:=
 (.seq (ckQ [m 19 4,cqC 20 .geq 0 true 19 8]
 (.cond (.t 20)
 .skip
 (.exit [0,1,4] 0)))
 (.block 1
 (ckQ [m 21 1,o 22 (.bin .rem 0 true (.t 21) (.c (.int .u64 100000000))),o 23 (.i2i .u32 (.t 22)),m 5 23]
 (ckQ [m 24 1,o 25 (.bin .quo 0 true (.t 24) (.c (.int .u64 100000000))),m 1 25]
 (ckQ [m 26 5,o 27 (.bin .quo 0 true (.t 26) (.c (.int .u32 10000))),m 28 5,o 29 (.bin .rem 0 true (.t 28) (.c (.int .u32 10000))),m 6 27,m 7 29]
 (ckQ [m 30 7,o 31 (.bin .quo 0 true (.t 30) (.c (.int .u32 100))),o 32 (.bin .mul 0 true (.t 31) (.c (.int .u32 2))),m 33 7,o 34 (.bin .rem 0 true (.t 33) (.c (.int .u32 100))),o 35 (.bin .mul 0 true (.t 34) (.c (.int .u32 2))),m 8 32,m 9 35]
 (ckQ [m 36 6,o 37 (.bin .quo 0 true (.t 36) (.c (.int .u32 100))),o 38 (.bin .mul 0 true (.t 37) (.c (.int .u32 2))),m 39 6,o 40 (.bin .rem 0 true (.t 39) (.c (.int .u32 100))),o 41 (.bin .mul 0 true (.t 40) (.c (.int .u32 2))),m 10 38,m 11 41]
 (.seq (.plain [m 42 0,m 43 4,cqC 44 .sub 0 true 43 1,m 45 0,m 46 4,cqC 47 .sub 0 true 46 2,m 48 9,o 49 (.bin .add 0 true (.t 48) (.c (.int .u32 1))),o 50 (.idxStr (ccS dM) (.t 49)),m 51 9,o 52 (.idxStr (ccS dM) (.t 51)),o 53 (.idxAddrSl 1 (.t 42) (.t 44)),cqS 1 53 50,o 54 (.idxAddrSl 1 (.t 45) (.t 47)),cqS 1 54 52])
 (.seq (.plain [m 55 0,m 56 4,cqC 57 .sub 0 true 56 3,m 58 0,m 59 4,cqC 60 .sub 0 true 59 4,m 61 8,o 62 (.bin .add 0 true (.t 61) (.c (.int .u32 1))),o 63 (.idxStr (ccS dM) (.t 62)),m 64 8,o 65 (.idxStr (ccS dM) (.t 64)),o 66 (.idxAddrSl 1 (.t 55) (.t 57)),cqS 1 66 63,o 67 (.idxAddrSl 1 (.t 58) (.t 60)),cqS 1 67 65])
 (.seq (.plain [m 68 0,m 69 4,cqC 70 .sub 0 true 69 5,m 71 0,m 72 4,cqC 73 .sub 0 true 72 6,m 74 11,o 75 (.bin .add 0 true (.t 74) (.c (.int .u32 1))),o 76 (.idxStr (ccS dM) (.t 75)),m 77 11,o 78 (.idxStr (ccS dM) (.t 77)),o 79 (.idxAddrSl 1 (.t 68) (.t 70)),cqS 1 79 76,o 80 (.idxAddrSl 1 (.t 71) (.t 73)),cqS 1 80 78])
 (.seq (.plain [m 81 0,m 82 4,cqC 83 .sub 0 true 82 7,m 84 0,m 85 4,cqC 86 .sub 0 true 85 8,m 87 10,o 88 (.bin .add 0 true (.t 87) (.c (.int .u32 1))),o 89 (.idxStr (ccS dM) (.t 88)),m 90 10,o 91 (.idxStr (ccS dM) (.t 90)),o 92 (.idxAddrSl 1 (.t 81) (.t 83)),cqS 1 92 89,o 93 (.idxAddrSl 1 (.t 84) (.t 86)),cqS 1 93 91])
 (.ops [m 94 4,cqC 95 .sub 0 true 94 8,m 4 95]))))))))))))
def dC:KF:=⟨2,167,[],(ckQ [m 17 0,cqN 18 1 17,m 4 18]
 (.seq (.block 0
 (.loop [0,1,4] aN))
 (ckQ [m 96 1,o 97 (.i2i .u32 (.t 96)),m 12 97]
 (.seq (ckQ [m 98 4,cqC 99 .geq 0 true 98 4]
 (.cond (.t 99)
 (ckQ [m 100 12,o 101 (.bin .rem 0 true (.t 100) (.c (.int .u32 10000))),m 13 101]
 (ckQ [m 102 12,o 103 (.bin .quo 0 true (.t 102) (.c (.int .u32 10000))),m 12 103]
 (ckQ [m 104 13,o 105 (.bin .quo 0 true (.t 104) (.c (.int .u32 100))),o 106 (.bin .mul 0 true (.t 105) (.c (.int .u32 2))),m 107 13,o 108 (.bin .rem 0 true (.t 107) (.c (.int .u32 100))),o 109 (.bin .mul 0 true (.t 108) (.c (.int .u32 2))),m 14 106,m 15 109]
 (.seq (.plain [m 110 0,m 111 4,cqC 112 .sub 0 true 111 1,m 113 0,m 114 4,cqC 115 .sub 0 true 114 2,m 116 15,o 117 (.bin .add 0 true (.t 116) (.c (.int .u32 1))),o 118 (.idxStr (ccS dM) (.t 117)),m 119 15,o 120 (.idxStr (ccS dM) (.t 119)),o 121 (.idxAddrSl 1 (.t 110) (.t 112)),cqS 1 121 118,o 122 (.idxAddrSl 1 (.t 113) (.t 115)),cqS 1 122 120])
 (.seq (.plain [m 123 0,m 124 4,cqC 125 .sub 0 true 124 3,m 126 0,m 127 4,cqC 128 .sub 0 true 127 4,m 129 14,o 130 (.bin .add 0 true (.t 129) (.c (.int .u32 1))),o 131 (.idxStr (ccS dM) (.t 130)),m 132 14,o 133 (.idxStr (ccS dM) (.t 132)),o 134 (.idxAddrSl 1 (.t 123) (.t 125)),cqS 1 134 131,o 135 (.idxAddrSl 1 (.t 126) (.t 128)),cqS 1 135 133])
 (.ops [m 136 4,cqC 137 .sub 0 true 136 4,m 4 137]))))))
 .skip))
 (.seq (ckQ [m 138 4,cqC 139 .geq 0 true 138 2]
 (.cond (.t 139)
 (ckQ [m 140 12,o 141 (.bin .rem 0 true (.t 140) (.c (.int .u32 100))),o 142 (.bin .mul 0 true (.t 141) (.c (.int .u32 2))),m 16 142]
 (ckQ [m 143 12,o 144 (.bin .quo 0 true (.t 143) (.c (.int .u32 100))),m 12 144]
 (.seq (.plain [m 145 0,m 146 4,cqC 147 .sub 0 true 146 1,m 148 0,m 149 4,cqC 150 .sub 0 true 149 2,m 151 16,o 152 (.bin .add 0 true (.t 151) (.c (.int .u32 1))),o 153 (.idxStr (ccS dM) (.t 152)),m 154 16,o 155 (.idxStr (ccS dM) (.t 154)),o 156 (.idxAddrSl 1 (.t 145) (.t 147)),cqS 1 156 153,o 157 (.idxAddrSl 1 (.t 148) (.t 150)),cqS 1 157 155])
 (.ops [m 158 4,cqC 159 .sub 0 true 158 2,m 4 159]))))
 .skip))
 (ckQ [m 160 4,cqC 161 .gtr 0 true 160 0]
 (.cond (.t 161)
 (.ops [m 162 0,m 163 12,o 164 (.bin .add 0 true (.c (.int .u32 48)) (.t 163)),o 165 (.i2i .u8 (.t 164)),o 166 (.idxAddrSl 1 (.t 162) (ccI 0)),cqS 1 166 165])
 .skip)))))))⟩
def nz:KF:=⟨1,15,[(.tmp 2)],(ckQ [o 2 (.mv (ccS []))]
 (.seq (ckQ [m 3 0,cqC 4 .lss 0 true 3 10]
 (.cond (.t 4)
 (ckQ [m 5 0,m 6 0,cqC 7 .add 0 true 6 1,o 8 (.sliceStr (ccS [48,49,50,51,52,53,54,55,56,57,97,98,99,100,101,102,103,104,105,106,107,108,109,110,111,112,113,114,115,116,117,118,119,120,121,122]) (some (.t 5)) (some (.t 7))),m 2 8]
 (.ret [2]))
 .skip))
 (ckQ [m 9 0,cqC 10 .mul 0 true 9 2,m 11 0,cqC 12 .mul 0 true 11 2,cqC 13 .add 0 true 12 2,o 14 (.sliceStr (ccS dM) (some (.t 10)) (some (.t 13))),m 2 14]
 (.ret [2]))))⟩
def dh:KF:=(.mk ?k:KsA 257 []).1
def yP:KF:=(.mk ?k:KsA 200 []).1
def QI:KF:=(.mk ?k:KsA 145 []).1
end
noncomputable section
def iC:KC:=(.mk ?k:LsA 11 [] 0).1
attribute [local irreducible] iC
def zJ:KF:=(.mk ?k:KsA 11 [iC]).1
def iq:KC:=(.mk ?k:LsA 41 [] 0).1
attribute [local irreducible] iq
def zH:KF:=(.mk ?k:KsA 41 [iq]).1
def tK:KF:=(.mk ?k:KsA 42 []).1
def ik:KC:=(.mk ?k:LsA 65 [] 0).1
attribute [local irreducible] ik
def tJ:KF:=(.mk ?k:KsA 65 [ik]).1
def jO:KC:=
 (.seq (ckQ [m 11 5,m 12 0,cqN 13 1 12,cqB 14 .lss 0 false 11 13]
 (.cond (.t 14)
 .skip
 (.exit [] 0)))
 (.seq (.block 1
 (.seq (.plain [m 17 0,m 18 5,o 19 (.idxAddrSl 2 (.t 17) (.t 18)),cqL 20 2 19,m 21 1,m 22 5,o 23 (.idxAddrSl 2 (.t 21) (.t 22)),cqL 24 2 23,cqB 25 .neq 10 false 20 24])
 (.cond (.t 25)
 (ckQ [cqT 4 false]
 (.ret [4]))
 .skip)))
 (.ops [m 15 5,cqC 16 .add 0 true 15 1,m 5 16])))
def tH:KF:=⟨2,26,[(.tmp 4)],(ckQ [cqT 4 false]
 (.seq (ckQ [m 6 0,cqN 7 1 6,m 8 1,cqN 9 1 8,cqB 10 .neq 0 false 7 9]
 (.cond (.t 10)
 (ckQ [cqT 4 false]
 (.ret [4]))
 .skip))
 (.seq (ckQ [cqI 5 0]
 (.block 0
 (.loop [0,1,5] jO)))
 (ckQ [cqT 4 true]
 (.ret [4])))))⟩
def eU:KC:=(.mk ?k:LsA 84 [] 0).1
attribute [local irreducible] eU
def ig:KC:=(.mk ?k:LsA 84 [eU] 1).1
attribute [local irreducible] ig
def kZ:KF:=(.mk ?k:KsA 84 [eU,ig]).1
def fM:KC:=(.mk ?k:LsA 82 [] 0).1
attribute [local irreducible] fM
def rJ:KF:=(.mk ?k:KsA 82 [fM]).1
def dG:KC:=(.mk ?k:LsA 83 [] 0).1
attribute [local irreducible] dG
def fQ:KF:=(.mk ?k:KsA 83 [dG]).1
def iy:KC:=(.mk ?k:LsA 13 [] 0).1
attribute [local irreducible] iy
def zI:KF:=(.mk ?k:KsA 13 [iy]).1
def vW:KF:=(.mk ?k:KsA 45 []).1
def fP:KF:=(.mk ?k:KsA 3 []).1
def tu:KF:=(.mk ?k:KsA 4 []).1
def qE:KF:=(.mk ?k:KsA 5 []).1
def pz:KF:=(.mk ?k:KsA 6 []).1
def uP:KF:=(.mk ?k:KsA 8 []).1
def sZ:KF:=(.mk ?k:KsA 28 []).1
def aY:KC:=(.mk ?k:LsA 14 [] 0).1
attribute [local irreducible] aY
def eP:KF:=(.mk ?k:KsA 14 [aY]).1
def bV:KC:=(.mk ?k:LsA 17 [] 0).1
attribute [local irreducible] bV
def kK:KF:=(.mk ?k:KsA 17 [bV]).1
def bW:KC:=(.mk ?k:LsA 15 [] 0).1
attribute [local irreducible] bW
def nC:KF:=(.mk ?k:KsA 15 [bW]).1
def dL:KC:=(.mk ?k:LsA 16 [] 0).1
attribute [local irreducible] dL
def gZ:KC:=(.mk ?k:LsA 16 [dL] 1).1
attribute [local irreducible] gZ
def sW:KF:=(.mk ?k:KsA 16 [dL,gZ]).1
def JX:KF:=(.mk ?k:KsA 22 []).1
def Ik:KF:=(.mk ?k:KsA 66 []).1
def jK:KF:=(.mk ?k:KsA 114 []).1
end
set_option maxRecDepth 100000
variable{C:Ctx}
def sC(s:LU):LA:=[.str s]
theorem yI(s:LU):(sC s).length=1:=rfl
theorem amS(ns:List LU):ns.map AV.str=ns.flatMap sC:=by
 induction ns with
 |nil=>rfl
 |cons a l ih=>rw[List.map_cons,ih];rfl
theorem Ux (ns:List LU) (hl:ns.length<=1099511627776) (O:St):∀(n i:Nat),i+n=ns.length->
  aB C (ai C) 26 [0,1,5] fM [(0,.sl ns.length (ns.flatMap sC)),(1,.sl ns.length (ns.flatMap sC)),(5,.int .i64 i)] O=some (.exit 0,[],O)
 |0,i,hi=>by
  rw[aA (he:=rfl)];have h:¬((i:Int)<(ns.length:Int)):=by omega
  simp only[fM,h,bH,EVX,seval]
 |n+1,i,hi=>by
  rw[aA (he:=rfl)];have h:((i:Int)<(ns.length:Int)):=by omega
  have h2:i<ns.length:=by omega
  have hb:ns[i]?=some ns[i]:=List.getElem?_eq_getElem h2;have hw:=wrS i (by omega)
  have h3:(0:Int)<=i:=by omega
  have fl:=dA yI ns;have fd:=lL yI hb;obtain⟨p,hpe⟩:∃p,p=ns[i]:=⟨_,rfl⟩;rw[<-hpe,Nat.mul_one]at fd;rw[Nat.mul_one]at fl;have pc:sC p=[.str p]:=rfl;have ih:=Ux ns hl O n (i+1) (by omega)
  generalize hk:aB C (ai C) 26 [0,1,5] fM=k at*;simp only[fM,h,h2,h3,hw,fl,fd,pc,bH,ih,List.cons_append,Nat.mul_one,EVX,seval]
theorem CV(ns:List LU):NV (.sl ns.length (ns.flatMap sC)):=.sl _ (by
 induction ns with
 |nil=>rfl
 |cons a l ih=>rw[List.flatMap_cons];show ae 0 (.str a::l.flatMap sC)=true;rw[ae,ih];rfl)
theorem PH(hC:Has C rO rJ)(ns:List LU)(hl:ns.length<=1099511627776)(O:St):ai C rO [.sl ns.length (ns.flatMap sC),.sl ns.length (ns.flatMap sC)] O=some (.bool true,O):=by
 rw[hC.go (NVs.hand (.cons (CV ns) (.cons (CV ns) .nil)) _)];have lp:=Ux (C:=C) ns hl O ns.length 0 (by omega)
 simp only[Int.cast_ofNat_Int]at lp;simp only[rJ,lp,bH,EVX,seval]
abbrev PS:=LU×LU
def pC(p:PS):LA:=[.str p.1,.str p.2]
theorem DZ(p:PS):(pC p).length=2:=rfl
theorem uJ(l:List PS):NV (.sl l.length (l.flatMap pC)):=.sl _ (nN (fun _=>rfl) l)
theorem OZ (l:List PS) (hl:l.length<=1099511627776) (O:St):∀(n i:Nat),i+n=l.length->
  aB C (ai C) 41 [0,1,5] dG [(0,.sl l.length (l.flatMap pC)),(1,.sl l.length (l.flatMap pC)),(5,.int .i64 i)] O=some (.exit 0,[],O)
 |0,i,hi=>by
  rw[aA (he:=rfl)];have h:¬((i:Int)<(l.length:Int)):=by omega
  simp only[dG,h,bH,EVX,seval]
 |n+1,i,hi=>by
  rw[aA (he:=rfl)];have h:((i:Int)<(l.length:Int)):=by omega
  have h2:i<l.length:=by omega
  have hb:l[i]?=some l[i]:=List.getElem?_eq_getElem h2;have hw:=wrS i (by omega)
  have h3:(0:Int)<=i:=by omega
  have fl:=dA DZ l;have fd:=lL DZ hb;obtain⟨p,hpe⟩:∃p,p=l[i]:=⟨_,rfl⟩;rw[<-hpe]at fd;have pc:pC p=[.str p.1,.str p.2]:=rfl;have ih:=OZ l hl O n (i+1) (by omega)
  generalize hk:aB C (ai C) 41 [0,1,5] dG=k at*;simp only[dG,h,h2,h3,hw,fl,fd,pc,bH,ih,List.cons_append,EVX,seval]
theorem CU(hC:Has C fU fQ)(l:List PS)(hl:l.length<=1099511627776)(O:St):ai C fU [.sl l.length (l.flatMap pC),.sl l.length (l.flatMap pC)] O=some (.bool true,O):=by
 rw[hC.go (NVs.hand (.cons (uJ l) (.cons (uJ l) .nil)) _)];have lp:=OZ (C:=C) l hl O l.length 0 (by omega)
 simp only[Int.cast_ofNat_Int]at lp;simp only[fQ,lp,bH,EVX,seval]
theorem VO (l:List PS) (hl:l.length<=1099511627776) (O:St):∀(n i:Nat),i+n=l.length->
  aB C (ai C) 26 [0,1,5] jO [(0,.sl l.length (l.flatMap pC)),(1,.sl l.length (l.flatMap pC)),(5,.int .i64 i)] O=some (.exit 0,[],O)
 |0,i,hi=>by
  rw[aA (he:=rfl)];have h:¬((i:Int)<(l.length:Int)):=by omega
  simp only[jO,h,bH,EVX,seval]
 |n+1,i,hi=>by
  rw[aA (he:=rfl)];have h:((i:Int)<(l.length:Int)):=by omega
  have h2:i<l.length:=by omega
  have hb:l[i]?=some l[i]:=List.getElem?_eq_getElem h2;have hw:=wrS i (by omega)
  have h3:(0:Int)<=i:=by omega
  have fl:=dA DZ l;have fd:=lL DZ hb;obtain⟨p,hpe⟩:∃p,p=l[i]:=⟨_,rfl⟩;rw[<-hpe]at fd;have pc:pC p=[.str p.1,.str p.2]:=rfl;have eq:iI (2/1024) [.str p.1,.str p.2] [.str p.1,.str p.2]=some true:=by simp[iI,Go.Ev.lm]
  have ih:=VO l hl O n (i+1) (by omega)
  generalize hk:aB C (ai C) 26 [0,1,5] jO=k at*;simp only[jO,h,h2,h3,hw,fl,fd,pc,bH,ih,List.cons_append,eq,List.take_succ_cons,List.take_zero,Option.map_some,Bool.not_true,EVX,seval]
theorem abU(hC:Has C uh tH)(l:List PS)(hl:l.length<=1099511627776)(O:St):ai C uh [.sl l.length (l.flatMap pC),.sl l.length (l.flatMap pC)] O=some (.bool true,O):=by
 rw[hC.go (NVs.hand (.cons (uJ l) (.cons (uJ l) .nil)) _)];have lp:=VO (C:=C) l hl O l.length 0 (by omega)
 simp only[Int.cast_ofNat_Int]at lp;simp only[tH,lp,bH,EVX,seval]
def aC(t:Int)(ns:List LU):LA:=[.int .i64 t,.sl ns.length (ns.flatMap sC)]
theorem akB(t:Int)(ns:List LU):NV (.agg (aC t ns)):=.agg (.cons (.int _ _) (.cons (CV ns) .nil))
theorem U8 (t:Int) (ns:List LU) (hl:ns.length<=1099511627776) (O:St):∀(n i:Nat),i+n=ns.length->
  aB C (ai C) 38 [2,3,5] ik [(2,.ref O.length 0),(3,.ref (O.length+1) 0),(5,.int .i64 i)] (O++[.cells (aC t ns) FZ,.cells (aC t ns) FZ])=some (.exit 0,[],O++[.cells (aC t ns) FZ,.cells (aC t ns) FZ])
 |0,i,hi=>by
  rw[aA (he:=rfl)];have h:¬((i:Int)<(ns.length:Int)):=by omega
  have fl:=dA yI ns;rw[Nat.mul_one]at fl;simp only[ik,aC,h,bH,cu,EVX,seval]
 |n+1,i,hi=>by
  rw[aA (he:=rfl)];have h:((i:Int)<(ns.length:Int)):=by omega
  have h2:i<ns.length:=by omega
  have hb:ns[i]?=some ns[i]:=List.getElem?_eq_getElem h2;have hw:=wrS i (by omega)
  have h3:(0:Int)<=i:=by omega
  have fl:=dA yI ns;have fd:=lL yI hb;obtain⟨p,hpe⟩:∃p,p=ns[i]:=⟨_,rfl⟩;rw[<-hpe,Nat.mul_one]at fd;rw[Nat.mul_one]at fl;have pc:sC p=[.str p]:=rfl;have ih:=U8 t ns hl O n (i+1) (by omega)
  generalize hk:aB C (ai C) 38 [2,3,5] ik=k at*;unfold aC at ih⊢;simp only[ik,h,h2,h3,hw,fl,fd,pc,bH,ih,cu,dW,List.cons_append,Nat.mul_one,EVX,seval]
theorem TS(hC:Has C ui tJ)(t:Int)(ns:List LU)(hl:ns.length<=1099511627776)(O:St)(hσ:Ok O):ai C ui [.agg (aC t ns),.agg (aC t ns)] O=some (.bool true,O):=by
 rw[hC.go (NVs.hand (.cons (akB t ns) (.cons (akB t ns) .nil)) _)];have lp:=U8 (C:=C) t ns hl O ns.length 0 (by omega)
 simp only[Int.cast_ofNat_Int]at lp;have fl:=dA yI ns;rw[Nat.mul_one]at fl;have ty:=df hσ (vs:=[.bool true]) rfl;unfold aC at lp⊢;simp only[tJ,lp,bH,ty,cu,dW,AV.cells,List.cons_append,EVX,seval]
theorem Ok.plus{Y:St}(h:Ok Y){L:St}(hl:L.all (AO.below 0)=true):Ok (Y++L):=h.app (by
 rw[List.all_eq_true]at*;exact fun x hx=>AO.below_mono (Nat.zero_le _) x (hl x hx))
def lG(k a z n:Int)(t:LU):LA:=[.int .u8 k,.int .i64 a,.int .i64 z,.int .i64 n,.str t]
abbrev BS:Type:={s:LU//s.length<=LB}
theorem lb0:([]:LU).length<=LB:=Nat.zero_le _
theorem lV{O:St}(hσ:Ok O)(k a z n:Int)(t:LU)(e:Int)(L:St):tidy O.length [.agg (lG k a z n t),.int .i64 e] (O++L)=O:=df hσ (vs:=[.agg (lG k a z n t),.int .i64 e]) rfl L
theorem CG(hC:Has C Jl I9)(k a:Int)(O:St)(hσ:Ok O):ai C Jl [.int .u8 k,.int .i64 a] O=some (.tup [.agg (lG k a (IntKind.i64.wrap (a+1)) 0 []),.int .i64 0],O):=by
 have ty:=lV hσ;unfold lG at*;rw[hC.go (NVs.hand (.cons (.int _ _) (.cons (.int _ _) .nil)) _)];simp only[I9,ty,bI,bu,AV.cells,AV.flat,EVX,seval]
structure AU(C:Ctx):Prop where
 sign:Has C Jl I9
 open_:Has C zZ QG
 shut_:Has C Aa QH
 first_:Has C xP Oz
 last_:Has C zY QF
 comma_:Has C xO Oy
 colon_:Has C xN Ox
theorem ahg(H:AU C)(s:LU)(a:Int)(O:St)(hσ:Ok O):ai C zZ [.str s,.int .i64 a] O=some (.tup [.agg (lG 1 a (IntKind.i64.wrap (a+1)) 0 []),.int .i64 0],O):=by
 have ty:=lV hσ;have q:=fun L hL=>CG H.sign 1 a (O++L) hL;have ok1:Ok (O++[.cells [.int .u8 0,.int .i64 0,.int .i64 0,.int .i64 0,.str []] FZ]):=hσ.plus rfl;have q:=q _ ok1;unfold lG at*;rw[H.open_.go (NVs.hand (.cons (.str _) (.cons (.int _ _) .nil)) _)];simp only[QG,ty,q,bI,bu,AV.cells,AV.flat,EVX,seval]
theorem ahj(H:AU C)(s:LU)(a:Int)(O:St)(hσ:Ok O):ai C Aa [.str s,.int .i64 a] O=some (.tup [.agg (lG 2 a (IntKind.i64.wrap (a+1)) 0 []),.int .i64 0],O):=by
 have ty:=lV hσ;have q:=fun L hL=>CG H.sign 2 a (O++L) hL;have ok1:Ok (O++[.cells [.int .u8 0,.int .i64 0,.int .i64 0,.int .i64 0,.str []] FZ]):=hσ.plus rfl;have q:=q _ ok1;unfold lG at*;rw[H.shut_.go (NVs.hand (.cons (.str _) (.cons (.int _ _) .nil)) _)];simp only[QH,ty,q,bI,bu,AV.cells,AV.flat,EVX,seval]
theorem aeP(H:AU C)(s:LU)(a:Int)(O:St)(hσ:Ok O):ai C xP [.str s,.int .i64 a] O=some (.tup [.agg (lG 3 a (IntKind.i64.wrap (a+1)) 0 []),.int .i64 0],O):=by
 have ty:=lV hσ;have q:=fun L hL=>CG H.sign 3 a (O++L) hL;have ok1:Ok (O++[.cells [.int .u8 0,.int .i64 0,.int .i64 0,.int .i64 0,.str []] FZ]):=hσ.plus rfl;have q:=q _ ok1;unfold lG at*;rw[H.first_.go (NVs.hand (.cons (.str _) (.cons (.int _ _) .nil)) _)];simp only[Oz,ty,q,bI,bu,AV.cells,AV.flat,EVX,seval]
theorem ahf(H:AU C)(s:LU)(a:Int)(O:St)(hσ:Ok O):ai C zY [.str s,.int .i64 a] O=some (.tup [.agg (lG 4 a (IntKind.i64.wrap (a+1)) 0 []),.int .i64 0],O):=by
 have ty:=lV hσ;have q:=fun L hL=>CG H.sign 4 a (O++L) hL;have ok1:Ok (O++[.cells [.int .u8 0,.int .i64 0,.int .i64 0,.int .i64 0,.str []] FZ]):=hσ.plus rfl;have q:=q _ ok1;unfold lG at*;rw[H.last_.go (NVs.hand (.cons (.str _) (.cons (.int _ _) .nil)) _)];simp only[QF,ty,q,bI,bu,AV.cells,AV.flat,EVX,seval]
theorem aeO(H:AU C)(s:LU)(a:Int)(O:St)(hσ:Ok O):ai C xO [.str s,.int .i64 a] O=some (.tup [.agg (lG 5 a (IntKind.i64.wrap (a+1)) 0 []),.int .i64 0],O):=by
 have ty:=lV hσ;have q:=fun L hL=>CG H.sign 5 a (O++L) hL;have ok1:Ok (O++[.cells [.int .u8 0,.int .i64 0,.int .i64 0,.int .i64 0,.str []] FZ]):=hσ.plus rfl;have q:=q _ ok1;unfold lG at*;rw[H.comma_.go (NVs.hand (.cons (.str _) (.cons (.int _ _) .nil)) _)];simp only[Oy,ty,q,bI,bu,AV.cells,AV.flat,EVX,seval]
theorem aeN(H:AU C)(s:LU)(a:Int)(O:St)(hσ:Ok O):ai C xN [.str s,.int .i64 a] O=some (.tup [.agg (lG 6 a (IntKind.i64.wrap (a+1)) 0 []),.int .i64 0],O):=by
 have ty:=lV hσ;have q:=fun L hL=>CG H.sign 6 a (O++L) hL;have ok1:Ok (O++[.cells [.int .u8 0,.int .i64 0,.int .i64 0,.int .i64 0,.str []] FZ]):=hσ.plus rfl;have q:=q _ ok1;unfold lG at*;rw[H.colon_.go (NVs.hand (.cons (.str _) (.cons (.int _ _) .nil)) _)];simp only[Ox,ty,q,bI,bu,AV.cells,AV.flat,EVX,seval]
def vU(b:UInt8):Bool:=b.toNat==32||b.toNat==9||b.toNat==10||b.toNat==13
def runN(p:UInt8->Bool)(s:LU)(i:Nat):Nat:=i+((s.drop i).takeWhile p).length
theorem Yj(p:UInt8->Bool)(s:LU)(i:Nat)(h:i<=s.length):runN p s i<=s.length:=by
 unfold runN;have h1:=(List.takeWhile_sublist p (l:=s.drop i)).length_le;rw[List.length_drop]at h1;omega
theorem adO(p:UInt8->Bool)(s:LU)(i:Nat):i<=runN p s i:=by unfold runN;omega
theorem MZ(p:UInt8->Bool)(s:LU)(i:Nat)(h:i<s.length)(hb:p s[i]=false):runN p s i=i:=by
 unfold runN;rw[List.drop_eq_getElem_cons h,List.takeWhile_cons,hb];rfl
theorem gu(p:UInt8->Bool)(s:LU)(i:Nat)(h:i<s.length)(hb:p s[i]=true):runN p s i=runN p s (i+1):=by
 unfold runN;rw[List.drop_eq_getElem_cons h,List.takeWhile_cons,hb];simp;omega
theorem MX(p:UInt8->Bool)(s:LU)(i:Nat)(h:s.length<=i):runN p s i=i:=by
 unfold runN;rw[List.drop_eq_nil_of_le h];rfl
theorem IE (s:LU) (hs:s.length<1099511627777) (O:St):∀(n i:Nat),i+n=s.length->
  aB C (ai C) 36 [0,1] jD [(0,.str s),(1,.int .i64 i)] O=some (.exit 0,[(1,.int .i64 (runN vU s i))],O)
 |0,i,hi=>by
  rw[aA (he:=rfl)];have h:¬((i:Int)<(s.length:Int)):=by omega
  have h':=MX vU s i (by omega)
  simp only[jD,h,h',EVX,seval]
 |n+1,i,hi=>by
  rw[aA (he:=rfl)];generalize hk:aB C (ai C) 36 [0,1] jD=k;have h:((i:Int)<(s.length:Int)):=by omega
  have h2:i<s.length:=by omega
  have hb:s[i]?=some s[i]:=List.getElem?_eq_getElem h2;have hw:=wrS i (by omega)
  have h3:(0:Int)<=i:=by omega
  have ih:=IE s hs O n (i+1) (by omega)
  rw[hk]at ih;cases c1:((s[i].toNat:Int)==32)
  ·cases c2:((s[i].toNat:Int)==9)
   ·cases c3:((s[i].toNat:Int)==10)
    ·cases c4:((s[i].toNat:Int)==13)
     ·have hx:vU s[i]=false:=by
       simp only[beq_eq_false_iff_ne,ne_eq]at c1 c2 c3 c4;simp[vU];omega
      simp only[jD,h,h3,hb,c1,c2,c3,c4,MZ vU s i h2 hx,EVX,seval]
     ·have hx:vU s[i]=true:=by
       simp only[beq_iff_eq]at c4;simp[vU];omega
      simp only[jD,h,h3,hb,hw,c1,c2,c3,c4,gu vU s i h2 hx,ih,EVX,seval]
    ·have hx:vU s[i]=true:=by
      simp only[beq_iff_eq]at c3;simp[vU];omega
     simp only[jD,h,h3,hb,hw,c1,c2,c3,gu vU s i h2 hx,ih,EVX,seval]
   ·have hx:vU s[i]=true:=by
     simp only[beq_iff_eq]at c2;simp[vU];omega
    simp only[jD,h,h3,hb,hw,c1,c2,gu vU s i h2 hx,ih,EVX,seval]
  ·have hx:vU s[i]=true:=by
    simp only[beq_iff_eq]at c1;simp[vU];omega
   simp only[jD,h,h3,hb,hw,c1,gu vU s i h2 hx,ih,EVX,seval]
theorem ahk(hC:Has C DC Ja)(s:LU)(hs:s.length<1099511627777)(i:Nat)(hi:i<=s.length)(O:St):ai C DC [.str s,.int .i64 i] O=some (.int .i64 (runN vU s i),O):=by
 have lp:=IE (C:=C) s hs O (s.length-i) i (by omega)
 rw[hC.go (NVs.hand (.cons (.str _) (.cons (.int _ _) .nil)) _)];simp only[Ja,lp,EVX,seval]
def Ih(b:UInt8):Bool:=decide (97<=b.toNat)&&decide (b.toNat<=122)
theorem IG (s:LU) (hs:s.length<1099511627777) (a4:AV) (a:Int) (O:St):∀(n i:Nat),i+n=s.length->
  aB C (ai C) 41 [0,1,4,6] lZ [(0,.str s),(1,.int .i64 a),(4,a4),(6,.int .i64 i)] O=some (.exit 0,[(0,.str s),(1,.int .i64 a),(4,a4),(6,.int .i64 (runN Ih s i))],O)
 |0,i,hi=>by
  rw[aA (he:=rfl)];have h:¬((i:Int)<(s.length:Int)):=by omega
  have h':=MX Ih s i (by omega)
  simp only[lZ,h,h',EVX,seval]
 |n+1,i,hi=>by
  rw[aA (he:=rfl)];generalize hk:aB C (ai C) 41 [0,1,4,6] lZ=k;have h:((i:Int)<(s.length:Int)):=by omega
  have h2:i<s.length:=by omega
  have hb:s[i]?=some s[i]:=List.getElem?_eq_getElem h2;have hw:=wrS i (by omega)
  have h3:(0:Int)<=i:=by omega
  have ih:=IG s hs a4 a O n (i+1) (by omega)
  rw[hk]at ih;by_cases c1:(97:Int)<=(s[i].toNat:Int)
  ·by_cases c2:(s[i].toNat:Int)<=122
   ·have hx:Ih s[i]=true:=by simp[Ih];omega
    simp only[lZ,h,h3,hb,hw,c1,c2,gu Ih s i h2 hx,ih,EVX,seval]
   ·have hx:Ih s[i]=false:=by simp[Ih];omega
    simp only[lZ,h,h3,hb,c1,c2,MZ Ih s i h2 hx,EVX,seval]
  ·have hx:Ih s[i]=false:=by simp[Ih];omega
   simp only[lZ,h,h3,hb,c1,MZ Ih s i h2 hx,EVX,seval]
def aea(v:AV):Prop:=∃k a z n t e,v=.tup [.agg (lG k a z n t),.int .i64 e]/\0<=z/\t.length<=LB
theorem ahm(hC:Has C wL zK)(s:LU)(hs:s.length<1099511627777)(i:Nat)(hi:i<=s.length)(O:St)(hσ:Ok O):∃v,ai C wL [.str s,.int .i64 i] O=some (v,O)/\aea v:=by
 have lp:=fun a4 a Y=>IG (C:=C) s hs a4 a Y (s.length-i) i (by omega)
 have ty:=lV hσ;have he:runN Ih s i<=s.length:=Yj Ih s i hi;have hg:=adO Ih s i;have h1:(0:Int)<=i:=by omega
 have h2:(0:Int)<=(runN Ih s i:Nat):=by omega
 rw[hC.go (NVs.hand (.cons (.str _) (.cons (.int _ _) .nil)) _)];generalize runN Ih s i=z at*;generalize hx:(s.take z).drop i=w;cases c1:decide (w=[116,114,117,101])
 ·cases c2:decide (w=[102,97,108,115,101])
  ·refine⟨_,?_,0,0,0,0,[],3,rfl,by omega,lb0⟩
   unfold lG at*;simp only[zK,lp,h1,h2,he,hg,hx,c1,c2,ty,bI,bu,AV.cells,AV.flat,EVX,seval]
  ·refine⟨_,?_,8,i,z,0,[],0,rfl,h2,lb0⟩;unfold lG at*;simp only[zK,lp,h1,h2,he,hg,hx,c1,c2,ty,bI,bu,AV.cells,AV.flat,EVX,seval]
 ·refine⟨_,?_,7,i,z,0,[],0,rfl,h2,lb0⟩;unfold lG at*;simp only[zK,lp,h1,h2,he,hg,hx,c1,ty,bI,bu,AV.cells,AV.flat,EVX,seval]
def aaL(C:Ctx):Prop:=∀(s:LU) (i:Nat) (Y:St),s.length<1099511627777->i<=s.length->Ok Y->∃n z e:Int,ai C Jm [.str s,.int .i64 i] Y=some (.tup [.int .i64 n,.int .i64 z,.int .i64 e],Y)/\0<=z
def Xg(C:Ctx):Prop:=∀(s:LU) (i:Nat) (Y:St),s.length<1099511627777->i<=s.length->Ok Y->∃(t:LU) (z e:Int),ai C bg [.str s,.int .i64 i] Y=some (.tup [.str t,.int .i64 z,.int .i64 e],Y)/\0<=z/\t.length<=LB
theorem abA(hC:Has C rf yU)(hn:aaL C)(s:LU)(hs:s.length<1099511627777)(i:Nat)(hi:i<=s.length)(O:St)(hσ:Ok O):∃v,ai C rf [.str s,.int .i64 i] O=some (v,O)/\aea v:=by
 have ok1:Ok (O++[.cells [.int .u8 0,.int .i64 0,.int .i64 0,.int .i64 0,.str []] FZ]):=hσ.plus rfl;obtain⟨n,z,e,q,hz⟩:=hn s i _ hs hi ok1;have ty:=lV hσ;rw[hC.go (NVs.hand (.cons (.str _) (.cons (.int _ _) .nil)) _)];by_cases c:e=0
 ·subst c;refine⟨_,?_,9,i,z,n,[],0,rfl,hz,lb0⟩;unfold lG at*;simp only[yU,q,ty,bI,bu,AV.cells,AV.flat,EVX,seval]
 ·have c':(e !=0)=true:=by simpa using c
  refine⟨_,?_,0,0,0,0,[],e,rfl,by omega,lb0⟩
  unfold lG at*;simp only[yU,q,c',ty,bI,bu,AV.cells,AV.flat,EVX,seval]
theorem ahl(hC:Has C wK Dc)(hn:Xg C)(s:LU)(hs:s.length<1099511627777)(i:Nat)(hi:i<=s.length)(O:St)(hσ:Ok O):∃v,ai C wK [.str s,.int .i64 i] O=some (v,O)/\aea v:=by
 have ok1:Ok (O++[.cells [.int .u8 0,.int .i64 0,.int .i64 0,.int .i64 0,.str []] FZ]):=hσ.plus rfl;obtain⟨n,z,e,q,hz⟩:=hn s i _ hs hi ok1;have ty:=lV hσ;rw[hC.go (NVs.hand (.cons (.str _) (.cons (.int _ _) .nil)) _)];by_cases c:e=0
 ·subst c;refine⟨_,?_,10,i,z,0,n,0,rfl,hz.1,hz.2⟩;unfold lG at*;simp only[Dc,q,ty,bI,bu,AV.cells,AV.flat,EVX,seval]
 ·have c':(e !=0)=true:=by simpa using c
  refine⟨_,?_,0,0,0,0,[],e,rfl,by omega,lb0⟩
  unfold lG at*;simp only[Dc,q,c',ty,bI,bu,AV.cells,AV.flat,EVX,seval]
def fnA(f:FuncId):AV:=.func (.func f) [] []
def yh(n:Nat):AV:=
 if n=123 then fnA zZ else if n=125 then fnA Aa else if n=91 then fnA xP else if n=93 then fnA zY else if n=44 then fnA xO else if n=58 then fnA xN else
 if n=34 then fnA wK else if n=45\/n=43\/n=46\/(48<=n/\n<=57)then fnA rf else if 97<=n/\n<=122 then fnA wL else .nilFunc
def vP:LA:=(List.range 256).map yh
theorem Ub:vP.length=256:=by simp[vP]
theorem af9{n:Nat}(h:n<256):vP[n]?=some (yh n):=by simp[vP,h]
theorem JH(n:Nat):yh n=fnA zZ\/yh n=fnA Aa\/yh n=fnA xP\/yh n=fnA zY\/yh n=fnA xO\/yh n=fnA xN\/yh n=fnA wK\/yh n=fnA rf\/yh n=fnA wL\/yh n=.nilFunc:=by
 unfold yh;repeat' split
 all_goals simp
theorem aal:vP.all AV.flat=true:=by
 rw[List.all_eq_true];intro x hx;obtain⟨n,_,rfl⟩:=List.mem_map.mp hx;rcases JH n with h|h|h|h|h|h|h|h|h|h<;>rw[h]<;>rfl
theorem Yi:ae 0 vP=true:=by
 have:∀l:List Nat,ae 0 (l.map yh)=true:=by
  intro l
  induction l with
  |nil=>rfl
  |cons n l ih=>
   rw[List.map_cons,ae,ih,Bool.and_true];rcases JH n with h|h|h|h|h|h|h|h|h|h<;>rw[h]<;>rfl
 exact this _
theorem aeV:splice Jy 0 vP=vP:=by
 have:Jy.length=256:=by simp[Jy]
 simp[splice,Ub,Jy]
def YM(C:Ctx):Prop:=∀Y,Ok Y->ai C uD [] Y=some (.agg vP,Y)
structure QJ(C:Ctx):Prop where
 sign:AU C
 skip:Has C DC Ja
 word:Has C wL zK
 number:Has C rf yU
 text:Has C wK Dc
 num:aaL C
 quo:Xg C
 rules:YM C
 token:Has C E5 AL
 next:Has C RP I8
theorem ahh(H:QJ C)(s:LU)(hs:s.length<1099511627777)(i:Nat)(hi:i<=s.length)(n:Nat)(hn:yh n≠ .nilFunc)(O:St)(hσ:Ok O):∃f v,yh n=fnA f/\ai C f [.str s,.int .i64 i] O=some (v,O)/\aea v:=by
 have hw:(0:Int)<=IntKind.i64.wrap ((i:Int)+1):=by rw[w64]<;>omega
 rcases JH n with h|h|h|h|h|h|h|h|h|h
 ·exact⟨_,_,h,ahg H.sign s i O hσ,_,_,_,_,_,_,rfl,hw,lb0⟩
 ·exact⟨_,_,h,ahj H.sign s i O hσ,_,_,_,_,_,_,rfl,hw,lb0⟩
 ·exact⟨_,_,h,aeP H.sign s i O hσ,_,_,_,_,_,_,rfl,hw,lb0⟩
 ·exact⟨_,_,h,ahf H.sign s i O hσ,_,_,_,_,_,_,rfl,hw,lb0⟩
 ·exact⟨_,_,h,aeO H.sign s i O hσ,_,_,_,_,_,_,rfl,hw,lb0⟩
 ·exact⟨_,_,h,aeN H.sign s i O hσ,_,_,_,_,_,_,rfl,hw,lb0⟩
 ·obtain⟨v,h1,h2⟩:=ahl H.text H.quo s hs i hi O hσ;exact⟨_,v,h,h1,h2⟩
 ·obtain⟨v,h1,h2⟩:=abA H.number H.num s hs i hi O hσ;exact⟨_,v,h,h1,h2⟩
 ·obtain⟨v,h1,h2⟩:=ahm H.word s hs i hi O hσ;exact⟨_,v,h,h1,h2⟩
 ·exact absurd h hn
theorem aeQ(H:QJ C)(s:LU)(hs:s.length<1099511627777)(i:Nat)(hi:i<=s.length)(O:St)(hσ:Ok O)(o:Nat)(fz:Fz)(ho:O[o]?=some (.cells vP fz)):∃v,ai C E5 [.ref o 0,.str s,.int .i64 i] O=some (v,O)/\aea v:=by
 have hn:hand false [.ref o 0,.str s,.int .i64 i] O=some ([.ref o 0,.str s,.int .i64 i],O):=rfl;have ty:=lV hσ;have ok1:Ok (O++[.cells [.int .u8 0,.int .i64 0,.int .i64 0,.int .i64 0,.str []] FZ]):=hσ.plus rfl;rw[H.token.go hn];by_cases h:i=s.length
 ·have h':((i:Int)==(s.length:Int))=true:=by simp[h]
  refine⟨_,?_,11,i,i,0,[],0,rfl,by omega,lb0⟩
  unfold lG at*;simp only[AL,h',ty,bI,bu,AV.cells,AV.flat,EVX,seval]
 ·have h':((i:Int)==(s.length:Int))=false:=by simp;omega
  have h2:i<s.length:=by omega
  have h3:(0:Int)<=i:=by omega
  have hb:s[i]?=some s[i]:=List.getElem?_eq_getElem h2;have hr:=af9 (UInt8.toNat_lt s[i]);obtain⟨r,hr⟩:=drop_at hr;have h256:s[i].toNat<256:=UInt8.toNat_lt _;have hp:(0:Int)<=(s[i].toNat:Int):=by omega
  have ho2:∀L:St,(O++L)[o]?=some (.cells vP fz):=fun L=>by rw[List.getElem?_append_left (List.getElem?_eq_some_iff.mp ho).1];exact ho
  by_cases hnil:yh s[i].toNat=.nilFunc
  ·refine⟨_,?_,0,0,0,0,[],3,rfl,by omega,lb0⟩
   unfold lG at*;rw[hnil]at hr;simp only[AL,h',h3,hb,ho2,hr,hp,h256,ty,bI,bu,AV.cells,AV.flat,EVX,seval]
  ·obtain⟨f,v,hf,hv,k,a,z,m,t,e,rfl,hz⟩:=ahh H s hs i hi _ hnil _ ok1;refine⟨_,?_,k,a,z,m,t,e,rfl,hz⟩;rw[hf]at hr;unfold lG fnA at*;simp only[AL,h',h3,hb,ho2,hr,hp,h256,hv,jk,ty,bI,bu,AV.cells,AV.flat,EVX,seval]
theorem ahe(H:QJ C)(s:LU)(hs:s.length<1099511627777)(i:Nat)(O:St)(hσ:Ok O):∃v,ai C RP [.str s,.int .i64 i] O=some (v,O)/\aea v:=by
 have ty:=lV hσ;have h3:¬((i:Int)<0):=by omega
 rw[H.next.go (NVs.hand (.cons (.str _) (.cons (.int _ _) .nil)) _)];by_cases h:i<=s.length
 ·have h':¬((s.length:Int)<(i:Int)):=by omega
  have ok1:Ok (O++[.cells [.int .u8 0,.int .i64 0,.int .i64 0,.int .i64 0,.str []] FZ]):=hσ.plus rfl;have q1:=H.rules _ ok1;have ok2:Ok (O++[.cells [.int .u8 0,.int .i64 0,.int .i64 0,.int .i64 0,.str []] FZ,.cells vP FZ]):=hσ.plus (by simp only[List.all_cons,List.all_nil,AO.below,Yi];rfl)
  have q2:=ahk H.skip s hs i h;obtain⟨v,q3,k,a,z,m,t,e,rfl,hz⟩:=aeQ H s hs (runN vU s i) (Yj vU s i h) _ ok2 (O.length+1) FZ (by simp[List.getElem?_append])
  have l256:Jy.length=256:=by simp[Jy]
  refine⟨_,?_,k,a,z,m,t,e,rfl,hz⟩;unfold lG at*;simp only[I8,h3,h',q1,q2,q3,Ub,aal,aeV,l256,ty,bI,bu,AV.cells,AV.flat,EVX,seval]
 ·have h':(s.length:Int)<(i:Int):=by omega
  refine⟨_,?_,0,0,0,0,[],1,rfl,by omega,lb0⟩
  unfold lG at*;simp only[I8,h3,h',ty,bI,bu,AV.cells,AV.flat,EVX,seval]
def IB(b:UInt8):Bool:=decide (48<=b.toNat)&&decide (b.toNat<=57)
theorem Ew (s:LU) (hs:s.length<9223372036854775807) (O:St):∀(n i:Nat),i+n=s.length->
  aB C (ai C) 38 [0,23,24] iQ [(0,.str s),(23,.int .i64 s.length),(24,.int .i64 i)] O=if(s.drop i).all IB then some (.exit 0,[],O)else some (.ret,[(2,.bool false)],O)
 |0,i,hi=>by
  rw[aA (he:=rfl)];have h:¬((i:Int)<(s.length:Int)):=by omega
  have h':s.drop i=[]:=List.drop_eq_nil_of_le (by omega)
  simp only[iQ,h,h',EVX,seval]
 |n+1,i,hi=>by
  rw[aA (he:=rfl)];generalize hk:aB C (ai C) 38 [0,23,24] iQ=k;have h:((i:Int)<(s.length:Int)):=by omega
  have h2:i<s.length:=by omega
  have hb:s[i]?=some s[i]:=List.getElem?_eq_getElem h2;have h':s.drop i=s[i]::s.drop (i+1):=List.drop_eq_getElem_cons h2;have hw:=wrS i (by omega)
  have h3:(0:Int)<=i:=by omega
  have ih:=Ew s hs O n (i+1) (by omega)
  rw[hk]at ih;by_cases c1:(s[i].toNat:Int)<48
  ·have hx:IB s[i]=false:=by simp[IB];omega
   simp only[iQ,h,h',h3,hb,c1,hx,Bool.false_and,EVX,seval]
  ·by_cases c2:(57:Int)<(s[i].toNat:Int)
   ·have hx:IB s[i]=false:=by simp[IB];omega
    simp only[iQ,h,h',h3,hb,c1,c2,hx,Bool.false_and,EVX,seval]
   ·have hx:IB s[i]=true:=by simp[IB];omega
    simp only[iQ,h,h',h3,hb,hw,c1,c2,hx,ih,Bool.true_and,EVX,seval]
theorem abM(hC:Has C DI iP)(s:LU)(hs:s.length<9223372036854775807)(O:St):∃b,ai C DI [.str s] O=some (.bool b,O):=by
 have fin:∀w:LU,w.length<9223372036854775807->aB C (ai C) 38 [0,23,24] iQ [(0,.str w),(23,.int .i64 w.length),(24,.int .i64 0)] O=if w.all IB then some (.exit 0,[],O)else some (.ret,[(2,.bool false)],O):=fun w hw=>by
  have:=Ew (C:=C) w hw O w.length 0 (by omega)
  simpa using this
 rw[hC.go (NVs.hand (.cons (.str _) .nil) _)];cases c0:decide (s=[48])
 case true=>exact⟨true,by simp only[iP,c0,EVX,seval]⟩
 cases s with
 |nil=>exact⟨false,by simp only[iP,EVX,seval]⟩
 |cons b l=>
  have h0:decide (b::l=[])=false:=by simp
  have hb:(b::l)[0]?=some b:=rfl;have hl:l.length<9223372036854775807:=by simp at hs;omega
  cases c1:((b.toNat:Int)==45)
  ·cases c2:((b.toNat:Int)==48)
   ·have f:=fin (b::l) hs;generalize b::l=w at*;cases ha:w.all IB
    ·rw[ha]at f;exact⟨false,by simp only[iP,c0,c1,c2,h0,hb,f,Int.toNat_zero,EVX,seval]⟩
    ·rw[ha]at f;exact⟨true,by simp only[iP,c0,c1,c2,h0,hb,f,Int.toNat_zero,EVX,seval]⟩
   ·generalize b::l=w at*;exact⟨false,by simp only[iP,c0,c1,c2,h0,hb,Int.toNat_zero,EVX,seval]⟩
  ·have hd:((b::l).take (b::l).length).drop 1=l:=by simp
   have h1:(1:Int)<=((b::l).length:Int):=by simp;omega
   have h1n:1<=(b::l).length:=by simp
   cases l with
   |nil=>exact⟨false,by simp only[iP,c0,c1,hb,Int.toNat_zero,Int.toNat_one,EVX,seval]⟩
   |cons b2 l2=>
    have h02:decide (b2::l2=[])=false:=by simp
    have hb2:(b2::l2)[0]?=some b2:=rfl;cases c2:((b2.toNat:Int)==48)
    ·have f:=fin (b2::l2) hl;generalize b::b2::l2=w at*;generalize b2::l2=w2 at*;cases ha:w2.all IB
     ·rw[ha]at f;exact⟨false,by simp only[iP,c0,c1,c2,h0,hb,h02,hb2,hd,h1n,f,Int.toNat_zero,Int.toNat_one,EVX,seval]⟩
     ·rw[ha]at f;exact⟨true,by simp only[iP,c0,c1,c2,h0,hb,h02,hb2,hd,h1n,f,Int.toNat_zero,Int.toNat_one,EVX,seval]⟩
    ·generalize b::b2::l2=w at*;generalize b2::l2=w2 at*;exact⟨false,by simp only[iP,c0,c1,c2,h0,hb,h02,hb2,hd,h1n,Int.toNat_zero,Int.toNat_one,EVX,seval]⟩
def dH(b:UInt8):Bool:=(decide (48<=b.toNat)&&decide (b.toNat<=57))||b.toNat==45||b.toNat==43||b.toNat==46||b.toNat==101||b.toNat==69
theorem IK (s:LU) (hs:s.length<9223372036854775807) (a:Int) (O:St):∀(n i:Nat),i+n=s.length->
  aB C (ai C) 61 [0,1,7] bG [(0,.str s),(1,.int .i64 a),(7,.int .i64 i)] O=some (.exit 0,[(0,.str s),(1,.int .i64 a),(7,.int .i64 (runN dH s i))],O)
 |0,i,hi=>by
  rw[aA (he:=rfl)];have h:¬((i:Int)<(s.length:Int)):=by omega
  have h':=MX dH s i (by omega)
  simp only[bG,h,h',EVX,seval]
 |n+1,i,hi=>by
  rw[aA (he:=rfl)];generalize hk:aB C (ai C) 61 [0,1,7] bG=k;have h:((i:Int)<(s.length:Int)):=by omega
  have h2:i<s.length:=by omega
  have hb:s[i]?=some s[i]:=List.getElem?_eq_getElem h2;have hw:=wrS i (by omega)
  have h3:(0:Int)<=i:=by omega
  have ih:=IK s hs a O n (i+1) (by omega)
  rw[hk]at ih;cases c0:((s[i].toNat:Int)==48)
  case true=>
   have hx:dH s[i]=true:=by
    simp only[beq_iff_eq]at c0;simp[dH];omega
   simp only[bG,h,h3,hb,hw,c0,gu dH s i h2 hx,ih,EVX,seval]
  cases c1:((s[i].toNat:Int)==49)
  case true=>
   have hx:dH s[i]=true:=by
    simp only[beq_iff_eq]at c1;simp[dH];omega
   simp only[bG,h,h3,hb,hw,c0,c1,gu dH s i h2 hx,ih,EVX,seval]
  cases c2:((s[i].toNat:Int)==50)
  case true=>
   have hx:dH s[i]=true:=by
    simp only[beq_iff_eq]at c2;simp[dH];omega
   simp only[bG,h,h3,hb,hw,c0,c1,c2,gu dH s i h2 hx,ih,EVX,seval]
  cases c3:((s[i].toNat:Int)==51)
  case true=>
   have hx:dH s[i]=true:=by
    simp only[beq_iff_eq]at c3;simp[dH];omega
   simp only[bG,h,h3,hb,hw,c0,c1,c2,c3,gu dH s i h2 hx,ih,EVX,seval]
  cases c4:((s[i].toNat:Int)==52)
  case true=>
   have hx:dH s[i]=true:=by
    simp only[beq_iff_eq]at c4;simp[dH];omega
   simp only[bG,h,h3,hb,hw,c0,c1,c2,c3,c4,gu dH s i h2 hx,ih,EVX,seval]
  cases c5:((s[i].toNat:Int)==53)
  case true=>
   have hx:dH s[i]=true:=by
    simp only[beq_iff_eq]at c5;simp[dH];omega
   simp only[bG,h,h3,hb,hw,c0,c1,c2,c3,c4,c5,gu dH s i h2 hx,ih,EVX,seval]
  cases c6:((s[i].toNat:Int)==54)
  case true=>
   have hx:dH s[i]=true:=by
    simp only[beq_iff_eq]at c6;simp[dH];omega
   simp only[bG,h,h3,hb,hw,c0,c1,c2,c3,c4,c5,c6,gu dH s i h2 hx,ih,EVX,seval]
  cases c7:((s[i].toNat:Int)==55)
  case true=>
   have hx:dH s[i]=true:=by
    simp only[beq_iff_eq]at c7;simp[dH];omega
   simp only[bG,h,h3,hb,hw,c0,c1,c2,c3,c4,c5,c6,c7,gu dH s i h2 hx,ih,EVX,seval]
  cases c8:((s[i].toNat:Int)==56)
  case true=>
   have hx:dH s[i]=true:=by
    simp only[beq_iff_eq]at c8;simp[dH];omega
   simp only[bG,h,h3,hb,hw,c0,c1,c2,c3,c4,c5,c6,c7,c8,gu dH s i h2 hx,ih,EVX,seval]
  cases c9:((s[i].toNat:Int)==57)
  case true=>
   have hx:dH s[i]=true:=by
    simp only[beq_iff_eq]at c9;simp[dH];omega
   simp only[bG,h,h3,hb,hw,c0,c1,c2,c3,c4,c5,c6,c7,c8,c9,gu dH s i h2 hx,ih,EVX,seval]
  cases c10:((s[i].toNat:Int)==45)
  case true=>
   have hx:dH s[i]=true:=by
    simp only[beq_iff_eq]at c10;simp[dH];omega
   simp only[bG,h,h3,hb,hw,c0,c1,c2,c3,c4,c5,c6,c7,c8,c9,c10,gu dH s i h2 hx,ih,EVX,seval]
  cases c11:((s[i].toNat:Int)==43)
  case true=>
   have hx:dH s[i]=true:=by
    simp only[beq_iff_eq]at c11;simp[dH];omega
   simp only[bG,h,h3,hb,hw,c0,c1,c2,c3,c4,c5,c6,c7,c8,c9,c10,c11,gu dH s i h2 hx,ih,EVX,seval]
  cases c12:((s[i].toNat:Int)==46)
  case true=>
   have hx:dH s[i]=true:=by
    simp only[beq_iff_eq]at c12;simp[dH];omega
   simp only[bG,h,h3,hb,hw,c0,c1,c2,c3,c4,c5,c6,c7,c8,c9,c10,c11,c12,gu dH s i h2 hx,ih,EVX,seval]
  cases c13:((s[i].toNat:Int)==101)
  case true=>
   have hx:dH s[i]=true:=by
    simp only[beq_iff_eq]at c13;simp[dH];omega
   simp only[bG,h,h3,hb,hw,c0,c1,c2,c3,c4,c5,c6,c7,c8,c9,c10,c11,c12,c13,gu dH s i h2 hx,ih,EVX,seval]
  cases c14:((s[i].toNat:Int)==69)
  case true=>
   have hx:dH s[i]=true:=by
    simp only[beq_iff_eq]at c14;simp[dH];omega
   simp only[bG,h,h3,hb,hw,c0,c1,c2,c3,c4,c5,c6,c7,c8,c9,c10,c11,c12,c13,c14,gu dH s i h2 hx,ih,EVX,seval]
  have hx:dH s[i]=false:=by
   simp only[beq_eq_false_iff_ne,ne_eq]at c0 c1 c2 c3 c4 c5 c6 c7 c8 c9 c10 c11 c12 c13 c14;simp[dH];omega
  simp only[bG,h,h3,hb,c0,c1,c2,c3,c4,c5,c6,c7,c8,c9,c10,c11,c12,c13,c14,MZ dH s i h2 hx,EVX,seval]
def acm(C:Ctx):Prop:=∀(s:LU) (Y:St),s.length<1099511627777->Ok Y->∃(n:Int) (v:AV),ai C Af [.str s,.int .i64 10,.int .i64 64] Y=some (.tup [.int .i64 n,v],Y)/\(v=.nilIface\/∃t x,v=.iface t x)
theorem ahH(hC:Has C Jm Df)(hf:Has C DI iP)(hp:acm C)(s:LU)(hs:s.length<1099511627777)(i:Nat)(hi:i<=s.length)(O:St)(hσ:Ok O):∃n z e:Int,ai C Jm [.str s,.int .i64 i] O=some (.tup [.int .i64 n,.int .i64 z,.int .i64 e],O)/\0<=z:=by
 have lp:=IK (C:=C) s (by omega) i O (s.length-i) i (by omega)
 have ty:=fun a b c=>aX O [.int .i64 a,.int .i64 b,.int .i64 c];have he:runN dH s i<=s.length:=Yj dH s i hi;have hg:=adO dH s i;have h0:¬((i:Int)<0):=by omega
 have h':¬((s.length:Int)<(i:Int)):=by omega
 have h1:(0:Int)<=i:=by omega
 have h2:(0:Int)<=(runN dH s i:Nat):=by omega
 rw[hC.go (NVs.hand (.cons (.str _) (.cons (.int _ _) .nil)) _)];generalize runN dH s i=z at*;have wl:((s.take z).drop i).length<1099511627777:=by simp;omega
 generalize hx:(s.take z).drop i=w at*;obtain⟨b,q1⟩:=abM hf w (by omega) O
 obtain⟨n,v,q2,hv⟩:=hp w O wl hσ;cases b
 ·exact⟨0,0,3,by simp only[Df,lp,h0,h',h1,h2,he,hg,hx,q1,ty,EVX,seval],by omega⟩
 ·rcases hv with rfl|⟨t,x,rfl⟩
  ·exact⟨n,z,0,by simp only[Df,lp,h0,h',h1,h2,he,hg,hx,q1,q2,ty,EVX,seval],h2⟩
  ·exact⟨0,0,9,by simp only[Df,lp,h0,h',h1,h2,he,hg,hx,q1,q2,ty,EVX,seval],by omega⟩
end Go.Ev
