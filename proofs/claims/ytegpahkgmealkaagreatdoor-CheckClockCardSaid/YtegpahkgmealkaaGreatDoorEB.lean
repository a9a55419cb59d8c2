/- An evaluator of the model, proved sound. No conditions. -/
import Derived.Test.YtegpahkgmealkaaGreatDoorEA
import Derived.Lib.IndexBytes
import Derived.Orders
import Derived.LoopN
import Derived.Scope
import Derived.ScopeJumps
set_option linter.unusedVariables false
set_option linter.unusedSimpArgs false
namespace Go.Ev
open Go.RowKit
section
variable{C:Ctx}{g:Gh}{w:World}{O:St}{e:Env}{ρ:Operand->Value}
theorem U7 (hw:WR g w O) {ax:XA} {n sz:Nat} {lo hi mx:Option XA} {out:Out} (hev:evI C e O (.sliceArr n sz ax lo hi mx)=some out) {px:Value} (hx:VR g (av C e ax) px) {vlo vhi vmx:Option Value}
  (hlo:Xf g (lo.map (av C e)) vlo) (hhi:Xf g (hi.map (av C e)) vhi) (hmx:Xf g (mx.map (av C e)) vmx):
  ∃v b off l h,out=.val v O/\px=.pointer (some ⟨b,off,none⟩)/\(∀w',(Instr.sliceBounds false n n vlo vhi vmx).run C.P w'=.ok (l,h,n) w')/\VR g v (.slice (some (if n=l then⟨b,off,none⟩else(⟨b,off,none⟩:Addr).add (l*sz))) (h-l) (n-l)):=by
 simp only[evI,aj]at hev;generalize hav:av C e ax=aa at hx hev;cases hx<;>first|(cases hev;done)|skip
 rename_i o off ho;simp only at hev;split at hev
 ·rename_i l fz hl;split at hev
  ·rename_i l0 h0 hl0 hh0;split at hev
   ·rename_i hcond;cases hev;refine⟨_,_,_,l0,h0,rfl,rfl,fun w'=>NI hlo hhi hmx false hl0 hh0 (by simp) hcond.1 hcond.2.1 (Nat.le_refl _) (by simp) w',?_⟩
    split
    ·rename_i hlh;subst hlh;simp only[Nat.sub_self];exact .emp _ _
    ·rename_i hlh;rw[if_neg (by omega),addr_add]
     obtain⟨c,e0,fr,h1,h2,h3,h4,h5,h6⟩:=hw.obj o _ hl;refine .msl o (off+l0*sz) (h0-l0) sz (n-l0) ho (by omega) ?_
     rw[<-h2];have:l0*sz+(n-l0)*sz=n*sz:=by rw[<-Nat.add_mul];congr 1;omega
     omega
   ·cases hev
  ·cases hev
 ·cases hev
theorem aji(hw:WR g w O)(hρ:∀x a,cA x=some a->VR g (av C e a) (ρ x)){dst:Option Tmp}{type:TypeId}{pos:String}{after:Array Edge}{guard:Option (Nat×Bool)}{t:TypeId}{x:Operand}{lo hi' mx:Option Operand}{xi:XI}(hc:cI C.P ⟨dst,.slice t x lo hi' mx,type,pos,after,guard⟩=some xi){out:Out}(hev:evI C e O xi=some out):xC C.P ⟨dst,.slice t x lo hi' mx,type,pos,after,guard⟩ ρ g O w out:=by
 simp only[cI,Option.bind_eq_bind,Option.bind_eq_some_iff,Option.pure_def]at hc;obtain⟨u,hu,hc⟩:=hc;cases u<;>first|(cases hc;done)|skip
 case string=>
  cases mx with
  |some m=>cases hc
  |none=>
   simp only[Option.bind_eq_some_iff,Option.some.injEq]at hc;obtain⟨a,ha,al,hal,ah,hah,rfl⟩:=hc;have hx:=hρ x a ha;have h1:=uZ hρ hal;have h2:=uZ hρ hah;simp only[evI,aj]at hev;generalize hav:av C e a=aa at hx hev;generalize hpx:ρ x=px at hx;cases hx<;>first|(cases hev;done)|skip
   rename_i s;simp only at hev;split at hev
   ·rename_i l h hl hh;split at hev
    ·rename_i hcond;cases hev;have hb:=NI (P:=C.P) h1 h2 .none false (len:=s.length) (cap:=s.length) (m:=s.length) hl hh rfl hcond.1 hcond.2 (Nat.le_refl _) (by simp) w
     refine aV hw (v':=.string ((⟨⟨s⟩⟩:ByteArray).extract l h)) ?_ ?_
     ·have hsz:(⟨⟨s⟩⟩:ByteArray).size=s.length:=rfl;simp[execOp,Instr.sliceAt,run_underlying hu,Instr.slice,hpx,hsz,hb]
     ·have:(⟨⟨s⟩⟩:ByteArray).extract l h=⟨⟨(s.take h).drop l⟩⟩:=by
       apply ByteArray.ext;apply Array.ext';rw[Lib.extract_data];show(s.drop l).take (h-l)=(s.take h).drop l;rw[List.take_drop];congr 2;omega
      rw[this];exact .str _
    ·cases hev
   ·cases hev
 case slice el=>
  simp only[Option.bind_eq_some_iff,Option.some.injEq]at hc;obtain⟨i,hi,a,ha,al,hal,ah,hah,am,ham,rfl⟩:=hc;have hx:=hρ x a ha;have h1:=uZ hρ hal;have h2:=uZ hρ hah;have h3:=uZ hρ ham;simp only[evI,aj]at hev;generalize hav:av C e a=aa at hx hev;generalize hpx:ρ x=px at hx;have key:∀(b:Option Addr) (len cap l h:Nat),px=.slice b len cap->dV 0 (al.map (av C e))=some l->dV len (ah.map (av C e))=some h->am=none->l<=h->h<=cap->
    (execOp ρ ⟨dst,.slice t x lo hi' mx,type,pos,after,guard⟩).run C.P w=.ok (.value (.slice (if cap=l then b else b.map (·.add (l*i.size))) (h-l) (cap-l))) w:=fun b len cap l h hp hl hh hm hlh hhc=>by
   subst hp hm;have hb:=NI (P:=C.P) h1 h2 h3 true (len:=len) (cap:=cap) (m:=cap) hl hh rfl hlh hhc (Nat.le_refl _) (by simp) w
   simp[execOp,Instr.sliceAt,run_underlying hu,Instr.slice,hpx,hb,run_sizeOf hi]
  cases hx<;>first|(cases hev;done)|skip
  all_goals simp only at hev
  case nils=>
   split at hev
   ·rename_i hl hh;cases hev;exact aV hw (key _ _ _ 0 0 rfl hl hh rfl (Nat.le_refl _) (Nat.le_refl _)) (by simpa using .nils)
   ·cases hev
  case slNil=>
   split at hev
   ·rename_i l h hl hh;split at hev
    ·rename_i hcond;cases hev;obtain rfl:h=0:=by omega
     obtain rfl:l=0:=by omega
     exact aV hw (key _ _ _ 0 0 rfl hl hh rfl (Nat.le_refl _) (Nat.le_refl _)) (by simpa using .slNil)
    ·cases hev
   ·cases hev
  case slEmp b cap=>
   split at hev
   ·rename_i l h hl hh;split at hev
    ·rename_i hcond;cases hev;obtain rfl:h=0:=by omega
     obtain rfl:l=0:=by omega
     refine aV hw (key _ _ _ 0 0 rfl hl hh rfl (Nat.le_refl _) (Nat.zero_le _)) ?_;simp only[Nat.sub_self,Nat.zero_mul,List.take_nil,List.drop_nil];have:(if cap=0 then some b else(some b).map (·.add 0))=some b:=by split<;>simp[Addr.add]
     rw[this];exact .slEmp _ _
    ·cases hev
   ·cases hev
  case sl n l b off cap hcr hle=>
   split at hev
   ·rename_i lo' hj hl hh;split at hev
    ·rename_i hcond;cases hev;refine aV hw (key _ _ _ lo' hj rfl hl hh rfl hcond.1 (by omega)) ?_
     by_cases hlh:lo'=hj
     ·subst hlh;have e0:((l.take (lo'*i.size)).drop (lo'*i.size))=[]:=by simp
      rw[e0,Nat.sub_self];split
      ·exact .slEmp _ _
      ·simp only[Option.map_some];exact .slEmp _ _
     ·rw[if_neg (by omega)]
      simp only[Option.map_some,addr_add];exact .sl _ _ _ _ _ ((hcr.take _).drop _) (by omega)
    ·cases hev
   ·cases hev
  case xsl n l b off hcr=>
   split at hev
   ·rename_i lo' hj hl hh;split at hev
    ·rename_i hcond;cases hev;refine aV hw (key _ _ _ lo' hj rfl hl hh rfl hcond.1 (by omega)) ?_
     by_cases hlh:lo'=hj
     ·subst hlh;have e0:((l.take (lo'*i.size)).drop (lo'*i.size))=[]:=by simp
      rw[e0,Nat.sub_self];split
      ·exact .slEmp _ _
      ·simp only[Option.map_some];exact .slEmp _ _
     ·rw[if_neg (by omega)]
      simp only[Option.map_some,addr_add];exact .sl _ _ _ _ _ ((hcr.take _).drop _) (by omega)
    ·cases hev
   ·cases hev
  case msl o off n sz cap ho hn hb=>
   split at hev
   ·rename_i lo' hj hl hh;split at hev
    ·rename_i hcond;cases hev;refine aV hw (key _ _ _ lo' hj rfl hl hh rfl hcond.1 (by omega)) ?_
     by_cases hlh:lo'=hj/\lo'≠0
     ·obtain⟨hlh,hl0⟩:=hlh;subst hlh;rw[if_pos ⟨rfl,hl0⟩,Nat.sub_self];split
      ·exact .emp _ _
      ·simp only[Option.map_some];exact .emp _ _
     ·rw[if_neg hlh];have hsame:(if cap=lo' then some (⟨g.ob o,off,none⟩:Addr)else some ((⟨g.ob o,off,none⟩:Addr).add (lo'*i.size)))=some (⟨g.ob o,off+lo'*i.size,none⟩:Addr):=by
       split
       ·have:lo'=0:=by omega
        rw[this];simp
       ·rw[addr_add]
      simp only[Option.map_some];rw[hsame];obtain⟨_,_,rfl⟩:=hcond;refine .msl o _ (hj-lo') i.size (cap-lo') ho (by omega) ?_
      have:lo'*i.size+(cap-lo')*i.size=cap*i.size:=by rw[<-Nat.add_mul];congr 1;omega
      omega
    ·cases hev
   ·cases hev
 case array n el=>
  simp only[Option.bind_eq_some_iff,Option.some.injEq]at hc;obtain⟨i,hi,a,ha,al,hal,ah,hah,am,ham,rfl⟩:=hc;obtain⟨v,b,off,l,h,rfl,hp,hb,hvr⟩:=U7 hw hev (hρ x a ha) (uZ hρ hal) (uZ hρ hah) (uZ hρ ham);exact aV hw (by simp[execOp,Instr.sliceAt,run_underlying hu,Instr.sureAddr,hp,hb,run_sizeOf hi]) hvr
 case pointer p=>
  simp only[Option.bind_eq_some_iff]at hc;obtain⟨up,hup,hc⟩:=hc;cases up<;>first|(cases hc;done)|skip
  rename_i n el;simp only[Option.bind_eq_some_iff,Option.some.injEq]at hc;obtain⟨i,hi,a,ha,al,hal,ah,hah,am,ham,rfl⟩:=hc;obtain⟨v,b,off,l,h,rfl,hp,hb,hvr⟩:=U7 hw hev (hρ x a ha) (uZ hρ hal) (uZ hρ hah) (uZ hρ ham);exact aV hw (by simp[execOp,Instr.sliceAt,run_underlying hu,Instr.slice,asAddr,run_underlying hup,hp,hb,run_sizeOf hi]) hvr
theorem Xu(hw:WR g w O)(hρ:∀x a,cA x=some a->VR g (av C e a) (ρ x)){dst:Option Tmp}{type:TypeId}{pos:String}{after:Array Edge}{guard:Option (Nat×Bool)}{t:TypeId}{n:Nat}{ps:Array (Nat×Operand)}{xi:XI}(hc:cI C.P ⟨dst,.buildSlice t n ps,type,pos,after,guard⟩=some xi){out:Out}(hev:evI C e O xi=some out):xC C.P ⟨dst,.buildSlice t n ps,type,pos,after,guard⟩ ρ g O w out:=by
 simp only[cI,Option.bind_eq_bind,Option.bind_eq_some_iff,Option.pure_def]at hc;obtain⟨u,hu,hc⟩:=hc;cases u<;>first|(cases hc;done)|skip
 rename_i el;simp only[Option.bind_eq_some_iff]at hc;obtain⟨ie,hie,hc⟩:=hc;split at hc
 ·cases hc
 ·rename_i hn;simp only[Option.bind_eq_some_iff]at hc;obtain⟨z,hz,hc⟩:=hc;split at hc
  ·rename_i hzl;simp only[Option.bind_eq_some_iff,Option.some.injEq]at hc;obtain⟨qs,hqs,rfl⟩:=hc;obtain⟨i,v,h1,h2,h3⟩:=yB hz;rw[hie]at h1;cases h1;have hv:=kQ g v z h3;simp only[evI,aj]at hev;split at hev
   ·rename_i l hl;split at hev
    ·rename_i hlen;cases hev;have hvs:v.cells.size=ie.size:=by rw[hv.cells_size];exact hzl
     have hrep:=Yh hv.cells n;have hzero:∃zc:Array Value,(n*ie.size=0/\zc=#[]\/n*ie.size≠0/\zc=v.cells)/\((Array.range (n*ie.size)).map (zc[· %zc.size]!)).toList=(List.replicate n v.cells.toList).flatten:=by
      by_cases h0:n*ie.size=0
      ·refine⟨#[],.inl ⟨h0,rfl⟩,?_⟩;rw[h0];have:((List.replicate n v.cells.toList).flatten).length=0:=by simp[hvs,h0]
       simp[List.eq_nil_of_length_eq_zero this,Array.range_zero']
      ·refine⟨v.cells,.inr ⟨h0,rfl⟩,?_⟩;have:=WA v.cells n (by
        rcases Nat.eq_zero_or_pos v.cells.size with h|h
        ·rw[hvs]at h;rw[h]at h0;omega
        ·exact h)
       rw[hvs]at this⊢;exact this
     obtain⟨zc,hz1,hz2⟩:=hzero;obtain⟨c',hf,hr⟩:=DN _ hρ ps.toList qs hqs _ ((Array.range (n*ie.size)).map (zc[· %zc.size]!)) _ (by rw[hz2];exact hrep) hl
     have hf':Instr.fill (fun i=>some (i*ie.size,ie.size)) ((Array.range (n*ie.size)).map (zc[· %zc.size]!)) (Array.map (fun x=>(x.fst,ρ x.snd)) ps).toList=some c':=by simpa using hf
     have hgo:=SC hw c' el;have hcl:c'.size=l.length:=by have:=hr.length;simpa using this
     have hrun:(execOp ρ ⟨dst,.buildSlice t n ps,type,pos,after,guard⟩).run C.P w=.ok (.value (.slice (some ⟨w.heap.size,0,none⟩) n n)) (qw w (.cells c' el)):=by
      have hn':¬(2^24<n*ie.size):=by omega
      simp only[execOp,Instr.buildSlice,Sem.run_bind,run_underlying hu,Result.andThen_ok,run_sizeOf hie];rw[if_neg (by omega)]
      rcases hz1 with⟨h0,rfl⟩|⟨h0,rfl⟩
      ·rw[if_pos h0];simp only[Sem.run_pure,Sem.run_bind,Result.andThen_ok,hf',newRow,run_newObj];rfl
      ·rw[if_neg h0];simp only[Sem.run_pure,Sem.run_bind,Result.andThen_ok,yj hie h2,hf',newRow,run_newObj];rfl
     cases hob:AX z.cells with
     |true=>
      by_cases hn0:n=0
      ·subst hn0;refine⟨_,_,hgo,.inl ⟨_,hrun,?_⟩⟩;refine .xsl 0 l w.heap.size 0 (CR.of_get fun j a ha=>?_);obtain⟨u,hu1,hu2⟩:=hr.get ha;have hj:=(List.getElem?_eq_some_iff.1 ha).1;refine⟨u,?_,hu2.mono hgo.le⟩;simp only[Gh.keep,Nat.zero_add];rw[if_pos ⟨trivial,by omega⟩]
       simpa using hu1
      ·obtain⟨m,rfl⟩:=Nat.exists_eq_add_one_of_ne_zero hn0;have hgo:=su hw el FZ (l:=l) (c:=c') (fun t x ht=>by cases ht) (fun i x hx=>hr.get hx|>fun⟨v,h1,h2⟩=>⟨v,by simpa using h1,h2⟩) (by omega)
       refine⟨_,_,hgo,.inl ⟨_,hrun,?_⟩⟩;have:=VR.msl (g:=g.more w.heap.size c'.size) O.length 0 (m+1) ie.size (m+1) (by simp[Gh.more,hw.n]) (Nat.le_refl _) (by simp[Gh.more,hw.n];omega)
       simpa[Gh.more,hw.n]using this
     |false=>
     refine⟨_,_,hgo,.inl ⟨_,hrun,?_⟩⟩;refine .xsl n l w.heap.size 0 (CR.of_get fun j a ha=>?_);obtain⟨u,hu1,hu2⟩:=hr.get ha;have hj:=(List.getElem?_eq_some_iff.1 ha).1;refine⟨u,?_,hu2.mono hgo.le⟩;simp only[Gh.keep,Nat.zero_add];rw[if_pos ⟨trivial,by omega⟩]
     simpa using hu1
    ·cases hev
   ·cases hev
  ·cases hc
end
section
variable{C:Ctx}{g:Gh}{w:World}{O:St}{e:Env}{ρ:Operand->Value}
theorem aes(hw:WR g w O)(hpl:C.np=true\/∀b,g.pl b=true)(hρ:∀x a,cA x=some a->VR g (av C e a) (ρ x))(o:Oper){xi:XI}(hc:cI C.P o=some xi){out:Out}(hev:evI C e O xi=some out):xC C.P o ρ g O w out:=by
 obtain⟨dst,op,type,pos,after,guard⟩:=o;cases op
 case convert=>exact ael hw hρ hc hev
 case makeSlice=>exact YX hw hρ hc hev
 case indexAddr=>exact YW hw hρ hc hev
 case index=>exact ajh hw hρ hc hev
 case lookup=>exact ag2 hw hρ hc hev
 case mapUpdate=>exact YY hw hρ hc hev
 case insert=>exact ag1 hw hρ hc hev
 case mapEntry=>exact ab2 hw hρ hc hev
 case entryStore=>exact Xv hw hρ hc hev
 case call=>exact c_call hw hρ hc hev
 case slice=>exact aji hw hρ hc hev
 case buildSlice=>exact Xu hw hρ hc hev
 all_goals (simp only[cI]at hc;try (cases hc;done))
 case move x=>
  simp only[Option.bind_eq_bind,Option.bind_eq_some_iff,Option.pure_def,Option.some.injEq]at hc;obtain⟨a,ha,rfl⟩:=hc;simp[evI,aj]at hev;subst hev;exact aV hw rfl (hρ x a ha)
 case assign x=>
  simp only[Option.bind_eq_bind,Option.bind_eq_some_iff,Option.pure_def,Option.some.injEq]at hc;obtain⟨a,ha,rfl⟩:=hc;simp[evI,aj]at hev;subst hev;exact aV hw rfl (hρ x a ha)
 case pick c x y=>
  simp only[Option.bind_eq_bind,Option.bind_eq_some_iff,Option.pure_def,Option.some.injEq]at hc;obtain⟨ac,hac,ax,hax,ay,hay,rfl⟩:=hc;simp only[evI,aj]at hev;have h1:=hρ c ac hac;split at hev
  ·rename_i b hb;rw[hb]at h1;simp at hev;subst hev;refine aV hw (v':=if b then ρ x else ρ y) ?_ (by cases b;exact hρ y ay hay;exact hρ x ax hax)
   generalize hcv:ρ c=cv at h1;cases h1;simp[execOp,hcv,asBool]
  ·cases hev
 case alloc t=>
  simp only[Option.bind_eq_bind,Option.bind_eq_some_iff,Option.pure_def,Option.some.injEq]at hc;obtain⟨z,hz,rfl⟩:=hc;obtain⟨i,v,h1,h2,h3⟩:=yB hz;simp only[evI,aj]at hev;cases hev;have hv:=kQ g v z h3;refine⟨_,_,su hw t ⟨false,Uu C.P t true⟩ (fun t' x' ht'=>⟨(Uw ht').1,fun _=>hv.cells_size⟩) hv.cells.get_arr (by rw[hv.cells_size];exact Nat.le_refl _),.inl ⟨_,?_,ahE hw _⟩⟩
  simp[execOp,Instr.alloc,yj h1 h2,newVar,newRow];rfl
 case box t x=>
  simp only[Option.bind_eq_bind,Option.bind_eq_some_iff,Option.pure_def,Option.some.injEq]at hc;obtain⟨a,ha,rfl⟩:=hc;simp only[evI,aj]at hev;cases hev;have hv:=hρ x a ha;refine⟨_,_,su hw t FZ (fun _ _ ht=>nomatch ht) hv.cells.get_arr (by rw[hv.cells_size];exact Nat.le_refl _),.inl ⟨_,?_,ahE hw _⟩⟩
  simp[execOp,Instr.box,newVar,newRow];rfl
 case build t ps=>
  simp only[Option.bind_eq_bind,Option.bind_eq_some_iff,Option.pure_def]at hc;obtain⟨z,hz,u,hu,hc⟩:=hc;obtain⟨i,v,h1,h2,h3⟩:=yB hz;have hv:=kQ g v z h3;cases u<;>simp only at hc<;>first|(cases hc;done)|skip
  case array n el=>
   simp only[Option.bind_eq_some_iff,Option.some.injEq]at hc;obtain⟨ie,hie,qs,hqs,rfl⟩:=hc;simp only[evI,aj]at hev;split at hev
   ·rename_i l hl;cases hev;obtain⟨c',hf,hr⟩:=DN _ hρ ps.toList qs hqs _ v.cells _ hv.cells hl;refine aV hw (v':=.agg c') ?_ (.agg _ _ hr);have hf':Instr.fill (fun i=>some (i*ie.size,ie.size)) v.cells (Array.map (fun x=>(x.fst,ρ x.snd)) ps).toList=some c':=by simpa using hf
    simp only[execOp,Instr.build,Sem.run_bind,yj h1 h2,Result.andThen_ok,run_underlying hu,run_sizeOf hie,hf',Sem.run_pure]
   ·cases hev
  case struct fs=>
   split at hc
   ·cases hc
   ·rename_i hall;simp only[Bool.not_eq_true,Bool.not_eq_false']at hall;simp only[Option.bind_eq_some_iff,Option.some.injEq]at hc;obtain⟨qs,hqs,rfl⟩:=hc;simp only[evI,aj]at hev;split at hev
    ·rename_i l hl;cases hev;obtain⟨c',hf,hr⟩:=DN _ hρ ps.toList qs hqs _ v.cells _ hv.cells hl;refine aV hw (v':=.agg c') ?_ (.agg _ _ hr);have hpl:(fun x=>(Array.map (fun f:Field=>(f.offset,((C.P.info? f.type).map (·.size)).getD 0)) fs)[x]?)=(fun(i:Nat)=>(fs[i]? :Option Field).bind fun(f:Field)=>(C.P.info? f.type).bind fun a=>some (f.offset,a.size)):=by
      funext i
      simp only[Array.getElem?_map];cases hfi:fs[i]? with
      |none=>rfl
      |some f=>
       have hf:f∈fs:=Array.mem_of_getElem? hfi;obtain⟨j,hj⟩:=Option.isSome_iff_exists.1 (List.all_eq_true.1 hall f (Array.mem_toList_iff.2 hf));simp[hj]
     have hf':Instr.fill (fun x=>(Array.map (fun f:Field=>(f.offset,((C.P.info? f.type).map (·.size)).getD 0)) fs)[x]?) v.cells (Array.map (fun x=>(x.fst,ρ x.snd)) ps).toList=some c':=by rw[hpl];simpa using hf
     simp only[execOp,Instr.build,Sem.run_bind,yj h1 h2,Result.andThen_ok,run_underlying hu,run_places fs hall,hf',Sem.run_pure]
    ·cases hev
 case load t x=>
  simp only[Option.bind_eq_bind,Option.bind_eq_some_iff,Option.pure_def,Option.some.injEq]at hc;obtain⟨u,hu,i,hi,a,ha,rfl⟩:=hc;have hx:=hρ x a ha;simp only[evI,aj]at hev;have key:∀(b off:Nat) (l:LA) (v:AV),ρ x=.pointer (some ⟨b,off,none⟩)->Cells g w l b off->pt (wP u) i.size l=some v->xC C.P ⟨dst,.load t x,type,pos,after,guard⟩ ρ g O w (.val v O):=fun b off l v hp hcl hpt=>by
   obtain⟨v',h1,h2⟩:=Tj hcl hu hi hpt;exact aV hw (by simp[execOp,Instr.loadAt,Instr.sureAddr,hp,h1]) h2
  generalize hav:av C e a=aa at hx hev;generalize hpx:ρ x=px at hx;cases hx<;>simp only at hev<;>first|(cases hev;done)|skip
  ·rename_i o off ho;split at hev
   ·rename_i l fz hl;simp only[Option.map_eq_some_iff]at hev;obtain⟨v,hpt,rfl⟩:=hev;have hcl:=(hw.obj o _ hl).cells.drop off;simp only[Nat.zero_add]at hcl;exact key _ _ _ v hpx hcl hpt
   ·cases hev
  ·rename_i l b off hc;simp only[Option.map_eq_some_iff]at hev;obtain⟨v,hpt,rfl⟩:=hev;exact key _ _ _ v hpx (hc.cells hw) hpt
 case store t x y=>
  simp only[Option.bind_eq_bind,Option.bind_eq_some_iff,Option.pure_def,Option.some.injEq]at hc;obtain⟨i,hi,a,ha,b,hb,rfl⟩:=hc;have hx:=hρ x a ha;have hy:=hρ y b hb;simp only[evI,aj]at hev;generalize hav:av C e a=aa at hx hev;generalize hpx:ρ x=px at hx;cases hx<;>simp only at hev<;>first|(cases hev;done)|skip
  rename_i o' off ho;split at hev
  ·rename_i l hl;split at hev
   ·rename_i hh;cases hev;have hcs:=hy.cells;obtain⟨w',h1,h2⟩:=Gl (P:=C.P) (off:=off) hw hl hcs (by omega) hh.2.2
    refine⟨w',g,h2,.inr ⟨rfl,?_⟩⟩;have hsz:(ρ y).cells.size=i.size:=by rw[hy.cells_size];exact hh.1
    simp[execOp,Instr.storeAt,Instr.sureAddr,hpx,storeVar,run_sizeOf hi,hsz,h1]
   ·cases hev
  ·cases hev
 case nilCheck x=>
  simp only[Option.bind_eq_bind,Option.bind_eq_some_iff,Option.pure_def,Option.some.injEq]at hc;obtain⟨a,ha,rfl⟩:=hc;have hx:=hρ x a ha;simp only[evI,aj]at hev;have hx0:=hx;generalize hav:av C e a=aa at hx hev hx0;generalize hpx:ρ x=px at hx hx0;cases hx<;>first|(cases hev;done)|skip
  ·cases hev;exact aV hw (by simp[execOp,hpx]) hx0
  ·cases hev;exact aV hw (by simp[execOp,hpx]) hx0
  ·rename_i f x1 y1 x2 y2 hx1 hy1;cases f<;>first|(cases hev;done)|skip
   cases hev;exact aV hw (by simp[execOp,hpx]) hx0
  ·cases hev;exact aV hw (by simp[execOp,hpx]) hx0
 case binOp op t x y yt=>
  simp only[Option.bind_eq_bind,Option.bind_eq_some_iff,Option.pure_def,Option.some.injEq]at hc;obtain⟨a,ha,b,hb,rfl⟩:=hc;simp only[evI,aj,Option.map_eq_some_iff]at hev;obtain⟨v,hv,rfl⟩:=hev;have hv':binOp op (BO C.P t) (isC x||isC y) (av C e a) (av C e b)=some v/\(C.np=true->TM (av C e a) (av C e b)=false):=by
   unfold tX at hv;split at hv
   ·rename_i hn;exact⟨hv,fun h=>absurd (hn.symm.trans h) (by decide)⟩
   ·split at hv
    ·cases hv
    ·rename_i h2;exact⟨hv,fun _=>h2⟩
  obtain⟨v',h1,h2⟩:=aek (P:=C.P) (w:=w) op t x y _ _ hv'.1 (hρ x a ha) (hρ y b hb) hw.uf (fun h2=>by
   rcases hpl with hp|hp
   ·rw[hv'.2 hp]at h2;cases h2
   ·exact hp)
  refine aV hw (v':=v') ?_ h2;simp only[execOp];have:(do let _<-eqGuard op t x y (ρ x) (ρ y);Go.binOp op t (ρ x) (ρ y):Sem Value).run C.P w=.ok v' w:=h1
  rw[Sem.run_bind,this];rfl
 case unOp op t x=>
  simp only[Option.bind_eq_bind,Option.bind_eq_some_iff,Option.pure_def,Option.some.injEq]at hc;obtain⟨a,ha,rfl⟩:=hc;simp only[evI,aj,Option.map_eq_some_iff]at hev;obtain⟨v,hv,rfl⟩:=hev;obtain⟨v',h1,h2⟩:=aiL (P:=C.P) (w:=w) op _ hv (hρ x a ha);exact aV hw (by simp[execOp,h1]) h2
 case makeInterface t x=>
  simp only[Option.bind_eq_bind,Option.bind_eq_some_iff,Option.pure_def]at hc;obtain⟨u,hu,hc⟩:=hc;have hx:∃a,cA x=some a/\xi=.mkIface t a/\(∀m,u≠ .interface m):=by
   cases u<;>simp only[Option.bind_eq_some_iff,Option.some.injEq]at hc<;>first|(cases hc;done)|(obtain⟨a,ha,rfl⟩:=hc;exact⟨a,ha,rfl,by intro m;simp⟩)
  obtain⟨a,ha,rfl,hne⟩:=hx;simp only[evI,aj]at hev;cases hev;refine aV hw (v':=.iface t (ρ x)) ?_ (.iface _ _ _ (hρ x a ha));cases u<;>first|(exact absurd rfl (hne _))|simp[execOp,Instr.makeInterface,run_underlying hu]
 case makeFunc fn first captured=>
  simp only[Option.bind_eq_bind,Option.bind_eq_some_iff,Option.pure_def,Option.some.injEq]at hc;obtain⟨a,ha,b,hb,rfl⟩:=hc;simp only[evI,aj]at hev;cases hev;refine aV hw (v':=.func fn (first.map ρ) (captured.map ρ)) (by simp[execOp,Instr.makeFunc]) ?_
  have h1:=KP hρ _ _ ha;have h2:=KP hρ _ _ hb;have e1:first.map ρ=⟨first.toList.map ρ⟩:=by apply Array.ext';simp
  have e2:captured.map ρ=⟨captured.toList.map ρ⟩:=by apply Array.ext';simp
  rw[e1,e2];exact .func _ _ _ _ _ h1 h2
 case makeMap t r=>
  cases r with
  |some r=>cases hc
  |none=>
   cases hc;simp only[evI,aj]at hev;cases hev;have hgo:=Zx hw (.map #[] 0) (.map []) 0 (by
    refine⟨#[],0,?_,rfl,rfl,by simp⟩
    simp only[Gh.more,if_true];exact wU w _)
   refine⟨_,_,hgo,.inl ⟨.map (some w.heap.size),?_,?_⟩⟩
   ·simp[execOp,Instr.makeMap];rfl
   ·have:=VR.map (g:=g.more w.heap.size 0) O.length (by simp[Gh.more,hw.n])
    simpa[Gh.more,hw.n]using this
 case fieldAddr t x fi=>
  simp only[Option.bind_eq_bind,Option.bind_eq_some_iff,Option.pure_def]at hc;obtain⟨u,hu,hc⟩:=hc;cases u<;>simp only at hc<;>first|(cases hc;done)|skip
  rename_i fs;simp only[Option.bind_eq_some_iff]at hc;obtain⟨f,hf,i,hi,hc⟩:=hc;split at hc
  ·cases hc
  ·rename_i hz;simp only[Option.bind_eq_some_iff,Option.some.injEq]at hc;obtain⟨a,ha,rfl⟩:=hc;have hx:=hρ x a ha;simp only[evI,aj]at hev;generalize hav:av C e a=aa at hx hev;generalize hpx:ρ x=px at hx;cases hx<;>simp only at hev<;>first|(cases hev;done)|skip
   ·rename_i o' off ho;cases hev;refine aV hw (v':=.pointer (some ⟨g.ob o',off+f.offset,none⟩)) ?_ (.ref _ _ ho);simp[execOp,Instr.fieldAt,run_underlying hu,hf,Instr.sureAddr,hpx,fieldPlace,run_sizeOf hi,hz,addr_add]
   ·rename_i l b off hcr;split at hev
    ·cases hev;refine aV hw (v':=.pointer (some ⟨b,off+f.offset,none⟩)) ?_ (.eptr _ _ _ (hcr.drop _));simp[execOp,Instr.fieldAt,run_underlying hu,hf,Instr.sureAddr,hpx,fieldPlace,run_sizeOf hi,hz,addr_add]
    ·cases hev
 case field t x fi=>
  simp only[Option.bind_eq_bind,Option.bind_eq_some_iff,Option.pure_def]at hc;obtain⟨u,hu,hc⟩:=hc;cases u<;>simp only at hc<;>first|(cases hc;done)|skip
  rename_i fs;simp only[Option.bind_eq_some_iff,Option.some.injEq]at hc;obtain⟨f,hf,u',hu',i,hi,a,ha,rfl⟩:=hc;have hx:=hρ x a ha;simp only[evI,aj]at hev;generalize hav:av C e a=aa at hx hev;generalize hpx:ρ x=px at hx;cases hx<;>simp only at hev<;>first|(cases hev;done)|skip
  rename_i l l' hl;simp only[Option.map_eq_some_iff]at hev;obtain⟨v,hv,rfl⟩:=hev;obtain⟨v',h1,h2⟩:=TJ (P:=C.P) w hl hu' hi f.offset hv;exact aV hw (by simp[execOp,Instr.field,run_underlying hu,hf,hpx,asAgg,h1]) h2
 case extract x ix=>
  simp only[Option.bind_eq_bind,Option.bind_eq_some_iff,Option.pure_def,Option.some.injEq]at hc;obtain⟨a,ha,rfl⟩:=hc;have hx:=hρ x a ha;simp only[evI,aj]at hev;generalize hav:av C e a=aa at hx hev;generalize hpx:ρ x=px at hx;cases hx<;>simp only at hev<;>first|(cases hev;done)|skip
  rename_i l l' hl;split at hev
  ·rename_i v hv;cases hev;obtain⟨v',h1,h2⟩:=hl.get hv;exact aV hw (by simp[execOp,Instr.extract,hpx,h1]) h2
  ·cases hev
end
def GL(C:Ctx)(g:Gh):Prop:=(∀n l,C.gl n=some l->CR g l n 0/\g.pl n=true)/\(C.np=true\/∀b,g.pl b=true)
theorem GL.mono{C:Ctx}{g g':Gh}(h:GL C g)(hle:g.le g'):GL C g':=⟨fun n l hl=>⟨(h.1 n l hl).1.mono hle,(congrFun hle.pl n).trans (h.1 n l hl).2⟩,h.2.imp id (fun e b=>(congrFun hle.pl b).trans (e b))⟩
def AR(g:Gh)(e:Env)(a:Act):Prop:=VRs g e a.tmps.toList
theorem AR.mono{g g':Gh}{e:Env}{a:Act}(h:AR g e a)(hle:g.le g'):AR g' e a:=VRs.mono hle h
theorem AR.put{g:Gh}{e:Env}{a:Act}(h:AR g e a){v:AV}{v':Value}(hv:VR g v v')(d:Option Nat):AR g (Ev.put e d v) (a.put d v'):=by
 cases d with
 |none=>exact h
 |some d=>
  have:=VRs.set d h hv;simpa[AR,Act.put,Ev.put]using this
theorem wZ(g:Gh):VR g .undef undef:=.tup _ _ .nil
theorem AR.eval{C:Ctx}{g:Gh}{e:Env}{a:Act}(h:AR g e a)(hg:GL C g)(x:Operand)(b:XA)(hb:cA x=some b):VR g (av C e b) (a.eval x):=by
 cases x with
 |tmp t=>
  simp[cA]at hb;subst hb;simp only[av,Act.eval];have hl:=h.length;simp only[Array.length_toList]at hl;rcases Nat.lt_or_ge t e.length with ht|ht
  ·obtain⟨v,h1,h2⟩:=VRs.get h (List.getElem?_eq_getElem ht);rw[List.getD_eq_getElem?_getD,List.getElem?_eq_getElem ht];have:a.tmps[t]?=some v:=by simpa using h1
   simp[this];exact h2
  ·rw[List.getD_eq_getElem?_getD,List.getElem?_eq_none ht];have:a.tmps[t]?=none:=Array.getElem?_eq_none (by omega)
   simp[this];exact wZ g
 |const v=>
  simp only[cA,Option.map_eq_some_iff]at hb;obtain⟨b',h1,rfl⟩:=hb;exact kQ g v b' h1
 |global n=>
  simp[cA]at hb;subst hb;simp only[av,Act.eval];cases hl:C.gl n with
  |none=>exact .eptr _ _ _ (.nil _ _)
  |some l=>exact .eptr _ _ _ (hg.1 n l hl).1
 |func f=>
  simp[cA]at hb;subst hb;exact .func _ _ _ _ _ .nil .nil
def Does(P:Program)(f:FuncId)(args:List Value)(w:World)(R:Value->World->Prop):Prop:=
 match(callFunc f ⟨args⟩).run P w with
 |.ok (.enter f' azs) w'=>Calls P f' azs w' fun e w''=>∃v,e=.returned v/\R v w''
 |.ok (.value v) w'=>R v w'
 |_=>False
def fO(C:Ctx)(call:bD):Prop:=
 ∀f args O v O',call f args O=some (v,O')->∀g w args',VRs g args args'->WR g w O->GL C g->Does C.P f args' w fun v' w'=>∃g',Goes g O w g' O' w'/\VR g' v v'
section
variable{C:Ctx}{call:bD}
theorem ahN (hcall:fO C call) {o:Oper} {g:Gh} {e:Env} {O:St} {w:World} {a:Act} (hw:WR g w O) {ρ:Operand->Value} (hex:execOp a.eval o=execOp ρ o) (hρ:∀x b,cA x=some b->VR g (av C e b) (ρ x)) (hg:GL C g) {v:AV} {O':St}
  (hev:(match evI C e O ((cI C.P o).getD .fail)with|some (.val v O')=>some (v,O')|some (.call f args O')=>call f args O'|none=>none)=some (v,O'))
  {next:Act->World->Prop} {Q:Exit->Act->World->Prop} (hn:∀v' w' g',Goes g O w g' O' w'->VR g' v v'->next (a.put o.dst v') w'):o.wp C.P a w next Q:=by
 cases hc:cI C.P o with
 |none=>rw[hc]at hev;simp[evI,aj]at hev
 |some xi=>
  rw[hc]at hev;simp only[Option.getD_some]at hev;cases hei:evI C e O xi with
  |none=>rw[hei]at hev;cases hev
  |some out=>
   rw[hei]at hev;have hs:=aes (C:=C) hw hg.2 hρ o hc hei;cases out with
   |val v0 O0=>
    simp at hev;obtain⟨rfl,rfl⟩:=hev;obtain⟨w',g',hgo,hr⟩:=hs;unfold Oper.wp;rw[hex];rcases hr with⟨v',h1,h2⟩|⟨rfl,h1⟩
    ·rw[h1];exact hn v' w' g' hgo h2
    ·rw[h1];exact hn undef w' g' hgo (wZ g')
   |call f args O0=>
    obtain⟨rfl,args',h1,h2⟩:=hs;simp only at hev;have hd:=hcall f args O0 v O' hev g w args' h1 hw hg;unfold Oper.wp;rw[hex,h2];unfold Does at hd;generalize(callFunc f ⟨args'⟩).run C.P w=r at hd;cases r with
    |halt h w'=>exact hd.elim
    |ok n w'=>
     cases n<;>first|exact hd.elim|skip
     ·obtain⟨g',h3,h4⟩:=hd;exact hn _ _ g' h3 h4
     ·simp only[Oper.upon];refine Calls.mono hd fun e' w'' ⟨u,he,g',h3,h4⟩=>?_;subst he;exact hn _ _ g' h3 h4
theorem UH{g:Gh}{e:Env}{a:Act}(h:AR g e a)(ops:Array Oper)(o:Oper){gd:Option (Nat×Bool)}(hg:BM ops o=some gd):Region.wanted o (yielded ops a.tmps)=(match gd with|none=>true|some (t,b)=>match e[t]? with|some (.bool c)=>c==b|_=>false):=by
 unfold BM at hg;unfold Region.wanted;cases hgo:o.guard with
 |none=>rw[hgo]at hg;simp at hg;subst hg;rfl
 |some p=>
  obtain⟨j,want⟩:=p;rw[hgo]at hg;simp only at hg⊢;split at hg
  ·rename_i d hd;simp at hg;subst hg;simp only[yielded,hd,Option.bind_some];have hl:=VRs.length h;simp only[Array.length_toList]at hl;cases he:e[d]? with
   |none=>
    have:a.tmps[d]?=none:=Array.getElem?_eq_none (by have:=List.getElem?_eq_none_iff.1 he;omega)
    simp[this]
   |some x=>
    obtain⟨v,h1,h2⟩:=VRs.get h he;have h1':a.tmps[d]?=some v:=by simpa using h1
    rw[h1'];cases h2<;>simp
  ·cases hg
end
section
variable{C:Ctx}{call:bD}
theorem Vl{ops:Array Oper}{i:Nat}{o:Oper}{x:XOp}(h:cOp C.P false ops i o=some x):∃gd,BM ops o=some gd/\x={dst:=o.dst,i:=(cI C.P o).getD .fail,guard:=gd}:=by
 simp only[cOp,Option.bind_eq_bind,Option.bind_eq_some_iff]at h;obtain⟨gd,h1,h2⟩:=h;simp at h2;exact⟨gd,h1,h2.symm⟩
theorem Wp (hcall:fO C call) (ops:Array Oper) {Q:Exit->Act->World->Prop}:∀(l:List Oper) (k:Nat) (xs:List XOp),ops.toList.drop k=l->Rl C.P false ops k l=some xs->∀(e e':Env) (O O':St),nR C call xs e O=some (e',O')->
  ∀(g:Gh) (w:World) (a:Act),AR g e a->WR g w O->GL C g->(∀g' w' a',AR g' e' a'->a'.defers=a.defers->Goes g O w g' O' w'->Q .normal a' w')->wpOps C.P ops Q (List.range' k l.length) a w
 |[],k,xs,hk,hx,e,e',O,O',hev,g,w,a,ha,hw,hg,hQ=>by
  simp[Rl]at hx;subst hx;simp[nR]at hev;obtain⟨rfl,rfl⟩:=hev;simp only[List.length_nil,List.range'_zero,wpOps];exact hQ g w a ha rfl (.refl hw)
 |o::l,k,xs,hk,hx,e,e',O,O',hev,g,w,a,ha,hw,hg,hQ=>by
  simp only[Rl]at hx;split at hx
  ·rename_i x azs h1 h2;simp at hx;subst hx;obtain⟨gd,hgd,rfl⟩:=Vl h1;simp only[nR]at hev;have hok:ops[k]?=some o:=by
    have:=congrArg (fun z:List Oper=>z[0]?) hk;simpa using this
   have hk':ops.toList.drop (k+1)=l:=by rw[<-List.drop_drop,hk];rfl
   rw[List.length_cons,List.range'_succ];simp only[wpOps,hok];have hy:=UH ha ops o hgd;cases hev1:rM C call {dst:=o.dst,i:=(cI C.P o).getD .fail,guard:=gd} e O with
   |none=>rw[hev1]at hev;cases hev
   |some p=>
    obtain⟨v,O1⟩:=p;rw[hev1]at hev;simp only at hev;have ih:=Wp hcall ops (Q:=Q) l (k+1) azs hk' h2 (put e o.dst v) e' O1 O' hev;have rest:∀v' w1 g1,Goes g O w g1 O1 w1->VR g1 v v'->wpOps C.P ops Q (List.range' (k+1) l.length) (a.put o.dst v') w1:=fun v' w1 g1 hgo hv=>by
     refine ih g1 w1 (a.put o.dst v') ((ha.mono hgo.le).put hv o.dst) hgo.wr (hg.mono hgo.le) fun g' w' a' ha' hd hgo'=>hQ g' w' a' ha' ?_ (hgo.trans hgo');rw[hd];cases o.dst<;>rfl
    unfold rM at hev1;have hwant:jH {dst:=o.dst,i:=(cI C.P o).getD .fail,guard:=gd} e=Region.wanted o (yielded ops a.tmps):=by
     rw[hy];unfold jH;cases gd<;>rfl
    split at hev1
    ·rename_i hwt;rw[hwant]at hwt;rw[if_pos hwt];exact .inl (ahN hcall hw rfl (fun x b hb=>ha.eval hg x b hb) hg hev1 rest)
    ·rename_i hwt;rw[hwant]at hwt;rw[if_neg hwt];simp at hev1;obtain⟨rfl,rfl⟩:=hev1;exact rest undef w g (.refl hw) (wZ g)
  ·cases hx
theorem PM{P:Program}{c:Code}{Q Q':Exit->Act->World->Prop}(h:∀e a w,Q e a w->Q' e a w):∀(n:Nat) (a:Act) (w:World),Code.rounds P c Q n a w->Code.rounds P c Q' n a w
 |0,_,_,hr=>hr
 |n+1,a,w,hr=>by
  rw[rounds_succ]at hr⊢;refine wp_mono hr fun e a' w' hq=>?_;cases e<;>first|exact h _ _ _ hq|exact PM h n a' w' hq
def XE.to:XE->Exit
 |.normal=>.normal
 |.exit id=>if id<1000000 then .exit id else .goto ((id-1000001)/2)
 |.ret=>.ret
def Post(C:Ctx)(g:Gh)(O:St)(w:World)(a:Act)(x:XE)(e':Env)(O':St):Exit->Act->World->Prop:=
 fun ex a' w'=>ex=x.to/\a'.defers=a.defers/\∃g',AR g' e' a'/\Goes g O w g' O' w'
def YJ(C:Ctx)(call:bD):Prop:=
 ∀(id:Nat) (ops:Array Oper) (l:List XOp),ab1 C.P ops=some l->∀(e e':Env) (O O':St),lJ C call l e O=some (e',O')->∀(g:Gh) (w:World) (a:Act),AR g e a->WR g w O->GL C g->
  (Code.region id ops true).wp C.P (Post C g O w a .normal e' O') a w
def ack(C:Ctx)(call:bD):Prop:=
 ∀(id:Nat) (ops:Array Oper) (l m:List XOp),XH C.P ops=some (l,m)->∀(e e1 e':Env) (O O1 O':St),lJ C call l e O=some (e1,O1)->nR C call m e1 O1=some (e',O')->∀(g:Gh) (w:World) (a:Act),AR g e a->WR g w O->GL C g->
  (Code.region id ops true).wp C.P (Post C g O w a .normal e' O') a w
def WX(C:Ctx)(call:bD):Prop:=YJ C call/\ack C call
def XC.outs:XC->Nat->Bool
 |.exit i,k=>i==k
 |.seq a b,k=>a.outs k||b.outs k
 |.cond _ a b,k=>a.outs k||b.outs k
 |.block id b,k=>b.outs k&&k !=id
 |.loop b,k=>b.outs k
 |.scope b,k=>b.outs k
 |_,_=>false
theorem xy(n:Nat):∀(c:XC) (e e':Env) (O O':St) (k:Nat),evC C call n c e O=some (.exit k,e',O')->c.outs k=true
 |.skip,_,_,_,_,_,h=>by simp[evC]at h
 |.ret,_,_,_,_,_,h=>by simp[evC]at h
 |.fail,_,_,_,_,_,h=>by simp[evC]at h
 |.ops l,e,e',O,O',k,h=>by simp only[evC]at h;split at h<;>simp at h
 |.drawn l,e,e',O,O',k,h=>by simp only[evC]at h;split at h<;>simp at h
 |.exit i,e,e',O,O',k,h=>by simp[evC]at h;simp[XC.outs,h.1]
 |.seq a b,e,e',O,O',k,h=>by
  simp only[evC]at h;rw[XC.outs,Bool.or_eq_true];split at h
  ·exact .inr (xy n b _ _ _ _ _ h)
  ·exact .inl (xy n a _ _ _ _ _ h)
 |.cond c a b,e,e',O,O',k,h=>by
  simp only[evC]at h;rw[XC.outs,Bool.or_eq_true];split at h
  ·exact .inl (xy n a _ _ _ _ _ h)
  ·exact .inr (xy n b _ _ _ _ _ h)
  ·cases h
 |.block id b,e,e',O,O',k,h=>by
  simp only[evC]at h;rw[XC.outs,Bool.and_eq_true];cases hb:evC C call n b e O with
  |none=>rw[hb]at h;cases h
  |some r=>
   obtain⟨x,e1,O1⟩:=r;rw[hb]at h;cases x with
   |normal=>simp at h
   |ret=>simp at h
   |exit i=>
    simp only[Option.some.injEq,Prod.mk.injEq]at h;obtain⟨hx,rfl,rfl⟩:=h;split at hx
    ·cases hx
    ·rename_i hi;cases hx;exact⟨xy n b _ _ _ _ _ hb,by simpa using hi⟩
 |.scope b,e,e',O,O',k,h=>by simp only[evC]at h;exact xy n b _ _ _ _ _ h
 |.loop b,e,e',O,O',k,h=>by
  simp only[evC]at h;have:∀m e O,nJ (evC C call n b) m e O=some (.exit k,e',O')->b.outs k=true:=by
   intro m
   induction m with
   |zero=>intro e O h;cases h
   |succ m ih=>
    intro e O h;simp only[nJ]at h;split at h
    ·exact ih _ _ h
    ·exact xy n b _ _ _ _ _ h
  exact this n e O h
theorem zu(P:Program)(p:Nat->Bool):∀(c:Code),sO p c=true->(∀k,(cC P c).outs k=true->k<1000000\/∃l,p l=true/\k=qL l)/\∀l r,cL P c l=some r->∀k,r.outs k=true->k<1000000\/∃l,p l=true/\k=qL l
 |.skip,h=>⟨fun k hk=>by simp[cC,XC.outs]at hk,fun l r hr=>by simp[cL]at hr⟩
 |.label l',h=>⟨fun k hk=>by simp[cC,XC.outs]at hk,fun l r hr=>by
  simp only[cL]at hr;split at hr
  ·cases hr;intro k hk;simp[XC.outs]at hk
  ·cases hr⟩
 |.ret,h=>⟨fun k hk=>by simp[cC,XC.outs]at hk,fun l r hr=>by simp[cL]at hr⟩
 |.refuse _,h=>⟨fun k hk=>by simp[cC,XC.outs]at hk,fun l r hr=>by simp[cL]at hr⟩
 |.rangeFunc ..,h=>⟨fun k hk=>by simp[cC,XC.outs]at hk,fun l r hr=>by simp[cL]at hr⟩
 |.region id ops draw,h=>⟨fun k hk=>by
  simp only[cC]at hk;split at hk
  ·split at hk<;>simp[XC.outs]at hk
  ·split at hk
   ·split at hk<;>simp[XC.outs]at hk
   ·simp[XC.outs]at hk,fun l r hr=>by simp[cL]at hr⟩
 |.goto l,h=>⟨fun k hk=>by simp[cC,XC.outs]at hk;exact .inr ⟨l,h,hk.symm⟩,fun l r hr=>by simp[cL]at hr⟩
 |.exit id,h=>⟨fun k hk=>by
  simp only[cC]at hk;split at hk
  ·rename_i hid;simp[XC.outs]at hk;exact .inl (by omega)
  ·simp[XC.outs]at hk,fun l r hr=>by simp[cL]at hr⟩
 |.seq a b,h=>by
  simp only[sO,Bool.and_eq_true]at h;have ha:=zu P p a h.1;have hb:=zu P p b h.2;refine⟨fun k hk=>?_,fun l r hr k hk=>?_⟩
  ·simp only[cC,XC.outs,Bool.or_eq_true]at hk;exact hk.elim (ha.1 k) (hb.1 k)
  ·simp only[cL]at hr;split at hr
   ·rename_i r0 hr0;cases hr;simp only[XC.outs,Bool.or_eq_true]at hk;exact hk.elim (ha.2 l r0 hr0 k) (hb.1 k)
   ·exact hb.2 l r hr k hk
 |.cond c a b,h=>by
  simp only[sO,Bool.and_eq_true]at h;have ha:=zu P p a h.1;have hb:=zu P p b h.2;refine⟨fun k hk=>?_,fun l r hr=>by simp[cL]at hr⟩
  simp only[cC]at hk;split at hk
  ·simp only[XC.outs,Bool.or_eq_true]at hk;exact hk.elim (ha.1 k) (hb.1 k)
  ·simp[XC.outs]at hk
 |.block id b,h=>by
  have hb:=zu P p b h;refine⟨fun k hk=>?_,fun l r hr=>by simp[cL]at hr⟩
  simp only[cC]at hk;split at hk
  ·simp only[XC.outs,Bool.and_eq_true]at hk;exact hb.1 k hk.1
  ·simp[XC.outs]at hk
 |.loop b,h=>by
  have hb:=zu P p b h;refine⟨fun k hk=>?_,fun l r hr=>by simp[cL]at hr⟩
  simp only[cC,XC.outs]at hk;exact hb.1 k hk
 |.scope b,h=>by
  have hb:=zu P p b h;refine⟨fun k hk=>?_,fun l r hr=>by simp[cL]at hr⟩
  simp only[cC]at hk;cases hj:Bq b with
  |none=>
   rw[hj]at hk;simp only at hk;split at hk
   ·simp only[XC.outs]at hk;exact hb.1 k hk
   ·simp[XC.outs]at hk
  |some l=>
   rw[hj]at hk;simp only at hk;cases hc:cL P b l with
   |none=>rw[hc]at hk;split at hk<;>first|(rename_i h1;cases h1;done)|simp[XC.outs]at hk
   |some c=>
    rw[hc]at hk;cases hji:sO (· ==l) b with
    |false=>rw[hji]at hk;simp[XC.outs]at hk
    |true=>
     rw[hji]at hk;simp only[XC.outs,Bool.and_eq_true,Bool.or_eq_true,bne_iff_ne,ne_eq,beq_iff_eq]at hk;obtain⟨hk,hd⟩:=hk;rcases hk with⟨hk|hk,_⟩|⟨hk|hk,_⟩
     ·exact hb.1 k hk
     ·exact absurd hk.symm hd
     ·exact hb.2 l c hc k hk
     ·exact absurd hk.symm hd
theorem acM(P:Program):∀(c:Code) (l:Nat),cL P c l=(findLabel c l).map (cC P)
 |.seq a b,l=>by
  rw[cL,findLabel,acM P a l];cases findLabel a l with
  |some r=>simp[cC]
  |none=>simp[acM P b l]
 |.label l',l=>by
  rw[cL,findLabel];split<;>simp[cC]
 |.skip,l=>by simp[cL,findLabel]
 |.ret,l=>by simp[cL,findLabel]
 |.refuse _,l=>by simp[cL,findLabel]
 |.rangeFunc ..,l=>by simp[cL,findLabel]
 |.region ..,l=>by simp[cL,findLabel]
 |.goto _,l=>by simp[cL,findLabel]
 |.exit _,l=>by simp[cL,findLabel]
 |.cond ..,l=>by simp[cL,findLabel]
 |.block ..,l=>by simp[cL,findLabel]
 |.loop _,l=>by simp[cL,findLabel]
 |.scope _,l=>by simp[cL,findLabel]
theorem least(p:Nat->Prop)(h:∃n,p n):∃n,p n/\∀m,m<n->¬p m:=by
 obtain⟨n,hn⟩:=h
 induction n using Nat.strongRecOn with
 |_ n ih=>
  by_cases hm:∃m,m<n/\p m
  ·obtain⟨m,h1,h2⟩:=hm;exact ih m h1 h2
  ·exact⟨n,hn,fun m h1 h2=>hm ⟨m,h1,h2⟩⟩
theorem acf {P:Program} {c rest:Code} {Q:Exit->Act->World->Prop} {a:Act} {w:World} (l:Nat) (J:Nat->Act->World->Prop) (hf:findLabel c l=some rest) (first:c.wp P (Exit.jump l (fun a w=>∃n,J n a w) Q) a w)
  (pass:∀n a w,J n a w->rest.wp P (Exit.jump l (fun a' w'=>∃m,m<n/\J m a' w') Q) a w):(Code.scope c).wp P Q a w:=by
 classical
 let μ:Act->World->Nat:=fun a w=>if h:∃n,J n a w then Classical.choose (least _ h)else 0
 refine wp_scope_jumps l (fun a w=>∃n,J n a w) μ hf first fun a w hJ=>?_
 have hμ:μ a w=Classical.choose (least _ hJ):=dif_pos hJ;have hs:=Classical.choose_spec (least _ hJ);rw[<-hμ]at hs;refine wp_mono (pass _ a w hs.1) fun ex a' w' hq=>?_;cases ex with
 |goto l'=>
  obtain⟨h1,m,hm,hJm⟩:=hq;refine⟨h1,⟨m,hJm⟩,?_⟩;have hJ':∃n,J n a' w':=⟨m,hJm⟩;have hμ':μ a' w'=Classical.choose (least _ hJ'):=dif_pos hJ';have hs':=Classical.choose_spec (least _ hJ');rw[<-hμ']at hs';rcases Nat.lt_or_ge m (μ a' w')with h|h
  ·exact absurd hJm (hs'.2 m h)
  ·omega
 |_=>exact hq
theorem Jt:∀(c:Code) (l:Nat) (r:Code),findLabel c l=some r->SizeOf.sizeOf r<=SizeOf.sizeOf c
 |.seq a b,l,r,h=>by
  rw[findLabel]at h;split at h
  ·rename_i r0 h0;cases h;have:=Jt a l r0 h0;simp;omega
  ·have:=Jt b l r h;simp;omega
 |.label l',l,r,h=>by
  rw[findLabel]at h;split at h
  ·cases h;simp
  ·cases h
 |.skip,l,r,h=>by simp[findLabel]at h
 |.ret,l,r,h=>by simp[findLabel]at h
 |.refuse _,l,r,h=>by simp[findLabel]at h
 |.rangeFunc ..,l,r,h=>by simp[findLabel]at h
 |.region ..,l,r,h=>by simp[findLabel]at h
 |.goto _,l,r,h=>by simp[findLabel]at h
 |.exit _,l,r,h=>by simp[findLabel]at h
 |.cond ..,l,r,h=>by simp[findLabel]at h
 |.block ..,l,r,h=>by simp[findLabel]at h
 |.loop _,l,r,h=>by simp[findLabel]at h
 |.scope _,l,r,h=>by simp[findLabel]at h
theorem YA(id:Nat):(XE.exit id).to=.exit id\/∃l,(XE.exit id).to=.goto l:=by
 unfold XE.to;split
 ·rename_i h;cases h
 ·rename_i i h;cases h;split
  ·exact .inl rfl
  ·exact .inr ⟨_,rfl⟩
 ·rename_i h;cases h
theorem lC (hcall:fO C call) (hdrawn:WX C call) (n:Nat):∀(c:Code) (e e':Env) (O O':St) (x:XE),evC C call n (cC C.P c) e O=some (x,e',O')->∀(g:Gh) (w:World) (a:Act),AR g e a->WR g w O->GL C g->
   c.wp C.P (Post C g O w a x e' O') a w
  |.skip,e,e',O,O',x,hev,g,w,a,ha,hw,hg=>by
   simp[cC,evC]at hev;obtain⟨rfl,rfl,rfl⟩:=hev;exact wp_skip ⟨rfl,rfl,g,ha,.refl hw⟩
  |.label l,e,e',O,O',x,hev,g,w,a,ha,hw,hg=>by
   simp[cC,evC]at hev;obtain⟨rfl,rfl,rfl⟩:=hev;exact wp_label ⟨rfl,rfl,g,ha,.refl hw⟩
  |.exit id,e,e',O,O',x,hev,g,w,a,ha,hw,hg=>by
   simp only[cC]at hev;split at hev
   ·rename_i hid;simp[evC]at hev;obtain⟨rfl,rfl,rfl⟩:=hev;exact wp_exit ⟨by simp[XE.to,hid],rfl,g,ha,.refl hw⟩
   ·simp[evC]at hev
  |.ret,e,e',O,O',x,hev,g,w,a,ha,hw,hg=>by
   simp[cC,evC]at hev;obtain⟨rfl,rfl,rfl⟩:=hev;exact wp_ret ⟨rfl,rfl,g,ha,.refl hw⟩
  |.region id ops draw,e,e',O,O',x,hev,g,w,a,ha,hw,hg=>by
   simp only[cC]at hev;cases draw with
   |true=>
    simp only[if_true]at hev;split at hev
    ·rename_i l hl;simp only[evC]at hev;split at hev
     ·rename_i e1 O1 hd;simp at hev;obtain⟨rfl,rfl,rfl⟩:=hev;exact hdrawn.1 id ops l hl e e1 O O1 hd g w a ha hw hg
     ·cases hev
    ·split at hev
     ·rename_i l m hl;simp only[evC]at hev;cases hd:lJ C call l e O with
      |none=>rw[hd]at hev;cases hev
      |some p=>
       obtain⟨e1,O1⟩:=p;rw[hd]at hev;simp only at hev;split at hev
       ·rename_i e2 O2 hd2;simp at hev;obtain⟨rfl,rfl,rfl⟩:=hev;exact hdrawn.2 id ops l m hl e e1 e2 O O1 O2 hd hd2 g w a ha hw hg
       ·cases hev
     ·simp[evC]at hev
   |false=>
    simp only[Bool.false_eq_true,if_false]at hev;split at hev
    ·rename_i l hl;simp only[evC]at hev;split at hev
     ·rename_i e1 O1 hd;simp at hev;obtain⟨rfl,rfl,rfl⟩:=hev;refine wp_region ?_;have:=Wp hcall ops (Q:=Post C g O w a .normal e1 O1) ops.toList 0 l rfl hl e e1 O O1 hd g w a ha hw hg (fun g' w' a' ha' hd' hgo=>⟨rfl,hd',g',ha',hgo⟩);rw[List.range_eq_range'];simpa using this
     ·cases hev
    ·simp[evC]at hev
  |.seq c1 c2,e,e',O,O',x,hev,g,w,a,ha,hw,hg=>by
   simp only[cC,evC]at hev;refine wp_seq ?_;cases h1:evC C call n (cC C.P c1) e O with
   |none=>rw[h1]at hev;cases hev
   |some p=>
    obtain⟨x1,e1,O1⟩:=p;rw[h1]at hev;refine wp_mono (lC hcall hdrawn n c1 e e1 O O1 x1 h1 g w a ha hw hg) fun ex a1 w1 ⟨hx,hd,g1,ha1,hgo⟩=>?_;subst hx;cases x1 with
    |normal=>
     simp only at hev;refine wp_mono (lC hcall hdrawn n c2 e1 e' O1 O' x hev g1 w1 a1 ha1 hgo.wr (hg.mono hgo.le)) fun ex a2 w2 ⟨hx,hd2,g2,ha2,hgo2⟩=>?_;exact⟨hx,hd2.trans hd,g2,ha2,hgo.trans hgo2⟩
    |exit id=>
     simp at hev;obtain⟨rfl,rfl,rfl⟩:=hev;have hP:Post C g O w a (.exit id) e1 O1 (XE.exit id).to a1 w1:=⟨rfl,hd,g1,ha1,hgo⟩;rcases YA id with he|⟨l,he⟩<;>rw[he]at hP⊢<;>exact hP
    |ret=>
     simp at hev;obtain⟨rfl,rfl,rfl⟩:=hev;exact⟨rfl,hd,g1,ha1,hgo⟩
  |.cond c c1 c2,e,e',O,O',x,hev,g,w,a,ha,hw,hg=>by
   simp only[cC]at hev;cases hc:cA c with
   |none=>rw[hc]at hev;simp[evC]at hev
   |some b=>
    rw[hc]at hev;simp only[evC]at hev;have hv:=ha.eval hg c b hc;split at hev
    ·rename_i hb;rw[hb]at hv;generalize hcv:a.eval c=cv at hv;cases hv;exact wp_cond_true hcv (lC hcall hdrawn n c1 e e' O O' x hev g w a ha hw hg)
    ·rename_i hb;rw[hb]at hv;generalize hcv:a.eval c=cv at hv;cases hv;exact wp_cond_false hcv (lC hcall hdrawn n c2 e e' O O' x hev g w a ha hw hg)
    ·cases hev
  |.block id b,e,e',O,O',x,hev,g,w,a,ha,hw,hg=>by
   simp only[cC]at hev;by_cases hid:id<1000000
   case neg=>rw[if_neg hid]at hev;simp[evC]at hev
   rw[if_pos hid]at hev;simp only[evC]at hev;refine wp_block ?_;cases h1:evC C call n (cC C.P b) e O with
   |none=>rw[h1]at hev;cases hev
   |some p=>
    obtain⟨x1,e1,O1⟩:=p;rw[h1]at hev;refine wp_mono (lC hcall hdrawn n b e e1 O O1 x1 h1 g w a ha hw hg) fun ex a1 w1 ⟨hx,hd,g1,ha1,hgo⟩=>?_;subst hx;cases x1 with
    |normal=>
     simp at hev;obtain⟨rfl,rfl,rfl⟩:=hev;exact⟨rfl,hd,g1,ha1,hgo⟩
    |exit i=>
     simp at hev;obtain⟨hxe,rfl,rfl⟩:=hev;by_cases hi:i=id
     ·subst hi;rw[if_pos rfl]at hxe;subst hxe;rw[show(XE.exit i).to=.exit i from by simp[XE.to,hid]]
      simp only[Exit.inBlock,if_true];exact⟨rfl,hd,g1,ha1,hgo⟩
     ·rw[if_neg hi]at hxe;subst hxe;have hP:Post C g O w a (.exit i) e1 O1 (XE.exit i).to a1 w1:=⟨rfl,hd,g1,ha1,hgo⟩;rcases YA i with he|⟨l,he⟩<;>rw[he]at hP⊢
      ·simp only[Exit.inBlock,if_neg hi];exact hP
      ·exact hP
    |ret=>
     simp at hev;obtain⟨rfl,rfl,rfl⟩:=hev;exact⟨rfl,hd,g1,ha1,hgo⟩
  |.loop b,e,e',O,O',x,hev,g,w,a,ha,hw,hg=>by
   simp only[cC,evC]at hev;refine wp_loop_rounds n ?_;have key:∀(m:Nat) (e:Env) (O:St) (g0:Gh) (w0:World) (a0:Act),nJ (evC C call n (cC C.P b)) m e O=some (x,e',O')->AR g0 e a0->WR g0 w0 O->GL C g0->Code.rounds C.P b (Post C g0 O w0 a0 x e' O') m a0 w0:=by
    intro m
    induction m with
    |zero=>intro e O g0 w0 a0 h;cases h
    |succ m ih=>
     intro e O g0 w0 a0 h ha0 hw0 hg0;rw[rounds_succ];simp only[nJ]at h;cases h1:evC C call n (cC C.P b) e O with
     |none=>rw[h1]at h;cases h
     |some p=>
      obtain⟨x1,e1,O1⟩:=p;rw[h1]at h;refine wp_mono (lC hcall hdrawn n b e e1 O O1 x1 h1 g0 w0 a0 ha0 hw0 hg0) fun ex a1 w1 ⟨hx,hd,g1,ha1,hgo⟩=>?_;subst hx;cases x1 with
      |normal=>
       simp only at h;have:=ih e1 O1 g1 w1 a1 h ha1 hgo.wr (hg0.mono hgo.le);simp only[XE.to,Exit.then];exact PM (fun ex a2 w2 ⟨hx,hd2,g2,ha2,hgo2⟩=>⟨hx,hd2.trans hd,g2,ha2,hgo.trans hgo2⟩) m a1 w1 this
      |exit id=>
       simp at h;obtain⟨rfl,rfl,rfl⟩:=h;have hP:Post C g0 O w0 a0 (.exit id) e1 O1 (XE.exit id).to a1 w1:=⟨rfl,hd,g1,ha1,hgo⟩;rcases YA id with he|⟨l,he⟩<;>rw[he]at hP⊢<;>exact hP
      |ret=>
       simp at h;obtain⟨rfl,rfl,rfl⟩:=h;exact⟨rfl,hd,g1,ha1,hgo⟩
   exact key n e O g w a hev ha hw hg
  |.scope b,e,e',O,O',x,hev,g,w,a,ha,hw,hg=>by
   simp only[cC]at hev;cases hj:Bq b with
   |none=>
    rw[hj]at hev;simp only at hev;split at hev
    ·rename_i hno;simp only[evC]at hev;refine wp_scope_straight ?_;refine wp_mono (lC hcall hdrawn n b e e' O O' x hev g w a ha hw hg) fun ex a1 w1 ⟨hx,hd,g1,ha1,hgo⟩=>?_;subst hx;cases x with
     |normal=>exact⟨rfl,hd,g1,ha1,hgo⟩
     |ret=>exact⟨rfl,hd,g1,ha1,hgo⟩
     |exit i=>
      have hi:i<1000000:=by
       rcases(zu C.P _ b hno).1 i (xy n _ _ _ _ _ _ hev)with h|⟨l,h,_⟩
       ·exact h
       ·cases h
      have hP:Post C g O w a (.exit i) e' O' (XE.exit i).to a1 w1:=⟨rfl,hd,g1,ha1,hgo⟩;rw[show(XE.exit i).to=.exit i from by simp[XE.to,hi]]at hP⊢
      exact hP
    ·simp[evC]at hev
   |some l=>
    rw[hj]at hev;simp only at hev;cases hc:cL C.P b l with
    |none=>rw[hc]at hev;split at hev<;>first|(rename_i h1;cases h1;done)|simp[evC]at hev
    |some c=>
     rw[hc]at hev;cases hji:sO (· ==l) b with
     |false=>rw[hji]at hev;simp[evC]at hev
     |true=>
      rw[hji]at hev;simp only[evC]at hev;rw[acM,Option.map_eq_some_iff]at hc;obtain⟨rest,hf,rfl⟩:=hc;have hDG:Dy l≠qL l:=by unfold Dy qL;omega
      have hcL:cL C.P b l=some (cC C.P rest):=by rw[acM,hf];rfl
      have hout:=zu C.P _ b hji;have few:∀i,(i<1000000\/∃l',(l'==l)=true/\i=qL l')->i≠qL l->i<1000000:=fun i h hi=>by
       rcases h with h|⟨l',h1,h2⟩
       ·exact h
       ·rw[beq_iff_eq]at h1;subst h1;exact absurd h2 hi
      have toG:(XE.exit (qL l)).to=.goto l:=by simp[XE.to,qL];omega
      have toE:∀i,i<1000000->(XE.exit i).to=.exit i:=fun i hi=>by simp[XE.to,hi]
      have hbig:∀i,i<1000000->i≠qL l/\i≠Dy l:=fun i hi=>by unfold qL Dy;omega
      refine acf l (fun m a0 w0=>∃e0 O0 g0 y,nJ (evC C call n (.block (qL l) (.seq (cC C.P rest) (.exit (Dy l))))) m e0 O0=some (y,e',O')/\(match y with|.exit i=>if i=Dy l then XE.normal else .exit i|y=>y)=x/\AR g0 e0 a0/\a0.defers=a.defers/\Goes g O w g0 O0 w0) hf ?_ ?_
      ·cases hb:evC C call n (cC C.P b) e O with
       |none=>rw[hb]at hev;simp at hev
       |some r=>
        obtain⟨x1,e1,O1⟩:=r;rw[hb]at hev;refine wp_mono (lC hcall hdrawn n b e e1 O O1 x1 hb g w a ha hw hg) fun ex a1 w1 ⟨hx,hd,g1,ha1,hgo⟩=>?_;subst hx;cases x1 with
        |normal=>
         simp only[if_neg hDG,if_true,Option.some.injEq,Prod.mk.injEq]at hev;obtain⟨rfl,rfl,rfl⟩:=hev;exact⟨rfl,hd,g1,ha1,hgo⟩
        |ret=>
         simp only[Option.some.injEq,Prod.mk.injEq]at hev;obtain⟨rfl,rfl,rfl⟩:=hev;exact⟨rfl,hd,g1,ha1,hgo⟩
        |exit i=>
         by_cases hi:i=qL l
         ·subst hi;rw[toG];simp only[if_true]at hev;refine⟨rfl,n,e1,O1,g1,?_⟩;split at hev
          ·rename_i i1 e2 O2 hl;simp only[Option.some.injEq,Prod.mk.injEq]at hev;obtain⟨hx,rfl,rfl⟩:=hev;exact⟨_,hl,hx,ha1,hd,hgo⟩
          ·rename_i hne;refine⟨x,hev,?_,ha1,hd,hgo⟩;cases x with
           |exit i1=>exact(hne _ _ _ hev).elim
           |normal=>rfl
           |ret=>rfl
         ·have hlt:=few i (hout.1 i (xy n _ _ _ _ _ _ hb)) hi;simp only[if_neg hi,if_neg (hbig i hlt).2,Option.some.injEq,Prod.mk.injEq]at hev;obtain⟨rfl,rfl,rfl⟩:=hev;rw[toE i hlt];exact⟨(toE i hlt).symm,hd,g1,ha1,hgo⟩
      ·rintro m a0 w0 ⟨e0,O0,g0,y,hl,hy,har,hdef,hgo0⟩;cases m with
       |zero=>cases hl
       |succ m=>
        simp only[nJ,evC]at hl;cases hb:evC C call n (cC C.P rest) e0 O0 with
        |none=>rw[hb]at hl;simp at hl
        |some r=>
         obtain⟨x1,e1,O1⟩:=r;rw[hb]at hl;refine wp_mono (lC hcall hdrawn n rest e0 e1 O0 O1 x1 hb g0 w0 a0 har hgo0.wr (hg.mono hgo0.le)) fun ex a1 w1 ⟨hx,hd,g1,ha1,hgo⟩=>?_;subst hx;cases x1 with
         |normal=>
          simp only[if_neg hDG,Option.some.injEq,Prod.mk.injEq]at hl;obtain⟨rfl,rfl,rfl⟩:=hl;simp only[if_true]at hy;subst hy;exact⟨rfl,hd.trans hdef,g1,ha1,hgo0.trans hgo⟩
         |ret=>
          simp only[Option.some.injEq,Prod.mk.injEq]at hl;obtain⟨rfl,rfl,rfl⟩:=hl;simp only at hy;subst hy;exact⟨rfl,hd.trans hdef,g1,ha1,hgo0.trans hgo⟩
         |exit i=>
          by_cases hi:i=qL l
          ·subst hi;rw[toG];simp only[if_true]at hl;exact⟨rfl,m,by omega,e1,O1,g1,y,hl,hy,ha1,hd.trans hdef,hgo0.trans hgo⟩
          ·have hlt:=few i (hout.2 l _ hcL i (xy n _ _ _ _ _ _ hb)) hi;simp only[if_neg hi,Option.some.injEq,Prod.mk.injEq]at hl;obtain⟨rfl,rfl,rfl⟩:=hl;simp only[if_neg (hbig i hlt).2]at hy;subst hy;rw[toE i hlt];exact⟨(toE i hlt).symm,hd.trans hdef,g1,ha1,hgo0.trans hgo⟩
  |.goto l,e,e',O,O',x,hev,g,w,a,ha,hw,hg=>by
   simp[cC,evC]at hev;obtain⟨rfl,rfl,rfl⟩:=hev;exact wp_goto ⟨by simp[XE.to,qL];omega,rfl,g,ha,.refl hw⟩
  |.rangeFunc ..,e,e',O,O',x,hev,g,w,a,ha,hw,hg=>by simp[cC,evC]at hev
  |.refuse _,e,e',O,O',x,hev,g,w,a,ha,hw,hg=>by simp[cC,evC]at hev
 termination_by c=>SizeOf.sizeOf c
 decreasing_by
  all_goals simp_wf
  all_goals first
   |omega
   |(have:=Jt _ _ _ hf;omega)
end
section
variable{C:Ctx}{g:Gh}{w:World}{O:St}
theorem air{O:St}{o:Nat}{x:AO}(h:O[o]?=some x):O.set o x=O:=by
 apply List.ext_getElem?;intro k;by_cases hk:o=k
 ·subst hk;have:=(List.getElem?_eq_some_iff.1 h).1;rw[List.getElem?_set_self this,h]
 ·rw[List.getElem?_set_ne hk]
theorem xX:∀(fs:List Nat) (O:St) (g:Gh),WR g w O->∃g',Goes g O w g' (freeze O fs) w/\∀o∈fs,∀l fz,O[o]?=some (.cells l fz)->CR g' l (g.ob o) 0
 |[],O,g,hw=>⟨g,.refl hw,by simp⟩
 |o::fs,O,g,hw=>by
  cases hx:O[o]? with
  |none=>
   obtain⟨g',h1,h2⟩:=xX fs O g hw;refine⟨g',by simpa[freeze,hx]using h1,fun o' ho' l fz hl=>?_⟩
   rcases List.mem_cons.1 ho' with rfl|ho'
   ·rw[hx]at hl;cases hl
   ·exact h2 o' ho' l fz hl
  |some x=>
   cases x with
   |dead=>
    obtain⟨g',h1,h2⟩:=xX fs O g hw;refine⟨g',by simpa[freeze,hx]using h1,fun o' ho' l fz hl=>?_⟩
    rcases List.mem_cons.1 ho' with rfl|ho'
    ·rw[hx]at hl;cases hl
    ·exact h2 o' ho' l fz hl
   |map es=>
    obtain⟨g',h1,h2⟩:=xX fs O g hw;refine⟨g',by simpa[freeze,hx]using h1,fun o' ho' l fz hl=>?_⟩
    rcases List.mem_cons.1 ho' with rfl|ho'
    ·rw[hx]at hl;cases hl
    ·exact h2 o' ho' l fz hl
   |cells l0 fz0=>
    obtain⟨g1,h1,hcr⟩:=Zw hw hx;have hstep:freeze O (o::fs)=freeze (O.set o (.cells l0 ⟨true,fz0.t⟩)) fs:=by
     obtain⟨b0,t0⟩:=fz0;cases b0 with
     |false=>simp[freeze,hx]
     |true=>simp[freeze,hx,air hx]
    obtain⟨g2,h2,h3⟩:=xX fs (O.set o (.cells l0 ⟨true,fz0.t⟩)) g1 h1.wr;refine⟨g2,by rw[hstep];exact h1.trans h2,fun o' ho' l fz hl=>?_⟩
    have hlt:o'<g.n:=hw.lt hl;by_cases hoo:o'=o
    ·subst hoo;rw[hx]at hl;simp at hl;obtain⟨rfl,_⟩:=hl;exact hcr.mono h2.le
    ·rcases List.mem_cons.1 ho' with rfl|ho'
     ·exact absurd rfl hoo
     ·have:=h3 o' ho' l fz (by rw[List.getElem?_set_ne (fun e=>hoo e.symm)];exact hl)
      rwa[h1.le.ob o' hlt]at this
def WZ(g:Gh)(O:St)(fs:List Nat):Prop:=∀o∈fs,∀l fz,O[o]?=some (.cells l fz)->CR g l (g.ob o) 0
theorem WZ.left{fs gs:List Nat}(h:WZ g O (fs++gs)):WZ g O fs:=fun o ho=>h o (by simp[ho])
theorem WZ.right{fs gs:List Nat}(h:WZ g O (fs++gs)):WZ g O gs:=fun o ho=>h o (by simp[ho])
def aaK(g:Gh)(O:St)(r:LA->Option (LA×List Nat)):Prop:=∀l l' fs,r l=some (l',fs)->WZ g O fs->(∀vs,VRs g l vs->VRs g l' vs)/\∀b off,CR g l b off->CR g l' b off
mutual
theorem V9(r:LA->Option (LA×List Nat))(hr:aaK g O r):∀(a:AV) (a':AV) (fs:List Nat),aU O r a=some (a',fs)->WZ g O fs->∀v,VR g a v->VR g a' v
 |.nils,a',fs,h,_,v,hv=>by simp[aU]at h;obtain⟨rfl,rfl⟩:=h;cases hv;exact .slNil
 |.emp,a',fs,h,_,v,hv=>by simp[aU]at h;obtain⟨rfl,rfl⟩:=h;cases hv;exact .slEmp _ _
 |.xsl n l,a',fs,h,hf,v,hv=>by
  simp only[aU]at h;split at h
  ·rename_i l' fs' hl;simp at h;obtain⟨rfl,rfl⟩:=h;cases hv with
   |xsl _ _ b off hc=>exact .sl _ _ _ _ _ ((uo r hr l l' fs' hl hf).2 b off hc) (Nat.le_refl _)
  ·cases h
 |.msl o off m sz,a',fs,h,hf,v,hv=>by
  simp only[aU]at h;split at h
  ·rename_i l fz hl;split at h
   ·rename_i hlen;split at h
    ·rename_i l' fs' hr';simp at h;obtain⟨rfl,rfl⟩:=h;cases hv with
     |msl _ _ _ _ cap ho hn hb=>
      have hc:=hf o (by simp) l fz hl
      have hc2:=(hc.drop off).take (m*sz);simp only[Nat.zero_add]at hc2;exact .sl _ _ _ _ _ ((hr _ l' fs' hr' (fun o' ho'=>hf o' (by simp[ho']))).2 _ _ hc2) hn
    ·cases h
   ·cases h
  ·cases h
 |.func f x y,a',fs,h,hf,v,hv=>by
  simp only[aU]at h;split at h
  ·rename_i x' fs' y' gs h1 h2;simp at h;obtain⟨rfl,rfl⟩:=h;cases hv with
   |func _ _ _ vx vy hx hy=>exact .func _ _ _ _ _ ((uo r hr x x' fs' h1 hf.left).1 _ hx) ((uo r hr y y' gs h2 hf.right).1 _ hy)
  ·cases h
 |.iface t u,a',fs,h,hf,v,hv=>by
  simp only[aU]at h;split at h
  ·rename_i u' fs' h1;simp at h;obtain⟨rfl,rfl⟩:=h;cases hv with
   |iface _ _ v' hv=>exact .iface _ _ _ (V9 r hr u u' fs' h1 hf _ hv)
  ·cases h
 |.agg l,a',fs,h,hf,v,hv=>by
  simp only[aU]at h;split at h
  ·rename_i l' fs' h1;simp at h;obtain⟨rfl,rfl⟩:=h;cases hv with
   |agg _ vs hl=>exact .agg _ _ ((uo r hr l l' fs' h1 hf).1 _ hl)
  ·cases h
 |.tup l,a',fs,h,hf,v,hv=>by
  simp only[aU]at h;split at h
  ·rename_i l' fs' h1;simp at h;obtain⟨rfl,rfl⟩:=h;cases hv with
   |tup _ vs hl=>exact .tup _ _ ((uo r hr l l' fs' h1 hf).1 _ hl)
  ·cases h
 |.bool _,a',fs,h,_,v,hv=>by simp[aU]at h;obtain⟨rfl,rfl⟩:=h;exact hv
 |.int _ _,a',fs,h,_,v,hv=>by simp[aU]at h;obtain⟨rfl,rfl⟩:=h;exact hv
 |.str _,a',fs,h,_,v,hv=>by simp[aU]at h;obtain⟨rfl,rfl⟩:=h;exact hv
 |.nilp,a',fs,h,_,v,hv=>by simp[aU]at h;obtain⟨rfl,rfl⟩:=h;exact hv
 |.ref _ _,a',fs,h,_,v,hv=>by simp[aU]at h;obtain⟨rfl,rfl⟩:=h;exact hv
 |.eptr _,a',fs,h,_,v,hv=>by simp[aU]at h;obtain⟨rfl,rfl⟩:=h;exact hv
 |.sl _ _,a',fs,h,_,v,hv=>by simp[aU]at h;obtain⟨rfl,rfl⟩:=h;exact hv
 |.map _,a',fs,h,_,v,hv=>by simp[aU]at h;obtain⟨rfl,rfl⟩:=h;exact hv
 |.nilMap,a',fs,h,_,v,hv=>by simp[aU]at h;obtain⟨rfl,rfl⟩:=h;exact hv
 |.nilFunc,a',fs,h,_,v,hv=>by simp[aU]at h;obtain⟨rfl,rfl⟩:=h;exact hv
 |.nilIface,a',fs,h,_,v,hv=>by simp[aU]at h;obtain⟨rfl,rfl⟩:=h;exact hv
theorem uo(r:LA->Option (LA×List Nat))(hr:aaK g O r):∀(l l':LA) (fs:List Nat),aJ O r l=some (l',fs)->WZ g O fs->(∀vs,VRs g l vs->VRs g l' vs)/\∀b off,CR g l b off->CR g l' b off
 |[],l',fs,h,_=>by simp[aJ]at h;obtain⟨rfl,rfl⟩:=h;exact⟨fun _ h=>h,fun _ _ h=>h⟩
 |a::l,l',fs,h,hf=>by
  simp only[aJ]at h;split at h
  ·rename_i a' fs' l'' gs h1 h2;simp at h;obtain⟨rfl,rfl⟩:=h;have ia:=V9 r hr a a' fs' h1 hf.left;have il:=uo r hr l l'' gs h2 hf.right;exact⟨fun vs hv=>by cases hv with|cons _ v _ vs' x y=>exact .cons _ _ _ _ (ia v x) (il.1 _ y),
    fun b off hc=>by cases hc with|cons _ v _ _ _ x y z=>exact .cons _ _ _ _ _ x (ia v y) (il.2 _ _ z)⟩
  ·cases h
end
theorem Z7:∀n,aaK g O (bZ O n)
 |0=>fun l l' fs h _=>by cases h
 |n+1=>fun l l' fs h hf=>uo (bZ O n) (Z7 n) l l' fs h hf
theorem um(hw:WR g w O)(raw:Bool){l l':LA}{O':St}(h:hand raw l O=some (l',O')){vs:List Value}(hv:VRs g l vs):∃g',Goes g O w g' O' w/\VRs g' l' vs:=by
 unfold hand at h;split at h
 ·simp at h;obtain⟨rfl,rfl⟩:=h;exact⟨g,.refl hw,hv⟩
 ·split at h
  ·rename_i l1 fs h1;simp at h;obtain⟨rfl,rfl⟩:=h;obtain⟨g',h2,h3⟩:=xX fs O g hw;refine⟨g',h2,(Z7 12 l l1 fs h1 (fun o ho l0 fz hl=>?_)).1 _ (hv.mono h2.le)⟩;rw[h2.le.ob o (hw.lt hl)];exact h3 o ho l0 fz hl
  ·cases h
theorem Uy{g0:Gh}{O0:St}{w0:World}(hgo:Goes g0 O0 w0 g O w)(h0:WR g0 w0 O0){l:LA}{vs:List Value}(hv:VRs g l vs):∃g',Goes g0 O0 w0 g' (tidy O0.length l O) w/\VRs g' l vs:=by
 unfold tidy;split
 ·exact⟨g,hgo,hv⟩
 ·split
  ·rename_i hb;simp only[Bool.and_eq_true]at hb;exact⟨_,agA hgo h0.n hb.2,hv.cut hb.1⟩
  ·exact⟨g,hgo,hv⟩
theorem GL.none{C:Ctx}{g:Gh}:GL {C with gl:=fun _=>none,np:=true} g:=⟨fun n l h=>(by cases h),Or.inl rfl⟩
theorem Hw (hw:WR g w O) {e:Env} {a:Act} (ha:AR g e a):∀(rs:List ResultVar) (xs:List XR),cR C.P rs=some xs->∀(vs:LA),P7 e O xs=some vs->
  ∃vs',(rs.mapM (m:=Sem) fun|.tmp t=>pure (a.tmps.getD t undef)|.cell ad t=>do loadVar t (<-asAddr (a.tmps.getD ad undef))).run C.P w=.ok vs' w/\VRs g vs vs'
 |[],xs,hx,vs,hv=>by
  simp[cR]at hx;subst hx;simp[P7]at hv;subst hv;exact⟨[],rfl,.nil⟩
 |.tmp t::rs,xs,hx,vs,hv=>by
  simp only[cR,Option.map_eq_some_iff]at hx;obtain⟨xs',h1,rfl⟩:=hx;simp only[P7]at hv;split at hv
  ·rename_i vs1 h2;simp at hv;subst hv;obtain⟨vs',h3,h4⟩:=Hw hw ha rs xs' h1 vs1 h2;refine⟨a.tmps.getD t undef::vs',?_,.cons _ _ _ _ ?_ h4⟩
   ·simp only[List.mapM_cons,Sem.run_bind,Sem.run_pure,Result.andThen_ok,h3]
   ·have:=AR.eval (C:={C with gl:=fun _=>none,np:=true}) ha GL.none (.tmp t) (.t t) rfl;exact this
  ·cases hv
 |.cell t ty::rs,xs,hx,vs,hv=>by
  simp only[cR,Option.bind_eq_bind,Option.bind_eq_some_iff,Option.pure_def,Option.some.injEq]at hx;obtain⟨u,hu,i,hi,xs',h1,rfl⟩:=hx;simp only[P7]at hv;split at hv
  ·rename_i o off vs1 h5 h2;split at hv
   ·rename_i c fz hc;split at hv
    ·rename_i v hpt;simp at hv;subst hv;obtain⟨vs',h3,h4⟩:=Hw hw ha rs xs' h1 vs1 h2;have hp:=AR.eval (C:={C with gl:=fun _=>none,np:=true}) ha GL.none (.tmp t) (.t t) rfl;simp only[av]at hp;rw[h5]at hp;generalize hq:a.eval (.tmp t)=q at hp;cases hp;have hcl:=(hw.obj o _ hc).cells.drop off;simp only[Nat.zero_add]at hcl;obtain⟨v',h6,h7⟩:=Tj (P:=C.P) hcl hu hi hpt;refine⟨v'::vs',?_,.cons _ _ _ _ h7 h4⟩;simp only[Act.eval]at hq;have hA:(asAddr (a.tmps.getD t undef)).run C.P w=.ok ⟨g.ob o,off,none⟩ w:=by rw[hq];rfl
     simp only[List.mapM_cons,Sem.run_bind,hA,Sem.run_pure,Result.andThen_ok,h6,h3]
    ·cases hv
   ·cases hv
  ·cases hv
theorem WN:∀(vs:LA) (vs':List Value),VRs g vs vs'->VR g (bi vs) (if h:(⟨vs'⟩:Array Value).size=1 then(⟨vs'⟩:Array Value)[0]else .tuple ⟨vs'⟩)
 |[],_,.nil=>by simp;exact .tup _ _ .nil
 |[a],_,.cons _ v _ _ x .nil=>by simpa[bi]using x
 |a::b::l,_,.cons _ v _ _ x (.cons _ u _ l' y z)=>by
  simp[bi];exact .tup _ _ (.cons _ _ _ _ x (.cons _ _ _ _ y z))
end
def aaI(C:Ctx):Prop:=∀f x,C.fs f=some x->cF C.P f=some x/\(∃fn,C.P.funcs[f]?=some fn/\(fn.name== "runtime.NumGoroutine")=false)
def Jd(C:Ctx):Prop:=∀f h,C.prim f=some h->∀args O v O',h args O=some (v,O')->∀g w args',VRs g args args'->WR g w O->GL C g->Does C.P f args' w fun v' w'=>∃g',Goes g O w g' O' w'/\VR g' v v'
theorem VRs.replicate{g:Gh}(n:Nat){a:AV}{v:Value}(h:VR g a v):VRs g (List.replicate n a) (List.replicate n v):=by
 induction n with
 |zero=>exact .nil
 |succ n ih=>exact .cons _ _ _ _ h ih
theorem PI {P:Program} (fn:Func) (tmps:Array Value) (w:World) {vs:List Value} (h:(fn.results.toList.mapM (m:=Sem) fun|.tmp t=>pure (tmps.getD t undef)|.cell ad t=>do loadVar t (<-asAddr (tmps.getD ad undef))).run P w=.ok vs w):
  (results fn tmps).run P w=.ok (if h:(⟨vs⟩:Array Value).size=1 then(⟨vs⟩:Array Value)[0]else .tuple ⟨vs⟩) w:=by
 have key:(fn.results.mapM (m:=Sem) fun|.tmp t=>pure (tmps.getD t undef)|.cell ad t=>do loadVar t (<-asAddr (tmps.getD ad undef))).run P w=.ok ⟨vs⟩ w:=by
  rw[<-Array.toArray_toList (xs:=fn.results),List.mapM_toArray,Sem.run_map,h];rfl
 unfold results;rw[Sem.run_bind];show Result.andThen ((fn.results.mapM (m:=Sem) fun|.tmp t=>pure (tmps.getD t undef)|.cell ad t=>do loadVar t (<-asAddr (tmps.getD ad undef))).run P w) _=_
 rw[key];rfl
theorem Vu{C:Ctx}(hfs:aaI C)(hprim:Jd C)(hdrawn:∀call,fO C call->WX C call):∀n,fO C (evF C n)
 |0=>fun f args O v O' h=>by cases h
 |n+1=>by
  have ih:=Vu hfs hprim hdrawn n;intro f args O v O' h g w args' ha hw hg;simp only[evF]at h;split at h
  ·rename_i p hp;exact hprim f p hp args O v O' h g w args' ha hw hg
  ·split at h
   ·cases h
   ·rename_i x hx;obtain⟨hcf,fn,hfn,hname⟩:=hfs f x hx;simp only[cF,Option.bind_eq_bind,Option.bind_eq_some_iff,Option.pure_def,Option.some.injEq]at hcf;obtain⟨fn',hfn',body,hb,xrs,hxr,rfl⟩:=hcf;rw[hfn]at hfn';cases hfn';split at h
    ·cases h
    ·rename_i as1 O1 hh1;split at h
     ·cases h
     ·rename_i hlen;have hrun:(callFunc f ⟨args'⟩).run C.P w=.ok (.enter f ⟨args'⟩) w:=by
       have h1:fn.name≠ "runtime.NumGoroutine":=by simpa using hname
       simp[callFunc,hfn,h1,hb]
      unfold Does;rw[hrun];simp only;obtain⟨g1,hgo1,hv1⟩:=um hw _ hh1 ha;split at h
      ·cases h
      ·cases h
      ·rename_i xe e1 O2 hne hev;refine calls_of_wp hfn hb ?_;have hl:=hv1.length;have har:AR g1 (as1++List.replicate (fn.ntmps-as1.length) .undef) {tmps:=(⟨args'⟩:Array Value)++Array.replicate (fn.ntmps-(⟨args'⟩:Array Value).size) undef,defers:=[]}:=by
        have h1:=hv1.append (VRs.replicate (fn.ntmps-as1.length) (wZ g1));have:args'.length=as1.length:=hl;simpa[AR,this]using h1
       refine wp_mono (lC ih (hdrawn _ ih) n body _ e1 O1 O2 xe hev g1 w _ har hgo1.wr (hg.mono hgo1.le)) fun ex a2 w2 ⟨hex,hd,g2,ha2,hgo2⟩=>?_;split at h
       ·cases h
       ·rename_i vs hres;split at h
        ·cases h
        ·rename_i vs2 O3 hh2;simp at h;obtain⟨rfl,rfl⟩:=h;obtain⟨vs',hr1,hr2⟩:=Hw (C:=C) hgo2.wr ha2 _ xrs hxr vs hres;obtain⟨g3,hgo3,hv3⟩:=um hgo2.wr _ hh2 hr2;obtain⟨g4,hgo4,hv4⟩:=Uy ((hgo1.trans hgo2).trans hgo3) hw hv3;have hfin:a2.defers=[]/\∃v,(results fn a2.tmps).run C.P w2=.ok v w2/\∃v_1,Ending.returned v=.returned v_1/\∃g',Goes g O w g' (tidy O.length vs2 O3) w2/\VR g' (bi vs2) v_1:=
          ⟨hd,_,PI fn a2.tmps w2 hr1,_,rfl,g4,hgo4,WN vs2 vs' hv4⟩
         subst hex;cases xe with
         |normal=>exact hfin
         |ret=>exact hfin
         |exit id=>exact(hne id rfl).elim
mutual
theorem same_eq:∀a b:AV,same a b=true->a=b
 |.bool a,b,h=>by cases b<;>simp[same]at h;rw[h]
 |.int k a,b,h=>by cases b<;>simp[same]at h;rw[h.1,h.2]
 |.str a,b,h=>by cases b<;>simp[same,oV]at h;rw[h]
 |.nilp,b,h=>by cases b<;>simp[same]at h;rfl
 |.ref _ _,b,h=>by cases b<;>simp[same]at h;rw[h.1,h.2]
 |.eptr a,b,h=>by cases b<;>simp[same]at h;rw[yu _ _ h]
 |.nils,b,h=>by cases b<;>simp[same]at h;rfl
 |.emp,b,h=>by cases b<;>simp[same]at h;rfl
 |.sl n a,b,h=>by cases b<;>simp[same]at h;rw[h.1,yu _ _ h.2]
 |.xsl n a,b,h=>by cases b<;>simp[same]at h;rw[h.1,yu _ _ h.2]
 |.msl _ _ _ _,b,h=>by cases b<;>simp[same]at h;rw[h.1.1.1,h.1.1.2,h.1.2,h.2]
 |.map _,b,h=>by cases b<;>simp[same]at h;rw[h]
 |.nilMap,b,h=>by cases b<;>simp[same]at h;rfl
 |.func f x y,b,h=>by cases b<;>simp[same]at h;rw[h.1.1,yu _ _ h.1.2,yu _ _ h.2]
 |.nilFunc,b,h=>by cases b<;>simp[same]at h;rfl
 |.iface t a,b,h=>by cases b<;>simp[same]at h;rw[h.1,same_eq _ _ h.2]
 |.nilIface,b,h=>by cases b<;>simp[same]at h;rfl
 |.agg a,b,h=>by cases b<;>simp[same]at h;rw[yu _ _ h]
 |.tup a,b,h=>by cases b<;>simp[same]at h;rw[yu _ _ h]
theorem yu:∀a b:LA,vS a b=true->a=b
 |[],b,h=>by cases b<;>simp[vS]at h;rfl
 |a::x,b,h=>by
  cases b<;>simp[vS]at h;rw[same_eq _ _ h.1,yu _ _ h.2]
end
section
variable{C:Ctx}
def Agree(e e':Env)(l:List Nat):Prop:=∀t∈l,e.getD t .undef=e'.getD t .undef
theorem EK{e e':Env}(x:XA)(h:Agree e e' x.reads):av C e x=av C e' x:=by
 cases x<;>simp only[av];exact h _ (by simp[XA.reads])
theorem zD{e e':Env}:∀(l:List XA),Agree e e' (qO l)->l.map (av C e)=l.map (av C e')
 |[],_=>rfl
 |x::l,h=>by
  simp only[List.map_cons];rw[EK x (fun t ht=>h t (by simp[qO,ht])),zD l (fun t ht=>h t (by simp[qO,ht]))]
theorem zC{e e':Env}(x:Option XA)(h:Agree e e' (JF x)):x.map (av C e)=x.map (av C e'):=by
 cases x with
 |none=>rfl
 |some x=>simp only[Option.map_some];rw[EK x h]
theorem Va{e e':Env}:∀(l:List (Nat×Nat×XA)),Agree e e' (FY l)->(l.map fun(o,s,x)=>(o,s,av C e x))=(l.map fun(o,s,x)=>(o,s,av C e' x))
 |[],_=>rfl
 |(o,s,x)::l,h=>by
  simp only[List.map_cons];rw[EK x (fun t ht=>h t (by simp[FY,ht])),Va l (fun t ht=>h t (by simp[FY,ht]))]
theorem aeq{e e':Env}(hl:e.length=e'.length)(O:St)(xi:XI)(h:Agree e e' xi.reads):evI C e O xi=evI C e' O xi:=by
 by_cases hfill:∃k d sz x,xi=.fill k d sz x
 ·obtain⟨k,d,sz,x,rfl⟩:=hfill;simp only[evI,aj];rw[EK x h,hl]
 have mem:∀{x:XA},(∀t∈x.reads,t∈xi.reads)->av C e x=av C e' x:=fun{x} hx=>EK x (fun t ht=>h t (hx t ht));cases xi<;>simp only[XI.reads]at h mem<;>simp only[evI,aj]<;>first
  |(exact absurd ⟨_,_,_,_,rfl⟩ hfill)
  |rfl
  |(rw[mem (fun t ht=>ht)])
  |(rename_i a b;rw[mem (x:=a) (fun t ht=>by simp[ht]),mem (x:=b) (fun t ht=>by simp[ht])])
  |(rename_i a b c;rw[mem (x:=a) (fun t ht=>by simp[ht]),mem (x:=b) (fun t ht=>by simp[ht]),mem (x:=c) (fun t ht=>by simp[ht])])
  |(rw[Va _ h])
  |skip
 case mkFunc fn x y=>rw[zD x (fun t ht=>h t (by simp[ht])),zD y (fun t ht=>h t (by simp[ht]))]
 case sliceStr x a b=>rw[mem (x:=x) (fun t ht=>by simp[ht]),zC a (fun t ht=>h t (by simp[ht])),zC b (fun t ht=>h t (by simp[ht]))]
 case sliceSl sz x a b c=>rw[mem (x:=x) (fun t ht=>by simp[ht]),zC a (fun t ht=>h t (by simp[ht])),zC b (fun t ht=>h t (by simp[ht]))]
 case sliceArr n sz x a b c=>rw[mem (x:=x) (fun t ht=>by simp[ht]),zC a (fun t ht=>h t (by simp[ht])),zC b (fun t ht=>h t (by simp[ht]))]
 case lookup z m k ok=>rw[mem (x:=m) (fun t ht=>by simp[ht]),mem (x:=k) (fun t ht=>by simp[ht])]
 all_goals first
  |(rw[zD _ h])
  |(rename_i f l;rw[mem (x:=f) (fun t ht=>by simp[ht]),zD l (fun t ht=>h t (by simp[ht]))])
  |(rename_i f m l;rw[mem (x:=f) (fun t ht=>by simp[ht]),zD l (fun t ht=>h t (by simp[ht]))])
  |(rename_i q;rw[mem (x:=q) (fun t ht=>by simp[ht])])
theorem GX{e:Env}{O:St}{xi:XI}{out:Out}(hch:xi.changes=false)(h:evI C e O xi=some out):∃v,out=.val v O:=by
 cases xi<;>simp[XI.changes]at hch<;>simp only[evI,aj]at h<;>
  (repeat' (first|(cases h;exact⟨_,rfl⟩)|(cases h;done)|(simp only[Option.map_eq_some_iff]at h;obtain⟨_,_,rfl⟩:=h;exact⟨_,rfl⟩)|(rw[hch]at h;cases h;exact⟨_,rfl⟩)|split at h))
theorem aer{e:Env}{O:St}{xi:XI}{v:AV}(hch:xi.changes=false)(hlk:xi.looks=false)(h:evI C e O xi=some (.val v O))(O':St):evI C e O' xi=some (.val v O'):=by
 cases xi<;>simp[XI.changes]at hch<;>simp[XI.looks]at hlk<;>simp only[evI,aj]at h⊢<;>
  (repeat' (first|(cases h;rfl)|(cases h;done)|(simp only[Option.map_eq_some_iff]at h⊢;obtain⟨u,hu,hv⟩:=h;cases hv;exact⟨_,hu,rfl⟩)|(split at h<;>simp_all [Az])))
end
def direct(o:Oper):List Nat:=(o.after.toList.filter (Region.binds .any)).map (·.on)
structure Anc(ops:List Oper)(an:List (List Nat)):Prop where
 len:an.length=ops.length
 lt:∀(i:Nat) (o:Oper),ops[i]?=some o->∀j∈direct o,j<i
 mem:∀(i:Nat) (o:Oper),ops[i]?=some o->∀k,k∈an.getD i []->k∈direct o\/∃j∈direct o,k∈an.getD j []
theorem U5:∀(l done:List Oper) (acc an:List (List Nat)),Anc done acc->YQ acc l=some an->Anc (done++l) an
 |[],done,acc,an,h,he=>by simp[YQ]at he;subst he;simpa using h
 |o::l,done,acc,an,h,he=>by
  simp only[YQ]at he;split at he
  ·rename_i hall;have h2:Anc (done++[o]) (acc++[((o.after.toList.filter (Region.binds .any)).map (·.on)++((o.after.toList.filter (Region.binds .any)).map (·.on)).flatMap fun j=>acc.getD j []).eraseDups]):=by
    have hall':∀j∈direct o,j<acc.length:=fun j hj=>by simpa using List.all_eq_true.1 hall j hj
    refine⟨by simp[h.len],fun i o' ho' j hj=>?_,fun i o' ho' k hk=>?_⟩
    ·rw[List.getElem?_append]at ho';split at ho'
     ·exact h.lt i o' ho' j hj
     ·rename_i hge;have hi:i-done.length=0:=by
       rcases Nat.eq_zero_or_pos (i-done.length)with h0|h0
       ·exact h0
       ·rw[List.getElem?_eq_none (by simp;omega)]at ho';cases ho'
      rw[hi]at ho';simp at ho';subst ho';have:=hall' j hj;rw[h.len]at this;omega
    ·rw[List.getElem?_append]at ho';split at ho'
     ·rename_i hlt;have e1:(acc++[((o.after.toList.filter (Region.binds .any)).map (·.on)++((o.after.toList.filter (Region.binds .any)).map (·.on)).flatMap fun j=>acc.getD j []).eraseDups]).getD i []=acc.getD i []:=by
       rw[List.getD_eq_getElem?_getD,List.getD_eq_getElem?_getD,List.getElem?_append_left (by rw[h.len];exact hlt)]
      rw[e1]at hk;rcases h.mem i o' ho' k hk with h3|⟨j,h3,h4⟩
      ·exact .inl h3
      ·refine .inr ⟨j,h3,?_⟩;have hj:=h.lt i o' ho' j h3;rw[List.getD_eq_getElem?_getD,List.getElem?_append_left (by rw[h.len];omega),<-List.getD_eq_getElem?_getD]
       exact h4
     ·rename_i hge;have hi:i-done.length=0:=by
       rcases Nat.eq_zero_or_pos (i-done.length)with h0|h0
       ·exact h0
       ·rw[List.getElem?_eq_none (by simp;omega)]at ho';cases ho'
      rw[hi]at ho';simp at ho';subst ho';have hi':i=acc.length:=by rw[h.len];omega
      subst hi';rw[List.getD_eq_getElem?_getD,List.getElem?_append_right (Nat.le_refl _)]at hk;simp only[Nat.sub_self,List.getElem?_cons_zero,Option.getD_some,List.mem_eraseDups,List.mem_append,List.mem_flatMap]at hk;rcases hk with hk|⟨j,hj,hk⟩
      ·exact .inl hk
      ·refine .inr ⟨j,hj,?_⟩;have:=hall' j hj;rw[List.getD_eq_getElem?_getD,List.getElem?_append_left this,<-List.getD_eq_getElem?_getD];exact hk
   have:=U5 l (done++[o]) _ an h2 he;simpa using this
  ·cases he
theorem acw{ops:List Oper}{an:List (List Nat)}(h:YQ [] ops=some an):Anc ops an:=by
 have:=U5 ops [] [] an ⟨rfl,by simp,by simp⟩ h
 simpa using this
section
variable{ops:Array Oper}{an:List (List Nat)}
def Closed(ops:Array Oper)(L:Nat->Bool):Prop:=∀(i:Nat) (o:Oper),ops[i]?=some o->L i=true->∀j∈direct o,L j=true
theorem YP(ha:Anc ops.toList an){L:Nat->Bool}(hc:Closed ops L):∀(i:Nat) (o:Oper),ops[i]?=some o->(∀j∈direct o,L j=true)->∀k∈an.getD i [],L k=true:=by
 intro i
 induction i using Nat.strongRecOn with
 |_ i ih=>
  intro o ho hd k hk;rcases ha.mem i o (by simpa using ho) k hk with h|⟨j,h1,h2⟩
  ·exact hd k h
  ·have hj:=ha.lt i o (by simpa using ho) j h1
   have hjlt:j<ops.size:=by
    have:i<ops.size:=(Array.getElem?_eq_some_iff.1 ho).1;omega
   have hoj:ops[j]?=some ops[j]:=Array.getElem?_eq_getElem hjlt;exact ih j hj _ hoj (fun q hq=>hc j _ hoj (hd j h1) q hq) k h2
theorem afF(ha:Anc ops.toList an):∀(i:Nat) (o:Oper),ops[i]?=some o->∀k∈an.getD i [],k<i:=by
 intro i
 induction i using Nat.strongRecOn with
 |_ i ih=>
  intro o ho k hk;rcases ha.mem i o (by simpa using ho) k hk with h|⟨j,h1,h2⟩
  ·exact ha.lt i o (by simpa using ho) k h
  ·have hj:=ha.lt i o (by simpa using ho) j h1
   have hjlt:j<ops.size:=by
    have:i<ops.size:=(Array.getElem?_eq_some_iff.1 ho).1;omega
   have:=ih j hj _ (Array.getElem?_eq_getElem hjlt) k h2;omega
end
structure Run(C:Ctx)(call:bD)(l:List XOp)(E:Nat->Env)(S:Nat->St)(V:Nat->AV):Prop where
 op:∀(i:Nat) (o:XOp),l[i]?=some o->rM C call o (E i) (S i)=some (V i,S (i+1))
 env:∀(i:Nat) (o:XOp),l[i]?=some o->E (i+1)=put (E i) o.dst (V i)
theorem Jk {C:Ctx} {call:bD}:∀(l:List XOp) (e e':Env) (O O':St) (rs:List (Env×AV)) (ss:List St),qB C call l e O=some (e',O',rs,ss)->
  ∃E S V,E 0=e/\S 0=O/\E l.length=e'/\S l.length=O'/\Run C call l E S V/\(∀i,i<l.length->rs[i]?=some (E i,V i))/\(∀i,i<=l.length->ss[i]?=some (S i))
 |[],e,e',O,O',rs,ss,h=>by
  simp[qB]at h;obtain⟨rfl,rfl,rfl,rfl⟩:=h;exact⟨fun _=>e,fun _=>O,fun _=>.undef,rfl,rfl,rfl,rfl,⟨by simp,by simp⟩,by simp,fun i hi=>by simp at hi;subst hi;rfl⟩
 |o::l,e,e',O,O',rs,ss,h=>by
  simp only[qB]at h;split at h
  ·rename_i v O1 h1;split at h
   ·rename_i e2 O2 rs2 ss2 h2;simp at h;obtain⟨rfl,rfl,rfl,rfl⟩:=h;obtain⟨E,S,V,hE,hS,hE',hS',hR,hrs,hss⟩:=Jk l _ e2 O1 O2 rs2 ss2 h2;refine⟨fun i=>match i with|0=>e|i+1=>E i,fun i=>match i with|0=>O|i+1=>S i,fun i=>match i with|0=>v|i+1=>V i,rfl,rfl,hE',hS',⟨fun i o' ho'=>?_,fun i o' ho'=>?_⟩,fun i hi=>?_,fun i hi=>?_⟩
    ·cases i with
     |zero=>simp at ho';subst ho';simp only[hS];exact h1
     |succ i=>exact hR.op i o' (by simpa using ho')
    ·cases i with
     |zero=>simp at ho';subst ho';exact hE
     |succ i=>exact hR.env i o' (by simpa using ho')
    ·cases i with
     |zero=>rfl
     |succ i=>simpa using hrs i (by simpa using hi)
    ·cases i with
     |zero=>rfl
     |succ i=>simpa using hss i (by simpa using hi)
   ·cases h
  ·cases h
theorem Ce {C:Ctx} {ss:List St}:∀(l:List XOp) (rs:List (Env×AV)),sD C ss l rs=true->∀(i:Nat) (o:XOp) (e:Env) (v:AV),l[i]?=some o->rs[i]?=some (e,v)->jH o e=true->∀c∈o.loose,
  ∃s s' v1 v2 s1 s2,ss[c]?=some s/\ss[c+1]?=some s'/\evI C e s o.i=some (.val v1 s1)/\evI C e s' o.i=some (.val v2 s2)/\v1=v/\v2=v
 |[],rs,h,i,o,e,v,ho,hr,hw,c,hc=>by simp at ho
 |o0::l,[],h,i,o,e,v,ho,hr,hw,c,hc=>by simp at hr
 |o0::l,(e0,v0)::rs,h,i,o,e,v,ho,hr,hw,c,hc=>by
  simp only[sD,Bool.and_eq_true,Bool.or_eq_true,Bool.not_eq_true']at h;cases i with
  |succ i=>exact Ce l rs h.2 i o e v (by simpa using ho) (by simpa using hr) hw c hc
  |zero=>
   simp at ho hr;obtain⟨rfl⟩:=ho;obtain⟨rfl,rfl⟩:=hr;rcases h.1 with h1|h1
   ·rw[hw]at h1;cases h1
   ·have key:∀q:List Nat,D9 C o0 e0 v0 ss q=true->c∈q->∃s s' v1 v2 s1 s2,ss[c]?=some s/\ss[c+1]?=some s'/\evI C e0 s o0.i=some (.val v1 s1)/\evI C e0 s' o0.i=some (.val v2 s2)/\v1=v0/\v2=v0:=by
     intro q
     induction q with
     |nil=>intro _ hm;simp at hm
     |cons q0 q ih=>
      intro hq hm;simp only[D9,Bool.and_eq_true]at hq;rcases List.mem_cons.1 hm with rfl|hm
      ·have hq1:=hq.1;split at hq1
       ·rename_i s s' h2 h3;split at hq1
        ·rename_i v1 s1 v2 s2 h4 h5;simp only[Bool.and_eq_true]at hq1;exact⟨s,s',v1,v2,s1,s2,h2,h3,h4,h5,same_eq _ _ hq1.1,same_eq _ _ hq1.2⟩
        ·cases hq1
       ·cases hq1
      ·exact ih hq.2 hm
    exact key _ h1 hc
section
variable{C:Ctx}{call:bD}{ops:Array Oper}{an:List (List Nat)}{l:List XOp}{E:Nat->Env}{S:Nat->St}{V:Nat->AV}
theorem D5(hok:qA an l=true){i j:Nat}(hij:i<j){x y:XOp}(hx:l[i]?=some x)(hy:l[j]?=some y)(h:clash x y=true\/(x.i.changes=true/\y.i.changes=true)):i∈an.getD j []:=by
 unfold qA at hok;have hj:j<l.length:=(List.getElem?_eq_some_iff.1 hy).1;have h1:=List.all_eq_true.1 hok j (List.mem_range.2 hj);simp only[Bool.and_eq_true]at h1;have h2:=List.all_eq_true.1 h1.2 i (List.mem_range.2 hij);unfold Yb at h2;simp only[hx,hy,Bool.or_eq_true,Bool.not_eq_true',Bool.or_eq_false_iff,Bool.and_eq_false_iff,List.contains_iff_mem]at h2;rcases h2 with h2|h2
 ·rcases h with h|⟨h,h'⟩
  ·rw[h2.1]at h;cases h
  ·rcases h2.2 with h3|h3
   ·rw[h3]at h;cases h
   ·rw[h3]at h';cases h'
 ·exact h2
theorem ad4(hok:qA an l=true){j:Nat}{y:XOp}(hy:l[j]?=some y){k d sz:Nat}{x:XA}(hf:y.i=.fill k d sz x):k∈an.getD j []:=by
 unfold qA at hok;have hj:j<l.length:=(List.getElem?_eq_some_iff.1 hy).1;have h1:=List.all_eq_true.1 hok j (List.mem_range.2 hj);simp only[Bool.and_eq_true]at h1;have h2:=h1.1;unfold XD at h2;obtain⟨dd,i,g,lo⟩:=y;simp only at hf;subst hf;simpa[hy]using h2
structure Std(ops:Array Oper)(l:List XOp)(E:Nat->Env)(S:Nat->St)(V:Nat->AV)(L:Nat->Bool)(e:Env)(k:Nat):Prop where
 closed:Closed ops L
 len:e.length=(E 0).length
 env:∀t,t<(E 0).length->(∃j o,l[j]?=some o/\L j=true/\o.dst=some t/\e[t]?=some (V j)/\∀j' o',l[j']?=some o'->L j'=true->o'.dst=some t->j'<=j)\/((∀j o,l[j]?=some o->L j=true->o.dst≠some t)/\e[t]?=(E 0)[t]?)
 kle:k<=l.length
 low:∀c o,l[c]?=some o->o.i.changes=true->c<k->L c=true
 high:∀c o,l[c]?=some o->o.i.changes=true->k<=c->L c=false
theorem uq(e:Env)(d:Option Nat)(v:AV):(put e d v).length=e.length:=by cases d<;>simp[put]
theorem D6(e:Env)(d:Option Nat)(v:AV)(t:Nat):(put e d v)[t]?=if d=some t/\t<e.length then some v else e[t]?:=by
 cases d with
 |none=>simp[put]
 |some d=>
  simp only[put,List.getElem?_set];by_cases h:d=t
  ·subst h;by_cases h2:d<e.length
   ·simp[h2]
   ·simp[h2]
  ·simp[h]
theorem Run.elen(hR:Run C call l E S V):∀i,i<=l.length->(E i).length=(E 0).length
 |0,_=>rfl
 |i+1,h=>by
  have hi:i<l.length:=by omega
  rw[hR.env i _ (List.getElem?_eq_getElem hi),uq];exact hR.elen i (by omega)
theorem Run.eget(hR:Run C call l E S V):∀i,i<=l.length->∀t,t<(E 0).length->(∃j o,j<i/\l[j]?=some o/\o.dst=some t/\(E i)[t]?=some (V j)/\∀j' o',j'<i->l[j']?=some o'->o'.dst=some t->j'<=j)\/((∀j o,j<i->l[j]?=some o->o.dst≠some t)/\(E i)[t]?=(E 0)[t]?)
 |0,_,t,ht=>.inr ⟨fun j o hj=>by omega,rfl⟩
 |i+1,h,t,ht=>by
  have hi:i<l.length:=by omega
  have hoi:=List.getElem?_eq_getElem hi;rw[hR.env i _ hoi,D6,hR.elen i (by omega)]
  by_cases hd:l[i].dst=some t
  ·rw[if_pos ⟨hd,ht⟩];exact .inl ⟨i,_,by omega,hoi,hd,rfl,fun j' o' hj' _ _=>by omega⟩
  ·rw[if_neg (fun h=>hd h.1)];rcases hR.eget i (by omega) t ht with⟨j,o,h1,h2,h3,h4,h5⟩|⟨h1,h2⟩
   ·refine .inl ⟨j,o,by omega,h2,h3,h4,fun j' o' hj' ho' hd'=>?_⟩
    rcases Nat.lt_or_ge j' i with hlt|hge
    ·exact h5 j' o' hlt ho' hd'
    ·have:j'=i:=by omega
     subst this;rw[hoi]at ho';cases ho';exact absurd hd' hd
   ·refine .inr ⟨fun j o hj ho hd'=>?_,h2⟩;rcases Nat.lt_or_ge j i with hlt|hge
    ·exact h1 j o hlt ho hd'
    ·have:j=i:=by omega
     subst this;rw[hoi]at ho;cases ho;exact hd hd'
theorem Run.still(hR:Run C call l E S V){a b:Nat}(hab:a<=b)(hb:b<=l.length)(hno:∀c o,a<=c->c<b->l[c]?=some o->o.i.changes=false):S a=S b:=by
 induction b with
 | zero=>have:a=0:=by omega
         rw[this]
 |succ b ih=>
  rcases Nat.lt_or_ge a (b+1)with h|h
  ·rw[ih (by omega) (by omega) (fun c o h1 h2=>hno c o h1 (by omega))]
   have hb':b<l.length:=by omega
   have hob:=List.getElem?_eq_getElem hb';have hop:=hR.op b _ hob;have hch:=hno b _ (by omega) (by omega) hob
   unfold rM at hop;split at hop
   ·cases hei:evI C (E b) (S b) l[b].i with
    |none=>rw[hei]at hop;cases hop
    |some out=>
     rw[hei]at hop;obtain⟨v,rfl⟩:=GX hch hei;simp at hop;exact hop.2
   ·simp at hop;exact hop.2
  ·have:a=b+1:=by omega
   rw[this]
end
set_option linter.unusedSectionVars false
section
variable{C:Ctx}{call:bD}{ops:Array Oper}{an:List (List Nat)}{l:List XOp}{E:Nat->Env}{S:Nat->St}{V:Nat->AV}{L:Nat->Bool}{e:Env}{k:Nat}
structure Rdy(ops:Array Oper)(L:Nat->Bool)(i:Nat):Prop where
 un:L i=false
 dir:∀o,ops[i]?=some o->∀j∈direct o,L j=true
variable(hlen:l.length=ops.size)(ha:Anc ops.toList an)(hok:qA an l=true)
 include hlen ha hok
theorem Std.before(hs:Std ops l E S V L e k){i:Nat}(hr:Rdy ops L i)(hi:i<l.length){j:Nat}(hj:j∈an.getD i []):L j=true:=by
 have hoi:ops[i]?=some (ops[i]'(by omega)):=Array.getElem?_eq_getElem (by omega)
 exact YP ha hs.closed i _ hoi (hr.dir _ hoi) j hj
theorem Std.behind(hs:Std ops l E S V L e k){i:Nat}(hr:Rdy ops L i){j:Nat}(hj:j<l.length)(hij:i∈an.getD j []):L j=false:=by
 cases hL:L j with
 |false=>rfl
 |true=>
  have hoj:ops[j]?=some (ops[j]'(by omega)):=Array.getElem?_eq_getElem (by omega)
  have:=YP ha hs.closed j _ hoj (hs.closed j _ hoj hL) i hij;rw[hr.un]at this;cases this
theorem Std.agree(hs:Std ops l E S V L e k)(hR:Run C call l E S V){i:Nat}(hr:Rdy ops L i){x:XOp}(hx:l[i]?=some x):Agree (E i) e x.reads:=by
 have hi:i<l.length:=(List.getElem?_eq_some_iff.1 hx).1;intro t ht;rw[List.getD_eq_getElem?_getD,List.getD_eq_getElem?_getD];have he0:=hR.elen i (by omega)
 rcases Nat.lt_or_ge t (E 0).length with htl|htl
 ·congr 1
  have hw1:∀j o,l[j]?=some o->L j=true->o.dst=some t->j<i:=fun j o ho hL hd=>by
   rcases Nat.lt_trichotomy j i with h|h|h
   ·exact h
   ·subst h;rw[hr.un]at hL;cases hL
   ·have hc:clash x o=true:=by
     unfold clash;simp[hd,ht]
    have:=D5 hok h hx ho (.inl hc);rw[hs.behind hlen ha hok hr (List.getElem?_eq_some_iff.1 ho).1 this]at hL;cases hL
  have hw2:∀j o,l[j]?=some o->j<i->o.dst=some t->L j=true:=fun j o ho hji hd=>by
   have hc:clash o x=true:=by
    unfold clash;simp[hd,ht]
   exact hs.before hlen ha hok hr hi (D5 hok hji ho hx (.inl hc))
  rcases hs.env t htl with⟨j,o,h1,h2,h3,h4,h5⟩|⟨h1,h2⟩
  ·rcases hR.eget i (by omega) t htl with⟨j2,o2,g1,g2,g3,g4,g5⟩|⟨g1,g2⟩
   ·have e1:j2<=j:=h5 j2 o2 g2 (hw2 j2 o2 g2 g1 g3) g3;have e2:j<=j2:=g5 j o (hw1 j o h1 h2 h3) h1 h3;have:j=j2:=by omega
    rw[g4,h4,this]
   ·exact absurd h3 (g1 j o (hw1 j o h1 h2 h3) h1)
  ·rcases hR.eget i (by omega) t htl with⟨j2,o2,g1,g2,g3,g4,g5⟩|⟨g1,g2⟩
   ·exact absurd g3 (h1 j2 o2 g2 (hw2 j2 o2 g2 g1 g3))
   ·rw[g2,h2]
 ·rw[List.getElem?_eq_none (by omega),List.getElem?_eq_none (by rw[hs.len];exact htl)]
def jU(L:Nat->Bool)(i:Nat):Nat->Bool:=fun j=>if j=i then true else L j
theorem Std.put (hs:Std ops l E S V L e k) {i:Nat} (hr:Rdy ops L i) {x:XOp} (hx:l[i]?=some x) {k':Nat} (hk:k'<=l.length) (hlow:∀c o,l[c]?=some o->o.i.changes=true->c<k'->jU L i c=true) (hhigh:∀c o,l[c]?=some o->o.i.changes=true->k'<=c->jU L i c=false):
  Std ops l E S V (jU L i) (Ev.put e x.dst (V i)) k':=by
 have hi:i<l.length:=(List.getElem?_eq_some_iff.1 hx).1;refine⟨fun j o ho hL q hq=>?_,by rw[uq];exact hs.len,fun t ht=>?_,hk,hlow,hhigh⟩
 ·simp only[jU]at hL⊢;split
  ·rfl
  ·by_cases hji:j=i
   ·subst hji;exact hr.dir o ho q hq
   ·rw[if_neg hji]at hL;exact hs.closed j o ho hL q hq
 ·rw[D6,hs.len];by_cases hd:x.dst=some t
  ·rw[if_pos ⟨hd,ht⟩];refine .inl ⟨i,x,hx,by simp[jU],hd,rfl,fun j' o' ho' hL' hd'=>?_⟩
   rcases Nat.lt_or_ge i j' with h|h
   ·exfalso;have hc:clash x o'=true:=by unfold clash;simp[hd,hd']
    have:=hs.behind hlen ha hok hr (List.getElem?_eq_some_iff.1 ho').1 (D5 hok h hx ho' (.inl hc));simp only[jU]at hL';rw[if_neg (by omega),this]at hL';cases hL'
   ·exact h
  ·rw[if_neg (fun h=>hd h.1)];have hL:∀j o,l[j]?=some o->o.dst=some t->jU L i j=L j:=fun j o ho hdo=>by
    simp only[jU];rw[if_neg (fun h=>by subst h;rw[hx]at ho;cases ho;exact hd hdo)]
   rcases hs.env t ht with⟨j,o,h1,h2,h3,h4,h5⟩|⟨h1,h2⟩
   ·exact .inl ⟨j,o,h1,by rw[hL j o h1 h3];exact h2,h3,h4,fun j' o' ho' hL' hd'=>h5 j' o' ho' (by rw[hL j' o' ho' hd']at hL';exact hL') hd'⟩
   ·exact .inr ⟨fun j o ho hL' hd'=>h1 j o ho (by rw[hL j o ho hd']at hL';exact hL') hd',h2⟩
theorem Std.step (hs:Std ops l E S V L e k) (hR:Run C call l E S V) (hrc:∀(i:Nat) (o:XOp),l[i]?=some o->jH o (E i)=true->∀c∈o.loose,∃v1 v2 s1 s2,evI C (E i) (S c) o.i=some (.val v1 s1)/\evI C (E i) (S (c+1)) o.i=some (.val v2 s2)/\v1=V i/\v2=V i)
  (hloose:∀(i:Nat) (o:XOp),l[i]?=some o->o.i.looks=true->∀(c:Nat) (o':XOp),l[c]?=some o'->o'.i.changes=true->c≠i->c∉an.getD i []->i∉an.getD c []->c∈o.loose) {i:Nat} (hr:Rdy ops L i) {x:XOp} (hx:l[i]?=some x):
  ∃k',rM C call x e (S k)=some (V i,S k')/\Std ops l E S V (jU L i) (Ev.put e x.dst (V i)) k':=by
 have hi:i<l.length:=(List.getElem?_eq_some_iff.1 hx).1;have hag:=hs.agree hlen ha hok hR hr hx;have hcongr:∀s,rM C call x e s=rM C call x (E i) s:=fun s=>by
  have h1:jH x e=jH x (E i):=by
   unfold jH;cases hg:x.guard with
   |none=>rfl
   |some p=>
    obtain⟨t,b⟩:=p;have ht:t∈x.reads:=by simp[XOp.reads,hg]
    have:=hag t ht;rw[List.getD_eq_getElem?_getD,List.getD_eq_getElem?_getD]at this;simp only;have el:=hR.elen i (by omega)
    rcases Nat.lt_or_ge t (E 0).length with htl|htl
    ·have q1:(E i)[t]?=some ((E i)[t]'(by omega)):=List.getElem?_eq_getElem (by omega)
     have q2:e[t]?=some (e[t]'(by rw[hs.len];exact htl)):=List.getElem?_eq_getElem (by rw[hs.len];exact htl)
     rw[q1,q2]at this⊢;simp only[Option.getD_some]at this;rw[this]
    ·rw[List.getElem?_eq_none (l:=e) (show e.length<=t by rw[hs.len];exact htl),List.getElem?_eq_none (l:=E i) (show(E i).length<=t by omega)]
  have h2:evI C e s x.i=evI C (E i) s x.i:=(aeq (by rw[hs.len];exact hR.elen i (by omega)) s x.i (fun t ht=>hag t (by simp[XOp.reads,ht]))).symm
  unfold rM;rw[h1,h2]
 have hchange:x.i.changes=true->S k=S i:=fun hc=>by
  rcases Nat.le_total k i with h|h
  ·refine hR.still h (by omega) fun c o h1 h2 ho=>?_
   cases hco:o.i.changes with
   |false=>rfl
   |true=>
    have:=hs.before hlen ha hok hr hi (D5 hok h2 ho hx (.inr ⟨hco,hc⟩));rw[hs.high c o ho hco h1]at this;cases this
  ·refine(hR.still h hs.kle fun c o h1 h2 ho=>?_).symm;cases hco:o.i.changes with
   |false=>rfl
   |true=>
    have hL:=hs.low c o ho hco h2;rcases Nat.lt_or_ge i c with h3|h3
    ·have:=hs.behind hlen ha hok hr (List.getElem?_eq_some_iff.1 ho).1 (D5 hok h3 hx ho (.inr ⟨hc,hco⟩));rw[this]at hL;cases hL
    ·have:c=i:=by omega
     subst this;rw[hr.un]at hL;cases hL
 cases hc:x.i.changes with
 |true=>
  refine⟨i+1,by rw[hcongr,hchange hc];exact hR.op i x hx,hs.put hlen ha hok hr hx (by omega) (fun c o ho hco h=>?_) (fun c o ho hco h=>?_)⟩
  ·simp only[jU];split
   ·rfl
   ·exact hs.before hlen ha hok hr hi (D5 hok (by omega) ho hx (.inr ⟨hco,hc⟩))
  ·simp only[jU];rw[if_neg (by omega)]
   exact hs.behind hlen ha hok hr (List.getElem?_eq_some_iff.1 ho).1 (D5 hok (by omega) hx ho (.inr ⟨hc,hco⟩))
 |false=>
  refine⟨k,?_,hs.put hlen ha hok hr hx hs.kle (fun c o ho hco h=>?_) (fun c o ho hco h=>?_)⟩
  ·rw[hcongr];have hop:=hR.op i x hx;unfold rM at hop⊢;split
   ·rename_i hw;rw[if_pos hw]at hop;cases hei:evI C (E i) (S i) x.i with
    |none=>rw[hei]at hop;cases hop
    |some out=>
     rw[hei]at hop;obtain⟨v,rfl⟩:=GX hc hei;simp at hop;obtain⟨rfl,_⟩:=hop;cases hlk:x.i.looks with
     |false=>rw[aer hc hlk hei (S k)]
     |true=>
      by_cases hsk:S k=S i
      ·rw[hsk,hei]
      ·
       have hex:∃c∈x.loose,S k=S c\/S k=S (c+1):=by
        rcases Nat.lt_or_ge k i with hki|hki
        ·
         have hex:∃c,k<=c/\c<i/\∃o,l[c]?=some o/\o.i.changes=true:=by
          refine Classical.byContradiction fun hno=>hsk (hR.still (by omega) (by omega) fun c o h1 h2 ho=>?_)
          cases hco:o.i.changes with
          |false=>rfl
          |true=>exact absurd ⟨c,h1,h2,o,ho,hco⟩ hno
         have hmin:∃c,(k<=c/\c<i/\∃o,l[c]?=some o/\o.i.changes=true)/\∀c',c'<c->¬(k<=c'/\c'<i/\∃o,l[c']?=some o/\o.i.changes=true):=by
          obtain⟨c0,hc0⟩:=hex
          induction c0 using Nat.strongRecOn with
          |_ c0 ih=>
           by_cases hlt:∃c',c'<c0/\(k<=c'/\c'<i/\∃o,l[c']?=some o/\o.i.changes=true)
           ·obtain⟨c',h1,h2⟩:=hlt;exact ih c' h1 h2
           ·exact⟨c0,hc0,fun c' h1 h2=>hlt ⟨c',h1,h2⟩⟩
         obtain⟨c,⟨h1,h2,o,ho,hco⟩,hm⟩:=hmin;refine⟨c,hloose i x hx hlk c o ho hco (by omega) (fun hin=>?_) (fun hin=>?_),.inl (hR.still h1 (by omega) fun c' o' h3 h4 ho'=>?_)⟩
         ·have:=hs.before hlen ha hok hr hi hin;rw[hs.high c o ho hco h1]at this;cases this
         ·have hoc:ops[c]?=some (ops[c]'(by omega)):=Array.getElem?_eq_getElem (by omega)
          have:=afF ha c _ hoc i hin;omega
         ·cases hco':o'.i.changes with
          |false=>rfl
          |true=>exact absurd ⟨h3,by omega,o',ho',hco'⟩ (hm c' h4)
        ·have hex:∃c,i<=c/\c<k/\∃o,l[c]?=some o/\o.i.changes=true:=by
          refine Classical.byContradiction fun hno=>hsk (hR.still hki hs.kle fun c o h1 h2 ho=>?_).symm;cases hco:o.i.changes with
          |false=>rfl
          |true=>exact absurd ⟨c,h1,h2,o,ho,hco⟩ hno
         have hmax:∃c,(i<=c/\c<k/\∃o,l[c]?=some o/\o.i.changes=true)/\∀c',c<c'->¬(i<=c'/\c'<k/\∃o,l[c']?=some o/\o.i.changes=true):=by
          obtain⟨c0,hc0⟩:=hex;have key:∀m c0,k-c0=m->(i<=c0/\c0<k/\∃o,l[c0]?=some o/\o.i.changes=true)->∃c,(i<=c/\c<k/\∃o,l[c]?=some o/\o.i.changes=true)/\∀c',c<c'->¬(i<=c'/\c'<k/\∃o,l[c']?=some o/\o.i.changes=true):=by
           intro m
           induction m using Nat.strongRecOn with
           |_ m ih=>
            intro c0 hm hc0;by_cases hgt:∃c',c0<c'/\(i<=c'/\c'<k/\∃o,l[c']?=some o/\o.i.changes=true)
            ·obtain⟨c',h1,h2⟩:=hgt;exact ih (k-c') (by omega) c' rfl h2
            ·exact⟨c0,hc0,fun c' h1 h2=>hgt ⟨c',h1,h2⟩⟩
          exact key _ c0 rfl hc0
         obtain⟨c,⟨h1,h2,o,ho,hco⟩,hm⟩:=hmax;have hci:c≠i:=fun h=>by subst h;rw[hx]at ho;cases ho;rw[hc]at hco;cases hco
         refine⟨c,hloose i x hx hlk c o ho hco hci (fun hin=>?_) (fun hin=>?_),.inr (hR.still (by omega) hs.kle fun c' o' h3 h4 ho'=>?_).symm⟩
         ·have hoi:ops[i]?=some (ops[i]'(by omega)):=Array.getElem?_eq_getElem (by omega)
          have:=afF ha i _ hoi c hin;omega
         ·have:=hs.behind hlen ha hok hr (List.getElem?_eq_some_iff.1 ho).1 hin;rw[hs.low c o ho hco h2]at this;cases this
         ·cases hco':o'.i.changes with
          |false=>rfl
          |true=>exact absurd ⟨by omega,h4,o',ho',hco'⟩ (hm c' (by omega))
       obtain⟨c,hcl,hcs⟩:=hex;obtain⟨v1,v2,s1,s2,q1,q2,q3,q4⟩:=hrc i x hx hw c hcl;rcases hcs with hcs|hcs
       ·rw[hcs,q1];obtain⟨_,hq⟩:=GX hc q1;cases hq;rw[q3]
       ·rw[hcs,q2];obtain⟨_,hq⟩:=GX hc q2;cases hq;rw[q4]
   ·rename_i hw;rw[if_neg hw]at hop;simp at hop;rw[hop.1]
  ·simp only[jU];split
   ·rfl
   ·exact hs.low c o ho hco h
  ·simp only[jU];rw[if_neg (fun hci=>by subst hci;rw[hx]at ho;cases ho;rw[hc]at hco;cases hco)]
   exact hs.high c o ho hco h
end
structure qC(ops:Array Oper)(k j d:Nat)(t:TypeId)(x:Operand):Prop where
 lt:k<j
 made:∃o,ops[k]?=some o/\o.dst=some d/\o.op=.alloc t/\o.guard=none
 st:∃o,ops[j]?=some o/\o.dst=none/\o.op=.store t (.tmp d) x/\o.guard=none
 nx:x≠ .tmp d
 alone:∀(q:Nat) (o:Oper),ops[q]?=some o->q≠k->q≠j->o.dst≠some d/\∀y∈o.op.operands,y≠ .tmp d
 gd:∀(q:Nat) (o:Oper) (r:Nat) (b:Bool),ops[q]?=some o->o.guard=some (r,b)->r≠k
theorem aaR{o:Oper}{d:Nat}{t:TypeId}(h:Gq o=some (d,t)):o.dst=some d/\o.op=.alloc t/\o.guard=none:=by
 unfold Gq at h;split at h
 ·rename_i h1 h2 h3;cases h;exact⟨h1,h2,h3⟩
 ·cases h
theorem ac9{o:Oper}{d:Nat}{t:TypeId}{x:Operand}(h:Ib o=some (t,d,x)):o.dst=none/\o.op=.store t (.tmp d) x/\o.guard=none:=by
 unfold Ib at h;split at h
 ·rename_i h1 h2 h3;cases h;exact⟨h1,h2,h3⟩
 ·cases h
theorem ZE{d:Nat}{x:Operand}:adh d x=true↔x=.tmp d:=by
 cases x<;>simp[adh]
theorem CB{ops:Array Oper}{k j:Nat}(h:lS ops k=some j):∃d t x,qC ops k j d t x:=by
 unfold lS at h;split at h
 ·rename_i d e hk;obtain⟨ok,hok,hal⟩:=Option.bind_eq_some_iff.1 hk;obtain⟨a1,a2,a3⟩:=aaR hal;split at h
  ·cases h
  ·rename_i hg;split at h
   ·rename_i j' hf;split at h
    ·rename_i t d' x hj;obtain⟨oj,hoj,hst⟩:=Option.bind_eq_some_iff.1 hj;obtain⟨b1,b2,b3⟩:=ac9 hst;split at h
     ·rename_i hc;simp at h;subst h;simp only[Bool.and_eq_true,decide_eq_true_eq,beq_iff_eq,Bool.not_eq_true']at hc;obtain⟨⟨⟨h1,rfl⟩,rfl⟩,h4⟩:=hc;refine⟨d',t,x,h1,⟨_,hok,a1,a2,a3⟩,⟨_,hoj,b1,b2,b3⟩,fun hx=>?_,fun q o ho hqk hqj=>?_,fun q o r b ho hgo=>?_⟩
      ·rw[ZE.2 hx]at h4;cases h4
      ·have hq:q∉[j']:=by simp;exact hqj
       rw[<-hf,List.mem_filter,List.mem_range,not_and]at hq;have hlt:=(Array.getElem?_eq_some_iff.1 ho).1;have:=hq hlt;simp only[Z5,ho,Bool.and_eq_true,bne_iff_ne,ne_eq,Bool.or_eq_true,beq_iff_eq,not_and,not_or]at this;obtain⟨q1,q2⟩:=this hqk;refine⟨q1,fun y hy hyd=>q2 ?_⟩;rw[List.any_eq_true];exact⟨_,Array.mem_toList_iff.2 hy,ZE.2 hyd⟩
      ·have hall:ops.all (NR k)=true:=by rw[<-Array.all_toList];simpa using hg
       have:=Array.all_eq_true_iff_forall_mem.1 hall o (Array.mem_of_getElem? ho);simpa[NR,hgo]using this
     ·cases h
    ·cases h
   ·cases h
 ·cases h
theorem gJ{ops:Array Oper}{k j d:Nat}{t:TypeId}{x:Operand}(h:qC ops k j d t x):(ops[k]?).bind Gq=some (d,t):=by
 obtain⟨o,h1,h2,h3,h4⟩:=h.made;rw[h1];simp[Gq,h2,h3,h4]
theorem yG{ops:Array Oper}{k j d:Nat}{t:TypeId}{x:Operand}(h:qC ops k j d t x):(ops[j]?).bind Ib=some (t,d,x):=by
 obtain⟨o,h1,h2,h3,h4⟩:=h.st;rw[h1];simp[Ib,h2,h3,h4]
theorem Jp{ops:Array Oper}{k k' j d d':Nat}{t t':TypeId}{x x':Operand}(h:qC ops k j d t x)(h':qC ops k' j d' t' x'):k=k':=by
 have e1:=yG h;rw[yG h']at e1;simp at e1;obtain⟨_,rfl,_⟩:=e1;obtain⟨o,h1,h2,_⟩:=h.made;refine Classical.byContradiction fun hne=>?_;have hkj:k≠j:=by have:=h.lt;omega
 exact(h'.alone k o h1 hne hkj).1 h2
theorem abh{ops:Array Oper}{k k' j j' d d':Nat}{t t':TypeId}{x x':Operand}(h:qC ops k j d t x)(h':qC ops k' j' d' t' x')(hne:k≠k'):d≠d':=by
 intro hd;subst hd;obtain⟨o,h1,h2,h3,_⟩:=h.made;by_cases hkj:k=j'
 ·subst hkj;obtain⟨o',g1,g2,_⟩:=h'.st;rw[h1]at g1;cases g1;rw[h2]at g2;cases g2
 ·exact(h'.alone k o h1 hne hkj).1 h2
section
variable{C:Ctx}{ops:Array Oper}
inductive Cls(C:Ctx)(ops:Array Oper)(i:Nat)(o:Oper)(x:XOp):Prop
 |plain (h0:∀k,lS ops k≠some i) (h1:lS ops i=none) (gd:Option (Nat×Bool)) (hg:BM ops o=some gd) (hx:x.dst=o.dst/\x.i=(cI C.P o).getD .fail/\x.guard=gd)
 |pend (j d:Nat) (t:TypeId) (y:Operand) (h:lS ops i=some j) (hf:qC ops i j d t y) (z:AV) (hz:yS C.P t=some z) (hx:x.dst=none/\x.i=.pend/\x.guard=none)
 |fill (k d:Nat) (t:TypeId) (y:Operand) (h:lS ops k=some i) (hf:qC ops k i d t y) (z:AV) (hz:yS C.P t=some z) (inf:TypeInfo) (hi:C.P.info? t=some inf) (hzs:z.cells.length=inf.size) (a:XA) (ha:cA y=some a) (hx:x.dst=some d/\x.i=.fill k d inf.size a/\x.guard=none)
theorem aga{i:Nat}{o:Oper}{x:XOp}(ho:ops[i]?=some o)(h:cOp C.P true ops i o=some x):Cls C ops i o x:=by
 simp only[cOp,Option.bind_eq_bind,Option.bind_eq_some_iff,Bool.true_and,if_true]at h;obtain⟨gd,hg,h⟩:=h;split at h
 ·rename_i hf;obtain⟨j,hj⟩:=Option.isSome_iff_exists.1 hf;obtain⟨d,t,y,hF⟩:=CB hj;obtain⟨o',h1,h2,h3,h4⟩:=hF.made;rw[ho]at h1;cases h1;rw[h3]at h;simp only at h;split at h
  ·rename_i z hz;simp at h;subst h;have hgd:gd=none:=by simp[BM,h4]at hg;exact hg.symm
   exact .pend j d t y hj hF z hz ⟨rfl,rfl,hgd⟩
  ·cases h
 ·rename_i hf;split at h
  ·rename_i k hk;have hk':=List.find?_some hk;simp only[beq_iff_eq]at hk';obtain⟨d,t,y,hF⟩:=CB hk';have e1:=gJ hF;have e2:=yG hF;rw[ho]at e2;simp only[Option.bind_some]at e2;rw[e1,e2]at h;simp only at h;split at h
   ·rename_i z inf a hz hi ha;split at h
    ·rename_i hzs;simp at h;subst h;obtain⟨o',h1,h2,h3,h4⟩:=hF.st;rw[ho]at h1;cases h1;have hgd:gd=none:=by simp[BM,h4]at hg;exact hg.symm
     exact .fill k d t y hk' hF z hz inf hi hzs a ha ⟨rfl,rfl,hgd⟩
    ·cases h
   ·cases h
  ·rename_i hk;simp at h;subst h;refine .plain (fun k hF=>?_) (by simpa using hf) gd hg ⟨rfl,rfl,rfl⟩
   obtain⟨d,t,y,hFl⟩:=CB hF;have:=List.find?_eq_none.1 hk k (List.mem_range.2 hFl.lt);simp[hF]at this
end
section
variable{C:Ctx}{call:bD}{ops:Array Oper}
theorem LP{g:Gh}{w:World}{O:St}(h:WR g w O)(o:Obj):Goes g O w g O (qw w o):=by
 refine⟨.refl g,⟨h.n,fun b i v hv=>?_,fun b i v hv=>by rw[kD w o (h.im_lt hv)];exact h.uf b i v hv,fun k y hy=>?_,h.inj⟩,rfl,rfl,rfl,by simp[qw],fun b hb hu=>⟨hu,kD w o hb,fun _=>rfl⟩⟩
 ·rw[qW (kD w o (h.im_lt hv))];exact h.im b i v hv
 ·exact OR.mono (h.obj k y hy) (.refl g) (h.lt hy) (fun hl=>kD w o (h.ob_lt hy hl)) (fun _ _ _ hv=>hv)
theorem Sz{g:Gh}{w:World}{O:St}(h:WR g w O):UL g O w.heap.size:=fun o x hx hl he=>by
 have:=h.ob_lt hx hl;omega
theorem SB {g:Gh} {w w':World} {O:St} (h:WR g w O) {b:Nat} (hu:UL g O b) (him:∀i,g.im b i=none) (hb:b<w.heap.size) (hos:w'.os=w.os) (htape:w'.tape=w.tape) (hout:w'.output=w.output) (hsz:w'.heap.size=w.heap.size)
  (hne:∀k,k≠b->w'.heap[k]?=w.heap[k]?) (x:AO) (s:Nat) (hx:OR (g.more b s) w' g.n x):WR (g.more b s) w' (O++[x]):=by
 have hle:=g.more_le b s;refine⟨by simp[Gh.more,h.n],fun b' i v hv=>?_,fun b' i v hv=>?_,fun k y hy=>?_,fun k k' y y' hy hy' hl hl' he=>?_⟩
 ·by_cases hbb:b'=b
  ·subst hbb;have:g.im b' i=some v:=hv;rw[him i]at this;cases this
  ·rw[qW (hne b' hbb)];exact h.im b' i v hv
 ·by_cases hbb:b'=b
  ·subst hbb;have:g.im b' i=some v:=hv;rw[him i]at this;cases this
  ·rw[hne b' hbb];exact h.uf b' i v hv
 ·rcases fB hy with⟨_,hz⟩|⟨hk,rfl⟩
  ·exact OR.mono (h.obj k y hz) hle (h.lt hz) (fun hl=>hne _ (fun e=>hu k y hz hl e)) (fun _ _ _ hv=>hv)
  ·rw[<-h.n]at hk;subst hk;exact hx
 ·rcases fB hy with⟨a,hz⟩|⟨a,ha⟩<;>rcases fB hy' with⟨a',hz'⟩|⟨a',ha'⟩
  ·rw[hle.ob k (h.lt hz),hle.ob k' (h.lt hz')]at he;exact h.inj k k' y y' hz hz' hl hl' he
  ·exfalso;rw[hle.ob k (h.lt hz)]at he;rw[<-h.n]at a';subst a';simp[Gh.more]at he;exact hu k y hz hl he
  ·exfalso;rw[hle.ob k' (h.lt hz')]at he;rw[<-h.n]at a;subst a;simp[Gh.more]at he;exact hu k' y' hz' hl' he.symm
  ·omega
structure Sim(C:Ctx)(ops:Array Oper)(L:Nat->Bool)(g0:Gh)(O0:St)(w0:World)(d0:List Deferred)(e:Env)(s:St)(a:Act)(w:World)(g:Gh)(a':Act)(B:Nat->Nat):Prop where
 le:g0.le g
 wr:WR g w s
 os:w.os=w0.os
 tape:w.tape=w0.tape
 output:w.output=w0.output
 size:w0.heap.size<=w.heap.size
 fr:∀b,b<w0.heap.size->UL g0 O0 b->UL g s b/\w.heap[b]?=w0.heap[b]? /\∀i,g.im b i=g0.im b i
 ar:AR g e a'
 defers:a.defers=d0
 tsize:a.tmps.size=a'.tmps.size
 tmps:∀t,(∀k j d ty y,lS ops k=some j->qC ops k j d ty y->L k=true->L j=false->t≠d)->a.tmps[t]?=a'.tmps[t]?
 pend:∀k j d ty y,lS ops k=some j->qC ops k j d ty y->L k=true->L j=false->w0.heap.size<=B k/\B k<w.heap.size/\UL g s (B k)/\(∀i,g.im (B k) i=none)/\(d<a.tmps.size->a.tmps[d]?=some (.pointer (some ⟨B k,0,none⟩)))/\∃c i z,w.heap[B k]?=some (.cells c ty)/\C.P.info? ty=some i/\yS C.P ty=some z/\c.size=z.cells.length
 apart:∀k k' j j' d d' ty ty' y y',lS ops k=some j->qC ops k j d ty y->L k=true->L j=false->lS ops k'=some j'->qC ops k' j' d' ty' y'->L k'=true->L j'=false->k≠k'->B k≠B k'
theorem Sim.goes{L:Nat->Bool}{g0:Gh}{O0:St}{w0:World}{d0:List Deferred}{e:Env}{s:St}{a:Act}{w:World}{g:Gh}{a':Act}{B:Nat->Nat}(h:Sim C ops L g0 O0 w0 d0 e s a w g a' B):Goes g0 O0 w0 g s w:=
 ⟨h.le,h.wr,h.os,h.tape,h.output,h.size,h.fr⟩
end
section
variable{C:Ctx}{call:bD}{ops:Array Oper}{L:Nat->Bool}{g0:Gh}{O0:St}{w0:World}{d0:List Deferred}{e:Env}{s:St}{a:Act}{w:World}{g:Gh}{a':Act}{B:Nat->Nat}{Q:Exit->Act->World->Prop}
theorem kH(a:Act)(d:Option Nat)(v:Value)(t:Nat):(a.put d v).tmps[t]?=if d=some t/\t<a.tmps.size then some v else a.tmps[t]?:=by
 cases d with
 |none=>simp[Act.put]
 |some d=>
  simp only[Act.put,Array.getElem?_setIfInBounds];by_cases h:d=t
  ·subst h;by_cases h2:d<a.tmps.size
   ·simp[h2]
   ·simp[h2]
  ·simp[h]
theorem jB(a:Act)(d:Option Nat)(v:Value):(a.put d v).tmps.size=a.tmps.size:=by cases d<;>simp[Act.put]
theorem put_defers(a:Act)(d:Option Nat)(v:Value):(a.put d v).defers=a.defers:=by cases d<;>rfl
theorem G5{x:Operand}(h:∀t,x=.tmp t->a.tmps[t]?=a'.tmps[t]?):a.eval x=a'.eval x:=by
 cases x with
 |tmp t=>simp only[Act.eval];have:=h t rfl;simp[this]
 |_=>rfl
theorem afd (hcall:fO C call) (hS:Sim C ops L g0 O0 w0 d0 e s a w g a' B) (hg:GL C g) {i:Nat} {o:Oper} (ho:ops[i]?=some o) {x:XOp} (h0:∀k,lS ops k≠some i) (h1:lS ops i=none) {gd:Option (Nat×Bool)} (hgd:BM ops o=some gd)
  (hx:x.dst=o.dst/\x.i=(cI C.P o).getD .fail/\x.guard=gd) {v:AV} {s':St} (hev:rM C call x e s=some (v,s')) {K:Act->World->Prop} (hK:∀a1 w1 g1 a1' B1,Sim C ops (jU L i) g0 O0 w0 d0 (Ev.put e x.dst v) s' a1 w1 g1 a1' B1->K a1 w1):wpOp C.P ops Q i K a w:=by
 have hLk:∀k j,lS ops k=some j->jU L i k=L k/\jU L i j=L j:=fun k j hf=>by
  simp only[jU];refine⟨if_neg (fun h=>?_),if_neg (fun h=>?_)⟩
  ·subst h;rw[h1]at hf;cases hf
  ·subst h;exact h0 k hf
 have hnot:∀k j d ty y,lS ops k=some j->qC ops k j d ty y->o.dst≠some d/\∀z∈o.op.operands,z≠ .tmp d:=fun k j d ty y hf hF=>
  hF.alone i o ho (fun h=>by subst h;rw[h1]at hf;cases hf) (fun h=>by subst h;exact h0 k hf)
 have hev':∀z∈o.op.operands,a.eval z=a'.eval z:=fun z hz=>G5 fun t ht=>hS.tmps t fun k j d ty y hf hF _ _ htd=>(hnot k j d ty y hf hF).2 z hz (by rw[ht,htd])
 have hyl:Region.wanted o (yielded ops a.tmps)=Region.wanted o (yielded ops a'.tmps):=by
  unfold Region.wanted;cases hgo:o.guard with
  |none=>rfl
  |some p=>
   obtain⟨r,b⟩:=p;simp only;have:yielded ops a.tmps r=yielded ops a'.tmps r:=by
    unfold yielded;cases hdr:(ops[r]?).bind (·.dst)with
    |none=>rfl
    |some t=>
     simp only[Option.bind_some];have ht:a.tmps[t]?=a'.tmps[t]?:=hS.tmps t fun k j d ty y hf hF _ _ htd=>by
      subst htd;obtain⟨or,hor,hd⟩:=Option.bind_eq_some_iff.1 hdr;have hrk:=hF.gd i o r b ho hgo;by_cases hrj:r=j
      ·subst hrj;obtain⟨oj,q1,q2,_⟩:=hF.st;rw[hor]at q1;cases q1;rw[q2]at hd;cases hd
      ·exact(hF.alone r or hor hrk hrj).1 hd
     rw[ht]
   rw[this]
 have hwant:jH x e=Region.wanted o (yielded ops a.tmps):=by
  rw[hyl,UH hS.ar ops o hgd];unfold jH;rw[hx.2.2];cases gd<;>rfl
 have rest:∀v' w' g',Goes g s w g' s' w'->VR g' v v'->K (a.put o.dst v') w':=fun v' w' g' hgo hv=>by
  have hgg:=hS.goes.trans hgo;refine hK _ _ g' (a'.put o.dst v') B ⟨hgg.le,hgg.wr,hgg.os,hgg.tape,hgg.output,hgg.size,hgg.fr,by rw[hx.1];exact(hS.ar.mono hgo.le).put hv o.dst,by rw[put_defers];exact hS.defers,by rw[jB,jB];exact hS.tsize,fun t ht=>?_,fun k j d ty y hf hF hk hj=>?_,fun k k' j j' d d' ty ty' y y' q1 q2 q3 q4 q5 q6 q7 q8 q9=>?_⟩
  ·rw[kH,kH,hS.tsize];split
   ·rfl
   ·exact hS.tmps t fun k j d ty y hf hF hk hj=>ht k j d ty y hf hF (by rw[(hLk k j hf).1];exact hk) (by rw[(hLk k j hf).2];exact hj)
  ·rw[(hLk k j hf).1]at hk;rw[(hLk k j hf).2]at hj;obtain⟨b0,b1,b2,b3,b4,c,inf,z,b5,b6,b7,b8⟩:=hS.pend k j d ty y hf hF hk hj;obtain⟨f1,f2,f3⟩:=hgo.fr (B k) b1 b2;refine⟨b0,Nat.lt_of_lt_of_le b1 hgo.size,f1,fun i=>by rw[f3,b3],fun hd=>?_,c,inf,z,by rw[f2];exact b5,b6,b7,b8⟩
   rw[kH,if_neg (fun h=>(hnot k j d ty y hf hF).1 h.1)];exact b4 (by rwa[jB]at hd)
  ·rw[(hLk k j q1).1]at q3;rw[(hLk k j q1).2]at q4;rw[(hLk k' j' q5).1]at q7;rw[(hLk k' j' q5).2]at q8;exact hS.apart k k' j j' d d' ty ty' y y' q1 q2 q3 q4 q5 q6 q7 q8 q9
 unfold wpOp;simp only[ho];unfold rM at hev;split at hev
 ·rename_i hwt;rw[hwant]at hwt;rw[if_pos hwt];have hsel:∀cs b,o.op≠ .select cs b:=fun cs b hsb=>by
   have:cI C.P o=none:=by
    obtain⟨_,op,_,_,_,_⟩:=o;simp only at hsb;subst hsb;rfl
   rw[hx.2.1,this]at hev;simp[evI,aj]at hev
  refine .inl (ahN hcall hS.wr (execOp_congr o hsel hev') (fun z b hb=>hS.ar.eval hg z b hb) hg ?_ rest);rw[<-hx.2.1];exact hev
 ·rename_i hwt;rw[hwant]at hwt;rw[if_neg hwt];simp at hev;obtain⟨rfl,rfl⟩:=hev;exact rest undef w g (.refl hS.wr) (wZ g)
theorem aiu (hS:Sim C ops L g0 O0 w0 d0 e s a w g a' B) {i:Nat} {o:Oper} (ho:ops[i]?=some o) {j d:Nat} {t:TypeId} {y:Operand} (hf:lS ops i=some j) (hF:qC ops i j d t y) {z:AV} (hz:yS C.P t=some z) (hi:L i=false) (hj:L j=false)
  {K:Act->World->Prop} (hK:∀a1 w1 g1 a1' B1,Sim C ops (jU L i) g0 O0 w0 d0 e s a1 w1 g1 a1' B1->K a1 w1):wpOp C.P ops Q i K a w:=by
 obtain⟨o',h1,h2,h3,h4⟩:=hF.made;rw[ho]at h1;cases h1;obtain⟨inf,zv,k1,k2,k3⟩:=yB hz;have hrun:(execOp a.eval o).run C.P w=.ok (.value (.pointer (some ⟨w.heap.size,0,none⟩))) (qw w (.cells zv.cells t)):=by
  obtain⟨dst,op,ty,pos,af,gd⟩:=o;simp only at h3;subst h3;simp[execOp,Instr.alloc,yj k1 k2,newVar,newRow];rfl
 unfold wpOp;simp only[ho];have hwt:Region.wanted o (yielded ops a.tmps)=true:=by unfold Region.wanted;rw[h4]
 rw[if_pos hwt];refine .inl ?_;unfold Oper.wp;rw[hrun,Oper.upon_value,h2];have hgo:=LP hS.wr (.cells zv.cells t);have hgg:=hS.goes.trans hgo;have hLk:∀k j',lS ops k=some j'->k≠i->jU L i k=L k/\jU L i j'=L j':=fun k j' hf' hne=>by
  simp only[jU];refine⟨if_neg hne,if_neg (fun h=>?_)⟩;subst h;obtain⟨d',t',y',hF'⟩:=CB hf';obtain⟨oj,q1,q2,q3,_⟩:=hF'.st;rw[ho]at q1;cases q1;rw[h3]at q3;cases q3
 refine hK _ _ g a' (fun q=>if q=i then w.heap.size else B q) ⟨hgg.le,hgg.wr,hgg.os,hgg.tape,hgg.output,hgg.size,hgg.fr,hS.ar,by rw[put_defers];exact hS.defers,by rw[jB];exact hS.tsize,fun t' ht=>?_,fun k j' d' ty y' hf' hF' hk hj'=>?_,fun k k' j1 j2 d1 d2 ty ty' y1 y2 q1 q2 q3 q4 q5 q6 q7 q8 q9=>?_⟩
 ·have htd:t'≠d:=ht i j d t y hf hF (by simp[jU]) (by simp only[jU];rw[if_neg (by have:=hF.lt;omega)];exact hj)
  rw[kH,if_neg (fun h=>htd (by simpa using h.1.symm))]
  refine hS.tmps t' fun k j' d' ty y' hf' hF' hk hj'=>?_;have hki:k≠i:=fun h=>by subst h;rw[hi]at hk;cases hk
  exact ht k j' d' ty y' hf' hF' (by rw[(hLk k j' hf' hki).1];exact hk) (by rw[(hLk k j' hf' hki).2];exact hj')
 ·by_cases hki:k=i
  ·subst hki;rw[hf]at hf';cases hf';obtain⟨rfl,rfl⟩:d'=d/\ty=t:=by
    have e1:=gJ hF;rw[gJ hF']at e1;simp at e1;exact e1
   simp only[if_true];refine⟨hS.size,by simp[qw],Sz hS.wr,fun i=>?_,fun hd=>?_,zv.cells,inf,z,wU w _,k1,hz,(kQ g zv z k3).cells_size⟩
   ·cases hv:g.im w.heap.size i with
    |none=>rfl
    |some v=>exact absurd (hS.wr.im_lt hv) (Nat.lt_irrefl _)
   ·rw[kH,if_pos ⟨rfl,by rwa[jB]at hd⟩]
  ·rw[(hLk k j' hf' hki).1]at hk;rw[(hLk k j' hf' hki).2]at hj';simp only[if_neg hki];obtain⟨b0,b1,b2,b3,b4,c,inf',z',b5,b6,b7,b8⟩:=hS.pend k j' d' ty y' hf' hF' hk hj';obtain⟨f1,f2,f3⟩:=hgo.fr (B k) b1 b2;refine⟨b0,Nat.lt_of_lt_of_le b1 hgo.size,f1,b3,fun hd=>?_,c,inf',z',by rw[f2];exact b5,b6,b7,b8⟩
   rw[kH,if_neg (fun h=>abh hF' hF hki (by simpa using h.1.symm))]
   exact b4 (by rwa[jB]at hd)
 ·have hlt:∀k j' d' ty y',lS ops k=some j'->qC ops k j' d' ty y'->k≠i->jU L i k=true->jU L i j'=false->B k<w.heap.size:=fun k j' d' ty y' hf' hF' hki hk hj'=>by
   rw[(hLk k j' hf' hki).1]at hk;rw[(hLk k j' hf' hki).2]at hj';exact(hS.pend k j' d' ty y' hf' hF' hk hj').2.1
  by_cases hki:k=i
  ·subst hki;have hk':k'≠k:=fun h=>q9 h.symm;simp only[if_true,if_neg hk'];have:=hlt k' j2 d2 ty' y2 q5 q6 hk' q7 q8;omega
  ·by_cases hki':k'=i
   ·subst hki';simp only[if_true,if_neg hki];have:=hlt k j1 d1 ty y1 q1 q2 hki q3 q4;omega
   ·simp only[if_neg hki,if_neg hki'];rw[(hLk k j1 q1 hki).1]at q3;rw[(hLk k j1 q1 hki).2]at q4;rw[(hLk k' j2 q5 hki').1]at q7;rw[(hLk k' j2 q5 hki').2]at q8;exact hS.apart k k' j1 j2 d1 d2 ty ty' y1 y2 q1 q2 q3 q4 q5 q6 q7 q8 q9
end
section
variable{C:Ctx}{call:bD}{ops:Array Oper}{L:Nat->Bool}{g0:Gh}{O0:St}{w0:World}{d0:List Deferred}{e:Env}{s:St}{a:Act}{w:World}{g:Gh}{a':Act}{B:Nat->Nat}{Q:Exit->Act->World->Prop}
theorem ait (hS:Sim C ops L g0 O0 w0 d0 e s a w g a' B) (hg:GL C g) {i:Nat} {o:Oper} (ho:ops[i]?=some o) {k d:Nat} {t:TypeId} {y:Operand} (hf:lS ops k=some i) (hF:qC ops k i d t y) {z:AV} (hz:yS C.P t=some z) {inf:TypeInfo} (hinf:C.P.info? t=some inf) (hzs:z.cells.length=inf.size)
  {b:XA} (hb:cA y=some b) (hi:L i=false) (hk:L k=true) {v:AV} {s':St} (hev:evI C e s (.fill k d inf.size b)=some (.val v s')) {K:Act->World->Prop} (hK:∀a1 w1 g1 a1' B1,Sim C ops (jU L i) g0 O0 w0 d0 (Ev.put e (some d) v) s' a1 w1 g1 a1' B1->K a1 w1):wpOp C.P ops Q i K a w:=by
 obtain⟨o',h1,h2,h3,h4⟩:=hF.st;rw[ho]at h1;cases h1;simp only[evI,aj]at hev;split at hev
 ·rename_i hc;cases hev;obtain⟨hd,hlen,hflat⟩:=hc;obtain⟨b0,b1,b2,b3,b4,c,inf',z',b5,b6,b7,b8⟩:=hS.pend k i d t y hf hF hk hi;rw[hinf]at b6;cases b6;rw[hz]at b7;cases b7;have hal:=hS.ar.length;simp only[Array.length_toList]at hal;have hda:d<a.tmps.size:=by rw[hS.tsize];omega
  have hptr:a.tmps[d]?=some (.pointer (some ⟨B k,0,none⟩)):=b4 hda;have hey:a.eval y=a'.eval y:=G5 fun t' ht=>hS.tmps t' fun k' j' d' ty' y' hf' hF' hk' hj' htd=>by
   subst htd;by_cases hkk:k'=k
   ·subst hkk;have e1:=gJ hF;rw[gJ hF']at e1;simp at e1;obtain⟨rfl,rfl⟩:=e1;exact hF.nx ht
   ·have hij:i≠j':=fun h=>by subst h;exact hkk (Jp hF' hF)
    have hik:i≠k':=fun h=>by
     subst h;obtain⟨om,q1,q2,q3,_⟩:=hF'.made;rw[ho]at q1;cases q1;rw[h3]at q3;cases q3
    have:=(hF'.alone i o ho hik hij).2 y (by rw[h3];simp[Op.operands])
    exact this ht
  have hvy:=hS.ar.eval hg y b hb;have hcs:=hvy.cells;have hcl:(a'.eval y).cells.toList.length=inf.size:=by rw[hcs.length];exact hlen
  have hst:=run_storeCells_cells (P:=C.P) (B k) 0 (a'.eval y).cells.toList 0 w (fun j hj=>by
   rw[cell_of_heap b5,Array.getElem?_eq_getElem (by omega)];rfl) (fun j hj=>by simp[World.frozen?,b5]) (hcs.one hflat)
  have hrun:(execOp a.eval o).run C.P w=.ok .skip (w.setCells (B k) (0+0) (a'.eval y).cells.toList):=by
   obtain⟨dst,op,ty,pos,af,gd⟩:=o;simp only at h3;subst h3;have hpe:a.eval (.tmp d)=.pointer (some ⟨B k,0,none⟩):=by simp[Act.eval,hptr]
   have hsz:(a'.eval y).cells.size=inf.size:=by simpa using hcl
   simp[execOp,Instr.storeAt,Instr.sureAddr,hpe,hey,storeVar,run_sizeOf hinf,hsz,hst]
  unfold wpOp;simp only[ho];have hwt:Region.wanted o (yielded ops a.tmps)=true:=by unfold Region.wanted;rw[h4]
  rw[if_pos hwt];refine .inl ?_;unfold Oper.wp;rw[hrun,Oper.upon_skip,h2];obtain⟨r1,r2,r3,r4⟩:=sJ (B k) (a'.eval y).cells.toList (0+0) w;have hh:=rZ (B k) (a'.eval y).cells.toList (0+0) w c t (0,0) b5;have hne:∀q,q≠B k->(w.setCells (B k) (0+0) (a'.eval y).cells.toList).heap[q]?=w.heap[q]?:=fun q hq=>oH _ _ _ w q hq;have hle:=g.more_le (B k) inf.size;have hwr:WR (g.more (B k) inf.size) (w.setCells (B k) (0+0) (a'.eval y).cells.toList) (s++[.cells (av C e b).cells FZ]):=by
   refine SB hS.wr b2 b3 b1 r1 r2 r3 r4 hne _ _ ⟨FV c (0+0) (a'.eval y).cells.toList,t,(0,0),?_,?_,?_,fun q x hx=>?_,⟨rfl,fun _ _ ht=>nomatch ht⟩,fun q v hv=>?_⟩
   ·simp only[Gh.more,if_true];exact hh
   ·rw[oK];simp[Gh.more];omega
   ·rw[oK];omega
   ·rw[CQ _ _ _ (by omega)]
    have hq:=(List.getElem?_eq_some_iff.1 hx).1;obtain⟨u,u1,u2⟩:=hcs.get hx;rw[if_pos (by omega)]
    exact⟨u,by simpa using u1,u2.mono hle⟩
   ·exfalso;simp only[Gh.more,if_true]at hv;rw[b3]at hv;cases hv
  have hLk:∀k' j',lS ops k'=some j'->k'≠k->jU L i k'=L k'/\jU L i j'=L j':=fun k' j' hf' hne'=>by
   obtain⟨d',t',y',hF'⟩:=CB hf';simp only[jU];refine⟨if_neg (fun h=>?_),if_neg (fun h=>?_)⟩
   ·subst h;obtain⟨om,q1,q2,q3,_⟩:=hF'.made;rw[ho]at q1;cases q1;rw[h3]at q3;cases q3
   ·subst h;exact hne' (Jp hF' hF)
  have hLi:jU L i i=true:=by simp[jU]
  have hnk:∀k' j' (hf':lS ops k'=some j'),jU L i k'=true->jU L i j'=false->k'≠k:=fun k' j' hf' _ hj' h=>by
   subst h;rw[hf]at hf';cases hf';rw[hLi]at hj';cases hj'
  refine hK _ _ (g.more (B k) inf.size) (a'.put (some d) (.pointer (some ⟨B k,0,none⟩))) B ⟨hS.le.trans hle,hwr,r1.trans hS.os,r2.trans hS.tape,r3.trans hS.output,by rw[r4];exact hS.size,fun q hq hu=>?_,?_,hS.defers,hS.tsize.trans (jB a' _ _).symm,fun t' ht=>?_,fun k' j' d' ty y' hf' hF' hk' hj'=>?_,fun k1 k2 j1 j2 d1 d2 ty ty' y1 y2 q1 q2 q3 q4 q5 q6 q7 q8 q9=>?_⟩
  ·obtain⟨u1,u2,u3⟩:=hS.fr q hq hu;refine⟨fun o2 x2 hx2 hl2=>?_,by rw[hne q (by omega)];exact u2,u3⟩
   rcases fB hx2 with⟨_,hz2⟩|⟨hk2,rfl⟩
   ·rw[hle.ob o2 (hS.wr.lt hz2)];exact u1 o2 x2 hz2 hl2
   ·rw[<-hS.wr.n]at hk2;subst hk2;simp[Gh.more];omega
  ·have hvr:VR (g.more (B k) inf.size) (.ref s.length 0) (.pointer (some ⟨B k,0,none⟩)):=by
    have:=VR.ref (g:=g.more (B k) inf.size) s.length 0 (by simp[Gh.more,hS.wr.n])
    simpa[Gh.more,hS.wr.n]using this
   exact(hS.ar.mono hle).put hvr (some d)
  ·show a.tmps[t']?=_;rw[kH];by_cases htd:d=t'
   ·subst htd;rw[if_pos ⟨rfl,by rw[<-hS.tsize];exact hda⟩];exact hptr
   ·rw[if_neg (fun h=>htd (by simpa using h.1))]
    refine hS.tmps t' fun k' j' d' ty y' hf' hF' hk' hj'=>?_;by_cases hkk:k'=k
    ·subst hkk;have e1:=gJ hF;rw[gJ hF']at e1;simp at e1;obtain⟨rfl,rfl⟩:=e1;exact fun h=>htd h.symm
    ·exact ht k' j' d' ty y' hf' hF' (by rw[(hLk k' j' hf' hkk).1];exact hk') (by rw[(hLk k' j' hf' hkk).2];exact hj')
  ·have hkk:=hnk k' j' hf' hk' hj';rw[(hLk k' j' hf' hkk).1]at hk';rw[(hLk k' j' hf' hkk).2]at hj';obtain⟨e0,e1,e2,e3,e4,c2,inf2,z2,e5,e6,e7,e8⟩:=hS.pend k' j' d' ty y' hf' hF' hk' hj';have hBB:=hS.apart k' k j' i d' d ty t y' y hf' hF' hk' hj' hf hF hk hi hkk;refine⟨e0,by rw[r4];exact e1,fun o2 x2 hx2 hl2=>?_,e3,e4,c2,inf2,z2,by rw[hne _ hBB];exact e5,e6,e7,e8⟩
   rcases fB hx2 with⟨_,hz2⟩|⟨hk2,rfl⟩
   ·rw[hle.ob o2 (hS.wr.lt hz2)];exact e2 o2 x2 hz2 hl2
   ·rw[<-hS.wr.n]at hk2;subst hk2;simp[Gh.more];exact fun h=>hBB h.symm
  ·have n1:=hnk k1 j1 q1 q3 q4;have n2:=hnk k2 j2 q5 q7 q8;rw[(hLk k1 j1 q1 n1).1]at q3;rw[(hLk k1 j1 q1 n1).2]at q4;rw[(hLk k2 j2 q5 n2).1]at q7;rw[(hLk k2 j2 q5 n2).2]at q8;exact hS.apart k1 k2 j1 j2 d1 d2 ty ty' y1 y2 q1 q2 q3 q4 q5 q6 q7 q8 q9
 ·cases hev
end
section
variable{C:Ctx}{call:bD}
theorem Rn(draw:Bool)(ops:Array Oper):∀(l:List Oper) (k:Nat) (xs:List XOp),Rl C.P draw ops k l=some xs->xs.length=l.length/\∀(i:Nat) (o:Oper),l[i]?=some o->∃x,xs[i]?=some x/\cOp C.P draw ops (k+i) o=some x
 |[],k,xs,h=>by simp[Rl]at h;subst h;simp
 |o::l,k,xs,h=>by
  simp only[Rl]at h;split at h
  ·rename_i x azs h1 h2;simp at h;subst h;obtain⟨i1,i2⟩:=Rn draw ops l (k+1) azs h2;refine⟨by simp[i1],fun i o' ho'=>?_⟩
   cases i with
   |zero=>simp at ho';subst ho';exact⟨x,rfl,h1⟩
   |succ i=>
    obtain⟨x',q1,q2⟩:=i2 i o' (by simpa using ho')
    exact⟨x',by simpa using q1,by rw[show k+(i+1)=k+1+i by omega];exact q2⟩
  ·cases h
theorem Vk{draw:Bool}{ops:Array Oper}{i:Nat}{o:Oper}{x:XOp}(h:cOp C.P draw ops i o=some x):x.loose=[]:=by
 simp only[cOp,Option.bind_eq_bind,Option.bind_eq_some_iff]at h;obtain⟨gd,hg,h⟩:=h;repeat' (first|(cases h;rfl)|(cases h;done)|split at h)
def cnt(L:Nat->Bool)(n:Nat):Nat:=((List.range n).filter L).length
theorem acQ(L:Nat->Bool)(n i:Nat)(hi:i<n)(hL:L i=false):cnt (jU L i) n=cnt L n+1:=by
 unfold cnt
 induction n with
 |zero=>omega
 |succ n ih=>
  rw[List.range_succ,List.filter_append,List.filter_append,List.length_append,List.length_append];by_cases hin:i=n
  ·subst hin;have:(List.range i).filter (jU L i)=(List.range i).filter L:=by
    apply List.filter_congr;intro x hx;have:=List.mem_range.1 hx;simp[jU];omega
   simp[this,jU,hL]
  ·have:=ih (by omega)
   have hn:jU L i n=L n:=by simp only[jU];rw[if_neg (fun h=>hin h.symm)]
   simp only[List.filter_cons,List.filter_nil,hn];omega
theorem Y8(L:Nat->Bool)(n:Nat)(h:cnt L n=n):∀i,i<n->L i=true:=by
 unfold cnt at h;have:=List.length_filter_eq_length_iff.1 (by rw[h];simp:((List.range n).filter L).length=(List.range n).length)
 intro i hi;exact this i (List.mem_range.2 hi)
theorem Ry(hm:C.P.follows .mixedOrders=true)(hcall:fO C call):YJ C call:=by
 intro id ops l hc e0 e1 O0 O1 hev g0 w00 a0 ha0 hw0 hg0;simp only[ab1,Option.bind_eq_bind,Option.bind_eq_some_iff]at hc;obtain⟨l0,hl0,an,han,hc⟩:=hc;split at hc
 ·rename_i hok0;simp at hc;subst hc;have hAnc:=acw han;obtain⟨hlen0,hget0⟩:=Rn (C:=C) true ops ops.toList 0 l0 hl0;have hlen:(aS an l0).length=ops.size:=by simp[aS,hlen0]
  have hmark:∀(i:Nat) (x:XOp),(aS an l0)[i]?=some x->∃x0,l0[i]?=some x0/\x.dst=x0.dst/\x.i=x0.i/\x.guard=x0.guard/\(x0.i.looks=true->x.loose=DX an l0 i):=fun i x hx=>by
   simp only[aS,List.getElem?_map,List.getElem?_zipIdx,Option.map_eq_some_iff]at hx;obtain⟨p,⟨x0,h1,rfl⟩,rfl⟩:=hx;refine⟨x0,h1,?_⟩;simp only[Nat.zero_add];split
   ·exact⟨rfl,rfl,rfl,fun _=>rfl⟩
   ·rename_i hlk;exact⟨rfl,rfl,rfl,fun h=>absurd h hlk⟩
  have hback:∀(i:Nat) (x0:XOp),l0[i]?=some x0->∃x,(aS an l0)[i]?=some x/\x.dst=x0.dst/\x.i=x0.i/\x.guard=x0.guard:=fun i x0 hx=>by
   have hi:i<(aS an l0).length:=by rw[hlen,<-Array.length_toList,<-hlen0];exact(List.getElem?_eq_some_iff.1 hx).1
   obtain⟨x0',h1,h2,h3,h4,_⟩:=hmark i _ (List.getElem?_eq_getElem hi);rw[hx]at h1;cases h1;exact⟨_,List.getElem?_eq_getElem hi,h2,h3,h4⟩
  have hok:qA an (aS an l0)=true:=by
   unfold qA at hok0⊢;rw[List.all_eq_true]at hok0⊢;intro j hj;rw[List.mem_range,hlen]at hj;have h1:=hok0 j (by rw[List.mem_range,hlen0];simpa using hj)
   simp only[Bool.and_eq_true]at h1⊢;obtain⟨xj,hxj,d1,d2,d3⟩:=hback j _ (List.getElem?_eq_getElem (show j<l0.length by rw[hlen0];simpa using hj))
   refine⟨?_,?_⟩
   ·have h2:=h1.1;unfold XD at h2⊢;rw[List.getElem?_eq_getElem (show j<l0.length by rw[hlen0];simpa using hj)]at h2
    rw[hxj];obtain⟨a1,a2,a3,a4⟩:=xj;simp only at d2;generalize l0[j]'(by rw[hlen0];simpa using hj)=xq at h2 d2
    obtain⟨c1,c2,c3,c4⟩:=xq;simp only at d2;subst d2;cases a2<;>first|rfl|exact h2
   ·rw[List.all_eq_true];intro i hi;have h3:=List.all_eq_true.1 h1.2 i hi;have hi':=List.mem_range.1 hi;obtain⟨xi,hxi,f1,f2,f3⟩:=hback i _ (List.getElem?_eq_getElem (show i<l0.length by rw[hlen0];simp;omega))
    unfold Yb at h3⊢;rw[List.getElem?_eq_getElem (show j<l0.length by rw[hlen0];simpa using hj),List.getElem?_eq_getElem (show i<l0.length by rw[hlen0];simp;omega)]at h3
    rw[hxi,hxj];have hil:i<l0.length:=by rw[hlen0];simp;omega
    have hjl:j<l0.length:=by rw[hlen0];simpa using hj
    have e1:clash xi xj=clash l0[i] l0[j]:=by
     unfold clash XOp.reads;rw[d1,d2,d3,f1,f2,f3]
    simp only[e1,d2,f2];exact h3
  unfold lJ at hev;split at hev
  ·rename_i e2 O2 rs ss hrun;split at hev
   ·rename_i hrc0;simp at hev;obtain⟨rfl,rfl⟩:=hev;obtain⟨E,S,V,hE0,hS0,hEn,hSn,hR,hrs,hss⟩:=Jk _ _ _ _ _ _ _ hrun;have hrc:∀(i:Nat) (o:XOp),(aS an l0)[i]?=some o->jH o (E i)=true->∀c∈o.loose,∃v1 v2 s1 s2,evI C (E i) (S c) o.i=some (.val v1 s1)/\evI C (E i) (S (c+1)) o.i=some (.val v2 s2)/\v1=V i/\v2=V i:=fun i o ho hw c hcl=>by
     have hi:=(List.getElem?_eq_some_iff.1 ho).1;obtain⟨s,s',v1,v2,s1,s2,q1,q2,q3,q4,q5,q6⟩:=Ce _ _ hrc0 i o (E i) (V i) ho (hrs i hi) hw c hcl;have hc1:c<(aS an l0).length:=by
      obtain⟨x0,h1,h2,h3,h4,h5⟩:=hmark i o ho;by_cases hlk:x0.i.looks=true
      ·rw[h5 hlk]at hcl;unfold DX at hcl;have:=(List.mem_filter.1 hcl).1;rw[List.mem_range]at this;simpa[aS]using this
      ·exfalso;simp only[aS,List.getElem?_map,List.getElem?_zipIdx,Option.map_eq_some_iff]at ho;obtain⟨p,⟨x1,g1,rfl⟩,rfl⟩:=ho;rw[h1]at g1;cases g1;simp only[if_neg hlk]at hcl;obtain⟨o',ho'⟩:∃o',ops.toList[i]?=some o':=⟨_,List.getElem?_eq_getElem (by rw[hlen]at hi;simpa using hi)⟩
       obtain⟨x2,g2,g3⟩:=hget0 i o' ho';rw[h1]at g2;cases g2;have hnl:x0.loose=[]:=Vk g3;rw[hnl]at hcl;cases hcl
     have e1:=hss c (by omega)
     have e2:=hss (c+1) (by omega)
     rw[e1]at q1;cases q1;rw[e2]at q2;cases q2;exact⟨v1,v2,s1,s2,q3,q4,q5,q6⟩
    have hloose:∀(i:Nat) (o:XOp),(aS an l0)[i]?=some o->o.i.looks=true->∀(c:Nat) (o':XOp),(aS an l0)[c]?=some o'->o'.i.changes=true->c≠i->c∉an.getD i []->i∉an.getD c []->c∈o.loose:=fun i o ho hlk c o' ho' hch hne hn1 hn2=>by
     obtain⟨x0,h1,h2,h3,h4,h5⟩:=hmark i o ho;obtain⟨y0,k1,k2,k3,k4,k5⟩:=hmark c o' ho';rw[h5 (by rw[<-h3];exact hlk)]
     unfold DX;rw[List.mem_filter,List.mem_range];refine⟨(List.getElem?_eq_some_iff.1 k1).1,?_⟩;simp only[k1,Bool.and_eq_true,bne_iff_ne,ne_eq,Bool.not_eq_true'];refine⟨⟨⟨by rw[<-k3];exact hch,hne⟩,?_⟩,?_⟩
     ·simpa using hn1
     ·simpa using hn2
    refine wp_region_any hm ?_;have hd0:=Goes.drew hw0 (w00.drawn+1);have key:∀(fuel:Nat) (listed:Array Bool) (e:Env) (k:Nat) (a:Act) (w:World) (g:Gh) (a':Act) (B:Nat->Nat),listed.size=ops.size->cnt (fun j=>listed.getD j false) ops.size+fuel=ops.size->
      Std ops (aS an l0) E S V (fun j=>listed.getD j false) e k->Sim C ops (fun j=>listed.getD j false) g0 O0 {w00 with drawn:=w00.drawn+1} a0.defers e (S k) a w g a' B->
      wpAny C.P .any ops (Post C g0 O0 w00 a0 .normal e2 O2) fuel listed a w:=by
     have hdone:∀(listed:Array Bool) (e:Env) (k:Nat) (a:Act) (w:World) (g:Gh) (a':Act) (B:Nat->Nat),(∀i,i<ops.size->listed.getD i false=true)->Std ops (aS an l0) E S V (fun j=>listed.getD j false) e k->Sim C ops (fun j=>listed.getD j false) g0 O0 {w00 with drawn:=w00.drawn+1} a0.defers e (S k) a w g a' B->Post C g0 O0 w00 a0 .normal e2 O2 .normal a w:=by
      intro listed e k a w g a' B hall hstd hsim;have hSk:S k=O2:=by
       rw[<-hSn];refine hR.still hstd.kle (Nat.le_refl _) fun c o h1 h2 ho=>?_;cases hco:o.i.changes with
       |false=>rfl
       |true=>
        have:=hstd.high c o ho hco h1;rw[hall c (by rw[<-hlen];exact h2)]at this;cases this
      have hee:e=e2:=by
       rw[<-hEn];apply List.ext_getElem?;intro t;rcases Nat.lt_or_ge t (E 0).length with ht|ht
       ·rcases hstd.env t ht with⟨j,o,h1,h2,h3,h4,h5⟩|⟨h1,h2⟩
        ·rcases hR.eget _ (Nat.le_refl _) t ht with⟨j2,o2,q1,q2,q3,q4,q5⟩|⟨q1,q2⟩
         ·have e1:=h5 j2 o2 q2 (hall j2 (by rw[<-hlen];exact q1)) q3
          have e2:=q5 j o (List.getElem?_eq_some_iff.1 h1).1 h1 h3;have:j=j2:=by omega
          rw[h4,q4,this]
         ·exact absurd h3 (q1 j o (List.getElem?_eq_some_iff.1 h1).1 h1)
        ·rcases hR.eget _ (Nat.le_refl _) t ht with⟨j2,o2,q1,q2,q3,q4,q5⟩|⟨q1,q2⟩
         ·exact absurd q3 (h1 j2 o2 q2 (hall j2 (by rw[<-hlen];exact q1)))
         ·rw[h2,q2]
       ·rw[List.getElem?_eq_none (by rw[hstd.len];exact ht),List.getElem?_eq_none (by rw[hR.elen _ (Nat.le_refl _)];exact ht)]
      have hta:a.tmps=a'.tmps:=by
       apply Array.ext_getElem?;intro t;refine hsim.tmps t fun k j d ty y hf hF hk hj=>?_;obtain⟨oj,q1,_⟩:=hF.st;rw[hall j (Array.getElem?_eq_some_iff.1 q1).1]at hj;cases hj
      refine⟨rfl,hsim.defers,g,?_,?_⟩
      ·have:=hsim.ar;rw[hee]at this;unfold AR at this⊢;rw[hta];exact this
      ·have:=hsim.goes;rw[hSk]at this;exact hd0.trans ⟨this.le,this.wr,this.os,this.tape,this.output,this.size,this.fr⟩
     intro fuel
     induction fuel with
     |zero=>
      intro listed e k a w g a' B hsz hcnt hstd hsim;have hall:=Y8 _ _ (show cnt (fun j=>listed.getD j false) ops.size=ops.size by omega)
      refine⟨?_,hdone listed e k a w g a' B hall hstd hsim⟩;refine List.eq_nil_iff_forall_not_mem.2 fun i hi=>?_;obtain⟨h1,o,h2,_⟩:=mem_ready.1 hi;have hlt:=(Array.getElem?_eq_some_iff.1 h2).1;have:=hall i hlt;have hli:i<listed.size:=by omega
      simp[hli]at this h1;rw[this]at h1;cases h1
     |succ fuel ih=>
      intro listed e k a w g a' B hsz hcnt hstd hsim;refine⟨fun hnil=>?_,fun i hi=>?_⟩
      ·exfalso;have hex:∃i,i<ops.size/\listed.getD i false=false:=by
        refine Classical.byContradiction fun hno=>?_;have hall:∀i,i<ops.size->listed.getD i false=true:=fun i hi=>by
         cases hL:listed.getD i false with
         |true=>rfl
         |false=>exact absurd ⟨i,hi,hL⟩ hno
        have:cnt (fun j=>listed.getD j false) ops.size=ops.size:=by
         unfold cnt;rw[List.filter_eq_self.2 (fun j hj=>hall j (List.mem_range.1 hj))];simp
        omega
       have hmin:∃i,(i<ops.size/\listed.getD i false=false)/\∀j,j<i->¬(j<ops.size/\listed.getD j false=false):=by
        obtain⟨i0,hi0⟩:=hex
        induction i0 using Nat.strongRecOn with
        |_ i0 ih2=>
         by_cases hlt:∃j,j<i0/\(j<ops.size/\listed.getD j false=false)
         ·obtain⟨j,h1,h2⟩:=hlt;exact ih2 j h1 h2
         ·exact⟨i0,hi0,fun j h1 h2=>hlt ⟨j,h1,h2⟩⟩
       obtain⟨i,⟨h1,h2⟩,h3⟩:=hmin;have:i∈Region.ready .any ops listed:=by
        rw[mem_ready];have hli:i<listed.size:=by omega
        refine⟨by simp[hli]at h2⊢;exact h2,ops[i],Array.getElem?_eq_getElem h1,fun ed hed hbd=>?_⟩
        have hdir:ed.on∈direct ops[i]:=by
         unfold direct;exact List.mem_map.2 ⟨ed,List.mem_filter.2 ⟨by simpa using hed,hbd⟩,rfl⟩
        have hlt:=hAnc.lt i ops[i] (by simp) ed.on hdir
        cases hL:listed.getD ed.on false with
        |true=>rfl
        |false=>exact absurd ⟨by omega,hL⟩ (h3 ed.on hlt)
       rw[hnil]at this;cases this
      ·obtain⟨h1,o,ho,h3⟩:=mem_ready.1 hi;have hlt:=(Array.getElem?_eq_some_iff.1 ho).1;have hli:i<listed.size:=by omega
       have hun:listed.getD i false=false:=by simp[hli]at h1⊢;exact h1
       have hr:Rdy ops (fun j=>listed.getD j false) i:=⟨hun,fun o' ho' j hj=>by
        rw[ho]at ho';cases ho';unfold direct at hj;obtain⟨ed,hed,rfl⟩:=List.mem_map.1 hj;obtain⟨q1,q2⟩:=List.mem_filter.1 hed;exact h3 ed (by simpa using q1) q2⟩
       have hLput:(fun j=>(listed.setIfInBounds i true).getD j false)=jU (fun j=>listed.getD j false) i:=by
        funext j
        simp only[jU];by_cases hji:j=i
        ·subst hji;simp[hli]
        ·rw[if_neg hji,getD_set_ne false (fun h=>hji h.symm)]
       obtain⟨x0,hx0,hcop⟩:=hget0 i o (by simpa using ho)
       simp only[Nat.zero_add]at hcop;obtain⟨x,hx,d1,d2,d3⟩:=hback i x0 hx0;obtain⟨k',hev1,hstd'⟩:=hstd.step hlen hAnc hok hR hrc hloose hr hx;have hnext:∀a1 w1 g1 a1' B1,Sim C ops (jU (fun j=>listed.getD j false) i) g0 O0 {w00 with drawn:=w00.drawn+1} a0.defers (Ev.put e x.dst (V i)) (S k') a1 w1 g1 a1' B1->wpAny C.P .any ops (Post C g0 O0 w00 a0 .normal e2 O2) fuel (listed.setIfInBounds i true) a1 w1:=fun a1 w1 g1 a1' B1 hs1=>by
        refine ih (listed.setIfInBounds i true) (Ev.put e x.dst (V i)) k' a1 w1 g1 a1' B1 (by simpa using hsz) ?_ (by rw[hLput];exact hstd') (by rw[hLput];exact hs1)
        rw[hLput,acQ _ _ i hlt hun];omega
       have hgl:GL C g:=hg0.mono hsim.le;cases aga (C:=C) ho hcop with
       |plain p0 p1 gd hgd hxx=>exact afd hcall hsim hgl ho p0 p1 hgd ⟨by rw[d1];exact hxx.1,by rw[d2];exact hxx.2.1,by rw[d3];exact hxx.2.2⟩ hev1 hnext
       |pend j d t y hf hF z hz hxx=>
        have hfl:∃oj xj,ops[j]?=some oj/\(aS an l0)[j]?=some xj/\∃sz q,xj.i=.fill i d sz q:=by
         obtain⟨oj,q1,q2,q3,q4⟩:=hF.st;obtain⟨xj0,g1,g2⟩:=hget0 j oj (by simpa using q1)
         simp only[Nat.zero_add]at g2;obtain⟨xj,g3,g4,g5,g6⟩:=hback j xj0 g1;cases aga (C:=C) q1 g2 with
         |plain p0 p1 gd hgd hxx=>exact absurd hf (p0 i)
         |pend j' d' t' y' hf' hF' z' hz' hxx'=>
          obtain⟨om,m1,m2,m3,_⟩:=hF'.made;rw[q1]at m1;cases m1;rw[q3]at m3;cases m3
         |fill k2 d2' t2 y2 hf2 hF2 z2 hz2 inf2 hi2 hzs2 a2 ha2 hxx2=>
          obtain rfl:=Jp hF2 hF;have e1:=gJ hF;rw[gJ hF2]at e1;simp at e1;obtain⟨rfl,rfl⟩:=e1;exact⟨oj,xj,q1,g3,_,_,by rw[g5];exact hxx2.2.1⟩
        obtain⟨oj,xj,q1,q2,sz,q,q3⟩:=hfl;have hLj:listed.getD j false=false:=hstd.behind hlen hAnc hok hr (List.getElem?_eq_some_iff.1 q2).1 (ad4 hok q2 q3);have hVi:V i=.undef/\S k'=S k:=by
         unfold rM at hev1;rw[d2,hxx.2.1]at hev1;split at hev1
         ·simp only[evI,aj]at hev1;simp at hev1;exact⟨hev1.1.symm,hev1.2.symm⟩
         ·simp at hev1;exact⟨hev1.1.symm,hev1.2.symm⟩
        refine aiu hsim ho hf hF hz hun hLj fun a1 w1 g1 a1' B1 hs1=>hnext a1 w1 g1 a1' B1 ?_;rw[d1,hxx.1,hVi.2];exact hs1
       |fill k2 d t y hf hF z hz inf hinf hzs b hb hxx=>
        have hLk:listed.getD k2 false=true:=hstd.before hlen hAnc hok hr (by rw[hlen];exact hlt) (ad4 hok hx (by rw[d2];exact hxx.2.1))
        have hev2:evI C e (S k) (.fill k2 d inf.size b)=some (.val (V i) (S k')):=by
         unfold rM at hev1;have hw1:jH x e=true:=by unfold jH;rw[d3,hxx.2.2]
         rw[if_pos hw1,d2,hxx.2.1]at hev1;split at hev1
         ·rename_i v s hq;simp at hev1;obtain⟨rfl,rfl⟩:=hev1;exact hq
         ·rename_i f azs s hq;simp only[evI,aj]at hq;split at hq<;>cases hq
         ·cases hev1
        refine ait hsim hgl ho hf hF hz hinf hzs hb hun hLk hev2 fun a1 w1 g1 a1' B1 hs1=>hnext a1 w1 g1 a1' B1 ?_;rw[d1,hxx.1];exact hs1
    refine key ops.size (Array.replicate ops.size false) e0 0 a0 _ g0 a0 (fun _=>0) (by simp) ?_ ?_ ?_
    ·have:(fun j=>(Array.replicate ops.size false).getD j false)=fun _=>false:=by
      funext j
      simp[Array.getElem?_replicate];split<;>rfl
     rw[this];simp[cnt]
    ·have hF:∀j,(Array.replicate ops.size false).getD j false=false:=fun j=>by
      simp[Array.getElem?_replicate];split<;>rfl
     refine⟨fun i o _ hL=>(by rw[hF]at hL;cases hL),by rw[hE0],fun t ht=>.inr ⟨fun j o _ hL=>(by rw[hF]at hL;cases hL),by rw[hE0]⟩,Nat.zero_le _,fun c o _ _ h=>by omega,fun c o _ _ _=>hF c⟩
    ·have hF:∀j,(Array.replicate ops.size false).getD j false=false:=fun j=>by
      simp[Array.getElem?_replicate];split<;>rfl
     rw[hS0];exact⟨.refl g0,hd0.wr,rfl,rfl,rfl,Nat.le_refl _,fun b _ hu=>⟨hu,rfl,fun _=>rfl⟩,ha0,rfl,rfl,fun t _=>rfl,fun k j d ty y _ _ hk=>(by rw[hF]at hk;cases hk),fun k k' j j' d d' ty ty' y y' _ _ hk=>(by rw[hF]at hk;cases hk)⟩
   ·cases hev
  ·cases hev
 ·simp at hc
end
section
variable{C:Ctx}{call:bD}
theorem Zd {ops:Array Oper} {an:List (List Nat)} {l0:List XOp} (hlen0:l0.length=ops.size) (hl0:∀(i:Nat) (x:XOp),l0[i]?=some x->x.loose=[]) (hok0:qA an l0=true) {e0 e2:Env} {O0 O2:St} (hev:lJ C call (aS an l0) e0 O0=some (e2,O2)):
  (∀(i:Nat) (x:XOp),(aS an l0)[i]?=some x->∃x0,l0[i]?=some x0/\x.dst=x0.dst/\x.i=x0.i/\x.guard=x0.guard)/\qA an (aS an l0)=true/\
  ∃E S V,E 0=e0/\S 0=O0/\E (aS an l0).length=e2/\S (aS an l0).length=O2/\Run C call (aS an l0) E S V/\
   (∀(i:Nat) (o:XOp),(aS an l0)[i]?=some o->jH o (E i)=true->∀c∈o.loose,∃v1 v2 s1 s2,evI C (E i) (S c) o.i=some (.val v1 s1)/\evI C (E i) (S (c+1)) o.i=some (.val v2 s2)/\v1=V i/\v2=V i)/\
   (∀(i:Nat) (o:XOp),(aS an l0)[i]?=some o->o.i.looks=true->∀(c:Nat) (o':XOp),(aS an l0)[c]?=some o'->o'.i.changes=true->c≠i->c∉an.getD i []->i∉an.getD c []->c∈o.loose):=by
 have hlen:(aS an l0).length=ops.size:=by simp[aS,hlen0]
 have hmark:∀(i:Nat) (x:XOp),(aS an l0)[i]?=some x->∃x0,l0[i]?=some x0/\x.dst=x0.dst/\x.i=x0.i/\x.guard=x0.guard/\(x0.i.looks=true->x.loose=DX an l0 i):=fun i x hx=>by
  simp only[aS,List.getElem?_map,List.getElem?_zipIdx,Option.map_eq_some_iff]at hx;obtain⟨p,⟨x0,h1,rfl⟩,rfl⟩:=hx;refine⟨x0,h1,?_⟩;simp only[Nat.zero_add];split
  ·exact⟨rfl,rfl,rfl,fun _=>rfl⟩
  ·rename_i hlk;exact⟨rfl,rfl,rfl,fun h=>absurd h hlk⟩
 have hback:∀(i:Nat) (x0:XOp),l0[i]?=some x0->∃x,(aS an l0)[i]?=some x/\x.dst=x0.dst/\x.i=x0.i/\x.guard=x0.guard:=fun i x0 hx=>by
  have hi:i<(aS an l0).length:=by rw[hlen,<-hlen0];exact(List.getElem?_eq_some_iff.1 hx).1
  obtain⟨x0',h1,h2,h3,h4,_⟩:=hmark i _ (List.getElem?_eq_getElem hi);rw[hx]at h1;cases h1;exact⟨_,List.getElem?_eq_getElem hi,h2,h3,h4⟩
 have hok:qA an (aS an l0)=true:=by
  unfold qA at hok0⊢;rw[List.all_eq_true]at hok0⊢;intro j hj;rw[List.mem_range,hlen]at hj;have h1:=hok0 j (by rw[List.mem_range,hlen0];simpa using hj)
  simp only[Bool.and_eq_true]at h1⊢;obtain⟨xj,hxj,d1,d2,d3⟩:=hback j _ (List.getElem?_eq_getElem (show j<l0.length by rw[hlen0];simpa using hj))
  refine⟨?_,?_⟩
  ·have h2:=h1.1;unfold XD at h2⊢;rw[List.getElem?_eq_getElem (show j<l0.length by rw[hlen0];simpa using hj)]at h2
   rw[hxj];obtain⟨a1,a2,a3,a4⟩:=xj;simp only at d2;generalize l0[j]'(by rw[hlen0];simpa using hj)=xq at h2 d2
   obtain⟨c1,c2,c3,c4⟩:=xq;simp only at d2;subst d2;cases a2<;>first|rfl|exact h2
  ·rw[List.all_eq_true];intro i hi;have h3:=List.all_eq_true.1 h1.2 i hi;have hi':=List.mem_range.1 hi;obtain⟨xi,hxi,f1,f2,f3⟩:=hback i _ (List.getElem?_eq_getElem (show i<l0.length by rw[hlen0];omega))
   unfold Yb at h3⊢;rw[List.getElem?_eq_getElem (show j<l0.length by rw[hlen0];simpa using hj),List.getElem?_eq_getElem (show i<l0.length by rw[hlen0];omega)]at h3
   rw[hxi,hxj];have hil:i<l0.length:=by rw[hlen0];omega
   have hjl:j<l0.length:=by rw[hlen0];simpa using hj
   have e1:clash xi xj=clash l0[i] l0[j]:=by
    unfold clash XOp.reads;rw[d1,d2,d3,f1,f2,f3]
   simp only[e1,d2,f2];exact h3
 refine⟨fun i x hx=>by obtain⟨x0,h1,h2,h3,h4,_⟩:=hmark i x hx;exact⟨x0,h1,h2,h3,h4⟩,hok,?_⟩
 unfold lJ at hev;split at hev
 ·rename_i e2 O2 rs ss hrun;split at hev
  ·rename_i hrc0;simp at hev;obtain⟨rfl,rfl⟩:=hev;obtain⟨E,S,V,hE0,hS0,hEn,hSn,hR,hrs,hss⟩:=Jk _ _ _ _ _ _ _ hrun;refine⟨E,S,V,hE0,hS0,hEn,hSn,hR,fun i o ho hw c hcl=>?_,fun i o ho hlk c o' ho' hch hne hn1 hn2=>?_⟩
   ·have hi:=(List.getElem?_eq_some_iff.1 ho).1;obtain⟨s,s',v1,v2,s1,s2,q1,q2,q3,q4,q5,q6⟩:=Ce _ _ hrc0 i o (E i) (V i) ho (hrs i hi) hw c hcl;have hc1:c<(aS an l0).length:=by
     obtain⟨x0,h1,h2,h3,h4,h5⟩:=hmark i o ho;by_cases hlk:x0.i.looks=true
     ·rw[h5 hlk]at hcl;unfold DX at hcl;have:=(List.mem_filter.1 hcl).1;rw[List.mem_range]at this;simpa[aS]using this
     ·exfalso;simp only[aS,List.getElem?_map,List.getElem?_zipIdx,Option.map_eq_some_iff]at ho;obtain⟨p,⟨x1,g1,rfl⟩,rfl⟩:=ho;rw[h1]at g1;cases g1;simp only[if_neg hlk]at hcl;rw[hl0 i x0 h1]at hcl;cases hcl
    have e1:=hss c (by omega)
    have e2:=hss (c+1) (by omega)
    rw[e1]at q1;cases q1;rw[e2]at q2;cases q2;exact⟨v1,v2,s1,s2,q3,q4,q5,q6⟩
   ·obtain⟨x0,h1,h2,h3,h4,h5⟩:=hmark i o ho;obtain⟨y0,k1,k2,k3,k4,k5⟩:=hmark c o' ho';rw[h5 (by rw[<-h3];exact hlk)]
    unfold DX;rw[List.mem_filter,List.mem_range];refine⟨(List.getElem?_eq_some_iff.1 k1).1,?_⟩;simp only[k1,Bool.and_eq_true,bne_iff_ne,ne_eq,Bool.not_eq_true'];refine⟨⟨⟨by rw[<-k3];exact hch,hne⟩,?_⟩,?_⟩
    ·simpa using hn1
    ·simpa using hn2
  ·cases hev
 ·cases hev
structure Flt(P:Program)(ops:Array Oper)(ib d:Nat)(t:TypeId)(y:Operand)(b:XA)(inf:TypeInfo)(an:List (List Nat))(l0:List XOp):Prop where
 box:∃o,ops[ib]?=some o/\o.dst=some d/\o.op=.box t y/\o.guard=none
 hb:cA y=some b
 hinf:P.info? t=some inf
 han:YQ [] ops.toList=some an
 hl:Rl P false ops 0 ops.toList=some l0
 ok:qA an (blank ops ib d l0)=true
 late:∀i,i<ops.size->Tc ops an ib d (mZ ops d) i=true
 hy:V8 (mZ ops d) y=true
 wr:Ov an (blank ops ib d l0) ib y=true
theorem afT{o:Oper}{d:Nat}{t:TypeId}{y:Operand}(h:afS o=some (d,t,y)):o.dst=some d/\o.op=.box t y/\o.guard=none:=by
 unfold afS at h;split at h
 ·rename_i h1 h2 h3;cases h;exact⟨h1,h2,h3⟩
 ·cases h
theorem Qs{o:Oper}{d q:Nat}(h:EE d o=some q):o.dst=some q/\(o.op=.move (.tmp d)\/o.op=.assign (.tmp d))/\o.guard=none/\q≠d:=by
 unfold EE at h;split at h
 ·rename_i h1 h2 h3;split at h
  ·rename_i hc;simp only[Bool.and_eq_true,beq_iff_eq,bne_iff_ne]at hc;cases h;obtain⟨rfl,hc⟩:=hc;exact⟨h1,.inl h2,h3,hc⟩
  ·cases h
 ·rename_i h1 h2 h3;split at h
  ·rename_i hc;simp only[Bool.and_eq_true,beq_iff_eq,bne_iff_ne]at hc;cases h;obtain⟨rfl,hc⟩:=hc;exact⟨h1,.inr h2,h3,hc⟩
  ·cases h
 ·cases h
def akW(ops:Array Oper)(d:Nat)(inf:TypeInfo)(b:XA):List XOp:={dst:=some d,i:=.fill 0 d inf.size b,guard:=none}::(ops.toList.filterMap (EE d)).map fun q=>{dst:=some q,i:=.mv (.t d),guard:=none}
theorem abl{P:Program}{ops:Array Oper}{l m:List XOp}(h:XH P ops=some (l,m)):∃ib d t y b inf an l0,Flt P ops ib d t y b inf an l0/\l=aS an (blank ops ib d l0)/\m=akW ops d inf b:=by
 obtain⟨ib,_,h⟩:=List.exists_of_findSome?_eq_some h;unfold ag0 at h;split at h
 ·rename_i d t y hb;obtain⟨o,ho,hb⟩:=Option.bind_eq_some_iff.1 hb;obtain⟨h1,h2,h3⟩:=afT hb;split at h
  ·rename_i b inf an l0 k1 k2 k3 k4;split at h
   ·rename_i hc;simp only[Bool.and_eq_true]at hc;cases h;exact⟨ib,d,t,y,b,inf,an,l0,⟨⟨o,ho,h1,h2,h3⟩,k1,k2,k3,k4,hc.1,fun i hi=>List.all_eq_true.1 hc.2.1 i (List.mem_range.2 hi),hc.2.2.1,hc.2.2.2⟩,rfl,rfl⟩
   ·cases h
  ·cases h
 ·cases h
theorem FI{ops:Array Oper}{d q:Nat}:q∈mZ ops d↔q=d\/∃(i:Nat) (o:Oper),ops[i]?=some o/\EE d o=some q:=by
 unfold mZ;rw[List.mem_cons,List.mem_filterMap];constructor
 ·rintro(h|⟨o,ho,h⟩)
  ·exact .inl h
  ·obtain⟨i,hi,rfl⟩:=List.getElem_of_mem ho;exact .inr ⟨i,_,by simp,h⟩
 ·rintro(h|⟨i,o,ho,h⟩)
  ·exact .inl h
  ·exact .inr ⟨o,by simpa using Array.mem_of_getElem? ho,h⟩
structure Fst(C:Ctx)(ops:Array Oper)(ib d:Nat)(t:TypeId)(b:XA)(L:Nat->Bool)(g0:Gh)(O0:St)(w0:World)(d0:List Deferred)(e:Env)(s:St)(a:Act)(w:World)(g:Gh)(a1:Act):Prop where
 goes:Goes g0 O0 w0 g s w
 ar:AR g e a1
 defers:a.defers=d0
 tsize:a.tmps.size=a1.tmps.size
 tmps:∀q,q∉mZ ops d->a.tmps[q]?=a1.tmps[q]?
 box:L ib=true->∃B c,w0.heap.size<=B/\B<w.heap.size/\UL g s B/\(∀i,g.im B i=none)/\w.heap[B]?=some (.cells c t)/\VRs g (av C e b).cells c.toList/\(d<a.tmps.size->a.tmps[d]?=some (.pointer (some ⟨B,0,none⟩)))/\
  ∀(i:Nat) (o:Oper) (q:Nat),ops[i]?=some o->EE d o=some q->L i=true->q<a.tmps.size->a.tmps[q]?=some (.pointer (some ⟨B,0,none⟩))
section
variable{ops:Array Oper}{ib d:Nat}{t:TypeId}{b:XA}{L:Nat->Bool}{g0:Gh}{O0:St}{w0:World}{d0:List Deferred}{e:Env}{s:St}{a:Act}{w:World}{g:Gh}{a1:Act}{Q:Exit->Act->World->Prop}
theorem aeu (hcall:fO C call) (hF:Fst C ops ib d t b L g0 O0 w0 d0 e s a w g a1) (hg:GL C g) {i:Nat} {o:Oper} (ho:ops[i]?=some o) {gd:Option (Nat×Bool)} (hgd:BM ops o=some gd) {x:XOp} (hx:x.dst=o.dst/\x.i=(cI C.P o).getD .fail/\x.guard=gd)
  (h1:∀q,o.dst=some q->q∉mZ ops d) (h2:∀z∈o.op.operands,∀q,z=.tmp q->q∉mZ ops d) (h3:∀r p,o.guard=some (r,p)->∀or q,ops[r]?=some or->or.dst=some q->q∉mZ ops d) (hib:i≠ib) (hmv:EE d o=none)
  {v:AV} {s':St} (hev:rM C call x e s=some (v,s')) (hb:L ib=true->av C (Ev.put e x.dst v) b=av C e b) {K:Act->World->Prop} (hK:∀a2 w2 g2 a3,Fst C ops ib d t b (jU L i) g0 O0 w0 d0 (Ev.put e x.dst v) s' a2 w2 g2 a3->K a2 w2):wpOp C.P ops Q i K a w:=by
 have hev':∀z∈o.op.operands,a.eval z=a1.eval z:=fun z hz=>G5 fun q hq=>hF.tmps q (h2 z hz q hq);have hyl:Region.wanted o (yielded ops a.tmps)=Region.wanted o (yielded ops a1.tmps):=by
  unfold Region.wanted;cases hgo:o.guard with
  |none=>rfl
  |some p=>
   obtain⟨r,p⟩:=p;simp only;have:yielded ops a.tmps r=yielded ops a1.tmps r:=by
    unfold yielded;cases hdr:(ops[r]?).bind (·.dst)with
    |none=>rfl
    |some q=>
     simp only[Option.bind_some];obtain⟨or,hor,hd⟩:=Option.bind_eq_some_iff.1 hdr;rw[hF.tmps q (h3 r p hgo or q hor hd)]
   rw[this]
 have hwant:jH x e=Region.wanted o (yielded ops a.tmps):=by
  rw[hyl,UH hF.ar ops o hgd];unfold jH;rw[hx.2.2];cases gd<;>rfl
 have rest:∀v' w' g',Goes g s w g' s' w'->VR g' v v'->K (a.put o.dst v') w':=fun v' w' g' hgo hv=>by
  refine hK _ _ g' (a1.put o.dst v') ⟨hF.goes.trans hgo,by rw[hx.1];exact(hF.ar.mono hgo.le).put hv o.dst,by rw[put_defers];exact hF.defers,by rw[jB,jB];exact hF.tsize,fun q hq=>?_,fun hL=>?_⟩
  ·rw[kH,kH,hF.tsize];split
   ·rfl
   ·exact hF.tmps q hq
  ·have hL':L ib=true:=by
    simp only[jU]at hL;rwa[if_neg (fun h=>hib h.symm)]at hL
   obtain⟨B,c,b0,b1,b2,b3,b4,b5,b6,b7⟩:=hF.box hL';obtain⟨f1,f2,f3⟩:=hgo.fr B b1 b2;refine⟨B,c,b0,Nat.lt_of_lt_of_le b1 hgo.size,f1,fun i=>by rw[f3,b3],by rw[f2];exact b4,by rw[hb hL'];exact b5.mono hgo.le,fun hd=>?_,fun j oj q hoj hq hLj hlt=>?_⟩
   ·rw[kH,if_neg (fun h=>h1 d h.1 (FI.2 (.inl rfl)))];exact b6 (by rwa[jB]at hd)
   ·rw[kH,if_neg (fun h=>h1 q h.1 (FI.2 (.inr ⟨j,oj,hoj,hq⟩)))];refine b7 j oj q hoj hq ?_ (by rwa[jB]at hlt)
    simp only[jU]at hLj;rwa[if_neg (fun h=>by subst h;rw[ho]at hoj;cases hoj;rw[hmv]at hq;cases hq)]at hLj
 unfold wpOp;simp only[ho];unfold rM at hev;split at hev
 ·rename_i hwt;rw[hwant]at hwt;rw[if_pos hwt];have hsel:∀cs b,o.op≠ .select cs b:=fun cs b hsb=>by
   have:cI C.P o=none:=by
    obtain⟨_,op,_,_,_,_⟩:=o;simp only at hsb;subst hsb;rfl
   rw[hx.2.1,this]at hev;simp[evI,aj]at hev
  refine .inl (ahN hcall hF.goes.wr (execOp_congr o hsel hev') (fun z b hb=>hF.ar.eval hg z b hb) hg ?_ rest);rw[<-hx.2.1];exact hev
 ·rename_i hwt;rw[hwant]at hwt;rw[if_neg hwt];simp at hev;obtain⟨rfl,rfl⟩:=hev;exact rest undef w g (.refl hF.goes.wr) (wZ g)
theorem ajr (hF:Fst C ops ib d t b L g0 O0 w0 d0 e s a w g a1) (hg:GL C g) {y:Operand} {o:Oper} (ho:ops[ib]?=some o) (h1:o.dst=some d) (h2:o.op=.box t y) (h3:o.guard=none) (hy:V8 (mZ ops d) y=true) (hb:cA y=some b)
  (hmv:∀(i:Nat) (o:Oper) (q:Nat),ops[i]?=some o->EE d o=some q->L i=false) {K:Act->World->Prop} (hK:∀a2 w2 g2 a3,Fst C ops ib d t b (jU L ib) g0 O0 w0 d0 e s a2 w2 g2 a3->K a2 w2):wpOp C.P ops Q ib K a w:=by
 have hey:a.eval y=a1.eval y:=G5 fun q hq=>hF.tmps q fun hm=>by
  subst hq;simp[V8,hm]at hy
 have hrun:(execOp a.eval o).run C.P w=.ok (.value (.pointer (some ⟨w.heap.size,0,none⟩))) (qw w (.cells (a.eval y).cells t)):=by
  obtain⟨dst,op,ty,pos,af,gd⟩:=o;simp only at h2;subst h2;simp[execOp,Instr.box,newVar,newRow];rfl
 unfold wpOp;simp only[ho];have hwt:Region.wanted o (yielded ops a.tmps)=true:=by unfold Region.wanted;rw[h3]
 rw[if_pos hwt];refine .inl ?_;unfold Oper.wp;rw[hrun,Oper.upon_value,h1];have hwr:=hF.goes.wr;have hgo:=LP hwr (.cells (a.eval y).cells t);have hv:=hF.ar.eval hg y b hb;refine hK _ _ g a1 ⟨hF.goes.trans hgo,hF.ar,by rw[put_defers];exact hF.defers,by rw[jB];exact hF.tsize,fun q hq=>?_,fun _=>⟨w.heap.size,(a.eval y).cells,hF.goes.size,by simp[qw],Sz hwr,fun i=>?_,wU w _,by rw[hey];exact hv.cells,fun hd=>?_,fun i o q ho' hq hL=>?_⟩⟩
 ·rw[kH,if_neg (fun h=>hq (FI.2 (.inl (by simpa using h.1.symm))))]
  exact hF.tmps q hq
 ·cases hv:g.im w.heap.size i with
  |none=>rfl
  |some v=>exact absurd (hwr.im_lt hv) (Nat.lt_irrefl _)
 ·rw[kH,if_pos ⟨rfl,by rwa[jB]at hd⟩]
 ·exfalso;simp only[jU]at hL;split at hL
  ·rename_i h;subst h;rw[ho]at ho';cases ho';obtain⟨_,k,_,_⟩:=Qs hq;rw[h2]at k;rcases k with k|k<;>cases k
  ·rw[hmv i o q ho' hq]at hL;cases hL
theorem alW(hF:Fst C ops ib d t b L g0 O0 w0 d0 e s a w g a1)(hL:L ib=true)(hd:d<a.tmps.size){i q:Nat}{o:Oper}(ho:ops[i]?=some o)(hq:EE d o=some q)(hib:i≠ib){K:Act->World->Prop}(hK:∀a2 w2 g2 a3,Fst C ops ib d t b (jU L i) g0 O0 w0 d0 e s a2 w2 g2 a3->K a2 w2):wpOp C.P ops Q i K a w:=by
 obtain⟨h1,h2,h3,h4⟩:=Qs hq;obtain⟨B,c,b0,b1,b2,b3,b4,b5,b6,b7⟩:=hF.box hL;have hed:a.eval (.tmp d)=.pointer (some ⟨B,0,none⟩):=by simp[Act.eval,b6 hd]
 have hrun:(execOp a.eval o).run C.P w=.ok (.value (.pointer (some ⟨B,0,none⟩))) w:=by
  obtain⟨dst,op,ty,pos,af,gd⟩:=o;simp only at h2;rcases h2 with rfl|rfl<;>simp[execOp,hed]
 unfold wpOp;simp only[ho];have hwt:Region.wanted o (yielded ops a.tmps)=true:=by unfold Region.wanted;rw[h3]
 rw[if_pos hwt];refine .inl ?_;unfold Oper.wp;rw[hrun,Oper.upon_value,h1];refine hK _ _ g a1 ⟨hF.goes,hF.ar,by rw[put_defers];exact hF.defers,by rw[jB];exact hF.tsize,fun r hr=>?_,fun _=>⟨B,c,b0,b1,b2,b3,b4,b5,fun hd'=>?_,fun j oj r hoj hr hLj hlt=>?_⟩⟩
 ·rw[kH,if_neg (fun h=>hr (FI.2 (.inr ⟨i,o,ho,by rw[hq];exact h.1⟩)))]
  exact hF.tmps r hr
 ·rw[kH,if_neg (fun h=>h4 (by simpa using h.1))]
  exact b6 hd
 ·rw[kH];rw[jB]at hlt;split
  ·rfl
  ·rename_i hne;refine b7 j oj r hoj hr ?_ hlt;simp only[jU]at hLj;split at hLj
   ·rename_i h;subst h;rw[ho]at hoj;cases hoj;rw[hq]at hr;cases hr;exact absurd ⟨rfl,hlt⟩ hne
   ·exact hLj
end
theorem akG {d:Nat} {r:AV}:∀(ds:List Nat) (e e3:Env) (O O3:St),d∉ds->e[d]?=some r->nR C call (ds.map fun q=>{dst:=some q,i:=.mv (.t d),guard:=none}) e O=some (e3,O3)->
  O3=O/\e3.length=e.length/\∀q,e3[q]?=if q∈ds/\q<e.length then some r else e[q]?
 |[],e,e3,O,O3,hd,he,h=>by
  simp[nR]at h;obtain⟨rfl,rfl⟩:=h;exact⟨rfl,rfl,fun q=>by simp⟩
 |q0::ds,e,e3,O,O3,hd,he,h=>by
  simp only[List.mem_cons,not_or]at hd;have hav:av C e (.t d)=r:=by simp[av,he]
  simp only[List.map_cons,nR,rM,jH,if_true,evI,aj,hav]at h;obtain⟨h1,h2,h3⟩:=akG ds (Ev.put e (some q0) r) e3 O O3 hd.2 (by rw[D6,if_neg (fun h=>hd.1 (by simpa using h.1.symm))];exact he) h
  refine⟨h1,by rw[h2,uq],fun q=>?_⟩
  rw[h3 q,uq,D6];by_cases hq:q<e.length
  ·by_cases hm:q∈ds
   ·simp[hq,hm]
   ·by_cases hq0:q0=q
    ·subst hq0;simp[hq]
    ·have hq0':q≠q0:=fun h=>hq0 h.symm;simp[hm,hq0,hq0']
  ·simp[hq]
theorem Su(hm:C.P.follows .mixedOrders=true)(hcall:fO C call):ack C call:=by
 intro id ops l m hc e0 e1 e3 O0 O1 O3 hev hev2 g0 w00 a0 ha0 hw0 hg0;obtain⟨ib,d,t,y,b,inf,an,l0,hf,rfl,rfl⟩:=abl hc;obtain⟨ob,hob,hob1,hob2,hob3⟩:=hf.box;have hAnc:=acw hf.han;obtain⟨hlen0,hget0⟩:=Rn (C:=C) false ops ops.toList 0 l0 hf.hl;have hlenb:(blank ops ib d l0).length=ops.size:=by simp[blank,hlen0]
 have hblank:∀(i:Nat) (x:XOp),(blank ops ib d l0)[i]?=some x->∃x0 o,l0[i]?=some x0/\ops[i]?=some o/\cOp C.P false ops i o=some x0/\x=if i==ib||aeG ops d i then{dst:=none,i:=.pend,guard:=none}else x0:=fun i x hx=>by
  simp only[blank,List.getElem?_map,List.getElem?_zipIdx,Option.map_eq_some_iff]at hx;obtain⟨p,⟨x0,h1,rfl⟩,rfl⟩:=hx;have hi:i<ops.size:=by have:=(List.getElem?_eq_some_iff.1 h1).1;rw[hlen0]at this;simpa using this
  obtain⟨x2,g2,g3⟩:=hget0 i ops[i] (by simp[hi])
  rw[h1]at g2;cases g2;simp only[Nat.zero_add]at g3⊢;exact⟨x0,ops[i],h1,Array.getElem?_eq_getElem hi,g3,rfl⟩
 obtain⟨hmark,hok,E,S,V,hE0,hS0,hEn,hSn,hR,hrc,hloose⟩:=Zd (C:=C) (call:=call) (ops:=ops) (an:=an) hlenb (fun i x hx=>by
  obtain⟨x0,o,h1,h2,h3,rfl⟩:=hblank i x hx;split
  ·rfl
  ·exact Vk h3) hf.ok hev
 have hlen:(aS an (blank ops ib d l0)).length=ops.size:=by simp[aS,hlenb]
 have hcls:∀(i:Nat) (x:XOp),(aS an (blank ops ib d l0))[i]?=some x->∃o,ops[i]?=some o/\((i=ib/\x.dst=none/\x.i=.pend/\x.guard=none)\/(i≠ib/\(∃q,EE d o=some q)/\x.dst=none/\x.i=.pend/\x.guard=none)\/
   (i≠ib/\EE d o=none/\∃gd,BM ops o=some gd/\x.dst=o.dst/\x.i=(cI C.P o).getD .fail/\x.guard=gd)):=fun i x hx=>by
  obtain⟨xb,h1,d1,d2,d3⟩:=hmark i x hx;obtain⟨x0,o,g1,g2,g3,rfl⟩:=hblank i xb h1;refine⟨o,g2,?_⟩;by_cases hi:i=ib
  ·rw[if_pos (by simp[hi])]at d1 d2 d3
   exact .inl ⟨hi,d1,d2,d3⟩
  ·cases hmv:EE d o with
   |some q=>
    rw[if_pos (by simp[aeG,g2,hmv])]at d1 d2 d3
    exact .inr (.inl ⟨hi,⟨q,rfl⟩,d1,d2,d3⟩)
   |none=>
    rw[if_neg (by simp[aeG,g2,hmv,hi])]at d1 d2 d3
    obtain⟨gd,k1,rfl⟩:=Vl g3;exact .inr (.inr ⟨hi,rfl,gd,k1,d1,d2,d3⟩)
 have hmvb:∀(i:Nat) (o:Oper) (q:Nat),ops[i]?=some o->EE d o=some q->i≠ib/\ib∈an.getD i []:=fun i o q ho hq=>by
  have hne:i≠ib:=fun h=>by
   subst h;rw[hob]at ho;cases ho;obtain⟨_,k,_,_⟩:=Qs hq;rw[hob2]at k;rcases k with k|k<;>cases k
  have:=hf.late i (Array.getElem?_eq_some_iff.1 ho).1;unfold Tc at this;simp only[ho,hq,Bool.or_eq_true,beq_iff_eq,List.contains_iff_mem]at this;rcases this with h|h
  ·exact absurd h hne
  ·exact⟨hne,h⟩
 have hm2:d<e1.length/\(av C e1 b).cells.all AV.flat=true/\O3=O1++[.cells (av C e1 b).cells FZ]/\e3.length=e1.length/\∀q,e3[q]?=if q∈mZ ops d/\q<e1.length then some (.ref O1.length 0)else e1[q]?:=by
  unfold akW at hev2;simp only[nR,rM,jH,if_true,evI,aj]at hev2;split at hev2
  ·rename_i v O' hq;split at hq
   ·rename_i v1 O1' hq2;split at hq2
    ·rename_i hcnd;cases hq2;cases hq;obtain⟨k1,k2,k3⟩:=akG (d:=d) (r:=.ref O1.length 0) _ _ _ _ _ (fun hin=>by
      obtain⟨o,_,ho⟩:=List.mem_filterMap.1 hin;exact(Qs ho).2.2.2 rfl) (by rw[D6,if_pos ⟨rfl,hcnd.1⟩]) hev2
     refine⟨hcnd.1,hcnd.2.2,k1,by rw[k2,uq],fun q=>?_⟩
     rw[k3 q,uq,D6];unfold mZ;by_cases hql:q<e1.length
     ·by_cases hqd:d=q
      ·subst hqd;simp[hql]
      ·have hqd':q≠d:=fun h=>hqd h.symm;simp only[List.mem_cons,hqd',false_or,hql,and_true,Option.some.injEq,hqd,if_false]
     ·simp[hql]
    ·cases hq2
   ·rename_i f azs s hq2;split at hq2<;>cases hq2
   ·cases hq
  ·cases hev2
 obtain⟨hd0,hflat,hσ3,hl3,he3⟩:=hm2;have hE1:e1.length=e0.length:=by rw[<-hEn,<-hE0];exact hR.elen _ (Nat.le_refl _)
 refine wp_region_any hm ?_;have hdr:=Goes.drew hw0 (w00.drawn+1);have key:∀(fuel:Nat) (listed:Array Bool) (e:Env) (k:Nat) (a:Act) (w:World) (g:Gh) (a1:Act),listed.size=ops.size->cnt (fun j=>listed.getD j false) ops.size+fuel=ops.size->
   Std ops (aS an (blank ops ib d l0)) E S V (fun j=>listed.getD j false) e k->Fst C ops ib d t b (fun j=>listed.getD j false) g0 O0 {w00 with drawn:=w00.drawn+1} a0.defers e (S k) a w g a1->
   wpAny C.P .any ops (Post C g0 O0 w00 a0 .normal e3 O3) fuel listed a w:=by
  have hdone:∀(listed:Array Bool) (e:Env) (k:Nat) (a:Act) (w:World) (g:Gh) (a1:Act),(∀i,i<ops.size->listed.getD i false=true)->Std ops (aS an (blank ops ib d l0)) E S V (fun j=>listed.getD j false) e k->
    Fst C ops ib d t b (fun j=>listed.getD j false) g0 O0 {w00 with drawn:=w00.drawn+1} a0.defers e (S k) a w g a1->Post C g0 O0 w00 a0 .normal e3 O3 .normal a w:=by
   intro listed e k a w g a1 hall hstd hF;have hSk:S k=O1:=by
    rw[<-hSn];refine hR.still hstd.kle (Nat.le_refl _) fun c o h1 h2 ho=>?_;cases hco:o.i.changes with
    |false=>rfl
    |true=>
     have:=hstd.high c o ho hco h1;rw[hall c (by rw[<-hlen];exact h2)]at this;cases this
   have hee:e=e1:=by
    rw[<-hEn];apply List.ext_getElem?;intro q;rcases Nat.lt_or_ge q (E 0).length with ht|ht
    ·rcases hstd.env q ht with⟨j,o,h1,h2,h3,h4,h5⟩|⟨h1,h2⟩
     ·rcases hR.eget _ (Nat.le_refl _) q ht with⟨j2,o2,q1,q2,q3,q4,q5⟩|⟨q1,q2⟩
      ·have e1:=h5 j2 o2 q2 (hall j2 (by rw[<-hlen];exact q1)) q3
       have e2:=q5 j o (List.getElem?_eq_some_iff.1 h1).1 h1 h3;have:j=j2:=by omega
       rw[h4,q4,this]
      ·exact absurd h3 (q1 j o (List.getElem?_eq_some_iff.1 h1).1 h1)
     ·rcases hR.eget _ (Nat.le_refl _) q ht with⟨j2,o2,q1,q2,q3,q4,q5⟩|⟨q1,q2⟩
      ·exact absurd q3 (h1 j2 o2 q2 (hall j2 (by rw[<-hlen];exact q1)))
      ·rw[h2,q2]
    ·rw[List.getElem?_eq_none (by rw[hstd.len];exact ht),List.getElem?_eq_none (by rw[hR.elen _ (Nat.le_refl _)];exact ht)]
   subst hee;rw[hSk]at hF;obtain⟨B,c,b0,b1,b2,b3,b4,b5,b6,b7⟩:=hF.box (hall ib (Array.getElem?_eq_some_iff.1 hob).1);have hwr:=hF.goes.wr;have hle:=g.more_le B c.size;have hcl:c.toList.length=(av C e b).cells.length:=b5.length;have hwr2:WR (g.more B c.size) w (O1++[.cells (av C e b).cells FZ]):=by
    refine SB hwr b2 b3 b1 rfl rfl rfl rfl (fun _ _=>rfl) _ _ ⟨c,t,(0,0),?_,?_,?_,fun q x hx=>?_,⟨rfl,fun _ _ ht=>nomatch ht⟩,fun q v hv=>?_⟩
    ·simp only[Gh.more,if_true];exact b4
    ·simp[Gh.more]
    ·simpa using Nat.le_of_eq hcl.symm
    ·obtain⟨u,u1,u2⟩:=b5.get hx;exact⟨u,by simpa using u1,u2.mono hle⟩
    ·exfalso;simp only[Gh.more,if_true]at hv;rw[b3]at hv;cases hv
   have hal:a.tmps.size=e.length:=by
    rw[hF.tsize];have:=hF.ar.length;simpa using this
   have href:VR (g.more B c.size) (.ref O1.length 0) (.pointer (some ⟨B,0,none⟩)):=by
    have:=VR.ref (g:=g.more B c.size) O1.length 0 (by simp[Gh.more,hwr.n])
    simpa[Gh.more,hwr.n]using this
   refine⟨rfl,hF.defers,g.more B c.size,VRs.of_get (by rw[hl3,Array.length_toList];exact hal) fun q x hx=>?_,?_⟩
   ·rw[he3 q]at hx;split at hx
    ·rename_i hq;cases hx;refine⟨_,?_,href⟩;rw[Array.getElem?_toList];have hqs:q<a.tmps.size:=by rw[hal];exact hq.2
     rcases FI.1 hq.1 with rfl|⟨i,o,ho,hmv⟩
     ·exact b6 hqs
     ·exact b7 i o q ho hmv (hall i (Array.getElem?_eq_some_iff.1 ho).1) hqs
    ·rename_i hq;have hql:q<e.length:=(List.getElem?_eq_some_iff.1 hx).1;have hqn:q∉mZ ops d:=fun h=>hq ⟨h,hql⟩;obtain⟨u,u1,u2⟩:=VRs.get hF.ar hx;refine⟨u,?_,u2.mono hle⟩;rw[Array.getElem?_toList]at u1⊢;rw[hF.tmps q hqn];exact u1
   ·rw[hσ3];have hgo:Goes g0 O0 {w00 with drawn:=w00.drawn+1} (g.more B c.size) (O1++[.cells (av C e b).cells FZ]) w:=by
     refine⟨hF.goes.le.trans hle,hwr2,hF.goes.os,hF.goes.tape,hF.goes.output,hF.goes.size,fun q hq hu=>?_⟩;obtain⟨u1,u2,u3⟩:=hF.goes.fr q hq hu;refine⟨fun o2 x2 hx2 hl2=>?_,u2,u3⟩;rcases fB hx2 with⟨_,hz2⟩|⟨hk2,rfl⟩
     ·rw[hle.ob o2 (hwr.lt hz2)];exact u1 o2 x2 hz2 hl2
     ·rw[<-hwr.n]at hk2;subst hk2;simp[Gh.more];omega
    exact hdr.trans ⟨hgo.le,hgo.wr,hgo.os,hgo.tape,hgo.output,hgo.size,hgo.fr⟩
  intro fuel
  induction fuel with
  |zero=>
   intro listed e k a w g a1 hsz hcnt hstd hF;have hall:=Y8 _ _ (show cnt (fun j=>listed.getD j false) ops.size=ops.size by omega)
   refine⟨?_,hdone listed e k a w g a1 hall hstd hF⟩;refine List.eq_nil_iff_forall_not_mem.2 fun i hi=>?_;obtain⟨h1,o,h2,_⟩:=mem_ready.1 hi;have hlt:=(Array.getElem?_eq_some_iff.1 h2).1;have:=hall i hlt;have hli:i<listed.size:=by omega
   simp[hli]at this h1;rw[this]at h1;cases h1
  |succ fuel ih=>
   intro listed e k a w g a1 hsz hcnt hstd hF;refine⟨fun hnil=>?_,fun i hi=>?_⟩
   ·exfalso;have hex:∃i,i<ops.size/\listed.getD i false=false:=by
     refine Classical.byContradiction fun hno=>?_;have hall:∀i,i<ops.size->listed.getD i false=true:=fun i hi=>by
      cases hL:listed.getD i false with
      |true=>rfl
      |false=>exact absurd ⟨i,hi,hL⟩ hno
     have:cnt (fun j=>listed.getD j false) ops.size=ops.size:=by
      unfold cnt;rw[List.filter_eq_self.2 (fun j hj=>hall j (List.mem_range.1 hj))];simp
     omega
    have hmin:∃i,(i<ops.size/\listed.getD i false=false)/\∀j,j<i->¬(j<ops.size/\listed.getD j false=false):=by
     obtain⟨i0,hi0⟩:=hex
     induction i0 using Nat.strongRecOn with
     |_ i0 ih2=>
      by_cases hlt:∃j,j<i0/\(j<ops.size/\listed.getD j false=false)
      ·obtain⟨j,h1,h2⟩:=hlt;exact ih2 j h1 h2
      ·exact⟨i0,hi0,fun j h1 h2=>hlt ⟨j,h1,h2⟩⟩
    obtain⟨i,⟨h1,h2⟩,h3⟩:=hmin;have:i∈Region.ready .any ops listed:=by
     rw[mem_ready];have hli:i<listed.size:=by omega
     refine⟨by simp[hli]at h2⊢;exact h2,ops[i],Array.getElem?_eq_getElem h1,fun ed hed hbd=>?_⟩
     have hdir:ed.on∈direct ops[i]:=by
      unfold direct;exact List.mem_map.2 ⟨ed,List.mem_filter.2 ⟨by simpa using hed,hbd⟩,rfl⟩
     have hlt:=hAnc.lt i ops[i] (by simp) ed.on hdir
     cases hL:listed.getD ed.on false with
     |true=>rfl
     |false=>exact absurd ⟨by omega,hL⟩ (h3 ed.on hlt)
    rw[hnil]at this;cases this
   ·obtain⟨h1,o,ho,h3⟩:=mem_ready.1 hi;have hlt:=(Array.getElem?_eq_some_iff.1 ho).1;have hli:i<listed.size:=by omega
    have hun:listed.getD i false=false:=by simp[hli]at h1⊢;exact h1
    have hr:Rdy ops (fun j=>listed.getD j false) i:=⟨hun,fun o' ho' j hj=>by
     rw[ho]at ho';cases ho';unfold direct at hj;obtain⟨ed,hed,rfl⟩:=List.mem_map.1 hj;obtain⟨q1,q2⟩:=List.mem_filter.1 hed;exact h3 ed (by simpa using q1) q2⟩
    have hLput:(fun j=>(listed.setIfInBounds i true).getD j false)=jU (fun j=>listed.getD j false) i:=by
     funext j
     simp only[jU];by_cases hji:j=i
     ·subst hji;simp[hli]
     ·rw[if_neg hji,getD_set_ne false (fun h=>hji h.symm)]
    have hil:i<(aS an (blank ops ib d l0)).length:=by rw[hlen];exact hlt
    have hx:=List.getElem?_eq_getElem hil;generalize(aS an (blank ops ib d l0))[i]=x at hx;obtain⟨k',hev1,hstd'⟩:=hstd.step hlen hAnc hok hR hrc hloose hr hx;have hnext:∀a2 w2 g2 a3,Fst C ops ib d t b (jU (fun j=>listed.getD j false) i) g0 O0 {w00 with drawn:=w00.drawn+1} a0.defers (Ev.put e x.dst (V i)) (S k') a2 w2 g2 a3->wpAny C.P .any ops (Post C g0 O0 w00 a0 .normal e3 O3) fuel (listed.setIfInBounds i true) a2 w2:=fun a2 w2 g2 a3 hs1=>by
     refine ih (listed.setIfInBounds i true) (Ev.put e x.dst (V i)) k' a2 w2 g2 a3 (by simpa using hsz) ?_ (by rw[hLput];exact hstd') (by rw[hLput];exact hs1)
     rw[hLput,acQ _ _ i hlt hun];omega
    have hgl:GL C g:=hg0.mono hF.goes.le;have hpend:x.i=.pend->x.dst=none->V i=.undef/\S k'=S k:=fun hp _=>by
     unfold rM at hev1;rw[hp]at hev1;split at hev1
     ·simp only[evI,aj]at hev1;simp at hev1;exact⟨hev1.1.symm,hev1.2.symm⟩
     ·simp at hev1;exact⟨hev1.1.symm,hev1.2.symm⟩
    obtain⟨o',ho',hcl⟩:=hcls i x hx;rw[ho]at ho';cases ho';rcases hcl with⟨rfl,d1,d2,d3⟩|⟨hne,⟨q,hq⟩,d1,d2,d3⟩|⟨hne,hmv,gd,hgd,d1,d2,d3⟩
    ·rw[hob]at ho;cases ho;refine ajr hF hgl hob hob1 hob2 hob3 hf.hy hf.hb (fun j oj q hoj hq=>?_) fun a2 w2 g2 a3 hs1=>hnext a2 w2 g2 a3 ?_
     ·exact hstd.behind hlen hAnc hok hr (by rw[hlen];exact(Array.getElem?_eq_some_iff.1 hoj).1) (hmvb j oj q hoj hq).2
     ·rw[d1,(hpend d2 d1).2];exact hs1
    ·have hLb:listed.getD ib false=true:=hstd.before hlen hAnc hok hr (by rw[hlen];exact hlt) (hmvb i o q ho hq).2
     have hda:d<a.tmps.size:=by
      rw[hF.tsize];have:=hF.ar.length;simp only[Array.length_toList]at this;rw[this,hstd.len,hE0,<-hE1];exact hd0
     refine alW hF hLb hda ho hq hne fun a2 w2 g2 a3 hs1=>hnext a2 w2 g2 a3 ?_;rw[d1,(hpend d2 d1).2];exact hs1
    ·have hle:=hf.late i hlt;unfold Tc at hle;simp only[ho,hmv,Bool.or_eq_true,beq_iff_eq,Bool.and_eq_true]at hle;rcases hle with h|⟨⟨q1,q2⟩,q3⟩
     ·exact absurd h hne
     refine aeu hcall hF hgl ho hgd ⟨d1,d2,d3⟩ (fun q hq=>?_) (fun z hz q hzq=>?_) (fun r p hg2 or q hor hdq=>?_) hne hmv hev1 (fun hL=>?_) hnext
     ·rw[hq]at q1;simpa using q1
     ·have:=List.all_eq_true.1 q2 z (Array.mem_toList_iff.2 hz);subst hzq;simpa[V8]using this
     ·rw[hg2]at q3;simp only[Bool.and_eq_true,bne_iff_ne,ne_eq,Bool.not_eq_true']at q3;have hle2:=hf.late r (Array.getElem?_eq_some_iff.1 hor).1;unfold Tc at hle2;have hmr:EE d or=none:=by
       have:=q3.2;simp only[aeG,hor]at this;cases hx:EE d or with
       |none=>rfl
       |some z=>rw[hx]at this;cases this
      simp only[hor,hmr,hdq,Bool.or_eq_true,beq_iff_eq,Bool.and_eq_true]at hle2;rcases hle2 with h|⟨⟨q1,_⟩,_⟩
      ·exact absurd h q3.1
      ·simpa using q1
     ·
      have hw:=hf.wr;unfold Ov at hw;have hbb:=hf.hb;cases hyy:y with
      |tmp n=>
       rw[hyy]at hw hbb;simp only[cA]at hbb;cases hbb;simp only[av,List.getD_eq_getElem?_getD];rw[D6];have hnd:x.dst≠some n:=fun hdn=>by
        obtain⟨xb,g1,g2,g3,g4⟩:=hmark i x hx;have:=List.all_eq_true.1 hw i (List.mem_range.2 (List.getElem?_eq_some_iff.1 g1).1);simp only[g1,<-g2,hdn,Bool.or_eq_true,bne_self_eq_false,Bool.false_eq_true,false_or,List.contains_iff_mem]at this;have hob':ib<(aS an (blank ops ib d l0)).length:=by rw[hlen];exact(Array.getElem?_eq_some_iff.1 hob).1
        have:=hstd.behind hlen hAnc hok hr hob' this;rw[hL]at this;cases this
       rw[if_neg (fun h=>hnd h.1)]
      |_=>
       rw[hyy]at hbb;simp only[cA]at hbb;first
        |(cases hbb;done)
        |(cases hbb;simp only[av];done)
        |(simp only[Option.map_eq_some_iff]at hbb;obtain⟨_,_,rfl⟩:=hbb;rfl)
        |skip
 refine key ops.size (Array.replicate ops.size false) e0 0 a0 _ g0 a0 (by simp) ?_ ?_ ?_
 ·have:(fun j=>(Array.replicate ops.size false).getD j false)=fun _=>false:=by
   funext j
   simp[Array.getElem?_replicate];split<;>rfl
  rw[this];simp[cnt]
 ·have hFl:∀j,(Array.replicate ops.size false).getD j false=false:=fun j=>by
   simp[Array.getElem?_replicate];split<;>rfl
  refine⟨fun i o _ hL=>(by rw[hFl]at hL;cases hL),by rw[hE0],fun t ht=>.inr ⟨fun j o _ hL=>(by rw[hFl]at hL;cases hL),by rw[hE0]⟩,Nat.zero_le _,fun c o _ _ h=>by omega,fun c o _ _ _=>hFl c⟩
 ·have hFl:∀j,(Array.replicate ops.size false).getD j false=false:=fun j=>by
   simp[Array.getElem?_replicate];split<;>rfl
  rw[hS0];exact⟨⟨.refl g0,hdr.wr,rfl,rfl,rfl,Nat.le_refl _,fun b _ hu=>⟨hu,rfl,fun _=>rfl⟩⟩,ha0,rfl,rfl,fun _ _=>rfl,fun h=>by rw[hFl]at h;cases h⟩
theorem EY{C:Ctx}(hm:C.P.follows .mixedOrders=true)(hfs:aaI C)(hprim:Jd C)(n:Nat):fO C (evF C n):=Vu hfs hprim (fun call h=>⟨Ry hm h,Su hm h⟩) n
end
end Go.Ev
