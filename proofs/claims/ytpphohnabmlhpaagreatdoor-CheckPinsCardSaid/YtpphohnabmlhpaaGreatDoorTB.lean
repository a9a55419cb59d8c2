/- Contracts of functions over this translation. No conditions. -/
import Derived.Test.YtpphohnabmlhpaaGreatDoorEC
import Derived.Test.YtpphohnabmlhpaaGreatDoorTA
import Derived.Shelf.Strings.Repeat
import Derived.KernelRfl
import Derived.Test.YtpphohnabmlhpaaGreatDoorCB
import Derived.Test.YtpphohnabmlhpaaGreatDoorCD
import Derived.Shelf.Strconv.ParseIntPublic10
import Derived.Test.YtpphohnabmlhpaaGreatDoorProg
import Derived.Shelf.SlSortCmp.WholeK
import Derived.Shelf.Small.Strs
import Derived.Test.YtpphohnabmlhpaaGreatDoorCE
set_option linter.unusedVariables false
set_option linter.unusedSimpArgs false
namespace Go.Proofs.YtpphohnabmlhpaaGreatDoor
open Go.Ev Go.RowKit Go.Shelf
set_option maxRecDepth 100000
theorem ag8:AB Tryz.prog 203:=⟨_,Tryz.func203,by decide,rfl⟩
theorem Yp:AB Tryz.prog 147:=⟨_,Tryz.func147,by decide,rfl⟩
def NG(args:LA)(O:St):Option (AV×St):=
 match args with
 |[.ref o 0]=>match O[o]? with
  |some (.cells [.nilp,b] ⟨false,some (263,true)⟩)=>some (.undef,O.set o (.cells [.ref o 0,b] ⟨false,some (263,true)⟩))
  |some (.cells (.ref p 0::l) fz)=>match Nat.beq o p with
   |true=>some (.undef,O)
   |false=>none
  |_=>none
 |_=>none
theorem acY{C:Ctx}(hP:C.P=Tryz.prog):POK C 203 NG:=by
 intro args O v O' h g w args' ha hw hg;unfold NG at h;split at h
 ·rename_i o;cases ha with
  |cons _ v1 _ l1 x y=>
   cases y;cases x with
   |ref _ _ ho=>
    split at h
    ·rename_i b hb;simp at h;obtain⟨rfl,rfl⟩:=h;obtain⟨c,e,fr,h1,h2,h3,h4,h5,h6⟩:=hw.obj o _ hb;obtain⟨he,hx⟩:=h5.2 _ _ rfl;obtain⟨u,hu,hr⟩:=h4 0 .nilp rfl;cases hr;have hc0:w.cell? ⟨g.ob o,0,none⟩=some (.pointer none):=by rw[cell_of_heap h1];exact hu
     have hsz:c.size=2:=hx rfl;have hgo:=ae4 (P:=C.P) hw hb (off:=0) (.ref o 0 ho) (by simp) rfl
     refine zK (by rw[hP];exact ag8) ?_
     rw[hP];exact(zI (g.ob o) w hc0 (by simp[World.shape?,h1,hsz,he]) (by rw[World.frozen?,h1,h5.1];rfl)).mono fun e w2 ⟨he2,hw2⟩=>⟨_,he2,g,by rw[hw2];exact hgo,.tup _ _ .nil⟩
    ·rename_i p l fz hb;split at h
     ·rename_i hop;have hop:=Nat.eq_of_beq_eq_true hop;subst hop;simp at h;obtain⟨rfl,rfl⟩:=h;obtain⟨c,e,fr,h1,h2,h3,h4,h5,h6⟩:=hw.obj o _ hb;obtain⟨u,hu,hr⟩:=h4 0 (.ref o 0) rfl;cases hr;have hc0:w.cell? ⟨g.ob o,0,none⟩=some (.pointer (some ⟨g.ob o,0,none⟩)):=by rw[cell_of_heap h1];exact hu
      refine zK (by rw[hP];exact ag8) ?_
      rw[hP];exact(HY (g.ob o) w hc0).mono fun e w2 ⟨he2,hw2⟩=>⟨_,he2,g,by rw[<-hw2];exact .refl hw,.tup _ _ .nil⟩
     ·cases h
    ·cases h
 ·cases h
section
variable{P:Program}{ρ:Ren}
set_option maxHeartbeats 1000000 in
theorem Xl (L:Lays.n169 P ρ) (X:Builder.Extra P ρ) (b g cap:Nat) (p:Value) (cur:Array Value) (l:LU) (w:World) (hbk:w.heap[b]?=some (.cells #[p,.slice (some ⟨g,0,none⟩) l.length cap] (ρ.t 72) (0,0))) (hg:w.heap[g]?=some (.cells cur (ρ.t 5) (0,0)))
  (h0:l≠[]) (hnc:l.length<=cap) (hcs:l.length<=cur.size) (hcm:l.length<=1099511627776) (htake:∀(j:Nat) (x:UInt8),l[j]?=some x->cur[j]?=some (Value.int .u8 x.toNat)):
  Calls P (ρ.f 169) #[.pointer (some ⟨b,0,none⟩)] w fun e w'=>e=.returned (.string ⟨l.toArray⟩)/\w'=w.drew.freeze ⟨g,0,none⟩ l.length:=by
 have hl0:l.length≠0:=by simpa using h0
 have c1:w.drew.cell? ⟨b,1,none⟩=some (.slice (some ⟨g,0,none⟩) l.length cap):=by
  have:w.drew.heap[b]?=some (.cells #[p,.slice (some ⟨g,0,none⟩) l.length cap] (ρ.t 72) (0,0)):=hbk;rw[Lib.cell_of_heap this];rfl
 have hSD:(Builtin.unsafeSliceData_ #[(ρ.t 37)] (ρ.t 127) #[.slice (some ⟨g,0,none⟩) l.length cap]).run P w.drew=.ok (.pointer (some ⟨g,0,none⟩)) w.drew:=
  Lib.run_unsafeSliceData_row _ _ _ _ _ _ (by omega)
 have hUS:(Builtin.unsafeString_ #[(ρ.t 127),(ρ.t 3)] (ρ.t 9) #[.pointer (some ⟨g,0,none⟩),.int .i64 l.length]).run P w.drew=.ok (.string ⟨l.toArray⟩) (w.drew.freeze ⟨g,0,none⟩ l.length):=by
  refine Lib.run_unsafeString_row w.drew (ρ.t 127) (ρ.t 3) (ρ.t 9) (ρ.t 5) L.t127 X.cellsByte g cur.size (by have hg':w.drew.heap[g]?=some (.cells cur (ρ.t 5) (0,0)):=hg;simp[World.shape?,hg']) l h0 (by omega) (by omega) ?_
  intro j x hx;have hg':w.drew.heap[g]?=some (.cells cur (ρ.t 5) (0,0)):=hg;have ha:(⟨g,0,none⟩:Addr).add j=⟨g,0+j,none⟩:=by unfold Addr.add;split<;>simp_all
  rw[ha,Lib.cell_of_heap hg',Nat.zero_add];exact htake j x hx
 clear htake hcm hcs hnc;have mixed:=L.mixed;have t72:=L.t72;have a72:=L.a72;have z72:=L.z72;have v72:=L.v72;have u72:=run_underlying L.t72;have t70:=L.t70;have a70:=L.a70;have z70:=L.z70;have v70:=L.v70;have u70:=run_underlying L.t70;have t37:=L.t37;have a37:=L.a37;have z37:=L.z37;have v37:=L.v37;have u37:=run_underlying L.t37;have t127:=L.t127;have a127:=L.a127;have z127:=L.z127;have v127:=L.v127;have u127:=run_underlying L.t127;have t3:=L.t3;have a3:=L.a3;have z3:=L.z3;have v3:=L.v3;have u3:=run_underlying L.t3;have t9:=L.t9;have a9:=L.a9;have z9:=L.z9;have v9:=L.v9;have u9:=run_underlying L.t9;have t5:=X.t5;have a5:=X.a5;have z5:=X.z5;have v5:=X.v5;have u5:=run_underlying X.t5
 go_enter L.f169,Body.n169_ntmps ρ
 go_wp2
 go_region_o
 all_goals (go_wp2;go_ret;exact⟨rfl,rfl⟩)
end
noncomputable def zY(args:LA)(O:St):Option (AV×St):=
 match args with
 |[.ref o 0]=>match O[o]? with
  |some (.cells [p,.nils] ⟨false,some (263,true)⟩)=>some (.str [],O)
  |some (.cells [p,.msl ob 0 n 1] ⟨false,some (263,true)⟩)=>match O[ob]? with
   |some (.cells l ⟨false,some (5,x)⟩)=>match DJ l with
    |some (b::s)=>match Hw (Nat.beq (b::s).length n) (Nat.ble (b::s).length 1099511627776)with
     |true=>some (.str (b::s),O.set ob .dead)
     |false=>none
    |_=>none
   |_=>none
  |_=>none
 |_=>none
theorem UT{C:Ctx}(hP:C.P=Tryz.prog):POK C 147 zY:=by
 intro args O v O' h g w args' ha hw hg;unfold zY at h;split at h
 ·rename_i o;cases ha with
  |cons _ v1 _ l1 x y=>
   cases y;cases x with
   |ref _ _ ho=>
    split at h
    ·rename_i p hb;simp at h;obtain⟨rfl,rfl⟩:=h;obtain⟨c,e,fr,h1,h2,h3,h4,h5,h6⟩:=hw.obj o _ hb;obtain⟨he,hx⟩:=h5.2 _ _ rfl;have hfr:=h5.1;obtain⟨u0,hu0,hr0⟩:=h4 0 p rfl;obtain⟨u1,hu1,hr1⟩:=h4 1 .nils rfl;cases hr1;have hsz:c.size=2:=hx rfl;have hc:c=#[u0,.slice none 0 0]:=by
      apply Array.ext_getElem?;intro i
      match i with
      |0=>exact hu0
      |1=>exact hu1
      |i+2=>simp[hsz]
     subst hc he hfr;refine zK (by rw[hP];exact Yp) ?_
     rw[hP];exact(Any.Builder_String_nil Tryz.lays169 Tryz.Builder_Extra_169 w.heap.size (g.ob o) u0 w h1).mono fun e w2 ⟨he2,hw2⟩=>⟨_,he2,g,tu hw hw2,.str []⟩
    ·rename_i p ob n hb;split at h
     ·rename_i l x hbl;split at h
      ·rename_i b s hbx;split at h
       ·rename_i hn;rw[qp,Bool.and_eq_true]at hn;have hn1:=Nat.eq_of_beq_eq_true hn.1;have hn2:=Nat.le_of_ble_eq_true hn.2;simp only[Option.some.injEq,Prod.mk.injEq]at h;obtain⟨rfl,rfl⟩:=h;obtain⟨c,e,fr,h1,h2,h3,h4,h5,h6⟩:=hw.obj o _ hb;obtain⟨he,hx⟩:=h5.2 _ _ rfl;have hfr:=h5.1;obtain⟨u0,hu0,hr0⟩:=h4 0 p rfl;obtain⟨u1,hu1,hr1⟩:=h4 1 (.msl ob 0 n 1) rfl;cases hr1 with
        |msl _ _ _ _ cap hob hncap hcap=>
        have hsz:c.size=2:=hx rfl;have hc:c=#[u0,.slice (some ⟨g.ob ob,0,none⟩) n cap]:=by
         apply Array.ext_getElem?;intro i
         match i with
         |0=>exact hu0
         |1=>exact hu1
         |i+2=>simp[hsz]
        subst hc he hfr;obtain⟨c',e',fr',k1,k2,k3,k4,k5,k6⟩:=hw.obj ob _ hbl;obtain⟨he',hx'⟩:=k5.2 _ _ rfl;have hfr':=k5.1;subst he' hfr';obtain⟨e1,e2⟩:=PM hbx;refine zK (by rw[hP];exact Yp) ?_
        rw[hP];rw[<-hn1]at h1 hncap;refine(Xl Tryz.lays169 Tryz.Builder_Extra_169 (g.ob o) (g.ob ob) cap u0 c' (b::s) w h1 k1 (by simp) hncap (by omega) hn2 (fun j x hx=>?_)).mono fun e w2 ⟨he2,hw2⟩=>⟨_,he2,g,?_,.str (b::s)⟩
        ·obtain⟨v,hv,hr⟩:=k4 j _ (e2 j x hx);cases hr;exact hv
        ·subst hw2;obtain⟨f1,f2,f3,f4,f5⟩:=Yt w.drew (g.ob ob) (b::s).length;exact ae5 hw hbl f1 f2 f3 f4 f5
       ·cases h
      ·cases h
     ·cases h
    ·cases h
 ·cases h
open Go.Ev
theorem aju:AB Tryz.prog 181:=⟨_,Tryz.func181,by decide,rfl⟩
theorem ajr:AB Tryz.prog 142:=⟨_,Tryz.func142,by decide,rfl⟩
theorem am4:AB Tryz.prog 308:=⟨_,Tryz.func308,by decide,rfl⟩
variable{C:Ctx}(hP:C.P=Tryz.prog)
 include hP
theorem Zh:POK C 181 (Dp (fun s=>.bool (vF s).isSome)):=ad2 (C:=C) (f:=181) (by rw[hP];exact aju) (fun s=>.bool (vF s).isSome) (fun s=>.bool (vF s).isSome)
 (fun g s=>.bool _) (fun s w hs=>by rw[hP];exact N8 s w hs)
theorem Zg:POK C 142 (Dp (fun s=>.tup [.str (qP s).1,.int .i64 (qP s).2])):=ad2 (C:=C) (f:=142) (by rw[hP];exact ajr) (fun s=>.tup [.str (qP s).1,.int .i64 (qP s).2]) (fun s=>.tuple #[.string (str (qP s).1),.int .i64 (qP s).2])
 (fun g s=>.tup _ _ (.cons _ _ _ _ (.str _) (.cons _ _ _ _ (.int _ _) .nil))) (fun s w hs=>by rw[hP];exact aeH s w hs)
theorem acZ:POK C 308 (FT (fun s i=>.tup [.str (qy s i).1,.int .i64 (qy s i).2.1,.int .i64 (qy s i).2.2])):=ab4 (C:=C) (f:=308) (by rw[hP];exact am4) (fun s i=>.tup [.str (qy s i).1,.int .i64 (qy s i).2.1,.int .i64 (qy s i).2.2]) (fun s i=>.tuple #[.string (str (qy s i).1),.int .i64 (qy s i).2.1,.int .i64 (qy s i).2.2])
 (fun g s i=>.tup _ _ (.cons _ _ _ _ (.str _) (.cons _ _ _ _ (.int _ _) (.cons _ _ _ _ (.int _ _) .nil)))) (fun s i w hs=>by rw[hP];exact ahY s i w hs)
end Go.Proofs.YtpphohnabmlhpaaGreatDoor
namespace Go.Proofs.YtpphohnabmlhpaaGreatDoor
open Go.RowKit Go.Shelf Go.Lib
set_option maxRecDepth 1000000
theorem aj6 (B b:Nat) (bs:List Value) (w:World) (h:Lib.IsBuilderF 263 5 B b bs w):
  Calls Tryz.prog 203 #[.pointer (some ⟨b,0,none⟩)] w fun e w'=>e=.returned (.tuple #[])/\Lib.BuilderAtF 263 5 B b (.pointer (some ⟨b,0,none⟩)) bs w'/\Below B w w':=by
 rcases h with h|h
 ·exact(zI b w h.cell0 h.shape h.frozen0).mono fun e w' ⟨he,hw⟩=>⟨he,by rw[hw];exact h.used _,by rw[hw];exact(Below.refl B w).setCell (p:=⟨b,0,none⟩) h.1 _⟩
 ·exact(HY b w h.cell0).mono fun e w' ⟨he,hw⟩=>⟨he,by rw[<-hw];exact h,by rw[<-hw];exact Below.refl B _⟩
set_option maxHeartbeats 1000000 in
theorem G9 (B b:Nat) (bs:List Value) (s:ByteArray) (w:World) (h:Lib.IsBuilderF 263 5 B b bs w) (hlen:bs.length+s.size<=1099511627776) (hBw:B<=w.heap.size):
  Calls Tryz.prog 143 #[.pointer (some ⟨b,0,none⟩),.string s] w fun e w'=>e=.returned (.tuple #[.int .i64 s.size,.nilIface])/\Lib.BuilderAtF 263 5 B b (.pointer (some ⟨b,0,none⟩)) (bs++Lib.strCells s) w'/\Below B w w':=by
 obtain⟨i0,hi,hz0,hz1,hz2⟩:=info_parts infoByte
 go_enter Tryz.func143,Tryz.ntmps143
 go_wp2_with fail
 refine(aj6 B b bs _ h).mono ?_;rintro e w1 ⟨rfl,h1,hb1⟩;obtain⟨hB,v,hbk,hown,hne⟩:=h1;have c0:w1.cell? ⟨b,0,none⟩=some (.pointer (some ⟨b,0,none⟩)):=by rw[Lib.cell_of_heap hbk];rfl
 have c1:w1.cell? ⟨b,1,none⟩=some v:=by rw[Lib.cell_of_heap hbk];rfl
 go_wp2_with (at_builtin;refine Lib.wpList_append_own_stringF _ rfl _ _ 169 9 rfl B 5 i0 Tryz.underlying169 Tryz.underlying9 hi hz0 hz1 hz2 _ _ _ rfl hown s rfl ?c3 ?c4 ?c5 ?_)
 case c3=>unfold maxLen;omega
 case c4=>omega
 case c5=>have:=hb1.size;omega
 intro v' w2 hown' hgrow _;have hlt:b<w1.heap.size:=by
  rcases Nat.lt_or_ge b w1.heap.size with h'|h'
  ·exact h'
  ·simp[Array.getElem?_eq_none h']at hbk
 have hb2:w2.heap[b]?=some (.cells #[.pointer (some ⟨b,0,none⟩),v] 263 (0,0)):=by
  rw[hgrow.block b hlt (fun e=>hne e.symm)];exact hbk
 have d0:w2.cell? ⟨b,0,none⟩=some (.pointer (some ⟨b,0,none⟩)):=by rw[Lib.cell_of_heap hb2];rfl
 have d1:w2.cell? ⟨b,1,none⟩=some v:=by rw[Lib.cell_of_heap hb2];rfl
 have f1:w2.frozen? ⟨b,1,none⟩=false:=Lib.frozen_of_heap hb2 1;obtain⟨ao,n',cap,rfl⟩:∃ao n' cap,v'=.slice ao n' cap:=by
  rcases hown'.2 with⟨hv,_⟩|⟨g,cap,cur,fz,hv,_⟩
  ·exact⟨_,_,_,hv⟩
  ·exact⟨_,_,_,hv⟩
 go_wp2
 go_ret2
 refine⟨rfl,?_,?_⟩
 ·exact Lib.BuilderAtF.put (T:=263) (e:=5) hB hb2 (bs':=bs++Lib.strCells s) (by simpa[Lib.strCells_length]using hown') (by decide)
 ·exact(hb1.grown hgrow (by have:=hb1.size;omega) (fun k hk=>(hown.lt k hk).1)).setCell (p:=⟨b,1,none⟩) hB _
theorem Tj(w:World)(o:Obj)(b i:Nat)(v:Value)(h:b<w.heap.size):(w.alloc o).setCell ⟨b,i,none⟩ v=(w.setCell ⟨b,i,none⟩ v).alloc o:=by
 have hp:∀f,(w.heap.push o).modify b f=(w.heap.modify b f).push o:=fun f=>by
  apply Array.ext_getElem?;intro k;rw[Array.getElem?_modify,Array.getElem?_push,Array.getElem?_push,Array.getElem?_modify,Array.size_modify];split<;>split<;>first|rfl|omega
 simp only[World.setCell,World.alloc,hp]
theorem sizeByte:(Tryz.prog.info? 5).map (fun i=>i.size)=some 1:=by kernel_rfl
set_option maxHeartbeats 2000000 in
theorem aaz (B b n:Nat) (w:World) (hB:B<=b) (hbk:w.heap[b]?=some (.cells #[.pointer (some ⟨b,0,none⟩),.slice none 0 0] 263 (0,0))) (hBw:B<=w.heap.size) (hn:n<=1099511627776):
  Calls Tryz.prog 258 #[.pointer (some ⟨b,0,none⟩),.int .i64 n] w fun e w'=>e=.returned (.tuple #[])/\(Lib.BuilderAt 263 5 B b (.pointer (some ⟨b,0,none⟩)) [] w'/\Below B w w'):=by
 obtain⟨cs,hrun,hle,hmax⟩:=Lib.run_makeNoZero (P:=Tryz.prog) w.drew #[3] 169 5 Tryz.underlying169 n (by omega)
 have hw:IntKind.i64.wrap (IntKind.i64.wrap 0+(n:Int))=n:=by
  rw[IntKind.wrap_i64,IntKind.wrap_i64];omega
 have hcall:(callFunc 297 #[.int .i64 (IntKind.i64.wrap (IntKind.i64.wrap 0+(n:Int)))]).run Tryz.prog w.drew=.ok (.value (.slice (some ⟨w.drew.heap.size,0,none⟩) n cs.size)) (w.drew.drew.drew.alloc (.cells cs 5)):=by
  rw[hw,run_callFunc_extern Tryz.func297 (by kernel_rfl) (by kernel_rfl) (by kernel_rfl) (e:=Extern.BytealgMakeNoZero.makeNoZero #[3] #[169]) (by kernel_rfl),hrun]
  rfl
 have hlt:b<w.heap.size:=by
  rcases Nat.lt_or_ge b w.heap.size with h'|h'
  ·exact h'
  ·simp[Array.getElem?_eq_none h']at hbk
 have c1:w.drew.cell? ⟨b,1,none⟩=some (.slice none 0 0):=by
  have:w.drew.heap[b]?=_:=hbk;rw[Lib.cell_of_heap this];rfl
 have c2:(w.alloc (.cells cs 5)).cell? ⟨b,1,none⟩=some (.slice none 0 0):=by
  have:(w.alloc (.cells cs 5)).heap[b]?=_:=(Lib.alloc_old w _ b hlt).trans hbk;rw[Lib.cell_of_heap this];rfl
 have f2:(w.alloc (.cells cs 5)).frozen? ⟨b,1,none⟩=false:=Lib.frozen_of_heap ((Lib.alloc_old w _ b hlt).trans hbk) 1;have hcopy:∀W:World,(Builtin.copy_ #[169,169] 3 #[.slice (some ⟨w.heap.size,0,none⟩) 0 cs.size,.slice none 0 0]).run Tryz.prog W=.ok (goInt 0) W:=
  fun W=>run_copy_none W 169 169 3 5 _ _ 0 cs.size 0 0 Tryz.underlying169 Tryz.Builder_Extra_169.sizeByte rfl
 clear hw;have hfin:=Lib.grown_fresh (T:=263) (e:=5) (cs:=cs) hB hbk hBw (hmax (by unfold maxLen;omega)) (by decide)
 go_enter Tryz.func258,Tryz.ntmps258
 have hcomm:∀v,(w.alloc (.cells cs 5)).setCell ⟨b,1,none⟩ v=(w.setCell ⟨b,1,none⟩ v).alloc (.cells cs 5):=fun v=>Tj w _ b 1 v hlt;rw[hcomm]at hfin
 go_wp2
 go_region
 all_goals (go_wp2;go_end0;exact⟨rfl,hfin⟩)
set_option maxHeartbeats 2000000 in
theorem ZX (B b n:Nat) (w:World) (hB:B<=b) (hbk:w.heap[b]?=some (.cells #[.pointer none,.slice none 0 0] 263 (0,0))) (hBw:B<=w.heap.size) (hn:n<=1099511627776):
  Calls Tryz.prog 200 #[.pointer (some ⟨b,0,none⟩),.int .i64 n] w fun e w'=>e=.returned (.tuple #[])/\(Lib.BuilderAt 263 5 B b (.pointer (some ⟨b,0,none⟩)) [] w'/\Below B w w'):=by
 have hbk1:(w.setCell ⟨b,0,none⟩ (.pointer (some ⟨b,0,none⟩))).heap[b]?=some (.cells #[.pointer (some ⟨b,0,none⟩),.slice none 0 0] 263 (0,0)):=by
  simp[World.setCell,Array.getElem?_modify,hbk]
 have c1:(w.setCell ⟨b,0,none⟩ (.pointer (some ⟨b,0,none⟩))).cell? ⟨b,1,none⟩=some (.slice none 0 0):=by rw[Lib.cell_of_heap hbk1];rfl
 have hb1:Below B w (w.setCell ⟨b,0,none⟩ (.pointer (some ⟨b,0,none⟩))):=(Below.refl B w).setCell (p:=⟨b,0,none⟩) hB _;have hU:Lib.BuilderAt 263 5 B b (.pointer (some ⟨b,0,none⟩)) [] (w.setCell ⟨b,0,none⟩ (.pointer (some ⟨b,0,none⟩))):=⟨hB,.slice none 0 0,hbk1,World.ownsRow_nil _ _ _ _,by simp[Value.ownBlock]⟩
 have c1':(w.setCell ⟨b,0,none⟩ (.pointer (some ⟨b,0,none⟩))).drew.cell? ⟨b,1,none⟩=some (.slice none 0 0):=c1;have hn0:¬((n:Int)<0):=by omega
 go_enter Tryz.func200,Tryz.ntmps200
 go_wp2_with (refine(zI b w (by rw[Lib.cell_of_heap hbk];rfl) (by simp[World.shape?,hbk]) (Lib.frozen_of_heap hbk 0)).mono ?_;rintro e w' ⟨rfl,rfl⟩)
 go_region
 all_goals go_wp2_with (refine(aaz B b n (w.setCell ⟨b,0,none⟩ (.pointer (some ⟨b,0,none⟩))).drew hB hbk1 (by simpa[World.setCell,World.drew,-World.drew_eq]using hBw) hn).mono ?_;rintro e w' ⟨rfl,h1,h2⟩)
 all_goals first
  |(go_end0;exact⟨rfl,h1,hb1.drew.trans h2⟩)
  |(go_end0;exact⟨rfl,hU.drew,hb1.drew⟩)
open Go.RowKit Go.Shelf Go.Lib Go.Ev
def ahm(c:Nat)(r:Option (AV×St)):Bool:=
 match r with
 |some (.tup [.int .u64 (.ofNat 0),.int .u64 (.ofNat d)],[])=>Nat.beq d c
 |_=>false
theorem ahn{c:Nat}{r:Option (AV×St)}(h:ahm c r=true):r=some (.tup [.int .u64 (0:Nat),.int .u64 (c:Nat)],[]):=by
 unfold ahm at h;split at h
 ·rename_i d;have:=Nat.eq_of_beq_eq_true h;subst this;rfl
 ·cases h
theorem amu:(List.range 64).all (fun c=>ahm c (evF (gQ Tryz.prog (fun _=>none) (fun _=>false) (fun _=>none)) 100 198 [.int .u64 1,.int .u64 (Int.ofNat c)] []))=true:=by kernel_rfl
theorem anN:AB Tryz.prog 198:=⟨_,Tryz.func198,by decide,rfl⟩
theorem zg:Tryz.prog.follows .mixedOrders=true:=by kernel_rfl
theorem bits_Mul(c:Nat)(hc:c<64)(w:World):Calls Tryz.prog 198 #[.int .u64 1,.int .u64 c] w fun e w'=>e=.returned (.tuple #[.int .u64 0,.int .u64 c])/\Below w.heap.size w w':=by
 have h:=ahn (List.all_eq_true.mp amu c (List.mem_range.mpr hc));exact XY zg anN h w [.int .u64 1,.int .u64 c] _ (fun g=>.cons _ _ _ _ (.int _ _) (.cons _ _ _ _ (.int _ _) .nil)) (fun g v2 hv=>by
  cases hv with
  |tup l l' hs=>
   cases hs with
   |cons _ _ _ _ a b=>
    cases a;cases b with
    |cons _ _ _ _ a b=>
     cases a;cases b;rfl)
set_option maxHeartbeats 4000000 in
theorem Zp (c:Nat) (w:World) (hc2:2<=c) (hc:c<64):
  Calls Tryz.prog 139 #[.string ⟨#[0]⟩,.int .i64 c] w fun e w'=>e=.returned (.string ⟨(List.replicate c (0:UInt8)).toArray⟩)/\Below w.heap.size w w':=by
 have hMul:=bits_Mul c hc w;have k0:¬((c:Int)=0):=by omega
 have k1:¬((c:Int)=1):=by omega
 have k2:¬((c:Int)<0):=by omega
 have k3:¬((c:Int)>9223372036854775807):=by omega
 have k4:¬((c:Int)>8192):=by omega
 have wu:IntKind.u64.wrap (c:Int)=c:=by unfold IntKind.wrap;simp[IntKind.signed,IntKind.bits];omega
 have wi:IntKind.i64.wrap (c:Int)=c:=by rw[IntKind.wrap_i64];omega
 go_enter Tryz.func139,Tryz.ntmps139
 go_wp2_with (refine hMul.mono ?_;rintro e W0 ⟨rfl,hb0⟩)
 have b0:Below w.heap.size w (W0.alloc (.cells #[.pointer none,.slice none 0 0] 263)):=hb0.alloc hb0.size _;refine(ZX W0.heap.size W0.heap.size c (W0.alloc (.cells #[.pointer none,.slice none 0 0] 263)) (Nat.le_refl _) (heap_alloc_new W0 _) ((Below.refl W0.heap.size W0).alloc (Nat.le_refl _) _).size (by omega)).mono ?_
 rintro e W1 ⟨rfl,h1,b1⟩;have hB0:=hb0.size;have hB1:W0.heap.size<=W1.heap.size:=Nat.le_trans ((Below.refl W0.heap.size W0).alloc (Nat.le_refl _) _).size b1.size
 go_wp2_with (refine(G9 W0.heap.size W0.heap.size [] ⟨#[0]⟩ W1 (Lib.IsBuilderF.of (Or.inr h1)) (by simp[ByteArray.size]) hB1).mono ?_;rintro e W2 ⟨rfl,h2,b2⟩)
 have h2':Lib.IsBuilderF 263 5 W0.heap.size W0.heap.size (Lib.byteCells (List.replicate 1 0)) W2:=Or.inr h2;have b02:Below w.heap.size w W2:=b0.trans ((b1.mono hB0).trans (b2.mono hB0));have hs2:W0.heap.size<=W2.heap.size:=Nat.le_trans hB1 b2.size;clear h2 h1 b0 b1 b2 hMul
 go_loopg [] (c-1) (fun g wx=>∃q:Nat,1<=q/\q+g=c/\Lib.IsBuilderF 263 5 W0.heap.size W0.heap.size (Lib.byteCells (List.replicate q 0)) wx/\Below w.heap.size w wx/\W0.heap.size<=wx.heap.size)
 case atStart=>exact⟨1,Nat.le_refl _,by omega,h2',b02,hs2⟩
 case round=>
  obtain⟨q,hq1,hqg,hB,hbx,hsx⟩:=hrel;have hlq:(Lib.byteCells (List.replicate q (0:UInt8))).length=q:=by simp[Lib.byteCells]
  have cLen:=Any.Builder_Len_f Tryz.lays170 W0.heap.size W0.heap.size _ wr hB;rw[hlq]at cLen;have cStr:=Any.Builder_String_any_f Tryz.lays169 Tryz.Builder_Extra_169 W0.heap.size W0.heap.size (List.replicate q 0) wr hB hsx;obtain⟨S,hS⟩:∃S:ByteArray,(⟨(List.replicate q (0:UInt8)).toArray⟩:ByteArray)=S:=⟨_,rfl⟩;have hSz:S.size=q:=by rw[<-hS];simp[ByteArray.size]
  rw[hS]at cStr;cases gk with
  |zero=>
   obtain rfl:q=c:=by omega
   have hQn:¬((q:Int)<(q:Int)):=by omega
   go_wp2_with (first
    |(refine cLen.mono ?_;rintro e w' ⟨rfl,hw⟩;rw[hw])
    |(refine cStr.mono ?_;rintro e W3 ⟨rfl,h3,b3⟩))
   go_ret
   exact⟨by rw[hS]<;>rfl,hbx.trans (b3.mono hB0)⟩
  |succ g=>
   have hQn:(q:Int)<(c:Int):=by omega
   obtain⟨k,hk⟩:∃k,k=min (c-q) q:=⟨_,rfl⟩;have hk1:1<=k:=by omega
   have hmin3:∀(ts:Array TypeId) (t:TypeId) (W:World),(Builtin.min_ ts t #[.int .i64 ((c:Int)-(q:Int)),.int .i64 (q:Int),.int .i64 (c:Int)]).run Tryz.prog W=.ok (.int .i64 (k:Int)) W:=fun ts t W=>by
    rw[run_min_int3]
    congr 2
    omega
   have hkq:k<=q:=by omega
   have hkc:q+k<=c:=by omega
   clear hk
   go_wp2_with (first
    |(refine cLen.mono ?_;rintro e w' ⟨rfl,hw⟩;rw[hw])
    |(refine cStr.mono ?_;rintro e W3 ⟨rfl,h3,b3⟩))
   have hex:(S.extract 0 k)=⟨(List.replicate k (0:UInt8)).toArray⟩:=by
    rw[<-hS];apply ByteArray.ext;rw[ByteArray.data_extract];apply Array.ext';simp[Nat.min_eq_left hkq]
   have hexs:(S.extract 0 k).size=k:=by rw[hex];simp[ByteArray.size]
   have cWr:=G9 W0.heap.size W0.heap.size _ (S.extract 0 k) W3 h3 (by rw[hlq,hexs];omega) (Nat.le_trans hsx b3.size)
   go_wp2_with (go_fit cWr;rintro e W4 ⟨rfl,h4,b4⟩)
   go_roundg (c-(q+k))
   case measure=>omega
   case rel=>
    refine⟨q+k,by omega,by omega,Or.inr ?_,hbx.trans ((b3.mono hB0).trans (b4.mono hB0)),Nat.le_trans hsx (Nat.le_trans b3.size b4.size)⟩
    rw[Lib.strCells_eq,<-Lib.byteCells_append,hex]at h4;rw[List.replicate_append_replicate.symm];exact h4
theorem abg (c:Nat) (w:World) (hc:c<64):
  Calls Tryz.prog 139 #[.string ⟨#[0]⟩,.int .i64 c] w fun e w'=>e=.returned (.string ⟨(List.replicate c (0:UInt8)).toArray⟩)/\Below w.heap.size w w':=by
 match c,hc with
 |0,_=>
  go_enter Tryz.func139,Tryz.ntmps139
  go_wp2
  go_ret
  exact⟨rfl,Below.refl _ _⟩
 |1,_=>
  go_enter Tryz.func139,Tryz.ntmps139
  go_wp2
  go_ret
  exact⟨rfl,Below.refl _ _⟩
 |c+2,hc=>exact Zp (c+2) w (by omega) hc
theorem aga:AB Tryz.prog 139:=⟨_,Tryz.func139,by decide,rfl⟩
def uZ(args:LA)(O:St):Option (AV×St):=
 match args with
 |[.str s,.int .i64 (.ofNat n)]=>match s with
  |[b]=>match Nat.beq b.toNat 0 with
   |true=>match Nat.blt n 64 with
    |true=>some (.str (List.replicate n 0),O)
    |false=>none
   |false=>none
  |_=>none
 |_=>none
theorem FU{C:Ctx}(hP:C.P=Tryz.prog):POK C 139 uZ:=by
 intro args O v O' h g w args' ha hw hg;unfold uZ at h;split at h
 ·rename_i s n;split at h
  ·rename_i b;split at h
   ·rename_i hb;have hb:b=0:=UInt8.toNat_inj.mp (Nat.eq_of_beq_eq_true hb);subst hb;split at h
    ·rename_i hn;have hn:n<64:=Nat.le_of_ble_eq_true hn;simp only[Option.some.injEq,Prod.mk.injEq]at h;obtain⟨rfl,rfl⟩:=h;cases ha with
     |cons _ v1 _ l1 x y=>
      cases y with
      |cons _ v2 _ l2 x2 y2=>
       cases y2;cases x;cases x2;refine zK (by rw[hP];exact aga) ?_
       rw[hP];exact(abg n w hn).mono fun e w2 ⟨he2,hw2⟩=>⟨_,he2,g,tu hw hw2,.str _⟩
    ·cases h
   ·cases h
  ·cases h
 ·cases h
open Go.Ev Go.RowKit
noncomputable section
noncomputable def ints(k:IntKind)(l:List Nat):LA:=l.map fun n=>.int k (.ofNat n)
noncomputable def glT(g:Nat):Option LA:=
 match Nat.beq g yw with
 |true=>some (ofBytes hexDigits)
 |false=>match Nat.beq g rU with
  |true=>some (hI.map iw)
  |false=>match Nat.beq g pM with
   |true=>some (kR.map iw)
   |false=>match Nat.beq g Yu with
    |true=>some [.str [114,111,111,116],.str [115,110,97,112,115,104,111,116],.str [116,97,114,103,101,116,115]]
    |false=>match Nat.beq g qi with
     |true=>some (ints .i64 [0,31,59,90,120,151,181,212,243,273,304,334,365])
     |false=>match Nat.beq g nX with
      |true=>some (ints .u64 [1,10,100,1000,10000,100000,1000000,10000000,100000000,1000000000,10000000000,100000000000,1000000000000,10000000000000,100000000000000,1000000000000000,10000000000000000,100000000000000000,1000000000000000000,10000000000000000000])
      |false=>none
noncomputable def Rh(f:FuncId):Option (LA->St->Option (AV×St)):=match Nat.beq f kP with
 |true=>some uZ
 |false=>none
noncomputable def CC:Ctx:=gQ Tryz.prog glT (fun _=>false) Rh
theorem gK:∀n l,CC.gl n=some l->ae 0 l=true:=by
 intro n l h;change glT n=some l at h;unfold glT at h;repeat' split at h
 all_goals first
  |(cases h;done)
  |(simp only[Option.some.injEq]at h;subst h;kernel_rfl)
theorem aiG:Ht CC:=by
 intro f h hh;change Rh f=some h at hh;unfold Rh at hh;split at hh
 ·rename_i hf;have:=Nat.eq_of_beq_eq_true hf;subst this;cases hh;exact FU (C:=CC) rfl
 ·cases hh
theorem Ve:fK CC (ai CC):=F8 zg (uo _ _ _ _) aiG
noncomputable def CR:Ctx:=gQ Tryz.prog glT (fun _=>true) (fun _=>none)
theorem anq(n:Nat):fK CR (evF CR n):=DT zg (uo _ _ _ _) (fun f h hh=>by simp[gQ]at hh) n
theorem UR{f:FuncId}(h1:iW (evF CR 100 f [.nils] []) .nils=true)(h2:iW (evF CR 100 f [.emp] []) (.xsl 0 [])=true):POK CC f Kz:=Iw (C:=CR) (anq 100) gK h1 h2
theorem ok0:Ok []:=rfl
theorem Ig{f:FuncId}{K:KF}(h1:cF Tryz.prog f=some K.forget:=by kernel_rfl)(h2:S9 Tryz.prog f=true:=by kernel_rfl)(h3:K.ok=true:=by kernel_rfl)(hp:Rh f=none:=by exact rfl):Has CC f K:=VX h1 h2 h3 hp rfl
theorem abn:Hu CC where
 new:=Ig
 sum:=Ig
 write:=Ig
 mix:=Ig
 rot:=Ig
 sumF:=Ig
 digest:=Ig
 encode:=Ig
 gr:=rfl
 gi:=rfl
 gd:=rfl
 rep:=fun n hn O=>by
  have hp:CC.prim kP=some uZ:=rfl;rw[Xc];unfold Qn;rw[hp];have hb:Nat.blt n 64=true:=Nat.ble_eq_true_of_le hn;change uZ [.str [0],.int .i64 (.ofNat n)] O=_;unfold uZ;simp only[hb];rfl
theorem amr:Vl CC where
 sha:=abn
 block:=Ig
 combine:=Ig
 of:=Ig
 of1:=Ig
 of2:=Ig
theorem amM:POK CC LG (Dp fun s=>.str (ou s)):=Rf Ve gK _ fun s hs=>KO abn s hs [] ok0
theorem amL:POK CC uO (acX fun s t=>.str (hmac s t)):=ahT Ve gK _ fun s t hs ht=>ahe amr s t (by omega) ht [] ok0
theorem ahM:POK CC DU (Dp fun s=>.bool (s.all QA)):=Rf Ve gK _ fun s hs=>am8 (Ig) (Ig) s hs []
theorem WI:POK CC yh (Dp fun s=>.str (rH s)):=Rf Ve gK _ fun s hs=>hex_Encode abn.encode rfl s hs [] ok0
theorem amJ:POK CC oD ak2:=ak7 fun args w=>by
 rw[show CC.P=Tryz.prog from rfl,run_callFunc_extern Tryz.func230 (by kernel_rfl) (by kernel_rfl) (by kernel_rfl) (e:=Extern.BytealgCompare.compare) (by kernel_rfl)]
noncomputable def aoH(c:Nat)(r:Option (AV×St)):Bool:=iW r (.str (List.replicate c 48))
theorem ake:(List.range 5).all (fun c=>aoH c (evF (gQ Tryz.prog glT (fun _=>false) (fun _=>none)) 1000 139 [.str [48],.int .i64 (Int.ofNat c)] []))=true:=by kernel_rfl
noncomputable def ahK(args:LA)(O:St):Option (AV×St):=
 match args with
 |[.str [b],.int .i64 (.ofNat n)]=>match Hw (Nat.beq b.toNat 48) (Nat.ble n 4)with
  |true=>some (.str (List.replicate n 48),O)
  |false=>none
 |_=>none
theorem ak6:POK CC kP ahK:=by
 intro args O v O' h g w args' ha hw hg;unfold ahK at h;split at h
 ·rename_i b n;split at h
  ·rename_i hb;rw[qp,Bool.and_eq_true]at hb;have hb1:b=48:=UInt8.toNat_inj.mp (Nat.eq_of_beq_eq_true hb.1);have hb2:n<5:=Nat.lt_succ_of_le (Nat.le_of_ble_eq_true hb.2);subst hb1;simp only[Option.some.injEq,Prod.mk.injEq]at h;obtain⟨rfl,rfl⟩:=h;have hc:fK (gQ Tryz.prog glT (fun _=>false) (fun _=>none)) (evF (gQ Tryz.prog glT (fun _=>false) (fun _=>none)) 1000):=DT zg (uo _ _ _ _) (fun f h hh=>by simp[gQ]at hh) 1000
   exact lT hc gK (by rfl) (CO (List.all_eq_true.mp ake n (List.mem_range.mpr hb2))) ha hw hg
  ·cases h
 ·cases h
end
open Go.Ev
def vi(n:Int):AV:=.int .i64 n
def vu(n:Int):AV:=.int .u8 n
def ve:AV:=.str []
noncomputable def spL(M:MM):List (FuncId×Vg):=[(40,.prim (Dp fun s=>.str (rH s))),(41,.prim (Dp fun s=>.str (ou s))),(93,.prim (orP (memo (M 93)) (acX fun s t=>.str (hmac s t)))),(106,.both Kz (kA Tryz.prog 106) true false),(139,.prim (orP uZ ahK)),(142,.prim (Dp (fun s=>.tup [.str (qP s).1,.int .i64 (qP s).2]))),(147,.prim zY),(149,.prim (Dp fun s=>.bool (s.all QA))),(168,.both Kz (kA Tryz.prog 168) true false),(181,.prim (Dp (fun s=>.bool (vF s).isSome))),(203,.prim NG),(230,.prim ak2),(308,.prim (FT (fun s i=>.tup [.str (qy s i).1,.int .i64 (qy s i).2.1,.int .i64 (qy s i).2.2])))]
theorem an5{M:MM}(hM:MOK CC M):∀p∈spL M,EOK CC p.1 p.2:=by
 unfold spL;simp only[List.forall_mem_cons];exact⟨WI,amM,ahG (hM 93) (amL),⟨UR (by kernel_rfl) (by kernel_rfl),V9 (by kernel_rfl)⟩,ahG (FU rfl) ak6,Zg rfl,UT rfl,ahM,⟨UR (by kernel_rfl) (by kernel_rfl),V9 (by kernel_rfl)⟩,Zh rfl,acY rfl,amJ,acZ rfl,fun _ h=>by simp at h⟩
noncomputable def T0(M:MM):Tr2:=tA Tryz.prog (spL M) [103,105,107,163,166,211,212,222,254,261,295,298,299,300,309,310,311,319,329,336] [19,69] M
theorem afg{M:MM}(hM:MOK CC M):akG CC (T0 M):=⟨aoS (an5 hM) hM,gK⟩
noncomputable section
def A(l m:LU):LU:=List.rec m (fun h _ r=>h::r) l
def S(l:LU):AV:=.str l
def Z:AV:=.sl 0 []
def d19:LU:=[123,34,95,116,121,112,101,34,58,34]
def d15:LU:=[49,57,55,48,45,48,49,45,48,49,84,48,48,58,48,48,58,48,57,90]
def d9:LU:=A [34,44,34,101,120,112,105,114,101,115,34,58,34] (A d15 [34,44,34])
def d2:LU:=[50,57,55,51,100,53,51,54,52,49,56,53,99,48,52,57,52,49,51,102,54,57,49,99,48,53,55,51,50,99,50,55,98,52,101,101,56,50,99,97,48,98,52,98,51,99,51,51,57,56,98,49,48,50,50,97,57,55,102,53,49,53,53,55]
def d13:LU:=[34,44,34,115,99,104,101,109,101,34,58,34,104,109,97,99,45,115,104,97,50,53,54,34,125]
def d1:LU:=[101,55,102,54,51,55,49,51,49,99,54,49,98,101,101,99,101,100,57,97,51,48,99,98,99,97,101,54,55,99,48,99,99,101,98,51,98,52,57,98,49,99,100,100,102,98,51,97,54,102,97,101,56,50,49,51,54,98,97,54,97,53,97,100]
def d16:LU:=[34,93,44,34,116,104,114,101,115,104,111,108,100,34,58,49,125]
def d12:LU:=A [34,58,123,34,107,101,121,105,100,115,34,58,91,34] (A d1 d16)
def d18:LU:=[125,44,34,118,101,114,115,105,111,110,34,58]
def d0:LU:=A d19 (A [114,111,111,116] (A d9 (A [107,101,121,115,34,58,123,34] (A d2 (A [34,58,123,34,112,117,98,108,105,99,34,58,34,48,49] (A d13 (A [44,34] (A d1 (A [34,58,123,34,112,117,98,108,105,99,34,58,34,48,48] (A d13 (A [125,44,34,114,111,108,101,115,34,58,123,34,114,111,111,116] (A d12 (A [44,34,115,110,97,112,115,104,111,116,34,58,123,34,107,101,121,105,100,115,34,58,91,34] (A d2 (A d16 (A [44,34,116,97,114,103,101,116,115] (A d12 (A d18 [49,125]))))))))))))))))))
def d3:LU:=A d19 (A [116,97,114,103,101,116,115] (A d9 (A [116,97,114,103,101,116,115,34,58,123] (A d18 [50,125]))))
def d4:LU:=[52,48,57,100,50,51,98,53,102,50,56,48,57,101,56,100,102,49,53,55,99,52,97,99,99,55,99,57,57,50,50,56,56,55,56,99,50,54,52,97,101,53,100,100,49,52,99,102,100,56,97,57,101,56,54,56,53,101,48,101,52,99,50,51]
def d5:LU:=[98,100,48,55,55,49,97,51,51,99,98,99,55,101,55,55,56,48,52,102,52,53,48,97,97,48,101,50,99,99,57,51,97,102,56,56,49,54,53,56,101,49,97,102,56,56,52,101,97,97,49,50,50,54,53,53,55,101,49,54,56,54,55,57]
def d6:LU:=[55,56,99,52,48,49,57,48,97,99,53,98,99,102,101,98,101,102,54,98,48,49,54,49,97,98,57,57,97,99,102,48,56,98,57,50,98,57,56,51,97,48,97,55,52,53,54,100,54,97,100,100,50,100,49,100,52,48,52,97,52,55,51,49]
def d7:LU:=A d19 (A [115,110,97,112,115,104,111,116] (A d9 (A [109,101,116,97,34,58,123] (A d18 [49,125]))))
def d8:LU:=[54,49,51,100,97,100,48,55,48,97,52,98,54,97,56,98,102,55,55,57,101,53,52,48,54,98,57,56,52,51,55,53,100,100,98,52,98,97,99,97,50,56,101,56,55,48,49,99,97,98,48,102,56,102,54,55,99,98,54,98,48,49,100,51]
def d14:LU:=[123,34,115,105,103,110,97,116,117,114,101,115,34,58,91,123,34,107,101,121,105,100,34,58,34]
def d10:LU:=A d14 (A d1 [34,44,34,115,105,103,34,58,34])
def d11:LU:=A d14 (A d2 [34,44,34,115,105,103,34,58,34])
def d17:LU:=[34,125,93,44,34,115,105,103,110,101,100,34,58]
def s0:LU:=[104,109,97,99,45,115,104,97,50,53,54]
def s1:LU:=d1
def s2:LU:=d15
def s3:LU:=d3
def s4:LU:=[115,105,103,110,97,116,117,114,101,115]
def s5:LU:=d4
def s6:LU:=A d10 (A d4 (A d17 (A d3 [125])))
def s7:LU:=d2
def s8:LU:=[116,104,114,101,115,104,111,108,100]
def s9:LU:=d0
def s10:LU:=d5
def s11:LU:=A d10 (A d5 (A d17 (A d0 [125])))
def s12:LU:=d6
def s13:LU:=A d11 (A d6 (A d17 (A d0 [125])))
def s14:LU:=d7
def s15:LU:=d8
def s16:LU:=A d11 (A d8 (A d17 (A d7 [125])))
def Q0:MM:=M0
def a0:LA:=[(.agg [S s0,S [48,48]])]
def v0:AV:=(.tup [S s1,vi 0])
def Q1:MM:=kG Q0 44 a0 v0
def x0:AV:=(.agg [vi 2,vi 9,Z,Z,Z,vi 0,Z,vi 0,ve])
def a1:LA:=[x0]
def v1:AV:=(.bool true)
def Q2:MM:=kG Q1 95 a1 v1
def x1:AV:=(S [95,116,121,112,101])
def x2:AV:=(S [101,120,112,105,114,101,115])
def x3:AV:=(S [116,97,114,103,101,116,115])
def x4:AV:=(S [118,101,114,115,105,111,110])
def x5:AV:=(.sl 4 [x1,x2,x3,x4])
def x6:AV:=(.sl 4 [vu 3,vi 0,x3,Z,Z,vu 3,vi 0,S s2,Z,Z,vu 5,vi 0,ve,Z,Z,vu 2,vi 2,ve,Z,Z])
def a2:LA:=[(.agg [vu 5,vi 0,ve,x5,x6,Z])]
def v2:AV:=(.tup [S s3,vi 0])
def Q3:MM:=kG Q2 45 a2 v2
def a3:LA:=[S [0],S s3]
def v3:AV:=(S [64,157,35,181,242,128,158,141,241,87,196,172,199,201,146,40,135,140,38,74,229,221,20,207,216,169,232,104,94,14,76,35])
def Q4:MM:=kG Q3 93 a3 v3
def x7:AV:=(S [115,105,103,110,101,100])
def x8:AV:=(.sl 2 [S s4,x7])
def x9:AV:=(S [107,101,121,105,100])
def x10:AV:=(.sl 2 [x9,S [115,105,103]])
def x11:AV:=(.sl 2 [vu 3,vi 0,S s1,Z,Z,vu 3,vi 0,S s5,Z,Z])
def x12:AV:=(.sl 1 [vu 5,vi 0,ve,x10,x11])
def x13:AV:=(.sl 2 [vu 4,vi 0,ve,Z,x12,vu 5,vi 0,ve,x5,x6])
def x14:AV:=(.agg [vu 5,vi 0,ve,x8,x13])
def a4:LA:=[x14]
def v4:AV:=(.bool true)
def Q5:MM:=kG Q4 68 a4 v4
def x15:AV:=(.agg [vu 5,vi 0,ve,x5,x6])
def a5:LA:=[x15,(.sl 1 [S s0,S [48,48]])]
def v5:AV:=(S s6)
def Q6:MM:=kG Q5 17 a5 v5
def a6:LA:=[]
def x16:AV:=(.func (.func qY) [] [])
def x17:AV:=(.func (.func vT) [] [])
def v6:AV:=(.agg (cqR 34 .nilFunc ((.func (.func vS) [] [])::cqR 8 .nilFunc (x16::(.func (.func xg) [] [])::x16::x16::.nilFunc::cqR 10 x16 ((.func (.func wZ) [] [])::cqR 32 .nilFunc ((.func (.func xh) [] [])::.nilFunc::(.func (.func yU) [] [])::.nilFunc::.nilFunc::.nilFunc::cqR 26 x17 ((.func (.func yV) [] [])::.nilFunc::(.func (.func yX) [] [])::cqR 130 .nilFunc [])))))))
def Q7:MM:=kG Q6 249 a6 v6
def a7:LA:=[S s6]
def v7:AV:=(.tup [x14,vi 0,vi 0])
def Q8:MM:=kG Q7 80 a7 v7
def a8:LA:=[x14]
def x18:AV:=(.sl 1 [S s1,S s5])
def x19:AV:=(.agg [vu 5,vi 0,ve,x5,x6,x18])
def v8:AV:=(.tup [x19,vi 0])
def Q9:MM:=kG Q8 81 a8 v8
def a9:LA:=[x15]
def v9:AV:=(.tup [x0,vi 0])
def Q10:MM:=kG Q9 29 a9 v9
def a10:LA:=[x19]
def v10:AV:=(.tup [S s3,vi 0])
def Q11:MM:=kG Q10 45 a10 v10
def a11:LA:=[(.agg [S s0,S [48,49]])]
def v11:AV:=(.tup [S s7,vi 0])
def Q12:MM:=kG Q11 44 a11 v11
def x20:AV:=(.sl 2 [S s7,S s1])
def x21:AV:=(S [112,117,98,108,105,99])
def x22:AV:=(S [115,99,104,101,109,101])
def x23:AV:=(.sl 2 [x21,x22])
def x24:AV:=(.sl 2 [vu 3,vi 0,S [48,49],Z,Z,vu 3,vi 0,S s0,Z,Z])
def x25:AV:=(.sl 2 [vu 3,vi 0,S [48,48],Z,Z,vu 3,vi 0,S s0,Z,Z])
def x26:AV:=(.sl 2 [vu 5,vi 0,ve,x23,x24,vu 5,vi 0,ve,x23,x25])
def a12:LA:=[(.agg [vu 5,vi 0,ve,x20,x26])]
def x27:AV:=(.sl 2 [S s0,S [48,49],S s0,S [48,48]])
def v12:AV:=(.tup [x27,vi 0])
def Q13:MM:=kG Q12 57 a12 v12
def x28:AV:=(.agg [vi 1,(.sl 1 [S s1])])
def x29:AV:=(.agg [vi 1,(.sl 1 [S s7])])
def a13:LA:=[x28,x29]
def v13:AV:=(.agg [vi 1,vi 9,x27,vi 1,(.sl 1 [S s1]),vi 1,(.sl 1 [S s7]),vi 1,(.sl 1 [S s1])])
def Q14:MM:=kG Q13 21 a13 v13
def x30:AV:=(S [114,111,108,101,115])
def x31:AV:=(S [115,110,97,112,115,104,111,116])
def x32:AV:=(.sl 3 [S [114,111,111,116],x31,x3])
def x33:AV:=(S [107,101,121,105,100,115])
def x34:AV:=(.sl 2 [x33,S s8])
def x35:AV:=(.sl 1 [vu 3,vi 0,S s1,Z,Z])
def x36:AV:=(.sl 2 [vu 4,vi 0,ve,Z,x35,vu 2,vi 1,ve,Z,Z])
def x37:AV:=(.sl 1 [vu 3,vi 0,S s7,Z,Z])
def x38:AV:=(.sl 2 [vu 4,vi 0,ve,Z,x37,vu 2,vi 1,ve,Z,Z])
def x39:AV:=(.sl 3 [vu 5,vi 0,ve,x34,x36,vu 5,vi 0,ve,x34,x38,vu 5,vi 0,ve,x34,x36])
def a14:LA:=[(.sl 5 [x1,vu 3,vi 0,S [114,111,111,116],Z,Z,x4,vu 2,vi 1,ve,Z,Z,x2,vu 3,vi 0,S s2,Z,Z,S [107,101,121,115],vu 5,vi 0,ve,x20,x26,x30,vu 5,vi 0,ve,x32,x39])]
def x40:AV:=(.sl 5 [x1,x2,S [107,101,121,115],x30,x4])
def x41:AV:=(.sl 5 [vu 3,vi 0,S [114,111,111,116],Z,Z,vu 3,vi 0,S s2,Z,Z,vu 5,vi 0,ve,x20,x26,vu 5,vi 0,ve,x32,x39,vu 2,vi 1,ve,Z,Z])
def x42:AV:=(.agg [vu 5,vi 0,ve,x40,x41])
def v14:AV:=(.tup [x42,vi 0])
def Q15:MM:=kG Q14 54 a14 v14
def x43:AV:=(.agg [vi 1,vi 9,x27,vi 1,(.sl 1 [S s1]),vi 1,(.sl 1 [S s7]),vi 1,(.sl 1 [S s1])])
def a15:LA:=[x43]
def v15:AV:=(.tup [x42,vi 0])
def Q16:MM:=kG Q15 20 a15 v15
def a16:LA:=[(.agg [vu 5,vi 0,ve,x8,(.sl 2 [vu 4,vi 0,ve,Z,Z,vu 5,vi 0,ve,x40,x41])])]
def v16:AV:=(.bool true)
def Q17:MM:=kG Q16 68 a16 v16
def a17:LA:=[x42]
def v17:AV:=(.bool true)
def Q18:MM:=kG Q17 68 a17 v17
def a18:LA:=[x42]
def v18:AV:=(.tup [S s9,vi 0])
def Q19:MM:=kG Q18 90 a18 v18
def a19:LA:=[S [0],S s9]
def v19:AV:=(S [189,7,113,163,60,188,126,119,128,79,69,10,160,226,204,147,175,136,22,88,225,175,136,78,170,18,38,85,126,22,134,121])
def Q20:MM:=kG Q19 93 a19 v19
def x44:AV:=(.sl 2 [vu 3,vi 0,S s1,Z,Z,vu 3,vi 0,S s10,Z,Z])
def x45:AV:=(.sl 1 [vu 5,vi 0,ve,x10,x44])
def x46:AV:=(.sl 2 [vu 4,vi 0,ve,Z,x45,vu 5,vi 0,ve,x40,x41])
def x47:AV:=(.agg [vu 5,vi 0,ve,x8,x46])
def a20:LA:=[x47]
def v20:AV:=(.bool true)
def Q21:MM:=kG Q20 68 a20 v20
def a21:LA:=[x47]
def v21:AV:=(.tup [S s11,vi 0])
def Q22:MM:=kG Q21 90 a21 v21
def a22:LA:=[S s11]
def v22:AV:=(.tup [x47,vi 0,vi 0])
def Q23:MM:=kG Q22 80 a22 v22
def a23:LA:=[x47]
def v23:AV:=(.agg [vu 5,vi 0,ve,x8,x46])
def Q24:MM:=kG Q23 110 a23 v23
def a24:LA:=[x42]
def v24:AV:=(.agg [vu 5,vi 0,ve,x40,x41])
def Q25:MM:=kG Q24 110 a24 v24
def a25:LA:=[x47]
def v25:AV:=(.tup [(.agg [vu 5,vi 0,ve,x40,x41,(.sl 1 [S s1,S s10])]),vi 0])
def Q26:MM:=kG Q25 81 a25 v25
def a26:LA:=[(.agg [vu 5,vi 0,ve,x34,x36])]
def v26:AV:=(.tup [x28,vi 0])
def Q27:MM:=kG Q26 171 a26 v26
def a27:LA:=[(.agg [vu 5,vi 0,ve,x34,x38])]
def v27:AV:=(.tup [x29,vi 0])
def Q28:MM:=kG Q27 171 a27 v27
def a28:LA:=[(.agg [vu 5,vi 0,ve,x32,x39])]
def v28:AV:=(.tup [(.agg [vi 1,(.sl 1 [S s1]),vi 1,(.sl 1 [S s7]),vi 1,(.sl 1 [S s1])]),vi 0])
def Q29:MM:=kG Q28 112 a28 v28
def a29:LA:=[x42]
def v29:AV:=(.tup [x43,vi 0])
def Q30:MM:=kG Q29 59 a29 v29
def a30:LA:=[S [1],S s9]
def v30:AV:=(S [120,196,1,144,172,91,207,235,239,107,1,97,171,153,172,240,139,146,185,131,160,167,69,109,106,221,45,29,64,74,71,49])
def Q31:MM:=kG Q30 93 a30 v30
def x48:AV:=(.sl 2 [vu 3,vi 0,S s7,Z,Z,vu 3,vi 0,S s12,Z,Z])
def x49:AV:=(.sl 1 [vu 5,vi 0,ve,x10,x48])
def x50:AV:=(.sl 2 [vu 4,vi 0,ve,Z,x49,vu 5,vi 0,ve,x40,x41])
def x51:AV:=(.agg [vu 5,vi 0,ve,x8,x50])
def a31:LA:=[x51]
def v31:AV:=(.bool true)
def Q32:MM:=kG Q31 68 a31 v31
def a32:LA:=[x51]
def v32:AV:=(.tup [S s13,vi 0])
def Q33:MM:=kG Q32 90 a32 v32
def a33:LA:=[S s13]
def v33:AV:=(.tup [x51,vi 0,vi 0])
def Q34:MM:=kG Q33 80 a33 v33
def a34:LA:=[x51]
def v34:AV:=(.agg [vu 5,vi 0,ve,x8,x50])
def Q35:MM:=kG Q34 110 a34 v34
def a35:LA:=[x51]
def v35:AV:=(.tup [(.agg [vu 5,vi 0,ve,x40,x41,(.sl 1 [S s7,S s12])]),vi 0])
def Q36:MM:=kG Q35 81 a35 v35
def x52:AV:=(.agg [vi 1,vi 9,Z])
def a36:LA:=[x52]
def x53:AV:=(.sl 4 [x1,x2,S [109,101,116,97],x4])
def x54:AV:=(.sl 4 [vu 3,vi 0,x31,Z,Z,vu 3,vi 0,S s2,Z,Z,vu 5,vi 0,ve,Z,Z,vu 2,vi 1,ve,Z,Z])
def x55:AV:=(.agg [vu 5,vi 0,ve,x53,x54])
def v36:AV:=(.tup [x55,vi 0])
def Q37:MM:=kG Q36 61 a36 v36
def a37:LA:=[(.agg [vu 5,vi 0,ve,x53,x54,Z])]
def v37:AV:=(.tup [S s14,vi 0])
def Q38:MM:=kG Q37 45 a37 v37
def a38:LA:=[S [1],S s14]
def v38:AV:=(S [97,61,173,7,10,75,106,139,247,121,229,64,107,152,67,117,221,180,186,202,40,232,112,28,171,15,143,103,203,107,1,211])
def Q39:MM:=kG Q38 93 a38 v38
def x56:AV:=(.sl 2 [vu 3,vi 0,S s7,Z,Z,vu 3,vi 0,S s15,Z,Z])
def x57:AV:=(.sl 1 [vu 5,vi 0,ve,x10,x56])
def x58:AV:=(.sl 2 [vu 4,vi 0,ve,Z,x57,vu 5,vi 0,ve,x53,x54])
def x59:AV:=(.agg [vu 5,vi 0,ve,x8,x58])
def a39:LA:=[x59]
def v39:AV:=(.bool true)
def Q40:MM:=kG Q39 68 a39 v39
def a40:LA:=[x55,(.sl 1 [S s0,S [48,49]])]
def v40:AV:=(S s16)
def Q41:MM:=kG Q40 17 a40 v40
def a41:LA:=[S s16]
def v41:AV:=(.tup [x59,vi 0,vi 0])
def Q42:MM:=kG Q41 80 a41 v41
def a42:LA:=[x59]
def x60:AV:=(.sl 1 [S s7,S s15])
def x61:AV:=(.agg [vu 5,vi 0,ve,x53,x54,x60])
def v42:AV:=(.tup [x61,vi 0])
def Q43:MM:=kG Q42 81 a42 v42
def a43:LA:=[x55]
def v43:AV:=(.tup [x52,vi 0])
def Q44:MM:=kG Q43 63 a43 v43
def a44:LA:=[x61]
def v44:AV:=(.tup [S s14,vi 0])
def Q45:MM:=kG Q44 45 a44 v44
def a45:LA:=[]
def v45:AV:=(.bool true)
def Q46:MM:=kG Q45 6 a45 v45
end
theorem l0:iW (dP CC (T0 Q0) 5000 Yn a0 []) v0=true:=by kernel_rfl
theorem l1:iW (dP CC (T0 Q1) 5000 aat a1 []) v1=true:=by kernel_rfl
theorem l2:iW (dP CC (T0 Q2) 5000 wI a2 []) v2=true:=by kernel_rfl
theorem l3:iW (dP CC (T0 Q3) 5000 uO a3 []) v3=true:=by kernel_rfl
theorem l4:iW (dP CC (T0 Q4) 5000 kJ a4 []) v4=true:=by kernel_rfl
theorem l5:iW (dP CC (T0 Q5) 5000 yR a5 []) v5=true:=by kernel_rfl
theorem l6:iW (dP CC (T0 Q6) 5000 tZ a6 []) v6=true:=by kernel_rfl
theorem l7:iW (dP CC (T0 Q7) 5000 fH a7 []) v7=true:=by kernel_rfl
theorem l8:iW (dP CC (T0 Q8) 5000 qh a8 []) v8=true:=by kernel_rfl
theorem l9:iW (dP CC (T0 Q9) 5000 vU a9 []) v9=true:=by kernel_rfl
theorem l10:iW (dP CC (T0 Q10) 5000 wI a10 []) v10=true:=by kernel_rfl
theorem l11:iW (dP CC (T0 Q11) 5000 Yn a11 []) v11=true:=by kernel_rfl
theorem l12:iW (dP CC (T0 Q12) 5000 aas a12 []) v12=true:=by kernel_rfl
theorem l13:iW (dP CC (T0 Q13) 5000 DV a13 []) v13=true:=by kernel_rfl
theorem l14:iW (dP CC (T0 Q14) 5000 lJ a14 []) v14=true:=by kernel_rfl
theorem l15:iW (dP CC (T0 Q15) 5000 VQ a15 []) v15=true:=by kernel_rfl
theorem l16:iW (dP CC (T0 Q16) 5000 kJ a16 []) v16=true:=by kernel_rfl
theorem l17:iW (dP CC (T0 Q17) 5000 kJ a17 []) v17=true:=by kernel_rfl
theorem l18:iW (dP CC (T0 Q18) 5000 jO a18 []) v18=true:=by kernel_rfl
theorem l19:iW (dP CC (T0 Q19) 5000 uO a19 []) v19=true:=by kernel_rfl
theorem l20:iW (dP CC (T0 Q20) 5000 kJ a20 []) v20=true:=by kernel_rfl
theorem l21:iW (dP CC (T0 Q21) 5000 jO a21 []) v21=true:=by kernel_rfl
theorem l22:iW (dP CC (T0 Q22) 5000 fH a22 []) v22=true:=by kernel_rfl
theorem l23:iW (dP CC (T0 Q23) 5000 pK a23 []) v23=true:=by kernel_rfl
theorem l24:iW (dP CC (T0 Q24) 5000 pK a24 []) v24=true:=by kernel_rfl
theorem l25:iW (dP CC (T0 Q25) 5000 qh a25 []) v25=true:=by kernel_rfl
theorem l26:iW (dP CC (T0 Q26) 5000 Ue a26 []) v26=true:=by kernel_rfl
theorem l27:iW (dP CC (T0 Q27) 5000 Ue a27 []) v27=true:=by kernel_rfl
theorem l28:iW (dP CC (T0 Q28) 5000 P9 a28 []) v28=true:=by kernel_rfl
theorem l29:iW (dP CC (T0 Q29) 5000 adX a29 []) v29=true:=by kernel_rfl
theorem l30:iW (dP CC (T0 Q30) 5000 uO a30 []) v30=true:=by kernel_rfl
theorem l31:iW (dP CC (T0 Q31) 5000 kJ a31 []) v31=true:=by kernel_rfl
theorem l32:iW (dP CC (T0 Q32) 5000 jO a32 []) v32=true:=by kernel_rfl
theorem l33:iW (dP CC (T0 Q33) 5000 fH a33 []) v33=true:=by kernel_rfl
theorem l34:iW (dP CC (T0 Q34) 5000 pK a34 []) v34=true:=by kernel_rfl
theorem l35:iW (dP CC (T0 Q35) 5000 qh a35 []) v35=true:=by kernel_rfl
theorem l36:iW (dP CC (T0 Q36) 5000 VS a36 []) v36=true:=by kernel_rfl
theorem l37:iW (dP CC (T0 Q37) 5000 wI a37 []) v37=true:=by kernel_rfl
theorem l38:iW (dP CC (T0 Q38) 5000 uO a38 []) v38=true:=by kernel_rfl
theorem l39:iW (dP CC (T0 Q39) 5000 kJ a39 []) v39=true:=by kernel_rfl
theorem l40:iW (dP CC (T0 Q40) 5000 yR a40 []) v40=true:=by kernel_rfl
theorem l41:iW (dP CC (T0 Q41) 5000 fH a41 []) v41=true:=by kernel_rfl
theorem l42:iW (dP CC (T0 Q42) 5000 qh a42 []) v42=true:=by kernel_rfl
theorem l43:iW (dP CC (T0 Q43) 5000 adY a43 []) v43=true:=by kernel_rfl
theorem l44:iW (dP CC (T0 Q44) 5000 wI a44 []) v44=true:=by kernel_rfl
theorem l45:iW (dP CC (T0 Q45) 5000 kz a45 []) v45=true:=by kernel_rfl
theorem nxq{M:MM}{f:FuncId}{a:LA}{v:AV}(q:MOK CC M)(c:ae 0 a=true)(l:iW (dP CC (T0 M) 5000 f a []) v=true):MOK CC (kG M f a v):=akB q (YJ (zG zg (afg q) 5000) gK c l)
theorem q0:MOK CC Q0:=ant CC
theorem q1:MOK CC Q1:=nxq q0 (by kernel_rfl) l0
theorem q2:MOK CC Q2:=nxq q1 (by kernel_rfl) l1
theorem q3:MOK CC Q3:=nxq q2 (by kernel_rfl) l2
theorem q4:MOK CC Q4:=nxq q3 (by kernel_rfl) l3
theorem q5:MOK CC Q5:=nxq q4 (by kernel_rfl) l4
theorem q6:MOK CC Q6:=nxq q5 (by kernel_rfl) l5
theorem q7:MOK CC Q7:=nxq q6 (by kernel_rfl) l6
theorem q8:MOK CC Q8:=nxq q7 (by kernel_rfl) l7
theorem q9:MOK CC Q9:=nxq q8 (by kernel_rfl) l8
theorem q10:MOK CC Q10:=nxq q9 (by kernel_rfl) l9
theorem q11:MOK CC Q11:=nxq q10 (by kernel_rfl) l10
theorem q12:MOK CC Q12:=nxq q11 (by kernel_rfl) l11
theorem q13:MOK CC Q13:=nxq q12 (by kernel_rfl) l12
theorem q14:MOK CC Q14:=nxq q13 (by kernel_rfl) l13
theorem q15:MOK CC Q15:=nxq q14 (by kernel_rfl) l14
theorem q16:MOK CC Q16:=nxq q15 (by kernel_rfl) l15
theorem q17:MOK CC Q17:=nxq q16 (by kernel_rfl) l16
theorem q18:MOK CC Q18:=nxq q17 (by kernel_rfl) l17
theorem q19:MOK CC Q19:=nxq q18 (by kernel_rfl) l18
theorem q20:MOK CC Q20:=nxq q19 (by kernel_rfl) l19
theorem q21:MOK CC Q21:=nxq q20 (by kernel_rfl) l20
theorem q22:MOK CC Q22:=nxq q21 (by kernel_rfl) l21
theorem q23:MOK CC Q23:=nxq q22 (by kernel_rfl) l22
theorem q24:MOK CC Q24:=nxq q23 (by kernel_rfl) l23
theorem q25:MOK CC Q25:=nxq q24 (by kernel_rfl) l24
theorem q26:MOK CC Q26:=nxq q25 (by kernel_rfl) l25
theorem q27:MOK CC Q27:=nxq q26 (by kernel_rfl) l26
theorem q28:MOK CC Q28:=nxq q27 (by kernel_rfl) l27
theorem q29:MOK CC Q29:=nxq q28 (by kernel_rfl) l28
theorem q30:MOK CC Q30:=nxq q29 (by kernel_rfl) l29
theorem q31:MOK CC Q31:=nxq q30 (by kernel_rfl) l30
theorem q32:MOK CC Q32:=nxq q31 (by kernel_rfl) l31
theorem q33:MOK CC Q33:=nxq q32 (by kernel_rfl) l32
theorem q34:MOK CC Q34:=nxq q33 (by kernel_rfl) l33
theorem q35:MOK CC Q35:=nxq q34 (by kernel_rfl) l34
theorem q36:MOK CC Q36:=nxq q35 (by kernel_rfl) l35
theorem q37:MOK CC Q37:=nxq q36 (by kernel_rfl) l36
theorem q38:MOK CC Q38:=nxq q37 (by kernel_rfl) l37
theorem q39:MOK CC Q39:=nxq q38 (by kernel_rfl) l38
theorem q40:MOK CC Q40:=nxq q39 (by kernel_rfl) l39
theorem q41:MOK CC Q41:=nxq q40 (by kernel_rfl) l40
theorem q42:MOK CC Q42:=nxq q41 (by kernel_rfl) l41
theorem q43:MOK CC Q43:=nxq q42 (by kernel_rfl) l42
theorem q44:MOK CC Q44:=nxq q43 (by kernel_rfl) l43
theorem q45:MOK CC Q45:=nxq q44 (by kernel_rfl) l44
theorem q46:MOK CC Q46:=nxq q45 (by kernel_rfl) l45
theorem aiW:fK CC (dP CC (T0 Q46) 5000):=zG zg (afg q46) 5000
theorem aob:iW (dP CC (T0 Q46) 5000 kz [] []) (.bool true)=true:=by kernel_rfl
theorem fin:abD CC kz [] (.bool true):=YJ (zG zg (afg q46) 5000) gK (by kernel_rfl) aob
end Go.Proofs.YtpphohnabmlhpaaGreatDoor
namespace Go.Ev
set_option maxRecDepth 100000
variable{C:Ctx}{PK:PkI}
theorem aea(s:LU):(rH s).length<=2*s.length:=by
 unfold rH
 induction s with
 |nil=>simp
 |cons a l ih=>
  have h:(afY a).length=2:=rfl;rw[List.flatMap_cons,List.length_append,h,List.length_cons];omega
theorem Xf(hC:Has C kH jH):fC C PK kH (.pure [.strb,.int .i64] (.tup [.int .i64,.bool])):=
 vw hC rfl fun azs hm=>by
  obtain⟨x,y,rfl,h1,h2⟩:=ajE hm;obtain⟨a,rfl,ha⟩:=y8 h1;cases h2 with
  |int _ n=>
   intro O hσ;refine⟨_,LK hC a n O,?_⟩;unfold Ej;exact .tup _ _ (.cons _ _ _ _ (.int _ _) (.cons _ _ _ _ (.bool _) .nil))
theorem Tn(H:Hu C):fC C PK kE (.pure [.strb] .strb):=
 vw H.digest rfl fun azs hm=>by
  obtain⟨x,rfl,h1⟩:=Tc hm;obtain⟨a,rfl,ha⟩:=y8 h1;intro O hσ;refine⟨_,abp H a (by simp only[LB]at ha;omega) O hσ,.strb _ ?_⟩
  have:=aea (ou a);rw[mZ]at this;unfold abo;simp only[LB];omega
theorem aeW(H:Vl C):fC C PK uO (.pure [.strb,.strb] .strb):=
 vw H.of rfl fun azs hm=>by
  obtain⟨x,y,rfl,h1,h2⟩:=ajE hm;obtain⟨a,rfl,ha⟩:=y8 h1;obtain⟨b,rfl,hb⟩:=y8 h2;intro O hσ;refine⟨_,ahe H a b (by simp only[LB]at ha;omega) (by simp only[LB]at hb;omega) O hσ,.strb _ ?_⟩
  unfold hmac;simp only[mZ,LB];omega
end Go.Ev
namespace Go.Proofs.YtpphohnabmlhpaaGreatDoor
open Go.Shelf Go.Proofs
def Tryz.laysPI_ren:Go.Shelf.Ren:=⟨fun|174=>316|247=>329|245=>330|287=>336|279=>337|280=>338|281=>339|282=>340|321=>346|322=>347|316=>348|171=>162|205=>349|243=>211|246=>261|283=>298|284=>299|285=>300|286=>301|129=>221|317=>310|318=>311|319=>312|320=>313|337=>327|338=>328|n=>n,fun|9=>9|3=>3|2=>2|75=>265|85=>413|4=>4|167=>428|5=>5|53=>53|175=>429|46=>171|168=>431|37=>169|0=>0|210=>439|21=>21|127=>322|145=>445|143=>443|171=>394|173=>396|212=>411|51=>253|20=>20|213=>412|232=>427|233=>255|80=>175|n=>n,fun|15=>9|16=>10|17=>6|18=>7|19=>8|n=>n⟩
theorem Tryz.laysPI:Go.Proofs.LaysC.n174 Tryz.prog Tryz.laysPI_ren:={
 mixed:=by kernel_rfl
 f129:=Tryz.func221.trans (congrArg some (by kernel_rfl))
 f171:=Tryz.func162.trans (congrArg some (by kernel_rfl))
 f174:=Tryz.func316.trans (congrArg some (by kernel_rfl))
 f205:=Tryz.func349.trans (congrArg some (by kernel_rfl))
 f243:=Tryz.func211.trans (congrArg some (by kernel_rfl))
 f245:=Tryz.func330.trans (congrArg some (by kernel_rfl))
 f246:=Tryz.func261.trans (congrArg some (by kernel_rfl))
 f247:=Tryz.func329.trans (congrArg some (by kernel_rfl))
 f279:=Tryz.func337.trans (congrArg some (by kernel_rfl))
 f280:=Tryz.func338.trans (congrArg some (by kernel_rfl))
 f281:=Tryz.func339.trans (congrArg some (by kernel_rfl))
 f282:=Tryz.func340.trans (congrArg some (by kernel_rfl))
 f283:=Tryz.func298.trans (congrArg some (by kernel_rfl))
 f284:=Tryz.func299.trans (congrArg some (by kernel_rfl))
 f285:=Tryz.func300.trans (congrArg some (by kernel_rfl))
 f286:=Tryz.func301.trans (congrArg some (by kernel_rfl))
 f287:=Tryz.func336.trans (congrArg some (by kernel_rfl))
 f316:=Tryz.func348.trans (congrArg some (by kernel_rfl))
 f317:=Tryz.func310.trans (congrArg some (by kernel_rfl))
 f318:=Tryz.func311.trans (congrArg some (by kernel_rfl))
 f319:=Tryz.func312.trans (congrArg some (by kernel_rfl))
 f320:=Tryz.func313.trans (congrArg some (by kernel_rfl))
 f321:=Tryz.func346.trans (congrArg some (by kernel_rfl))
 f322:=Tryz.func347.trans (congrArg some (by kernel_rfl))
 f337:=Tryz.func327.trans (congrArg some (by kernel_rfl))
 f338:=Tryz.func328.trans (congrArg some (by kernel_rfl))
 t0:=Tryz.underlying0
 a0:=Tryz.isAgg0
 z0:=Tryz.sizeOf0
 v0:=Tryz.zeroValue0
 t2:=Tryz.underlying2
 a2:=Tryz.isAgg2
 z2:=Tryz.sizeOf2
 v2:=Tryz.zeroValue2
 t3:=Tryz.underlying3
 a3:=Tryz.isAgg3
 z3:=Tryz.sizeOf3
 v3:=Tryz.zeroValue3
 t4:=Tryz.underlying4
 a4:=Tryz.isAgg4
 z4:=Tryz.sizeOf4
 v4:=Tryz.zeroValue4
 t5:=Tryz.underlying5
 a5:=Tryz.isAgg5
 z5:=Tryz.sizeOf5
 v5:=Tryz.zeroValue5
 t9:=Tryz.underlying9
 a9:=Tryz.isAgg9
 z9:=Tryz.sizeOf9
 v9:=Tryz.zeroValue9
 t20:=Tryz.underlying20
 a20:=Tryz.isAgg20
 z20:=Tryz.sizeOf20
 v20:=Tryz.zeroValue20
 t21:=Tryz.underlying21
 a21:=Tryz.isAgg21
 z21:=Tryz.sizeOf21
 v21:=Tryz.zeroValue21
 t37:=Tryz.underlying169
 a37:=Tryz.isAgg169
 z37:=Tryz.sizeOf169
 v37:=Tryz.zeroValue169
 t46:=Tryz.underlying171
 a46:=Tryz.isAgg171
 z46:=Tryz.sizeOf171
 v46:=Tryz.zeroValue171
 t51:=Tryz.underlying253
 a51:=Tryz.isAgg253
 z51:=Tryz.sizeOf253
 v51:=Tryz.zeroValue253
 t53:=Tryz.underlying53
 a53:=Tryz.isAgg53
 z53:=Tryz.sizeOf53
 v53:=Tryz.zeroValue53
 t75:=Tryz.underlying265
 a75:=Tryz.isAgg265
 z75:=Tryz.sizeOf265
 v75:=Tryz.zeroValue265
 t85:=Tryz.underlying413
 a85:=Tryz.isAgg413
 z85:=Tryz.sizeOf413
 v85:=Tryz.zeroValue413
 t127:=Tryz.underlying322
 a127:=Tryz.isAgg322
 z127:=Tryz.sizeOf322
 v127:=Tryz.zeroValue322
 t143:=Tryz.underlying443
 a143:=Tryz.isAgg443
 z143:=Tryz.sizeOf443
 v143:=Tryz.zeroValue443
 t145:=Tryz.underlying445
 a145:=Tryz.isAgg445
 z145:=Tryz.sizeOf445
 v145:=Tryz.zeroValue445
 t167:=Tryz.underlying428
 a167:=Tryz.isAgg428
 z167:=Tryz.sizeOf428
 v167:=Tryz.zeroValue428
 t168:=Tryz.underlying431
 a168:=Tryz.isAgg431
 z168:=Tryz.sizeOf431
 v168:=Tryz.zeroValue431
 t171:=Tryz.underlying394
 a171:=Tryz.isAgg394
 z171:=Tryz.sizeOf394
 v171:=Tryz.zeroValue394
 t173:=Tryz.underlying396
 a173:=Tryz.isAgg396
 z173:=Tryz.sizeOf396
 v173:=Tryz.zeroValue396
 t175:=Tryz.underlying429
 a175:=Tryz.isAgg429
 z175:=Tryz.sizeOf429
 v175:=Tryz.zeroValue429
 t210:=Tryz.underlying439
 a210:=Tryz.isAgg439
 z210:=Tryz.sizeOf439
 v210:=Tryz.zeroValue439
 t212:=Tryz.underlying411
 a212:=Tryz.isAgg411
 z212:=Tryz.sizeOf411
 v212:=Tryz.zeroValue411
 t213:=Tryz.underlying412
 a213:=Tryz.isAgg412
 z213:=Tryz.sizeOf412
 t232:=Tryz.underlying427
 a232:=Tryz.isAgg427
 z232:=Tryz.sizeOf427
 v232:=Tryz.zeroValue427
 t233:=Tryz.underlying255
 a233:=Tryz.isAgg255
 z233:=Tryz.sizeOf255
 v233:=Tryz.zeroValue255
 g15:=by kernel_rfl
 g16:=by kernel_rfl
 g17:=by kernel_rfl
 g18:=by kernel_rfl
 g19:=by kernel_rfl
 t80:=Tryz.underlying175
 a80:=Tryz.isAgg175
 z80:=Tryz.sizeOf175
 v80:=Tryz.zeroValue175
 i0:=by kernel_rfl
 i2:=by kernel_rfl
 i3:=by kernel_rfl
 i4:=by kernel_rfl
 i5:=by kernel_rfl
 i9:=by kernel_rfl
 i20:=by kernel_rfl
 i21:=by kernel_rfl
 i37:=by kernel_rfl
 i46:=by kernel_rfl
 i51:=by kernel_rfl
 i53:=by kernel_rfl
 i75:=by kernel_rfl
 i80:=by kernel_rfl
 i85:=by kernel_rfl
 i127:=by kernel_rfl
 i143:=by kernel_rfl
 i145:=by kernel_rfl
 i167:=by kernel_rfl
 i168:=by kernel_rfl
 i171:=by kernel_rfl
 i173:=by kernel_rfl
 i175:=by kernel_rfl
 i210:=by kernel_rfl
 i212:=by kernel_rfl
 i232:=by kernel_rfl
 i233:=by kernel_rfl
 m15:=by kernel_rfl
 m16:=by kernel_rfl
 m17:=by kernel_rfl
 m18:=by kernel_rfl
 m19:=by kernel_rfl
 c0:=by kernel_rfl
 c2:=by kernel_rfl
 c3:=by kernel_rfl
 c4:=by kernel_rfl
 c5:=by kernel_rfl
 c9:=by kernel_rfl
 c20:=by kernel_rfl
 c21:=by kernel_rfl
 c37:=by kernel_rfl
 c46:=by kernel_rfl
 c51:=by kernel_rfl
 c53:=by kernel_rfl
 c75:=by kernel_rfl
 c80:=by kernel_rfl
 c85:=by kernel_rfl
 c127:=by kernel_rfl
 c143:=by kernel_rfl
 c145:=by kernel_rfl
 c167:=by kernel_rfl
 c168:=by kernel_rfl
 c171:=by kernel_rfl
 c173:=by kernel_rfl
 c175:=by kernel_rfl
 c210:=by kernel_rfl
 c212:=by kernel_rfl
 c213:=by kernel_rfl
 c232:=by kernel_rfl
 c233:=by kernel_rfl}
open Go.Ev Go.RowKit Go.Shelf
set_option maxRecDepth 100000
theorem ajq:AB Tryz.prog 316:=⟨_,Tryz.func316,by decide,rfl⟩
noncomputable def aeF(args:LA)(O:St):Option (AV×St):=
 match args with
 |[.str s,.int .i64 a,.int .i64 b]=>if a=10/\b=64/\s.length<=1099511627776 then match Lib.parseIntB 64 s with
  |.ok v=>some (.tup [.int .i64 v,.nilIface],O)
  |.range=>some (.tup [.int .i64 (Lib.intSat 64 s),.iface 431 (.eptr [])],O)
  |_=>some (.tup [.int .i64 0,.iface 431 (.eptr [])],O)
  else none
 |_=>none
def amd:AV->Bool
 |.iface _ _=>true
 |_=>false
theorem acA{C:Ctx}{g:Gh}{w:World}{O:St}(hw:WR g w O)(hg:GL C g){n:Nat}{e:AV}(h:C.gl n=some [e])(hi:amd e=true):∃ev,w.cell? ⟨n,0,none⟩=some ev/\(ev=.nilIface\/∃te pe,ev=.iface te pe):=by
 obtain⟨v,h1,h2⟩:=(hg.1 n _ h).1.get (i:=0) (a:=e) rfl;refine⟨v,hw.im _ _ _ h1,?_⟩;cases h2<;>first|(cases hi;done)|exact .inr ⟨_,_,rfl⟩
theorem amK{C:Ctx}(hP:C.P=Tryz.prog){e1 e2:AV}(h1:C.gl pO=some [e1])(h2:C.gl nG=some [e2])(i1:amd e1=true)(i2:amd e2=true):POK C 316 aeF:=by
 intro args O v O' h g w args' ha hw hg;unfold aeF at h;split at h
 ·rename_i s a b;split at h
  ·rename_i hc;obtain⟨rfl,rfl,hl⟩:=hc;cases ha with
   |cons _ v1 _ l1 x1 y1=>
   cases y1 with
   |cons _ v2 _ l2 x2 y2=>
   cases y2 with
   |cons _ v3 _ l3 x3 y3=>
   cases y3;cases x1;cases x2;cases x3;have hsz:(⟨⟨s⟩⟩:ByteArray).size=s.length:=rfl;obtain⟨ev1,c1,d1⟩:=acA hw hg h1 i1;obtain⟨ev2,c2,d2⟩:=acA hw hg h2 i2;refine zK (by rw[hP];exact ajq) ?_
   rw[hP];cases hz:Lib.parseIntB 64 s
   ·rename_i z;rw[hz]at h;cases h;refine(Any.strconv_ParseInt_10_at64_ok Tryz.laysPI ⟨⟨s⟩⟩ (by rw[hsz];omega) z hz w).mono fun e w' ⟨he,hw'⟩=>⟨_,he,g,?_,.tup _ _ (.cons _ _ _ _ (.int _ _) (.cons _ _ _ _ .nilIface .nil))⟩
    refine tu hw ?_;rcases hw' with rfl|⟨t,rfl⟩
    ·exact Below.refl _ _
    ·exact Lib.bytesWorld_below _ _ _
   ·rw[hz]at h;cases h;exact(Any.strconv_ParseInt_10_at64_syntax Tryz.laysPI ⟨⟨s⟩⟩ (by rw[hsz];omega) hz ev2 w c2 d2).mono fun e w' ⟨n,he,_,_,hb⟩=>⟨_,he,g,tu hw hb,.tup _ _ (.cons _ _ _ _ (.int _ _) (.cons _ _ _ _ (.iface _ _ _ (.eptr _ _ _ (.nil _ _))) .nil))⟩
   ·rw[hz]at h;cases h;exact(Any.strconv_ParseInt_10_at64_range Tryz.laysPI ⟨⟨s⟩⟩ (by rw[hsz];omega) hz ev1 w c1 d1).mono fun e w' ⟨n,he,_,_,hb⟩=>⟨_,he,g,tu hw hb,.tup _ _ (.cons _ _ _ _ (.int _ _) (.cons _ _ _ _ (.iface _ _ _ (.eptr _ _ _ (.nil _ _))) .nil))⟩
  ·cases h
 ·cases h
def Tryz.laysSR_ren:Go.Shelf.Ren:=⟨fun|6=>295|15=>164|14=>309|28=>220|29=>221|20=>319|21=>320|22=>321|23=>322|24=>323|25=>324|26=>325|27=>326|46=>333|47=>267|48=>268|49=>334|50=>335|57=>345|n=>n,fun|22=>362|24=>364|25=>392|3=>3|39=>171|0=>0|53=>253|55=>53|4=>4|46=>329|45=>328|50=>273|5=>5|9=>9|66=>377|70=>223|76=>399|77=>400|n=>n,fun|n=>n⟩
theorem Tryz.laysSR:Go.Proofs.SlLaysF0.n6 Tryz.prog Tryz.laysSR_ren:={
 mixed:=by kernel_rfl
 f6:=⟨Tryz.f295.name,by decide,Tryz.func295.trans (congrArg some (by kernel_rfl))⟩
 f14:=⟨Tryz.f309.name,by decide,Tryz.func309.trans (congrArg some (by kernel_rfl))⟩
 f15:=Tryz.func164.trans (congrArg some (by kernel_rfl))
 f20:=⟨Tryz.f319.name,by decide,Tryz.func319.trans (congrArg some (by kernel_rfl))⟩
 f21:=⟨Tryz.f320.name,by decide,Tryz.func320.trans (congrArg some (by kernel_rfl))⟩
 f22:=⟨Tryz.f321.name,by decide,Tryz.func321.trans (congrArg some (by kernel_rfl))⟩
 f23:=⟨Tryz.f322.name,by decide,Tryz.func322.trans (congrArg some (by kernel_rfl))⟩
 f24:=⟨Tryz.f323.name,by decide,Tryz.func323.trans (congrArg some (by kernel_rfl))⟩
 f25:=⟨Tryz.f324.name,by decide,Tryz.func324.trans (congrArg some (by kernel_rfl))⟩
 f26:=⟨Tryz.f325.name,by decide,Tryz.func325.trans (congrArg some (by kernel_rfl))⟩
 f27:=⟨Tryz.f326.name,by decide,Tryz.func326.trans (congrArg some (by kernel_rfl))⟩
 f28:=Tryz.func220.trans (congrArg some (by kernel_rfl))
 f29:=Tryz.func221.trans (congrArg some (by kernel_rfl))
 f46:=⟨Tryz.f333.name,by decide,Tryz.func333.trans (congrArg some (by kernel_rfl))⟩
 f47:=Tryz.func267.trans (congrArg some (by kernel_rfl))
 f48:=Tryz.func268.trans (congrArg some (by kernel_rfl))
 f49:=⟨Tryz.f334.name,by decide,Tryz.func334.trans (congrArg some (by kernel_rfl))⟩
 f50:=⟨Tryz.f335.name,by decide,Tryz.func335.trans (congrArg some (by kernel_rfl))⟩
 f57:=⟨Tryz.f345.name,by decide,Tryz.func345.trans (congrArg some (by kernel_rfl))⟩
 t0:=Tryz.underlying0
 a0:=Tryz.isAgg0
 z0:=Tryz.sizeOf0
 v0:=Tryz.zeroValue0
 t3:=Tryz.underlying3
 a3:=Tryz.isAgg3
 z3:=Tryz.sizeOf3
 v3:=Tryz.zeroValue3
 t4:=Tryz.underlying4
 a4:=Tryz.isAgg4
 z4:=Tryz.sizeOf4
 v4:=Tryz.zeroValue4
 t5:=Tryz.underlying5
 a5:=Tryz.isAgg5
 z5:=Tryz.sizeOf5
 v5:=Tryz.zeroValue5
 t9:=Tryz.underlying9
 a9:=Tryz.isAgg9
 z9:=Tryz.sizeOf9
 v9:=Tryz.zeroValue9
 t22:=Tryz.underlying362
 a22:=Tryz.isAgg362
 z22:=Tryz.sizeOf362
 v22:=Tryz.zeroValue362
 t25:=Tryz.underlying392
 a25:=Tryz.isAgg392
 z25:=Tryz.sizeOf392
 v25:=Tryz.zeroValue392
 t39:=Tryz.underlying171
 a39:=Tryz.isAgg171
 z39:=Tryz.sizeOf171
 v39:=Tryz.zeroValue171
 t45:=Tryz.underlying328
 a45:=Tryz.isAgg328
 z45:=Tryz.sizeOf328
 v45:=Tryz.zeroValue328
 t46:=Tryz.underlying329
 a46:=Tryz.isAgg329
 z46:=Tryz.sizeOf329
 v46:=Tryz.zeroValue329
 t50:=Tryz.underlying273
 a50:=Tryz.isAgg273
 z50:=Tryz.sizeOf273
 v50:=Tryz.zeroValue273
 t53:=Tryz.underlying253
 a53:=Tryz.isAgg253
 z53:=Tryz.sizeOf253
 v53:=Tryz.zeroValue253
 t55:=Tryz.underlying53
 a55:=Tryz.isAgg53
 z55:=Tryz.sizeOf53
 v55:=Tryz.zeroValue53
 t66:=Tryz.underlying377
 a66:=Tryz.isAgg377
 z66:=Tryz.sizeOf377
 v66:=Tryz.zeroValue377
 t70:=Tryz.underlying223
 a70:=Tryz.isAgg223
 z70:=Tryz.sizeOf223
 v70:=Tryz.zeroValue223
 t76:=Tryz.underlying399
 a76:=Tryz.isAgg399
 z76:=Tryz.sizeOf399
 v76:=Tryz.zeroValue399
 t77:=Tryz.underlying400
 a77:=Tryz.isAgg400
 z77:=Tryz.sizeOf400
 v77:=Tryz.zeroValue400}
def Tryz.laysSM_ren:Go.Shelf.Ren:=⟨fun|6=>107|15=>164|14=>166|28=>220|29=>221|20=>222|21=>223|22=>224|23=>225|24=>226|25=>227|26=>228|27=>229|46=>271|47=>267|48=>268|49=>272|50=>273|57=>304|n=>n,fun|22=>125|24=>131|25=>204|3=>3|39=>171|0=>0|53=>253|55=>53|4=>4|46=>329|45=>328|50=>273|5=>5|9=>9|66=>377|70=>223|76=>399|77=>400|n=>n,fun|n=>n⟩
theorem Tryz.laysSM:Go.Proofs.SlLaysF0.n6 Tryz.prog Tryz.laysSM_ren:={
 mixed:=by kernel_rfl
 f6:=⟨Tryz.f107.name,by decide,Tryz.func107.trans (congrArg some (by kernel_rfl))⟩
 f14:=⟨Tryz.f166.name,by decide,Tryz.func166.trans (congrArg some (by kernel_rfl))⟩
 f15:=Tryz.func164.trans (congrArg some (by kernel_rfl))
 f20:=⟨Tryz.f222.name,by decide,Tryz.func222.trans (congrArg some (by kernel_rfl))⟩
 f21:=⟨Tryz.f223.name,by decide,Tryz.func223.trans (congrArg some (by kernel_rfl))⟩
 f22:=⟨Tryz.f224.name,by decide,Tryz.func224.trans (congrArg some (by kernel_rfl))⟩
 f23:=⟨Tryz.f225.name,by decide,Tryz.func225.trans (congrArg some (by kernel_rfl))⟩
 f24:=⟨Tryz.f226.name,by decide,Tryz.func226.trans (congrArg some (by kernel_rfl))⟩
 f25:=⟨Tryz.f227.name,by decide,Tryz.func227.trans (congrArg some (by kernel_rfl))⟩
 f26:=⟨Tryz.f228.name,by decide,Tryz.func228.trans (congrArg some (by kernel_rfl))⟩
 f27:=⟨Tryz.f229.name,by decide,Tryz.func229.trans (congrArg some (by kernel_rfl))⟩
 f28:=Tryz.func220.trans (congrArg some (by kernel_rfl))
 f29:=Tryz.func221.trans (congrArg some (by kernel_rfl))
 f46:=⟨Tryz.f271.name,by decide,Tryz.func271.trans (congrArg some (by kernel_rfl))⟩
 f47:=Tryz.func267.trans (congrArg some (by kernel_rfl))
 f48:=Tryz.func268.trans (congrArg some (by kernel_rfl))
 f49:=⟨Tryz.f272.name,by decide,Tryz.func272.trans (congrArg some (by kernel_rfl))⟩
 f50:=⟨Tryz.f273.name,by decide,Tryz.func273.trans (congrArg some (by kernel_rfl))⟩
 f57:=⟨Tryz.f304.name,by decide,Tryz.func304.trans (congrArg some (by kernel_rfl))⟩
 t0:=Tryz.underlying0
 a0:=Tryz.isAgg0
 z0:=Tryz.sizeOf0
 v0:=Tryz.zeroValue0
 t3:=Tryz.underlying3
 a3:=Tryz.isAgg3
 z3:=Tryz.sizeOf3
 v3:=Tryz.zeroValue3
 t4:=Tryz.underlying4
 a4:=Tryz.isAgg4
 z4:=Tryz.sizeOf4
 v4:=Tryz.zeroValue4
 t5:=Tryz.underlying5
 a5:=Tryz.isAgg5
 z5:=Tryz.sizeOf5
 v5:=Tryz.zeroValue5
 t9:=Tryz.underlying9
 a9:=Tryz.isAgg9
 z9:=Tryz.sizeOf9
 v9:=Tryz.zeroValue9
 t22:=Tryz.underlying125
 a22:=Tryz.isAgg125
 z22:=Tryz.sizeOf125
 v22:=Tryz.zeroValue125
 t25:=Tryz.underlying204
 a25:=Tryz.isAgg204
 z25:=Tryz.sizeOf204
 v25:=Tryz.zeroValue204
 t39:=Tryz.underlying171
 a39:=Tryz.isAgg171
 z39:=Tryz.sizeOf171
 v39:=Tryz.zeroValue171
 t45:=Tryz.underlying328
 a45:=Tryz.isAgg328
 z45:=Tryz.sizeOf328
 v45:=Tryz.zeroValue328
 t46:=Tryz.underlying329
 a46:=Tryz.isAgg329
 z46:=Tryz.sizeOf329
 v46:=Tryz.zeroValue329
 t50:=Tryz.underlying273
 a50:=Tryz.isAgg273
 z50:=Tryz.sizeOf273
 v50:=Tryz.zeroValue273
 t53:=Tryz.underlying253
 a53:=Tryz.isAgg253
 z53:=Tryz.sizeOf253
 v53:=Tryz.zeroValue253
 t55:=Tryz.underlying53
 a55:=Tryz.isAgg53
 z55:=Tryz.sizeOf53
 v55:=Tryz.zeroValue53
 t66:=Tryz.underlying377
 a66:=Tryz.isAgg377
 z66:=Tryz.sizeOf377
 v66:=Tryz.zeroValue377
 t70:=Tryz.underlying223
 a70:=Tryz.isAgg223
 z70:=Tryz.sizeOf223
 v70:=Tryz.zeroValue223
 t76:=Tryz.underlying399
 a76:=Tryz.isAgg399
 z76:=Tryz.sizeOf399
 v76:=Tryz.zeroValue399
 t77:=Tryz.underlying400
 a77:=Tryz.isAgg400
 z77:=Tryz.sizeOf400
 v77:=Tryz.zeroValue400}
def Tryz.laysCmp_ren:Go.Shelf.Ren:=⟨fun|106=>109|213=>167|265=>230|n=>n,fun|9=>9|3=>3|n=>n,fun|n=>n⟩
theorem Tryz.laysCmp:Go.Proofs.Lays.n106 Tryz.prog Tryz.laysCmp_ren:={
 mixed:=by kernel_rfl
 f106:=Tryz.func109.trans (congrArg some (by kernel_rfl))
 f213:=Tryz.func167.trans (congrArg some (by kernel_rfl))
 f265:=Tryz.func230.trans (congrArg some (by kernel_rfl))
 t3:=Tryz.underlying3
 a3:=Tryz.isAgg3
 z3:=Tryz.sizeOf3
 v3:=Tryz.zeroValue3
 t9:=Tryz.underlying9
 a9:=Tryz.isAgg9
 z9:=Tryz.sizeOf9
 v9:=Tryz.zeroValue9}
open Go.Ev Go.RowKit Go.Shelf Go.Proofs Go.Lib Go.Sort
theorem ajt:AB Tryz.prog 295:=⟨_,Tryz.func295,by decide,rfl⟩
theorem ajs:AB Tryz.prog 107:=⟨_,Tryz.func107,by decide,rfl⟩
theorem five{u:List Value}(h:u.length=5):∃a b c d e,u=[a,b,c,d,e]:=by
 match u,h with
 |[a,b,c,d,e],_=>exact⟨a,b,c,d,e,rfl⟩
set_option maxHeartbeats 1000000 in
theorem ap9(x y:LU)(u v:List Value)(W:World)(hu:u.length=5)(hv:v.length=5):Calls Tryz.prog 296 #[.agg (.string ⟨⟨x⟩⟩::u).toArray,.agg (.string ⟨⟨y⟩⟩::v).toArray] W fun e w'=>e=.returned (.int .i64 (compareBytes x y))/\∃q os',w'=grow (W.drewN q) os':=by
 obtain⟨a1,a2,a3,a4,a5,rfl⟩:=five hu;obtain⟨b1,b2,b3,b4,b5,rfl⟩:=five hv;have hcon:=fun W'=>Any.strings_Compare Tryz.laysCmp ⟨⟨x⟩⟩ ⟨⟨y⟩⟩ W';change∀W',Calls Tryz.prog 109 _ _ (fun e w'=>e=.returned (.int .i64 (compareBytes x y))/\w'=W')at hcon;generalize compareBytes x y=r at hcon⊢
 go_enter Tryz.func296,Tryz.ntmps296
 go_wp2_with (go_at_call 109;refine(hcon _).mono ?_;rintro e w' ⟨rfl,rfl⟩)
 go_ret
 exact⟨rfl,0,_,by rw[alloc_eq_grow,alloc_eq_grow,grow_grow];rfl⟩
set_option maxHeartbeats 1000000 in
theorem ap8(x y:LU)(u v:List Value)(W:World)(hu:u.length=5)(hv:v.length=5):Calls Tryz.prog 108 #[.agg (.string ⟨⟨x⟩⟩::u).toArray,.agg (.string ⟨⟨y⟩⟩::v).toArray] W fun e w'=>e=.returned (.int .i64 (compareBytes x y))/\∃q os',w'=grow (W.drewN q) os':=by
 obtain⟨a1,a2,a3,a4,a5,rfl⟩:=five hu;obtain⟨b1,b2,b3,b4,b5,rfl⟩:=five hv;have hcon:=fun W'=>Any.strings_Compare Tryz.laysCmp ⟨⟨x⟩⟩ ⟨⟨y⟩⟩ W';change∀W',Calls Tryz.prog 109 _ _ (fun e w'=>e=.returned (.int .i64 (compareBytes x y))/\w'=W')at hcon;generalize compareBytes x y=r at hcon⊢
 go_enter Tryz.func108,Tryz.ntmps108
 go_wp2_with (go_at_call 109;refine(hcon _).mono ?_;rintro e w' ⟨rfl,rfl⟩)
 go_ret
 exact⟨rfl,0,_,by rw[alloc_eq_grow,alloc_eq_grow,grow_grow];rfl⟩
variable{C:Ctx}(hP:C.P=Tryz.prog)
 include hP
theorem ahR:POK C 295 (NH 296):=by
 refine ad1 (C:=C) (ρ:=Tryz.laysSR_ren) (hP▸Tryz.laysSR) rfl (hP▸ajt) ?_ ?_ ?_ ?_
 ·rw[hP];exact Tryz.isAgg364
 ·rw[hP];exact Tryz.sizeOf364
 ·rw[hP];exact enters_of Tryz.func296 (by kernel_rfl) rfl
 ·rw[hP];exact ap9
theorem ahQ:POK C 107 (NH 108):=by
 refine ad1 (C:=C) (ρ:=Tryz.laysSM_ren) (hP▸Tryz.laysSM) rfl (hP▸ajs) ?_ ?_ ?_ ?_
 ·rw[hP];exact Tryz.isAgg131
 ·rw[hP];exact Tryz.sizeOf131
 ·rw[hP];exact enters_of Tryz.func108 (by kernel_rfl) rfl
 ·rw[hP];exact ap8
end Go.Proofs.YtpphohnabmlhpaaGreatDoor
namespace Go.Proofs.YtpphohnabmlhpaaGreatDoor
theorem ahX(f:Nat):∀(l:List UInt8) (n:Nat) (out:List UInt8),out.length<=4096->(WL f l n out).1.length<=4096:=by
 induction f with
 |zero=>intro l n out h;simp[WL]
 |succ f ih=>
  intro l n out h
  match l with
  |[]=>simp[WL]
  |c::t=>
   simp only[WL];split
   ·exact h
   ·split
    ·simp
    ·split
     ·simp
     ·exact ih _ _ _ (by simp only[List.length_append];omega)
theorem aeJ(l:List UInt8)(i:Int):(qy l i).1.length<=4096:=by
 unfold qy;split
 ·simp
 ·show(KA _).1.length<=4096;unfold KA;split
  ·simp
  ·split
   ·simp
   ·exact ahX _ _ _ _ (by simp)
theorem ab7(l:List UInt8):(qP l).1.length<=8194:=by
 unfold qP;split
 ·simp
 ·split
  ·have:=Yl l;show(Rj l).length<=8194;rw[ab6];omega
  ·simp
open Go.Ev Go.RowKit
set_option maxRecDepth 1000000
noncomputable section
abbrev Gt:=LA->St->Option (AV×St)
def prL:List (FuncId×Gt)->FuncId->Option Gt
 |[],_=>none
 |(g,h)::l,f=>match Nat.beq f g with
  |true=>some h
  |false=>prL l f
theorem ab5{C:Ctx}:∀{l:List (FuncId×Gt)},(∀p∈l,POK C p.1 p.2)->∀f h,prL l f=some h->POK C f h
 |[],_,f,h,e=>by cases e
 |(g,k)::l,hl,f,h,e=>by
  unfold prL at e;split at e
  ·rename_i hb;have:=Nat.eq_of_beq_eq_true hb;subst this;cases e;exact hl (f,k) (by simp)
  ·exact ab5 (fun p hp=>hl p (by simp[hp])) f h e
theorem jb{C:Ctx}{f:FuncId}{h:Gt}(hp:C.prim f=some h)(args:LA)(O:St):ai C f args O=h args O:=by
 rw[Xc];unfold Qn;rw[hp]
theorem ahS{C D:Ctx}(hP:D.P=C.P)(hg:∀n l,C.gl n=some l->D.gl n=some l)(hn:C.np=true){f:FuncId}{p:Gt}(h:POK C f p):POK D f p:=by
 intro args O v O' h1 g w args' ha hw hgl;rw[hP];exact h args O v O' h1 g w args' ha hw ⟨fun n l hl=>hgl.1 n l (hg n l hl),.inl hn⟩
def CL0:Ctx:={CC with np:=true}
theorem aln:ZW CL0:=fun f x h=>uo Tryz.prog glT (fun _=>false) Rh f x h
theorem afa:Ht CL0:=by
 intro f h hh;change Rh f=some h at hh;unfold Rh at hh;split at hh
 ·rename_i hf;have:=Nat.eq_of_beq_eq_true hf;subst this;cases hh;exact FU (C:=CL0) rfl
 ·cases hh
theorem abA:fK CL0 (ai CL0):=F8 zg aln afa
def CR1:Ctx:={CR with np:=true}
theorem ZV(n:Nat):fK CR1 (evF CR1 n):=DT (C:=CR1) zg (fun f x h=>uo Tryz.prog glT (fun _=>true) (fun _=>none) f x h) (fun f h hh=>by simp[CR1,CR,gQ]at hh) n
theorem anP{f:FuncId}{K:KF}(h:Has CC f K):Has CL0 f K:=⟨h.fs,h.prim,h.raw,h.ok⟩
def isS:AV->Bool
 |.str _=>true
 |_=>false
def QW(args:LA)(O:St):Option (AV×St):=
 match args with
 |[.sl n l]=>match Hw (Hw (Nat.beq l.length n) (Nat.ble n 8192)) (l.all isS)with
  |true=>some (.sl n l,O)
  |false=>none
 |_=>none
theorem acB:∀{l:LA},l.all isS=true->∃ns:List LU,l=ns.map .str
 |[],_=>⟨[],rfl⟩
 |a::l,h=>by
  rw[List.all_cons,Bool.and_eq_true]at h;obtain⟨ns,rfl⟩:=acB h.2;cases a with
  |str s=>exact⟨s::ns,rfl⟩
  |_=>cases h.1
theorem ahO:POK CL0 dQ QW:=by
 intro args O v O' h g w args' ha hw hg;unfold QW at h;split at h
 ·rename_i n l;split at h
  ·rename_i hb;rw[qp,Bool.and_eq_true,qp,Bool.and_eq_true]at hb;have hl:=Nat.eq_of_beq_eq_true hb.1.1;have hn:=Nat.le_of_ble_eq_true hb.1.2;cases h;by_cases h0:n=0
   ·subst h0;have:l=[]:=List.length_eq_zero_iff.mp hl;subst this;exact Iw (C:=CR1) (ZV 100) gK (by kernel_rfl) (by kernel_rfl) [.sl 0 []] O _ _ rfl g w args' ha hw hg
   ·obtain⟨ns,rfl⟩:=acB hb.2;have hl:ns.length=n:=by simpa using hl
    subst hl;refine lT abA gK ?_ (aaf (C:=CL0) (anP (VX (by kernel_rfl) (by kernel_rfl) (by kernel_rfl) rfl rfl)) ns (by omega) hn [] ok0) ha hw hg
    rw[ae,below,mM];rfl
  ·cases h
 ·cases h
theorem ai4:iW (evF CR1 3000 tZ [] []) (.agg vk)=true:=by kernel_rfl
def WG(args:LA)(O:St):Option (AV×St):=match args with|[]=>some (.agg vk,O)|_=>none
theorem ahN:POK CL0 tZ WG:=by
 intro args O v O' h g w args' ha hw hg;unfold WG at h;split at h
 ·cases h;exact lT (C:=CR1) (ZV 3000) gK rfl (CO ai4) ha hw hg
 ·cases h
def glX(u1 u2:TypeId)(g:Nat):Option LA:=match Nat.beq g pO with
 |true=>some [.iface u1 (.eptr [])]
 |false=>match Nat.beq g nG with
  |true=>some [.iface u2 (.eptr [])]
  |false=>glT g
def Zk(f:FuncId):Bool:=match Nat.beq f bU with
 |true=>true
 |false=>match Nat.beq f wG with
  |true=>true
  |false=>Nat.beq f cZ
def ab2:Gt:=Dp (fun s=>.bool (vF s).isSome)
def ab1:Gt:=Dp (fun s=>.tup [.str (qP s).1,.int .i64 (qP s).2])
def ahJ:Gt:=FT (fun s i=>.tup [.str (qy s i).1,.int .i64 (qy s i).2.1,.int .i64 (qy s i).2.2])
def GY:List (FuncId×Gt):=[(iG,NG),(jD,zY),(kP,uZ),(dR,NH xK),(iV,NH zM),(dQ,QW),(tZ,WG),(y7,aeF),(zN,ab2),(GG,ab1),(Jz,ahJ)]
def C0(u1 u2:TypeId):Ctx:={gQ Tryz.prog (glX u1 u2) Zk (prL GY)with np:=true}
variable{u1 u2:TypeId}
theorem akM:∀n l,glT n=some l->glX u1 u2 n=some l:=by
 intro n l h;unfold glX;split
 ·rename_i hb;have:=Nat.eq_of_beq_eq_true hb;subst this;rw[show glT pO=none by kernel_rfl]at h
  cases h
 ·split
  ·rename_i hb;have:=Nat.eq_of_beq_eq_true hb;subst this;rw[show glT nG=none by kernel_rfl]at h
   cases h
  ·exact h
theorem adz:∀n l,(C0 u1 u2).gl n=some l->ae 0 l=true:=by
 intro n l h;change glX u1 u2 n=some l at h;unfold glX at h;split at h
 ·cases h;rfl
 ·split at h
  ·cases h;rfl
  ·exact gK n l h
theorem ano:ZW (C0 u1 u2):=fun f x h=>uo Tryz.prog (glX u1 u2) Zk (prL GY) f x h
theorem aiF:Ht (C0 u1 u2):=by
 have tr:∀{f p},POK CL0 f p->POK (C0 u1 u2) f p:=fun h=>ahS (C:=CL0) (D:=C0 u1 u2) rfl (fun n l hl=>akM n l hl) rfl h;have hP:(C0 u1 u2).P=Tryz.prog:=rfl;have h:=ab5 (C:=C0 u1 u2) (l:=GY) (by
  unfold GY;simp only[List.forall_mem_cons];exact⟨acY hP,UT hP,FU hP,ahR hP,ahQ hP,tr ahO,tr ahN,amK hP rfl rfl rfl rfl,Zh hP,Zg hP,acZ hP,fun _ h=>by simp at h⟩)
 exact h
theorem Lc:fK (C0 u1 u2) (ai (C0 u1 u2)):=F8 zg ano aiF
theorem has{f:FuncId}{K:KF}(h1:cF Tryz.prog f=some K.forget:=by kernel_rfl)(h2:S9 Tryz.prog f=true:=by kernel_rfl)(h3:K.ok=true:=by kernel_rfl)(hp:prL GY f=none:=by exact rfl)(hr:Zk f=false:=by exact rfl):Has (C0 u1 u2) f K:=by
 refine⟨?_,hp,hr,h3⟩;show(gQ Tryz.prog (glX u1 u2) Zk (prL GY)).fs f=_;simp only[gQ,h2,h1]
theorem am6{f:FuncId}{K:KF}(h1:cF Tryz.prog f=some K.forget:=by kernel_rfl)(h2:S9 Tryz.prog f=true:=by kernel_rfl)(h3:K.ok=true:=by kernel_rfl)(hp:prL GY f=none:=by exact rfl)(hr:Zk f=true:=by exact rfl):Vj (C0 u1 u2) f K:=by
 refine⟨?_,hp,hr,h3⟩;show(gQ Tryz.prog (glX u1 u2) Zk (prL GY)).fs f=_;simp only[gQ,h2,h1]
theorem apc{f:FuncId}(h:Pm Tryz.prog f=true)(hp:prL GY f=none)(hr:Zk f=false):Has (C0 u1 u2) f (kA Tryz.prog f):=by
 have k:=ajz (gl:=glX u1 u2) h hp hr;exact⟨k.fs,k.prim,k.raw,k.ok⟩
end
section
variable{u1 u2:TypeId}
theorem amH(s:LU)(Y:St)(h:s.length<=1099511627776):∃(n:Int) (v:AV),aeF [.str s,.int .i64 10,.int .i64 64] Y=some (.tup [.int .i64 n,v],Y)/\(v=.nilIface\/∃t x,v=.iface t x):=by
 unfold aeF;dsimp only;rw[if_pos ⟨rfl,rfl,h⟩];split
 ·exact⟨_,_,rfl,.inl rfl⟩
 ·exact⟨_,_,rfl,.inr ⟨_,_,rfl⟩⟩
 ·exact⟨_,_,rfl,.inr ⟨_,_,rfl⟩⟩
end
theorem TQ:∀s:LU,DJ (ofBytes s)=some s
 |[]=>rfl
 |a::s=>by
  have h:=TQ s;have hb:Nat.ble a.toNat 255=true:=Nat.ble_eq_true_of_le (Nat.le_of_lt_succ (UInt8.toNat_lt a));show DJ (.int .u8 (.ofNat a.toNat)::ofBytes s)=_;unfold DJ;simp only[hb,h];simp
section
variable(u1 u2:TypeId)
theorem ak3:abH (C0 u1 u2):=fun s Y hs hτ=>by
 obtain⟨n,v,h1,h2⟩:=amH s Y (by omega)
 exact⟨n,v,(jb (h:=aeF) rfl _ _).trans h1,h2⟩
theorem amy:ZZ (C0 u1 u2):=fun s i Y hs hi hτ=>ahx (has) (has) (ak3 u1 u2) s (by omega) i hi Y hτ
theorem amP:Z4 (C0 u1 u2):=fun s i Y hs hi hτ=>by
 refine⟨(qy s i).1,(qy s i).2.1,(qy s i).2.2,?_,Int.natCast_nonneg _,?_⟩
 ·rw[jb (h:=ahJ) rfl];unfold ahJ FT;dsimp only;rw[if_pos (Nat.ble_eq_true_of_le (by omega))]
 ·have:=aeJ s i;simp only[LB];omega
theorem ai5:XG (C0 u1 u2):=fun Y hτ=>by rw[jb (h:=WG) rfl];rfl
theorem aks:zA (C0 u1 u2):=by constructor<;>exact has
theorem amm:O7 (C0 u1 u2)where
 sign:=aks u1 u2
 skip:=has
 word:=has
 number:=has
 text:=has
 num:=amy u1 u2
 quo:=amP u1 u2
 rules:=ai5 u1 u2
 token:=has
 next:=has
theorem af5:EJ (C0 u1 u2)where
 lex:=amm u1 u2
 space:=has
 next:=has
 wrong:=has
 expect:=has
 more:=has
 srt:=adm fun args O=>jb rfl args O
 sorted:=am6
 member:=has
 object:=has
 list:=has
 value:=has
theorem afK:OY (C0 u1 u2):=fun ns O hn hσ=>by
 rw[jb (h:=QW) rfl];have h1:Nat.beq (ns.map AV.str).length ns.length=true:=by rw[List.length_map];exact Nat.beq_refl _
 have h2:=Nat.ble_eq_true_of_le hn;have h3:(ns.map AV.str).all isS=true:=by
  rw[List.all_map,List.all_eq_true];exact fun _ _=>rfl
 unfold QW;simp only[qp,h1,h2,h3,Bool.and_self]
theorem VM:CopyHas (C0 u1 u2):=⟨afK u1 u2,has,has,has⟩
theorem ajo:Oo (C0 u1 u2):=by constructor<;>exact has
theorem amA:Vp (C0 u1 u2)where
 toCopyHas:=VM u1 u2
 clone:=fun xs h0 hn O hσ=>SY (am6) xs h0 hn O hσ
 srt:=adm fun args O=>jb rfl args O
 of:=has
theorem alR:BldHas (C0 u1 u2)where
 copy0:=fun O o b h=>by
  rw[jb (h:=NG) rfl];simp only[NG,h,bT]
 copy1:=fun O o b h=>by
  rw[jb (h:=NG) rfl];have e:=Nat.beq_refl o;simp only[NG,h,bT,e]
 str0:=fun O o p h=>by
  rw[jb (h:=zY) rfl];simp only[zY,h,bT]
 str1:=fun O o q p w h k hw hl=>by
  rw[jb (h:=zY) rfl];cases w with
  |nil=>exact absurd rfl hw
  |cons b s=>
   have e:=TQ (b::s);have e1:Nat.beq (b::s).length (b::s).length=true:=Nat.beq_refl _;have e2:Nat.ble (b::s).length 1099511627776=true:=Nat.ble_eq_true_of_le hl;simp only[bT,uT]at k h;simp only[zY,h,k,e,qp,e1,e2,Bool.and_self]
 wstr:=has
 wbyte:=has
theorem am2:Lh (C0 u1 u2)where
 len:=has
 log:=has
 b2i:=has
 nd:=has
 gl:=rfl
 fb:=am6
 small:=has
 int:=has
 fmt:=has
 show_:=has
theorem alU:Ha (C0 u1 u2)where
 toBldHas:=alR u1 u2
 quote:=fun s hs O hσ=>by
  refine⟨(qP s).1,(qP s).2,?_,?_⟩
  ·rw[jb (h:=ab1) rfl];unfold ab1 Dp;dsimp only;rw[if_pos (Nat.ble_eq_true_of_le (by omega))]
  ·have:=ab7 s;omega
 num:=fun n O hσ=>Y7 (am2 u1 u2) n O hσ
 enc:=has
 enc1:=has
 enc2:=has
theorem adk:Hu (C0 u1 u2)where
 new:=has
 sum:=has
 write:=has
 mix:=has
 rot:=has
 sumF:=has
 digest:=has
 encode:=has
 gr:=rfl
 gi:=rfl
 gd:=rfl
 rep:=fun n hn O=>by
  rw[jb (h:=uZ) rfl];have hb:Nat.blt n 64=true:=Nat.ble_eq_true_of_le hn;change uZ [.str [0],.int .i64 (.ofNat n)] O=_;unfold uZ;simp only[hb];rfl
theorem ajQ:Vl (C0 u1 u2)where
 sha:=adk u1 u2
 block:=has
 combine:=has
 of:=has
 of1:=has
 of2:=has
theorem ZI:fC (C0 u1 u2) dB zN (.pure [.strb] .bool):=fun O bs bs' O1 hok hh hok1 hm=>by
 obtain⟨x,rfl,h1⟩:=Tc hm;obtain⟨a,rfl,ha⟩:=y8 h1;obtain⟨rfl,rfl⟩:=ae7 (ss:=[a]) hh;refine⟨.bool (vF a).isSome,?_,.bool _⟩;rw[jb (h:=ab2) rfl];unfold ab2 Dp;simp only[List.map_cons,List.map_nil];rw[if_pos (Nat.ble_eq_true_of_le (by simp only[LB]at ha;omega))]
end
open Go.Ev
def mtL:List (TypeId×String×FuncId):=[(117,"legate/judge.good",369),(221,"legate/judge.good",371)]
def ai3:List (FuncId×Sm):=[(126,.pure [.int .i64] .bool),
 (125,.pure [.int .i64,.int .i64] .bool),
 (124,.pure [.strb] (.int .i64)),
 (237,.pure [.slx [.strb]] .bool),
 (149,.pure [.strb] .bool),
 (161,.pure [.int .i64] (.int .i64)),
 (99,.pure [.int .i64] (.int .i64))]
def WQ:List (FuncId×Sm):=[(79,.pure [.slx [.strb,.strb],.strb] (.tup [.strb,.bool])),
 (82,.pure [.int .i64,.int .i64] .bool),
 (69,.pof [.jv]),
 (121,.chg [.cells [.jv,.map 1,.int .i64],.map (.int .i64)] [.ref 0 0] (.int .i64)),
 (121,.chg [.cells [.ic .u8 0,.ic .i64 0,.sc [],.nils,.nils,.nilM,.ic .i64 10]] [.ref 0 0] (.ic .i64 10)),
 (121,.chg [.cells [.ic .u8 0,.ic .i64 0,.sc [],.nils,.nils,.nilM,.ic .i64 3]] [.ref 0 0] (.ic .i64 3)),
 (121,.pk [] (.int .i64)),
 (130,.chg [.dead,.dead,.cells [.int .i64]] [.jv,.ref 2 0] (.tup [.jv,.int .i64])),
 (120,.pure [.jv] (.tup [.strb,.int .i64])),
 (123,.chg [.dead,.dead,.cells [.int .i64],.cells [.int .i64]] [.jv,.ref 2 0,.ref 3 0] (.tup [.int .i64,.int .i64])),
 (127,.pure [.strb] .bool),
 (191,.pure [.jv,.int .i64] (.tup [.sljx,.int .i64])),
 (149,.pure [.strb] .bool),
 (188,.pure [.slx [.strb,.int .i64,.slx [.strb],.bool,.slx [.strb],.slx [.strb]],.strb] .bool),
 (239,.pure [.strb] .bool),
 (240,.pure [.jv] (.tup [.jv,.int .i64]))]
def WS:List (FuncId×Sm):=[(246,.pure [.strb] .bool),
 (274,.pure [.strb] .bool),
 (259,.pure [.int .u8] .bool),
 (55,.pure [.strb] .jv),
 (277,.chg [.dead,.dead,.cells [.int .i64]] [.jv,.ref 2 0] (.tup [.slx [.strb],.int .i64])),
 (278,.pure [.int .i64] .bool),
 (279,.pure [.int .i64] (.int .i64)),
 (281,.pure [.jv] (.tup [.bool,.int .i64])),
 (283,.pure [.strb] .bool),
 (284,.pure [.strb] .bool),
 (370,.pure [.strb,.strb] .bool),
 (373,.pure [.slx [.strb,.strb,.strb],.agg [.strb,.strb,.strb]] (.int .i64)),
 (71,.chg [.cells [.jv,.map 1,.int .i64],.map (.int .i64)] [.ref 0 0,.int .i64] (.tup [])),
 (71,.chg [.cells [.ic .u8 0,.ic .i64 0,.sc [],.nils,.nils,.nilM,.ic .i64 10]] [.ref 0 0,.int .i64] (.tup [])),
 (71,.chg [.cells [.ic .u8 0,.ic .i64 0,.sc [],.nils,.nils,.nilM,.ic .i64 3]] [.ref 0 0,.int .i64] (.tup [])),
 (71,.pk [.int .i64] (.tup []))]
def WT:List (FuncId×Sm):=[(78,.chg [.cells [.jv,.map 1,.int .i64],.map (.int .i64)] [.ref 0 0] (.int .i64)),
 (78,.chg [.cells [.ic .u8 0,.ic .i64 0,.sc [],.nils,.nils,.nilM,.ic .i64 10]] [.ref 0 0] (.int .i64)),
 (78,.chg [.cells [.ic .u8 0,.ic .i64 0,.sc [],.nils,.nils,.nilM,.ic .i64 3]] [.ref 0 0] (.int .i64)),
 (78,.pk [] (.int .i64)),
 (76,.chg [.cells [.jv,.map 1,.int .i64],.map (.int .i64)] [.ref 0 0,.strb] .bool),
 (76,.chg [.cells [.ic .u8 0,.ic .i64 0,.sc [],.nils,.nils,.nilM,.ic .i64 10]] [.ref 0 0,.strb] .bool),
 (76,.chg [.cells [.ic .u8 0,.ic .i64 0,.sc [],.nils,.nils,.nilM,.ic .i64 3]] [.ref 0 0,.strb] .bool),
 (76,.pk [.strb] .bool),
 (190,.chg [.dead,.dead,.cells [.int .i64]] [.jv,.ref 2 0] (.tup [.sljx,.int .i64])),
 (189,.chg [.cells [.jv,.map 1,.int .i64],.map (.int .i64),.cells [.int .i64]] [.ref 0 0,.strb,.func (.func 190) [] [.ref 2 0]] .sljx),
 (189,.chg [.cells [.ic .u8 0,.ic .i64 0,.sc [],.nils,.nils,.nilM,.ic .i64 10],.cells [.int .i64]] [.ref 0 0,.strb,.func (.func 190) [] [.ref 1 0]] .sljx),
 (189,.chg [.cells [.ic .u8 0,.ic .i64 0,.sc [],.nils,.nils,.nilM,.ic .i64 3],.cells [.int .i64]] [.ref 0 0,.strb,.func (.func 190) [] [.ref 1 0]] .sljx),
 (148,.pure [.agg [.strb,.strb]] .bool),
 (129,.chg [.cells [.jv,.map 1,.int .i64],.map (.int .i64),.cells [.int .i64]] [.ref 0 0,.strb,.func (.func 130) [] [.ref 2 0]] .jv),
 (129,.chg [.cells [.ic .u8 0,.ic .i64 0,.sc [],.nils,.nils,.nilM,.ic .i64 10],.cells [.int .i64]] [.ref 0 0,.strb,.func (.func 130) [] [.ref 1 0]] .jv),
 (129,.chg [.cells [.ic .u8 0,.ic .i64 0,.sc [],.nils,.nils,.nilM,.ic .i64 3],.cells [.int .i64]] [.ref 0 0,.strb,.func (.func 130) [] [.ref 1 0]] .jv)]
def WU:List (FuncId×Sm):=[(129,.chg [.cells [.jv,.map 1,.int .i64],.map (.int .i64)] [.ref 0 0,.strb,.func (.func 240) [] []] .jv),
 (129,.chg [.cells [.ic .u8 0,.ic .i64 0,.sc [],.nils,.nils,.nilM,.ic .i64 10]] [.ref 0 0,.strb,.func (.func 240) [] []] .jv),
 (129,.chg [.cells [.ic .u8 0,.ic .i64 0,.sc [],.nils,.nils,.nilM,.ic .i64 3]] [.ref 0 0,.strb,.func (.func 240) [] []] .jv),
 (119,.chg [.cells [.jv,.map 1,.int .i64],.map (.int .i64)] [.ref 0 0,.strb,.func (.func 120) [] []] .strb),
 (119,.chg [.cells [.ic .u8 0,.ic .i64 0,.sc [],.nils,.nils,.nilM,.ic .i64 10]] [.ref 0 0,.strb,.func (.func 120) [] []] .strb),
 (119,.chg [.cells [.ic .u8 0,.ic .i64 0,.sc [],.nils,.nils,.nilM,.ic .i64 3]] [.ref 0 0,.strb,.func (.func 120) [] []] .strb),
 (122,.chg [.cells [.jv,.map 1,.int .i64],.map (.int .i64),.cells [.int .i64],.cells [.int .i64]] [.ref 0 0,.strb,.func (.func 123) [] [.ref 2 0,.ref 3 0]] (.int .i64)),
 (122,.chg [.cells [.ic .u8 0,.ic .i64 0,.sc [],.nils,.nils,.nilM,.ic .i64 10],.cells [.int .i64],.cells [.int .i64]] [.ref 0 0,.strb,.func (.func 123) [] [.ref 1 0,.ref 2 0]] (.int .i64)),
 (122,.chg [.cells [.ic .u8 0,.ic .i64 0,.sc [],.nils,.nils,.nilM,.ic .i64 3],.cells [.int .i64],.cells [.int .i64]] [.ref 0 0,.strb,.func (.func 123) [] [.ref 1 0,.ref 2 0]] (.int .i64)),
 (160,.pure [.slx [.strb]] (.int .i64)),
 (183,.chg [.cells [.jv,.map 1,.int .i64],.map (.int .i64)] [.ref 0 0,.strb] .jv),
 (183,.chg [.cells [.ic .u8 0,.ic .i64 0,.sc [],.nils,.nils,.nilM,.ic .i64 10]] [.ref 0 0,.strb] .jv),
 (183,.chg [.cells [.ic .u8 0,.ic .i64 0,.sc [],.nils,.nils,.nilM,.ic .i64 3]] [.ref 0 0,.strb] .jv),
 (183,.pk [.strb] .jv),
 (202,.pure [.strb] .bool),
 (140,.pure [.agg [.strb,.strb]] .bool)]
def WV:List (FuncId×Sm):=[(89,.pure [.agg [.strb,.strb]] (.tup [.jv,.int .i64])),
 (245,.pure [.agg [.int .i64,.slx [.strb],.int .i64,.strb]] (.int .i64)),
 (94,.pure [.agg [.jv,.slx [.strb,.strb]]] .jv),
 (369,.pure [.agg [],.agg [.strb,.strb],.agg [.strb,.strb],.strb] .bool),
 (276,.chg [.cells [.jv,.map 1,.int .i64],.map (.int .i64),.cells [.int .i64]] [.ref 0 0,.strb,.func (.func 277) [] [.ref 2 0]] (.slx [.strb])),
 (276,.chg [.cells [.ic .u8 0,.ic .i64 0,.sc [],.nils,.nils,.nilM,.ic .i64 10],.cells [.int .i64]] [.ref 0 0,.strb,.func (.func 277) [] [.ref 1 0]] (.slx [.strb])),
 (276,.chg [.cells [.ic .u8 0,.ic .i64 0,.sc [],.nils,.nils,.nilM,.ic .i64 3],.cells [.int .i64]] [.ref 0 0,.strb,.func (.func 277) [] [.ref 1 0]] (.slx [.strb])),
 (280,.chg [.cells [.jv,.map 1,.int .i64],.map (.int .i64)] [.ref 0 0,.strb,.func (.func 281) [] []] .bool),
 (280,.chg [.cells [.ic .u8 0,.ic .i64 0,.sc [],.nils,.nils,.nilM,.ic .i64 10]] [.ref 0 0,.strb,.func (.func 281) [] []] .bool),
 (280,.chg [.cells [.ic .u8 0,.ic .i64 0,.sc [],.nils,.nils,.nilM,.ic .i64 3]] [.ref 0 0,.strb,.func (.func 281) [] []] .bool),
 (282,.pure [.slx [.strb],.func (.func 283) [] []] .bool),
 (282,.pure [.slx [.strb],.func (.func 284) [] []] .bool),
 (372,.pure [.slx [.strb,.strb,.strb],.agg [.strb,.strb,.strb]] .bool),
 (134,.chg [.cells [.jv,.map 1,.int .i64],.map (.int .i64)] [.ref 0 0,.strb,.int .i64] .sljx),
 (134,.chg [.cells [.ic .u8 0,.ic .i64 0,.sc [],.nils,.nils,.nilM,.ic .i64 10]] [.ref 0 0,.strb,.int .i64] .sljx),
 (134,.chg [.cells [.ic .u8 0,.ic .i64 0,.sc [],.nils,.nils,.nilM,.ic .i64 3]] [.ref 0 0,.strb,.int .i64] .sljx)]
def WW:List (FuncId×Sm):=[(134,.pk [.strb,.int .i64] .sljx),
 (75,.chg [.cells [.jv,.map 1,.int .i64],.map (.int .i64)] [.ref 0 0,.strb,.int .i64] .jv),
 (75,.chg [.cells [.ic .u8 0,.ic .i64 0,.sc [],.nils,.nils,.nilM,.ic .i64 10]] [.ref 0 0,.strb,.int .i64] .jv),
 (75,.chg [.cells [.ic .u8 0,.ic .i64 0,.sc [],.nils,.nils,.nilM,.ic .i64 3]] [.ref 0 0,.strb,.int .i64] .jv),
 (75,.pk [.strb,.int .i64] .jv),
 (70,.chg [.cells [.jv,.map 1,.int .i64],.map (.int .i64)] [.ref 0 0,.strb] .strb),
 (70,.chg [.cells [.ic .u8 0,.ic .i64 0,.sc [],.nils,.nils,.nilM,.ic .i64 10]] [.ref 0 0,.strb] .strb),
 (70,.chg [.cells [.ic .u8 0,.ic .i64 0,.sc [],.nils,.nils,.nilM,.ic .i64 3]] [.ref 0 0,.strb] .strb),
 (70,.pk [.strb] .strb),
 (72,.chg [.cells [.jv,.map 1,.int .i64],.map (.int .i64)] [.ref 0 0,.strb,.int .i64,.int .i64] (.int .i64)),
 (72,.chg [.cells [.ic .u8 0,.ic .i64 0,.sc [],.nils,.nils,.nilM,.ic .i64 10]] [.ref 0 0,.strb,.int .i64,.int .i64] (.int .i64)),
 (72,.chg [.cells [.ic .u8 0,.ic .i64 0,.sc [],.nils,.nils,.nilM,.ic .i64 3]] [.ref 0 0,.strb,.int .i64,.int .i64] (.int .i64)),
 (72,.pk [.strb,.int .i64,.int .i64] (.int .i64)),
 (98,.pure [.agg [.int .i64,.slx [.strb]]] .bool),
 (182,.pure [.jv] (.tup [.slx [.strb,.strb],.int .i64])),
 (111,.pure [.jv] (.tup [.agg [.strb,.strb],.int .i64]))]
def WX:List (FuncId×Sm):=[(44,.pure [.agg [.strb,.strb]] (.tup [.strb,.int .i64])),
 (186,.pure [.agg [.int .i64,.slx [.strb],.int .i64,.strb]] .bool),
 (91,.pure [.agg [.jv,.slx [.strb,.strb]]] .bool),
 (244,.chg [.cells [.jv,.map 1,.int .i64],.map (.int .i64)] [.ref 0 0,.strb,.int .i64] (.slx [.strb])),
 (244,.chg [.cells [.ic .u8 0,.ic .i64 0,.sc [],.nils,.nils,.nilM,.ic .i64 10]] [.ref 0 0,.strb,.int .i64] (.slx [.strb])),
 (244,.chg [.cells [.ic .u8 0,.ic .i64 0,.sc [],.nils,.nils,.nilM,.ic .i64 3]] [.ref 0 0,.strb,.int .i64] (.slx [.strb])),
 (244,.pk [.strb,.int .i64] (.slx [.strb])),
 (247,.chg [.cells [.jv,.map 1,.int .i64],.map (.int .i64)] [.ref 0 0,.strb] .bool),
 (247,.chg [.cells [.ic .u8 0,.ic .i64 0,.sc [],.nils,.nils,.nilM,.ic .i64 10]] [.ref 0 0,.strb] .bool),
 (247,.chg [.cells [.ic .u8 0,.ic .i64 0,.sc [],.nils,.nils,.nilM,.ic .i64 3]] [.ref 0 0,.strb] .bool),
 (247,.pk [.strb] .bool),
 (248,.pure [.agg [.strb,.int .i64,.slx [.strb],.bool,.slx [.strb],.slx [.strb]]] .bool),
 (371,.pure [.agg [.slx [.strb,.strb,.strb]],.agg [.strb,.strb],.agg [.strb,.strb],.strb] .bool),
 (137,.pure [.jv] (.tup [.agg [.strb,.strb],.int .i64])),
 (128,.pure [.jv] (.tup [.agg [.int .i64,.slx [.strb,.strb],.jv],.int .i64])),
 (57,.pure [.jv] (.tup [.slx [.strb,.strb],.int .i64]))]
def WY:List (FuncId×Sm):=[(45,.pure [.agg [.jv,.slx [.strb,.strb]]] (.tup [.strb,.int .i64])),
 (172,.pure [.slx [.strb,.strb],.strb] (.tup [.agg [.strb,.strb],.bool])),
 (185,.chg [.cells [.jv,.map 1,.int .i64],.map (.int .i64)] [.ref 0 0] (.agg [.int .i64,.slx [.strb]])),
 (185,.chg [.cells [.ic .u8 0,.ic .i64 0,.sc [],.nils,.nils,.nilM,.ic .i64 10]] [.ref 0 0] (.agg [.int .i64,.slx [.strb]])),
 (185,.chg [.cells [.ic .u8 0,.ic .i64 0,.sc [],.nils,.nils,.nilM,.ic .i64 3]] [.ref 0 0] (.agg [.int .i64,.slx [.strb]])),
 (185,.pk [] (.agg [.int .i64,.slx [.strb]])),
 (187,.pure [.jv] (.tup [.agg [.strb,.int .i64,.slx [.strb],.bool,.slx [.strb],.slx [.strb]],.int .i64])),
 (231,.ro [.iface 117 (.agg [])] [.agg [.strb,.strb],.agg [.strb,.strb],.strb] .bool),
 (231,.ro [.iface 221 (.agg [.slx [.strb,.strb,.strb]])] [.agg [.strb,.strb],.agg [.strb,.strb],.strb] .bool),
 (81,.pure [.jv] (.tup [.agg [.jv,.slx [.strb,.strb]],.int .i64])),
 (74,.pure [.jv] (.tup [.slx [.strb,.int .i64,.slx [.strb,.strb],.jv],.int .i64])),
 (132,.pure [.jv] (.tup [.agg [.int .i64,.slx [.strb],.int .i64,.strb],.int .i64])),
 (133,.pure [.sljx] (.tup [.slx [.strb,.int .i64,.slx [.strb],.bool,.slx [.strb],.slx [.strb]],.int .i64])),
 (173,.ro [.iface 117 (.agg [])] [.agg [.strb,.strb],.strb,.slx [.strb,.strb],.strb] .bool),
 (173,.ro [.iface 221 (.agg [.slx [.strb,.strb,.strb]])] [.agg [.strb,.strb],.strb,.slx [.strb,.strb],.strb] .bool),
 (77,.pure [.jv] (.tup [.agg [.slx [.strb,.strb],.slx [.strb,.int .i64,.slx [.strb],.bool,.slx [.strb],.slx [.strb]],.int .i64,.slx [.strb],.int .i64,.strb],.int .i64]))]
def abk:List (FuncId×Sm):=[(113,.ro [.iface 117 (.agg [])] [.agg [.jv,.slx [.strb,.strb]],.agg [.int .i64,.slx [.strb]],.slx [.strb,.strb]] (.int .i64)),
 (113,.ro [.iface 221 (.agg [.slx [.strb,.strb,.strb]])] [.agg [.jv,.slx [.strb,.strb]],.agg [.int .i64,.slx [.strb]],.slx [.strb,.strb]] (.int .i64)),
 (29,.pure [.jv] (.tup [.agg [.int .i64,.int .i64,.slx [.strb,.int .i64,.slx [.strb,.strb],.jv],.slx [.strb,.strb],.slx [.strb,.int .i64,.slx [.strb],.bool,.slx [.strb],.slx [.strb]],.int .i64,.slx [.strb],.int .i64,.strb],.int .i64])),
 (60,.ro [.iface 117 (.agg [])] [.agg [.jv,.slx [.strb,.strb]],.agg [.int .i64,.slx [.strb]],.slx [.strb,.strb]] .bool),
 (60,.ro [.iface 221 (.agg [.slx [.strb,.strb,.strb]])] [.agg [.jv,.slx [.strb,.strb]],.agg [.int .i64,.slx [.strb]],.slx [.strb,.strb]] .bool)]
theorem GV:∀p∈mtL,methodOf Tryz.prog p.1 .nilp p.2.1=some (p.2.2,.nilp):=by
 unfold mtL;simp only[List.forall_mem_cons];exact⟨by kernel_rfl,by kernel_rfl,fun _ h=>by simp at h⟩
noncomputable def rowOk(p:FuncId×Sm):Bool:=Pm Tryz.prog p.1&&((prL GY p.1).isNone&& !Zk p.1)
section
variable{u1 u2:TypeId}
theorem rV{rows:List (FuncId×Sm)}(h:rows.all rowOk=true):∀p∈rows,Has (C0 u1 u2) p.1 (kA Tryz.prog p.1):=fun p hp=>by
 have k:=List.all_eq_true.mp h p hp;unfold rowOk at k;simp only[Bool.and_eq_true,Option.isNone_iff_eq_none,Bool.not_eq_true']at k;exact apc k.1 k.2.1 k.2.2
def hand1:List (FuncId×Sm):=[(kH,.pure [.strb,.int .i64] (.tup [.int .i64,.bool]))]
theorem Qs:∀p∈hand1,fC (C0 u1 u2) dB p.1 p.2:=by
 unfold hand1;simp only[List.forall_mem_cons];exact⟨Xf (has),fun _ h=>by simp at h⟩
theorem abj:ai3.all rowOk=true:=by kernel_rfl
theorem aeO:(Gm (CY mtL hand1) (Ey Tryz.prog ai3)).isSome=true:=by kernel_rfl
theorem sm1:∀p∈ai3,fC (C0 u1 u2) dB p.1 p.2:=qf GV Qs (rV abj) aeO
theorem amY:fC (C0 u1 u2) dB Na (.pure [.int .i64] .bool):=sm1 _ (List.mem_of_getElem? (i:=0) rfl)
theorem an3:fC (C0 u1 u2) dB DZ (.pure [.int .i64,.int .i64] .bool):=sm1 _ (List.mem_of_getElem? (i:=1) rfl)
theorem aik:fC (C0 u1 u2) dB Aq (.pure [.strb] (.int .i64)):=sm1 _ (List.mem_of_getElem? (i:=2) rfl)
theorem aoO:fC (C0 u1 u2) dB mg (.pure [.slx [.strb]] .bool):=sm1 _ (List.mem_of_getElem? (i:=3) rfl)
theorem apt:fC (C0 u1 u2) dB DU (.pure [.strb] .bool):=sm1 _ (List.mem_of_getElem? (i:=4) rfl)
theorem akt:fC (C0 u1 u2) dB JB (.pure [.int .i64] (.int .i64)):=sm1 _ (List.mem_of_getElem? (i:=6) rfl)
theorem akD:Ot (C0 u1 u2) dB where
 days:=has
 read:=has
 bef:=rfl
 leap:=amY
 upTo:=an3
 start:=akt
 digits:=aik
theorem aiB:Bv (C0 u1 u2) dB where
 proper:=has
 written:=has
 may:=has
 May:=has
 valid:=ZI u1 u2
 ascending:=aoO
theorem am7:OZ (C0 u1 u2) dB:=⟨has,apt,Qs _ (List.mem_of_getElem? (i:=0) rfl)⟩
def hand2:List (FuncId×Sm):=[(kH,.pure [.strb,.int .i64] (.tup [.int .i64,.bool])),(kJ,.pure [.jv] .bool),(zO,.pure [.strb] (.tup [.int .i64,.int .i64])),(pK,.pure [.jv] .jv),(xm,.pure [.jv,.strb] (.tup [.jv,.bool])),(zN,.pure [.strb] .bool),(jO,.pure [.jv] (.tup [.strb,.int .i64])),(kE,.pure [.strb] .strb),(lJ,.pure [.slc 2 [.strb,.jv,.strb,.jv]] (.tup [.jv,.int .i64])),(yg,.pure [.strb] (.tup [.strb,.int .i64])),(uO,.pure [.strb,.strb] .strb)]
theorem Qu:∀p∈hand2,fC (C0 u1 u2) dB p.1 p.2:=by
 unfold hand2;simp only[List.forall_mem_cons];exact⟨Qs _ (List.mem_of_getElem? (i:=0) rfl),Xi aiB,Xj akD,Tq (VM u1 u2),Xh (VM u1 u2) (ajo u1 u2) (has),ZI u1 u2,Oh (alU u1 u2) aiB (has),Tn (adk u1 u2),ZH (amA u1 u2) (has),Tm am7,aeW (ajQ u1 u2),fun _ h=>by simp at h⟩
theorem cB0:WQ.all rowOk=true:=by kernel_rfl
theorem rB0:(Gm (CY mtL hand2) (Ey Tryz.prog WQ)).isSome=true:=by kernel_rfl
theorem sB0:∀p∈WQ,fC (C0 u1 u2) dB p.1 p.2:=qf GV Qu (rV cB0) rB0
def hB1:List (FuncId×Sm):=WQ++hand2
theorem agi:∀p∈hB1,fC (C0 u1 u2) dB p.1 p.2:=fun p hp=>(List.mem_append.mp hp).elim (sB0 p) (Qu p)
theorem cB1:WS.all rowOk=true:=by kernel_rfl
theorem rB1:(Gm (CY mtL hB1) (Ey Tryz.prog WS)).isSome=true:=by kernel_rfl
theorem sB1:∀p∈WS,fC (C0 u1 u2) dB p.1 p.2:=qf GV agi (rV cB1) rB1
def hB2:List (FuncId×Sm):=WS++hB1
theorem agj:∀p∈hB2,fC (C0 u1 u2) dB p.1 p.2:=fun p hp=>(List.mem_append.mp hp).elim (sB1 p) (agi p)
theorem cB2:WT.all rowOk=true:=by kernel_rfl
theorem rB2:(Gm (CY mtL hB2) (Ey Tryz.prog WT)).isSome=true:=by kernel_rfl
theorem sB2:∀p∈WT,fC (C0 u1 u2) dB p.1 p.2:=qf GV agj (rV cB2) rB2
def hB3:List (FuncId×Sm):=WT++hB2
theorem agk:∀p∈hB3,fC (C0 u1 u2) dB p.1 p.2:=fun p hp=>(List.mem_append.mp hp).elim (sB2 p) (agj p)
theorem cB3:WU.all rowOk=true:=by kernel_rfl
theorem rB3:(Gm (CY mtL hB3) (Ey Tryz.prog WU)).isSome=true:=by kernel_rfl
theorem sB3:∀p∈WU,fC (C0 u1 u2) dB p.1 p.2:=qf GV agk (rV cB3) rB3
def hB4:List (FuncId×Sm):=WU++hB3
theorem agl:∀p∈hB4,fC (C0 u1 u2) dB p.1 p.2:=fun p hp=>(List.mem_append.mp hp).elim (sB3 p) (agk p)
theorem cB4:WV.all rowOk=true:=by kernel_rfl
theorem rB4:(Gm (CY mtL hB4) (Ey Tryz.prog WV)).isSome=true:=by kernel_rfl
theorem sB4:∀p∈WV,fC (C0 u1 u2) dB p.1 p.2:=qf GV agl (rV cB4) rB4
def hB5:List (FuncId×Sm):=WV++hB4
theorem agm:∀p∈hB5,fC (C0 u1 u2) dB p.1 p.2:=fun p hp=>(List.mem_append.mp hp).elim (sB4 p) (agl p)
theorem cB5:WW.all rowOk=true:=by kernel_rfl
theorem rB5:(Gm (CY mtL hB5) (Ey Tryz.prog WW)).isSome=true:=by kernel_rfl
theorem sB5:∀p∈WW,fC (C0 u1 u2) dB p.1 p.2:=qf GV agm (rV cB5) rB5
def hB6:List (FuncId×Sm):=WW++hB5
theorem agn:∀p∈hB6,fC (C0 u1 u2) dB p.1 p.2:=fun p hp=>(List.mem_append.mp hp).elim (sB5 p) (agm p)
theorem cB6:WX.all rowOk=true:=by kernel_rfl
theorem rB6:(Gm (CY mtL hB6) (Ey Tryz.prog WX)).isSome=true:=by kernel_rfl
theorem sB6:∀p∈WX,fC (C0 u1 u2) dB p.1 p.2:=qf GV agn (rV cB6) rB6
def hB7:List (FuncId×Sm):=WX++hB6
theorem agp:∀p∈hB7,fC (C0 u1 u2) dB p.1 p.2:=fun p hp=>(List.mem_append.mp hp).elim (sB6 p) (agn p)
theorem cB7:WY.all rowOk=true:=by kernel_rfl
theorem rB7:(Gm (CY mtL hB7) (Ey Tryz.prog WY)).isSome=true:=by kernel_rfl
theorem sB7:∀p∈WY,fC (C0 u1 u2) dB p.1 p.2:=qf GV agp (rV cB7) rB7
def hB8:List (FuncId×Sm):=WY++hB7
theorem am5:∀p∈hB8,fC (C0 u1 u2) dB p.1 p.2:=fun p hp=>(List.mem_append.mp hp).elim (sB7 p) (agp p)
theorem cB8:abk.all rowOk=true:=by kernel_rfl
theorem rB8:(Gm (CY mtL hB8) (Ey Tryz.prog abk)).isSome=true:=by kernel_rfl
theorem sB8:∀p∈abk,fC (C0 u1 u2) dB p.1 p.2:=qf GV am5 (rV cB8) rB8
theorem an0:fC (C0 u1 u2) dB fH (.pure [.strb] (.tup [.jv,.int .i64,.int .i64])):=Xg (af5 u1 u2) (has)
theorem amZ:fC (C0 u1 u2) dB uh (.pure [.int .i64,.int .i64] .bool):=sB0 _ (List.mem_of_getElem? (i:=1) rfl)
theorem an1:fC (C0 u1 u2) dB qh (.pure [.jv] (.tup [.agg [.jv,.slx [.strb,.strb]],.int .i64])):=sB7 _ (List.mem_of_getElem? (i:=9) rfl)
theorem an2:fC (C0 u1 u2) dB vU (.pure [.jv] (.tup [.agg [.int .i64,.int .i64,.slx [.strb,.int .i64,.slx [.strb,.strb],.jv],.slx [.strb,.strb],.slx [.strb,.int .i64,.slx [.strb],.bool,.slx [.strb],.slx [.strb]],.int .i64,.slx [.strb],.int .i64,.strb],.int .i64])):=sB8 _ (List.mem_of_getElem? (i:=2) rfl)
theorem aeU:fC (C0 u1 u2) dB iM (.ro [.iface 117 (.agg [])] [.agg [.jv,.slx [.strb,.strb]],.agg [.int .i64,.slx [.strb]],.slx [.strb,.strb]] .bool):=sB8 _ (List.mem_of_getElem? (i:=3) rfl)
theorem aeV:fC (C0 u1 u2) dB iM (.ro [.iface 221 (.agg [.slx [.strb,.strb,.strb]])] [.agg [.jv,.slx [.strb,.strb]],.agg [.int .i64,.slx [.strb]],.slx [.strb,.strb]] .bool):=sB8 _ (List.mem_of_getElem? (i:=4) rfl)
end
theorem noB{l:LA}(h:l.any isByte=false):∀a∈l,isByte a=false:=fun a ha=>by
 cases hb:isByte a with
 |false=>rfl
 |true=>rw[List.any_eq_true.mpr ⟨a,ha,hb⟩]at h;cases h
noncomputable section
def ahI(args:LA)(O:St):Option (AV×St):=match args with|[]=>some (.bool true,O)|_=>none
def Ze(sz:Nat)(args:LA)(O:St):Option (AV×St):=
 match args with
 |[.sl n l]=>match Hw (Hw (Nat.beq l.length (n*sz)) (Nat.ble n 1099511627776)) (l.all Ti)with
  |true=>some (.sl n l,O)
  |false=>none
 |_=>none
theorem ahP:POK CL0 aZ (Ze 3):=by
 intro args O v O' h g w args' ha hw hg;unfold Ze at h;split at h
 ·rename_i n l;split at h
  ·rename_i hb;rw[qp,Bool.and_eq_true,qp,Bool.and_eq_true]at hb;have hl:=Nat.eq_of_beq_eq_true hb.1.1;cases h;by_cases h0:n=0
   ·subst h0;have:l=[]:=List.length_eq_zero_iff.mp (by simpa using hl)
    subst this;exact Iw (C:=CR1) (ZV 100) gK (by kernel_rfl) (by kernel_rfl) [.sl 0 []] O _ _ rfl g w args' ha hw hg
   ·exact lT abA gK (by rw[ae,below,(Zy hb.2).cl];rfl) (aag (C:=CL0) (anP (VX (by kernel_rfl) (by kernel_rfl) (by kernel_rfl) rfl rfl)) n l hl (by omega) (Nat.le_of_ble_eq_true hb.1.2) hb.2 [] ok0) ha hw hg
  ·cases h
 ·cases h
theorem age:∀n l,CC.gl n=some l->l.all Ti=true:=by
 intro n l h;change glT n=some l at h;unfold glT at h;repeat' split at h
 all_goals first
  |(cases h;done)
  |(simp only[Option.some.injEq]at h;subst h;kernel_rfl)
def UU(u1 u2:TypeId):List (FuncId×Gt):=[(kz,ahI),(aZ,Ze 3),(fH,pFn (C0 u1 u2) fH),(qh,pFn (C0 u1 u2) qh),(vU,pFn (C0 u1 u2) vU),(uh,pFn (C0 u1 u2) uh),(kE,pFn (C0 u1 u2) kE),(iM,pRo (C0 u1 u2) iM)]
def CL(u1 u2:TypeId):Ctx:={gQ Tryz.prog (glX u1 u2) (fun _=>false) (prL (UU u1 u2))with np:=true}
variable{u1 u2:TypeId}
theorem anp:ZW (CL u1 u2):=fun f x h=>uo Tryz.prog (glX u1 u2) (fun _=>false) (prL (UU u1 u2)) f x h
theorem same2:O9 (C0 u1 u2) (CL u1 u2):=⟨rfl,rfl,rfl,adz⟩
theorem aiH:Ht (CL u1 u2):=by
 have tr:∀{f p},POK CL0 f p->POK (CL u1 u2) f p:=fun h=>ahS (C:=CL0) (D:=CL u1 u2) rfl (fun n l hl=>akM n l hl) rfl h;have h:=ab5 (C:=CL u1 u2) (l:=UU u1 u2) (by
  unfold UU;simp only[List.forall_mem_cons];exact⟨tr (ab3 (C:=CC) (D:=CL0) aiW rfl rfl age (CO aob)),tr ahP,QZ same2 Lc _,QZ same2 Lc _,QZ same2 Lc _,QZ same2 Lc _,QZ same2 Lc _,amN same2 Lc _,fun _ h=>by simp at h⟩)
 exact h
theorem alp:fK (CL u1 u2) (ai (CL u1 u2)):=F8 zg anp aiH
theorem AU{f:FuncId}{K:KF}(h1:cF Tryz.prog f=some K.forget:=by kernel_rfl)(h2:S9 Tryz.prog f=true:=by kernel_rfl)(h3:K.ok=true:=by kernel_rfl)(hp:prL (UU u1 u2) f=none:=by exact rfl):Has (CL u1 u2) f K:=by
 refine⟨?_,hp,rfl,h3⟩;show(gQ Tryz.prog (glX u1 u2) (fun _=>false) (prL (UU u1 u2))).fs f=_;simp only[gQ,h2,h1]
theorem RG{f:FuncId}{args:List Sh}{res:Sh}(hp:(CL u1 u2).prim f=some (pFn (C0 u1 u2) f))(h:fC (C0 u1 u2) dB f (.pure args res))(hc:cls args=true){al:LA}(hm:Mt V0 args al):∃v,M V0 res v/\∀O,ai (CL u1 u2) f al O=some (v,O):=by
 obtain⟨v,h1,h2⟩:=aoP h hc hm;exact⟨v,h1,fun O=>(jb hp al O).trans (h2 O)⟩
theorem ak4:Vr (CL u1 u2)where
 role:=⟨by constructor<;>exact AU,AU,AU,AU,AU,AU⟩
 hash:=AU
 rd:=fun data hb=>by
  obtain⟨v,h1,h2⟩:=RG (u1:=u1) (u2:=u2) rfl an0 rfl (al:=[.str data]) (.cons _ _ _ _ (.strb _ hb) .nil);obtain⟨x,n,m,rfl,h3⟩:=anY h1;obtain⟨j,rfl⟩:=amc h3;exact⟨j,n,m,h2⟩
 sg:=fun j=>by
  obtain⟨v,h1,h2⟩:=RG (u1:=u1) (u2:=u2) rfl an1 rfl (al:=[j.av]) (.cons _ _ _ _ (.jv j) .nil);obtain⟨x,n,rfl,h3⟩:=akU h1;exact⟨x,n,h3,h2⟩
 tg:=fun j=>by
  obtain⟨v,h1,h2⟩:=RG (u1:=u1) (u2:=u2) rfl an2 rfl (al:=[j.av]) (.cons _ _ _ _ (.jv j) .nil);obtain⟨x,n,rfl,h3⟩:=akU h1;obtain⟨t,rfl,h4⟩:=agH h3;exact⟨t,n,h4,h2⟩
 over:=fun a b=>by
  obtain⟨v,h1,h2⟩:=RG (u1:=u1) (u2:=u2) rfl amZ rfl (al:=[.int .i64 a,.int .i64 b]) (.cons _ _ _ _ (.int _ _) (.cons _ _ _ _ (.int _ _) .nil));obtain⟨b,rfl⟩:=akV h1;exact⟨b,h2⟩
 dig:=fun s hs=>by
  obtain⟨v,h1,h2⟩:=RG (u1:=u1) (u2:=u2) rfl (Qu _ (List.mem_of_getElem? (i:=7) rfl)) rfl (al:=[.str s]) (.cons _ _ _ _ (.strb _ hs) .nil);obtain⟨b,rfl⟩:=ajJ h1;exact⟨b,h2⟩
 enough:=fun h l r th ids ks b1 b2 b3 mr=>by
  have hm:Mt V0 [aci,.agg [.int .i64,.slx [.strb]],.slx [.strb,.strb]] [r,.agg (aC th ids),.sl ks.length (ks.flatMap pC)]:=.cons _ _ _ _ mr (.cons _ _ _ _ (amo b2) (.cons _ _ _ _ (amq b3) .nil));cases h with
  |true=>
   obtain⟨b,hb⟩:=alm (fz:=⟨false,none⟩) (aeU (u1:=u1) (u2:=u2)) rfl (cs:=[.iface 117 (.agg [])]) (.one _ _ _ _ rfl (.iface _ _ _ (.agg _ _ .nil)) .nil) rfl hm;exact⟨b,fun Y o ho=>(jb (C:=CL u1 u2) (h:=pRo (C0 u1 u2) iM) rfl _ Y).trans (hb Y o ho)⟩
  |false=>
   obtain⟨b,hb⟩:=alm (fz:=⟨false,none⟩) (aeV (u1:=u1) (u2:=u2)) rfl (cs:=[.iface 221 (.agg [KZ l])]) (.one _ _ _ _ rfl (.iface _ _ _ (.agg _ _ (.one _ _ _ _ rfl (ajP b1) .nil))) .nil) (by simp only[ae,below,IQ,Bool.and_self]) hm
   exact⟨b,fun Y o ho=>(jb (C:=CL u1 u2) (h:=pRo (C0 u1 u2) iM) rfl _ Y).trans (hb Y o ho)⟩
theorem akn:aff (CL u1 u2) aZ 3:=fun n l O hl hn hs=>by
 rw[jb (C:=CL u1 u2) (h:=Ze 3) rfl];have hb1:Nat.beq l.length (n*3)=true:=by rw[hl];exact Nat.beq_refl _
 have hb2:Nat.ble n 1099511627776=true:=Nat.ble_eq_true_of_le hn;simp only[Ze,qp,hb1,hb2,hs,Bool.and_self]
theorem amj:afb (CL u1 u2)where
 lby:=by constructor<;>exact AU
 verd:=AU
 lng:=AU
 ver:=⟨AU,AU,akn,AU,AU⟩
 same:=⟨by constructor<;>exact AU,AU,AU,AU,AU⟩
 awake:=fun O _=>(jb (C:=CL u1 u2) (h:=ahI) rfl _ _).trans rfl
theorem ak5(u1 u2:TypeId)(b:Bool×List eF)(v:Int)(a:iZ)(ks:List PS)(now:Int)(data:LU)(m:Int)(hm:0<=m/\m<=65535)(other:LU):ai (CL u1 u2) nU [.agg (byA b.1 b.2),.int .i64 v,.agg a.cs,.sl ks.length (ks.flatMap pC),.int .i64 now,.str data,.int .u16 m,.str other] []=some (.bool true,[]):=
 Ob ak4 amj (AU) b.1 b.2 v a.th a.ids ks now data m hm other [] ok0
end
theorem amT{T:Nat->Bool}{W:World}:Rd T Tryz.prog W 106 (fun _:eF=>True) eF.cs:=
 (FV Tryz.underlying106 (by kernel_rfl) (vg rfl (Et Tryz.underlying9) (vg (by kernel_rfl) (Et Tryz.underlying9) (vg (by kernel_rfl) (Et Tryz.underlying9) OQ)))).map (fun x=>⟨x.1,x.2.1,x.2.2.1⟩) (fun _ _=>trivial) (fun _=>rfl)
theorem apq{T:Nat->Bool}{W:World}:Rd T Tryz.prog W 24 (fun _:Bool×List eF=>True) (fun b=>byA b.1 b.2):=
 (FV Tryz.underlying24 (by kernel_rfl) (vg rfl (akc Tryz.underlying4) (vg (by kernel_rfl) (Rl Tryz.underlying22 (by kernel_rfl) eF.len (by decide) (fun x=>noB (l:=eF.cs x) rfl) amT) OQ))).map (fun x=>(x.1,x.2.1)) (fun _ _=>trivial) (fun _=>rfl)
theorem amR{T:Nat->Bool}{W:World}:Rd T Tryz.prog W 27 (fun _:iZ=>True) iZ.cs:=
 (FV Tryz.underlying27 (by kernel_rfl) (vg rfl (WM Tryz.underlying3) (vg (by kernel_rfl) (Rl (f:=sC) Tryz.underlying25 (by kernel_rfl) (fun _=>rfl) (by decide) (fun x=>noB (l:=sC x) rfl) (Et Tryz.underlying9)) OQ))).map (fun x=>⟨x.1,x.2.1⟩) (fun _ _=>trivial) (fun _=>rfl)
theorem aoG{T:Nat->Bool}{W:World}:Rd T Tryz.prog W 60 (fun _:PS=>True) pC:=
 (FV Tryz.underlying60 (by kernel_rfl) (vg rfl (Et Tryz.underlying9) (vg (by kernel_rfl) (Et Tryz.underlying9) OQ))).map (fun x=>(x.1,x.2.1)) (fun _ _=>trivial) (fun _=>rfl)
theorem amS{T:Nat->Bool}{W:World}:Rd T Tryz.prog W 28 (fun xs:List PS=>xs.length<=maxLen/\∀x∈xs,True) (fun xs=>[.sl xs.length (xs.flatMap pC)]):=
 Rl (k:=2) Tryz.underlying28 (by kernel_rfl) (fun _=>rfl) (by decide) (fun x=>noB (l:=pC x) rfl) aoG
end Go.Proofs.YtpphohnabmlhpaaGreatDoor
