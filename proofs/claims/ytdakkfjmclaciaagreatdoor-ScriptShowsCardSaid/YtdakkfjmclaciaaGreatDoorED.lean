/- An evaluator of the model, proved sound. No conditions. -/
import Derived.Test.YtdakkfjmclaciaaGreatDoorEC
import Derived.ChangeShapes
import Derived.OpenShut
import Derived.Carry
set_option linter.unusedVariables false
set_option linter.unusedSimpArgs false
namespace Go.Ev
open Go.RowKit
set_option linter.unusedVariables false
def notB : Value → Bool
 | .int .u8 _=>false
 | _=>true
def gh0 (T : Nat → Bool) (W : World) : Gh:=⟨T,0,fun _=>0,fun _=>0,fun b i=>match T b with
 | true=>W.cell? ⟨b,i,none⟩
 | false=>(W.cell? ⟨b,i,none⟩).filter notB⟩
theorem im0 {T : Nat → Bool} {W : World} {b i : Nat} {v : Value} (h : W.cell? ⟨b,i,none⟩ = some v) (hn : notB v = true) : (gh0 T W).im b i = some v:=by
 show (match T b with | true=>W.cell? ⟨b,i,none⟩ | false=>(W.cell? ⟨b,i,none⟩).filter notB) = _
 cases T b with
 | true=>exact h
 | false=>exact Option.filter_eq_some_iff.mpr ⟨h,hn⟩
theorem im0_t {T : Nat → Bool} {W : World} {b i : Nat} (h : T b = true) : (gh0 T W).im b i = W.cell? ⟨b,i,none⟩:=by
 show (match T b with | true=>W.cell? ⟨b,i,none⟩ | false=>(W.cell? ⟨b,i,none⟩).filter notB) = _
 rw [h]
theorem im0_f {T : Nat → Bool} {W : World} {b i : Nat} (h : T b = false) : (gh0 T W).im b i = (W.cell? ⟨b,i,none⟩).filter notB:=by
 show (match T b with | true=>W.cell? ⟨b,i,none⟩ | false=>(W.cell? ⟨b,i,none⟩).filter notB) = _
 rw [h]
theorem vr_notB {g : Gh} {a : AV} {v : Value} (h : VR g a v) (hb : isByte a = false) : notB v = true:=by
 cases h <;> first | rfl | skip
 rename_i k n
 cases k <;> first | rfl | cases hb
theorem wr0 {T : Nat → Bool} {W : World} (h : ∀ b,T b = true → ∃ c e,W.heap[b]? = some (.cells c e (0,0))) : WR (gh0 T W) W []:=⟨rfl,fun b i v hv=>(by
  cases hT : T b with
  | false=>rw [im0_f hT] at hv; exact (Option.filter_eq_some_iff.mp hv).1
  | true=>rw [im0_t hT] at hv; exact hv),fun b i v hv=>(by
  cases hT : T b with
  | false=>exact .inl ⟨hT,fun j n hj=>by rw [im0_f hT] at hj; exact absurd (Option.filter_eq_some_iff.mp hj).2 (by simp [notB])⟩
  | true=>
    obtain ⟨c,e,hh⟩:=h b hT
    exact .inr ⟨c,e,(0,0),hh,.inl rfl⟩),fun o x hx=>by simp at hx,fun o o' x x' hx=>by simp at hx⟩
def tabB (C : Ctx) (b : Nat) : Bool:=(C.gl b).isSome
theorem tabB_plain {C : Ctx} {W : World} (tabs : ∀ g l,C.gl g = some l → Tab W g l) : ∀ b,tabB C b = true → ∃ c e,W.heap[b]? = some (.cells c e (0,0)):=by
 intro b hb
 obtain ⟨l,hl⟩:=Option.isSome_iff_exists.mp hb
 obtain ⟨c,e,hh,_⟩:=tabs b l hl
 exact ⟨c,e,hh⟩
theorem gl0 {C : Ctx} {W : World} (hn : C.np = true) (tabs : ∀ g l,C.gl g = some l → Tab W g l) : GL C (gh0 (tabB C) W):=by
 refine ⟨fun n l hl=>⟨?_,by show tabB C n = true; unfold tabB; rw [hl]; rfl⟩,.inl hn⟩
 obtain ⟨c,e,hh,hc⟩:=tabs n l hl
 refine CR.of_get fun i a ha=>?_
 obtain ⟨v,h1,h2⟩:=hc i a ha
 refine ⟨v,?_,h2 _⟩
 rw [im0_t (by unfold tabB; rw [hl]; rfl)]
 unfold World.cell?
 rw [hh]
 simpa using h1
def Rd (T : Nat → Bool) (P : Program) (W : World) (t : TypeId) {α : Type} (Q : α → Prop) (f : α → List AV) : Prop:=
 ∀ (H : Type) (enc : TypeId × Value → H) (sp : Nat → Bool) (held : Bool) (fuel : Nat) (cs : List Value) (x : DataW H × List MemPlace),DataW.trod enc P W 0 sp held fuel t cs = some x → ∃ a,Q a ∧ VRs (gh0 T W) (f a) cs
section
variable {T : Nat → Bool} {P : Program} {W : World} {t e : TypeId}
theorem rd_int {k : IntKind} (ht : P.underlying t = some (.int k)) : Rd T P W t (fun n : Int=>(Lit.int k n).wf = true) (fun n=>[.int k n]):=by
 intro H enc sp held fuel cs x h
 obtain ⟨n,rfl,_,hw⟩:=DataW.trod_int ht h
 exact ⟨n,hw,.cons _ _ _ _ (.int _ _) .nil⟩
theorem rd_bool (ht : P.underlying t = some .bool) : Rd T P W t (fun _ : Bool=>True) (fun b=>[.bool b]):=by
 intro H enc sp held fuel cs x h
 obtain ⟨n,rfl,_⟩:=DataW.trod_bool ht h
 exact ⟨n,trivial,.cons _ _ _ _ (.bool _) .nil⟩
theorem rd_str (ht : P.underlying t = some .string) : Rd T P W t (fun s : List UInt8=>s.length ≤ maxLen) (fun s=>[.str s]):=by
 intro H enc sp held fuel cs x h
 obtain ⟨⟨⟨s⟩⟩,rfl,_,hw⟩:=DataW.trod_string ht h
 exact ⟨s,hw,.cons _ _ _ _ (.str _) .nil⟩
theorem cells_get {W : World} {a : Addr} {n : Nat} {cs : List Value} (h : W.cells? 0 a n = some cs) : cs.length = n ∧ ∀ j,j < n → W.cell? (a.add j) = cs[j]? ∧ cs[j]?.isSome:=by
 unfold World.cells? at h
 split at h
 ·have hl:=mapM_some_length h
  refine ⟨by simpa using hl,fun j hj=>?_⟩
  have hg:=mapM_some_get h j j (by simp [hj])
  refine ⟨hg,?_⟩
  rw [List.getElem?_eq_getElem (by rw [show cs.length = n by simpa using hl]; exact hj)]
  rfl
 ·cases h
theorem cell_spot {W : World} {a : Addr} {v : Value} (h : W.cell? a = some v) : a.spot = none:=by
 unfold World.cell? at h
 split at h
 ·split at h
  ·cases h
  ·rename_i hs
   cases hx : a.spot with
   | none=>rfl
   | some y=>rw [hx] at hs; simp at hs
 ·cases h
theorem list_choose {α : Type} {R : Nat → α → Prop} : ∀ (n : Nat),(∀ i,i < n → ∃ x,R i x) → ∃ xs : List α,xs.length = n ∧ ∀ i (x : α),xs[i]? = some x → R i x
 | 0,_=>⟨[],rfl,fun i x h=>by simp at h⟩
 | n + 1,h=>by
   obtain ⟨xs,h1,h2⟩:=list_choose n fun i hi=>h i (by omega)
   obtain ⟨y,hy⟩:=h n (by omega)
   refine ⟨xs ++ [y],by simp [h1],fun i x hx=>?_⟩
   rw [List.getElem?_append] at hx
   split at hx
   ·exact h2 i x hx
   ·have : i - xs.length = 0:=by
     have:=(List.getElem?_eq_some_iff.mp hx).1
     simpa using this
    rw [this] at hx
    simp at hx
    subst hx
    have : i = n:=by omega
    subst this
    exact hy
theorem cr_flat {γ : Gh} {α : Type} {f : α → List AV} {k : Nat} (hk : ∀ x,(f x).length = k) {b : Nat} : ∀ (xs : List α) (off : Nat),(∀ i (x : α),xs[i]? = some x → ∀ j a,(f x)[j]? = some a → ∃ v,γ.im b (off + i * k + j) = some v ∧ VR γ a v) → CR γ (xs.flatMap f) b off
 | [],off,_=>.nil _ _
 | x :: xs,off,h=>by
   rw [List.flatMap_cons]
   refine CR.of_get fun i a ha=>?_
   rw [List.getElem?_append] at ha
   split at ha
   ·have:=h 0 x rfl i a ha
    simpa using this
   ·rename_i hi
    rw [hk] at ha hi
    have ih:=cr_flat hk xs (off + k) (fun i' x' hx' j a' ha'=>by
     have:=h (i' + 1) x' (by simpa using hx') j a' ha'
     obtain ⟨v,h1,h2⟩:=this
     exact ⟨v,by rw [← h1]; congr 1; rw [Nat.add_mul]; omega,h2⟩)
    obtain ⟨v,h1,h2⟩:=ih.get ha
    exact ⟨v,by rw [← h1]; congr 1; omega,h2⟩
theorem rd_slice {α : Type} {Q : α → Prop} {f : α → List AV} {k : Nat} (ht : P.underlying t = some (.slice e)) (hc : P.cellsOf e = k) (hk : ∀ x,(f x).length = k) (hpos : 0 < k) (hu : ∀ x,∀ a ∈ f x,isByte a = false) (he : Rd T P W e Q f) :
  Rd T P W t (fun xs : List α=>xs.length ≤ maxLen ∧ ∀ x ∈ xs,Q x) (fun xs=>[.sl xs.length (xs.flatMap f)]):=by
 intro H enc sp held fuel cs x h
 rcases DataW.trod_slice ht h with ⟨rfl,_⟩ | ⟨a,len,cap,elems,rest,n,_,rfl,_,_,hle,hcap,hel,hat,_,_⟩
 ·exact ⟨[],⟨Nat.zero_le _,fun x hx=>by cases hx⟩,.cons _ _ _ _ .slNil .nil⟩
 ·rw [hc] at hat
  have hs0 : 0 < len → a.spot = none:=fun h0=>by
   have h1:=hat 0 h0
   rw [List.getElem?_eq_getElem (by omega),Option.bind_eq_some_iff] at h1
   obtain ⟨c1,hc1,_⟩:=h1
   obtain ⟨_,hg⟩:=cells_get hc1
   obtain ⟨h2,h3⟩:=hg 0 hpos
   obtain ⟨v,hv⟩:=Option.isSome_iff_exists.mp h3
   rw [hv] at h2
   have:=cell_spot h2
   simpa [Addr.add] using this
  have : ∀ i,i < len → ∃ y : α,Q y ∧ a.spot = none ∧ ∀ j av,(f y)[j]? = some av → ∃ v,(gh0 T W).im a.block (a.off + i * k + j) = some v ∧ VR (gh0 T W) av v:=by
   intro i hi
   have hi2 : i < elems.length:=by omega
   have h1:=hat i hi
   rw [List.getElem?_eq_getElem hi2,Option.bind_eq_some_iff] at h1
   obtain ⟨c1,hc1,hy⟩:=h1
   obtain ⟨y,hq,hv⟩:=he H enc sp held n c1 _ hy
   obtain ⟨hl,hg⟩:=cells_get hc1
   have hs:=hs0 (by omega)
   refine ⟨y,hq,hs,fun j av hav=>?_⟩
   have hj : j < k:=by rw [← hk y]; exact (List.getElem?_eq_some_iff.mp hav).1
   obtain ⟨v,h4,h5⟩:=hv.get hav
   refine ⟨v,im0 ?_ (vr_notB h5 (hu y av (List.mem_of_getElem? hav))),h5⟩
   rw [← h4,← (hg j hj).1]
   obtain ⟨ab,ao,asp⟩:=a
   simp at hs
   subst hs
   rw [addr_add,addr_add]
  obtain ⟨xs,hxl,hx⟩:=list_choose len this
  refine ⟨xs,⟨by omega,fun x hx'=>?_⟩,.cons _ _ _ _ ?_ .nil⟩
  ·obtain ⟨i,hi,rfl⟩:=List.getElem_of_mem hx'
   exact (hx i _ (List.getElem?_eq_getElem hi)).1
  ·cases xs with
   | nil=>
     simp at hxl
     subst hxl
     exact .slEmp _ _
   | cons y ys=>
     have hs:=(hx 0 y rfl).2.1
     have ea : a = ⟨a.block,a.off,none⟩:=by cases a; simp_all
     rw [ea,← hxl]
     refine .sl _ _ _ _ _ (cr_flat hk _ _ fun i x hx' j av hav=>(hx i x hx').2.2 j av hav) (by omega)
def RdF (T : Nat → Bool) (P : Program) (W : World) : List Field → Nat → {α : Type} → (α → Prop) → (α → List AV) → Prop:=fun fs off α Q f=>
 ∀ (H : Type) (enc : TypeId × Value → H) (sp : Nat → Bool) (held : Bool) (fuel : Nat) (cs : List Value),(∀ g ∈ fs,(DataW.trod enc P W 0 sp held fuel g.type ((cs.drop g.offset).take (P.cellsOf g.type))).isSome) → cs.length = off + (fs.map fun g=>P.cellsOf g.type).sum → ∃ a,Q a ∧ VRs (gh0 T W) (f a) (cs.drop off)
theorem rdF_nil {off : Nat} : RdF T P W [] off (fun _ : Unit=>True) (fun _=>[]):=by
 intro H enc sp held fuel cs _ hl
 refine ⟨(),trivial,?_⟩
 rw [List.drop_eq_nil_of_le (by simp at hl; omega)]
 exact .nil
theorem rdF_cons {α β : Type} {Q : α → Prop} {f : α → List AV} {Q' : β → Prop} {f' : β → List AV} {g : Field} {fs : List Field} {off : Nat} (ho : g.offset = off) (h : Rd T P W g.type Q f) (hf : RdF T P W fs (off + P.cellsOf g.type) Q' f') :
  RdF T P W (g :: fs) off (fun x : α × β=>Q x.1 ∧ Q' x.2) (fun x=>f x.1 ++ f' x.2):=by
 intro H enc sp held fuel cs hall hl
 obtain ⟨y,hy⟩:=Option.isSome_iff_exists.mp (hall g (by simp))
 obtain ⟨a,hq,hv⟩:=h H enc sp held fuel _ _ hy
 obtain ⟨b,hq',hv'⟩:=hf H enc sp held fuel cs (fun g' hg'=>hall g' (by simp [hg'])) (by simp at hl; omega)
 refine ⟨(a,b),⟨hq,hq'⟩,?_⟩
 have : cs.drop off = (cs.drop off).take (P.cellsOf g.type) ++ cs.drop (off + P.cellsOf g.type):=by
  rw [← List.drop_drop,List.take_append_drop]
 rw [this,← ho]
 exact hv.append (by rw [ho]; exact hv')
theorem rd_struct {α : Type} {Q : α → Prop} {f : α → List AV} {fs : Array Field} (ht : P.underlying t = some (.struct fs)) (hc : P.cellsOf t = (fs.toList.map fun g=>P.cellsOf g.type).sum) (h : RdF T P W fs.toList 0 Q f) : Rd T P W t Q f:=by
 intro H enc sp held fuel cs x hx
 obtain ⟨xs,n,_,_,hl,hxl,hat⟩:=DataW.trod_struct ht hx
 have:=h H enc sp held n cs (fun g hg=>by
  obtain ⟨i,hi,rfl⟩:=List.getElem_of_mem hg
  have hi' : i < fs.size:=by simpa using hi
  have h2:=hat i fs[i] (by simp [hi'])
  rw [List.getElem?_eq_getElem (by omega)] at h2
  rw [show fs.toList[i] = fs[i] from by simp,h2]
  rfl) (by rw [hl,hc]; omega)
 simpa using this
theorem Rd.map {α β : Type} {Q : α → Prop} {f : α → List AV} {Q' : β → Prop} {f' : β → List AV} (h : Rd T P W t Q f) (g : α → β) (hq : ∀ a,Q a → Q' (g a)) (hf : ∀ a,f' (g a) = f a) : Rd T P W t Q' f':= by
 intro H enc sp held fuel cs x hx
 obtain ⟨a,h1,h2⟩:=h H enc sp held fuel cs x hx
 exact ⟨g a,hq a h1,by rw [hf]; exact h2⟩
end
theorem arg_agg {T : Nat → Bool} {P : Program} {W : World} {t : TypeId} {fs : Array Field} {base : Nat} {v : Value} (ht : P.underlying t = some (.struct fs)) (hv : Value.okWide P W .any base t v) {α : Type} {Q : α → Prop} {f : α → List AV} (hr : Rd T P W t Q f) {H : Type} {enc : TypeId × Value → H} {sp : Nat → Bool} {held : Bool} {d : DataW H} {ps : List MemPlace} (h : DataW.Trod enc P W 0 sp held t v d ps) :
  ∃ a,Q a ∧ VR (gh0 T W) (.agg (f a)) v:=by
 simp only [Value.okWide,ht] at hv
 obtain ⟨cs,rfl,_,_⟩:=hv
 obtain ⟨n,hn⟩:=h
 obtain ⟨a,hq,hx⟩:=hr H enc sp held n _ _ hn
 exact ⟨a,hq,.agg _ _ hx⟩
theorem calls_open {C : Ctx} {call : CallO} (hc : CallOK C call) {f : FuncId} (hf : IsFn C.P f) (hn : C.np = true) {as : List AV} {b : Bool} (h : call f as [] = some (.bool b,[])) {W : World} (tabs : ∀ g l,C.gl g = some l → Tab W g l) {args : List Value} (ha : VRs (gh0 (tabB C) W) as args) :
  Calls C.P f ⟨args⟩ W fun e w'=>e = .returned (.bool b) ∧ Below W.heap.size W w':= by
 have hd:=hc f as [] (.bool b) [] h (gh0 (tabB C) W) W args ha (wr0 (tabB_plain tabs)) (gl0 hn tabs)
 unfold Does at hd
 rw [hf.enter] at hd
 refine Calls.mono hd fun e w' ⟨v2,he,g',hgo,hr⟩=>?_
 cases hr
 exact ⟨he,hgo.os,hgo.tape,hgo.output,hgo.size,fun k hk=>(hgo.fr k hk (fun o x hx=>by simp at hx)).2.1⟩
end Go.Ev
namespace Go.Ev
open Go.RowKit Go.ChangeShapes
theorem trodAll_below {H : Type} {enc : TypeId × Value → H} {P : Program} {W W' : World} (hl : laidOutB P = true) (hb : Below W.heap.size W W') : ∀ {ts : List TypeId} {vs : List Value} {ds : List (DataW H)} {ps : List MemPlace},(ts.all fun t=>P.readableRec t && decide (t < P.types.size)) = true →
  DataW.TrodAll enc P W 0 (fun _=>true) true ts vs ds ps → (∀ x ∈ ps,x.block < W.heap.size) → DataW.TrodAll enc P W' 0 (fun b=>decide (b < W.heap.size)) true ts vs ds ps
 | [],vs,ds,ps,_,h,_=>by
   obtain ⟨rfl,rfl,rfl⟩:=trodAll_nil h
   rfl
 | t :: ts,vs,ds,ps,ht,h,hlt=>by
   obtain ⟨v,vs',d,ds',p,q,rfl,rfl,rfl,h1,h2⟩:=trodAll_cons h
   simp only [List.all_cons,Bool.and_eq_true,decide_eq_true_eq] at ht
   exact trodAll_cons_mk (Below.trod hl ht.1.1 ht.1.2 h1 hb fun x hx=>hlt x (by simp [hx])) (trodAll_below hl hb (by simpa using ht.2) h2 fun x hx=>hlt x (by simp [hx]))
end Go.Ev
namespace Go.Ev
end Go.Ev
namespace Go.Ev
set_option linter.unusedVariables false
variable {C : Ctx} {call : CallO} {n : Nat}
abbrev RX:=Option (XE × As × St)
def seqR (r : RX) (k : As → St → RX) : RX:=match r with
 | some (.normal,e,σ)=>k e σ
 | r=>r
def blockR (id : Nat) (r : RX) : RX:=match r with
 | some (.exit i,e,σ)=>some (if i = id then .normal else .exit i,e,σ)
 | r=>r
def opsW (r : Option (As × St)) : RX:=match r with
 | some (e,σ)=>some (.normal,e,σ)
 | none=>none
noncomputable def condK (C : Ctx) (call : CallO) (n : Nat) (v : AV) (a b : KC) (e : As) (σ : St) : RX:=match v with
 | .bool true=>semK C call n a e σ
 | .bool false=>semK C call n b e σ
 | _=>none
noncomputable def ogK (C : Ctx) (call : CallO) (n : Nat) (b : Bool) (d : Option Nat) (i : XI) (l : List XOp) (e : As) (σ : St) : Option (As × St):=match b with
 | true=>out call d e (evIX C (avA C e) n σ i) (evOpsA C call n l)
 | false=>evOpsA C call n l (putL e d .undef) σ
def loopW (r : RX) (k : As → St → RX) : RX:=match r with
 | some (.normal,e,σ)=>k e σ
 | r=>r
def callR (d : Option Nat) (e : As) (r : Option (AV × St)) (k : As → St → Option (As × St)) : Option (As × St):=match r with
 | some (v,σ)=>k (putL e d v) σ
 | none=>none
def endR (n : Nat) (rs : List XR) (r : RX) : Option (AV × St):=match r with
 | some (.exit _,_,_)=>none
 | none=>none
 | some (_,e,σ2)=>match resL e σ2 rs with
   | none=>none
   | some vs=>match hand false vs σ2 with
     | none=>none
     | some (vs,σ3)=>some (tupleOf vs,tidy n vs σ3)
theorem seqR_normal (e σ k) : seqR (some (.normal,e,σ)) k = k e σ:=rfl
theorem seqR_exit (i e σ k) : seqR (some (.exit i,e,σ)) k = some (.exit i,e,σ):=rfl
theorem seqR_ret (e σ k) : seqR (some (.ret,e,σ)) k = some (.ret,e,σ):=rfl
theorem seqR_none (k) : seqR none k = none:=rfl
theorem blockR_normal (id e σ) : blockR id (some (.normal,e,σ)) = some (.normal,e,σ):=rfl
theorem blockR_exit (id i e σ) : blockR id (some (.exit i,e,σ)) = some (if i = id then .normal else .exit i,e,σ):=rfl
theorem blockR_ret (id e σ) : blockR id (some (.ret,e,σ)) = some (.ret,e,σ):=rfl
theorem blockR_none (id) : blockR id none = none:=rfl
theorem loopW_normal (e σ k) : loopW (some (.normal,e,σ)) k = k e σ:=rfl
theorem loopW_exit (i e σ k) : loopW (some (.exit i,e,σ)) k = some (.exit i,e,σ):=rfl
theorem loopW_ret (e σ k) : loopW (some (.ret,e,σ)) k = some (.ret,e,σ):=rfl
theorem loopW_none (k) : loopW none k = none:=rfl
theorem opsW_some (e σ) : opsW (some (e,σ)) = some (.normal,e,σ):=rfl
theorem opsW_none : opsW none = none:=rfl
theorem condK_true (a b e σ) : condK C call n (.bool true) a b e σ = semK C call n a e σ:=rfl
theorem condK_false (a b e σ) : condK C call n (.bool false) a b e σ = semK C call n b e σ:=rfl
theorem ogK_true (d i l e σ) : ogK C call n true (some d) i l e σ = out call (some d) e (evIX C (avA C e) n σ i) (evOpsA C call n l):=rfl
theorem ogK_false (d i l e σ) : ogK C call n false (some d) i l e σ = evOpsA C call n l ((d,.undef) :: e) σ:=rfl
theorem ugK_true (i l e σ) : ogK C call n true none i l e σ = out call none e (evIX C (avA C e) n σ i) (evOpsA C call n l):=rfl
theorem ugK_false (i l e σ) : ogK C call n false none i l e σ = evOpsA C call n l e σ:=rfl
theorem boolIs_undef (b : Bool) : boolIs b .undef = false:=by cases b <;> rfl
theorem sk_og (d t : Nat) (b : Bool) (i : XI) (l : List XOp) (e : As) (σ : St) : evOpsA C call n (og d t b i :: l) e σ = ogK C call n (boolIs b (look e t)) (some d) i l e σ:=by
 rw [evOps_og]; unfold ogK; cases boolIs b (look e t) <;> rfl
theorem sk_ug (t : Nat) (b : Bool) (i : XI) (l : List XOp) (e : As) (σ : St) : evOpsA C call n (ug t b i :: l) e σ = ogK C call n (boolIs b (look e t)) none i l e σ:=by
 rw [evOps_ug]; unfold ogK; cases boolIs b (look e t) <;> rfl
theorem callR_some (d e v σ k) : callR (some d) e (some (v,σ)) k = k ((d,v) :: e) σ:=rfl
theorem callR_somen (e v σ k) : callR none e (some (v,σ)) k = k e σ:=rfl
theorem out_call' (d : Option Nat) (e : As) (f : FuncId) (args : List AV) (σ : St) (k) : out call d e (some (.call f args σ)) k = callR d e (call f args σ) k:=rfl
theorem endR_ret (n rs e σ) : endR n rs (some (.ret,e,σ)) = match resL e σ rs with
  | none=>none
  | some vs=>match hand false vs σ with
    | none=>none
    | some (vs,σ3)=>some (tupleOf vs,tidy n vs σ3):=rfl
theorem endR_normal (n rs e σ) : endR n rs (some (.normal,e,σ)) = match resL e σ rs with
  | none=>none
  | some vs=>match hand false vs σ with
    | none=>none
    | some (vs,σ3)=>some (tupleOf vs,tidy n vs σ3):=rfl
theorem endR_none (n rs) : endR n rs none = none:=rfl
theorem sk_ops (l : List XOp) (e : As) (σ : St) : semK C call n (.ops l) e σ = opsW (evOpsA C call n l e σ):=rfl
theorem sk_plain (l : List XOp) (e : As) (σ : St) : semK C call n (.plain l) e σ = opsW (evOpsA C call n l e σ):=rfl
theorem sk_drawn (l : List XOp) (e : As) (σ : St) : semK C call n (.drawn l) e σ = opsW (evDrawnA C call n l e σ):=rfl
theorem sk_seq (a b : KC) (e : As) (σ : St) : semK C call n (.seq a b) e σ = seqR (semK C call n a e σ) (semK C call n b):=rfl
theorem sk_cond (c : XA) (a b : KC) (e : As) (σ : St) : semK C call n (.cond c a b) e σ = condK C call n (avA C e c) a b e σ:=rfl
theorem sk_block (id : Nat) (b : KC) (e : As) (σ : St) : semK C call n (.block id b) e σ = blockR id (semK C call n b e σ):=rfl
theorem loop_eq {k : List Nat} {b : KC} {e : As} (he : keepA k e = e) (σ : St) : loopK C call n k b e σ = loopW (semK C call n b e σ) fun e' σ'=>loopK C call n k b (keepA k e') σ':= loopK_eq C call n he σ
theorem Has.go {f : FuncId} {K : KF} (h : Has C f K) {args args' : List AV} {σ : St} (hn : hand false args σ = some (args',σ)) (hl : ¬ args'.length > K.ntmps) : semF C f args σ = endR σ.length K.results (semK C (semF C) K.ntmps K.body (argsA 0 args') σ):=by
 rw [h.run]
 unfold runK
 rw [hn]
 dsimp only
 rw [if_neg hl]
 rfl
theorem bytesEq_is : ∀ x y : List UInt8,bytesEq x y = decide (x = y)
 | [],[]=>by simp [bytesEq]
 | [],_ :: _=>by simp [bytesEq]
 | _ :: _,[]=>by simp [bytesEq]
 | a :: x,b :: y=>by
   rw [bytesEq,bytesEq_is x y]
   by_cases h : a = b <;> simp [h]
theorem bs_eql (x y : List UInt8) : binStr .eql x y = some (.bool (decide (x = y))):=by rw [← bytesEq_is]; rfl
theorem bs_neq (x y : List UInt8) : binStr .neq x y = some (.bool !(decide (x = y))):=by rw [← bytesEq_is]; rfl
theorem bs_lss (x y : List UInt8) : binStr .lss x y = some (.bool (Op.bytesLess x y)):=rfl
theorem bs_leq (x y : List UInt8) : binStr .leq x y = some (.bool (Op.bytesLess x y || decide (x = y))):=by rw [← bytesEq_is]; rfl
theorem bs_gtr (x y : List UInt8) : binStr .gtr x y = some (.bool !(Op.bytesLess x y || decide (x = y))):=by rw [← bytesEq_is]; rfl
theorem bs_geq (x y : List UInt8) : binStr .geq x y = some (.bool !(Op.bytesLess x y)):=rfl
theorem bs_add {x y : List UInt8} (h : x.length + y.length ≤ 9223372036854775807) : binStr .add x y = some (.str (x ++ y)):=by
 unfold binStr; dsimp only; rw [if_neg (by omega)]
def runR (A : As) (σ : St) (v : AV) (r : Option (As × St × List (As × AV) × List St)) : Option (As × St × List (As × AV) × List St):=match r with
 | some (A',σ'',rs,ss)=>some (A',σ'',(A,v) :: rs,σ :: ss)
 | none=>none
def stepR (d : Option Nat) (A : As) (σ : St) (x : Option (AV × St)) (k : As → St → Option (As × St × List (As × AV) × List St)):=match x with
 | some (v,σ')=>runR A σ v (k (putL A d v) σ')
 | none=>none
def opR (call : CallO) (x : Option Out) : Option (AV × St):=match x with
 | some (.val v σ')=>some (v,σ')
 | some (.call f args σ')=>call f args σ'
 | none=>none
theorem rn_nil (A : As) (σ : St) : evRunA C call n [] A σ = some (A,σ,[],[σ]):=rfl
theorem rn_o (d : Nat) (i : XI) (l : List XOp) (A : As) (σ : St) : evRunA C call n (o d i :: l) A σ = stepR (some d) A σ (opR call (evIX C (avA C A) n σ i)) (evRunA C call n l):=rfl
theorem rn_u (i : XI) (l : List XOp) (A : As) (σ : St) : evRunA C call n (u i :: l) A σ = stepR none A σ (opR call (evIX C (avA C A) n σ i)) (evRunA C call n l):=rfl
theorem rn_m (d s : Nat) (l : List XOp) (A : As) (σ : St) : evRunA C call n (m d s :: l) A σ = stepR (some d) A σ (some (look A s,σ)) (evRunA C call n l):=rfl
theorem rn_x (d : Option Nat) (i : XI) (c : List Nat) (l : List XOp) (A : As) (σ : St) : evRunA C call n (⟨d,i,none,c⟩ :: l) A σ = stepR d A σ (opR call (evIX C (avA C A) n σ i)) (evRunA C call n l):=rfl
theorem stepR_some (d A σ v σ' k) : stepR (some d) A σ (some (v,σ')) k = runR A σ v (k ((d,v) :: A) σ'):=rfl
theorem stepR_somen (A σ v σ' k) : stepR none A σ (some (v,σ')) k = runR A σ v (k A σ'):=rfl
theorem opR_val (v σ) : opR call (some (.val v σ)) = some (v,σ):=rfl
theorem opR_call (f args σ) : opR call (some (.call f args σ)) = call f args σ:=rfl
theorem runR_some (A σ v A' σ' rs ss) : runR A σ v (some (A',σ',rs,ss)) = some (A',σ',(A,v) :: rs,σ :: ss):=rfl
def drawR (C : Ctx) (n : Nat) (l : List XOp) (r : Option (As × St × List (As × AV) × List St)) : Option (As × St):=match r with
 | some (A',σ',rs,ss)=>if rechecksA C n ss l rs then some (A',σ') else none
 | none=>none
theorem dr_run (l : List XOp) (A : As) (σ : St) : evDrawnA C call n l A σ = drawR C n l (evRunA C call n l A σ):=rfl
theorem dr_some (l : List XOp) (A' σ' rs ss) : drawR C n l (some (A',σ',rs,ss)) = if rechecksA C n ss l rs then some (A',σ') else none:=rfl
theorem rc_nil (ss : List St) (l) : rechecksA C n ss [] l = true:=rfl
theorem rc_o (d : Nat) (i : XI) (l : List XOp) (ss : List St) (A : As) (v : AV) (rs) : rechecksA C n ss (o d i :: l) ((A,v) :: rs) = rechecksA C n ss l rs:=by
 show ((!wantA (o d i) A || recheckA C n (o d i) A v ss []) && _) = _
 rw [recheckA,Bool.or_true,Bool.true_and]
theorem rc_u (i : XI) (l : List XOp) (ss : List St) (A : As) (v : AV) (rs) : rechecksA C n ss (u i :: l) ((A,v) :: rs) = rechecksA C n ss l rs:=by
 show ((!wantA (u i) A || recheckA C n (u i) A v ss []) && _) = _
 rw [recheckA,Bool.or_true,Bool.true_and]
theorem rc_m (d s : Nat) (l : List XOp) (ss : List St) (A : As) (v : AV) (rs) : rechecksA C n ss (m d s :: l) ((A,v) :: rs) = rechecksA C n ss l rs:=by
 show ((!wantA (m d s) A || recheckA C n (m d s) A v ss []) && _) = _
 rw [recheckA,Bool.or_true,Bool.true_and]
def reR (C : Ctx) (n : Nat) (A : As) (i : XI) (v : AV) (s s' : Option St) : Bool:=match s,s' with
 | some s,some s'=>(match evIX C (avA C A) n s i,evIX C (avA C A) n s' i with
   | some (.val v1 _),some (.val v2 _)=>same v1 v && same v2 v
   | _,_=>false)
 | _,_=>false
def reO (v : AV) (x y : Option Out) : Bool:=match x,y with
 | some (.val v1 _),some (.val v2 _)=>same v1 v && same v2 v
 | _,_=>false
theorem reR_some (A : As) (i : XI) (v : AV) (s s' : St) : reR C n A i v (some s) (some s') = reO v (evIX C (avA C A) n s i) (evIX C (avA C A) n s' i):=rfl
theorem reO_val (v v1 v2 : AV) (s1 s2 : St) : reO v (some (.val v1 s1)) (some (.val v2 s2)) = (same v1 v && same v2 v):=rfl
theorem rc_x (d : Option Nat) (i : XI) (c : List Nat) (l : List XOp) (ss : List St) (A : As) (v : AV) (rs) : rechecksA C n ss (⟨d,i,none,c⟩ :: l) ((A,v) :: rs) = ((c.all fun c=>reR C n A i v ss[c]? ss[c + 1]?) && rechecksA C n ss l rs):=by
 show ((!wantA ⟨d,i,none,c⟩ A || recheckA C n ⟨d,i,none,c⟩ A v ss c) && _) = _
 have : ∀ c' : List Nat,recheckA C n ⟨d,i,none,c⟩ A v ss c' = c'.all fun c=>reR C n A i v ss[c]? ss[c + 1]?:= by
  intro c'
  induction c' with
  | nil=>rfl
  | cons x c' ih=>rw [recheckA,ih,List.all_cons]; rfl
 rw [this]
 rfl
theorem same_int (k : IntKind) (a : Int) : same (.int k a) (.int k a) = true:=by cases k <;> simp [same] <;> rfl
theorem same_str (s : List UInt8) : same (.str s) (.str s) = true:=by simp [same,bytesEq_is]
theorem same_bool (b : Bool) : same (.bool b) (.bool b) = true:=by simp [same]
theorem st_get0 (σ L : St) : (σ ++ L)[σ.length]? = L[0]?:= by rw [List.getElem?_append_right (Nat.le_refl _),Nat.sub_self]
theorem st_get (σ L : St) (k : Nat) : (σ ++ L)[σ.length + k]? = L[k]?:= by rw [List.getElem?_append_right (Nat.le_add_right _ _),Nat.add_sub_cancel_left]
theorem st_set0 (σ L : St) (x : AO) : (σ ++ L).set σ.length x = σ ++ L.set 0 x:=by rw [List.set_append_right _ _ (Nat.le_refl _),Nat.sub_self]
theorem st_set (σ L : St) (k : Nat) (x : AO) : (σ ++ L).set (σ.length + k) x = σ ++ L.set k x:=by rw [List.set_append_right _ _ (Nat.le_add_right _ _),Nat.add_sub_cancel_left]
theorem st_len (σ L : St) : (σ ++ L).length = σ.length + L.length:=List.length_append
theorem st_app (σ L M : St) : σ ++ L ++ M = σ ++ (L ++ M):=List.append_assoc _ _ _
theorem st_tidy0 (σ : St) (vs : List AV) : tidy σ.length vs σ = σ:=tidy_same σ vs
theorem st_tidy {σ : St} (hσ : Ok σ) {vs : List AV} (hv : belows 0 vs = true) (l : St) : tidy σ.length vs (σ ++ l) = σ:=tidy_app hσ (belows_mono (Nat.zero_le _) _ hv) l
theorem st_ok {σ : St} (hσ : Ok σ) {L : St} (hl : L.all (AO.below (σ.length + L.length)) = true) : Ok (σ ++ L):=hσ.app hl
theorem nv_bool (σ r) (b : Bool) : normV σ r (.bool b) = some (.bool b,[]):=rfl
theorem nv_int (σ r) (k : IntKind) (i : Int) : normV σ r (.int k i) = some (.int k i,[]):=rfl
theorem nv_str (σ r) (s : List UInt8) : normV σ r (.str s) = some (.str s,[]):=rfl
theorem nv_sl (σ r) (i : Nat) (l : List AV) : normV σ r (.sl i l) = some (.sl i l,[]):=rfl
structure NV (v : AV) : Prop where
 nf : ∀ σ r,normV σ r v = some (v,[])
 cl : below 0 v = true
def NVs (l : List AV) : Prop:=∀ v ∈ l,NV v
theorem NVs.nil : NVs []:=fun v h=>nomatch h
theorem NVs.cons {v l} (h : NV v) (k : NVs l) : NVs (v :: l):=fun x hx=>by
 rcases List.mem_cons.mp hx with rfl | hx
 ·exact h
 ·exact k x hx
theorem NVs.app {a b} (h : NVs a) (k : NVs b) : NVs (a ++ b):=fun x hx=>by
 rcases List.mem_append.mp hx with hx | hx
 ·exact h x hx
 ·exact k x hx
theorem NVs.nf : ∀ {l : List AV},NVs l → ∀ σ r,normVs σ r l = some (l,[])
 | [],_,_,_=>rfl
 | v :: l,h,σ,r=>by
   show (match normV σ r v,normVs σ r l with | some (v,fs),some (l,gs)=>some (v :: l,fs ++ gs) | _,_=>none) = _
   rw [(h v (by simp)).nf,NVs.nf (fun x hx=>h x (by simp [hx]))]
   rfl
theorem NVs.cl : ∀ {l : List AV},NVs l → belows 0 l = true
 | [],_=>rfl
 | v :: l,h=>by
   rw [belows,(h v (by simp)).cl,NVs.cl (fun x hx=>h x (by simp [hx]))]; rfl
theorem NV.bool (b : Bool) : NV (.bool b):=⟨fun _ _=>rfl,rfl⟩
theorem NV.int (k : IntKind) (i : Int) : NV (.int k i):=⟨fun _ _=>rfl,rfl⟩
theorem NV.str (s : List UInt8) : NV (.str s):=⟨fun _ _=>rfl,rfl⟩
theorem NV.sl (i : Nat) {l : List AV} (h : belows 0 l = true) : NV (.sl i l):=⟨fun _ _=>rfl,by rw [below]; exact h⟩
theorem NV.agg {l : List AV} (h : NVs l) : NV (.agg l):=⟨fun σ r=>by
 show (match normVs σ r l with | some (l,fs)=>some (AV.agg l,fs) | none=>none) = _
 rw [h.nf],by rw [below]; exact h.cl⟩
theorem NV.tup {l : List AV} (h : NVs l) : NV (.tup l):=⟨fun σ r=>by
 show (match normVs σ r l with | some (l,fs)=>some (AV.tup l,fs) | none=>none) = _
 rw [h.nf],by rw [below]; exact h.cl⟩
theorem NVs.hand {l : List AV} (h : NVs l) (σ : St) : hand false l σ = some (l,σ):=by
 show (match norms σ 12 l with | some (l,fs)=>some (l,freeze σ fs) | none=>none) = _
 rw [show norms σ 12 l = normVs σ (norms σ 11) l from rfl,h.nf]
 rfl
theorem sp_cons (a x : AV) (l v : List AV) : splice (a :: l) 0 (x :: v) = x :: splice l 0 v:=by simp [splice]
theorem sp_nil (l : List AV) : splice l 0 [] = l:=by simp [splice]
theorem ap_zero (σ : St) (sz bytes : Nat) (ty) (i : Nat) (l cs : List AV) : appA σ sz bytes ty (.sl i l) 0 cs = some (.sl i l,σ):=rfl
theorem ap_nils0 (σ : St) (sz bytes : Nat) (ty) (cs : List AV) : appA σ sz bytes ty .nils 0 cs = some (.nils,σ):=rfl
theorem ap_nils (σ : St) {sz bytes : Nat} (ty) {m : Nat} (cs : List AV) (hm : ¬ m = 0) (h1 : m * bytes ≤ 70368744177664) (h2 : m ≤ 70368744177664) : appA σ sz bytes ty .nils m cs = some (.msl σ.length 0 m sz,σ ++ [.cells cs ⟨false,ty⟩]):=by
 unfold appA; rw [if_neg hm]; dsimp only; rw [if_pos ⟨h1,h2⟩]
theorem ap_xsl (σ : St) {sz bytes : Nat} (ty) {n m : Nat} {l : List AV} (cs : List AV) (hm : ¬ m = 0) (hl : l.length = n * sz) (h1 : (n + m) * bytes ≤ 70368744177664) (h2 : n + m ≤ 70368744177664) : appA σ sz bytes ty (.xsl n l) m cs = some (.msl σ.length 0 (n + m) sz,σ ++ [.cells (l ++ cs) ⟨false,ty⟩]):=by
 unfold appA; rw [if_neg hm]; dsimp only; rw [if_pos ⟨hl,h1,h2⟩]
def SameSl (C : Ctx) (f : FuncId) (sz : Nat) : Prop:=∀ (n : Nat) (l : List AV) (σ : St),l.length = n * sz → n ≤ 1099511627776 → l.all scal = true → semF C f [.sl n l] σ = some (.sl n l,σ)
def Gives (C : Ctx) (f : FuncId) (args : List AV) (v : AV) : Prop:=∀ σ,Ok σ → semF C f args σ = some (v,σ)
end Go.Ev
namespace Go.Ev
theorem EVB : type_of% @look_nil ∧ type_of% @look_cons ∧ type_of% @keep_nil ∧ type_of% @keep_cons ∧ type_of% @args_nil ∧ type_of% @args_cons ∧ type_of% @resL_tmp ∧ type_of% @resL_nil ∧ type_of% @semK_skip ∧ type_of% @semK_exit ∧ type_of% @semK_ret ∧ type_of% @semK_scope ∧ type_of% @semK_loop ∧ type_of% @evOps_nil ∧ type_of% @evOps_o ∧ type_of% @evOps_u ∧ type_of% @evOps_m ∧ type_of% @out_val ∧ type_of% @out_valn ∧ type_of% @out_none ∧ type_of% @av_t ∧ type_of% @av_c ∧ type_of% @av_g ∧ type_of% @boolIs_true ∧ type_of% @boolIs_false ∧ type_of% @bin_add ∧ type_of% @bin_sub ∧ type_of% @bin_mul ∧ type_of% @bin_and ∧ type_of% @bin_or ∧ type_of% @bin_xor ∧ type_of% @bin_andNot ∧ type_of% @bin_eql ∧ type_of% @bin_neq ∧ type_of% @bin_lss ∧ type_of% @bin_leq ∧ type_of% @bin_gtr ∧ type_of% @bin_geq ∧ type_of% @bin_quo ∧ type_of% @bin_rem ∧ type_of% @bin_shl ∧ type_of% @bin_shr ∧ type_of% @bin_str ∧ type_of% @bin_of_bool ∧ type_of% @bin_of_nilp ∧ type_of% @bin_of_ref ∧ type_of% @bin_of_eptr ∧ type_of% @bin_of_nils ∧ type_of% @bin_of_emp ∧ type_of% @bin_of_sl ∧ type_of% @bin_of_xsl ∧ type_of% @bin_of_msl ∧ type_of% @bin_of_map ∧ type_of% @bin_of_nilMap ∧ type_of% @bin_of_func ∧ type_of% @bin_of_nilFunc ∧ type_of% @bin_of_iface ∧ type_of% @bin_of_nilIface ∧ type_of% @bin_of_agg ∧ type_of% @un_not ∧ type_of% @un_neg ∧ type_of% @cells_bool ∧ type_of% @flat_bool ∧ type_of% @cells_int ∧ type_of% @flat_int ∧ type_of% @cells_str ∧ type_of% @flat_str ∧ type_of% @cells_nilp ∧ type_of% @flat_nilp ∧ type_of% @cells_ref ∧ type_of% @flat_ref ∧ type_of% @cells_eptr ∧ type_of% @flat_eptr ∧ type_of% @cells_nils ∧ type_of% @flat_nils ∧ type_of% @cells_emp ∧ type_of% @flat_emp ∧ type_of% @cells_sl ∧ type_of% @flat_sl ∧ type_of% @cells_xsl ∧ type_of% @flat_xsl ∧ type_of% @cells_msl ∧ type_of% @flat_msl ∧ type_of% @cells_map ∧ type_of% @flat_map ∧ type_of% @cells_nilMap ∧ type_of% @flat_nilMap ∧ type_of% @cells_func ∧ type_of% @flat_func ∧ type_of% @cells_nilFunc ∧ type_of% @flat_nilFunc ∧ type_of% @cells_iface ∧ type_of% @flat_iface ∧ type_of% @cells_nilIface ∧ type_of% @flat_nilIface ∧ type_of% @cells_agg ∧ type_of% @splice_zero ∧ type_of% @splice_succ ∧ type_of% @ix_mv ∧ type_of% @ix_pick ∧ type_of% @ix_new ∧ type_of% @ix_box ∧ type_of% @ix_build ∧ type_of% @ix_buildSl ∧ type_of% @ix_load ∧ type_of% @ix_store ∧ type_of% @ix_nilck ∧ type_of% @bc_bool ∧ type_of% @bc_int ∧ type_of% @bc_str ∧ type_of% @bc_nilp ∧ type_of% @bc_ref ∧ type_of% @bc_eptr ∧ type_of% @bc_nils ∧ type_of% @bc_emp ∧ type_of% @bc_sl ∧ type_of% @bc_xsl ∧ type_of% @bc_msl ∧ type_of% @bc_map ∧ type_of% @bc_nilMap ∧ type_of% @bc_func ∧ type_of% @bc_nilFunc ∧ type_of% @bc_iface ∧ type_of% @bc_nilIface ∧ type_of% @bc_agg ∧ type_of% @ix_bin ∧ type_of% @ix_un ∧ type_of% @ix_i2i ∧ type_of% @ix_s2s ∧ type_of% @ix_i2s ∧ type_of% @ix_b2s ∧ type_of% @ix_s2b ∧ type_of% @ix_mkIface ∧ type_of% @ix_mkFunc ∧ type_of% @ix_mkMap ∧ type_of% @ix_mkSlice ∧ type_of% @ix_sliceStr ∧ type_of% @ix_sliceSl ∧ type_of% @ix_sliceArr ∧ type_of% @ix_fieldAddr ∧ type_of% @ix_field ∧ type_of% @ix_idxAddrArr ∧ type_of% @ix_idxAddrSl ∧ type_of% @ix_idxArr ∧ type_of% @ix_idxStr ∧ type_of% @ix_lookup ∧ type_of% @ix_mapUpd ∧ type_of% @ix_mapEntry ∧ type_of% @ix_entryStore ∧ type_of% @ix_extract ∧ type_of% @ix_app ∧ type_of% @ix_len ∧ type_of% @ix_lenC ∧ type_of% @ix_cpy ∧ type_of% @ix_minmax ∧ type_of% @ix_callF ∧ type_of% @ix_callV ∧ type_of% @ix_invoke ∧ type_of% @ix_pend ∧ type_of% @ix_fill ∧ type_of% @ix_fail ∧ type_of% @i2i_int ∧ type_of% @seqR_normal ∧ type_of% @seqR_exit ∧ type_of% @seqR_ret ∧ type_of% @seqR_none ∧ type_of% @blockR_normal ∧ type_of% @blockR_exit ∧ type_of% @blockR_ret ∧ type_of% @blockR_none ∧ type_of% @loopW_normal ∧ type_of% @loopW_exit ∧ type_of% @loopW_ret ∧ type_of% @loopW_none ∧ type_of% @opsW_some ∧ type_of% @opsW_none ∧ type_of% @condK_true ∧ type_of% @condK_false ∧ type_of% @ogK_true ∧ type_of% @ogK_false ∧ type_of% @ugK_true ∧ type_of% @ugK_false ∧ type_of% @sk_og ∧ type_of% @sk_ug ∧ type_of% @callR_some ∧ type_of% @callR_somen ∧ type_of% @out_call' ∧ type_of% @endR_ret ∧ type_of% @endR_normal ∧ type_of% @endR_none ∧ type_of% @sk_ops ∧ type_of% @sk_plain ∧ type_of% @sk_drawn ∧ type_of% @sk_seq ∧ type_of% @sk_cond ∧ type_of% @sk_block ∧ type_of% @bs_eql ∧ type_of% @bs_neq ∧ type_of% @bs_lss ∧ type_of% @bs_leq ∧ type_of% @bs_gtr ∧ type_of% @bs_geq ∧ type_of% @nv_bool ∧ type_of% @nv_int ∧ type_of% @nv_str ∧ type_of% @nv_sl ∧ type_of% @boolIs_undef ∧ type_of% @sp_cons ∧ type_of% @sp_nil ∧ type_of% @ap_zero ∧ type_of% @ap_nils0 ∧ type_of% @rn_nil ∧ type_of% @rn_o ∧ type_of% @rn_u ∧ type_of% @rn_m ∧ type_of% @rn_x ∧ type_of% @stepR_some ∧ type_of% @stepR_somen ∧ type_of% @opR_val ∧ type_of% @opR_call ∧ type_of% @runR_some ∧ type_of% @dr_run ∧ type_of% @dr_some ∧ type_of% @rc_nil ∧ type_of% @rc_o ∧ type_of% @rc_u ∧ type_of% @rc_m ∧ type_of% @rc_x ∧ type_of% @reR_some ∧ type_of% @reO_val ∧ type_of% @same_int ∧ type_of% @same_str ∧ type_of% @same_bool ∧ type_of% @st_get0 ∧ type_of% @st_get ∧ type_of% @st_set0 ∧ type_of% @st_set ∧ type_of% @st_len ∧ type_of% @st_app ∧ type_of% @st_tidy0:=
 ⟨@look_nil,@look_cons,@keep_nil,@keep_cons,@args_nil,@args_cons,@resL_tmp,@resL_nil,@semK_skip,@semK_exit,@semK_ret,@semK_scope,@semK_loop,@evOps_nil,@evOps_o,@evOps_u,@evOps_m,@out_val,@out_valn,@out_none,@av_t,@av_c,@av_g,@boolIs_true,@boolIs_false,@bin_add,@bin_sub,@bin_mul,@bin_and,@bin_or,@bin_xor,@bin_andNot,@bin_eql,@bin_neq,@bin_lss,@bin_leq,@bin_gtr,@bin_geq,@bin_quo,@bin_rem,@bin_shl,@bin_shr,@bin_str,@bin_of_bool,@bin_of_nilp,@bin_of_ref,@bin_of_eptr,@bin_of_nils,@bin_of_emp,@bin_of_sl,@bin_of_xsl,@bin_of_msl,@bin_of_map,@bin_of_nilMap,@bin_of_func,@bin_of_nilFunc,@bin_of_iface,@bin_of_nilIface,@bin_of_agg,@un_not,@un_neg,@cells_bool,@flat_bool,@cells_int,@flat_int,@cells_str,@flat_str,@cells_nilp,@flat_nilp,@cells_ref,@flat_ref,@cells_eptr,@flat_eptr,@cells_nils,@flat_nils,@cells_emp,@flat_emp,@cells_sl,@flat_sl,@cells_xsl,@flat_xsl,@cells_msl,@flat_msl,@cells_map,@flat_map,@cells_nilMap,@flat_nilMap,@cells_func,@flat_func,@cells_nilFunc,@flat_nilFunc,@cells_iface,@flat_iface,@cells_nilIface,@flat_nilIface,@cells_agg,@splice_zero,@splice_succ,@ix_mv,@ix_pick,@ix_new,@ix_box,@ix_build,@ix_buildSl,@ix_load,@ix_store,@ix_nilck,@bc_bool,@bc_int,@bc_str,@bc_nilp,@bc_ref,@bc_eptr,@bc_nils,@bc_emp,@bc_sl,@bc_xsl,@bc_msl,@bc_map,@bc_nilMap,@bc_func,@bc_nilFunc,@bc_iface,@bc_nilIface,@bc_agg,@ix_bin,@ix_un,@ix_i2i,@ix_s2s,@ix_i2s,@ix_b2s,@ix_s2b,@ix_mkIface,@ix_mkFunc,@ix_mkMap,@ix_mkSlice,@ix_sliceStr,@ix_sliceSl,@ix_sliceArr,@ix_fieldAddr,@ix_field,@ix_idxAddrArr,@ix_idxAddrSl,@ix_idxArr,@ix_idxStr,@ix_lookup,@ix_mapUpd,@ix_mapEntry,@ix_entryStore,@ix_extract,@ix_app,@ix_len,@ix_lenC,@ix_cpy,@ix_minmax,@ix_callF,@ix_callV,@ix_invoke,@ix_pend,@ix_fill,@ix_fail,@i2i_int,@seqR_normal,@seqR_exit,@seqR_ret,@seqR_none,@blockR_normal,@blockR_exit,@blockR_ret,@blockR_none,@loopW_normal,@loopW_exit,@loopW_ret,@loopW_none,@opsW_some,@opsW_none,@condK_true,@condK_false,@ogK_true,@ogK_false,@ugK_true,@ugK_false,@sk_og,@sk_ug,@callR_some,@callR_somen,@out_call',@endR_ret,@endR_normal,@endR_none,@sk_ops,@sk_plain,@sk_drawn,@sk_seq,@sk_cond,@sk_block,@bs_eql,@bs_neq,@bs_lss,@bs_leq,@bs_gtr,@bs_geq,@nv_bool,@nv_int,@nv_str,@nv_sl,@boolIs_undef,@sp_cons,@sp_nil,@ap_zero,@ap_nils0,@rn_nil,@rn_o,@rn_u,@rn_m,@rn_x,@stepR_some,@stepR_somen,@opR_val,@opR_call,@runR_some,@dr_run,@dr_some,@rc_nil,@rc_o,@rc_u,@rc_m,@rc_x,@reR_some,@reO_val,@same_int,@same_str,@same_bool,@st_get0,@st_get,@st_set0,@st_set,@st_len,@st_app,@st_tidy0⟩
end Go.Ev
namespace Go.Ev
set_option maxRecDepth 100000
variable {C : Ctx}
theorem flat_len {α : Type} {f : α → List AV} {k : Nat} (h : ∀ x,(f x).length = k) : ∀ l : List α,(l.flatMap f).length = l.length * k
 | []=>by simp
 | x :: l=>by simp [h,flat_len h l,Nat.add_mul,Nat.add_comm]
theorem flat_drop {α : Type} {f : α → List AV} {k : Nat} (h : ∀ x,(f x).length = k) : ∀ (l : List α) (i : Nat),(l.flatMap f).drop (i * k) = (l.drop i).flatMap f
 | l,0=>by simp
 | [],i + 1=>by simp
 | x :: l,i + 1=>by
   rw [List.flatMap_cons,List.drop_succ_cons,← flat_drop h l i,Nat.add_mul,Nat.one_mul,Nat.add_comm]
   rw [← h x,List.drop_append]
   simp
theorem flat_below {α : Type} {f : α → List AV} (h : ∀ x,belows 0 (f x) = true) : ∀ l : List α,belows 0 (l.flatMap f) = true
 | []=>rfl
 | x :: l=>by
   rw [List.flatMap_cons]
   have:=flat_below h l
   revert this
   have hx:=h x
   revert hx
   generalize f x = a
   generalize l.flatMap f = b
   intro ha hb
   induction a with
   | nil=>exact hb
   | cons v a ih=>
     rw [belows,Bool.and_eq_true] at ha
     rw [List.cons_append,belows,ha.1,ih ha.2]; rfl
theorem flat_at {α : Type} {f : α → List AV} {k : Nat} (h : ∀ x,(f x).length = k) {l : List α} {i : Nat} {x : α} (hx : l[i]? = some x) : (l.flatMap f).drop (i * k) = f x ++ (l.drop (i + 1)).flatMap f:=by
 have hi : i < l.length:=(List.getElem?_eq_some_iff.mp hx).1
 have : l.drop i = x :: l.drop (i + 1):=by
  rw [List.drop_eq_getElem_cons hi]
  rw [List.getElem?_eq_getElem hi] at hx
  rw [Option.some.inj hx]
 rw [flat_drop h,this,List.flatMap_cons]
end Go.Ev
namespace Go.Ev
theorem EVC :
  (∀ {α : Type} (a : α),(a = a) = True)
  ∧ (∀ {α : Type} {a : α} {as bs : List α},a :: as ++ bs = a :: (as ++ bs))
  ∧ (∀ {α : Type} (as : List α),[] ++ as = as)
  ∧ (∀ {α : Type} (as : List α),as ++ [] = as)
  ∧ (∀ {α : Type} {a : α} {as : List α},(a :: as).length = as.length + 1)
  ∧ (∀ {α : Type},([] : List α).length = 0)
  ∧ (∀ {α β : Type} {f : α → β} {a : α} {l : List α},List.map f (a :: l) = f a :: List.map f l)
  ∧ (∀ {α β : Type} {f : α → β},List.map f [] = [])
  ∧ (∀ {α : Type} {_ : Decidable True} (t e : α),(if True then t else e) = t)
  ∧ (∀ {α : Type} {_ : Decidable False} (t e : α),(if False then t else e) = e)
  ∧ (∀ {α β : Type} (a : α) (f : α → β),Option.map f (some a) = some (f a))
  ∧ (∀ {α β : Type} (f : α → β),Option.map f none = none)
  ∧ (!true) = false
  ∧ (!false) = true
  ∧ (false = true) = False
  ∧ (∀ (h : Decidable True),decide True = true)
  ∧ (∀ (h : Decidable False),decide False = false)
  ∧ (∀ {p : Prop} [Decidable p],(decide p = true) = p)
  ∧ (∀ (b : Bool),((!b) = true) = (b = false))
  ∧ (∀ {p : Prop} {x : Decidable p},decide p = false ↔ ¬p)
  ∧ (∀ {α : Type} {a : α} {l : List α},(a :: l)[0]? = some a)
  ∧ (∀ {α : Type} {a : α} {i : Nat} {l : List α},(a :: l)[i + 1]? = l[i]?)
  ∧ (∀ {α β : Type},(bind : Option α → (α → Option β) → Option β) = Option.bind)
  ∧ (∀ {α β : Type} (a : α) (f : α → Option β),(some a).bind f = f a)
  ∧ (∀ {α : Type},(pure : α → Option α) = some)
  ∧ (∀ (p : Prop),(p ∧ p) = p)
  ∧ (∀ (p : Prop),(True ∧ p) = p)
  ∧ (∀ (p : Prop),(p ∧ True) = p)
  ∧ (∀ {α : Type} {a : α} {l : List α} {f : α → Bool},(a :: l).all f = (f a && l.all f))
  ∧ (∀ {α : Type} {f : α → Bool},[].all f = true)
  ∧ (∀ (b : Bool),(b && b) = b)
  ∧ (∀ (b : Bool),(b && true) = b)
  ∧ (∀ (b : Bool),(true && b) = b)
  ∧ (∀ {α : Type} {a : α} {as : List α} {i : Nat},List.take (i + 1) (a :: as) = a :: List.take i as)
  ∧ (∀ {α : Type} {l : List α},List.take 0 l = [])
  ∧ (∀ {α : Type} {i : Nat},List.take i ([] : List α) = [])
  ∧ (∀ {α : Type} {a : α} {l : List α} {i : Nat},List.drop (i + 1) (a :: l) = List.drop i l)
  ∧ (∀ {α : Type} {l : List α},List.drop 0 l = l)
  ∧ (∀ {α : Type} {i : Nat},List.drop i ([] : List α) = [])
  ∧ (∀ (n : Nat),0 + n = n)
  ∧ (∀ (n : Nat),n + 0 = n)
  ∧ (∀ {α : Type} [BEq α] [LawfulBEq α] (a : α),(a != a) = false)
  ∧ (∀ (b : Bool),(b || false) = b)
  ∧ (∀ (b : Bool),(false || b) = b)
  ∧ (∀ (n : Nat),n * 1 = n)
  ∧ (∀ (n : Nat),1 * n = n)
  ∧ (∀ (n : Nat),n ≤ n)
  ∧ (∀ {α : Type} [LT α] {x y : α},x > y ↔ y < x)
  ∧ (∀ {α : Type} {a : α} {l : List α},(a :: l).head? = some a)
  ∧ ∀ {n : Nat},@Nat.cast Int instNatCastInt (no_index (OfNat.ofNat n)) = OfNat.ofNat n:=And.intro @eq_self.{1} (And.intro @List.cons_append.{0} (And.intro @List.nil_append.{0} (And.intro @List.append_nil.{0} (And.intro @List.length_cons.{0} (And.intro @List.length_nil.{0} (And.intro @List.map_cons.{0,0} (And.intro @List.map_nil.{0,0} (And.intro @if_true.{1} (And.intro @if_false.{1} (And.intro @Option.map_some.{0,0} (And.intro @Option.map_none.{0,0} (And.intro @Bool.not_true (And.intro @Bool.not_false (And.intro @Bool.false_eq_true (And.intro @decide_true (And.intro @decide_false (And.intro @decide_eq_true_eq (And.intro @Bool.not_eq_true' (And.intro @decide_eq_false_iff_not (And.intro @List.getElem?_cons_zero.{0} (And.intro @List.getElem?_cons_succ.{0} (And.intro @Option.bind_eq_bind.{0} (And.intro @Option.bind_some.{0,0} (And.intro @Option.pure_def.{0} (And.intro @and_self (And.intro @true_and (And.intro @and_true (And.intro @List.all_cons.{0} (And.intro @List.all_nil.{0} (And.intro @Bool.and_self (And.intro @Bool.and_true (And.intro @Bool.true_and (And.intro @List.take_succ_cons.{0} (And.intro @List.take_zero.{0} (And.intro @List.take_nil.{0} (And.intro @List.drop_succ_cons.{0} (And.intro @List.drop_zero.{0} (And.intro @List.drop_nil.{0} (And.intro @Nat.zero_add (And.intro @Nat.add_zero (And.intro @bne_self_eq_false.{0} (And.intro @Bool.or_false (And.intro @Bool.false_or (And.intro @Nat.mul_one (And.intro @Nat.one_mul (And.intro @Nat.le_refl (And.intro @gt_iff_lt.{0} (And.intro @List.head?_cons.{0} (@Int.cast_ofNat_Int)))))))))))))))))))))))))))))))))))))))))))))))))
end Go.Ev
namespace Go.Ev
theorem EVD :
  (∀ (n : Nat),((n : Int)).toNat = n)
  ∧ Int.toNat 0 = 0
  ∧ (∀ {α : Type} (a : α) (l : List α),a :: l ≠ [])
  ∧ (∀ {α : Type} [LE α] {x y : α},x ≥ y ↔ y ≤ x)
  ∧ (∀ (a : Int),a ≤ a)
  ∧ (∀ {α : Type} [BEq α] [ReflBEq α] (a : α),(a == a) = true)
  ∧ (∀ {α : Type} {x : α} {xs : List α} {i : Nat} {a : α},(x :: xs).set (i + 1) a = x :: xs.set i a)
  ∧ (∀ {α : Type} {x : α} {xs : List α} {a : α},(x :: xs).set 0 a = a :: xs)
  ∧ ∀ (n m : Nat),n ≤ m + n:=And.intro @Int.toNat_natCast (And.intro @Int.toNat_zero (And.intro @List.cons_ne_nil.{0} (And.intro @ge_iff_le.{0} (And.intro @Int.le_refl (And.intro @beq_self_eq_true.{0} (And.intro @List.set_cons_succ.{0} (And.intro @List.set_cons_zero.{0} (@Nat.le_add_left))))))))
end Go.Ev
