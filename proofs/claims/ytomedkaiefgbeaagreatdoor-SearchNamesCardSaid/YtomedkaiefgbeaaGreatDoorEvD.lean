/- An evaluator of the model, proved sound. No conditions. -/
import Derived.Test.YtomedkaiefgbeaaGreatDoorEvC
import Derived.LaidMore
import Derived.OpenShut
import Derived.ChangeArms
import Derived.WalkSmall
import Derived.Recover
set_option linter.unusedVariables false
set_option linter.unusedSimpArgs false
namespace Go.Ev
open Go.RowKit
set_option linter.unusedVariables false
instance : Inhabited (DataW Unit):=⟨.nil⟩
def Tab (W : World) (g : Nat) (l : List AV) : Prop:=
 ∃ c e,W.heap[g]? = some (.cells c e (0,0)) ∧ ∀ (i : Nat) (a : AV),l[i]? = some a → ∃ v,c[i]? = some v ∧ ∀ γ : Gh,VR γ a v
theorem h8f {P : Program} {W : World} : ∀ {laid : List (String × DataW Unit)} {ps : List MemPlace},DataW.LaidVars P W laid ps → ∀ {n : String} {d : DataW Unit},(n,d) ∈ laid →
  ∃ g t cs fuel p,P.globalNamed n = some g ∧ (P.globals[g]?).map (·.type) = some t ∧ W.var? P n = some cs ∧ DataW.trod (fun _=>()) P W 0 (fun _=>true) false fuel t cs.toList = some (d,p) ∧ ∀ x ∈ MemPlace.row ⟨g,0,none⟩ cs.size,x ∈ ps
 | [],_,_,_,_,hm=>by cases hm
 | (m,d') :: r,ps,h,n,d,hm=>by
   obtain ⟨g,t,cs,fuel,p,q,h1,h2,h3,h4,h5,rfl⟩:=h
   rcases List.mem_cons.mp hm with he | hm
   ·cases he
    exact ⟨g,t,cs,fuel,p,h1,h2,h3,h4,fun x hx=>by simp [hx]⟩
   ·obtain ⟨g',t',cs',fuel',p',k1,k2,k3,k4,k5⟩:=h8f h5 hm
    exact ⟨g',t',cs',fuel',p',k1,k2,k3,k4,fun x hx=>by simp [k5 x hx]⟩
theorem h4y {P : Program} {W : World} {laid : List (String × DataW Unit)} (h : laidMet P laid W) {n : String} {t e : TypeId} {N g : Nat} {l : List (DataW Unit)} {la : List AV} (hm : (n,.agg l) ∈ laid)
  (h1 : P.globalNamed n = some g) (h2 : (P.globals[g]?).map (·.type) = some t) (h3 : P.underlying t = some (.array (N + 1) e)) (h4 : P.cellsOf e = 1) (h5 : P.cellsOf t = N + 1) (hl : la.length = N + 1)
  (hv : ∀ (i : Nat) (a : AV) fuel (x : Value) p d,la[i]? = some a → l[i]? = some d → DataW.trod (fun _=>()) P W 0 (fun _=>true) false fuel e [x] = some (d,p) → ∀ γ : Gh,VR γ a x) : Tab W g la:=by
 obtain ⟨ps,hL,_,hc⟩:=h
 obtain ⟨g',t',cs,fuel,p,k1,k2,k3,k4,k5⟩:=h8f hL hm
 obtain rfl:=Option.some.inj (h1.symm.trans k1)
 obtain rfl:=Option.some.inj (h2.symm.trans k2)
 obtain ⟨xs,m,_,ex,hlen,hxl,hel⟩:=DataW.trod_array h3 k4
 have el : l = xs.map (·.1):=by
  have:=(Prod.mk.inj ex).1
  exact DataW.agg.inj this
 have hsz : cs.size = N + 1:=by rw [← h5,← hlen]; simp
 have h0 : MemPlace.cell g 0 ∈ ps:=k5 _ (by simp [MemPlace.row,hsz])
 obtain ⟨⟨c,e',hh⟩,_⟩:=hc g 0 h0
 have hcs : c = cs:=by
  unfold World.var? at k3
  rw [h1] at k3
  simp only [Option.bind_some,hh,Option.some.injEq] at k3
  exact k3
 subst hcs
 refine ⟨c,e',hh,fun i a ha=>?_⟩
 have hi : i < N + 1:=by rw [← hl]; exact (List.getElem?_eq_some_iff.mp ha).1
 have hE:=hel i hi
 rw [h4,Nat.mul_one] at hE
 have hi2 : i < c.size:=by omega
 have hd : ((c.toList.drop i).take 1) = [c[i]]:=by
  apply List.ext_getElem?
  intro j
  cases j with
  | zero=>simp [List.getElem?_take,List.getElem?_drop,hi2]
  | succ j=>simp [List.getElem?_take]
 rw [hd] at hE
 have hx : i < xs.length:=by omega
 rw [List.getElem?_eq_getElem hx] at hE
 refine ⟨c[i],Array.getElem?_eq_getElem hi2,?_⟩
 exact hv i a m c[i] xs[i].2 xs[i].1 ha (by rw [el]; simp [hx]) hE
theorem c5h {P : Program} {W : World} {laid : List (String × DataW Unit)} (h : laidMet P laid W) {n : String} {t e : TypeId} {N g : Nat} {k : IntKind} {l : List Int} (hm : (n,.agg (l.map fun i=>.lit (.int k i))) ∈ laid)
  (h1 : P.globalNamed n = some g) (h2 : (P.globals[g]?).map (·.type) = some t) (h3 : P.underlying t = some (.array (N + 1) e)) (h4 : P.cellsOf e = 1) (h5 : P.cellsOf t = N + 1) (hl : l.length = N + 1) (h6 : P.underlying e = some (.int k)) : Tab W g (l.map fun i=>.int k i):=by
 refine h4y h hm h1 h2 h3 h4 h5 (by simp [hl]) fun i a fuel x p d ha hd ht γ=>?_
 obtain ⟨z,e1,e2,_⟩:=DataW.trod_int h6 ht
 rw [List.getElem?_map] at ha hd
 cases hli : l[i]? with
 | none=>rw [hli] at ha; cases ha
 | some y=>
   rw [hli] at ha hd
   simp only [Option.map_some,Option.some.injEq] at ha hd
   subst ha hd
   simp only [List.cons.injEq,and_true] at e1
   simp only [Prod.mk.injEq,DataW.lit.injEq,Lit.int.injEq,true_and] at e2
   rw [e1,e2.1]
   exact .int _ _
theorem i0h {P : Program} {W : World} {laid : List (String × DataW Unit)} (h : laidMet P laid W) {n : String} {t e : TypeId} {N g : Nat} {l : List (List UInt8)} (hm : (n,.agg (l.map fun i=>.lit (.string i))) ∈ laid)
  (h1 : P.globalNamed n = some g) (h2 : (P.globals[g]?).map (·.type) = some t) (h3 : P.underlying t = some (.array (N + 1) e)) (h4 : P.cellsOf e = 1) (h5 : P.cellsOf t = N + 1) (hl : l.length = N + 1) (h6 : P.underlying e = some .string) : Tab W g (l.map .str):=by
 refine h4y h hm h1 h2 h3 h4 h5 (by simp [hl]) fun i a fuel x p d ha hd ht γ=>?_
 obtain ⟨z,e1,e2,_⟩:=DataW.trod_string h6 ht
 rw [List.getElem?_map] at ha hd
 cases hli : l[i]? with
 | none=>rw [hli] at ha; cases ha
 | some y=>
   rw [hli] at ha hd
   simp only [Option.map_some,Option.some.injEq] at ha hd
   subst ha hd
   simp only [List.cons.injEq,and_true] at e1
   simp only [Prod.mk.injEq,DataW.lit.injEq,Lit.string.injEq] at e2
   rw [e1,e2.1]
   exact .str _
theorem d3e {W : World} {g : Nat} {k : IntKind} {l : List Int} {la : List AV} (h : Tab W g (l.map fun i=>.int k i)) (e : la = l.map fun i=>.int k i) : Tab W g la:=e ▸ h
theorem i3h {W : World} {g : Nat} {l : List (List UInt8)} {la : List AV} (h : Tab W g (l.map .str)) (e : la = l.map .str) : Tab W g la:=e ▸ h
theorem j1l {C : Ctx} {W : World} (tabs : ∀ g l,C.gl g = some l → Tab W g l) : ∃ γ : Gh,WR γ W [] ∧ GL C γ:=by
 refine ⟨⟨fun _=>true,0,fun _=>0,fun _=>0,fun b i=>match C.gl b with | some l=>if i < l.length then W.cell? ⟨b,i,none⟩ else none | none=>none⟩,⟨rfl,fun b i v hv=>?_,fun b i v hv=>?_,fun o x hx=>by simp at hx,fun o o' x x' hx=>by simp at hx⟩,fun n l hl=>⟨?_,rfl⟩,.inr fun _=>rfl⟩
 ·dsimp only at hv
  split at hv
  ·split at hv
   ·exact hv
   ·cases hv
  ·cases hv
 ·dsimp only at hv
  split at hv
  ·rename_i l hl
   obtain ⟨c,e,hh,_⟩:=tabs b l hl
   exact .inr ⟨c,e,(0,0),hh,Or.inl rfl⟩
  ·cases hv
 ·obtain ⟨c,e,hh,hc⟩:=tabs n l hl
  refine CR.of_get fun i a ha=>?_
  obtain ⟨v,h1,h2⟩:=hc i a ha
  have hi : i < l.length:=(List.getElem?_eq_some_iff.mp ha).1
  refine ⟨v,?_,h2 _⟩
  dsimp only
  rw [Nat.zero_add,hl]
  dsimp only
  rw [if_pos hi]
  unfold World.cell?
  rw [hh]
  simpa using h1
theorem h1u {C : Ctx} {f : FuncId} (hf : IsFn C.P f) {b : Bool} (h : i0c C f [] (.bool b)) {W : World} (tabs : ∀ g l,C.gl g = some l → Tab W g l) :
  Calls C.P f #[] W fun e w'=>e = .returned (.bool b) ∧ Below W.heap.size W w':= by
 obtain ⟨γ,hw,hg⟩:=j1l tabs
 have hd:=h [] [] (.bool b) [] (rfl) γ W [] .nil hw hg
 unfold Does at hd
 rw [hf.enter] at hd
 refine Calls.mono hd fun e w' ⟨v2,he,g',hgo,hr⟩=>?_
 cases hr
 exact ⟨he,hgo.os,hgo.tape,hgo.output,hgo.size,fun k hk=>(hgo.fr k hk (fun o x hx=>by simp at hx)).2.1⟩
end Go.Ev
namespace Go.Ev
open Go.RowKit
set_option linter.unusedVariables false
inductive Ans where
 | ret (v : AV)
 | pan (v : AV)
abbrev e7k:=FuncId → List AV → St → Option (Ans × St)
inductive TOp where
 | op (o : XOp)
 | panic (x : XA)
 | assert (d : Nat) (t : TypeId) (x : XA)
inductive TC where
 | skip
 | ops (l : List TOp)
 | drawn (l : List XOp)
 | seq (a b : TC)
 | cond (c : XA) (a b : TC)
 | ret
 | fail
inductive TX where
 | normal
 | ret
 | pan (v : AV)
structure TF where
 ntmps : Nat
 results : List XR
 body : TC
def g9h (P : Program) (t : TypeId) : Bool:=match P.underlying t with
 | some (.interface _)=>false
 | some _=>true
 | none=>false
def cTOp (P : Program) (ops : Array Oper) (o : Oper) : Option TOp:=
 match c2g ops o with
 | none=>none
 | some gd=>match o.op,o.dst,gd with
   | .panic x,_,none=>(cA x).map .panic
   | .typeAssert x _ t true,some d,none=>if g9h P t then (cA x).map (.assert d t) else none
   | _,_,_=>some (.op { dst:=o.dst,i:=(cI P o).getD .fail,guard:=gd })
def h7e (P : Program) (ops : Array Oper) : List Oper → Option (List TOp)
 | []=>some []
 | o :: l=>match cTOp P ops o,h7e P ops l with
   | some a,some as=>some (a :: as)
   | _,_=>none
def cT (P : Program) : Code → TC
 | .skip=>.skip
 | .region _ ops draw=>if draw then (match h4l P ops with
   | some l=>.drawn l
   | none=>.fail) else (match h7e P ops ops.toList with
   | some l=>.ops l
   | none=>.fail)
 | .seq a b=>.seq (cT P a) (cT P b)
 | .cond c a b=>match cA c with
   | some c=>.cond c (cT P a) (cT P b)
   | none=>.fail
 | .ret=>.ret
 | _=>.fail
def cTF (P : Program) (f : FuncId) : Option TF:=do
 let fn ← P.funcs[f]?
 let b ← fn.body
 pure { ntmps:=fn.ntmps,results:=← cR P fn.results.toList,body:=cT P b }
def c3x (C : Ctx) (ct : e7k) : List TOp → Env → St → Option (TX × Env × St)
 | [],e,σ=>some (.normal,e,σ)
 | .op o :: l,e,σ=>match a3j o e with
   | true=>match evI C e σ o.i with
     | some (.val v σ')=>c3x C ct l (put e o.dst v) σ'
     | some (.call f args σ')=>match ct f args σ' with
       | some (.ret v,σ'')=>c3x C ct l (put e o.dst v) σ''
       | some (.pan v,σ'')=>some (.pan v,e,σ'')
       | none=>none
     | none=>none
   | false=>c3x C ct l (put e o.dst .undef) σ
 | .panic x :: l,e,σ=>match av C e x with
   | .iface t v=>some (.pan (.iface t v),e,σ)
   | _=>none
 | .assert d t x :: l,e,σ=>match av C e x with
   | .iface t' v=>match Nat.beq t' t with
     | true=>c3x C ct l (put e (some d) (.tup [v,.bool true])) σ
     | false=>none
   | _=>none
def evT (C : Ctx) (call : a0x) (ct : e7k) : TC → Env → St → Option (TX × Env × St)
 | .skip,e,σ=>some (.normal,e,σ)
 | .ops l,e,σ=>c3x C ct l e σ
 | .drawn l,e,σ=>match a5m C call l e σ with
   | some (e',σ')=>some (.normal,e',σ')
   | none=>none
 | .seq a b,e,σ=>match evT C call ct a e σ with
   | some (.normal,e',σ')=>evT C call ct b e' σ'
   | r=>r
 | .cond c a b,e,σ=>match av C e c with
   | .bool true=>evT C call ct a e σ
   | .bool false=>evT C call ct b e σ
   | _=>none
 | .ret,e,σ=>some (.ret,e,σ)
 | .fail,_,_=>none
def endT (σ0 : St) (rs : List XR) (e : Env) (σ : St) : Option (AV × St):=match resA e σ rs with
 | none=>none
 | some vs=>match hand false vs σ with
   | none=>none
   | some (vs,σ3)=>some (a0n vs,tidy σ0.length vs σ3)
def runT (C : Ctx) (call : a0x) (ct : e7k) (x : TF) (args : List AV) (σ : St) : Option (Ans × St):=
 match hand false args σ with
 | none=>none
 | some (args1,σ1)=>match Nat.ble args1.length x.ntmps with
   | false=>none
   | true=>match evT C call ct x.body (args1 ++ List.replicate (x.ntmps - args1.length) .undef) σ1 with
     | none=>none
     | some (.pan v,_,σ2)=>some (.pan v,tidy σ.length [v] σ2)
     | some (_,e,σ2)=>match endT σ x.results e σ2 with
       | some (v,σ')=>some (.ret v,σ')
       | none=>none
def g1f (C : Ctx) (call : a0x) (T : FuncId → Option TF) : Nat → e7k
 | 0,f,args,σ=>match call f args σ with
   | some (v,σ')=>some (.ret v,σ')
   | none=>none
 | n + 1,f,args,σ=>match T f with
   | some x=>runT C call (g1f C call T n) x args σ
   | none=>match call f args σ with
     | some (v,σ')=>some (.ret v,σ')
     | none=>none
def i6q (ct : e7k) : a0x:=fun f args σ=>match ct f args σ with
 | some (.ret v,σ')=>some (v,σ')
 | _=>none
def g5x (P : Program) (f : FuncId) (args : List Value) (w : World) (R RP : Value → World → Prop) : Prop:=
 match (callFunc f ⟨args⟩).run P w with
 | .ok (.enter f' as) w'=>Calls P f' as w' fun e w''=>(∃ v,e = .returned v ∧ R v w'') ∨ ∃ v,e = .panicked [{ v,recovered:=false }] ∧ RP v w''
 | .ok (.value v) w'=>R v w'
 | _=>False
def c9l (C : Ctx) (ct : e7k) : Prop:=
 ∀ f args σ a σ',ct f args σ = some (a,σ') → ∀ g w args',VRs g args args' → WR g w σ → GL C g →
   g5x C.P f args' w (fun v' w'=>∃ v,a = .ret v ∧ ∃ g',Goes g σ w g' σ' w' ∧ VR g' v v') fun v' w'=>∃ v,a = .pan v ∧ ∃ g',Goes g σ w g' σ' w' ∧ VR g' v v'
theorem h3y {P : Program} {f : FuncId} {args : List Value} {w : World} {R R' RP : Value → World → Prop} (h : Does P f args w R) (hr : ∀ v w',R v w' → R' v w') : g5x P f args w R' RP:=by
 unfold Does at h; unfold g5x
 generalize (callFunc f ⟨args⟩).run P w = r at h ⊢
 cases r with
 | halt x w'=>exact h
 | ok n w'=>
   cases n <;> first | exact h.elim | skip
   ·exact hr _ _ h
   ·exact Calls.mono h fun e w'' ⟨v,he,hR⟩=>Or.inl ⟨v,he,hr _ _ hR⟩
theorem i4b {P : Program} {f : FuncId} {args : List Value} {w : World} {R R' RP : Value → World → Prop} (h : g5x P f args w R RP) (hr : ∀ v w',R v w' → R' v w') (hp : ∀ v w',RP v w' → False) : Does P f args w R':= by
 unfold g5x at h; unfold Does
 generalize (callFunc f ⟨args⟩).run P w = r at h ⊢
 cases r with
 | halt x w'=>exact h
 | ok n w'=>
   cases n <;> first | exact h.elim | skip
   ·exact hr _ _ h
   ·refine Calls.mono h fun e w'' h=>?_
    rcases h with ⟨v,he,hR⟩ | ⟨v,he,hR⟩
    ·exact ⟨v,he,hr _ _ hR⟩
    ·exact (hp _ _ hR).elim
section
variable {C : Ctx} {call : a0x} {ct : e7k}
theorem h3w (h : c9l C ct) : a3k C (i6q ct):=by
 intro f args σ v σ' hc g w args' ha hw hg
 unfold i6q at hc
 split at hc
 ·rename_i v1 σ1 h1
  simp only [Option.some.injEq,Prod.mk.injEq] at hc
  obtain ⟨rfl,rfl⟩:=hc
  exact i4b (h f args σ _ _ h1 g w args' ha hw hg) (fun v' w' ⟨v2,e,x⟩=>by cases e; exact x) (fun v' w' ⟨v2,e,x⟩=>by cases e)
 ·cases hc
def PostT (g : Gh) (σ : St) (w : World) (a : Act) (x : TX) (e' : Env) (σ' : St) : Exit → Act → World → Prop:=
 fun ex a' w'=>a'.defers = a.defers ∧ ∃ g',AR g' e' a' ∧ Goes g σ w g' σ' w' ∧ match x with
  | .normal=>ex = .normal
  | .ret=>ex = .ret
  | .pan v=>∃ v',VR g' v v' ∧ ex = .panic [{ v:=v',recovered:=false }]
theorem PostT.trans {g g1 : Gh} {σ σ1 σ' : St} {w w1 : World} {a a1 : Act} {x : TX} {e' : Env} (hd : a1.defers = a.defers) (hgo : Goes g σ w g1 σ1 w1) {ex : Exit} {a' : Act} {w' : World} (h : PostT g1 σ1 w1 a1 x e' σ' ex a' w') : PostT g σ w a x e' σ' ex a' w':= by
 obtain ⟨h1,g',h2,h3,h4⟩:=h
 exact ⟨h1.trans hd,g',h2,hgo.trans h3,h4⟩
theorem g9d (hct : c9l C ct) {o : Oper} {g : Gh} {e : Env} {σ : St} {w : World} {a : Act} (ha : AR g e a) (hw : WR g w σ) (hg : GL C g) {Q : Exit → Act → World → Prop} {next : Act → World → Prop}
  {out : Out} (hev : evI C e σ ((cI C.P o).getD .fail) = some out) (hx : match out with
   | .val v σ'=>∀ v' w' g',Goes g σ w g' σ' w' → VR g' v v' → next (a.put o.dst v') w'
   | .call f args σ0=>∃ an σ',ct f args σ0 = some (an,σ') ∧ match an with
     | .ret v=>∀ v' w' g',Goes g σ w g' σ' w' → VR g' v v' → next (a.put o.dst v') w'
     | .pan v=>∀ v' w' g',Goes g σ w g' σ' w' → VR g' v v' → Q (.panic [{ v:=v',recovered:=false }]) a w') : o.wp C.P a w next Q:=by
 cases hc : cI C.P o with
 | none=>rw [hc] at hev; simp [evI] at hev
 | some xi=>
   rw [hc] at hev
   simp only [Option.getD_some] at hev
   have hs:=g3q (C:=C) hw hg.2 (fun x b hb=>ha.eval hg x b hb) o hc hev
   cases out with
   | val v0 σ0=>
     obtain ⟨w',g',hgo,hr⟩:=hs
     unfold Oper.wp
     rcases hr with ⟨v',h1,h2⟩ | ⟨rfl,h1⟩
     ·rw [h1]; exact hx v' w' g' hgo h2
     ·rw [h1]; exact hx undef w' g' hgo (a8y g')
   | call f args σ0=>
     obtain ⟨rfl,args',h1,h2⟩:=hs
     obtain ⟨an,σ',hcal,hx⟩:=hx
     have hd:=hct f args σ0 an σ' hcal g w args' h1 hw hg
     unfold Oper.wp
     rw [h2]
     unfold g5x at hd
     generalize (callFunc f ⟨args'⟩).run C.P w = r at hd
     cases r with
     | halt h w'=>exact hd.elim
     | ok n w'=>
       cases n <;> first | exact hd.elim | skip
       ·obtain ⟨v,rfl,g',h3,h4⟩:=hd
        exact hx _ _ g' h3 h4
       ·simp only [Oper.upon]
        refine Calls.mono hd fun e' w'' h=>?_
        rcases h with ⟨u,he,v,rfl,g',h3,h4⟩ | ⟨u,he,v,rfl,g',h3,h4⟩
        ·subst he
         exact hx _ _ g' h3 h4
        ·subst he
         exact hx _ _ g' h3 h4
theorem h6b {P : Program} {t xt : TypeId} (h : g9h P t = true) (v : Value) (w : World) : (Instr.typeAssert (.iface t v) xt t true).run P w = .ok (.tuple #[v,.bool true]) w:=by
 unfold g9h at h
 unfold Instr.typeAssert
 cases hu : P.underlying t with
 | none=>rw [hu] at h; cases h
 | some d=>
   rw [hu] at h
   cases d <;> first | (cases h; done) | (simp [go_sem,underlying,hu]; done) | skip
theorem e9y (hct : c9l C ct) (ops : Array Oper) {Q : Exit → Act → World → Prop} : ∀ (l : List Oper) (k : Nat) (xs : List TOp),ops.toList.drop k = l → h7e C.P ops l = some xs → ∀ (e e' : Env) (σ σ' : St) (x : TX),c3x C ct xs e σ = some (x,e',σ') →
  ∀ (g : Gh) (w : World) (a : Act),AR g e a → WR g w σ → GL C g → (∀ ex a' w',PostT g σ w a x e' σ' ex a' w' → Q ex a' w') → wpOps C.P ops Q (List.range' k l.length) a w
 | [],k,xs,hk,hx,e,e',σ,σ',x,hev,g,w,a,ha,hw,hg,hQ=>by
   simp [h7e] at hx; subst hx
   simp [c3x] at hev
   obtain ⟨rfl,rfl,rfl⟩:=hev
   simp only [List.length_nil,List.range'_zero,wpOps]
   exact hQ _ _ _ ⟨rfl,g,ha,.refl hw,rfl⟩
 | o :: l,k,xs,hk,hx,e,e',σ,σ',x,hev,g,w,a,ha,hw,hg,hQ=>by
   simp only [h7e] at hx
   split at hx
   ·rename_i xo as h1 h2
    simp at hx; subst hx
    have hok : ops[k]? = some o:=by
     have:=congrArg (fun z : List Oper=>z[0]?) hk
     simpa using this
    have hk' : ops.toList.drop (k + 1) = l:=by rw [← List.drop_drop,hk]; rfl
    rw [List.length_cons,List.range'_succ]
    simp only [wpOps,hok]
    have rest : ∀ v v' w1 g1 σ1,c3x C ct as (put e o.dst v) σ1 = some (x,e',σ') → Goes g σ w g1 σ1 w1 → VR g1 v v' → wpOps C.P ops Q (List.range' (k + 1) l.length) (a.put o.dst v') w1:=fun v v' w1 g1 σ1 hv1 hgo hv=>by
     refine e9y hct ops (Q:=Q) l (k + 1) as hk' h2 (put e o.dst v) e' σ1 σ' x hv1 g1 w1 (a.put o.dst v') ((ha.mono hgo.le).put hv o.dst) hgo.wr (hg.mono hgo.le) fun ex a' w' hp=>hQ ex a' w' (hp.trans ?_ hgo)
     cases o.dst <;> rfl
    unfold cTOp at h1
    cases hgd : c2g ops o with
    | none=>rw [hgd] at h1; cases h1
    | some gd=>
      rw [hgd] at h1
      simp only at h1
      have hy:=e0m ha ops o hgd
      split at h1
      ·
       rename_i y hop
       simp only [Option.map_eq_some_iff] at h1
       obtain ⟨b,hb,rfl⟩:=h1
       simp only [c3x] at hev
       rw [if_pos (by rw [hy])]
       refine .inl ?_
       have hv:=ha.eval hg y b hb
       split at hev
       ·rename_i t v hav
        simp at hev
        obtain ⟨rfl,rfl,rfl⟩:=hev
        rw [hav] at hv
        unfold Oper.wp
        have : (execOp a.eval o).run C.P w = ((Instr.panic (a.eval y)).run C.P w).andThen fun v w=>.ok (.value v) w:=by
         simp only [execOp,hop]; rw [Sem.run_bind]; rfl
        rw [this]
        generalize a.eval y = vy at hv
        cases hv with
        | iface _ _ v' hv'=>
          rw [run_panic_iface]
          exact hQ _ _ _ ⟨rfl,g,ha,.refl hw,_,.iface _ _ _ hv',rfl⟩
       ·cases hev
      ·
       rename_i y t0 t d hop hdst
       split at h1
       ·rename_i hif
        simp only [Option.map_eq_some_iff] at h1
        obtain ⟨b,hb,rfl⟩:=h1
        simp only [c3x] at hev
        rw [if_pos (by rw [hy])]
        refine .inl ?_
        have hv:=ha.eval hg y b hb
        split at hev
        ·rename_i t' v hav
         split at hev
         ·rename_i hbt
          have:=Nat.eq_of_beq_eq_true hbt
          subst this
          rw [hav] at hv
          unfold Oper.wp
          have : (execOp a.eval o).run C.P w = ((Instr.typeAssert (a.eval y) t0 t' true).run C.P w).andThen fun v w=>.ok (.value v) w:=by
           simp only [execOp,hop]; rw [Sem.run_bind]; rfl
          rw [this]
          generalize a.eval y = vy at hv
          cases hv with
          | iface _ _ v' hv'=>
            rw [h6b hif]
            rw [← hdst] at hev
            exact rest _ _ w g σ hev (.refl hw) (.tup _ _ (.cons _ _ _ _ hv' (.cons _ _ _ _ (.bool _) .nil)))
         ·cases hev
        ·cases hev
       ·cases h1
      ·simp only [Option.some.injEq] at h1
       subst h1
       simp only [c3x] at hev
       rename_i gd' _ _ _ _ _
       have hwant : a3j { dst:=o.dst,i:=(cI C.P o).getD .fail,guard:=gd' } e = Region.wanted o (yielded ops a.tmps):=by
        rw [hy]; unfold a3j; cases gd' <;> rfl
       split at hev
       ·rename_i hwt
        rw [hwant] at hwt
        rw [if_pos hwt]
        refine .inl ?_
        split at hev
        ·rename_i v σ1 he1
         exact g9d hct ha hw hg he1 (fun v' w' g' hgo hv=>rest v v' w' g' σ1 hev hgo hv)
        ·rename_i f args σ1 he1
         split at hev
         ·rename_i v σ2 hc2
          exact g9d hct ha hw hg he1 ⟨_,_,hc2,fun v' w' g' hgo hv=>rest v v' w' g' σ2 hev hgo hv⟩
         ·rename_i v σ2 hc2
          simp at hev
          obtain ⟨rfl,rfl,rfl⟩:=hev
          exact g9d hct ha hw hg he1 ⟨_,_,hc2,fun v' w' g' hgo hv=>hQ _ _ _ ⟨rfl,g',ha.mono hgo.le,hgo,v',hv,rfl⟩⟩
         ·cases hev
        ·cases hev
       ·rename_i hwt
        rw [hwant] at hwt
        rw [if_neg (by rw [hwt]; simp)]
        exact rest .undef undef w g σ hev (.refl hw) (a8y g)
   ·cases hx
theorem c0q (hcall : a3k C call) (hdrawn : c4y C call) (hct : c9l C ct) : ∀ (c : Code) (e e' : Env) (σ σ' : St) (x : TX),evT C call ct (cT C.P c) e σ = some (x,e',σ') → ∀ (g : Gh) (w : World) (a : Act),AR g e a → WR g w σ → GL C g →
  c.wp C.P (PostT g σ w a x e' σ') a w
 | .skip,e,e',σ,σ',x,hev,g,w,a,ha,hw,hg=>by
   simp [cT,evT] at hev
   obtain ⟨rfl,rfl,rfl⟩:=hev
   exact wp_skip ⟨rfl,g,ha,.refl hw,rfl⟩
 | .ret,e,e',σ,σ',x,hev,g,w,a,ha,hw,hg=>by
   simp [cT,evT] at hev
   obtain ⟨rfl,rfl,rfl⟩:=hev
   exact wp_ret ⟨rfl,g,ha,.refl hw,rfl⟩
 | .region id ops draw,e,e',σ,σ',x,hev,g,w,a,ha,hw,hg=>by
   simp only [cT] at hev
   cases draw with
   | true=>
     simp only [if_true] at hev
     split at hev
     ·rename_i l hl
      simp only [evT] at hev
      split at hev
      ·rename_i e1 σ1 hd
       simp at hev
       obtain ⟨rfl,rfl,rfl⟩:=hev
       refine wp_mono (hdrawn.1 id ops l hl e e1 σ σ1 hd g w a ha hw hg) fun ex a1 w1 ⟨hx,hd,g1,ha1,hgo⟩=>⟨hd,g1,ha1,hgo,hx⟩
      ·cases hev
     ·simp [evT] at hev
   | false=>
     simp only [Bool.false_eq_true,if_false] at hev
     split at hev
     ·rename_i l hl
      simp only [evT] at hev
      refine wp_region ?_
      have:=e9y hct ops (Q:=PostT g σ w a x e' σ') ops.toList 0 l rfl hl e e' σ σ' x hev g w a ha hw hg (fun ex a' w' h=>h)
      rw [List.range_eq_range']
      simpa using this
     ·simp [evT] at hev
 | .seq c1 c2,e,e',σ,σ',x,hev,g,w,a,ha,hw,hg=>by
   simp only [cT,evT] at hev
   refine wp_seq ?_
   split at hev
   ·rename_i e1 σ1 h1
    refine wp_mono (c0q hcall hdrawn hct c1 e e1 σ σ1 .normal h1 g w a ha hw hg) fun ex a1 w1 hp=>?_
    obtain ⟨hd,g1,ha1,hgo,hx⟩:=hp
    simp only at hx
    subst hx
    exact wp_mono (c0q hcall hdrawn hct c2 e1 e' σ1 σ' x hev g1 w1 a1 ha1 hgo.wr (hg.mono hgo.le)) fun ex a2 w2 hp=>hp.trans hd hgo
   ·rename_i hne
    refine wp_mono (c0q hcall hdrawn hct c1 e e' σ σ' x hev g w a ha hw hg) fun ex a1 w1 hp=>?_
    cases x with
    | normal=>exact (hne _ _ hev).elim
    | ret=>obtain ⟨hd,g1,ha1,hgo,hx⟩:=hp; simp only at hx; subst hx; exact ⟨hd,g1,ha1,hgo,rfl⟩
    | pan v=>obtain ⟨hd,g1,ha1,hgo,v',hv,hx⟩:=hp; subst hx; exact ⟨hd,g1,ha1,hgo,v',hv,rfl⟩
 | .cond c c1 c2,e,e',σ,σ',x,hev,g,w,a,ha,hw,hg=>by
   simp only [cT] at hev
   cases hc : cA c with
   | none=>rw [hc] at hev; simp [evT] at hev
   | some b=>
     rw [hc] at hev
     simp only [evT] at hev
     have hv:=ha.eval hg c b hc
     split at hev
     ·rename_i hb
      rw [hb] at hv
      generalize hcv : a.eval c = cv at hv
      cases hv
      exact wp_cond_true hcv (c0q hcall hdrawn hct c1 e e' σ σ' x hev g w a ha hw hg)
     ·rename_i hb
      rw [hb] at hv
      generalize hcv : a.eval c = cv at hv
      cases hv
      exact wp_cond_false hcv (c0q hcall hdrawn hct c2 e e' σ σ' x hev g w a ha hw hg)
     ·cases hev
 | .label _,e,e',σ,σ',x,hev,g,w,a,ha,hw,hg=>by simp [cT,evT] at hev
 | .exit _,e,e',σ,σ',x,hev,g,w,a,ha,hw,hg=>by simp [cT,evT] at hev
 | .block _ _,e,e',σ,σ',x,hev,g,w,a,ha,hw,hg=>by simp [cT,evT] at hev
 | .loop _,e,e',σ,σ',x,hev,g,w,a,ha,hw,hg=>by simp [cT,evT] at hev
 | .scope _,e,e',σ,σ',x,hev,g,w,a,ha,hw,hg=>by simp [cT,evT] at hev
 | .rangeFunc ..,e,e',σ,σ',x,hev,g,w,a,ha,hw,hg=>by simp [cT,evT] at hev
 | .goto _,e,e',σ,σ',x,hev,g,w,a,ha,hw,hg=>by simp [cT,evT] at hev
 | .refuse _,e,e',σ,σ',x,hev,g,w,a,ha,hw,hg=>by simp [cT,evT] at hev
end
end Go.Ev
namespace Go.Ev
open Go.RowKit
set_option linter.unusedVariables false
section
variable {C : Ctx} {call : a0x} {ct : e7k}
theorem d4d {fn : Func} {xrs : List XR} (hxr : cR C.P fn.results.toList = some xrs) {g0 g : Gh} {w0 w : World} {σ0 σ : St} (h0 : WR g0 w0 σ0) (hgo : Goes g0 σ0 w0 g σ w) {e : Env} {a : Act} (ha : AR g e a) {v : AV} {σ' : St} (h : endT σ0 xrs e σ = some (v,σ')) :
  ∃ v',(Go.results fn a.tmps).run C.P w = .ok v' w ∧ ∃ g',Goes g0 σ0 w0 g' σ' w ∧ VR g' v v':= by
 unfold endT at h
 split at h
 ·cases h
 ·rename_i vs hres
  split at h
  ·cases h
  ·rename_i vs2 σ3 hh2
   simp at h
   obtain ⟨rfl,rfl⟩:=h
   obtain ⟨vs',hr1,hr2⟩:=c4l (C:=C) hgo.wr ha _ xrs hxr vs hres
   obtain ⟨g3,hgo3,hv3⟩:=a9z hgo.wr _ hh2 hr2
   obtain ⟨g4,hgo4,hv4⟩:=c6d (hgo.trans hgo3) h0 hv3
   exact ⟨_,c0o fn a.tmps w hr1,g4,hgo4,e5r vs2 vs' hv4⟩
def e4m (C : Ctx) (f : FuncId) : Prop:=∃ fn,C.P.funcs[f]? = some fn ∧ (fn.name == "runtime.NumGoroutine") = false
theorem e0r {f : FuncId} {fn : Func} (hfn : C.P.funcs[f]? = some fn) (hname : (fn.name == "runtime.NumGoroutine") = false) {b : Code} (hb : fn.body = some b) (args' : List Value) (w : World) : (callFunc f ⟨args'⟩).run C.P w = .ok (.enter f ⟨args'⟩) w:=by
 have h1 : fn.name ≠ "runtime.NumGoroutine":= by simpa using hname
 simp [callFunc,hfn,h1,hb]
theorem g9g {g : Gh} {args : List AV} {args' : List Value} (hv : VRs g args args') (n : Nat) (ds : List Deferred) : AR g (args ++ List.replicate (n - args.length) .undef) { tmps:=(⟨args'⟩ : Array Value) ++ Array.replicate (n - (⟨args'⟩ : Array Value).size) undef,defers:=ds }:=by
 have h1:=hv.append (VRs.replicate (n - args.length) (a8y g))
 have : args'.length = args.length:=hv.length
 simpa [AR,this] using h1
theorem h6g (hcall : a3k C call) (hdrawn : c4y C call) (hct : c9l C ct) {f : FuncId} {x : TF} (hx : cTF C.P f = some x) (hn : e4m C f) {args : List AV} {σ : St} {an : Ans} {σ' : St} (h : runT C call ct x args σ = some (an,σ')) {g : Gh} {w : World} {args' : List Value} (ha : VRs g args args') (hw : WR g w σ) (hg : GL C g) :
  g5x C.P f args' w (fun v' w'=>∃ v,an = .ret v ∧ ∃ g',Goes g σ w g' σ' w' ∧ VR g' v v') fun v' w'=>∃ v,an = .pan v ∧ ∃ g',Goes g σ w g' σ' w' ∧ VR g' v v':= by
 obtain ⟨fn,hfn,hname⟩:=hn
 simp only [cTF,Option.bind_eq_bind,Option.bind_eq_some_iff,Option.pure_def,Option.some.injEq] at hx
 obtain ⟨fn',hfn',body,hb,xrs,hxr,rfl⟩:=hx
 rw [hfn] at hfn'; cases hfn'
 unfold runT at h
 split at h
 ·cases h
 ·rename_i args1 σ1 hh1
  split at h
  ·cases h
  ·obtain ⟨g1,hgo1,hv1⟩:=a9z hw _ hh1 ha
   unfold g5x
   rw [e0r hfn hname hb]
   simp only
   cases hev : evT C call ct (cT C.P body) (args1 ++ List.replicate (fn.ntmps - args1.length) .undef) σ1 with
   | none=>simp only at h; rw [hev] at h; cases h
   | some r=>
     obtain ⟨tx,e2,σ2⟩:=r
     simp only at h
     rw [hev] at h
     refine calls_of_wp hfn hb ?_
     refine wp_mono (c0q hcall hdrawn hct body _ e2 σ1 σ2 tx hev g1 w _ (g9g hv1 fn.ntmps []) hgo1.wr (hg.mono hgo1.le)) fun ex a2 w2 hp=>?_
     obtain ⟨hd,g2,ha2,hgo2,hx⟩:=hp
     cases tx with
     | pan v=>
       simp at h
       obtain ⟨rfl,rfl⟩:=h
       obtain ⟨v',hv',rfl⟩:=hx
       obtain ⟨g4,hgo4,hv4⟩:=c6d (hgo1.trans hgo2) hw (.cons _ _ _ _ hv' .nil)
       cases hv4 with
       | cons _ _ _ _ hv4 _=>exact ⟨hd,.inr ⟨_,rfl,_,rfl,g4,hgo4,hv4⟩⟩
     | normal=>
       simp only at hx h
       subst hx
       cases he : endT σ xrs e2 σ2 with
       | none=>rw [he] at h; cases h
       | some r=>
         obtain ⟨v,σ4⟩:=r
         rw [he] at h
         simp at h
         obtain ⟨rfl,rfl⟩:=h
         obtain ⟨v',h1,g',h2,h3⟩:=d4d hxr hw (hgo1.trans hgo2) ha2 he
         exact ⟨hd,_,h1,.inl ⟨_,rfl,_,rfl,g',h2,h3⟩⟩
     | ret=>
       simp only at hx h
       subst hx
       cases he : endT σ xrs e2 σ2 with
       | none=>rw [he] at h; cases h
       | some r=>
         obtain ⟨v,σ4⟩:=r
         rw [he] at h
         simp at h
         obtain ⟨rfl,rfl⟩:=h
         obtain ⟨v',h1,g',h2,h3⟩:=d4d hxr hw (hgo1.trans hgo2) ha2 he
         exact ⟨hd,_,h1,.inl ⟨_,rfl,_,rfl,g',h2,h3⟩⟩
def TTOK (C : Ctx) (T : FuncId → Option TF) : Prop:=∀ f x,T f = some x → cTF C.P f = some x ∧ e4m C f
theorem e2e (hm : C.P.follows .mixedOrders = true) (hcall : a3k C call) {T : FuncId → Option TF} (hT : TTOK C T) : ∀ n,c9l C (g1f C call T n)
 | 0=>by
   intro f args σ a σ' h g w args' ha hw hg
   unfold g1f at h
   split at h
   ·rename_i v σ1 hc
    simp at h
    obtain ⟨rfl,rfl⟩:=h
    exact h3y (hcall f args σ _ _ hc g w args' ha hw hg) fun v' w' hr=>⟨_,rfl,hr⟩
   ·cases h
 | n + 1=>by
   intro f args σ a σ' h g w args' ha hw hg
   unfold g1f at h
   split at h
   ·rename_i x hx
    obtain ⟨h1,h2⟩:=hT f x hx
    exact h6g hcall ⟨c6e hm hcall,c5y hm hcall⟩ (e2e hm hcall hT n) h1 h2 h ha hw hg
   ·split at h
    ·rename_i v σ1 hc
     simp at h
     obtain ⟨rfl,rfl⟩:=h
     exact h3y (hcall f args σ _ _ hc g w args' ha hw hg) fun v' w' hr=>⟨_,rfl,hr⟩
    ·cases h
end
structure CFn where
 ntmps : Nat
 results : List XR
 first : List XOp
 d : Nat
 clo : FuncId
 caps : List XA
 body : TC
structure KFn where
 ntmps : Nat
 r : Nat
 m : Nat
 body : XC
def j3g (o1 o2 : Oper) : Option (Nat × FuncId × List XA):=
 match o1.dst,o1.op,o1.guard with
 | some d,.makeFunc (.func g) ⟨[]⟩ cs,none=>match o2.dst,o2.op,o2.guard with
   | none,.defer ⟨.value (.tmp d'),⟨[]⟩,_⟩,none=>if d' = d then (cAs cs.toList).map fun l=>(d,g,l) else none
   | _,_,_=>none
 | _,_,_=>none
def cCF (P : Program) (f : FuncId) : Option CFn:=
 match P.funcs[f]? with
 | some fn=>match fn.body with
   | some (.seq (.region _ ops0 false) (.seq (.region _ ⟨[o1,o2]⟩ false) c))=>match cOps P false ops0 0 ops0.toList,j3g o1 o2,cR P fn.results.toList with
     | some l,some (d,g,cs),some rs=>if d < fn.ntmps then some ⟨fn.ntmps,rs,l,d,g,cs,cT P c⟩ else none
     | _,_,_=>none
   | _=>none
 | none=>none
def j2b (o1 o2 : Oper) : Option (Nat × Nat):=
 match o1.dst,o1.op,o1.guard with
 | some r,.call ⟨.builtin .recover,⟨[]⟩,_⟩,none=>match o2.dst,o2.op,o2.guard with
   | some m,.assign (.tmp r'),none=>if r' = r then some (r,m) else none
   | _,_,_=>none
 | _,_,_=>none
def cKF (P : Program) (f : FuncId) : Option KFn:=
 match P.funcs[f]? with
 | some fn=>match fn.body with
   | some (.seq (.region _ ⟨[o1,o2]⟩ false) c)=>match j2b o1 o2,fn.results with
     | some (r,m),⟨[]⟩=>if r < fn.ntmps then some ⟨fn.ntmps,r,m,cC P c⟩ else none
     | _,_=>none
   | _=>none
 | none=>none
def thrown : TX → AV
 | .pan v=>v
 | _=>.nilIface
def e3l (C : Ctx) (call : a0x) (ct : e7k) (x : CFn) (k : KFn) (args : List AV) (σ : St) : Option (AV × St):=
 match hand false args σ with
 | none=>none
 | some (args1,σ1)=>match a8x C call x.first (args1 ++ List.replicate (x.ntmps - args1.length) .undef) σ1 with
   | none=>none
   | some (e0,σ0)=>match evT C call ct x.body (e0.set x.d (.func (.func x.clo) [] (x.caps.map (av C e0)))) σ0 with
     | none=>none
     | some (tx,e2,σ2)=>match evC C (i6q ct) 1 k.body ((((x.caps.map (av C e0)) ++ List.replicate (k.ntmps - x.caps.length) AV.undef).set k.r (thrown tx)).set k.m (thrown tx)) σ2 with
       | some (.exit _,_,_)=>none
       | none=>none
       | some (_,_,σ3)=>endT σ x.results e2 σ3
section
variable {C : Ctx} {call : a0x} {ct : e7k}
theorem g8o {g : Gh} {e : Env} {a : Act} (ha : AR g e a) {v : AV} {v' : Value} (hv : VR g v v') (d : Nat) : AR g (e.set d v) (a.put (some d) v'):=ha.put hv (some d)
def Md (g : Gh) (u : FrameMode) (r : AV) (r' : Value) (u' : FrameMode) : Prop:=VR g r r' ∧ settle u' = .returning ∧ ((u = .returning ∧ r' = .nilIface ∧ u' = .returning) ∨ (u = .panicking [{ v:=r',recovered:=false }] ∧ u' = .panicking [{ v:=r',recovered:=true }]))
theorem h9r (hcall : a3k C call) (hdrawn : c4y C call) {f : FuncId} {k : KFn} (hk : cKF C.P f = some k) {g : Gh} {σ : St} {w : World} (hw : WR g w σ) (hg : GL C g) {cv : List AV} {cv' : List Value} (hcv : VRs g cv cv') {u u' : FrameMode} {r : AV} {r' : Value} (hu : Md g u r r' u')
  {xe : XE} {e3 : Env} {σ3 : St} (hev : evC C call 1 k.body (((cv ++ List.replicate (k.ntmps - cv.length) AV.undef).set k.r r).set k.m r) σ = some (xe,e3,σ3)) (hne : ∀ id,xe ≠ .exit id) :
  CallsD C.P f ⟨cv'⟩ u w fun e u1 w'=>∃ v,e = .returned v ∧ u1 = u' ∧ ∃ g',Goes g σ w g' σ3 w':= by
 unfold cKF at hk
 split at hk
 ·rename_i fn hfn
  split at hk
  ·rename_i id o1 o2 c hb
   split at hk
   ·rename_i r0 m0 hrec hres
    have hlt : r0 < fn.ntmps:=by
     split at hk
     ·assumption
     ·cases hk
    rw [if_pos hlt] at hk
    simp only [Option.some.injEq] at hk
    subst hk
    simp only at hev
    refine callsD_of_wpS hfn hb fun c₀ cs hc0=>?_
    unfold j2b at hrec
    split at hrec
    ·rename_i rr at1 h1 h2 h3
     split at hrec
     ·rename_i mm rr' h4 h5 h6
      split at hrec
      ·rename_i hrr
       simp only [Option.some.injEq,Prod.mk.injEq] at hrec
       obtain ⟨rfl,rfl⟩:=hrec
       subst hrr
       refine wpS_seq (wpS_region ?_)
       have w1 : ∀ l,Region.wanted o1 l = true:=fun l=>by simp [Region.wanted,h3]
       have w2 : ∀ l,Region.wanted o2 l = true:=fun l=>by simp [Region.wanted,h6]
       have r1 : ∀ a : Act,(execOp a.eval o1).run C.P w = .ok .recover w:=fun a=>by simp [execOp,h2,resolve,invoke,go_sem]
       have r2 : ∀ a : Act,(execOp a.eval o2).run C.P w = .ok (.value (a.eval (.tmp rr'))) w:=fun a=>by simp [execOp,h5,go_sem]
       have har:=g9g hcv fn.ntmps []
       have hs : ∀ c1 : Frame,c1 = { c₀ with mode:=u' } → ∀ a1 : Act,a1.defers = [] → AR g (((cv ++ List.replicate (fn.ntmps - cv.length) AV.undef).set rr' r).set mm r) a1 → c.wpS C.P (bodyPostS C.P fn c₀ cs fun e u1 w'=>∃ v,e = .returned v ∧ u1 = u' ∧ ∃ g',Goes g σ w g' σ3 w') a1 (c1 :: cs) w:=by
        intro c1 hc1 a1 hd1 ha1
        refine wpS_of_wp (wp_mono (a3m hcall hdrawn 1 c _ e3 σ σ3 xe hev g w a1 ha1 hw hg) fun ex a2 w2 ⟨hx,hd,g2,ha2,hgo2⟩=>?_)
        subst hx
        have fin : a2.defers = [] ∧ ∃ u1,c1 :: cs = { c₀ with mode:=u1 } :: cs ∧ ∃ v,(Go.results fn a2.tmps).run C.P w2 = .ok v w2 ∧ ∃ v1,Ending.returned v = .returned v1 ∧ u1 = u' ∧ ∃ g',Goes g σ w g' σ3 w2:=by
         refine ⟨hd.trans hd1,u',by rw [hc1],_,c0o fn a2.tmps w2 (vs:=[]) ?_,_,rfl,rfl,g2,hgo2⟩
         rw [hres]; rfl
        cases xe with
        | normal=>exact fin
        | ret=>exact fin
        | exit id=>exact (hne id rfl).elim
       have e0 : (⟨[o1,o2]⟩ : Array Oper)[0]? = some o1:=rfl
       have e1 : (⟨[o1,o2]⟩ : Array Oper)[1]? = some o2:=rfl
       have sz : List.range (⟨[o1,o2]⟩ : Array Oper).size = [0,1]:=rfl
       rw [sz]
       simp only [wpOpsS,e0,e1,w1,w2,if_true,r1,r2,Oper.upon]
       obtain ⟨hr,hset,hu⟩:=hu
       rw [h1,h4]
       have hput : ∀ q : Value,((⟨(⟨cv'⟩ : Array Value) ++ Array.replicate (fn.ntmps - (⟨cv'⟩ : Array Value).size) undef,[]⟩ : Act).put (some rr') q).eval (.tmp rr') = q:=fun q=>by
        have : rr' < cv'.length + (fn.ntmps - cv'.length):=Nat.lt_of_lt_of_le hlt (by omega)
        simp [Act.put,Act.eval,this]
       simp only [hput]
       have har2:=g8o (g8o har hr rr') hr mm
       rcases hu with ⟨rfl,rfl,rfl⟩ | ⟨rfl,rfl⟩
       ·have hrc : recoverD (c₀ :: cs) = none:=by simp [recoverD,hc0]
        rw [hrc]
        exact hs _ (by rw [← hc0]) _ rfl har2
       ·have hrc : recoverD (c₀ :: cs) = some (r',{ c₀ with mode:=.panicking [{ v:=r',recovered:=true }] } :: cs):=by simp [recoverD,hc0]
        rw [hrc]
        exact hs _ rfl _ rfl har2
      ·cases hrec
     ·cases hrec
    ·cases hrec
   ·cases hk
  ·cases hk
 ·cases hk
theorem g6e : ∀ {l : List XOp} {e e' : Env} {σ σ' : St},a8x C call l e σ = some (e',σ') → e'.length = e.length
 | [],e,e',σ,σ',h=>by simp [a8x] at h; rw [h.1]
 | o :: l,e,e',σ,σ',h=>by
   unfold a8x at h
   split at h
   ·rw [g6e h]; unfold put; split <;> simp
   ·cases h
theorem h8p {g : Gh} {e : Env} {a : Act} (ha : AR g e a) (hg : GL C g) : ∀ (l : List Operand) (xs : List XA),cAs l = some xs → VRs g (xs.map (av C e)) (l.map a.eval)
 | [],xs,h=>by simp [cAs] at h; subst h; exact .nil
 | x :: l,xs,h=>by
   simp only [cAs] at h
   split at h
   ·rename_i b bs h1 h2
    simp at h; subst h
    exact .cons _ _ _ _ (ha.eval hg x b h1) (h8p ha hg l bs h2)
   ·cases h
theorem g5j (hcall : a3k C call) (hdrawn : c4y C call) (hct : c9l C ct) (hdr : c4y C (i6q ct)) {f : FuncId} {x : CFn} {k : KFn} (hx : cCF C.P f = some x) (hn : e4m C f) (hk : cKF C.P x.clo = some k) (hnk : e4m C x.clo) : POK C f (e3l C call ct x k):=by
 intro args σ v σ' h g w args' ha hw hg
 obtain ⟨kfn,hkfn,hkname⟩:=hnk
 have hkb : ∃ b,kfn.body = some b:=by
  unfold cKF at hk
  rw [hkfn] at hk
  simp only at hk
  split at hk
  ·exact ⟨_,by assumption⟩
  ·cases hk
 obtain ⟨kb,hkb⟩:=hkb
 obtain ⟨fn,hfn,hname⟩:=hn
 unfold cCF at hx
 rw [hfn] at hx
 simp only at hx
 split at hx
 ·rename_i id0 ops0 id1 o1 o2 c hb
  split at hx
  ·rename_i l0 d gf cs rs hl hdef hrs
   have hlt : d < fn.ntmps:=by
    split at hx
    ·assumption
    ·cases hx
   rw [if_pos hlt] at hx
   simp only [Option.some.injEq] at hx
   subst hx
   simp only at hk hkfn
   unfold j3g at hdef
   split at hdef
   ·rename_i dd gg ccs h1 h2 h3
    split at hdef
    ·rename_i dd' at2 h4 h5 h6
     split at hdef
     ·rename_i hdd
      subst hdd
      simp only [Option.map_eq_some_iff,Prod.mk.injEq] at hdef
      obtain ⟨xs,hxs,rfl,rfl,rfl⟩:=hdef
      unfold e3l at h
      split at h
      ·cases h
      ·rename_i args1 σ1 hh1
       split at h
       ·cases h
       ·rename_i e0 σ0 hev0
        split at h
        ·cases h
        ·rename_i tx e2 σ2 hev2
         obtain ⟨g1,hgo1,hv1⟩:=a9z hw _ hh1 ha
         unfold Does
         rw [e0r hfn hname hb]
         simp only
         refine calls_of_wp_defers hfn hb (wp_seq ?_)
         have hc0 : evC C call 1 (cC C.P (.region id0 ops0 false)) (args1 ++ List.replicate (fn.ntmps - args1.length) .undef) σ1 = some (.normal,e0,σ0):=by
          simp only [cC,Bool.false_eq_true,if_false,hl,evC]
          simp only at hev0
          rw [hev0]
         refine wp_mono (a3m hcall hdrawn 1 _ _ e0 σ1 σ0 .normal hc0 g1 w _ (g9g hv1 fn.ntmps []) hgo1.wr (hg.mono hgo1.le)) fun ex a1 w1 ⟨hx1,hd1,g2,ha2,hgo2⟩=>?_
         subst hx1
         refine wp_seq (wp_region ?_)
         have w1' : ∀ l,Region.wanted o1 l = true:=fun l=>by simp [Region.wanted,h3]
         have w2' : ∀ l,Region.wanted o2 l = true:=fun l=>by simp [Region.wanted,h6]
         have q0 : (⟨[o1,o2]⟩ : Array Oper)[0]? = some o1:=rfl
         have q1 : (⟨[o1,o2]⟩ : Array Oper)[1]? = some o2:=rfl
         have sz : List.range (⟨[o1,o2]⟩ : Array Oper).size = [0,1]:=rfl
         have hg2:=(hg.mono hgo1.le).mono hgo2.le
         have hcs:=h8p ha2 hg2 _ _ hxs
         have hmap : ccs.map a1.eval = ⟨ccs.toList.map a1.eval⟩:=by
          apply Array.ext'
          simp
         have hfv : VR g2 (.func (.func gg) [] (xs.map (av C e0))) (.func (.func gg) ⟨[]⟩ ⟨ccs.toList.map a1.eval⟩):=VR.func (.func gg) [] (xs.map (av C e0)) [] (ccs.toList.map a1.eval) .nil hcs
         have r1 : (execOp a1.eval o1).run C.P w1 = .ok (.value (.func (.func gg) ⟨[]⟩ ⟨ccs.toList.map a1.eval⟩)) w1:=by
          rw [← hmap]
          simp only [execOp,h2]
          rw [show Array.map a1.eval ⟨[]⟩ = ⟨[]⟩ from by simp,Sem.run_bind]
          rfl
         have hdl : dd' < a1.tmps.size:=by
          have:=VRs.length ha2
          have h0 : e0.length = args1.length + (fn.ntmps - args1.length):=by
           rw [g6e hev0]
           simp
          simp only [Array.length_toList] at this
          exact Nat.lt_of_lt_of_le hlt (by omega)
         have r2 : (execOp (a1.put (some dd') (.func (.func gg) ⟨[]⟩ ⟨ccs.toList.map a1.eval⟩)).eval o2).run C.P w1 = .ok (.defer { target:=.fn (.func gg) ⟨ccs.toList.map a1.eval⟩,args:=⟨[]⟩ }) w1:=by
          simp [execOp,h5,resolve,Act.put,Act.eval,hdl,Deferred.ofValue]
         rw [sz]
         simp only [wpOps,q0,q1,w1',w2',if_true,Oper.wp,r1,h1,r2,h4,Oper.upon]
         refine .inl (.inl ?_)
         have har3 : AR g2 (e0.set dd' (.func (.func gg) [] (xs.map (av C e0)))) ({ a1.put (some dd') (.func (.func gg) ⟨[]⟩ ⟨ccs.toList.map a1.eval⟩) with defers:={ target:=.fn (.func gg) ⟨ccs.toList.map a1.eval⟩,args:=⟨[]⟩ } :: (a1.put (some dd') (.func (.func gg) ⟨[]⟩ ⟨ccs.toList.map a1.eval⟩)).defers }):=g8o ha2 hfv dd'
         refine wp_mono (c0q hcall hdrawn hct c _ e2 σ0 σ2 tx hev2 g2 w1 _ har3 hgo2.wr hg2) fun ex a4 w4 hp=>?_
         obtain ⟨hd4,g4,ha4,hgo4,hx4⟩:=hp
         have hdd4 : a4.defers = [{ target:=.fn (.func gg) ⟨ccs.toList.map a1.eval⟩,args:=⟨[]⟩ }]:=by
          rw [hd4]
          show _ :: a1.defers = _
          rw [hd1]
         have fin : ∀ (u u' : FrameMode) (r : AV) (r' : Value),u ≠ .run → Md g4 u r r' u' → r = (thrown tx) → Leaves C.P fn a4.tmps (fun e w''=>∃ v1,e = .returned v1 ∧ ∃ g',Goes g σ w g' σ' w'' ∧ VR g' v v1) a4.defers u w4:=by
          intro u u' r r' hne hu hr
          rw [hdd4]
          split at h
          ·cases h
          ·cases h
          ·rename_i xe e3 σ3 hne3 hev3
           refine leaves_cons (f:=gg) (args:=⟨ccs.toList.map a1.eval⟩) hne ?_ ?_
           ·have:=e0r hkfn hkname hkb (ccs.toList.map a1.eval) w4
            simp only [invoke]
            rw [← this]
            congr 2
            simp
           ·have hset:=hu.2.1
            have hlen : (xs.map (av C e0)).length = xs.length:=by simp
            rw [← hr] at hev3
            simp only at hev3
            rw [← hlen] at hev3
            refine (h9r (h3w hct) hdr hk hgo4.wr (hg2.mono hgo4.le) (hcs.mono hgo4.le) hu hev3 (fun id he=>by subst he; exact hne3 _ rfl)).mono ?_
            rintro e u1 w5 ⟨v5,rfl,rfl,g5,hgo5⟩
            simp only
            rw [hset]
            obtain ⟨v',k1,g',k2,k3⟩:=d4d hrs hw (((hgo1.trans hgo2).trans hgo4).trans hgo5) (ha4.mono hgo5.le) h
            exact ⟨v',k1,v',rfl,g',k2,k3⟩
         cases tx with
         | normal=>
           simp only at hx4; subst hx4
           exact fin .returning .returning .nilIface .nilIface (by simp) ⟨.nilIface,rfl,.inl ⟨rfl,rfl,rfl⟩⟩ rfl
         | ret=>
           simp only at hx4; subst hx4
           exact fin .returning .returning .nilIface .nilIface (by simp) ⟨.nilIface,rfl,.inl ⟨rfl,rfl,rfl⟩⟩ rfl
         | pan vp=>
           obtain ⟨vp',hvp,rfl⟩:=hx4
           exact fin _ (.panicking [{ v:=vp',recovered:=true }]) vp vp' (by simp) ⟨hvp,rfl,.inr ⟨rfl,rfl⟩⟩ rfl
     ·cases hdef
    ·cases hdef
   ·cases hdef
  ·cases hx
 ·cases hx
theorem g7v (hm : C.P.follows .mixedOrders = true) {T : FuncId → Option TF} (hT : TTOK C T) (n : Nat) {f : FuncId} {x : CFn} {k : KFn} (hx : cCF C.P f = some x) (hn : e4m C f) (hk : cKF C.P x.clo = some k) (hnk : e4m C x.clo) (call : a0x) (hc : a3k C call) : POK C f (e3l C call (g1f C call T n) x k):=by
 have ht:=e2e hm hc hT n
 have hr:=h3w ht
 exact g5j hc ⟨c6e hm hc,c5y hm hc⟩ ht ⟨c6e hm hr,c5y hm hr⟩ hx hn hk hnk
end
end Go.Ev
