/- An evaluator of the model, proved sound. No conditions. -/
import Derived.Test.YtdakkfjmclaciaaGreatDoorEB
import Derived.Lib.Bytealg
import Derived.LaidMore
import Derived.OpenShut
import Derived.ChangeArms
set_option linter.unusedVariables false
set_option linter.unusedSimpArgs false
namespace Go.Ev
inductive KC where
 | skip
 | ops (l : List XOp)
 | plain (l : List XOp)
 | drawn (l : List XOp)
 | seq (a b : KC)
 | cond (c : XA) (a b : KC)
 | block (id : Nat) (b : KC)
 | loop (keep : List Nat) (b : KC)
 | exit (keep : List Nat) (id : Nat)
 | ret (keep : List Nat)
 | scope (b : KC)
 | fail
def KC.forget : KC → XC
 | .skip=>.skip
 | .ops l=>.ops l
 | .plain l=>.drawn l
 | .drawn l=>.drawn l
 | .seq a b=>.seq a.forget b.forget
 | .cond c a b=>.cond c a.forget b.forget
 | .block id b=>.block id b.forget
 | .loop _ b=>.loop b.forget
 | .exit _ id=>.exit id
 | .ret _=>.ret
 | .scope b=>.scope b.forget
 | .fail=>.fail
structure KF where
 nargs : Nat
 ntmps : Nat
 results : List XR
 body : KC
def KF.forget (k : KF) : XF:=⟨k.nargs,k.ntmps,k.results,k.body.forget⟩
def evIX (C : Ctx) (a : XA → AV) (n0 : Nat) (σ : St) (i : XI) : Option Out:=
 match i with
 | .mv x=>some (.val (a x) σ)
 | .pick c x y=>match a c with
   | .bool b=>some (.val (if b then a x else a y) σ)
   | _=>none
 | .new z ty=>some (.val (.ref σ.length 0) (σ ++ [.cells z ⟨false,ty⟩]))
 | .box x=>some (.val (.ref σ.length 0) (σ ++ [.cells (a x).cells ⟨false,none⟩]))
 | .build z ps=>match fillA z (ps.map fun (o,s,x)=>(o,s,a x)) with
   | some l=>some (.val (.agg l) σ)
   | none=>none
 | .buildSl z n sz ps=>match fillA (rep z n) (ps.map fun (o,s,x)=>(o,s,a x)) with
   | some l=>if l.length = n * sz then some (outSl (asObj z) n sz l σ) else none
   | none=>none
 | .load ag sz x=>match a x with
   | .eptr l=>(pt ag sz l).map (.val · σ)
   | .ref o off=>match σ[o]? with
     | some (.cells l _)=>(pt ag sz (l.drop off)).map (.val · σ)
     | _=>none
   | _=>none
 | .store sz p x=>match a p with
   | .ref o off=>match σ[o]? with
     | some (.cells l ⟨false,t⟩)=>
       let cs:=(a x).cells
       if cs.length = sz ∧ off + sz ≤ l.length ∧ cs.all AV.flat then some (.val .undef (σ.set o (.cells (splice l off cs) ⟨false,t⟩))) else none
     | _=>none
   | _=>none
 | .nilck x=>match a x with
   | .ref o f=>some (.val (.ref o f) σ)
   | .eptr l=>some (.val (.eptr l) σ)
   | .iface t v=>some (.val (.iface t v) σ)
   | .func (.func f) x y=>some (.val (.func (.func f) x y) σ)
   | _=>none
 | .bin op ek cst x y=>(binC C.np op ek cst (a x) (a y)).map (.val · σ)
 | .un op x=>(unOp op (a x)).map (.val · σ)
 | .i2i k x=>match a x with
   | .int _ n=>some (.val (.int k (k.wrap n)) σ)
   | _=>none
 | .s2s x=>match a x with
   | .str s=>some (.val (.str s) σ)
   | _=>none
 | .i2s x=>match a x with
   | .int _ n=>some (.val (.str (Utf8.encode n).data.toList) σ)
   | _=>none
 | .b2s x=>match slCells σ 1 (a x) with
   | some (_,l)=>(bytesOf l).map fun s=>.val (.str s) σ
   | none=>none
 | .s2b x=>match a x with
   | .str s=>some (.val (.sl s.length (ofBytes s)) σ)
   | _=>none
 | .s2r x=>match a x with
   | .str s=>if s.length ≤ 70368744177664 then some (.val (.sl (runesOf s).length (ofRunes (runesOf s))) σ) else none
   | _=>none
 | .mkIface t x=>some (.val (.iface t (a x)) σ)
 | .mkFunc fn first captured=>some (.val (.func fn (first.map a) (captured.map a)) σ)
 | .mkMap=>some (.val (.map σ.length) (σ ++ [.map []]))
 | .mkSlice z sz bytes l c=>match a l,a c with
   | .int _ l,.int _ c=>
     if 0 ≤ l ∧ l ≤ c ∧ c ≤ 9223372036854775807 ∧ bytes * c ≤ 140737488355328 then
      some (.val (.msl σ.length 0 l.toNat sz) (σ ++ [.cells (rep z l.toNat) ⟨false,none⟩]))
     else none
   | _,_=>none
 | .sliceStr x lo hi=>match a x with
   | .str s=>match optNat 0 (lo.map a),optNat s.length (hi.map a) with
     | some l,some h=>if l ≤ h ∧ h ≤ s.length then some (.val (.str ((s.take h).drop l)) σ) else none
     | _,_=>none
   | _=>none
 | .sliceSl sz x lo hi mx=>
   match a x with
   | .nils=>match optNat 0 (lo.map a),optNat 0 (hi.map a),mx with
     | some 0,some 0,none=>some (.val .nils σ)
     | _,_,_=>none
   | .xsl n l=>match optNat 0 (lo.map a),optNat n (hi.map a),mx with
     | some lo,some hi,none=>
       if lo ≤ hi ∧ hi ≤ n ∧ l.length = n * sz then some (.val (.sl (hi - lo) ((l.take (hi * sz)).drop (lo * sz))) σ) else none
     | _,_,_=>none
   | .sl n l=>match optNat 0 (lo.map a),optNat n (hi.map a),mx with
     | some lo,some hi,none=>
       if lo ≤ hi ∧ hi ≤ n ∧ l.length = n * sz then
        some (.val (.sl (hi - lo) ((l.take (hi * sz)).drop (lo * sz))) σ)
       else none
     | _,_,_=>none
   | .msl o off n s=>match optNat 0 (lo.map a),optNat n (hi.map a),mx with
     | some lo,some hi,none=>
       if lo ≤ hi ∧ hi ≤ n ∧ s = sz then
        some (.val (if lo = hi ∧ lo ≠ 0 then .emp else .msl o (off + lo * sz) (hi - lo) sz) σ)
       else none
     | _,_,_=>none
   | _=>none
 | .sliceArr len sz x lo hi mx=>match a x with
   | .ref o off=>match σ[o]? with
     | some (.cells l _)=>match optNat 0 (lo.map a),optNat len (hi.map a),mx with
       | some lo,some hi,none=>if lo ≤ hi ∧ hi ≤ len ∧ off + len * sz ≤ l.length then some (.val (if lo = hi then .emp else .msl o (off + lo * sz) (hi - lo) sz) σ) else none
       | _,_,_=>none
     | _=>none
   | _=>none
 | .fieldAddr off x=>match a x with
   | .ref o f=>some (.val (.ref o (f + off)) σ)
   | .eptr l=>if off ≤ l.length then some (.val (.eptr (l.drop off)) σ) else none
   | _=>none
 | .field ag off sz x=>match a x with
   | .agg l=>(pt ag sz (l.drop off)).map (.val · σ)
   | _=>none
 | .idxAddrArr len sz x i=>match asNat (a i),a x with
   | some i,.ref o f=>if i < len then some (.val (.ref o (f + i * sz)) σ) else none
   | some i,.eptr l=>if i < len ∧ i * sz ≤ l.length then some (.val (.eptr (l.drop (i * sz))) σ) else none
   | _,_=>none
 | .idxAddrSl sz x i=>match asNat (a i),a x with
   | some i,.sl n l=>if i < n ∧ l.length = n * sz then some (.val (.eptr (l.drop (i * sz))) σ) else none
   | some i,.xsl n l=>if i < n ∧ l.length = n * sz then some (.val (.eptr (l.drop (i * sz))) σ) else none
   | some i,.msl o off n s=>if i < n ∧ s = sz then some (.val (.ref o (off + i * sz)) σ) else none
   | _,_=>none
 | .idxArr len ag sz x i=>match asNat (a i),a x with
   | some i,.agg l=>if i < len then (pt ag sz (l.drop (i * sz))).map (.val · σ) else none
   | _,_=>none
 | .idxStr x i=>match asNat (a i),a x with
   | some i,.str s=>match s[i]? with
     | some b=>some (.val (.int .u8 b.toNat) σ)
     | none=>none
   | _,_=>none
 | .lookup z m k ok=>
   match mapOf σ (a m) with
   | some es=>match findA (a k) es 0 with
     | some (some (_,v))=>some (.val (if ok then .tup [v,.bool true] else v) σ)
     | some none=>some (.val (if ok then .tup [z,.bool false] else z) σ)
     | none=>none
   | none=>none
 | .mapUpd m k v=>match a m with
   | .map r=>match σ[r]? with
     | some (.map es)=>match a k with
       | .str s=>match findA (.str s) es 0 with
         | some (some (i,_))=>some (.val .undef (σ.set r (.map (es.set i (.str s,a v)))))
         | some none=>some (.val .undef (σ.set r (.map (es ++ [(.str s,a v)]))))
         | none=>none
       | _=>none
     | _=>none
   | _=>none
 | .mapEntry z m k=>match a m with
   | .map r=>match σ[r]? with
     | some (.map es)=>match a k with
       | .str s=>match findA (.str s) es 0 with
         | some (some (i,v))=>some (.val (.tup [v,.int .i64 i]) σ)
         | some none=>some (.val (.tup [z,.int .i64 es.length]) (σ.set r (.map (es ++ [(.str s,z)]))))
         | none=>none
       | _=>none
     | _=>none
   | _=>none
 | .entryStore m s v=>match a m,asNat (a s) with
   | .map r,some i=>match σ[r]? with
     | some (.map es)=>match es[i]? with
       | some (k,_)=>some (.val .undef (σ.set r (.map (es.set i (k,a v)))))
       | none=>none
     | _=>none
   | _,_=>none
 | .extract x i=>match a x with
   | .tup l=>match l[i]? with
     | some v=>some (.val v σ)
     | none=>none
   | _=>none
 | .app str sz bytes ty s x=>
   match srcCells σ sz (a x) with
   | some (m,cs)=>
     if isStr (a x) != str || !cs.all AV.flat then none else
     match appA σ sz bytes ty (a s) m cs with
     | some (v,σ')=>some (.val v σ')
     | none=>none
   | none=>none
 | .len k x=>(lenA σ k (a x)).map fun n=>.val (.int .i64 n) σ
 | .lenC n=>some (.val (.int .i64 n) σ)
 | .cpy sz d s=>
   match srcCells σ sz (a s),a d with
   | some (m,cs),.msl o off n s=>match σ[o]? with
     | some (.cells l ⟨false,t⟩)=>
       let k:=min m n
       if s = sz ∧ off + k * sz ≤ l.length ∧ cs.all AV.flat then
        some (.val (.int .i64 k) (σ.set o (.cells (splice l off (cs.take (k * sz))) ⟨false,t⟩)))
       else none
     | _=>none
   | _,_=>none
 | .minmax mx x y=>(minmaxA mx (a x) (a y)).map (.val · σ)
 | .callF f args=>some (.call f (args.map a) σ)
 | .callV f args=>callVal C (a f) (args.map a) σ
 | .invoke x m args=>match a x with
   | .iface t v=>match methodOf C.P t v m with
     | some (f,r)=>some (.call f (r :: args.map a) σ)
     | none=>none
   | _=>none
 | .pend=>some (.val .undef σ)
 | .fill _ d sz x=>
   let cs:=(a x).cells
   if d < n0 ∧ cs.length = sz ∧ cs.all AV.flat then some (.val (.ref σ.length 0) (σ ++ [.cells cs ⟨false,none⟩])) else none
 | .fail=>none
theorem evI_X (C : Ctx) (e : Env) (σ : St) (i : XI) : evI C e σ i = evIX C (av C e) e.length σ i:=by cases i <;> rfl
abbrev As:=List (Nat × AV)
def look : As → Nat → AV
 | [],_=>.undef
 | (k,v) :: A,t=>if k = t then v else look A t
def avA (C : Ctx) (A : As) : XA → AV
 | .t n=>look A n
 | .c v=>v
 | .g n=>.eptr ((C.gl n).getD [])
def boolIs (b : Bool) : AV → Bool
 | .bool c=>c == b
 | _=>false
def wantA (o : XOp) (A : As) : Bool:=
 match o.guard with
 | none=>true
 | some (t,b)=>boolIs b (look A t)
def putL (A : As) (d : Option Nat) (v : AV) : As:=
 match d with
 | some d=>(d,v) :: A
 | none=>A
def keepA (k : List Nat) (A : As) : As:=k.map fun t=>(t,look A t)
def evOpA (C : Ctx) (call : CallO) (n : Nat) (o : XOp) (A : As) (σ : St) : Option (AV × St):=
 if wantA o A then
  match evIX C (avA C A) n σ o.i with
  | some (.val v σ')=>some (v,σ')
  | some (.call f args σ')=>call f args σ'
  | none=>none
 else some (.undef,σ)
def evOpsA (C : Ctx) (call : CallO) (n : Nat) : List XOp → As → St → Option (As × St)
 | [],A,σ=>some (A,σ)
 | o :: l,A,σ=>match evOpA C call n o A σ with
   | some (v,σ')=>evOpsA C call n l (putL A o.dst v) σ'
   | none=>none
def evRunA (C : Ctx) (call : CallO) (n : Nat) : List XOp → As → St → Option (As × St × List (As × AV) × List St)
 | [],A,σ=>some (A,σ,[],[σ])
 | o :: l,A,σ=>match evOpA C call n o A σ with
   | some (v,σ')=>match evRunA C call n l (putL A o.dst v) σ' with
     | some (A',σ'',rs,ss)=>some (A',σ'',(A,v) :: rs,σ :: ss)
     | none=>none
   | none=>none
def recheckA (C : Ctx) (n : Nat) (o : XOp) (A : As) (v : AV) (ss : List St) : List Nat → Bool
 | []=>true
 | c :: l=>(match ss[c]?,ss[c + 1]? with
   | some s,some s'=>(match evIX C (avA C A) n s o.i,evIX C (avA C A) n s' o.i with
     | some (.val v1 _),some (.val v2 _)=>same v1 v && same v2 v
     | _,_=>false)
   | _,_=>false) && recheckA C n o A v ss l
def rechecksA (C : Ctx) (n : Nat) (ss : List St) : List XOp → List (As × AV) → Bool
 | o :: l,(A,v) :: rs=>(!wantA o A || recheckA C n o A v ss o.loose) && rechecksA C n ss l rs
 | _,_=>true
def evDrawnA (C : Ctx) (call : CallO) (n : Nat) (l : List XOp) (A : As) (σ : St) : Option (As × St):=
 match evRunA C call n l A σ with
 | some (A',σ',rs,ss)=>if rechecksA C n ss l rs then some (A',σ') else none
 | none=>none
abbrev BodyA:=As → St → Option (XE × As × St)
def loopA (b : BodyA) : Nat → As → St → Option (XE × As × St)
 | 0,_,_=>none
 | n + 1,e,σ=>match b e σ with
   | some (.normal,e',σ')=>loopA b n e' σ'
   | r=>r
theorem loopA_mono {b : BodyA} : ∀ (n m : Nat),n ≤ m → ∀ e σ,Le (loopA b n e σ) (loopA b m e σ)
 | 0,_,_,_,_=>Le.none
 | n + 1,0,hn,_,_=>absurd hn (by omega)
 | n + 1,m + 1,hn,e,σ=>by
   intro a ha
   unfold loopA at ha ⊢
   cases hb : b e σ with
   | none=>rw [hb] at ha; cases ha
   | some r=>
     rw [hb] at ha
     obtain ⟨k,e',σ'⟩:=r
     cases k with
     | normal=>exact loopA_mono n m (by omega) e' σ' a ha
     | exit i=>exact ha
     | ret=>exact ha
noncomputable def semLoopA (b : BodyA) : BodyA:=fun e σ=>lim fun n=>loopA b n e σ
theorem semLoopA_some {b : BodyA} {e σ r} : semLoopA b e σ = some r ↔ ∃ n,loopA b n e σ = some r:=
 lim_some (fun n m h=>loopA_mono n m h e σ)
theorem semLoopA_eq (b : BodyA) (e : As) (σ : St) : semLoopA b e σ =
  match b e σ with
  | some (.normal,e',σ')=>semLoopA b e' σ'
  | r=>r:=by
 refine Le.antisymm ?_ ?_
 ·intro a h
  obtain ⟨n,h⟩:=semLoopA_some.mp h
  cases n with
  | zero=>cases h
  | succ n=>
    unfold loopA at h
    cases hb : b e σ with
    | none=>rw [hb] at h; cases h
    | some r=>
      rw [hb] at h
      obtain ⟨k,e',σ'⟩:=r
      cases k with
      | normal=>exact semLoopA_some.mpr ⟨n,h⟩
      | exit i=>exact h
      | ret=>exact h
 ·intro a h
  refine semLoopA_some.mpr ?_
  cases hb : b e σ with
  | none=>rw [hb] at h; cases h
  | some r=>
    rw [hb] at h
    obtain ⟨k,e',σ'⟩:=r
    cases k with
    | normal=>
      obtain ⟨n,h⟩:=semLoopA_some.mp h
      exact ⟨n + 1,by unfold loopA; rw [hb]; exact h⟩
    | exit i=>exact ⟨1,by unfold loopA; rw [hb]; exact h⟩
    | ret=>exact ⟨1,by unfold loopA; rw [hb]; exact h⟩
noncomputable def semK (C : Ctx) (call : CallO) (n : Nat) : KC → BodyA
 | .skip,e,σ=>some (.normal,e,σ)
 | .ops l,e,σ | .plain l,e,σ=>match evOpsA C call n l e σ with
   | some (e',σ')=>some (.normal,e',σ')
   | none=>none
 | .drawn l,e,σ=>match evDrawnA C call n l e σ with
   | some (e',σ')=>some (.normal,e',σ')
   | none=>none
 | .seq a b,e,σ=>match semK C call n a e σ with
   | some (.normal,e',σ')=>semK C call n b e' σ'
   | r=>r
 | .cond c a b,e,σ=>match avA C e c with
   | .bool true=>semK C call n a e σ
   | .bool false=>semK C call n b e σ
   | _=>none
 | .block id b,e,σ=>match semK C call n b e σ with
   | some (.exit i,e',σ')=>some (if i = id then .normal else .exit i,e',σ')
   | r=>r
 | .loop m b,e,σ=>semLoopA (fun e σ=>semK C call n b (keepA m e) σ) e σ
 | .exit m id,e,σ=>some (.exit id,keepA m e,σ)
 | .ret m,e,σ=>some (.ret,keepA m e,σ)
 | .scope b,e,σ=>semK C call n b e σ
 | .fail,_,_=>none
def bit (t : Nat) : Nat:=1 <<< t
def bits : List Nat → Nat
 | []=>0
 | t :: l=>bit t ||| bits l
def without (m : Nat) : Option Nat → Nat
 | none=>m
 | some d=>(m ||| bit d) ^^^ bit d
def liveOps : List XOp → Nat → Nat
 | [],N=>N
 | o :: l,N=>bits o.reads ||| without (liveOps l N) o.dst
def noLoose (l : List XOp) : Bool:=l.all fun o=>o.loose.isEmpty
def dstOk (n : Nat) : Option Nat → Bool
 | none=>true
 | some d=>decide (d < n)
def dsts (n : Nat) (l : List XOp) : Bool:=l.all fun o=>dstOk n o.dst
def live (n R : Nat) : KC → Nat → (Nat → Nat) → Option Nat
 | .skip,N,_=>some N
 | .ops l,N,_=>if dsts n l then some (liveOps l N) else none
 | .plain l,N,_=>if dsts n l && noLoose l then some (liveOps l N) else none
 | .drawn l,N,_=>if dsts n l then some (liveOps l N) else none
 | .seq a b,N,X=>match live n R b N X with
   | some M=>live n R a M X
   | none=>none
 | .cond c a b,N,X=>match live n R a N X,live n R b N X with
   | some A,some B=>some (bits c.reads ||| (A ||| B))
   | _,_=>none
 | .block id b,N,X=>live n R b N fun i=>if i = id then N else X i
 | .loop k b,_,X=>match live n R b (bits k) X with
   | some A=>if A ||| bits k = bits k then some (bits k) else none
   | none=>none
 | .exit k id,_,X=>if X id ||| bits k = bits k then some (bits k) else none
 | .ret k,_,_=>if R ||| bits k = bits k then some (bits k) else none
 | .scope b,N,X=>live n R b N X
 | .fail,_,_=>some 0
def resMask : List XR → Nat
 | []=>0
 | .tmp t :: l=>bit t ||| resMask l
 | .cell t _ _ :: l=>bit t ||| resMask l
def KF.ok (k : KF) : Bool:=(live k.ntmps (resMask k.results) k.body (resMask k.results) fun _=>resMask k.results).isSome
structure Ag (n m : Nat) (e : Env) (A : As) : Prop where
 len : e.length = n
 at' : ∀ t,m.testBit t = true → e.getD t .undef = look A t
theorem Ag.left {n m k : Nat} {e A} (h : Ag n (m ||| k) e A) : Ag n m e A:=⟨h.len,fun t ht=>h.at' t (by rw [Nat.testBit_or,ht]; rfl)⟩
theorem Ag.right {n m k : Nat} {e A} (h : Ag n (m ||| k) e A) : Ag n k e A:=⟨h.len,fun t ht=>h.at' t (by rw [Nat.testBit_or,ht,Bool.or_true])⟩
theorem testBit_bit (d t : Nat) : (bit d).testBit t = decide (d = t):=by
 unfold bit
 rw [Nat.one_shiftLeft,Nat.testBit_two_pow]
theorem mem_bits : ∀ (l : List Nat) (t : Nat),t ∈ l → (bits l).testBit t = true
 | a :: l,t,h=>by
   unfold bits
   rw [Nat.testBit_or,testBit_bit]
   rcases List.mem_cons.mp h with h | h
   ·subst h; simp
   ·rw [mem_bits l t h,Bool.or_true]
theorem bits_mem : ∀ (l : List Nat) (t : Nat),(bits l).testBit t = true → t ∈ l
 | [],t,h=>by unfold bits at h; simp at h
 | a :: l,t,h=>by
   unfold bits at h
   rw [Nat.testBit_or,testBit_bit,Bool.or_eq_true] at h
   rcases h with h | h
   ·exact List.mem_cons.mpr (Or.inl (Eq.symm (by simpa using h)))
   ·exact List.mem_cons_of_mem _ (bits_mem l t h)
def AgL (l : List Nat) (e : Env) (A : As) : Prop:=∀ t ∈ l,e.getD t .undef = look A t
theorem Ag.agree {n : Nat} {l : List Nat} {e A} (h : Ag n (bits l) e A) : AgL l e A:=fun t ht=>h.at' t (mem_bits l t ht)
theorem testBit_without (m d t : Nat) : (without m (some d)).testBit t = (m.testBit t && !decide (d = t)):=by
 unfold without
 rw [Nat.testBit_xor,Nat.testBit_or,testBit_bit]
 cases m.testBit t <;> cases decide (d = t) <;> rfl
theorem getD_set (e : Env) (d t : Nat) (v : AV) : (e.set d v).getD t .undef = if d = t ∧ t < e.length then v else e.getD t .undef:=by
 simp only [List.getD_eq_getElem?_getD,List.getElem?_set]
 by_cases h : d = t
 ·subst h
  by_cases h' : d < e.length
  ·simp [h']
  ·simp [h']
 ·simp [h]
theorem Ag.put {n m : Nat} {d : Option Nat} {e A} (h : Ag n (without m d) e A) (hd : dstOk n d = true) (v : AV) : Ag n m (put e d v) (putL A d v):=by
 refine ⟨by rw [put_length,h.len],?_⟩
 intro t ht
 cases d with
 | none=>exact h.at' t ht
 | some d=>
   have hd : d < n:=by simpa [dstOk] using hd
   unfold Go.Ev.put putL
   dsimp only
   rw [getD_set,h.len]
   unfold look
   by_cases hdt : d = t
   ·rw [if_pos ⟨hdt,by omega⟩,if_pos hdt]
   ·rw [if_neg (fun h=>hdt h.1),if_neg hdt]
    exact h.at' t (by rw [testBit_without,ht]; simp [hdt])
theorem look_keep : ∀ (k : List Nat) (A : As) (t : Nat),t ∈ k → look (keepA k A) t = look A t
 | a :: k,A,t,h=>by
   show (if a = t then look A a else look (keepA k A) t) = _
   by_cases hat : a = t
   ·rw [if_pos hat,hat]
   ·rw [if_neg hat]
    exact look_keep k A t ((List.mem_cons.mp h).resolve_left fun h=>hat h.symm)
theorem Ag.keep {n : Nat} {k : List Nat} {e A} (h : Ag n (bits k) e A) : Ag n (bits k) e (keepA k A):=
 ⟨h.len,fun t ht=>by rw [look_keep k A t (bits_mem k t ht),h.at' t ht]⟩
theorem av_A {C : Ctx} {e : Env} {A : As} (x : XA) (h : AgL x.reads e A) : av C e x = avA C A x:=by
 cases x with
 | t n=>exact h n (List.mem_singleton.mpr rfl)
 | c v=>rfl
 | g n=>rfl
section
variable {a a' : XA → AV}
def AgX (l : List Nat) (a a' : XA → AV) : Prop:=∀ x : XA,(∀ t ∈ x.reads,t ∈ l) → a x = a' x
theorem AgX.sub {l k : List Nat} (h : AgX l a a') (hk : ∀ t ∈ k,t ∈ l) : AgX k a a':= fun x hx=>h x fun t ht=>hk t (hx t ht)
theorem avs_X : ∀ (l : List XA),AgX (readsAll l) a a' → l.map a = l.map a'
 | [],_=>rfl
 | x :: l,h=>by
   simp only [List.map_cons]
   rw [h x (fun t ht=>by simp [readsAll,ht]),avs_X l (h.sub fun t ht=>by simp [readsAll,ht])]
theorem avo_X (x : Option XA) (h : AgX (readsO x) a a') : x.map a = x.map a':= by
 cases x with
 | none=>rfl
 | some x=>simp only [Option.map_some]; rw [h x (fun t ht=>ht)]
theorem avp_X : ∀ (l : List (Nat × Nat × XA)),AgX (readsP l) a a' → (l.map fun (o,s,x)=>(o,s,a x)) = (l.map fun (o,s,x)=>(o,s,a' x))
 | [],_=>rfl
 | (o,s,x) :: l,h=>by
   simp only [List.map_cons]
   rw [h x (fun t ht=>by simp [readsP,ht]),avp_X l (h.sub fun t ht=>by simp [readsP,ht])]
theorem evIX_congr (C : Ctx) (n : Nat) (σ : St) (xi : XI) (h : AgX xi.reads a a') : evIX C a n σ xi = evIX C a' n σ xi:=by
 have mem : ∀ {x : XA},(∀ t ∈ x.reads,t ∈ xi.reads) → a x = a' x:=fun {x} hx=>h x hx
 cases xi <;> simp only [XI.reads] at h mem <;> simp only [evIX] <;> first
  | rfl
  | (rw [mem (fun t ht=>ht)])
  | (rename_i a b; rw [mem (x:=a) (fun t ht=>by simp [ht]),mem (x:=b) (fun t ht=>by simp [ht])])
  | (rename_i a b c; rw [mem (x:=a) (fun t ht=>by simp [ht]),mem (x:=b) (fun t ht=>by simp [ht]),mem (x:=c) (fun t ht=>by simp [ht])])
  | (rw [avp_X _ h])
  | skip
 case mkFunc fn x y=>rw [avs_X x (h.sub fun t ht=>by simp [ht]),avs_X y (h.sub fun t ht=>by simp [ht])]
 case sliceStr x a b=>rw [mem (x:=x) (fun t ht=>by simp [ht]),avo_X a (h.sub fun t ht=>by simp [ht]),avo_X b (h.sub fun t ht=>by simp [ht])]
 case sliceSl sz x a b c=>rw [mem (x:=x) (fun t ht=>by simp [ht]),avo_X a (h.sub fun t ht=>by simp [ht]),avo_X b (h.sub fun t ht=>by simp [ht])]
 case sliceArr n sz x a b c=>rw [mem (x:=x) (fun t ht=>by simp [ht]),avo_X a (h.sub fun t ht=>by simp [ht]),avo_X b (h.sub fun t ht=>by simp [ht])]
 case lookup z m k ok=>rw [mem (x:=m) (fun t ht=>by simp [ht]),mem (x:=k) (fun t ht=>by simp [ht])]
 all_goals first
  | (rw [avs_X _ h])
  | (rename_i f l; rw [mem (x:=f) (fun t ht=>by simp [ht]),avs_X l (h.sub fun t ht=>by simp [ht])])
  | (rename_i f m l; rw [mem (x:=f) (fun t ht=>by simp [ht]),avs_X l (h.sub fun t ht=>by simp [ht])])
  | (rename_i q; rw [mem (x:=q) (fun t ht=>by simp [ht])])
end
theorem Ag.wanted {n : Nat} {o : XOp} {e A} (h : Ag n (bits o.reads) e A) : wantedA o e = wantA o A:=by
 unfold wantedA wantA
 cases hg : o.guard with
 | none=>rfl
 | some q=>
   obtain ⟨t,b⟩:=q
   dsimp only
   have ht:=h.agree t (by unfold XOp.reads; rw [hg]; simp)
   rw [← ht,List.getD_eq_getElem?_getD]
   unfold boolIs
   cases e[t]? with
   | none=>rfl
   | some v=>cases v <;> rfl
theorem Ag.evI {C : Ctx} {n : Nat} {o : XOp} {e A} (h : Ag n (bits o.reads) e A) (σ : St) : Go.Ev.evI C e σ o.i = evIX C (avA C A) n σ o.i:=by
 rw [evI_X,h.len]
 exact evIX_congr C n σ o.i fun x hx=>av_A x fun t ht=>h.agree t (by unfold XOp.reads; exact List.mem_append_left _ (hx t ht))
theorem Ag.op {C : Ctx} {call : CallO} {n : Nat} {o : XOp} {e A} (h : Ag n (bits o.reads) e A) (σ : St) : evOp C call o e σ = evOpA C call n o A σ:=by
 unfold evOp evOpA
 rw [h.wanted,h.evI]
 cases evIX C (avA C A) n σ o.i with
 | none=>rfl
 | some x=>cases x <;> rfl
def Rel (n : Nat) (N : XE → Nat) : Option (XE × Env × St) → Option (XE × As × St) → Prop
 | none,none=>True
 | some (k,e,σ),some (k',e',σ')=>k = k' ∧ σ = σ' ∧ Ag n (N k) e e'
 | _,_=>False
theorem ops_rel {C : Ctx} {call : CallO} {n N : Nat} : ∀ (l : List XOp) (e : Env) (A : As) (σ : St),dsts n l = true → Ag n (liveOps l N) e A →
  match evOps C call l e σ,evOpsA C call n l A σ with
  | some (f,τ),some (f',τ')=>τ = τ' ∧ Ag n N f f'
  | none,none=>True
  | _,_=>False
 | [],e,A,σ,_,h=>⟨rfl,h⟩
 | o :: l,e,A,σ,hd,h=>by
   unfold dsts at hd
   rw [List.all_cons,Bool.and_eq_true] at hd
   unfold evOps evOpsA
   rw [Ag.op h.left σ]
   cases evOpA C call n o A σ with
   | none=>trivial
   | some q=>exact ops_rel l _ _ q.2 hd.2 (h.right.put hd.1 q.1)
theorem recheck_rel {C : Ctx} {n : Nat} {o : XOp} {e A} (h : Ag n (bits o.reads) e A) (v : AV) (ss : List St) : ∀ l,recheck C o e v ss l = recheckA C n o A v ss l
 | []=>rfl
 | c :: l=>by
   unfold recheck recheckA
   rw [recheck_rel h v ss l]
   simp only [h.evI]
   cases ss[c]? with
   | none=>rfl
   | some s=>cases ss[c + 1]? with
     | none=>rfl
     | some s'=>
       dsimp only
       cases evIX C (avA C A) n s o.i with
       | none=>rfl
       | some x=>cases evIX C (avA C A) n s' o.i with
         | none=>cases x <;> rfl
         | some y=>cases x <;> cases y <;> rfl
theorem run_rel {C : Ctx} {call : CallO} {n N : Nat} : ∀ (l : List XOp) (e : Env) (A : As) (σ : St),dsts n l = true → Ag n (liveOps l N) e A →
  match evRun C call l e σ,evRunA C call n l A σ with
  | some (f,τ,rs,ss),some (f',τ',rs',ss')=>τ = τ' ∧ ss = ss' ∧ Ag n N f f' ∧ ∀ zs,rechecks C zs l rs = rechecksA C n zs l rs'
  | none,none=>True
  | _,_=>False
 | [],e,A,σ,_,h=>⟨rfl,rfl,h,fun _=>rfl⟩
 | o :: l,e,A,σ,hd,h=>by
   unfold dsts at hd
   rw [List.all_cons,Bool.and_eq_true] at hd
   unfold evRun evRunA
   rw [Ag.op h.left σ]
   cases evOpA C call n o A σ with
   | none=>trivial
   | some q=>
     dsimp only
     have:=run_rel (C:=C) (call:=call) (N:=N) l _ _ q.2 hd.2 (h.right.put hd.1 q.1)
     revert this
     cases evRun C call l (put e o.dst q.1) q.2 with
     | none=>cases evRunA C call n l (putL A o.dst q.1) q.2 with
       | none=>intro _; trivial
       | some r=>intro h; exact h.elim
     | some r=>cases evRunA C call n l (putL A o.dst q.1) q.2 with
       | none=>intro h; exact h.elim
       | some r'=>
         obtain ⟨f,τ,rs,ss⟩:=r
         obtain ⟨f',τ',rs',ss'⟩:=r'
         rintro ⟨h1,h2,h3,h4⟩
         refine ⟨h1,by rw [h2],h3,?_⟩
         intro zs
         unfold rechecks rechecksA
         rw [h4,h.left.wanted,recheck_rel h.left]
theorem rechecks_none {C : Ctx} {zs : List St} : ∀ (l : List XOp) (rs : List (Env × AV)),noLoose l = true → rechecks C zs l rs = true
 | [],_,_=>by unfold rechecks; rfl
 | _ :: _,[],_=>by unfold rechecks; rfl
 | o :: l,(e,v) :: rs,h=>by
   unfold noLoose at h
   rw [List.all_cons,Bool.and_eq_true] at h
   unfold rechecks
   rw [rechecks_none l rs h.2]
   have : o.loose = []:=by simpa using h.1
   rw [this]
   unfold recheck
   simp
theorem run_ops {C : Ctx} {call : CallO} : ∀ (l : List XOp) (e : Env) (σ : St),(evRun C call l e σ).map (fun r=>(r.1,r.2.1)) = evOps C call l e σ
 | [],_,_=>rfl
 | o :: l,e,σ=>by
   unfold evRun evOps
   cases evOp C call o e σ with
   | none=>rfl
   | some q=>
     dsimp only
     rw [← run_ops l]
     cases evRun C call l (put e o.dst q.1) q.2 <;> rfl
theorem drawn_plain {C : Ctx} {call : CallO} {l : List XOp} (h : noLoose l = true) (e : Env) (σ : St) : evDrawn C call l e σ = evOps C call l e σ:=by
 unfold evDrawn
 rw [← run_ops]
 cases evRun C call l e σ with
 | none=>rfl
 | some r=>
   obtain ⟨a,b,c,d⟩:=r
   dsimp only
   rw [rechecks_none l c h]
   rfl
def outs (N R : Nat) (X : Nat → Nat) : XE → Nat
 | .normal=>N
 | .exit i=>X i
 | .ret=>R
theorem live_rel {C : Ctx} {call : CallO} {n R : Nat} : ∀ (k : KC) (N M : Nat) (X : Nat → Nat),live n R k N X = some M → ∀ (e : Env) (e' : As) (σ : St),Ag n M e e' → Rel n (outs N R X) (semC C call k.forget e σ) (semK C call n k e' σ)
 | .skip,N,M,X,h,e,e',σ,ha=>by cases h; exact ⟨rfl,rfl,ha⟩
 | .ops l,N,M,X,h,e,e',σ,ha=>by
   unfold live at h
   split at h
   ·rename_i hd
    cases h
    unfold KC.forget semC semK
    have:=ops_rel (C:=C) (call:=call) l e e' σ hd ha
    revert this
    cases evOps C call l e σ <;> cases evOpsA C call n l e' σ
    ·intro _; trivial
    ·intro h; exact h.elim
    ·intro h; exact h.elim
    ·rintro ⟨h1,h2⟩; exact ⟨rfl,h1,h2⟩
   ·cases h
 | .plain l,N,M,X,h,e,e',σ,ha=>by
   unfold live at h
   split at h
   ·rename_i hl
    cases h
    rw [Bool.and_eq_true] at hl
    unfold KC.forget semC semK
    rw [drawn_plain hl.2]
    have:=ops_rel (C:=C) (call:=call) l e e' σ hl.1 ha
    revert this
    cases evOps C call l e σ <;> cases evOpsA C call n l e' σ
    ·intro _; trivial
    ·intro h; exact h.elim
    ·intro h; exact h.elim
    ·rintro ⟨h1,h2⟩; exact ⟨rfl,h1,h2⟩
   ·cases h
 | .drawn l,N,M,X,h,e,e',σ,ha=>by
   unfold live at h
   split at h
   case isFalse=>cases h
   rename_i hd
   cases h
   unfold KC.forget semC semK evDrawn evDrawnA
   have:=run_rel (C:=C) (call:=call) l e e' σ hd ha
   revert this
   cases evRun C call l e σ <;> cases evRunA C call n l e' σ
   ·intro _; trivial
   ·intro h; exact h.elim
   ·intro h; exact h.elim
   ·rename_i r r'
    obtain ⟨f,τ,rs,ss⟩:=r
    obtain ⟨f',τ',rs',ss'⟩:=r'
    rintro ⟨h1,h2,h3,h4⟩
    subst h2
    dsimp only
    rw [h4]
    cases rechecksA C n ss l rs'
    ·trivial
    ·exact ⟨rfl,h1,h3⟩
 | .seq a b,N,M,X,h,e,e',σ,ha=>by
   unfold live at h
   cases hb : live n R b N X with
   | none=>rw [hb] at h; cases h
   | some B=>
     rw [hb] at h
     have:=live_rel (C:=C) (call:=call) a B M X h e e' σ ha
     unfold KC.forget semC semK
     revert this
     cases semC C call a.forget e σ <;> cases semK C call n a e' σ
     ·intro _; trivial
     ·intro h; exact h.elim
     ·intro h; exact h.elim
     ·rename_i r r'
      obtain ⟨x,f,τ⟩:=r
      obtain ⟨x',f',τ'⟩:=r'
      rintro ⟨h1,h2,h3⟩
      subst h1 h2
      cases x with
      | normal=>exact live_rel b N B X hb _ _ _ h3
      | exit i=>exact ⟨rfl,rfl,h3⟩
      | ret=>exact ⟨rfl,rfl,h3⟩
 | .cond c a b,N,M,X,h,e,e',σ,ha=>by
   unfold live at h
   cases hA : live n R a N X with
   | none=>rw [hA] at h; cases h
   | some A=>cases hB : live n R b N X with
     | none=>rw [hA,hB] at h; cases h
     | some B=>
       rw [hA,hB] at h
       cases h
       unfold KC.forget semC semK
       rw [av_A c (ha.left.agree)]
       cases avA C e' c with
       | bool q=>cases q with
         | true=>exact live_rel a N A X hA e e' σ ha.right.left
         | false=>exact live_rel b N B X hB e e' σ ha.right.right
       | _=>trivial
 | .block id b,N,M,X,h,e,e',σ,ha=>by
   unfold live at h
   have:=live_rel (C:=C) (call:=call) b N M _ h e e' σ ha
   unfold KC.forget semC semK
   revert this
   cases semC C call b.forget e σ <;> cases semK C call n b e' σ
   ·intro _; trivial
   ·intro h; exact h.elim
   ·intro h; exact h.elim
   ·rename_i r r'
    obtain ⟨x,f,τ⟩:=r
    obtain ⟨x',f',τ'⟩:=r'
    rintro ⟨h1,h2,h3⟩
    subst h1 h2
    cases x with
    | normal=>exact ⟨rfl,rfl,h3⟩
    | exit i=>
      refine ⟨rfl,rfl,?_⟩
      unfold outs at h3
      dsimp only at h3
      split
      ·rename_i hi; rw [if_pos hi] at h3; exact h3
      ·rename_i hi; rw [if_neg hi] at h3; exact h3
    | ret=>exact ⟨rfl,rfl,h3⟩
 | .loop m b,N,M,X,h,e,e',σ,ha=>by
   unfold live at h
   cases hA : live n R b (bits m) X with
   | none=>rw [hA] at h; cases h
   | some A=>
     rw [hA] at h
     dsimp only at h
     split at h
     ·rename_i hm
      cases h
      have hsub : ∀ {f : Env} {f' : As},Ag n (bits m) f f' → Ag n A f f':= fun {f f'} g=>by rw [← hm] at g; exact g.left
      have step : ∀ (p : Nat) (e : Env) (e' : As) (σ : St),Ag n (bits m) e e' → Rel n (outs N R X) (evLoop (semC C call b.forget) p e σ) (loopA (fun e σ=>semK C call n b (keepA m e) σ) p e' σ):=by
       intro p
       induction p with
       | zero=>intro e e' σ _; trivial
       | succ p ih=>
         intro e e' σ ha
         unfold evLoop loopA
         have:=live_rel (C:=C) (call:=call) b (bits m) A X hA e (keepA m e') σ (hsub ha.keep)
         revert this
         cases semC C call b.forget e σ <;> cases semK C call n b (keepA m e') σ
         ·intro _; trivial
         ·intro h; exact h.elim
         ·intro h; exact h.elim
         ·rename_i r r'
          obtain ⟨x,f,τ⟩:=r
          obtain ⟨x',f',τ'⟩:=r'
          rintro ⟨h1,h2,h3⟩
          subst h1 h2
          cases x with
          | normal=>exact ih _ _ _ h3
          | exit i=>exact ⟨rfl,rfl,h3⟩
          | ret=>exact ⟨rfl,rfl,h3⟩
      unfold KC.forget semC semK
      cases h1 : semLoop (semC C call b.forget) e σ with
      | some r=>
        obtain ⟨p,hn⟩:=semLoop_some.mp h1
        have:=step p e e' σ ha
        rw [hn] at this
        cases h2 : loopA (fun e σ=>semK C call n b (keepA m e) σ) p e' σ with
        | none=>rw [h2] at this; exact this.elim
        | some r'=>
          rw [h2] at this
          rw [semLoopA_some.mpr ⟨p,h2⟩]
          exact this
      | none=>
        cases h2 : semLoopA (fun e σ=>semK C call n b (keepA m e) σ) e' σ with
        | none=>trivial
        | some r'=>
          obtain ⟨p,hn⟩:=semLoopA_some.mp h2
          have:=step p e e' σ ha
          rw [hn] at this
          cases h3 : evLoop (semC C call b.forget) p e σ with
          | none=>rw [h3] at this; exact this.elim
          | some r=>rw [semLoop_some.mpr ⟨p,h3⟩] at h1; cases h1
     ·cases h
 | .exit m i,N,M,X,h,e,e',σ,ha=>by
   unfold live at h
   split at h
   ·rename_i hm
    cases h
    have g:=ha.keep
    rw [← hm] at g
    refine ⟨rfl,rfl,?_⟩
    exact g.left
   ·cases h
 | .ret m,N,M,X,h,e,e',σ,ha=>by
   unfold live at h
   split at h
   ·rename_i hm
    cases h
    have g:=ha.keep
    rw [← hm] at g
    refine ⟨rfl,rfl,?_⟩
    exact g.left
   ·cases h
 | .scope b,N,M,X,h,e,e',σ,ha=>by
   unfold live at h
   unfold KC.forget semC semK
   exact live_rel b N M X h e e' σ ha
 | .fail,N,M,X,h,e,e',σ,ha=>by unfold KC.forget semC semK; trivial
def resL (A : As) (σ : St) : List XR → Option (List AV)
 | []=>some []
 | .tmp t :: l=>match resL A σ l with
   | some vs=>some (look A t :: vs)
   | none=>none
 | .cell t ag sz :: l=>match look A t,resL A σ l with
   | .ref o off,some vs=>match σ[o]? with
     | some (.cells c _)=>match pt ag sz (c.drop off) with
       | some v=>some (v :: vs)
       | none=>none
     | _=>none
   | _,_=>none
theorem resA_L {n : Nat} {σ : St} {e : Env} {A : As} : ∀ (l : List XR),Ag n (resMask l) e A → resA e σ l = resL A σ l
 | [],_=>rfl
 | .tmp t :: l,h=>by
   unfold resA resL
   rw [resA_L l h.right,h.left.at' t (by rw [testBit_bit]; simp)]
   cases resL A σ l <;> rfl
 | .cell t ag sz :: l,h=>by
   unfold resA resL
   rw [resA_L l h.right,h.left.at' t (by rw [testBit_bit]; simp)]
   cases look A t <;> rfl
def argsA : Nat → List AV → As
 | _,[]=>[]
 | i,v :: l=>(i,v) :: argsA (i + 1) l
theorem look_args : ∀ (l : List AV) (i t : Nat),look (argsA i l) t = if t < i then .undef else l.getD (t - i) .undef
 | [],i,t=>by unfold argsA look; split <;> simp
 | v :: l,i,t=>by
   unfold argsA look
   rw [look_args l (i + 1) t]
   by_cases h : i = t
   ·subst h; simp
   ·rw [if_neg h]
    by_cases h' : t < i
    ·rw [if_pos (by omega),if_pos h']
    ·rw [if_neg (by omega),if_neg h']
     rw [show t - i = (t - (i + 1)) + 1 by omega,List.getD_cons_succ]
theorem ag_args (m : Nat) (n : Nat) (args : List AV) (h : args.length ≤ n) : Ag n m (args ++ List.replicate (n - args.length) .undef) (argsA 0 args):=by
 refine ⟨by simp; omega,?_⟩
 intro t _
 rw [look_args,if_neg (by omega),Nat.sub_zero]
 rw [List.getD_eq_getElem?_getD,List.getD_eq_getElem?_getD]
 by_cases ht : t < args.length
 ·rw [List.getElem?_append_left ht]
 ·rw [List.getElem?_append_right (by omega),List.getElem?_eq_none (by omega : args.length ≤ t),List.getElem?_replicate]
  split <;> rfl
noncomputable def runK (C : Ctx) (K : KF) (raw : Bool) (args : List AV) (σ : St) : Option (AV × St):=
 match hand raw args σ with
 | none=>none
 | some (args,σ1)=>
   if args.length > K.ntmps then none else
   match semK C (semF C) K.ntmps K.body (argsA 0 args) σ1 with
   | some (.exit _,_,_)=>none
   | none=>none
   | some (_,e,σ2)=>
     match resL e σ2 K.results with
     | none=>none
     | some vs=>match hand raw vs σ2 with
       | none=>none
       | some (vs,σ3)=>some (tupleOf vs,tidy σ.length vs σ3)
structure Has (C : Ctx) (f : FuncId) (K : KF) : Prop where
 fs : C.fs f = some K.forget
 prim : C.prim f = none
 raw : C.raw f = false
 ok : K.ok = true
theorem semF_K {C : Ctx} {f : FuncId} {K : KF} {raw : Bool} (hfs : C.fs f = some K.forget) (hp : C.prim f = none) (hr : C.raw f = raw) (hok : K.ok = true) (args : List AV) (σ : St) :
  semF C f args σ = runK C K raw args σ:=by
 rw [semF_eq]
 unfold funF runK
 rw [hp,hfs,hr]
 dsimp only [KF.forget]
 cases hand raw args σ with
 | none=>rfl
 | some q=>
   obtain ⟨args,σ1⟩:=q
   dsimp only
   split
   ·rfl
   ·rename_i hlen
    unfold KF.ok at hok
    obtain ⟨M,hM⟩:=Option.isSome_iff_exists.mp hok
    have:=live_rel (C:=C) (call:=semF C) K.body _ M _ hM (args ++ List.replicate (K.ntmps - args.length) .undef) _ σ1 (ag_args M K.ntmps args (by omega))
    revert this
    cases semC C (semF C) K.body.forget (args ++ List.replicate (K.ntmps - args.length) .undef) σ1 <;> cases semK C (semF C) K.ntmps K.body (argsA 0 args) σ1
    ·intro _; rfl
    ·intro h; exact h.elim
    ·intro h; exact h.elim
    ·rename_i r r'
     obtain ⟨x,e,τ⟩:=r
     obtain ⟨x',e',τ'⟩:=r'
     rintro ⟨h1,h2,h3⟩
     subst h1 h2
     cases x with
     | exit i=>rfl
     | normal=>
       dsimp only
       rw [resA_L (σ:=τ) K.results h3]
       all_goals
        cases resL e' τ K.results with
        | none=>rfl
        | some vs=>dsimp only; cases hand raw vs τ <;> rfl
     | ret=>
       dsimp only
       rw [resA_L (σ:=τ) K.results h3]
       all_goals
        cases resL e' τ K.results with
        | none=>rfl
        | some vs=>dsimp only; cases hand raw vs τ <;> rfl
theorem Has.run {C : Ctx} {f : FuncId} {K : KF} (h : Has C f K) (args : List AV) (σ : St) : semF C f args σ = runK C K false args σ:=
 semF_K h.fs h.prim h.raw h.ok args σ
end Go.Ev
namespace Go.Ev
def o (d : Nat) (i : XI) : XOp:=⟨some d,i,none,[]⟩
def u (i : XI) : XOp:=⟨none,i,none,[]⟩
def og (d : Nat) (t : Nat) (b : Bool) (i : XI) : XOp:=⟨some d,i,some (t,b),[]⟩
def ug (t : Nat) (b : Bool) (i : XI) : XOp:=⟨none,i,some (t,b),[]⟩
def m (d s : Nat) : XOp:=⟨some d,.mv (.t s),none,[]⟩
def out (call : CallO) (d : Option Nat) (e : As) (x : Option Out) (k : As → St → Option (As × St)) : Option (As × St):=
 match x with
 | some (.val v σ')=>k (putL e d v) σ'
 | some (.call f args σ')=>match call f args σ' with
   | some (v,σ'')=>k (putL e d v) σ''
   | none=>none
 | none=>none
theorem look_nil (t : Nat) : look [] t = .undef:=rfl
theorem look_cons (k : Nat) (v : AV) (A : As) (t : Nat) : look ((k,v) :: A) t = if k = t then v else look A t:=rfl
theorem keep_nil (A : As) : keepA [] A = []:=rfl
theorem keep_cons (t : Nat) (k : List Nat) (A : As) : keepA (t :: k) A = (t,look A t) :: keepA k A:=rfl
theorem args_nil (i : Nat) : argsA i [] = []:=rfl
theorem args_cons (i : Nat) (v : AV) (l : List AV) : argsA i (v :: l) = (i,v) :: argsA (i + 1) l:=rfl
def i2iA (k : IntKind) (v : AV) (σ : St) : Option Out:=
 match v with
 | .int _ n=>some (.val (.int k (k.wrap n)) σ)
 | _=>none
theorem i2i_int (k j : IntKind) (n : Int) (σ : St) : i2iA k (.int j n) σ = some (.val (.int k (k.wrap n)) σ):=rfl
theorem ix_mv (C : Ctx) (a : XA → AV) (n0 : Nat) (σ : St) (x : XA) : evIX C a n0 σ (.mv x) = some (.val (a x) σ):=rfl
theorem ix_pick (C : Ctx) (a : XA → AV) (n0 : Nat) (σ : St) (c : XA) (x : XA) (y : XA) : evIX C a n0 σ (.pick c x y) = match a c with
  | .bool b=>some (.val (if b then a x else a y) σ)
  | _=>none:=rfl
theorem ix_new (C : Ctx) (a : XA → AV) (n0 : Nat) (σ : St) (z : List AV) (ty : Option (TypeId × Bool)) : evIX C a n0 σ (.new z ty) = some (.val (.ref σ.length 0) (σ ++ [.cells z ⟨false,ty⟩])):=rfl
theorem ix_box (C : Ctx) (a : XA → AV) (n0 : Nat) (σ : St) (x : XA) : evIX C a n0 σ (.box x) = some (.val (.ref σ.length 0) (σ ++ [.cells (a x).cells ⟨false,none⟩])):=rfl
theorem ix_build (C : Ctx) (a : XA → AV) (n0 : Nat) (σ : St) (z : List AV) (ps : List (Nat × Nat × XA)) : evIX C a n0 σ (.build z ps) = match fillA z (ps.map fun (o,s,x)=>(o,s,a x)) with
  | some l=>some (.val (.agg l) σ)
  | none=>none:=rfl
theorem ix_buildSl (C : Ctx) (a : XA → AV) (n0 : Nat) (σ : St) (z : List AV) (n : Nat) (sz : Nat) (ps : List (Nat × Nat × XA)) : evIX C a n0 σ (.buildSl z n sz ps) = match fillA (rep z n) (ps.map fun (o,s,x)=>(o,s,a x)) with
  | some l=>if l.length = n * sz then some (outSl (asObj z) n sz l σ) else none
  | none=>none:=rfl
theorem ix_load (C : Ctx) (a : XA → AV) (n0 : Nat) (σ : St) (ag : Bool) (sz : Nat) (x : XA) : evIX C a n0 σ (.load ag sz x) = match a x with
  | .eptr l=>(pt ag sz l).map (.val · σ)
  | .ref o off=>match σ[o]? with
    | some (.cells l _)=>(pt ag sz (l.drop off)).map (.val · σ)
    | _=>none
  | _=>none:=rfl
theorem ix_store (C : Ctx) (a : XA → AV) (n0 : Nat) (σ : St) (sz : Nat) (p : XA) (x : XA) : evIX C a n0 σ (.store sz p x) = match a p with
  | .ref o off=>match σ[o]? with
    | some (.cells l ⟨false,t⟩)=>
      let cs:=(a x).cells
      if cs.length = sz ∧ off + sz ≤ l.length ∧ cs.all AV.flat then some (.val .undef (σ.set o (.cells (splice l off cs) ⟨false,t⟩))) else none
    | _=>none
  | _=>none:=rfl
theorem ix_nilck (C : Ctx) (a : XA → AV) (n0 : Nat) (σ : St) (x : XA) : evIX C a n0 σ (.nilck x) = match a x with
  | .ref o f=>some (.val (.ref o f) σ)
  | .eptr l=>some (.val (.eptr l) σ)
  | .iface t v=>some (.val (.iface t v) σ)
  | .func (.func f) x y=>some (.val (.func (.func f) x y) σ)
  | _=>none:=rfl
theorem ix_bin (C : Ctx) (a : XA → AV) (n0 : Nat) (σ : St) (op : BinOp) (ek : Nat) (cst : Bool) (x : XA) (y : XA) : evIX C a n0 σ (.bin op ek cst x y) = (binC C.np op ek cst (a x) (a y)).map (.val · σ):=rfl
theorem bc_bool (np : Bool) (op : BinOp) (ek : Nat) (c : Bool) (b : Bool) (y : AV) : binC np op ek c (.bool b) y = binOp op ek c (.bool b) y:=by cases np <;> rfl
theorem bc_int (np : Bool) (op : BinOp) (ek : Nat) (c : Bool) (k : IntKind) (b : Int) (y : AV) : binC np op ek c (.int k b) y = binOp op ek c (.int k b) y:=by cases np <;> rfl
theorem bc_str (np : Bool) (op : BinOp) (ek : Nat) (c : Bool) (s : List UInt8) (y : AV) : binC np op ek c (.str s) y = binOp op ek c (.str s) y:=by cases np <;> rfl
theorem bc_nilp (np : Bool) (op : BinOp) (ek : Nat) (c : Bool) (y : AV) : binC np op ek c .nilp y = binOp op ek c .nilp y:=by cases np <;> rfl
theorem bc_ref (np : Bool) (op : BinOp) (ek : Nat) (c : Bool) (a b : Nat) (y : AV) : binC np op ek c (.ref a b) y = binOp op ek c (.ref a b) y:=by cases np <;> rfl
theorem bc_eptr (np : Bool) (op : BinOp) (ek : Nat) (c : Bool) (l : List AV) : binC np op ek c (.eptr l) .nilp = binOp op ek c (.eptr l) .nilp:=by cases np <;> rfl
theorem bc_nils (np : Bool) (op : BinOp) (ek : Nat) (c : Bool) (y : AV) : binC np op ek c .nils y = binOp op ek c .nils y:=by cases np <;> rfl
theorem bc_emp (np : Bool) (op : BinOp) (ek : Nat) (c : Bool) (y : AV) : binC np op ek c .emp y = binOp op ek c .emp y:=by cases np <;> rfl
theorem bc_sl (np : Bool) (op : BinOp) (ek : Nat) (c : Bool) (i : Nat) (l : List AV) (y : AV) : binC np op ek c (.sl i l) y = binOp op ek c (.sl i l) y:=by cases np <;> rfl
theorem bc_xsl (np : Bool) (op : BinOp) (ek : Nat) (c : Bool) (i : Nat) (l : List AV) (y : AV) : binC np op ek c (.xsl i l) y = binOp op ek c (.xsl i l) y:=by cases np <;> rfl
theorem bc_msl (np : Bool) (op : BinOp) (ek : Nat) (c : Bool) (i j p q : Nat) (y : AV) : binC np op ek c (.msl i j p q) y = binOp op ek c (.msl i j p q) y:=by cases np <;> rfl
theorem bc_map (np : Bool) (op : BinOp) (ek : Nat) (c : Bool) (i : Nat) (y : AV) : binC np op ek c (.map i) y = binOp op ek c (.map i) y:=by cases np <;> rfl
theorem bc_nilMap (np : Bool) (op : BinOp) (ek : Nat) (c : Bool) (y : AV) : binC np op ek c .nilMap y = binOp op ek c .nilMap y:=by cases np <;> rfl
theorem bc_func (np : Bool) (op : BinOp) (ek : Nat) (c : Bool) (f : Fn) (l r : List AV) (y : AV) : binC np op ek c (.func f l r) y = binOp op ek c (.func f l r) y:=by cases np <;> rfl
theorem bc_nilFunc (np : Bool) (op : BinOp) (ek : Nat) (c : Bool) (y : AV) : binC np op ek c .nilFunc y = binOp op ek c .nilFunc y:=by cases np <;> rfl
theorem bc_iface (np : Bool) (op : BinOp) (ek : Nat) (c : Bool) (t : TypeId) (v : AV) (y : AV) : binC np op ek c (.iface t v) y = binOp op ek c (.iface t v) y:=by cases np <;> rfl
theorem bc_nilIface (np : Bool) (op : BinOp) (ek : Nat) (c : Bool) (y : AV) : binC np op ek c .nilIface y = binOp op ek c .nilIface y:=by cases np <;> rfl
theorem bc_agg (np : Bool) (op : BinOp) (ek : Nat) (c : Bool) (l : List AV) (y : AV) : binC np op ek c (.agg l) y = binOp op ek c (.agg l) y:=by cases np <;> rfl
theorem ix_un (C : Ctx) (a : XA → AV) (n0 : Nat) (σ : St) (op : UnOp) (x : XA) : evIX C a n0 σ (.un op x) = (unOp op (a x)).map (.val · σ):=rfl
theorem ix_i2i (C : Ctx) (a : XA → AV) (n0 : Nat) (σ : St) (k : IntKind) (x : XA) : evIX C a n0 σ (.i2i k x) = i2iA k (a x) σ:=rfl
theorem ix_s2s (C : Ctx) (a : XA → AV) (n0 : Nat) (σ : St) (x : XA) : evIX C a n0 σ (.s2s x) = match a x with
  | .str s=>some (.val (.str s) σ)
  | _=>none:=rfl
theorem ix_i2s (C : Ctx) (a : XA → AV) (n0 : Nat) (σ : St) (x : XA) : evIX C a n0 σ (.i2s x) = match a x with
  | .int _ n=>some (.val (.str (Utf8.encode n).data.toList) σ)
  | _=>none:=rfl
theorem ix_b2s (C : Ctx) (a : XA → AV) (n0 : Nat) (σ : St) (x : XA) : evIX C a n0 σ (.b2s x) = match slCells σ 1 (a x) with
  | some (_,l)=>(bytesOf l).map fun s=>.val (.str s) σ
  | none=>none:=rfl
theorem ix_s2b (C : Ctx) (a : XA → AV) (n0 : Nat) (σ : St) (x : XA) : evIX C a n0 σ (.s2b x) = match a x with
  | .str s=>some (.val (.sl s.length (ofBytes s)) σ)
  | _=>none:=rfl
theorem ix_mkIface (C : Ctx) (a : XA → AV) (n0 : Nat) (σ : St) (t : TypeId) (x : XA) : evIX C a n0 σ (.mkIface t x) = some (.val (.iface t (a x)) σ):=rfl
theorem ix_mkFunc (C : Ctx) (a : XA → AV) (n0 : Nat) (σ : St) (fn : Fn) (first : List XA) (captured : List XA) : evIX C a n0 σ (.mkFunc fn first captured) = some (.val (.func fn (first.map a) (captured.map a)) σ):=rfl
theorem ix_mkMap (C : Ctx) (a : XA → AV) (n0 : Nat) (σ : St)  : evIX C a n0 σ .mkMap = some (.val (.map σ.length) (σ ++ [.map []])):=rfl
theorem ix_mkSlice (C : Ctx) (a : XA → AV) (n0 : Nat) (σ : St) (z : List AV) (sz : Nat) (bytes : Nat) (l : XA) (c : XA) : evIX C a n0 σ (.mkSlice z sz bytes l c) = match a l,a c with
  | .int _ l,.int _ c=>
    if 0 ≤ l ∧ l ≤ c ∧ c ≤ 9223372036854775807 ∧ bytes * c ≤ 140737488355328 then
     some (.val (.msl σ.length 0 l.toNat sz) (σ ++ [.cells (rep z l.toNat) ⟨false,none⟩]))
    else none
  | _,_=>none:=rfl
theorem ix_sliceStr (C : Ctx) (a : XA → AV) (n0 : Nat) (σ : St) (x : XA) (lo : Option XA) (hi : Option XA) : evIX C a n0 σ (.sliceStr x lo hi) = match a x with
  | .str s=>match optNat 0 (lo.map a),optNat s.length (hi.map a) with
    | some l,some h=>if l ≤ h ∧ h ≤ s.length then some (.val (.str ((s.take h).drop l)) σ) else none
    | _,_=>none
  | _=>none:=rfl
theorem ix_sliceSl (C : Ctx) (a : XA → AV) (n0 : Nat) (σ : St) (sz : Nat) (x : XA) (lo : Option XA) (hi : Option XA) (mx : Option XA) : evIX C a n0 σ (.sliceSl sz x lo hi mx) =
  match a x with
  | .nils=>match optNat 0 (lo.map a),optNat 0 (hi.map a),mx with
    | some 0,some 0,none=>some (.val .nils σ)
    | _,_,_=>none
  | .xsl n l=>match optNat 0 (lo.map a),optNat n (hi.map a),mx with
    | some lo,some hi,none=>
      if lo ≤ hi ∧ hi ≤ n ∧ l.length = n * sz then some (.val (.sl (hi - lo) ((l.take (hi * sz)).drop (lo * sz))) σ) else none
    | _,_,_=>none
  | .sl n l=>match optNat 0 (lo.map a),optNat n (hi.map a),mx with
    | some lo,some hi,none=>
      if lo ≤ hi ∧ hi ≤ n ∧ l.length = n * sz then
       some (.val (.sl (hi - lo) ((l.take (hi * sz)).drop (lo * sz))) σ)
      else none
    | _,_,_=>none
  | .msl o off n s=>match optNat 0 (lo.map a),optNat n (hi.map a),mx with
    | some lo,some hi,none=>
      if lo ≤ hi ∧ hi ≤ n ∧ s = sz then
       some (.val (if lo = hi ∧ lo ≠ 0 then .emp else .msl o (off + lo * sz) (hi - lo) sz) σ)
      else none
    | _,_,_=>none
  | _=>none:=rfl
theorem ix_sliceArr (C : Ctx) (a : XA → AV) (n0 : Nat) (σ : St) (len : Nat) (sz : Nat) (x : XA) (lo : Option XA) (hi : Option XA) (mx : Option XA) : evIX C a n0 σ (.sliceArr len sz x lo hi mx) = match a x with
  | .ref o off=>match σ[o]? with
    | some (.cells l _)=>match optNat 0 (lo.map a),optNat len (hi.map a),mx with
      | some lo,some hi,none=>if lo ≤ hi ∧ hi ≤ len ∧ off + len * sz ≤ l.length then some (.val (if lo = hi then .emp else .msl o (off + lo * sz) (hi - lo) sz) σ) else none
      | _,_,_=>none
    | _=>none
  | _=>none:=rfl
theorem ix_fieldAddr (C : Ctx) (a : XA → AV) (n0 : Nat) (σ : St) (off : Nat) (x : XA) : evIX C a n0 σ (.fieldAddr off x) = match a x with
  | .ref o f=>some (.val (.ref o (f + off)) σ)
  | .eptr l=>if off ≤ l.length then some (.val (.eptr (l.drop off)) σ) else none
  | _=>none:=rfl
theorem ix_field (C : Ctx) (a : XA → AV) (n0 : Nat) (σ : St) (ag : Bool) (off : Nat) (sz : Nat) (x : XA) : evIX C a n0 σ (.field ag off sz x) = match a x with
  | .agg l=>(pt ag sz (l.drop off)).map (.val · σ)
  | _=>none:=rfl
theorem ix_idxAddrArr (C : Ctx) (a : XA → AV) (n0 : Nat) (σ : St) (len : Nat) (sz : Nat) (x : XA) (i : XA) : evIX C a n0 σ (.idxAddrArr len sz x i) = match asNat (a i),a x with
  | some i,.ref o f=>if i < len then some (.val (.ref o (f + i * sz)) σ) else none
  | some i,.eptr l=>if i < len ∧ i * sz ≤ l.length then some (.val (.eptr (l.drop (i * sz))) σ) else none
  | _,_=>none:=rfl
theorem ix_idxAddrSl (C : Ctx) (a : XA → AV) (n0 : Nat) (σ : St) (sz : Nat) (x : XA) (i : XA) : evIX C a n0 σ (.idxAddrSl sz x i) = match asNat (a i),a x with
  | some i,.sl n l=>if i < n ∧ l.length = n * sz then some (.val (.eptr (l.drop (i * sz))) σ) else none
  | some i,.xsl n l=>if i < n ∧ l.length = n * sz then some (.val (.eptr (l.drop (i * sz))) σ) else none
  | some i,.msl o off n s=>if i < n ∧ s = sz then some (.val (.ref o (off + i * sz)) σ) else none
  | _,_=>none:=rfl
theorem ix_idxArr (C : Ctx) (a : XA → AV) (n0 : Nat) (σ : St) (len : Nat) (ag : Bool) (sz : Nat) (x : XA) (i : XA) : evIX C a n0 σ (.idxArr len ag sz x i) = match asNat (a i),a x with
  | some i,.agg l=>if i < len then (pt ag sz (l.drop (i * sz))).map (.val · σ) else none
  | _,_=>none:=rfl
theorem ix_idxStr (C : Ctx) (a : XA → AV) (n0 : Nat) (σ : St) (x : XA) (i : XA) : evIX C a n0 σ (.idxStr x i) = match asNat (a i),a x with
  | some i,.str s=>match s[i]? with
    | some b=>some (.val (.int .u8 b.toNat) σ)
    | none=>none
  | _,_=>none:=rfl
theorem ix_lookup (C : Ctx) (a : XA → AV) (n0 : Nat) (σ : St) (z : AV) (m : XA) (k : XA) (ok : Bool) : evIX C a n0 σ (.lookup z m k ok) =
  match mapOf σ (a m) with
  | some es=>match findA (a k) es 0 with
    | some (some (_,v))=>some (.val (if ok then .tup [v,.bool true] else v) σ)
    | some none=>some (.val (if ok then .tup [z,.bool false] else z) σ)
    | none=>none
  | none=>none:=rfl
theorem ix_mapUpd (C : Ctx) (a : XA → AV) (n0 : Nat) (σ : St) (m : XA) (k : XA) (v : XA) : evIX C a n0 σ (.mapUpd m k v) = match a m with
  | .map r=>match σ[r]? with
    | some (.map es)=>match a k with
      | .str s=>match findA (.str s) es 0 with
        | some (some (i,_))=>some (.val .undef (σ.set r (.map (es.set i (.str s,a v)))))
        | some none=>some (.val .undef (σ.set r (.map (es ++ [(.str s,a v)]))))
        | none=>none
      | _=>none
    | _=>none
  | _=>none:=rfl
theorem ix_mapEntry (C : Ctx) (a : XA → AV) (n0 : Nat) (σ : St) (z : AV) (m : XA) (k : XA) : evIX C a n0 σ (.mapEntry z m k) = match a m with
  | .map r=>match σ[r]? with
    | some (.map es)=>match a k with
      | .str s=>match findA (.str s) es 0 with
        | some (some (i,v))=>some (.val (.tup [v,.int .i64 i]) σ)
        | some none=>some (.val (.tup [z,.int .i64 es.length]) (σ.set r (.map (es ++ [(.str s,z)]))))
        | none=>none
      | _=>none
    | _=>none
  | _=>none:=rfl
theorem ix_entryStore (C : Ctx) (a : XA → AV) (n0 : Nat) (σ : St) (m : XA) (s : XA) (v : XA) : evIX C a n0 σ (.entryStore m s v) = match a m,asNat (a s) with
  | .map r,some i=>match σ[r]? with
    | some (.map es)=>match es[i]? with
      | some (k,_)=>some (.val .undef (σ.set r (.map (es.set i (k,a v)))))
      | none=>none
    | _=>none
  | _,_=>none:=rfl
theorem ix_extract (C : Ctx) (a : XA → AV) (n0 : Nat) (σ : St) (x : XA) (i : Nat) : evIX C a n0 σ (.extract x i) = match a x with
  | .tup l=>match l[i]? with
    | some v=>some (.val v σ)
    | none=>none
  | _=>none:=rfl
theorem ix_app (C : Ctx) (a : XA → AV) (n0 : Nat) (σ : St) (str : Bool) (sz : Nat) (bytes : Nat) (ty : Option (TypeId × Bool)) (s : XA) (x : XA) : evIX C a n0 σ (.app str sz bytes ty s x) =
  match srcCells σ sz (a x) with
  | some (m,cs)=>
    if isStr (a x) != str || !cs.all AV.flat then none else
    match appA σ sz bytes ty (a s) m cs with
    | some (v,σ')=>some (.val v σ')
    | none=>none
  | none=>none:=rfl
theorem ix_len (C : Ctx) (a : XA → AV) (n0 : Nat) (σ : St) (k : Nat) (x : XA) : evIX C a n0 σ (.len k x) = match lenA σ k (a x) with
  | some n=>some (.val (.int .i64 (n : Int)) σ)
  | none=>none:=by
 show Option.map _ _ = _
 cases lenA σ k (a x) <;> rfl
theorem ix_lenC (C : Ctx) (a : XA → AV) (n0 : Nat) (σ : St) (n : Nat) : evIX C a n0 σ (.lenC n) = some (.val (.int .i64 n) σ):=rfl
theorem ix_cpy (C : Ctx) (a : XA → AV) (n0 : Nat) (σ : St) (sz : Nat) (d : XA) (s : XA) : evIX C a n0 σ (.cpy sz d s) =
  match srcCells σ sz (a s),a d with
  | some (m,cs),.msl o off n s=>match σ[o]? with
    | some (.cells l ⟨false,t⟩)=>
      let k:=min m n
      if s = sz ∧ off + k * sz ≤ l.length ∧ cs.all AV.flat then
       some (.val (.int .i64 k) (σ.set o (.cells (splice l off (cs.take (k * sz))) ⟨false,t⟩)))
      else none
    | _=>none
  | _,_=>none:=rfl
theorem ix_minmax (C : Ctx) (a : XA → AV) (n0 : Nat) (σ : St) (mx : Bool) (x : XA) (y : XA) : evIX C a n0 σ (.minmax mx x y) = (minmaxA mx (a x) (a y)).map (.val · σ):=rfl
theorem ix_callF (C : Ctx) (a : XA → AV) (n0 : Nat) (σ : St) (f : FuncId) (args : List XA) : evIX C a n0 σ (.callF f args) = some (.call f (args.map a) σ):=rfl
theorem ix_callV (C : Ctx) (a : XA → AV) (n0 : Nat) (σ : St) (f : XA) (args : List XA) : evIX C a n0 σ (.callV f args) = callVal C (a f) (args.map a) σ:=rfl
theorem ix_invoke (C : Ctx) (a : XA → AV) (n0 : Nat) (σ : St) (x : XA) (m : String) (args : List XA) : evIX C a n0 σ (.invoke x m args) = match a x with
  | .iface t v=>match methodOf C.P t v m with
    | some (f,r)=>some (.call f (r :: args.map a) σ)
    | none=>none
  | _=>none:=rfl
theorem ix_pend (C : Ctx) (a : XA → AV) (n0 : Nat) (σ : St)  : evIX C a n0 σ .pend = some (.val .undef σ):=rfl
theorem ix_fill (C : Ctx) (a : XA → AV) (n0 : Nat) (σ : St) (z0 : Nat) (d : Nat) (sz : Nat) (x : XA) : evIX C a n0 σ (.fill z0 d sz x) =
  let cs:=(a x).cells
  if d < n0 ∧ cs.length = sz ∧ cs.all AV.flat then some (.val (.ref σ.length 0) (σ ++ [.cells cs ⟨false,none⟩])) else none:=rfl
theorem ix_fail (C : Ctx) (a : XA → AV) (n0 : Nat) (σ : St)  : evIX C a n0 σ .fail = none:=rfl
variable (C : Ctx) (call : CallO) (n : Nat)
theorem av_t (e : As) (t : Nat) : avA C e (.t t) = look e t:=rfl
theorem av_c (e : As) (v : AV) : avA C e (.c v) = v:=rfl
theorem av_g (e : As) (n : Nat) : avA C e (.g n) = .eptr ((C.gl n).getD []):=rfl
theorem out_val (d : Nat) (e : As) (v : AV) (σ : St) (k) : out call (some d) e (some (.val v σ)) k = k ((d,v) :: e) σ:=rfl
theorem out_valn (e : As) (v : AV) (σ : St) (k) : out call none e (some (.val v σ)) k = k e σ:=rfl
theorem out_none (d : Option Nat) (e : As) (k) : out call d e none k = none:=rfl
theorem evOps_nil (e : As) (σ : St) : evOpsA C call n [] e σ = some (e,σ):=rfl
theorem evOps_o (d : Nat) (i : XI) (l : List XOp) (e : As) (σ : St) : evOpsA C call n (o d i :: l) e σ = out call (some d) e (evIX C (avA C e) n σ i) (evOpsA C call n l):=by
 show (match evOpA C call n (o d i) e σ with | some (v,σ')=>evOpsA C call n l (putL e (some d) v) σ' | none=>none) = _
 unfold evOpA wantA out o
 dsimp only
 cases evIX C (avA C e) n σ i with
 | none=>rfl
 | some x=>cases x <;> rfl
theorem evOps_u (i : XI) (l : List XOp) (e : As) (σ : St) : evOpsA C call n (u i :: l) e σ = out call none e (evIX C (avA C e) n σ i) (evOpsA C call n l):=by
 show (match evOpA C call n (u i) e σ with | some (v,σ')=>evOpsA C call n l (putL e none v) σ' | none=>none) = _
 unfold evOpA wantA out u
 dsimp only
 cases evIX C (avA C e) n σ i with
 | none=>rfl
 | some x=>cases x <;> rfl
theorem evOps_m (d s : Nat) (l : List XOp) (e : As) (σ : St) : evOpsA C call n (m d s :: l) e σ = evOpsA C call n l ((d,look e s) :: e) σ:=rfl
theorem boolIs_true (c : Bool) : boolIs true (.bool c) = c:=by cases c <;> rfl
theorem boolIs_false (c : Bool) : boolIs false (.bool c) = !c:=by cases c <;> rfl
theorem evOps_og (d t : Nat) (b : Bool) (i : XI) (l : List XOp) (e : As) (σ : St) : evOpsA C call n (og d t b i :: l) e σ = if boolIs b (look e t) then out call (some d) e (evIX C (avA C e) n σ i) (evOpsA C call n l) else evOpsA C call n l ((d,.undef) :: e) σ:=by
 show (match evOpA C call n (og d t b i) e σ with | some (v,σ')=>evOpsA C call n l (putL e (some d) v) σ' | none=>none) = _
 unfold evOpA wantA out og
 dsimp only
 by_cases hb : boolIs b (look e t) = true
 ·rw [if_pos hb,if_pos hb]
  cases evIX C (avA C e) n σ i with
  | none=>rfl
  | some x=>cases x <;> rfl
 ·rw [if_neg hb,if_neg hb]
  rfl
theorem evOps_ug (t : Nat) (b : Bool) (i : XI) (l : List XOp) (e : As) (σ : St) : evOpsA C call n (ug t b i :: l) e σ = if boolIs b (look e t) then out call none e (evIX C (avA C e) n σ i) (evOpsA C call n l) else evOpsA C call n l e σ:=by
 show (match evOpA C call n (ug t b i) e σ with | some (v,σ')=>evOpsA C call n l (putL e none v) σ' | none=>none) = _
 unfold evOpA wantA out ug
 dsimp only
 by_cases hb : boolIs b (look e t) = true
 ·rw [if_pos hb,if_pos hb]
  cases evIX C (avA C e) n σ i with
  | none=>rfl
  | some x=>cases x <;> rfl
 ·rw [if_neg hb,if_neg hb]
  rfl
theorem resL_tmp (e : As) (σ : St) (t : Nat) (l : List XR) : resL e σ (.tmp t :: l) = match resL e σ l with
  | some vs=>some (look e t :: vs)
  | none=>none:=rfl
theorem resL_nil (e : As) (σ : St) : resL e σ [] = some []:=rfl
theorem keep_idem (k : List Nat) (e : As) : keepA k (keepA k e) = keepA k e:=by
 unfold keepA
 apply List.map_congr_left
 intro t ht
 exact congrArg (Prod.mk t) (look_keep k e t ht)
noncomputable def loopK (k : List Nat) (b : KC) (e : As) (σ : St) : Option (XE × As × St):=semLoopA (fun e σ=>semK C call n b (keepA k e) σ) e σ
theorem loopK_keep (k : List Nat) (b : KC) (e : As) (σ : St) : loopK C call n k b (keepA k e) σ = loopK C call n k b e σ:=by
 unfold loopK
 rw [semLoopA_eq,semLoopA_eq _ e,keep_idem]
theorem semK_loop (k : List Nat) (b : KC) (e : As) (σ : St) : semK C call n (.loop k b) e σ = loopK C call n k b (keepA k e) σ:=(loopK_keep C call n k b e σ).symm
theorem loopK_eq {k : List Nat} {b : KC} {e : As} (he : keepA k e = e) (σ : St) : loopK C call n k b e σ = match semK C call n b e σ with
  | some (.normal,e',σ')=>loopK C call n k b (keepA k e') σ'
  | r=>r:=by
 conv=>lhs; unfold loopK
 rw [semLoopA_eq,he]
 cases semK C call n b e σ with
 | none=>rfl
 | some r=>
   obtain ⟨x,e',σ'⟩:=r
   cases x with
   | normal=>exact (loopK_keep C call n k b e' σ').symm
   | exit i=>rfl
   | ret=>rfl
theorem semK_skip (e : As) (σ : St) : semK C call n .skip e σ = some (.normal,e,σ):=rfl
theorem semK_ops (l : List XOp) (e : As) (σ : St) : semK C call n (.ops l) e σ = match evOpsA C call n l e σ with
  | some (e',σ')=>some (.normal,e',σ')
  | none=>none:=rfl
theorem semK_plain (l : List XOp) (e : As) (σ : St) : semK C call n (.plain l) e σ = match evOpsA C call n l e σ with
  | some (e',σ')=>some (.normal,e',σ')
  | none=>none:=rfl
theorem semK_drawn (l : List XOp) (e : As) (σ : St) : semK C call n (.drawn l) e σ = match evDrawnA C call n l e σ with
  | some (e',σ')=>some (.normal,e',σ')
  | none=>none:=rfl
theorem semK_seq (a b : KC) (e : As) (σ : St) : semK C call n (.seq a b) e σ = match semK C call n a e σ with
  | some (.normal,e',σ')=>semK C call n b e' σ'
  | r=>r:=rfl
theorem semK_cond (c : XA) (a b : KC) (e : As) (σ : St) : semK C call n (.cond c a b) e σ = match avA C e c with
  | .bool true=>semK C call n a e σ
  | .bool false=>semK C call n b e σ
  | _=>none:=rfl
theorem semK_block (id : Nat) (b : KC) (e : As) (σ : St) : semK C call n (.block id b) e σ = match semK C call n b e σ with
  | some (.exit i,e',σ')=>some (if i = id then .normal else .exit i,e',σ')
  | r=>r:=rfl
theorem semK_exit (k : List Nat) (id : Nat) (e : As) (σ : St) : semK C call n (.exit k id) e σ = some (.exit id,keepA k e,σ):=rfl
theorem semK_ret (k : List Nat) (e : As) (σ : St) : semK C call n (.ret k) e σ = some (.ret,keepA k e,σ):=rfl
theorem semK_scope (b : KC) (e : As) (σ : St) : semK C call n (.scope b) e σ = semK C call n b e σ:=rfl
theorem w64 {n : Int} (h : -9223372036854775808 ≤ n) (h' : n ≤ 9223372036854775807) : IntKind.i64.wrap n = n:=by rw [IntKind.wrap_i64]; omega
theorem tidy_same (σ : St) (vs : List AV) : tidy σ.length vs σ = σ:=by simp [tidy]
end Go.Ev
namespace Go.Ev
section
variable (ek : Nat) (c : Bool) (k k' : IntKind) (a b : Int)
theorem bin_add : binOp .add ek c (.int k a) (.int k b) = some (.int k (k.wrap (a + b))):=by simp [binOp,binInt]
theorem bin_sub : binOp .sub ek c (.int k a) (.int k b) = some (.int k (k.wrap (a - b))):=by simp [binOp,binInt]
theorem bin_mul : binOp .mul ek c (.int k a) (.int k b) = some (.int k (k.wrap (a * b))):=by simp [binOp,binInt]
theorem bin_and : binOp .and ek c (.int k a) (.int k b) = some (.int k (k.wrap (BitVec.ofInt k.bits a &&& BitVec.ofInt k.bits b).toNat)):=by simp [binOp,binInt]
theorem bin_or : binOp .or ek c (.int k a) (.int k b) = some (.int k (k.wrap (BitVec.ofInt k.bits a ||| BitVec.ofInt k.bits b).toNat)):=by simp [binOp,binInt]
theorem bin_xor : binOp .xor ek c (.int k a) (.int k b) = some (.int k (k.wrap (BitVec.ofInt k.bits a ^^^ BitVec.ofInt k.bits b).toNat)):=by simp [binOp,binInt]
theorem bin_andNot : binOp .andNot ek c (.int k a) (.int k b) = some (.int k (k.wrap (BitVec.ofInt k.bits a &&& ~~~(BitVec.ofInt k.bits b)).toNat)):=by simp [binOp,binInt]
theorem bin_eql : binOp .eql ek c (.int k a) (.int k b) = some (.bool (a == b)):=by simp [binOp,binInt]
theorem bin_neq : binOp .neq ek c (.int k a) (.int k b) = some (.bool (a != b)):=by simp [binOp,binInt]
theorem bin_lss : binOp .lss ek c (.int k a) (.int k b) = some (.bool (a < b)):=by simp [binOp,binInt]
theorem bin_leq : binOp .leq ek c (.int k a) (.int k b) = some (.bool (a ≤ b)):=by simp [binOp,binInt]
theorem bin_gtr : binOp .gtr ek c (.int k a) (.int k b) = some (.bool (a > b)):=by simp [binOp,binInt]
theorem bin_geq : binOp .geq ek c (.int k a) (.int k b) = some (.bool (a ≥ b)):=by simp [binOp,binInt]
theorem bin_quo : binOp .quo ek c (.int k a) (.int k b) = if b = 0 then none else some (.int k (k.wrap (a.tdiv b))):=by simp [binOp,binInt]
theorem bin_rem : binOp .rem ek c (.int k a) (.int k b) = if b = 0 then none else some (.int k (a.tmod b)):=by simp [binOp,binInt]
theorem bin_shl : binOp .shl ek c (.int k a) (.int k' b) = if b < 0 then none else some (.int k (k.wrap (a * 2 ^ min b.toNat k.bits))):=by simp [binOp,shiftInt]
theorem bin_shr : binOp .shr ek c (.int k a) (.int k' b) = if b < 0 then none else some (.int k (a.fdiv (2 ^ min b.toNat k.bits))):=by simp [binOp,shiftInt]
theorem bin_str (op : BinOp) (x y : List UInt8) : binOp op ek c (.str x) (.str y) = binStr op x y:=rfl
theorem bin_of_bool (op : BinOp) (q : Bool) (y : AV) : binOp op ek c (.bool q) y = eqOp op (eqA ek c (.bool q) y):=rfl
theorem bin_of_nilp (op : BinOp) (y : AV) : binOp op ek c .nilp y = eqOp op (eqA ek c .nilp y):=rfl
theorem bin_of_ref (op : BinOp) (i j : Nat) (y : AV) : binOp op ek c (.ref i j) y = eqOp op (eqA ek c (.ref i j) y):=rfl
theorem bin_of_eptr (op : BinOp) (l : List AV) (y : AV) : binOp op ek c (.eptr l) y = eqOp op (eqA ek c (.eptr l) y):=rfl
theorem bin_of_nils (op : BinOp) (y : AV) : binOp op ek c .nils y = eqOp op (eqA ek c .nils y):=rfl
theorem bin_of_emp (op : BinOp) (y : AV) : binOp op ek c .emp y = eqOp op (eqA ek c .emp y):=rfl
theorem bin_of_sl (op : BinOp) (i : Nat) (l : List AV) (y : AV) : binOp op ek c (.sl i l) y = eqOp op (eqA ek c (.sl i l) y):=rfl
theorem bin_of_xsl (op : BinOp) (i : Nat) (l : List AV) (y : AV) : binOp op ek c (.xsl i l) y = eqOp op (eqA ek c (.xsl i l) y):=rfl
theorem bin_of_msl (op : BinOp) (i j p q : Nat) (y : AV) : binOp op ek c (.msl i j p q) y = eqOp op (eqA ek c (.msl i j p q) y):=rfl
theorem bin_of_map (op : BinOp) (i : Nat) (y : AV) : binOp op ek c (.map i) y = eqOp op (eqA ek c (.map i) y):=rfl
theorem bin_of_nilMap (op : BinOp) (y : AV) : binOp op ek c .nilMap y = eqOp op (eqA ek c .nilMap y):=rfl
theorem bin_of_func (op : BinOp) (f : Fn) (l r : List AV) (y : AV) : binOp op ek c (.func f l r) y = eqOp op (eqA ek c (.func f l r) y):=rfl
theorem bin_of_nilFunc (op : BinOp) (y : AV) : binOp op ek c .nilFunc y = eqOp op (eqA ek c .nilFunc y):=rfl
theorem bin_of_iface (op : BinOp) (t : TypeId) (v : AV) (y : AV) : binOp op ek c (.iface t v) y = eqOp op (eqA ek c (.iface t v) y):=rfl
theorem bin_of_nilIface (op : BinOp) (y : AV) : binOp op ek c .nilIface y = eqOp op (eqA ek c .nilIface y):=rfl
theorem bin_of_agg (op : BinOp) (l : List AV) (y : AV) : binOp op ek c (.agg l) y = eqOp op (eqA ek c (.agg l) y):=rfl
end
theorem un_not (q : Bool) : unOp .not (.bool q) = some (.bool !q):=rfl
theorem un_neg (k : IntKind) (n : Int) : unOp .neg (.int k n) = some (.int k (k.wrap (0 - n))):=rfl
theorem cells_bool (q : Bool) : (AV.bool q).cells = [(AV.bool q)]:=rfl
theorem flat_bool (q : Bool) : (AV.bool q).flat = true:=rfl
theorem cells_int (k : IntKind) (n : Int) : (AV.int k n).cells = [(AV.int k n)]:=rfl
theorem flat_int (k : IntKind) (n : Int) : (AV.int k n).flat = true:=rfl
theorem cells_str (s : List UInt8) : (AV.str s).cells = [(AV.str s)]:=rfl
theorem flat_str (s : List UInt8) : (AV.str s).flat = true:=rfl
theorem cells_nilp : AV.nilp.cells = [AV.nilp]:=rfl
theorem flat_nilp : AV.nilp.flat = true:=rfl
theorem cells_ref (i j : Nat) : (AV.ref i j).cells = [(AV.ref i j)]:=rfl
theorem flat_ref (i j : Nat) : (AV.ref i j).flat = true:=rfl
theorem cells_eptr (l : List AV) : (AV.eptr l).cells = [(AV.eptr l)]:=rfl
theorem flat_eptr (l : List AV) : (AV.eptr l).flat = true:=rfl
theorem cells_nils : AV.nils.cells = [AV.nils]:=rfl
theorem flat_nils : AV.nils.flat = true:=rfl
theorem cells_emp : AV.emp.cells = [AV.emp]:=rfl
theorem flat_emp : AV.emp.flat = true:=rfl
theorem cells_sl (i : Nat) (l : List AV) : (AV.sl i l).cells = [(AV.sl i l)]:=rfl
theorem flat_sl (i : Nat) (l : List AV) : (AV.sl i l).flat = true:=rfl
theorem cells_xsl (i : Nat) (l : List AV) : (AV.xsl i l).cells = [(AV.xsl i l)]:=rfl
theorem flat_xsl (i : Nat) (l : List AV) : (AV.xsl i l).flat = true:=rfl
theorem cells_msl (i j p q : Nat) : (AV.msl i j p q).cells = [(AV.msl i j p q)]:=rfl
theorem flat_msl (i j p q : Nat) : (AV.msl i j p q).flat = true:=rfl
theorem cells_map (i : Nat) : (AV.map i).cells = [(AV.map i)]:=rfl
theorem flat_map (i : Nat) : (AV.map i).flat = true:=rfl
theorem cells_nilMap : AV.nilMap.cells = [AV.nilMap]:=rfl
theorem flat_nilMap : AV.nilMap.flat = true:=rfl
theorem cells_func (f : Fn) (l r : List AV) : (AV.func f l r).cells = [(AV.func f l r)]:=rfl
theorem flat_func (f : Fn) (l r : List AV) : (AV.func f l r).flat = true:=rfl
theorem cells_nilFunc : AV.nilFunc.cells = [AV.nilFunc]:=rfl
theorem flat_nilFunc : AV.nilFunc.flat = true:=rfl
theorem cells_iface (t : TypeId) (v : AV) : (AV.iface t v).cells = [(AV.iface t v)]:=rfl
theorem flat_iface (t : TypeId) (v : AV) : (AV.iface t v).flat = true:=rfl
theorem cells_nilIface : AV.nilIface.cells = [AV.nilIface]:=rfl
theorem flat_nilIface : AV.nilIface.flat = true:=rfl
theorem cells_agg (l : List AV) : (AV.agg l).cells = l:=rfl
theorem splice_zero (a x : AV) (l : List AV) : splice (a :: l) 0 [x] = x :: l:=rfl
theorem splice_succ (a : AV) (l v : List AV) (n : Nat) : splice (a :: l) (n + 1) v = a :: splice l n v:=by
 unfold splice
 rw [show n + 1 + v.length = (n + v.length) + 1 by omega,List.take_succ_cons,List.drop_succ_cons]
 rfl
def Ok (σ : St) : Prop:=σ.all (AO.below σ.length) = true
theorem tidy_app {σ : St} (hσ : Ok σ) {vs : List AV} (hv : belows σ.length vs = true) (l : St) : tidy σ.length vs (σ ++ l) = σ:=by
 unfold tidy
 split
 ·rename_i h
  rw [List.length_append] at h
  have : l = []:=List.eq_nil_of_length_eq_zero (by omega)
  rw [this,List.append_nil]
 ·have ht : (σ ++ l).take σ.length = σ:=by simp
  rw [ht,hv,hσ]
  rfl
mutual
theorem below_mono {n k : Nat} (h : n ≤ k) : ∀ v : AV,below n v = true → below k v = true
 | .ref o _,hv=>by simp [below] at hv ⊢; omega
 | .msl o _ _ _,hv=>by simp [below] at hv ⊢; omega
 | .map o,hv=>by simp [below] at hv ⊢; omega
 | .func _ x y,hv=>by simp only [below,Bool.and_eq_true] at hv ⊢; exact ⟨belows_mono h x hv.1,belows_mono h y hv.2⟩
 | .iface _ v,hv=>by simp only [below] at hv ⊢; exact below_mono h v hv
 | .agg l,hv=>by simp only [below] at hv ⊢; exact belows_mono h l hv
 | .tup l,hv=>by simp only [below] at hv ⊢; exact belows_mono h l hv
 | .eptr l,hv=>by simp only [below] at hv ⊢; exact belows_mono h l hv
 | .sl _ l,hv=>by simp only [below] at hv ⊢; exact belows_mono h l hv
 | .xsl _ l,hv=>by simp only [below] at hv ⊢; exact belows_mono h l hv
 | .bool _,_ | .int _ _,_ | .str _,_ | .nilp,_ | .nils,_ | .emp,_ | .nilMap,_ | .nilFunc,_ | .nilIface,_=>by simp [below]
theorem belows_mono {n k : Nat} (h : n ≤ k) : ∀ l : List AV,belows n l = true → belows k l = true
 | [],_=>by simp [belows]
 | v :: l,hv=>by simp only [belows,Bool.and_eq_true] at hv ⊢; exact ⟨below_mono h v hv.1,belows_mono h l hv.2⟩
end
theorem AO.below_mono {n k : Nat} (h : n ≤ k) : ∀ x : AO,AO.below n x = true → AO.below k x = true
 | .cells l _,hx=>belows_mono h l hx
 | .map es,hx=>by
   simp only [AO.below,Bool.and_eq_true] at hx ⊢
   exact ⟨belows_mono h _ hx.1,belows_mono h _ hx.2⟩
 | .dead,_=>rfl
theorem Ok.app {σ : St} (h : Ok σ) {l : St} (hl : l.all (AO.below (σ.length + l.length)) = true) : Ok (σ ++ l):=by
 unfold Ok
 rw [List.all_append,List.length_append,Bool.and_eq_true]
 refine ⟨?_,hl⟩
 rw [List.all_eq_true]
 intro x hx
 exact AO.below_mono (by omega) x (List.all_eq_true.mp h x hx)
theorem Ok.nil : Ok []:=rfl
def pile (σ : St) (k : Nat) (x : AO) : St:=σ ++ (List.replicate k .dead ++ [x])
theorem ofBytes_length (l : List UInt8) : (ofBytes l).length = l.length:=by simp [ofBytes]
theorem ofBytes_app (l r : List UInt8) : ofBytes l ++ ofBytes r = ofBytes (l ++ r):=by simp [ofBytes]
theorem bytesOf_of : ∀ l : List UInt8,bytesOf (ofBytes l) = some l
 | []=>rfl
 | b :: l=>by
   have:=bytesOf_of l
   unfold ofBytes at this ⊢
   rw [List.map_cons]
   unfold bytesOf byteOf?
   rw [this]
   simp
theorem ofBytes_flat (l : List UInt8) : (ofBytes l).all AV.flat = true:=by
 rw [List.all_eq_true]
 intro v hv
 unfold ofBytes at hv
 obtain ⟨b,_,rfl⟩:=List.mem_map.mp hv
 rfl
theorem belows_ofBytes (n : Nat) : ∀ l : List UInt8,belows n (ofBytes l) = true
 | []=>rfl
 | b :: l=>by
   have:=belows_ofBytes n l
   unfold ofBytes at this ⊢
   simp [belows,below,this]
def scal : AV → Bool
 | .bool _ | .int _ _ | .str _=>true
 | _=>false
end Go.Ev
namespace Go.Ev
set_option linter.unusedVariables false
noncomputable section
def bytesQ (x : List UInt8) : List UInt8 → Bool:=
 @List.rec _ (fun _=>List UInt8 → Bool) (fun y=>@List.rec _ (fun _=>Bool) true (fun _ _ _=>false) y)
  (fun a _ ih y=>@List.rec _ (fun _=>Bool) false (fun b t _=>@Bool.rec (fun _=>Bool) false (ih t) (Nat.beq a.toNat b.toNat)) y) x
theorem bytesQ_is : ∀ {x y : List UInt8},bytesQ x y = true → x = y
 | [],[],_=>rfl
 | a :: x,b :: y,h=>by
   have h : @Bool.rec (fun _=>Bool) false (bytesQ x y) (Nat.beq a.toNat b.toNat) = true:=h
   cases hb : Nat.beq a.toNat b.toNat with
   | true=>
     rw [hb] at h
     rw [UInt8.toNat_inj.mp (Nat.eq_of_beq_eq_true hb),bytesQ_is h]
   | false=>rw [hb] at h; cases h
 | [],_ :: _,h=>Bool.noConfusion (show false = true from h)
 | _ :: _,[],h=>Bool.noConfusion (show false = true from h)
def kNumQ (k : IntKind) : Nat:=IntKind.rec 0 1 2 3 4 5 6 7 k
def kindQ (k k' : IntKind) : Bool:=Nat.beq (kNumQ k) (kNumQ k')
theorem kindQ_is {k k' : IntKind} (h : kindQ k k' = true) : k = k':= by
 cases k <;> cases k' <;> first | rfl | cases h
def intQ (x y : Int) : Bool:=match x,y with
 | .ofNat a,.ofNat b=>Nat.beq a b
 | .negSucc a,.negSucc b=>Nat.beq a b
 | _,_=>false
theorem intQ_is {x y : Int} (h : intQ x y = true) : x = y:=by
 cases x <;> cases y <;> first | (rw [Nat.eq_of_beq_eq_true h]) | cases h
def boolQ (a b : Bool) : Bool:=match a,b with
 | true,true=>true
 | false,false=>true
 | _,_=>false
theorem boolQ_is {a b : Bool} (h : boolQ a b = true) : a = b:=by cases a <;> cases b <;> first | rfl | cases h
def fnQ (f f' : Fn) : Bool:=match f,f' with
 | .func a,.func b=>Nat.beq a b
 | f,f'=>f == f'
theorem fnQ_is {f f' : Fn} (h : fnQ f f' = true) : f = f':= by
 unfold fnQ at h
 split at h
 ·rw [Nat.eq_of_beq_eq_true h]
 ·simpa using h
def qBool (a : Bool) (b : AV) : Bool:=match b with | .bool b=>boolQ a b | _=>false
def qInt (k : IntKind) (a : Int) (b : AV) : Bool:=match b with | .int k' b=>@Bool.rec (fun _=>Bool) false (intQ a b) (kindQ k k') | _=>false
def qStr (a : List UInt8) (b : AV) : Bool:=match b with | .str b=>bytesQ a b | _=>false
def qNilp (b : AV) : Bool:=match b with | .nilp=>true | _=>false
def qNils (b : AV) : Bool:=match b with | .nils=>true | _=>false
def qEmp (b : AV) : Bool:=match b with | .emp=>true | _=>false
def qNilMap (b : AV) : Bool:=match b with | .nilMap=>true | _=>false
def qNilFunc (b : AV) : Bool:=match b with | .nilFunc=>true | _=>false
def qNilIface (b : AV) : Bool:=match b with | .nilIface=>true | _=>false
def qEptr (ih : List AV → Bool) (b : AV) : Bool:=match b with | .eptr l=>ih l | _=>false
def qAgg (ih : List AV → Bool) (b : AV) : Bool:=match b with | .agg l=>ih l | _=>false
def qTup (ih : List AV → Bool) (b : AV) : Bool:=match b with | .tup l=>ih l | _=>false
def qSl (n : Nat) (ih : List AV → Bool) (b : AV) : Bool:=match b with | .sl m l=>@Bool.rec (fun _=>Bool) false (ih l) (Nat.beq n m) | _=>false
def qXsl (n : Nat) (ih : List AV → Bool) (b : AV) : Bool:=match b with | .xsl m l=>@Bool.rec (fun _=>Bool) false (ih l) (Nat.beq n m) | _=>false
def qFunc (f : Fn) (ih ih' : List AV → Bool) (b : AV) : Bool:=match b with | .func f' x y=>@Bool.rec (fun _=>Bool) false (@Bool.rec (fun _=>Bool) false (ih' y) (ih x)) (fnQ f f') | _=>false
def qIface (t : Nat) (ih : AV → Bool) (b : AV) : Bool:=match b with | .iface t' v=>@Bool.rec (fun _=>Bool) false (ih v) (Nat.beq t t') | _=>false
def qRef (o f : Nat) (b : AV) : Bool:=match b with | .ref o' f'=>@Bool.rec (fun _=>Bool) false (Nat.beq f f') (Nat.beq o o') | _=>false
def qMsl (o f n z : Nat) (b : AV) : Bool:=match b with | .msl o' f' n' z'=>@Bool.rec (fun _=>Bool) false (@Bool.rec (fun _=>Bool) false (@Bool.rec (fun _=>Bool) false (Nat.beq z z') (Nat.beq n n')) (Nat.beq f f')) (Nat.beq o o') | _=>false
def qMap (m : Nat) (b : AV) : Bool:=match b with | .map m'=>Nat.beq m m' | _=>false
def qNil (m : List AV) : Bool:=@List.rec _ (fun _=>Bool) true (fun _ _ _=>false) m
def qCons (ih : AV → Bool) (ih' : List AV → Bool) (m : List AV) : Bool:=@List.rec _ (fun _=>Bool) false (fun b m _=>@Bool.rec (fun _=>Bool) false (ih' m) (ih b)) m
def eqQ : AV → AV → Bool:=@AV.rec (fun _=>AV → Bool) (fun _=>List AV → Bool) qBool qInt qStr qNilp qRef (fun _=>qEptr) qNils qEmp (fun n _=>qSl n) (fun n _=>qXsl n) qMsl qMap qNilMap (fun f _ _=>qFunc f) qNilFunc (fun t _=>qIface t) qNilIface (fun _=>qAgg) (fun _=>qTup) qNil (fun _ _=>qCons)
def eqQs : List AV → List AV → Bool:=@AV.rec_1 (fun _=>AV → Bool) (fun _=>List AV → Bool) qBool qInt qStr qNilp qRef (fun _=>qEptr) qNils qEmp (fun n _=>qSl n) (fun n _=>qXsl n) qMsl qMap qNilMap (fun f _ _=>qFunc f) qNilFunc (fun t _=>qIface t) qNilIface (fun _=>qAgg) (fun _=>qTup) qNil (fun _ _=>qCons)
theorem bandQ_is {a b : Bool} (h : @Bool.rec (fun _=>Bool) false b a = true) : a = true ∧ b = true:=by cases a with
 | true=>exact ⟨rfl,h⟩
 | false=>cases h
mutual
theorem eqQ_is : ∀ (a b : AV),eqQ a b = true → a = b
 | .bool a,b,h=>by cases b <;> first | exact Bool.noConfusion (show false = true from h) | exact congrArg _ (boolQ_is h)
 | .int k a,b,h=>by
   cases b <;> first | exact Bool.noConfusion (show false = true from h) | (have h2:=bandQ_is (show @Bool.rec (fun _=>Bool) false _ _ = true from h); rw [kindQ_is h2.1,intQ_is h2.2])
 | .str a,b,h=>by cases b <;> first | exact Bool.noConfusion (show false = true from h) | exact congrArg _ (bytesQ_is h)
 | .nilp,b,h=>by cases b <;> first | rfl | exact Bool.noConfusion (show false = true from h)
 | .ref o f,b,h=>by
   cases b <;> first | exact Bool.noConfusion (show false = true from h) | (have h2:=bandQ_is (show @Bool.rec (fun _=>Bool) false _ _ = true from h); rw [Nat.eq_of_beq_eq_true h2.1,Nat.eq_of_beq_eq_true h2.2])
 | .eptr a,b,h=>by cases b <;> first | exact Bool.noConfusion (show false = true from h) | exact congrArg _ (eqQs_is a _ h)
 | .nils,b,h=>by cases b <;> first | rfl | exact Bool.noConfusion (show false = true from h)
 | .emp,b,h=>by cases b <;> first | rfl | exact Bool.noConfusion (show false = true from h)
 | .sl n l,b,h=>by
   cases b <;> first | exact Bool.noConfusion (show false = true from h) | (have h2:=bandQ_is (show @Bool.rec (fun _=>Bool) false (eqQs l _) _ = true from h); rw [Nat.eq_of_beq_eq_true h2.1,eqQs_is l _ h2.2])
 | .xsl n l,b,h=>by
   cases b <;> first | exact Bool.noConfusion (show false = true from h) | (have h2:=bandQ_is (show @Bool.rec (fun _=>Bool) false (eqQs l _) _ = true from h); rw [Nat.eq_of_beq_eq_true h2.1,eqQs_is l _ h2.2])
 | .msl o f n z,b,h=>by
   cases b <;> first | exact Bool.noConfusion (show false = true from h) | (have h2:=bandQ_is (show @Bool.rec (fun _=>Bool) false (@Bool.rec (fun _=>Bool) false (@Bool.rec (fun _=>Bool) false _ _) _) _ = true from h); have h3:=bandQ_is h2.2; have h4:=bandQ_is h3.2; rw [Nat.eq_of_beq_eq_true h2.1,Nat.eq_of_beq_eq_true h3.1,Nat.eq_of_beq_eq_true h4.1,Nat.eq_of_beq_eq_true h4.2])
 | .map m,b,h=>by cases b <;> first | exact Bool.noConfusion (show false = true from h) | exact congrArg _ (Nat.eq_of_beq_eq_true h)
 | .nilMap,b,h=>by cases b <;> first | rfl | exact Bool.noConfusion (show false = true from h)
 | .func f x y,b,h=>by
   cases b <;> first | exact Bool.noConfusion (show false = true from h) | (have h2:=bandQ_is (show @Bool.rec (fun _=>Bool) false (@Bool.rec (fun _=>Bool) false (eqQs y _) (eqQs x _)) _ = true from h); have h3:=bandQ_is h2.2; rw [fnQ_is h2.1,eqQs_is x _ h3.1,eqQs_is y _ h3.2])
 | .nilFunc,b,h=>by cases b <;> first | rfl | exact Bool.noConfusion (show false = true from h)
 | .iface t v,b,h=>by
   cases b <;> first | exact Bool.noConfusion (show false = true from h) | (have h2:=bandQ_is (show @Bool.rec (fun _=>Bool) false (eqQ v _) _ = true from h); rw [Nat.eq_of_beq_eq_true h2.1,eqQ_is v _ h2.2])
 | .nilIface,b,h=>by cases b <;> first | rfl | exact Bool.noConfusion (show false = true from h)
 | .agg l,b,h=>by cases b <;> first | exact Bool.noConfusion (show false = true from h) | exact congrArg _ (eqQs_is l _ h)
 | .tup l,b,h=>by cases b <;> first | exact Bool.noConfusion (show false = true from h) | exact congrArg _ (eqQs_is l _ h)
theorem eqQs_is : ∀ (l m : List AV),eqQs l m = true → l = m
 | [],m,h=>by cases m <;> first | rfl | exact Bool.noConfusion (show false = true from h)
 | a :: l,m,h=>by
   cases m with
   | nil=>exact Bool.noConfusion (show false = true from h)
   | cons b m=>have h2:=bandQ_is (show @Bool.rec (fun _=>Bool) false (eqQs l m) (eqQ a b) = true from h); rw [eqQ_is a b h2.1,eqQs_is l m h2.2]
end
theorem bytesQ_refl : ∀ x : List UInt8,bytesQ x x = true
 | []=>rfl
 | a :: x=>by
   show @Bool.rec (fun _=>Bool) false (bytesQ x x) (Nat.beq a.toNat a.toNat) = true
   rw [Nat.beq_refl,bytesQ_refl x]
theorem fnQ_refl (f : Fn) : fnQ f f = true:=by
 cases f with
 | func a=>exact Nat.beq_refl a
 | _=>simp [fnQ]
mutual
theorem eqQ_refl : ∀ a : AV,eqQ a a = true
 | .bool a=>by cases a <;> rfl
 | .int k a=>by
   show @Bool.rec (fun _=>Bool) false (intQ a a) (kindQ k k) = true
   have h1 : kindQ k k = true:=by cases k <;> rfl
   have h2 : intQ a a = true:=by cases a <;> exact Nat.beq_refl _
   rw [h1,h2]
 | .str a=>bytesQ_refl a
 | .nilp=>rfl
 | .ref o f=>by
   show @Bool.rec (fun _=>Bool) false (Nat.beq f f) (Nat.beq o o) = true
   rw [Nat.beq_refl,Nat.beq_refl]
 | .eptr a=>eqQs_refl a
 | .nils=>rfl
 | .emp=>rfl
 | .sl n l=>by
   show @Bool.rec (fun _=>Bool) false (eqQs l l) (Nat.beq n n) = true
   rw [Nat.beq_refl,eqQs_refl l]
 | .xsl n l=>by
   show @Bool.rec (fun _=>Bool) false (eqQs l l) (Nat.beq n n) = true
   rw [Nat.beq_refl,eqQs_refl l]
 | .msl o f n z=>by
   show @Bool.rec (fun _=>Bool) false (@Bool.rec (fun _=>Bool) false (@Bool.rec (fun _=>Bool) false (Nat.beq z z) (Nat.beq n n)) (Nat.beq f f)) (Nat.beq o o) = true
   rw [Nat.beq_refl,Nat.beq_refl,Nat.beq_refl,Nat.beq_refl]
 | .map m=>Nat.beq_refl m
 | .nilMap=>rfl
 | .func f x y=>by
   show @Bool.rec (fun _=>Bool) false (@Bool.rec (fun _=>Bool) false (eqQs y y) (eqQs x x)) (fnQ f f) = true
   rw [fnQ_refl,eqQs_refl x,eqQs_refl y]
 | .nilFunc=>rfl
 | .iface t v=>by
   show @Bool.rec (fun _=>Bool) false (eqQ v v) (Nat.beq t t) = true
   rw [Nat.beq_refl,eqQ_refl v]
 | .nilIface=>rfl
 | .agg l=>eqQs_refl l
 | .tup l=>eqQs_refl l
theorem eqQs_refl : ∀ l : List AV,eqQs l l = true
 | []=>rfl
 | a :: l=>by
   show @Bool.rec (fun _=>Bool) false (eqQs l l) (eqQ a a) = true
   rw [eqQ_refl a,eqQs_refl l]
end
mutual
theorem same_refl : ∀ a : AV,same a a = true
 | .bool a=>by simp [same]
 | .int k a=>by simp [same]
 | .str a=>by simp [same,bytesEq_iff]
 | .nilp=>by simp [same]
 | .ref o f=>by simp [same]
 | .eptr a=>by rw [same]; exact sames_refl a
 | .nils=>by simp [same]
 | .emp=>by simp [same]
 | .sl n l=>by rw [same,sames_refl l]; simp
 | .xsl n l=>by rw [same,sames_refl l]; simp
 | .msl o f n z=>by simp [same]
 | .map m=>by simp [same]
 | .nilMap=>by simp [same]
 | .func f x y=>by rw [same,sames_refl x,sames_refl y]; simp
 | .nilFunc=>by simp [same]
 | .iface t v=>by rw [same,same_refl v]; simp
 | .nilIface=>by simp [same]
 | .agg l=>by rw [same]; exact sames_refl l
 | .tup l=>by rw [same]; exact sames_refl l
theorem sames_refl : ∀ l : List AV,sames l l = true
 | []=>by simp [sames]
 | a :: l=>by rw [sames,same_refl a,sames_refl l]; rfl
end
theorem eqQ_same (a b : AV) : eqQ a b = same a b:=by
 cases h : eqQ a b with
 | true=>rw [eqQ_is a b h,same_refl]
 | false=>
   cases h2 : same a b with
   | false=>rfl
   | true=>rw [same_eq a b h2,eqQ_refl] at h; cases h
end
end Go.Ev
namespace Go.Ev
set_option linter.unusedVariables false
def kNum : IntKind → Nat
 | .i8=>0 | .i16=>1 | .i32=>2 | .i64=>3 | .u8=>4 | .u16=>5 | .u32=>6 | .u64=>7
def kEq (k k' : IntKind) : Bool:=Nat.beq (kNum k) (kNum k')
theorem kEq_is (k k' : IntKind) : kEq k k' = decide (k = k'):=by cases k <;> cases k' <;> decide
def wrap64 : Int → Int
 | .ofNat m=>match Nat.ble m 9223372036854775807 with
   | true=>.ofNat m
   | false=>IntKind.i64.wrap (.ofNat m)
 | .negSucc m=>match Nat.ble m 9223372036854775807 with
   | true=>.negSucc m
   | false=>IntKind.i64.wrap (.negSucc m)
theorem wrap64_is (n : Int) : wrap64 n = IntKind.i64.wrap n:=by
 unfold wrap64
 split
 ·split
  ·rename_i m h
   have:=Nat.le_of_ble_eq_true h
   rw [w64 (by simp only [Int.ofNat_eq_natCast]; omega) (by simp only [Int.ofNat_eq_natCast]; omega)]
  ·rfl
 ·split
  ·rename_i m h
   have:=Nat.le_of_ble_eq_true h
   rw [w64 (by omega) (by omega)]
  ·rfl
def wrapU8 : Int → Int
 | .ofNat m=>.ofNat (Nat.mod m 256)
 | .negSucc m=>IntKind.u8.wrap (.negSucc m)
theorem wrapU8_is (n : Int) : wrapU8 n = IntKind.u8.wrap n:=by
 unfold wrapU8
 split
 ·rename_i m
  rw [IntKind.wrap_u8]
  rfl
 ·rfl
def wrapF : IntKind → Int → Int
 | .i64=>wrap64
 | .u8=>wrapU8
 | .i8=>IntKind.i8.wrap | .i16=>IntKind.i16.wrap | .i32=>IntKind.i32.wrap | .u16=>IntKind.u16.wrap | .u32=>IntKind.u32.wrap | .u64=>IntKind.u64.wrap
theorem wrapF_is (k : IntKind) (n : Int) : wrapF k n = k.wrap n:=by
 cases k
 case i64=>exact wrap64_is n
 case u8=>exact wrapU8_is n
 all_goals rfl
def iBeq : Int → Int → Bool
 | .ofNat m=>fun y=>match y with
   | .ofNat n=>Nat.beq m n
   | .negSucc _=>false
 | .negSucc m=>fun y=>match y with
   | .ofNat _=>false
   | .negSucc n=>Nat.beq m n
theorem beq_dec (m n : Nat) : Nat.beq m n = decide (m = n):=by
 by_cases h : m = n
 ·subst h; simp
 ·rw [decide_eq_false h]
  cases hb : Nat.beq m n
  ·rfl
  ·exact absurd (Nat.eq_of_beq_eq_true hb) h
theorem iBeq_is (x y : Int) : iBeq x y = (x == y):=by
 cases x with
 | ofNat m=>cases y with
   | ofNat n=>
     simp only [iBeq,beq_dec]
     by_cases h : m = n
     ·subst h; simp
     ·rw [decide_eq_false h]
      symm
      rw [beq_eq_false_iff_ne]
      intro h'
      exact h (Int.ofNat.inj h')
   | negSucc n=>rfl
 | negSucc m=>cases y with
   | ofNat n=>rfl
   | negSucc n=>
     simp only [iBeq,beq_dec]
     by_cases h : m = n
     ·subst h; simp
     ·rw [decide_eq_false h]
      symm
      rw [beq_eq_false_iff_ne]
      intro h'
      exact h (Int.negSucc.inj h')
def iBle : Int → Int → Bool
 | .ofNat m=>fun y=>match y with
   | .ofNat n=>Nat.ble m n
   | .negSucc _=>false
 | .negSucc m=>fun y=>match y with
   | .ofNat _=>true
   | .negSucc n=>Nat.ble n m
theorem ble_dec (m n : Nat) : Nat.ble m n = decide (m ≤ n):=by
 by_cases h : m ≤ n
 ·rw [decide_eq_true h]; exact Nat.ble_eq_true_of_le h
 ·rw [decide_eq_false h]
  cases hb : Nat.ble m n
  ·rfl
  ·exact absurd (Nat.le_of_ble_eq_true hb) h
theorem iBle_is (x y : Int) : iBle x y = decide (x ≤ y):=by
 cases x <;> cases y <;> simp only [iBle,ble_dec]
 ·simp
 ·symm; simp; omega
 ·symm; simp; omega
 ·rename_i m n
  by_cases h : n ≤ m
  ·rw [decide_eq_true h]; symm; simp; omega
  ·rw [decide_eq_false h]; symm; simp; omega
def bnot : Bool → Bool
 | true=>false
 | false=>true
theorem bnot_is (b : Bool) : bnot b = !b:=by cases b <;> rfl
def binIntF (op : BinOp) : IntKind → Int → Int → Option AV:=
 match op with
 | .add=>fun k a b=>some (.int k (wrapF k (Int.add a b)))
 | .sub=>fun k a b=>some (.int k (wrapF k (Int.sub a b)))
 | .mul=>fun k a b=>some (.int k (wrapF k (Int.mul a b)))
 | .eql=>fun k a b=>some (.bool (iBeq a b))
 | .neq=>fun k a b=>some (.bool (bnot (iBeq a b)))
 | .lss=>fun k a b=>some (.bool (bnot (iBle b a)))
 | .leq=>fun k a b=>some (.bool (iBle a b))
 | .gtr=>fun k a b=>some (.bool (bnot (iBle a b)))
 | .geq=>fun k a b=>some (.bool (iBle b a))
 | op=>fun k a b=>binInt op k a b
theorem binIntF_is (op : BinOp) (k : IntKind) (a b : Int) : binIntF op k a b = binInt op k a b:=by
 cases op <;> simp only [binIntF,binInt,wrapF_is,iBeq_is,iBle_is,bnot_is] <;> first | rfl | skip
 ·congr 2
  by_cases h : b ≤ a
  ·have h' : ¬ a < b:=by omega
   simp [h,h']
  ·have h' : a < b:=by omega
   simp [h,h']
 ·congr 2
  by_cases h : a ≤ b
  ·have h' : ¬ b < a:=by omega
   simp [h,h']
  ·have h' : b < a:=by omega
   simp [h,h']
def u8Eq (a b : UInt8) : Bool:=Nat.beq a.toNat b.toNat
theorem u8Eq_is (a b : UInt8) : u8Eq a b = (a == b):=by
 unfold u8Eq
 rw [beq_dec]
 by_cases h : a = b
 ·subst h; simp
 ·have : a.toNat ≠ b.toNat:=fun h'=>h (UInt8.toNat_inj.mp h')
  simp [h,this]
def bytesEqF : List UInt8 → List UInt8 → Bool
 | []=>fun y=>match y with
   | []=>true
   | _ :: _=>false
 | a :: x=>fun y=>match y with
   | []=>false
   | b :: y=>match u8Eq a b with
     | true=>bytesEqF x y
     | false=>false
theorem bytesEqF_is : ∀ x y : List UInt8,bytesEqF x y = bytesEq x y
 | [],[]=>rfl
 | [],_ :: _=>rfl
 | _ :: _,[]=>rfl
 | a :: x,b :: y=>by
   simp only [bytesEqF,bytesEq]
   rw [u8Eq_is,bytesEqF_is x y]
   cases a == b <;> rfl
def binStrF (op : BinOp) : List UInt8 → List UInt8 → Option AV:=
 match op with
 | .eql=>fun x y=>some (.bool (bytesEqF x y))
 | .neq=>fun x y=>some (.bool (bnot (bytesEqF x y)))
 | op=>fun x y=>binStr op x y
theorem binStrF_is (op : BinOp) (x y : List UInt8) : binStrF op x y = binStr op x y:=by
 cases op <;> simp only [binStrF,binStr,bytesEqF_is,bnot_is]
def isShift : BinOp → Bool
 | .shl=>true
 | .shr=>true
 | _=>false
def binF (op : BinOp) (ek : Nat) (cst : Bool) (x y : AV) : Option AV:=
 match x with
 | .int k a=>match y with
   | .int k' b=>match isShift op with
     | true=>shiftInt op k a b
     | false=>match kEq k k' with
       | true=>binIntF op k a b
       | false=>none
   | _=>binOp op ek cst x y
 | .str s=>match y with
   | .str t=>binStrF op s t
   | _=>binOp op ek cst x y
 | _=>binOp op ek cst x y
def binFC (np : Bool) (op : BinOp) (ek : Nat) (cst : Bool) (x y : AV) : Option AV:=match np with
 | false=>binF op ek cst x y
 | true=>match ptr2 x y with
   | true=>none
   | false=>binF op ek cst x y
theorem binF_is (op : BinOp) (ek : Nat) (cst : Bool) (x y : AV) : binF op ek cst x y = binOp op ek cst x y:=by
 unfold binF
 split
 ·split
  ·rw [kEq_is,binIntF_is]
   unfold binOp
   dsimp only
   cases op <;> simp only [isShift] <;> first | rfl | (split <;> simp_all)
  ·rfl
 ·split
  ·rw [binStrF_is]; rfl
  ·rfl
 ·rfl
def nthF {α : Type} : List α → Nat → Option α
 | []=>fun _=>none
 | a :: l=>fun n=>match n with
   | 0=>some a
   | n + 1=>nthF l n
theorem nthF_is {α : Type} : ∀ (l : List α) (n : Nat),nthF l n = l[n]?
 | [],_=>by simp [nthF]
 | a :: l,0=>by simp [nthF]
 | a :: l,n + 1=>by simp [nthF,nthF_is l n]
def dropF {α : Type} : Nat → List α → List α
 | 0=>fun l=>l
 | n + 1=>fun l=>match l with
   | []=>[]
   | _ :: l=>dropF n l
theorem dropF_is {α : Type} : ∀ (n : Nat) (l : List α),dropF n l = l.drop n
 | 0,_=>by simp [dropF]
 | n + 1,[]=>by simp [dropF]
 | n + 1,a :: l=>by simp [dropF,dropF_is n l]
def asNatF : AV → Option Nat
 | .int _ n=>match n with
   | .ofNat m=>some m
   | .negSucc _=>none
 | _=>none
theorem asNatF_is (v : AV) : asNatF v = asNat v:=by
 cases v with
 | int k n=>cases n <;> simp [asNatF,asNat]
 | _=>rfl
def ptF (agg : Bool) : Nat → List AV → Option AV:=
 match agg with
 | true=>fun sz l=>if sz ≤ l.length then some (.agg (l.take sz)) else none
 | false=>fun _ l=>match l with
   | []=>none
   | a :: _=>some a
theorem ptF_is (agg : Bool) (sz : Nat) (l : List AV) : ptF agg sz l = pt agg sz l:=by
 cases agg
 ·cases l <;> rfl
 ·rfl
def lenF (k : Nat) (σ : St) (x : AV) : Option Nat:=lenA σ k x
def kI (i : XI) : Ctx → (XA → AV) → Nat → St → Option Out:=
 match i with
 | .mv x=>fun C a n0 σ=>some (.val (a x) σ)
 | .pick c x y=>fun C a n0 σ=>match a c with
   | .bool b=>some (.val (if b then a x else a y) σ)
   | _=>none
 | .new z ty=>fun C a n0 σ=>some (.val (.ref σ.length 0) (σ ++ [.cells z ⟨false,ty⟩]))
 | .box x=>fun C a n0 σ=>some (.val (.ref σ.length 0) (σ ++ [.cells (a x).cells ⟨false,none⟩]))
 | .build z ps=>fun C a n0 σ=>match fillA z (ps.map fun (o,s,x)=>(o,s,a x)) with
   | some l=>some (.val (.agg l) σ)
   | none=>none
 | .buildSl z n sz ps=>fun C a n0 σ=>match fillA (rep z n) (ps.map fun (o,s,x)=>(o,s,a x)) with
   | some l=>if l.length = n * sz then some (outSl (asObj z) n sz l σ) else none
   | none=>none
 | .load ag sz x=>fun _ a _ σ=>match a x with
   | .eptr l=>match ptF ag sz l with
     | some v=>some (.val v σ)
     | none=>none
   | .ref o off=>match nthF σ o with
     | some q=>match q with
       | .cells l _=>match ptF ag sz (dropF off l) with
         | some v=>some (.val v σ)
         | none=>none
       | _=>none
     | none=>none
   | _=>none
 | .store sz p x=>fun C a n0 σ=>match a p with
   | .ref o off=>match σ[o]? with
     | some (.cells l ⟨false,t⟩)=>
       let cs:=(a x).cells
       if cs.length = sz ∧ off + sz ≤ l.length ∧ cs.all AV.flat then some (.val .undef (σ.set o (.cells (splice l off cs) ⟨false,t⟩))) else none
     | _=>none
   | _=>none
 | .nilck x=>fun C a n0 σ=>match a x with
   | .ref o f=>some (.val (.ref o f) σ)
   | .eptr l=>some (.val (.eptr l) σ)
   | .iface t v=>some (.val (.iface t v) σ)
   | .func (.func f) x y=>some (.val (.func (.func f) x y) σ)
   | _=>none
 | .bin op ek cst x y=>fun C a _ σ=>match binFC C.np op ek cst (a x) (a y) with
   | some v=>some (.val v σ)
   | none=>none
 | .un op x=>fun _ a _ σ=>match unOp op (a x) with
   | some v=>some (.val v σ)
   | none=>none
 | .i2i k x=>fun _ a _ σ=>match a x with
   | .int _ n=>some (.val (.int k (wrapF k n)) σ)
   | _=>none
 | .s2s x=>fun C a n0 σ=>match a x with
   | .str s=>some (.val (.str s) σ)
   | _=>none
 | .i2s x=>fun C a n0 σ=>match a x with
   | .int _ n=>some (.val (.str (Utf8.encode n).data.toList) σ)
   | _=>none
 | .b2s x=>fun C a n0 σ=>match slCells σ 1 (a x) with
   | some (_,l)=>(bytesOf l).map fun s=>.val (.str s) σ
   | none=>none
 | .s2b x=>fun C a n0 σ=>match a x with
   | .str s=>some (.val (.sl s.length (ofBytes s)) σ)
   | _=>none
 | .s2r x=>fun C a n0 σ=>match a x with
   | .str s=>if s.length ≤ 70368744177664 then some (.val (.sl (runesOf s).length (ofRunes (runesOf s))) σ) else none
   | _=>none
 | .mkIface t x=>fun C a n0 σ=>some (.val (.iface t (a x)) σ)
 | .mkFunc fn first captured=>fun C a n0 σ=>some (.val (.func fn (first.map a) (captured.map a)) σ)
 | .mkMap=>fun C a n0 σ=>some (.val (.map σ.length) (σ ++ [.map []]))
 | .mkSlice z sz bytes l c=>fun C a n0 σ=>match a l,a c with
   | .int _ l,.int _ c=>
     if 0 ≤ l ∧ l ≤ c ∧ c ≤ 9223372036854775807 ∧ bytes * c ≤ 140737488355328 then
      some (.val (.msl σ.length 0 l.toNat sz) (σ ++ [.cells (rep z l.toNat) ⟨false,none⟩]))
     else none
   | _,_=>none
 | .sliceStr x lo hi=>fun C a n0 σ=>match a x with
   | .str s=>match optNat 0 (lo.map a),optNat s.length (hi.map a) with
     | some l,some h=>if l ≤ h ∧ h ≤ s.length then some (.val (.str ((s.take h).drop l)) σ) else none
     | _,_=>none
   | _=>none
 | .sliceSl sz x lo hi mx=>fun C a n0 σ=>
   match a x with
   | .nils=>match optNat 0 (lo.map a),optNat 0 (hi.map a),mx with
     | some 0,some 0,none=>some (.val .nils σ)
     | _,_,_=>none
   | .xsl n l=>match optNat 0 (lo.map a),optNat n (hi.map a),mx with
     | some lo,some hi,none=>
       if lo ≤ hi ∧ hi ≤ n ∧ l.length = n * sz then some (.val (.sl (hi - lo) ((l.take (hi * sz)).drop (lo * sz))) σ) else none
     | _,_,_=>none
   | .sl n l=>match optNat 0 (lo.map a),optNat n (hi.map a),mx with
     | some lo,some hi,none=>
       if lo ≤ hi ∧ hi ≤ n ∧ l.length = n * sz then
        some (.val (.sl (hi - lo) ((l.take (hi * sz)).drop (lo * sz))) σ)
       else none
     | _,_,_=>none
   | .msl o off n s=>match optNat 0 (lo.map a),optNat n (hi.map a),mx with
     | some lo,some hi,none=>
       if lo ≤ hi ∧ hi ≤ n ∧ s = sz then
        some (.val (if lo = hi ∧ lo ≠ 0 then .emp else .msl o (off + lo * sz) (hi - lo) sz) σ)
       else none
     | _,_,_=>none
   | _=>none
 | .sliceArr len sz x lo hi mx=>fun C a n0 σ=>match a x with
   | .ref o off=>match σ[o]? with
     | some (.cells l _)=>match optNat 0 (lo.map a),optNat len (hi.map a),mx with
       | some lo,some hi,none=>if lo ≤ hi ∧ hi ≤ len ∧ off + len * sz ≤ l.length then some (.val (if lo = hi then .emp else .msl o (off + lo * sz) (hi - lo) sz) σ) else none
       | _,_,_=>none
     | _=>none
   | _=>none
 | .fieldAddr off x=>fun C a n0 σ=>match a x with
   | .ref o f=>some (.val (.ref o (f + off)) σ)
   | .eptr l=>if off ≤ l.length then some (.val (.eptr (l.drop off)) σ) else none
   | _=>none
 | .field ag off sz x=>fun _ a _ σ=>match a x with
   | .agg l=>match ptF ag sz (dropF off l) with
     | some v=>some (.val v σ)
     | none=>none
   | _=>none
 | .idxAddrArr len sz x i=>fun C a n0 σ=>match asNat (a i),a x with
   | some i,.ref o f=>if i < len then some (.val (.ref o (f + i * sz)) σ) else none
   | some i,.eptr l=>if i < len ∧ i * sz ≤ l.length then some (.val (.eptr (l.drop (i * sz))) σ) else none
   | _,_=>none
 | .idxAddrSl sz x i=>fun C a n0 σ=>match asNat (a i),a x with
   | some i,.sl n l=>if i < n ∧ l.length = n * sz then some (.val (.eptr (l.drop (i * sz))) σ) else none
   | some i,.xsl n l=>if i < n ∧ l.length = n * sz then some (.val (.eptr (l.drop (i * sz))) σ) else none
   | some i,.msl o off n s=>if i < n ∧ s = sz then some (.val (.ref o (off + i * sz)) σ) else none
   | _,_=>none
 | .idxArr len ag sz x i=>fun C a n0 σ=>match asNat (a i),a x with
   | some i,.agg l=>if i < len then (pt ag sz (l.drop (i * sz))).map (.val · σ) else none
   | _,_=>none
 | .idxStr x i=>fun _ a _ σ=>match a x with
   | .str s=>match asNatF (a i) with
     | some i=>match nthF s i with
       | some b=>some (.val (.int .u8 (.ofNat b.toNat)) σ)
       | none=>none
     | none=>none
   | _=>none
 | .lookup z m k ok=>fun C a n0 σ=>
   match mapOf σ (a m) with
   | some es=>match findA (a k) es 0 with
     | some (some (_,v))=>some (.val (if ok then .tup [v,.bool true] else v) σ)
     | some none=>some (.val (if ok then .tup [z,.bool false] else z) σ)
     | none=>none
   | none=>none
 | .mapUpd m k v=>fun C a n0 σ=>match a m with
   | .map r=>match σ[r]? with
     | some (.map es)=>match a k with
       | .str s=>match findA (.str s) es 0 with
         | some (some (i,_))=>some (.val .undef (σ.set r (.map (es.set i (.str s,a v)))))
         | some none=>some (.val .undef (σ.set r (.map (es ++ [(.str s,a v)]))))
         | none=>none
       | _=>none
     | _=>none
   | _=>none
 | .mapEntry z m k=>fun C a n0 σ=>match a m with
   | .map r=>match σ[r]? with
     | some (.map es)=>match a k with
       | .str s=>match findA (.str s) es 0 with
         | some (some (i,v))=>some (.val (.tup [v,.int .i64 i]) σ)
         | some none=>some (.val (.tup [z,.int .i64 es.length]) (σ.set r (.map (es ++ [(.str s,z)]))))
         | none=>none
       | _=>none
     | _=>none
   | _=>none
 | .entryStore m s v=>fun C a n0 σ=>match a m,asNat (a s) with
   | .map r,some i=>match σ[r]? with
     | some (.map es)=>match es[i]? with
       | some (k,_)=>some (.val .undef (σ.set r (.map (es.set i (k,a v)))))
       | none=>none
     | _=>none
   | _,_=>none
 | .extract x i=>fun _ a _ σ=>match a x with
   | .tup l=>match nthF l i with
     | some v=>some (.val v σ)
     | none=>none
   | _=>none
 | .app str sz bytes ty s x=>fun C a n0 σ=>
   match srcCells σ sz (a x) with
   | some (m,cs)=>
     if isStr (a x) != str || !cs.all AV.flat then none else
     match appA σ sz bytes ty (a s) m cs with
     | some (v,σ')=>some (.val v σ')
     | none=>none
   | none=>none
 | .len k x=>fun _ a _ σ=>match lenF k σ (a x) with
   | some n=>some (.val (.int .i64 (.ofNat n)) σ)
   | none=>none
 | .lenC n=>fun C a n0 σ=>some (.val (.int .i64 n) σ)
 | .cpy sz d s=>fun C a n0 σ=>
   match srcCells σ sz (a s),a d with
   | some (m,cs),.msl o off n s=>match σ[o]? with
     | some (.cells l ⟨false,t⟩)=>
       let k:=min m n
       if s = sz ∧ off + k * sz ≤ l.length ∧ cs.all AV.flat then
        some (.val (.int .i64 k) (σ.set o (.cells (splice l off (cs.take (k * sz))) ⟨false,t⟩)))
       else none
     | _=>none
   | _,_=>none
 | .minmax mx x y=>fun C a n0 σ=>(minmaxA mx (a x) (a y)).map (.val · σ)
 | .callF f args=>fun C a n0 σ=>some (.call f (args.map a) σ)
 | .callV f args=>fun C a n0 σ=>callVal C (a f) (args.map a) σ
 | .invoke x m args=>fun C a n0 σ=>match a x with
   | .iface t v=>match methodOf C.P t v m with
     | some (f,r)=>some (.call f (r :: args.map a) σ)
     | none=>none
   | _=>none
 | .pend=>fun C a n0 σ=>some (.val .undef σ)
 | .fill _ d sz x=>fun C a n0 σ=>
   let cs:=(a x).cells
   if d < n0 ∧ cs.length = sz ∧ cs.all AV.flat then some (.val (.ref σ.length 0) (σ ++ [.cells cs ⟨false,none⟩])) else none
 | .fail=>fun C a n0 σ=>none
theorem binFC_is (np : Bool) (op : BinOp) (ek : Nat) (cst : Bool) (x y : AV) : binFC np op ek cst x y = binC np op ek cst x y:=by
 cases np with
 | false=>exact binF_is op ek cst x y
 | true=>
   show (match ptr2 x y with | true=>none | false=>binF op ek cst x y) = match ptr2 x y with | true=>none | false=>binOp op ek cst x y
   rw [binF_is]
theorem kI_is (i : XI) (C : Ctx) (a : XA → AV) (n0 : Nat) (σ : St) : kI i C a n0 σ = evIX C a n0 σ i:=by
 cases i
 case bin op ek cst x y=>
  simp only [kI,evIX,binFC_is]
  cases binC C.np op ek cst (a x) (a y) <;> rfl
 case un op x=>
  simp only [kI,evIX]
  cases unOp op (a x) <;> rfl
 case len k x=>
  simp only [kI,evIX,lenF]
  cases lenA σ k (a x) <;> rfl
 case i2i k x=>
  simp only [kI,evIX,wrapF_is]
  try (cases a x <;> rfl)
 case idxStr x i=>
  simp only [kI,evIX,nthF_is,asNatF_is]
  cases hx : a x <;> cases hi : asNat (a i) <;> rfl
 case load ag sz x=>
  simp only [kI,evIX,nthF_is,dropF_is,ptF_is]
  cases a x with
  | eptr l=>dsimp only; cases pt ag sz l <;> rfl
  | ref o off=>
    dsimp only
    cases hq : σ[o]? with
    | none=>rfl
    | some q=>cases q with
      | cells l _=>dsimp only; cases pt ag sz (l.drop off) <;> rfl
      | _=>rfl
  | _=>rfl
 case field ag off sz x=>
  simp only [kI,evIX,dropF_is,ptF_is]
  cases a x with
  | agg l=>dsimp only; cases pt ag sz (l.drop off) <;> rfl
  | _=>rfl
 case extract x i=>
  simp only [kI,evIX,nthF_is]
  try (cases a x <;> rfl)
 all_goals rfl
def lookF : As → Nat → AV
 | []=>fun _=>.undef
 | p :: A=>fun t=>match p with
   | (k,v)=>match Nat.beq k t with
     | true=>v
     | false=>lookF A t
theorem lookF_is : ∀ (A : As) (t : Nat),lookF A t = look A t
 | [],_=>rfl
 | (k,v) :: A,t=>by
   simp only [lookF,look,beq_dec]
   by_cases h : k = t
   ·simp [h]
   ·simp [h,lookF_is A t]
def avF (x : XA) : Ctx → As → AV:=
 match x with
 | .t n=>fun _ A=>lookF A n
 | .c v=>fun _ _=>v
 | .g n=>fun C _=>.eptr ((C.gl n).getD [])
theorem avF_is (x : XA) (C : Ctx) (A : As) : avF x C A = avA C A x:=by
 cases x <;> simp only [avF,avA,lookF_is]
theorem avF_fun (C : Ctx) (A : As) : (fun x=>avF x C A) = avA C A:=funext fun x=>avF_is x C A
def wantF (g : Option (Nat × Bool)) : As → Bool:=
 match g with
 | none=>fun _=>true
 | some p=>fun A=>match p with
   | (t,b)=>boolIs b (lookF A t)
theorem wantF_is (o : XOp) (A : As) : wantF o.guard A = wantA o A:=by
 unfold wantA
 cases o.guard with
 | none=>rfl
 | some p=>
   obtain ⟨t,b⟩:=p
   simp only [wantF,lookF_is]
def putF (d : Option Nat) : As → AV → As:=
 match d with
 | some d=>fun A v=>(d,v) :: A
 | none=>fun A _=>A
theorem putF_is (d : Option Nat) (A : As) (v : AV) : putF d A v = putL A d v:=by cases d <;> rfl
def outF (r : Option Out) : CallO → Option (AV × St):=
 match r with
 | none=>fun _=>none
 | some r=>fun call=>match r with
   | .val v σ=>some (v,σ)
   | .call f args σ=>call f args σ
def opF (o : XOp) (C : Ctx) (call : CallO) (n : Nat) (A : As) (σ : St) : Option (AV × St):=
 match wantF o.guard A with
 | true=>outF (kI o.i C (fun x=>avF x C A) n σ) call
 | false=>some (.undef,σ)
theorem opF_is (o : XOp) (C : Ctx) (call : CallO) (n : Nat) (A : As) (σ : St) : opF o C call n A σ = evOpA C call n o A σ:=by
 unfold opF evOpA
 rw [wantF_is,kI_is,avF_fun]
 cases wantA o A
 ·rfl
 ·simp only [if_true]
  cases evIX C (avA C A) n σ o.i with
  | none=>rfl
  | some x=>cases x <;> rfl
def opsF : List XOp → Ctx → CallO → Nat → As → St → Option (As × St)
 | []=>fun _ _ _ A σ=>some (A,σ)
 | o :: l=>fun C call n A σ=>match opF o C call n A σ with
   | none=>none
   | some p=>match p with
     | (v,σ')=>opsF l C call n (putF o.dst A v) σ'
theorem opsF_is (C : Ctx) (call : CallO) (n : Nat) : ∀ (l : List XOp) (A : As) (σ : St),opsF l C call n A σ = evOpsA C call n l A σ
 | [],_,_=>rfl
 | o :: l,A,σ=>by
   simp only [opsF,evOpsA,opF_is,putF_is]
   cases evOpA C call n o A σ with
   | none=>rfl
   | some p=>exact opsF_is C call n l _ _
def runF : List XOp → Ctx → CallO → Nat → As → St → Option (As × St × List (As × AV) × List St)
 | []=>fun _ _ _ A σ=>some (A,σ,[],[σ])
 | o :: l=>fun C call n A σ=>match opF o C call n A σ with
   | none=>none
   | some p=>match p with
     | (v,σ')=>match runF l C call n (putF o.dst A v) σ' with
       | none=>none
       | some q=>match q with
         | (A',σ'',rs,ss)=>some (A',σ'',(A,v) :: rs,σ :: ss)
theorem runF_is (C : Ctx) (call : CallO) (n : Nat) : ∀ (l : List XOp) (A : As) (σ : St),runF l C call n A σ = evRunA C call n l A σ
 | [],_,_=>rfl
 | o :: l,A,σ=>by
   simp only [runF,evRunA,opF_is,putF_is]
   cases evOpA C call n o A σ with
   | none=>rfl
   | some p=>
     simp only [runF_is C call n l]
     cases evRunA C call n l (putL A o.dst p.1) p.2 <;> rfl
noncomputable def oneF (o : XOp) (C : Ctx) (n : Nat) (A : As) (v : AV) (s : Option St) : Bool:=match s with
 | none=>false
 | some s=>match kI o.i C (fun x=>avF x C A) n s with
   | none=>false
   | some x=>match x with
     | .val v1 _=>eqQ v1 v
     | .call _ _ _=>false
noncomputable def recheckF (o : XOp) (C : Ctx) (n : Nat) (A : As) (v : AV) (ss : List St) : List Nat → Nat → Bool
 | []=>fun _=>true
 | c :: l=>fun p=>match (match Nat.beq (c + 1) p with
     | true=>true
     | false=>oneF o C n A v ss[c]?) with
   | true=>match oneF o C n A v ss[c + 1]? with
     | true=>recheckF o C n A v ss l (c + 2)
     | false=>false
   | false=>false
theorem oneF_two (o : XOp) (C : Ctx) (n : Nat) (A : As) (v : AV) (s s' : Option St) : (oneF o C n A v s && oneF o C n A v s') = (match s,s' with
  | some s,some s'=>(match evIX C (avA C A) n s o.i,evIX C (avA C A) n s' o.i with
    | some (.val v1 _),some (.val v2 _)=>same v1 v && same v2 v
    | _,_=>false)
  | _,_=>false):=by
 cases s with
 | none=>cases s' <;> rfl
 | some s=>
   cases s' with
   | none=>exact Bool.and_false _
   | some s'=>
     simp only [oneF,kI_is,avF_fun]
     cases evIX C (avA C A) n s o.i with
     | none=>rfl
     | some x=>
       cases x with
       | call f a t=>rfl
       | val v1 t=>
         cases evIX C (avA C A) n s' o.i with
         | none=>exact Bool.and_false _
         | some y=>
           cases y with
           | call f a t=>exact Bool.and_false _
           | val v2 t=>simp only [eqQ_same]
theorem recheckF_is (o : XOp) (C : Ctx) (n : Nat) (A : As) (v : AV) (ss : List St) : ∀ (l : List Nat) (p : Nat),(p = 0 ∨ oneF o C n A v ss[p - 1]? = true) → recheckF o C n A v ss l p = recheckA C n o A v ss l
 | [],p,_=>rfl
 | c :: l,p,hp=>by
   have h1 : (match Nat.beq (c + 1) p with
    | true=>true
    | false=>oneF o C n A v ss[c]?) = oneF o C n A v ss[c]?:= by
    cases hb : Nat.beq (c + 1) p with
    | false=>rfl
    | true=>
      have:=Nat.eq_of_beq_eq_true hb
      subst this
      rcases hp with hp | hp
      ·omega
      ·simpa using hp.symm
   have h3 : recheckA C n o A v ss (c :: l) = ((oneF o C n A v ss[c]? && oneF o C n A v ss[c + 1]?) && recheckA C n o A v ss l):=by rw [oneF_two]; rfl
   rw [h3]
   simp only [recheckF,h1]
   cases oneF o C n A v ss[c]? with
   | false=>rfl
   | true=>
     cases h2 : oneF o C n A v ss[c + 1]? with
     | false=>rfl
     | true=>simp only [Bool.true_and]; exact recheckF_is o C n A v ss l (c + 2) (.inr (by simpa using h2))
noncomputable def rechecksF (C : Ctx) (n : Nat) (ss : List St) : List XOp → List (As × AV) → Bool
 | [],_=>true
 | o :: l,rs=>match rs with
   | []=>true
   | r :: rs=>match r with
     | (A,v)=>match (match wantF o.guard A with
       | true=>recheckF o C n A v ss o.loose 0
       | false=>true) with
       | true=>rechecksF C n ss l rs
       | false=>false
theorem rechecksF_is (C : Ctx) (n : Nat) (ss : List St) : ∀ (l : List XOp) (rs : List (As × AV)),rechecksF C n ss l rs = rechecksA C n ss l rs
 | [],rs=>by cases rs <;> rfl
 | o :: l,[]=>rfl
 | o :: l,(A,v) :: rs=>by
   simp only [rechecksF,rechecksA,rechecksF_is C n ss l rs,wantF_is,recheckF_is o C n A v ss o.loose 0 (.inl rfl)]
   cases wantA o A
   ·rfl
   ·cases recheckA C n o A v ss o.loose <;> rfl
noncomputable def drawnF (l : List XOp) (C : Ctx) (call : CallO) (n : Nat) (A : As) (σ : St) : Option (As × St):=
 match runF l C call n A σ with
 | none=>none
 | some q=>match q with
   | (A',σ',rs,ss)=>match rechecksF C n ss l rs with
     | true=>some (A',σ')
     | false=>none
theorem drawnF_is (l : List XOp) (C : Ctx) (call : CallO) (n : Nat) (A : As) (σ : St) : drawnF l C call n A σ = evDrawnA C call n l A σ:=by
 unfold drawnF evDrawnA
 rw [runF_is]
 cases evRunA C call n l A σ with
 | none=>rfl
 | some q=>
   obtain ⟨A',σ',rs,ss⟩:=q
   simp only [rechecksF_is]
   cases rechecksA C n ss l rs <;> rfl
def xeF (r : Option (As × St)) : Option (XE × As × St):=
 match r with
 | none=>none
 | some p=>match p with
   | (A,σ)=>some (.normal,A,σ)
def keepF : List Nat → As → As
 | []=>fun _=>[]
 | t :: k=>fun A=>(t,lookF A t) :: keepF k A
theorem keepF_is : ∀ (k : List Nat) (A : As),keepF k A = keepA k A
 | [],_=>rfl
 | t :: k,A=>by
   simp only [keepF,lookF_is,keepF_is k A]
   rfl
def loopF (b : BodyA) : Nat → As → St → Option (XE × As × St)
 | 0=>fun _ _=>none
 | n + 1=>fun A σ=>match b A σ with
   | none=>none
   | some q=>match q with
     | (x,A',σ')=>match x with
       | .normal=>loopF b n A' σ'
       | .exit i=>some (.exit i,A',σ')
       | .ret=>some (.ret,A',σ')
noncomputable def kC : KC → Ctx → CallO → Nat → Nat → As → St → Option (XE × As × St)
 | .skip=>fun _ _ _ _ A σ=>some (.normal,A,σ)
 | .ops l=>fun C call n _ A σ=>xeF (opsF l C call n A σ)
 | .plain l=>fun C call n _ A σ=>xeF (opsF l C call n A σ)
 | .drawn l=>fun C call n _ A σ=>xeF (drawnF l C call n A σ)
 | .seq a b=>fun C call n m A σ=>match kC a C call n m A σ with
   | none=>none
   | some q=>match q with
     | (x,A',σ')=>match x with
       | .normal=>kC b C call n m A' σ'
       | .exit i=>some (.exit i,A',σ')
       | .ret=>some (.ret,A',σ')
 | .cond c a b=>fun C call n m A σ=>match avF c C A with
   | .bool q=>match q with
     | true=>kC a C call n m A σ
     | false=>kC b C call n m A σ
   | _=>none
 | .block id b=>fun C call n m A σ=>match kC b C call n m A σ with
   | none=>none
   | some q=>match q with
     | (x,A',σ')=>match x with
       | .normal=>some (.normal,A',σ')
       | .exit i=>match Nat.beq i id with
         | true=>some (.normal,A',σ')
         | false=>some (.exit i,A',σ')
       | .ret=>some (.ret,A',σ')
 | .loop k b=>fun C call n m A σ=>loopF (fun A σ=>kC b C call n m (keepF k A) σ) m A σ
 | .exit k id=>fun _ _ _ _ A σ=>some (.exit id,keepF k A,σ)
 | .ret k=>fun _ _ _ _ A σ=>some (.ret,keepF k A,σ)
 | .scope b=>fun C call n m A σ=>kC b C call n m A σ
 | .fail=>fun _ _ _ _ _ _=>none
theorem opA_mono {C : Ctx} {c d : CallO} (h : CallLe c d) (n : Nat) (o : XOp) (A : As) (σ : St) : Le (evOpA C c n o A σ) (evOpA C d n o A σ):=by
 intro r hr
 unfold evOpA at hr ⊢
 split at hr
 ·rw [if_pos (by assumption)]
  split at hr
  ·exact hr
  ·exact h _ _ _ _ hr
  ·cases hr
 ·rw [if_neg (by assumption)]; exact hr
theorem opsA_mono {C : Ctx} {c d : CallO} (h : CallLe c d) (n : Nat) : ∀ (l : List XOp) (A : As) (σ : St),Le (evOpsA C c n l A σ) (evOpsA C d n l A σ)
 | [],_,_=>Le.rfl
 | o :: l,A,σ=>by
   intro r hr
   unfold evOpsA at hr ⊢
   cases ho : evOpA C c n o A σ with
   | none=>rw [ho] at hr; cases hr
   | some v=>
     rw [opA_mono h n o A σ v ho]
     rw [ho] at hr
     exact opsA_mono h n l _ _ r hr
theorem runA_mono {C : Ctx} {c d : CallO} (h : CallLe c d) (n : Nat) : ∀ (l : List XOp) (A : As) (σ : St),Le (evRunA C c n l A σ) (evRunA C d n l A σ)
 | [],_,_=>Le.rfl
 | o :: l,A,σ=>by
   intro r hr
   unfold evRunA at hr ⊢
   cases ho : evOpA C c n o A σ with
   | none=>rw [ho] at hr; cases hr
   | some v=>
     rw [opA_mono h n o A σ v ho]
     rw [ho] at hr
     obtain ⟨v,σ'⟩:=v
     dsimp only at hr ⊢
     cases hrun : evRunA C c n l (putL A o.dst v) σ' with
     | none=>rw [hrun] at hr; cases hr
     | some q=>
       rw [runA_mono h n l _ _ q hrun]
       rw [hrun] at hr
       exact hr
theorem drawnA_mono {C : Ctx} {c d : CallO} (h : CallLe c d) (n : Nat) (l : List XOp) (A : As) (σ : St) : Le (evDrawnA C c n l A σ) (evDrawnA C d n l A σ):=by
 intro r hr
 unfold evDrawnA at hr ⊢
 cases hrun : evRunA C c n l A σ with
 | none=>rw [hrun] at hr; cases hr
 | some q=>
   rw [runA_mono h n l _ _ q hrun]
   rw [hrun] at hr
   exact hr
theorem loopF_le {b b' : BodyA} (h : ∀ A σ,Le (b A σ) (b' A σ)) : ∀ (n : Nat) (A : As) (σ : St),Le (loopF b n A σ) (loopA b' n A σ)
 | 0,_,_=>Le.none
 | n + 1,A,σ=>by
   intro r hr
   unfold loopF at hr
   unfold loopA
   cases hb : b A σ with
   | none=>rw [hb] at hr; cases hr
   | some q=>
     rw [h A σ q hb]
     rw [hb] at hr
     obtain ⟨x,A',σ'⟩:=q
     cases x with
     | normal=>exact loopF_le h n A' σ' r hr
     | exit i=>exact hr
     | ret=>exact hr
theorem kC_le {C : Ctx} {c d : CallO} (h : CallLe c d) (n m : Nat) : ∀ (k : KC) (A : As) (σ : St),Le (kC k C c n m A σ) (semK C d n k A σ)
 | .skip,_,_=>Le.rfl
 | .ops l,A,σ=>by
   intro r hr
   simp only [kC,opsF_is] at hr
   rw [semK_ops]
   cases ho : evOpsA C c n l A σ with
   | none=>rw [ho] at hr; cases hr
   | some q=>rw [opsA_mono h n l A σ q ho]; rw [ho] at hr; exact hr
 | .plain l,A,σ=>by
   intro r hr
   simp only [kC,opsF_is] at hr
   rw [semK_plain]
   cases ho : evOpsA C c n l A σ with
   | none=>rw [ho] at hr; cases hr
   | some q=>rw [opsA_mono h n l A σ q ho]; rw [ho] at hr; exact hr
 | .drawn l,A,σ=>by
   intro r hr
   simp only [kC,drawnF_is] at hr
   rw [semK_drawn]
   cases ho : evDrawnA C c n l A σ with
   | none=>rw [ho] at hr; cases hr
   | some q=>rw [drawnA_mono h n l A σ q ho]; rw [ho] at hr; exact hr
 | .seq a b,A,σ=>by
   intro r hr
   simp only [kC] at hr
   rw [semK_seq]
   cases ha : kC a C c n m A σ with
   | none=>rw [ha] at hr; cases hr
   | some q=>
     rw [kC_le h n m a A σ q ha]
     rw [ha] at hr
     obtain ⟨x,A',σ'⟩:=q
     cases x with
     | normal=>exact kC_le h n m b A' σ' r hr
     | exit i=>exact hr
     | ret=>exact hr
 | .cond x a b,A,σ=>by
   intro r hr
   simp only [kC,avF_is] at hr
   rw [semK_cond]
   split at hr
   ·rename_i q hq
    rw [hq]
    cases q
    ·exact kC_le h n m b A σ r hr
    ·exact kC_le h n m a A σ r hr
   ·cases hr
 | .block id b,A,σ=>by
   intro r hr
   simp only [kC] at hr
   rw [semK_block]
   cases ha : kC b C c n m A σ with
   | none=>rw [ha] at hr; cases hr
   | some q=>
     rw [kC_le h n m b A σ q ha]
     rw [ha] at hr
     obtain ⟨x,A',σ'⟩:=q
     cases x with
     | normal=>exact hr
     | exit i=>
       simp only [beq_dec] at hr
       by_cases hi : i = id
       ·simp [hi] at hr ⊢; exact hr
       ·simp [hi] at hr ⊢; exact hr
     | ret=>exact hr
 | .loop k b,A,σ=>by
   intro r hr
   simp only [kC,keepF_is] at hr
   show semLoopA (fun e σ=>semK C d n b (keepA k e) σ) A σ = some r
   exact semLoopA_some.mpr ⟨m,loopF_le (fun A σ=>kC_le h n m b (keepA k A) σ) m A σ r hr⟩
 | .exit k id,A,σ=>by
   intro r hr
   simp only [kC,keepF_is] at hr
   exact hr
 | .ret k,A,σ=>by
   intro r hr
   simp only [kC,keepF_is] at hr
   exact hr
 | .scope b,A,σ=>by
   intro r hr
   simp only [kC] at hr
   exact kC_le h n m b A σ r hr
 | .fail,_,_=>Le.none
inductive Ent where
 | prim (h : List AV → St → Option (AV × St))
 | code (K : KF) (raw : Bool)
inductive Tr where
 | nil
 | node (l : Tr) (k : Nat) (v : Ent) (r : Tr)
def Tr.find : Tr → Nat → Option Ent
 | .nil=>fun _=>none
 | .node l k v r=>fun n=>match Nat.beq n k with
   | true=>some v
   | false=>match Nat.ble n k with
     | true=>l.find n
     | false=>r.find n
noncomputable def runEF (C : Ctx) (call : CallO) (m : Nat) (K : KF) (raw : Bool) (args : List AV) (σ : St) : Option (AV × St):=
 match hand raw args σ with
 | none=>none
 | some p=>match p with
   | (args,σ1)=>if args.length > K.ntmps then none else
     match kC K.body C call K.ntmps m (argsA 0 args) σ1 with
     | none=>none
     | some q=>match q with
       | (x,e,σ2)=>match x with
         | .exit _=>none
         | _=>match resL e σ2 K.results with
           | none=>none
           | some vs=>match hand raw vs σ2 with
             | none=>none
             | some p=>match p with
               | (vs,σ3)=>some (tupleOf vs,tidy σ.length vs σ3)
noncomputable def kF (C : Ctx) (T : Tr) : Nat → CallO
 | 0=>fun _ _ _=>none
 | n + 1=>fun f args σ=>match T.find f with
   | none=>none
   | some t=>match t with
     | .prim h=>h args σ
     | .code K raw=>runEF C (kF C T n) n K raw args σ
structure TrOK (C : Ctx) (T : Tr) : Prop where
 prim : ∀ f h,T.find f = some (.prim h) → C.prim f = some h
 code : ∀ f K raw,T.find f = some (.code K raw) → C.prim f = none ∧ C.fs f = some K.forget ∧ C.raw f = raw ∧ K.ok = true
theorem kF_le {C : Ctx} {T : Tr} (hT : TrOK C T) : ∀ n,CallLe (kF C T n) (semF C)
 | 0=>fun _ _ _=>Le.none
 | n + 1=>by
   have ih:=kF_le hT n
   intro f args σ r hr
   simp only [kF] at hr
   cases ht : T.find f with
   | none=>rw [ht] at hr; cases hr
   | some t=>
     rw [ht] at hr
     cases t with
     | prim h=>
       rw [semF_eq]
       unfold funF
       rw [hT.prim f h ht]
       exact hr
     | code K raw=>
       obtain ⟨h1,h2,h3,h4⟩:=hT.code f K raw ht
       rw [semF_K h2 h1 h3 h4]
       unfold runK
       dsimp only at hr
       unfold runEF at hr
       cases hh : hand raw args σ with
       | none=>rw [hh] at hr; cases hr
       | some p=>
         rw [hh] at hr
         obtain ⟨as,σ1⟩:=p
         dsimp only at hr ⊢
         split at hr
         ·cases hr
         ·rename_i hl
          rw [if_neg hl]
          cases hk : kC K.body C (kF C T n) K.ntmps n (argsA 0 as) σ1 with
          | none=>rw [hk] at hr; cases hr
          | some q=>
            rw [kC_le ih K.ntmps n K.body _ _ q hk]
            rw [hk] at hr
            obtain ⟨x,e,σ2⟩:=q
            cases x with
            | exit i=>cases hr
            | normal=>
              dsimp only at hr ⊢
              cases hres : resL e σ2 K.results with
              | none=>rw [hres] at hr; cases hr
              | some vs=>
                rw [hres] at hr
                dsimp only at hr ⊢
                cases h2 : hand raw vs σ2 with
                | none=>rw [h2] at hr; cases hr
                | some p=>rw [h2] at hr; exact hr
            | ret=>
              dsimp only at hr ⊢
              cases hres : resL e σ2 K.results with
              | none=>rw [hres] at hr; cases hr
              | some vs=>
                rw [hres] at hr
                dsimp only at hr ⊢
                cases h2 : hand raw vs σ2 with
                | none=>rw [h2] at hr; cases hr
                | some p=>rw [h2] at hr; exact hr
end Go.Ev
namespace Go.Ev
set_option linter.unusedVariables false
noncomputable section
inductive EV where
 | nil
 | cons (t : Nat) (v : AV) (r : EV)
def lkNil (t : Nat) : AV:=.undef
def lkCons (k : Nat) (v : AV) (r : EV) (ih : Nat → AV) (t : Nat) : AV:=Bool.rec (ih t) v (Nat.beq k t)
def lkR (A : EV) : Nat → AV:=EV.rec (motive:=fun _=>Nat → AV) lkNil lkCons A
def forceAV {ρ : Type} (v : AV) : (AV → ρ) → ρ:=
 AV.rec (motive_1:=fun _=>(AV → ρ) → ρ) (motive_2:=fun _=>Unit)
  (fun b k=>k (.bool b)) (fun a b k=>k (.int a b)) (fun s k=>k (.str s)) (fun k=>k .nilp) (fun a b k=>k (.ref a b)) (fun a _ k=>k (.eptr a)) (fun k=>k .nils) (fun k=>k .emp) (fun a b _ k=>k (.sl a b)) (fun a b _ k=>k (.xsl a b))
  (fun a b c d k=>k (.msl a b c d)) (fun a k=>k (.map a)) (fun k=>k .nilMap) (fun a b c _ _ k=>k (.func a b c)) (fun k=>k .nilFunc) (fun a b _ k=>k (.iface a b)) (fun k=>k .nilIface) (fun a _ k=>k (.agg a)) (fun a _ k=>k (.tup a)) () (fun _ _ _ _=>()) v
structure QX where
 C : Ctx
 call : CallO
 n : Nat
def lkAt (n : Nat) (X : QX) (A : EV) : AV:=lkR A n
def cstAt (v : AV) (X : QX) (A : EV) : AV:=v
def glAt (n : Nat) (X : QX) (A : EV) : AV:=.eptr ((X.C.gl n).getD [])
def avR (x : XA) : QX → EV → AV:=XA.rec (motive:=fun _=>QX → EV → AV) lkAt cstAt glAt x
inductive VI where
 | int (k : IntKind) (n : Int)
 | str (s : List UInt8)
 | no
inductive VP where
 | ref (o off : Nat)
 | eptr (l : List AV)
 | no
def viR (v : AV) : VI:=
 AV.rec (motive_1:=fun _=>VI) (motive_2:=fun _=>Unit)
  (fun _=>.no) (fun k n=>.int k n) (fun s=>.str s) .no (fun _ _=>.no) (fun _ _=>.no) .no .no (fun _ _ _=>.no) (fun _ _ _=>.no)
  (fun _ _ _ _=>.no) (fun _=>.no) .no (fun _ _ _ _ _=>.no) .no (fun _ _ _=>.no) .no (fun _ _=>.no) (fun _ _=>.no) () (fun _ _ _ _=>()) v
def vpR (v : AV) : VP:=
 AV.rec (motive_1:=fun _=>VP) (motive_2:=fun _=>Unit)
  (fun _=>.no) (fun k n=>.no) (fun s=>.no) .no (fun o f=>.ref o f) (fun l _=>.eptr l) .no .no (fun _ _ _=>.no) (fun _ _ _=>.no)
  (fun _ _ _ _=>.no) (fun _=>.no) .no (fun _ _ _ _ _=>.no) .no (fun _ _ _=>.no) .no (fun _ _=>.no) (fun _ _=>.no) () (fun _ _ _ _=>()) v
def boolR (v : AV) : Option Bool:=
 AV.rec (motive_1:=fun _=>Option Bool) (motive_2:=fun _=>Unit)
  (fun b=>some b) (fun k n=>none) (fun s=>none) none (fun o f=>none) (fun l _=>none) none none (fun _ _ _=>none) (fun _ _ _=>none)
  (fun _ _ _ _=>none) (fun _=>none) none (fun _ _ _ _ _=>none) none (fun _ _ _=>none) none (fun _ _=>none) (fun _ _=>none) () (fun _ _ _ _=>()) v
def tupR (v : AV) : Option (List AV):=
 AV.rec (motive_1:=fun _=>Option (List AV)) (motive_2:=fun _=>Unit)
  (fun b=>none) (fun k n=>none) (fun s=>none) none (fun o f=>none) (fun l _=>none) none none (fun _ _ _=>none) (fun _ _ _=>none)
  (fun _ _ _ _=>none) (fun _=>none) none (fun _ _ _ _ _=>none) none (fun _ _ _=>none) none (fun _ _=>none) (fun l _=>some l) () (fun _ _ _ _=>()) v
def kNumR (k : IntKind) : Nat:=IntKind.rec 0 1 2 3 4 5 6 7 k
def wrap64R (n : Int) : Int:=
 Int.rec (motive:=fun _=>Int) (fun m=>Bool.rec (IntKind.i64.wrap (.ofNat m)) (.ofNat m) (Nat.ble m 9223372036854775807)) (fun m=>Bool.rec (IntKind.i64.wrap (.negSucc m)) (.negSucc m) (Nat.ble m 9223372036854775807)) n
def wrapU8R (n : Int) : Int:=Int.rec (motive:=fun _=>Int) (fun m=>.ofNat (Nat.mod m 256)) (fun m=>IntKind.u8.wrap (.negSucc m)) n
def wrapR (k : IntKind) : Int → Int:=IntKind.rec IntKind.i8.wrap IntKind.i16.wrap IntKind.i32.wrap wrap64R wrapU8R IntKind.u16.wrap IntKind.u32.wrap IntKind.u64.wrap k
def iBeqR (x y : Int) : Bool:=Int.rec (motive:=fun _=>Bool) (fun m=>Int.rec (motive:=fun _=>Bool) (fun n=>Nat.beq m n) (fun _=>false) y) (fun m=>Int.rec (motive:=fun _=>Bool) (fun _=>false) (fun n=>Nat.beq m n) y) x
def iBleR (x y : Int) : Bool:=Int.rec (motive:=fun _=>Bool) (fun m=>Int.rec (motive:=fun _=>Bool) (fun n=>Nat.ble m n) (fun _=>false) y) (fun m=>Int.rec (motive:=fun _=>Bool) (fun _=>true) (fun n=>Nat.ble n m) y) x
def iAddR (x y : Int) : Int:=Int.rec (motive:=fun _=>Int) (fun m=>Int.rec (motive:=fun _=>Int) (fun n=>.ofNat (Nat.add m n)) (fun n=>Int.add (.ofNat m) (.negSucc n)) y) (fun m=>Int.add (.negSucc m) y) x
def iSubR (x y : Int) : Int:=Int.rec (motive:=fun _=>Int) (fun m=>Int.rec (motive:=fun _=>Int) (fun n=>Bool.rec (Int.sub (.ofNat m) (.ofNat n)) (.ofNat (Nat.sub m n)) (Nat.ble n m)) (fun n=>Int.sub (.ofNat m) (.negSucc n)) y) (fun m=>Int.sub (.negSucc m) y) x
def notR (b : Bool) : Bool:=Bool.rec true false b
def binIntR (op : BinOp) : IntKind → Int → Int → Option AV:=
 match op with
 | .add=>fun k a b=>some (.int k (wrapR k (iAddR a b)))
 | .sub=>fun k a b=>some (.int k (wrapR k (iSubR a b)))
 | .mul=>fun k a b=>some (.int k (wrapR k (Int.mul a b)))
 | .eql=>fun k a b=>some (.bool (iBeqR a b))
 | .neq=>fun k a b=>some (.bool (notR (iBeqR a b)))
 | .lss=>fun k a b=>some (.bool (notR (iBleR b a)))
 | .leq=>fun k a b=>some (.bool (iBleR a b))
 | .gtr=>fun k a b=>some (.bool (notR (iBleR a b)))
 | .geq=>fun k a b=>some (.bool (iBleR b a))
 | op=>fun k a b=>binInt op k a b
def isShiftR (op : BinOp) : Bool:=match op with
 | .shl=>true
 | .shr=>true
 | _=>false
def binR (op : BinOp) (ek : Nat) (cst : Bool) (x y : AV) : Option AV:=
 VI.rec (motive:=fun _=>Option AV)
  (fun k a=>VI.rec (motive:=fun _=>Option AV)
   (fun k' b=>Bool.rec (Bool.rec none (binIntR op k a b) (Nat.beq (kNumR k) (kNumR k'))) (shiftInt op k a b) (isShift op))
   (fun _=>binOp op ek cst x y) (binOp op ek cst x y) (viR y))
  (fun s=>VI.rec (motive:=fun _=>Option AV) (fun _ _=>binOp op ek cst x y) (fun t=>binStrF op s t) (binOp op ek cst x y) (viR y))
  (binOp op ek cst x y) (viR x)
def nthR {α : Type} (l : List α) : Nat → Option α:=
 List.rec (motive:=fun _=>Nat → Option α) (fun _=>none) (fun a _ ih n=>Nat.rec (motive:=fun _=>Option α) (some a) (fun m _=>ih m) n) l
def asNatR (v : AV) : Option Nat:=
 VI.rec (motive:=fun _=>Option Nat) (fun _ n=>Int.rec (motive:=fun _=>Option Nat) (fun m=>some m) (fun _=>none) n) (fun _=>none) none (viR v)
abbrev Run1:=QX → EV → St → Option (EV × St)
def putK (d : Nat) (ih : Run1) (X : QX) (A : EV) (σ : St) (v : AV) : Option (EV × St):=ih X (.cons d v A) σ
def putS (d : Nat) (v : AV) (ih : Run1) (X : QX) (A : EV) (σ : St) : Option (EV × St):=forceAV v (putK d ih X A σ)
def noPut (v : AV) (ih : Run1) (X : QX) (A : EV) (σ : St) : Option (EV × St):=ih X A σ
def onPut (d : Option Nat) : AV → Run1 → Run1:=Option.rec (motive:=fun _=>AV → Run1 → Run1) noPut putS d
def noneS (d : Option Nat) (ih : Run1) (X : QX) (A : EV) (σ : St) : Option (EV × St):=none
def someS (v : AV) (d : Option Nat) (ih : Run1) (X : QX) (A : EV) (σ : St) : Option (EV × St):=onPut d v ih X A σ
def valS (r : Option AV) : Option Nat → Run1 → Run1:=Option.rec (motive:=fun _=>Option Nat → Run1 → Run1) noneS someS r
def pairS (v : AV) (σ' : St) (d : Option Nat) (ih : Run1) (X : QX) (A : EV) : Option (EV × St):=onPut d v ih X A σ'
def noneP (d : Option Nat) (ih : Run1) (X : QX) (A : EV) : Option (EV × St):=none
def someP (p : AV × St) : Option Nat → Run1 → QX → EV → Option (EV × St):=Prod.rec (motive:=fun _=>Option Nat → Run1 → QX → EV → Option (EV × St)) pairS p
def resS (r : Option (AV × St)) : Option Nat → Run1 → QX → EV → Option (EV × St):=Option.rec (motive:=fun _=>Option Nat → Run1 → QX → EV → Option (EV × St)) noneP someP r
def outV (v : AV) (σ : St) (d : Option Nat) (ih : Run1) (X : QX) (A : EV) : Option (EV × St):=onPut d v ih X A σ
def outC (f : FuncId) (args : List AV) (σ : St) (d : Option Nat) (ih : Run1) (X : QX) (A : EV) : Option (EV × St):=resS (X.call f args σ) d ih X A
def outO (o : Out) : Option Nat → Run1 → QX → EV → Option (EV × St):=Out.rec (motive:=fun _=>Option Nat → Run1 → QX → EV → Option (EV × St)) outV outC o
def outS (r : Option Out) : Option Nat → Run1 → QX → EV → Option (EV × St):=Option.rec (motive:=fun _=>Option Nat → Run1 → QX → EV → Option (EV × St)) noneP outO r
abbrev Step:=Option Nat → Run1 → Run1
def sMv (x : XA) (d : Option Nat) (ih : Run1) (X : QX) (A : EV) (σ : St) : Option (EV × St):=onPut d (avR x X A) ih X A σ
def binRC (np : Bool) (op : BinOp) (ek : Nat) (cst : Bool) (x y : AV) : Option AV:=Bool.rec (motive:=fun _=>Option AV) (binR op ek cst x y) (Bool.rec (motive:=fun _=>Option AV) (binR op ek cst x y) none (ptr2 x y)) np
def sBin (op : BinOp) (ek : Nat) (cst : Bool) (x y : XA) (d : Option Nat) (ih : Run1) (X : QX) (A : EV) (σ : St) : Option (EV × St):=valS (binRC X.C.np op ek cst (avR x X A) (avR y X A)) d ih X A σ
def i2iR (k : IntKind) (v : AV) : Option AV:=VI.rec (motive:=fun _=>Option AV) (fun _ n=>some (.int k (wrapR k n))) (fun _=>none) none (viR v)
def sI2i (k : IntKind) (x : XA) (d : Option Nat) (ih : Run1) (X : QX) (A : EV) (σ : St) : Option (EV × St):=valS (i2iR k (avR x X A)) d ih X A σ
def idxB (b : UInt8) : Option AV:=some (.int .u8 (.ofNat b.toNat))
def idxO (r : Option UInt8) : Option AV:=Option.rec (motive:=fun _=>Option AV) none idxB r
def idxN (s : List UInt8) (i : Option Nat) : Option AV:=Option.rec (motive:=fun _=>Option AV) none (fun i=>idxO (nthR s i)) i
def idxR (x i : AV) : Option AV:=VI.rec (motive:=fun _=>AV → Option AV) (fun _ _ _=>none) (fun s i=>idxN s (asNatR i)) (fun _=>none) (viR x) i
def sIdxStr (x i : XA) (d : Option Nat) (ih : Run1) (X : QX) (A : EV) (σ : St) : Option (EV × St):=valS (idxR (avR x X A) (avR i X A)) d ih X A σ
def extR (l : Option (List AV)) (i : Nat) : Option AV:=Option.rec (motive:=fun _=>Option AV) none (fun l=>nthR l i) l
def sExtract (x : XA) (i : Nat) (d : Option Nat) (ih : Run1) (X : QX) (A : EV) (σ : St) : Option (EV × St):=valS (extR (tupR (avR x X A)) i) d ih X A σ
def pickR (q : Option Bool) (x y : AV) : Option AV:=Option.rec (motive:=fun _=>Option AV) none (fun b=>Bool.rec (some y) (some x) b) q
def sPick (c x y : XA) (d : Option Nat) (ih : Run1) (X : QX) (A : EV) (σ : St) : Option (EV × St):=valS (pickR (boolR (avR c X A)) (avR x X A) (avR y X A)) d ih X A σ
def mapR (X : QX) (A : EV) (l : List XA) : List AV:=List.rec (motive:=fun _=>List AV) [] (fun x _ ih=>avR x X A :: ih) l
def sCallF (f : FuncId) (l : List XA) (d : Option Nat) (ih : Run1) (X : QX) (A : EV) (σ : St) : Option (EV × St):=resS (X.call f (mapR X A l) σ) d ih X A
def q_new (z : List AV) (ty : Option (TypeId × Bool)) (C : Ctx) (a : XA → AV) (n0 : Nat) (σ : St) : Option Out:=some (.val (.ref σ.length 0) (σ ++ [.cells z ⟨false,ty⟩]))
def s_new (x0 : List AV) (x1 : Option (TypeId × Bool)) (d : Option Nat) (ih : Run1) (X : QX) (A : EV) (σ : St) : Option (EV × St):=outS (q_new x0 x1 X.C (fun x=>avR x X A) X.n σ) d ih X A
def q_box (x : XA) (C : Ctx) (a : XA → AV) (n0 : Nat) (σ : St) : Option Out:=some (.val (.ref σ.length 0) (σ ++ [.cells (a x).cells ⟨false,none⟩]))
def s_box (x0 : XA) (d : Option Nat) (ih : Run1) (X : QX) (A : EV) (σ : St) : Option (EV × St):=outS (q_box x0 X.C (fun x=>avR x X A) X.n σ) d ih X A
def q_build (z : List AV) (ps : List (Nat × Nat × XA)) (C : Ctx) (a : XA → AV) (n0 : Nat) (σ : St) : Option Out:=match fillA z (ps.map fun (o,s,x)=>(o,s,a x)) with
    | some l=>some (.val (.agg l) σ)
    | none=>none
def s_build (x0 : List AV) (x1 : List (Nat × Nat × XA)) (d : Option Nat) (ih : Run1) (X : QX) (A : EV) (σ : St) : Option (EV × St):=outS (q_build x0 x1 X.C (fun x=>avR x X A) X.n σ) d ih X A
def q_buildSl (z : List AV) (n : Nat) (sz : Nat) (ps : List (Nat × Nat × XA)) (C : Ctx) (a : XA → AV) (n0 : Nat) (σ : St) : Option Out:=match fillA (rep z n) (ps.map fun (o,s,x)=>(o,s,a x)) with
    | some l=>if l.length = n * sz then some (outSl (asObj z) n sz l σ) else none
    | none=>none
def s_buildSl (x0 : List AV) (x1 : Nat) (x2 : Nat) (x3 : List (Nat × Nat × XA)) (d : Option Nat) (ih : Run1) (X : QX) (A : EV) (σ : St) : Option (EV × St):=outS (q_buildSl x0 x1 x2 x3 X.C (fun x=>avR x X A) X.n σ) d ih X A
def q_load (ag : Bool) (sz : Nat) (x : XA) (w0 : Ctx) (a : XA → AV) (w2 : Nat) (σ : St) : Option Out:=match a x with
    | .eptr l=>match ptF ag sz l with
      | some v=>some (.val v σ)
      | none=>none
    | .ref o off=>match nthF σ o with
      | some q=>match q with
        | .cells l _=>match ptF ag sz (dropF off l) with
          | some v=>some (.val v σ)
          | none=>none
        | _=>none
      | none=>none
    | _=>none
def s_load (x0 : Bool) (x1 : Nat) (x2 : XA) (d : Option Nat) (ih : Run1) (X : QX) (A : EV) (σ : St) : Option (EV × St):=outS (q_load x0 x1 x2 X.C (fun x=>avR x X A) X.n σ) d ih X A
def q_store (sz : Nat) (p : XA) (x : XA) (C : Ctx) (a : XA → AV) (n0 : Nat) (σ : St) : Option Out:=match a p with
    | .ref o off=>match σ[o]? with
      | some (.cells l ⟨false,t⟩)=>
        let cs:=(a x).cells
        if cs.length = sz ∧ off + sz ≤ l.length ∧ cs.all AV.flat then some (.val .undef (σ.set o (.cells (splice l off cs) ⟨false,t⟩))) else none
      | _=>none
    | _=>none
def s_store (x0 : Nat) (x1 : XA) (x2 : XA) (d : Option Nat) (ih : Run1) (X : QX) (A : EV) (σ : St) : Option (EV × St):=outS (q_store x0 x1 x2 X.C (fun x=>avR x X A) X.n σ) d ih X A
def q_nilck (x : XA) (C : Ctx) (a : XA → AV) (n0 : Nat) (σ : St) : Option Out:=match a x with
    | .ref o f=>some (.val (.ref o f) σ)
    | .eptr l=>some (.val (.eptr l) σ)
    | .iface t v=>some (.val (.iface t v) σ)
    | .func (.func f) x y=>some (.val (.func (.func f) x y) σ)
    | _=>none
def s_nilck (x0 : XA) (d : Option Nat) (ih : Run1) (X : QX) (A : EV) (σ : St) : Option (EV × St):=outS (q_nilck x0 X.C (fun x=>avR x X A) X.n σ) d ih X A
def q_un (op : UnOp) (x : XA) (w0 : Ctx) (a : XA → AV) (w2 : Nat) (σ : St) : Option Out:=match unOp op (a x) with
    | some v=>some (.val v σ)
    | none=>none
def s_un (x0 : UnOp) (x1 : XA) (d : Option Nat) (ih : Run1) (X : QX) (A : EV) (σ : St) : Option (EV × St):=outS (q_un x0 x1 X.C (fun x=>avR x X A) X.n σ) d ih X A
def q_s2s (x : XA) (C : Ctx) (a : XA → AV) (n0 : Nat) (σ : St) : Option Out:=match a x with
    | .str s=>some (.val (.str s) σ)
    | _=>none
def s_s2s (x0 : XA) (d : Option Nat) (ih : Run1) (X : QX) (A : EV) (σ : St) : Option (EV × St):=outS (q_s2s x0 X.C (fun x=>avR x X A) X.n σ) d ih X A
def q_i2s (x : XA) (C : Ctx) (a : XA → AV) (n0 : Nat) (σ : St) : Option Out:=match a x with
    | .int _ n=>some (.val (.str (Utf8.encode n).data.toList) σ)
    | _=>none
def s_i2s (x0 : XA) (d : Option Nat) (ih : Run1) (X : QX) (A : EV) (σ : St) : Option (EV × St):=outS (q_i2s x0 X.C (fun x=>avR x X A) X.n σ) d ih X A
def q_b2s (x : XA) (C : Ctx) (a : XA → AV) (n0 : Nat) (σ : St) : Option Out:=match slCells σ 1 (a x) with
    | some (_,l)=>(bytesOf l).map fun s=>.val (.str s) σ
    | none=>none
def s_b2s (x0 : XA) (d : Option Nat) (ih : Run1) (X : QX) (A : EV) (σ : St) : Option (EV × St):=outS (q_b2s x0 X.C (fun x=>avR x X A) X.n σ) d ih X A
def q_s2b (x : XA) (C : Ctx) (a : XA → AV) (n0 : Nat) (σ : St) : Option Out:=match a x with
    | .str s=>some (.val (.sl s.length (ofBytes s)) σ)
    | _=>none
def s_s2b (x0 : XA) (d : Option Nat) (ih : Run1) (X : QX) (A : EV) (σ : St) : Option (EV × St):=outS (q_s2b x0 X.C (fun x=>avR x X A) X.n σ) d ih X A
def q_s2r (x : XA) (C : Ctx) (a : XA → AV) (n0 : Nat) (σ : St) : Option Out:=match a x with
    | .str s=>if s.length ≤ 70368744177664 then some (.val (.sl (runesOf s).length (ofRunes (runesOf s))) σ) else none
    | _=>none
def s_s2r (x0 : XA) (d : Option Nat) (ih : Run1) (X : QX) (A : EV) (σ : St) : Option (EV × St):=outS (q_s2r x0 X.C (fun x=>avR x X A) X.n σ) d ih X A
def q_mkIface (t : TypeId) (x : XA) (C : Ctx) (a : XA → AV) (n0 : Nat) (σ : St) : Option Out:=some (.val (.iface t (a x)) σ)
def s_mkIface (x0 : TypeId) (x1 : XA) (d : Option Nat) (ih : Run1) (X : QX) (A : EV) (σ : St) : Option (EV × St):=outS (q_mkIface x0 x1 X.C (fun x=>avR x X A) X.n σ) d ih X A
def q_mkFunc (fn : Fn) (first : List XA) (captured : List XA) (C : Ctx) (a : XA → AV) (n0 : Nat) (σ : St) : Option Out:=some (.val (.func fn (first.map a) (captured.map a)) σ)
def s_mkFunc (x0 : Fn) (x1 : List XA) (x2 : List XA) (d : Option Nat) (ih : Run1) (X : QX) (A : EV) (σ : St) : Option (EV × St):=outS (q_mkFunc x0 x1 x2 X.C (fun x=>avR x X A) X.n σ) d ih X A
def q_mkMap  (C : Ctx) (a : XA → AV) (n0 : Nat) (σ : St) : Option Out:=some (.val (.map σ.length) (σ ++ [.map []]))
def s_mkMap  (d : Option Nat) (ih : Run1) (X : QX) (A : EV) (σ : St) : Option (EV × St):=outS (q_mkMap  X.C (fun x=>avR x X A) X.n σ) d ih X A
def q_mkSlice (z : List AV) (sz : Nat) (bytes : Nat) (l : XA) (c : XA) (C : Ctx) (a : XA → AV) (n0 : Nat) (σ : St) : Option Out:=match a l,a c with
    | .int _ l,.int _ c=>
      if 0 ≤ l ∧ l ≤ c ∧ c ≤ 9223372036854775807 ∧ bytes * c ≤ 140737488355328 then
       some (.val (.msl σ.length 0 l.toNat sz) (σ ++ [.cells (rep z l.toNat) ⟨false,none⟩]))
      else none
    | _,_=>none
def s_mkSlice (x0 : List AV) (x1 : Nat) (x2 : Nat) (x3 : XA) (x4 : XA) (d : Option Nat) (ih : Run1) (X : QX) (A : EV) (σ : St) : Option (EV × St):=outS (q_mkSlice x0 x1 x2 x3 x4 X.C (fun x=>avR x X A) X.n σ) d ih X A
def q_sliceStr (x : XA) (lo : Option XA) (hi : Option XA) (C : Ctx) (a : XA → AV) (n0 : Nat) (σ : St) : Option Out:=match a x with
    | .str s=>match optNat 0 (lo.map a),optNat s.length (hi.map a) with
      | some l,some h=>if l ≤ h ∧ h ≤ s.length then some (.val (.str ((s.take h).drop l)) σ) else none
      | _,_=>none
    | _=>none
def s_sliceStr (x0 : XA) (x1 : Option XA) (x2 : Option XA) (d : Option Nat) (ih : Run1) (X : QX) (A : EV) (σ : St) : Option (EV × St):=outS (q_sliceStr x0 x1 x2 X.C (fun x=>avR x X A) X.n σ) d ih X A
def q_sliceSl (sz : Nat) (x : XA) (lo : Option XA) (hi : Option XA) (mx : Option XA) (C : Ctx) (a : XA → AV) (n0 : Nat) (σ : St) : Option Out:=
    match a x with
    | .nils=>match optNat 0 (lo.map a),optNat 0 (hi.map a),mx with
      | some 0,some 0,none=>some (.val .nils σ)
      | _,_,_=>none
    | .xsl n l=>match optNat 0 (lo.map a),optNat n (hi.map a),mx with
      | some lo,some hi,none=>
        if lo ≤ hi ∧ hi ≤ n ∧ l.length = n * sz then some (.val (.sl (hi - lo) ((l.take (hi * sz)).drop (lo * sz))) σ) else none
      | _,_,_=>none
    | .sl n l=>match optNat 0 (lo.map a),optNat n (hi.map a),mx with
      | some lo,some hi,none=>
        if lo ≤ hi ∧ hi ≤ n ∧ l.length = n * sz then
         some (.val (.sl (hi - lo) ((l.take (hi * sz)).drop (lo * sz))) σ)
        else none
      | _,_,_=>none
    | .msl o off n s=>match optNat 0 (lo.map a),optNat n (hi.map a),mx with
      | some lo,some hi,none=>
        if lo ≤ hi ∧ hi ≤ n ∧ s = sz then
         some (.val (if lo = hi ∧ lo ≠ 0 then .emp else .msl o (off + lo * sz) (hi - lo) sz) σ)
        else none
      | _,_,_=>none
    | _=>none
def s_sliceSl (x0 : Nat) (x1 : XA) (x2 : Option XA) (x3 : Option XA) (x4 : Option XA) (d : Option Nat) (ih : Run1) (X : QX) (A : EV) (σ : St) : Option (EV × St):=outS (q_sliceSl x0 x1 x2 x3 x4 X.C (fun x=>avR x X A) X.n σ) d ih X A
def q_sliceArr (len : Nat) (sz : Nat) (x : XA) (lo : Option XA) (hi : Option XA) (mx : Option XA) (C : Ctx) (a : XA → AV) (n0 : Nat) (σ : St) : Option Out:=match a x with
    | .ref o off=>match σ[o]? with
      | some (.cells l _)=>match optNat 0 (lo.map a),optNat len (hi.map a),mx with
        | some lo,some hi,none=>if lo ≤ hi ∧ hi ≤ len ∧ off + len * sz ≤ l.length then some (.val (if lo = hi then .emp else .msl o (off + lo * sz) (hi - lo) sz) σ) else none
        | _,_,_=>none
      | _=>none
    | _=>none
def s_sliceArr (x0 : Nat) (x1 : Nat) (x2 : XA) (x3 : Option XA) (x4 : Option XA) (x5 : Option XA) (d : Option Nat) (ih : Run1) (X : QX) (A : EV) (σ : St) : Option (EV × St):=outS (q_sliceArr x0 x1 x2 x3 x4 x5 X.C (fun x=>avR x X A) X.n σ) d ih X A
def q_fieldAddr (off : Nat) (x : XA) (C : Ctx) (a : XA → AV) (n0 : Nat) (σ : St) : Option Out:=match a x with
    | .ref o f=>some (.val (.ref o (f + off)) σ)
    | .eptr l=>if off ≤ l.length then some (.val (.eptr (l.drop off)) σ) else none
    | _=>none
def s_fieldAddr (x0 : Nat) (x1 : XA) (d : Option Nat) (ih : Run1) (X : QX) (A : EV) (σ : St) : Option (EV × St):=outS (q_fieldAddr x0 x1 X.C (fun x=>avR x X A) X.n σ) d ih X A
def q_field (ag : Bool) (off : Nat) (sz : Nat) (x : XA) (w0 : Ctx) (a : XA → AV) (w2 : Nat) (σ : St) : Option Out:=match a x with
    | .agg l=>match ptF ag sz (dropF off l) with
      | some v=>some (.val v σ)
      | none=>none
    | _=>none
def s_field (x0 : Bool) (x1 : Nat) (x2 : Nat) (x3 : XA) (d : Option Nat) (ih : Run1) (X : QX) (A : EV) (σ : St) : Option (EV × St):=outS (q_field x0 x1 x2 x3 X.C (fun x=>avR x X A) X.n σ) d ih X A
def q_idxAddrArr (len : Nat) (sz : Nat) (x : XA) (i : XA) (C : Ctx) (a : XA → AV) (n0 : Nat) (σ : St) : Option Out:=match asNat (a i),a x with
    | some i,.ref o f=>if i < len then some (.val (.ref o (f + i * sz)) σ) else none
    | some i,.eptr l=>if i < len ∧ i * sz ≤ l.length then some (.val (.eptr (l.drop (i * sz))) σ) else none
    | _,_=>none
def s_idxAddrArr (x0 : Nat) (x1 : Nat) (x2 : XA) (x3 : XA) (d : Option Nat) (ih : Run1) (X : QX) (A : EV) (σ : St) : Option (EV × St):=outS (q_idxAddrArr x0 x1 x2 x3 X.C (fun x=>avR x X A) X.n σ) d ih X A
def q_idxAddrSl (sz : Nat) (x : XA) (i : XA) (C : Ctx) (a : XA → AV) (n0 : Nat) (σ : St) : Option Out:=match asNat (a i),a x with
    | some i,.sl n l=>if i < n ∧ l.length = n * sz then some (.val (.eptr (l.drop (i * sz))) σ) else none
    | some i,.xsl n l=>if i < n ∧ l.length = n * sz then some (.val (.eptr (l.drop (i * sz))) σ) else none
    | some i,.msl o off n s=>if i < n ∧ s = sz then some (.val (.ref o (off + i * sz)) σ) else none
    | _,_=>none
def s_idxAddrSl (x0 : Nat) (x1 : XA) (x2 : XA) (d : Option Nat) (ih : Run1) (X : QX) (A : EV) (σ : St) : Option (EV × St):=outS (q_idxAddrSl x0 x1 x2 X.C (fun x=>avR x X A) X.n σ) d ih X A
def q_idxArr (len : Nat) (ag : Bool) (sz : Nat) (x : XA) (i : XA) (C : Ctx) (a : XA → AV) (n0 : Nat) (σ : St) : Option Out:=match asNat (a i),a x with
    | some i,.agg l=>if i < len then (pt ag sz (l.drop (i * sz))).map (.val · σ) else none
    | _,_=>none
def s_idxArr (x0 : Nat) (x1 : Bool) (x2 : Nat) (x3 : XA) (x4 : XA) (d : Option Nat) (ih : Run1) (X : QX) (A : EV) (σ : St) : Option (EV × St):=outS (q_idxArr x0 x1 x2 x3 x4 X.C (fun x=>avR x X A) X.n σ) d ih X A
def q_lookup (z : AV) (m : XA) (k : XA) (ok : Bool) (C : Ctx) (a : XA → AV) (n0 : Nat) (σ : St) : Option Out:=
    match mapOf σ (a m) with
    | some es=>match findA (a k) es 0 with
      | some (some (_,v))=>some (.val (if ok then .tup [v,.bool true] else v) σ)
      | some none=>some (.val (if ok then .tup [z,.bool false] else z) σ)
      | none=>none
    | none=>none
def s_lookup (x0 : AV) (x1 : XA) (x2 : XA) (x3 : Bool) (d : Option Nat) (ih : Run1) (X : QX) (A : EV) (σ : St) : Option (EV × St):=outS (q_lookup x0 x1 x2 x3 X.C (fun x=>avR x X A) X.n σ) d ih X A
def q_mapUpd (m : XA) (k : XA) (v : XA) (C : Ctx) (a : XA → AV) (n0 : Nat) (σ : St) : Option Out:=match a m with
    | .map r=>match σ[r]? with
      | some (.map es)=>match a k with
        | .str s=>match findA (.str s) es 0 with
          | some (some (i,_))=>some (.val .undef (σ.set r (.map (es.set i (.str s,a v)))))
          | some none=>some (.val .undef (σ.set r (.map (es ++ [(.str s,a v)]))))
          | none=>none
        | _=>none
      | _=>none
    | _=>none
def s_mapUpd (x0 : XA) (x1 : XA) (x2 : XA) (d : Option Nat) (ih : Run1) (X : QX) (A : EV) (σ : St) : Option (EV × St):=outS (q_mapUpd x0 x1 x2 X.C (fun x=>avR x X A) X.n σ) d ih X A
def q_mapEntry (z : AV) (m : XA) (k : XA) (C : Ctx) (a : XA → AV) (n0 : Nat) (σ : St) : Option Out:=match a m with
    | .map r=>match σ[r]? with
      | some (.map es)=>match a k with
        | .str s=>match findA (.str s) es 0 with
          | some (some (i,v))=>some (.val (.tup [v,.int .i64 i]) σ)
          | some none=>some (.val (.tup [z,.int .i64 es.length]) (σ.set r (.map (es ++ [(.str s,z)]))))
          | none=>none
        | _=>none
      | _=>none
    | _=>none
def s_mapEntry (x0 : AV) (x1 : XA) (x2 : XA) (d : Option Nat) (ih : Run1) (X : QX) (A : EV) (σ : St) : Option (EV × St):=outS (q_mapEntry x0 x1 x2 X.C (fun x=>avR x X A) X.n σ) d ih X A
def q_entryStore (m : XA) (s : XA) (v : XA) (C : Ctx) (a : XA → AV) (n0 : Nat) (σ : St) : Option Out:=match a m,asNat (a s) with
    | .map r,some i=>match σ[r]? with
      | some (.map es)=>match es[i]? with
        | some (k,_)=>some (.val .undef (σ.set r (.map (es.set i (k,a v)))))
        | none=>none
      | _=>none
    | _,_=>none
def s_entryStore (x0 : XA) (x1 : XA) (x2 : XA) (d : Option Nat) (ih : Run1) (X : QX) (A : EV) (σ : St) : Option (EV × St):=outS (q_entryStore x0 x1 x2 X.C (fun x=>avR x X A) X.n σ) d ih X A
def q_app (str : Bool) (sz : Nat) (bytes : Nat) (ty : Option (TypeId × Bool)) (s : XA) (x : XA) (C : Ctx) (a : XA → AV) (n0 : Nat) (σ : St) : Option Out:=
    match srcCells σ sz (a x) with
    | some (m,cs)=>
      if isStr (a x) != str || !cs.all AV.flat then none else
      match appA σ sz bytes ty (a s) m cs with
      | some (v,σ')=>some (.val v σ')
      | none=>none
    | none=>none
def s_app (x0 : Bool) (x1 : Nat) (x2 : Nat) (x3 : Option (TypeId × Bool)) (x4 : XA) (x5 : XA) (d : Option Nat) (ih : Run1) (X : QX) (A : EV) (σ : St) : Option (EV × St):=outS (q_app x0 x1 x2 x3 x4 x5 X.C (fun x=>avR x X A) X.n σ) d ih X A
def q_len (k : Nat) (x : XA) (w0 : Ctx) (a : XA → AV) (w2 : Nat) (σ : St) : Option Out:=match lenF k σ (a x) with
    | some n=>some (.val (.int .i64 (.ofNat n)) σ)
    | none=>none
def s_len (x0 : Nat) (x1 : XA) (d : Option Nat) (ih : Run1) (X : QX) (A : EV) (σ : St) : Option (EV × St):=outS (q_len x0 x1 X.C (fun x=>avR x X A) X.n σ) d ih X A
def q_lenC (n : Nat) (C : Ctx) (a : XA → AV) (n0 : Nat) (σ : St) : Option Out:=some (.val (.int .i64 n) σ)
def s_lenC (x0 : Nat) (d : Option Nat) (ih : Run1) (X : QX) (A : EV) (σ : St) : Option (EV × St):=outS (q_lenC x0 X.C (fun x=>avR x X A) X.n σ) d ih X A
def q_cpy (sz : Nat) (d : XA) (s : XA) (C : Ctx) (a : XA → AV) (n0 : Nat) (σ : St) : Option Out:=
    match srcCells σ sz (a s),a d with
    | some (m,cs),.msl o off n s=>match σ[o]? with
      | some (.cells l ⟨false,t⟩)=>
        let k:=min m n
        if s = sz ∧ off + k * sz ≤ l.length ∧ cs.all AV.flat then
         some (.val (.int .i64 k) (σ.set o (.cells (splice l off (cs.take (k * sz))) ⟨false,t⟩)))
        else none
      | _=>none
    | _,_=>none
def s_cpy (x0 : Nat) (x1 : XA) (x2 : XA) (d : Option Nat) (ih : Run1) (X : QX) (A : EV) (σ : St) : Option (EV × St):=outS (q_cpy x0 x1 x2 X.C (fun x=>avR x X A) X.n σ) d ih X A
def q_minmax (mx : Bool) (x : XA) (y : XA) (C : Ctx) (a : XA → AV) (n0 : Nat) (σ : St) : Option Out:=(minmaxA mx (a x) (a y)).map (.val · σ)
def s_minmax (x0 : Bool) (x1 : XA) (x2 : XA) (d : Option Nat) (ih : Run1) (X : QX) (A : EV) (σ : St) : Option (EV × St):=outS (q_minmax x0 x1 x2 X.C (fun x=>avR x X A) X.n σ) d ih X A
def q_callV (f : XA) (args : List XA) (C : Ctx) (a : XA → AV) (n0 : Nat) (σ : St) : Option Out:=callVal C (a f) (args.map a) σ
def s_callV (x0 : XA) (x1 : List XA) (d : Option Nat) (ih : Run1) (X : QX) (A : EV) (σ : St) : Option (EV × St):=outS (q_callV x0 x1 X.C (fun x=>avR x X A) X.n σ) d ih X A
def q_invoke (x : XA) (m : String) (args : List XA) (C : Ctx) (a : XA → AV) (n0 : Nat) (σ : St) : Option Out:=match a x with
    | .iface t v=>match methodOf C.P t v m with
      | some (f,r)=>some (.call f (r :: args.map a) σ)
      | none=>none
    | _=>none
def s_invoke (x0 : XA) (x1 : String) (x2 : List XA) (d : Option Nat) (ih : Run1) (X : QX) (A : EV) (σ : St) : Option (EV × St):=outS (q_invoke x0 x1 x2 X.C (fun x=>avR x X A) X.n σ) d ih X A
def q_pend  (C : Ctx) (a : XA → AV) (n0 : Nat) (σ : St) : Option Out:=some (.val .undef σ)
def s_pend  (d : Option Nat) (ih : Run1) (X : QX) (A : EV) (σ : St) : Option (EV × St):=outS (q_pend  X.C (fun x=>avR x X A) X.n σ) d ih X A
def q_fill (u0 : Nat) (d : Nat) (sz : Nat) (x : XA) (C : Ctx) (a : XA → AV) (n0 : Nat) (σ : St) : Option Out:=
    let cs:=(a x).cells
    if d < n0 ∧ cs.length = sz ∧ cs.all AV.flat then some (.val (.ref σ.length 0) (σ ++ [.cells cs ⟨false,none⟩])) else none
def s_fill (x0 : Nat) (x1 : Nat) (x2 : Nat) (x3 : XA) (d : Option Nat) (ih : Run1) (X : QX) (A : EV) (σ : St) : Option (EV × St):=outS (q_fill x0 x1 x2 x3 X.C (fun x=>avR x X A) X.n σ) d ih X A
def q_fail  (C : Ctx) (a : XA → AV) (n0 : Nat) (σ : St) : Option Out:=none
def s_fail  (d : Option Nat) (ih : Run1) (X : QX) (A : EV) (σ : St) : Option (EV × St):=outS (q_fail  X.C (fun x=>avR x X A) X.n σ) d ih X A
def kS (i : XI) : Step:=
 XI.rec (motive:=fun _=>Step) sMv sPick s_new s_box s_build s_buildSl s_load s_store s_nilck sBin s_un sI2i s_s2s s_i2s s_b2s s_s2b s_s2r s_mkIface s_mkFunc s_mkMap s_mkSlice s_sliceStr s_sliceSl s_sliceArr s_fieldAddr s_field s_idxAddrArr s_idxAddrSl s_idxArr sIdxStr s_lookup s_mapUpd s_mapEntry s_entryStore sExtract s_app s_len s_lenC s_cpy s_minmax sCallF s_callV s_invoke s_pend s_fill s_fail i
def wantR (t : Nat) (b : Bool) (A : EV) : Bool:=Option.rec (motive:=fun _=>Bool) false (fun c=>Bool.rec (notR b) b c) (boolR (lkR A t))
def unS (d : Option Nat) (i : XI) (ih : Run1) (X : QX) (A : EV) (σ : St) : Option (EV × St):=kS i d ih X A σ
def guP (t : Nat) (b : Bool) (d : Option Nat) (i : XI) (ih : Run1) (X : QX) (A : EV) (σ : St) : Option (EV × St):=Bool.rec (onPut d .undef ih X A σ) (kS i d ih X A σ) (wantR t b A)
def guS (p : Nat × Bool) : Option Nat → XI → Run1 → Run1:=Prod.rec (motive:=fun _=>Option Nat → XI → Run1 → Run1) guP p
def xS (d : Option Nat) (i : XI) (g : Option (Nat × Bool)) (l : List Nat) : Run1 → Run1:=Option.rec (motive:=fun _=>Option Nat → XI → Run1 → Run1) unS guS g d i
def nilS (X : QX) (A : EV) (σ : St) : Option (EV × St):=some (A,σ)
def consS (o : XOp) (l : List XOp) (ih : Run1) : Run1:=XOp.rec (motive:=fun _=>Run1 → Run1) xS o ih
def opsR (l : List XOp) : Run1:=List.rec (motive:=fun _=>Run1) nilS consS l
def keepV (ρ : Type) (t : Nat) (kont : EV → ρ) (v : AV) (E : EV) : ρ:=kont (.cons t v E)
def keepF1 (ρ : Type) (t : Nat) (ih : EV → (EV → ρ) → ρ) (A : EV) (kont : EV → ρ) (v : AV) : ρ:=ih A (keepV ρ t kont v)
def keepCons (ρ : Type) (t : Nat) (l : List Nat) (ih : EV → (EV → ρ) → ρ) (A : EV) (kont : EV → ρ) : ρ:=forceAV (lkR A t) (keepF1 ρ t ih A kont)
def keepNil (ρ : Type) (A : EV) (kont : EV → ρ) : ρ:=kont .nil
def keepR (ρ : Type) (k : List Nat) : EV → (EV → ρ) → ρ:=List.rec (motive:=fun _=>EV → (EV → ρ) → ρ) (keepNil ρ) (keepCons ρ) k
abbrev ResR:=Option (XE × EV × St)
abbrev BodR:=QX → Nat → EV → St → ResR
def xeP (A : EV) (σ : St) : ResR:=some (.normal,A,σ)
def xeS (p : EV × St) : ResR:=Prod.rec (motive:=fun _=>ResR) xeP p
def xeR (r : Option (EV × St)) : ResR:=Option.rec (motive:=fun _=>ResR) none xeS r
abbrev On:=(EV → St → ResR) → (Nat → EV → St → ResR) → ResR
def onN (A : EV) (σ : St) (f : EV → St → ResR) (g : Nat → EV → St → ResR) : ResR:=f A σ
def onE (i : Nat) (A : EV) (σ : St) (f : EV → St → ResR) (g : Nat → EV → St → ResR) : ResR:=g i A σ
def onT (A : EV) (σ : St) (f : EV → St → ResR) (g : Nat → EV → St → ResR) : ResR:=some (.ret,A,σ)
def onX (x : XE) : EV → St → On:=XE.rec (motive:=fun _=>EV → St → On) onN onE onT x
def onP2 (A : EV) (σ : St) (x : XE) : On:=onX x A σ
def onP (x : XE) (p : EV × St) : On:=Prod.rec (motive:=fun _=>XE → On) onP2 p x
def onQ (q : XE × EV × St) : On:=Prod.rec (motive:=fun _=>On) onP q
def onNone (f : EV → St → ResR) (g : Nat → EV → St → ResR) : ResR:=none
def onR (r : ResR) : On:=Option.rec (motive:=fun _=>On) onNone onQ r
def bExit (i : Nat) (A : EV) (σ : St) : ResR:=some (.exit i,A,σ)
def bNorm (A : EV) (σ : St) : ResR:=some (.normal,A,σ)
def bSkip (X : QX) (m : Nat) (A : EV) (σ : St) : ResR:=some (.normal,A,σ)
def bOps (l : List XOp) (X : QX) (m : Nat) (A : EV) (σ : St) : ResR:=xeR (opsR l X A σ)
def toEV (l : As) : EV:=List.rec (motive:=fun _=>EV) .nil (fun p _ ih=>Prod.rec (motive:=fun _=>EV → EV) (fun t v E=>.cons t v E) p ih) l
def EV.as : EV → As
 | .nil=>[]
 | .cons t v r=>(t,v) :: r.as
def bDrawn (l : List XOp) (X : QX) (m : Nat) (A : EV) (σ : St) : ResR:=xeR (Option.rec (motive:=fun _=>Option (EV × St)) none (fun p=>Prod.rec (motive:=fun _=>Option (EV × St)) (fun A σ=>some (toEV A,σ)) p) (drawnF l X.C X.call X.n A.as σ))
def bSeq (_ _ : KC) (a b : BodR) (X : QX) (m : Nat) (A : EV) (σ : St) : ResR:=onR (a X m A σ) (b X m) bExit
def bIf (q : Bool) (a b : BodR) (X : QX) (m : Nat) (A : EV) (σ : St) : ResR:=Bool.rec (b X m A σ) (a X m A σ) q
def bNo (a b : BodR) (X : QX) (m : Nat) (A : EV) (σ : St) : ResR:=none
def bCond (c : XA) (_ _ : KC) (a b : BodR) (X : QX) (m : Nat) (A : EV) (σ : St) : ResR:=Option.rec (motive:=fun _=>BodR → BodR → BodR) bNo bIf (boolR (avR c X A)) a b X m A σ
def bOut (id i : Nat) (A : EV) (σ : St) : ResR:=Bool.rec (bExit i A σ) (bNorm A σ) (Nat.beq i id)
def bBlock (id : Nat) (_ : KC) (b : BodR) (X : QX) (m : Nat) (A : EV) (σ : St) : ResR:=onR (b X m A σ) bNorm (bOut id)
def lp0 (k : List Nat) (b : BodR) (X : QX) (m0 : Nat) (A : EV) (σ : St) : ResR:=none
def lpS (_ : Nat) (ih : List Nat → BodR → QX → Nat → EV → St → ResR) (k : List Nat) (b : BodR) (X : QX) (m0 : Nat) (A : EV) (σ : St) : ResR:=keepR ResR k A (fun A=>onR (b X m0 A σ) (ih k b X m0) bExit)
def loopR (m : Nat) : List Nat → BodR → QX → Nat → EV → St → ResR:=Nat.rec (motive:=fun _=>List Nat → BodR → QX → Nat → EV → St → ResR) lp0 lpS m
def bLoop (k : List Nat) (_ : KC) (b : BodR) (X : QX) (m : Nat) (A : EV) (σ : St) : ResR:=loopR m k b X m A σ
def bExitK (k : List Nat) (id : Nat) (X : QX) (m : Nat) (A : EV) (σ : St) : ResR:=keepR ResR k A (fun A=>some (.exit id,A,σ))
def bRetK (k : List Nat) (X : QX) (m : Nat) (A : EV) (σ : St) : ResR:=keepR ResR k A (fun A=>some (.ret,A,σ))
def bScope (_ : KC) (b : BodR) (X : QX) (m : Nat) (A : EV) (σ : St) : ResR:=b X m A σ
def bFail (X : QX) (m : Nat) (A : EV) (σ : St) : ResR:=none
def kCR (c : KC) : BodR:=KC.rec (motive:=fun _=>BodR) bSkip bOps bOps bDrawn bSeq bCond bBlock bLoop bExitK bRetK bScope bFail c
end
theorem lkR_is : ∀ (A : EV) (t : Nat),lkR A t = look A.as t
 | .nil,_=>rfl
 | .cons k v r,t=>by
   have ih:=lkR_is r t
   show (Bool.rec (lkR r t) v (Nat.beq k t) : AV) = if k = t then v else look r.as t
   rw [ih]
   by_cases h : k = t
   ·subst h; simp
   ·rw [if_neg h,show Nat.beq k t = false by rw [beq_dec]; simp [h]]
theorem avR_is (x : XA) (X : QX) (A : EV) : avR x X A = avA X.C A.as x:=by
 cases x
 case t n=>exact lkR_is A n
 case c v=>rfl
 case g n=>rfl
theorem avR_fun (X : QX) (A : EV) : (fun x=>avR x X A) = avA X.C A.as:=funext fun x=>avR_is x X A
theorem forceAV_is {ρ : Type} (v : AV) (k : AV → ρ) : forceAV v k = k v:=by cases v <;> rfl
theorem wrap64R_is (n : Int) : wrap64R n = wrap64 n:=by
 cases n with
 | ofNat m=>
   show (Bool.rec _ _ (Nat.ble m 9223372036854775807) : Int) = match Nat.ble m 9223372036854775807 with | true=>_ | false=>_
   cases Nat.ble m 9223372036854775807 <;> rfl
 | negSucc m=>
   show (Bool.rec _ _ (Nat.ble m 9223372036854775807) : Int) = match Nat.ble m 9223372036854775807 with | true=>_ | false=>_
   cases Nat.ble m 9223372036854775807 <;> rfl
theorem wrapU8R_is (n : Int) : wrapU8R n = wrapU8 n:=by cases n <;> rfl
theorem wrapR_is (k : IntKind) (n : Int) : wrapR k n = k.wrap n:=by
 rw [← wrapF_is]
 cases k
 case i64=>exact wrap64R_is n
 case u8=>exact wrapU8R_is n
 all_goals rfl
theorem iBeqR_is (x y : Int) : iBeqR x y = (x == y):=by rw [← iBeq_is]; cases x <;> cases y <;> rfl
theorem iBleR_is (x y : Int) : iBleR x y = decide (x ≤ y):=by rw [← iBle_is]; cases x <;> cases y <;> rfl
theorem iAddR_is (x y : Int) : iAddR x y = x + y:=by cases x <;> cases y <;> rfl
theorem iSubR_is (x y : Int) : iSubR x y = x - y:=by
 cases x with
 | ofNat m=>cases y with
   | ofNat n=>
     show (Bool.rec _ _ (Nat.ble n m) : Int) = _
     cases h : Nat.ble n m
     ·rfl
     ·have:=Nat.le_of_ble_eq_true h
      show ((m - n : Nat) : Int) = (m : Int) - (n : Int)
      omega
   | negSucc n=>rfl
 | negSucc m=>rfl
theorem notR_is (b : Bool) : notR b = !b:=by cases b <;> rfl
theorem binIntR_is (op : BinOp) (k : IntKind) (a b : Int) : binIntR op k a b = binInt op k a b:=by
 rw [← binIntF_is]
 have e : ∀ z,wrapR k z = wrapF k z:=fun z=>by rw [wrapR_is,wrapF_is]
 have e1 : ∀ x y,iBeqR x y = iBeq x y:=fun x y=>by rw [iBeqR_is,iBeq_is]
 have e2 : ∀ x y,iBleR x y = iBle x y:=fun x y=>by rw [iBleR_is,iBle_is]
 cases op <;> simp only [binIntR,binIntF,e,e1,e2,notR_is,bnot_is,iAddR_is,iSubR_is] <;> rfl
theorem kNumR_is (k : IntKind) : kNumR k = kNum k:=by cases k <;> rfl
theorem binR_int (op : BinOp) (ek : Nat) (cst : Bool) (k : IntKind) (a : Int) (k' : IntKind) (b : Int) : binR op ek cst (.int k a) (.int k' b) = binF op ek cst (.int k a) (.int k' b):=by
 show (Bool.rec (Bool.rec none (binIntR op k a b) (Nat.beq (kNumR k) (kNumR k'))) (shiftInt op k a b) (isShift op) : Option AV) = match isShift op with | true=>shiftInt op k a b | false=>match kEq k k' with | true=>binIntF op k a b | false=>none
 rw [kNumR_is,kNumR_is,binIntR_is,← binIntF_is]
 unfold kEq
 cases isShift op <;> cases Nat.beq (kNum k) (kNum k') <;> rfl
theorem binR_is (op : BinOp) (ek : Nat) (cst : Bool) (x y : AV) : binR op ek cst x y = binOp op ek cst x y:=by
 rw [← binF_is]
 cases x
 case int k a=>
  cases y
  case int k' b=>exact binR_int op ek cst k a k' b
  all_goals first | rfl | (simp only [binF]; rfl)
 case str s=>
  cases y
  case str t=>rfl
  all_goals first | rfl | (simp only [binF]; rfl)
 all_goals first | rfl | (simp only [binF]; rfl)
theorem binRC_is (np : Bool) (op : BinOp) (ek : Nat) (cst : Bool) (x y : AV) : binRC np op ek cst x y = binC np op ek cst x y:=by
 cases np with
 | false=>exact binR_is op ek cst x y
 | true=>
   show (Bool.rec (binR op ek cst x y) none (ptr2 x y) : Option AV) = match ptr2 x y with | true=>none | false=>binOp op ek cst x y
   cases ptr2 x y with
   | true=>rfl
   | false=>exact binR_is op ek cst x y
theorem nthR_is {α : Type} : ∀ (l : List α) (n : Nat),nthR l n = l[n]?
 | [],_=>by simp [nthR]
 | a :: l,0=>rfl
 | a :: l,n + 1=>by
   have:=nthR_is l n
   show nthR l n = _
   rw [this]; simp
theorem asNatR_is (v : AV) : asNatR v = asNat v:=by
 rw [← asNatF_is]
 cases v
 case int k n=>cases n <;> rfl
 all_goals rfl
def putE (d : Option Nat) (v : AV) (A : EV) : EV:=
 match d with
 | some d=>.cons d v A
 | none=>A
theorem putE_as (d : Option Nat) (v : AV) (A : EV) : (putE d v A).as = putL A.as d v:=by cases d <;> rfl
def andThen (r : Option (AV × St)) (d : Option Nat) (ih : Run1) (X : QX) (A : EV) : Option (EV × St):=
 match r with
 | none=>none
 | some (v,σ)=>ih X (putE d v A) σ
def outA (r : Option Out) (call : CallO) : Option (AV × St):=
 match r with
 | some (.val v σ')=>some (v,σ')
 | some (.call f args σ')=>call f args σ'
 | none=>none
theorem onPut_is (d : Option Nat) (v : AV) (ih : Run1) (X : QX) (A : EV) (σ : St) : onPut d v ih X A σ = ih X (putE d v A) σ:=by
 cases d with
 | none=>rfl
 | some d=>exact forceAV_is v _
theorem valS_is (r : Option AV) (d : Option Nat) (ih : Run1) (X : QX) (A : EV) (σ : St) : valS r d ih X A σ = andThen (outA (r.map (.val · σ)) X.call) d ih X A:=by
 cases r with
 | none=>rfl
 | some v=>exact onPut_is d v ih X A σ
theorem resS_is (r : Option (AV × St)) (d : Option Nat) (ih : Run1) (X : QX) (A : EV) : resS r d ih X A = andThen r d ih X A:=by
 cases r with
 | none=>rfl
 | some p=>
   obtain ⟨v,σ⟩:=p
   exact onPut_is d v ih X A σ
theorem outS_is (r : Option Out) (d : Option Nat) (ih : Run1) (X : QX) (A : EV) : outS r d ih X A = andThen (outA r X.call) d ih X A:=by
 cases r with
 | none=>rfl
 | some o=>cases o with
   | val v σ=>exact onPut_is d v ih X A σ
   | call f args σ=>exact resS_is _ d ih X A
theorem mapR_is (X : QX) (A : EV) : ∀ l : List XA,mapR X A l = l.map (avA X.C A.as)
 | []=>rfl
 | x :: l=>by
   show avR x X A :: mapR X A l = _
   rw [avR_is,mapR_is X A l]; rfl
theorem kS_is (i : XI) (d : Option Nat) (ih : Run1) (X : QX) (A : EV) (σ : St) : kS i d ih X A σ = andThen (outA (evIX X.C (avA X.C A.as) X.n σ i) X.call) d ih X A:=by
 have g : ∀ (j : XI),outS (kI j X.C (fun x=>avR x X A) X.n σ) d ih X A = andThen (outA (evIX X.C (avA X.C A.as) X.n σ j) X.call) d ih X A:=fun j=>by rw [outS_is,kI_is,avR_fun]
 cases i
 case mv x=>
  show onPut d (avR x X A) ih X A σ = _
  rw [onPut_is,avR_is]; rfl
 case pick c x y=>
  show valS (pickR (boolR (avR c X A)) (avR x X A) (avR y X A)) d ih X A σ = _
  rw [valS_is,avR_is,avR_is,avR_is]
  congr 2
  simp only [evIX]
  cases avA X.C A.as c
  case bool b=>cases b <;> rfl
  all_goals rfl
 case bin op ek cst x y=>
  show valS (binRC X.C.np op ek cst (avR x X A) (avR y X A)) d ih X A σ = _
  rw [valS_is,avR_is,avR_is,binRC_is]; rfl
 case i2i k x=>
  show valS (i2iR k (avR x X A)) d ih X A σ = _
  rw [valS_is,avR_is]
  congr 2
  simp only [evIX]
  cases avA X.C A.as x
  case int k' n=>show some _ = some _; rw [wrapR_is]
  all_goals rfl
 case idxStr x i=>
  show valS (idxR (avR x X A) (avR i X A)) d ih X A σ = _
  rw [valS_is,avR_is,avR_is]
  congr 2
  simp only [evIX]
  cases hx : avA X.C A.as x
  case str s=>
   show Option.map _ (idxN s (asNatR (avA X.C A.as i))) = _
   rw [asNatR_is]
   cases asNat (avA X.C A.as i) with
   | none=>rfl
   | some n=>
     show Option.map _ (idxO (nthR s n)) = _
     rw [nthR_is]
     dsimp only
     cases s[n]? <;> rfl
  all_goals (cases asNat (avA X.C A.as i) <;> rfl)
 case extract x i=>
  show valS (extR (tupR (avR x X A)) i) d ih X A σ = _
  rw [valS_is,avR_is]
  congr 2
  simp only [evIX]
  cases avA X.C A.as x
  case tup l=>
   show Option.map _ (nthR l i) = _
   rw [nthR_is]
   dsimp only
   cases l[i]? <;> rfl
  all_goals rfl
 case callF f l=>
  show resS (X.call f (mapR X A l) σ) d ih X A = _
  rw [resS_is,mapR_is]; rfl
 all_goals (refine Eq.trans ?_ (g _); rfl)
theorem wantR_is (t : Nat) (b : Bool) (A : EV) : wantR t b A = boolIs b (look A.as t):=by
 unfold wantR
 rw [lkR_is]
 cases look A.as t
 case bool c=>cases b <;> cases c <;> rfl
 all_goals rfl
theorem consS_is (o : XOp) (l : List XOp) (ih : Run1) (X : QX) (A : EV) (σ : St) : consS o l ih X A σ = andThen (evOpA X.C X.call X.n o A.as σ) o.dst ih X A:=by
 obtain ⟨d,i,g,ls⟩:=o
 cases g with
 | none=>
   show kS i d ih X A σ = _
   rw [kS_is]
   rfl
 | some p=>
   obtain ⟨t,b⟩:=p
   show (Bool.rec (onPut d .undef ih X A σ) (kS i d ih X A σ) (wantR t b A) : Option (EV × St)) = _
   rw [wantR_is,kS_is,onPut_is]
   have hw : wantA ⟨d,i,some (t,b),ls⟩ A.as = boolIs b (look A.as t):=rfl
   unfold evOpA
   rw [hw]
   cases hb : boolIs b (look A.as t)
   ·rfl
   ·rfl
def asOf (r : Option (EV × St)) : Option (As × St):=r.map fun p=>(p.1.as,p.2)
theorem opsR_is : ∀ (l : List XOp) (X : QX) (A : EV) (σ : St),asOf (opsR l X A σ) = evOpsA X.C X.call X.n l A.as σ
 | [],_,_,_=>rfl
 | o :: l,X,A,σ=>by
   show asOf (consS o l (opsR l) X A σ) = _
   rw [consS_is]
   unfold evOpsA
   cases evOpA X.C X.call X.n o A.as σ with
   | none=>rfl
   | some p=>
     obtain ⟨v,σ'⟩:=p
     show asOf (opsR l X (putE o.dst v A) σ') = evOpsA X.C X.call X.n l (putL A.as o.dst v) σ'
     rw [opsR_is l,putE_as]
theorem keepR_is (ρ : Type) : ∀ (k : List Nat) (A : EV) (kont : EV → ρ),∃ E : EV,E.as = keepA k A.as ∧ keepR ρ k A kont = kont E
 | [],A,kont=>⟨.nil,rfl,rfl⟩
 | t :: k,A,kont=>by
   obtain ⟨E,hE,h⟩:=keepR_is ρ k A (keepV ρ t kont (lkR A t))
   refine ⟨.cons t (lkR A t) E,?_,?_⟩
   ·show (t,lkR A t) :: E.as = _
    rw [hE,lkR_is]; rfl
   ·show forceAV (lkR A t) (keepF1 ρ t (keepR ρ k) A kont) = _
    rw [forceAV_is]
    exact h
def asX (r : ResR) : Option (XE × As × St):=r.map fun p=>(p.1,p.2.1.as,p.2.2)
theorem xeR_is (r : Option (EV × St)) : asX (xeR r) = xeF (asOf r):=by
 cases r with
 | none=>rfl
 | some p=>obtain ⟨A,σ⟩:=p; rfl
theorem toEV_as : ∀ l : As,(toEV l).as = l
 | []=>rfl
 | (t,v) :: l=>by
   show (t,v) :: (toEV l).as = _
   rw [toEV_as l]
theorem loopR_is (k : List Nat) (b : BodR) (X : QX) (m0 : Nat) (b' : BodyA) (h : ∀ A σ,asX (b X m0 A σ) = b' A.as σ) : ∀ (m : Nat) (A : EV) (σ : St),asX (loopR m k b X m0 A σ) = loopF (fun A σ=>b' (keepF k A) σ) m A.as σ
 | 0,_,_=>rfl
 | m + 1,A,σ=>by
   obtain ⟨E,hE,hk⟩:=keepR_is ResR k A (fun A=>onR (b X m0 A σ) (loopR m k b X m0) bExit)
   show asX (keepR ResR k A (fun A=>onR (b X m0 A σ) (loopR m k b X m0) bExit)) = _
   rw [hk]
   unfold loopF
   rw [keepF_is,← hE,← h E σ]
   cases b X m0 E σ with
   | none=>rfl
   | some q=>
     obtain ⟨x,A',σ'⟩:=q
     cases x with
     | normal=>exact loopR_is k b X m0 b' h m A' σ'
     | exit i=>rfl
     | ret=>rfl
theorem kCR_is : ∀ (c : KC) (X : QX) (m : Nat) (A : EV) (σ : St),asX (kCR c X m A σ) = kC c X.C X.call X.n m A.as σ
 | .skip,_,_,_,_=>rfl
 | .ops l,X,m,A,σ=>by
   show asX (xeR (opsR l X A σ)) = xeF (opsF l X.C X.call X.n A.as σ)
   rw [xeR_is,opsR_is,opsF_is]
 | .plain l,X,m,A,σ=>by
   show asX (xeR (opsR l X A σ)) = xeF (opsF l X.C X.call X.n A.as σ)
   rw [xeR_is,opsR_is,opsF_is]
 | .drawn l,X,m,A,σ=>by
   show asX (bDrawn l X m A σ) = xeF (drawnF l X.C X.call X.n A.as σ)
   unfold bDrawn
   rw [xeR_is]
   cases drawnF l X.C X.call X.n A.as σ with
   | none=>rfl
   | some p=>
     obtain ⟨A',σ'⟩:=p
     show xeF (some ((toEV A').as,σ')) = _
     rw [toEV_as]
 | .seq a b,X,m,A,σ=>by
   show asX (onR (kCR a X m A σ) (kCR b X m) bExit) = match kC a X.C X.call X.n m A.as σ with
    | none=>none
    | some q=>match q with
      | (x,A',σ')=>match x with
        | .normal=>kC b X.C X.call X.n m A' σ'
        | .exit i=>some (.exit i,A',σ')
        | .ret=>some (.ret,A',σ')
   rw [← kCR_is a X m A σ]
   cases kCR a X m A σ with
   | none=>rfl
   | some q=>
     obtain ⟨x,A',σ'⟩:=q
     cases x with
     | normal=>exact kCR_is b X m A' σ'
     | exit i=>rfl
     | ret=>rfl
 | .cond c a b,X,m,A,σ=>by
   show asX (bCond c a b (kCR a) (kCR b) X m A σ) = match avF c X.C A.as with
    | .bool q=>match q with
      | true=>kC a X.C X.call X.n m A.as σ
      | false=>kC b X.C X.call X.n m A.as σ
    | _=>none
   unfold bCond
   rw [avR_is,avF_is]
   cases avA X.C A.as c
   case bool q=>
    cases q
    ·exact kCR_is b X m A σ
    ·exact kCR_is a X m A σ
   all_goals rfl
 | .block id b,X,m,A,σ=>by
   show asX (onR (kCR b X m A σ) bNorm (bOut id)) = match kC b X.C X.call X.n m A.as σ with
    | none=>none
    | some q=>match q with
      | (x,A',σ')=>match x with
        | .normal=>some (.normal,A',σ')
        | .exit i=>match Nat.beq i id with
          | true=>some (.normal,A',σ')
          | false=>some (.exit i,A',σ')
        | .ret=>some (.ret,A',σ')
   rw [← kCR_is b X m A σ]
   cases kCR b X m A σ with
   | none=>rfl
   | some q=>
     obtain ⟨x,A',σ'⟩:=q
     cases x with
     | normal=>rfl
     | exit i=>
       show asX (Bool.rec (bExit i A' σ') (bNorm A' σ') (Nat.beq i id)) = match Nat.beq i id with
         | true=>some (XE.normal,A'.as,σ')
         | false=>some (XE.exit i,A'.as,σ')
       cases Nat.beq i id <;> rfl
     | ret=>rfl
 | .loop k b,X,m,A,σ=>by
   show asX (loopR m k (kCR b) X m A σ) = loopF (fun A σ=>kC b X.C X.call X.n m (keepF k A) σ) m A.as σ
   exact loopR_is k (kCR b) X m (fun A σ=>kC b X.C X.call X.n m A σ) (fun A σ=>kCR_is b X m A σ) m A σ
 | .exit k id,X,m,A,σ=>by
   obtain ⟨E,hE,hk⟩:=keepR_is ResR k A (fun A=>some (.exit id,A,σ))
   show asX (keepR ResR k A (fun A=>some (.exit id,A,σ))) = some (.exit id,keepF k A.as,σ)
   rw [hk,keepF_is,← hE]
   rfl
 | .ret k,X,m,A,σ=>by
   obtain ⟨E,hE,hk⟩:=keepR_is ResR k A (fun A=>some (.ret,A,σ))
   show asX (keepR ResR k A (fun A=>some (.ret,A,σ))) = some (.ret,keepF k A.as,σ)
   rw [hk,keepF_is,← hE]
   rfl
 | .scope b,X,m,A,σ=>kCR_is b X m A σ
 | .fail,_,_,_,_=>rfl
end Go.Ev
namespace Go.Ev
open Go.RowKit
set_option linter.unusedVariables false
noncomputable section
def cTrue1 {α : Type} (_ : α) : Bool:=true
def andR (a b : Bool) : Bool:=Bool.rec false b a
def clo (v : AV) : Bool:=
 AV.rec (motive_1:=fun _=>Bool) (motive_2:=fun _=>Bool)
  (fun _=>true) (fun _ _=>true) (fun _=>true) true (fun _ _=>false) (fun _ ih=>ih) true true (fun _ _ ih=>ih) (fun _ _ ih=>ih)
  (fun _ _ _ _=>false) (fun _=>false) true (fun _ _ _ a b=>andR a b) true (fun _ _ ih=>ih) true (fun _ ih=>ih) (fun _ ih=>ih) true (fun _ _ a b=>andR a b) v
def clos (l : List AV) : Bool:=List.rec (motive:=fun _=>Bool) true (fun v _ ih=>andR (clo v) ih) l
theorem andR_is (a b : Bool) : andR a b = (a && b):=by cases a <;> rfl
mutual
theorem clo_is : ∀ v : AV,clo v = below 0 v
 | .bool _=>rfl
 | .int _ _=>rfl
 | .str _=>rfl
 | .nilp=>rfl
 | .ref _ _=>by simp [below]; rfl
 | .eptr l=>by rw [below]; exact clol_is l
 | .nils=>rfl
 | .emp=>rfl
 | .sl _ l=>by rw [below]; exact clol_is l
 | .xsl _ l=>by rw [below]; exact clol_is l
 | .msl _ _ _ _=>by simp [below]; rfl
 | .map _=>by simp [below]; rfl
 | .nilMap=>rfl
 | .func _ x y=>by
   rw [below,← clol_is x,← clol_is y,← andR_is]; rfl
 | .nilFunc=>rfl
 | .iface _ v=>by rw [below]; exact clo_is v
 | .nilIface=>rfl
 | .agg l=>by rw [below]; exact clol_is l
 | .tup l=>by rw [below]; exact clol_is l
theorem clol_is : ∀ l : List AV,(AV.rec_1 (motive_1:=fun _=>Bool) (motive_2:=fun _=>Bool)
  (fun _=>true) (fun _ _=>true) (fun _=>true) true (fun _ _=>false) (fun _ ih=>ih) true true (fun _ _ ih=>ih) (fun _ _ ih=>ih)
  (fun _ _ _ _=>false) (fun _=>false) true (fun _ _ _ a b=>andR a b) true (fun _ _ ih=>ih) true (fun _ ih=>ih) (fun _ ih=>ih) true (fun _ _ a b=>andR a b) l : Bool) = belows 0 l
 | []=>rfl
 | v :: l=>by
   rw [belows,← clo_is v,← clol_is l,← andR_is]; rfl
end
theorem clos_is : ∀ l : List AV,clos l = belows 0 l
 | []=>rfl
 | v :: l=>by
   show andR (clo v) (clos l) = _
   rw [andR_is,clo_is,clos_is l,belows]
inductive Ent2 where
 | prim (h : List AV → St → Option (AV × St))
 | code (K : KF) (raw pure : Bool)
 | both (h : List AV → St → Option (AV × St)) (K : KF) (raw pure : Bool)
 | rel (h : CallO → List AV → St → Option (AV × St))
inductive Tr2 where
 | nil
 | node (l : Tr2) (k : Nat) (v : Ent2) (r : Tr2)
def find2 (T : Tr2) : Nat → Option Ent2:=
 Tr2.rec (motive:=fun _=>Nat → Option Ent2) (fun _=>none) (fun _ k v _ a b n=>Bool.rec (Bool.rec (b n) (a n) (Nat.ble n k)) (some v) (Nat.beq n k)) T
def argsE (l : List AV) : Nat → EV:=List.rec (motive:=fun _=>Nat → EV) (fun _=>.nil) (fun v _ ih i=>.cons i v (ih (Nat.succ i))) l
theorem argsE_as : ∀ (l : List AV) (i : Nat),(argsE l i).as = argsA i l
 | [],_=>rfl
 | v :: l,i=>by
   show (i,v) :: (argsE l (i + 1)).as = _
   rw [argsE_as l (i + 1)]; rfl
def bodyG (C : Ctx) (call : CallO) (m : Nat) (K : KF) (raw : Bool) (args : List AV) (n : Nat) (σ1 : St) : Option (AV × St):=
 match Nat.ble args.length K.ntmps with
 | false=>none
 | true=>match kCR K.body ⟨C,call,K.ntmps⟩ m (argsE args 0) σ1 with
   | none=>none
   | some q=>match q with
     | (x,e,σ2)=>match x with
       | .exit _=>none
       | .normal=>match resL e.as σ2 K.results with
         | none=>none
         | some vs=>match hand raw vs σ2 with
           | none=>none
           | some p=>match p with
             | (vs,σ3)=>some (tupleOf vs,tidy n vs σ3)
       | .ret=>match resL e.as σ2 K.results with
         | none=>none
         | some vs=>match hand raw vs σ2 with
           | none=>none
           | some p=>match p with
             | (vs,σ3)=>some (tupleOf vs,tidy n vs σ3)
def keepSt (σ1 : St) (r : Option (AV × St)) : Option (AV × St):=
 match r with
 | none=>none
 | some p=>match p with
   | (v,σ')=>match σ' with
     | []=>some (v,σ1)
     | _ :: _=>none
def runG (C : Ctx) (call : CallO) (m : Nat) (K : KF) (raw pure : Bool) (args : List AV) (σ : St) : Option (AV × St):=
 match hand raw args σ with
 | none=>none
 | some p=>match p with
   | (args1,σ1)=>match andR pure (clos args1) with
     | true=>keepSt σ1 (bodyG C call m K raw args1 0 [])
     | false=>bodyG C call m K raw args1 σ.length σ1
def entG (e : Option Ent2) (C : Ctx) (call : CallO) (m : Nat) (args : List AV) (σ : St) : Option (AV × St):=
 match e with
 | none=>none
 | some t=>match t with
   | .prim h=>h args σ
   | .code K raw pure=>runG C call m K raw pure args σ
   | .both h K raw pure=>match h args σ with
     | some r=>some r
     | none=>runG C call m K raw pure args σ
   | .rel h=>h call args σ
def callG (C : Ctx) (T : Tr2) (n : Nat) : CallO:=Nat.rec (motive:=fun _=>CallO) (fun _ _ _=>none) (fun m ih f args σ=>entG (find2 T f) C ih m args σ) n
end
def POK (C : Ctx) (f : FuncId) (h : List AV → St → Option (AV × St)) : Prop:=
 ∀ args σ v σ',h args σ = some (v,σ') → ∀ g w args',VRs g args args' → WR g w σ → GL C g → Does C.P f args' w fun v' w'=>∃ g',Goes g σ w g' σ' w' ∧ VR g' v v'
def KOK (C : Ctx) (f : FuncId) (K : KF) : Prop:=cF C.P f = some K.forget ∧ (∃ fn,C.P.funcs[f]? = some fn ∧ (fn.name == "runtime.NumGoroutine") = false) ∧ K.ok = true
def EOK (C : Ctx) (f : FuncId) : Ent2 → Prop
 | .prim h=>POK C f h
 | .code K _ _=>KOK C f K
 | .both h K _ _=>POK C f h ∧ KOK C f K
 | .rel h=>∀ call,CallOK C call → POK C f (h call)
structure TrOK2 (C : Ctx) (T : Tr2) : Prop where
 ent : ∀ f e,find2 T f = some e → EOK C f e
 gl : ∀ n l,C.gl n = some l → belows 0 l = true
theorem CallLe.refl (c : CallO) : CallLe c c:=fun _ _ _=>Le.rfl
theorem body_sound {C : Ctx} {call : CallO} (hcall : CallOK C call) (hdrawn : DrawnOK C call) {f : FuncId} {K : KF} {raw : Bool} (hcf : cF C.P f = some K.forget) (hnm : ∃ fn,C.P.funcs[f]? = some fn ∧ (fn.name == "runtime.NumGoroutine") = false) (hok : K.ok = true)
  {m : Nat} {args : List AV} {σ1 : St} {v : AV} {σ' : St} {σ0 : St} (h : bodyG C call m K raw args σ0.length σ1 = some (v,σ')) {g0 g1 : Gh} {w0 : World} {args' : List Value} (hgo : Goes g0 σ0 w0 g1 σ1 w0) (hw0 : WR g0 w0 σ0) (hv : VRs g1 args args') (hg : GL C g1) :
  Does C.P f args' w0 fun v' w'=>∃ g',Goes g0 σ0 w0 g' σ' w' ∧ VR g' v v':= by
 obtain ⟨fn,hfn,hname⟩:=hnm
 simp only [cF,Option.bind_eq_bind,Option.bind_eq_some_iff,Option.pure_def,Option.some.injEq] at hcf
 obtain ⟨fn',hfn',body,hb,xrs,hxr,hK⟩:=hcf
 rw [hfn] at hfn'; cases hfn'
 obtain ⟨nargs,ntmps,results,kbody⟩:=K
 simp only [KF.forget,XF.mk.injEq] at hK
 obtain ⟨hn1,hn2,hn3,hn4⟩:=hK
 subst hn3
 unfold bodyG at h
 split at h
 ·cases h
 ·rename_i hle
  have hlen:=Nat.le_of_ble_eq_true hle
  dsimp only at hlen h
  split at h
  ·cases h
  ·rename_i q hkc
   obtain ⟨x,E,σ2⟩:=q
   dsimp only at h
   have h1:=kCR_is kbody ⟨C,call,ntmps⟩ m (argsE args 0) σ1
   rw [hkc,argsE_as] at h1
   have h2 : semK C call ntmps kbody (argsA 0 args) σ1 = some (x,E.as,σ2):=kC_le (CallLe.refl call) ntmps m kbody (argsA 0 args) σ1 _ h1.symm
   unfold KF.ok at hok
   obtain ⟨M,hM⟩:=Option.isSome_iff_exists.mp hok
   have h3:=live_rel (C:=C) (call:=call) kbody _ M _ hM (args ++ List.replicate (ntmps - args.length) .undef) _ σ1 (ag_args M ntmps args hlen)
   rw [h2] at h3
   cases hs : semC C call kbody.forget (args ++ List.replicate (ntmps - args.length) .undef) σ1 with
   | none=>rw [hs] at h3; exact h3.elim
   | some r=>
     obtain ⟨x',e,τ⟩:=r
     rw [hs] at h3
     obtain ⟨hx,hτ,hAg⟩:=h3
     subst hx hτ
     obtain ⟨k,hev⟩:=fin_C (C:=C) (cs:=fun _=>call) (L:=call) (fun _ _ _=>CallLe.refl call) (fun f a σ r h=>⟨0,h⟩) kbody.forget hs
     have hend : ∀ vs vs2 σ3,resL E.as τ xrs = some vs → hand raw vs τ = some (vs2,σ3) → v = tupleOf vs2 → σ' = tidy σ0.length vs2 σ3 → (x' = .normal ∨ x' = .ret) → Does C.P f args' w0 fun v' w'=>∃ g',Goes g0 σ0 w0 g' σ' w' ∧ VR g' v v':= by
      intro vs vs2 σ3 hres hh2 hv' hσ' hx
      have hres' : resA e τ xrs = some vs:=by
       have:=resA_L (n:=ntmps) (σ:=τ) (e:=e) (A:=E.as) xrs (by rcases hx with rfl | rfl <;> exact hAg)
       rw [this]; exact hres
      have hrun : (callFunc f ⟨args'⟩).run C.P w0 = .ok (.enter f ⟨args'⟩) w0:=by
       have h1 : fn.name ≠ "runtime.NumGoroutine":= by simpa using hname
       simp [callFunc,hfn,h1,hb]
      unfold Does
      rw [hrun]
      simp only
      refine calls_of_wp hfn hb ?_
      have hl:=hv.length
      have har : AR g1 (args ++ List.replicate (ntmps - args.length) .undef) { tmps:=(⟨args'⟩ : Array Value) ++ Array.replicate (fn.ntmps - (⟨args'⟩ : Array Value).size) undef,defers:=[] }:=by
       have h1:=hv.append (VRs.replicate (ntmps - args.length) (undef_rel g1))
       have : args'.length = args.length:=hl
       simpa [AR,this,← hn2] using h1
      rw [← hn4] at hev
      refine wp_mono (code_sound hcall hdrawn k body _ e σ1 τ x' hev g1 w0 _ har hgo.wr hg) fun ex a2 w2 ⟨hex,hd,g2,ha2,hgo2⟩=>?_
      obtain ⟨vs',hr1,hr2⟩:=res_sound (C:=C) hgo2.wr ha2 _ xrs hxr vs hres'
      obtain ⟨g3,hgo3,hv3⟩:=hand_sound hgo2.wr _ hh2 hr2
      obtain ⟨g4,hgo4,hv4⟩:=tidy_sound ((hgo.trans hgo2).trans hgo3) hw0 hv3
      have hfin : a2.defers = [] ∧ ∃ v1,(Go.results fn a2.tmps).run C.P w2 = .ok v1 w2 ∧ ∃ v_1,Ending.returned v1 = .returned v_1 ∧ ∃ g',Goes g0 σ0 w0 g' σ' w2 ∧ VR g' v v_1:=
       ⟨hd,_,results_run fn a2.tmps w2 hr1,_,rfl,g4,by rw [hσ']; exact hgo4,by rw [hv']; exact tuple_rel vs2 vs' hv4⟩
      subst hex
      rcases hx with rfl | rfl
      ·exact hfin
      ·exact hfin
     cases x' with
     | exit i=>cases h
     | normal=>
       dsimp only at h
       split at h
       ·cases h
       ·rename_i vs hres
        split at h
        ·cases h
        ·rename_i p hh2
         obtain ⟨vs2,σ3⟩:=p
         simp at h
         exact hend vs vs2 σ3 hres hh2 h.1.symm h.2.symm (.inl rfl)
     | ret=>
       dsimp only at h
       split at h
       ·cases h
       ·rename_i vs hres
        split at h
        ·cases h
        ·rename_i p hh2
         obtain ⟨vs2,σ3⟩:=p
         simp at h
         exact hend vs vs2 σ3 hres hh2 h.1.symm h.2.symm (.inr rfl)
theorem frame_goes {g : Gh} {w w' : World} {σ : St} (hw : WR g w σ) {g' : Gh} (hgo : Goes (g.cut 0) [] w g' [] w') : Goes g σ w { g with im:=g'.im } σ w' ∧ g'.le { g with im:=g'.im }:=by
 have hn : g'.n = 0:=hgo.wr.n
 have hp : g'.pl = g.pl:=hgo.le.pl
 have hle : g'.le { g with im:=g'.im }:=⟨hp.symm,by simp [hn],fun o ho=>by omega,fun o ho=>by omega,fun _ _ _ h=>h⟩
 have hle' : g.le { g with im:=g'.im }:=⟨rfl,Nat.le_refl _,fun _ _=>rfl,fun _ _=>rfl,fun b i v h=>hgo.le.im b i v h⟩
 have hun : ∀ b,Untr (g.cut 0) [] b:=fun b o x h=>by simp at h
 refine ⟨⟨hle',⟨hw.n,hgo.wr.im,fun b i v hv=>(hgo.wr.uf b i v hv).imp (fun e=>⟨(congrFun hp b).symm.trans e.1,e.2⟩) id,fun o x hx=>?_,hw.inj⟩,hgo.os,hgo.tape,hgo.output,hgo.size,fun b hb hu=>⟨hu,(hgo.fr b hb (hun b)).2.1,fun i=>(hgo.fr b hb (hun b)).2.2 i⟩⟩,hle⟩
 have ho:=hw.obj o x hx
 cases x with
 | dead=>trivial
 | cells l fz=>
   obtain ⟨c,e,fr,h1,h2,h3,h4,h5,h6⟩:=ho
   have hb : g.ob o < w.heap.size:=(Array.getElem?_eq_some_iff.mp h1).1
   obtain ⟨_,f2,f3⟩:=hgo.fr (g.ob o) hb (hun _)
   refine ⟨c,e,fr,f2.trans h1,h2,h3,fun i y hy=>?_,h5,fun i v hv=>h6 i v ?_⟩
   ·obtain ⟨v,hv,hr⟩:=h4 i y hy
    exact ⟨v,hv,hr.mono hle'⟩
   ·have:=f3 i
    exact this.symm.trans hv
 | map es=>
   obtain ⟨ents,clock,h1,h2⟩:=ho
   have hb : g.ob o < w.heap.size:=(Array.getElem?_eq_some_iff.mp h1).1
   obtain ⟨_,f2,f3⟩:=hgo.fr (g.ob o) hb (hun _)
   exact ⟨ents,clock,f2.trans h1,h2.size,h2.clk,fun i k v hkv=>by
    obtain ⟨e,he,hk,hv,hborn⟩:=h2.at_ i k v hkv
    exact ⟨e,he,hk.mono hle',hv.mono hle',hborn⟩⟩
theorem Does.mono {P : Program} {f : FuncId} {args : List Value} {w : World} {R R' : Value → World → Prop} (h : Does P f args w R) (hr : ∀ v w',R v w' → R' v w') : Does P f args w R':= by
 unfold Does at h ⊢
 split at h
 ·exact h.mono fun e w'' ⟨v,he,hR⟩=>⟨v,he,hr _ _ hR⟩
 ·exact hr _ _ h
 ·exact h
theorem runG_sound {C : Ctx} {call : CallO} (hm : C.P.follows .mixedOrders = true) (ih : CallOK C call) (hgl : ∀ n l,C.gl n = some l → belows 0 l = true) {f : FuncId} {K : KF} (hK : KOK C f K) {n : Nat} {raw pure : Bool} {args : List AV} {σ : St} {v : AV} {σ' : St}
  (h : runG C call n K raw pure args σ = some (v,σ')) {g : Gh} {w : World} {args' : List Value} (ha : VRs g args args') (hw : WR g w σ) (hg : GL C g) : Does C.P f args' w fun v' w'=>∃ g',Goes g σ w g' σ' w' ∧ VR g' v v':= by
 obtain ⟨h1,h2,h3⟩:=hK
 unfold runG at h
 split at h
 ·cases h
 ·rename_i p hh
  obtain ⟨args1,σ1⟩:=p
  dsimp only at h
  obtain ⟨g1,hgo1,hv1⟩:=hand_sound hw raw hh ha
  split at h
  ·rename_i hc
   rw [andR_is,Bool.and_eq_true,clos_is] at hc
   unfold keepSt at h
   split at h
   ·cases h
   ·rename_i p hb
    obtain ⟨v1,τ⟩:=p
    dsimp only at h
    split at h
    ·simp at h
     obtain ⟨rfl,rfl⟩:=h
     have hw1:=hgo1.wr
     have hw0 : WR (g1.cut 0) w []:=⟨rfl,hw1.im,hw1.uf,fun o x hx=>by simp at hx,fun o o' x x' hx=>by simp at hx⟩
     have hg1:=hg.mono hgo1.le
     have:=body_sound (σ0:=[]) ih ⟨drawn_ok hm ih,float_ok hm ih⟩ h1 h2 h3 hb (Goes.refl hw0) hw0 (hv1.cut hc.2) ⟨fun n l hl=>⟨(hg1.1 n l hl).1.cut (hgl n l hl),(hg1.1 n l hl).2⟩,hg1.2⟩
     refine this.mono fun v' w' ⟨g',hgo',hr'⟩=>?_
     obtain ⟨hf,hle⟩:=frame_goes hw1 hgo'
     exact ⟨_,hgo1.trans hf,hr'.mono hle⟩
    ·cases h
  ·exact body_sound ih ⟨drawn_ok hm ih,float_ok hm ih⟩ h1 h2 h3 h hgo1 hw hv1 (hg.mono hgo1.le)
theorem callG_sound {C : Ctx} {T : Tr2} (hm : C.P.follows .mixedOrders = true) (hT : TrOK2 C T) : ∀ n,CallOK C (callG C T n)
 | 0=>fun f args σ v σ' h=>by cases h
 | n + 1=>by
   have ih:=callG_sound hm hT n
   intro f args σ v σ' h g w args' ha hw hg
   change entG (find2 T f) C (callG C T n) n args σ = some (v,σ') at h
   unfold entG at h
   split at h
   ·cases h
   ·rename_i t ht
    have hE:=hT.ent f t ht
    split at h
    ·exact hE args σ v σ' h g w args' ha hw hg
    ·exact runG_sound hm ih hT.gl hE h ha hw hg
    ·split at h
     ·rename_i r hr
      cases h
      exact hE.1 args σ v σ' hr g w args' ha hw hg
     ·exact runG_sound hm ih hT.gl hE.2 h ha hw hg
    ·exact hE _ ih args σ v σ' h g w args' ha hw hg
def ovr (T : Tr2) (f : Nat) (e : Ent2) : Tr2:=.node T f e T
end Go.Ev
namespace Go.Ev
open Go.RowKit
set_option linter.unusedVariables false
theorem goes_below {g : Gh} {w w' : World} {σ : St} (h : WR g w σ) (hb : Below w.heap.size w w') : Goes g σ w g σ w':= by
 refine ⟨.refl g,⟨h.n,fun b i v hv=>?_,fun b i v hv=>?_,fun k y hy=>?_,h.inj⟩,hb.os,hb.tape,hb.output,hb.size,fun b hlt hu=>⟨hu,hb.block b hlt,fun _=>rfl⟩⟩
 ·rw [cell_same (hb.block b (h.im_lt hv))]; exact h.im b i v hv
 ·rw [hb.block b (h.im_lt hv)]; exact h.uf b i v hv
 ·exact OR.mono (h.obj k y hy) (.refl g) (h.lt hy) (fun hl=>hb.block _ (h.ob_lt hy hl)) (fun _ _ _ hv=>hv)
structure IsFn (P : Program) (f : FuncId) : Prop where
 is : ∃ fn,P.funcs[f]? = some fn ∧ fn.name ≠ "runtime.NumGoroutine" ∧ fn.body.isSome = true
theorem IsFn.enter {P : Program} {f : FuncId} (h : IsFn P f) (args : List Value) (w : World) : (callFunc f ⟨args⟩).run P w = .ok (.enter f ⟨args⟩) w:=by
 obtain ⟨fn,h1,h2,h3⟩:=h.is
 obtain ⟨b,hb⟩:=Option.isSome_iff_exists.mp h3
 simp [callFunc,h1,h2,hb]
theorem does_of {P : Program} {f : FuncId} (hf : IsFn P f) {args : List Value} {w : World} {R : Value → World → Prop} (h : Calls P f ⟨args⟩ w fun e w'=>∃ v,e = .returned v ∧ R v w') : Does P f args w R:=by
 unfold Does
 rw [hf.enter]
 exact h
def pStr (F : List UInt8 → AV) (args : List AV) (σ : St) : Option (AV × St):=
 match args with
 | [.str s]=>if Nat.ble s.length 1099511627776 then some (F s,σ) else none
 | _=>none
def pStrInt (F : List UInt8 → Int → AV) (args : List AV) (σ : St) : Option (AV × St):=
 match args with
 | [.str s,.int .i64 i]=>if Nat.ble s.length 1099511627776 then some (F s i,σ) else none
 | _=>none
end Go.Ev
namespace Go.Ev
open Go.RowKit
set_option linter.unusedVariables false
theorem goes_kill {g : Gh} {w w' : World} {σ : St} (h : WR g w σ) {o : Nat} {l : List AV} {tg : Option (TypeId × Bool)} (hx0 : σ[o]? = some (.cells l ⟨false,tg⟩)) (hos : w'.os = w.os) (htape : w'.tape = w.tape) (hout : w'.output = w.output) (hsz : w'.heap.size = w.heap.size)
  (hne : ∀ k,k ≠ g.ob o → w'.heap[k]? = w.heap[k]?) : Goes g σ w g (σ.set o .dead) w':= by
 obtain ⟨c,e,fr,h1,h2,h3,h4,h5,h6⟩:=h.obj o _ hx0
 have him : ∀ i v,g.im (g.ob o) i ≠ some v:=fun i v hv=>absurd (h6 i v hv).1 (by simp)
 refine ⟨.refl g,⟨by simp [h.n],fun b i v hv=>?_,fun b i v hv=>?_,fun k y hy=>?_,fun k k' y y' hy hy' hl hl' he=>?_⟩,hos,htape,hout,by omega,fun b hb hu=>⟨fun k y hy hl=>?_,hne b (fun e=>hu o _ hx0 rfl e.symm),fun _=>rfl⟩⟩
 ·have hb : b ≠ g.ob o:=fun hb=>him i v (hb ▸ hv)
  rw [cell_same (hne b hb)]; exact h.im b i v hv
 ·have hb : b ≠ g.ob o:=fun hb=>him i v (hb ▸ hv)
  rw [hne b hb]; exact h.uf b i v hv
 ·rcases get_set hy with ⟨hk,hz⟩ | ⟨rfl,_,rfl⟩
  ·exact OR.mono (h.obj k y hz) (.refl g) (h.lt hz) (fun hl=>hne _ fun e=>hk (h.inj k o y _ hz hx0 hl rfl e)) (fun _ _ _ hv=>hv)
  ·trivial
 ·rcases get_set hy with ⟨hk,hz⟩ | ⟨hk,_,rfl⟩
  ·rcases get_set hy' with ⟨hk',hz'⟩ | ⟨hk',_,rfl⟩
   ·exact h.inj k k' y y' hz hz' hl hl' he
   ·cases hl'
  ·cases hl
 ·rcases get_set hy with ⟨hk,hz⟩ | ⟨hk,_,rfl⟩
  ·exact hu k y hz hl
  ·cases hl
theorem goes_cell {P : Program} {g : Gh} {w : World} {σ : St} (h : WR g w σ) {o : Nat} {l : List AV} {tg : Option (TypeId × Bool)} (hl : σ[o]? = some (.cells l ⟨false,tg⟩)) {off : Nat} {c : AV} {v : Value} (hc : VR g c v) (hb : off < l.length) (hf : c.flat = true) :
  Goes g σ w g (σ.set o (.cells (splice l off [c]) ⟨false,tg⟩)) (w.setCell ⟨g.ob o,off,none⟩ v):=by
 obtain ⟨c0,e0,fr,h1,h2,h3,h4,h5,h6⟩:=h.obj o _ hl
 obtain ⟨w',hrun,hgo⟩:=write_sound (P:=P) h hl (off:=off) (cs:=[c]) (vs:=[v]) (.cons _ _ _ _ hc .nil) (by simp; omega) (by simpa using hf)
 have hrun2:=run_storeCells_cells (P:=P) (g.ob o) off [v] 0 w (fun j hj=>by rw [cell_of_heap h1,Array.getElem?_eq_getElem (by simp at hj; omega)]; rfl) (fun j hj=>by
  have:=unfr h5.1 c0.size (off + 0 + j) (by simp at hj; omega)
  simpa [World.frozen?,h1] using this) (VRs.one (.cons _ _ _ _ hc .nil) (by simpa using hf))
 rw [hrun] at hrun2
 simp only [Result.ok.injEq,true_and] at hrun2
 subst hrun2
 exact hgo
theorem freeze_rest (w : World) (b n : Nat) : (w.freeze ⟨b,0,none⟩ n).os = w.os ∧ (w.freeze ⟨b,0,none⟩ n).tape = w.tape ∧ (w.freeze ⟨b,0,none⟩ n).output = w.output ∧ (w.freeze ⟨b,0,none⟩ n).heap.size = w.heap.size ∧ ∀ k,k ≠ b → (w.freeze ⟨b,0,none⟩ n).heap[k]? = w.heap[k]?:= by
 unfold World.freeze
 split
 ·exact ⟨rfl,rfl,rfl,rfl,fun _ _=>rfl⟩
 ·refine ⟨rfl,rfl,rfl,by simp,fun k hk=>?_⟩
  simp only [Array.getElem?_modify]
  rw [if_neg (fun e=>hk e.symm)]
def bytesX : List AV → Option (List UInt8)
 | []=>some []
 | v :: l=>match v with
   | .int .u8 (.ofNat n)=>match Nat.ble n 255 with
     | true=>match bytesX l with
       | some bs=>some (UInt8.ofNat n :: bs)
       | none=>none
     | false=>none
   | _=>none
theorem bytesX_get : ∀ {l : List AV} {s : List UInt8},bytesX l = some s → s.length = l.length ∧ ∀ (j : Nat) (x : UInt8),s[j]? = some x → l[j]? = some (.int .u8 x.toNat)
 | [],s,h=>by
   simp [bytesX] at h; subst h; simp
 | v :: l,s,h=>by
   unfold bytesX at h
   split at h
   ·rename_i n
    split at h
    ·rename_i hn
     have hn:=Nat.le_of_ble_eq_true hn
     split at h
     ·rename_i bs hbs
      simp at h; subst h
      obtain ⟨e1,e2⟩:=bytesX_get hbs
      refine ⟨by simp [e1],fun j x hx=>?_⟩
      cases j with
      | zero=>
        simp at hx; subst hx
        simp
        omega
      | succ j=>simpa using e2 j x (by simpa using hx)
     ·cases h
    ·cases h
   ·cases h
end Go.Ev
namespace Go.Ev
open Go.RowKit
def fnOk (P : Program) (f : FuncId) : Bool:=
 match P.funcs[f]? with
 | some fn=>!(fn.name == "runtime.NumGoroutine")
 | none=>false
def plainC (P : Program) (gl : Nat → Option (List AV)) (raw : FuncId → Bool) (prim : FuncId → Option (List AV → St → Option (AV × St))) : Ctx:=
 { P,gl,raw,fs:=fun f=>match fnOk P f with | true=>cF P f | false=>none,prim }
theorem plainC_fs (P : Program) (gl raw prim) : FsOK (plainC P gl raw prim):=by
 intro f x h
 simp only [plainC] at h
 split at h
 ·rename_i hk
  refine ⟨h,?_⟩
  unfold fnOk at hk
  split at hk
  ·rename_i fn hfn
   exact ⟨fn,hfn,by simpa using hk⟩
  ·cases hk
 ·cases h
end Go.Ev
namespace Go.Ev
open Go.RowKit
set_option linter.unusedVariables false
noncomputable section
def resQ (r : Option (AV × St)) (v : AV) : Bool:=
 match r with
 | none=>false
 | some p=>match p with
   | (v',σ)=>match σ with
     | []=>eqQ v' v
     | _ :: _=>false
theorem resQ_is {r : Option (AV × St)} {v : AV} (h : resQ r v = true) : r = some (v,[]):=by
 unfold resQ at h
 split at h
 ·cases h
 ·split at h
  ·split at h
   ·rw [eqQ_is _ _ h]
   ·cases h
def Known (C : Ctx) (f : FuncId) (args : List AV) (v : AV) : Prop:=POK C f fun as σ=>match eqQs as args with | true=>some (v,σ) | false=>none
theorem known_of {C : Ctx} {call : CallO} (hc : CallOK C call) {f : FuncId} {args : List AV} {v : AV} (hgl : ∀ n l,C.gl n = some l → belows 0 l = true) (hcl : belows 0 args = true) (h : resQ (call f args []) v = true) : Known C f args v:=by
 intro as σ v1 σ' h1 g w args' ha hw hg
 dsimp only at h1
 split at h1
 ·rename_i he
  have:=eqQs_is _ _ he
  subst this
  cases h1
  have h2:=resQ_is h
  have hw0 : WR (g.cut 0) w []:=⟨rfl,hw.im,hw.uf,fun o x hx=>by simp at hx,fun o o' x x' hx=>by simp at hx⟩
  refine (hc _ _ _ _ _ h2 (g.cut 0) w args' (ha.cut hcl) hw0 ⟨fun n l hl=>⟨(hg.1 n l hl).1.cut (hgl n l hl),(hg.1 n l hl).2⟩,hg.2⟩).mono fun v' w' ⟨g',hgo',hr'⟩=>?_
  obtain ⟨hf,hle⟩:=frame_goes hw hgo'
  exact ⟨_,hf,hr'.mono hle⟩
 ·cases h1
def memo (l : List (List AV × AV)) (as : List AV) (σ : St) : Option (AV × St):=
 match l with
 | []=>none
 | p :: l=>match p with
   | (args,v)=>match eqQs as args with
     | true=>some (v,σ)
     | false=>memo l as σ
theorem memo_nil {C : Ctx} {f : FuncId} : POK C f (memo []):=fun args σ v σ' h=>by cases h
theorem memo_cons {C : Ctx} {f : FuncId} {args : List AV} {v : AV} {l : List (List AV × AV)} (h : Known C f args v) (hl : POK C f (memo l)) : POK C f (memo ((args,v) :: l)):=by
 intro as σ v1 σ' h1 g w args' ha hw hg
 unfold memo at h1
 dsimp only at h1
 cases he : eqQs as args with
 | true=>
   refine h as σ v1 σ' ?_ g w args' ha hw hg
   rw [he] at h1
   dsimp only
   rw [he]; exact h1
 | false=>
   rw [he] at h1
   exact hl as σ v1 σ' h1 g w args' ha hw hg
def orP (h k : List AV → St → Option (AV × St)) (as : List AV) (σ : St) : Option (AV × St):=match h as σ with
 | some r=>some r
 | none=>k as σ
end
end Go.Ev
namespace Go.Ev
end Go.Ev
namespace Go.Ev
open Go.RowKit
set_option linter.unusedVariables false
noncomputable section
theorem does_closed {C : Ctx} {call : CallO} (hc : CallOK C call) (hgl : ∀ n l,C.gl n = some l → belows 0 l = true) {f : FuncId} {args : List AV} {v : AV} (hcl : belows 0 args = true) (h : call f args [] = some (v,[])) {g : Gh} {w : World} {σ : St} {args' : List Value} (ha : VRs g args args') (hw : WR g w σ) (hg : GL C g) :
  Does C.P f args' w fun v' w'=>∃ g',Goes g σ w g' σ w' ∧ VR g' v v':= by
 have hw0 : WR (g.cut 0) w []:=⟨rfl,hw.im,hw.uf,fun o x hx=>by simp at hx,fun o o' x x' hx=>by simp at hx⟩
 refine (hc _ _ _ _ _ h (g.cut 0) w args' (ha.cut hcl) hw0 ⟨fun n l hl=>⟨(hg.1 n l hl).1.cut (hgl n l hl),(hg.1 n l hl).2⟩,hg.2⟩).mono fun v' w' ⟨g',hgo',hr'⟩=>?_
 obtain ⟨hf,hle⟩:=frame_goes hw hgo'
 exact ⟨_,hf,hr'.mono hle⟩
def pClone0 (args : List AV) (σ : St) : Option (AV × St):=
 match args with
 | [.sl 0 []]=>some (.sl 0 [],σ)
 | _=>none
theorem pok_clone0 {C : Ctx} {call : CallO} (hc : CallOK C call) (hgl : ∀ n l,C.gl n = some l → belows 0 l = true) {f : FuncId} (h1 : resQ (call f [.nils] []) .nils = true) (h2 : resQ (call f [.emp] []) (.xsl 0 []) = true) : POK C f pClone0:=by
 intro args σ v σ' h g w args' ha hw hg
 unfold pClone0 at h
 split at h
 ·simp only [Option.some.injEq,Prod.mk.injEq] at h
  obtain ⟨rfl,rfl⟩:=h
  cases ha with
  | cons _ v1 _ l1 x y=>
    cases y
    cases x with
    | slNil=>
      refine (does_closed hc hgl (by rfl) (resQ_is h1) (.cons _ _ _ _ .nils .nil) hw hg).mono fun v' w' ⟨g',hgo,hr⟩=>⟨g',hgo,?_⟩
      cases hr
      exact .slNil
    | slEmp a cap=>
      refine (does_closed hc hgl (by rfl) (resQ_is h2) (.cons _ _ _ _ (.emp a cap) .nil) hw hg).mono fun v' w' ⟨g',hgo,hr⟩=>⟨g',hgo,?_⟩
      cases hr
      exact .slEmp _ _
    | sl _ _ b off cap hcr hle=>
      refine (does_closed hc hgl (by rfl) (resQ_is h2) (.cons _ _ _ _ (.emp ⟨b,off,none⟩ cap) .nil) hw hg).mono fun v' w' ⟨g',hgo,hr⟩=>⟨g',hgo,?_⟩
      cases hr
      exact .slEmp _ _
 ·cases h
def pCmp (args : List AV) (σ : St) : Option (AV × St):=
 match args with
 | [.str a,.str b]=>some (.int .i64 (Lib.compareBytes a b),σ)
 | _=>none
def pStr2 (F : List UInt8 → List UInt8 → AV) (args : List AV) (σ : St) : Option (AV × St):=
 match args with
 | [.str s,.str t]=>match andR (Nat.ble s.length 1099511627000) (Nat.ble t.length 1099511627000) with
   | true=>some (F s t,σ)
   | false=>none
 | _=>none
theorem kok_of {P : Program} {gl raw prim} {f : FuncId} {K : KF} (h1 : cF P f = some K.forget) (h2 : fnOk P f = true) (h3 : K.ok = true) : KOK (plainC P gl raw prim) f K:=by
 refine ⟨h1,?_,h3⟩
 unfold fnOk at h2
 split at h2
 ·rename_i fn hfn
  exact ⟨fn,hfn,by simpa using h2⟩
 ·cases h2
def TOK (C : Ctx) : Tr2 → Prop
 | .nil=>True
 | .node l k v r=>EOK C k v ∧ TOK C l ∧ TOK C r
theorem tok_find {C : Ctx} : ∀ {T : Tr2},TOK C T → ∀ f e,find2 T f = some e → EOK C f e
 | .nil,_,f,e,h=>by cases h
 | .node l k v r,hT,f,e,h=>by
   change Bool.rec (motive:=fun _=>Option Ent2) (Bool.rec (motive:=fun _=>Option Ent2) (find2 r f) (find2 l f) (Nat.ble f k)) (some v) (Nat.beq f k) = some e at h
   cases hb : Nat.beq f k with
   | true=>
     rw [hb] at h
     have:=Nat.eq_of_beq_eq_true hb
     subst this
     cases h
     exact hT.1
   | false=>
     rw [hb] at h
     cases hc : Nat.ble f k with
     | true=>rw [hc] at h; exact tok_find hT.2.1 f e h
     | false=>rw [hc] at h; exact tok_find hT.2.2 f e h
end
end Go.Ev
namespace Go.Ev
noncomputable section
abbrev MM:=FuncId → List (List AV × AV)
def MOK (C : Ctx) (M : MM) : Prop:=∀ f,POK C f (memo (M f))
def M0 : MM:=fun _=>[]
theorem M0_ok (C : Ctx) : MOK C M0:=fun f=>memo_nil
def updM (M : MM) (f : FuncId) (a : List AV) (v : AV) : MM:=fun g=>match Nat.beq g f with
 | true=>(a,v) :: M f
 | false=>M g
theorem updM_ok {C : Ctx} {M : MM} (h : MOK C M) {f : FuncId} {a : List AV} {v : AV} (hk : Known C f a v) : MOK C (updM M f a v):=by
 intro g
 unfold updM
 cases hb : Nat.beq g f with
 | true=>
   have:=Nat.eq_of_beq_eq_true hb
   subst this
   exact memo_cons hk (h g)
 | false=>exact h g
def memoH (l : List (List AV × AV)) (as : List AV) (σ : St) : Option (AV × St):=match hand false as σ with
 | none=>none
 | some p=>match p with
   | (a,τ)=>memo l a τ
theorem memoH_ok {C : Ctx} {M : MM} (h : MOK C M) (f : FuncId) : POK C f (memoH (M f)):=by
 intro as σ v1 σ' h1 g w args' ha hw hg
 unfold memoH at h1
 split at h1
 ·cases h1
 ·rename_i p hh
  obtain ⟨a,τ⟩:=p
  obtain ⟨g1,hgo,hv⟩:=hand_sound hw false hh ha
  exact (h f a τ v1 σ' h1 g1 w args' hv hgo.wr (hg.mono hgo.le)).mono fun v' w' ⟨g2,hgo2,hr⟩=>⟨g2,hgo.trans hgo2,hr⟩
end
end Go.Ev
namespace Go.Ev
open Go.RowKit
set_option linter.unusedVariables false
instance : Inhabited (DataW Unit):=⟨.nil⟩
def Tab (W : World) (g : Nat) (l : List AV) : Prop:=
 ∃ c e,W.heap[g]? = some (.cells c e (0,0)) ∧ ∀ (i : Nat) (a : AV),l[i]? = some a → ∃ v,c[i]? = some v ∧ ∀ γ : Gh,VR γ a v
theorem laid_at {P : Program} {W : World} : ∀ {laid : List (String × DataW Unit)} {ps : List MemPlace},DataW.LaidVars P W laid ps → ∀ {n : String} {d : DataW Unit},(n,d) ∈ laid →
  ∃ g t cs fuel p,P.globalNamed n = some g ∧ (P.globals[g]?).map (·.type) = some t ∧ W.var? P n = some cs ∧ DataW.trod (fun _=>()) P W 0 (fun _=>true) false fuel t cs.toList = some (d,p) ∧ ∀ x ∈ MemPlace.row ⟨g,0,none⟩ cs.size,x ∈ ps
 | [],_,_,_,_,hm=>by cases hm
 | (m,d') :: r,ps,h,n,d,hm=>by
   obtain ⟨g,t,cs,fuel,p,q,h1,h2,h3,h4,h5,rfl⟩:=h
   rcases List.mem_cons.mp hm with he | hm
   ·cases he
    exact ⟨g,t,cs,fuel,p,h1,h2,h3,h4,fun x hx=>by simp [hx]⟩
   ·obtain ⟨g',t',cs',fuel',p',k1,k2,k3,k4,k5⟩:=laid_at h5 hm
    exact ⟨g',t',cs',fuel',p',k1,k2,k3,k4,fun x hx=>by simp [k5 x hx]⟩
theorem laid_tab {P : Program} {W : World} {laid : List (String × DataW Unit)} (h : laidMet P laid W) {n : String} {t e : TypeId} {N g : Nat} {l : List (DataW Unit)} {la : List AV} (hm : (n,.agg l) ∈ laid)
  (h1 : P.globalNamed n = some g) (h2 : (P.globals[g]?).map (·.type) = some t) (h3 : P.underlying t = some (.array (N + 1) e)) (h4 : P.cellsOf e = 1) (h5 : P.cellsOf t = N + 1) (hl : la.length = N + 1)
  (hv : ∀ (i : Nat) (a : AV) fuel (x : Value) p d,la[i]? = some a → l[i]? = some d → DataW.trod (fun _=>()) P W 0 (fun _=>true) false fuel e [x] = some (d,p) → ∀ γ : Gh,VR γ a x) : Tab W g la:=by
 obtain ⟨ps,hL,_,hc⟩:=h
 obtain ⟨g',t',cs,fuel,p,k1,k2,k3,k4,k5⟩:=laid_at hL hm
 obtain rfl:=Option.some.inj (h1.symm.trans k1)
 obtain rfl:=Option.some.inj (h2.symm.trans k2)
 obtain ⟨xs,m,_,ex,hlen,hxl,hel⟩:=DataW.trod_array h3 k4
 have el : l = xs.map (·.1):=by
  have:=(Prod.mk.inj ex).1
  exact DataW.agg.inj this
 have hsz : cs.size = N + 1:=by rw [← h5,← hlen]; simp
 have h0 : MemPlace.cell g 0 ∈ ps:=k5 _ (by simp [MemPlace.row,hsz])
 obtain ⟨⟨c,e',hh⟩,_⟩:=hc g 0 h0
 have hcs : c = cs:=by
  unfold World.var? at k3
  rw [h1] at k3
  simp only [Option.bind_some,hh,Option.some.injEq] at k3
  exact k3
 subst hcs
 refine ⟨c,e',hh,fun i a ha=>?_⟩
 have hi : i < N + 1:=by rw [← hl]; exact (List.getElem?_eq_some_iff.mp ha).1
 have hE:=hel i hi
 rw [h4,Nat.mul_one] at hE
 have hi2 : i < c.size:=by omega
 have hd : ((c.toList.drop i).take 1) = [c[i]]:=by
  apply List.ext_getElem?
  intro j
  cases j with
  | zero=>simp [List.getElem?_take,List.getElem?_drop,hi2]
  | succ j=>simp [List.getElem?_take]
 rw [hd] at hE
 have hx : i < xs.length:=by omega
 rw [List.getElem?_eq_getElem hx] at hE
 refine ⟨c[i],Array.getElem?_eq_getElem hi2,?_⟩
 exact hv i a m c[i] xs[i].2 xs[i].1 ha (by rw [el]; simp [hx]) hE
theorem laid_ints {P : Program} {W : World} {laid : List (String × DataW Unit)} (h : laidMet P laid W) {n : String} {t e : TypeId} {N g : Nat} {k : IntKind} {l : List Int} (hm : (n,.agg (l.map fun i=>.lit (.int k i))) ∈ laid)
  (h1 : P.globalNamed n = some g) (h2 : (P.globals[g]?).map (·.type) = some t) (h3 : P.underlying t = some (.array (N + 1) e)) (h4 : P.cellsOf e = 1) (h5 : P.cellsOf t = N + 1) (hl : l.length = N + 1) (h6 : P.underlying e = some (.int k)) : Tab W g (l.map fun i=>.int k i):=by
 refine laid_tab h hm h1 h2 h3 h4 h5 (by simp [hl]) fun i a fuel x p d ha hd ht γ=>?_
 obtain ⟨z,e1,e2,_⟩:=DataW.trod_int h6 ht
 rw [List.getElem?_map] at ha hd
 cases hli : l[i]? with
 | none=>rw [hli] at ha; cases ha
 | some y=>
   rw [hli] at ha hd
   simp only [Option.map_some,Option.some.injEq] at ha hd
   subst ha hd
   simp only [List.cons.injEq,and_true] at e1
   simp only [Prod.mk.injEq,DataW.lit.injEq,Lit.int.injEq,true_and] at e2
   rw [e1,e2.1]
   exact .int _ _
theorem tab_ints {W : World} {g : Nat} {k : IntKind} {l : List Int} {la : List AV} (h : Tab W g (l.map fun i=>.int k i)) (e : la = l.map fun i=>.int k i) : Tab W g la:=e ▸ h
end Go.Ev
