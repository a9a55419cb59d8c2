/- Code of functions as the evaluator has it, and what some of them compute. No conditions. -/
import Derived.Test.YtdakkfjmclaciaaGreatDoorCA
set_option linter.unusedVariables false
set_option linter.unusedSimpArgs false
namespace Go.Ev
set_option maxRecDepth 100000
set_option linter.unusedSimpArgs false
set_option linter.unusedVariables false
variable {C : Ctx}
def nums (l : List Int) : List AV:=l.map (AV.int .i64 ·)
theorem nums_drop (l : List Int) (i : Nat) (h : i < l.length) : (nums l).drop i = .int .i64 l[i] :: (nums l).drop (i + 1):=by
 unfold nums
 rw [List.drop_eq_getElem_cons (l:=l.map (AV.int .i64 ·)) (by simpa using h),List.getElem_map]
def isI (n : Int) : Prop:=-9223372036854775808 ≤ n ∧ n ≤ 9223372036854775807
theorem num_loop (H : NetHas C) (l : List Int) (hn : l.length ≤ 1000000) (hf : ∀ v ∈ l,isI v) : ∀ (n i : Nat),i + n = l.length → ∀ (τ : St) (x : AV) (acc : List (List UInt8)) (qo : Option Nat),Ok τ → Rw τ x acc qo → acc.length + n ≤ 1000000 →
  ∃ τ' x' q',loopK C (semF C) 19 [3,6,7,8] L_script_numbers_0 [(3,x),(6,.sl l.length (nums l)),(7,.int .i64 l.length),(8,.int .i64 i)] τ = some (.exit 0,[(3,x')],τ') ∧ Rw τ' x' (acc ++ (l.drop i).map dec) q' ∧ Trw τ qo τ' q'
 | 0,i,hi,τ,x,acc,qo,hτ,hb,hl=>by
   have e : l.drop i = []:=List.drop_eq_nil_of_le (by omega)
   refine ⟨τ,x,qo,?_,by rw [e]; simpa using hb,.refl hτ⟩
   rw [loop_eq (he:=rfl)]
   have h : ¬ ((i : Int) < (l.length : Int)):=by omega
   simp only [L_script_numbers_0,h,EVC,EVD,EVB,Nat.reduceEqDiff,eqOp,eqA,eqNil,lenA,asNat,optNat,pt,tupleOf,Nat.reduceSub,Nat.reduceGT,Nat.reduceLT,hand,norms,normVs,normV,freeze,reduceIte,reduceCtorEq,srcCells,slCells,isStr,fillA,rep,asObj,outSl,Nat.reduceMul,Nat.reduceLeDiff,Int.reduceToNat,Int.reduceLE,Int.reduceLT,Int.reduceEq,Nat.reduceAdd,Int.reduceBNe,Int.reduceBEq,Int.reduceNeg]
 | n + 1,i,hi,τ,x,acc,qo,hτ,hb,hl=>by
   have h : ((i : Int) < (l.length : Int)):=by omega
   have h2 : i < l.length:=by omega
   have w2 : IntKind.i64.wrap ((i : Int) + 1) = ((i + 1 : Nat) : Int):=by rw [w64] <;> omega
   have p2 : (0 : Int) ≤ (i : Int):=by omega
   have fl : (nums l).length = l.length:=by simp [nums]
   have fd:=nums_drop l i h2
   have dn : l.drop i = l[i] :: l.drop (i + 1):=List.drop_eq_getElem_cons h2
   have hv:=hf _ (List.getElem_mem h2)
   generalize l[i] = v at *
   obtain ⟨v1,v2⟩:=hv
   have q1:=numShow H.toFmtHas v v1 v2 τ hτ
   obtain ⟨x',τ2,q2,a1,a2,a3⟩:=hb.app hτ (dec v) (by omega)
   obtain ⟨τ3,x3,q3,b1,b2,b3⟩:=num_loop H l hn hf n (i + 1) (by omega) τ2 x' _ _ a3.ok a2 (by simp; omega)
   refine ⟨τ3,x3,q3,?_,by rw [dn]; simpa using b2,a3.trans b3⟩
   rw [loop_eq (he:=rfl)]
   generalize hk : loopK C (semF C) 19 [3,6,7,8] L_script_numbers_0 = k at *
   simp only [L_script_numbers_0,h,h2,w2,p2,fl,fd,q1,a1,b1,st_get0,st_set0,splice,EVC,EVD,EVB,Nat.reduceEqDiff,eqOp,eqA,eqNil,lenA,asNat,optNat,pt,tupleOf,Nat.reduceSub,Nat.reduceGT,Nat.reduceLT,hand,norms,normVs,normV,freeze,reduceIte,reduceCtorEq,srcCells,slCells,isStr,fillA,rep,asObj,outSl,Nat.reduceMul,Nat.reduceLeDiff,Int.reduceToNat,Int.reduceLE,Int.reduceLT,Int.reduceEq,Nat.reduceAdd,Int.reduceBNe,Int.reduceBEq,Int.reduceNeg]
theorem Trw.pre {τ : St} {τ' : St} {qo' : Option Nat} (h : Trw τ none τ' qo') : ∃ L,τ' = τ ++ L:=by
 refine ⟨τ'.drop τ.length,?_⟩
 apply List.ext_getElem?
 intro i
 by_cases c : i < τ.length
 ·rw [List.getElem?_append_left c,List.getElem?_eq_getElem c]
  exact h.old i _ (by simp) (List.getElem?_eq_getElem c)
 ·rw [List.getElem?_append_right (by omega),List.getElem?_drop]
  congr 1
  omega
theorem endR_of {n : Nat} {rs : List XR} {e : As} {τ σ3 : St} {vs vs' : List AV} (h : resL e τ rs = some vs) (h2 : hand false vs τ = some (vs',σ3)) : endR n rs (some (.ret,e,τ)) = some (tupleOf vs',tidy n vs' σ3):=by
 rw [endR_ret,h]
 dsimp only
 rw [h2]
theorem numbers_is (H : NetHas C) (l : List Int) (hn : l.length ≤ 1000) (hf : ∀ v ∈ l,isI v) {x : AV} {σ : St} (hx : hand false [x] σ = some ([.sl l.length (nums l)],σ)) (hσ : Ok σ) : semF C f_script_numbers [x] σ = some (.sl l.length ((l.map dec).map .str),σ):=by
 rw [H.numbers.go2 hx (by simp [K_script_numbers])]
 obtain ⟨τ',x',q',a1,a2,a3⟩:=num_loop H l (by omega) hf l.length 0 (by omega) σ .nils [] none hσ (.inl ⟨rfl,rfl,rfl⟩) (by simp; omega)
 rw [List.drop_zero,List.nil_append] at a2
 simp only [Int.cast_ofNat_Int,Int.natCast_zero] at a1
 obtain ⟨τ2,h1,h2,h3⟩:=a2.hand a3.ok
 rw [List.length_map] at h1
 obtain ⟨L,hL⟩:=(a3.trans h2).pre
 have ty:=st_tidy hσ (vs:=[.sl l.length ((l.map dec).map .str)]) (by rw [belows,below,belows_strs]; rfl) L
 rw [← hL] at ty
 have body : semK C (semF C) K_script_numbers.ntmps K_script_numbers.body (argsA 0 [.sl l.length (nums l)]) σ = some (.ret,[(2,x')],τ'):=by
  simp only [K_script_numbers,a1,EVC,EVD,EVB,Nat.reduceEqDiff,eqOp,eqA,eqNil,lenA,asNat,optNat,pt,tupleOf,Nat.reduceSub,Nat.reduceGT,Nat.reduceLT,hand,norms,normVs,normV,freeze,reduceIte,reduceCtorEq,srcCells,slCells,isStr,fillA,rep,asObj,outSl,Nat.reduceMul,Nat.reduceLeDiff,Int.reduceToNat,Int.reduceLE,Int.reduceLT,Int.reduceEq,Nat.reduceAdd,Int.reduceBNe,Int.reduceBEq,Int.reduceNeg]
 rw [body,endR_of (vs:=[x']) rfl h1]
 exact congrArg (fun s=>some (_,s)) ty
end Go.Ev
namespace Go.Ev
set_option maxRecDepth 100000
set_option linter.unusedSimpArgs false
set_option linter.unusedVariables false
variable {C : Ctx}
structure ScrV where
 map : List UInt8
 stores : List StoreV
 now : Int
 hmac : Bool
 vers : List VerV
 b1 : Int
 b2 : Int
 b3 : Int
 b4 : Int
 paths : List (List UInt8)
def storesA (l : List StoreV) : AV:=.sl l.length (l.flatMap StoreV.cs)
def versA (l : List VerV) : AV:=.sl l.length (l.flatMap VerV.cs)
def strsA (l : List (List UInt8)) : AV:=.sl l.length (l.map .str)
def ScrV.cs (s : ScrV) : List AV:=[.str s.map,storesA s.stores,.int .i64 s.now,.bool s.hmac,versA s.vers,.int .i64 s.b1,.int .i64 s.b2,.int .i64 s.b3,.int .i64 s.b4,strsA s.paths]
theorem stores_nv (l : List StoreV) : NV (storesA l):=.sl _ (flat_below StoreV.below l)
theorem vers_nv (l : List VerV) : NV (versA l):=.sl _ (flat_below VerV.below l)
theorem paths_nv (l : List (List UInt8)) : NV (strsA l):=.sl _ (belows_strs l)
theorem ScrV.nv (s : ScrV) : NVs s.cs:=.cons (.str _) (.cons (stores_nv _) (.cons (.int _ _) (.cons (.bool _) (.cons (vers_nv _) (.cons (.int _ _) (.cons (.int _ _) (.cons (.int _ _) (.cons (.int _ _) (.cons (paths_nv _) .nil)))))))))
structure ScrV.few (s : ScrV) : Prop where
 map : s.map.length ≤ 1000000
 sn : s.stores.length ≤ 30
 st : ∀ v ∈ s.stores,v.few
 now : isI s.now
 vn : s.vers.length ≤ 1000
 ve : ∀ v ∈ s.vers,v.few
 b1 : isI s.b1
 b2 : isI s.b2
 b3 : isI s.b3
 b4 : isI s.b4
 pn : s.paths.length ≤ 1000
 pa : ∀ p ∈ s.paths,p.length ≤ 1000000
def word (b : Bool) : List UInt8:=if b then [104,109,97,99] else [116,97,98,108,101]
def ScrV.vt (s : ScrV) : List UInt8:=(s.vers.map VerV.tx).flatMap net
def ScrV.bt (s : ScrV) : List UInt8:=([s.b1,s.b2,s.b3,s.b4].map dec).flatMap net
def ScrV.st (s : ScrV) : List UInt8:=(s.stores.map StoreV.tx).flatMap net
def ScrV.pt (s : ScrV) : List UInt8:=s.paths.flatMap net
def ScrV.tx (s : ScrV) : List UInt8:=[s.map,dec s.now,word s.hmac,s.vt,s.bt,s.st,s.pt].flatMap net
theorem sum_le (l : List (List UInt8)) (k m : Nat) (h : ∀ x ∈ l,x.length ≤ k) (hk : k ≤ 1099511627776) (hm : l.length ≤ m) : (l.flatMap net).length ≤ m * (k + 23):=Nat.le_trans (sum_len l k h hk) (Nat.mul_le_mul_right _ hm)
theorem word_len (b : Bool) : (word b).length ≤ 5:=by cases b <;> decide
structure ScrL (s : ScrV) : Prop where
 v : s.vt.length ≤ 4100000000
 b : s.bt.length ≤ 200
 o : s.st.length ≤ 96100000000
 p : s.pt.length ≤ 1100000000
 t : s.tx.length ≤ 110000000000
theorem ScrV.few.len {s : ScrV} (h : s.few) : ScrL s:=by
 have a1 : s.vt.length ≤ 4100000000:=by
  have:=sum_le (s.vers.map VerV.tx) 4000000 1000 (fun x hx=>by
   obtain ⟨v,hv,rfl⟩:=List.mem_map.mp hx
   exact v.tx_len (h.ve v hv)) (by decide) (by simpa using h.vn)
  unfold ScrV.vt; omega
 have a2 : s.bt.length ≤ 200:=by
  have:=sum_le ([s.b1,s.b2,s.b3,s.b4].map dec) 21 4 (fun x hx=>by
   obtain ⟨v,hv,rfl⟩:=List.mem_map.mp hx
   have : isI v:=by
    simp only [List.mem_cons,List.not_mem_nil,or_false] at hv
    rcases hv with rfl | rfl | rfl | rfl
    ·exact h.b1
    ·exact h.b2
    ·exact h.b3
    ·exact h.b4
   exact dec_len v this.1 this.2) (by decide) (by simp)
  unfold ScrV.bt; omega
 have a3 : s.st.length ≤ 96100000000:=by
  have:=sum_le (s.stores.map StoreV.tx) 3200000000 30 (fun x hx=>by
   obtain ⟨v,hv,rfl⟩:=List.mem_map.mp hx
   exact v.tx_len (h.st v hv)) (by decide) (by simpa using h.sn)
  unfold ScrV.st; omega
 have a4 : s.pt.length ≤ 1100000000:=by
  have:=sum_le s.paths 1000000 1000 h.pa (by decide) h.pn
  unfold ScrV.pt; omega
 refine ⟨a1,a2,a3,a4,?_⟩
 have n1:=net_len s.map (Nat.le_trans h.map (by decide))
 have d:=dec_len s.now h.now.1 h.now.2
 have n2:=net_len (dec s.now) (Nat.le_trans d (by decide))
 have n3:=net_len (word s.hmac) (Nat.le_trans (word_len _) (by decide))
 have w:=word_len s.hmac
 have n4:=net_len s.vt (Nat.le_trans a1 (by decide))
 have n5:=net_len s.bt (Nat.le_trans a2 (by decide))
 have n6:=net_len s.st (Nat.le_trans a3 (by decide))
 have n7:=net_len s.pt (Nat.le_trans a4 (by decide))
 have:=h.map
 simp only [ScrV.tx,List.flatMap_cons,List.flatMap_nil,List.length_append,List.length_nil]
 omega
def showV (s : ScrV) : AV:=if 64 < s.paths.length then .tup [.str [],.int .i64 5] else if 1048576 < s.tx.length then .tup [.str [],.int .i64 5] else .tup [.str s.tx,.int .i64 0]
theorem sames_strs : ∀ l : List (List UInt8),sames (l.map AV.str) (l.map AV.str) = true
 | []=>by simp [sames]
 | x :: l=>by
   rw [List.map_cons,sames,same_str,sames_strs l]; rfl
theorem same_strs (n : Nat) (l : List (List UInt8)) : same (.sl n (l.map AV.str)) (.sl n (l.map AV.str)) = true:=by
 rw [same,sames_strs l]; simp
structure ShHas (C : Ctx) : Prop extends NetHas C where
 show' : Has C f_script_Show K_script_Show
theorem script_Show_is (H : ShHas C) (s : ScrV) (hs : s.few) (σ : St) (hσ : Ok σ) : semF C f_script_Show [.agg s.cs] σ = some (showV s,σ):=by
 rw [H.show'.go (NVs.hand (.cons (.agg s.nv) .nil) _) (by simp [K_script_Show])]
 have ty:=fun (v : List UInt8) (e : Int) L=>st_tidy hσ (vs:=[.str v,.int .i64 e]) rfl L
 have sm9:=same_strs s.paths.length s.paths
 unfold showV
 by_cases c1 : 64 < s.paths.length
 ·have c1' : (s.paths.length : Int) > 64:=by omega
  rw [if_pos c1]
  simp only [K_script_Show,ScrV.cs,strsA,c1',ty,EVC,EVD,EVB,Nat.reduceEqDiff,eqOp,eqA,eqNil,lenA,asNat,optNat,pt,tupleOf,Nat.reduceSub,Nat.reduceGT,Nat.reduceLT,hand,norms,normVs,normV,freeze,reduceIte,reduceCtorEq,srcCells,slCells,isStr,fillA,rep,asObj,outSl,Nat.reduceMul,Nat.reduceLeDiff,Int.reduceToNat,Int.reduceLE,Int.reduceLT,Int.reduceEq,Nat.reduceAdd,Int.reduceBNe,Int.reduceBEq,Int.reduceNeg]
 rw [if_neg c1]
 have c1' : ¬ (s.paths.length : Int) > 64:=by omega
 have hL:=hs.len
 have b0 : ([.cells s.cs ⟨false,none⟩] : St).all (AO.below 0) = true:=by
  simp only [List.all_cons,List.all_nil,Bool.and_true,AO.below]
  exact s.nv.cl
 have o0 : Ok (σ ++ [.cells s.cs ⟨false,none⟩]):=hσ.plus b0
 have t0 : Trw σ none (σ ++ [.cells s.cs ⟨false,none⟩]) none:=⟨o0,by simp,fun _ _ _ hx=>sy_old hx _,fun _ e=>by cases e⟩
 have bx0 : (σ ++ [AO.cells s.cs ⟨false,none⟩] : St)[σ.length]? = some (.cells s.cs ⟨false,none⟩):=by rw [st_get0]; rfl
 obtain ⟨τ1,x5,q5,a1,a2,a3⟩:=ver_loop H.toNetHas s.vers (by have:=hs.vn; omega) hs.ve σ.length (.str (word s.hmac)) .nils s.vers.length 0 (by omega) _ .nils [] none o0 (.inl ⟨rfl,rfl,rfl⟩) (by have:=hs.vn; simp; omega)
 rw [List.drop_zero,List.nil_append] at a2
 simp only [Int.cast_ofNat_Int,Int.natCast_zero] at a1
 obtain ⟨τ2,x6,q6,c1,c2,c3⟩:=store_loop H.toNetHas s.stores (by have:=hs.sn; omega) hs.st σ.length (.str (word s.hmac)) x5 s.stores.length 0 (by omega) _ .nils [] none a3.ok (.inl ⟨rfl,rfl,rfl⟩) (by have:=hs.sn; simp; omega)
 rw [List.drop_zero,List.nil_append] at c2
 simp only [Int.cast_ofNat_Int,Int.natCast_zero] at c1
 have n5 : q5 ≠ some σ.length:=fun e=>by
  rcases a3.q _ e with e | e
  ·cases e
  ·simp at e; omega
 have n56 : ∀ q,q5 = some q → q6 ≠ some q:=fun q e e1=>by
  have:=a2.lt e
  rcases c3.q q e1 with e | e
  ·cases e
  ·omega
 have n6 : q6 ≠ some σ.length:=fun e=>by
  rcases c3.q _ e with e | e
  ·cases e
  ·have:=a3.len
   simp at this; omega
 have bx1:=a3.old _ _ (by simp) bx0
 have bx2:=c3.old _ _ (by simp) bx1
 obtain ⟨B,hB⟩ : ∃ B,B = [AV.int .i64 s.b1,.int .i64 s.b2,.int .i64 s.b3,.int .i64 s.b4]:=⟨_,rfl⟩
 have bb : ([.cells B ⟨false,none⟩] : St).all (AO.below 0) = true:=by rw [hB]; rfl
 have o3 : Ok (τ2 ++ [.cells B ⟨false,none⟩]):=c3.ok.plus bb
 have t3 : Trw τ2 none (τ2 ++ [.cells B ⟨false,none⟩]) none:=⟨o3,by simp,fun _ _ _ hx=>sy_old hx _,fun _ e=>by cases e⟩
 have bx3:=t3.old _ _ (by simp) bx2
 have bd3 : (τ2 ++ [AO.cells B ⟨false,none⟩] : St)[τ2.length]? = some (.cells B ⟨false,none⟩):=by rw [st_get0]; rfl
 have r5 : Rw (τ2 ++ [.cells B ⟨false,none⟩]) x5 (s.vers.map VerV.tx) q5:=a2.keep (fun q e=>by
  have:=List.getElem?_eq_getElem (a2.lt e)
  rw [this]
  exact t3.old _ _ (by simp) (c3.old _ _ (by simp) this))
 have r6 : Rw (τ2 ++ [.cells B ⟨false,none⟩]) x6 (s.stores.map StoreV.tx) q6:=c2.keep (fun q e=>List.getElem?_append_left (c2.lt e))
 have q1:=numShow H.toFmtHas s.now hs.now.1 hs.now.2 _ o3
 obtain ⟨τ4,d1,d2⟩:=nets_row H.toNetHas o3 r5 (by have:=hL.v; unfold ScrV.vt at this; omega) (by have:=hs.vn; simp; omega)
 have l5 : ∀ q,q5 = some q → q < τ2.length:=fun q e=>by
  have:=a2.lt e
  have:=c3.len
  omega
 have l6 : ∀ q,q6 = some q → q < τ2.length:=fun q e=>c2.lt e
 have n5b : q5 ≠ some τ2.length:=fun e=>by have:=l5 _ e; omega
 have n6b : q6 ≠ some τ2.length:=fun e=>by have:=l6 _ e; omega
 have bx4:=d2.old _ _ n5 bx3
 have bd4:=d2.old _ _ n5b bd3
 have r6' : Rw τ4 x6 (s.stores.map StoreV.tx) q6:=r6.keep (fun q e=>by
  have:=List.getElem?_eq_getElem (r6.lt e)
  rw [this]
  exact d2.old _ _ (fun e1=>n56 q e1 e) this)
 have nb : ∀ v ∈ [s.b1,s.b2,s.b3,s.b4],isI v:=fun v hv=>by
  simp only [List.mem_cons,List.not_mem_nil,or_false] at hv
  rcases hv with rfl | rfl | rfl | rfl
  ·exact hs.b1
  ·exact hs.b2
  ·exact hs.b3
  ·exact hs.b4
 have e1:=numbers_is H.toNetHas [s.b1,s.b2,s.b3,s.b4] (by simp) nb (x:=.xsl 4 (nums [s.b1,s.b2,s.b3,s.b4])) (σ:=τ4) rfl d2.ok
 have e2:=nets_sl H.toNetHas ([s.b1,s.b2,s.b3,s.b4].map dec) (by have:=hL.b; unfold ScrV.bt at this; omega) (by simp) τ4 d2.ok
 obtain ⟨τ5,f1,f2⟩:=nets_row H.toNetHas d2.ok r6' (by have:=hL.o; unfold ScrV.st at this; omega) (by have:=hs.sn; simp; omega)
 have bx5:=f2.old _ _ n6 bx4
 have bd5:=f2.old _ _ n6b bd4
 have g1:=nets_sl H.toNetHas s.paths (by have:=hL.p; unfold ScrV.pt at this; omega) (by have:=hs.pn; omega) τ5 f2.ok
 have g2:=nets_xs H.toNetHas [s.map,dec s.now,word s.hmac,s.vt,s.bt,s.st,s.pt] (by have:=hL.t; unfold ScrV.tx at this; omega) 7 rfl (by simp) τ5 f2.ok
 have T : Trw σ none τ5 none:=by
  have T1:=((t0.trans a3))
  refine ⟨f2.ok,?_,fun i y _ hy=>?_,fun _ e=>by cases e⟩
  ·have:=t0.len; have:=a3.len; have:=c3.len; have:=t3.len; have:=d2.len; have:=f2.len
   omega
  ·have hi:=(List.getElem?_eq_some_iff.mp hy).1
   have i5 : q5 ≠ some i:=fun e=>by
    rcases a3.q _ e with e | e
    ·cases e
    ·simp at e; omega
   have i6 : q6 ≠ some i:=fun e=>by
    rcases c3.q _ e with e | e
    ·cases e
    ·have:=a3.len
     simp at this; omega
   exact f2.old _ _ i6 (d2.old _ _ i5 (t3.old _ _ (by simp) (c3.old _ _ (by simp) (a3.old _ _ (by simp) (t0.old _ _ (by simp) hy)))))
 obtain ⟨L,hLL⟩:=T.pre
 have ty5:=fun v e=>ty v e L
 rw [← hLL] at ty5
 have vx : [s.map,dec s.now,word s.hmac,s.vt,s.bt,s.st,s.pt].flatMap net = s.tx:=rfl
 rw [vx] at g2
 have v1 : (s.vers.map VerV.tx).flatMap net = s.vt:=rfl
 have v2 : (s.stores.map StoreV.tx).flatMap net = s.st:=rfl
 have v3 : s.paths.flatMap net = s.pt:=rfl
 have v4 : ([s.b1,s.b2,s.b3,s.b4].map dec).flatMap net = s.bt:=rfl
 rw [v1] at d1
 rw [v2] at f1
 rw [v3] at g1
 rw [v4] at e2
 subst hB
 simp only [List.map_cons,List.map_nil,nums,List.length_cons,List.length_nil] at e1 e2 g2
 unfold ScrV.cs storesA versA strsA at *
 have fin : ∀ t : List UInt8,t = s.tx → (if (t.length : Int) > 1048576 then some (AV.tup [.str [],.int .i64 5],σ) else some (AV.tup [.str t,.int .i64 0],σ)) = some (if 1048576 < s.tx.length then AV.tup [.str [],.int .i64 5] else AV.tup [.str s.tx,.int .i64 0],σ):=fun t ht=>by
  subst ht
  split <;> split <;> first | rfl | omega
 rw [← fin _ rfl]
 generalize s.tx = T at *
 by_cases c9 : (T.length : Int) > 1048576
 ·rw [if_pos c9]
  cases hh : s.hmac
  ·simp only [hh,word,Bool.false_eq_true,if_false] at *
   simp only [K_script_Show,hh,c1',a1,c1,q1,d1,e1,e2,f1,g1,g2,bx1,bx2,bx3,bx4,bx5,bd3,bd4,bd5,c9,ty5,sm9,st_get0,st_set0,splice,EVC,EVD,EVB,Nat.reduceEqDiff,eqOp,eqA,eqNil,lenA,asNat,optNat,pt,tupleOf,Nat.reduceSub,Nat.reduceGT,Nat.reduceLT,hand,norms,normVs,normV,freeze,reduceIte,reduceCtorEq,srcCells,slCells,isStr,fillA,rep,asObj,outSl,Nat.reduceMul,Nat.reduceLeDiff,Int.reduceToNat,Int.reduceLE,Int.reduceLT,Int.reduceEq,Nat.reduceAdd,Int.reduceBNe,Int.reduceBEq,Int.reduceNeg]
  ·simp only [hh,word,if_true] at *
   simp only [K_script_Show,hh,c1',a1,c1,q1,d1,e1,e2,f1,g1,g2,bx1,bx2,bx3,bx4,bx5,bd3,bd4,bd5,c9,ty5,sm9,st_get0,st_set0,splice,EVC,EVD,EVB,Nat.reduceEqDiff,eqOp,eqA,eqNil,lenA,asNat,optNat,pt,tupleOf,Nat.reduceSub,Nat.reduceGT,Nat.reduceLT,hand,norms,normVs,normV,freeze,reduceIte,reduceCtorEq,srcCells,slCells,isStr,fillA,rep,asObj,outSl,Nat.reduceMul,Nat.reduceLeDiff,Int.reduceToNat,Int.reduceLE,Int.reduceLT,Int.reduceEq,Nat.reduceAdd,Int.reduceBNe,Int.reduceBEq,Int.reduceNeg]
 ·rw [if_neg c9]
  cases hh : s.hmac
  ·simp only [hh,word,Bool.false_eq_true,if_false] at *
   simp only [K_script_Show,hh,c1',a1,c1,q1,d1,e1,e2,f1,g1,g2,bx1,bx2,bx3,bx4,bx5,bd3,bd4,bd5,c9,ty5,sm9,st_get0,st_set0,splice,EVC,EVD,EVB,Nat.reduceEqDiff,eqOp,eqA,eqNil,lenA,asNat,optNat,pt,tupleOf,Nat.reduceSub,Nat.reduceGT,Nat.reduceLT,hand,norms,normVs,normV,freeze,reduceIte,reduceCtorEq,srcCells,slCells,isStr,fillA,rep,asObj,outSl,Nat.reduceMul,Nat.reduceLeDiff,Int.reduceToNat,Int.reduceLE,Int.reduceLT,Int.reduceEq,Nat.reduceAdd,Int.reduceBNe,Int.reduceBEq,Int.reduceNeg]
  ·simp only [hh,word,if_true] at *
   simp only [K_script_Show,hh,c1',a1,c1,q1,d1,e1,e2,f1,g1,g2,bx1,bx2,bx3,bx4,bx5,bd3,bd4,bd5,c9,ty5,sm9,st_get0,st_set0,splice,EVC,EVD,EVB,Nat.reduceEqDiff,eqOp,eqA,eqNil,lenA,asNat,optNat,pt,tupleOf,Nat.reduceSub,Nat.reduceGT,Nat.reduceLT,hand,norms,normVs,normV,freeze,reduceIte,reduceCtorEq,srcCells,slCells,isStr,fillA,rep,asObj,outSl,Nat.reduceMul,Nat.reduceLeDiff,Int.reduceToNat,Int.reduceLE,Int.reduceLT,Int.reduceEq,Nat.reduceAdd,Int.reduceBNe,Int.reduceBEq,Int.reduceNeg]
end Go.Ev
namespace Go.Ev
set_option maxRecDepth 100000
set_option linter.unusedSimpArgs false
set_option linter.unusedVariables false
variable {C : Ctx}
structure RShHas (C : Ctx) : Prop extends RefHas C where
 rshow : Has C f_legateref32_Show K_legateref32_Show
theorem cat_le {x y z : List UInt8} {n : Nat} (h : x.length + y.length ≤ n) (hn : n ≤ 9223372036854775807) (hz : z = x ++ y) : binStr .add x y = some (.str z):=by
 rw [hz]; exact bs_add (by omega)
theorem rver_loop (H : RefHas C) (s : ScrV) (hs : s.few) (b : Nat) (wd y z : AV) : ∀ (n i : Nat),i + n = s.vers.length → ∀ (τ : St) (acc : List UInt8),Ok τ → τ[b]? = some (.cells s.cs ⟨false,none⟩) → (acc ++ ((s.vers.drop i).map VerV.tx).flatMap net).length ≤ 1099511627776 →
  ∃ G,Ok (τ ++ G) ∧ loopK C (semF C) 156 [1,4,5,6,7,8] L_legateref32_Show_0 [(1,.ref b 0),(4,wd),(5,.str acc),(6,y),(7,z),(8,.int .i64 i)] τ = some (.exit 0,[(1,.ref b 0),(4,wd),(5,.str (acc ++ ((s.vers.drop i).map VerV.tx).flatMap net)),(6,y),(7,z)],τ ++ G)
 | 0,i,hi,τ,acc,hτ,hb,hl=>by
   have e : s.vers.drop i = []:=List.drop_eq_nil_of_le (by omega)
   refine ⟨[],by simpa using hτ,?_⟩
   rw [loop_eq (he:=rfl),e]
   have h : ¬ ((i : Int) < (s.vers.length : Int)):=by omega
   unfold ScrV.cs versA at hb
   simp only [L_legateref32_Show_0,h,hb,List.map_nil,List.flatMap_nil,List.append_nil,EVC,EVD,EVB,Nat.reduceEqDiff,eqOp,eqA,eqNil,lenA,asNat,optNat,pt,tupleOf,Nat.reduceSub,Nat.reduceGT,Nat.reduceLT,hand,norms,normVs,normV,freeze,reduceIte,reduceCtorEq,srcCells,slCells,isStr,fillA,rep,asObj,outSl,Nat.reduceMul,Nat.reduceLeDiff,Int.reduceToNat,Int.reduceLE,Int.reduceLT,Int.reduceEq,Nat.reduceAdd,Int.reduceBNe,Int.reduceBEq,Int.reduceNeg]
 | n + 1,i,hi,τ,acc,hτ,hb,hl=>by
   have h : ((i : Int) < (s.vers.length : Int)):=by omega
   have h2 : i < s.vers.length:=by omega
   have w2 : IntKind.i64.wrap ((i : Int) + 1) = ((i + 1 : Nat) : Int):=by have:=hs.vn; rw [w64] <;> omega
   have p2 : (0 : Int) ≤ (i : Int):=by omega
   have fl:=flat_len VerV.len s.vers
   have fd:=flat_at VerV.len (List.getElem?_eq_getElem h2)
   have dn : s.vers.drop i = s.vers[i] :: s.vers.drop (i + 1):=List.drop_eq_getElem_cons h2
   have hv:=hs.ve _ (List.getElem_mem h2)
   generalize s.vers[i] = v at *
   have vt:=VerV.tx_len v hv
   obtain ⟨v1,v2,v3⟩:=hv
   rw [dn,List.map_cons,List.flatMap_cons] at hl ⊢
   obtain ⟨N,hN⟩ : ∃ N,((s.vers.drop (i + 1)).map VerV.tx).flatMap net = N:=⟨_,rfl⟩
   rw [hN,← List.append_assoc] at hl ⊢
   have o1 : Ok (τ ++ [.cells v.cs ⟨false,none⟩]):=st_ok hτ (by rfl)
   obtain ⟨G,k1,k2⟩:=rver_loop H s hs b wd y z n (i + 1) (by omega) (τ ++ [.cells v.cs ⟨false,none⟩]) (acc ++ net v.tx) o1 (sy_old hb _) (by rw [hN]; exact hl)
   rw [hN,List.append_assoc τ] at k2
   rw [List.append_assoc] at k1
   refine ⟨.cells v.cs ⟨false,none⟩ :: G,k1,?_⟩
   rw [loop_eq (he:=rfl)]
   generalize hk : loopK C (semF C) 156 [1,4,5,6,7,8] L_legateref32_Show_0 = k at *
   have hacc : acc.length ≤ 1099511627776:=by simp only [List.length_append] at hl; omega
   have m1:=net_len v.id (by omega)
   have m2:=net_len v.sg (by omega)
   have m3:=net_len v.dig (by omega)
   have m4:=net_len v.tx (by omega)
   have q1:=fun τ=>refNet H v.id (by omega) τ
   have q2:=fun τ=>refNet H v.sg (by omega) τ
   have q3:=fun τ=>refNet H v.dig (by omega) τ
   have q4:=fun τ=>refNet H v.tx (by omega) τ
   have c1 : binStr .add (net v.id) (net v.sg) = some (.str (net v.id ++ net v.sg)):=bs_add (by omega)
   have c2 : binStr .add (net v.id ++ net v.sg) (net v.dig) = some (.str v.tx):=cat_le (n:=100000000) (by simp; omega) (by decide) (by simp [VerV.tx])
   have c3 : binStr .add acc (net v.tx) = some (.str (acc ++ net v.tx)):=bs_add (by omega)
   unfold ScrV.cs versA VerV.cs at *
   simp only [L_legateref32_Show_0,h,h2,hb,w2,p2,fl,fd,q1,q2,q3,q4,c1,c2,c3,k2,st_get0,st_set0,splice,sy_old hb,same_str,EVC,EVD,EVB,Nat.reduceEqDiff,eqOp,eqA,eqNil,lenA,asNat,optNat,pt,tupleOf,Nat.reduceSub,Nat.reduceGT,Nat.reduceLT,hand,norms,normVs,normV,freeze,reduceIte,reduceCtorEq,srcCells,slCells,isStr,fillA,rep,asObj,outSl,Nat.reduceMul,Nat.reduceLeDiff,Int.reduceToNat,Int.reduceLE,Int.reduceLT,Int.reduceEq,Nat.reduceAdd,Int.reduceBNe,Int.reduceBEq,Int.reduceNeg]
theorem sames_files : ∀ l : List FileV,sames (l.flatMap FileV.cs) (l.flatMap FileV.cs) = true
 | []=>by simp [sames]
 | x :: l=>by
   rw [List.flatMap_cons]
   show sames (.str x.name :: .str x.data :: l.flatMap FileV.cs) (.str x.name :: .str x.data :: l.flatMap FileV.cs) = true
   rw [sames,same_str,sames,same_str,sames_files l]; rfl
theorem same_files (n : Nat) (l : List FileV) : same (.sl n (l.flatMap FileV.cs)) (.sl n (l.flatMap FileV.cs)) = true:=by
 rw [same,sames_files l]; simp
theorem rfile_loop (H : RefHas C) (v : StoreV) (hv : v.few) (b c : Nat) (wd y z u1 u2 : AV) (τ : St) (hτ : Ok τ) (hb : τ[c]? = some (.cells v.cs ⟨false,none⟩)) : ∀ (n i : Nat),i + n = v.files.length → ∀ (acc : List UInt8),(acc ++ ((v.files.drop i).map FileV.tx).flatMap net).length ≤ 1099511627776 →
  loopK C (semF C) 156 [1,4,5,6,7,10,11,12,13] L_legateref32_Show_1 [(1,.ref b 0),(4,wd),(5,y),(6,z),(7,u1),(10,u2),(11,.ref c 0),(12,.str acc),(13,.int .i64 i)] τ = some (.exit 4,[(1,.ref b 0),(4,wd),(5,y),(6,z),(7,u1),(10,u2),(11,.ref c 0),(12,.str (acc ++ ((v.files.drop i).map FileV.tx).flatMap net))],τ)
 | 0,i,hi,acc,hl=>by
   have e : v.files.drop i = []:=List.drop_eq_nil_of_le (by omega)
   rw [loop_eq (he:=rfl),e]
   have h : ¬ ((i : Int) < (v.files.length : Int)):=by omega
   unfold StoreV.cs filesA at hb
   simp only [L_legateref32_Show_1,h,hb,List.map_nil,List.flatMap_nil,List.append_nil,EVC,EVD,EVB,Nat.reduceEqDiff,eqOp,eqA,eqNil,lenA,asNat,optNat,pt,tupleOf,Nat.reduceSub,Nat.reduceGT,Nat.reduceLT,hand,norms,normVs,normV,freeze,reduceIte,reduceCtorEq,srcCells,slCells,isStr,fillA,rep,asObj,outSl,Nat.reduceMul,Nat.reduceLeDiff,Int.reduceToNat,Int.reduceLE,Int.reduceLT,Int.reduceEq,Nat.reduceAdd,Int.reduceBNe,Int.reduceBEq,Int.reduceNeg]
 | n + 1,i,hi,acc,hl=>by
   have h : ((i : Int) < (v.files.length : Int)):=by omega
   have h2 : i < v.files.length:=by omega
   have w2 : IntKind.i64.wrap ((i : Int) + 1) = ((i + 1 : Nat) : Int):=by have:=hv.2.2.1; rw [w64] <;> omega
   have p2 : (0 : Int) ≤ (i : Int):=by omega
   have fl:=flat_len FileV.len v.files
   have fd:=flat_at FileV.len (List.getElem?_eq_getElem h2)
   have dn : v.files.drop i = v.files[i] :: v.files.drop (i + 1):=List.drop_eq_getElem_cons h2
   have hf:=hv.2.2.2 _ (List.getElem_mem h2)
   generalize v.files[i] = f at *
   have ft:=FileV.tx_len f hf
   obtain ⟨f1,f2⟩:=hf
   rw [dn,List.map_cons,List.flatMap_cons] at hl ⊢
   obtain ⟨N,hN⟩ : ∃ N,((v.files.drop (i + 1)).map FileV.tx).flatMap net = N:=⟨_,rfl⟩
   rw [hN,← List.append_assoc] at hl ⊢
   have k2:=rfile_loop H v hv b c wd y z u1 u2 τ hτ hb n (i + 1) (by omega) (acc ++ net f.tx) (by rw [hN]; exact hl)
   rw [hN] at k2
   rw [loop_eq (he:=rfl)]
   generalize hk : loopK C (semF C) 156 [1,4,5,6,7,10,11,12,13] L_legateref32_Show_1 = k at *
   have hacc : acc.length ≤ 1099511627776:=by simp only [List.length_append] at hl; omega
   have m1:=net_len f.name (by omega)
   have m2:=net_len f.data (by omega)
   have m4:=net_len f.tx (by omega)
   have q1:=refNet H f.name (by omega) τ
   have q2:=refNet H f.data (by omega) τ
   have q4:=refNet H f.tx (by omega) τ
   have c1 : binStr .add (net f.name) (net f.data) = some (.str f.tx):=cat_le (n:=100000000) (by omega) (by decide) (by simp [FileV.tx])
   have c3 : binStr .add acc (net f.tx) = some (.str (acc ++ net f.tx)):=bs_add (by omega)
   have sm : ∀ n l,same (.sl n (List.flatMap FileV.cs l)) (.sl n (List.flatMap FileV.cs l)) = true:=same_files
   unfold StoreV.cs filesA FileV.cs at *
   simp only [L_legateref32_Show_1,h,h2,hb,w2,p2,fl,fd,q1,q2,q4,c1,c3,k2,sm,st_get0,st_set0,splice,same_str,same_int,EVC,EVD,EVB,Nat.reduceEqDiff,eqOp,eqA,eqNil,lenA,asNat,optNat,pt,tupleOf,Nat.reduceSub,Nat.reduceGT,Nat.reduceLT,hand,norms,normVs,normV,freeze,reduceIte,reduceCtorEq,srcCells,slCells,isStr,fillA,rep,asObj,outSl,Nat.reduceMul,Nat.reduceLeDiff,Int.reduceToNat,Int.reduceLE,Int.reduceLT,Int.reduceEq,Nat.reduceAdd,Int.reduceBNe,Int.reduceBEq,Int.reduceNeg]
theorem rstore_loop (H : RefHas C) (s : ScrV) (hs : s.few) (b : Nat) (wd y z : AV) : ∀ (n i : Nat),i + n = s.stores.length → ∀ (τ : St) (acc : List UInt8),Ok τ → τ[b]? = some (.cells s.cs ⟨false,none⟩) → (acc ++ ((s.stores.drop i).map StoreV.tx).flatMap net).length ≤ 1099511627776 →
  ∃ G,Ok (τ ++ G) ∧ loopK C (semF C) 156 [1,4,5,6,7,10] L_legateref32_Show_2 [(1,.ref b 0),(4,wd),(5,y),(6,.str acc),(7,z),(10,.int .i64 i)] τ = some (.exit 2,[(1,.ref b 0),(4,wd),(5,y),(6,.str (acc ++ ((s.stores.drop i).map StoreV.tx).flatMap net)),(7,z)],τ ++ G)
 | 0,i,hi,τ,acc,hτ,hb,hl=>by
   have e : s.stores.drop i = []:=List.drop_eq_nil_of_le (by omega)
   refine ⟨[],by simpa using hτ,?_⟩
   rw [loop_eq (he:=rfl),e]
   have h : ¬ ((i : Int) < (s.stores.length : Int)):=by omega
   unfold ScrV.cs storesA at hb
   simp only [L_legateref32_Show_2,h,hb,List.map_nil,List.flatMap_nil,List.append_nil,EVC,EVD,EVB,Nat.reduceEqDiff,eqOp,eqA,eqNil,lenA,asNat,optNat,pt,tupleOf,Nat.reduceSub,Nat.reduceGT,Nat.reduceLT,hand,norms,normVs,normV,freeze,reduceIte,reduceCtorEq,srcCells,slCells,isStr,fillA,rep,asObj,outSl,Nat.reduceMul,Nat.reduceLeDiff,Int.reduceToNat,Int.reduceLE,Int.reduceLT,Int.reduceEq,Nat.reduceAdd,Int.reduceBNe,Int.reduceBEq,Int.reduceNeg]
 | n + 1,i,hi,τ,acc,hτ,hb,hl=>by
   have h : ((i : Int) < (s.stores.length : Int)):=by omega
   have h2 : i < s.stores.length:=by omega
   have w2 : IntKind.i64.wrap ((i : Int) + 1) = ((i + 1 : Nat) : Int):=by have:=hs.sn; rw [w64] <;> omega
   have p2 : (0 : Int) ≤ (i : Int):=by omega
   have fl:=flat_len StoreV.len s.stores
   have fd:=flat_at StoreV.len (List.getElem?_eq_getElem h2)
   have dn : s.stores.drop i = s.stores[i] :: s.stores.drop (i + 1):=List.drop_eq_getElem_cons h2
   have hv:=hs.st _ (List.getElem_mem h2)
   generalize s.stores[i] = v at *
   have vt:=StoreV.tx_len v hv
   have vf:=v.files_len hv
   rw [dn,List.map_cons,List.flatMap_cons] at hl ⊢
   obtain ⟨N,hN⟩ : ∃ N,((s.stores.drop (i + 1)).map StoreV.tx).flatMap net = N:=⟨_,rfl⟩
   rw [hN,← List.append_assoc] at hl ⊢
   have b0 : ([.cells v.cs ⟨false,none⟩] : St).all (AO.below 0) = true:=by
    simp only [List.all_cons,List.all_nil,Bool.and_true,AO.below]; exact v.below
   have o1 : Ok (τ ++ [.cells v.cs ⟨false,none⟩]):=hτ.plus b0
   obtain ⟨G,k1,k2⟩:=rstore_loop H s hs b wd y z n (i + 1) (by omega) (τ ++ [.cells v.cs ⟨false,none⟩]) (acc ++ net v.tx) o1 (sy_old hb _) (by rw [hN]; exact hl)
   rw [hN,List.append_assoc τ] at k2
   rw [List.append_assoc] at k1
   refine ⟨.cells v.cs ⟨false,none⟩ :: G,k1,?_⟩
   have bx : (τ ++ [AO.cells v.cs ⟨false,none⟩] : St)[τ.length]? = some (.cells v.cs ⟨false,none⟩):=by rw [st_get0]; rfl
   have lp:=rfile_loop H v hv b τ.length wd y (.str acc) z (.int .i64 i) _ o1 bx v.files.length 0 (by omega) [] (by rw [List.drop_zero]; simp only [List.nil_append]; omega)
   rw [List.drop_zero,List.nil_append] at lp
   simp only [Int.cast_ofNat_Int,Int.natCast_zero] at lp
   obtain ⟨v1,v2,v3,v4⟩:=hv
   rw [loop_eq (he:=rfl)]
   generalize hk : loopK C (semF C) 156 [1,4,5,6,7,10] L_legateref32_Show_2 = k at *
   have hacc : acc.length ≤ 1099511627776:=by simp only [List.length_append] at hl; omega
   have tx : v.tx = net v.name ++ net v.root ++ net ((v.files.map FileV.tx).flatMap net):=by simp [StoreV.tx]
   obtain ⟨F,hF⟩ : ∃ F,(v.files.map FileV.tx).flatMap net = F:=⟨_,rfl⟩
   rw [hF] at lp tx vf
   have m1:=net_len v.name (by omega)
   have m2:=net_len v.root (by omega)
   have m3:=net_len F (by omega)
   have m4:=net_len v.tx (by omega)
   have q1:=fun τ=>refNet H v.name (by omega) τ
   have q2:=fun τ=>refNet H v.root (by omega) τ
   have q3:=fun τ=>refNet H F (by omega) τ
   have q4:=fun τ=>refNet H v.tx (by omega) τ
   have c1 : binStr .add (net v.name) (net v.root) = some (.str (net v.name ++ net v.root)):=bs_add (by omega)
   have c2 : binStr .add (net v.name ++ net v.root) (net F) = some (.str v.tx):=cat_le (n:=100000000000) (by simp; omega) (by decide) tx
   have c3 : binStr .add acc (net v.tx) = some (.str (acc ++ net v.tx)):=bs_add (by omega)
   unfold ScrV.cs storesA StoreV.cs filesA at *
   simp only [L_legateref32_Show_2,h,h2,hb,w2,p2,fl,fd,lp,q1,q2,q3,q4,c1,c2,c3,k2,st_get0,st_set0,splice,sy_old hb,same_str,EVC,EVD,EVB,Nat.reduceEqDiff,eqOp,eqA,eqNil,lenA,asNat,optNat,pt,tupleOf,Nat.reduceSub,Nat.reduceGT,Nat.reduceLT,hand,norms,normVs,normV,freeze,reduceIte,reduceCtorEq,srcCells,slCells,isStr,fillA,rep,asObj,outSl,Nat.reduceMul,Nat.reduceLeDiff,Int.reduceToNat,Int.reduceLE,Int.reduceLT,Int.reduceEq,Nat.reduceAdd,Int.reduceBNe,Int.reduceBEq,Int.reduceNeg]
theorem rpath_loop (H : RefHas C) (s : ScrV) (hs : s.few) (b : Nat) (wd y z : AV) (τ : St) (hτ : Ok τ) (hb : τ[b]? = some (.cells s.cs ⟨false,none⟩)) : ∀ (n i : Nat),i + n = s.paths.length → ∀ (acc : List UInt8),(acc ++ (s.paths.drop i).flatMap net).length ≤ 1099511627776 →
  loopK C (semF C) 156 [1,4,5,6,7,14] L_legateref32_Show_3 [(1,.ref b 0),(4,wd),(5,y),(6,z),(7,.str acc),(14,.int .i64 i)] τ = some (.exit 6,[(1,.ref b 0),(4,wd),(5,y),(6,z),(7,.str (acc ++ (s.paths.drop i).flatMap net))],τ)
 | 0,i,hi,acc,hl=>by
   have e : s.paths.drop i = []:=List.drop_eq_nil_of_le (by omega)
   rw [loop_eq (he:=rfl),e]
   have h : ¬ ((i : Int) < (s.paths.length : Int)):=by omega
   unfold ScrV.cs strsA at hb
   simp only [L_legateref32_Show_3,h,hb,List.map_nil,List.flatMap_nil,List.append_nil,EVC,EVD,EVB,Nat.reduceEqDiff,eqOp,eqA,eqNil,lenA,asNat,optNat,pt,tupleOf,Nat.reduceSub,Nat.reduceGT,Nat.reduceLT,hand,norms,normVs,normV,freeze,reduceIte,reduceCtorEq,srcCells,slCells,isStr,fillA,rep,asObj,outSl,Nat.reduceMul,Nat.reduceLeDiff,Int.reduceToNat,Int.reduceLE,Int.reduceLT,Int.reduceEq,Nat.reduceAdd,Int.reduceBNe,Int.reduceBEq,Int.reduceNeg]
 | n + 1,i,hi,acc,hl=>by
   have h : ((i : Int) < (s.paths.length : Int)):=by omega
   have h2 : i < s.paths.length:=by omega
   have w2 : IntKind.i64.wrap ((i : Int) + 1) = ((i + 1 : Nat) : Int):=by have:=hs.pn; rw [w64] <;> omega
   have p2 : (0 : Int) ≤ (i : Int):=by omega
   have fl : (s.paths.map AV.str).length = s.paths.length:=by simp
   have fd:=strs_at s.paths i h2
   have dn : s.paths.drop i = s.paths[i] :: s.paths.drop (i + 1):=List.drop_eq_getElem_cons h2
   have hf:=hs.pa _ (List.getElem_mem h2)
   generalize s.paths[i] = f at *
   rw [dn,List.flatMap_cons] at hl ⊢
   obtain ⟨N,hN⟩ : ∃ N,(s.paths.drop (i + 1)).flatMap net = N:=⟨_,rfl⟩
   rw [hN,← List.append_assoc] at hl ⊢
   have k2:=rpath_loop H s hs b wd y z τ hτ hb n (i + 1) (by omega) (acc ++ net f) (by rw [hN]; exact hl)
   rw [hN] at k2
   rw [loop_eq (he:=rfl)]
   generalize hk : loopK C (semF C) 156 [1,4,5,6,7,14] L_legateref32_Show_3 = k at *
   have hacc : acc.length ≤ 1099511627776:=by simp only [List.length_append] at hl; omega
   have m1:=net_len f (by omega)
   have q1:=refNet H f (by omega) τ
   have c3 : binStr .add acc (net f) = some (.str (acc ++ net f)):=bs_add (by omega)
   unfold ScrV.cs strsA at *
   simp only [L_legateref32_Show_3,h,h2,hb,w2,p2,fl,fd,q1,c3,k2,EVC,EVD,EVB,Nat.reduceEqDiff,eqOp,eqA,eqNil,lenA,asNat,optNat,pt,tupleOf,Nat.reduceSub,Nat.reduceGT,Nat.reduceLT,hand,norms,normVs,normV,freeze,reduceIte,reduceCtorEq,srcCells,slCells,isStr,fillA,rep,asObj,outSl,Nat.reduceMul,Nat.reduceLeDiff,Int.reduceToNat,Int.reduceLE,Int.reduceLT,Int.reduceEq,Nat.reduceAdd,Int.reduceBNe,Int.reduceBEq,Int.reduceNeg]
end Go.Ev
namespace Go.Ev
set_option maxRecDepth 100000
set_option linter.unusedSimpArgs false
set_option linter.unusedVariables false
variable {C : Ctx}
theorem ref_Show_is (H : RShHas C) (s : ScrV) (hs : s.few) (σ : St) (hσ : Ok σ) : semF C f_legateref32_Show [.agg s.cs] σ = some (showV s,σ):=by
 rw [H.rshow.go (NVs.hand (.cons (.agg s.nv) .nil) _) (by simp [K_legateref32_Show])]
 have ty:=fun (v : List UInt8) (e : Int) L=>st_tidy hσ (vs:=[.str v,.int .i64 e]) rfl L
 unfold showV
 by_cases c1 : 64 < s.paths.length
 ·have c1' : (s.paths.length : Int) > 64:=by omega
  rw [if_pos c1]
  simp only [K_legateref32_Show,ScrV.cs,strsA,c1',ty,EVC,EVD,EVB,Nat.reduceEqDiff,eqOp,eqA,eqNil,lenA,asNat,optNat,pt,tupleOf,Nat.reduceSub,Nat.reduceGT,Nat.reduceLT,hand,norms,normVs,normV,freeze,reduceIte,reduceCtorEq,srcCells,slCells,isStr,fillA,rep,asObj,outSl,Nat.reduceMul,Nat.reduceLeDiff,Int.reduceToNat,Int.reduceLE,Int.reduceLT,Int.reduceEq,Nat.reduceAdd,Int.reduceBNe,Int.reduceBEq,Int.reduceNeg]
 rw [if_neg c1]
 have c1' : ¬ (s.paths.length : Int) > 64:=by omega
 have hL:=hs.len
 have b0 : ([.cells s.cs ⟨false,none⟩] : St).all (AO.below 0) = true:=by
  simp only [List.all_cons,List.all_nil,Bool.and_true,AO.below]
  exact s.nv.cl
 have o0 : Ok (σ ++ [.cells s.cs ⟨false,none⟩]):=hσ.plus b0
 have bx0 : (σ ++ [AO.cells s.cs ⟨false,none⟩] : St)[σ.length]? = some (.cells s.cs ⟨false,none⟩):=by rw [st_get0]; rfl
 obtain ⟨G1,o1,a1⟩:=rver_loop H.toRefHas s hs σ.length (.str (word s.hmac)) (.str []) (.str []) s.vers.length 0 (by omega) _ [] o0 bx0 (by have:=hL.v; unfold ScrV.vt at this; rw [List.drop_zero,List.nil_append]; omega)
 have bx1:=sy_old bx0 G1
 obtain ⟨τ1,hτ1⟩ : ∃ τ1,σ ++ [AO.cells s.cs ⟨false,none⟩] ++ G1 = τ1:=⟨_,rfl⟩
 rw [hτ1] at a1 bx1 o1
 obtain ⟨G2,o2,a2⟩:=rstore_loop H.toRefHas s hs σ.length (.str (word s.hmac)) (.str s.vt) (.str []) s.stores.length 0 (by omega) _ [] o1 bx1 (by have:=hL.o; unfold ScrV.st at this; rw [List.drop_zero,List.nil_append]; omega)
 have bx2:=sy_old bx1 G2
 have a3:=rpath_loop H.toRefHas s hs σ.length (.str (word s.hmac)) (.str s.vt) (.str s.st) _ o2 bx2 s.paths.length 0 (by omega) [] (by have:=hL.p; unfold ScrV.pt at this; rw [List.drop_zero,List.nil_append]; omega)
 rw [List.drop_zero,List.nil_append] at a1 a2 a3
 simp only [Int.cast_ofNat_Int,Int.natCast_zero] at a1 a2 a3
 have v1 : (s.vers.map VerV.tx).flatMap net = s.vt:=rfl
 have v2 : (s.stores.map StoreV.tx).flatMap net = s.st:=rfl
 have v3 : s.paths.flatMap net = s.pt:=rfl
 rw [v1] at a1
 rw [v2] at a2
 rw [v3] at a3
 obtain ⟨τ,hτ⟩ : ∃ τ,τ = τ1 ++ G2:=⟨_,rfl⟩
 obtain ⟨L,hL'⟩ : ∃ L,τ = σ ++ L:=⟨[AO.cells s.cs ⟨false,none⟩] ++ G1 ++ G2,by rw [hτ,← hτ1]; simp⟩
 rw [← hτ] at a2 a3 bx2 o2
 have q1:=fun τ=>refNet H.toRefHas s.map (Nat.le_trans hs.map (by decide)) τ
 have n0:=hs.map
 have n1:=net_len s.map (Nat.le_trans hs.map (by decide))
 have d:=dec_len s.now hs.now.1 hs.now.2
 have n2:=net_len (dec s.now) (Nat.le_trans d (by decide))
 have q2:=fun τ=>refNum H.toRefHas s.now hs.now.1 hs.now.2 τ
 have w:=word_len s.hmac
 have n3:=net_len (word s.hmac) (Nat.le_trans w (by decide))
 have q3:=fun τ=>refNet H.toRefHas (word s.hmac) (Nat.le_trans w (by decide)) τ
 have hv:=hL.v
 have n4:=net_len s.vt (Nat.le_trans hv (by decide))
 have q4:=fun τ=>refNet H.toRefHas s.vt (Nat.le_trans hv (by decide)) τ
 have r1:=fun τ=>refNum H.toRefHas s.b1 hs.b1.1 hs.b1.2 τ
 have r2:=fun τ=>refNum H.toRefHas s.b2 hs.b2.1 hs.b2.2 τ
 have r3:=fun τ=>refNum H.toRefHas s.b3 hs.b3.1 hs.b3.2 τ
 have r4:=fun τ=>refNum H.toRefHas s.b4 hs.b4.1 hs.b4.2 τ
 have e1:=dec_len s.b1 hs.b1.1 hs.b1.2
 have e2:=dec_len s.b2 hs.b2.1 hs.b2.2
 have e3:=dec_len s.b3 hs.b3.1 hs.b3.2
 have e4:=dec_len s.b4 hs.b4.1 hs.b4.2
 have m1:=net_len (dec s.b1) (Nat.le_trans e1 (by decide))
 have m2:=net_len (dec s.b2) (Nat.le_trans e2 (by decide))
 have m3:=net_len (dec s.b3) (Nat.le_trans e3 (by decide))
 have m4:=net_len (dec s.b4) (Nat.le_trans e4 (by decide))
 have hb:=hL.b
 have n5:=net_len s.bt (Nat.le_trans hb (by decide))
 have q5:=fun τ=>refNet H.toRefHas s.bt (Nat.le_trans hb (by decide)) τ
 have ho:=hL.o
 have n6:=net_len s.st (Nat.le_trans ho (by decide))
 have q6:=fun τ=>refNet H.toRefHas s.st (Nat.le_trans ho (by decide)) τ
 have hp:=hL.p
 have n7:=net_len s.pt (Nat.le_trans hp (by decide))
 have q7:=fun τ=>refNet H.toRefHas s.pt (Nat.le_trans hp (by decide)) τ
 obtain ⟨t1,h1⟩ : ∃ x,net s.map ++ net (dec s.now) = x:=⟨_,rfl⟩
 have c1 : binStr .add (net s.map) (net (dec s.now)) = some (.str t1):=cat_le (n:=10000000000) (by omega) (by decide) h1.symm
 have g1 : t1.length = (net s.map).length + (net (dec s.now)).length:=by rw [← h1,List.length_append]
 obtain ⟨t2,h2⟩ : ∃ x,t1 ++ net (word s.hmac) = x:=⟨_,rfl⟩
 have c2 : binStr .add t1 (net (word s.hmac)) = some (.str t2):=cat_le (n:=10000000000) (by omega) (by decide) h2.symm
 have g2 : t2.length = t1.length + (net (word s.hmac)).length:=by rw [← h2,List.length_append]
 obtain ⟨t3,h3⟩ : ∃ x,t2 ++ net s.vt = x:=⟨_,rfl⟩
 have c3 : binStr .add t2 (net s.vt) = some (.str t3):=cat_le (n:=100000000000) (by omega) (by decide) h3.symm
 have g3 : t3.length = t2.length + (net s.vt).length:=by rw [← h3,List.length_append]
 obtain ⟨u1,k1⟩ : ∃ x,net (dec s.b1) ++ net (dec s.b2) = x:=⟨_,rfl⟩
 have f1 : binStr .add (net (dec s.b1)) (net (dec s.b2)) = some (.str u1):=cat_le (n:=10000000000) (by omega) (by decide) k1.symm
 have y1 : u1.length = (net (dec s.b1)).length + (net (dec s.b2)).length:=by rw [← k1,List.length_append]
 obtain ⟨u2,k2⟩ : ∃ x,u1 ++ net (dec s.b3) = x:=⟨_,rfl⟩
 have f2 : binStr .add u1 (net (dec s.b3)) = some (.str u2):=cat_le (n:=10000000000) (by omega) (by decide) k2.symm
 have y2 : u2.length = u1.length + (net (dec s.b3)).length:=by rw [← k2,List.length_append]
 have f3 : binStr .add u2 (net (dec s.b4)) = some (.str s.bt):=cat_le (n:=10000000000) (by omega) (by decide) (by rw [← k2,← k1]; simp [ScrV.bt])
 obtain ⟨t4,h4⟩ : ∃ x,t3 ++ net s.bt = x:=⟨_,rfl⟩
 have c4 : binStr .add t3 (net s.bt) = some (.str t4):=cat_le (n:=1000000000000) (by omega) (by decide) h4.symm
 have g4 : t4.length = t3.length + (net s.bt).length:=by rw [← h4,List.length_append]
 obtain ⟨t5,h5⟩ : ∃ x,t4 ++ net s.st = x:=⟨_,rfl⟩
 have c5 : binStr .add t4 (net s.st) = some (.str t5):=cat_le (n:=1000000000000) (by omega) (by decide) h5.symm
 have g5 : t5.length = t4.length + (net s.st).length:=by rw [← h5,List.length_append]
 have c6 : binStr .add t5 (net s.pt) = some (.str s.tx):=cat_le (n:=1000000000000) (by omega) (by decide) (by rw [← h5,← h4,← h3,← h2,← h1]; simp [ScrV.tx])
 obtain ⟨B,hB⟩ : ∃ B,B = [AV.int .i64 s.b1,.int .i64 s.b2,.int .i64 s.b3,.int .i64 s.b4]:=⟨_,rfl⟩
 have bx3:=sy_old bx2 [.cells B ⟨false,none⟩]
 have ty5:=fun v e=>ty v e (L ++ [.cells B ⟨false,none⟩])
 rw [← List.append_assoc,← hL'] at ty5
 subst hB
 have sm:=same_int
 have ss:=same_str
 have gg0:=st_get0 τ
 have gs0:=st_set0 τ
 unfold ScrV.cs storesA versA strsA at *
 have fin : ∀ t : List UInt8,t = s.tx → (if (t.length : Int) > 1048576 then some (AV.tup [.str [],.int .i64 5],σ) else some (AV.tup [.str t,.int .i64 0],σ)) = some (if 1048576 < s.tx.length then AV.tup [.str [],.int .i64 5] else AV.tup [.str s.tx,.int .i64 0],σ):=fun t ht=>by
  subst ht
  split <;> split <;> first | rfl | omega
 rw [← fin _ rfl]
 clear fin
 generalize s.tx = T at *
 by_cases c9 : (T.length : Int) > 1048576
 ·rw [if_pos c9]
  cases hh : s.hmac
  ·simp only [hh,word,Bool.false_eq_true,if_false] at *
   simp only [K_legateref32_Show,hh,c1',a1,a2,a3,q1,q2,q3,q4,q5,q6,q7,r1,r2,r3,r4,c1,c2,c3,c4,c5,c6,f1,f2,f3,bx2,bx3,c9,ty5,sm,ss,st_get0,st_set0,splice,EVC,EVD,EVB,Nat.reduceEqDiff,eqOp,eqA,eqNil,lenA,asNat,optNat,pt,tupleOf,Nat.reduceSub,Nat.reduceGT,Nat.reduceLT,hand,norms,normVs,normV,freeze,reduceIte,reduceCtorEq,srcCells,slCells,isStr,fillA,rep,asObj,outSl,Nat.reduceMul,Nat.reduceLeDiff,Int.reduceToNat,Int.reduceLE,Int.reduceLT,Int.reduceEq,Nat.reduceAdd,Int.reduceBNe,Int.reduceBEq,Int.reduceNeg]
  ·simp only [hh,word,if_true] at *
   simp only [K_legateref32_Show,hh,c1',a1,a2,a3,q1,q2,q3,q4,q5,q6,q7,r1,r2,r3,r4,c1,c2,c3,c4,c5,c6,f1,f2,f3,bx2,bx3,c9,ty5,sm,ss,st_get0,st_set0,splice,EVC,EVD,EVB,Nat.reduceEqDiff,eqOp,eqA,eqNil,lenA,asNat,optNat,pt,tupleOf,Nat.reduceSub,Nat.reduceGT,Nat.reduceLT,hand,norms,normVs,normV,freeze,reduceIte,reduceCtorEq,srcCells,slCells,isStr,fillA,rep,asObj,outSl,Nat.reduceMul,Nat.reduceLeDiff,Int.reduceToNat,Int.reduceLE,Int.reduceLT,Int.reduceEq,Nat.reduceAdd,Int.reduceBNe,Int.reduceBEq,Int.reduceNeg]
 ·rw [if_neg c9]
  cases hh : s.hmac
  ·simp only [hh,word,Bool.false_eq_true,if_false] at *
   simp only [K_legateref32_Show,hh,c1',a1,a2,a3,q1,q2,q3,q4,q5,q6,q7,r1,r2,r3,r4,c1,c2,c3,c4,c5,c6,f1,f2,f3,bx2,bx3,c9,ty5,sm,ss,st_get0,st_set0,splice,EVC,EVD,EVB,Nat.reduceEqDiff,eqOp,eqA,eqNil,lenA,asNat,optNat,pt,tupleOf,Nat.reduceSub,Nat.reduceGT,Nat.reduceLT,hand,norms,normVs,normV,freeze,reduceIte,reduceCtorEq,srcCells,slCells,isStr,fillA,rep,asObj,outSl,Nat.reduceMul,Nat.reduceLeDiff,Int.reduceToNat,Int.reduceLE,Int.reduceLT,Int.reduceEq,Nat.reduceAdd,Int.reduceBNe,Int.reduceBEq,Int.reduceNeg]
  ·simp only [hh,word,if_true] at *
   simp only [K_legateref32_Show,hh,c1',a1,a2,a3,q1,q2,q3,q4,q5,q6,q7,r1,r2,r3,r4,c1,c2,c3,c4,c5,c6,f1,f2,f3,bx2,bx3,c9,ty5,sm,ss,st_get0,st_set0,splice,EVC,EVD,EVB,Nat.reduceEqDiff,eqOp,eqA,eqNil,lenA,asNat,optNat,pt,tupleOf,Nat.reduceSub,Nat.reduceGT,Nat.reduceLT,hand,norms,normVs,normV,freeze,reduceIte,reduceCtorEq,srcCells,slCells,isStr,fillA,rep,asObj,outSl,Nat.reduceMul,Nat.reduceLeDiff,Int.reduceToNat,Int.reduceLE,Int.reduceLT,Int.reduceEq,Nat.reduceAdd,Int.reduceBNe,Int.reduceBEq,Int.reduceNeg]
end Go.Ev
namespace Go.Ev
set_option maxRecDepth 100000
set_option linter.unusedSimpArgs false
set_option linter.unusedVariables false
variable {C : Ctx}
theorem freeze_out : ∀ (fs : List Nat) (σ L : St),(∀ f ∈ fs,σ.length ≤ f) → ∃ L',freeze (σ ++ L) fs = σ ++ L'
 | [],σ,L,_=>⟨L,rfl⟩
 | o :: fs,σ,L,h=>by
   have ho:=h o (by simp)
   have hs : ∀ x,(σ ++ L).set o x = σ ++ L.set (o - σ.length) x:=fun x=>by rw [List.set_append_right _ _ ho]
   unfold freeze
   split
   ·rw [hs]; exact freeze_out fs _ _ fun f hf=>h f (by simp [hf])
   ·exact freeze_out fs _ _ fun f hf=>h f (by simp [hf])
def Cp (base : Nat) (τ : St) (x : AV) (n sz : Nat) (l : List AV) : Prop:=(x = .xsl 0 [] ∧ n = 0 ∧ l = []) ∨ ∃ q,base ≤ q ∧ x = .msl q 0 n sz ∧ τ[q]? = some (.cells l ⟨false,none⟩)
theorem Cp.keep {base : Nat} {τ τ' : St} {x : AV} {n sz : Nat} {l : List AV} (h : Cp base τ x n sz l) (k : ∀ i y,base ≤ i → τ[i]? = some y → τ'[i]? = some y) : Cp base τ' x n sz l:=by
 rcases h with h | ⟨q,h1,h2,h3⟩
 ·exact .inl h
 ·exact .inr ⟨q,h1,h2,k q _ h1 h3⟩
theorem cp_app (τ : St) (n sz bytes : Nat) (l : List AV) (hl : l.length = n * sz) (h1 : n * bytes ≤ 70368744177664) (h2 : n ≤ 70368744177664) (base : Nat) (hb : base ≤ τ.length) : ∃ x G,appA τ sz bytes none (.xsl 0 []) n l = some (x,τ ++ G) ∧ Cp base (τ ++ G) x n sz l ∧ (G = [] ∨ G = [.cells l ⟨false,none⟩]):=by
 by_cases h : n = 0
 ·subst h
  exact ⟨.xsl 0 [],[],by rw [List.append_nil]; rfl,.inl ⟨rfl,rfl,List.eq_nil_of_length_eq_zero (by omega)⟩,.inl rfl⟩
 ·refine ⟨.msl τ.length 0 n sz,[.cells l ⟨false,none⟩],?_,.inr ⟨τ.length,hb,rfl,by rw [st_get0]; rfl⟩,.inr rfl⟩
  have:=ap_xsl τ (n:=0) (m:=n) (sz:=sz) (bytes:=bytes) none (l:=[]) l h (by simp) (by rw [Nat.zero_add]; exact h1) (by omega)
  simpa using this
theorem cp_norm {base : Nat} {τ : St} {x : AV} {n sz : Nat} {l l' : List AV} {gs : List Nat} {d : Nat} (h : Cp base τ x n sz l) (hl : l.length = n * sz) (hn : norms τ d l = some (l',gs)) (hg : ∀ g ∈ gs,base ≤ g) : ∃ fs,normV τ (norms τ d) x = some (.sl n l',fs) ∧ ∀ f ∈ fs,base ≤ f:=by
 rcases h with ⟨rfl,rfl,rfl⟩ | ⟨q,h1,rfl,h3⟩
 ·refine ⟨[],?_,by simp⟩
  cases d with
  | zero=>cases hn
  | succ d=>cases hn; rfl
 ·refine ⟨q :: gs,?_,by simpa using ⟨h1,hg⟩⟩
  unfold normV
  rw [h3]
  dsimp only
  rw [if_pos (by omega),List.drop_zero,List.take_of_length_le (by omega),hn]
theorem norms_nv {l : List AV} (h : NVs l) (τ : St) (d : Nat) : norms τ (d + 1) l = some (l,[]):=h.nf τ (norms τ d)
theorem flat_nv {α : Type} {f : α → List AV} (h : ∀ x,NVs (f x)) : ∀ l : List α,NVs (l.flatMap f)
 | []=>by simpa using NVs.nil
 | x :: l=>by rw [List.flatMap_cons]; exact (h x).app (flat_nv h l)
theorem VerV.nv (v : VerV) : NVs v.cs:=.cons (.str _) (.cons (.str _) (.cons (.str _) .nil))
theorem FileV.nv (v : FileV) : NVs v.cs:=.cons (.str _) (.cons (.str _) .nil)
theorem StoreV.nv (v : StoreV) : NVs v.cs:=.cons (.str _) (.cons (.str _) (.cons (files_nv _) .nil))
inductive Dn (base : Nat) (τ : St) : List AV → List StoreV → Prop
 | nil : Dn base τ [] []
 | snoc {D l x v} : Dn base τ D l → Cp base τ x v.files.length 2 (v.files.flatMap FileV.cs) → Dn base τ (D ++ [.str v.name,.str v.root,x]) (l ++ [v])
theorem Dn.keep {base : Nat} {τ τ' : St} {D : List AV} {l : List StoreV} (h : Dn base τ D l) (k : ∀ i y,base ≤ i → τ[i]? = some y → τ'[i]? = some y) : Dn base τ' D l:=by
 induction h with
 | nil=>exact .nil
 | snoc h c ih=>exact .snoc ih (c.keep k)
theorem Dn.len {base : Nat} {τ : St} {D : List AV} {l : List StoreV} (h : Dn base τ D l) : D.length = l.length * 3:=by
 induction h with
 | nil=>rfl
 | snoc h c ih=>simp [ih]; omega
theorem normVs_app {τ : St} {r} {a b : List AV} {a' b' fs gs} (h : normVs τ r a = some (a',fs)) (k : normVs τ r b = some (b',gs)) : normVs τ r (a ++ b) = some (a' ++ b',fs ++ gs):=by
 induction a generalizing a' fs with
 | nil=>cases h; simpa using k
 | cons x a ih=>
   rw [List.cons_append]
   unfold normVs at h ⊢
   cases hx : normV τ r x with
   | none=>rw [hx] at h; cases h
   | some p=>
     obtain ⟨v,f1⟩:=p
     rw [hx] at h
     cases ha : normVs τ r a with
     | none=>rw [ha] at h; cases h
     | some p2=>
       obtain ⟨a2,f2⟩:=p2
       rw [ha] at h
       cases h
       rw [ih ha]
       simp
theorem Dn.norm {base : Nat} {τ : St} {D : List AV} {l : List StoreV} (h : Dn base τ D l) (d : Nat) : ∃ fs,norms τ (d + 2) D = some (l.flatMap StoreV.cs,fs) ∧ ∀ f ∈ fs,base ≤ f:=by
 induction h with
 | nil=>exact ⟨[],rfl,by simp⟩
 | snoc h c ih=>
   rename_i D l x v
   obtain ⟨fs,h1,h2⟩:=ih
   obtain ⟨gs,g1,g2⟩:=cp_norm (d:=d + 1) (gs:=[]) c (flat_len FileV.len _) (norms_nv (flat_nv FileV.nv _) τ d) (by simp)
   refine ⟨fs ++ gs,?_,by simpa [or_imp,forall_and] using ⟨h2,g2⟩⟩
   rw [List.flatMap_append]
   have k : normVs τ (norms τ (d + 1)) [.str v.name,.str v.root,x] = some (v.cs,gs):=by
    unfold normVs normVs normVs
    rw [g1]
    simp only [normV,normVs,StoreV.cs,filesA,List.append_nil,List.nil_append]
   have:=normVs_app (τ:=τ) (r:=norms τ (d + 1)) h1 k
   show normVs τ (norms τ (d + 1)) _ = _
   simpa using this
end Go.Ev
namespace Go.Ev
set_option maxRecDepth 100000
set_option linter.unusedSimpArgs false
set_option linter.unusedVariables false
variable {C : Ctx}
theorem same_msl (a b c d : Nat) : same (.msl a b c d) (.msl a b c d) = true:=by simp [same]
theorem own_put (D R : List AV) (k : Nat) (hD : D.length = k) (a b y x : AV) : splice (D ++ (a :: b :: y :: R)) (k + 2) [x] = D ++ [a,b,x] ++ R:=by
 subst hD
 unfold splice
 rw [List.take_length_add_append,List.length_singleton,Nat.add_assoc,List.drop_length_add_append]
 simp
theorem belows_app : ∀ (n : Nat) (l m : List AV),belows n (l ++ m) = (belows n l && belows n m)
 | n,[],m=>by simp [belows]
 | n,a :: l,m=>by
   rw [List.cons_append,belows,belows,belows_app n l m,Bool.and_assoc]
theorem flat_flat {α : Type} {f : α → List AV} (h : ∀ x,(f x).all AV.flat = true) (l : List α) : (l.flatMap f).all AV.flat = true:=by
 rw [List.all_eq_true]
 intro v hv
 obtain ⟨x,_,hx⟩:=List.mem_flatMap.mp hv
 exact List.all_eq_true.mp (h x) v hx
theorem own_loop (l : List StoreV) (hn : l.length ≤ 1000000) (hf : ∀ v ∈ l,v.few) (b c q : Nat) (hbq : b < q) (m w h' v b1 b2 b3 b4 p : AV) : ∀ (n i : Nat),i + n = l.length → ∀ (τ : St) (D : List AV),Ok τ → τ[b]? = some (.cells [m,.msl q 0 l.length 3,w,h',v,b1,b2,b3,b4,p] ⟨false,none⟩) → τ[q]? = some (.cells (D ++ (l.drop i).flatMap StoreV.cs) ⟨false,none⟩) → Dn (q + 1) τ D (l.take i) →
  ∃ τ' D',loopK C (semF C) 40 [1,2,3] L_legatelaw32_own_0 [(1,.ref b 0),(2,.ref c 0),(3,.int .i64 i)] τ = some (.exit 0,[(1,.ref b 0),(2,.ref c 0)],τ') ∧ Ok τ' ∧ τ.length ≤ τ'.length ∧ (∀ j y,j ≠ q → τ[j]? = some y → τ'[j]? = some y) ∧ τ'[q]? = some (.cells D' ⟨false,none⟩) ∧ Dn (q + 1) τ' D' l
 | 0,i,hi,τ,D,hτ,hb,hq,hd=>by
   have e : l.drop i = []:=List.drop_eq_nil_of_le (by omega)
   have e2 : l.take i = l:=List.take_of_length_le (by omega)
   rw [e] at hq
   rw [e2] at hd
   refine ⟨τ,D,?_,hτ,Nat.le_refl _,fun _ _ _ h=>h,by simpa using hq,hd⟩
   rw [loop_eq (he:=rfl)]
   have h : ¬ ((i : Int) < (l.length : Int)):=by omega
   simp only [L_legatelaw32_own_0,h,hb,EVC,EVD,EVB,Nat.reduceEqDiff,eqOp,eqA,eqNil,lenA,asNat,optNat,pt,tupleOf,Nat.reduceSub,Nat.reduceGT,Nat.reduceLT,hand,norms,normVs,normV,freeze,reduceIte,reduceCtorEq,srcCells,slCells,isStr,fillA,rep,asObj,outSl,Nat.reduceMul,Nat.reduceLeDiff,Int.reduceToNat,Int.reduceLE,Int.reduceLT,Int.reduceEq,Nat.reduceAdd,Int.reduceBNe,Int.reduceBEq,Int.reduceNeg]
 | n + 1,i,hi,τ,D,hτ,hb,hq,hd=>by
   have h : ((i : Int) < (l.length : Int)):=by omega
   have h2 : i < l.length:=by omega
   have w2 : IntKind.i64.wrap ((i : Int) + 1) = ((i + 1 : Nat) : Int):=by rw [w64] <;> omega
   have p2 : (0 : Int) ≤ (i : Int):=by omega
   have dn : l.drop i = l[i] :: l.drop (i + 1):=List.drop_eq_getElem_cons h2
   have tn : l.take (i + 1) = l.take i ++ [l[i]]:=by rw [List.take_add_one,List.getElem?_eq_getElem h2]; rfl
   have hv:=hf _ (List.getElem_mem h2)
   have fv:=FileV.len
   generalize l[i] = s at *
   have hD : D.length = i * 3:=by rw [hd.len,List.length_take]; congr 1; omega
   rw [dn,List.flatMap_cons] at hq
   obtain ⟨R,hR⟩ : ∃ R,(l.drop (i + 1)).flatMap StoreV.cs = R:=⟨_,rfl⟩
   have hRl : R.length = (l.length - (i + 1)) * 3:=by rw [← hR,flat_len StoreV.len,List.length_drop]
   rw [hR] at hq
   have hql:=(List.getElem?_eq_some_iff.mp hq).1
   have fl:=flat_len FileV.len s.files
   obtain ⟨x,G,a1,a2,a3⟩:=cp_app τ s.files.length 2 32 (s.files.flatMap FileV.cs) fl (by have:=hv.2.2.1; omega) (by have:=hv.2.2.1; omega) (q + 1) (by omega)
   have okG : Ok (τ ++ G):=by
    rcases a3 with rfl | rfl
    ·simpa using hτ
    ·exact hτ.plus (by simp only [List.all_cons,List.all_nil,Bool.and_true,AO.below]; exact flat_below FileV.below _)
   have cx : s.cs ++ R = .str s.name :: .str s.root :: .sl s.files.length (s.files.flatMap FileV.cs) :: R:=rfl
   rw [cx] at hq
   obtain ⟨CL,hCL⟩ : ∃ CL,D ++ (.str s.name :: .str s.root :: .sl s.files.length (s.files.flatMap FileV.cs) :: R) = CL:=⟨_,rfl⟩
   have ln : CL.length = l.length * 3:=by rw [← hCL]; simp [hD,hRl]; omega
   have dr : CL.drop (i * 3 + 2) = .sl s.files.length (s.files.flatMap FileV.cs) :: R:=by
    rw [← hCL,← hD,List.drop_length_add_append]; rfl
   have hput:=fun y=>own_put D R (i * 3) hD (.str s.name) (.str s.root) (.sl s.files.length (s.files.flatMap FileV.cs)) y
   rw [hCL] at hq hput
   have sqG:=sy_old hq G
   have bxG:=sy_old hb G
   have sm:=same_files s.files.length s.files
   have fa:=flat_flat (f:=FileV.cs) (fun x=>rfl) s.files
   have l3 : i * 3 + 2 + 1 ≤ l.length * 3:=by omega
   have l4 : i * 3 + 2 < l.length * 3:=by omega
   obtain ⟨τ1,hτ1⟩ : ∃ τ1,τ ++ G = τ1:=⟨_,rfl⟩
   rw [hτ1] at a1 a2 okG sqG bxG
   have d2 : D.length = (l.take i).length * 3:=hd.len
   have hk1 : Dn (q + 1) τ1 D (l.take i):=hd.keep fun j y _ hy=>by rw [← hτ1]; exact sy_old hy _
   have lτ : τ.length ≤ τ1.length:=by rw [← hτ1]; simp
   have oldτ : ∀ j y,τ[j]? = some y → τ1[j]? = some y:=fun j y hy=>by rw [← hτ1]; exact sy_old hy _
   have hk2 : Dn (q + 1) (τ1.set q (.cells (D ++ [.str s.name,.str s.root,x] ++ R) ⟨false,none⟩)) (D ++ [.str s.name,.str s.root,x]) (l.take (i + 1)):=by
    rw [tn]
    exact .snoc (hk1.keep fun j y hj hy=>set_old hy (by omega) _) (a2.keep fun j y hj hy=>set_old hy (by omega) _)
   have xb : below τ1.length x = true:=by
    rcases a2 with ⟨rfl,_,_⟩ | ⟨z,_,rfl,z3⟩
    ·rfl
    ·have:=(List.getElem?_eq_some_iff.mp z3).1
     simp only [below,decide_eq_true_eq]; omega
   have okS : Ok (τ1.set q (.cells (D ++ [.str s.name,.str s.root,x] ++ R) ⟨false,none⟩)):=by
    refine okG.set2 q ?_
    have:=List.all_eq_true.mp okG _ (List.mem_of_getElem? sqG)
    rw [← hCL] at this
    simp only [AO.below,belows_app,belows,Bool.and_eq_true,Bool.and_true] at this ⊢
    exact ⟨⟨this.1,this.2.1,this.2.2.1,xb⟩,this.2.2.2.2⟩
   obtain ⟨τ',D',k1,k2,k3,k4,k5,k6⟩:=own_loop l hn hf b c q hbq m w h' v b1 b2 b3 b4 p n (i + 1) (by omega) (τ1.set q (.cells (D ++ [.str s.name,.str s.root,x] ++ R) ⟨false,none⟩)) (D ++ [.str s.name,.str s.root,x]) okS (set_old bxG (by omega) _) (by rw [hR]; exact set_get sqG _) hk2
   refine ⟨τ',D',?_,k2,?_,fun j y hj hy=>k4 j y hj (set_old (oldτ j y hy) hj _),k5,k6⟩
   ·rw [loop_eq (he:=rfl)]
    generalize hk : loopK C (semF C) 40 [1,2,3] L_legatelaw32_own_0 = k at *
    have hp:=hput x
    rcases a2 with ⟨rfl,_,_⟩ | ⟨z,_,rfl,z3⟩
    ·simp only [L_legatelaw32_own_0,h,h2,hb,hq,w2,p2,fl,fa,a1,ln,dr,sqG,bxG,sm,same_msl,l3,l4,hp,k1,st_get0,st_set0,AV.cells,AV.flat,EVC,EVD,EVB,Nat.reduceEqDiff,eqOp,eqA,eqNil,lenA,asNat,optNat,pt,tupleOf,Nat.reduceSub,Nat.reduceGT,Nat.reduceLT,hand,norms,normVs,normV,freeze,reduceIte,reduceCtorEq,srcCells,slCells,isStr,fillA,rep,asObj,outSl,Nat.reduceMul,Nat.reduceLeDiff,Int.reduceToNat,Int.reduceLE,Int.reduceLT,Int.reduceEq,Nat.reduceAdd,Int.reduceBNe,Int.reduceBEq,Int.reduceNeg]
    ·simp only [L_legatelaw32_own_0,h,h2,hb,hq,w2,p2,fl,fa,a1,ln,dr,sqG,bxG,sm,same_msl,l3,l4,hp,k1,st_get0,st_set0,AV.cells,AV.flat,EVC,EVD,EVB,Nat.reduceEqDiff,eqOp,eqA,eqNil,lenA,asNat,optNat,pt,tupleOf,Nat.reduceSub,Nat.reduceGT,Nat.reduceLT,hand,norms,normVs,normV,freeze,reduceIte,reduceCtorEq,srcCells,slCells,isStr,fillA,rep,asObj,outSl,Nat.reduceMul,Nat.reduceLeDiff,Int.reduceToNat,Int.reduceLE,Int.reduceLT,Int.reduceEq,Nat.reduceAdd,Int.reduceBNe,Int.reduceBEq,Int.reduceNeg]
   ·rw [List.length_set] at k3; omega
end Go.Ev
namespace Go.Ev
set_option maxRecDepth 100000
set_option linter.unusedSimpArgs false
set_option linter.unusedVariables false
variable {C : Ctx}
theorem Cp.mono {base base' : Nat} {τ : St} {x : AV} {n sz : Nat} {l : List AV} (h : Cp base τ x n sz l) (k : base' ≤ base) : Cp base' τ x n sz l:=by
 rcases h with h | ⟨q,h1,h2,h3⟩
 ·exact .inl h
 ·exact .inr ⟨q,by omega,h2,h3⟩
theorem Dn.mono {base base' : Nat} {τ : St} {D : List AV} {l : List StoreV} (h : Dn base τ D l) (k : base' ≤ base) : Dn base' τ D l:=by
 induction h with
 | nil=>exact .nil
 | snoc h c ih=>exact .snoc ih (c.mono k)
theorem Cp.flat {base : Nat} {τ : St} {x : AV} {n sz : Nat} {l : List AV} (h : Cp base τ x n sz l) : x.flat = true ∧ x.cells = [x]:=by
 rcases h with ⟨rfl,_,_⟩ | ⟨q,_,rfl,_⟩ <;> exact ⟨rfl,rfl⟩
theorem own_norm {base : Nat} {τ : St} {s : ScrV} {S V P : AV} {D : List AV} (hS : Cp base τ S s.stores.length 3 D) (hD : Dn base τ D s.stores) (hV : Cp base τ V s.vers.length 3 (s.vers.flatMap VerV.cs)) (hP : Cp base τ P s.paths.length 1 (s.paths.map .str)) :
  ∃ fs,norms τ 12 [.agg [.str s.map,S,.int .i64 s.now,.bool s.hmac,V,.int .i64 s.b1,.int .i64 s.b2,.int .i64 s.b3,.int .i64 s.b4,P]] = some ([.agg s.cs],fs) ∧ ∀ f ∈ fs,base ≤ f:=by
 obtain ⟨gs,d1,d2⟩:=hD.norm 9
 obtain ⟨f1,a1,a2⟩:=cp_norm hS hD.len d1 d2
 obtain ⟨f2,b1,b2⟩:=cp_norm (d:=11) (gs:=[]) hV (flat_len VerV.len _) (norms_nv (flat_nv VerV.nv _) τ 10) (by simp)
 obtain ⟨f3,c1,c2⟩:=cp_norm (d:=11) (gs:=[]) hP (by simp) (norms_nv (strs_nv _) τ 10) (by simp)
 refine ⟨f1 ++ (f2 ++ f3),?_,?_⟩
 ·show normVs τ (norms τ 11) _ = _
  simp only [normVs,normV,a1,b1,c1,ScrV.cs,storesA,versA,strsA,List.append_nil,List.nil_append]
 ·intro f hf
  simp only [List.mem_append] at hf
  rcases hf with hf | hf | hf
  ·exact a2 f hf
  ·exact b2 f hf
  ·exact c2 f hf
structure OwnHas (C : Ctx) : Prop where
 own : Has C f_legatelaw32_own K_legatelaw32_own
theorem own_is (H : OwnHas C) (s : ScrV) (hs : s.few) (σ : St) (hσ : Ok σ) : semF C f_legatelaw32_own [.agg s.cs] σ = some (.agg s.cs,σ):=by
 rw [H.own.go (NVs.hand (.cons (.agg s.nv) .nil) _) (by simp [K_legatelaw32_own])]
 obtain ⟨Z,hZ⟩ : ∃ Z,Z = [AV.str [],.nils,.int .i64 0,.bool false,.nils,.int .i64 0,.int .i64 0,.int .i64 0,.int .i64 0,.nils]:=⟨_,rfl⟩
 have b0 : ([.cells s.cs ⟨false,none⟩,.cells Z ⟨false,none⟩] : St).all (AO.below 0) = true:=by
  rw [hZ]
  simp only [List.all_cons,List.all_nil,Bool.and_true,AO.below,s.nv.cl]; rfl
 have o0 : Ok (σ ++ [.cells s.cs ⟨false,none⟩,.cells Z ⟨false,none⟩]):=hσ.plus b0
 have lv:=flat_len VerV.len s.vers
 have ls:=flat_len StoreV.len s.stores
 have lp : (s.paths.map AV.str).length = s.paths.length:=by simp
 have sv:=hs.vn
 have ss:=hs.sn
 have sp:=hs.pn
 have fv:=flat_flat (f:=VerV.cs) (fun x=>rfl) s.vers
 have fS:=flat_flat (f:=StoreV.cs) (fun x=>rfl) s.stores
 have fp : (s.paths.map AV.str).all AV.flat = true:=by
  rw [List.all_eq_true]
  intro v hv
  obtain ⟨x,_,rfl⟩:=List.mem_map.mp hv
  rfl
 obtain ⟨V,G1,a1,a2,a3⟩:=cp_app (σ ++ [.cells s.cs ⟨false,none⟩,.cells Z ⟨false,none⟩]) s.vers.length 3 48 (s.vers.flatMap VerV.cs) lv (by omega) (by omega) (σ.length + 2) (by simp)
 obtain ⟨B1,hB1⟩ : ∃ B,B = [AV.str s.map,storesA s.stores,.int .i64 s.now,.bool s.hmac,V,.int .i64 s.b1,.int .i64 s.b2,.int .i64 s.b3,.int .i64 s.b4,strsA s.paths]:=⟨_,rfl⟩
 obtain ⟨τ1,hτ1⟩ : ∃ τ,τ = σ ++ (.cells B1 ⟨false,none⟩ :: .cells Z ⟨false,none⟩ :: G1):=⟨_,rfl⟩
 obtain ⟨S,G2,c1,c2,c3⟩:=cp_app τ1 s.stores.length 3 56 (s.stores.flatMap StoreV.cs) ls (by omega) (by omega) τ1.length (Nat.le_refl _)
 have l1 : τ1.length = σ.length + 2 + G1.length:=by rw [hτ1]; simp; omega
 have vx : Cp (σ.length + 2) τ1 V s.vers.length 3 (s.vers.flatMap VerV.cs):=a2.keep fun i y hi hy=>by
  rw [hτ1]
  rw [st_app,List.getElem?_append_right (by omega)] at hy
  rw [List.getElem?_append_right (by omega)]
  obtain ⟨k,hk⟩ : ∃ k,i - σ.length = k + 2:=⟨i - σ.length - 2,by omega⟩
  rw [hk] at hy ⊢
  simpa using hy
 have b1' : belows 0 B1 = true ∨ ∃ q,V = .msl q 0 s.vers.length 3 ∧ q < τ1.length:=by
  rcases vx with ⟨h,_,_⟩ | ⟨q,_,h2,h3⟩
  ·left
   rw [hB1,h]
   simp only [belows,(stores_nv s.stores).cl,(paths_nv s.paths).cl]; rfl
  ·exact .inr ⟨q,h2,(List.getElem?_eq_some_iff.mp h3).1⟩
 have bV : ∀ n,τ1.length ≤ n → below n V = true:=fun n hn=>by
  rcases vx with ⟨h,_,_⟩ | ⟨q,_,h2,h3⟩
  ·rw [h]; rfl
  ·rw [h2]
   have:=(List.getElem?_eq_some_iff.mp h3).1
   simp only [below,decide_eq_true_eq]; omega
 have bS : ∀ n,(τ1 ++ G2).length ≤ n → below n S = true:=fun n hn=>by
  rcases c2 with ⟨h,_,_⟩ | ⟨q,_,h2,h3⟩
  ·rw [h]; rfl
  ·rw [h2]
   have:=(List.getElem?_eq_some_iff.mp h3).1
   simp only [below,decide_eq_true_eq]; omega
 have okG1 : Ok (σ ++ (.cells s.cs ⟨false,none⟩ :: .cells Z ⟨false,none⟩ :: G1)):=by
  have : Ok ((σ ++ [.cells s.cs ⟨false,none⟩,.cells Z ⟨false,none⟩]) ++ G1):=by
   rcases a3 with rfl | rfl
   ·simpa using o0
   ·exact o0.plus (by simp only [List.all_cons,List.all_nil,Bool.and_true,AO.below]; exact flat_below VerV.below _)
  simpa using this
 obtain ⟨B2,hB2⟩ : ∃ B,B = [AV.str s.map,S,.int .i64 s.now,.bool s.hmac,V,.int .i64 s.b1,.int .i64 s.b2,.int .i64 s.b3,.int .i64 s.b4,strsA s.paths]:=⟨_,rfl⟩
 obtain ⟨τ2,hτ2⟩ : ∃ τ,τ = σ ++ (.cells B2 ⟨false,none⟩ :: .cells Z ⟨false,none⟩ :: (G1 ++ G2)):=⟨_,rfl⟩
 have l2 : τ2.length = τ1.length + G2.length:=by rw [hτ2,l1]; simp; omega
 have ok2 : Ok τ2:=by
  have e : τ2 = (((σ ++ (.cells s.cs ⟨false,none⟩ :: .cells Z ⟨false,none⟩ :: G1)) ++ G2).set σ.length (.cells B2 ⟨false,none⟩)):=by
   rw [hτ2,st_app,st_set0]; simp
  rw [e]
  refine Ok.set2 ?_ _ ?_
  ·rcases c3 with rfl | rfl
   ·simpa using okG1
   ·exact okG1.plus (by simp only [List.all_cons,List.all_nil,Bool.and_true,AO.below]; exact flat_below StoreV.below _)
  ·rw [hB2]
   have e2 : (σ ++ (.cells s.cs ⟨false,none⟩ :: .cells Z ⟨false,none⟩ :: G1) ++ G2).length = τ2.length:=by rw [hτ2]; simp
   rw [e2]
   have h1:=bV τ2.length (by omega)
   have h2:=bS τ2.length (by rw [l2]; simp)
   have h3 : below τ2.length (strsA s.paths) = true:=below_mono (Nat.zero_le _) _ (paths_nv s.paths).cl
   simp only [AO.below,belows,h1,h2,h3]; rfl
 have bx2 : τ2[σ.length]? = some (.cells B2 ⟨false,none⟩):=by rw [hτ2,st_get0]; rfl
 have zx2 : τ2[σ.length + 1]? = some (.cells Z ⟨false,none⟩):=by rw [hτ2,st_get]; rfl
 have old2 : ∀ i y,σ.length + 2 ≤ i → (τ1 ++ G2)[i]? = some y → τ2[i]? = some y:=fun i y hi hy=>by
  rw [hτ2]
  rw [hτ1,st_app,List.getElem?_append_right (by omega)] at hy
  rw [List.getElem?_append_right (by omega)]
  obtain ⟨k,hk⟩ : ∃ k,i - σ.length = k + 2:=⟨i - σ.length - 2,by omega⟩
  rw [hk] at hy ⊢
  simpa using hy
 have pre2 : ∀ i y,i < σ.length → σ[i]? = some y → τ2[i]? = some y:=fun i y hi hy=>by rw [hτ2]; exact sy_old hy _
 have vx2 : Cp (σ.length + 2) τ2 V s.vers.length 3 (s.vers.flatMap VerV.cs):=vx.keep fun i y hi hy=>old2 i y hi (sy_old hy _)
 have loop : ∃ τ3 D',loopK C (semF C) 40 [1,2,3] L_legatelaw32_own_0 [(1,.ref σ.length 0),(2,.ref (σ.length + 1) 0),(3,.int .i64 0)] τ2 = some (.exit 0,[(1,.ref σ.length 0),(2,.ref (σ.length + 1) 0)],τ3) ∧ Ok τ3 ∧ τ2.length ≤ τ3.length ∧ (∀ j y,j < τ1.length → τ2[j]? = some y → τ3[j]? = some y) ∧ Cp (σ.length + 2) τ3 S s.stores.length 3 D' ∧ Dn (σ.length + 2) τ3 D' s.stores:=by
  rcases c2 with ⟨h,h0,_⟩ | ⟨q,hq,h2,h3⟩
  ·have e0 : s.stores = []:=List.eq_nil_of_length_eq_zero h0
   refine ⟨τ2,[],?_,ok2,Nat.le_refl _,fun _ _ _ h=>h,.inl ⟨h,h0,rfl⟩,by rw [e0]; exact .nil⟩
   rw [loop_eq (he:=rfl)]
   rw [hB2,h] at bx2
   have hl : ¬ ((0 : Int) < 0):=by decide
   have hl2 : ((0 : Nat) : Int) = 0:=rfl
   simp only [L_legatelaw32_own_0,bx2,hl,hl2,EVC,EVD,EVB,Nat.reduceEqDiff,eqOp,eqA,eqNil,lenA,asNat,optNat,pt,tupleOf,Nat.reduceSub,Nat.reduceGT,Nat.reduceLT,hand,norms,normVs,normV,freeze,reduceIte,reduceCtorEq,srcCells,slCells,isStr,fillA,rep,asObj,outSl,Nat.reduceMul,Nat.reduceLeDiff,Int.reduceToNat,Int.reduceLE,Int.reduceLT,Int.reduceEq,Nat.reduceAdd,Int.reduceBNe,Int.reduceBEq,Int.reduceNeg]
  ·rw [hB2,h2] at bx2
   obtain ⟨τ3,D',k1,k2,k3,k4,k5,k6⟩:=own_loop s.stores (by omega) hs.st σ.length (σ.length + 1) q (by omega) (.str s.map) (.int .i64 s.now) (.bool s.hmac) V (.int .i64 s.b1) (.int .i64 s.b2) (.int .i64 s.b3) (.int .i64 s.b4) (strsA s.paths) s.stores.length 0 (by omega) τ2 [] ok2 bx2 (by rw [List.drop_zero,List.nil_append]; exact old2 q _ (by omega) h3) .nil
   simp only [Int.cast_ofNat_Int,Int.natCast_zero] at k1
   exact ⟨τ3,D',k1,k2,k3,fun j y hj hy=>k4 j y (by omega) hy,.inr ⟨q,by omega,h2,k5⟩,k6.mono (by omega)⟩
 obtain ⟨τ3,D',k1,k2,k3,k4,k5,k6⟩:=loop
 have bx3:=k4 _ _ (by omega) bx2
 have zx3:=k4 _ _ (by omega) zx2
 have vx3 : Cp (σ.length + 2) τ3 V s.vers.length 3 (s.vers.flatMap VerV.cs):=by
  rcases vx with h | ⟨q,h1,h2,h3⟩
  ·exact .inl h
  ·exact .inr ⟨q,h1,h2,k4 q _ (List.getElem?_eq_some_iff.mp h3).1 (old2 q _ h1 (sy_old h3 _))⟩
 obtain ⟨P,G3,p1,p2,p3⟩:=cp_app τ3 s.paths.length 1 16 (s.paths.map .str) (by simp) (by omega) (by omega) (σ.length + 2) (by omega)
 obtain ⟨B3,hB3⟩ : ∃ B,B = [AV.str s.map,S,.int .i64 s.now,.bool s.hmac,V,.int .i64 s.b1,.int .i64 s.b2,.int .i64 s.b3,.int .i64 s.b4,P]:=⟨_,rfl⟩
 have bx4:=sy_old bx3 G3
 have bx5:=set_get bx4 (.cells B3 ⟨false,none⟩)
 have zx5:=set_old (sy_old zx3 G3) (show σ.length + 1 ≠ σ.length by omega) (.cells B3 ⟨false,none⟩)
 obtain ⟨τ5,hτ5⟩ : ∃ τ,(τ3 ++ G3).set σ.length (.cells B3 ⟨false,none⟩) = τ:=⟨_,rfl⟩
 rw [hτ5] at bx5 zx5
 obtain ⟨τ6,hτ6⟩ : ∃ τ,τ5.set (σ.length + 1) (.cells B3 ⟨false,none⟩) = τ:=⟨_,rfl⟩
 have zx6:=set_get zx5 (.cells B3 ⟨false,none⟩)
 rw [hτ6] at zx6
 have old6 : ∀ i y,σ.length + 2 ≤ i → (τ3 ++ G3)[i]? = some y → τ6[i]? = some y:=fun i y hi hy=>by
  rw [← hτ6,← hτ5]
  exact set_old (set_old hy (by omega) _) (by omega) _
 obtain ⟨fs,n1,n2⟩:=own_norm (s:=s) (k5.keep fun i y hi hy=>old6 i y hi (sy_old hy _)) (k6.keep fun i y hi hy=>old6 i y hi (sy_old hy _)) (vx3.keep fun i y hi hy=>old6 i y hi (sy_old hy _)) (p2.keep fun i y hi hy=>old6 i y hi hy)
 have pre6 : ∃ L,τ6 = σ ++ L:=by
  refine ⟨τ6.drop σ.length,?_⟩
  apply List.ext_getElem?
  intro i
  by_cases c : i < σ.length
  ·rw [List.getElem?_append_left c,List.getElem?_eq_getElem c,← hτ6,← hτ5]
   exact set_old (set_old (sy_old (k4 _ _ (by omega) (pre2 i _ c (List.getElem?_eq_getElem c))) _) (by omega) _) (by omega) _
  ·rw [List.getElem?_append_right (by omega),List.getElem?_drop]
   congr 1
   omega
 obtain ⟨L,hL⟩:=pre6
 obtain ⟨L',hL'⟩:=freeze_out fs σ L (fun f hf=>by have:=n2 f hf; omega)
 have hd : hand false [.agg B3] τ6 = some ([.agg s.cs],σ ++ L'):=by
  show (match norms τ6 12 [.agg B3] with | some (l,fs)=>some (l,freeze τ6 fs) | none=>none) = _
  rw [hB3,n1]
  show some (_,freeze τ6 fs) = _
  rw [hL,hL']
 have ty:=st_tidy hσ (vs:=[.agg s.cs]) (by rw [belows,below,s.nv.cl]; rfl) L'
 have body : semK C (semF C) K_legatelaw32_own.ntmps K_legatelaw32_own.body (argsA 0 [.agg s.cs]) σ = some (.ret,[(2,.ref (σ.length + 1) 0)],τ6):=by
  have hl : ¬ ((0 : Int) < 0):=by decide
  obtain ⟨gV1,gV2⟩:=vx.flat
  obtain ⟨gS1,gS2⟩:=c2.flat
  obtain ⟨gP1,gP2⟩:=p2.flat
  have nf : ∀ x : AV,(x = V ∨ x = S ∨ x = P) → True:=fun _ _=>trivial
  have s1 : ∀ L,(σ ++ (.cells s.cs ⟨false,none⟩ :: .cells Z ⟨false,none⟩ :: L)).set σ.length (.cells B1 ⟨false,none⟩) = σ ++ (.cells B1 ⟨false,none⟩ :: .cells Z ⟨false,none⟩ :: L):=fun L=>by rw [st_set0]; rfl
  unfold ScrV.cs storesA versA strsA at *
  subst hB1 hB2 hB3 hZ
  rw [hτ1] at c1
  simp only [List.append_assoc,List.cons_append,List.nil_append] at a1 c1
  rw [hτ2] at k1
  have zz : ∀ L,(σ ++ L)[σ.length + 1]? = L[1]?:= fun L=>st_get σ L 1
  simp only [K_legatelaw32_own,a1,c1,k1,p1,lv,ls,lp,fv,fS,fp,gV1,gV2,gS1,gS2,gP1,gP2,bx3,bx4,hτ5,bx5,zx5,hτ6,splice,st_get0,st_set0,EVC,EVD,EVB,Nat.reduceEqDiff,eqOp,eqA,eqNil,lenA,asNat,optNat,pt,tupleOf,Nat.reduceSub,Nat.reduceGT,Nat.reduceLT,hand,norms,normVs,normV,freeze,reduceIte,reduceCtorEq,srcCells,slCells,isStr,fillA,rep,asObj,outSl,Nat.reduceMul,Nat.reduceLeDiff,Int.reduceToNat,Int.reduceLE,Int.reduceLT,Int.reduceEq,Nat.reduceAdd,Int.reduceBNe,Int.reduceBEq,Int.reduceNeg]
 rw [body,endR_of (vs:=[.agg B3]) (by
  show resL [(2,.ref (σ.length + 1) 0)] τ6 [.cell 2 true 10] = _
  rw [hB3] at zx6 ⊢
  simp only [resL,zx6,EVC,EVD,EVB,Nat.reduceEqDiff,eqOp,eqA,eqNil,lenA,asNat,optNat,pt,tupleOf,Nat.reduceSub,Nat.reduceGT,Nat.reduceLT,hand,norms,normVs,normV,freeze,reduceIte,reduceCtorEq,srcCells,slCells,isStr,fillA,rep,asObj,outSl,Nat.reduceMul,Nat.reduceLeDiff,Int.reduceToNat,Int.reduceLE,Int.reduceLT,Int.reduceEq,Nat.reduceAdd,Int.reduceBNe,Int.reduceBEq,Int.reduceNeg]) hd]
 exact congrArg (fun t=>some (_,t)) ty
end Go.Ev
namespace Go.Ev
set_option maxRecDepth 100000
set_option linter.unusedSimpArgs false
set_option linter.unusedVariables false
variable {C : Ctx}
structure SameHas (C : Ctx) : Prop where
 same : Has C f_legateref32_Same K_legateref32_Same
theorem eq3 (a b c : List UInt8) (n : Nat) (hn : n = 0) : eqCells n [.str a,.str b,.str c] [.str a,.str b,.str c] = some true:=by
 subst hn
 simp [eqCells,bytesEq_is]
theorem eq2 (a b : List UInt8) (n : Nat) (hn : n = 0) : eqCells n [.str a,.str b] [.str a,.str b] = some true:=by
 subst hn
 simp [eqCells,bytesEq_is]
theorem sames_app : ∀ (l m : List AV),sames l l = true → sames m m = true → sames (l ++ m) (l ++ m) = true
 | [],m,_,h=>h
 | x :: l,m,h,k=>by
   rw [List.cons_append]
   rw [sames,Bool.and_eq_true] at h ⊢
   exact ⟨h.1,sames_app l m h.2 k⟩
theorem same_store (v : StoreV) : same (.agg v.cs) (.agg v.cs) = true:=by
 rw [same]
 show sames [.str v.name,.str v.root,.sl v.files.length (v.files.flatMap FileV.cs)] [.str v.name,.str v.root,.sl v.files.length (v.files.flatMap FileV.cs)] = true
 rw [sames,sames,sames,same_str,same_str,same_files]; rfl
theorem sames_stores : ∀ l : List StoreV,sames (l.flatMap StoreV.cs) (l.flatMap StoreV.cs) = true
 | []=>by simp [sames]
 | x :: l=>by
   rw [List.flatMap_cons]
   have:=same_store x
   rw [same] at this
   exact sames_app _ _ this (sames_stores l)
theorem same_stores (n : Nat) (l : List StoreV) : same (.sl n (l.flatMap StoreV.cs)) (.sl n (l.flatMap StoreV.cs)) = true:=by
 rw [same,sames_stores l]; simp
theorem sv_loop (s : ScrV) (hs : s.few) (a b : Nat) (τ : St) (ha : τ[a]? = some (.cells s.cs ⟨false,none⟩)) (hb : τ[b]? = some (.cells s.cs ⟨false,none⟩)) : ∀ (n i : Nat),i + n = s.vers.length →
  loopK C (semF C) 156 [2,3,5] L_legateref32_Same_0 [(2,.ref a 0),(3,.ref b 0),(5,.int .i64 i)] τ = some (.exit 0,[(2,.ref a 0),(3,.ref b 0)],τ)
 | 0,i,hi=>by
   rw [loop_eq (he:=rfl)]
   have h : ¬ ((i : Int) < (s.vers.length : Int)):=by omega
   unfold ScrV.cs versA at ha
   simp only [L_legateref32_Same_0,h,ha,EVC,EVD,EVB,Nat.reduceEqDiff,eqOp,eqA,eqNil,lenA,asNat,optNat,pt,tupleOf,Nat.reduceSub,Nat.reduceGT,Nat.reduceLT,hand,norms,normVs,normV,freeze,reduceIte,reduceCtorEq,srcCells,slCells,isStr,fillA,rep,asObj,outSl,Nat.reduceMul,Nat.reduceLeDiff,Int.reduceToNat,Int.reduceLE,Int.reduceLT,Int.reduceEq,Nat.reduceAdd,Int.reduceBNe,Int.reduceBEq,Int.reduceNeg]
 | n + 1,i,hi=>by
   have h : ((i : Int) < (s.vers.length : Int)):=by omega
   have h2 : i < s.vers.length:=by omega
   have w2 : IntKind.i64.wrap ((i : Int) + 1) = ((i + 1 : Nat) : Int):=by have:=hs.vn; rw [w64] <;> omega
   have p2 : (0 : Int) ≤ (i : Int):=by omega
   have fl:=flat_len VerV.len s.vers
   have fd:=flat_at VerV.len (List.getElem?_eq_getElem h2)
   generalize s.vers[i] = v at *
   have k2:=sv_loop s hs a b τ ha hb n (i + 1) (by omega)
   rw [loop_eq (he:=rfl)]
   generalize hk : loopK C (semF C) 156 [2,3,5] L_legateref32_Same_0 = k at *
   unfold ScrV.cs versA VerV.cs at *
   simp only [L_legateref32_Same_0,h,h2,ha,hb,w2,p2,fl,fd,k2,st_get0,st_set0,splice,same_str,eq3,EVC,EVD,EVB,Nat.reduceEqDiff,eqOp,eqA,eqNil,lenA,asNat,optNat,pt,tupleOf,Nat.reduceSub,Nat.reduceGT,Nat.reduceLT,hand,norms,normVs,normV,freeze,reduceIte,reduceCtorEq,srcCells,slCells,isStr,fillA,rep,asObj,outSl,Nat.reduceMul,Nat.reduceLeDiff,Int.reduceToNat,Int.reduceLE,Int.reduceLT,Int.reduceEq,Nat.reduceAdd,Int.reduceBNe,Int.reduceBEq,Int.reduceNeg]
theorem sf_loop (v : StoreV) (hv : v.few) (a b x y : Nat) (i6 : AV) (τ : St) (ha : τ[x]? = some (.cells v.cs ⟨false,none⟩)) (hb : τ[y]? = some (.cells v.cs ⟨false,none⟩)) : ∀ (n i : Nat),i + n = v.files.length →
  loopK C (semF C) 156 [2,3,6,7,8,9] L_legateref32_Same_1 [(2,.ref a 0),(3,.ref b 0),(6,i6),(7,.ref x 0),(8,.ref y 0),(9,.int .i64 i)] τ = some (.exit 4,[(2,.ref a 0),(3,.ref b 0),(6,i6)],τ)
 | 0,i,hi=>by
   rw [loop_eq (he:=rfl)]
   have h : ¬ ((i : Int) < (v.files.length : Int)):=by omega
   unfold StoreV.cs filesA at ha
   simp only [L_legateref32_Same_1,h,ha,EVC,EVD,EVB,Nat.reduceEqDiff,eqOp,eqA,eqNil,lenA,asNat,optNat,pt,tupleOf,Nat.reduceSub,Nat.reduceGT,Nat.reduceLT,hand,norms,normVs,normV,freeze,reduceIte,reduceCtorEq,srcCells,slCells,isStr,fillA,rep,asObj,outSl,Nat.reduceMul,Nat.reduceLeDiff,Int.reduceToNat,Int.reduceLE,Int.reduceLT,Int.reduceEq,Nat.reduceAdd,Int.reduceBNe,Int.reduceBEq,Int.reduceNeg]
 | n + 1,i,hi=>by
   have h : ((i : Int) < (v.files.length : Int)):=by omega
   have h2 : i < v.files.length:=by omega
   have w2 : IntKind.i64.wrap ((i : Int) + 1) = ((i + 1 : Nat) : Int):=by have:=hv.2.2.1; rw [w64] <;> omega
   have p2 : (0 : Int) ≤ (i : Int):=by omega
   have fl:=flat_len FileV.len v.files
   have fd:=flat_at FileV.len (List.getElem?_eq_getElem h2)
   generalize v.files[i] = f at *
   have k2:=sf_loop v hv a b x y i6 τ ha hb n (i + 1) (by omega)
   rw [loop_eq (he:=rfl)]
   generalize hk : loopK C (semF C) 156 [2,3,6,7,8,9] L_legateref32_Same_1 = k at *
   unfold StoreV.cs filesA FileV.cs at *
   simp only [L_legateref32_Same_1,h,h2,ha,hb,w2,p2,fl,fd,k2,st_get0,st_set0,splice,same_str,eq2,EVC,EVD,EVB,Nat.reduceEqDiff,eqOp,eqA,eqNil,lenA,asNat,optNat,pt,tupleOf,Nat.reduceSub,Nat.reduceGT,Nat.reduceLT,hand,norms,normVs,normV,freeze,reduceIte,reduceCtorEq,srcCells,slCells,isStr,fillA,rep,asObj,outSl,Nat.reduceMul,Nat.reduceLeDiff,Int.reduceToNat,Int.reduceLE,Int.reduceLT,Int.reduceEq,Nat.reduceAdd,Int.reduceBNe,Int.reduceBEq,Int.reduceNeg]
theorem ss_loop (s : ScrV) (hs : s.few) (a b : Nat) : ∀ (n i : Nat),i + n = s.stores.length → ∀ (τ : St) (hτ : Ok τ) (ha : τ[a]? = some (.cells s.cs ⟨false,none⟩)) (hb : τ[b]? = some (.cells s.cs ⟨false,none⟩)),
  ∃ G,Ok (τ ++ G) ∧ loopK C (semF C) 156 [2,3,6] L_legateref32_Same_2 [(2,.ref a 0),(3,.ref b 0),(6,.int .i64 i)] τ = some (.exit 2,[(2,.ref a 0),(3,.ref b 0)],τ ++ G)
 | 0,i,hi,τ,hτ,ha,hb=>by
   refine ⟨[],by simpa using hτ,?_⟩
   rw [loop_eq (he:=rfl)]
   have h : ¬ ((i : Int) < (s.stores.length : Int)):=by omega
   unfold ScrV.cs storesA at ha
   simp only [L_legateref32_Same_2,h,ha,EVC,EVD,EVB,Nat.reduceEqDiff,eqOp,eqA,eqNil,lenA,asNat,optNat,pt,tupleOf,Nat.reduceSub,Nat.reduceGT,Nat.reduceLT,hand,norms,normVs,normV,freeze,reduceIte,reduceCtorEq,srcCells,slCells,isStr,fillA,rep,asObj,outSl,Nat.reduceMul,Nat.reduceLeDiff,Int.reduceToNat,Int.reduceLE,Int.reduceLT,Int.reduceEq,Nat.reduceAdd,Int.reduceBNe,Int.reduceBEq,Int.reduceNeg]
 | n + 1,i,hi,τ,hτ,ha,hb=>by
   have h : ((i : Int) < (s.stores.length : Int)):=by omega
   have h2 : i < s.stores.length:=by omega
   have w2 : IntKind.i64.wrap ((i : Int) + 1) = ((i + 1 : Nat) : Int):=by have:=hs.sn; rw [w64] <;> omega
   have p2 : (0 : Int) ≤ (i : Int):=by omega
   have fl:=flat_len StoreV.len s.stores
   have fd:=flat_at StoreV.len (List.getElem?_eq_getElem h2)
   have hv:=hs.st _ (List.getElem_mem h2)
   generalize s.stores[i] = v at *
   have b0 : ([.cells v.cs ⟨false,none⟩,.cells v.cs ⟨false,none⟩] : St).all (AO.below 0) = true:=by
    simp only [List.all_cons,List.all_nil,Bool.and_true,AO.below,v.below]
   have o1 : Ok (τ ++ [.cells v.cs ⟨false,none⟩,.cells v.cs ⟨false,none⟩]):=hτ.plus b0
   obtain ⟨G,k1,k2⟩:=ss_loop s hs a b n (i + 1) (by omega) (τ ++ [.cells v.cs ⟨false,none⟩,.cells v.cs ⟨false,none⟩]) o1 (sy_old ha _) (sy_old hb _)
   rw [List.append_assoc τ] at k1 k2
   refine ⟨[.cells v.cs ⟨false,none⟩,.cells v.cs ⟨false,none⟩] ++ G,k1,?_⟩
   have lp:=sf_loop (C:=C) v hv a b τ.length (τ.length + 1) (.int .i64 i) (τ ++ [.cells v.cs ⟨false,none⟩,.cells v.cs ⟨false,none⟩]) (by rw [st_get0]; rfl) (by rw [st_get]; rfl) v.files.length 0 (by omega)
   simp only [Int.cast_ofNat_Int,Int.natCast_zero] at lp
   rw [loop_eq (he:=rfl)]
   generalize hk : loopK C (semF C) 156 [2,3,6] L_legateref32_Same_2 = k at *
   have sm:=same_stores s.stores.length s.stores
   have sa:=same_store v
   have fa:=sy_old ha
   have fb:=sy_old hb
   unfold ScrV.cs storesA StoreV.cs filesA at *
   simp only [List.cons_append,List.nil_append] at k2
   simp only [L_legateref32_Same_2,h,h2,ha,hb,fa,fb,w2,p2,fl,fd,sm,sa,lp,k2,st_get0,st_set0,splice,same_str,same_int,EVC,EVD,EVB,Nat.reduceEqDiff,eqOp,eqA,eqNil,lenA,asNat,optNat,pt,tupleOf,Nat.reduceSub,Nat.reduceGT,Nat.reduceLT,hand,norms,normVs,normV,freeze,reduceIte,reduceCtorEq,srcCells,slCells,isStr,fillA,rep,asObj,outSl,Nat.reduceMul,Nat.reduceLeDiff,Int.reduceToNat,Int.reduceLE,Int.reduceLT,Int.reduceEq,Nat.reduceAdd,Int.reduceBNe,Int.reduceBEq,Int.reduceNeg]
end Go.Ev
namespace Go.Ev
set_option maxRecDepth 100000
set_option linter.unusedSimpArgs false
set_option linter.unusedVariables false
variable {C : Ctx}
theorem sp_loop (s : ScrV) (hs : s.few) (a b : Nat) (τ : St) (ha : τ[a]? = some (.cells s.cs ⟨false,none⟩)) (hb : τ[b]? = some (.cells s.cs ⟨false,none⟩)) : ∀ (n i : Nat),i + n = s.paths.length →
  loopK C (semF C) 156 [2,3,10] L_legateref32_Same_3 [(2,.ref a 0),(3,.ref b 0),(10,.int .i64 i)] τ = some (.exit 6,[],τ)
 | 0,i,hi=>by
   rw [loop_eq (he:=rfl)]
   have h : ¬ ((i : Int) < (s.paths.length : Int)):=by omega
   unfold ScrV.cs strsA at ha
   simp only [L_legateref32_Same_3,h,ha,EVC,EVD,EVB,Nat.reduceEqDiff,eqOp,eqA,eqNil,lenA,asNat,optNat,pt,tupleOf,Nat.reduceSub,Nat.reduceGT,Nat.reduceLT,hand,norms,normVs,normV,freeze,reduceIte,reduceCtorEq,srcCells,slCells,isStr,fillA,rep,asObj,outSl,Nat.reduceMul,Nat.reduceLeDiff,Int.reduceToNat,Int.reduceLE,Int.reduceLT,Int.reduceEq,Nat.reduceAdd,Int.reduceBNe,Int.reduceBEq,Int.reduceNeg]
 | n + 1,i,hi=>by
   have h : ((i : Int) < (s.paths.length : Int)):=by omega
   have h2 : i < s.paths.length:=by omega
   have w2 : IntKind.i64.wrap ((i : Int) + 1) = ((i + 1 : Nat) : Int):=by have:=hs.pn; rw [w64] <;> omega
   have p2 : (0 : Int) ≤ (i : Int):=by omega
   have fl : (s.paths.map AV.str).length = s.paths.length:=by simp
   have fd:=strs_at s.paths i h2
   generalize s.paths[i] = f at *
   have k2:=sp_loop s hs a b τ ha hb n (i + 1) (by omega)
   rw [loop_eq (he:=rfl)]
   generalize hk : loopK C (semF C) 156 [2,3,10] L_legateref32_Same_3 = k at *
   unfold ScrV.cs strsA at *
   simp only [L_legateref32_Same_3,h,h2,ha,hb,w2,p2,fl,fd,k2,bs_neq,EVC,EVD,EVB,Nat.reduceEqDiff,eqOp,eqA,eqNil,lenA,asNat,optNat,pt,tupleOf,Nat.reduceSub,Nat.reduceGT,Nat.reduceLT,hand,norms,normVs,normV,freeze,reduceIte,reduceCtorEq,srcCells,slCells,isStr,fillA,rep,asObj,outSl,Nat.reduceMul,Nat.reduceLeDiff,Int.reduceToNat,Int.reduceLE,Int.reduceLT,Int.reduceEq,Nat.reduceAdd,Int.reduceBNe,Int.reduceBEq,Int.reduceNeg]
theorem eq4 (a b c d : Int) (n : Nat) (hn : n = 80) : eqCells n [.int .i64 a,.int .i64 b,.int .i64 c,.int .i64 d] [.int .i64 a,.int .i64 b,.int .i64 c,.int .i64 d] = some true:=by
 subst hn
 simp [eqCells]
theorem Same_is (H : SameHas C) (s : ScrV) (hs : s.few) (σ : St) (hσ : Ok σ) : semF C f_legateref32_Same [.agg s.cs,.agg s.cs] σ = some (.bool true,σ):=by
 rw [H.same.go (NVs.hand (.cons (.agg s.nv) (.cons (.agg s.nv) .nil)) _) (by simp [K_legateref32_Same])]
 have b0 : ([.cells s.cs ⟨false,none⟩,.cells s.cs ⟨false,none⟩] : St).all (AO.below 0) = true:=by
  simp only [List.all_cons,List.all_nil,Bool.and_true,AO.below,s.nv.cl]
 have o1 : Ok (σ ++ [.cells s.cs ⟨false,none⟩,.cells s.cs ⟨false,none⟩]):=hσ.plus b0
 have xa : (σ ++ [.cells s.cs ⟨false,none⟩,.cells s.cs ⟨false,none⟩] : St)[σ.length]? = some (.cells s.cs ⟨false,none⟩):=by rw [st_get0]; rfl
 have xb : (σ ++ [.cells s.cs ⟨false,none⟩,.cells s.cs ⟨false,none⟩] : St)[σ.length + 1]? = some (.cells s.cs ⟨false,none⟩):=by rw [st_get]; rfl
 have l1:=sv_loop (C:=C) s hs _ _ _ xa xb s.vers.length 0 (by omega)
 obtain ⟨G,o2,l2⟩:=ss_loop (C:=C) s hs _ _ s.stores.length 0 (by omega) _ o1 xa xb
 have l3:=sp_loop (C:=C) s hs _ _ _ (sy_old xa G) (sy_old xb G) s.paths.length 0 (by omega)
 simp only [Int.cast_ofNat_Int,Int.natCast_zero] at l1 l2 l3
 rw [st_app] at l2 l3
 have ty:=fun L=>st_tidy hσ (vs:=[.bool true]) rfl L
 unfold ScrV.cs storesA versA strsA at *
 simp only [List.cons_append,List.nil_append] at l2 l3
 simp only [K_legateref32_Same,l1,l2,l3,ty,bs_neq,eq4,st_get0,st_get,EVC,EVD,EVB,Nat.reduceEqDiff,eqOp,eqA,eqNil,lenA,asNat,optNat,pt,tupleOf,Nat.reduceSub,Nat.reduceGT,Nat.reduceLT,hand,norms,normVs,normV,freeze,reduceIte,reduceCtorEq,srcCells,slCells,isStr,fillA,rep,asObj,outSl,Nat.reduceMul,Nat.reduceLeDiff,Int.reduceToNat,Int.reduceLE,Int.reduceLT,Int.reduceEq,Nat.reduceAdd,Int.reduceBNe,Int.reduceBEq,Int.reduceNeg]
end Go.Ev
namespace Go.Ev
set_option maxRecDepth 100000
set_option linter.unusedSimpArgs false
set_option linter.unusedVariables false
variable {C : Ctx}
structure LngHas (C : Ctx) : Prop where
 lv : Has C f_legatelaw17_LongVerdicts K_legatelaw17_LongVerdicts
 ls : Has C f_legatelaw28_LongStore K_legatelaw28_LongStore
 lp : Has C f_legatelaw31_longPaths K_legatelaw31_longPaths
 lg : Has C f_legatelaw31_Long K_legatelaw31_Long
theorem lv_loop (l : List VerV) (hn : l.length ≤ 60) (σ : St) : ∀ (n i : Nat),i + n = l.length →
  (loopK C (semF C) 38 [0,3] L_legatelaw17_LongVerdicts_0 [(0,versA l),(3,.int .i64 i)] σ = some (.exit 0,[],σ) ∧ ∀ v ∈ l.drop i,v.id.length ≤ 300 ∧ v.sg.length ≤ 300 ∧ v.dig.length ≤ 300) ∨
  loopK C (semF C) 38 [0,3] L_legatelaw17_LongVerdicts_0 [(0,versA l),(3,.int .i64 i)] σ = some (.ret,[(2,.bool true)],σ)
 | 0,i,hi=>by
   left
   refine ⟨?_,by rw [List.drop_of_length_le (by omega)]; simp⟩
   rw [loop_eq (he:=rfl)]
   have h : ¬ ((i : Int) < (l.length : Int)):=by omega
   unfold versA
   simp only [L_legatelaw17_LongVerdicts_0,h,EVC,EVD,EVB,Nat.reduceEqDiff,eqOp,eqA,eqNil,lenA,asNat,optNat,pt,tupleOf,Nat.reduceSub,Nat.reduceGT,Nat.reduceLT,hand,norms,normVs,normV,freeze,reduceIte,reduceCtorEq,srcCells,slCells,isStr,fillA,rep,asObj,outSl,Nat.reduceMul,Nat.reduceLeDiff,Int.reduceToNat,Int.reduceLE,Int.reduceLT,Int.reduceEq,Nat.reduceAdd,Int.reduceBNe,Int.reduceBEq,Int.reduceNeg]
 | n + 1,i,hi=>by
   have h : ((i : Int) < (l.length : Int)):=by omega
   have h2 : i < l.length:=by omega
   have w2 : IntKind.i64.wrap ((i : Int) + 1) = ((i + 1 : Nat) : Int):=by rw [w64] <;> omega
   have p2 : (0 : Int) ≤ (i : Int):=by omega
   have fl:=flat_len VerV.len l
   have fd:=flat_at VerV.len (List.getElem?_eq_getElem h2)
   have dn : l.drop i = l[i] :: l.drop (i + 1):=List.drop_eq_getElem_cons h2
   generalize l[i] = v at *
   have ih:=lv_loop l hn σ n (i + 1) (by omega)
   unfold versA VerV.cs at *
   by_cases c1 : (v.id.length : Int) > 300
   ·right
    rw [loop_eq (he:=rfl)]
    simp only [L_legatelaw17_LongVerdicts_0,h,h2,w2,p2,fl,fd,c1,EVC,EVD,EVB,Nat.reduceEqDiff,eqOp,eqA,eqNil,lenA,asNat,optNat,pt,tupleOf,Nat.reduceSub,Nat.reduceGT,Nat.reduceLT,hand,norms,normVs,normV,freeze,reduceIte,reduceCtorEq,srcCells,slCells,isStr,fillA,rep,asObj,outSl,Nat.reduceMul,Nat.reduceLeDiff,Int.reduceToNat,Int.reduceLE,Int.reduceLT,Int.reduceEq,Nat.reduceAdd,Int.reduceBNe,Int.reduceBEq,Int.reduceNeg]
   by_cases c2 : (v.sg.length : Int) > 300
   ·right
    rw [loop_eq (he:=rfl)]
    simp only [L_legatelaw17_LongVerdicts_0,h,h2,w2,p2,fl,fd,c1,c2,EVC,EVD,EVB,Nat.reduceEqDiff,eqOp,eqA,eqNil,lenA,asNat,optNat,pt,tupleOf,Nat.reduceSub,Nat.reduceGT,Nat.reduceLT,hand,norms,normVs,normV,freeze,reduceIte,reduceCtorEq,srcCells,slCells,isStr,fillA,rep,asObj,outSl,Nat.reduceMul,Nat.reduceLeDiff,Int.reduceToNat,Int.reduceLE,Int.reduceLT,Int.reduceEq,Nat.reduceAdd,Int.reduceBNe,Int.reduceBEq,Int.reduceNeg]
   by_cases c3 : (v.dig.length : Int) > 300
   ·right
    rw [loop_eq (he:=rfl)]
    simp only [L_legatelaw17_LongVerdicts_0,h,h2,w2,p2,fl,fd,c1,c2,c3,EVC,EVD,EVB,Nat.reduceEqDiff,eqOp,eqA,eqNil,lenA,asNat,optNat,pt,tupleOf,Nat.reduceSub,Nat.reduceGT,Nat.reduceLT,hand,norms,normVs,normV,freeze,reduceIte,reduceCtorEq,srcCells,slCells,isStr,fillA,rep,asObj,outSl,Nat.reduceMul,Nat.reduceLeDiff,Int.reduceToNat,Int.reduceLE,Int.reduceLT,Int.reduceEq,Nat.reduceAdd,Int.reduceBNe,Int.reduceBEq,Int.reduceNeg]
   rcases ih with ⟨ih,hq⟩ | ih
   ·left
    refine ⟨?_,fun y hy=>?_⟩
    ·rw [loop_eq (he:=rfl)]
     generalize hk : loopK C (semF C) 38 [0,3] L_legatelaw17_LongVerdicts_0 = k at *
     simp only [L_legatelaw17_LongVerdicts_0,h,h2,w2,p2,fl,fd,c1,c2,c3,ih,EVC,EVD,EVB,Nat.reduceEqDiff,eqOp,eqA,eqNil,lenA,asNat,optNat,pt,tupleOf,Nat.reduceSub,Nat.reduceGT,Nat.reduceLT,hand,norms,normVs,normV,freeze,reduceIte,reduceCtorEq,srcCells,slCells,isStr,fillA,rep,asObj,outSl,Nat.reduceMul,Nat.reduceLeDiff,Int.reduceToNat,Int.reduceLE,Int.reduceLT,Int.reduceEq,Nat.reduceAdd,Int.reduceBNe,Int.reduceBEq,Int.reduceNeg]
    ·rw [dn] at hy
     rcases List.mem_cons.mp hy with rfl | hy
     ·exact ⟨by omega,by omega,by omega⟩
     ·exact hq y hy
   ·right
    rw [loop_eq (he:=rfl)]
    generalize hk : loopK C (semF C) 38 [0,3] L_legatelaw17_LongVerdicts_0 = k at *
    simp only [L_legatelaw17_LongVerdicts_0,h,h2,w2,p2,fl,fd,c1,c2,c3,ih,EVC,EVD,EVB,Nat.reduceEqDiff,eqOp,eqA,eqNil,lenA,asNat,optNat,pt,tupleOf,Nat.reduceSub,Nat.reduceGT,Nat.reduceLT,hand,norms,normVs,normV,freeze,reduceIte,reduceCtorEq,srcCells,slCells,isStr,fillA,rep,asObj,outSl,Nat.reduceMul,Nat.reduceLeDiff,Int.reduceToNat,Int.reduceLE,Int.reduceLT,Int.reduceEq,Nat.reduceAdd,Int.reduceBNe,Int.reduceBEq,Int.reduceNeg]
theorem lv_is (H : LngHas C) (l : List VerV) (σ : St) : ∃ b : Bool,semF C f_legatelaw17_LongVerdicts [versA l] σ = some (.bool b,σ) ∧ (b = false → l.length ≤ 60 ∧ ∀ v ∈ l,v.id.length ≤ 300 ∧ v.sg.length ≤ 300 ∧ v.dig.length ≤ 300):=by
 rw [H.lv.go (NVs.hand (.cons (vers_nv l) .nil) _) (by simp [K_legatelaw17_LongVerdicts])]
 by_cases c : (l.length : Int) > 60
 ·refine ⟨true,?_,fun h=>by cases h⟩
  unfold versA
  simp only [K_legatelaw17_LongVerdicts,c,EVC,EVD,EVB,Nat.reduceEqDiff,eqOp,eqA,eqNil,lenA,asNat,optNat,pt,tupleOf,Nat.reduceSub,Nat.reduceGT,Nat.reduceLT,hand,norms,normVs,normV,freeze,reduceIte,reduceCtorEq,srcCells,slCells,isStr,fillA,rep,asObj,outSl,Nat.reduceMul,Nat.reduceLeDiff,Int.reduceToNat,Int.reduceLE,Int.reduceLT,Int.reduceEq,Nat.reduceAdd,Int.reduceBNe,Int.reduceBEq,Int.reduceNeg]
 ·rcases lv_loop (C:=C) l (by omega) σ l.length 0 (by omega) with ⟨lp,hq⟩ | lp
  ·refine ⟨false,?_,fun _=>⟨by omega,by simpa using hq⟩⟩
   simp only [Int.cast_ofNat_Int,Int.natCast_zero] at lp
   unfold versA at *
   simp only [K_legatelaw17_LongVerdicts,c,lp,EVC,EVD,EVB,Nat.reduceEqDiff,eqOp,eqA,eqNil,lenA,asNat,optNat,pt,tupleOf,Nat.reduceSub,Nat.reduceGT,Nat.reduceLT,hand,norms,normVs,normV,freeze,reduceIte,reduceCtorEq,srcCells,slCells,isStr,fillA,rep,asObj,outSl,Nat.reduceMul,Nat.reduceLeDiff,Int.reduceToNat,Int.reduceLE,Int.reduceLT,Int.reduceEq,Nat.reduceAdd,Int.reduceBNe,Int.reduceBEq,Int.reduceNeg]
  ·refine ⟨true,?_,fun h=>by cases h⟩
   simp only [Int.cast_ofNat_Int,Int.natCast_zero] at lp
   unfold versA at *
   simp only [K_legatelaw17_LongVerdicts,c,lp,EVC,EVD,EVB,Nat.reduceEqDiff,eqOp,eqA,eqNil,lenA,asNat,optNat,pt,tupleOf,Nat.reduceSub,Nat.reduceGT,Nat.reduceLT,hand,norms,normVs,normV,freeze,reduceIte,reduceCtorEq,srcCells,slCells,isStr,fillA,rep,asObj,outSl,Nat.reduceMul,Nat.reduceLeDiff,Int.reduceToNat,Int.reduceLE,Int.reduceLT,Int.reduceEq,Nat.reduceAdd,Int.reduceBNe,Int.reduceBEq,Int.reduceNeg]
theorem lp_loop (l : List (List UInt8)) (hn : l.length ≤ 1000000) (σ : St) : ∀ (n i : Nat),i + n = l.length →
  (loopK C (semF C) 19 [0,3] L_legatelaw31_longPaths_0 [(0,strsA l),(3,.int .i64 i)] σ = some (.exit 0,[(0,strsA l)],σ) ∧ ∀ v ∈ l.drop i,v.length ≤ 1000) ∨
  loopK C (semF C) 19 [0,3] L_legatelaw31_longPaths_0 [(0,strsA l),(3,.int .i64 i)] σ = some (.ret,[(2,.bool true)],σ)
 | 0,i,hi=>by
   left
   refine ⟨?_,by rw [List.drop_of_length_le (by omega)]; simp⟩
   rw [loop_eq (he:=rfl)]
   have h : ¬ ((i : Int) < (l.length : Int)):=by omega
   unfold strsA
   simp only [L_legatelaw31_longPaths_0,h,EVC,EVD,EVB,Nat.reduceEqDiff,eqOp,eqA,eqNil,lenA,asNat,optNat,pt,tupleOf,Nat.reduceSub,Nat.reduceGT,Nat.reduceLT,hand,norms,normVs,normV,freeze,reduceIte,reduceCtorEq,srcCells,slCells,isStr,fillA,rep,asObj,outSl,Nat.reduceMul,Nat.reduceLeDiff,Int.reduceToNat,Int.reduceLE,Int.reduceLT,Int.reduceEq,Nat.reduceAdd,Int.reduceBNe,Int.reduceBEq,Int.reduceNeg]
 | n + 1,i,hi=>by
   have h : ((i : Int) < (l.length : Int)):=by omega
   have h2 : i < l.length:=by omega
   have w2 : IntKind.i64.wrap ((i : Int) + 1) = ((i + 1 : Nat) : Int):=by rw [w64] <;> omega
   have p2 : (0 : Int) ≤ (i : Int):=by omega
   have fl : (l.map AV.str).length = l.length:=by simp
   have fd:=strs_at l i h2
   have dn : l.drop i = l[i] :: l.drop (i + 1):=List.drop_eq_getElem_cons h2
   generalize l[i] = v at *
   have ih:=lp_loop l hn σ n (i + 1) (by omega)
   unfold strsA at *
   by_cases c1 : (v.length : Int) > 1000
   ·right
    rw [loop_eq (he:=rfl)]
    simp only [L_legatelaw31_longPaths_0,h,h2,w2,p2,fl,fd,c1,EVC,EVD,EVB,Nat.reduceEqDiff,eqOp,eqA,eqNil,lenA,asNat,optNat,pt,tupleOf,Nat.reduceSub,Nat.reduceGT,Nat.reduceLT,hand,norms,normVs,normV,freeze,reduceIte,reduceCtorEq,srcCells,slCells,isStr,fillA,rep,asObj,outSl,Nat.reduceMul,Nat.reduceLeDiff,Int.reduceToNat,Int.reduceLE,Int.reduceLT,Int.reduceEq,Nat.reduceAdd,Int.reduceBNe,Int.reduceBEq,Int.reduceNeg]
   rcases ih with ⟨ih,hq⟩ | ih
   ·left
    refine ⟨?_,fun y hy=>?_⟩
    ·rw [loop_eq (he:=rfl)]
     generalize hk : loopK C (semF C) 19 [0,3] L_legatelaw31_longPaths_0 = k at *
     simp only [L_legatelaw31_longPaths_0,h,h2,w2,p2,fl,fd,c1,ih,EVC,EVD,EVB,Nat.reduceEqDiff,eqOp,eqA,eqNil,lenA,asNat,optNat,pt,tupleOf,Nat.reduceSub,Nat.reduceGT,Nat.reduceLT,hand,norms,normVs,normV,freeze,reduceIte,reduceCtorEq,srcCells,slCells,isStr,fillA,rep,asObj,outSl,Nat.reduceMul,Nat.reduceLeDiff,Int.reduceToNat,Int.reduceLE,Int.reduceLT,Int.reduceEq,Nat.reduceAdd,Int.reduceBNe,Int.reduceBEq,Int.reduceNeg]
    ·rw [dn] at hy
     rcases List.mem_cons.mp hy with rfl | hy
     ·omega
     ·exact hq y hy
   ·right
    rw [loop_eq (he:=rfl)]
    generalize hk : loopK C (semF C) 19 [0,3] L_legatelaw31_longPaths_0 = k at *
    simp only [L_legatelaw31_longPaths_0,h,h2,w2,p2,fl,fd,c1,ih,EVC,EVD,EVB,Nat.reduceEqDiff,eqOp,eqA,eqNil,lenA,asNat,optNat,pt,tupleOf,Nat.reduceSub,Nat.reduceGT,Nat.reduceLT,hand,norms,normVs,normV,freeze,reduceIte,reduceCtorEq,srcCells,slCells,isStr,fillA,rep,asObj,outSl,Nat.reduceMul,Nat.reduceLeDiff,Int.reduceToNat,Int.reduceLE,Int.reduceLT,Int.reduceEq,Nat.reduceAdd,Int.reduceBNe,Int.reduceBEq,Int.reduceNeg]
theorem lp_is (H : LngHas C) (l : List (List UInt8)) (hn : l.length ≤ 1000000) (σ : St) : ∃ b : Bool,semF C f_legatelaw31_longPaths [strsA l] σ = some (.bool b,σ) ∧ (b = false → ∀ v ∈ l,v.length ≤ 1000):=by
 rw [H.lp.go (NVs.hand (.cons (paths_nv l) .nil) _) (by simp [K_legatelaw31_longPaths])]
 rcases lp_loop (C:=C) l hn σ l.length 0 (by omega) with ⟨lp,hq⟩ | lp
 ·simp only [Int.cast_ofNat_Int,Int.natCast_zero] at lp
  refine ⟨decide ((l.length : Int) > 70),?_,fun _=>by simpa using hq⟩
  unfold strsA at *
  simp only [K_legatelaw31_longPaths,lp,EVC,EVD,EVB,Nat.reduceEqDiff,eqOp,eqA,eqNil,lenA,asNat,optNat,pt,tupleOf,Nat.reduceSub,Nat.reduceGT,Nat.reduceLT,hand,norms,normVs,normV,freeze,reduceIte,reduceCtorEq,srcCells,slCells,isStr,fillA,rep,asObj,outSl,Nat.reduceMul,Nat.reduceLeDiff,Int.reduceToNat,Int.reduceLE,Int.reduceLT,Int.reduceEq,Nat.reduceAdd,Int.reduceBNe,Int.reduceBEq,Int.reduceNeg]
 ·refine ⟨true,?_,fun h=>by cases h⟩
  simp only [Int.cast_ofNat_Int,Int.natCast_zero] at lp
  unfold strsA at *
  simp only [K_legatelaw31_longPaths,lp,EVC,EVD,EVB,Nat.reduceEqDiff,eqOp,eqA,eqNil,lenA,asNat,optNat,pt,tupleOf,Nat.reduceSub,Nat.reduceGT,Nat.reduceLT,hand,norms,normVs,normV,freeze,reduceIte,reduceCtorEq,srcCells,slCells,isStr,fillA,rep,asObj,outSl,Nat.reduceMul,Nat.reduceLeDiff,Int.reduceToNat,Int.reduceLE,Int.reduceLT,Int.reduceEq,Nat.reduceAdd,Int.reduceBNe,Int.reduceBEq,Int.reduceNeg]
end Go.Ev
namespace Go.Ev
set_option maxRecDepth 100000
set_option linter.unusedSimpArgs false
set_option linter.unusedVariables false
variable {C : Ctx}
def lsF : List FileV → Nat → Nat
 | [],n=>n
 | f :: l,n=>if n < 40000 then lsF l (n + 50 + min 40000 f.name.length + min 40000 f.data.length) else n
theorem lsF_le : ∀ (l : List FileV) (n : Nat),n ≤ lsF l n
 | [],n=>Nat.le_refl _
 | f :: l,n=>by
   unfold lsF
   split
   ·have:=lsF_le l (n + 50 + min 40000 f.name.length + min 40000 f.data.length)
    omega
   ·exact Nat.le_refl _
theorem lsF_few : ∀ (l : List FileV) (n : Nat),lsF l n < 40000 → n + 50 * l.length ≤ lsF l n ∧ ∀ f ∈ l,f.name.length ≤ 40000 ∧ f.data.length ≤ 40000
 | [],n,h=>⟨by simp [lsF],by simp⟩
 | f :: l,n,h=>by
   unfold lsF at h ⊢
   split at h
   ·rename_i hn
    rw [if_pos hn]
    obtain ⟨a,b⟩:=lsF_few l _ h
    have c:=lsF_le l (n + 50 + min 40000 f.name.length + min 40000 f.data.length)
    refine ⟨by simp only [List.length_cons]; omega,fun g hg=>?_⟩
    rcases List.mem_cons.mp hg with rfl | hg
    ·exact ⟨by omega,by omega⟩
    ·exact b g hg
   ·rename_i hn
    rw [if_neg hn]
    exact absurd h hn
theorem mm0 (k : IntKind) (a b : Int) : minmaxA false (.int k a) (.int k b) = some (.int k (if b < a then b else a)):=by
 unfold minmaxA
 rfl
theorem mm (n : Nat) : minmaxA false (.int .i64 40000) (.int .i64 n) = some (.int .i64 (min 40000 n : Nat)):=by
 have : (if (n : Int) < 40000 then (n : Int) else 40000) = ((min 40000 n : Nat) : Int):=by
  split <;> omega
 rw [mm0,this]
theorem ls_loop (v : StoreV) (hn : v.files.length ≤ 9223372036854775807) (b : Nat) (τ : St) (hb : τ[b]? = some (.cells v.cs ⟨false,none⟩)) : ∀ (k i n : Nat),i + k = v.files.length → n ≤ 200000 →
  loopK C (semF C) 47 [1,3,4] L_legatelaw28_LongStore_0 [(1,.ref b 0),(3,.int .i64 n),(4,.int .i64 i)] τ = some (.exit 0,[(3,.int .i64 (lsF (v.files.drop i) n))],τ)
 | 0,i,n,hi,h3=>by
   have e : v.files.drop i = []:=List.drop_eq_nil_of_le (by omega)
   rw [loop_eq (he:=rfl),e]
   have h : ¬ ((i : Int) < (v.files.length : Int)):=by omega
   unfold StoreV.cs filesA at hb
   simp only [L_legatelaw28_LongStore_0,lsF,h,hb,EVC,EVD,EVB,Nat.reduceEqDiff,eqOp,eqA,eqNil,lenA,asNat,optNat,pt,tupleOf,Nat.reduceSub,Nat.reduceGT,Nat.reduceLT,hand,norms,normVs,normV,freeze,reduceIte,reduceCtorEq,srcCells,slCells,isStr,fillA,rep,asObj,outSl,Nat.reduceMul,Nat.reduceLeDiff,Int.reduceToNat,Int.reduceLE,Int.reduceLT,Int.reduceEq,Nat.reduceAdd,Int.reduceBNe,Int.reduceBEq,Int.reduceNeg]
 | k + 1,i,n,hi,h3=>by
   have h : ((i : Int) < (v.files.length : Int)):=by omega
   have h2 : i < v.files.length:=by omega
   have w2 : IntKind.i64.wrap ((i : Int) + 1) = ((i + 1 : Nat) : Int):=by rw [w64] <;> omega
   have p2 : (0 : Int) ≤ (i : Int):=by omega
   have fl:=flat_len FileV.len v.files
   have fd:=flat_at FileV.len (List.getElem?_eq_getElem h2)
   have dn : v.files.drop i = v.files[i] :: v.files.drop (i + 1):=List.drop_eq_getElem_cons h2
   generalize v.files[i] = f at *
   rw [dn,lsF]
   by_cases c : n < 40000
   ·have c' : (n : Int) < 40000:=by omega
    rw [if_pos c]
    have ih:=ls_loop v hn b τ hb k (i + 1) (n + 50 + min 40000 f.name.length + min 40000 f.data.length) (by omega) (by omega)
    have w3 : IntKind.i64.wrap ((n : Int) + 50) = ((n + 50 : Nat) : Int):=by rw [w64] <;> omega
    have w4 : IntKind.i64.wrap (((n + 50 : Nat) : Int) + ((min 40000 f.name.length : Nat) : Int)) = ((n + 50 + min 40000 f.name.length : Nat) : Int):=by rw [w64] <;> omega
    have w5 : IntKind.i64.wrap (((n + 50 + min 40000 f.name.length : Nat) : Int) + ((min 40000 f.data.length : Nat) : Int)) = ((n + 50 + min 40000 f.name.length + min 40000 f.data.length : Nat) : Int):=by rw [w64] <;> omega
    rw [loop_eq (he:=rfl)]
    generalize hk : loopK C (semF C) 47 [1,3,4] L_legatelaw28_LongStore_0 = q at *
    unfold StoreV.cs filesA FileV.cs at *
    simp only [L_legatelaw28_LongStore_0,h,h2,c',hb,w2,p2,fl,fd,mm,w3,w4,w5,ih,EVC,EVD,EVB,Nat.reduceEqDiff,eqOp,eqA,eqNil,lenA,asNat,optNat,pt,tupleOf,Nat.reduceSub,Nat.reduceGT,Nat.reduceLT,hand,norms,normVs,normV,freeze,reduceIte,reduceCtorEq,srcCells,slCells,isStr,fillA,rep,asObj,outSl,Nat.reduceMul,Nat.reduceLeDiff,Int.reduceToNat,Int.reduceLE,Int.reduceLT,Int.reduceEq,Nat.reduceAdd,Int.reduceBNe,Int.reduceBEq,Int.reduceNeg]
   ·have c' : ¬ (n : Int) < 40000:=by omega
    rw [if_neg c,loop_eq (he:=rfl)]
    unfold StoreV.cs filesA at *
    simp only [L_legatelaw28_LongStore_0,h,c',hb,EVC,EVD,EVB,Nat.reduceEqDiff,eqOp,eqA,eqNil,lenA,asNat,optNat,pt,tupleOf,Nat.reduceSub,Nat.reduceGT,Nat.reduceLT,hand,norms,normVs,normV,freeze,reduceIte,reduceCtorEq,srcCells,slCells,isStr,fillA,rep,asObj,outSl,Nat.reduceMul,Nat.reduceLeDiff,Int.reduceToNat,Int.reduceLE,Int.reduceLT,Int.reduceEq,Nat.reduceAdd,Int.reduceBNe,Int.reduceBEq,Int.reduceNeg]
theorem ls_is (H : LngHas C) (v : StoreV) (hn : v.files.length ≤ 9223372036854775807) (σ : St) (hσ : Ok σ) : ∃ b : Bool,semF C f_legatelaw28_LongStore [.agg v.cs] σ = some (.bool b,σ) ∧ (b = false → v.name.length ≤ 40000 ∧ v.root.length ≤ 40000 ∧ v.files.length ≤ 1000 ∧ ∀ f ∈ v.files,f.name.length ≤ 40000 ∧ f.data.length ≤ 40000):=by
 rw [H.ls.go (NVs.hand (.cons (.agg v.nv) .nil) _) (by simp [K_legatelaw28_LongStore])]
 have xa : (σ ++ [.cells v.cs ⟨false,none⟩] : St)[σ.length]? = some (.cells v.cs ⟨false,none⟩):=by rw [st_get0]; rfl
 have lp:=ls_loop (C:=C) v hn σ.length _ xa v.files.length 0 (min 40000 v.root.length + min 40000 v.name.length) (by omega) (by omega)
 have w4 : IntKind.i64.wrap (((min 40000 v.root.length : Nat) : Int) + ((min 40000 v.name.length : Nat) : Int)) = ((min 40000 v.root.length + min 40000 v.name.length : Nat) : Int):=by rw [w64] <;> omega
 simp only [Int.cast_ofNat_Int,Int.natCast_zero,List.drop_zero] at lp
 have ty:=fun b L=>st_tidy hσ (vs:=[.bool b]) rfl L
 have fw:=lsF_few v.files (min 40000 v.root.length + min 40000 v.name.length)
 have fl:=lsF_le v.files (min 40000 v.root.length + min 40000 v.name.length)
 generalize lsF v.files (min 40000 v.root.length + min 40000 v.name.length) = m at *
 refine ⟨decide ((m : Int) ≥ 40000),?_,fun hb=>?_⟩
 ·unfold StoreV.cs filesA at *
  simp only [K_legatelaw28_LongStore,lp,mm,w4,ty,st_get0,EVC,EVD,EVB,Nat.reduceEqDiff,eqOp,eqA,eqNil,lenA,asNat,optNat,pt,tupleOf,Nat.reduceSub,Nat.reduceGT,Nat.reduceLT,hand,norms,normVs,normV,freeze,reduceIte,reduceCtorEq,srcCells,slCells,isStr,fillA,rep,asObj,outSl,Nat.reduceMul,Nat.reduceLeDiff,Int.reduceToNat,Int.reduceLE,Int.reduceLT,Int.reduceEq,Nat.reduceAdd,Int.reduceBNe,Int.reduceBEq,Int.reduceNeg]
 ·simp only [decide_eq_false_iff_not] at hb
  obtain ⟨a,b⟩:=fw (by omega)
  exact ⟨by omega,by omega,by omega,b⟩
end Go.Ev
namespace Go.Ev
set_option maxRecDepth 100000
set_option linter.unusedSimpArgs false
set_option linter.unusedVariables false
variable {C : Ctx}
def StoreV.few' (v : StoreV) : Prop:=v.name.length ≤ 40000 ∧ v.root.length ≤ 40000 ∧ v.files.length ≤ 1000 ∧ ∀ f ∈ v.files,f.name.length ≤ 40000 ∧ f.data.length ≤ 40000
theorem l0_loop (s : ScrV) (b : Nat) (τ : St) (hb : τ[b]? = some (.cells s.cs ⟨false,none⟩)) (j : Nat) (v : StoreV) (hj : s.stores[j]? = some v) (hv : v.few') : ∀ (k i n : Nat),i + k = v.files.length → n + k * 40050 ≤ 1000000000000 →
  ∃ n',n' ≤ n + k * 40050 ∧ loopK C (semF C) 72 [1,3,4,5] L_legatelaw31_Long_0 [(1,.ref b 0),(3,.int .i64 n),(4,.int .i64 j),(5,.int .i64 i)] τ = some (.exit 2,[(1,.ref b 0),(3,.int .i64 (n' : Nat)),(4,.int .i64 j)],τ)
 | 0,i,n,hi,h3=>by
   refine ⟨n,by omega,?_⟩
   rw [loop_eq (he:=rfl)]
   have h : ¬ ((i : Int) < (v.files.length : Int)):=by omega
   have hj2 : j < s.stores.length:=(List.getElem?_eq_some_iff.mp hj).1
   have pj : (0 : Int) ≤ (j : Int):=by omega
   have sl:=flat_len StoreV.len s.stores
   have sd:=flat_at StoreV.len hj
   unfold ScrV.cs storesA StoreV.cs filesA at *
   simp only [L_legatelaw31_Long_0,h,hb,hj2,pj,sl,sd,EVC,EVD,EVB,Nat.reduceEqDiff,eqOp,eqA,eqNil,lenA,asNat,optNat,pt,tupleOf,Nat.reduceSub,Nat.reduceGT,Nat.reduceLT,hand,norms,normVs,normV,freeze,reduceIte,reduceCtorEq,srcCells,slCells,isStr,fillA,rep,asObj,outSl,Nat.reduceMul,Nat.reduceLeDiff,Int.reduceToNat,Int.reduceLE,Int.reduceLT,Int.reduceEq,Nat.reduceAdd,Int.reduceBNe,Int.reduceBEq,Int.reduceNeg]
 | k + 1,i,n,hi,h3=>by
   have h : ((i : Int) < (v.files.length : Int)):=by omega
   have h2 : i < v.files.length:=by omega
   have w2 : IntKind.i64.wrap ((i : Int) + 1) = ((i + 1 : Nat) : Int):=by have:=hv.2.2.1; rw [w64] <;> omega
   have p2 : (0 : Int) ≤ (i : Int):=by omega
   have fl:=flat_len FileV.len v.files
   have fd:=flat_at FileV.len (List.getElem?_eq_getElem h2)
   have hf:=hv.2.2.2 _ (List.getElem_mem h2)
   generalize v.files[i] = f at *
   obtain ⟨n',n1,ih⟩:=l0_loop s b τ hb j v hj hv k (i + 1) (n + 50 + f.data.length) (by omega) (by omega)
   refine ⟨n',by omega,?_⟩
   have w3 : IntKind.i64.wrap ((n : Int) + 50) = ((n + 50 : Nat) : Int):=by rw [w64] <;> omega
   have w4 : IntKind.i64.wrap (((n + 50 : Nat) : Int) + (f.data.length : Int)) = ((n + 50 + f.data.length : Nat) : Int):=by rw [w64] <;> omega
   have hj2 : j < s.stores.length:=(List.getElem?_eq_some_iff.mp hj).1
   have pj : (0 : Int) ≤ (j : Int):=by omega
   have sl:=flat_len StoreV.len s.stores
   have sd:=flat_at StoreV.len hj
   rw [loop_eq (he:=rfl)]
   generalize hk : loopK C (semF C) 72 [1,3,4,5] L_legatelaw31_Long_0 = q at *
   unfold ScrV.cs storesA StoreV.cs filesA FileV.cs at *
   simp only [L_legatelaw31_Long_0,h,h2,hb,hj2,pj,sl,sd,w2,p2,fl,fd,w3,w4,ih,EVC,EVD,EVB,Nat.reduceEqDiff,eqOp,eqA,eqNil,lenA,asNat,optNat,pt,tupleOf,Nat.reduceSub,Nat.reduceGT,Nat.reduceLT,hand,norms,normVs,normV,freeze,reduceIte,reduceCtorEq,srcCells,slCells,isStr,fillA,rep,asObj,outSl,Nat.reduceMul,Nat.reduceLeDiff,Int.reduceToNat,Int.reduceLE,Int.reduceLT,Int.reduceEq,Nat.reduceAdd,Int.reduceBNe,Int.reduceBEq,Int.reduceNeg]
set_option maxHeartbeats 2000000 in
theorem l1_loop (H : LngHas C) (s : ScrV) (hn : s.stores.length ≤ 10) (hf : ∀ v ∈ s.stores,v.files.length ≤ 9223372036854775807) (b : Nat) (τ : St) (hτ : Ok τ) (hb : τ[b]? = some (.cells s.cs ⟨false,none⟩)) : ∀ (k i n : Nat),i + k = s.stores.length → n + k * 50000000 ≤ 1000000000000 →
  (∃ n',n' ≤ 1000000000000 ∧ (∀ v ∈ s.stores.drop i,v.few') ∧ loopK C (semF C) 72 [1,3,4] L_legatelaw31_Long_1 [(1,.ref b 0),(3,.int .i64 n),(4,.int .i64 i)] τ = some (.exit 0,[(1,.ref b 0),(3,.int .i64 (n' : Nat))],τ)) ∨
  loopK C (semF C) 72 [1,3,4] L_legatelaw31_Long_1 [(1,.ref b 0),(3,.int .i64 n),(4,.int .i64 i)] τ = some (.ret,[(2,.bool true)],τ)
 | 0,i,n,hi,h3=>by
   have e : s.stores.drop i = []:=List.drop_eq_nil_of_le (by omega)
   refine .inl ⟨n,by omega,by rw [e]; simp,?_⟩
   rw [loop_eq (he:=rfl)]
   have h : ¬ ((i : Int) < (s.stores.length : Int)):=by omega
   unfold ScrV.cs storesA at *
   simp only [L_legatelaw31_Long_1,h,hb,EVC,EVD,EVB,Nat.reduceEqDiff,eqOp,eqA,eqNil,lenA,asNat,optNat,pt,tupleOf,Nat.reduceSub,Nat.reduceGT,Nat.reduceLT,hand,norms,normVs,normV,freeze,reduceIte,reduceCtorEq,srcCells,slCells,isStr,fillA,rep,asObj,outSl,Nat.reduceMul,Nat.reduceLeDiff,Int.reduceToNat,Int.reduceLE,Int.reduceLT,Int.reduceEq,Nat.reduceAdd,Int.reduceBNe,Int.reduceBEq,Int.reduceNeg]
 | k + 1,i,n,hi,h3=>by
   have h : ((i : Int) < (s.stores.length : Int)):=by omega
   have h2 : i < s.stores.length:=by omega
   have w2 : IntKind.i64.wrap ((i : Int) + 1) = ((i + 1 : Nat) : Int):=by rw [w64] <;> omega
   have p2 : (0 : Int) ≤ (i : Int):=by omega
   have sl:=flat_len StoreV.len s.stores
   have sg:=List.getElem?_eq_getElem h2
   have sd:=flat_at StoreV.len sg
   have dn : s.stores.drop i = s.stores[i] :: s.stores.drop (i + 1):=List.drop_eq_getElem_cons h2
   have hv:=hf _ (List.getElem_mem h2)
   generalize s.stores[i] = v at *
   obtain ⟨r,q1,q2⟩:=ls_is H v hv τ hτ
   cases r with
   | true=>
     right
     rw [loop_eq (he:=rfl)]
     unfold ScrV.cs storesA StoreV.cs at *
     simp only [L_legatelaw31_Long_1,h,h2,hb,w2,p2,sl,sd,q1,EVC,EVD,EVB,Nat.reduceEqDiff,eqOp,eqA,eqNil,lenA,asNat,optNat,pt,tupleOf,Nat.reduceSub,Nat.reduceGT,Nat.reduceLT,hand,norms,normVs,normV,freeze,reduceIte,reduceCtorEq,srcCells,slCells,isStr,fillA,rep,asObj,outSl,Nat.reduceMul,Nat.reduceLeDiff,Int.reduceToNat,Int.reduceLE,Int.reduceLT,Int.reduceEq,Nat.reduceAdd,Int.reduceBNe,Int.reduceBEq,Int.reduceNeg]
   | false=>
     have hv' : v.few':= q2 rfl
     have hv3:=hv'.2.2.1
     have hm : v.files.length * 40050 ≤ 50000000:=by omega
     have h5 : n + v.files.length * 40050 ≤ 1000000000000:=by omega
     obtain ⟨n1,m1,m2⟩:=l0_loop (C:=C) s b τ hb i v sg hv' v.files.length 0 n (Nat.zero_add _) h5
     simp only [Int.cast_ofNat_Int,Int.natCast_zero] at m2
     rcases l1_loop H s hn hf b τ hτ hb k (i + 1) n1 (by omega) (by omega) with ⟨n',a1,a2,a3⟩ | a3
     ·refine .inl ⟨n',a1,fun y hy=>?_,?_⟩
      ·rw [dn] at hy
       rcases List.mem_cons.mp hy with rfl | hy
       ·exact hv'
       ·exact a2 y hy
      ·rw [loop_eq (he:=rfl)]
       generalize hk : loopK C (semF C) 72 [1,3,4] L_legatelaw31_Long_1 = q at *
       unfold ScrV.cs storesA StoreV.cs at *
       simp only [L_legatelaw31_Long_1,h,h2,hb,w2,p2,sl,sd,q1,m2,a3,EVC,EVD,EVB,Nat.reduceEqDiff,eqOp,eqA,eqNil,lenA,asNat,optNat,pt,tupleOf,Nat.reduceSub,Nat.reduceGT,Nat.reduceLT,hand,norms,normVs,normV,freeze,reduceIte,reduceCtorEq,srcCells,slCells,isStr,fillA,rep,asObj,outSl,Nat.reduceMul,Nat.reduceLeDiff,Int.reduceToNat,Int.reduceLE,Int.reduceLT,Int.reduceEq,Nat.reduceAdd,Int.reduceBNe,Int.reduceBEq,Int.reduceNeg]
     ·right
      rw [loop_eq (he:=rfl)]
      generalize hk : loopK C (semF C) 72 [1,3,4] L_legatelaw31_Long_1 = q at *
      unfold ScrV.cs storesA StoreV.cs at *
      simp only [L_legatelaw31_Long_1,h,h2,hb,w2,p2,sl,sd,q1,m2,a3,EVC,EVD,EVB,Nat.reduceEqDiff,eqOp,eqA,eqNil,lenA,asNat,optNat,pt,tupleOf,Nat.reduceSub,Nat.reduceGT,Nat.reduceLT,hand,norms,normVs,normV,freeze,reduceIte,reduceCtorEq,srcCells,slCells,isStr,fillA,rep,asObj,outSl,Nat.reduceMul,Nat.reduceLeDiff,Int.reduceToNat,Int.reduceLE,Int.reduceLT,Int.reduceEq,Nat.reduceAdd,Int.reduceBNe,Int.reduceBEq,Int.reduceNeg]
end Go.Ev
namespace Go.Ev
set_option maxRecDepth 100000
set_option linter.unusedSimpArgs false
set_option linter.unusedVariables false
variable {C : Ctx}
structure ScrV.okV (s : ScrV) : Prop where
 st : ∀ v ∈ s.stores,v.files.length ≤ 9223372036854775807
 now : isI s.now
 b1 : isI s.b1
 b2 : isI s.b2
 b3 : isI s.b3
 b4 : isI s.b4
set_option maxHeartbeats 2000000 in
theorem Long_is (H : LngHas C) (s : ScrV) (hs : s.okV) (σ : St) (hσ : Ok σ) : ∃ r : Bool,semF C f_legatelaw31_Long [.agg s.cs] σ = some (.bool r,σ) ∧ (r = false → s.few):=by
 rw [H.lg.go (NVs.hand (.cons (.agg s.nv) .nil) _) (by simp [K_legatelaw31_Long])]
 have ty:=fun b L=>st_tidy hσ (vs:=[.bool b]) rfl L
 by_cases c1 : (s.map.length : Int) > 12000
 ·refine ⟨true,?_,fun h=>by cases h⟩
  simp only [K_legatelaw31_Long,ScrV.cs,c1,ty,st_get0,EVC,EVD,EVB,Nat.reduceEqDiff,eqOp,eqA,eqNil,lenA,asNat,optNat,pt,tupleOf,Nat.reduceSub,Nat.reduceGT,Nat.reduceLT,hand,norms,normVs,normV,freeze,reduceIte,reduceCtorEq,srcCells,slCells,isStr,fillA,rep,asObj,outSl,Nat.reduceMul,Nat.reduceLeDiff,Int.reduceToNat,Int.reduceLE,Int.reduceLT,Int.reduceEq,Nat.reduceAdd,Int.reduceBNe,Int.reduceBEq,Int.reduceNeg]
 by_cases c2 : (s.stores.length : Int) > 10
 ·refine ⟨true,?_,fun h=>by cases h⟩
  simp only [K_legatelaw31_Long,ScrV.cs,storesA,c1,c2,ty,st_get0,EVC,EVD,EVB,Nat.reduceEqDiff,eqOp,eqA,eqNil,lenA,asNat,optNat,pt,tupleOf,Nat.reduceSub,Nat.reduceGT,Nat.reduceLT,hand,norms,normVs,normV,freeze,reduceIte,reduceCtorEq,srcCells,slCells,isStr,fillA,rep,asObj,outSl,Nat.reduceMul,Nat.reduceLeDiff,Int.reduceToNat,Int.reduceLE,Int.reduceLT,Int.reduceEq,Nat.reduceAdd,Int.reduceBNe,Int.reduceBEq,Int.reduceNeg]
 by_cases c3 : (s.paths.length : Int) > 70
 ·refine ⟨true,?_,fun h=>by cases h⟩
  simp only [K_legatelaw31_Long,ScrV.cs,storesA,strsA,c1,c2,c3,ty,st_get0,EVC,EVD,EVB,Nat.reduceEqDiff,eqOp,eqA,eqNil,lenA,asNat,optNat,pt,tupleOf,Nat.reduceSub,Nat.reduceGT,Nat.reduceLT,hand,norms,normVs,normV,freeze,reduceIte,reduceCtorEq,srcCells,slCells,isStr,fillA,rep,asObj,outSl,Nat.reduceMul,Nat.reduceLeDiff,Int.reduceToNat,Int.reduceLE,Int.reduceLT,Int.reduceEq,Nat.reduceAdd,Int.reduceBNe,Int.reduceBEq,Int.reduceNeg]
 have b0 : ([.cells s.cs ⟨false,none⟩] : St).all (AO.below 0) = true:=by
  simp only [List.all_cons,List.all_nil,Bool.and_true,AO.below,s.nv.cl]
 have o0 : Ok (σ ++ [.cells s.cs ⟨false,none⟩]):=hσ.plus b0
 have bx : (σ ++ [.cells s.cs ⟨false,none⟩] : St)[σ.length]? = some (.cells s.cs ⟨false,none⟩):=by rw [st_get0]; rfl
 obtain ⟨r1,v1,v2⟩:=lv_is H s.vers (σ ++ [.cells s.cs ⟨false,none⟩])
 cases r1 with
 | true=>
   refine ⟨true,?_,fun h=>by cases h⟩
   unfold ScrV.cs storesA strsA versA at *
   simp only [K_legatelaw31_Long,c1,c2,c3,v1,ty,st_get0,EVC,EVD,EVB,Nat.reduceEqDiff,eqOp,eqA,eqNil,lenA,asNat,optNat,pt,tupleOf,Nat.reduceSub,Nat.reduceGT,Nat.reduceLT,hand,norms,normVs,normV,freeze,reduceIte,reduceCtorEq,srcCells,slCells,isStr,fillA,rep,asObj,outSl,Nat.reduceMul,Nat.reduceLeDiff,Int.reduceToNat,Int.reduceLE,Int.reduceLT,Int.reduceEq,Nat.reduceAdd,Int.reduceBNe,Int.reduceBEq,Int.reduceNeg]
 | false=>
   obtain ⟨v3,v4⟩:=v2 rfl
   rcases l1_loop H s (by omega) hs.st σ.length _ o0 bx s.stores.length 0 0 (Nat.zero_add _) (by omega) with ⟨n',a1,a2,a3⟩ | a3
   ·rw [List.drop_zero] at a2
    simp only [Int.cast_ofNat_Int,Int.natCast_zero] at a3
    obtain ⟨r2,p1,p2⟩:=lp_is H s.paths (by omega) (σ ++ [.cells s.cs ⟨false,none⟩])
    by_cases c5 : (n' : Int) ≥ 60000
    ·refine ⟨true,?_,fun h=>by cases h⟩
     unfold ScrV.cs storesA strsA versA at *
     simp only [K_legatelaw31_Long,c1,c2,c3,v1,a3,c5,ty,st_get0,EVC,EVD,EVB,Nat.reduceEqDiff,eqOp,eqA,eqNil,lenA,asNat,optNat,pt,tupleOf,Nat.reduceSub,Nat.reduceGT,Nat.reduceLT,hand,norms,normVs,normV,freeze,reduceIte,reduceCtorEq,srcCells,slCells,isStr,fillA,rep,asObj,outSl,Nat.reduceMul,Nat.reduceLeDiff,Int.reduceToNat,Int.reduceLE,Int.reduceLT,Int.reduceEq,Nat.reduceAdd,Int.reduceBNe,Int.reduceBEq,Int.reduceNeg]
    ·refine ⟨r2,?_,fun h=>?_⟩
     ·unfold ScrV.cs storesA strsA versA at *
      simp only [K_legatelaw31_Long,c1,c2,c3,v1,a3,c5,p1,ty,st_get0,EVC,EVD,EVB,Nat.reduceEqDiff,eqOp,eqA,eqNil,lenA,asNat,optNat,pt,tupleOf,Nat.reduceSub,Nat.reduceGT,Nat.reduceLT,hand,norms,normVs,normV,freeze,reduceIte,reduceCtorEq,srcCells,slCells,isStr,fillA,rep,asObj,outSl,Nat.reduceMul,Nat.reduceLeDiff,Int.reduceToNat,Int.reduceLE,Int.reduceLT,Int.reduceEq,Nat.reduceAdd,Int.reduceBNe,Int.reduceBEq,Int.reduceNeg]
     ·have p3:=p2 h
      exact ⟨by omega,by omega,fun v hv=>by
       obtain ⟨e1,e2,e3,e4⟩:=a2 v hv
       exact ⟨by omega,by omega,e3,fun f hf=>by
        obtain ⟨g1,g2⟩:=e4 f hf
        exact ⟨by omega,by omega⟩⟩,hs.now,by omega,fun v hv=>by
       obtain ⟨e1,e2,e3⟩:=v4 v hv
       exact ⟨by omega,by omega,by omega⟩,hs.b1,hs.b2,hs.b3,hs.b4,by omega,fun p hp=>by
       have:=p3 p hp
       omega⟩
   ·refine ⟨true,?_,fun h=>by cases h⟩
    simp only [Int.cast_ofNat_Int,Int.natCast_zero] at a3
    unfold ScrV.cs storesA strsA versA at *
    simp only [K_legatelaw31_Long,c1,c2,c3,v1,a3,ty,st_get0,EVC,EVD,EVB,Nat.reduceEqDiff,eqOp,eqA,eqNil,lenA,asNat,optNat,pt,tupleOf,Nat.reduceSub,Nat.reduceGT,Nat.reduceLT,hand,norms,normVs,normV,freeze,reduceIte,reduceCtorEq,srcCells,slCells,isStr,fillA,rep,asObj,outSl,Nat.reduceMul,Nat.reduceLeDiff,Int.reduceToNat,Int.reduceLE,Int.reduceLT,Int.reduceEq,Nat.reduceAdd,Int.reduceBNe,Int.reduceBEq,Int.reduceNeg]
structure ShowsHas (C : Ctx) : Prop where
 sh : ShHas C
 rsh : RShHas C
 own : OwnHas C
 same : SameHas C
 lng : LngHas C
 awake : ∀ σ,Ok σ → semF C f_legatelaw32_awake [] σ = some (.bool true,σ)
 law : Has C f_legatelaw32_ScriptShows K_legatelaw32_ScriptShows
theorem law32_ScriptShows (H : ShowsHas C) (s : ScrV) (hs : s.okV) (σ : St) (hσ : Ok σ) : semF C f_legatelaw32_ScriptShows [.agg s.cs] σ = some (.bool true,σ):=by
 rw [H.law.go (NVs.hand (.cons (.agg s.nv) .nil) _) (by simp [K_legatelaw32_ScriptShows])]
 have ty:=fun b L=>st_tidy hσ (vs:=[.bool b]) rfl L
 have b0 : ([.cells s.cs ⟨false,none⟩] : St).all (AO.below 0) = true:=by
  simp only [List.all_cons,List.all_nil,Bool.and_true,AO.below,s.nv.cl]
 have o0 : Ok (σ ++ [.cells s.cs ⟨false,none⟩]):=hσ.plus b0
 have o1 : Ok (σ ++ [.cells s.cs ⟨false,none⟩,.cells s.cs ⟨false,none⟩]):=hσ.plus (by
  simp only [List.all_cons,List.all_nil,Bool.and_true,AO.below,s.nv.cl])
 have w0:=H.awake _ o0
 have w1:=H.awake _ o1
 obtain ⟨r,l1,l2⟩:=Long_is H.lng s hs _ o0
 cases r with
 | true=>
   unfold ScrV.cs storesA strsA versA at *
   simp only [K_legatelaw32_ScriptShows,l1,w0,ty,st_get0,splice,EVC,EVD,EVB,Nat.reduceEqDiff,eqOp,eqA,eqNil,lenA,asNat,optNat,pt,tupleOf,Nat.reduceSub,Nat.reduceGT,Nat.reduceLT,hand,norms,normVs,normV,freeze,reduceIte,reduceCtorEq,srcCells,slCells,isStr,fillA,rep,asObj,outSl,Nat.reduceMul,Nat.reduceLeDiff,Int.reduceToNat,Int.reduceLE,Int.reduceLT,Int.reduceEq,Nat.reduceAdd,Int.reduceBNe,Int.reduceBEq,Int.reduceNeg]
 | false=>
   have few:=l2 rfl
   have q1:=own_is H.own s few _ o0
   have q2:=script_Show_is H.sh s few _ o1
   have q3:=ref_Show_is H.rsh s few _ o1
   have q4:=Same_is H.same s few _ o1
   unfold showV at q2 q3
   by_cases d1 : 64 < s.paths.length
   ·rw [if_pos d1] at q2 q3
    unfold ScrV.cs storesA strsA versA at *
    simp only [K_legatelaw32_ScriptShows,l1,q1,q2,q3,q4,w1,ty,bs_eql,st_get0,splice,EVC,EVD,EVB,Nat.reduceEqDiff,eqOp,eqA,eqNil,lenA,asNat,optNat,pt,tupleOf,Nat.reduceSub,Nat.reduceGT,Nat.reduceLT,hand,norms,normVs,normV,freeze,reduceIte,reduceCtorEq,srcCells,slCells,isStr,fillA,rep,asObj,outSl,Nat.reduceMul,Nat.reduceLeDiff,Int.reduceToNat,Int.reduceLE,Int.reduceLT,Int.reduceEq,Nat.reduceAdd,Int.reduceBNe,Int.reduceBEq,Int.reduceNeg]
   ·rw [if_neg d1] at q2 q3
    by_cases d2 : 1048576 < s.tx.length
    ·rw [if_pos d2] at q2 q3
     unfold ScrV.cs storesA strsA versA at *
     simp only [K_legatelaw32_ScriptShows,l1,q1,q2,q3,q4,w1,ty,bs_eql,st_get0,splice,EVC,EVD,EVB,Nat.reduceEqDiff,eqOp,eqA,eqNil,lenA,asNat,optNat,pt,tupleOf,Nat.reduceSub,Nat.reduceGT,Nat.reduceLT,hand,norms,normVs,normV,freeze,reduceIte,reduceCtorEq,srcCells,slCells,isStr,fillA,rep,asObj,outSl,Nat.reduceMul,Nat.reduceLeDiff,Int.reduceToNat,Int.reduceLE,Int.reduceLT,Int.reduceEq,Nat.reduceAdd,Int.reduceBNe,Int.reduceBEq,Int.reduceNeg]
    ·rw [if_neg d2] at q2 q3
     generalize s.tx = T at *
     unfold ScrV.cs storesA strsA versA at *
     simp only [K_legatelaw32_ScriptShows,l1,q1,q2,q3,q4,w1,ty,bs_eql,st_get0,splice,EVC,EVD,EVB,Nat.reduceEqDiff,eqOp,eqA,eqNil,lenA,asNat,optNat,pt,tupleOf,Nat.reduceSub,Nat.reduceGT,Nat.reduceLT,hand,norms,normVs,normV,freeze,reduceIte,reduceCtorEq,srcCells,slCells,isStr,fillA,rep,asObj,outSl,Nat.reduceMul,Nat.reduceLeDiff,Int.reduceToNat,Int.reduceLE,Int.reduceLT,Int.reduceEq,Nat.reduceAdd,Int.reduceBNe,Int.reduceBEq,Int.reduceNeg]
end Go.Ev
