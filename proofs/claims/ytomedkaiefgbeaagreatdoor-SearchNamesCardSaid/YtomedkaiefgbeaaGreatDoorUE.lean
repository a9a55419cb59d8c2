/- Contracts of library functions over this translation. No conditions. -/
import Derived.Test.YtomedkaiefgbeaaGreatDoorUD
import Derived.Test.YtomedkaiefgbeaaGreatDoorEvC
import Derived.KernelRfl
import Derived.Test.YtomedkaiefgbeaaGreatDoorUC
set_option linter.unusedVariables false
set_option linter.unusedSimpArgs false
namespace Go.Proofs.YtomedkaiefgbeaaGreatDoor
open Go.RowKit Go.Shelf Go.Lib Go.Ev
set_option linter.unusedVariables false
set_option maxRecDepth 1000000
def i9d (c : Nat) (r : Option (AV × St)) : Bool:=
 match r with
 | some (.tup [.int .u64 (.ofNat 0),.int .u64 (.ofNat d)],[])=>Nat.beq d c
 | _=>false
theorem i5v {c : Nat} {r : Option (AV × St)} (h : i9d c r = true) : r = some (.tup [.int .u64 (0 : Nat),.int .u64 (c : Nat)],[]):=by
 unfold i9d at h
 split at h
 ·rename_i d
  have:=Nat.eq_of_beq_eq_true h
  subst this; rfl
 ·cases h
theorem j2x : (List.range 64).all (fun c=>i9d c (evF (b2u Tryz.prog (fun _=>none) (fun _=>false) (fun _=>none)) 100 207 [.int .u64 1,.int .u64 (Int.ofNat c)] [])) = true:=by kernel_rfl
theorem j6c : IsFn Tryz.prog 207:=⟨_,Tryz.func207,by decide,rfl⟩
theorem d8e : Tryz.prog.follows .mixedOrders = true:=by kernel_rfl
theorem bits_Mul (c : Nat) (hc : c < 64) (w : World) : Calls Tryz.prog 207 #[.int .u64 1,.int .u64 c] w fun e w'=>e = .returned (.tuple #[.int .u64 0,.int .u64 c]) ∧ Below w.heap.size w w':= by
 have h:=i5v (List.all_eq_true.mp j2x c (List.mem_range.mpr hc))
 exact h0s d8e j6c h w [.int .u64 1,.int .u64 c] _ (fun g=>.cons _ _ _ _ (.int _ _) (.cons _ _ _ _ (.int _ _) .nil)) (fun g v2 hv=>by
  cases hv with
  | tup l l' hs=>
    cases hs with
    | cons _ _ _ _ a b=>
      cases a
      cases b with
      | cons _ _ _ _ a b=>
        cases a; cases b; rfl)
set_option maxHeartbeats 4000000 in
theorem g9k (c : Nat) (w : World) (hc2 : 2 ≤ c) (hc : c < 64) :
  Calls Tryz.prog 141 #[.string ⟨#[0]⟩,.int .i64 c] w fun e w'=>e = .returned (.string ⟨(List.replicate c (0 : UInt8)).toArray⟩) ∧ Below w.heap.size w w':= by
 have hMul:=bits_Mul c hc w
 have k0 : ¬ ((c : Int) = 0):=by omega
 have k1 : ¬ ((c : Int) = 1):=by omega
 have k2 : ¬ ((c : Int) < 0):=by omega
 have k3 : ¬ ((c : Int) > 9223372036854775807):=by omega
 have k4 : ¬ ((c : Int) > 8192):=by omega
 have wu : IntKind.u64.wrap (c : Int) = c:=by unfold IntKind.wrap; simp [IntKind.signed,IntKind.bits]; omega
 have wi : IntKind.i64.wrap (c : Int) = c:=by rw [IntKind.wrap_i64]; omega
 go_enter Tryz.func141,Tryz.ntmps141
 go_wp2_with (refine hMul.mono ?_; rintro e W0 ⟨rfl,hb0⟩)
 have b0 : Below w.heap.size w (W0.alloc (.cells #[.pointer none,.slice none 0 0] 254)):=hb0.alloc hb0.size _
 refine (h6z W0.heap.size W0.heap.size c (W0.alloc (.cells #[.pointer none,.slice none 0 0] 254)) (Nat.le_refl _) (heap_alloc_new W0 _) ((Below.refl W0.heap.size W0).alloc (Nat.le_refl _) _).size (by omega)).mono ?_
 rintro e W1 ⟨rfl,h1,b1⟩
 have hB0:=hb0.size
 have hB1 : W0.heap.size ≤ W1.heap.size:=Nat.le_trans ((Below.refl W0.heap.size W0).alloc (Nat.le_refl _) _).size b1.size
 go_wp2_with (refine (d2d W0.heap.size W0.heap.size [] ⟨#[0]⟩ W1 (Lib.IsBuilderF.of (Or.inr h1)) (by simp [ByteArray.size]) hB1).mono ?_; rintro e W2 ⟨rfl,h2,b2⟩)
 have h2' : Lib.IsBuilderF 254 5 W0.heap.size W0.heap.size (Lib.byteCells (List.replicate 1 0)) W2:=Or.inr h2
 have b02 : Below w.heap.size w W2:=b0.trans ((b1.mono hB0).trans (b2.mono hB0))
 have hs2 : W0.heap.size ≤ W2.heap.size:=Nat.le_trans hB1 b2.size
 clear h2 h1 b0 b1 b2 hMul
 go_loopg [] (c - 1) (fun g wx=>∃ q : Nat,1 ≤ q ∧ q + g = c ∧ Lib.IsBuilderF 254 5 W0.heap.size W0.heap.size (Lib.byteCells (List.replicate q 0)) wx ∧ Below w.heap.size w wx ∧ W0.heap.size ≤ wx.heap.size)
 case atStart=>exact ⟨1,Nat.le_refl _,by omega,h2',b02,hs2⟩
 case round=>
  obtain ⟨q,hq1,hqg,hB,hbx,hsx⟩:=hrel
  have hlq : (Lib.byteCells (List.replicate q (0 : UInt8))).length = q:=by simp [Lib.byteCells]
  have cLen:=Any.Builder_Len_f Tryz.lays170 W0.heap.size W0.heap.size _ wr hB
  rw [hlq] at cLen
  have cStr:=Any.Builder_String_any_f Tryz.lays169 Tryz.Builder_Extra_169 W0.heap.size W0.heap.size (List.replicate q 0) wr hB hsx
  obtain ⟨S,hS⟩ : ∃ S : ByteArray,(⟨(List.replicate q (0 : UInt8)).toArray⟩ : ByteArray) = S:=⟨_,rfl⟩
  have hSz : S.size = q:=by rw [← hS]; simp [ByteArray.size]
  rw [hS] at cStr
  cases gk with
  | zero=>
    obtain rfl : q = c:=by omega
    have hQn : ¬ ((q : Int) < (q : Int)):=by omega
    go_wp2_with (first
     | (refine cLen.mono ?_; rintro e w' ⟨rfl,hw⟩; rw [hw])
     | (refine cStr.mono ?_; rintro e W3 ⟨rfl,h3,b3⟩))
    go_ret
    exact ⟨by rw [hS] <;> rfl,hbx.trans (b3.mono hB0)⟩
  | succ g=>
    have hQn : (q : Int) < (c : Int):=by omega
    obtain ⟨k,hk⟩ : ∃ k,k = min (c - q) q:=⟨_,rfl⟩
    have hk1 : 1 ≤ k:=by omega
    have hmin3 : ∀ (ts : Array TypeId) (t : TypeId) (W : World),(Builtin.min_ ts t #[.int .i64 ((c : Int) - (q : Int)),.int .i64 (q : Int),.int .i64 (c : Int)]).run Tryz.prog W = .ok (.int .i64 (k : Int)) W:=fun ts t W=>by
     rw [run_min_int3]
     congr 2
     omega
    have hkq : k ≤ q:=by omega
    have hkc : q + k ≤ c:=by omega
    clear hk
    go_wp2_with (first
     | (refine cLen.mono ?_; rintro e w' ⟨rfl,hw⟩; rw [hw])
     | (refine cStr.mono ?_; rintro e W3 ⟨rfl,h3,b3⟩))
    have hex : (S.extract 0 k) = ⟨(List.replicate k (0 : UInt8)).toArray⟩:=by
     rw [← hS]
     apply ByteArray.ext
     rw [ByteArray.data_extract]
     apply Array.ext'
     simp [Nat.min_eq_left hkq]
    have hexs : (S.extract 0 k).size = k:=by rw [hex]; simp [ByteArray.size]
    have cWr:=d2d W0.heap.size W0.heap.size _ (S.extract 0 k) W3 h3 (by rw [hlq,hexs]; omega) (Nat.le_trans hsx b3.size)
    go_wp2_with (go_fit cWr; rintro e W4 ⟨rfl,h4,b4⟩)
    go_roundg (c - (q + k))
    case measure=>omega
    case rel=>
     refine ⟨q + k,by omega,by omega,Or.inr ?_,hbx.trans ((b3.mono hB0).trans (b4.mono hB0)),Nat.le_trans hsx (Nat.le_trans b3.size b4.size)⟩
     rw [Lib.strCells_eq,← Lib.byteCells_append,hex] at h4
     rw [List.replicate_append_replicate.symm]
     exact h4
theorem h5u (c : Nat) (w : World) (hc : c < 64) :
  Calls Tryz.prog 141 #[.string ⟨#[0]⟩,.int .i64 c] w fun e w'=>e = .returned (.string ⟨(List.replicate c (0 : UInt8)).toArray⟩) ∧ Below w.heap.size w w':= by
 match c,hc with
 | 0,_=>
   go_enter Tryz.func141,Tryz.ntmps141
   go_wp2
   go_ret
   exact ⟨rfl,Below.refl _ _⟩
 | 1,_=>
   go_enter Tryz.func141,Tryz.ntmps141
   go_wp2
   go_ret
   exact ⟨rfl,Below.refl _ _⟩
 | c + 2,hc=>exact g9k (c + 2) w (by omega) hc
theorem i6p : IsFn Tryz.prog 141:=⟨_,Tryz.func141,by decide,rfl⟩
def c9e (args : List AV) (σ : St) : Option (AV × St):=
 match args with
 | [.str s,.int .i64 (.ofNat n)]=>match s with
   | [b]=>match Nat.beq b.toNat 0 with
     | true=>match Nat.blt n 64 with
       | true=>some (.str (List.replicate n 0),σ)
       | false=>none
     | false=>none
   | _=>none
 | _=>none
theorem g7g {C : Ctx} (hP : C.P = Tryz.prog) : POK C 141 c9e:=by
 intro args σ v σ' h g w args' ha hw hg
 unfold c9e at h
 split at h
 ·rename_i s n
  split at h
  ·rename_i b
   split at h
   ·rename_i hb
    have hb : b = 0:=UInt8.toNat_inj.mp (Nat.eq_of_beq_eq_true hb)
    subst hb
    split at h
    ·rename_i hn
     have hn : n < 64:=Nat.le_of_ble_eq_true hn
     simp only [Option.some.injEq,Prod.mk.injEq] at h
     obtain ⟨rfl,rfl⟩:=h
     cases ha with
     | cons _ v1 _ l1 x y=>
       cases y with
       | cons _ v2 _ l2 x2 y2=>
         cases y2
         cases x
         cases x2
         refine d5p (by rw [hP]; exact i6p) ?_
         rw [hP]
         exact (h5u n w hn).mono fun e w2 ⟨he2,hw2⟩=>⟨_,he2,g,d6e hw hw2,.str _⟩
    ·cases h
   ·cases h
  ·cases h
 ·cases h
end Go.Proofs.YtomedkaiefgbeaaGreatDoor
namespace Go.Proofs.YtomedkaiefgbeaaGreatDoor
open Go.Ev
set_option maxRecDepth 100000
theorem j1h : IsFn Tryz.prog 56:=⟨_,Tryz.func56,by decide,rfl⟩
theorem j1n : IsFn Tryz.prog 131:=⟨_,Tryz.func131,by decide,rfl⟩
theorem j3b : IsFn Tryz.prog 339:=⟨_,Tryz.func339,by decide,rfl⟩
variable {C : Ctx} (hP : C.P = Tryz.prog)
include hP
theorem i3i : POK C 56 (pStr (fun s=>.bool (lenU s).isSome)):=i1k (C:=C) (f:=56) (by rw [hP]; exact j1h) (fun s=>.bool (lenU s).isSome) (fun s=>.bool (lenU s).isSome)
 (fun g s=>.bool _) (fun s w hs=>by rw [hP]; exact e0q s w hs)
theorem i3o : POK C 131 (pStr (fun s=>.tup [.str (c4u s).1,.int .i64 (c4u s).2])):=i1k (C:=C) (f:=131) (by rw [hP]; exact j1n) (fun s=>.tup [.str (c4u s).1,.int .i64 (c4u s).2]) (fun s=>.tuple #[.string (str (c4u s).1),.int .i64 (c4u s).2])
 (fun g s=>.tup _ _ (.cons _ _ _ _ (.str _) (.cons _ _ _ _ (.int _ _) .nil))) (fun s w hs=>by rw [hP]; exact h7d s w hs)
theorem i9n : POK C 339 (g1v (fun s i=>.tup [.str (c6y s i).1,.int .i64 (c6y s i).2.1,.int .i64 (c6y s i).2.2])):=h5o (C:=C) (f:=339) (by rw [hP]; exact j3b) (fun s i=>.tup [.str (c6y s i).1,.int .i64 (c6y s i).2.1,.int .i64 (c6y s i).2.2]) (fun s i=>.tuple #[.string (str (c6y s i).1),.int .i64 (c6y s i).2.1,.int .i64 (c6y s i).2.2])
 (fun g s i=>.tup _ _ (.cons _ _ _ _ (.str _) (.cons _ _ _ _ (.int _ _) (.cons _ _ _ _ (.int _ _) .nil)))) (fun s i w hs=>by rw [hP]; exact i5g s i w hs)
end Go.Proofs.YtomedkaiefgbeaaGreatDoor
namespace Go.Proofs.YtomedkaiefgbeaaGreatDoor
open Go.Ev Go.RowKit Go.Shelf
set_option maxRecDepth 100000
set_option linter.unusedVariables false
theorem i7n : IsFn Tryz.prog 204:=⟨_,Tryz.func204,by decide,rfl⟩
theorem h4w : IsFn Tryz.prog 136:=⟨_,Tryz.func136,by decide,rfl⟩
def i9r (args : List AV) (σ : St) : Option (AV × St):=
 match args with
 | [.ref o 0]=>match σ[o]? with
   | some (.cells [.nilp,b] ⟨false,some (254,true)⟩)=>some (.undef,σ.set o (.cells [.ref o 0,b] ⟨false,some (254,true)⟩))
   | some (.cells (.ref p 0 :: l) fz)=>match Nat.beq o p with
     | true=>some (.undef,σ)
     | false=>none
   | _=>none
 | _=>none
theorem i9j {C : Ctx} (hP : C.P = Tryz.prog) : POK C 204 i9r:=by
 intro args σ v σ' h g w args' ha hw hg
 unfold i9r at h
 split at h
 ·rename_i o
  cases ha with
  | cons _ v1 _ l1 x y=>
    cases y
    cases x with
    | ref _ _ ho=>
      split at h
      ·rename_i b hb
       simp at h
       obtain ⟨rfl,rfl⟩:=h
       obtain ⟨c,e,fr,h1,h2,h3,h4,h5,h6⟩:=hw.obj o _ hb
       obtain ⟨he,hx⟩:=h5.2 _ _ rfl
       obtain ⟨u,hu,hr⟩:=h4 0 .nilp rfl
       cases hr
       have hc0 : w.cell? ⟨g.ob o,0,none⟩ = some (.pointer none):=by rw [cell_of_heap h1]; exact hu
       have hsz : c.size = 2:=hx rfl
       have hgo:=h9a (P:=C.P) hw hb (off:=0) (.ref o 0 ho) (by simp) rfl
       refine d5p (by rw [hP]; exact i7n) ?_
       rw [hP]
       exact (c0d (g.ob o) w hc0 (by simp [World.shape?,h1,hsz,he]) (by rw [World.frozen?,h1,h5.1]; rfl)).mono fun e w2 ⟨he2,hw2⟩=>⟨_,he2,g,by rw [hw2]; exact hgo,.tup _ _ .nil⟩
      ·rename_i p l fz hb
       split at h
       ·rename_i hop
        have hop:=Nat.eq_of_beq_eq_true hop
        subst hop
        simp at h
        obtain ⟨rfl,rfl⟩:=h
        obtain ⟨c,e,fr,h1,h2,h3,h4,h5,h6⟩:=hw.obj o _ hb
        obtain ⟨u,hu,hr⟩:=h4 0 (.ref o 0) rfl
        cases hr
        have hc0 : w.cell? ⟨g.ob o,0,none⟩ = some (.pointer (some ⟨g.ob o,0,none⟩)):=by rw [cell_of_heap h1]; exact hu
        refine d5p (by rw [hP]; exact i7n) ?_
        rw [hP]
        exact (d5a (g.ob o) w hc0).mono fun e w2 ⟨he2,hw2⟩=>⟨_,he2,g,by rw [← hw2]; exact .refl hw,.tup _ _ .nil⟩
       ·cases h
      ·cases h
 ·cases h
section
variable {P : Program} {ρ : Ren}
set_option maxHeartbeats 1000000 in
theorem g4k (L : Lays.n169 P ρ) (X : Builder.Extra P ρ) (b g cap : Nat) (p : Value) (cur : Array Value) (l : List UInt8) (w : World) (hbk : w.heap[b]? = some (.cells #[p,.slice (some ⟨g,0,none⟩) l.length cap] (ρ.t 72) (0,0))) (hg : w.heap[g]? = some (.cells cur (ρ.t 5) (0,0)))
  (h0 : l ≠ []) (hnc : l.length ≤ cap) (hcs : l.length ≤ cur.size) (hcm : l.length ≤ 1099511627776) (htake : ∀ (j : Nat) (x : UInt8),l[j]? = some x → cur[j]? = some (Value.int .u8 x.toNat)) :
  Calls P (ρ.f 169) #[.pointer (some ⟨b,0,none⟩)] w fun e w'=>e = .returned (.string ⟨l.toArray⟩) ∧ w' = w.drew.freeze ⟨g,0,none⟩ l.length:=by
 have hl0 : l.length ≠ 0:=by simpa using h0
 have c1 : w.drew.cell? ⟨b,1,none⟩ = some (.slice (some ⟨g,0,none⟩) l.length cap):=by
  have : w.drew.heap[b]? = some (.cells #[p,.slice (some ⟨g,0,none⟩) l.length cap] (ρ.t 72) (0,0)):=hbk
  rw [Lib.cell_of_heap this]; rfl
 have hSD : (Builtin.unsafeSliceData_ #[(ρ.t 37)] (ρ.t 127) #[.slice (some ⟨g,0,none⟩) l.length cap]).run P w.drew = .ok (.pointer (some ⟨g,0,none⟩)) w.drew:=
  Lib.run_unsafeSliceData_row _ _ _ _ _ _ (by omega)
 have hUS : (Builtin.unsafeString_ #[(ρ.t 127),(ρ.t 3)] (ρ.t 9) #[.pointer (some ⟨g,0,none⟩),.int .i64 l.length]).run P w.drew = .ok (.string ⟨l.toArray⟩) (w.drew.freeze ⟨g,0,none⟩ l.length):=by
  refine Lib.run_unsafeString_row w.drew (ρ.t 127) (ρ.t 3) (ρ.t 9) (ρ.t 5) L.t127 X.cellsByte g cur.size (by have hg' : w.drew.heap[g]? = some (.cells cur (ρ.t 5) (0,0)):=hg; simp [World.shape?,hg']) l h0 (by omega) (by omega) ?_
  intro j x hx
  have hg' : w.drew.heap[g]? = some (.cells cur (ρ.t 5) (0,0)):=hg
  have ha : (⟨g,0,none⟩ : Addr).add j = ⟨g,0 + j,none⟩:=by unfold Addr.add; split <;> simp_all
  rw [ha,Lib.cell_of_heap hg',Nat.zero_add]
  exact htake j x hx
 clear htake hcm hcs hnc
 have mixed:=L.mixed
 have t72:=L.t72; have a72:=L.a72; have z72:=L.z72; have v72:=L.v72; have u72:=run_underlying L.t72
 have t70:=L.t70; have a70:=L.a70; have z70:=L.z70; have v70:=L.v70; have u70:=run_underlying L.t70
 have t37:=L.t37; have a37:=L.a37; have z37:=L.z37; have v37:=L.v37; have u37:=run_underlying L.t37
 have t127:=L.t127; have a127:=L.a127; have z127:=L.z127; have v127:=L.v127; have u127:=run_underlying L.t127
 have t3:=L.t3; have a3:=L.a3; have z3:=L.z3; have v3:=L.v3; have u3:=run_underlying L.t3
 have t9:=L.t9; have a9:=L.a9; have z9:=L.z9; have v9:=L.v9; have u9:=run_underlying L.t9
 have t5:=X.t5; have a5:=X.a5; have z5:=X.z5; have v5:=X.v5; have u5:=run_underlying X.t5
 go_enter L.f169,Body.n169_ntmps ρ
 go_wp2
 go_region_o
 all_goals (go_wp2; go_ret; exact ⟨rfl,rfl⟩)
end
noncomputable def g9p (args : List AV) (σ : St) : Option (AV × St):=
 match args with
 | [.ref o 0]=>match σ[o]? with
   | some (.cells [p,.nils] ⟨false,some (254,true)⟩)=>some (.str [],σ)
   | some (.cells [p,.msl ob 0 n 1] ⟨false,some (254,true)⟩)=>match σ[ob]? with
     | some (.cells l ⟨false,some (5,x)⟩)=>match g5w l with
       | some (b :: s)=>match andR (Nat.beq (b :: s).length n) (Nat.ble (b :: s).length 1099511627776) with
         | true=>some (.str (b :: s),σ.set ob .dead)
         | false=>none
       | _=>none
     | _=>none
   | _=>none
 | _=>none
theorem h9k {C : Ctx} (hP : C.P = Tryz.prog) : POK C 136 g9p:=by
 intro args σ v σ' h g w args' ha hw hg
 unfold g9p at h
 split at h
 ·rename_i o
  cases ha with
  | cons _ v1 _ l1 x y=>
    cases y
    cases x with
    | ref _ _ ho=>
      split at h
      ·rename_i p hb
       simp at h
       obtain ⟨rfl,rfl⟩:=h
       obtain ⟨c,e,fr,h1,h2,h3,h4,h5,h6⟩:=hw.obj o _ hb
       obtain ⟨he,hx⟩:=h5.2 _ _ rfl
       have hfr:=h5.1
       obtain ⟨u0,hu0,hr0⟩:=h4 0 p rfl
       obtain ⟨u1,hu1,hr1⟩:=h4 1 .nils rfl
       cases hr1
       have hsz : c.size = 2:=hx rfl
       have hc : c = #[u0,.slice none 0 0]:=by
        apply Array.ext_getElem?
        intro i
        match i with
        | 0=>exact hu0
        | 1=>exact hu1
        | i + 2=>simp [hsz]
       subst hc he hfr
       refine d5p (by rw [hP]; exact h4w) ?_
       rw [hP]
       exact (Any.Builder_String_nil Tryz.lays169 Tryz.Builder_Extra_169 w.heap.size (g.ob o) u0 w h1).mono fun e w2 ⟨he2,hw2⟩=>⟨_,he2,g,d6e hw hw2,.str []⟩
      ·rename_i p ob n hb
       split at h
       ·rename_i l x hbl
        split at h
        ·rename_i b s hbx
         split at h
         ·rename_i hn
          rw [d0m,Bool.and_eq_true] at hn
          have hn1:=Nat.eq_of_beq_eq_true hn.1
          have hn2:=Nat.le_of_ble_eq_true hn.2
          simp only [Option.some.injEq,Prod.mk.injEq] at h
          obtain ⟨rfl,rfl⟩:=h
          obtain ⟨c,e,fr,h1,h2,h3,h4,h5,h6⟩:=hw.obj o _ hb
          obtain ⟨he,hx⟩:=h5.2 _ _ rfl
          have hfr:=h5.1
          obtain ⟨u0,hu0,hr0⟩:=h4 0 p rfl
          obtain ⟨u1,hu1,hr1⟩:=h4 1 (.msl ob 0 n 1) rfl
          cases hr1 with
          | msl _ _ _ _ cap hob hncap hcap=>
          have hsz : c.size = 2:=hx rfl
          have hc : c = #[u0,.slice (some ⟨g.ob ob,0,none⟩) n cap]:=by
           apply Array.ext_getElem?
           intro i
           match i with
           | 0=>exact hu0
           | 1=>exact hu1
           | i + 2=>simp [hsz]
          subst hc he hfr
          obtain ⟨c',e',fr',k1,k2,k3,k4,k5,k6⟩:=hw.obj ob _ hbl
          obtain ⟨he',hx'⟩:=k5.2 _ _ rfl
          have hfr':= k5.1
          subst he' hfr'
          obtain ⟨e1,e2⟩:=g0b hbx
          refine d5p (by rw [hP]; exact h4w) ?_
          rw [hP]
          rw [← hn1] at h1 hncap
          refine (g4k Tryz.lays169 Tryz.Builder_Extra_169 (g.ob o) (g.ob ob) cap u0 c' (b :: s) w h1 k1 (by simp) hncap (by omega) hn2 (fun j x hx=>?_)).mono fun e w2 ⟨he2,hw2⟩=>⟨_,he2,g,?_,.str (b :: s)⟩
          ·obtain ⟨v,hv,hr⟩:=k4 j _ (e2 j x hx)
           cases hr
           exact hv
          ·subst hw2
           obtain ⟨f1,f2,f3,f4,f5⟩:=h1o w.drew (g.ob ob) (b :: s).length
           exact i3f hw hbl f1 f2 f3 f4 f5
         ·cases h
        ·cases h
       ·cases h
      ·cases h
 ·cases h
end Go.Proofs.YtomedkaiefgbeaaGreatDoor
