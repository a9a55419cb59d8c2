/- Contracts of library functions over this translation. No conditions. -/
import Derived.Test.YtomedkaiefgbeaaGreatDoorUB
set_option linter.unusedVariables false
set_option linter.unusedSimpArgs false
namespace Go.Proofs.YtomedkaiefgbeaaGreatDoor
set_option linter.unusedVariables false
def hexV (c : Nat) : Option Nat:=if 48 ≤ c ∧ c ≤ 57 then some (c - 48) else if 97 ≤ c ∧ c ≤ 102 then some (c - 87) else none
def digV (c : Nat) : Option Nat:=if 65 ≤ c ∧ c ≤ 70 then some (c - 55) else hexV c
theorem j1b (c d : Nat) (h : hexV c = some d) : d < 16:=by
 unfold hexV at h
 split at h
 ·cases h; omega
 ·split at h
  ·cases h; omega
  ·cases h
theorem e0s (c d : Nat) (h : digV c = some d) : d < 16:=by
 unfold digV at h
 split at h
 ·cases h; omega
 ·exact j1b c d h
def a8v : Nat → Nat → List UInt8 → Nat × Nat
 | 0,n,_=>(n,0)
 | _ + 1,_,[]=>(0,4)
 | k + 1,n,c :: t=>match digV c.toNat with
   | none=>(0,3)
   | some d=>a8v k (n * 16 + d) t
def b3d (l : List UInt8) : Nat × Nat:=a8v 4 0 l
theorem i1m (k n : Nat) (l : List UInt8) : (a8v k n l).1 < (n + 1) * 16 ^ k:=by
 induction k generalizing n l with
 | zero=>simp [a8v]
 | succ k ih=>
   match l with
   | []=>simp only [a8v]; exact Nat.mul_pos (by omega) (Nat.pow_pos (by omega))
   | c :: t=>
     simp only [a8v]
     split
     ·exact Nat.mul_pos (by omega) (Nat.pow_pos (by omega))
     ·rename_i d hd
      have hd:=e0s _ _ hd
      have:=ih (n * 16 + d) t
      have h2 : (n * 16 + d + 1) * 16 ^ k ≤ (n + 1) * 16 * 16 ^ k:=Nat.mul_le_mul_right _ (by omega)
      rw [Nat.pow_succ,Nat.mul_comm (16 ^ k) 16,← Nat.mul_assoc]
      omega
theorem h2i (l : List UInt8) : (b3d l).1 < 65536:=by have:=i1m 4 0 l; unfold b3d; omega
def b3n (l : List UInt8) : Nat × Nat × Nat:=
 if (b3d l).2 ≠ 0 then (0,0,(b3d l).2)
 else if (b3d l).1 < 55296 ∨ 57343 < (b3d l).1 then ((b3d l).1,4,0)
 else if 56320 ≤ (b3d l).1 then (0,0,12)
 else match l.drop 4 with
  | []=>(0,0,4)
  | c :: t=>if c.toNat ≠ 92 then (0,0,12) else match t with
    | []=>(0,0,4)
    | d :: u=>if d.toNat ≠ 117 then (0,0,12)
      else if (b3d u).2 ≠ 0 then (0,0,(b3d u).2)
      else if (b3d u).1 < 56320 ∨ 57343 < (b3d u).1 then (0,0,12)
      else (65536 + ((b3d l).1 - 55296) * 1024 + ((b3d u).1 - 56320),10,0)
def escV (c : Nat) : Option Nat:=
 if c = 34 ∨ c = 92 ∨ c = 47 then some c else if c = 98 then some 8 else if c = 102 then some 12 else if c = 110 then some 10 else if c = 114 then some 13 else if c = 116 then some 9 else none
def plus (k : Nat) (x : Nat × Nat × Nat) : Nat × Nat × Nat:=if x.2.2 = 0 then (x.1,x.2.1 + k,0) else x
def b9j : List UInt8 → Nat × Nat × Nat
 | []=>(0,0,4)
 | c :: t=>if c.toNat < 32 then (0,0,3) else if c.toNat ≠ 92 then nx (c :: t) else match t with
   | []=>(0,0,4)
   | d :: u=>match escV d.toNat with
     | some v=>(v,2,0)
     | none=>if d.toNat = 117 then plus 2 (b3n u) else (0,0,3)
def rdGo : Nat → List UInt8 → Nat → List UInt8 → List UInt8 × Nat × Nat
 | 0,_,_,_=>([],0,4)
 | _ + 1,[],_,_=>([],0,4)
 | f + 1,c :: t,n,out=>if c.toNat = 34 then (out,n + 1,0)
   else if (b9j (c :: t)).2.2 ≠ 0 then ([],0,(b9j (c :: t)).2.2)
   else if 4096 < out.length + (enc (b9j (c :: t)).1).length then ([],0,5)
   else rdGo f ((c :: t).drop (b9j (c :: t)).2.1) (n + (b9j (c :: t)).2.1) (out ++ enc (b9j (c :: t)).1)
def g8s : List UInt8 → List UInt8 × Nat × Nat
 | []=>([],0,4)
 | c :: t=>if c.toNat ≠ 34 then ([],0,3) else rdGo (t.length + 1) t 1 []
inductive g1g (l : List UInt8) : Prop
 | err (e : Nat) : e ≠ 0 → b9j l = (0,0,e) → g1g l
 | ok (r n : Nat) : Utf8.valid r = true → 1 ≤ n → n ≤ l.length → b9j l = (r,n,0) → g1g l
theorem e9k (k n : Nat) (l : List UInt8) (h : (a8v k n l).2 = 0) : k ≤ l.length:=by
 induction k generalizing n l with
 | zero=>omega
 | succ k ih=>
   match l with
   | []=>simp [a8v] at h
   | c :: t=>
     simp only [a8v] at h
     split at h
     ·simp at h
     ·have:=ih _ _ h; simp; omega
inductive e5h (l : List UInt8) : Prop
 | err (e : Nat) : e ≠ 0 → b3n l = (0,0,e) → e5h l
 | ok (r n : Nat) : Utf8.valid r = true → 1 ≤ n → n ≤ l.length → b3n l = (r,n,0) → e5h l
theorem h7v (l : List UInt8) : e5h l:=by
 obtain ⟨a,e,hF⟩ : ∃ a e,b3d l = (a,e):=⟨_,_,rfl⟩
 have hlt:=h2i l
 rw [hF] at hlt
 simp only at hlt
 have hx : b3n l = b3n l:=rfl
 conv at hx=>rhs; unfold b3n
 rw [hF] at hx
 simp only at hx
 by_cases he : e ≠ 0
 ·rw [if_pos he] at hx
  exact .err e he hx
 rw [if_neg he] at hx
 have h4 : 4 ≤ l.length:=e9k 4 0 l (by
  have : (b3d l).2 = 0:=by rw [hF]; simp only; omega
  exact this)
 by_cases ha : a < 55296 ∨ 57343 < a
 ·rw [if_pos ha] at hx
  exact .ok a 4 ((a3v a).2 (by omega)) (by omega) h4 hx
 rw [if_neg ha] at hx
 by_cases ha2 : 56320 ≤ a
 ·rw [if_pos ha2] at hx
  exact .err 12 (by omega) hx
 rw [if_neg ha2] at hx
 match hd : l.drop 4 with
 | []=>rw [hd] at hx; exact .err 4 (by omega) hx
 | c :: t=>
   rw [hd] at hx
   simp only at hx
   by_cases hc : c.toNat ≠ 92
   ·rw [if_pos hc] at hx; exact .err 12 (by omega) hx
   rw [if_neg hc] at hx
   match t with
   | []=>exact .err 4 (by omega) hx
   | d :: u=>
     simp only at hx
     by_cases hd2 : d.toNat ≠ 117
     ·rw [if_pos hd2] at hx; exact .err 12 (by omega) hx
     rw [if_neg hd2] at hx
     obtain ⟨b,f,hG⟩ : ∃ b f,b3d u = (b,f):=⟨_,_,rfl⟩
     rw [hG] at hx
     simp only at hx
     by_cases hf : f ≠ 0
     ·rw [if_pos hf] at hx; exact .err f hf hx
     rw [if_neg hf] at hx
     by_cases hb : b < 56320 ∨ 57343 < b
     ·rw [if_pos hb] at hx; exact .err 12 (by omega) hx
     rw [if_neg hb] at hx
     have h6 : 4 ≤ u.length:=e9k 4 0 u (by
      have : (b3d u).2 = 0:=by rw [hG]; simp only; omega
      exact this)
     have hlen:=congrArg List.length hd
     simp at hlen
     exact .ok _ 10 ((a3v _).2 (by omega)) (by omega) (by omega) hx
theorem h6f (c v : Nat) (h : escV c = some v) (hc : c < 256) : Utf8.valid (v : Int) = true:=by
 rw [a3v]
 unfold escV at h
 split at h
 ·cases h; omega
 ·split at h
  ·cases h; omega
  ·split at h
   ·cases h; omega
   ·split at h
    ·cases h; omega
    ·split at h
     ·cases h; omega
     ·split at h
      ·cases h; omega
      ·cases h
theorem i4g (l : List UInt8) : g1g l:=by
 match l with
 | []=>exact .err 4 (by omega) rfl
 | c :: t=>
   by_cases h1 : c.toNat < 32
   ·exact .err 3 (by omega) (by simp only [b9j]; rw [if_pos h1])
   by_cases h2 : c.toNat ≠ 92
   ·have hx : b9j (c :: t) = nx (c :: t):=by simp only [b9j]; rw [if_neg h1,if_pos h2]
    cases h3z (c :: t) with
    | short h _=>cases h
    | bad h=>exact .err 12 (by omega) (hx.trans h)
    | cut h _ _=>exact .err 4 (by omega) (hx.trans h)
    | rune r u hv hl h=>
      have:=congrArg List.length hl
      simp only [List.length_append] at this
      exact .ok r _ hv (d6n r hv).1 (by omega) (hx.trans h)
   have hx : ∀ t,b9j (c :: t) = match t with
     | []=>(0,0,4)
     | d :: u=>match escV d.toNat with
       | some v=>(v,2,0)
       | none=>if d.toNat = 117 then plus 2 (b3n u) else (0,0,3):=fun t=>by
    simp only [b9j]; rw [if_neg h1,if_neg h2]
   match t with
   | []=>exact .err 4 (by omega) (hx [])
   | d :: u=>
     cases hv : escV d.toNat with
     | some v=>exact .ok v 2 (h6f _ _ hv d.toNat_lt) (by omega) (by simp) (by rw [hx]; simp only [hv])
     | none=>
       by_cases h3 : d.toNat = 117
       ·have hy : b9j (c :: d :: u) = plus 2 (b3n u):=by rw [hx]; simp only [hv]; rw [if_pos h3]
        cases h7v u with
        | err e he h=>exact .err e he (by rw [hy,h,plus,if_neg he])
        | ok r n hv' hn1 hn2 h=>exact .ok r (n + 2) hv' (by omega) (by simp; omega) (by rw [hy,h,plus,if_pos rfl])
       ·exact .err 3 (by omega) (by rw [hx]; simp only [hv]; rw [if_neg h3])
end Go.Proofs.YtomedkaiefgbeaaGreatDoor
namespace Go.Proofs.YtomedkaiefgbeaaGreatDoor
open Go.RowKit
set_option linter.unusedVariables false
set_option maxRecDepth 100000
theorem h0w (s : ByteArray) (i : Nat) (w : World) (hs : s.size ≤ 1099511627776) (h : i < s.size) (d : Nat) (b : Bool) (hd : Bx ((hexV s[i].toNat).getD 0 = d ∧ (hexV s[i].toNat).isSome = b)) :
  Calls Tryz.prog 152 #[.string s,.int .i64 i] w fun e w'=>e = .returned (.tuple #[.int .i64 d,.bool b]) ∧ w = w':= by
 have hc:=s[i].toNat_lt
 obtain ⟨h1,h2⟩:=hd.out
 clear hd
 by_cases g1 : 48 ≤ s[i].toNat ∧ s[i].toNat ≤ 57
 ·unfold hexV at h1 h2
  rw [if_pos g1] at h1 h2
  simp at h1 h2
  obtain ⟨g1,g2⟩:=g1
  have hd2 : ((s[i].toNat : Int) - 48) = d:=by omega
  have H:=Lib.hid hd2
  subst h2
  clear h1 hd2
  go_enter Tryz.func152,Tryz.ntmps152
  go_wp2_with fail
  go_ret2
  rw [H.out]
  exact ⟨rfl,rfl⟩
 ·by_cases g2 : 97 ≤ s[i].toNat ∧ s[i].toNat ≤ 102
  ·unfold hexV at h1 h2
   rw [if_neg g1,if_pos g2] at h1 h2
   simp at h1 h2
   obtain ⟨g2,g3⟩:=g2
   have hd2 : ((s[i].toNat : Int) - 97 + 10) = d:=by omega
   have H:=Lib.hid hd2
   subst h2
   clear h1 hd2
   have g1' : ¬ s[i].toNat ≤ 57:=by omega
   clear g1
   go_enter Tryz.func152,Tryz.ntmps152
   go_wp2_with fail
   go_ret2
   rw [H.out]
   exact ⟨rfl,rfl⟩
  ·unfold hexV at h1 h2
   rw [if_neg g1,if_neg g2] at h1 h2
   simp at h1 h2
   subst h1 h2
   go_enter Tryz.func152,Tryz.ntmps152
   go_wp2_with fail
   all_goals
    go_ret2
    exact ⟨rfl,rfl⟩
theorem b7v (s : ByteArray) (i : Nat) (w : World) (hs : s.size ≤ 1099511627776) (h : i < s.size) (d : Nat) (b : Bool) (hd : Bx ((digV s[i].toNat).getD 0 = d ∧ (digV s[i].toNat).isSome = b)) :
  Calls Tryz.prog 381 #[.string s,.int .i64 i] w fun e w'=>e = .returned (.tuple #[.int .i64 d,.bool b]) ∧ w = w':= by
 have hc:=s[i].toNat_lt
 obtain ⟨h1,h2⟩:=hd.out
 clear hd
 unfold digV at h1 h2
 by_cases g1 : 65 ≤ s[i].toNat ∧ s[i].toNat ≤ 70
 ·rw [if_pos g1] at h1 h2
  simp at h1 h2
  obtain ⟨g1,g2⟩:=g1
  have hd2 : ((s[i].toNat : Int) - 65 + 10) = d:=by omega
  have H:=Lib.hid hd2
  subst h2
  clear h1 hd2
  go_enter Tryz.func381,Tryz.ntmps381
  go_wp2_with fail
  go_ret2
  rw [H.out]
  exact ⟨rfl,rfl⟩
 ·rw [if_neg g1] at h1 h2
  have H : Bx ((hexV s[i].toNat).getD 0 = d ∧ (hexV s[i].toNat).isSome = b):=⟨⟨h1,h2⟩⟩
  clear h1 h2
  have g2 : s[i].toNat < 65 ∨ (65 ≤ s[i].toNat ∧ 70 < s[i].toNat):=by omega
  clear g1
  rcases g2 with g2 | ⟨g2,g3⟩
  all_goals
   go_enter Tryz.func381,Tryz.ntmps381
   go_wp2_with fail
   refine (h0w s i _ hs h d b H).mono ?_
   rintro e w' ⟨rfl,rfl⟩
   go_wp2_with fail
   go_ret2
   exact ⟨rfl,rfl⟩
theorem i1a (x y : Int) (hx₀ : 0 ≤ x) (hx : x % 16 = 0) (hx₁ : x < 4611686018427387904) (h₀ : 0 ≤ y) (h₁ : y < 16) : bits .or .i64 x y = x + y:=
 bits_join .i64 62 (by decide) (fun n h0 h1=>by rw [IntKind.wrap_i64]; omega) 4 x y hx₀ hx hx₁ h₀ h₁ (by omega)
def numL (ds : List Nat) : Nat:=ds.foldl (fun n d=>n * 16 + d) 0
theorem i1l (ds : List Nat) (d : Nat) : numL (ds ++ [d]) = numL ds * 16 + d:=by simp [numL]
theorem i2x (ds : List Nat) (h : ∀ d ∈ ds,d < 16) (k : Nat) (hk : k ≤ 4) : numL (ds.take k) < 65536:=by
 have key : ∀ (l : List Nat),(∀ d ∈ l,d < 16) → ∀ n,(l.foldl (fun n d=>n * 16 + d) n) < (n + 1) * 16 ^ l.length:=by
  intro l
  induction l with
  | nil=>intro _ n; simp
  | cons a t ih=>
    intro hl n
    have:=ih (fun d hd=>hl d (by simp [hd])) (n * 16 + a)
    have ha:=hl a (by simp)
    have h2 : (n * 16 + a + 1) * 16 ^ t.length ≤ (n + 1) * 16 * 16 ^ t.length:=Nat.mul_le_mul_right _ (by omega)
    simp only [List.foldl_cons,List.length_cons]
    rw [Nat.pow_succ,Nat.mul_comm (16 ^ t.length) 16,← Nat.mul_assoc]
    omega
 have h1:=key (ds.take k) (fun d hd=>h d (List.mem_of_mem_take hd)) 0
 have h2 : (ds.take k).length ≤ 4:=by simp; omega
 have h3 : 16 ^ (ds.take k).length ≤ 16 ^ 4:=Nat.pow_le_pow_right (by omega) h2
 unfold numL; omega
theorem j0u (ds : List Nat) (hl : ds.length = 4) (hd : ∀ d ∈ ds,d < 16) (b : Nat) (w : World) (hcell : ∀ k,k < 4 → w.cell? ⟨b,k,none⟩ = some (.int .i64 (ds.getD k 0 : Nat))) :
  Calls Tryz.prog 382 #[.slice (some ⟨b,0,none⟩) 4 4] w fun e w'=>e = .returned (.int .i64 (numL ds)) ∧ w = w':= by
 have HC:=Bx.mk hcell
 have HD:=Bx.mk hd
 have HL:=Bx.mk hl
 clear hcell hd hl
 go_enter Tryz.func382,Tryz.ntmps382
 go_wp2_with fail
 go_loop [3,8] (fun n i=>∃ k : Nat,k ≤ 4 ∧ i = .int .i64 k ∧ n = .int .i64 (numL (ds.take k))) (fun _ i=>4 - (intOf i).toNat)
 case atStart=>exact ⟨0,by omega,rfl,rfl⟩
 case round=>
  obtain ⟨k,hk,rfl,rfl⟩:=hrel
  have hn:=i2x ds HD.out k hk
  by_cases hlt : k < 4
  ·have hc:=HC.out k hlt
   have hlen:=HL.out
   have hg : ds.getD k 0 = ds[k]'(by omega):=by simp [List.getD_eq_getElem?_getD,hlen,hlt]
   have hdk : ds.getD k 0 < 16:=by rw [hg]; exact HD.out _ (List.getElem_mem _)
   have HN : Bx (numL (ds.take (k + 1)) = numL (ds.take k) * 16 + ds.getD k 0):=⟨by
    rw [List.take_succ_eq_append_getElem (by omega),i1l,hg]⟩
   clear hlen hg
   generalize numL (ds.take k) = n at *
   generalize ds.getD k 0 = d at *
   go_wp2_with fail
   go_round
   case rel=>exact ⟨k + 1,by omega,by go_num,by rw [HN.out,i1a _ _ (by omega) (by omega) (by omega) (by omega) (by omega)]; go_num⟩
   case measure=>simp [intOf]; omega
  ·have HE : Bx (numL (ds.take k) = numL ds):=⟨by rw [List.take_of_length_le (by have:=HL.out; omega)]⟩
   go_wp2_with fail
   go_ret
   rw [HE.out]
   exact ⟨rfl,rfl⟩
end Go.Proofs.YtomedkaiefgbeaaGreatDoor
namespace Go.Proofs.YtomedkaiefgbeaaGreatDoor
open Go.RowKit
set_option linter.unusedVariables false
set_option maxRecDepth 100000
theorem g8w (w : World) (o : Obj) (C : Array Value) (t : TypeId) (j : Nat) : ((w.alloc o).alloc (.cells C t)).cell? ⟨w.heap.size + 1,j,none⟩ = C[j]?:= by
 have e : (w.alloc o).heap.size = w.heap.size + 1:=by simp
 rw [← e,World.cell?_alloc_mark]
def j0a (s : ByteArray) (i : Nat) (w : World) (R : Nat × Nat) (a b kv : Value) (w' : World) : Prop:=
 ∃ (k x0 x1 x2 x3 : Nat),k ≤ 4 ∧ a = .int .i64 0 ∧ b = .int .i64 0 ∧ kv = .int .i64 k ∧ x0 < 16 ∧ x1 < 16 ∧ x2 < 16 ∧ x3 < 16 ∧
   w' = w.alloc (.cells #[.int .i64 x0,.int .i64 x1,.int .i64 x2,.int .i64 x3] 507) ∧ a8v (4 - k) (numL ([x0,x1,x2,x3].take k)) (s.data.toList.drop (i + k)) = R
theorem j1c (s : ByteArray) (i : Nat) (w : World) (hs : s.size ≤ 1099511627776) (hi : i ≤ s.size) (R : Nat × Nat) (hR : Hid (b3d (s.data.toList.drop i) = R)) :
  Calls Tryz.prog 380 #[.string s,.int .i64 i] w fun e w'=>e = .returned (.tuple #[.int .i64 R.1,.int .i64 R.2]) ∧ Below w.heap.size w w':= by
 go_enter Tryz.func380,Tryz.ntmps380
 go_wp2_with fail
 go_loopw [4,5,10] (fun a b k w'=>j0a s i w R a b k w') (fun _ _ k _=>4 - (intOf k).toNat)
 case atStart=>exact ⟨0,0,0,0,0,by omega,rfl,rfl,rfl,by omega,by omega,by omega,by omega,rfl,hR.out⟩
 case round=>
  clear hR
  obtain ⟨k,x0,x1,x2,x3,hk,rfl,rfl,rfl,h0,h1,h2,h3,rfl,hG⟩:=hrel
  obtain rfl | rfl | rfl | rfl | rfl : k = 0 ∨ k = 1 ∨ k = 2 ∨ k = 3 ∨ k = 4:=by omega
  ·simp only [Nat.reduceSub,Nat.add_zero,List.take_zero] at hG
   by_cases hlt : i < s.size
   ·rw [drop_cons s (i) hlt] at hG
    cases hd : digV s[i].toNat with
    | none=>
      have hf : Hid ((0,3) = R):=by
       show _ = _
       rw [← hG]; simp only [a8v,hd]
      have HD : Bx ((digV s[i].toNat).getD 0 = 0 ∧ (digV s[i].toNat).isSome = false):=⟨by rw [hd]; exact ⟨rfl,rfl⟩⟩
      clear hG hd
      go_wp2_with fail
      refine (b7v s (i) _ hs hlt 0 false HD).mono ?_
      rintro e w' ⟨rfl,rfl⟩
      go_wp2_with fail
      go_ret2
      rw [← hf.out]
      exact ⟨rfl,(Below.refl _ _).alloc (Nat.le_refl _) _⟩
    | some d=>
      have hd16:=e0s _ _ hd
      have HD : Bx ((digV s[i].toNat).getD 0 = d ∧ (digV s[i].toNat).isSome = true):=⟨by rw [hd]; exact ⟨rfl,rfl⟩⟩
      simp only [a8v,hd] at hG
      have HG:=Lib.hid hG
      clear hG hd
      go_wp2_with fail
      refine (b7v s (i) _ hs hlt d true HD).mono ?_
      rintro e w' ⟨rfl,rfl⟩
      go_wp2_with fail
      go_roundw
      case rel=>exact ⟨1,d,x1,x2,x3,by omega,rfl,rfl,by go_num,hd16,h1,h2,h3,rfl,HG.out⟩
      case measure=>simp [intOf]
   ·rw [drop_end s (i) (by omega)] at hG
    have hf : Hid ((0,4) = R):=hG
    clear hG
    go_wp2_with fail
    go_ret2
    rw [← hf.out]
    exact ⟨rfl,(Below.refl _ _).alloc (Nat.le_refl _) _⟩
  ·simp only [Nat.reduceSub,List.take_succ_cons,List.take_zero] at hG
   by_cases hlt : i + 1 < s.size
   ·rw [drop_cons s (i + 1) hlt] at hG
    cases hd : digV s[i + 1].toNat with
    | none=>
      have hf : Hid ((0,3) = R):=by
       show _ = _
       rw [← hG]; simp only [a8v,hd]
      have HD : Bx ((digV s[i + 1].toNat).getD 0 = 0 ∧ (digV s[i + 1].toNat).isSome = false):=⟨by rw [hd]; exact ⟨rfl,rfl⟩⟩
      clear hG hd
      go_wp2_with fail
      refine (b7v s (i + 1) _ hs hlt 0 false HD).mono ?_
      rintro e w' ⟨rfl,rfl⟩
      go_wp2_with fail
      go_ret2
      rw [← hf.out]
      exact ⟨rfl,(Below.refl _ _).alloc (Nat.le_refl _) _⟩
    | some d=>
      have hd16:=e0s _ _ hd
      have HD : Bx ((digV s[i + 1].toNat).getD 0 = d ∧ (digV s[i + 1].toNat).isSome = true):=⟨by rw [hd]; exact ⟨rfl,rfl⟩⟩
      simp only [a8v,hd] at hG
      have HG:=Lib.hid hG
      clear hG hd
      go_wp2_with fail
      refine (b7v s (i + 1) _ hs hlt d true HD).mono ?_
      rintro e w' ⟨rfl,rfl⟩
      go_wp2_with fail
      go_roundw
      case rel=>exact ⟨2,x0,d,x2,x3,by omega,rfl,rfl,by go_num,h0,hd16,h2,h3,rfl,HG.out⟩
      case measure=>simp [intOf]
   ·rw [drop_end s (i + 1) (by omega)] at hG
    have hf : Hid ((0,4) = R):=hG
    clear hG
    go_wp2_with fail
    go_ret2
    rw [← hf.out]
    exact ⟨rfl,(Below.refl _ _).alloc (Nat.le_refl _) _⟩
  ·simp only [Nat.reduceSub,List.take_succ_cons,List.take_zero] at hG
   by_cases hlt : i + 2 < s.size
   ·rw [drop_cons s (i + 2) hlt] at hG
    cases hd : digV s[i + 2].toNat with
    | none=>
      have hf : Hid ((0,3) = R):=by
       show _ = _
       rw [← hG]; simp only [a8v,hd]
      have HD : Bx ((digV s[i + 2].toNat).getD 0 = 0 ∧ (digV s[i + 2].toNat).isSome = false):=⟨by rw [hd]; exact ⟨rfl,rfl⟩⟩
      clear hG hd
      go_wp2_with fail
      refine (b7v s (i + 2) _ hs hlt 0 false HD).mono ?_
      rintro e w' ⟨rfl,rfl⟩
      go_wp2_with fail
      go_ret2
      rw [← hf.out]
      exact ⟨rfl,(Below.refl _ _).alloc (Nat.le_refl _) _⟩
    | some d=>
      have hd16:=e0s _ _ hd
      have HD : Bx ((digV s[i + 2].toNat).getD 0 = d ∧ (digV s[i + 2].toNat).isSome = true):=⟨by rw [hd]; exact ⟨rfl,rfl⟩⟩
      simp only [a8v,hd] at hG
      have HG:=Lib.hid hG
      clear hG hd
      go_wp2_with fail
      refine (b7v s (i + 2) _ hs hlt d true HD).mono ?_
      rintro e w' ⟨rfl,rfl⟩
      go_wp2_with fail
      go_roundw
      case rel=>exact ⟨3,x0,x1,d,x3,by omega,rfl,rfl,by go_num,h0,h1,hd16,h3,rfl,HG.out⟩
      case measure=>simp [intOf]
   ·rw [drop_end s (i + 2) (by omega)] at hG
    have hf : Hid ((0,4) = R):=hG
    clear hG
    go_wp2_with fail
    go_ret2
    rw [← hf.out]
    exact ⟨rfl,(Below.refl _ _).alloc (Nat.le_refl _) _⟩
  ·simp only [Nat.reduceSub,List.take_succ_cons,List.take_zero] at hG
   by_cases hlt : i + 3 < s.size
   ·rw [drop_cons s (i + 3) hlt] at hG
    cases hd : digV s[i + 3].toNat with
    | none=>
      have hf : Hid ((0,3) = R):=by
       show _ = _
       rw [← hG]; simp only [a8v,hd]
      have HD : Bx ((digV s[i + 3].toNat).getD 0 = 0 ∧ (digV s[i + 3].toNat).isSome = false):=⟨by rw [hd]; exact ⟨rfl,rfl⟩⟩
      clear hG hd
      go_wp2_with fail
      refine (b7v s (i + 3) _ hs hlt 0 false HD).mono ?_
      rintro e w' ⟨rfl,rfl⟩
      go_wp2_with fail
      go_ret2
      rw [← hf.out]
      exact ⟨rfl,(Below.refl _ _).alloc (Nat.le_refl _) _⟩
    | some d=>
      have hd16:=e0s _ _ hd
      have HD : Bx ((digV s[i + 3].toNat).getD 0 = d ∧ (digV s[i + 3].toNat).isSome = true):=⟨by rw [hd]; exact ⟨rfl,rfl⟩⟩
      simp only [a8v,hd] at hG
      have HG:=Lib.hid hG
      clear hG hd
      go_wp2_with fail
      refine (b7v s (i + 3) _ hs hlt d true HD).mono ?_
      rintro e w' ⟨rfl,rfl⟩
      go_wp2_with fail
      go_roundw
      case rel=>exact ⟨4,x0,x1,x2,d,by omega,rfl,rfl,by go_num,h0,h1,h2,hd16,rfl,HG.out⟩
      case measure=>simp [intOf]
   ·rw [drop_end s (i + 3) (by omega)] at hG
    have hf : Hid ((0,4) = R):=hG
    clear hG
    go_wp2_with fail
    go_ret2
    rw [← hf.out]
    exact ⟨rfl,(Below.refl _ _).alloc (Nat.le_refl _) _⟩
  ·have hf : Hid ((numL [x0,x1,x2,x3],0) = R):=hG
   clear hG
   go_wp2_with fail
   refine (j0u [x0,x1,x2,x3] rfl (by intro d hd; simp at hd; omega) _ _ ?_).mono ?_
   ·intro k hk
    obtain rfl | rfl | rfl | rfl : k = 0 ∨ k = 1 ∨ k = 2 ∨ k = 3:=by omega
    all_goals exact g8w w _ _ _ _
   ·rintro e w' ⟨rfl,rfl⟩
    go_wp2_with fail
    go_ret2
    rw [← hf.out]
    exact ⟨rfl,((Below.refl _ _).alloc (Nat.le_refl _) _).alloc (by simp) _⟩
end Go.Proofs.YtomedkaiefgbeaaGreatDoor
namespace Go.Proofs.YtomedkaiefgbeaaGreatDoor
open Go.RowKit
set_option linter.unusedVariables false
set_option maxRecDepth 100000
theorem i1b (k n : Nat) (l : List UInt8) (h : (a8v k n l).2 = 0) : k ≤ l.length:=by
 induction k generalizing n l with
 | zero=>omega
 | succ k ih=>
   match l with
   | []=>simp [a8v] at h
   | c :: t=>
     simp only [a8v] at h
     split at h
     ·simp at h
     ·have:=ih _ _ h; simp; omega
theorem i3w (l : List UInt8) (h : (b3d l).2 = 0) : 4 ≤ l.length:=i1b 4 0 l h
def c1d (i : Nat) (R : Nat × Nat × Nat) : Nat:=if R.2.2 = 0 then i + R.2.1 else 0
theorem c0z (s : ByteArray) (i : Int) (w : World) (hs : s.size ≤ 1099511627776) (a : Int) (e : Nat) (k : Nat) (hik : i = k) (hi : k ≤ s.size) (h : ((b3d (s.data.toList.drop k)).1 : Int) = a ∧ (b3d (s.data.toList.drop k)).2 = e) :
  Calls Tryz.prog 380 #[.string s,.int .i64 i] w fun e' w'=>e' = .returned (.tuple #[.int .i64 a,.int .i64 e]) ∧ Below w.heap.size w w':= by
 subst hik
 obtain ⟨rfl,rfl⟩:=h
 exact j1c s k w hs hi _ rfl
def b8w (s : ByteArray) (k : Nat) (a : Int) (e : Nat) : Prop:=((b3d (s.data.toList.drop k)).1 : Int) = a ∧ (b3d (s.data.toList.drop k)).2 = e
theorem j0q (s : ByteArray) (i : Nat) (w : World) (hs : s.size ≤ 1099511627776) (hi : i ≤ s.size) (a : Int) (e : Nat) (h : Bx (b8w s i a e)) (he : ((e : Int) != 0) = true) :
  Calls Tryz.prog 374 #[.string s,.int .i64 i] w fun e' w'=>e' = .returned (.tuple #[.int .i64 0,.int .i64 0,.int .i64 e]) ∧ Below w.heap.size w w':= by
 go_enter Tryz.func374,Tryz.ntmps374
 go_wp2_with fail
 refine (c0z s i _ hs a e i rfl hi h.out).mono ?_
 rintro e w1 ⟨rfl,hb⟩
 go_wp2_with fail
 go_ret3
 exact ⟨rfl,hb⟩
theorem j0o (s : ByteArray) (i : Nat) (w : World) (hs : s.size ≤ 1099511627776) (hi : i ≤ s.size) (a : Int) (h : Bx (b8w s i a 0)) (ha : a < 55296 ∨ (55296 ≤ a ∧ 57343 < a)) :
  Calls Tryz.prog 374 #[.string s,.int .i64 i] w fun e' w'=>e' = .returned (.tuple #[.int .i64 a,.int .i64 (i + 4 : Nat),.int .i64 0]) ∧ Below w.heap.size w w':= by
 rcases ha with ha | ⟨ha,ha2⟩
 all_goals
  go_enter Tryz.func374,Tryz.ntmps374
  go_wp2_with fail
  refine (c0z s i _ hs a 0 i rfl hi h.out).mono ?_
  rintro e w1 ⟨rfl,hb⟩
  go_wp2_with fail
  go_ret3
  exact ⟨by go_num,hb⟩
theorem j1a (s : ByteArray) (i : Nat) (w : World) (hs : s.size ≤ 1099511627776) (hi : i ≤ s.size) (a : Int) (h : Bx (b8w s i a 0)) (ha : 56320 ≤ a) (ha2 : a ≤ 57343) :
  Calls Tryz.prog 374 #[.string s,.int .i64 i] w fun e' w'=>e' = .returned (.tuple #[.int .i64 0,.int .i64 0,.int .i64 12]) ∧ Below w.heap.size w w':= by
 go_enter Tryz.func374,Tryz.ntmps374
 go_wp2_with fail
 refine (c0z s i _ hs a 0 i rfl hi h.out).mono ?_
 rintro e w1 ⟨rfl,hb⟩
 go_wp2_with fail
 go_ret3
 exact ⟨rfl,hb⟩
theorem i9q (s : ByteArray) (i : Nat) (w : World) (hs : s.size ≤ 1099511627776) (hi : i + 4 = s.size) (a : Int) (h : Bx (b8w s i a 0)) (ha : 55296 ≤ a) (ha2 : a < 56320) :
  Calls Tryz.prog 374 #[.string s,.int .i64 i] w fun e' w'=>e' = .returned (.tuple #[.int .i64 0,.int .i64 0,.int .i64 4]) ∧ Below w.heap.size w w':= by
 have hq : ((i : Int) + 4 == s.size) = true:=by simp; omega
 have hi2 : i ≤ s.size:=by omega
 clear hi
 go_enter Tryz.func374,Tryz.ntmps374
 go_wp2_with fail
 refine (c0z s i _ hs a 0 i rfl hi2 h.out).mono ?_
 rintro e w1 ⟨rfl,hb⟩
 go_wp2_with fail
 refine wp_loop_rounds 1 ?_; rw [rounds_succ]
 go_wp2_with fail
 go_ret3
 exact ⟨rfl,hb.alloc hb.size _⟩
theorem j1v (s : ByteArray) (i : Nat) (w : World) (hs : s.size ≤ 1099511627776) (hi : i + 4 < s.size) (a : Int) (h : Bx (b8w s i a 0)) (ha : 55296 ≤ a) (ha2 : a < 56320) (hc : s[i + 4].toNat ≠ 92) :
  Calls Tryz.prog 374 #[.string s,.int .i64 i] w fun e' w'=>e' = .returned (.tuple #[.int .i64 0,.int .i64 0,.int .i64 12]) ∧ Below w.heap.size w w':= by
 have hq : ((i : Int) + 4 == s.size) = false:=by simp; omega
 have hq2 : ((s[i + 4].toNat : Int) != 92) = true:=by rw [bne_iff_ne]; omega
 clear hc
 go_enter Tryz.func374,Tryz.ntmps374
 go_wp2_with fail
 refine (c0z s i _ hs a 0 i rfl (by omega) h.out).mono ?_
 rintro e w1 ⟨rfl,hb⟩
 go_wp2_with fail
 refine wp_loop_rounds 1 ?_; rw [rounds_succ]
 go_wp2_with fail
 go_ret3
 exact ⟨rfl,hb.alloc hb.size _⟩
theorem j0f (s : ByteArray) (i : Nat) (w : World) (hs : s.size ≤ 1099511627776) (hi : i + 4 < s.size) (hi5 : i + 5 = s.size) (a : Int) (h : Bx (b8w s i a 0)) (ha : 55296 ≤ a) (ha2 : a < 56320) (hc : s[i + 4].toNat = 92) :
  Calls Tryz.prog 374 #[.string s,.int .i64 i] w fun e' w'=>e' = .returned (.tuple #[.int .i64 0,.int .i64 0,.int .i64 4]) ∧ Below w.heap.size w w':= by
 have hq : ((i : Int) + 4 == s.size) = false:=by simp; omega
 have hq3 : ((i : Int) + 4 + 1 == s.size) = true:=by simp; omega
 have hq2 : ((s[i + 4].toNat : Int) != 92) = false:=by rw [bne_eq_false_iff_eq]; omega
 clear hc hi5
 go_enter Tryz.func374,Tryz.ntmps374
 go_wp2_with fail
 refine (c0z s i _ hs a 0 i rfl (by omega) h.out).mono ?_
 rintro e w1 ⟨rfl,hb⟩
 go_wp2_with fail
 refine wp_loop_rounds 2 ?_; rw [rounds_succ]
 go_wp2_with fail
 rw [rounds_succ]
 go_wp2_with fail
 go_ret3
 exact ⟨rfl,hb.alloc hb.size _⟩
theorem i9y (s : ByteArray) (i : Nat) (w : World) (hs : s.size ≤ 1099511627776) (hi : i + 4 < s.size) (hi5 : i + 5 < s.size) (a : Int) (h : Bx (b8w s i a 0)) (ha : 55296 ≤ a) (ha2 : a < 56320) (hc : s[i + 4].toNat = 92) (hd : s[i + 4 + 1].toNat ≠ 117) :
  Calls Tryz.prog 374 #[.string s,.int .i64 i] w fun e' w'=>e' = .returned (.tuple #[.int .i64 0,.int .i64 0,.int .i64 12]) ∧ Below w.heap.size w w':= by
 have hq : ((i : Int) + 4 == s.size) = false:=by simp; omega
 have hq3 : ((i : Int) + 4 + 1 == s.size) = false:=by simp; omega
 have hq2 : ((s[i + 4].toNat : Int) != 92) = false:=by rw [bne_eq_false_iff_eq]; omega
 have hq4 : ((s[i + 4 + 1].toNat : Int) != 117) = true:=by rw [bne_iff_ne]; omega
 clear hc hd
 go_enter Tryz.func374,Tryz.ntmps374
 go_wp2_with fail
 refine (c0z s i _ hs a 0 i rfl (by omega) h.out).mono ?_
 rintro e w1 ⟨rfl,hb⟩
 go_wp2_with fail
 refine wp_loop_rounds 2 ?_; rw [rounds_succ]
 go_wp2_with fail
 rw [rounds_succ]
 go_wp2_with fail
 go_ret3
 exact ⟨rfl,hb.alloc hb.size _⟩
theorem ret3 {a b c a' b' c' : Int} (h1 : a = a') (h2 : b = b') (h3 : c = c') : Ending.returned (.tuple #[.int .i64 a,.int .i64 b,.int .i64 c]) = .returned (.tuple #[.int .i64 a',.int .i64 b',.int .i64 c']):=by rw [h1,h2,h3]
set_option maxHeartbeats 1000000 in
theorem h1s (s : ByteArray) (i : Nat) (w : World) (hs : s.size ≤ 1099511627776) (hi : i + 4 < s.size) (hi5 : i + 5 < s.size) (a : Int) (h : Bx (b8w s i a 0)) (ha : 55296 ≤ a) (ha2 : a < 56320) (hc : s[i + 4].toNat = 92) (hd : s[i + 4 + 1].toNat = 117)
  (b : Int) (e : Nat) (h2 : Bx (b8w s (i + 6) b e)) (r n f : Int) (hcase : (((e : Int) != 0) = true ∧ r = 0 ∧ n = 0 ∧ f = e) ∨ (e = 0 ∧ b < 56320 ∧ r = 0 ∧ n = 0 ∧ f = 12) ∨ (e = 0 ∧ 56320 ≤ b ∧ 57343 < b ∧ r = 0 ∧ n = 0 ∧ f = 12) ∨ (e = 0 ∧ 56320 ≤ b ∧ b ≤ 57343 ∧ r = 65536 + (a - 55296) * 1024 + (b - 56320) ∧ n = i + 10 ∧ f = 0)) :
  Calls Tryz.prog 374 #[.string s,.int .i64 i] w fun e' w'=>e' = .returned (.tuple #[.int .i64 r,.int .i64 n,.int .i64 f]) ∧ Below w.heap.size w w':= by
 have hq : ((i : Int) + 4 == s.size) = false:=by simp; omega
 have hq3 : ((i : Int) + 4 + 1 == s.size) = false:=by simp; omega
 have hq2 : ((s[i + 4].toNat : Int) != 92) = false:=by rw [bne_eq_false_iff_eq]; omega
 have hq4 : ((s[i + 4 + 1].toNat : Int) != 117) = false:=by rw [bne_eq_false_iff_eq]; omega
 clear hc hd
 rcases hcase with ⟨he,rfl,rfl,rfl⟩ | ⟨rfl,hb1,rfl,rfl,rfl⟩ | ⟨rfl,hb1,hb2,rfl,rfl,rfl⟩ | ⟨rfl,hb1,hb2,hr,hn,rfl⟩
 case' inr.inr.inr=>have HR:=Bx.mk hr; have HN:=Bx.mk hn; clear hr hn
 all_goals
  go_enter Tryz.func374,Tryz.ntmps374
  go_wp2_with fail
  refine (c0z s i _ hs a 0 i rfl (by omega) h.out).mono ?_
  rintro e w1 ⟨rfl,hbl⟩
  go_wp2_with fail
  refine wp_loop_rounds 3 ?_; rw [rounds_succ]
  go_wp2_with fail
  rw [rounds_succ]
  go_wp2_with fail
  rw [rounds_succ]
  go_wp2_with fail
  refine (c0z s _ _ hs b _ (i + 6) (by omega) (by omega) h2.out).mono ?_
  rintro e w2 ⟨rfl,hbl2⟩
  have hbl3:=(hbl.alloc hbl.size _).trans (hbl2.mono (by have:=hbl.size; simp; omega))
  go_wp2_with fail
  go_ret3
 ·refine ⟨?_,hbl3⟩
  rw [HR.out,HN.out]
  exact ret3 rfl (by omega) rfl
 ·exact ⟨rfl,hbl3⟩
 ·exact ⟨rfl,hbl3⟩
 ·exact ⟨rfl,hbl3⟩
theorem i4i (s : ByteArray) (i : Nat) (w : World) (hs : s.size ≤ 1099511627776) (hi : i ≤ s.size) (R : Nat × Nat × Nat) (hR : b3n (s.data.toList.drop i) = R) :
  Calls Tryz.prog 374 #[.string s,.int .i64 i] w fun e' w'=>e' = .returned (.tuple #[.int .i64 R.1,.int .i64 (c1d i R),.int .i64 R.2.2]) ∧ Below w.heap.size w w':= by
 obtain ⟨a,e,hF⟩ : ∃ a e,b3d (s.data.toList.drop i) = (a,e):=⟨_,_,rfl⟩
 have hlt:=h2i (s.data.toList.drop i)
 have hF2 : b8w s i a e:=by unfold b8w; rw [hF]; exact ⟨rfl,rfl⟩
 unfold b3n at hR
 rw [hF] at hR hlt
 simp only at hR hlt
 by_cases he : e ≠ 0
 ·rw [if_pos he] at hR
  subst hR
  have:=j0q s i w hs hi a e ⟨hF2⟩ (by rw [bne_iff_ne]; omega)
  simpa [c1d,he] using this
 rw [if_neg he] at hR
 obtain rfl : e = 0:=by omega
 have h4 : i + 4 ≤ s.size:=by
  have:=i3w (s.data.toList.drop i) (by rw [hF])
  simp at this; omega
 by_cases ha : a < 55296 ∨ 57343 < a
 ·rw [if_pos ha] at hR
  subst hR
  exact j0o s i w hs hi a ⟨hF2⟩ (by omega)
 rw [if_neg ha] at hR
 by_cases ha2 : 56320 ≤ a
 ·rw [if_pos ha2] at hR
  subst hR
  exact j1a s i w hs hi a ⟨hF2⟩ (by omega) (by omega)
 rw [if_neg ha2,List.drop_drop] at hR
 by_cases h4' : i + 4 = s.size
 ·rw [drop_end s _ (by omega)] at hR
  subst hR
  exact i9q s i w hs h4' a ⟨hF2⟩ (by omega) (by omega)
 have hl4 : i + 4 < s.size:=by omega
 rw [drop_cons s _ hl4] at hR
 simp only at hR
 by_cases hc : s[i + 4].toNat ≠ 92
 ·rw [if_pos hc] at hR
  subst hR
  exact j1v s i w hs hl4 a ⟨hF2⟩ (by omega) (by omega) hc
 rw [if_neg hc] at hR
 by_cases h5' : i + 5 = s.size
 ·rw [drop_end s _ (by omega)] at hR
  subst hR
  exact j0f s i w hs hl4 h5' a ⟨hF2⟩ (by omega) (by omega) (by omega)
 have hl5 : i + 4 + 1 < s.size:=by omega
 rw [drop_cons s _ hl5] at hR
 simp only at hR
 by_cases hd : s[i + 4 + 1].toNat ≠ 117
 ·rw [if_pos hd] at hR
  subst hR
  exact i9y s i w hs hl4 hl5 a ⟨hF2⟩ (by omega) (by omega) (by omega) hd
 rw [if_neg hd] at hR
 obtain ⟨b,f,hG⟩ : ∃ b f,b3d (s.data.toList.drop (i + 6)) = (b,f):=⟨_,_,rfl⟩
 have hG2 : b8w s (i + 6) b f:=by unfold b8w; rw [hG]; exact ⟨rfl,rfl⟩
 rw [show i + 4 + 1 + 1 = i + 6 by omega,hG] at hR
 simp only at hR
 by_cases hf : f ≠ 0
 ·rw [if_pos hf] at hR
  subst hR
  have:=h1s s i w hs hl4 hl5 a ⟨hF2⟩ (by omega) (by omega) (by omega) (by omega) b f ⟨hG2⟩ 0 0 f (.inl ⟨by rw [bne_iff_ne]; omega,rfl,rfl,rfl⟩)
  simpa [c1d,hf] using this
 rw [if_neg hf] at hR
 obtain rfl : f = 0:=by omega
 by_cases hb : b < 56320 ∨ 57343 < b
 ·rw [if_pos hb] at hR
  subst hR
  exact h1s s i w hs hl4 hl5 a ⟨hF2⟩ (by omega) (by omega) (by omega) (by omega) b 0 ⟨hG2⟩ 0 0 12 (by omega)
 rw [if_neg hb] at hR
 subst hR
 have:=h1s s i w hs hl4 hl5 a ⟨hF2⟩ (by omega) (by omega) (by omega) (by omega) b 0 ⟨hG2⟩ (65536 + ((a : Int) - 55296) * 1024 + (b - 56320)) (i + 10) 0 (by omega)
 have e1 : ((65536 + (a - 55296) * 1024 + (b - 56320) : Nat) : Int) = 65536 + ((a : Int) - 55296) * 1024 + (b - 56320):=by omega
 have e2 : ((c1d i (65536 + (a - 55296) * 1024 + (b - 56320),10,0) : Nat) : Int) = (i : Int) + 10:=by simp [c1d]
 rw [e1,e2]
 exact this
end Go.Proofs.YtomedkaiefgbeaaGreatDoor
namespace Go.Proofs.YtomedkaiefgbeaaGreatDoor
open Go.RowKit
set_option linter.unusedVariables false
set_option maxRecDepth 100000
theorem i4l (s : ByteArray) (i : Nat) (w : World) (hs : s.size ≤ 1099511627776) (hi : i < s.size) (hc : s[i].toNat < 32) :
  Calls Tryz.prog 347 #[.string s,.int .i64 i] w fun e' w'=>e' = .returned (.tuple #[.int .i64 0,.int .i64 0,.int .i64 3]) ∧ w = w':= by
 go_enter Tryz.func347,Tryz.ntmps347
 go_wp2_with fail
 go_ret3
 exact ⟨rfl,rfl⟩
theorem i2o (s : ByteArray) (i : Nat) (w : World) (hs : s.size ≤ 1099511627776) (hi : i < s.size) (hc : 32 ≤ s[i].toNat) (hc2 : s[i].toNat ≠ 92) (r n e : Nat) (hn : n ≤ 4) (hx : Bx (nxAt s.data.toList i = (r,n,e))) (he : e ≠ 0 → r = 0 ∧ n = 0) :
  Calls Tryz.prog 347 #[.string s,.int .i64 i] w fun e' w'=>e' = .returned (.tuple #[.int .i64 r,.int .i64 (c1d i (r,n,e)),.int .i64 e]) ∧ w = w':= by
 have hq : ((s[i].toNat : Int) != 92) = true:=by rw [bne_iff_ne]; omega
 clear hc2
 by_cases h0 : e = 0
 ·subst h0
  have hN : Bx (((c1d i (r,n,0) : Nat) : Int) = (i : Int) + n):=⟨by simp [c1d]⟩
  clear he
  go_enter Tryz.func347,Tryz.ntmps347
  go_wp2_with fail
  refine (h7m s i r n 0 _ hs hx.out).mono ?_
  rintro e w' ⟨rfl,rfl⟩
  go_wp2_with fail
  go_ret3
  rw [hN.out]
  exact ⟨rfl,rfl⟩
 ·obtain ⟨rfl,rfl⟩:=he h0
  have hN : Bx (((c1d i (0,0,e) : Nat) : Int) = 0):=⟨by simp [c1d,h0]⟩
  have hee : ((e : Int) != 0) = true:=by rw [bne_iff_ne]; omega
  clear he h0
  go_enter Tryz.func347,Tryz.ntmps347
  go_wp2_with fail
  refine (h7m s i 0 0 e _ hs hx.out).mono ?_
  rintro e w' ⟨rfl,rfl⟩
  go_wp2_with fail
  go_ret3
  rw [hN.out]
  exact ⟨rfl,rfl⟩
theorem h5j (s : ByteArray) (i : Nat) (w : World) (hs : s.size ≤ 1099511627776) (hi : i < s.size) (hc : s[i].toNat = 92) (h1 : i + 1 = s.size) :
  Calls Tryz.prog 347 #[.string s,.int .i64 i] w fun e' w'=>e' = .returned (.tuple #[.int .i64 0,.int .i64 0,.int .i64 4]) ∧ w = w':= by
 have hq : ((s[i].toNat : Int) != 92) = false:=by rw [bne_eq_false_iff_eq]; omega
 have hq1 : ((i : Int) + 1 == s.size) = true:=by simp; omega
 have hq2 : 32 ≤ s[i].toNat:=by omega
 clear hc h1
 go_enter Tryz.func347,Tryz.ntmps347
 go_wp2_with fail
 go_ret3
 exact ⟨rfl,rfl⟩
theorem d9d (f : Fn) (c : Array Value) (w : World) : (binOp .eql 475 (.func f #[] c) .nilFunc).run Tryz.prog w = .ok (.bool false) w:=by kernel_rfl
theorem h0b (w : World) : (binOp .eql 475 .nilFunc .nilFunc).run Tryz.prog w = .ok (.bool true) w:=by kernel_rfl
theorem h9j (w : World) : Calls Tryz.prog 362 #[.int .u8 117] w fun e w'=>e = .returned (.func (Fn.func 374) #[] #[]) ∧ w = w':= by
 go_enter Tryz.func362,Tryz.ntmps362
 go_wp2
 go_ret
 exact ⟨rfl,rfl⟩
theorem h5k (c : Int) (w : World) (h : ∀ x ∈ [34,92,47,98,102,110,114,116,117],(c == x) = false) : Calls Tryz.prog 362 #[.int .u8 c] w fun e w'=>e = .returned .nilFunc ∧ w = w':= by
 simp only [List.mem_cons,List.not_mem_nil,or_false,forall_eq_or_imp,forall_eq] at h
 obtain ⟨h1,h2,h3,h4,h5,h6,h7,h8,h9⟩:=h
 go_enter Tryz.func362,Tryz.ntmps362
 go_wp2
 go_ret
 exact ⟨rfl,rfl⟩
set_option maxHeartbeats 1000000 in
theorem h8k (c v : Int) (w : World) (hc : (c = 34 ∧ v = 34) ∨ (c = 92 ∧ v = 92) ∨ (c = 47 ∧ v = 47) ∨ (c = 98 ∧ v = 8) ∨ (c = 102 ∧ v = 12) ∨ (c = 110 ∧ v = 10) ∨ (c = 114 ∧ v = 13) ∨ (c = 116 ∧ v = 9)) :
  Calls Tryz.prog 362 #[.int .u8 c] w fun e w'=>e = .returned (.func (Fn.func 373) #[] #[.pointer (some ⟨w.heap.size,0,none⟩)]) ∧ w' = w.alloc (.cells #[.int .i64 v] 3):=by
 rcases hc with ⟨rfl,rfl⟩ | ⟨rfl,rfl⟩ | ⟨rfl,rfl⟩ | ⟨rfl,rfl⟩ | ⟨rfl,rfl⟩ | ⟨rfl,rfl⟩ | ⟨rfl,rfl⟩ | ⟨rfl,rfl⟩
 all_goals
  go_enter Tryz.func362,Tryz.ntmps362
  go_wp2
  go_ret
  exact ⟨rfl,rfl⟩
theorem h5l (c v : Nat) (h : escV c = some v) : (c = 34 ∧ v = 34) ∨ (c = 92 ∧ v = 92) ∨ (c = 47 ∧ v = 47) ∨ (c = 98 ∧ v = 8) ∨ (c = 102 ∧ v = 12) ∨ (c = 110 ∧ v = 10) ∨ (c = 114 ∧ v = 13) ∨ (c = 116 ∧ v = 9):=by
 unfold escV at h
 split at h
 ·cases h; omega
 ·split at h
  ·cases h; omega
  ·split at h
   ·cases h; omega
   ·split at h
    ·cases h; omega
    ·split at h
     ·cases h; omega
     ·split at h
      ·cases h; omega
      ·cases h
theorem h6n (c : Nat) (v : Nat) (w : World) (h : escV c = some v) : Calls Tryz.prog 362 #[.int .u8 c] w fun e w'=>e = .returned (.func (Fn.func 373) #[] #[.pointer (some ⟨w.heap.size,0,none⟩)]) ∧ w' = w.alloc (.cells #[.int .i64 v] 3):=
 h8k c v w (by rcases h5l c v h with ⟨rfl,rfl⟩ | ⟨rfl,rfl⟩ | ⟨rfl,rfl⟩ | ⟨rfl,rfl⟩ | ⟨rfl,rfl⟩ | ⟨rfl,rfl⟩ | ⟨rfl,rfl⟩ | ⟨rfl,rfl⟩ <;> simp)
theorem h6x (s : ByteArray) (i v : Int) (b : Nat) (w : World) (h : w.cell? ⟨b,0,none⟩ = some (.int .i64 v)) :
  Calls Tryz.prog 373 #[.string s,.int .i64 i,.pointer (some ⟨b,0,none⟩)] w fun e w'=>e = .returned (.tuple #[.int .i64 v,.int .i64 i,.int .i64 0]) ∧ w = w':= by
 go_enter Tryz.func373,Tryz.ntmps373
 go_wp2
 go_ret3
 exact ⟨rfl,rfl⟩
theorem j2z (s : ByteArray) (i : Nat) (w : World) (hs : s.size ≤ 1099511627776) (hi : i < s.size) (hc : s[i].toNat = 92) (h1 : i + 1 < s.size) (hd : s[i + 1].toNat = 117) (R : Nat × Nat × Nat) (hR : Bx (b3n (s.data.toList.drop (i + 2)) = R)) :
  Calls Tryz.prog 347 #[.string s,.int .i64 i] w fun e' w'=>e' = .returned (.tuple #[.int .i64 R.1,.int .i64 (c1d (i + 2) R),.int .i64 R.2.2]) ∧ Below w.heap.size w w':= by
 have hq : ((s[i].toNat : Int) != 92) = false:=by rw [bne_eq_false_iff_eq]; omega
 have hq1 : ((i : Int) + 1 == s.size) = false:=by simp; omega
 have hq2 : 32 ≤ s[i].toNat:=by omega
 have hd2 : (s[i + 1].toNat : Int) = 117:=by omega
 have HD:=Lib.hid hd2
 have hef:=d9d (Fn.func 374) #[]
 clear hc hd hd2
 go_enter Tryz.func347,Tryz.ntmps347
 go_wp2_with fail
 rw [HD.out]
 refine (h9j _).mono ?_
 rintro e w' ⟨rfl,rfl⟩
 go_wp2_with fail
 rw [show ((i : Int) + 2) = ((i + 2 : Nat) : Int) by omega]
 refine (i4i s (i + 2) _ hs (by omega) R hR.out).mono ?_
 rintro e w1 ⟨rfl,hb⟩
 go_wp2_with fail
 go_ret3
 exact ⟨rfl,hb⟩
theorem i9f (s : ByteArray) (i : Nat) (w : World) (hs : s.size ≤ 1099511627776) (hi : i < s.size) (hc : s[i].toNat = 92) (h1 : i + 1 < s.size) (hd : Bx (∀ x ∈ [34,92,47,98,102,110,114,116,117],((s[i + 1].toNat : Int) == x) = false)) :
  Calls Tryz.prog 347 #[.string s,.int .i64 i] w fun e' w'=>e' = .returned (.tuple #[.int .i64 0,.int .i64 0,.int .i64 3]) ∧ w = w':= by
 have hq : ((s[i].toNat : Int) != 92) = false:=by rw [bne_eq_false_iff_eq]; omega
 have hq1 : ((i : Int) + 1 == s.size) = false:=by simp; omega
 have hq2 : 32 ≤ s[i].toNat:=by omega
 have hef:=h0b
 clear hc
 go_enter Tryz.func347,Tryz.ntmps347
 go_wp2_with fail
 refine (h5k _ _ hd.out).mono ?_
 rintro e w' ⟨rfl,rfl⟩
 go_wp2_with fail
 go_ret3
 exact ⟨rfl,rfl⟩
theorem i6v (s : ByteArray) (i : Nat) (w : World) (hs : s.size ≤ 1099511627776) (hi : i < s.size) (hc : s[i].toNat = 92) (h1 : i + 1 < s.size) (v : Nat) (hd : Bx (escV s[i + 1].toNat = some v)) :
  Calls Tryz.prog 347 #[.string s,.int .i64 i] w fun e' w'=>e' = .returned (.tuple #[.int .i64 v,.int .i64 (i + 2 : Nat),.int .i64 0]) ∧ Below w.heap.size w w':= by
 have hq : ((s[i].toNat : Int) != 92) = false:=by rw [bne_eq_false_iff_eq]; omega
 have hq1 : ((i : Int) + 1 == s.size) = false:=by simp; omega
 have hq2 : 32 ≤ s[i].toNat:=by omega
 have hef:=d9d (Fn.func 373) #[.pointer (some ⟨w.heap.size,0,none⟩)]
 clear hc
 go_enter Tryz.func347,Tryz.ntmps347
 go_wp2_with fail
 refine (h6n _ v _ hd.out).mono ?_
 rintro e w' ⟨rfl,rfl⟩
 go_wp2_with fail
 refine (h6x s _ v w.heap.size _ (by simp)).mono ?_
 rintro e w' ⟨rfl,rfl⟩
 go_wp2_with fail
 go_ret3
 exact ⟨ret3 rfl (by omega) rfl,(Below.refl _ _).alloc (Nat.le_refl _) _⟩
end Go.Proofs.YtomedkaiefgbeaaGreatDoor
namespace Go.Proofs.YtomedkaiefgbeaaGreatDoor
open Go.RowKit
set_option linter.unusedVariables false
set_option maxRecDepth 100000
theorem a9p {P : Ending → Prop} {w : World} : ∀ e w',(P e ∧ w = w') → P e ∧ Below w.heap.size w w':= fun _ _ ⟨he,hw⟩=>⟨he,by rw [← hw]; exact Below.refl _ _⟩
theorem i1g (s : ByteArray) (i : Nat) (hi : i ≤ s.size) : nxAt s.data.toList (i : Int) = nx (s.data.toList.drop i):=by
 unfold nxAt; rw [if_neg (by simp; omega)]; simp
theorem h0q (s : ByteArray) (i : Nat) (w : World) (hs : s.size ≤ 1099511627776) (hi : i < s.size) (R : Nat × Nat × Nat) (hR : b9j (s.data.toList.drop i) = R) :
  Calls Tryz.prog 347 #[.string s,.int .i64 i] w fun e' w'=>e' = .returned (.tuple #[.int .i64 R.1,.int .i64 (c1d i R),.int .i64 R.2.2]) ∧ Below w.heap.size w w':= by
 have hx:=drop_cons s i hi
 by_cases h1 : s[i].toNat < 32
 ·have : R = (0,0,3):=by rw [← hR,hx]; simp only [b9j]; rw [if_pos h1]
  subst this
  exact (i4l s i w hs hi h1).mono a9p
 by_cases h2 : s[i].toNat ≠ 92
 ·have hn : nx (s.data.toList.drop i) = R:=by rw [← hR,hx]; simp only [b9j]; rw [if_neg h1,if_pos h2]
  obtain ⟨r,n,e⟩:=R
  have hat:=(i1g s i (by omega)).trans hn
  have hne : n ≤ 4 ∧ (e ≠ 0 → r = 0 ∧ n = 0):=by
   cases h3z (s.data.toList.drop i) with
   | short h hq=>rw [hq] at hn; cases hn; simp
   | bad h=>rw [h] at hn; cases hn; simp
   | cut h _ _=>rw [h] at hn; cases hn; simp
   | rune r' t hv hl hq=>
     have hm:=(d6n r' hv).2
     rw [hq] at hn
     have h2:=congrArg (fun x=>x.2.1) hn
     have h3:=congrArg (fun x=>x.2.2) hn
     simp only at h2 h3
     exact ⟨by omega,fun h=>by omega⟩
  exact (i2o s i w hs hi (by omega) h2 r n e hne.1 ⟨hat⟩ hne.2).mono a9p
 have hc : s[i].toNat = 92:=by omega
 by_cases h3 : i + 1 = s.size
 ·have : R = (0,0,4):=by rw [← hR,hx,drop_end s _ (by omega)]; simp only [b9j]; rw [if_neg h1,if_neg h2]
  subst this
  exact (h5j s i w hs hi hc h3).mono a9p
 have hi1 : i + 1 < s.size:=by omega
 have hx2 : b9j (s.data.toList.drop i) = match escV s[i + 1].toNat with
   | some v=>(v,2,0)
   | none=>if s[i + 1].toNat = 117 then plus 2 (b3n (s.data.toList.drop (i + 2))) else (0,0,3):=by
  rw [hx,drop_cons s _ hi1]; simp only [b9j]; rw [if_neg h1,if_neg h2]; first | done | rfl
 cases hv : escV s[i + 1].toNat with
 | some v=>
   rw [hv] at hx2
   simp only at hx2
   have : R = (v,2,0):=hR.symm.trans hx2
   subst this
   exact i6v s i w hs hi hc hi1 v ⟨hv⟩
 | none=>
   rw [hv] at hx2
   simp only at hx2
   by_cases h4 : s[i + 1].toNat = 117
   ·rw [if_pos h4] at hx2
    have h5 : R = plus 2 (b3n (s.data.toList.drop (i + 2))):=hR.symm.trans hx2
    have:=j2z s i w hs hi hc hi1 h4 _ ⟨rfl⟩
    have e1 : R.1 = (b3n (s.data.toList.drop (i + 2))).1:=by rw [h5]; unfold plus; split <;> rfl
    have e2 : R.2.2 = (b3n (s.data.toList.drop (i + 2))).2.2:=by rw [h5]; unfold plus; split <;> simp_all
    have e3 : c1d i R = c1d (i + 2) (b3n (s.data.toList.drop (i + 2))):=by
     rw [h5]; unfold c1d plus
     split <;> simp_all
     omega
    rw [e1,e2,e3]
    exact this
   ·rw [if_neg h4] at hx2
    have : R = (0,0,3):=hR.symm.trans hx2
    subst this
    refine (i9f s i w hs hi hc hi1 ⟨?_⟩).mono a9p
    have hq : escV s[i + 1].toNat = none:=hv
    have hn : ¬ (s[i + 1].toNat = 34 ∨ s[i + 1].toNat = 92 ∨ s[i + 1].toNat = 47) ∧ s[i + 1].toNat ≠ 98 ∧ s[i + 1].toNat ≠ 102 ∧ s[i + 1].toNat ≠ 110 ∧ s[i + 1].toNat ≠ 114 ∧ s[i + 1].toNat ≠ 116:=by
     unfold escV at hq
     refine ⟨(fun h=>by rw [if_pos h] at hq; cases hq),?_⟩
     split at hq
     ·cases hq
     ·split at hq
      ·cases hq
      ·split at hq
       ·cases hq
       ·split at hq
        ·cases hq
        ·split at hq
         ·cases hq
         ·split at hq
          ·cases hq
          ·exact ⟨by assumption,by assumption,by assumption,by assumption,by assumption⟩
    intro x hx
    rw [beq_eq_false_iff_ne]
    simp only [List.mem_cons,List.not_mem_nil,or_false] at hx
    omega
def i4o (i : Nat) (R : List UInt8 × Nat × Nat) : Nat:=if R.2.2 = 0 then i + R.2.1 else 0
def j0y (s : ByteArray) (i : Nat) (B : Nat) (w0 : World) (R : List UInt8 × Nat × Nat) (a b c kv : Value) (w' : World) : Prop:=
 ∃ (k n f : Nat) (out : List UInt8),k = i + n ∧ k ≤ s.size ∧ s.size + 1 ≤ k + f ∧ out.length ≤ 4096 ∧ a = .string ⟨#[]⟩ ∧ b = .int .i64 0 ∧ c = .int .i64 0 ∧ kv = .int .i64 k ∧
   rdGo f (s.data.toList.drop k) n out = R ∧ Bd B B out w' ∧ Below B w0 w'
theorem i4y (s : ByteArray) (i : Int) (w : World) (hs : s.size ≤ 1099511627776) (h : i < 0 ∨ s.size < i) :
  Calls Tryz.prog 339 #[.string s,.int .i64 i] w fun e w'=>e = .returned (.tuple #[.string ⟨#[]⟩,.int .i64 0,.int .i64 1]) ∧ w = w':= by
 rcases h with h | h
 all_goals
  go_enter Tryz.func339,Tryz.ntmps339
  go_wp2_with fail
  go_ret3
  exact ⟨rfl,rfl⟩
theorem i3r (s : ByteArray) (w : World) (hs : s.size ≤ 1099511627776) :
  Calls Tryz.prog 339 #[.string s,.int .i64 s.size] w fun e w'=>e = .returned (.tuple #[.string ⟨#[]⟩,.int .i64 0,.int .i64 4]) ∧ w = w':= by
 go_enter Tryz.func339,Tryz.ntmps339
 go_wp2_with fail
 go_ret3
 exact ⟨rfl,rfl⟩
theorem h9u (s : ByteArray) (i : Nat) (w : World) (hs : s.size ≤ 1099511627776) (hi : i < s.size) (hc : s[i].toNat ≠ 34) :
  Calls Tryz.prog 339 #[.string s,.int .i64 i] w fun e w'=>e = .returned (.tuple #[.string ⟨#[]⟩,.int .i64 0,.int .i64 3]) ∧ w = w':= by
 have hne : ((i : Int) == s.size) = false:=by simp; omega
 have hq : ((s[i].toNat : Int) != 34) = true:=by rw [bne_iff_ne]; omega
 clear hc
 go_enter Tryz.func339,Tryz.ntmps339
 go_wp2_with fail
 go_ret3
 exact ⟨rfl,rfl⟩
theorem g9x {s t : ByteArray} {a b c d : Int} (h0 : s = t) (h1 : a = b) (h2 : c = d) : Ending.returned (.tuple #[.string s,.int .i64 a,.int .i64 c]) = .returned (.tuple #[.string t,.int .i64 b,.int .i64 d]):=by rw [h0,h1,h2]
set_option maxHeartbeats 1000000 in
theorem j0v (s : ByteArray) (i : Nat) (w : World) (hs : s.size ≤ 1099511627776) (hi : i < s.size) (hc : s[i].toNat = 34) (R : List UInt8 × Nat × Nat) (hR : Bx (g8s (s.data.toList.drop i) = R)) :
  Calls Tryz.prog 339 #[.string s,.int .i64 i] w fun e w'=>e = .returned (.tuple #[.string (str R.1),.int .i64 (i4o i R),.int .i64 R.2.2]) ∧ Below w.heap.size w w':= by
 have hne : ((i : Int) == s.size) = false:=by simp; omega
 have hq : ((s[i].toNat : Int) != 34) = false:=by rw [bne_eq_false_iff_eq]; omega
 have hi0 : decide ((i : Int) < 0) = false:=by simp
 have hsi : decide (s.size < i) = false:=by simp; omega
 have HR : Bx (rdGo ((s.data.toList.drop (i + 1)).length + 1) (s.data.toList.drop (i + 1)) 1 [] = R):=⟨by
  rw [← hR.out,drop_cons s i hi]; simp only [g8s]; rw [if_neg (by omega)]⟩
 have Hd:=Bx.mk (h2u w w.heap.size (Nat.le_refl _))
 clear hc hR
 go_enter Tryz.func339,Tryz.ntmps339
 go_wp2_with fail
 go_loopw [4,5,6,1] (fun a b c k w'=>j0y s i w.heap.size w R a b c k w') (fun _ _ _ k _=>s.size - (intOf k).toNat)
 case atStart=>exact ⟨i + 1,1,_,[],rfl,by omega,by simp; omega,by simp,rfl,rfl,rfl,by go_num,HR.out,Hd.out,(Below.refl _ _).alloc (Nat.le_refl _) _⟩
 case round=>
  clear HR Hd
  obtain ⟨k,n,f,out,hkn,hk,hf,hout,rfl,rfl,rfl,rfl,hG,hd,hb⟩:=hrel
  have HKN:=Bx.mk hkn
  have HD:=Bx.mk hd
  clear hkn hd
  by_cases hlt : k < s.size
  ·obtain ⟨g,rfl⟩ : ∃ g,f = g + 1:=⟨f - 1,by omega⟩
   have hx:=drop_cons s k hlt
   rw [hx] at hG
   simp only [rdGo] at hG
   rw [← hx] at hG
   by_cases hc : s[k].toNat = 34
   ·rw [if_pos hc] at hG
    have HF:=Bx.mk hG
    have hq1 : ((s[k].toNat : Int) == 34) = true:=by rw [beq_iff_eq]; omega
    clear hG hc hx
    go_wp2_with fail
    refine (g7l _ _ _ _ HD.out hb.size).mono ?_
    rintro e w1 ⟨rfl,hb1⟩
    go_wp2_with fail
    go_ret3
    rw [← HF.out]
    exact ⟨g9x rfl (by have:=HKN.out; simp [i4o]; omega) rfl,hb.trans hb1⟩
   rw [if_neg hc] at hG
   have hq1 : ((s[k].toNat : Int) == 34) = false:=by rw [beq_eq_false_iff_ne]; omega
   clear hc
   cases i4g (s.data.toList.drop k) with
   | err e he hI=>
     rw [hI] at hG
     simp only at hG
     rw [if_pos he] at hG
     have HF:=Bx.mk hG
     have HI:=Bx.mk hI
     have hee : ((e : Int) != 0) = true:=by rw [bne_iff_ne]; omega
     have HE:=Bx.mk he
     clear hG hx hI he
     go_wp2_with fail
     refine (h0q s k _ hs hlt _ HI.out).mono ?_
     rintro e' w1 ⟨rfl,hb1⟩
     rw [show c1d k (0,0,e) = 0 from by simp [c1d,HE.out]]
     go_wp2_with fail
     go_ret3
     rw [← HF.out]
     exact ⟨g9x rfl (by simp [i4o,HE.out]) rfl,hb.trans (hb1.mono hb.size)⟩
   | ok r m hv hm1 hm2 hI=>
     rw [hI] at hG
     simp only at hG
     rw [if_neg (by omega)] at hG
     have hmle : k + m ≤ s.size:=by simp at hm2; omega
     have hen:=d6n r hv
     obtain ⟨E,hE⟩ : ∃ E,Utf8.encode (r : Int) = E:=⟨_,rfl⟩
     have hEd : E.data.toList = enc r:=by rw [← hE]; exact i4k r
     have hEs : E.size = (enc r).length:=by rw [← hE]; exact i6f r
     have HI:=Bx.mk hI
     have HV:=Bx.mk hv
     have HE:=Bx.mk hE
     have HEd:=Bx.mk hEd
     by_cases hbig : 4096 < out.length + (enc r).length
     ·rw [if_pos hbig] at hG
      have HF:=Bx.mk hG
      generalize (enc r).length = p at *
      clear hG hx hI hv hE hEd hm2
      go_wp2_with fail
      refine (h0q s k _ hs hlt _ HI.out).mono ?_
      rintro e' w1 ⟨rfl,hb1⟩
      have HD1:=Bx.mk (HD.out.kept (c7k hb1))
      go_wp2_with fail
      refine (i1q _ E _ HV.out HE.out).mono ?_
      rintro e' w' ⟨rfl,rfl⟩
      go_wp2_with fail
      refine (i7u _ _ _ _ HD1.out).mono ?_
      rintro e' w' ⟨rfl,rfl⟩
      go_wp2_with fail
      go_ret3
      rw [← HF.out]
      exact ⟨g9x rfl rfl rfl,hb.trans (hb1.mono hb.size)⟩
     ·rw [if_neg hbig,List.drop_drop] at hG
      have HF:=Bx.mk hG
      have hN : Bx (((c1d k (r,m,0) : Nat) : Int) = (k : Int) + m):=⟨by simp [c1d]⟩
      generalize hp : (enc r).length = p at *
      have HP:=Bx.mk hp
      clear hG hx hI hv hE hEd hm2 hp
      go_wp2_with fail
      refine (h0q s k _ hs hlt _ HI.out).mono ?_
      rintro e' w1 ⟨rfl,hb1⟩
      have HD1:=Bx.mk (HD.out.kept (c7k hb1))
      rw [hN.out]
      go_wp2_with fail
      refine (i1q _ E _ HV.out HE.out).mono ?_
      rintro e' w' ⟨rfl,rfl⟩
      go_wp2_with fail
      refine (i7u _ _ _ _ HD1.out).mono ?_
      rintro e' w' ⟨rfl,rfl⟩
      go_wp2_with fail
      refine (e6q _ _ _ E _ HD1.out (by omega) (Nat.le_trans hb.size hb1.size)).mono ?_
      rintro e' w2 ⟨rfl,hd2,hb2⟩
      have HD2:=Bx.mk hd2
      clear hd2
      go_wp2_with fail
      go_roundw
      case rel=>exact ⟨k + m,n + m,g,out ++ enc r,by have:=HKN.out; omega,by omega,by omega,by rw [List.length_append,HP.out]; omega,rfl,rfl,rfl,by go_num,HF.out,by rw [← HEd.out]; exact HD2.out,(hb.trans (hb1.mono hb.size)).trans hb2⟩
      case measure=>simp [intOf]; omega
  ·have hF : Bx (([],0,4) = R):=⟨by
    rw [drop_end s k (by omega)] at hG
    cases f with
    | zero=>exact hG
    | succ f=>exact hG⟩
   clear hG
   go_wp2_with fail
   go_ret3
   rw [← hF.out]
   exact ⟨rfl,hb⟩
def c6y (l : List UInt8) (i : Int) : List UInt8 × Nat × Nat:=
 if i < 0 ∨ (l.length : Int) < i then ([],0,1) else ((g8s (l.drop i.toNat)).1,i4o i.toNat (g8s (l.drop i.toNat)),(g8s (l.drop i.toNat)).2.2)
theorem i5g (s : ByteArray) (i : Int) (w : World) (hs : s.size ≤ 1099511627776) :
  Calls Tryz.prog 339 #[.string s,.int .i64 i] w fun e w'=>e = .returned (.tuple #[.string (str (c6y s.data.toList i).1),.int .i64 (c6y s.data.toList i).2.1,.int .i64 (c6y s.data.toList i).2.2]) ∧ Below w.heap.size w w':= by
 have hlen : s.data.toList.length = s.size:=by simp
 unfold c6y
 rw [hlen]
 by_cases h : i < 0 ∨ (s.size : Int) < i
 ·rw [if_pos h]
  exact (i4y s i w hs h).mono a9p
 ·rw [if_neg h]
  obtain ⟨n,rfl⟩:=Int.eq_ofNat_of_zero_le (show 0 ≤ i by omega)
  rw [Int.toNat_natCast]
  by_cases hn : n = s.size
  ·subst hn
   rw [drop_end s _ (Nat.le_refl _)]
   exact (i3r s w hs).mono a9p
  ·have hlt : n < s.size:=by omega
   by_cases hc : s[n].toNat = 34
   ·exact j0v s n w hs hlt hc _ ⟨rfl⟩
   ·rw [drop_cons s n hlt]
    have : g8s (s[n] :: s.data.toList.drop (n + 1)) = ([],0,3):=by simp only [g8s]; rw [if_pos hc]
    rw [this]
    exact (h9u s n w hs hlt hc).mono a9p
end Go.Proofs.YtomedkaiefgbeaaGreatDoor
