/- Contracts of library functions over this translation. No conditions. -/
import GoSem.Core.Utf8
import Derived.Lib.DecodeN
import Derived.Test.YtomedkaiefgbeaaGreatDoorProg
import Derived.WalkKit
import Derived.WalkLawsBesides
import Derived.WalkSpells
import Derived.Lib.Hide
import Derived.Outline
import Derived.Laws.RangeAny
import Derived.Lib.Strings
import Derived.Lib.IndexBytes
import Derived.Below
set_option linter.unusedVariables false
set_option linter.unusedSimpArgs false
namespace Go.Proofs.YtomedkaiefgbeaaGreatDoor
structure Bx (p : Prop) : Prop where
 out : p
def a2s (c : Nat) : Nat × Nat × Nat:=
 if c < 128 then (1,0,0) else if c < 194 then (0,0,0) else if c < 224 then (2,128,191) else if c = 224 then (3,160,191)
 else if c = 237 then (3,128,159) else if c < 240 then (3,128,191) else if c = 240 then (4,144,191) else if c < 244 then (4,128,191)
 else if c = 244 then (4,128,143) else (0,0,0)
def nxGo : Nat → Nat → Nat → Nat → Nat → List UInt8 → Nat × Nat × Nat
 | 0,sz,r,_,_,_=>(r,sz,0)
 | _ + 1,_,_,_,_,[]=>(0,0,4)
 | k + 1,sz,r,lo,hi,c :: t=>if c.toNat < lo ∨ hi < c.toNat then (0,0,12) else nxGo k sz (r * 64 + c.toNat % 64) 128 191 t
def nx : List UInt8 → Nat × Nat × Nat
 | []=>(0,0,4)
 | b :: t=>if (a2s b.toNat).1 = 0 then (0,0,12)
   else nxGo ((a2s b.toNat).1 - 1) (a2s b.toNat).1 (if (a2s b.toNat).1 = 1 then b.toNat else b.toNat % 2 ^ (7 - (a2s b.toNat).1)) (a2s b.toNat).2.1 (a2s b.toNat).2.2 t
theorem g9z (c : Nat) : (a2s c).1 = 0 ∨ (a2s c).1 = 1 ∨ (a2s c).1 = 2 ∨ (a2s c).1 = 3 ∨ (a2s c).1 = 4:=by
 unfold a2s; repeat' split
 all_goals simp
theorem h9z (c : Nat) : (a2s c).2.1 < 256 ∧ (a2s c).2.2 < 256:=by
 unfold a2s; repeat' split
 all_goals simp
def nxAt (l : List UInt8) (i : Int) : Nat × Nat × Nat:=if i < 0 ∨ (l.length : Int) < i then (0,0,1) else nx (l.drop i.toNat)
def enc (r : Int) : List UInt8:=(Utf8.encode r).data.toList
def b8 (n : Nat) : UInt8:=UInt8.ofNat n
theorem a2o (n : Nat) (h : n < 256) : (b8 n).toNat = n:=by simp [b8]; omega
theorem b8t (c : UInt8) (n : Nat) (h : c.toNat = n) : c = b8 n:=by subst h; simp [b8]
set_option maxRecDepth 100000 in
theorem c5j (r : Nat) (h : Utf8.valid r = true) : enc r =
  if r < 128 then [b8 r] else if r < 2048 then [b8 (192 + r / 64),b8 (128 + r % 64)]
  else if r < 65536 then [b8 (224 + r / 4096),b8 (128 + r / 64 % 64),b8 (128 + r % 64)]
  else [b8 (240 + r / 262144),b8 (128 + r / 4096 % 64),b8 (128 + r / 64 % 64),b8 (128 + r % 64)]:=by
 unfold enc Utf8.encode
 simp only [h,if_true,Int.toNat_natCast]
 by_cases h1 : r < 128
 ·rw [if_pos h1,if_pos h1]; rfl
 ·rw [if_neg h1,if_neg h1]
  by_cases h2 : r < 2048
  ·rw [if_pos h2,if_pos h2]; rfl
  ·rw [if_neg h2,if_neg h2]
   by_cases h3 : r < 65536
   ·rw [if_pos h3,if_pos h3]; rfl
   ·rw [if_neg h3,if_neg h3]; rfl
theorem a3v (r : Nat) : Utf8.valid r = true ↔ r < 55296 ∨ (57344 ≤ r ∧ r ≤ 1114111):=by
 simp [Utf8.valid]; omega
theorem j6t (c : Nat) (h : c < 128) : a2s c = (1,0,0):=by unfold a2s; rw [if_pos h]
theorem j6k (c : Nat) (h : 194 ≤ c ∧ c < 224) : a2s c = (2,128,191):=by
 unfold a2s; rw [if_neg (by omega),if_neg (by omega),if_pos (by omega)]
theorem j5u (c : Nat) (h : 224 ≤ c ∧ c < 240) : a2s c = (3,if c = 224 then 160 else 128,if c = 237 then 159 else 191):=by
 unfold a2s; rw [if_neg (by omega),if_neg (by omega),if_neg (by omega)]
 by_cases h1 : c = 224
 ·rw [if_pos h1,if_pos h1,if_neg (by omega)]
 ·rw [if_neg h1,if_neg h1]
  by_cases h2 : c = 237
  ·rw [if_pos h2,if_pos h2]
  ·rw [if_neg h2,if_neg h2,if_pos (by omega)]
theorem j5f (c : Nat) (h : 240 ≤ c ∧ c < 245) : a2s c = (4,if c = 240 then 144 else 128,if c = 244 then 143 else 191):=by
 unfold a2s; rw [if_neg (by omega),if_neg (by omega),if_neg (by omega),if_neg (by omega),if_neg (by omega),if_neg (by omega)]
 by_cases h1 : c = 240
 ·rw [if_pos h1,if_pos h1,if_neg (by omega)]
 ·rw [if_neg h1,if_neg h1]
  by_cases h2 : c < 244
  ·rw [if_pos h2,if_neg (by omega)]
  ·rw [if_neg h2,if_pos (by omega),if_pos (by omega)]
theorem j5j (c : Nat) (h : (128 ≤ c ∧ c < 194) ∨ 245 ≤ c) : a2s c = (0,0,0):=by
 unfold a2s; rcases h with h | h
 ·rw [if_neg (by omega),if_pos (by omega)]
 ·rw [if_neg (by omega),if_neg (by omega),if_neg (by omega),if_neg (by omega),if_neg (by omega),if_neg (by omega),if_neg (by omega),if_neg (by omega),if_neg (by omega)]
theorem nx1 (b : UInt8) (t : List UInt8) (h : b.toNat < 128) : nx (b :: t) = (b.toNat,1,0):=by
 simp [nx,j6t _ h,nxGo]
theorem nx0 (b : UInt8) (t : List UInt8) (h : (128 ≤ b.toNat ∧ b.toNat < 194) ∨ 245 ≤ b.toNat) : nx (b :: t) = (0,0,12):=by
 simp [nx,j5j _ h]
theorem nx2 (b : UInt8) (t : List UInt8) (h : 194 ≤ b.toNat ∧ b.toNat < 224) : nx (b :: t) = nxGo 1 2 (b.toNat % 32) 128 191 t:=by
 simp [nx,j6k _ h]
theorem nx3 (b : UInt8) (t : List UInt8) (h : 224 ≤ b.toNat ∧ b.toNat < 240) : nx (b :: t) = nxGo 2 3 (b.toNat % 16) (if b.toNat = 224 then 160 else 128) (if b.toNat = 237 then 159 else 191) t:=by
 simp [nx,j5u _ h]
theorem nx4 (b : UInt8) (t : List UInt8) (h : 240 ≤ b.toNat ∧ b.toNat < 245) : nx (b :: t) = nxGo 3 4 (b.toNat % 8) (if b.toNat = 240 then 144 else 128) (if b.toNat = 244 then 143 else 191) t:=by
 simp [nx,j5f _ h]
theorem c6a (k sz r lo hi : Nat) (c : UInt8) (t : List UInt8) (h : c.toNat < lo ∨ hi < c.toNat) : nxGo (k + 1) sz r lo hi (c :: t) = (0,0,12):=by
 simp only [nxGo]; rw [if_pos h]
theorem a5s (k sz r lo hi : Nat) (c : UInt8) (t : List UInt8) (h : ¬ (c.toNat < lo ∨ hi < c.toNat)) : nxGo (k + 1) sz r lo hi (c :: t) = nxGo k sz (r * 64 + c.toNat % 64) 128 191 t:=by
 simp only [nxGo]; rw [if_neg h]
theorem g7r (r : Nat) (h : Utf8.valid r = true) (t : List UInt8) : nx (enc r ++ t) = (r,(enc r).length,0):=by
 have hv:=(a3v r).1 h
 rw [c5j r h]
 by_cases h1 : r < 128
 ·rw [if_pos h1]
  show nx (b8 r :: t) = _
  have e:=a2o r (by omega)
  rw [nx1 _ _ (by omega),e]; rfl
 ·rw [if_neg h1]
  by_cases h2 : r < 2048
  ·rw [if_pos h2]
   show nx (b8 (192 + r / 64) :: b8 (128 + r % 64) :: t) = _
   have e1:=a2o (192 + r / 64) (by omega)
   have e2:=a2o (128 + r % 64) (by omega)
   rw [nx2 _ _ (by omega),a5s _ _ _ _ _ _ _ (by omega),e1,e2]
   simp only [nxGo,List.length_cons,List.length_nil,Prod.mk.injEq]; exact ⟨by omega,trivial⟩
  ·rw [if_neg h2]
   by_cases h3 : r < 65536
   ·rw [if_pos h3]
    show nx (b8 (224 + r / 4096) :: b8 (128 + r / 64 % 64) :: b8 (128 + r % 64) :: t) = _
    have e1:=a2o (224 + r / 4096) (by omega)
    have e2:=a2o (128 + r / 64 % 64) (by omega)
    have e3:=a2o (128 + r % 64) (by omega)
    rw [nx3 _ _ (by omega),a5s _ _ _ _ _ _ _ (by rw [e1,e2]; split <;> split <;> omega),a5s _ _ _ _ _ _ _ (by omega),e1,e2,e3]
    simp only [nxGo,List.length_cons,List.length_nil,Prod.mk.injEq]; exact ⟨by omega,trivial⟩
   ·rw [if_neg h3]
    show nx (b8 (240 + r / 262144) :: b8 (128 + r / 4096 % 64) :: b8 (128 + r / 64 % 64) :: b8 (128 + r % 64) :: t) = _
    have e1:=a2o (240 + r / 262144) (by omega)
    have e2:=a2o (128 + r / 4096 % 64) (by omega)
    have e3:=a2o (128 + r / 64 % 64) (by omega)
    have e4:=a2o (128 + r % 64) (by omega)
    rw [nx4 _ _ (by omega),a5s _ _ _ _ _ _ _ (by rw [e1,e2]; split <;> split <;> omega),a5s _ _ _ _ _ _ _ (by omega),a5s _ _ _ _ _ _ _ (by omega),e1,e2,e3,e4]
    simp only [nxGo,List.length_cons,List.length_nil,Prod.mk.injEq]; exact ⟨by omega,trivial⟩
inductive g5z (l : List UInt8) : Prop
 | short : l = [] → nx l = (0,0,4) → g5z l
 | bad : nx l = (0,0,12) → g5z l
 | cut : nx l = (0,0,4) → l ≠ [] → l.length < 4 → g5z l
 | rune (r : Nat) (t : List UInt8) : Utf8.valid r = true → l = enc r ++ t → nx l = (r,(enc r).length,0) → g5z l
theorem h3z (l : List UInt8) : g5z l:=by
 match l with
 | []=>exact .short rfl rfl
 | b :: t=>
   have hb:=b.toNat_lt
   by_cases h1 : b.toNat < 128
   ·refine .rune b.toNat t ((a3v _).2 (by omega)) ?_ ?_
    ·rw [c5j _ ((a3v _).2 (by omega)),if_pos h1]; rw [← b8t b _ rfl]; rfl
    ·rw [c5j _ ((a3v _).2 (by omega)),if_pos h1,nx1 _ _ h1]; rfl
   by_cases h0 : (128 ≤ b.toNat ∧ b.toNat < 194) ∨ 245 ≤ b.toNat
   ·exact .bad (nx0 _ _ h0)
   by_cases h2 : b.toNat < 224
   ·have hn:=nx2 b t (by omega)
    match t with
    | []=>exact .cut hn (by simp) (by simp)
    | c :: t=>
      have hc:=c.toNat_lt
      by_cases g : c.toNat < 128 ∨ 191 < c.toNat
      ·exact .bad (hn.trans (c6a _ _ _ _ _ _ _ g))
      ·have hn:=hn.trans (a5s _ _ _ _ _ _ _ g)
       have hv : Utf8.valid ((b.toNat % 32 * 64 + c.toNat % 64 : Nat) : Int) = true:=(a3v _).2 (by omega)
       have he : enc ((b.toNat % 32 * 64 + c.toNat % 64 : Nat) : Int) = [b,c]:=by
        rw [c5j _ hv,if_neg (by omega),if_pos (by omega)]
        rw [← b8t b _ (by omega),← b8t c _ (by omega)]
       exact .rune _ t hv (by rw [he]; rfl) (by rw [he]; exact hn)
   by_cases h3 : b.toNat < 240
   ·have hn:=nx3 b t (by omega)
    match t with
    | []=>exact .cut hn (by simp) (by simp)
    | c :: t=>
      have hc:=c.toNat_lt
      by_cases g : c.toNat < (if b.toNat = 224 then 160 else 128) ∨ (if b.toNat = 237 then 159 else 191) < c.toNat
      ·exact .bad (hn.trans (c6a _ _ _ _ _ _ _ g))
      ·have hn:=hn.trans (a5s _ _ _ _ _ _ _ g)
       have g' : 128 ≤ c.toNat ∧ c.toNat ≤ 191 ∧ (b.toNat = 224 → 160 ≤ c.toNat) ∧ (b.toNat = 237 → c.toNat ≤ 159):=by
        revert g; split <;> split <;> omega
       clear g
       match t with
       | []=>exact .cut hn (by simp) (by simp)
       | d :: t=>
         have hd:=d.toNat_lt
         by_cases g : d.toNat < 128 ∨ 191 < d.toNat
         ·exact .bad (hn.trans (c6a _ _ _ _ _ _ _ g))
         ·have hn:=hn.trans (a5s _ _ _ _ _ _ _ g)
          have hv : Utf8.valid (((b.toNat % 16 * 64 + c.toNat % 64) * 64 + d.toNat % 64 : Nat) : Int) = true:=(a3v _).2 (by omega)
          have he : enc (((b.toNat % 16 * 64 + c.toNat % 64) * 64 + d.toNat % 64 : Nat) : Int) = [b,c,d]:=by
           rw [c5j _ hv,if_neg (by omega),if_neg (by omega),if_pos (by omega)]
           rw [← b8t b _ (by omega),← b8t c _ (by omega),← b8t d _ (by omega)]
          exact .rune _ t hv (by rw [he]; rfl) (by rw [he]; exact hn)
   ·have hn:=nx4 b t (by omega)
    match t with
    | []=>exact .cut hn (by simp) (by simp)
    | c :: t=>
      have hc:=c.toNat_lt
      by_cases g : c.toNat < (if b.toNat = 240 then 144 else 128) ∨ (if b.toNat = 244 then 143 else 191) < c.toNat
      ·exact .bad (hn.trans (c6a _ _ _ _ _ _ _ g))
      ·have hn:=hn.trans (a5s _ _ _ _ _ _ _ g)
       have g' : 128 ≤ c.toNat ∧ c.toNat ≤ 191 ∧ (b.toNat = 240 → 144 ≤ c.toNat) ∧ (b.toNat = 244 → c.toNat ≤ 143):=by
        revert g; split <;> split <;> omega
       clear g
       match t with
       | []=>exact .cut hn (by simp) (by simp)
       | d :: t=>
         have hd:=d.toNat_lt
         by_cases g : d.toNat < 128 ∨ 191 < d.toNat
         ·exact .bad (hn.trans (c6a _ _ _ _ _ _ _ g))
         ·have hn:=hn.trans (a5s _ _ _ _ _ _ _ g)
          match t with
          | []=>exact .cut hn (by simp) (by simp)
          | e :: t=>
            have hd:=e.toNat_lt
            by_cases g : e.toNat < 128 ∨ 191 < e.toNat
            ·exact .bad (hn.trans (c6a _ _ _ _ _ _ _ g))
            ·have hn:=hn.trans (a5s _ _ _ _ _ _ _ g)
             have hv : Utf8.valid ((((b.toNat % 8 * 64 + c.toNat % 64) * 64 + d.toNat % 64) * 64 + e.toNat % 64 : Nat) : Int) = true:=(a3v _).2 (by omega)
             have he : enc ((((b.toNat % 8 * 64 + c.toNat % 64) * 64 + d.toNat % 64) * 64 + e.toNat % 64 : Nat) : Int) = [b,c,d,e]:=by
              rw [c5j _ hv,if_neg (by omega),if_neg (by omega),if_neg (by omega)]
              rw [← b8t b _ (by omega),← b8t c _ (by omega),← b8t d _ (by omega),← b8t e _ (by omega)]
             exact .rune _ t hv (by rw [he]; rfl) (by rw [he]; exact hn)
attribute [irreducible] enc nx
end Go.Proofs.YtomedkaiefgbeaaGreatDoor
namespace Go.Proofs.YtomedkaiefgbeaaGreatDoor
open Go.RowKit
set_option linter.unusedVariables false
theorem j0g (r : Int) (w : World) (h : Utf8.valid r = true) :
  Calls Tryz.prog 348 #[.int .i64 r] w fun e w'=>e = .returned (.tuple #[.string (Utf8.encode r),.int .i64 0]) ∧ w = w':= by
 have hv : (0 ≤ r ∧ r < 55296) ∨ (57344 ≤ r ∧ r ≤ 1114111):=by
  simp [Utf8.valid] at h; omega
 clear h
 rcases hv with hv | hv
 all_goals
  go_enter Tryz.func348,Tryz.ntmps348
  go_wp2
  go_ret2
  exact ⟨rfl,rfl⟩
set_option maxRecDepth 100000 in
theorem lead_any (c : Nat) (w : World) (h : c < 256) :
  Calls Tryz.prog 371 #[.int .u8 c] w fun e w'=>e = .returned (.tuple #[.int .i64 (a2s c).1,.int .u8 (a2s c).2.1,.int .u8 (a2s c).2.2]) ∧ w = w':= by
 by_cases h0 : c < 128
 ·have e : a2s c = (1,0,0):=by unfold a2s; rw [if_pos h0]
  rw [e]; clear e
  go_enter Tryz.func371,Tryz.ntmps371
  go_wp2
  go_ret3
  exact ⟨rfl,rfl⟩
 by_cases h1 : c < 194
 ·have e : a2s c = (0,0,0):=by unfold a2s; rw [if_neg h0,if_pos h1]
  rw [e]; clear e
  go_enter Tryz.func371,Tryz.ntmps371
  go_wp2
  go_ret3
  exact ⟨rfl,rfl⟩
 by_cases h2 : c < 224
 ·have e : a2s c = (2,128,191):=by unfold a2s; rw [if_neg h0,if_neg h1,if_pos h2]
  rw [e]; clear e
  go_enter Tryz.func371,Tryz.ntmps371
  go_wp2
  go_ret3
  exact ⟨rfl,rfl⟩
 by_cases h3 : c = 224
 ·have e : a2s c = (3,160,191):=by unfold a2s; rw [if_neg h0,if_neg h1,if_neg h2,if_pos h3]
  rw [e]; clear e
  subst h3
  go_enter Tryz.func371,Tryz.ntmps371
  go_wp2
  go_ret3
  exact ⟨rfl,rfl⟩
 by_cases h4 : c = 237
 ·have e : a2s c = (3,128,159):=by unfold a2s; rw [if_neg h0,if_neg h1,if_neg h2,if_neg h3,if_pos h4]
  rw [e]; clear e
  subst h4
  go_enter Tryz.func371,Tryz.ntmps371
  go_wp2
  go_ret3
  exact ⟨rfl,rfl⟩
 by_cases h5 : c < 240
 ·have e : a2s c = (3,128,191):=by unfold a2s; rw [if_neg h0,if_neg h1,if_neg h2,if_neg h3,if_neg h4,if_pos h5]
  rw [e]; clear e
  go_enter Tryz.func371,Tryz.ntmps371
  go_wp2
  go_ret3
  exact ⟨rfl,rfl⟩
 by_cases h6 : c = 240
 ·have e : a2s c = (4,144,191):=by unfold a2s; rw [if_neg h0,if_neg h1,if_neg h2,if_neg h3,if_neg h4,if_neg h5,if_pos h6]
  rw [e]; clear e
  subst h6
  go_enter Tryz.func371,Tryz.ntmps371
  go_wp2
  go_ret3
  exact ⟨rfl,rfl⟩
 by_cases h7 : c < 244
 ·have e : a2s c = (4,128,191):=by unfold a2s; rw [if_neg h0,if_neg h1,if_neg h2,if_neg h3,if_neg h4,if_neg h5,if_neg h6,if_pos h7]
  rw [e]; clear e
  go_enter Tryz.func371,Tryz.ntmps371
  go_wp2
  go_ret3
  exact ⟨rfl,rfl⟩
 by_cases h8 : c = 244
 ·have e : a2s c = (4,128,143):=by unfold a2s; rw [if_neg h0,if_neg h1,if_neg h2,if_neg h3,if_neg h4,if_neg h5,if_neg h6,if_neg h7,if_pos h8]
  rw [e]; clear e
  subst h8
  go_enter Tryz.func371,Tryz.ntmps371
  go_wp2
  go_ret3
  exact ⟨rfl,rfl⟩
 have e : a2s c = (0,0,0):=by unfold a2s; rw [if_neg h0,if_neg h1,if_neg h2,if_neg h3,if_neg h4,if_neg h5,if_neg h6,if_neg h7,if_neg h8]
 rw [e]; clear e
 go_enter Tryz.func371,Tryz.ntmps371
 go_wp2
 go_ret3
 exact ⟨rfl,rfl⟩
theorem h8n (x y : Int) (hx₀ : 0 ≤ x) (hx : x % 64 = 0) (hx₁ : x < 4611686018427387904) (h₀ : 0 ≤ y) (h₁ : y < 64) : bits .or .i64 x y = x + y:=
 bits_join .i64 62 (by decide) (fun n h0 h1=>by rw [IntKind.wrap_i64]; omega) 6 x y hx₀ hx hx₁ h₀ h₁ (by omega)
theorem i4w (s : ByteArray) (i : Int) (w : World) (hs : s.size ≤ 1099511627776) (h : i < 0 ∨ s.size < i) :
  Calls Tryz.prog 361 #[.string s,.int .i64 i] w fun e w'=>e = .returned (.tuple #[.int .i64 0,.int .i64 0,.int .i64 1]) ∧ w = w':= by
 rcases h with h | h
 all_goals
  go_enter Tryz.func361,Tryz.ntmps361
  go_wp2_with fail
  go_ret3
  exact ⟨rfl,rfl⟩
theorem i4q (s : ByteArray) (w : World) (hs : s.size ≤ 1099511627776) :
  Calls Tryz.prog 361 #[.string s,.int .i64 s.size] w fun e w'=>e = .returned (.tuple #[.int .i64 0,.int .i64 0,.int .i64 4]) ∧ w = w':= by
 go_enter Tryz.func361,Tryz.ntmps361
 go_wp2_with fail
 go_ret3
 exact ⟨rfl,rfl⟩
theorem g2u (x : Int) (k : Nat) (hk : k ≤ 62) (h0 : 0 ≤ x) (h1 : x < 256) (m : Int) (hm : m = 2 ^ k - 1) : bits .and .i64 x m = x % 2 ^ k:=by
 subst hm
 exact bits_mask .i64 62 (by decide) (fun n h0 h1=>by rw [IntKind.wrap_i64]; omega) k hk x h0 (by omega)
theorem i9g (x sz : Nat) (hz : 2 ≤ sz ∧ sz ≤ 4) (hx : x < 256) : bits .and .i64 (x : Int) (255 / 2 ^ (sz + 1)) = ((x % 2 ^ (7 - sz) : Nat) : Int):=by
 obtain rfl | rfl | rfl : sz = 2 ∨ sz = 3 ∨ sz = 4:=by omega
 ·rw [g2u _ 5 (by omega) (by omega) (by omega) _ (by decide)]; simp
 ·rw [g2u _ 4 (by omega) (by omega) (by omega) _ (by decide)]; simp
 ·rw [g2u _ 3 (by omega) (by omega) (by omega) _ (by decide)]; simp
theorem i1s (x sz : Nat) (hz : 2 ≤ sz ∧ sz ≤ 4) : x % 2 ^ (7 - sz) < 128:=by
 obtain rfl | rfl | rfl : sz = 2 ∨ sz = 3 ∨ sz = 4:=by omega
 all_goals simp; omega
theorem drop_cons (s : ByteArray) (k : Nat) (h : k < s.size) : s.data.toList.drop k = s[k] :: s.data.toList.drop (k + 1):=
 List.drop_eq_getElem_cons (by simpa using h)
theorem drop_end (s : ByteArray) (k : Nat) (h : s.size ≤ k) : s.data.toList.drop k = []:=
 List.drop_eq_nil_of_le (by simpa using h)
def h8x (s : ByteArray) (i sz : Nat) (R : Nat × Nat × Nat) (rv zv ev lov hiv iv : Value) : Prop:=
 ∃ (r j lo hi : Nat),j < sz ∧ i + 1 + j ≤ s.size ∧ r < 128 * 64 ^ j ∧ lo < 256 ∧ hi < 256 ∧ rv = .int .i64 r ∧ zv = .int .i64 sz ∧ ev = .int .i64 0 ∧ lov = .int .u8 lo ∧ hiv = .int .u8 hi ∧
   iv = .int .i64 (i + 1 + j) ∧ nxGo (sz - 1 - j) sz r lo hi (s.data.toList.drop (i + 1 + j)) = R
set_option maxRecDepth 100000 in
theorem i3u (s : ByteArray) (i : Nat) (w : World) (hs : s.size ≤ 1099511627776) (hi : i < s.size) (lo hh : Nat)
  (hL : Hid (a2s s[i].toNat = (1,lo,hh))) (hlo : lo < 256) (hhh : hh < 256) :
  Calls Tryz.prog 361 #[.string s,.int .i64 i] w fun e w'=>e = .returned (.tuple #[.int .i64 s[i].toNat,.int .i64 1,.int .i64 0]) ∧ w = w':= by
 have hne : ((i : Int) == (s.size : Int)) = false:=by simp; omega
 have hb : s[i].toNat < 256:=s[i].toNat_lt
 have hi0 : decide ((i : Int) < 0) = false:=by simp
 go_enter Tryz.func361,Tryz.ntmps361
 go_wp2_with fail
 refine (lead_any _ _ hb).mono ?_
 rintro e w' ⟨rfl,rfl⟩
 rw [hL.out]
 go_wp2_with fail
 refine wp_loop_rounds 1 ?_; rw [rounds_succ]
 go_wp2_with fail
 go_ret3
 exact ⟨rfl,rfl⟩
set_option maxRecDepth 100000 in
theorem h9t (s : ByteArray) (i : Nat) (w : World) (hs : s.size ≤ 1099511627776) (hi : i < s.size) (sz lo hh : Nat) (hz : 2 ≤ sz ∧ sz ≤ 4)
  (R : Nat × Nat × Nat) (hL : Hid (a2s s[i].toNat = (sz,lo,hh))) (hlo : lo < 256) (hhh : hh < 256)
  (hR : Hid (nxGo (sz - 1) sz (s[i].toNat % 2 ^ (7 - sz)) lo hh (s.data.toList.drop (i + 1)) = R)) :
  Calls Tryz.prog 361 #[.string s,.int .i64 i] w fun e w'=>e = .returned (.tuple #[.int .i64 R.1,.int .i64 R.2.1,.int .i64 R.2.2]) ∧ w = w':= by
 have hne : ((i : Int) == (s.size : Int)) = false:=by simp; omega
 have hb : s[i].toNat < 256:=s[i].toNat_lt
 have hsz : ((sz : Int) == 0) = false:=by simp; omega
 have hi0 : decide ((i : Int) < 0) = false:=by simp
 have hd : decide ((1 : Int) < sz) = true:=by simp; omega
 have hS : h8x s i sz R (.int .i64 (bits .and .i64 s[i].toNat (255 / 2 ^ (sz + 1)))) (.int .i64 sz) (.int .i64 0) (.int .u8 lo) (.int .u8 hh) (.int .i64 (i + 1)):=
  ⟨s[i].toNat % 2 ^ (7 - sz),0,lo,hh,by omega,by omega,by have:=i1s s[i].toNat sz hz; omega,hlo,hhh,by rw [i9g _ _ hz hb],rfl,rfl,rfl,rfl,by simp,by simpa using hR.out⟩
 have HS:=Lib.hid hS; clear hS
 go_enter Tryz.func361,Tryz.ntmps361
 go_wp2_with fail
 refine (lead_any _ _ hb).mono ?_
 rintro e w' ⟨rfl,rfl⟩
 rw [hL.out]
 go_wp2_with fail
 go_loop [4,5,6,7,8,9] (fun rv zv ev lov hiv iv=>h8x s i sz R rv zv ev lov hiv iv) (fun _ _ _ _ _ iv=>i + sz - (intOf iv).toNat)
 case atStart=>exact HS.out
 case round=>
  obtain ⟨r,j,lo',hi',hj,hle,hr,hlo',hhi',rfl,rfl,rfl,rfl,rfl,rfl,hN⟩:=hrel
  have hr' : r < 33554432:=by
   obtain rfl | rfl | rfl | rfl : j = 0 ∨ j = 1 ∨ j = 2 ∨ j = 3:=by omega
   all_goals omega
  by_cases hm : j + 1 < sz
  ·obtain ⟨q,hq⟩ : ∃ q,sz - 1 - j = q + 1:=⟨sz - 2 - j,by omega⟩
   rw [hq] at hN
   by_cases he : i + 1 + j = s.size
   ·rw [drop_end s _ (by omega)] at hN
    have HN : Hid ((0,0,4) = R):=hN
    have he' : ((i : Int) + 1 + j == s.size) = true:=by simp; omega
    clear hN he hq HS
    go_wp2_with fail
    go_ret3
    rw [← HN.out]
    exact ⟨rfl,rfl⟩
   ·have hlt : i + 1 + j < s.size:=by omega
    have he' : ((i : Int) + 1 + j == s.size) = false:=by simp; omega
    rw [drop_cons s _ hlt] at hN
    have hN' : (if s[i + 1 + j].toNat < lo' ∨ hi' < s[i + 1 + j].toNat then (0,0,12) else nxGo q sz (r * 64 + s[i + 1 + j].toNat % 64) 128 191 (s.data.toList.drop (i + 1 + j + 1))) = R:=hN
    clear hN he
    by_cases hc : s[i + 1 + j].toNat < lo' ∨ hi' < s[i + 1 + j].toNat
    ·rw [if_pos hc] at hN'
     have HN:=Lib.hid hN'
     clear hN' hq HS
     rcases hc with hc | hc
     ·go_wp2_with fail
      go_ret3
      rw [← HN.out]
      exact ⟨rfl,rfl⟩
     ·by_cases hc2 : s[i + 1 + j].toNat < lo'
      all_goals
       go_wp2_with fail
       go_ret3
       rw [← HN.out]
       exact ⟨rfl,rfl⟩
    ·rw [if_neg hc] at hN'
     have HQ:=Lib.hid hq
     have hc1 : ¬ s[i + 1 + j].toNat < lo':= fun h=>hc (.inl h)
     have hc2 : ¬ hi' < s[i + 1 + j].toNat:=fun h=>hc (.inr h)
     have hb2 : s[i + 1 + j].toNat < 256:=s[i + 1 + j].toNat_lt
     have HN:=Lib.hid hN'
     clear hN' hq hc HS
     go_wp2_with fail
     refine ⟨⟨r * 64 + s[i + 1 + j].toNat % 64,j + 1,128,191,by omega,by omega,?_,by omega,by omega,?_,rfl,rfl,rfl,rfl,?_,?_⟩,?_⟩
     ·rw [Nat.pow_succ]; omega
     ·rw [h8n _ _ (by omega) (by omega) (by omega) (by omega) (by omega)]; go_num
     ·go_num
     ·have e1 : sz - 1 - (j + 1) = q:=by have:=HQ.out; omega
      rw [e1]; exact HN.out
     ·simp [intOf]; omega
  ·have hq : sz - 1 - j = 0:=by omega
   rw [hq] at hN
   have HN : Hid ((r,sz,0) = R):=hN
   clear hN hq HS
   go_wp2_with fail
   go_ret3
   rw [← HN.out]
   exact ⟨rfl,rfl⟩
end Go.Proofs.YtomedkaiefgbeaaGreatDoor
namespace Go.Proofs.YtomedkaiefgbeaaGreatDoor
set_option maxRecDepth 100000
set_option linter.unusedVariables false
def at0 (l : List UInt8) (k : Nat) : Nat:=(l.getD k 0).toNat
theorem e0l (s : ByteArray) (p k : Nat) : (s.get! (p + k)).toNat = at0 (s.data.toList.drop p) k:=by
 unfold at0
 congr 1
 rw [List.getD_eq_getElem?_getD,List.getElem?_drop,Array.getElem?_toList]
 show s.data[p + k]! = _
 rw [getElem!_def]
 rfl
theorem g9s (s : ByteArray) (p : Nat) (h : p ≤ s.size) : Utf8.decode s p =
  Lib.decodeN (s.data.toList.drop p).length (at0 (s.data.toList.drop p) 0) (at0 (s.data.toList.drop p) 1) (at0 (s.data.toList.drop p) 2) (at0 (s.data.toList.drop p) 3):=by
 rw [Lib.decode_at,← e0l,← e0l,← e0l,← e0l]
 have e : (s.data.toList.drop p).length = s.size - p:=by simp
 rw [e]; rfl
def decL (l : List UInt8) : Nat × Nat:=Lib.decodeN l.length (at0 l 0) (at0 l 1) (at0 l 2) (at0 l 3)
theorem h3i (l : List UInt8) (k : Nat) : at0 l k < 256:=UInt8.toNat_lt _
theorem i6s (r : Nat) (h : Utf8.valid r = true) (t : List UInt8) : decL (enc r ++ t) = (r,(enc r).length):=by
 have hv:=(a3v r).1 h
 rw [c5j r h]
 unfold decL at0
 by_cases h1 : r < 128
 ·rw [if_pos h1]
  have e:=a2o r (by omega)
  simp only [List.cons_append,List.nil_append,List.length_cons,List.getD_cons_zero,List.getD_cons_succ,e,List.length_nil]
  unfold Lib.decodeN; rw [if_pos h1]
 ·rw [if_neg h1]
  by_cases h2 : r < 2048
  ·rw [if_pos h2]
   have e1:=a2o (192 + r / 64) (by omega)
   have e2:=a2o (128 + r % 64) (by omega)
   simp only [List.cons_append,List.nil_append,List.length_cons,List.getD_cons_zero,List.getD_cons_succ,e1,e2,List.length_nil]
   unfold Lib.decodeN
   rw [if_neg (by omega),if_pos (by omega),if_pos (by omega)]
   simp only [Prod.mk.injEq]; exact ⟨by omega,trivial⟩
  ·rw [if_neg h2]
   by_cases h3 : r < 65536
   ·rw [if_pos h3]
    have e1:=a2o (224 + r / 4096) (by omega)
    have e2:=a2o (128 + r / 64 % 64) (by omega)
    have e3:=a2o (128 + r % 64) (by omega)
    simp only [List.cons_append,List.nil_append,List.length_cons,List.getD_cons_zero,List.getD_cons_succ,e1,e2,e3,List.length_nil]
    unfold Lib.decodeN
    rw [if_neg (by omega),if_neg (by omega),if_pos (by omega),if_pos (by omega)]
    simp only [Prod.mk.injEq]; exact ⟨by omega,trivial⟩
   ·rw [if_neg h3]
    have e1:=a2o (240 + r / 262144) (by omega)
    have e2:=a2o (128 + r / 4096 % 64) (by omega)
    have e3:=a2o (128 + r / 64 % 64) (by omega)
    have e4:=a2o (128 + r % 64) (by omega)
    simp only [List.cons_append,List.nil_append,List.length_cons,List.getD_cons_zero,List.getD_cons_succ,e1,e2,e3,e4,List.length_nil]
    unfold Lib.decodeN
    rw [if_neg (by omega),if_neg (by omega),if_neg (by omega),if_pos (by omega),if_pos (by omega)]
    simp only [Prod.mk.injEq]; exact ⟨by omega,trivial⟩
theorem j2d (b c : UInt8) (t : List UInt8) (r : Nat) (h : 128 ≤ r ∧ r < 2048) (h1 : 192 + r / 64 = b.toNat) (h2 : 128 + r % 64 = c.toNat) : (nx (b :: c :: t)).2.2 = 0:=by
 have hv : Utf8.valid (r : Int) = true:=(a3v _).2 (by omega)
 have he : enc r = [b,c]:=by
  rw [c5j _ hv,if_neg (by omega),if_pos (by omega),h1,h2,← b8t b _ rfl,← b8t c _ rfl]
 have:=g7r r hv t
 rw [he] at this
 rw [show b :: c :: t = [b,c] ++ t from rfl,this]
theorem i4u (b c d : UInt8) (t : List UInt8) (r : Nat) (h : 2048 ≤ r ∧ r < 65536) (hv : Utf8.valid r = true) (h1 : 224 + r / 4096 = b.toNat) (h2 : 128 + r / 64 % 64 = c.toNat) (h3 : 128 + r % 64 = d.toNat) : (nx (b :: c :: d :: t)).2.2 = 0:=by
 have he : enc r = [b,c,d]:=by
  rw [c5j _ hv,if_neg (by omega),if_neg (by omega),if_pos (by omega),h1,h2,h3,← b8t b _ rfl,← b8t c _ rfl,← b8t d _ rfl]
 have:=g7r r hv t
 rw [he] at this
 rw [show b :: c :: d :: t = [b,c,d] ++ t from rfl,this]
theorem j0x (b c d e : UInt8) (t : List UInt8) (r : Nat) (h : 65536 ≤ r) (hv : Utf8.valid r = true) (h1 : 240 + r / 262144 = b.toNat) (h2 : 128 + r / 4096 % 64 = c.toNat) (h3 : 128 + r / 64 % 64 = d.toNat) (h4 : 128 + r % 64 = e.toNat) : (nx (b :: c :: d :: e :: t)).2.2 = 0:=by
 have he : enc r = [b,c,d,e]:=by
  rw [c5j _ hv,if_neg (by omega),if_neg (by omega),if_neg (by omega),h1,h2,h3,h4,← b8t b _ rfl,← b8t c _ rfl,← b8t d _ rfl,← b8t e _ rfl]
 have:=g7r r hv t
 rw [he] at this
 rw [show b :: c :: d :: e :: t = [b,c,d,e] ++ t from rfl,this]
theorem decodeN_cases (n b0 b1 b2 b3 : Nat) (h0 : b0 < 256) (h1 : b1 < 256) (h2 : b2 < 256) (h3 : b3 < 256) :
  Lib.decodeN n b0 b1 b2 b3 = (65533,1) ∨ b0 < 128 ∨
  (1 < n ∧ ∃ r,(128 ≤ r ∧ r < 2048) ∧ 192 + r / 64 = b0 ∧ 128 + r % 64 = b1) ∨
  (2 < n ∧ ∃ r,(2048 ≤ r ∧ r < 65536) ∧ (r < 55296 ∨ (57344 ≤ r ∧ r ≤ 1114111)) ∧ 224 + r / 4096 = b0 ∧ 128 + r / 64 % 64 = b1 ∧ 128 + r % 64 = b2) ∨
  (3 < n ∧ ∃ r,65536 ≤ r ∧ (r < 55296 ∨ (57344 ≤ r ∧ r ≤ 1114111)) ∧ 240 + r / 262144 = b0 ∧ 128 + r / 4096 % 64 = b1 ∧ 128 + r / 64 % 64 = b2 ∧ 128 + r % 64 = b3):=by
 by_cases g0 : b0 < 128
 ·exact .inr (.inl g0)
 unfold Lib.decodeN
 rw [if_neg g0]
 by_cases g1 : b0 / 32 = 6 ∧ (1 < n ∧ b1 / 64 = 2)
 ·rw [if_pos g1]
  by_cases g2 : b0 % 32 * 64 + b1 % 64 ≥ 128
  ·exact .inr (.inr (.inl ⟨by omega,b0 % 32 * 64 + b1 % 64,by omega,by omega,by omega⟩))
  ·rw [if_neg g2]; exact .inl rfl
 rw [if_neg g1]
 by_cases g1 : b0 / 16 = 14 ∧ (1 < n ∧ b1 / 64 = 2) ∧ (2 < n ∧ b2 / 64 = 2)
 ·rw [if_pos g1]
  by_cases g2 : b0 % 16 * 4096 + b1 % 64 * 64 + b2 % 64 ≥ 2048 ∧ (b0 % 16 * 4096 + b1 % 64 * 64 + b2 % 64 < 55296 ∨ (57344 ≤ b0 % 16 * 4096 + b1 % 64 * 64 + b2 % 64 ∧ b0 % 16 * 4096 + b1 % 64 * 64 + b2 % 64 ≤ 1114111))
  ·exact .inr (.inr (.inr (.inl ⟨by omega,b0 % 16 * 4096 + b1 % 64 * 64 + b2 % 64,by omega,g2.2,by omega,by omega,by omega⟩)))
  ·rw [if_neg g2]; exact .inl rfl
 rw [if_neg g1]
 by_cases g1 : b0 / 8 = 30 ∧ (1 < n ∧ b1 / 64 = 2) ∧ (2 < n ∧ b2 / 64 = 2) ∧ (3 < n ∧ b3 / 64 = 2)
 ·rw [if_pos g1]
  by_cases g2 : b0 % 8 * 262144 + b1 % 64 * 4096 + b2 % 64 * 64 + b3 % 64 ≥ 65536 ∧ (b0 % 8 * 262144 + b1 % 64 * 4096 + b2 % 64 * 64 + b3 % 64 < 55296 ∨ (57344 ≤ b0 % 8 * 262144 + b1 % 64 * 4096 + b2 % 64 * 64 + b3 % 64 ∧ b0 % 8 * 262144 + b1 % 64 * 4096 + b2 % 64 * 64 + b3 % 64 ≤ 1114111))
  ·exact .inr (.inr (.inr (.inr ⟨by omega,b0 % 8 * 262144 + b1 % 64 * 4096 + b2 % 64 * 64 + b3 % 64,by omega,g2.2,by omega,by omega,by omega,by omega⟩)))
  ·rw [if_neg g2]; exact .inl rfl
 rw [if_neg g1]
 exact .inl rfl
theorem i4f (l : List UInt8) (hl : l ≠ []) (h : (nx l).2.2 ≠ 0) : decL l = (65533,1):=by
 rcases decodeN_cases l.length (at0 l 0) (at0 l 1) (at0 l 2) (at0 l 3) (h3i _ _) (h3i _ _) (h3i _ _) (h3i _ _) with g | g | ⟨hn,r,g⟩ | ⟨hn,r,g⟩ | ⟨hn,r,g⟩
 ·exact g
 ·match l with
  | []=>exact absurd rfl hl
  | b :: t=>exact (h (by rw [nx1 b t g])).elim
 ·match l with
  | []=>exact absurd rfl hl
  | [b]=>simp at hn
  | b :: c :: t=>exact (h (j2d b c t r g.1 g.2.1 g.2.2)).elim
 ·match l with
  | []=>exact absurd rfl hl
  | [b]=>simp at hn
  | [b,c]=>simp at hn
  | b :: c :: d :: t=>exact (h (i4u b c d t r g.1 ((a3v r).2 g.2.1) g.2.2.1 g.2.2.2.1 g.2.2.2.2)).elim
 ·match l with
  | []=>exact absurd rfl hl
  | [b]=>simp at hn
  | [b,c]=>simp at hn
  | [b,c,d]=>simp at hn
  | b :: c :: d :: e :: t=>exact (h (j0x b c d e t r g.1 ((a3v r).2 g.2.1) g.2.2.1 g.2.2.2.1 g.2.2.2.2.1 g.2.2.2.2.2)).elim
theorem d6n (r : Nat) (h : Utf8.valid r = true) : 1 ≤ (enc r).length ∧ (enc r).length ≤ 4:=by
 rw [c5j r h]
 split
 ·simp
 ·split
  ·simp
  ·split <;> simp
theorem i1x : enc 65533 = [239,191,189]:=by decide +kernel
theorem h6d (t : List UInt8) : nx ([239,191,189] ++ t) = (65533,3,0):=by
 have:=g7r 65533 (by decide) t
 rw [show enc ((65533 : Nat) : Int) = [239,191,189] from i1x] at this
 exact this
def lenF : Nat → List UInt8 → Option Nat
 | 0,l=>if l.isEmpty then some 0 else none
 | f + 1,l=>if l.isEmpty then some 0 else if (nx l).2.2 = 0 then (lenF f (l.drop (nx l).2.1)).map (· + 1) else none
def lenU (l : List UInt8) : Option Nat:=lenF l.length l
theorem e0o (f : Nat) : lenF f [] = some 0:=by cases f <;> rfl
theorem i0r (f g : Nat) (l : List UInt8) (hf : l.length ≤ f) (hg : l.length ≤ g) : lenF f l = lenF g l:=by
 induction f generalizing g l with
 | zero=>
   obtain rfl : l = []:=List.eq_nil_of_length_eq_zero (by omega)
   rw [e0o,e0o]
 | succ f ih=>
   match l with
   | []=>rw [e0o,e0o]
   | b :: t=>
     cases g with
     | zero=>simp at hg
     | succ g=>
       simp only [lenF,List.isEmpty_cons,Bool.false_eq_true,if_false]
       split
       ·rename_i h0
        have hn : 1 ≤ (nx (b :: t)).2.1:=by
         cases h3z (b :: t) with
         | short h _=>simp at h
         | bad h=>rw [h] at h0; simp at h0
         | cut h _ _=>rw [h] at h0; simp at h0
         | rune r u hv _ hx=>rw [hx]; exact (d6n r hv).1
        rw [ih g _ (by simp at hf ⊢; omega) (by simp at hg ⊢; omega)]
       ·rfl
theorem i5y : lenU [] = some 0:=rfl
theorem i3z (l : List UInt8) (hl : l ≠ []) (h : (nx l).2.2 ≠ 0) : lenU l = none:=by
 unfold lenU
 match l with
 | []=>exact absurd rfl hl
 | b :: t=>simp only [List.length_cons,lenF,List.isEmpty_cons,Bool.false_eq_true,if_false,if_neg h]
theorem i4v (r : Nat) (hv : Utf8.valid r = true) (t : List UInt8) : lenU (enc r ++ t) = (lenU t).map (· + 1):=by
 have hx:=g7r r hv t
 have hl:=(d6n r hv).1
 unfold lenU
 obtain ⟨b,u,hb⟩ : ∃ b u,enc r ++ t = b :: u:=by
  match h : enc r with
  | []=>rw [h] at hl; simp at hl
  | b :: u=>exact ⟨b,u ++ t,rfl⟩
 have hlen : (enc r ++ t).length = u.length + 1:=by rw [hb]; rfl
 have hd : (b :: u).drop (enc r).length = t:=by rw [← hb]; simp
 rw [hb] at hx ⊢
 simp only [List.length_cons,lenF,List.isEmpty_cons,Bool.false_eq_true,if_false]
 rw [hx]
 simp only [if_true]
 rw [hd,i0r u.length t.length t (by simp at hlen; omega) (Nat.le_refl _)]
end Go.Proofs.YtomedkaiefgbeaaGreatDoor
namespace Go.Proofs.YtomedkaiefgbeaaGreatDoor
open Go.RowKit
set_option linter.unusedVariables false
set_option maxRecDepth 100000
theorem i6l (s : ByteArray) (i : Nat) (w : World) (hs : s.size ≤ 1099511627776) (hi : i < s.size) (lo hh : Nat)
  (hL : Hid (a2s s[i].toNat = (0,lo,hh))) :
  Calls Tryz.prog 361 #[.string s,.int .i64 i] w fun e w'=>e = .returned (.tuple #[.int .i64 0,.int .i64 0,.int .i64 12]) ∧ w = w':= by
 have hne : ((i : Int) == (s.size : Int)) = false:=by simp; omega
 have hb : s[i].toNat < 256:=s[i].toNat_lt
 have hi0 : decide ((i : Int) < 0) = false:=by simp
 go_enter Tryz.func361,Tryz.ntmps361
 go_wp2_with fail
 refine (lead_any _ _ hb).mono ?_
 rintro e w' ⟨rfl,rfl⟩
 rw [hL.out]
 go_wp2_with fail
 go_ret3
 exact ⟨rfl,rfl⟩
theorem next_any (s : ByteArray) (i : Int) (w : World) (hs : s.size ≤ 1099511627776) :
  Calls Tryz.prog 361 #[.string s,.int .i64 i] w fun e w'=>e = .returned (.tuple #[.int .i64 (nxAt s.data.toList i).1,.int .i64 (nxAt s.data.toList i).2.1,.int .i64 (nxAt s.data.toList i).2.2]) ∧ w = w':= by
 have hlen : s.data.toList.length = s.size:=by simp
 by_cases h : i < 0 ∨ (s.size : Int) < i
 ·have e : nxAt s.data.toList i = (0,0,1):=by unfold nxAt; rw [if_pos (by rw [hlen]; exact h)]
  rw [e]
  exact i4w s i w hs h
 ·have e : nxAt s.data.toList i = nx (s.data.toList.drop i.toNat):=by unfold nxAt; rw [if_neg (by rw [hlen]; exact h)]
  rw [e]
  obtain ⟨n,rfl⟩:=Int.eq_ofNat_of_zero_le (show 0 ≤ i by omega)
  rw [Int.toNat_natCast]
  by_cases hn : n = s.size
  ·subst hn
   rw [drop_end s _ (Nat.le_refl _),show nx [] = (0,0,4) from by rw [nx]]
   exact i4q s w hs
  ·have hlt : n < s.size:=by omega
   rw [drop_cons s n hlt]
   obtain ⟨hl1,hl2⟩:=h9z s[n].toNat
   have hc:=g9z s[n].toNat
   obtain ⟨lo,hh,sz,hL⟩ : ∃ lo hh sz,a2s s[n].toNat = (sz,lo,hh):=⟨_,_,_,rfl⟩
   have hz : sz = 0 ∨ sz = 1 ∨ (2 ≤ sz ∧ sz ≤ 4):=by rw [hL] at hc; simp only at hc; omega
   rw [hL] at hl1 hl2
   rcases hz with rfl | rfl | hz
   ·have e2 : nx (s[n] :: s.data.toList.drop (n + 1)) = (0,0,12):=by rw [nx,hL]; rfl
    rw [e2]
    exact i6l s n w hs hlt lo hh hL
   ·have e2 : nx (s[n] :: s.data.toList.drop (n + 1)) = (s[n].toNat,1,0):=by rw [nx,hL]; rfl
    rw [e2]
    exact i3u s n w hs hlt lo hh hL hl1 hl2
   ·refine h9t s n w hs hlt sz lo hh hz _ hL hl1 hl2 ?_
    show nxGo _ _ _ _ _ _ = _
    rw [nx,hL]
    simp only
    rw [if_neg (by omega),if_neg (by omega)]
theorem h2j {a b : Bool} (h : a = b) : Ending.returned (.bool a) = .returned (.bool b):=by rw [h]
theorem hasPrefix (s p : ByteArray) (w : World) (hs : s.size ≤ 1099511627776) (hp : p.size ≤ 1099511627776) :
  Calls Tryz.prog 168 #[.string s,.string p] w fun e w'=>e = .returned (.bool (p.data.toList.isPrefixOf s.data.toList)) ∧ w = w':= by
 have key:=Lib.hasPrefix_of_take s.data.toList p.data.toList
 rw [← Lib.size_eq,← Lib.size_eq] at key
 unfold Lib.hasPrefix at key
 have HK:=Lib.hid key
 clear key
 by_cases h : p.size ≤ s.size
 ·have hX : Hid (((s.extract 0 p.size).toList == p.toList) = p.data.toList.isPrefixOf s.data.toList):=by
   show _ = _
   rw [← HK.out,Lib.extract_toList,Lib.toList_data]; simp [h]
  clear HK
  go_enter Tryz.func168,Tryz.ntmps168
  go_wp2
  go_ret
  exact ⟨h2j hX.out,rfl⟩
 ·have hX : Hid (false = p.data.toList.isPrefixOf s.data.toList):=by
   show _ = _
   rw [← HK.out]; simp [h]
  clear HK
  go_enter Tryz.func168,Tryz.ntmps168
  go_wp2
  go_ret
  exact ⟨h2j hX.out,rfl⟩
theorem d6v (s p : ByteArray) (b : Bool) (w : World) (hs : s.size ≤ 1099511627776) (hp : p.size ≤ 1099511627776) (h : p.data.toList.isPrefixOf s.data.toList = b) :
  Calls Tryz.prog 168 #[.string s,.string p] w fun e w'=>e = .returned (.bool b) ∧ w = w':= by
 subst h; exact hasPrefix s p w hs hp
def j3u (s : ByteArray) (w0 : World) (nv : Value) (a b : Value) (w' : World) : Prop:=
 ∃ (pos n : Nat),pos ≤ s.size ∧ n ≤ pos ∧ w' = w0.iter s pos ∧ nv = .int .i64 n ∧ a = .int .i64 0 ∧ b = .bool false ∧ lenU s.data.toList = (lenU (s.data.toList.drop pos)).map (· + n)
def j1j (s : ByteArray) (w : World) (e : Ending) (w' : World) : Prop:=
 e = .returned (.tuple #[.int .i64 ((lenU s.data.toList).getD 0 : Nat),.bool (lenU s.data.toList).isSome]) ∧ ∃ pos,w' = w.iter s pos
theorem len_any (s : ByteArray) (w : World) (hs : s.size ≤ 1099511627776) :
  Calls Tryz.prog 106 #[.string s] w (j1j s w):=by
 go_enter Tryz.func106,Tryz.ntmps106
 go_wp2_with fail
 go_loopw [4,2,3] (fun n a b w'=>j3u s w n a b w') (fun _ _ _ w'=>s.size - w'.iterPos w.heap.size)
 case atStart=>exact ⟨0,0,by omega,by omega,rfl,rfl,rfl,rfl,by simp⟩
 case round=>
  obtain ⟨pos,n,hpos,hn,rfl,rfl,rfl,rfl,hl⟩:=hrel
  have HL:=Lib.hid hl; clear hl
  by_cases hp : pos < s.size
  ·have hd : Utf8.decode s pos = decL (s.data.toList.drop pos):=g9s s pos hpos
   have hne : s.data.toList.drop pos ≠ []:=by rw [drop_cons s pos hp]; simp
   by_cases h0 : (nx (s.data.toList.drop pos)).2.2 = 0
   ·
    obtain ⟨r,t,hv,hl,hx⟩ : ∃ (r : Nat) (t : List UInt8),Utf8.valid r = true ∧ s.data.toList.drop pos = enc r ++ t ∧ nx (s.data.toList.drop pos) = (r,(enc r).length,0):=by
     cases h3z (s.data.toList.drop pos) with
     | short h _=>exact absurd h hne
     | bad h=>rw [h] at h0; simp at h0
     | cut h _ _=>rw [h] at h0; simp at h0
     | rune r t hv hl hx=>exact ⟨r,t,hv,hl,hx⟩
    rw [hl,i6s r hv t] at hd
    have hm:=d6n r hv
    have ht : s.data.toList.drop (pos + (enc r).length) = t:=by rw [← List.drop_drop,hl]; simp
    have hle : pos + (enc r).length ≤ s.size:=by
     have:=congrArg List.length hl; simp at this; omega
    have hrb : r ≤ 1114111:=by have:=(a3v r).1 hv; omega
    have HL2 : Hid (lenU s.data.toList = (lenU t).map (· + (n + 1))):=by
     show _ = _
     rw [HL.out,hl,i4v r hv t,Option.map_map]
     exact congrArg (fun f=>Option.map f (lenU t)) (funext fun k=>by simp only [Function.comp]; omega)
    have HP : Hid (r = 65533 → List.isPrefixOf [239,191,189] (s.data.toList.drop pos) = true):=fun e=>by
     rw [hl,e,show enc ((65533 : Nat) : Int) = [239,191,189] from i1x]; simp
    have HT:=Lib.hid ht
    generalize hmm : (enc r).length = m at *
    have hnx : ∀ ty,(Instr.next (.pointer (some ⟨w.heap.size,0,none⟩)) true ty).run Tryz.prog (w.iter s pos) = .ok (.tuple #[.bool true,.int .i64 pos,.int .i32 r]) (w.iter s (pos + m)):=
     fun ty=>by have:=run_next_any (P:=Tryz.prog) w s pos ty hp; rw [hd] at this; exact this
    clear HL hd hne h0 hl hx hv ht hmm
    by_cases h5 : r = 65533
    ·have hp2:=HP.out h5
     have HP2 : Hid (List.isPrefixOf [239,191,189] (s.extract pos s.size).data.toList = true):=by
      show _ = _
      rw [Lib.extract_to_end]; exact hp2
     subst h5
     clear HP hp2
     go_wp2_with fail
     refine (d6v _ _ true _ (by simp; omega) (by decide) HP2.out).mono ?_
     rintro e w' ⟨rfl,rfl⟩
     go_wp2_with fail
     go_roundw
     case rel=>exact ⟨pos + m,n + 1,by omega,by omega,rfl,by go_num,rfl,rfl,by rw [HT.out]; exact HL2.out⟩
     case measure=>simp; omega
    ·have h5' : ((r : Int) == 65533) = false:=by simp; omega
     clear HP h5
     go_wp2_with fail
     go_roundw
     case rel=>exact ⟨pos + m,n + 1,by omega,by omega,rfl,by go_num,rfl,rfl,by rw [HT.out]; exact HL2.out⟩
     case measure=>simp; omega
   ·
    rw [i4f _ hne h0] at hd
    have HL2 : Hid (lenU s.data.toList = none):=by
     show _ = _
     rw [HL.out,i3z _ hne h0]; rfl
    have HP2 : Hid (List.isPrefixOf [239,191,189] (s.extract pos s.size).data.toList = false):=by
     show _ = _
     rw [Lib.extract_to_end]
     rw [Bool.eq_false_iff]
     intro hc
     obtain ⟨t,ht⟩:=List.isPrefixOf_iff_prefix.1 hc
     rw [← ht,h6d] at h0
     exact h0 rfl
    have hnx : ∀ ty,(Instr.next (.pointer (some ⟨w.heap.size,0,none⟩)) true ty).run Tryz.prog (w.iter s pos) = .ok (.tuple #[.bool true,.int .i64 pos,.int .i32 65533]) (w.iter s (pos + 1)):=
     fun ty=>by have:=run_next_any (P:=Tryz.prog) w s pos ty hp; rw [hd] at this; exact this
    clear HL hd hne h0
    go_wp2_with fail
    refine (d6v _ _ false _ (by simp; omega) (by decide) HP2.out).mono ?_
    rintro e w' ⟨rfl,rfl⟩
    go_wp2_with fail
    go_ret2
    refine ⟨?_,_,rfl⟩
    rw [HL2.out]; rfl
  ·have hnx : ∀ ty,(Instr.next (.pointer (some ⟨w.heap.size,0,none⟩)) true ty).run Tryz.prog (w.iter s pos) = _:=fun ty=>run_next_end w s pos ty hp
   go_wp2_with fail
   go_ret2
   have e:=HL.out
   rw [drop_end s _ (by omega),i5y] at e
   refine ⟨?_,_,rfl⟩
   rw [e]; simp
theorem h6i (w : World) (s : ByteArray) (pos : Nat) : Below w.heap.size w (w.iter s pos):=(Below.refl _ _).alloc (Nat.le_refl _) _
theorem i0t (s : ByteArray) (w : World) (hs : s.size ≤ 1099511627776) :
  Calls Tryz.prog 106 #[.string s] w fun e w'=>e = .returned (.tuple #[.int .i64 ((lenU s.data.toList).getD 0 : Nat),.bool (lenU s.data.toList).isSome]) ∧ Below w.heap.size w w':=
 (len_any s w hs).mono fun _ _ ⟨he,pos,hw⟩=>⟨he,by rw [hw]; exact h6i _ _ _⟩
theorem e0q (s : ByteArray) (w : World) (hs : s.size ≤ 1099511627776) :
  Calls Tryz.prog 56 #[.string s] w fun e w'=>e = .returned (.bool (lenU s.data.toList).isSome) ∧ Below w.heap.size w w':= by
 go_enter Tryz.func56,Tryz.ntmps56
 go_wp2_with fail
 refine (i0t s _ hs).mono ?_
 rintro e w1 ⟨rfl,hb⟩
 go_wp2_with fail
 go_ret
 exact ⟨rfl,hb⟩
theorem h3d (s : ByteArray) (b : Bool) (w : World) (hs : s.size ≤ 1099511627776) (h : (lenU s.data.toList).isSome = b) :
  Calls Tryz.prog 56 #[.string s] w fun e w'=>e = .returned (.bool b) ∧ Below w.heap.size w w':= by
 subst h; exact e0q s w hs
theorem h7m (s : ByteArray) (i : Int) (r z e : Nat) (w : World) (hs : s.size ≤ 1099511627776) (h : nxAt s.data.toList i = (r,z,e)) :
  Calls Tryz.prog 361 #[.string s,.int .i64 i] w fun e' w'=>e' = .returned (.tuple #[.int .i64 r,.int .i64 z,.int .i64 e]) ∧ w = w':= by
 have:=next_any s i w hs
 rw [h] at this
 exact this
theorem c7k {w w' : World} (h : Below w.heap.size w w') : w.grownBy w' none:=⟨h.os,h.tape,h.output,h.size,fun k hk _=>h.block k hk⟩
theorem i1q (r : Int) (E : ByteArray) (w : World) (h : Utf8.valid r = true) (hE : Utf8.encode r = E) :
  Calls Tryz.prog 348 #[.int .i64 r] w fun e w'=>e = .returned (.tuple #[.string E,.int .i64 0]) ∧ w = w':= by
 subst hE; exact j0g r w h
theorem i6f (q : Nat) : (Utf8.encode (q : Int)).size = (enc q).length:=by unfold enc; rw [Lib.size_eq]
theorem i4k (q : Nat) : (Utf8.encode (q : Int)).data.toList = enc q:=by unfold enc; rfl
end Go.Proofs.YtomedkaiefgbeaaGreatDoor
