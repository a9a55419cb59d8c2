/- Contracts of library functions over this translation. No conditions. -/
import Derived.Test.YtomedkaiefgbeaaGreatDoorEvC
import Derived.Test.YtomedkaiefgbeaaGreatDoorCn
import Derived.Test.YtomedkaiefgbeaaGreatDoorUE
set_option linter.unusedVariables false
set_option linter.unusedSimpArgs false
namespace Go.Proofs.YtomedkaiefgbeaaGreatDoor
open Go.Ev Go.RowKit
set_option maxRecDepth 1000000
set_option linter.unusedVariables false
noncomputable section
noncomputable def ints (k : IntKind) (l : List Nat) : List AV:=l.map fun n=>.int k (.ofNat n)
noncomputable def glT (g : Nat) : Option (List AV):=
 match Nat.beq g b0b with
 | true=>some (ofBytes hexDigits)
 | false=>match Nat.beq g a5n with
   | true=>some (hI.map iw)
   | false=>match Nat.beq g a4x with
     | true=>some (kR.map iw)
     | false=>match Nat.beq g c9f with
       | true=>some [.str [114,111,111,116],.str [115,110,97,112,115,104,111,116],.str [116,97,114,103,101,116,115]]
       | false=>match Nat.beq g b4k with
         | true=>some (ints .i64 [0,31,59,90,120,151,181,212,243,273,304,334,365])
         | false=>match Nat.beq g a4y with
           | true=>some (ints .u64 [1,10,100,1000,10000,100000,1000000,10000000,100000000,1000000000,10000000000,100000000000,1000000000000,10000000000000,100000000000000,1000000000000000,10000000000000000,100000000000000000,1000000000000000000,10000000000000000000])
           | false=>none
noncomputable def j0s (f : FuncId) : Option (List AV → St → Option (AV × St)):=match Nat.beq f a3c with
 | true=>some c9e
 | false=>none
noncomputable def CC : Ctx:=b2u Tryz.prog glT (fun _=>false) j0s
theorem a7z : ∀ n l,CC.gl n = some l → a1h 0 l = true:=by
 intro n l h
 change glT n = some l at h
 unfold glT at h
 repeat' split at h
 all_goals first
  | (cases h; done)
  | (simp only [Option.some.injEq] at h; subst h; kernel_rfl)
theorem j1d : h4p CC:=by
 intro f h hh
 change j0s f = some h at hh
 unfold j0s at hh
 split at hh
 ·rename_i hf
  have:=Nat.eq_of_beq_eq_true hf
  subst this
  cases hh
  exact g7g (C:=CC) rfl
 ·cases hh
theorem h3e : a3k CC (semF CC):=i2r d8e (d3g _ _ _ _) j1d
noncomputable def CR : Ctx:=b2u Tryz.prog glT (fun _=>true) (fun _=>none)
theorem j5s (n : Nat) : a3k CR (evF CR n):=e0g d8e (d3g _ _ _ _) (fun f h hh=>by simp [b2u] at hh) n
theorem d3o {f : FuncId} (h1 : resQ (evF CR 100 f [.nils] []) .nils = true) (h2 : resQ (evF CR 100 f [.emp] []) (.xsl 0 []) = true) : POK CC f c9c:=h5x (C:=CR) (j5s 100) a7z h1 h2
theorem ok0 : Ok []:=rfl
theorem i1r : h2a CC where
 new:=b5j (by kernel_rfl) (by kernel_rfl) (by kernel_rfl) rfl rfl
 sum:=b5j (by kernel_rfl) (by kernel_rfl) (by kernel_rfl) rfl rfl
 write:=b5j (by kernel_rfl) (by kernel_rfl) (by kernel_rfl) rfl rfl
 mix:=b5j (by kernel_rfl) (by kernel_rfl) (by kernel_rfl) rfl rfl
 rot:=b5j (by kernel_rfl) (by kernel_rfl) (by kernel_rfl) rfl rfl
 sumF:=b5j (by kernel_rfl) (by kernel_rfl) (by kernel_rfl) rfl rfl
 digest:=b5j (by kernel_rfl) (by kernel_rfl) (by kernel_rfl) rfl rfl
 encode:=b5j (by kernel_rfl) (by kernel_rfl) (by kernel_rfl) rfl rfl
 gr:=rfl
 gi:=rfl
 gd:=rfl
 rep:=fun n hn σ=>by
  have hp : CC.prim a3c = some c9e:=rfl
  rw [h0e]
  unfold funF
  rw [hp]
  have hb : Nat.blt n 64 = true:=Nat.ble_eq_true_of_le hn
  change c9e [.str [0],.int .i64 (.ofNat n)] σ = _
  unfold c9e
  simp only [hb]
  rfl
theorem j4n : i6z CC where
 sha:=i1r
 block:=b5j (by kernel_rfl) (by kernel_rfl) (by kernel_rfl) rfl rfl
 combine:=b5j (by kernel_rfl) (by kernel_rfl) (by kernel_rfl) rfl rfl
 of:=b5j (by kernel_rfl) (by kernel_rfl) (by kernel_rfl) rfl rfl
 of1:=b5j (by kernel_rfl) (by kernel_rfl) (by kernel_rfl) rfl rfl
 of2:=b5j (by kernel_rfl) (by kernel_rfl) (by kernel_rfl) rfl rfl
theorem j4b : POK CC a2d (pStr fun s=>.str (b1i s)):=g2q h3e a7z _ fun s hs=>g0t i1r s hs [] ok0
theorem j3q : POK CC a1j (i4c fun s t=>.str (hmac s t)):=i5f h3e a7z _ fun s t hs ht=>j2n j4n s t (by omega) ht [] ok0
theorem i3y : POK CC b2a (pStr fun s=>.bool (s.all h0x)):=g2q h3e a7z _ fun s hs=>j3h (b5j (by kernel_rfl) (by kernel_rfl) (by kernel_rfl) rfl rfl) (b5j (by kernel_rfl) (by kernel_rfl) (by kernel_rfl) rfl rfl) s hs []
theorem g4i : POK CC a9r (pStr fun s=>.str (b7c s)):=g2q h3e a7z _ fun s hs=>hex_Encode i1r.encode rfl s hs [] ok0
theorem j4a : POK CC a1z pCmp:=j0e fun args w=>by
 rw [show CC.P = Tryz.prog from rfl,run_callFunc_extern Tryz.func228 (by kernel_rfl) (by kernel_rfl) (by kernel_rfl) (e:=Extern.BytealgCompare.compare) (by kernel_rfl)]
noncomputable def j6v (c : Nat) (r : Option (AV × St)) : Bool:=resQ r (.str (List.replicate c 48))
theorem i9v : (List.range 5).all (fun c=>j6v c (evF (b2u Tryz.prog glT (fun _=>false) (fun _=>none)) 1000 141 [.str [48],.int .i64 (Int.ofNat c)] [])) = true:=by kernel_rfl
noncomputable def i9k (args : List AV) (σ : St) : Option (AV × St):=
 match args with
 | [.str [b],.int .i64 (.ofNat n)]=>match andR (Nat.beq b.toNat 48) (Nat.ble n 4) with
   | true=>some (.str (List.replicate n 48),σ)
   | false=>none
 | _=>none
theorem j0j : POK CC a3c i9k:=by
 intro args σ v σ' h g w args' ha hw hg
 unfold i9k at h
 split at h
 ·rename_i b n
  split at h
  ·rename_i hb
   rw [d0m,Bool.and_eq_true] at hb
   have hb1 : b = 48:=UInt8.toNat_inj.mp (Nat.eq_of_beq_eq_true hb.1)
   have hb2 : n < 5:=Nat.lt_succ_of_le (Nat.le_of_ble_eq_true hb.2)
   subst hb1
   simp only [Option.some.injEq,Prod.mk.injEq] at h
   obtain ⟨rfl,rfl⟩:=h
   have hc : a3k (b2u Tryz.prog glT (fun _=>false) (fun _=>none)) (evF (b2u Tryz.prog glT (fun _=>false) (fun _=>none)) 1000):=e0g d8e (d3g _ _ _ _) (fun f h hh=>by simp [b2u] at hh) 1000
   exact b1m hc a7z (by rfl) (e1q (List.all_eq_true.mp i9v n (List.mem_range.mpr hb2))) ha hw hg
  ·cases h
 ·cases h
end
end Go.Proofs.YtomedkaiefgbeaaGreatDoor
