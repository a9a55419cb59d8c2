/- Contracts of library functions over this translation. No conditions. -/
import Derived.Test.YtgpjaembafkpoaaGreatDoorUB
set_option linter.unusedVariables false
set_option linter.unusedSimpArgs false
/- Plain: how a string of a JSON text is read. -/
namespace Go.Proofs.YtgpjaembafkpoaaGreatDoor
set_option linter.unusedVariables false

/-- a digit of hex (0 to 9, a to f) -/
def hexV (c : Nat) : Option Nat := if 48 ≤ c ∧ c ≤ 57 then some (c - 48) else if 97 ≤ c ∧ c ≤ 102 then some (c - 87) else none
/-- also A to F -/
def digV (c : Nat) : Option Nat := if 65 ≤ c ∧ c ≤ 70 then some (c - 55) else hexV c
theorem hexV_lt (c d : Nat) (h : hexV c = some d) : d < 16 := by
  unfold hexV at h
  split at h
  · cases h; omega
  · split at h
    · cases h; omega
    · cases h
theorem digV_lt (c d : Nat) (h : digV c = some d) : d < 16 := by
  unfold digV at h
  split at h
  · cases h; omega
  · exact hexV_lt c d h
/-- digits: 'k' to come, 'n' so far -/
def fourGo : Nat → Nat → List UInt8 → Nat × Nat
  | 0,n,_ => (n,0)
  | _ + 1,_,[] => (0,4)
  | k + 1,n,c :: t => match digV c.toNat with
    | none => (0,3)
    | some d => fourGo k (n * 16 + d) t
def fourL (l : List UInt8) : Nat × Nat := fourGo 4 0 l
theorem fourGo_lt (k n : Nat) (l : List UInt8) : (fourGo k n l).1 < (n + 1) * 16 ^ k := by
  induction k generalizing n l with
  | zero => simp [fourGo]
  | succ k ih =>
    match l with
    | [] => simp only [fourGo]; exact Nat.mul_pos (by omega) (Nat.pow_pos (by omega))
    | c :: t =>
      simp only [fourGo]
      split
      · exact Nat.mul_pos (by omega) (Nat.pow_pos (by omega))
      · rename_i d hd
        have hd := digV_lt _ _ hd
        have := ih (n * 16 + d) t
        have h2 : (n * 16 + d + 1) * 16 ^ k ≤ (n + 1) * 16 * 16 ^ k := Nat.mul_le_mul_right _ (by omega)
        rw [Nat.pow_succ,Nat.mul_comm (16 ^ k) 16,← Nat.mul_assoc]
        omega
theorem fourL_lt (l : List UInt8) : (fourL l).1 < 65536 := by have := fourGo_lt 4 0 l; unfold fourL; omega
/-- what is said behind a \u: the rune, how many bytes, the error -/
def codedL (l : List UInt8) : Nat × Nat × Nat :=
  if (fourL l).2 ≠ 0 then (0,0,(fourL l).2)
  else if (fourL l).1 < 55296 ∨ 57343 < (fourL l).1 then ((fourL l).1,4,0)
  else if 56320 ≤ (fourL l).1 then (0,0,12)
  else match l.drop 4 with
    | [] => (0,0,4)
    | c :: t => if c.toNat ≠ 92 then (0,0,12) else match t with
      | [] => (0,0,4)
      | d :: u => if d.toNat ≠ 117 then (0,0,12)
        else if (fourL u).2 ≠ 0 then (0,0,(fourL u).2)
        else if (fourL u).1 < 56320 ∨ 57343 < (fourL u).1 then (0,0,12)
        else (65536 + ((fourL l).1 - 55296) * 1024 + ((fourL u).1 - 56320),10,0)
/-- what a byte after a \ means -/
def escV (c : Nat) : Option Nat :=
  if c = 34 ∨ c = 92 ∨ c = 47 then some c else if c = 98 then some 8 else if c = 102 then some 12 else if c = 110 then some 10 else if c = 114 then some 13 else if c = 116 then some 9 else none
/-- (r, n, e), n bytes further -/
def plus (k : Nat) (x : Nat × Nat × Nat) : Nat × Nat × Nat := if x.2.2 = 0 then (x.1,x.2.1 + k,0) else x
/-- the rune at the head of what is left of a string: the rune, how many bytes, the error -/
def itemL : List UInt8 → Nat × Nat × Nat
  | [] => (0,0,4)
  | c :: t => if c.toNat < 32 then (0,0,3) else if c.toNat ≠ 92 then nx (c :: t) else match t with
    | [] => (0,0,4)
    | d :: u => match escV d.toNat with
      | some v => (v,2,0)
      | none => if d.toNat = 117 then plus 2 (codedL u) else (0,0,3)

/-- reading: with fuel; how many bytes are read, what is read; the text, how many bytes, the error -/
def rdGo : Nat → List UInt8 → Nat → List UInt8 → List UInt8 × Nat × Nat
  | 0,_,_,_ => ([],0,4)
  | _ + 1,[],_,_ => ([],0,4)
  | f + 1,c :: t,n,out => if c.toNat = 34 then (out,n + 1,0)
    else if (itemL (c :: t)).2.2 ≠ 0 then ([],0,(itemL (c :: t)).2.2)
    else if 4096 < out.length + (enc (itemL (c :: t)).1).length then ([],0,5)
    else rdGo f ((c :: t).drop (itemL (c :: t)).2.1) (n + (itemL (c :: t)).2.1) (out ++ enc (itemL (c :: t)).1)
/-- the string at the head of a text -/
def readL : List UInt8 → List UInt8 × Nat × Nat
  | [] => ([],0,4)
  | c :: t => if c.toNat ≠ 34 then ([],0,3) else rdGo (t.length + 1) t 1 []

/-- what an item is: an error with two zeros, or a rune, and one to twelve bytes -/
inductive ItemView (l : List UInt8) : Prop
  | err (e : Nat) : e ≠ 0 → itemL l = (0,0,e) → ItemView l
  | ok (r n : Nat) : Utf8.valid r = true → 1 ≤ n → n ≤ l.length → itemL l = (r,n,0) → ItemView l

theorem fourGo_ok' (k n : Nat) (l : List UInt8) (h : (fourGo k n l).2 = 0) : k ≤ l.length := by
  induction k generalizing n l with
  | zero => omega
  | succ k ih =>
    match l with
    | [] => simp [fourGo] at h
    | c :: t =>
      simp only [fourGo] at h
      split at h
      · simp at h
      · have := ih _ _ h; simp; omega

inductive CodedView (l : List UInt8) : Prop
  | err (e : Nat) : e ≠ 0 → codedL l = (0,0,e) → CodedView l
  | ok (r n : Nat) : Utf8.valid r = true → 1 ≤ n → n ≤ l.length → codedL l = (r,n,0) → CodedView l
theorem codedView (l : List UInt8) : CodedView l := by
  obtain ⟨a,e,hF⟩ : ∃ a e,fourL l = (a,e) := ⟨_,_,rfl⟩
  have hlt := fourL_lt l
  rw [hF] at hlt
  simp only at hlt
  have hx : codedL l = codedL l := rfl
  conv at hx => rhs; unfold codedL
  rw [hF] at hx
  simp only at hx
  by_cases he : e ≠ 0
  · rw [if_pos he] at hx
    exact .err e he hx
  rw [if_neg he] at hx
  have h4 : 4 ≤ l.length := fourGo_ok' 4 0 l (by
    have : (fourL l).2 = 0 := by rw [hF]; simp only; omega
    exact this)
  by_cases ha : a < 55296 ∨ 57343 < a
  · rw [if_pos ha] at hx
    exact .ok a 4 ((valid_iff a).2 (by omega)) (by omega) h4 hx
  rw [if_neg ha] at hx
  by_cases ha2 : 56320 ≤ a
  · rw [if_pos ha2] at hx
    exact .err 12 (by omega) hx
  rw [if_neg ha2] at hx
  match hd : l.drop 4 with
  | [] => rw [hd] at hx; exact .err 4 (by omega) hx
  | c :: t =>
    rw [hd] at hx
    simp only at hx
    by_cases hc : c.toNat ≠ 92
    · rw [if_pos hc] at hx; exact .err 12 (by omega) hx
    rw [if_neg hc] at hx
    match t with
    | [] => exact .err 4 (by omega) hx
    | d :: u =>
      simp only at hx
      by_cases hd2 : d.toNat ≠ 117
      · rw [if_pos hd2] at hx; exact .err 12 (by omega) hx
      rw [if_neg hd2] at hx
      obtain ⟨b,f,hG⟩ : ∃ b f,fourL u = (b,f) := ⟨_,_,rfl⟩
      rw [hG] at hx
      simp only at hx
      by_cases hf : f ≠ 0
      · rw [if_pos hf] at hx; exact .err f hf hx
      rw [if_neg hf] at hx
      by_cases hb : b < 56320 ∨ 57343 < b
      · rw [if_pos hb] at hx; exact .err 12 (by omega) hx
      rw [if_neg hb] at hx
      have h6 : 4 ≤ u.length := fourGo_ok' 4 0 u (by
        have : (fourL u).2 = 0 := by rw [hG]; simp only; omega
        exact this)
      have hlen := congrArg List.length hd
      simp at hlen
      exact .ok _ 10 ((valid_iff _).2 (by omega)) (by omega) (by omega) hx

theorem escV_valid (c v : Nat) (h : escV c = some v) (hc : c < 256) : Utf8.valid (v : Int) = true := by
  rw [valid_iff]
  unfold escV at h
  split at h
  · cases h; omega
  · split at h
    · cases h; omega
    · split at h
      · cases h; omega
      · split at h
        · cases h; omega
        · split at h
          · cases h; omega
          · split at h
            · cases h; omega
            · cases h
theorem itemView (l : List UInt8) : ItemView l := by
  match l with
  | [] => exact .err 4 (by omega) rfl
  | c :: t =>
    by_cases h1 : c.toNat < 32
    · exact .err 3 (by omega) (by simp only [itemL]; rw [if_pos h1])
    by_cases h2 : c.toNat ≠ 92
    · have hx : itemL (c :: t) = nx (c :: t) := by simp only [itemL]; rw [if_neg h1,if_pos h2]
      cases nxView (c :: t) with
      | short h _ => cases h
      | bad h => exact .err 12 (by omega) (hx.trans h)
      | cut h _ _ => exact .err 4 (by omega) (hx.trans h)
      | rune r u hv hl h =>
        have := congrArg List.length hl
        simp only [List.length_append] at this
        exact .ok r _ hv (enc_len r hv).1 (by omega) (hx.trans h)
    have hx : ∀ t,itemL (c :: t) = match t with
        | [] => (0,0,4)
        | d :: u => match escV d.toNat with
          | some v => (v,2,0)
          | none => if d.toNat = 117 then plus 2 (codedL u) else (0,0,3) := fun t => by
      simp only [itemL]; rw [if_neg h1,if_neg h2]
    match t with
    | [] => exact .err 4 (by omega) (hx [])
    | d :: u =>
      cases hv : escV d.toNat with
      | some v => exact .ok v 2 (escV_valid _ _ hv d.toNat_lt) (by omega) (by simp) (by rw [hx]; simp only [hv])
      | none =>
        by_cases h3 : d.toNat = 117
        · have hy : itemL (c :: d :: u) = plus 2 (codedL u) := by rw [hx]; simp only [hv]; rw [if_pos h3]
          cases codedView u with
          | err e he h => exact .err e he (by rw [hy,h,plus,if_neg he])
          | ok r n hv' hn1 hn2 h => exact .ok r (n + 2) hv' (by omega) (by simp; omega) (by rw [hy,h,plus,if_pos rfl])
        · exact .err 3 (by omega) (by rw [hx]; simp only [hv]; rw [if_neg h3])
end Go.Proofs.YtgpjaembafkpoaaGreatDoor

/- Contracts of hex.Digit, quote.digit, number, four, coded. -/
namespace Go.Proofs.YtgpjaembafkpoaaGreatDoor
open Go.RowKit
set_option linter.unusedVariables false
set_option maxRecDepth 100000

theorem hexDigit_in (s : ByteArray) (i : Nat) (w : World) (hs : s.size ≤ 1099511627776) (h : i < s.size) (d : Nat) (b : Bool) (hd : Bx ((hexV s[i].toNat).getD 0 = d ∧ (hexV s[i].toNat).isSome = b)) :
    Calls Tryz.prog 156 #[.string s,.int .i64 i] w fun e w' => e = .returned (.tuple #[.int .i64 d,.bool b]) ∧ w = w' := by
  have hc := s[i].toNat_lt
  obtain ⟨h1,h2⟩ := hd.out
  clear hd
  by_cases g1 : 48 ≤ s[i].toNat ∧ s[i].toNat ≤ 57
  · unfold hexV at h1 h2
    rw [if_pos g1] at h1 h2
    simp at h1 h2
    obtain ⟨g1,g2⟩ := g1
    have hd2 : ((s[i].toNat : Int) - 48) = d := by omega
    have H := Lib.hid hd2
    subst h2
    clear h1 hd2
    go_enter Tryz.func156,Tryz.ntmps156
    go_wp2_with fail
    go_ret2
    rw [H.out]
    exact ⟨rfl,rfl⟩
  · by_cases g2 : 97 ≤ s[i].toNat ∧ s[i].toNat ≤ 102
    · unfold hexV at h1 h2
      rw [if_neg g1,if_pos g2] at h1 h2
      simp at h1 h2
      obtain ⟨g2,g3⟩ := g2
      have hd2 : ((s[i].toNat : Int) - 97 + 10) = d := by omega
      have H := Lib.hid hd2
      subst h2
      clear h1 hd2
      have g1' : ¬ s[i].toNat ≤ 57 := by omega
      clear g1
      go_enter Tryz.func156,Tryz.ntmps156
      go_wp2_with fail
      go_ret2
      rw [H.out]
      exact ⟨rfl,rfl⟩
    · unfold hexV at h1 h2
      rw [if_neg g1,if_neg g2] at h1 h2
      simp at h1 h2
      subst h1 h2
      go_enter Tryz.func156,Tryz.ntmps156
      go_wp2_with fail
      all_goals
        go_ret2
        exact ⟨rfl,rfl⟩

theorem digit_in (s : ByteArray) (i : Nat) (w : World) (hs : s.size ≤ 1099511627776) (h : i < s.size) (d : Nat) (b : Bool) (hd : Bx ((digV s[i].toNat).getD 0 = d ∧ (digV s[i].toNat).isSome = b)) :
    Calls Tryz.prog 370 #[.string s,.int .i64 i] w fun e w' => e = .returned (.tuple #[.int .i64 d,.bool b]) ∧ w = w' := by
  have hc := s[i].toNat_lt
  obtain ⟨h1,h2⟩ := hd.out
  clear hd
  unfold digV at h1 h2
  by_cases g1 : 65 ≤ s[i].toNat ∧ s[i].toNat ≤ 70
  · rw [if_pos g1] at h1 h2
    simp at h1 h2
    obtain ⟨g1,g2⟩ := g1
    have hd2 : ((s[i].toNat : Int) - 65 + 10) = d := by omega
    have H := Lib.hid hd2
    subst h2
    clear h1 hd2
    go_enter Tryz.func370,Tryz.ntmps370
    go_wp2_with fail
    go_ret2
    rw [H.out]
    exact ⟨rfl,rfl⟩
  · rw [if_neg g1] at h1 h2
    have H : Bx ((hexV s[i].toNat).getD 0 = d ∧ (hexV s[i].toNat).isSome = b) := ⟨⟨h1,h2⟩⟩
    clear h1 h2
    have g2 : s[i].toNat < 65 ∨ (65 ≤ s[i].toNat ∧ 70 < s[i].toNat) := by omega
    clear g1
    rcases g2 with g2 | ⟨g2,g3⟩
    all_goals
      go_enter Tryz.func370,Tryz.ntmps370
      go_wp2_with fail
      refine (hexDigit_in s i _ hs h d b H).mono ?_
      rintro e w' ⟨rfl,rfl⟩
      go_wp2_with fail
      go_ret2
      exact ⟨rfl,rfl⟩

theorem i64_join4 (x y : Int) (hx₀ : 0 ≤ x) (hx : x % 16 = 0) (hx₁ : x < 4611686018427387904) (h₀ : 0 ≤ y) (h₁ : y < 16) : bits .or .i64 x y = x + y :=
  bits_join .i64 62 (by decide) (fun n h0 h1 => by rw [IntKind.wrap_i64]; omega) 4 x y hx₀ hx hx₁ h₀ h₁ (by omega)

/-- the number of some digits -/
def numL (ds : List Nat) : Nat := ds.foldl (fun n d => n * 16 + d) 0
theorem numL_snoc (ds : List Nat) (d : Nat) : numL (ds ++ [d]) = numL ds * 16 + d := by simp [numL]
theorem numL_take (ds : List Nat) (h : ∀ d ∈ ds,d < 16) (k : Nat) (hk : k ≤ 4) : numL (ds.take k) < 65536 := by
  have key : ∀ (l : List Nat),(∀ d ∈ l,d < 16) → ∀ n,(l.foldl (fun n d => n * 16 + d) n) < (n + 1) * 16 ^ l.length := by
    intro l
    induction l with
    | nil => intro _ n; simp
    | cons a t ih =>
      intro hl n
      have := ih (fun d hd => hl d (by simp [hd])) (n * 16 + a)
      have ha := hl a (by simp)
      have h2 : (n * 16 + a + 1) * 16 ^ t.length ≤ (n + 1) * 16 * 16 ^ t.length := Nat.mul_le_mul_right _ (by omega)
      simp only [List.foldl_cons,List.length_cons]
      rw [Nat.pow_succ,Nat.mul_comm (16 ^ t.length) 16,← Nat.mul_assoc]
      omega
  have h1 := key (ds.take k) (fun d hd => h d (List.mem_of_mem_take hd)) 0
  have h2 : (ds.take k).length ≤ 4 := by simp; omega
  have h3 : 16 ^ (ds.take k).length ≤ 16 ^ 4 := Nat.pow_le_pow_right (by omega) h2
  unfold numL; omega

theorem number4 (ds : List Nat) (hl : ds.length = 4) (hd : ∀ d ∈ ds,d < 16) (b : Nat) (w : World) (hcell : ∀ k,k < 4 → w.cell? ⟨b,k,none⟩ = some (.int .i64 (ds.getD k 0 : Nat))) :
    Calls Tryz.prog 371 #[.slice (some ⟨b,0,none⟩) 4 4] w fun e w' => e = .returned (.int .i64 (numL ds)) ∧ w = w' := by
  have HC := Bx.mk hcell
  have HD := Bx.mk hd
  have HL := Bx.mk hl
  clear hcell hd hl
  go_enter Tryz.func371,Tryz.ntmps371
  go_wp2_with fail
  go_loop [3,8] (fun n i => ∃ k : Nat,k ≤ 4 ∧ i = .int .i64 k ∧ n = .int .i64 (numL (ds.take k))) (fun _ i => 4 - (intOf i).toNat)
  case atStart => exact ⟨0,by omega,rfl,rfl⟩
  case round =>
    obtain ⟨k,hk,rfl,rfl⟩ := hrel
    have hn := numL_take ds HD.out k hk
    by_cases hlt : k < 4
    · have hc := HC.out k hlt
      have hlen := HL.out
      have hg : ds.getD k 0 = ds[k]'(by omega) := by simp [List.getD_eq_getElem?_getD,hlen,hlt]
      have hdk : ds.getD k 0 < 16 := by rw [hg]; exact HD.out _ (List.getElem_mem _)
      have HN : Bx (numL (ds.take (k + 1)) = numL (ds.take k) * 16 + ds.getD k 0) := ⟨by
        rw [List.take_succ_eq_append_getElem (by omega),numL_snoc,hg]⟩
      clear hlen hg
      generalize numL (ds.take k) = n at *
      generalize ds.getD k 0 = d at *
      go_wp2_with fail
      go_round
      case rel => exact ⟨k + 1,by omega,by go_num,by rw [HN.out,i64_join4 _ _ (by omega) (by omega) (by omega) (by omega) (by omega)]; go_num⟩
      case measure => simp [intOf]; omega
    · have HE : Bx (numL (ds.take k) = numL ds) := ⟨by rw [List.take_of_length_le (by have := HL.out; omega)]⟩
      go_wp2_with fail
      go_ret
      rw [HE.out]
      exact ⟨rfl,rfl⟩
end Go.Proofs.YtgpjaembafkpoaaGreatDoor

/- Contracts of quote.four, coded. -/
namespace Go.Proofs.YtgpjaembafkpoaaGreatDoor
open Go.RowKit
set_option linter.unusedVariables false
set_option maxRecDepth 100000

/-- a cell of the second of two new blocks -/
theorem cell_second (w : World) (o : Obj) (C : Array Value) (t : TypeId) (j : Nat) : ((w.alloc o).alloc (.cells C t)).cell? ⟨w.heap.size + 1,j,none⟩ = C[j]? := by
  have e : (w.alloc o).heap.size = w.heap.size + 1 := by simp
  rw [← e,World.cell?_alloc_mark]

def FourRel (s : ByteArray) (i : Nat) (w : World) (R : Nat × Nat) (a b kv : Value) (w' : World) : Prop :=
  ∃ (k x0 x1 x2 x3 : Nat),k ≤ 4 ∧ a = .int .i64 0 ∧ b = .int .i64 0 ∧ kv = .int .i64 k ∧ x0 < 16 ∧ x1 < 16 ∧ x2 < 16 ∧ x3 < 16 ∧
    w' = w.alloc (.cells #[.int .i64 x0,.int .i64 x1,.int .i64 x2,.int .i64 x3] 481) ∧ fourGo (4 - k) (numL ([x0,x1,x2,x3].take k)) (s.data.toList.drop (i + k)) = R

theorem four_in (s : ByteArray) (i : Nat) (w : World) (hs : s.size ≤ 1099511627776) (hi : i ≤ s.size) (R : Nat × Nat) (hR : Hid (fourL (s.data.toList.drop i) = R)) :
    Calls Tryz.prog 369 #[.string s,.int .i64 i] w fun e w' => e = .returned (.tuple #[.int .i64 R.1,.int .i64 R.2]) ∧ Below w.heap.size w w' := by
  go_enter Tryz.func369,Tryz.ntmps369
  go_wp2_with fail
  go_loopw [4,5,10] (fun a b k w' => FourRel s i w R a b k w') (fun _ _ k _ => 4 - (intOf k).toNat)
  case atStart => exact ⟨0,0,0,0,0,by omega,rfl,rfl,rfl,by omega,by omega,by omega,by omega,rfl,hR.out⟩
  case round =>
    clear hR
    obtain ⟨k,x0,x1,x2,x3,hk,rfl,rfl,rfl,h0,h1,h2,h3,rfl,hG⟩ := hrel
    obtain rfl | rfl | rfl | rfl | rfl : k = 0 ∨ k = 1 ∨ k = 2 ∨ k = 3 ∨ k = 4 := by omega
    · simp only [Nat.reduceSub,Nat.add_zero,List.take_zero] at hG
      by_cases hlt : i < s.size
      · rw [drop_cons s (i) hlt] at hG
        cases hd : digV s[i].toNat with
        | none =>
          have hf : Hid ((0,3) = R) := by
            show _ = _
            rw [← hG]; simp only [fourGo,hd]
          have HD : Bx ((digV s[i].toNat).getD 0 = 0 ∧ (digV s[i].toNat).isSome = false) := ⟨by rw [hd]; exact ⟨rfl,rfl⟩⟩
          clear hG hd
          go_wp2_with fail
          refine (digit_in s (i) _ hs hlt 0 false HD).mono ?_
          rintro e w' ⟨rfl,rfl⟩
          go_wp2_with fail
          go_ret2
          rw [← hf.out]
          exact ⟨rfl,(Below.refl _ _).alloc (Nat.le_refl _) _⟩
        | some d =>
          have hd16 := digV_lt _ _ hd
          have HD : Bx ((digV s[i].toNat).getD 0 = d ∧ (digV s[i].toNat).isSome = true) := ⟨by rw [hd]; exact ⟨rfl,rfl⟩⟩
          simp only [fourGo,hd] at hG
          have HG := Lib.hid hG
          clear hG hd
          go_wp2_with fail
          refine (digit_in s (i) _ hs hlt d true HD).mono ?_
          rintro e w' ⟨rfl,rfl⟩
          go_wp2_with fail
          go_roundw
          case rel => exact ⟨1,d,x1,x2,x3,by omega,rfl,rfl,by go_num,hd16,h1,h2,h3,rfl,HG.out⟩
          case measure => simp [intOf]
      · rw [drop_end s (i) (by omega)] at hG
        have hf : Hid ((0,4) = R) := hG
        clear hG
        go_wp2_with fail
        go_ret2
        rw [← hf.out]
        exact ⟨rfl,(Below.refl _ _).alloc (Nat.le_refl _) _⟩
    · simp only [Nat.reduceSub,List.take_succ_cons,List.take_zero] at hG
      by_cases hlt : i + 1 < s.size
      · rw [drop_cons s (i + 1) hlt] at hG
        cases hd : digV s[i + 1].toNat with
        | none =>
          have hf : Hid ((0,3) = R) := by
            show _ = _
            rw [← hG]; simp only [fourGo,hd]
          have HD : Bx ((digV s[i + 1].toNat).getD 0 = 0 ∧ (digV s[i + 1].toNat).isSome = false) := ⟨by rw [hd]; exact ⟨rfl,rfl⟩⟩
          clear hG hd
          go_wp2_with fail
          refine (digit_in s (i + 1) _ hs hlt 0 false HD).mono ?_
          rintro e w' ⟨rfl,rfl⟩
          go_wp2_with fail
          go_ret2
          rw [← hf.out]
          exact ⟨rfl,(Below.refl _ _).alloc (Nat.le_refl _) _⟩
        | some d =>
          have hd16 := digV_lt _ _ hd
          have HD : Bx ((digV s[i + 1].toNat).getD 0 = d ∧ (digV s[i + 1].toNat).isSome = true) := ⟨by rw [hd]; exact ⟨rfl,rfl⟩⟩
          simp only [fourGo,hd] at hG
          have HG := Lib.hid hG
          clear hG hd
          go_wp2_with fail
          refine (digit_in s (i + 1) _ hs hlt d true HD).mono ?_
          rintro e w' ⟨rfl,rfl⟩
          go_wp2_with fail
          go_roundw
          case rel => exact ⟨2,x0,d,x2,x3,by omega,rfl,rfl,by go_num,h0,hd16,h2,h3,rfl,HG.out⟩
          case measure => simp [intOf]
      · rw [drop_end s (i + 1) (by omega)] at hG
        have hf : Hid ((0,4) = R) := hG
        clear hG
        go_wp2_with fail
        go_ret2
        rw [← hf.out]
        exact ⟨rfl,(Below.refl _ _).alloc (Nat.le_refl _) _⟩
    · simp only [Nat.reduceSub,List.take_succ_cons,List.take_zero] at hG
      by_cases hlt : i + 2 < s.size
      · rw [drop_cons s (i + 2) hlt] at hG
        cases hd : digV s[i + 2].toNat with
        | none =>
          have hf : Hid ((0,3) = R) := by
            show _ = _
            rw [← hG]; simp only [fourGo,hd]
          have HD : Bx ((digV s[i + 2].toNat).getD 0 = 0 ∧ (digV s[i + 2].toNat).isSome = false) := ⟨by rw [hd]; exact ⟨rfl,rfl⟩⟩
          clear hG hd
          go_wp2_with fail
          refine (digit_in s (i + 2) _ hs hlt 0 false HD).mono ?_
          rintro e w' ⟨rfl,rfl⟩
          go_wp2_with fail
          go_ret2
          rw [← hf.out]
          exact ⟨rfl,(Below.refl _ _).alloc (Nat.le_refl _) _⟩
        | some d =>
          have hd16 := digV_lt _ _ hd
          have HD : Bx ((digV s[i + 2].toNat).getD 0 = d ∧ (digV s[i + 2].toNat).isSome = true) := ⟨by rw [hd]; exact ⟨rfl,rfl⟩⟩
          simp only [fourGo,hd] at hG
          have HG := Lib.hid hG
          clear hG hd
          go_wp2_with fail
          refine (digit_in s (i + 2) _ hs hlt d true HD).mono ?_
          rintro e w' ⟨rfl,rfl⟩
          go_wp2_with fail
          go_roundw
          case rel => exact ⟨3,x0,x1,d,x3,by omega,rfl,rfl,by go_num,h0,h1,hd16,h3,rfl,HG.out⟩
          case measure => simp [intOf]
      · rw [drop_end s (i + 2) (by omega)] at hG
        have hf : Hid ((0,4) = R) := hG
        clear hG
        go_wp2_with fail
        go_ret2
        rw [← hf.out]
        exact ⟨rfl,(Below.refl _ _).alloc (Nat.le_refl _) _⟩
    · simp only [Nat.reduceSub,List.take_succ_cons,List.take_zero] at hG
      by_cases hlt : i + 3 < s.size
      · rw [drop_cons s (i + 3) hlt] at hG
        cases hd : digV s[i + 3].toNat with
        | none =>
          have hf : Hid ((0,3) = R) := by
            show _ = _
            rw [← hG]; simp only [fourGo,hd]
          have HD : Bx ((digV s[i + 3].toNat).getD 0 = 0 ∧ (digV s[i + 3].toNat).isSome = false) := ⟨by rw [hd]; exact ⟨rfl,rfl⟩⟩
          clear hG hd
          go_wp2_with fail
          refine (digit_in s (i + 3) _ hs hlt 0 false HD).mono ?_
          rintro e w' ⟨rfl,rfl⟩
          go_wp2_with fail
          go_ret2
          rw [← hf.out]
          exact ⟨rfl,(Below.refl _ _).alloc (Nat.le_refl _) _⟩
        | some d =>
          have hd16 := digV_lt _ _ hd
          have HD : Bx ((digV s[i + 3].toNat).getD 0 = d ∧ (digV s[i + 3].toNat).isSome = true) := ⟨by rw [hd]; exact ⟨rfl,rfl⟩⟩
          simp only [fourGo,hd] at hG
          have HG := Lib.hid hG
          clear hG hd
          go_wp2_with fail
          refine (digit_in s (i + 3) _ hs hlt d true HD).mono ?_
          rintro e w' ⟨rfl,rfl⟩
          go_wp2_with fail
          go_roundw
          case rel => exact ⟨4,x0,x1,x2,d,by omega,rfl,rfl,by go_num,h0,h1,h2,hd16,rfl,HG.out⟩
          case measure => simp [intOf]
      · rw [drop_end s (i + 3) (by omega)] at hG
        have hf : Hid ((0,4) = R) := hG
        clear hG
        go_wp2_with fail
        go_ret2
        rw [← hf.out]
        exact ⟨rfl,(Below.refl _ _).alloc (Nat.le_refl _) _⟩
    · have hf : Hid ((numL [x0,x1,x2,x3],0) = R) := hG
      clear hG
      go_wp2_with fail
      refine (number4 [x0,x1,x2,x3] rfl (by intro d hd; simp at hd; omega) _ _ ?_).mono ?_
      · intro k hk
        obtain rfl | rfl | rfl | rfl : k = 0 ∨ k = 1 ∨ k = 2 ∨ k = 3 := by omega
        all_goals exact cell_second w _ _ _ _
      · rintro e w' ⟨rfl,rfl⟩
        go_wp2_with fail
        go_ret2
        rw [← hf.out]
        exact ⟨rfl,((Below.refl _ _).alloc (Nat.le_refl _) _).alloc (by simp) _⟩
end Go.Proofs.YtgpjaembafkpoaaGreatDoor

/- Contract of quote.coded. -/
namespace Go.Proofs.YtgpjaembafkpoaaGreatDoor
open Go.RowKit
set_option linter.unusedVariables false
set_option maxRecDepth 100000

theorem fourGo_ok (k n : Nat) (l : List UInt8) (h : (fourGo k n l).2 = 0) : k ≤ l.length := by
  induction k generalizing n l with
  | zero => omega
  | succ k ih =>
    match l with
    | [] => simp [fourGo] at h
    | c :: t =>
      simp only [fourGo] at h
      split at h
      · simp at h
      · have := ih _ _ h; simp; omega
theorem fourL_ok (l : List UInt8) (h : (fourL l).2 = 0) : 4 ≤ l.length := fourGo_ok 4 0 l h

/-- the place behind, or 0 -/
def nextN (i : Nat) (R : Nat × Nat × Nat) : Nat := if R.2.2 = 0 then i + R.2.1 else 0

theorem four_is (s : ByteArray) (i : Int) (w : World) (hs : s.size ≤ 1099511627776) (a : Int) (e : Nat) (k : Nat) (hik : i = k) (hi : k ≤ s.size) (h : ((fourL (s.data.toList.drop k)).1 : Int) = a ∧ (fourL (s.data.toList.drop k)).2 = e) :
    Calls Tryz.prog 369 #[.string s,.int .i64 i] w fun e' w' => e' = .returned (.tuple #[.int .i64 a,.int .i64 e]) ∧ Below w.heap.size w w' := by
  subst hik
  obtain ⟨rfl,rfl⟩ := h
  exact four_in s k w hs hi _ rfl

def FourIs (s : ByteArray) (k : Nat) (a : Int) (e : Nat) : Prop := ((fourL (s.data.toList.drop k)).1 : Int) = a ∧ (fourL (s.data.toList.drop k)).2 = e

theorem coded_1 (s : ByteArray) (i : Nat) (w : World) (hs : s.size ≤ 1099511627776) (hi : i ≤ s.size) (a : Int) (e : Nat) (h : Bx (FourIs s i a e)) (he : ((e : Int) != 0) = true) :
    Calls Tryz.prog 363 #[.string s,.int .i64 i] w fun e' w' => e' = .returned (.tuple #[.int .i64 0,.int .i64 0,.int .i64 e]) ∧ Below w.heap.size w w' := by
  go_enter Tryz.func363,Tryz.ntmps363
  go_wp2_with fail
  refine (four_is s i _ hs a e i rfl hi h.out).mono ?_
  rintro e w1 ⟨rfl,hb⟩
  go_wp2_with fail
  go_ret3
  exact ⟨rfl,hb⟩
theorem coded_2 (s : ByteArray) (i : Nat) (w : World) (hs : s.size ≤ 1099511627776) (hi : i ≤ s.size) (a : Int) (h : Bx (FourIs s i a 0)) (ha : a < 55296 ∨ (55296 ≤ a ∧ 57343 < a)) :
    Calls Tryz.prog 363 #[.string s,.int .i64 i] w fun e' w' => e' = .returned (.tuple #[.int .i64 a,.int .i64 (i + 4 : Nat),.int .i64 0]) ∧ Below w.heap.size w w' := by
  rcases ha with ha | ⟨ha,ha2⟩
  all_goals
    go_enter Tryz.func363,Tryz.ntmps363
    go_wp2_with fail
    refine (four_is s i _ hs a 0 i rfl hi h.out).mono ?_
    rintro e w1 ⟨rfl,hb⟩
    go_wp2_with fail
    go_ret3
    exact ⟨by go_num,hb⟩
theorem coded_3 (s : ByteArray) (i : Nat) (w : World) (hs : s.size ≤ 1099511627776) (hi : i ≤ s.size) (a : Int) (h : Bx (FourIs s i a 0)) (ha : 56320 ≤ a) (ha2 : a ≤ 57343) :
    Calls Tryz.prog 363 #[.string s,.int .i64 i] w fun e' w' => e' = .returned (.tuple #[.int .i64 0,.int .i64 0,.int .i64 12]) ∧ Below w.heap.size w w' := by
  go_enter Tryz.func363,Tryz.ntmps363
  go_wp2_with fail
  refine (four_is s i _ hs a 0 i rfl hi h.out).mono ?_
  rintro e w1 ⟨rfl,hb⟩
  go_wp2_with fail
  go_ret3
  exact ⟨rfl,hb⟩
/-- a first half, cut short behind it -/
theorem coded_4 (s : ByteArray) (i : Nat) (w : World) (hs : s.size ≤ 1099511627776) (hi : i + 4 = s.size) (a : Int) (h : Bx (FourIs s i a 0)) (ha : 55296 ≤ a) (ha2 : a < 56320) :
    Calls Tryz.prog 363 #[.string s,.int .i64 i] w fun e' w' => e' = .returned (.tuple #[.int .i64 0,.int .i64 0,.int .i64 4]) ∧ Below w.heap.size w w' := by
  have hq : ((i : Int) + 4 == s.size) = true := by simp; omega
  have hi2 : i ≤ s.size := by omega
  clear hi
  go_enter Tryz.func363,Tryz.ntmps363
  go_wp2_with fail
  refine (four_is s i _ hs a 0 i rfl hi2 h.out).mono ?_
  rintro e w1 ⟨rfl,hb⟩
  go_wp2_with fail
  refine wp_loop_rounds 1 ?_; rw [rounds_succ]
  go_wp2_with fail
  go_ret3
  exact ⟨rfl,hb.alloc hb.size _⟩
theorem coded_5 (s : ByteArray) (i : Nat) (w : World) (hs : s.size ≤ 1099511627776) (hi : i + 4 < s.size) (a : Int) (h : Bx (FourIs s i a 0)) (ha : 55296 ≤ a) (ha2 : a < 56320) (hc : s[i + 4].toNat ≠ 92) :
    Calls Tryz.prog 363 #[.string s,.int .i64 i] w fun e' w' => e' = .returned (.tuple #[.int .i64 0,.int .i64 0,.int .i64 12]) ∧ Below w.heap.size w w' := by
  have hq : ((i : Int) + 4 == s.size) = false := by simp; omega
  have hq2 : ((s[i + 4].toNat : Int) != 92) = true := by rw [bne_iff_ne]; omega
  clear hc
  go_enter Tryz.func363,Tryz.ntmps363
  go_wp2_with fail
  refine (four_is s i _ hs a 0 i rfl (by omega) h.out).mono ?_
  rintro e w1 ⟨rfl,hb⟩
  go_wp2_with fail
  refine wp_loop_rounds 1 ?_; rw [rounds_succ]
  go_wp2_with fail
  go_ret3
  exact ⟨rfl,hb.alloc hb.size _⟩
theorem coded_6 (s : ByteArray) (i : Nat) (w : World) (hs : s.size ≤ 1099511627776) (hi : i + 4 < s.size) (hi5 : i + 5 = s.size) (a : Int) (h : Bx (FourIs s i a 0)) (ha : 55296 ≤ a) (ha2 : a < 56320) (hc : s[i + 4].toNat = 92) :
    Calls Tryz.prog 363 #[.string s,.int .i64 i] w fun e' w' => e' = .returned (.tuple #[.int .i64 0,.int .i64 0,.int .i64 4]) ∧ Below w.heap.size w w' := by
  have hq : ((i : Int) + 4 == s.size) = false := by simp; omega
  have hq3 : ((i : Int) + 4 + 1 == s.size) = true := by simp; omega
  have hq2 : ((s[i + 4].toNat : Int) != 92) = false := by rw [bne_eq_false_iff_eq]; omega
  clear hc hi5
  go_enter Tryz.func363,Tryz.ntmps363
  go_wp2_with fail
  refine (four_is s i _ hs a 0 i rfl (by omega) h.out).mono ?_
  rintro e w1 ⟨rfl,hb⟩
  go_wp2_with fail
  refine wp_loop_rounds 2 ?_; rw [rounds_succ]
  go_wp2_with fail
  rw [rounds_succ]
  go_wp2_with fail
  go_ret3
  exact ⟨rfl,hb.alloc hb.size _⟩
theorem coded_7 (s : ByteArray) (i : Nat) (w : World) (hs : s.size ≤ 1099511627776) (hi : i + 4 < s.size) (hi5 : i + 5 < s.size) (a : Int) (h : Bx (FourIs s i a 0)) (ha : 55296 ≤ a) (ha2 : a < 56320) (hc : s[i + 4].toNat = 92) (hd : s[i + 4 + 1].toNat ≠ 117) :
    Calls Tryz.prog 363 #[.string s,.int .i64 i] w fun e' w' => e' = .returned (.tuple #[.int .i64 0,.int .i64 0,.int .i64 12]) ∧ Below w.heap.size w w' := by
  have hq : ((i : Int) + 4 == s.size) = false := by simp; omega
  have hq3 : ((i : Int) + 4 + 1 == s.size) = false := by simp; omega
  have hq2 : ((s[i + 4].toNat : Int) != 92) = false := by rw [bne_eq_false_iff_eq]; omega
  have hq4 : ((s[i + 4 + 1].toNat : Int) != 117) = true := by rw [bne_iff_ne]; omega
  clear hc hd
  go_enter Tryz.func363,Tryz.ntmps363
  go_wp2_with fail
  refine (four_is s i _ hs a 0 i rfl (by omega) h.out).mono ?_
  rintro e w1 ⟨rfl,hb⟩
  go_wp2_with fail
  refine wp_loop_rounds 2 ?_; rw [rounds_succ]
  go_wp2_with fail
  rw [rounds_succ]
  go_wp2_with fail
  go_ret3
  exact ⟨rfl,hb.alloc hb.size _⟩
/-- both halves' digits are there to be read -/
theorem ret3 {a b c a' b' c' : Int} (h1 : a = a') (h2 : b = b') (h3 : c = c') : Ending.returned (.tuple #[.int .i64 a,.int .i64 b,.int .i64 c]) = .returned (.tuple #[.int .i64 a',.int .i64 b',.int .i64 c']) := by rw [h1,h2,h3]
set_option maxHeartbeats 1000000 in
theorem coded_8 (s : ByteArray) (i : Nat) (w : World) (hs : s.size ≤ 1099511627776) (hi : i + 4 < s.size) (hi5 : i + 5 < s.size) (a : Int) (h : Bx (FourIs s i a 0)) (ha : 55296 ≤ a) (ha2 : a < 56320) (hc : s[i + 4].toNat = 92) (hd : s[i + 4 + 1].toNat = 117)
    (b : Int) (e : Nat) (h2 : Bx (FourIs s (i + 6) b e)) (r n f : Int) (hcase : (((e : Int) != 0) = true ∧ r = 0 ∧ n = 0 ∧ f = e) ∨ (e = 0 ∧ b < 56320 ∧ r = 0 ∧ n = 0 ∧ f = 12) ∨ (e = 0 ∧ 56320 ≤ b ∧ 57343 < b ∧ r = 0 ∧ n = 0 ∧ f = 12) ∨ (e = 0 ∧ 56320 ≤ b ∧ b ≤ 57343 ∧ r = 65536 + (a - 55296) * 1024 + (b - 56320) ∧ n = i + 10 ∧ f = 0)) :
    Calls Tryz.prog 363 #[.string s,.int .i64 i] w fun e' w' => e' = .returned (.tuple #[.int .i64 r,.int .i64 n,.int .i64 f]) ∧ Below w.heap.size w w' := by
  have hq : ((i : Int) + 4 == s.size) = false := by simp; omega
  have hq3 : ((i : Int) + 4 + 1 == s.size) = false := by simp; omega
  have hq2 : ((s[i + 4].toNat : Int) != 92) = false := by rw [bne_eq_false_iff_eq]; omega
  have hq4 : ((s[i + 4 + 1].toNat : Int) != 117) = false := by rw [bne_eq_false_iff_eq]; omega
  clear hc hd
  rcases hcase with ⟨he,rfl,rfl,rfl⟩ | ⟨rfl,hb1,rfl,rfl,rfl⟩ | ⟨rfl,hb1,hb2,rfl,rfl,rfl⟩ | ⟨rfl,hb1,hb2,hr,hn,rfl⟩
  case' inr.inr.inr => have HR := Bx.mk hr; have HN := Bx.mk hn; clear hr hn
  all_goals
    go_enter Tryz.func363,Tryz.ntmps363
    go_wp2_with fail
    refine (four_is s i _ hs a 0 i rfl (by omega) h.out).mono ?_
    rintro e w1 ⟨rfl,hbl⟩
    go_wp2_with fail
    refine wp_loop_rounds 3 ?_; rw [rounds_succ]
    go_wp2_with fail
    rw [rounds_succ]
    go_wp2_with fail
    rw [rounds_succ]
    go_wp2_with fail
    refine (four_is s _ _ hs b _ (i + 6) (by omega) (by omega) h2.out).mono ?_
    rintro e w2 ⟨rfl,hbl2⟩
    have hbl3 := (hbl.alloc hbl.size _).trans (hbl2.mono (by have := hbl.size; simp; omega))
    go_wp2_with fail
    go_ret3
  · refine ⟨?_,hbl3⟩
    rw [HR.out,HN.out]
    exact ret3 rfl (by omega) rfl
  · exact ⟨rfl,hbl3⟩
  · exact ⟨rfl,hbl3⟩
  · exact ⟨rfl,hbl3⟩

theorem coded_in (s : ByteArray) (i : Nat) (w : World) (hs : s.size ≤ 1099511627776) (hi : i ≤ s.size) (R : Nat × Nat × Nat) (hR : codedL (s.data.toList.drop i) = R) :
    Calls Tryz.prog 363 #[.string s,.int .i64 i] w fun e' w' => e' = .returned (.tuple #[.int .i64 R.1,.int .i64 (nextN i R),.int .i64 R.2.2]) ∧ Below w.heap.size w w' := by
  obtain ⟨a,e,hF⟩ : ∃ a e,fourL (s.data.toList.drop i) = (a,e) := ⟨_,_,rfl⟩
  have hlt := fourL_lt (s.data.toList.drop i)
  have hF2 : FourIs s i a e := by unfold FourIs; rw [hF]; exact ⟨rfl,rfl⟩
  unfold codedL at hR
  rw [hF] at hR hlt
  simp only at hR hlt
  by_cases he : e ≠ 0
  · rw [if_pos he] at hR
    subst hR
    have := coded_1 s i w hs hi a e ⟨hF2⟩ (by rw [bne_iff_ne]; omega)
    simpa [nextN,he] using this
  rw [if_neg he] at hR
  obtain rfl : e = 0 := by omega
  have h4 : i + 4 ≤ s.size := by
    have := fourL_ok (s.data.toList.drop i) (by rw [hF])
    simp at this; omega
  by_cases ha : a < 55296 ∨ 57343 < a
  · rw [if_pos ha] at hR
    subst hR
    exact coded_2 s i w hs hi a ⟨hF2⟩ (by omega)
  rw [if_neg ha] at hR
  by_cases ha2 : 56320 ≤ a
  · rw [if_pos ha2] at hR
    subst hR
    exact coded_3 s i w hs hi a ⟨hF2⟩ (by omega) (by omega)
  rw [if_neg ha2,List.drop_drop] at hR
  by_cases h4' : i + 4 = s.size
  · rw [drop_end s _ (by omega)] at hR
    subst hR
    exact coded_4 s i w hs h4' a ⟨hF2⟩ (by omega) (by omega)
  have hl4 : i + 4 < s.size := by omega
  rw [drop_cons s _ hl4] at hR
  simp only at hR
  by_cases hc : s[i + 4].toNat ≠ 92
  · rw [if_pos hc] at hR
    subst hR
    exact coded_5 s i w hs hl4 a ⟨hF2⟩ (by omega) (by omega) hc
  rw [if_neg hc] at hR
  by_cases h5' : i + 5 = s.size
  · rw [drop_end s _ (by omega)] at hR
    subst hR
    exact coded_6 s i w hs hl4 h5' a ⟨hF2⟩ (by omega) (by omega) (by omega)
  have hl5 : i + 4 + 1 < s.size := by omega
  rw [drop_cons s _ hl5] at hR
  simp only at hR
  by_cases hd : s[i + 4 + 1].toNat ≠ 117
  · rw [if_pos hd] at hR
    subst hR
    exact coded_7 s i w hs hl4 hl5 a ⟨hF2⟩ (by omega) (by omega) (by omega) hd
  rw [if_neg hd] at hR
  obtain ⟨b,f,hG⟩ : ∃ b f,fourL (s.data.toList.drop (i + 6)) = (b,f) := ⟨_,_,rfl⟩
  have hG2 : FourIs s (i + 6) b f := by unfold FourIs; rw [hG]; exact ⟨rfl,rfl⟩
  rw [show i + 4 + 1 + 1 = i + 6 by omega,hG] at hR
  simp only at hR
  by_cases hf : f ≠ 0
  · rw [if_pos hf] at hR
    subst hR
    have := coded_8 s i w hs hl4 hl5 a ⟨hF2⟩ (by omega) (by omega) (by omega) (by omega) b f ⟨hG2⟩ 0 0 f (.inl ⟨by rw [bne_iff_ne]; omega,rfl,rfl,rfl⟩)
    simpa [nextN,hf] using this
  rw [if_neg hf] at hR
  obtain rfl : f = 0 := by omega
  by_cases hb : b < 56320 ∨ 57343 < b
  · rw [if_pos hb] at hR
    subst hR
    exact coded_8 s i w hs hl4 hl5 a ⟨hF2⟩ (by omega) (by omega) (by omega) (by omega) b 0 ⟨hG2⟩ 0 0 12 (by omega)
  rw [if_neg hb] at hR
  subst hR
  have := coded_8 s i w hs hl4 hl5 a ⟨hF2⟩ (by omega) (by omega) (by omega) (by omega) b 0 ⟨hG2⟩ (65536 + ((a : Int) - 55296) * 1024 + (b - 56320)) (i + 10) 0 (by omega)
  have e1 : ((65536 + (a - 55296) * 1024 + (b - 56320) : Nat) : Int) = 65536 + ((a : Int) - 55296) * 1024 + (b - 56320) := by omega
  have e2 : ((nextN i (65536 + (a - 55296) * 1024 + (b - 56320),10,0) : Nat) : Int) = (i : Int) + 10 := by simp [nextN]
  rw [e1,e2]
  exact this
end Go.Proofs.YtgpjaembafkpoaaGreatDoor

/- Contract of quote.item. -/
namespace Go.Proofs.YtgpjaembafkpoaaGreatDoor
open Go.RowKit
set_option linter.unusedVariables false
set_option maxRecDepth 100000

theorem item_low (s : ByteArray) (i : Nat) (w : World) (hs : s.size ≤ 1099511627776) (hi : i < s.size) (hc : s[i].toNat < 32) :
    Calls Tryz.prog 338 #[.string s,.int .i64 i] w fun e' w' => e' = .returned (.tuple #[.int .i64 0,.int .i64 0,.int .i64 3]) ∧ w = w' := by
  go_enter Tryz.func338,Tryz.ntmps338
  go_wp2_with fail
  go_ret3
  exact ⟨rfl,rfl⟩
theorem item_next (s : ByteArray) (i : Nat) (w : World) (hs : s.size ≤ 1099511627776) (hi : i < s.size) (hc : 32 ≤ s[i].toNat) (hc2 : s[i].toNat ≠ 92) (r n e : Nat) (hn : n ≤ 4) (hx : Bx (nxAt s.data.toList i = (r,n,e))) (he : e ≠ 0 → r = 0 ∧ n = 0) :
    Calls Tryz.prog 338 #[.string s,.int .i64 i] w fun e' w' => e' = .returned (.tuple #[.int .i64 r,.int .i64 (nextN i (r,n,e)),.int .i64 e]) ∧ w = w' := by
  have hq : ((s[i].toNat : Int) != 92) = true := by rw [bne_iff_ne]; omega
  clear hc2
  by_cases h0 : e = 0
  · subst h0
    have hN : Bx (((nextN i (r,n,0) : Nat) : Int) = (i : Int) + n) := ⟨by simp [nextN]⟩
    clear he
    go_enter Tryz.func338,Tryz.ntmps338
    go_wp2_with fail
    refine (next_is s i r n 0 _ hs hx.out).mono ?_
    rintro e w' ⟨rfl,rfl⟩
    go_wp2_with fail
    go_ret3
    rw [hN.out]
    exact ⟨rfl,rfl⟩
  · obtain ⟨rfl,rfl⟩ := he h0
    have hN : Bx (((nextN i (0,0,e) : Nat) : Int) = 0) := ⟨by simp [nextN,h0]⟩
    have hee : ((e : Int) != 0) = true := by rw [bne_iff_ne]; omega
    clear he h0
    go_enter Tryz.func338,Tryz.ntmps338
    go_wp2_with fail
    refine (next_is s i 0 0 e _ hs hx.out).mono ?_
    rintro e w' ⟨rfl,rfl⟩
    go_wp2_with fail
    go_ret3
    rw [hN.out]
    exact ⟨rfl,rfl⟩
theorem item_short (s : ByteArray) (i : Nat) (w : World) (hs : s.size ≤ 1099511627776) (hi : i < s.size) (hc : s[i].toNat = 92) (h1 : i + 1 = s.size) :
    Calls Tryz.prog 338 #[.string s,.int .i64 i] w fun e' w' => e' = .returned (.tuple #[.int .i64 0,.int .i64 0,.int .i64 4]) ∧ w = w' := by
  have hq : ((s[i].toNat : Int) != 92) = false := by rw [bne_eq_false_iff_eq]; omega
  have hq1 : ((i : Int) + 1 == s.size) = true := by simp; omega
  have hq2 : 32 ≤ s[i].toNat := by omega
  clear hc h1
  go_enter Tryz.func338,Tryz.ntmps338
  go_wp2_with fail
  go_ret3
  exact ⟨rfl,rfl⟩

theorem eql_func_nil (f : Fn) (c : Array Value) (w : World) : (binOp .eql 452 (.func f #[] c) .nilFunc).run Tryz.prog w = .ok (.bool false) w := by kernel_rfl
theorem eql_nil_nil (w : World) : (binOp .eql 452 .nilFunc .nilFunc).run Tryz.prog w = .ok (.bool true) w := by kernel_rfl

theorem decoder_u (w : World) : Calls Tryz.prog 351 #[.int .u8 117] w fun e w' => e = .returned (.func (Fn.func 363) #[] #[]) ∧ w = w' := by
  go_enter Tryz.func351,Tryz.ntmps351
  go_wp2
  go_ret
  exact ⟨rfl,rfl⟩
theorem decoder_no (c : Int) (w : World) (h : ∀ x ∈ [34,92,47,98,102,110,114,116,117],(c == x) = false) : Calls Tryz.prog 351 #[.int .u8 c] w fun e w' => e = .returned .nilFunc ∧ w = w' := by
  simp only [List.mem_cons,List.not_mem_nil,or_false,forall_eq_or_imp,forall_eq] at h
  obtain ⟨h1,h2,h3,h4,h5,h6,h7,h8,h9⟩ := h
  go_enter Tryz.func351,Tryz.ntmps351
  go_wp2
  go_ret
  exact ⟨rfl,rfl⟩
set_option maxHeartbeats 1000000 in
theorem decoder_v (c v : Int) (w : World) (hc : (c = 34 ∧ v = 34) ∨ (c = 92 ∧ v = 92) ∨ (c = 47 ∧ v = 47) ∨ (c = 98 ∧ v = 8) ∨ (c = 102 ∧ v = 12) ∨ (c = 110 ∧ v = 10) ∨ (c = 114 ∧ v = 13) ∨ (c = 116 ∧ v = 9)) :
    Calls Tryz.prog 351 #[.int .u8 c] w fun e w' => e = .returned (.func (Fn.func 362) #[] #[.pointer (some ⟨w.heap.size,0,none⟩)]) ∧ w' = w.alloc (.cells #[.int .i64 v] 3) := by
  rcases hc with ⟨rfl,rfl⟩ | ⟨rfl,rfl⟩ | ⟨rfl,rfl⟩ | ⟨rfl,rfl⟩ | ⟨rfl,rfl⟩ | ⟨rfl,rfl⟩ | ⟨rfl,rfl⟩ | ⟨rfl,rfl⟩
  all_goals
    go_enter Tryz.func351,Tryz.ntmps351
    go_wp2
    go_ret
    exact ⟨rfl,rfl⟩
theorem escV_cases (c v : Nat) (h : escV c = some v) : (c = 34 ∧ v = 34) ∨ (c = 92 ∧ v = 92) ∨ (c = 47 ∧ v = 47) ∨ (c = 98 ∧ v = 8) ∨ (c = 102 ∧ v = 12) ∨ (c = 110 ∧ v = 10) ∨ (c = 114 ∧ v = 13) ∨ (c = 116 ∧ v = 9) := by
  unfold escV at h
  split at h
  · cases h; omega
  · split at h
    · cases h; omega
    · split at h
      · cases h; omega
      · split at h
        · cases h; omega
        · split at h
          · cases h; omega
          · split at h
            · cases h; omega
            · cases h
theorem decoder_is (c : Nat) (v : Nat) (w : World) (h : escV c = some v) : Calls Tryz.prog 351 #[.int .u8 c] w fun e w' => e = .returned (.func (Fn.func 362) #[] #[.pointer (some ⟨w.heap.size,0,none⟩)]) ∧ w' = w.alloc (.cells #[.int .i64 v] 3) :=
  decoder_v c v w (by rcases escV_cases c v h with ⟨rfl,rfl⟩ | ⟨rfl,rfl⟩ | ⟨rfl,rfl⟩ | ⟨rfl,rfl⟩ | ⟨rfl,rfl⟩ | ⟨rfl,rfl⟩ | ⟨rfl,rfl⟩ | ⟨rfl,rfl⟩ <;> simp)
theorem closure_is (s : ByteArray) (i v : Int) (b : Nat) (w : World) (h : w.cell? ⟨b,0,none⟩ = some (.int .i64 v)) :
    Calls Tryz.prog 362 #[.string s,.int .i64 i,.pointer (some ⟨b,0,none⟩)] w fun e w' => e = .returned (.tuple #[.int .i64 v,.int .i64 i,.int .i64 0]) ∧ w = w' := by
  go_enter Tryz.func362,Tryz.ntmps362
  go_wp2
  go_ret3
  exact ⟨rfl,rfl⟩

theorem item_u (s : ByteArray) (i : Nat) (w : World) (hs : s.size ≤ 1099511627776) (hi : i < s.size) (hc : s[i].toNat = 92) (h1 : i + 1 < s.size) (hd : s[i + 1].toNat = 117) (R : Nat × Nat × Nat) (hR : Bx (codedL (s.data.toList.drop (i + 2)) = R)) :
    Calls Tryz.prog 338 #[.string s,.int .i64 i] w fun e' w' => e' = .returned (.tuple #[.int .i64 R.1,.int .i64 (nextN (i + 2) R),.int .i64 R.2.2]) ∧ Below w.heap.size w w' := by
  have hq : ((s[i].toNat : Int) != 92) = false := by rw [bne_eq_false_iff_eq]; omega
  have hq1 : ((i : Int) + 1 == s.size) = false := by simp; omega
  have hq2 : 32 ≤ s[i].toNat := by omega
  have hd2 : (s[i + 1].toNat : Int) = 117 := by omega
  have HD := Lib.hid hd2
  have hef := eql_func_nil (Fn.func 363) #[]
  clear hc hd hd2
  go_enter Tryz.func338,Tryz.ntmps338
  go_wp2_with fail
  rw [HD.out]
  refine (decoder_u _).mono ?_
  rintro e w' ⟨rfl,rfl⟩
  go_wp2_with fail
  rw [show ((i : Int) + 2) = ((i + 2 : Nat) : Int) by omega]
  refine (coded_in s (i + 2) _ hs (by omega) R hR.out).mono ?_
  rintro e w1 ⟨rfl,hb⟩
  go_wp2_with fail
  go_ret3
  exact ⟨rfl,hb⟩
theorem item_no (s : ByteArray) (i : Nat) (w : World) (hs : s.size ≤ 1099511627776) (hi : i < s.size) (hc : s[i].toNat = 92) (h1 : i + 1 < s.size) (hd : Bx (∀ x ∈ [34,92,47,98,102,110,114,116,117],((s[i + 1].toNat : Int) == x) = false)) :
    Calls Tryz.prog 338 #[.string s,.int .i64 i] w fun e' w' => e' = .returned (.tuple #[.int .i64 0,.int .i64 0,.int .i64 3]) ∧ w = w' := by
  have hq : ((s[i].toNat : Int) != 92) = false := by rw [bne_eq_false_iff_eq]; omega
  have hq1 : ((i : Int) + 1 == s.size) = false := by simp; omega
  have hq2 : 32 ≤ s[i].toNat := by omega
  have hef := eql_nil_nil
  clear hc
  go_enter Tryz.func338,Tryz.ntmps338
  go_wp2_with fail
  refine (decoder_no _ _ hd.out).mono ?_
  rintro e w' ⟨rfl,rfl⟩
  go_wp2_with fail
  go_ret3
  exact ⟨rfl,rfl⟩
theorem item_esc (s : ByteArray) (i : Nat) (w : World) (hs : s.size ≤ 1099511627776) (hi : i < s.size) (hc : s[i].toNat = 92) (h1 : i + 1 < s.size) (v : Nat) (hd : Bx (escV s[i + 1].toNat = some v)) :
    Calls Tryz.prog 338 #[.string s,.int .i64 i] w fun e' w' => e' = .returned (.tuple #[.int .i64 v,.int .i64 (i + 2 : Nat),.int .i64 0]) ∧ Below w.heap.size w w' := by
  have hq : ((s[i].toNat : Int) != 92) = false := by rw [bne_eq_false_iff_eq]; omega
  have hq1 : ((i : Int) + 1 == s.size) = false := by simp; omega
  have hq2 : 32 ≤ s[i].toNat := by omega
  have hef := eql_func_nil (Fn.func 362) #[.pointer (some ⟨w.heap.size,0,none⟩)]
  clear hc
  go_enter Tryz.func338,Tryz.ntmps338
  go_wp2_with fail
  refine (decoder_is _ v _ hd.out).mono ?_
  rintro e w' ⟨rfl,rfl⟩
  go_wp2_with fail
  refine (closure_is s _ v w.heap.size _ (by simp)).mono ?_
  rintro e w' ⟨rfl,rfl⟩
  go_wp2_with fail
  go_ret3
  exact ⟨ret3 rfl (by omega) rfl,(Below.refl _ _).alloc (Nat.le_refl _) _⟩
end Go.Proofs.YtgpjaembafkpoaaGreatDoor

/- Contract of quote.item (whole), of quote.Read. -/
namespace Go.Proofs.YtgpjaembafkpoaaGreatDoor
open Go.RowKit
set_option linter.unusedVariables false
set_option maxRecDepth 100000

theorem below_of_eq {P : Ending → Prop} {w : World} : ∀ e w',(P e ∧ w = w') → P e ∧ Below w.heap.size w w' := fun _ _ ⟨he,hw⟩ => ⟨he,by rw [← hw]; exact Below.refl _ _⟩

theorem nxAt_drop (s : ByteArray) (i : Nat) (hi : i ≤ s.size) : nxAt s.data.toList (i : Int) = nx (s.data.toList.drop i) := by
  unfold nxAt; rw [if_neg (by simp; omega)]; simp

theorem item_in (s : ByteArray) (i : Nat) (w : World) (hs : s.size ≤ 1099511627776) (hi : i < s.size) (R : Nat × Nat × Nat) (hR : itemL (s.data.toList.drop i) = R) :
    Calls Tryz.prog 338 #[.string s,.int .i64 i] w fun e' w' => e' = .returned (.tuple #[.int .i64 R.1,.int .i64 (nextN i R),.int .i64 R.2.2]) ∧ Below w.heap.size w w' := by
  have hx := drop_cons s i hi
  by_cases h1 : s[i].toNat < 32
  · have : R = (0,0,3) := by rw [← hR,hx]; simp only [itemL]; rw [if_pos h1]
    subst this
    exact (item_low s i w hs hi h1).mono below_of_eq
  by_cases h2 : s[i].toNat ≠ 92
  · have hn : nx (s.data.toList.drop i) = R := by rw [← hR,hx]; simp only [itemL]; rw [if_neg h1,if_pos h2]
    obtain ⟨r,n,e⟩ := R
    have hat := (nxAt_drop s i (by omega)).trans hn
    have hne : n ≤ 4 ∧ (e ≠ 0 → r = 0 ∧ n = 0) := by
      cases nxView (s.data.toList.drop i) with
      | short h hq => rw [hq] at hn; cases hn; simp
      | bad h => rw [h] at hn; cases hn; simp
      | cut h _ _ => rw [h] at hn; cases hn; simp
      | rune r' t hv hl hq =>
        have hm := (enc_len r' hv).2
        rw [hq] at hn
        have h2 := congrArg (fun x => x.2.1) hn
        have h3 := congrArg (fun x => x.2.2) hn
        simp only at h2 h3
        exact ⟨by omega,fun h => by omega⟩
    exact (item_next s i w hs hi (by omega) h2 r n e hne.1 ⟨hat⟩ hne.2).mono below_of_eq
  have hc : s[i].toNat = 92 := by omega
  by_cases h3 : i + 1 = s.size
  · have : R = (0,0,4) := by rw [← hR,hx,drop_end s _ (by omega)]; simp only [itemL]; rw [if_neg h1,if_neg h2]
    subst this
    exact (item_short s i w hs hi hc h3).mono below_of_eq
  have hi1 : i + 1 < s.size := by omega
  have hx2 : itemL (s.data.toList.drop i) = match escV s[i + 1].toNat with
      | some v => (v,2,0)
      | none => if s[i + 1].toNat = 117 then plus 2 (codedL (s.data.toList.drop (i + 2))) else (0,0,3) := by
    rw [hx,drop_cons s _ hi1]; simp only [itemL]; rw [if_neg h1,if_neg h2]; first | done | rfl
  cases hv : escV s[i + 1].toNat with
  | some v =>
    rw [hv] at hx2
    simp only at hx2
    have : R = (v,2,0) := hR.symm.trans hx2
    subst this
    exact item_esc s i w hs hi hc hi1 v ⟨hv⟩
  | none =>
    rw [hv] at hx2
    simp only at hx2
    by_cases h4 : s[i + 1].toNat = 117
    · rw [if_pos h4] at hx2
      have h5 : R = plus 2 (codedL (s.data.toList.drop (i + 2))) := hR.symm.trans hx2
      have := item_u s i w hs hi hc hi1 h4 _ ⟨rfl⟩
      have e1 : R.1 = (codedL (s.data.toList.drop (i + 2))).1 := by rw [h5]; unfold plus; split <;> rfl
      have e2 : R.2.2 = (codedL (s.data.toList.drop (i + 2))).2.2 := by rw [h5]; unfold plus; split <;> simp_all
      have e3 : nextN i R = nextN (i + 2) (codedL (s.data.toList.drop (i + 2))) := by
        rw [h5]; unfold nextN plus
        split <;> simp_all
        omega
      rw [e1,e2,e3]
      exact this
    · rw [if_neg h4] at hx2
      have : R = (0,0,3) := hR.symm.trans hx2
      subst this
      refine (item_no s i w hs hi hc hi1 ⟨?_⟩).mono below_of_eq
      have hq : escV s[i + 1].toNat = none := hv
      have hn : ¬ (s[i + 1].toNat = 34 ∨ s[i + 1].toNat = 92 ∨ s[i + 1].toNat = 47) ∧ s[i + 1].toNat ≠ 98 ∧ s[i + 1].toNat ≠ 102 ∧ s[i + 1].toNat ≠ 110 ∧ s[i + 1].toNat ≠ 114 ∧ s[i + 1].toNat ≠ 116 := by
        unfold escV at hq
        refine ⟨(fun h => by rw [if_pos h] at hq; cases hq),?_⟩
        split at hq
        · cases hq
        · split at hq
          · cases hq
          · split at hq
            · cases hq
            · split at hq
              · cases hq
              · split at hq
                · cases hq
                · split at hq
                  · cases hq
                  · exact ⟨by assumption,by assumption,by assumption,by assumption,by assumption⟩
      intro x hx
      rw [beq_eq_false_iff_ne]
      simp only [List.mem_cons,List.not_mem_nil,or_false] at hx
      omega

/-- the place behind, or 0 -/
def nextR (i : Nat) (R : List UInt8 × Nat × Nat) : Nat := if R.2.2 = 0 then i + R.2.1 else 0

def ReadRel (s : ByteArray) (i : Nat) (B : Nat) (w0 : World) (R : List UInt8 × Nat × Nat) (a b c kv : Value) (w' : World) : Prop :=
  ∃ (k n f : Nat) (out : List UInt8),k = i + n ∧ k ≤ s.size ∧ s.size + 1 ≤ k + f ∧ out.length ≤ 4096 ∧ a = .string ⟨#[]⟩ ∧ b = .int .i64 0 ∧ c = .int .i64 0 ∧ kv = .int .i64 k ∧
    rdGo f (s.data.toList.drop k) n out = R ∧ Bd B B out w' ∧ Below B w0 w'

theorem read_arg (s : ByteArray) (i : Int) (w : World) (hs : s.size ≤ 1099511627776) (h : i < 0 ∨ s.size < i) :
    Calls Tryz.prog 334 #[.string s,.int .i64 i] w fun e w' => e = .returned (.tuple #[.string ⟨#[]⟩,.int .i64 0,.int .i64 1]) ∧ w = w' := by
  rcases h with h | h
  all_goals
    go_enter Tryz.func334,Tryz.ntmps334
    go_wp2_with fail
    go_ret3
    exact ⟨rfl,rfl⟩
theorem read_end (s : ByteArray) (w : World) (hs : s.size ≤ 1099511627776) :
    Calls Tryz.prog 334 #[.string s,.int .i64 s.size] w fun e w' => e = .returned (.tuple #[.string ⟨#[]⟩,.int .i64 0,.int .i64 4]) ∧ w = w' := by
  go_enter Tryz.func334,Tryz.ntmps334
  go_wp2_with fail
  go_ret3
  exact ⟨rfl,rfl⟩
theorem read_form (s : ByteArray) (i : Nat) (w : World) (hs : s.size ≤ 1099511627776) (hi : i < s.size) (hc : s[i].toNat ≠ 34) :
    Calls Tryz.prog 334 #[.string s,.int .i64 i] w fun e w' => e = .returned (.tuple #[.string ⟨#[]⟩,.int .i64 0,.int .i64 3]) ∧ w = w' := by
  have hne : ((i : Int) == s.size) = false := by simp; omega
  have hq : ((s[i].toNat : Int) != 34) = true := by rw [bne_iff_ne]; omega
  clear hc
  go_enter Tryz.func334,Tryz.ntmps334
  go_wp2_with fail
  go_ret3
  exact ⟨rfl,rfl⟩

theorem ret_sie {s t : ByteArray} {a b c d : Int} (h0 : s = t) (h1 : a = b) (h2 : c = d) : Ending.returned (.tuple #[.string s,.int .i64 a,.int .i64 c]) = .returned (.tuple #[.string t,.int .i64 b,.int .i64 d]) := by rw [h0,h1,h2]

set_option maxHeartbeats 1000000 in
theorem read_go (s : ByteArray) (i : Nat) (w : World) (hs : s.size ≤ 1099511627776) (hi : i < s.size) (hc : s[i].toNat = 34) (R : List UInt8 × Nat × Nat) (hR : Bx (readL (s.data.toList.drop i) = R)) :
    Calls Tryz.prog 334 #[.string s,.int .i64 i] w fun e w' => e = .returned (.tuple #[.string (str R.1),.int .i64 (nextR i R),.int .i64 R.2.2]) ∧ Below w.heap.size w w' := by
  have hne : ((i : Int) == s.size) = false := by simp; omega
  have hq : ((s[i].toNat : Int) != 34) = false := by rw [bne_eq_false_iff_eq]; omega
  have hi0 : decide ((i : Int) < 0) = false := by simp
  have hsi : decide (s.size < i) = false := by simp; omega
  have HR : Bx (rdGo ((s.data.toList.drop (i + 1)).length + 1) (s.data.toList.drop (i + 1)) 1 [] = R) := ⟨by
    rw [← hR.out,drop_cons s i hi]; simp only [readL]; rw [if_neg (by omega)]⟩
  have Hd := Bx.mk (bd_fresh w w.heap.size (Nat.le_refl _))
  clear hc hR
  go_enter Tryz.func334,Tryz.ntmps334
  go_wp2_with fail
  go_loopw [4,5,6,1] (fun a b c k w' => ReadRel s i w.heap.size w R a b c k w') (fun _ _ _ k _ => s.size - (intOf k).toNat)
  case atStart => exact ⟨i + 1,1,_,[],rfl,by omega,by simp; omega,by simp,rfl,rfl,rfl,by go_num,HR.out,Hd.out,(Below.refl _ _).alloc (Nat.le_refl _) _⟩
  case round =>
    clear HR Hd
    obtain ⟨k,n,f,out,hkn,hk,hf,hout,rfl,rfl,rfl,rfl,hG,hd,hb⟩ := hrel
    have HKN := Bx.mk hkn
    have HD := Bx.mk hd
    clear hkn hd
    by_cases hlt : k < s.size
    · obtain ⟨g,rfl⟩ : ∃ g,f = g + 1 := ⟨f - 1,by omega⟩
      have hx := drop_cons s k hlt
      rw [hx] at hG
      simp only [rdGo] at hG
      rw [← hx] at hG
      by_cases hc : s[k].toNat = 34
      · rw [if_pos hc] at hG
        have HF := Bx.mk hG
        have hq1 : ((s[k].toNat : Int) == 34) = true := by rw [beq_iff_eq]; omega
        clear hG hc hx
        go_wp2_with fail
        refine (bd_string _ _ _ _ HD.out hb.size).mono ?_
        rintro e w1 ⟨rfl,hb1⟩
        go_wp2_with fail
        go_ret3
        rw [← HF.out]
        exact ⟨ret_sie rfl (by have := HKN.out; simp [nextR]; omega) rfl,hb.trans hb1⟩
      rw [if_neg hc] at hG
      have hq1 : ((s[k].toNat : Int) == 34) = false := by rw [beq_eq_false_iff_ne]; omega
      clear hc
      cases itemView (s.data.toList.drop k) with
      | err e he hI =>
        rw [hI] at hG
        simp only at hG
        rw [if_pos he] at hG
        have HF := Bx.mk hG
        have HI := Bx.mk hI
        have hee : ((e : Int) != 0) = true := by rw [bne_iff_ne]; omega
        have HE := Bx.mk he
        clear hG hx hI he
        go_wp2_with fail
        refine (item_in s k _ hs hlt _ HI.out).mono ?_
        rintro e' w1 ⟨rfl,hb1⟩
        rw [show nextN k (0,0,e) = 0 from by simp [nextN,HE.out]]
        go_wp2_with fail
        go_ret3
        rw [← HF.out]
        exact ⟨ret_sie rfl (by simp [nextR,HE.out]) rfl,hb.trans (hb1.mono hb.size)⟩
      | ok r m hv hm1 hm2 hI =>
        rw [hI] at hG
        simp only at hG
        rw [if_neg (by omega)] at hG
        have hmle : k + m ≤ s.size := by simp at hm2; omega
        have hen := enc_len r hv
        obtain ⟨E,hE⟩ : ∃ E,Utf8.encode (r : Int) = E := ⟨_,rfl⟩
        have hEd : E.data.toList = enc r := by rw [← hE]; exact enc_data r
        have hEs : E.size = (enc r).length := by rw [← hE]; exact enc_size r
        have HI := Bx.mk hI
        have HV := Bx.mk hv
        have HE := Bx.mk hE
        have HEd := Bx.mk hEd
        by_cases hbig : 4096 < out.length + (enc r).length
        · rw [if_pos hbig] at hG
          have HF := Bx.mk hG
          generalize (enc r).length = p at *
          clear hG hx hI hv hE hEd hm2
          go_wp2_with fail
          refine (item_in s k _ hs hlt _ HI.out).mono ?_
          rintro e' w1 ⟨rfl,hb1⟩
          have HD1 := Bx.mk (HD.out.kept (grown_of_below hb1))
          go_wp2_with fail
          refine (put_val _ E _ HV.out HE.out).mono ?_
          rintro e' w' ⟨rfl,rfl⟩
          go_wp2_with fail
          refine (bd_len _ _ _ _ HD1.out).mono ?_
          rintro e' w' ⟨rfl,rfl⟩
          go_wp2_with fail
          go_ret3
          rw [← HF.out]
          exact ⟨ret_sie rfl rfl rfl,hb.trans (hb1.mono hb.size)⟩
        · rw [if_neg hbig,List.drop_drop] at hG
          have HF := Bx.mk hG
          have hN : Bx (((nextN k (r,m,0) : Nat) : Int) = (k : Int) + m) := ⟨by simp [nextN]⟩
          generalize hp : (enc r).length = p at *
          have HP := Bx.mk hp
          clear hG hx hI hv hE hEd hm2 hp
          go_wp2_with fail
          refine (item_in s k _ hs hlt _ HI.out).mono ?_
          rintro e' w1 ⟨rfl,hb1⟩
          have HD1 := Bx.mk (HD.out.kept (grown_of_below hb1))
          rw [hN.out]
          go_wp2_with fail
          refine (put_val _ E _ HV.out HE.out).mono ?_
          rintro e' w' ⟨rfl,rfl⟩
          go_wp2_with fail
          refine (bd_len _ _ _ _ HD1.out).mono ?_
          rintro e' w' ⟨rfl,rfl⟩
          go_wp2_with fail
          refine (bd_writeString _ _ _ E _ HD1.out (by omega) (Nat.le_trans hb.size hb1.size)).mono ?_
          rintro e' w2 ⟨rfl,hd2,hb2⟩
          have HD2 := Bx.mk hd2
          clear hd2
          go_wp2_with fail
          go_roundw
          case rel => exact ⟨k + m,n + m,g,out ++ enc r,by have := HKN.out; omega,by omega,by omega,by rw [List.length_append,HP.out]; omega,rfl,rfl,rfl,by go_num,HF.out,by rw [← HEd.out]; exact HD2.out,(hb.trans (hb1.mono hb.size)).trans hb2⟩
          case measure => simp [intOf]; omega
    · have hF : Bx (([],0,4) = R) := ⟨by
        rw [drop_end s k (by omega)] at hG
        cases f with
        | zero => exact hG
        | succ f => exact hG⟩
      clear hG
      go_wp2_with fail
      go_ret3
      rw [← hF.out]
      exact ⟨rfl,hb⟩

/-- what Read tells at any place -/
def readR (l : List UInt8) (i : Int) : List UInt8 × Nat × Nat :=
  if i < 0 ∨ (l.length : Int) < i then ([],0,1) else ((readL (l.drop i.toNat)).1,nextR i.toNat (readL (l.drop i.toNat)),(readL (l.drop i.toNat)).2.2)

theorem read_any (s : ByteArray) (i : Int) (w : World) (hs : s.size ≤ 1099511627776) :
    Calls Tryz.prog 334 #[.string s,.int .i64 i] w fun e w' => e = .returned (.tuple #[.string (str (readR s.data.toList i).1),.int .i64 (readR s.data.toList i).2.1,.int .i64 (readR s.data.toList i).2.2]) ∧ Below w.heap.size w w' := by
  have hlen : s.data.toList.length = s.size := by simp
  unfold readR
  rw [hlen]
  by_cases h : i < 0 ∨ (s.size : Int) < i
  · rw [if_pos h]
    exact (read_arg s i w hs h).mono below_of_eq
  · rw [if_neg h]
    obtain ⟨n,rfl⟩ := Int.eq_ofNat_of_zero_le (show 0 ≤ i by omega)
    rw [Int.toNat_natCast]
    by_cases hn : n = s.size
    · subst hn
      rw [drop_end s _ (Nat.le_refl _)]
      exact (read_end s w hs).mono below_of_eq
    · have hlt : n < s.size := by omega
      by_cases hc : s[n].toNat = 34
      · exact read_go s n w hs hlt hc _ ⟨rfl⟩
      · rw [drop_cons s n hlt]
        have : readL (s[n] :: s.data.toList.drop (n + 1)) = ([],0,3) := by simp only [readL]; rw [if_pos hc]
        rw [this]
        exact (read_form s n w hs hlt hc).mono below_of_eq
end Go.Proofs.YtgpjaembafkpoaaGreatDoor

