/- Contract of quote.item (whole), of quote.Read. -/
import Derived.Test.YtchnhhioamkdgaaRead4
namespace Go.Proofs.Ytchnhhioamkdgaa
open Go.RowKit
set_option linter.unusedVariables false
set_option maxRecDepth 100000

theorem below_of_eq {P : Ending → Prop} {w : World} : ∀ e w', (P e ∧ w = w') → P e ∧ Below w.heap.size w w' := fun _ _ ⟨he, hw⟩ => ⟨he, by rw [← hw]; exact Below.refl _ _⟩

theorem nxAt_drop (s : ByteArray) (i : Nat) (hi : i ≤ s.size) : nxAt s.data.toList (i : Int) = nx (s.data.toList.drop i) := by
  unfold nxAt; rw [if_neg (by simp; omega)]; simp

theorem item_in (s : ByteArray) (i : Nat) (w : World) (hs : s.size ≤ 1099511627776) (hi : i < s.size) (R : Nat × Nat × Nat) (hR : itemL (s.data.toList.drop i) = R) :
    Calls Try.prog 37 #[.string s, .int .i64 i] w fun e' w' => e' = .returned (.tuple #[.int .i64 R.1, .int .i64 (nextN i R), .int .i64 R.2.2]) ∧ Below w.heap.size w w' := by
  have hx := drop_cons s i hi
  by_cases h1 : s[i].toNat < 32
  · have : R = (0, 0, 3) := by rw [← hR, hx]; simp only [itemL]; rw [if_pos h1]
    subst this
    exact (item_low s i w hs hi h1).mono below_of_eq
  by_cases h2 : s[i].toNat ≠ 92
  · have hn : nx (s.data.toList.drop i) = R := by rw [← hR, hx]; simp only [itemL]; rw [if_neg h1, if_pos h2]
    obtain ⟨r, n, e⟩ := R
    have hat := (nxAt_drop s i (by omega)).trans hn
    have hne : n ≤ 4 ∧ (e ≠ 0 → r = 0 ∧ n = 0) := by
      cases nxView (s.data.toList.drop i) with
      | short h hq => rw [hq] at hn; cases hn; simp
      | bad h => rw [h] at hn; cases hn; simp
      | cut h _ _ => rw [h] at hn; cases hn; simp
      | rune r' t hv hl hq =>
        have hm := (enc_len r' hv).2
        rw [hq] at hn
        have h2 := congrArg (fun x => x.2.1) hn
        have h3 := congrArg (fun x => x.2.2) hn
        simp only at h2 h3
        exact ⟨by omega, fun h => by omega⟩
    exact (item_next s i w hs hi (by omega) h2 r n e hne.1 ⟨hat⟩ hne.2).mono below_of_eq
  have hc : s[i].toNat = 92 := by omega
  by_cases h3 : i + 1 = s.size
  · have : R = (0, 0, 4) := by rw [← hR, hx, drop_end s _ (by omega)]; simp only [itemL]; rw [if_neg h1, if_neg h2]
    subst this
    exact (item_short s i w hs hi hc h3).mono below_of_eq
  have hi1 : i + 1 < s.size := by omega
  have hx2 : itemL (s.data.toList.drop i) = match escV s[i + 1].toNat with
      | some v => (v, 2, 0)
      | none => if s[i + 1].toNat = 117 then plus 2 (codedL (s.data.toList.drop (i + 2))) else (0, 0, 3) := by
    rw [hx, drop_cons s _ hi1]; simp only [itemL]; rw [if_neg h1, if_neg h2]; rfl
  cases hv : escV s[i + 1].toNat with
  | some v =>
    rw [hv] at hx2
    simp only at hx2
    have : R = (v, 2, 0) := hR.symm.trans hx2
    subst this
    exact item_esc s i w hs hi hc hi1 v ⟨hv⟩
  | none =>
    rw [hv] at hx2
    simp only at hx2
    by_cases h4 : s[i + 1].toNat = 117
    · rw [if_pos h4] at hx2
      have h5 : R = plus 2 (codedL (s.data.toList.drop (i + 2))) := hR.symm.trans hx2
      have := item_u s i w hs hi hc hi1 h4 _ ⟨rfl⟩
      have e1 : R.1 = (codedL (s.data.toList.drop (i + 2))).1 := by rw [h5]; unfold plus; split <;> rfl
      have e2 : R.2.2 = (codedL (s.data.toList.drop (i + 2))).2.2 := by rw [h5]; unfold plus; split <;> simp_all
      have e3 : nextN i R = nextN (i + 2) (codedL (s.data.toList.drop (i + 2))) := by
        rw [h5]; unfold nextN plus
        split <;> simp_all
        omega
      rw [e1, e2, e3]
      exact this
    · rw [if_neg h4] at hx2
      have : R = (0, 0, 3) := hR.symm.trans hx2
      subst this
      refine (item_no s i w hs hi hc hi1 ⟨?_⟩).mono below_of_eq
      have hq : escV s[i + 1].toNat = none := hv
      have hn : ¬ (s[i + 1].toNat = 34 ∨ s[i + 1].toNat = 92 ∨ s[i + 1].toNat = 47) ∧ s[i + 1].toNat ≠ 98 ∧ s[i + 1].toNat ≠ 102 ∧ s[i + 1].toNat ≠ 110 ∧ s[i + 1].toNat ≠ 114 ∧ s[i + 1].toNat ≠ 116 := by
        unfold escV at hq
        refine ⟨(fun h => by rw [if_pos h] at hq; cases hq), ?_⟩
        split at hq
        · cases hq
        · split at hq
          · cases hq
          · split at hq
            · cases hq
            · split at hq
              · cases hq
              · split at hq
                · cases hq
                · split at hq
                  · cases hq
                  · exact ⟨by assumption, by assumption, by assumption, by assumption, by assumption⟩
      intro x hx
      rw [beq_eq_false_iff_ne]
      simp only [List.mem_cons, List.not_mem_nil, or_false] at hx
      omega

/-- the place behind, or 0 -/
def nextR (i : Nat) (R : List UInt8 × Nat × Nat) : Nat := if R.2.2 = 0 then i + R.2.1 else 0

def ReadRel (s : ByteArray) (i : Nat) (B : Nat) (w0 : World) (R : List UInt8 × Nat × Nat) (a b c kv : Value) (w' : World) : Prop :=
  ∃ (k n f : Nat) (out : List UInt8), k = i + n ∧ k ≤ s.size ∧ s.size + 1 ≤ k + f ∧ out.length ≤ 4096 ∧ a = .string ⟨#[]⟩ ∧ b = .int .i64 0 ∧ c = .int .i64 0 ∧ kv = .int .i64 k ∧
    rdGo f (s.data.toList.drop k) n out = R ∧ Bd B B out w' ∧ Below B w0 w'

theorem read_arg (s : ByteArray) (i : Int) (w : World) (hs : s.size ≤ 1099511627776) (h : i < 0 ∨ s.size < i) :
    Calls Try.prog 29 #[.string s, .int .i64 i] w fun e w' => e = .returned (.tuple #[.string ⟨#[]⟩, .int .i64 0, .int .i64 1]) ∧ w = w' := by
  rcases h with h | h
  all_goals
    go_enter Try.func29, Try.ntmps29
    go_wp2_with fail
    go_ret3
    exact ⟨rfl, rfl⟩
theorem read_end (s : ByteArray) (w : World) (hs : s.size ≤ 1099511627776) :
    Calls Try.prog 29 #[.string s, .int .i64 s.size] w fun e w' => e = .returned (.tuple #[.string ⟨#[]⟩, .int .i64 0, .int .i64 4]) ∧ w = w' := by
  go_enter Try.func29, Try.ntmps29
  go_wp2_with fail
  go_ret3
  exact ⟨rfl, rfl⟩
theorem read_form (s : ByteArray) (i : Nat) (w : World) (hs : s.size ≤ 1099511627776) (hi : i < s.size) (hc : s[i].toNat ≠ 34) :
    Calls Try.prog 29 #[.string s, .int .i64 i] w fun e w' => e = .returned (.tuple #[.string ⟨#[]⟩, .int .i64 0, .int .i64 3]) ∧ w = w' := by
  have hne : ((i : Int) == s.size) = false := by simp; omega
  have hq : ((s[i].toNat : Int) != 34) = true := by rw [bne_iff_ne]; omega
  clear hc
  go_enter Try.func29, Try.ntmps29
  go_wp2_with fail
  go_ret3
  exact ⟨rfl, rfl⟩

theorem ret_sie {s t : ByteArray} {a b c d : Int} (h0 : s = t) (h1 : a = b) (h2 : c = d) : Ending.returned (.tuple #[.string s, .int .i64 a, .int .i64 c]) = .returned (.tuple #[.string t, .int .i64 b, .int .i64 d]) := by rw [h0, h1, h2]

set_option maxHeartbeats 1000000 in
theorem read_go (s : ByteArray) (i : Nat) (w : World) (hs : s.size ≤ 1099511627776) (hi : i < s.size) (hc : s[i].toNat = 34) (R : List UInt8 × Nat × Nat) (hR : Bx (readL (s.data.toList.drop i) = R)) :
    Calls Try.prog 29 #[.string s, .int .i64 i] w fun e w' => e = .returned (.tuple #[.string (str R.1), .int .i64 (nextR i R), .int .i64 R.2.2]) ∧ Below w.heap.size w w' := by
  have hne : ((i : Int) == s.size) = false := by simp; omega
  have hq : ((s[i].toNat : Int) != 34) = false := by rw [bne_eq_false_iff_eq]; omega
  have hi0 : decide ((i : Int) < 0) = false := by simp
  have hsi : decide (s.size < i) = false := by simp; omega
  have HR : Bx (rdGo ((s.data.toList.drop (i + 1)).length + 1) (s.data.toList.drop (i + 1)) 1 [] = R) := ⟨by
    rw [← hR.out, drop_cons s i hi]; simp only [readL]; rw [if_neg (by omega)]⟩
  have Hd := Bx.mk (bd_fresh w w.heap.size (Nat.le_refl _))
  clear hc hR
  go_enter Try.func29, Try.ntmps29
  go_wp2_with fail
  go_loopw [4, 5, 6, 1] (fun a b c k w' => ReadRel s i w.heap.size w R a b c k w') (fun _ _ _ k _ => s.size - (intOf k).toNat)
  case atStart => exact ⟨i + 1, 1, _, [], rfl, by omega, by simp; omega, by simp, rfl, rfl, rfl, by go_num, HR.out, Hd.out, (Below.refl _ _).alloc (Nat.le_refl _) _⟩
  case round =>
    clear HR Hd
    obtain ⟨k, n, f, out, hkn, hk, hf, hout, rfl, rfl, rfl, rfl, hG, hd, hb⟩ := hrel
    have HKN := Bx.mk hkn
    have HD := Bx.mk hd
    clear hkn hd
    by_cases hlt : k < s.size
    · obtain ⟨g, rfl⟩ : ∃ g, f = g + 1 := ⟨f - 1, by omega⟩
      have hx := drop_cons s k hlt
      rw [hx] at hG
      simp only [rdGo] at hG
      rw [← hx] at hG
      by_cases hc : s[k].toNat = 34
      · rw [if_pos hc] at hG
        have HF := Bx.mk hG
        have hq1 : ((s[k].toNat : Int) == 34) = true := by rw [beq_iff_eq]; omega
        clear hG hc hx
        go_wp2_with fail
        refine (bd_string _ _ _ _ HD.out hb.size).mono ?_
        rintro e w1 ⟨rfl, hb1⟩
        go_wp2_with fail
        go_ret3
        rw [← HF.out]
        exact ⟨ret_sie rfl (by have := HKN.out; simp [nextR]; omega) rfl, hb.trans hb1⟩
      rw [if_neg hc] at hG
      have hq1 : ((s[k].toNat : Int) == 34) = false := by rw [beq_eq_false_iff_ne]; omega
      clear hc
      cases itemView (s.data.toList.drop k) with
      | err e he hI =>
        rw [hI] at hG
        simp only at hG
        rw [if_pos he] at hG
        have HF := Bx.mk hG
        have HI := Bx.mk hI
        have hee : ((e : Int) != 0) = true := by rw [bne_iff_ne]; omega
        have HE := Bx.mk he
        clear hG hx hI he
        go_wp2_with fail
        refine (item_in s k _ hs hlt _ HI.out).mono ?_
        rintro e' w1 ⟨rfl, hb1⟩
        rw [show nextN k (0, 0, e) = 0 from by simp [nextN, HE.out]]
        go_wp2_with fail
        go_ret3
        rw [← HF.out]
        exact ⟨ret_sie rfl (by simp [nextR, HE.out]) rfl, hb.trans (hb1.mono hb.size)⟩
      | ok r m hv hm1 hm2 hI =>
        rw [hI] at hG
        simp only at hG
        rw [if_neg (by omega)] at hG
        have hmle : k + m ≤ s.size := by simp at hm2; omega
        have hen := enc_len r hv
        obtain ⟨E, hE⟩ : ∃ E, Utf8.encode (r : Int) = E := ⟨_, rfl⟩
        have hEd : E.data.toList = enc r := by rw [← hE]; exact enc_data r
        have hEs : E.size = (enc r).length := by rw [← hE]; exact enc_size r
        have HI := Bx.mk hI
        have HV := Bx.mk hv
        have HE := Bx.mk hE
        have HEd := Bx.mk hEd
        by_cases hbig : 4096 < out.length + (enc r).length
        · rw [if_pos hbig] at hG
          have HF := Bx.mk hG
          generalize (enc r).length = p at *
          clear hG hx hI hv hE hEd hm2
          go_wp2_with fail
          refine (item_in s k _ hs hlt _ HI.out).mono ?_
          rintro e' w1 ⟨rfl, hb1⟩
          have HD1 := Bx.mk (HD.out.kept (grown_of_below hb1))
          go_wp2_with fail
          refine (put_val _ E _ HV.out HE.out).mono ?_
          rintro e' w' ⟨rfl, rfl⟩
          go_wp2_with fail
          refine (bd_len _ _ _ _ HD1.out).mono ?_
          rintro e' w' ⟨rfl, rfl⟩
          go_wp2_with fail
          go_ret3
          rw [← HF.out]
          exact ⟨ret_sie rfl rfl rfl, hb.trans (hb1.mono hb.size)⟩
        · rw [if_neg hbig, List.drop_drop] at hG
          have HF := Bx.mk hG
          have hN : Bx (((nextN k (r, m, 0) : Nat) : Int) = (k : Int) + m) := ⟨by simp [nextN]⟩
          generalize hp : (enc r).length = p at *
          have HP := Bx.mk hp
          clear hG hx hI hv hE hEd hm2 hp
          go_wp2_with fail
          refine (item_in s k _ hs hlt _ HI.out).mono ?_
          rintro e' w1 ⟨rfl, hb1⟩
          have HD1 := Bx.mk (HD.out.kept (grown_of_below hb1))
          rw [hN.out]
          go_wp2_with fail
          refine (put_val _ E _ HV.out HE.out).mono ?_
          rintro e' w' ⟨rfl, rfl⟩
          go_wp2_with fail
          refine (bd_len _ _ _ _ HD1.out).mono ?_
          rintro e' w' ⟨rfl, rfl⟩
          go_wp2_with fail
          refine (bd_writeString _ _ _ E _ HD1.out (by omega) (Nat.le_trans hb.size hb1.size)).mono ?_
          rintro e' w2 ⟨rfl, hd2, hb2⟩
          have HD2 := Bx.mk hd2
          clear hd2
          go_wp2_with fail
          go_roundw
          case rel => exact ⟨k + m, n + m, g, out ++ enc r, by have := HKN.out; omega, by omega, by omega, by rw [List.length_append, HP.out]; omega, rfl, rfl, rfl, by go_num, HF.out, by rw [← HEd.out]; exact HD2.out, (hb.trans (hb1.mono hb.size)).trans hb2⟩
          case measure => simp [intOf]; omega
    · have hF : Bx (([], 0, 4) = R) := ⟨by
        rw [drop_end s k (by omega)] at hG
        cases f with
        | zero => exact hG
        | succ f => exact hG⟩
      clear hG
      go_wp2_with fail
      go_ret3
      rw [← hF.out]
      exact ⟨rfl, hb⟩

/-- what Read tells at any place -/
def readR (l : List UInt8) (i : Int) : List UInt8 × Nat × Nat :=
  if i < 0 ∨ (l.length : Int) < i then ([], 0, 1) else ((readL (l.drop i.toNat)).1, nextR i.toNat (readL (l.drop i.toNat)), (readL (l.drop i.toNat)).2.2)

theorem rdGo_err (f : Nat) : ∀ (l : List UInt8) (n : Nat) (out : List UInt8), (rdGo f l n out).2.2 ≠ 0 → (rdGo f l n out).1 = [] ∧ (rdGo f l n out).2.1 = 0 := by
  induction f with
  | zero => intro l n out h; exact ⟨rfl, rfl⟩
  | succ f ih =>
    intro l n out h
    match l with
    | [] => exact ⟨rfl, rfl⟩
    | c :: t =>
      simp only [rdGo] at h ⊢
      by_cases h1 : c.toNat = 34
      · rw [if_pos h1] at h; exact absurd rfl h
      rw [if_neg h1] at h ⊢
      by_cases h2 : (itemL (c :: t)).2.2 ≠ 0
      · rw [if_pos h2]; exact ⟨rfl, rfl⟩
      rw [if_neg h2] at h ⊢
      by_cases h3 : 4096 < out.length + (enc (itemL (c :: t)).1).length
      · rw [if_pos h3]; exact ⟨rfl, rfl⟩
      rw [if_neg h3] at h ⊢
      exact ih _ _ _ h

theorem read_any (s : ByteArray) (i : Int) (w : World) (hs : s.size ≤ 1099511627776) :
    Calls Try.prog 29 #[.string s, .int .i64 i] w fun e w' => e = .returned (.tuple #[.string (str (readR s.data.toList i).1), .int .i64 (readR s.data.toList i).2.1, .int .i64 (readR s.data.toList i).2.2]) ∧ Below w.heap.size w w' := by
  have hlen : s.data.toList.length = s.size := by simp
  unfold readR
  rw [hlen]
  by_cases h : i < 0 ∨ (s.size : Int) < i
  · rw [if_pos h]
    exact (read_arg s i w hs h).mono below_of_eq
  · rw [if_neg h]
    obtain ⟨n, rfl⟩ := Int.eq_ofNat_of_zero_le (show 0 ≤ i by omega)
    rw [Int.toNat_natCast]
    by_cases hn : n = s.size
    · subst hn
      rw [drop_end s _ (Nat.le_refl _)]
      exact (read_end s w hs).mono below_of_eq
    · have hlt : n < s.size := by omega
      by_cases hc : s[n].toNat = 34
      · exact read_go s n w hs hlt hc _ ⟨rfl⟩
      · rw [drop_cons s n hlt]
        have : readL (s[n] :: s.data.toList.drop (n + 1)) = ([], 0, 3) := by simp only [readL]; rw [if_pos hc]
        rw [this]
        exact (read_form s n w hs hlt hc).mono below_of_eq
end Go.Proofs.Ytchnhhioamkdgaa
