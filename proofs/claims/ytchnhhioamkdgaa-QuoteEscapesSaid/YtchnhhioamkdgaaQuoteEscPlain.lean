/- Plain: escapes among other texts. -/
import Derived.Test.YtchnhhioamkdgaaQuoteBack
namespace Go.Proofs.Ytchnhhioamkdgaa
set_option linter.unusedVariables false
set_option maxRecDepth 100000

def hexc (big : Bool) (d : Nat) : UInt8 := if d < 10 then b8 (48 + d) else if big then b8 (55 + d) else b8 (87 + d)
theorem digV_hexc (big : Bool) (d : Nat) (h : d < 16) : digV (hexc big d).toNat = some d := by
  have : ∀ big, ∀ d : Fin 16, digV (hexc big d.val).toNat = some d.val := by decide +kernel
  exact this big ⟨d, h⟩
def digL (big : Bool) (n : Nat) : List UInt8 := [hexc big (n / 4096 % 16), hexc big (n / 256 % 16), hexc big (n / 16 % 16), hexc big (n % 16)]
theorem digL_len (big : Bool) (n : Nat) : (digL big n).length = 4 := rfl
theorem four_dig (big : Bool) (n : Nat) (h : n < 65536) (X : List UInt8) : fourL (digL big n ++ X) = (n, 0) := by
  unfold fourL digL
  simp only [List.cons_append, List.nil_append, fourGo]
  rw [digV_hexc _ _ (by omega)]
  simp only
  rw [digV_hexc _ _ (by omega)]
  simp only
  rw [digV_hexc _ _ (by omega)]
  simp only
  rw [digV_hexc _ _ (by omega)]
  simp only
  congr 1; omega

/-- a rune by \u -/
def uniL (big : Bool) (n : Nat) : List UInt8 :=
  if n ≤ 65535 then 92 :: 117 :: digL big n else 92 :: 117 :: (digL big (55296 + (n - 65536) / 1024) ++ 92 :: 117 :: digL big (56320 + (n - 65536) % 1024))
theorem uni_len (big : Bool) (n : Nat) : (uniL big n).length = if n ≤ 65535 then 6 else 12 := by
  unfold uniL; split <;> rfl
theorem rd_uni (big : Bool) (n : Nat) (hv : Utf8.valid n = true) (X : List UInt8) (k : Nat) (x : List UInt8) (hX : Rd X k x) :
    Rd (uniL big n ++ X) ((uniL big n).length + k) (enc n ++ x) := by
  have hv' := (valid_iff n).1 hv
  by_cases h : n ≤ 65535
  · have e : uniL big n = 92 :: 117 :: digL big n := by unfold uniL; rw [if_pos h]
    rw [e]
    refine .step 92 (117 :: digL big n ++ X) n 6 k x (by decide) (.cod n 4 92 117 (digL big n ++ X) rfl rfl rfl (.one n (four_dig big n (by omega) X) (by omega))) ?_
    exact hX
  · have e : uniL big n = 92 :: 117 :: (digL big (55296 + (n - 65536) / 1024) ++ 92 :: 117 :: digL big (56320 + (n - 65536) % 1024)) := by unfold uniL; rw [if_neg h]
    rw [e]
    have hr : 65536 + (55296 + (n - 65536) / 1024 - 55296) * 1024 + (56320 + (n - 65536) % 1024 - 56320) = n := by omega
    have hc := Coded.two (l := (digL big (55296 + (n - 65536) / 1024) ++ 92 :: 117 :: digL big (56320 + (n - 65536) % 1024)) ++ X) (55296 + (n - 65536) / 1024) (56320 + (n - 65536) % 1024) 92 117 (digL big (56320 + (n - 65536) % 1024) ++ X)
      (by rw [List.append_assoc]; exact four_dig big _ (by omega) _) (by omega) (by omega) rfl rfl rfl (four_dig big _ (by omega) X) (by omega) (by omega)
    rw [hr] at hc
    refine .step 92 _ n 12 k x (by decide) (.cod n 10 92 117 _ rfl rfl rfl hc) ?_
    exact hX

def escY : Nat → UInt8
  | 0 => 34 | 1 => 92 | 2 => 47 | 3 => 98 | 4 => 102 | 5 => 110 | 6 => 114 | _ => 116
def escZ : Nat → UInt8
  | 0 => 34 | 1 => 92 | 2 => 47 | 3 => 8 | 4 => 12 | 5 => 10 | 6 => 13 | _ => 9
theorem escYZ (k : Nat) (h : k < 8) : escV (escY k).toNat = some (escZ k).toNat ∧ (escZ k).toNat < 128 := by
  have : ∀ k : Fin 8, escV (escY k.val).toNat = some (escZ k.val).toNat ∧ (escZ k.val).toNat < 128 := by decide +kernel
  exact this ⟨k, h⟩
theorem rd_esc (j : Nat) (h : j < 8) (X : List UInt8) (k : Nat) (x : List UInt8) (hX : Rd X k x) : Rd ([92, escY j] ++ X) (2 + k) (escZ j :: x) := by
  obtain ⟨h1, h2⟩ := escYZ j h
  have := Rd.step 92 (escY j :: X) (escZ j).toNat 2 k x (by decide) (.esc _ 92 (escY j) X rfl rfl h1) hX
  rw [enc_low _ h2, ← b8_of (escZ j) _ rfl] at this
  exact this

theorem read_escs (s t : List UInt8) (big : Bool) (n j : Nat) (hs : s.length ≤ 1500) (ht : t.length ≤ 1500) (hsv : (lenU s).isSome = true) (htv : (lenU t).isSome = true)
    (hsl : s.any isLow = false) (htl : t.any isLow = false) (hv : Utf8.valid n = true) (hj : j < 8) :
    readR ((34 :: escs s) ++ uniL big n ++ [92, escY j] ++ (escs t ++ [34])) 0 = (s ++ enc n ++ [escZ j] ++ t, ((34 :: escs s) ++ uniL big n ++ [92, escY j] ++ (escs t ++ [34])).length, 0) := by
  have hno : ∀ l : List UInt8, l.any isLow = false → ∀ c ∈ l, 32 ≤ c.toNat := fun l hl c hc => by
    have := List.any_eq_false.1 hl c hc
    simp [isLow] at this; omega
  have h1 := rd_escs t [34] 1 [] (.stop 34 [] (by decide)) htv (hno t htl)
  have h2 := rd_esc j hj _ _ _ h1
  have h3 := rd_uni big n hv _ _ _ h2
  have h4 := rd_escs s _ _ _ h3 hsv (hno s hsl)
  have hel := (enc_len n hv).2
  have h5 := rd_to _ _ _ h4 ((escs s ++ (uniL big n ++ ([92, escY j] ++ (escs t ++ [34])))).length + 1) 1 [] (by simp) (by simp; omega)
  have hL : (34 :: escs s) ++ uniL big n ++ [92, escY j] ++ (escs t ++ [34]) = 34 :: (escs s ++ (uniL big n ++ ([92, escY j] ++ (escs t ++ [34])))) := by simp
  rw [hL]
  unfold readR
  rw [if_neg (by simp; omega)]
  have hr : readL (34 :: (escs s ++ (uniL big n ++ ([92, escY j] ++ (escs t ++ [34]))))) = (([] : List UInt8) ++ (s ++ (enc n ++ (escZ j :: (t ++ [])))), 1 + ((escs s).length + ((uniL big n).length + (2 + ((escs t).length + 1)))), 0) := by
    rw [← h5]
    simp only [readL]
    rw [if_neg (by decide)]
  rw [Int.toNat_zero, List.drop_zero, hr]
  simp [nextR]; omega
end Go.Proofs.Ytchnhhioamkdgaa
