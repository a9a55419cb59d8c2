/- Contract of quote.Quote, of legateref05.Quote. -/
import Derived.Test.YtchnhhioamkdgaaBuilder
import Derived.Test.YtchnhhioamkdgaaUtfNames
import Derived.Test.YtchnhhioamkdgaaQuotePlain
namespace Go.Proofs.Ytchnhhioamkdgaa
open Go.RowKit
set_option linter.unusedVariables false
set_option maxRecDepth 100000

/-- a Builder of the call's own that holds these bytes -/
structure Bd (B b : Nat) (l : List UInt8) (w : World) : Prop where
  is : Lib.IsBuilder 54 5 B b (Lib.byteCells l) w
theorem bd_fresh (w : World) (B : Nat) (h : B ≤ w.heap.size) : Bd B w.heap.size [] (w.alloc (.cells #[.pointer none, .slice none 0 0] 54)) :=
  ⟨.inl ⟨h, _, (MapKept.heap_alloc w _).1, World.ownsRow_nil _ _ _ _, by unfold Value.ownBlock; simp⟩⟩
theorem builderAt_kept {B b : Nat} {p : Value} {bs : List Value} {w w' : World} (h : Lib.BuilderAt 54 5 B b p bs w) (hg : w.grownBy w' none) : Lib.BuilderAt 54 5 B b p bs w' := by
  have hlt := h.lt
  obtain ⟨hB, v, hb, hown, hne⟩ := h
  refine ⟨hB, v, (hg.block b hlt (by simp)).trans hb, hown.kept hg ?_, hne⟩
  cases v.ownBlock with
  | none => exact .inl rfl
  | some k => exact .inr (by simp)
/-- a Builder stays what it is while new memory is made -/
theorem Bd.kept {B b : Nat} {l : List UInt8} {w w' : World} (h : Bd B b l w) (hg : w.grownBy w' none) : Bd B b l w' :=
  ⟨h.is.elim (fun h => .inl (builderAt_kept h hg)) (fun h => .inr (builderAt_kept h hg))⟩
theorem Bd.lt {B b : Nat} {l : List UInt8} {w : World} (h : Bd B b l w) : B ≤ b ∧ b < w.heap.size :=
  h.is.elim (fun h => ⟨h.1, h.lt⟩) (fun h => ⟨h.1, h.lt⟩)

theorem bd_writeByte (B b : Nat) (l : List UInt8) (c : Nat) (w : World) (h : Bd B b l w) (hc : c < 256) (hlen : l.length + 1 ≤ 1099511627776) (hBw : B ≤ w.heap.size) :
    Calls Try.prog 35 #[.pointer (some ⟨b, 0, none⟩), .int .u8 c] w fun e w' => e = .returned .nilIface ∧ Bd B b (l ++ [b8 c]) w' ∧ Below B w w' := by
  refine (writeByte_any B b _ c w h.is (by rw [Lib.byteCells_length]; exact hlen) hBw).mono fun e w' ⟨he, hb, hbl⟩ => ⟨he, ⟨.inr ?_⟩, hbl⟩
  rw [Lib.byteCells_append]
  have e1 : Lib.byteCells [b8 c] = [.int .u8 c] := by simp [Lib.byteCells, b8_toNat c hc]
  rw [e1]; exact hb
theorem bd_writeString (B b : Nat) (l : List UInt8) (s : ByteArray) (w : World) (h : Bd B b l w) (hlen : l.length + s.size ≤ 1099511627776) (hBw : B ≤ w.heap.size) :
    Calls Try.prog 39 #[.pointer (some ⟨b, 0, none⟩), .string s] w fun e w' => e = .returned (.tuple #[.int .i64 s.size, .nilIface]) ∧ Bd B b (l ++ s.data.toList) w' ∧ Below B w w' := by
  refine (writeString_any B b _ s w h.is (by rw [Lib.byteCells_length]; exact hlen) hBw).mono fun e w' ⟨he, hb, hbl⟩ => ⟨he, ⟨.inr ?_⟩, hbl⟩
  rw [Lib.byteCells_append]
  exact hb
theorem bd_len (B b : Nat) (l : List UInt8) (w : World) (h : Bd B b l w) :
    Calls Try.prog 38 #[.pointer (some ⟨b, 0, none⟩)] w fun e w' => e = .returned (.int .i64 l.length) ∧ w = w' :=
  (Try.Builder_Len B b _ w h.is).mono fun e w' ⟨he, hw⟩ => ⟨by rw [he, Lib.byteCells_length], hw.symm⟩
theorem bd_string (B b : Nat) (l : List UInt8) (w : World) (h : Bd B b l w) (hBw : B ≤ w.heap.size) :
    Calls Try.prog 36 #[.pointer (some ⟨b, 0, none⟩)] w fun e w' => e = .returned (.string ⟨l.toArray⟩) ∧ Below B w w' :=
  Try.Builder_String_any B b l w h.is hBw

/-- the bytes of a string, as a string -/
def str (l : List UInt8) : ByteArray := ⟨l.toArray⟩
theorem str_data (l : List UInt8) : (str l).data.toList = l := rfl
theorem str_size (l : List UInt8) : (str l).size = l.length := by rw [Lib.size_eq, str_data]
theorem str_of (s : ByteArray) : str s.data.toList = s := rfl

theorem quote_long (s : ByteArray) (w : World) (hs : s.size ≤ 1099511627776) (h : 4096 < s.size) :
    Calls Try.prog 27 #[.string s] w fun e w' => e = .returned (.tuple #[.string ⟨#[]⟩, .int .i64 5]) ∧ w = w' := by
  go_enter Try.func27, Try.ntmps27
  go_wp2_with fail
  go_ret2
  exact ⟨rfl, rfl⟩
theorem quote_bad (s : ByteArray) (w : World) (h : s.size ≤ 4096) (hv : Hid ((lenU s.data.toList).isSome = false)) :
    Calls Try.prog 27 #[.string s] w fun e w' => e = .returned (.tuple #[.string ⟨#[]⟩, .int .i64 12]) ∧ Below w.heap.size w w' := by
  go_enter Try.func27, Try.ntmps27
  go_wp2_with fail
  refine (valid_is _ _ _ (by omega) hv.out).mono ?_
  rintro e w1 ⟨rfl, hb1⟩
  go_wp2_with fail
  go_ret2
  exact ⟨rfl, hb1⟩

def QuoteRel (s : ByteArray) (B b : Nat) (w0 : World) (iv : Value) (w' : World) : Prop :=
  ∃ k : Nat, k ≤ s.size ∧ iv = .int .i64 k ∧ Bd B b (34 :: escs (s.data.toList.take k)) w' ∧ Below B w0 w'

theorem quote_ok (s : ByteArray) (w : World) (h : s.size ≤ 4096) (hv : Hid ((lenU s.data.toList).isSome = true)) :
    Calls Try.prog 27 #[.string s] w fun e w' => e = .returned (.tuple #[.string (str (quoteL s.data.toList)), .int .i64 0]) ∧ Below w.heap.size w w' := by
  go_enter Try.func27, Try.ntmps27
  go_wp2_with fail
  refine (valid_is _ _ _ (by omega) hv.out).mono ?_
  rintro e w1 ⟨rfl, hb1⟩
  have hd := bd_fresh w1 w1.heap.size (Nat.le_refl _)
  have Hd := Bx.mk hd
  clear hd
  have hdd : decide ((4096 : Int) < s.size) = false := by simp; omega
  go_wp2_with fail
  refine (bd_writeByte w1.heap.size w1.heap.size [] 34 _ Hd.out (by omega) (by simp) (by simp)).mono ?_
  rintro e w2 ⟨rfl, hd2, hb2⟩
  have HD2 := Bx.mk hd2
  have hz2 : w1.heap.size < w2.heap.size := hd2.lt.2
  have hb2' : Below w1.heap.size w1 w2 := ((Below.refl _ _).alloc (Nat.le_refl _) _).trans hb2
  clear hd2 hb2 Hd
  go_wp2_with fail
  go_loopw [15] (fun i w' => QuoteRel s w1.heap.size w1.heap.size w1 i w') (fun i _ => s.size - (intOf i).toNat)
  case atStart => exact ⟨0, by omega, rfl, HD2.out, hb2'⟩
  case round =>
    clear HD2 hb2' hz2
    obtain ⟨k, hk, rfl, hd, hb⟩ := hrel
    have hlen : (34 :: escs (s.data.toList.take k)).length ≤ 8193 := by
      have := escs_len (s.data.toList.take k)
      simp; simp at this; omega
    by_cases hlt : k < s.size
    · have hb8 : s[k].toNat < 256 := s[k].toNat_lt
      have hsn : s.data.toList.take (k + 1) = s.data.toList.take k ++ [s[k]] := by
        rw [List.take_succ_eq_append_getElem (by simpa using hlt)]; rfl
      have hq : b8 s[k].toNat = s[k] := (b8_of _ _ rfl).symm
      by_cases hc : s[k].toNat = 34 ∨ s[k].toNat = 92
      · have HE : Bx (34 :: escs (s.data.toList.take (k + 1)) = (34 :: escs (s.data.toList.take k)) ++ [b8 92] ++ [b8 s[k].toNat]) := ⟨by
          rw [hsn, escs_snoc, esc, if_pos hc, hq]; simp; rfl⟩
        have HD := Bx.mk hd
        have HLEN := Bx.mk hlen
        have hcc : ((s[k].toNat : Int) == 34) = true ∨ (((s[k].toNat : Int) == 34) = false ∧ ((s[k].toNat : Int) == 92) = true) := by
          rcases hc with hc | hc
          · left; simp; omega
          · right; constructor <;> simp <;> omega
        clear hsn hq hc hd hlen
        rcases hcc with hcc | ⟨hcc, hc2⟩
        all_goals
          go_wp2_with fail
          refine (bd_writeByte _ _ _ 92 _ HD.out (by omega) (by have := HLEN.out; omega) hb.size).mono ?_
          rintro e w3 ⟨rfl, hd3, hb3⟩
          have HD3 := Bx.mk hd3
          clear hd3
          go_wp2_with fail
          refine (bd_writeByte _ _ _ s[k].toNat _ HD3.out hb8 (by have := HLEN.out; simp; simp at this; omega) (Nat.le_trans hb.size hb3.size)).mono ?_
          rintro e w4 ⟨rfl, hd4, hb4⟩
          have HD4 := Bx.mk hd4
          clear hd4
          go_wp2_with fail
          go_roundw
          case rel => exact ⟨k + 1, by omega, by go_num, by rw [HE.out]; exact HD4.out, (hb.trans hb3).trans hb4⟩
          case measure => simp [intOf]; omega
      · have HE : Bx (34 :: escs (s.data.toList.take (k + 1)) = (34 :: escs (s.data.toList.take k)) ++ [b8 s[k].toNat]) := ⟨by
          rw [hsn, escs_snoc, esc, if_neg hc, hq]; simp⟩
        have HD := Bx.mk hd
        have HLEN := Bx.mk hlen
        have hc1 : ((s[k].toNat : Int) == 34) = false := by simp; omega
        have hc2 : ((s[k].toNat : Int) == 92) = false := by simp; omega
        clear hsn hq hc hd hlen
        go_wp2_with fail
        refine (bd_writeByte _ _ _ s[k].toNat _ HD.out hb8 (by have := HLEN.out; omega) hb.size).mono ?_
        rintro e w3 ⟨rfl, hd3, hb3⟩
        have HD3 := Bx.mk hd3
        clear hd3
        go_wp2_with fail
        go_roundw
        case rel => exact ⟨k + 1, by omega, by go_num, by rw [HE.out]; exact HD3.out, hb.trans hb3⟩
        case measure => simp [intOf]; omega
    · have HD : Bx (Bd w1.heap.size w1.heap.size (34 :: escs s.data.toList) wr) := ⟨by
        rw [List.take_of_length_le (by simp; omega)] at hd; exact hd⟩
      have HL : Bx ((34 :: escs s.data.toList).length ≤ 8193) := ⟨by
        rw [List.take_of_length_le (by simp; omega)] at hlen; exact hlen⟩
      clear hd hlen
      go_wp2_with fail
      refine (bd_writeByte _ _ _ 34 _ HD.out (by omega) (by have := HL.out; omega) hb.size).mono ?_
      rintro e w3 ⟨rfl, hd3, hb3⟩
      have HD3 := Bx.mk hd3
      clear hd3
      go_wp2_with fail
      refine (bd_string _ _ _ _ HD3.out (Nat.le_trans hb.size hb3.size)).mono ?_
      rintro e w4 ⟨rfl, hb4⟩
      go_wp2_with fail
      go_ret2
      refine ⟨rfl, hb1.trans (((hb.trans hb3).trans hb4).mono hb1.size)⟩

theorem quote_any (s : ByteArray) (w : World) (hs : s.size ≤ 1099511627776) :
    Calls Try.prog 27 #[.string s] w fun e w' => e = .returned (.tuple #[.string (str (quoteR s.data.toList).1), .int .i64 (quoteR s.data.toList).2]) ∧ Below w.heap.size w w' := by
  unfold quoteR
  rw [← Lib.size_eq]
  by_cases h : 4096 < s.size
  · rw [if_pos h]
    exact (quote_long s w hs h).mono fun _ _ ⟨he, hw⟩ => ⟨he, by rw [← hw]; exact Below.refl _ _⟩
  · rw [if_neg h]
    cases hv : (lenU s.data.toList).isSome
    · exact quote_bad s w (by omega) hv
    · exact quote_ok s w (by omega) hv
end Go.Proofs.Ytchnhhioamkdgaa
