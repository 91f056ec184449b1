/- The text form of traces: how the reference reads and writes. -/
import Derived.Test.YtgkihbbeimhmbaaDoorTrLaw2
namespace Go.Sx.Trc
theorem NI.bad {s : ByteArray} {n : Int} {i : Nat} (_ : NI s n i) (hi : i < s.size) (hb : ((byteAt s i).toNat : Int) < 48 ∨ 57 < ((byteAt s i).toNat : Int)) : -1 = num s := by
  symm; unfold num numL
  rw [if_neg]
  rintro ⟨_, _, _, h4⟩
  have hl : i < s.data.toList.length := by rw [← size_len]; exact hi
  have := List.all_eq_true.1 h4 _ (List.getElem_mem hl)
  rw [byte_get hi] at this
  simp [isD] at this; omega
theorem NI.long {s : ByteArray} {n : Int} {i : Nat} (_ : NI s n i) (hi : i < s.size) (h6 : 6 < (i : Int)) : -1 = num s := by
  symm; unfold num numL
  rw [if_neg]
  rintro ⟨_, h2, _, _⟩
  rw [size_len] at hi; omega
theorem NI.bad2 {s : ByteArray} (h : s = ByteArray.mk #[] ∨ (1 < (s.size : Int) ∧ ((byteAt s 0).toNat : Int) = 48)) : -1 = num s := by
  symm; unfold num numL
  rw [if_neg]
  rintro ⟨h1, _, h3, _⟩
  rw [size_len] at h
  rcases h with h | h
  · exact h1 (nil_eq.1 h)
  · exact h3 ⟨by omega, first_eq.1 h.2⟩
theorem NI.done {s : ByteArray} {n : Int} {i : Nat} (h : NI s n i) (hi : s.size ≤ i) (hc : ¬ s = ByteArray.mk #[] ∧ ((s.size : Int) ≤ 1 ∨ ¬ ((byteAt s 0).toNat : Int) = 48)) : n = num s := by
  have e : s.data.toList.take i = s.data.toList := List.take_of_length_le (by rw [← size_len]; exact hi)
  have h7 := h.i7; have ha := h.all; have hn := h.eq
  rw [e] at ha hn
  unfold num numL
  rw [if_pos]
  · exact hn
  · have hs := size_len s
    refine ⟨fun q => hc.1 (nil_eq.2 q), by omega, fun ⟨q1, q2⟩ => ?_, ha⟩
    rcases hc.2 with q | q
    · omega
    · exact q (first_eq.2 q2)
/-! ### digits -/
theorem decS_small {n : Int} (h0 : 0 ≤ n) (h : n < 10) : (ByteArray.mk #[48, 49, 50, 51, 52, 53, 54, 55, 56, 57]).extract n.toNat (n + 1).toNat = decS n := by
  have e : ∀ k : Fin 10, (ByteArray.mk #[48, 49, 50, 51, 52, 53, 54, 55, 56, 57]).extract k.val (k.val + 1) = ofL [UInt8.ofNat (48 + k.val)] := by decide +kernel
  unfold decS dec
  rw [dec_small (n := n.toNat) (by omega)]
  have := e ⟨n.toNat, by omega⟩
  rw [show (n + 1).toNat = n.toNat + 1 by omega]
  exact this
theorem tdiv10 {n : Int} (h : 0 ≤ n) : n.tdiv 10 = ((n.toNat / 10 : Nat) : Int) ∧ n.tmod 10 = ((n.toNat % 10 : Nat) : Int) := by
  obtain ⟨m, rfl⟩ : ∃ m : Nat, n = (m : Int) := ⟨n.toNat, by omega⟩
  rw [Int.toNat_natCast]
  exact ⟨Int.ofNat_tdiv m 10 ▸ rfl, rfl⟩
theorem decS_big {n : Int} (h0 : 0 ≤ n) (h : 10 ≤ n) : decS (n.tdiv 10) ++ decS (n.tmod 10) = decS n := by
  obtain ⟨e1, e2⟩ := tdiv10 h0
  unfold decS dec
  rw [e1, e2, Int.toNat_natCast, Int.toNat_natCast, ofL_append, dec_big (n := n.toNat) (by omega), dec_small (n := n.toNat % 10) (by omega)]
theorem decS_sz {n : Int} (h : n < 10000000) : (decS n).size ≤ 7 := by unfold decS; rw [ofL_size]; exact dec_len7 h
/-! ### the reference's text -/
theorem write_cons {l : List Int} (h : l ≠ []) : write l = if itemN l < l.length then itemL l ++ 32 :: write (l.drop (itemN l)) else itemL l := by
  unfold write
  rw [pieces_cons h]
  have hle := itemN_le h
  split
  · rename_i hn
    have hd : l.drop (itemN l) ≠ [] := fun e => by have := congrArg List.length e; rw [List.length_drop] at this; simp at this; omega
    rw [pieces_cons hd, join_two]
  · rename_i hn
    rw [List.drop_of_length_le (by omega), pieces_nil, Go.Lib.join_one]
theorem run0_one {l : List Int} (hl : l ≠ []) : 1 < run 0 l ↔ 1 < l.length ∧ l.getD 1 default = l.getD 0 default := by
  constructor
  · intro h
    have hle := run_le hl 0
    refine ⟨by omega, ?_⟩
    rw [getD_eq (by omega), run_get (d := 0) (by omega) h]
    show l.getD 0 default + ((1 : Nat) : Int) * 0 = l.getD 0 default; omega
  · rintro ⟨h1, h2⟩
    by_cases hq : 1 < run 0 l
    · exact hq
    · have hp := run_pos 0 l
      have e : run 0 l = 1 := by omega
      have := run_stop (d := 0) hl (by omega)
      simp only [e] at this
      exfalso; refine this ?_
      rw [← getD_eq h1, h2]; show l.getD 0 default = l.getD 0 default + ((1 : Nat) : Int) * 0; omega
theorem run1_two {l : List Int} (hl : l ≠ []) : 2 < run 1 l ↔ (2 < l.length ∧ l.getD 1 default = l.getD 0 default + 1) ∧ l.getD 2 default = l.getD 0 default + 2 := by
  constructor
  · intro h
    have hle := run_le hl 1
    refine ⟨⟨by omega, ?_⟩, ?_⟩
    · rw [getD_eq (by omega), run_get (d := 1) (by omega) (by omega)]; show l.getD 0 default + ((1 : Nat) : Int) * 1 = _; omega
    · rw [getD_eq (by omega), run_get (d := 1) (by omega) h]; show l.getD 0 default + ((2 : Nat) : Int) * 1 = _; omega
  · rintro ⟨⟨h1, h2⟩, h3⟩
    by_cases hq : 2 < run 1 l
    · exact hq
    · have hp := run_pos 1 l
      exfalso
      have hs := run_stop (d := 1) hl (by omega)
      rcases (show run 1 l = 1 ∨ run 1 l = 2 by omega) with e | e
      · simp only [e] at hs; refine hs ?_
        rw [← getD_eq (show 1 < l.length by omega), h2]; show _ = l.getD 0 default + ((1 : Nat) : Int) * 1; omega
      · simp only [e] at hs; refine hs ?_
        rw [← getD_eq h1, h3]; show _ = l.getD 0 default + ((2 : Nat) : Int) * 1; omega
theorem item_star_eq {l : List Int} (h : 1 < run 0 l) : itemN l = run 0 l ∧ itemL l = dec (l.getD 0 default) ++ 42 :: dec (run 0 l : Int) := by
  unfold itemN itemL; rw [if_pos h, if_pos h]; exact ⟨rfl, rfl⟩
theorem item_dash_eq {l : List Int} (h : ¬ 1 < run 0 l) (h2 : 2 < run 1 l) : itemN l = run 1 l ∧ itemL l = dec (l.getD 0 default) ++ 45 :: dec (l.getD 0 default + (run 1 l : Int) - 1) := by
  unfold itemN itemL; rw [if_neg h, if_neg h, if_pos h2, if_pos h2]; exact ⟨rfl, rfl⟩
theorem item_one_eq {l : List Int} (h : ¬ 1 < run 0 l) (h2 : ¬ 2 < run 1 l) : itemN l = 1 ∧ itemL l = dec (l.getD 0 default) := by
  unfold itemN itemL; rw [if_neg h, if_neg h, if_neg h2, if_neg h2]; exact ⟨rfl, rfl⟩
theorem sign_add (c : UInt8) (a b : List UInt8) : ofL a ++ ((ByteArray.mk #[c]) ++ ofL b) = ofL (a ++ c :: b) := by
  have : (ByteArray.mk #[c]) = ofL [c] := rfl
  rw [this, ofL_append, ofL_append]; simp
section
variable {l : List Int} {n : Nat} (hl : l ≠ [])
include hl
theorem w_star1 (h : 1 < (l.length : Int) ∧ l.getD 1 default = l.getD 0 default) (hr : run 0 l = n) (hn : (n : Int) < (l.length : Int)) :
    (decS (l.getD 0 default) ++ ((ByteArray.mk #[42]) ++ decS (n : Int))) ++ ((ByteArray.mk #[32]) ++ ofL (write (l.drop n))) = ofL (write l) := by
  have h1 : 1 < run 0 l := (run0_one hl).2 ⟨by omega, h.2⟩
  obtain ⟨e1, e2⟩ := item_star_eq h1
  rw [write_cons hl, e1, if_pos (by omega), e2, hr]
  unfold decS; rw [sign_add, sign_add]
theorem w_star0 (h : 1 < (l.length : Int) ∧ l.getD 1 default = l.getD 0 default) (hr : run 0 l = n) (hn : (l.length : Int) ≤ (n : Int)) :
    decS (l.getD 0 default) ++ ((ByteArray.mk #[42]) ++ decS (n : Int)) = ofL (write l) := by
  have h1 : 1 < run 0 l := (run0_one hl).2 ⟨by omega, h.2⟩
  obtain ⟨e1, e2⟩ := item_star_eq h1
  rw [write_cons hl, e1, if_neg (by omega), e2, hr]
  unfold decS; rw [sign_add]
theorem no_star (h : (l.length : Int) ≤ 1 ∨ ¬ l.getD 1 default = l.getD 0 default) : ¬ 1 < run 0 l := fun q => by
  have := (run0_one hl).1 q; omega
theorem w_dash1 (h0 : (l.length : Int) ≤ 1 ∨ ¬ l.getD 1 default = l.getD 0 default) (h : (2 < (l.length : Int) ∧ l.getD 1 default = l.getD 0 default + 1) ∧ l.getD 2 default = l.getD 0 default + 2) (hr : run 1 l = n) (hn : (n : Int) < (l.length : Int)) :
    (decS (l.getD 0 default) ++ ((ByteArray.mk #[45]) ++ decS (l.getD 0 default + (n : Int) - 1))) ++ ((ByteArray.mk #[32]) ++ ofL (write (l.drop n))) = ofL (write l) := by
  have h1 : 2 < run 1 l := (run1_two hl).2 ⟨⟨by omega, h.1.2⟩, h.2⟩
  obtain ⟨e1, e2⟩ := item_dash_eq (no_star hl h0) h1
  rw [write_cons hl, e1, if_pos (by omega), e2, hr]
  unfold decS; rw [sign_add, sign_add]
theorem w_dash0 (h0 : (l.length : Int) ≤ 1 ∨ ¬ l.getD 1 default = l.getD 0 default) (h : (2 < (l.length : Int) ∧ l.getD 1 default = l.getD 0 default + 1) ∧ l.getD 2 default = l.getD 0 default + 2) (hr : run 1 l = n) (hn : (l.length : Int) ≤ (n : Int)) :
    decS (l.getD 0 default) ++ ((ByteArray.mk #[45]) ++ decS (l.getD 0 default + (n : Int) - 1)) = ofL (write l) := by
  have h1 : 2 < run 1 l := (run1_two hl).2 ⟨⟨by omega, h.1.2⟩, h.2⟩
  obtain ⟨e1, e2⟩ := item_dash_eq (no_star hl h0) h1
  rw [write_cons hl, e1, if_neg (by omega), e2, hr]
  unfold decS; rw [sign_add]
theorem no_dash (h : ((l.length : Int) ≤ 2 ∨ ¬ l.getD 1 default = l.getD 0 default + 1) ∨ ¬ l.getD 2 default = l.getD 0 default + 2) : ¬ 2 < run 1 l := fun q => by
  have := (run1_two hl).1 q; omega
theorem w_one1 (h0 : (l.length : Int) ≤ 1 ∨ ¬ l.getD 1 default = l.getD 0 default) (h : ((l.length : Int) ≤ 2 ∨ ¬ l.getD 1 default = l.getD 0 default + 1) ∨ ¬ l.getD 2 default = l.getD 0 default + 2) (hn : 1 < (l.length : Int)) :
    decS (l.getD 0 default) ++ ((ByteArray.mk #[32]) ++ ofL (write (l.drop 1))) = ofL (write l) := by
  obtain ⟨e1, e2⟩ := item_one_eq (no_star hl h0) (no_dash hl h)
  rw [write_cons hl, e1, if_pos (by omega), e2]
  unfold decS; rw [sign_add]
theorem w_one0 (h0 : (l.length : Int) ≤ 1 ∨ ¬ l.getD 1 default = l.getD 0 default) (h : ((l.length : Int) ≤ 2 ∨ ¬ l.getD 1 default = l.getD 0 default + 1) ∨ ¬ l.getD 2 default = l.getD 0 default + 2) (hn : (l.length : Int) ≤ 1) :
    decS (l.getD 0 default) = ofL (write l) := by
  obtain ⟨e1, e2⟩ := item_one_eq (no_star hl h0) (no_dash hl h)
  rw [write_cons hl, e1, if_neg (by omega), e2]; rfl
end
theorem w_nil {l : List Int} (h : (l.length : Int) = 0) : ByteArray.mk #[] = ofL (write l) := by
  have : l = [] := List.eq_nil_of_length_eq_zero (by omega)
  subst this; rw [write_nil]; rfl
theorem len_ne {l : List Int} (h : ¬ (l.length : Int) = 0) : l ≠ [] := fun e => h (by rw [e]; rfl)
theorem write_sz {l : List Int} (h : Lru.trace l = 0) (n : Nat) : (ofL (write (l.drop n))).size ≤ 1600 := by
  obtain ⟨h1, h2⟩ := trace_ok.1 h
  have := write_len (l := l.drop n) (by rw [List.length_drop]; omega) (fun k hk => h2 k (List.mem_of_mem_drop hk))
  rw [ofL_size]; rw [List.length_drop] at this; omega
theorem trace_drop {l : List Int} (h : Lru.trace l = 0) (n : Nat) : Lru.trace (l.drop n) = 0 := by
  obtain ⟨h1, h2⟩ := trace_ok.1 h
  exact trace_ok.2 ⟨by rw [List.length_drop]; omega, fun k hk => h2 k (List.mem_of_mem_drop hk)⟩
end Go.Sx.Trc
