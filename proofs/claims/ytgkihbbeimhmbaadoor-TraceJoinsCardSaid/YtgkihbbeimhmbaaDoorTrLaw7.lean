/- The text form of traces: what the laws ask. -/
import Derived.Test.YtgkihbbeimhmbaaDoorTrLaw6
namespace Go.Sx.Trc
theorem same_self (a : List Int) : Ref.sameInts a a = true := by simp [Ref.sameInts]
theorem fmt_ok {l : List Int} (h : Lru.trace l = 0) : format l = ofL (write l) := if_pos h
theorem rt1 {l : List Int} (h : ¬ Lru.trace l = 0) : decide (format l = ByteArray.mk #[]) = true := decide_eq_true (fmt_bad h).symm
theorem rt2 {l : List Int} (h : Lru.trace l = 0) : (((parse (format l)).2 == 0) && Ref.sameInts (parse (format l)).1 l) = true := by
  rw [fmt_ok h, round_trip h, same_self]; rfl
theorem tc1 {s : ByteArray} (h : ¬ (parse s).2 = 0) : decide (compact s = ByteArray.mk #[]) = true := decide_eq_true (by unfold compact; rw [if_neg h]; rfl)
theorem tc2 {s : ByteArray} (h : (parse s).2 = 0) : ((((((parse s).2 == 0) && ((parse (compact s)).2 == 0)) && Ref.sameInts (parse s).1 (parse (compact s)).1) && ((parse (compact s)).2 == 0)) && decide (compact (compact s) = compact s)) = true := by
  obtain ⟨h1, h2⟩ := compact_law h
  rw [h1, h2, h, same_self, decide_eq_true rfl]; rfl
theorem tj1 {s t : ByteArray} (h : (((parse s).2 = 0 ∧ (parse t).2 = 0) ∧ ¬ s = ByteArray.mk #[]) ∧ ¬ t = ByteArray.mk #[]) (hb : 200 < ((parse s).1.length : Int) + ((parse t).1.length : Int) ∨ 2000 ≤ (s.size : Int) + (t.size : Int)) :
    ((parse ((s ++ (ByteArray.mk #[32])) ++ t)).2 == 2) = true := by
  have := joins h.1.1.1 h.1.1.2 h.1.2 h.2
  rw [if_pos (by omega)] at this
  show ((parse (s ++ ofL [32] ++ t)).2 == 2) = true
  rw [this]; rfl
theorem tj2 {s t : ByteArray} (h : (((parse s).2 = 0 ∧ (parse t).2 = 0) ∧ ¬ s = ByteArray.mk #[]) ∧ ¬ t = ByteArray.mk #[]) (hb : ((parse s).1.length : Int) + ((parse t).1.length : Int) ≤ 200 ∧ (s.size : Int) + (t.size : Int) < 2000) :
    (((parse ((s ++ (ByteArray.mk #[32])) ++ t)).2 == 0) && Ref.sameInts (parse ((s ++ (ByteArray.mk #[32])) ++ t)).1 ((parse s).1 ++ (parse t).1)) = true := by
  have := joins h.1.1.1 h.1.1.2 h.1.2 h.2
  rw [if_neg (by omega)] at this
  show (((parse (s ++ ofL [32] ++ t)).2 == 0) && Ref.sameInts (parse (s ++ ofL [32] ++ t)).1 ((parse s).1 ++ (parse t).1)) = true
  rw [this, same_self]; rfl
theorem ts {l : List Int} {s a c : ByteArray} (ha : format l = a) (hc : compact s = c) : ((((((decide (format l = a) && (Lru.trace l == Lru.trace l)) && Ref.sameInts (parse s).1 (parse s).1) && ((parse s).2 == (parse s).2)) && decide (compact s = c)) && ((parse s).2 == (parse s).2))) = true := by
  rw [decide_eq_true ha, decide_eq_true hc, same_self]; simp
theorem cmp_ok {s : ByteArray} (h : (parse s).2 = 0) : compact s = ofL (write (parse s).1) := by unfold compact; rw [if_pos h, fmt_ok (parse_ok h)]
theorem cmp_bad {s : ByteArray} (h : ¬ (parse s).2 = 0) : compact s = ByteArray.mk #[] := by unfold compact; rw [if_neg h]; rfl
theorem parse_len {s : ByteArray} : (parse s).1.length ≤ 200 := by
  by_cases h : (parse s).2 = 0
  · exact (trace_ok.1 (parse_ok h)).1
  · rw [parse_bad h]; simp
end Go.Sx.Trc
