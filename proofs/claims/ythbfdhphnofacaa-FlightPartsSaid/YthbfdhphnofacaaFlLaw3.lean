/- Duplicate suppression: the plain laws of the loads and of the parts. -/
import Derived.Test.YthbfdhphnofacaaFlLaw2
namespace Go.Sx.Flight
open Ref
def LInv (l : List DCall) (keys : List Int) (near : Bool) (i : Nat) : Prop :=
  i ≤ l.length ∧ keys.length ≤ i ∧ (keys.length : Int) + countOwn i ((plan l).drop i) ≤ countOwn 0 (plan l) ∧ (∀ j (h : j < l.length), j < i → l[j].key ∈ keys) ∧ (∀ x ∈ keys, ∃ j, ∃ h : j < l.length, l[j].key = x) ∧
    (near = true → ∀ j (h : j < l.length), j < i → l[j].at_ < (l[0]'(by omega)).at_ + (l[0]'(by omega)).long)
theorem LInv.start (l : List DCall) : LInv l [] true 0 := ⟨by omega, by simp, by simp, by omega, by simp, by omega⟩
theorem LInv.step {l : List DCall} {keys : List Int} {near : Bool} {i : Nat} (h : check l = 0) (I : LInv l keys near i) (hi : i < l.length) (keys' : List Int) (hk : (hasInt keys l[i].key = false ∧ keys' = keys ++ [l[i].key]) ∨ (hasInt keys l[i].key = true ∧ keys' = keys)) :
    LInv l keys' (near && decide (IntKind.i64.wrap (l[i].at_ - (l[0]'(by omega)).at_) < (l[0]'(by omega)).long)) (i + 1) := by
  obtain ⟨h1, h2, h3, h4, h5, h6⟩ := I
  have hpl := plan_length l
  have R := right_of h
  have a1 := R.at0 i hi; have a2 := R.at0 0 (by omega)
  rw [getD_eq (by omega)] at a1 a2
  rw [wrap_ok (by omega)]
  rw [List.drop_eq_getElem_cons (by omega), countOwn, show (i : Int) + 1 = ((i + 1 : Nat) : Int) by omega] at h3
  have hn : (near && decide (l[i].at_ - (l[0]'(by omega)).at_ < (l[0]'(by omega)).long)) = true → ∀ j (h : j < l.length), j < i + 1 → l[j].at_ < (l[0]'(by omega)).at_ + (l[0]'(by omega)).long := fun hh j hj hji => by
    simp only [Bool.and_eq_true, decide_eq_true_eq] at hh
    rcases Nat.lt_or_ge j i with h' | h'
    · exact h6 hh.1 j hj h'
    · have : j = i := by omega
      subst this; omega
  rcases hk with ⟨hk, rfl⟩ | ⟨hk, rfl⟩
  · have hno : l[i].key ∉ keys := by simpa [hasInt] using hk
    have ho := first_own h hi (fun j hj e => hno (by rw [← e]; exact h4 j (by omega) hj))
    rw [if_pos ho] at h3
    refine ⟨by omega, by simp; omega, by simp only [List.length_append, List.length_cons, List.length_nil]; omega, fun j hj hji => ?_, fun x hx => ?_, hn⟩
    · rcases Nat.lt_or_ge j i with h' | h'
      · exact List.mem_append_left _ (h4 j hj h')
      · have : j = i := by omega
        subst this; simp
    · rcases List.mem_append.1 hx with hx | hx
      · exact h5 x hx
      · exact ⟨i, hi, (List.mem_singleton.1 hx).symm⟩
  · have hin : l[i].key ∈ keys' := by simpa [hasInt] using hk
    refine ⟨by omega, by omega, by split at h3 <;> omega, fun j hj hji => ?_, h5, hn⟩
    rcases Nat.lt_or_ge j i with h' | h'
    · exact h4 j hj h'
    · have : j = i := by omega
      subst this; exact hin
theorem loads_of {l : List DCall} (h : check l = 0) : loads l = countOwn 0 (plan l) := by unfold loads; rw [if_pos h]
theorem loads_no {l : List DCall} (h : check l ≠ 0) : loads l = 0 := by unfold loads; rw [if_neg h]
theorem LInv.done {l : List DCall} {keys : List Int} {near : Bool} {i : Nat} (h : check l = 0) (I : LInv l keys near i) (hi : l.length ≤ i) : loads l ≤ l.length ∧ (keys.length : Int) ≤ loads l ∧ (near = true → keys.length = 1 → loads l = 1) := by
  obtain ⟨h1, h2, h3, h4, h5, h6⟩ := I
  have hpl := plan_length l
  have e : i = l.length := by omega
  subst e
  have hc := countOwn_le (plan l) 0
  rw [loads_of h]
  rw [List.drop_of_length_le (by omega)] at h3
  refine ⟨by omega, by simpa [countOwn] using h3, fun hn hk => ?_⟩
  match keys, hk with
  | [x], _ =>
    have hx : ∀ j (hj : j < l.length), l[j].key = x := fun j hj => by simpa using h4 j hj hj
    obtain ⟨j, hj, _⟩ := h5 x (by simp)
    exact near_one h (by omega) (fun k hk => by rw [hx k hk, hx 0 (by omega)]) (fun k hk => h6 hn k hk hk)

/-! ### Parts -/
def isKey (key : Int) (c : DCall) : Bool := decide (c.key = key)
def PInv (l : List DCall) (key : Int) (own : List DCall) (want : List Int) (i : Nat) : Prop := i ≤ l.length ∧ own.length ≤ i ∧ want.length ≤ i ∧ own = (l.take i).filter (isKey key) ∧ want ++ endsOf key (l.drop i) ((when_ l).drop i) = endsOf key l (when_ l) ∧ (check l ≠ 0 → i = 0)
theorem PInv.start (l : List DCall) (key : Int) : PInv l key [] [] 0 := ⟨by omega, by simp, by simp, by simp, by simp, by simp⟩
theorem PInv.step {l : List DCall} {key : Int} {own : List DCall} {want : List Int} {i : Nat} (h : check l = 0) (I : PInv l key own want i) (hi : i < l.length) (hw : i < (when_ l).length) :
    (l[i].key = key → PInv l key (own ++ [l[i]]) (want ++ [(when_ l)[i]]) (i + 1)) ∧ (l[i].key ≠ key → PInv l key own want (i + 1)) := by
  obtain ⟨h1, h2, h3, h4, h5, h6⟩ := I
  rw [List.drop_eq_getElem_cons hi, List.drop_eq_getElem_cons hw, endsOf] at h5
  refine ⟨fun hk => ?_, fun hk => ?_⟩
  · rw [if_pos hk] at h5
    refine ⟨by omega, by simp; omega, by simp; omega, ?_, by simpa using h5, fun hh => absurd h hh⟩
    rw [List.take_succ_eq_append_getElem hi, List.filter_append, ← h4, List.filter_cons_of_pos (by simpa [isKey] using hk), List.filter_nil]
  · rw [if_neg hk] at h5
    refine ⟨by omega, by omega, by omega, ?_, h5, fun hh => absurd h hh⟩
    rw [List.take_succ_eq_append_getElem hi, List.filter_append, ← h4, List.filter_cons_of_neg (by simpa [isKey] using hk), List.filter_nil, List.append_nil]
theorem PInv.done {l : List DCall} {key : Int} {own : List DCall} {want : List Int} {i : Nat} (h : check l = 0) (I : PInv l key own want i) (hi : l.length ≤ i) : check own = 0 ∧ when_ own = want := by
  obtain ⟨h1, h2, h3, h4, h5, h6⟩ := I
  have hw := when_length h
  rw [List.take_of_length_le hi] at h4
  rw [List.drop_of_length_le hi] at h5
  subst h4
  refine ⟨check_filter h _, ?_⟩
  have := when_filter h key
  simp only [endsOf, List.append_nil] at h5
  rw [h5]; exact this
end Go.Sx.Flight
