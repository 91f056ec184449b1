/- Duplicate suppression: the plain laws. -/
import Derived.Test.YthbfdhphnofacaaFlPure
namespace Go.Sx
namespace Flight
open Ref

theorem wrap_ok {z : Int} (h : -9223372036854775808 ≤ z ∧ z ≤ 9223372036854775807) : IntKind.i64.wrap z = z := wrap_i64 h

/-- What a right list of calls is. -/
structure Right (l : List DCall) : Prop where
  len : l.length ≤ 60
  key : ∀ j, j < l.length → 0 ≤ (l.getD j default).key ∧ (l.getD j default).key ≤ 1048576
  at0 : ∀ j, j < l.length → 0 ≤ (l.getD j default).at_ ∧ (l.getD j default).at_ ≤ 1099511627776
  long : ∀ j, j < l.length → 1 ≤ (l.getD j default).long ∧ (l.getD j default).long ≤ 1073741824
  mono : ∀ j k, j ≤ k → k < l.length → (l.getD j default).at_ ≤ (l.getD k default).at_

theorem checkFrom_ok : ∀ (l : List DCall) (last : Int), checkFrom last l = 0 → (∀ c ∈ l, ¬ bad c) ∧ (∀ c ∈ l, last ≤ c.at_) ∧ l.Pairwise (fun a b => a.at_ ≤ b.at_)
  | [], _, _ => by simp
  | c :: l, last, h => by
    simp only [checkFrom] at h
    split at h
    · cases h
    · split at h
      · cases h
      · rename_i h1 h2
        obtain ⟨g1, g2, g3⟩ := checkFrom_ok l c.at_ h
        refine ⟨?_, ?_, List.pairwise_cons.2 ⟨g2, g3⟩⟩
        · intro x hx; rcases List.mem_cons.1 hx with rfl | hx; exact h1; exact g1 x hx
        · intro x hx; rcases List.mem_cons.1 hx with rfl | hx; omega; have := g2 x hx; omega

theorem getD_eq {l : List DCall} {j : Nat} (h : j < l.length) : l.getD j default = l[j] := by simp [List.getD, h]

theorem right_of {l : List DCall} (h : check l = 0) : Right l := by
  have hl := check_len h
  unfold check at h
  rw [if_neg (by omega)] at h
  obtain ⟨h1, _, h3⟩ := checkFrom_ok l 0 h
  have hb : ∀ j, j < l.length → ¬ bad (l.getD j default) := fun j hj => by rw [getD_eq hj]; exact h1 _ (List.getElem_mem hj)
  refine ⟨hl, fun j hj => ?_, fun j hj => ?_, fun j hj => ?_, fun j k hjk hk => ?_⟩
  · have := hb j hj; unfold bad at this; omega
  · have := hb j hj; unfold bad at this; omega
  · have := hb j hj; unfold bad at this; omega
  · rcases Nat.lt_or_ge j k with h' | h'
    · rw [getD_eq hk, getD_eq (by omega)]
      exact (List.pairwise_iff_getElem.1 h3) j k (by omega) hk h'
    · have : j = k := by omega
      subst this; exact Int.le_refl _

def E (l : List DCall) (k : Nat) : Int := (l.getD k default).at_ + (l.getD k default).long
theorem E_wrap {l : List DCall} (R : Right l) {k : Nat} (h : k < l.length) : IntKind.i64.wrap ((l.getD k default).at_ + (l.getD k default).long) = E l k := by
  have h1 := R.at0 k h; have h2 := R.long k h
  exact wrap_ok (by omega)

def planTo (l : List DCall) : Nat → List DLoad × List (Int × DLoad)
  | 0 => ([], [])
  | i + 1 => let s := planTo l i; let c := l.getD i default
    if fresh s.2 c then (s.1 ++ [⟨i, IntKind.i64.wrap (c.at_ + c.long)⟩], AL.set s.2 c.key ⟨i, IntKind.i64.wrap (c.at_ + c.long)⟩) else (s.1 ++ [(AL.get s.2 c.key).getD dLoad], s.2)

theorem planTo_go (l : List DCall) : ∀ i, i ≤ l.length → (planTo l i).1 ++ planGo i (planTo l i).2 (l.drop i) = plan l
  | 0, _ => rfl
  | i + 1, h => by
    have ih := planTo_go l i (by omega)
    rw [List.drop_eq_getElem_cons (by omega), planGo, ← getD_eq (by omega)] at ih
    simp only [planTo]
    split
    · rename_i hf; rw [if_pos hf] at ih; simpa using ih
    · rename_i hf; rw [if_neg hf] at ih; simpa using ih
theorem planTo_all (l : List DCall) : (planTo l l.length).1 = plan l := by
  have := planTo_go l l.length (Nat.le_refl _)
  rw [List.drop_length] at this; simpa [planGo] using this

theorem scan_none {l : List DCall} {out : List Int} {i : Nat} : ∀ n, (∀ k, k < n → whoHit l out i k = false) → whoScan l out i n = i
  | 0, _ => rfl
  | n + 1, h => by simp only [whoScan]; rw [if_neg (by rw [h n (by omega)]; simp)]; exact scan_none n (fun k hk => h k (by omega))
theorem scan_some {l : List DCall} {out : List Int} {i k : Nat} (hk : whoHit l out i k = true) : ∀ n, k < n → (∀ k', k < k' → k' < n → whoHit l out i k' = false) → whoScan l out i n = k
  | 0, h, _ => by omega
  | n + 1, h, hn => by
    simp only [whoScan]
    by_cases e : n = k
    · subst e; rw [if_pos hk]
    · rw [if_neg (by rw [hn n (by omega) (by omega)]; simp)]
      exact scan_some hk n (by omega) (fun k' h1 h2 => hn k' h1 (by omega))

theorem hit_iff {l : List DCall} (R : Right l) {out : List Int} {i k : Nat} (hi : i < l.length) (hk : k < i) : whoHit l out i k = true ↔ (out.getD k 0 = k ∧ (l.getD k default).key = (l.getD i default).key ∧ (l.getD i default).at_ < E l k) := by
  have h1 := R.at0 k (by omega); have h2 := R.at0 i hi; have h3 := R.long k (by omega)
  unfold whoHit E
  rw [wrap_ok (by omega)]
  simp only [Bool.and_eq_true, beq_iff_eq, decide_eq_true_eq]
  constructor
  · rintro ⟨⟨a, b⟩, c⟩; exact ⟨a, b, by omega⟩
  · rintro ⟨a, b, c⟩; exact ⟨⟨a, b⟩, by omega⟩

theorem crowdTo_getD (l : List DCall) {i j : Nat} (h : j < i) : (crowdTo l (i + 1)).getD j 0 = (crowdTo l i).getD j 0 := by
  simp only [crowdTo, List.getD]
  rw [List.getElem?_append_left (by rw [crowdTo_length]; exact h)]
theorem crowdTo_last (l : List DCall) (i : Nat) : (crowdTo l (i + 1)).getD i 0 = whoScan l (crowdTo l i) i i := by
  simp only [crowdTo, List.getD]
  rw [List.getElem?_append_right (by rw [crowdTo_length]; omega)]
  simp [crowdTo_length]

theorem fresh_none {m : List (Int × DLoad)} {c : DCall} (h : AL.get m c.key = none) : fresh m c = true := by unfold fresh; rw [h]; rfl
theorem fresh_some {m : List (Int × DLoad)} {c : DCall} {x : DLoad} (h : AL.get m c.key = some x) : fresh m c = decide (x.ends ≤ c.at_) := by unfold fresh; rw [h]; rfl

structure Inv (l : List DCall) (i : Nat) : Prop where
  len : (planTo l i).1.length = i
  who : (planTo l i).1.map (·.who) = crowdTo l i
  some_ : ∀ key x, AL.get (planTo l i).2 key = some x → ∃ k : Nat, x.who = k ∧ k < i ∧ (crowdTo l i).getD k 0 = k ∧ (l.getD k default).key = key ∧ x.ends = E l k ∧
    ∀ k', k' < i → (crowdTo l i).getD k' 0 = k' → (l.getD k' default).key = key → k' ≤ k ∧ (k' < k → E l k' ≤ (l.getD k default).at_)
  none_ : ∀ key, AL.get (planTo l i).2 key = none → ∀ k', k' < i → (crowdTo l i).getD k' 0 = k' → (l.getD k' default).key ≠ key
  each : ∀ j, j < i → ∃ k : Nat, ((planTo l i).1.getD j dLoad).who = k ∧ k ≤ j ∧ (crowdTo l i).getD j 0 = k ∧ (crowdTo l i).getD k 0 = k ∧ (l.getD k default).key = (l.getD j default).key ∧ ((planTo l i).1.getD j dLoad).ends = E l k ∧ (l.getD j default).at_ < E l k

theorem inv (l : List DCall) (R : Right l) : ∀ i, i ≤ l.length → Inv l i
  | 0, _ => ⟨rfl, rfl, by simp [planTo, AL.get], by omega, by omega⟩
  | i + 1, h => by
    have I := inv l R i (by omega)
    have hi : i < l.length := by omega
    have hE := E_wrap R hi
    have hEi : (l.getD i default).at_ < E l i := by have := R.long i hi; unfold E; omega
    by_cases hf : fresh (planTo l i).2 (l.getD i default)
    · -- a new load
      have hplan : planTo l (i + 1) = ((planTo l i).1 ++ [⟨i, E l i⟩], AL.set (planTo l i).2 (l.getD i default).key ⟨i, E l i⟩) := by
        simp only [planTo]; rw [if_pos hf, hE]
      -- every own load of this key has ended
      have ended : ∀ k', k' < i → (crowdTo l i).getD k' 0 = k' → (l.getD k' default).key = (l.getD i default).key → E l k' ≤ (l.getD i default).at_ := by
        intro k' h1 h2 h3
        cases hg : AL.get (planTo l i).2 (l.getD i default).key with
        | none => exact absurd h3 (I.none_ _ hg k' h1 h2)
        | some x =>
          obtain ⟨k, e1, e2, e3, e4, e5, e6⟩ := I.some_ _ x hg
          have hx : x.ends ≤ (l.getD i default).at_ := by rw [fresh_some hg] at hf; exact of_decide_eq_true hf
          obtain ⟨g1, g2⟩ := e6 k' h1 h2 h3
          rcases Nat.lt_or_ge k' k with h' | h'
          · have := g2 h'; have := R.mono k i (by omega) hi; omega
          · have : k' = k := by omega
            subst this; omega
      have hscan : whoScan l (crowdTo l i) i i = i := scan_none i fun k hk => by
        rw [Bool.eq_false_iff]; intro hh
        obtain ⟨g1, g2, g3⟩ := (hit_iff R hi hk).1 hh
        have := ended k hk g1 g2; omega
      have hc : crowdTo l (i + 1) = crowdTo l i ++ [(i : Int)] := by rw [crowdTo, hscan]
      refine ⟨by rw [hplan]; simp [I.len], by rw [hplan, hc]; simp [I.who], ?_, ?_, ?_⟩
      · intro key x hx
        rw [hplan] at hx
        simp only [AL.get_set] at hx
        split at hx
        · rename_i e; subst e
          simp only [Option.some.injEq] at hx; subst hx
          refine ⟨i, rfl, by omega, by rw [crowdTo_last, hscan], rfl, rfl, fun k' h1 h2 h3 => ⟨by omega, fun h4 => ?_⟩⟩
          exact ended k' h4 (by rw [crowdTo_getD l h4] at h2; exact h2) h3
        · rename_i e
          obtain ⟨k, e1, e2, e3, e4, e5, e6⟩ := I.some_ key x hx
          refine ⟨k, e1, by omega, by rw [crowdTo_getD l e2]; exact e3, e4, e5, fun k' h1 h2 h3 => ?_⟩
          rcases Nat.lt_or_ge k' i with h' | h'
          · exact e6 k' h' (by rw [crowdTo_getD l h'] at h2; exact h2) h3
          · have : k' = i := by omega
            subst this; exact absurd h3.symm e
      · intro key hx k' h1 h2
        rw [hplan] at hx
        simp only [AL.get_set] at hx
        split at hx
        · cases hx
        · rename_i e
          rcases Nat.lt_or_ge k' i with h' | h'
          · exact I.none_ key hx k' h' (by rw [crowdTo_getD l h'] at h2; exact h2)
          · have : k' = i := by omega
            subst this; exact fun h => e h.symm
      · intro j hj
        rcases Nat.lt_or_ge j i with h' | h'
        · obtain ⟨k, e1, e2, e3, e4, e5, e6, e7⟩ := I.each j h'
          have hg : (planTo l (i + 1)).1.getD j dLoad = (planTo l i).1.getD j dLoad := by rw [hplan]; simp [List.getD, List.getElem?_append_left, I.len, h']
          exact ⟨k, by rw [hg]; exact e1, e2, by rw [crowdTo_getD l h']; exact e3, by rw [crowdTo_getD l (by omega)]; exact e4, e5, by rw [hg]; exact e6, e7⟩
        · have : j = i := by omega
          subst this
          have hg : (planTo l (j + 1)).1.getD j dLoad = ⟨j, E l j⟩ := by rw [hplan]; simp [List.getD, List.getElem?_append_right, I.len]
          exact ⟨j, by rw [hg], Nat.le_refl _, by rw [crowdTo_last, hscan], by rw [crowdTo_last, hscan], rfl, by rw [hg], hEi⟩
    · -- shared
      have hplan : planTo l (i + 1) = ((planTo l i).1 ++ [(AL.get (planTo l i).2 (l.getD i default).key).getD dLoad], (planTo l i).2) := by
        simp only [planTo]; rw [if_neg hf]
      cases hg : AL.get (planTo l i).2 (l.getD i default).key with
      | none => exact absurd (fresh_none hg) hf
      | some x =>
        obtain ⟨k, e1, e2, e3, e4, e5, e6⟩ := I.some_ _ x hg
        have hx : (l.getD i default).at_ < x.ends := by
          have : ¬ x.ends ≤ (l.getD i default).at_ := by rw [fresh_some hg] at hf; simpa only [decide_eq_true_eq] using hf
          omega
        have hscan : whoScan l (crowdTo l i) i i = k := scan_some ((hit_iff R hi e2).2 ⟨e3, e4, by omega⟩) i e2 fun k' h1 h2 => by
          rw [Bool.eq_false_iff]; intro hh
          obtain ⟨g1, g2, g3⟩ := (hit_iff R hi h2).1 hh
          have := (e6 k' h2 g1 g2).1; omega
        have hc : crowdTo l (i + 1) = crowdTo l i ++ [(k : Int)] := by rw [crowdTo, hscan]
        have hp1 : (planTo l (i + 1)).1 = (planTo l i).1 ++ [x] := by rw [hplan, hg]; rfl
        have hp2 : (planTo l (i + 1)).2 = (planTo l i).2 := by rw [hplan]
        have hown : (crowdTo l (i + 1)).getD i 0 ≠ (i : Int) := by rw [crowdTo_last, hscan]; omega
        refine ⟨by rw [hp1]; simp [I.len], by rw [hp1, hc]; simp [I.who, e1], ?_, ?_, ?_⟩
        · intro key y hy
          rw [hp2] at hy
          obtain ⟨q, f1, f2, f3, f4, f5, f6⟩ := I.some_ key y hy
          refine ⟨q, f1, by omega, by rw [crowdTo_getD l f2]; exact f3, f4, f5, fun k' h1 h2 h3 => ?_⟩
          rcases Nat.lt_or_ge k' i with h' | h'
          · exact f6 k' h' (by rw [crowdTo_getD l h'] at h2; exact h2) h3
          · have : k' = i := by omega
            subst this; exact absurd h2 hown
        · intro key hy k' h1 h2
          rw [hp2] at hy
          rcases Nat.lt_or_ge k' i with h' | h'
          · exact I.none_ key hy k' h' (by rw [crowdTo_getD l h'] at h2; exact h2)
          · have : k' = i := by omega
            subst this; exact absurd h2 hown
        · intro j hj
          rcases Nat.lt_or_ge j i with h' | h'
          · obtain ⟨q, f1, f2, f3, f4, f5, f6, f7⟩ := I.each j h'
            have hgg : (planTo l (i + 1)).1.getD j dLoad = (planTo l i).1.getD j dLoad := by rw [hp1]; simp [List.getD, List.getElem?_append_left, I.len, h']
            exact ⟨q, by rw [hgg]; exact f1, f2, by rw [crowdTo_getD l h']; exact f3, by rw [crowdTo_getD l (by omega)]; exact f4, f5, by rw [hgg]; exact f6, f7⟩
          · have : j = i := by omega
            subst this
            have hgg : (planTo l (j + 1)).1.getD j dLoad = x := by rw [hp1]; simp [List.getD, List.getElem?_append_right, I.len]
            exact ⟨k, by rw [hgg]; exact e1, by omega, by rw [crowdTo_last, hscan], by rw [crowdTo_getD l e2]; exact e3, e4, by rw [hgg]; exact e5, by omega⟩

theorem who_eq {l : List DCall} (h : check l = 0) : (plan l).map (·.who) = crowdWho l := by
  have := (inv l (right_of h) l.length (Nat.le_refl _)).who
  rw [planTo_all] at this; exact this
theorem each {l : List DCall} (h : check l = 0) {j : Nat} (hj : j < l.length) : ∃ k : Nat, ((plan l).getD j dLoad).who = k ∧ k ≤ j ∧ (crowdWho l).getD j 0 = k ∧ (crowdWho l).getD k 0 = k ∧ (l.getD k default).key = (l.getD j default).key ∧ ((plan l).getD j dLoad).ends = E l k ∧ (l.getD j default).at_ < E l k := by
  have := (inv l (right_of h) l.length (Nat.le_refl _)).each j hj
  rw [planTo_all] at this; exact this
end Flight
end Go.Sx
namespace Go.Sx.Flight
open Ref
theorem crowdWho_length (l : List DCall) : (crowdWho l).length = l.length := crowdTo_length l _
/-- What is known of the call number i. -/
theorem each2 {l : List DCall} (h : check l = 0) {i : Nat} (hi : i < l.length) : ∃ (j : Nat) (hj : j ≤ i), (crowdWho l)[i]'(by rw [crowdWho_length]; exact hi) = (j : Int) ∧ (crowdWho l)[j]'(by rw [crowdWho_length]; omega) = (j : Int) ∧ ((plan l)[i]'(by rw [plan_length]; exact hi)).who = j ∧
    ((plan l)[i]'(by rw [plan_length]; exact hi)).ends = IntKind.i64.wrap ((l[j]'(by omega)).at_ + (l[j]'(by omega)).long) ∧ ((plan l)[i]'(by rw [plan_length]; exact hi)).ends = (l[j]'(by omega)).at_ + (l[j]'(by omega)).long ∧ l[i].at_ < ((plan l)[i]'(by rw [plan_length]; exact hi)).ends ∧ (l[j]'(by omega)).key = l[i].key ∧ (l[j]'(by omega)).at_ ≤ l[i].at_ := by
  obtain ⟨j, e1, e2, e3, e4, e5, e6, e7⟩ := each h hi
  have R := right_of h
  have hp : i < (plan l).length := by rw [plan_length]; exact hi
  have hc : i < (crowdWho l).length := by rw [crowdWho_length]; exact hi
  have hcj : j < (crowdWho l).length := by rw [crowdWho_length]; omega
  have g1 : (plan l).getD i dLoad = (plan l)[i] := by simp [List.getD, hp]
  have g2 : (crowdWho l).getD i 0 = (crowdWho l)[i] := by simp [List.getD, hc]
  have g3 : (crowdWho l).getD j 0 = (crowdWho l)[j] := by simp [List.getD, hcj]
  have hm := R.mono j i e2 hi
  have hw := E_wrap R (k := j) (by omega)
  unfold E at *
  rw [getD_eq hi, getD_eq (by omega)] at *
  rw [g1] at e1 e6; rw [g2] at e3; rw [g3] at e4
  exact ⟨j, e2, e3, e4, e1, by rw [e6, hw], e6, by rw [e6]; exact e7, e5, hm⟩
end Go.Sx.Flight
