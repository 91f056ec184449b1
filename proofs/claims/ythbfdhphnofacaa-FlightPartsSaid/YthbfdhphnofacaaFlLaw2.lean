/- Duplicate suppression: more plain laws. -/
import Derived.Test.YthbfdhphnofacaaFlLaw
namespace Go.Sx.Flight
open Ref

theorem who_length {l : List DCall} (h : check l = 0) : (who l).length = l.length := by unfold who; rw [if_pos h, List.length_map, plan_length]
theorem when_length {l : List DCall} (h : check l = 0) : (when_ l).length = l.length := by unfold when_; rw [if_pos h, List.length_map, plan_length]
theorem who_nil {l : List DCall} (h : check l ≠ 0) : who l = [] := by unfold who; rw [if_neg h]
theorem when_nil {l : List DCall} (h : check l ≠ 0) : when_ l = [] := by unfold when_; rw [if_neg h]
theorem who_crowd {l : List DCall} (h : check l = 0) : who l = crowdWho l := by unfold who; rw [if_pos h]; exact who_eq h
theorem activeErr_check {l : List DCall} {at_ : Int} (h : activeErr l at_ = 0) : check l = 0 := by
  unfold activeErr at h; split at h
  · assumption
  · exact h

theorem each3 {l : List DCall} (h : check l = 0) {i : Nat} (hi : i < l.length) : ∃ (j : Nat) (hj : j ≤ i), (∀ p, (who l)[i]'p = (j : Int)) ∧ (∀ p, (who l)[j]'p = (j : Int)) ∧ (∀ p, (when_ l)[i]'p = (l[j]'(by omega)).at_ + (l[j]'(by omega)).long) ∧ l[i].at_ < (l[j]'(by omega)).at_ + (l[j]'(by omega)).long ∧ (l[j]'(by omega)).key = l[i].key ∧ (l[j]'(by omega)).at_ ≤ l[i].at_ ∧ 0 ≤ (l[j]'(by omega)).at_ ∧ l[i].at_ ≤ 1099511627776 ∧ 1 ≤ (l[j]'(by omega)).long ∧ (l[j]'(by omega)).long ≤ 1073741824 := by
  obtain ⟨j, hj, e1, e2, e3, e4, e5, e6, e7, e8⟩ := each2 h hi
  have R := right_of h
  have b1 := (R.at0 j (by omega)).1; have b2 := (R.at0 i (by omega)).2; have b3 := R.long j (by omega)
  rw [getD_eq (by omega)] at b1 b2 b3
  refine ⟨j, hj, fun p => ?_, fun p => ?_, fun p => ?_, by omega, e7, e8, b1, b2, b3⟩
  · simp only [who_crowd h]; exact e1
  · simp only [who_crowd h]; exact e2
  · simp only [when_, if_pos h, List.getElem_map]; exact e5

theorem activeGo_spec (at_ : Int) : ∀ (l : List DCall) (p : List DLoad) (i : Int), (∀ x ∈ activeGo at_ i l p, ∃ (j : Nat) (h1 : j < l.length) (h2 : j < p.length), x = i + j ∧ p[j].who = x ∧ l[j].at_ ≤ at_ ∧ at_ < p[j].ends) ∧ (activeGo at_ i l p).Pairwise (· < ·)
  | [], _, _ => by simp [activeGo]
  | _ :: _, [], _ => by simp [activeGo]
  | c :: l, y :: p, i => by
    obtain ⟨g1, g2⟩ := activeGo_spec at_ l p (i + 1)
    have g3 : ∀ x ∈ activeGo at_ (i + 1) l p, ∃ (j : Nat) (h1 : j < (c :: l).length) (h2 : j < (y :: p).length), x = i + j ∧ (y :: p)[j].who = x ∧ (c :: l)[j].at_ ≤ at_ ∧ at_ < (y :: p)[j].ends := fun x hx => by
      obtain ⟨j, h1, h2, e, e2⟩ := g1 x hx
      exact ⟨j + 1, by simpa using h1, by simpa using h2, by omega, by simpa using e2⟩
    unfold activeGo; split
    · rename_i hc
      refine ⟨fun x hx => ?_, List.pairwise_cons.2 ⟨fun x hx => ?_, g2⟩⟩
      · rcases List.mem_cons.1 hx with rfl | hx
        · exact ⟨0, by simp, by simp, by simp, by simpa using hc⟩
        · exact g3 x hx
      · obtain ⟨j, _, _, e, _⟩ := g1 x hx; omega
    · exact ⟨g3, g2⟩

theorem active_at {l : List DCall} {at_ : Int} {n : Nat} (ha : activeErr l at_ = 0) (hn : n < (active l at_).length) : ∃ (j : Nat) (hj : j < l.length), (active l at_)[n] = (j : Int) ∧ ((plan l)[j]'(by rw [plan_length]; exact hj)).who = j ∧ l[j].at_ ≤ at_ ∧ at_ < ((plan l)[j]'(by rw [plan_length]; exact hj)).ends := by
  have hm := List.getElem_mem hn
  have he : active l at_ = activeGo at_ 0 l (plan l) := by unfold active; rw [if_pos ha]
  have hs := activeGo_spec at_ l (plan l) 0
  rw [← he] at hs
  obtain ⟨j, h1, h2, e1, e2, e3, e4⟩ := hs.1 _ hm
  exact ⟨j, h1, by omega, by omega, e3, e4⟩
theorem active_lt {l : List DCall} {at_ : Int} {k n : Nat} (ha : activeErr l at_ = 0) (hk : k < n) (hn : n < (active l at_).length) : (active l at_)[k] < (active l at_)[n] := by
  have he : active l at_ = activeGo at_ 0 l (plan l) := by unfold active; rw [if_pos ha]
  have hs := (activeGo_spec at_ l (plan l) 0).2
  rw [← he] at hs
  exact List.pairwise_iff_getElem.1 hs k n (by omega) hn hk

theorem activeGo_length (at_ : Int) : ∀ (l : List DCall) (p : List DLoad) (i : Int), (activeGo at_ i l p).length ≤ l.length
  | [], _, _ => by simp [activeGo]
  | _ :: _, [], _ => by simp [activeGo]
  | c :: l, y :: p, i => by
    have := activeGo_length at_ l p (i + 1)
    unfold activeGo; split <;> simp only [List.length_cons] <;> omega
theorem active_length (l : List DCall) (at_ : Int) : (active l at_).length ≤ l.length := by
  unfold active; split
  · exact activeGo_length at_ l _ _
  · simp

theorem scan_own {l : List DCall} {out : List Int} {i : Nat} : ∀ n, n ≤ i → whoScan l out i n = i → ∀ k, k < n → whoHit l out i k = false
  | 0, _, _, k, hk => by omega
  | n + 1, hn, h, k, hk => by
    simp only [whoScan] at h
    split at h
    · omega
    · rename_i hh
      by_cases e : k = n
      · subst e; simpa using hh
      · exact scan_own n (by omega) h k (by omega)
theorem crowdTo_of (l : List DCall) (j : Nat) : ∀ n, j < n → (crowdTo l n).getD j 0 = whoScan l (crowdTo l j) j j
  | 0, h => by omega
  | n + 1, h => by
    rcases Nat.lt_or_ge j n with h' | h'
    · rw [crowdTo_getD l h']; exact crowdTo_of l j n h'
    · have : j = n := by omega
      subst this; exact crowdTo_last l j
/-- An own load of a key begins when the earlier ones have ended. -/
theorem own_ended {l : List DCall} (h : check l = 0) {j i : Nat} (hj : j < i) (hi : i < l.length) (h1 : (crowdWho l)[j]'(by rw [crowdWho_length]; omega) = (j : Int)) (h2 : (crowdWho l)[i]'(by rw [crowdWho_length]; omega) = (i : Int)) (hk : l[j].key = l[i].key) : l[j].at_ + l[j].long ≤ l[i].at_ := by
  have g1 : (crowdWho l).getD j 0 = (j : Int) := by rw [List.getD, List.getElem?_eq_getElem (by rw [crowdWho_length]; omega)]; exact h1
  have g2 : (crowdWho l).getD i 0 = (i : Int) := by rw [List.getD, List.getElem?_eq_getElem (by rw [crowdWho_length]; omega)]; exact h2
  unfold crowdWho at g1 g2
  rw [crowdTo_of l j _ (by omega)] at g1
  rw [crowdTo_of l i _ (by omega)] at g2
  have g3 := scan_own i (Nat.le_refl _) g2 j hj
  rw [← crowdTo_of l j i hj] at g1
  apply Classical.byContradiction; intro hn
  have := (hit_iff (right_of h) (out := crowdTo l i) hi hj).2 ⟨g1, by rw [getD_eq hi, getD_eq (by omega)]; exact hk, by unfold E; rw [getD_eq hi, getD_eq (by omega)]; omega⟩
  rw [this] at g3; cases g3

theorem active_keys {l : List DCall} {at_ : Int} {k n : Nat} (ha : activeErr l at_ = 0) (hk : k < n) (hn : n < (active l at_).length) (p1 : ((active l at_)[n]).toNat < l.length) (p2 : ((active l at_)[k]).toNat < l.length) :
    l[((active l at_)[n]).toNat].key ≠ l[((active l at_)[k]).toNat].key := by
  intro he
  have h := activeErr_check ha
  obtain ⟨a, ha1, a2, a3, a4, a5⟩ := active_at ha hn
  obtain ⟨b, hb1, b2, b3, b4, b5⟩ := active_at (n := k) ha (by omega)
  have hlt := active_lt ha hk hn
  rw [a2, b2] at hlt
  simp only [a2, b2, Int.toNat_natCast] at he
  obtain ⟨x, hx0, x1, x2, x3, x4, x5, x6, x7, x8⟩ := each2 h ha1
  obtain ⟨y, hy0, y1, y2, y3, y4, y5, y6, y7, y8⟩ := each2 h hb1
  have e1 : x = a := by omega
  have e2 : y = b := by omega
  subst e1 e2
  have := own_ended h (j := y) (i := x) (by omega) ha1 y1 x1 he.symm
  omega

theorem countOwn_le : ∀ (p : List DLoad) (i : Int), 0 ≤ countOwn i p ∧ countOwn i p ≤ p.length
  | [], _ => by simp [countOwn]
  | x :: p, i => by have := countOwn_le p (i + 1); simp only [countOwn, List.length_cons]; split <;> omega
theorem countOwn_none : ∀ (p : List DLoad) (i : Int), (∀ (j : Nat) (h : j < p.length), p[j].who ≠ i + j) → countOwn i p = 0
  | [], _, _ => rfl
  | x :: p, i, h => by
    have h0 := h 0 (by simp)
    simp only [countOwn]
    rw [if_neg (by simpa using h0)]
    exact countOwn_none p (i + 1) (fun j hj => by have := h (j + 1) (by simpa using hj); simp only [List.getElem_cons_succ] at this; omega)

/-- The first call of a key is its own load. -/
theorem first_own {l : List DCall} (h : check l = 0) {i : Nat} (hi : i < l.length) (hn : ∀ j (hj : j < i), l[j].key ≠ l[i].key) : ((plan l)[i]'(by rw [plan_length]; exact hi)).who = (i : Int) := by
  obtain ⟨x, hx0, x1, x2, x3, x4, x5, x6, x7, x8⟩ := each2 h hi
  rcases Nat.lt_or_ge x i with h' | h'
  · exact absurd x7 (hn x h')
  · have : x = i := by omega
    subst this; exact x3

/-- Calls of one key within the first load share it. -/
theorem near_one {l : List DCall} (h : check l = 0) (h0 : 0 < l.length) (hk : ∀ j (hj : j < l.length), l[j].key = l[0].key) (hn : ∀ j (hj : j < l.length), l[j].at_ < l[0].at_ + l[0].long) : countOwn 0 (plan l) = 1 := by
  have hpl := plan_length l
  have e0 := first_own h h0 (fun j hj => by omega)
  obtain ⟨_, _, z1, z2, z3, _⟩ := each2 h h0
  have hnone : ∀ i (hi : i < l.length), 0 < i → ((plan l)[i]'(by omega)).who ≠ (i : Int) := fun i hi hp he => by
    obtain ⟨x, hx0, x1, x2, x3, x4, x5, x6, x7, x8⟩ := each2 h hi
    have : x = i := by omega
    subst this
    have := own_ended h hp hi (by rw [z1]; omega) x1 (hk x hi).symm
    have := hn x hi
    omega
  match hp : plan l, hpl with
  | [], hl => simp at hl; omega
  | y :: p, hl =>
    simp only [hp, List.getElem_cons_zero] at e0
    simp only [countOwn]
    rw [if_pos (by simpa using e0), countOwn_none p _ (fun j hj => ?_)]
    · rfl
    · have := hnone (j + 1) (by simp at hl; omega) (by omega)
      simp only [hp, List.getElem_cons_succ] at this
      omega

/-! ### The calls of one key alone -/
theorem checkFrom_of : ∀ (l : List DCall) (last : Int), (∀ c ∈ l, ¬ bad c) → (∀ c ∈ l, last ≤ c.at_) → l.Pairwise (fun a b => a.at_ ≤ b.at_) → checkFrom last l = 0
  | [], _, _, _, _ => rfl
  | c :: l, last, h1, h2, h3 => by
    obtain ⟨g1, g2⟩ := List.pairwise_cons.1 h3
    have e1 := h1 c (by simp)
    have e2 := h2 c (by simp)
    unfold checkFrom
    rw [if_neg e1, if_neg (by omega)]
    exact checkFrom_of l c.at_ (fun x hx => h1 x (by simp [hx])) g1 g2
theorem check_filter {l : List DCall} (h : check l = 0) (q : DCall → Bool) : check (l.filter q) = 0 := by
  have hl := check_len h
  have hf := List.length_filter_le q l
  unfold check at h ⊢
  rw [if_neg (by omega)] at h
  rw [if_neg (by omega)]
  obtain ⟨g1, g2, g3⟩ := checkFrom_ok l 0 h
  exact checkFrom_of _ _ (fun c hc => g1 c ((List.mem_filter.1 hc).1)) (fun c hc => g2 c ((List.mem_filter.1 hc).1)) (g3.filter q)
/-- The ends of the calls of one key. -/
def endsOf (key : Int) : List DCall → List Int → List Int
  | c :: l, e :: p => if c.key = key then e :: endsOf key l p else endsOf key l p
  | _, _ => []
theorem planGo_filter (key : Int) : ∀ (l : List DCall) (i i' : Int) (m m' : List (Int × DLoad)), (AL.get m key).map (·.ends) = (AL.get m' key).map (·.ends) → (planGo i' m' (l.filter (fun c => decide (c.key = key)))).map (·.ends) = endsOf key l ((planGo i m l).map (·.ends))
  | [], _, _, _, _, _ => rfl
  | c :: l, i, i', m, m', h => by
    by_cases hc : c.key = key
    · rw [List.filter_cons_of_pos (by simpa using hc)]
      have hfr : fresh m' c = fresh m c := by
        unfold fresh; rw [hc]
        cases e1 : AL.get m key <;> cases e2 : AL.get m' key <;> simp_all
      simp only [planGo, hfr]
      split
      · simp only [List.map_cons, endsOf, if_pos hc]
        congr 1
        exact planGo_filter key l _ _ _ _ (by rw [hc]; simp [AL.get_set])
      · simp only [List.map_cons, endsOf, if_pos hc]
        congr 1
        · rw [hc]; cases e1 : AL.get m key <;> cases e2 : AL.get m' key <;> simp_all
        · exact planGo_filter key l _ _ _ _ h
    · rw [List.filter_cons_of_neg (by simpa using hc)]
      simp only [planGo]
      split
      · simp only [List.map_cons, endsOf, if_neg hc]
        exact planGo_filter key l _ _ _ _ (by rw [AL.get_set, if_neg (fun e => hc e.symm)]; exact h)
      · simp only [List.map_cons, endsOf, if_neg hc]
        exact planGo_filter key l _ _ _ _ h
theorem when_filter {l : List DCall} (h : check l = 0) (key : Int) : when_ (l.filter (fun c => decide (c.key = key))) = endsOf key l (when_ l) := by
  unfold when_
  rw [if_pos h, if_pos (check_filter h _)]
  exact planGo_filter key l 0 0 [] [] rfl
end Go.Sx.Flight
