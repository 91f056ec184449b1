/- LRU: inclusion, parts, what was used last: as the program's statements ask. -/
import Derived.Test.YthecfjipaepcgaaLrLaw
namespace Go.Sx.Lru
theorem run_n (l : List Int) : ∀ (c : DCache), 0 ≤ (Lru.runGo c 0 l).2 ∧ (Lru.runGo c 0 l).2 ≤ l.length := by
  induction l with
  | nil => intro c; simp [Lru.runGo]
  | cons k l ih =>
    intro c
    rw [Lru.runGo, runGo_add]
    have := ih (touch c k).1
    split <;> simp <;> omega
theorem run_small {c : DCache} {l : List Int} (h : runErr c l = 0) : l.length ≤ 200 := (trace_ok.1 (run_ok h).2.1).1
theorem run_oks {c : DCache} {l : List Int} (h : runErr c l = 0) : Ok (run c l).1 := by
  obtain ⟨a, b, e⟩ := run_ok h
  rw [e]; exact (ok_of a).runGo (trace_ok.1 b).2
theorem parts_err {c : DCache} {l m : List Int} (h : runErr c l = 0) : runErr (run c l).1 m = runErr c (l ++ m) ∨ runErr c (l ++ m) = 2 := by
  have ho := run_oks h
  obtain ⟨a1, a2, a3⟩ := run_ok h
  obtain ⟨t1, t2⟩ := trace_ok.1 a2
  have e1 : runErr (run c l).1 m = trace m := by unfold runErr; rw [if_pos (check_ok.2 ho)]
  have e2 : runErr c (l ++ m) = trace (l ++ m) := by unfold runErr; rw [if_pos a1]
  rw [e1, e2]
  by_cases g : 200 < (l ++ m).length
  · right; unfold trace; rw [if_pos g]
  · left
    have g2 : ¬ 200 < m.length := by rw [List.length_append] at g; omega
    have g3 : (l ++ m).any (fun k => !okKey k) = m.any (fun k => !okKey k) := by
      have : l.any (fun k => !okKey k) = false := List.any_eq_false.2 fun k hk => by simp [t2 k hk]
      rw [List.any_append, this, Bool.false_or]
    unfold trace; rw [if_neg g, if_neg g2, g3]
theorem parts_ok {c : DCache} {l m : List Int} (h : runErr c l = 0) (h2 : runErr (run c l).1 m = 0) (h3 : runErr c (l ++ m) = 0) :
    (run (run c l).1 m).1 = (run c (l ++ m)).1 ∧ (run c (l ++ m)).2 = (run c l).2 + (run (run c l).1 m).2 ∧ 0 ≤ (run c l).2 ∧ (run c l).2 ≤ 200 ∧ 0 ≤ (run (run c l).1 m).2 ∧ (run (run c l).1 m).2 ≤ 200 := by
  obtain ⟨a1, a2, a3⟩ := run_ok h
  obtain ⟨b1, b2, b3⟩ := run_ok h2
  obtain ⟨c1, c2, c3⟩ := run_ok h3
  have n1 := run_n l c
  have n2 := run_n m (run c l).1
  have t1 := (trace_ok.1 a2).1
  have t2 := (trace_ok.1 b2).1
  have e := runGo_append (l := l) (m := m) (c := c) (n := 0)
  rw [runGo_add (l := m)] at e
  rw [b3, c3, e, a3] at *
  exact ⟨rfl, rfl, by omega, by omega, by omega, by omega⟩
theorem parts_bool {c : DCache} {l m : List Int} (h : runErr c l = 0) (h2 : runErr (run c l).1 m = 0) (h3 : runErr c ([] ++ l ++ m) = 0) :
    (decide ((run (run c l).1 m).1 = (run c ([] ++ l ++ m)).1) && ((run c ([] ++ l ++ m)).2 == IntKind.i64.wrap ((run c l).2 + (run (run c l).1 m).2))) = true := by
  obtain ⟨p1, p2, p3, p4, p5, p6⟩ := parts_ok (l := l) h h2 h3
  rw [wrap_i64 (by omega)]
  simp only [List.nil_append]
  simp [p1, p2]
theorem parts_bool2 {c : DCache} {l m : List Int} (h : runErr c l = 0) : (runErr (run c l).1 m == runErr c ([] ++ l ++ m) || runErr c ([] ++ l ++ m) == 2) = true := by
  rcases parts_err (l := l) (m := m) h with e | e
  · simp only [List.nil_append]; simp [e]
  · simp only [List.nil_append]; simp [e]
theorem parts_bool3 {c : DCache} {l : List Int} (h : runErr c l ≠ 0) : ((run c l).2 == 0 && (((run c l).1.keys.length : Int) == 0)) = true := by rw [run_bad h]; rfl
/-! ### Inclusion -/
theorem incl {l : List Int} {small great : Int} (ha : runErr ⟨small, []⟩ l = 0) (hb : runErr ⟨great, []⟩ l = 0) (hs : small ≤ great) :
    (run ⟨small, []⟩ l).2 ≤ (run ⟨great, []⟩ l).2 ∧ (run ⟨small, []⟩ l).1.keys.length ≤ (run ⟨great, []⟩ l).1.keys.length ∧ (run ⟨small, []⟩ l).1.keys = (run ⟨great, []⟩ l).1.keys.take (run ⟨small, []⟩ l).1.keys.length := by
  obtain ⟨a1, a2, a3⟩ := run_ok ha
  obtain ⟨b1, b2, b3⟩ := run_ok hb
  rw [a3, b3]
  obtain ⟨h1, h2⟩ := inclusion (l := l) (a := ⟨small, []⟩) (b := ⟨great, []⟩) (n := 0) (m := 0) (ok_of a1).room.1 hs (by simp) (Int.le_refl 0)
  refine ⟨h1, ?_, ?_⟩
  · rw [h2]; simp; omega
  · have e : (Lru.runGo ⟨small, []⟩ 0 l).1.keys.length = min small.toNat (Lru.runGo ⟨great, []⟩ 0 l).1.keys.length := by rw [h2, List.length_take]
    rw [e, take_min]; exact h2
/-! ### Recent -/
theorem from_ {c : DCache} {l : List Int} (h : runErr c l = 0) {x : Int} (hx : x ∈ (run c l).1.keys) : x ∈ c.keys ∨ x ∈ l := by
  obtain ⟨_, _, e⟩ := run_ok h
  rw [e] at hx; exact runGo_keys x hx
theorem from_no {c : DCache} {l : List Int} {i : Nat} (h : runErr c l = 0) (hi : i < (run c l).1.keys.length) (h1 : Ref.hasInt c.keys (run c l).1.keys[i] = false) (h2 : Ref.hasInt l (run c l).1.keys[i] = false) : False := by
  rcases from_ h (List.getElem_mem hi) with g | g
  · simp [Ref.hasInt] at h1; exact h1 g
  · simp [Ref.hasInt] at h2; exact h2 g
theorem run_nil {c : DCache} {l : List Int} (h : runErr c l = 0) (hl : l.length = 0) : (run c l).1 = c := by
  obtain ⟨_, _, e⟩ := run_ok h
  rw [e, List.length_eq_zero_iff.1 hl]; rfl
theorem recent {c : DCache} {l : List Int} {j : Nat} (h : runErr c l = 0) (hj : j + 1 = l.length) :
    accessErr (run c l).1 (l[j]'(by omega)) = 0 ∧ access (run c l).1 (l[j]'(by omega)) = ((run c l).1, true, -1) ∧ sizeErr (run c l).1 1 = 0 ∧ (resize (run c l).1 1).1.keys = [l[j]'(by omega)] ∧ (resize (run c l).1 1).2.length + 1 = (run c l).1.keys.length := by
  have ho := run_oks h
  have hc := check_ok.2 ho
  obtain ⟨a1, a2, a3⟩ := run_ok h
  have h0 : l ≠ [] := by rintro rfl; simp at hj
  obtain ⟨r, hr⟩ := runGo_last (c := c) (n := 0) h0 (ok_of a1).room.1
  have hl : l.getLast h0 = l[j]'(by omega) := by rw [List.getLast_eq_getElem]; congr 1; omega
  rw [hl, ← a3] at hr
  have hk : okKey (l[j]'(by omega)) = true := (trace_ok.1 a2).2 _ (List.getElem_mem _)
  have e1 : accessErr (run c l).1 (l[j]'(by omega)) = 0 := by unfold accessErr; rw [if_pos hc, if_pos hk]
  obtain ⟨s1, s2⟩ := size3 (c := (run c l).1) (room := 1) hc (by rfl)
  refine ⟨e1, ?_, s2, ?_, ?_⟩
  · rw [access, if_pos e1]; exact touch_first ho hr
  · rw [s1, hr]; rfl
  · rw [s1, hr]; simp
end Go.Sx.Lru
