/- Segmented caches: access and run, the loops of the reference, the laws. -/
import Derived.Test.YtkndekkacimekaaSgPure
import Derived.Test.YtkndekkacimekaaLrLaw2
import Derived.Test.YtkndekkacimekaaSx22
import Derived.Test.YtkndekkacimekaaExLaw
namespace Go.Sx.Seg
/-! ### access and run -/
theorem acc_cases (c : DHalls) (key : Int) : (check c ≠ 0 ∧ access c key = (zero, false, []) ∧ accessErr c key = check c) ∨ (check c = 0 ∧ Lru.okKey key = false ∧ access c key = (zero, false, []) ∧ accessErr c key = 3) ∨ (check c = 0 ∧ Lru.okKey key = true ∧ access c key = touch c key ∧ accessErr c key = 0) := by
  by_cases hc : check c = 0
  · cases hr : Lru.okKey key
    · have e : accessErr c key = 3 := by unfold accessErr; rw [if_pos hc, if_neg (by simp [hr])]
      exact .inr (.inl ⟨hc, rfl, by unfold access; rw [e]; rfl, e⟩)
    · have e : accessErr c key = 0 := by unfold accessErr; rw [if_pos hc, if_pos hr]
      exact .inr (.inr ⟨hc, rfl, by unfold access; rw [if_pos e], e⟩)
  · have e : accessErr c key = check c := by unfold accessErr; rw [if_neg hc]
    exact .inl ⟨hc, by unfold access; rw [e, if_neg hc], e⟩
theorem acc1 {c : DHalls} {key : Int} (e : check c ≠ 0) : access c key = (zero, false, []) ∧ accessErr c key = check c := by
  rcases acc_cases c key with ⟨_, b⟩ | ⟨a, _⟩ | ⟨a, _⟩
  · exact b
  · exact absurd a e
  · exact absurd a e
theorem acc2 {c : DHalls} {key : Int} (e : check c = 0 ∧ Lru.okKey key = false) : access c key = (zero, false, []) ∧ accessErr c key = 3 := by
  rcases acc_cases c key with ⟨a, _⟩ | ⟨_, _, b⟩ | ⟨_, b, _⟩
  · exact absurd e.1 a
  · exact b
  · rw [e.2] at b; cases b
theorem acc3 {c : DHalls} {key : Int} (e2 : ¬ check c = 0 ∨ Lru.okKey key = true) (e : check c = 0) : access c key = touch c key ∧ accessErr c key = 0 := by
  rcases acc_cases c key with ⟨a, _⟩ | ⟨_, b, _⟩ | ⟨_, _, b⟩
  · exact absurd e a
  · rcases e2 with e2 | e2
    · exact absurd e e2
    · rw [e2] at b; cases b
  · exact b
theorem acc_bad {c : DHalls} {key : Int} (e : accessErr c key ≠ 0) : access c key = (zero, false, []) := if_neg e
theorem acc_ok {c : DHalls} {key : Int} (e : accessErr c key = 0) : check c = 0 ∧ Lru.okKey key = true ∧ access c key = touch c key := by
  rcases acc_cases c key with ⟨a, b, d⟩ | ⟨a, a2, b, d⟩ | ⟨a, a2, b, d⟩
  · exact absurd (d ▸ e) a
  · rw [d] at e; cases e
  · exact ⟨a, a2, b⟩
theorem run_cases (c : DHalls) (l : List Int) : (check c ≠ 0 ∧ run c l = (zero, 0) ∧ runErr c l = check c) ∨ (check c = 0 ∧ Lru.trace l ≠ 0 ∧ run c l = (zero, 0) ∧ runErr c l = Lru.trace l) ∨ (check c = 0 ∧ Lru.trace l = 0 ∧ run c l = runGo c 0 l ∧ runErr c l = 0) := by
  by_cases h : check c = 0
  · have e : runErr c l = Lru.trace l := by unfold runErr; rw [if_pos h]
    by_cases h2 : Lru.trace l = 0
    · exact .inr (.inr ⟨h, h2, by unfold run; rw [if_pos (e.trans h2)], e.trans h2⟩)
    · exact .inr (.inl ⟨h, h2, by unfold run; rw [if_neg (by rw [e]; exact h2)], e⟩)
  · have e : runErr c l = check c := by unfold runErr; rw [if_neg h]
    exact .inl ⟨h, by unfold run; rw [if_neg (by rw [e]; exact h)], e⟩
theorem run1 {c : DHalls} {l : List Int} (e : check c ≠ 0) : run c l = (zero, 0) ∧ runErr c l = check c := by
  rcases run_cases c l with ⟨_, b⟩ | ⟨a, _⟩ | ⟨a, _⟩
  · exact b
  · exact absurd a e
  · exact absurd a e
theorem run2 {c : DHalls} {l : List Int} (e : check c = 0) (e2 : Lru.trace l ≠ 0) : run c l = (zero, 0) ∧ runErr c l = Lru.trace l := by
  rcases run_cases c l with ⟨a, _⟩ | ⟨_, _, b⟩ | ⟨_, a, _⟩
  · exact absurd e a
  · exact b
  · exact absurd a e2
theorem run3 {c : DHalls} {l : List Int} (e : check c = 0) (e2 : Lru.trace l = 0) : run c l = runGo c 0 l ∧ runErr c l = 0 := by
  rcases run_cases c l with ⟨a, _⟩ | ⟨_, a, _⟩ | ⟨_, _, b⟩
  · exact absurd e a
  · exact absurd e2 a
  · exact b
theorem run_bad {c : DHalls} {l : List Int} (e : runErr c l ≠ 0) : run c l = (zero, 0) := if_neg e
theorem run_ok {c : DHalls} {l : List Int} (e : runErr c l = 0) : check c = 0 ∧ Lru.trace l = 0 ∧ run c l = runGo c 0 l := by
  rcases run_cases c l with ⟨a, b, d⟩ | ⟨a, a2, b, d⟩ | ⟨a, a2, b, d⟩
  · exact absurd (d ▸ e) a
  · exact absurd (d ▸ e) a2
  · exact ⟨a, a2, b⟩
structure RInv (c cc : DHalls) (l : List Int) (n : Int) (k : Nat) : Prop where
  ok : Ok cc
  key : ∀ x ∈ l, Lru.okKey x = true
  n0 : 0 ≤ n
  n1 : n ≤ (k : Int)
  le : k ≤ l.length
  go : runGo cc n (l.drop k) = runGo c 0 l
theorem RInv.start {c : DHalls} {l : List Int} (h : Ok c) (hk : ∀ x ∈ l, Lru.okKey x = true) : RInv c c l 0 0 := ⟨h, hk, Int.le_refl _, Int.le_refl _, Nat.zero_le _, rfl⟩
theorem RInv.start' {c : DHalls} {l : List Int} (h : check c = 0) (hk : Lru.trace l = 0) : RInv c c l 0 0 := RInv.start (ok_of h) (Lru.trace_ok.1 hk).2
theorem RInv.hit {c cc : DHalls} {l : List Int} {n : Int} {k : Nat} (h : RInv c cc l n k) (hk : k < l.length) (ht : (Seg.touch cc l[k]).2.1 = true) : RInv c (Seg.touch cc l[k]).1 l (n + 1) (k + 1) := by
  obtain ⟨g1, g0, g2, g3, g4, g5⟩ := h
  rw [List.drop_eq_getElem_cons hk, runGo, if_pos ht] at g5
  exact ⟨g1.touch (g0 _ (List.getElem_mem hk)), g0, by omega, by omega, hk, g5⟩
theorem RInv.miss {c cc : DHalls} {l : List Int} {n : Int} {k : Nat} (h : RInv c cc l n k) (hk : k < l.length) (ht : (Seg.touch cc l[k]).2.1 = false) : RInv c (Seg.touch cc l[k]).1 l n (k + 1) := by
  obtain ⟨g1, g0, g2, g3, g4, g5⟩ := h
  rw [List.drop_eq_getElem_cons hk, runGo, if_neg (by simp [ht])] at g5
  exact ⟨g1.touch (g0 _ (List.getElem_mem hk)), g0, by omega, by omega, hk, g5⟩
theorem RInv.done {c cc : DHalls} {l : List Int} {n : Int} {k : Nat} (h : RInv c cc l n k) (hk : (l.length : Int) ≤ k) : runGo c 0 l = (cc, n) := by
  rw [← h.go, List.drop_of_length_le (by omega)]; rfl
theorem Ok.runGo {l : List Int} : ∀ {c : DHalls} {n : Int}, Ok c → (∀ x ∈ l, Lru.okKey x = true) → Ok (runGo c n l).1 := by
  induction l with
  | nil => intro c n h _; exact h
  | cons k l ih => intro c n h hk; exact ih (h.touch (hk k (by simp))) (fun x hx => hk x (by simp [hx]))
theorem runGo_append {l m : List Int} : ∀ {c : DHalls} {n : Int}, Seg.runGo c n (l ++ m) = Seg.runGo (Seg.runGo c n l).1 (Seg.runGo c n l).2 m := by
  induction l with
  | nil => intro c n; rfl
  | cons k l ih => intro c n; rw [List.cons_append, Seg.runGo, ih]; rfl
theorem runGo_add {l : List Int} : ∀ {c : DHalls} {n : Int}, Seg.runGo c n l = ((Seg.runGo c 0 l).1, n + (Seg.runGo c 0 l).2) := by
  induction l with
  | nil => intro c n; simp [Seg.runGo]
  | cons k l ih =>
    intro c n
    rw [Seg.runGo, ih, Seg.runGo, ih (n := if (Seg.touch c k).2.1 = true then 0 + 1 else 0)]
    split <;> simp <;> omega
theorem run_n (l : List Int) : ∀ (c : DHalls), 0 ≤ (Seg.runGo c 0 l).2 ∧ (Seg.runGo c 0 l).2 ≤ l.length := by
  induction l with
  | nil => intro c; simp [Seg.runGo]
  | cons k l ih =>
    intro c
    rw [Seg.runGo, runGo_add]
    have := ih (touch c k).1
    split <;> simp <;> omega
theorem run_small {c : DHalls} {l : List Int} (h : runErr c l = 0) : l.length ≤ 200 := (Lru.trace_ok.1 (run_ok h).2.1).1
theorem run_oks {c : DHalls} {l : List Int} (h : runErr c l = 0) : Ok (run c l).1 := by
  obtain ⟨a, b, e⟩ := run_ok h
  rw [e]; exact (ok_of a).runGo (Lru.trace_ok.1 b).2
theorem parts_err {c : DHalls} {l m : List Int} (h : runErr c l = 0) : runErr (run c l).1 m = runErr c (l ++ m) ∨ runErr c (l ++ m) = 2 := by
  have ho := run_oks h
  obtain ⟨a1, a2, a3⟩ := run_ok h
  obtain ⟨t1, t2⟩ := Lru.trace_ok.1 a2
  have e1 : runErr (run c l).1 m = Lru.trace m := by unfold runErr; rw [if_pos (check_ok.2 ho)]
  have e2 : runErr c (l ++ m) = Lru.trace (l ++ m) := by unfold runErr; rw [if_pos a1]
  rw [e1, e2]
  by_cases g : 200 < (l ++ m).length
  · right; unfold Lru.trace; rw [if_pos g]
  · left
    have g2 : ¬ 200 < m.length := by rw [List.length_append] at g; omega
    have g3 : (l ++ m).any (fun k => !Lru.okKey k) = m.any (fun k => !Lru.okKey k) := by
      have : l.any (fun k => !Lru.okKey k) = false := List.any_eq_false.2 fun k hk => by simp [t2 k hk]
      rw [List.any_append, this, Bool.false_or]
    unfold Lru.trace; rw [if_neg g, if_neg g2, g3]
theorem parts_ok {c : DHalls} {l m : List Int} (h : runErr c l = 0) (h2 : runErr (run c l).1 m = 0) (h3 : runErr c (l ++ m) = 0) :
    (run (run c l).1 m).1 = (run c (l ++ m)).1 ∧ (run c (l ++ m)).2 = (run c l).2 + (run (run c l).1 m).2 ∧ 0 ≤ (run c l).2 ∧ (run c l).2 ≤ 200 ∧ 0 ≤ (run (run c l).1 m).2 ∧ (run (run c l).1 m).2 ≤ 200 := by
  obtain ⟨a1, a2, a3⟩ := run_ok h
  obtain ⟨b1, b2, b3⟩ := run_ok h2
  obtain ⟨c1, c2, c3⟩ := run_ok h3
  have n1 := run_n l c
  have n2 := run_n m (run c l).1
  have t1 := (Lru.trace_ok.1 a2).1
  have t2 := (Lru.trace_ok.1 b2).1
  have e := runGo_append (l := l) (m := m) (c := c) (n := 0)
  rw [runGo_add (l := m)] at e
  rw [b3, c3, e, a3] at *
  exact ⟨rfl, rfl, by omega, by omega, by omega, by omega⟩
theorem parts_bool2 {c : DHalls} {l m : List Int} (h : runErr c l = 0) : (runErr (run c l).1 m == runErr c ([] ++ l ++ m) || runErr c ([] ++ l ++ m) == 2) = true := by
  rcases parts_err (l := l) (m := m) h with e | e
  · simp only [List.nil_append]; simp [e]
  · simp only [List.nil_append]; simp [e]

/-! ### the check -/
theorem chk1 {h : DHalls} (e : Lru.okRoom h.first = false ∨ Lru.okRoom h.second = false) : 3 = check h := by unfold check; rw [if_pos e]
theorem chk2 {h : DHalls} (e : Lru.okRoom h.first = true ∧ Lru.okRoom h.second = true) (e2 : h.first < (h.young.length : Int) ∨ h.second < (h.old.length : Int)) : 2 = check h := by unfold check; rw [if_neg (by simp [e]), if_pos e2]
theorem chk3 {h : DHalls} (e : Lru.okRoom h.first = true ∧ Lru.okRoom h.second = true) (e2 : (h.young.length : Int) ≤ h.first ∧ (h.old.length : Int) ≤ h.second) : Lru.keys (h.young ++ h.old) = check h := by unfold check; rw [if_neg (by simp [e]), if_neg (by omega)]
theorem flat1 {c : DHalls} (h : check c ≠ 0) : flat c = [] := if_neg h
theorem flat2 {c : DHalls} (h : check c = 0) : flat c = c.young ++ c.old := if_pos h
theorem ins0 (l : List Int) (k : Int) : l.take (0 : Int).toNat ++ [k] ++ l.drop (0 : Int).toNat = k :: l := rfl
theorem min_len (l : List Int) (k room : Int) : (min ((l.take (0 : Int).toNat ++ [k] ++ l.drop (0 : Int).toNat).length : Int) room).toNat = min room.toNat (k :: l).length := by
  rw [ins0]; omega
theorem cut_a (l : List Int) (k room : Int) : (k :: l).take (min room.toNat (k :: l).length) = (k :: l).take room.toNat := Lru.take_min _ _
theorem cut_b (l : List Int) (k room : Int) : (k :: l).drop (min room.toNat (k :: l).length) = (k :: l).drop room.toNat := Lru.drop_min _ _
/-- a touch, case by case -/
theorem touch_old {b : DHalls} {key : Int} (h : key ∈ b.old) (hn : (b.young ++ b.old).Nodup) : touch b key = (⟨b.first, b.second, b.young, (key :: b.old.erase key).take b.second.toNat⟩, true, (key :: b.old.erase key).drop b.second.toNat) := by
  have : key ∉ b.young := fun h2 => (List.nodup_append.1 hn).2.2 key h2 key h rfl
  unfold touch; rw [if_pos (.inl h), List.erase_of_not_mem this]
theorem touch_young {b : DHalls} {key : Int} (h0 : key ∉ b.old) (h : key ∈ b.young) : touch b key = (⟨b.first, b.second, b.young.erase key, (key :: b.old).take b.second.toNat⟩, true, (key :: b.old).drop b.second.toNat) := by
  unfold touch; rw [if_pos (.inr h), List.erase_of_not_mem h0]
theorem touch_new {b : DHalls} {key : Int} (h0 : key ∉ b.old) (h : key ∉ b.young) : touch b key = (⟨b.first, b.second, (key :: b.young).take b.first.toNat, b.old⟩, false, (key :: b.young).drop b.first.toNat) := by
  unfold touch; rw [if_neg (by simp [h0, h])]
/-! ### butKey -/
def pre (first : Int) : List Int := if 0 ≤ first then [first] else []
def but (l : List Int) (key first : Int) : List Int := pre first ++ l.filter fun x => !(x == key)
structure BI (l : List Int) (key first room : Int) (out gone : List Int) (i : Nat) : Prop where
  le : i ≤ l.length
  out : out = (but (l.take i) key first).take room.toNat
  gone : gone = (but (l.take i) key first).drop room.toNat
theorem BI.start {l : List Int} {key first room : Int} (hr : 1 ≤ room) : BI l key first room (pre first) [] 0 := by
  have h : (pre first).length ≤ 1 := by unfold pre; split <;> simp
  refine ⟨Nat.zero_le _, ?_, ?_⟩
  · simp only [but, List.take_zero, List.filter_nil, List.append_nil]; rw [List.take_of_length_le (by omega)]
  · simp only [but, List.take_zero, List.filter_nil, List.append_nil]; rw [List.drop_of_length_le (by omega)]
theorem BI.start1 {l : List Int} {key first room : Int} (hr : 1 ≤ room) (h : 0 ≤ first) : BI l key first room [first] [] 0 := by
  have := BI.start (l := l) (key := key) (first := first) hr; rwa [show pre first = [first] from if_pos h] at this
theorem BI.start2 {l : List Int} {key first room : Int} (hr : 1 ≤ room) (h : first < 0) : BI l key first room [] [] 0 := by
  have := BI.start (l := l) (key := key) (first := first) hr; rwa [show pre first = [] from if_neg (by omega)] at this
theorem but_skip {l : List Int} {key first : Int} {i : Nat} (hi : i < l.length) (hx : l[i] = key) : but (l.take (i + 1)) key first = but (l.take i) key first := by
  unfold but; rw [List.take_succ_eq_append_getElem hi, List.filter_append]; simp [hx]
theorem but_add {l : List Int} {key first : Int} {i : Nat} (hi : i < l.length) (hx : l[i] ≠ key) : but (l.take (i + 1)) key first = but (l.take i) key first ++ [l[i]] := by
  unfold but; rw [List.take_succ_eq_append_getElem hi, List.filter_append]; simp [hx]
theorem BI.skip {l out gone : List Int} {key first room : Int} {i : Nat} (h : BI l key first room out gone i) (hi : i < l.length) (hx : l[i] = key) : BI l key first room out gone (i + 1) := ⟨by omega, by rw [but_skip hi hx]; exact h.out, by rw [but_skip hi hx]; exact h.gone⟩
theorem BI.add {l out gone : List Int} {key first room : Int} {i : Nat} (h : BI l key first room out gone i) (hi : i < l.length) (hx : l[i] ≠ key) (hl : (out.length : Int) < room) : BI l key first room (out ++ [l[i]]) gone (i + 1) := by
  have hb : (but (l.take i) key first).length < room.toNat := by have h1 := congrArg List.length h.out; rw [List.length_take] at h1; omega
  refine ⟨by omega, ?_, ?_⟩
  · rw [but_add hi hx, h.out, List.take_of_length_le (l := but (l.take i) key first) (by omega), List.take_of_length_le (l := but (l.take i) key first ++ [l[i]]) (by rw [List.length_append, List.length_singleton]; omega)]
  · rw [but_add hi hx, h.gone, List.drop_of_length_le (l := but (l.take i) key first) (by omega), List.drop_of_length_le (l := but (l.take i) key first ++ [l[i]]) (by rw [List.length_append, List.length_singleton]; omega)]
theorem BI.drop {l out gone : List Int} {key first room : Int} {i : Nat} (h : BI l key first room out gone i) (hi : i < l.length) (hx : l[i] ≠ key) (hr : 1 ≤ room) (hl : room ≤ (out.length : Int)) : BI l key first room out (gone ++ [l[i]]) (i + 1) := by
  have hb : room.toNat ≤ (but (l.take i) key first).length := by have h1 := congrArg List.length h.out; rw [List.length_take] at h1; omega
  refine ⟨by omega, ?_, ?_⟩
  · rw [but_add hi hx, h.out, List.take_append_of_le_length hb]
  · rw [but_add hi hx, h.gone, List.drop_append_of_le_length hb]
theorem BI.len {l out gone : List Int} {key first room : Int} {i : Nat} (h : BI l key first room out gone i) : out.length + gone.length ≤ i + 1 := by
  have h1 := congrArg List.length h.out; have h2 := congrArg List.length h.gone
  rw [List.length_take] at h1; rw [List.length_drop] at h2
  have h3 : (but (l.take i) key first).length ≤ i + 1 := by
    unfold but; rw [List.length_append]
    have h4 := List.length_filter_le (fun x => !(x == key)) (l.take i); rw [List.length_take] at h4
    have h5 : (pre first).length ≤ 1 := by unfold pre; split <;> simp
    omega
  omega
theorem BI.done {l out gone : List Int} {key first room : Int} {i : Nat} (h : BI l key first room out gone i) (hi : l.length ≤ i) : out = (but l key first).take room.toNat ∧ gone = (but l key first).drop room.toNat := by
  have := h.out; have := h.gone; rw [List.take_of_length_le hi] at *; exact ⟨by assumption, by assumption⟩
theorem but_is {l : List Int} (hn : l.Nodup) {key first : Int} : but l key first = pre first ++ l.erase key := by unfold but; rw [Lru.filter_erase hn]
theorem Ok.halves {b : DHalls} (h : Ok b) : b.young.Nodup ∧ b.old.Nodup := ⟨(List.nodup_append.1 h.once).1, (List.nodup_append.1 h.once).2.1⟩
theorem ref_hit {b : DHalls} {key : Int} (h : Ok b) (hk : Lru.okKey key = true) (hm : Ref.hasInt b.young key = true ∨ Ref.hasInt b.old key = true) : touch b key = (⟨b.first, b.second, (but b.young key (-1)).take b.first.toNat, (but b.old key key).take b.second.toNat⟩, true, (but b.old key key).drop b.second.toNat) := by
  have hm2 : key ∈ b.old ∨ key ∈ b.young := by simpa [Ref.hasInt, or_comm] using hm
  have h0 := (Lru.key_ok hk).1
  have e := List.length_erase_le (a := key) (l := b.young); have h1 := h.len1; have h2 := h.first
  unfold touch; rw [if_pos hm2, but_is h.halves.1, but_is h.halves.2]
  simp only [pre, if_pos h0, if_neg (show ¬ (0 : Int) ≤ -1 by decide), List.nil_append, List.singleton_append]
  rw [List.take_of_length_le (l := b.young.erase key) (by omega)]
theorem ref_miss {b : DHalls} {key : Int} (hk : Lru.okKey key = true) (hm : Ref.hasInt b.young key = false ∧ Ref.hasInt b.old key = false) (h : Ok b) : touch b key = (⟨b.first, b.second, (but b.young key key).take b.first.toNat, b.old⟩, false, (but b.young key key).drop b.first.toNat) := by
  have hm2 : key ∉ b.old ∧ key ∉ b.young := by simpa [Ref.hasInt, and_comm] using hm
  have h0 := (Lru.key_ok hk).1
  rw [touch_new hm2.1 hm2.2, but_is h.halves.1, List.erase_of_not_mem hm2.2]
  simp only [pre, if_pos h0, List.singleton_append]
theorem same_halls {a b : DHalls} : a = b ↔ a.first = b.first ∧ a.second = b.second ∧ a.young = b.young ∧ a.old = b.old := by
  cases a; cases b; simp
/-! ### what the laws say -/
theorem runGo_ge {l : List Int} : ∀ {c : DHalls} {n : Int}, n ≤ (Seg.runGo c n l).2 := by
  induction l with
  | nil => intro c n; exact Int.le_refl _
  | cons k l ih =>
    intro c n; rw [Seg.runGo]
    have := ih (c := (touch c k).1) (n := if (touch c k).2.1 = true then n + 1 else n)
    split at this <;> rename_i h <;> simp only [h, if_true, if_false, Bool.false_eq_true] <;> omega
theorem scan {l : List Int} : ∀ {c : DHalls} {n : Int}, (Seg.runGo c n l).2 ≤ n → (Seg.runGo c n l).1.old = c.old := by
  induction l with
  | nil => intro c n _; rfl
  | cons k l ih =>
    intro c n h
    rw [Seg.runGo] at h ⊢
    cases ht : (touch c k).2.1
    · rw [ht] at h
      simp only [Bool.false_eq_true, if_false] at h ⊢
      rw [ih h]
      unfold touch at ht ⊢
      split at ht
      · cases ht
      · rename_i h2; rw [if_neg h2]
    · rw [ht] at h
      simp only [if_true] at h
      have := runGo_ge (l := l) (c := (touch c k).1) (n := n + 1); omega
theorem runGo_first {l : List Int} : ∀ {c : DHalls} {n : Int}, (Seg.runGo c n l).1.first = c.first := by
  induction l with
  | nil => intro c n; rfl
  | cons k l ih => intro c n; rw [Seg.runGo, ih]; unfold touch; split <;> rfl
theorem scan_law {h : DHalls} {l : List Int} (e : runErr h l = 0) (e2 : (run h l).2 ≤ 0) : (run h l).1.old = h.old ∧ ((run h l).1.young.length : Int) ≤ h.first ∧ check (run h l).1 = 0 := by
  obtain ⟨a1, a2, a3⟩ := run_ok e
  have ho := run_oks e
  refine ⟨?_, ?_, check_ok.2 ho⟩
  · rw [a3] at e2 ⊢; exact scan e2
  · have := ho.len1; rw [a3] at this ⊢; rwa [runGo_first] at this
theorem run_bad0 {h : DHalls} {l : List Int} (e : runErr h l ≠ 0) : run h l = (zero, 0) := run_bad e
/-- all keys that were there, and the one that is touched: cached, or gone -/
theorem kept {b : DHalls} (h : Ok b) {key : Int} : ∃ N : List Int, N.Nodup ∧ (((touch b key).1.young ++ (touch b key).1.old) ++ (touch b key).2.2).Perm N ∧ (∀ x ∈ b.young ++ b.old, x ∈ N) ∧ (N.length : Int) = (b.young ++ b.old).length + (if (touch b key).2.1 then 0 else 1) ∧ key ∈ (touch b key).1.young ++ (touch b key).1.old ∧ (touch b key).2.1 = decide (key ∈ b.young ++ b.old) ∧ (touch b key).2.2.length ≤ 1 := by
  have hn := h.once
  have hs := h.second; have hf := h.first; have hl1 := h.len1; have hl2 := h.len2
  obtain ⟨s, es⟩ : ∃ s, b.second.toNat = s + 1 := ⟨b.second.toNat - 1, by omega⟩
  obtain ⟨f, ef⟩ : ∃ f, b.first.toNat = f + 1 := ⟨b.first.toNat - 1, by omega⟩
  by_cases ho : key ∈ b.old
  · rw [touch_old ho hn]
    have hp := List.perm_cons_erase ho
    refine ⟨b.young ++ b.old, hn, ?_, fun x hx => hx, by simp, ?_, by simp [ho], ?_⟩
    · simp only [List.append_assoc, List.take_append_drop]; exact List.Perm.append_left _ hp.symm
    · simp only; rw [es, List.take_succ_cons]; simp
    · have := List.length_erase_le (a := key) (l := b.old); simp only [List.length_drop, List.length_cons]; omega
  · by_cases hy : key ∈ b.young
    · rw [touch_young ho hy]
      have hp := List.perm_cons_erase hy
      refine ⟨b.young ++ b.old, hn, ?_, fun x hx => hx, by simp, ?_, by simp [hy], ?_⟩
      · simp only [List.append_assoc, List.take_append_drop]
        exact (List.perm_middle.trans (List.Perm.append_right b.old hp.symm : (key :: (b.young.erase key) ++ b.old).Perm _))
      · simp only; rw [es, List.take_succ_cons]; simp
      · simp only [List.length_drop, List.length_cons]; omega
    · rw [touch_new ho hy]
      refine ⟨key :: (b.young ++ b.old), List.nodup_cons.2 ⟨by simp [ho, hy], hn⟩, ?_, fun x hx => by simp at hx ⊢; right; exact hx, by simp, ?_, by simp [ho, hy], ?_⟩
      · simp only
        have h1 : (((key :: b.young).take b.first.toNat ++ b.old) ++ (key :: b.young).drop b.first.toNat).Perm (((key :: b.young).take b.first.toNat ++ (key :: b.young).drop b.first.toNat) ++ b.old) := by
          rw [List.append_assoc, List.append_assoc]; exact List.Perm.append_left _ List.perm_append_comm
        rw [List.take_append_drop] at h1
        exact h1
      · simp only; rw [ef, List.take_succ_cons]; simp
      · simp only [List.length_drop, List.length_cons]; omega
theorem keeps_law {h : DHalls} {key : Int} (e : accessErr h key = 0) : check h = 0 ∧ check (access h key).1 = 0 ∧ (access h key).2.2.length ≤ 1 ∧ (access h key).2.1 = Ref.hasInt (flat h) key ∧ Ref.hasInt (flat (access h key).1) key = true ∧
    (∀ x ∈ flat h, Ref.hasInt (flat (access h key).1) x ≠ Ref.hasInt (access h key).2.2 x) ∧ ((flat (access h key).1).length : Int) = (flat h).length + (if (access h key).2.1 then 0 else 1) - (access h key).2.2.length := by
  obtain ⟨h1, h2, h3⟩ := acc_ok e
  have ho := ok_of h1
  have ho2 := ho.touch h2
  obtain ⟨N, n1, n2, n3, n4, n5, n6, n7⟩ := kept ho (key := key)
  rw [h3, flat2 h1, flat2 (check_ok.2 ho2)]
  have n8 := n2.length_eq
  rw [List.length_append] at n8
  refine ⟨h1, check_ok.2 ho2, n7, n6, by simpa [Ref.hasInt] using n5, fun x hx hb => ?_, by rw [← n4] ; omega⟩
  have hx2 := (n2.mem_iff (a := x)).2 (n3 x hx)
  have hnd := (List.nodup_append.1 (n2.nodup_iff.2 n1)).2.2
  simp only [Ref.hasInt] at hb
  rcases List.mem_append.1 hx2 with h9 | h9
  · rw [decide_eq_true h9] at hb
    exact hnd x h9 x (of_decide_eq_true hb.symm) rfl
  · rw [decide_eq_true h9] at hb
    exact hnd x (of_decide_eq_true hb) x h9 rfl
theorem keeps_bad {h : DHalls} {key : Int} (e : accessErr h key ≠ 0) : access h key = (zero, false, []) := acc_bad e
theorem twice {b : DHalls} (h : Ok b) {key : Int} (hk : Lru.okKey key = true) : ∃ t, (Seg.runGo b 0 [key, key]).1.old = key :: t ∧ key ∉ (Seg.runGo b 0 [key, key]).1.young := by
  have h1 := h.touch hk
  obtain ⟨N, _, _, _, _, n5, _⟩ := kept h (key := key)
  have hs := h1.second
  obtain ⟨s, es⟩ : ∃ s, (touch b key).1.second.toNat = s + 1 := ⟨(touch b key).1.second.toNat - 1, by omega⟩
  have e : (Seg.runGo b 0 [key, key]).1 = (touch (touch b key).1 key).1 := rfl
  rw [e]
  rcases List.mem_append.1 n5 with hy | ho
  · have hno : key ∉ (touch b key).1.old := fun h9 => (List.nodup_append.1 h1.once).2.2 key hy key h9 rfl
    rw [touch_young hno hy]
    refine ⟨_, by simp only; rw [es, List.take_succ_cons], ?_⟩
    exact fun h9 => absurd rfl (((List.nodup_append.1 h1.once).1.mem_erase_iff).1 h9).1
  · rw [touch_old ho h1.once]
    refine ⟨_, by simp only; rw [es, List.take_succ_cons], ?_⟩
    exact fun h9 => (List.nodup_append.1 h1.once).2.2 key h9 key ho rfl
theorem twice_law {b : DHalls} {key : Int} (e : runErr b [key, key] = 0) : 0 < (run b [key, key]).1.old.length ∧ (run b [key, key]).1.old.getD 0 default = key ∧ Ref.hasInt (run b [key, key]).1.young key = false := by
  obtain ⟨a1, a2, a3⟩ := run_ok e
  obtain ⟨t, h1, h2⟩ := twice (ok_of a1) ((Lru.trace_ok.1 a2).2 key (by simp))
  rw [a3]
  refine ⟨by rw [h1]; simp, by rw [h1]; rfl, by simpa [Ref.hasInt] using h2⟩
theorem parts_bool3 {c : DHalls} {l m : List Int} (h : runErr c l = 0) (h2 : runErr (run c l).1 m ≠ 0 ∨ runErr c (l ++ m) ≠ 0) : (runErr (run c l).1 m == runErr c (l ++ m) || runErr c (l ++ m) == 2) = true := by
  rcases parts_err (l := l) (m := m) h with e | e <;> simp [e]
theorem parts_end {b z c : DHalls} {n s e key : Int} (p1 : b = z) (p2 : n = s) (htw : e = 0 → 0 < c.old.length ∧ c.old.getD 0 default = key ∧ Ref.hasInt c.young key = false) :
    ((decide (b = z) && (n == s)) && ((e != 0) || ((decide ((0 : Int) < (c.old.length : Int)) && (c.old.getD 0 default == key)) && (!(Ref.hasInt c.young key))))) = true := by
  rw [decide_eq_true p1, beq_iff_eq.2 p2]
  by_cases h9 : e = 0
  · obtain ⟨w1, w2, w3⟩ := htw h9
    rw [w3, beq_iff_eq.2 w2, decide_eq_true (by omega : (0 : Int) < (c.old.length : Int))]; simp
  · rw [bne_iff_ne.2 h9]; rfl
end Go.Sx.Seg
