/- Timing wheels: steps of the walks. -/
import Derived.Test.YtnmbkopnopaigaaWhW1M3
import Derived.Test.YtnmbkopnopaigaaHaPureM5
import Derived.Test.YtnmbkopnopaigaaWhF
import Derived.Test.YtnmbkopnopaigaaWhPureM3
import Derived.Test.YtnmbkopnopaigaaSx24M4
namespace Go.Sx.Wh
/-! ### the timers, one by one -/
theorem slot_nat (LL : List (List DTimer)) (k : Nat) : slotAt LL k = (((flat LL).getD k (0, default)).1 : Int) := rfl
theorem drop_at {LL : List (List DTimer)} {k : Nat} (h : k < (timers LL).length) : (flat LL).drop k = ((flat LL).getD k (0, default)) :: (flat LL).drop (k + 1) := by
  rw [← flat_len] at h
  rw [getD_of h, List.drop_eq_getElem_cons h]
theorem tim_get {LL : List (List DTimer)} {k : Nat} (h : k < (timers LL).length) : timAt LL k = (timers LL).getD k default := by
  unfold timAt
  have h1 : k < (flat LL).length := by rw [flat_len]; exact h
  rw [getD_of h1, getD_of h]
  have := congrArg (·[k]?) (flat_snd LL)
  simp only [List.getElem?_map, List.getElem?_eq_getElem h1, List.getElem?_eq_getElem h, Option.map_some, Option.some.injEq] at this
  exact this
/-! ### Check -/
def CI (w : DWheel) (m : List (Int × Unit)) (sl l0 l1 : Int) (k : Nat) : Prop :=
  ∃ seen : List Int, checkGo w.now seen sl ⟨l0, l1⟩ ((flat w.slots).drop k) = checkGo w.now [] (-1) ⟨0, 0⟩ (flat w.slots) ∧ m.length = seen.length ∧ ∀ x, (AL.get m x).isSome = true ↔ x ∈ seen
theorem CI.start (w : DWheel) : CI w [] (-1) 0 0 0 := ⟨[], rfl, rfl, fun x => by simp [AL.get]⟩
theorem c_head {w : DWheel} (h1 : okTime w.now = true) (h2 : (w.slots.length : Int) = 48) : check w = checkGo w.now [] (-1) ⟨0, 0⟩ (flat w.slots) := by
  rw [check, if_neg (by simp [h1]), if_neg (by omega)]
theorem ch1 {w : DWheel} (h1 : okTime w.now = false) : 3 = check w := by rw [check, if_pos h1]
theorem ch2 {w : DWheel} (h1 : okTime w.now = true) (h2 : ¬ (w.slots.length : Int) = 48) : 1 = check w := by rw [check, if_neg (by simp [h1]), if_pos (by omega)]
section
variable {w : DWheel} {m : List (Int × Unit)} {sl l0 l1 : Int} {k : Nat}
theorem CI.right (h : CI w m sl l0 l1 k) (h1 : okTime w.now = true) (h2 : (w.slots.length : Int) = 48) (hk : k < (timers w.slots).length) (hb : Wh.right (timAt w.slots k) w.now = false) : 3 = check w := by
  obtain ⟨seen, e, _, _⟩ := h
  rw [c_head h1 h2, ← e, drop_at hk, checkGo]
  exact (if_pos hb).symm
theorem CI.place (h : CI w m sl l0 l1 k) (h1 : okTime w.now = true) (h2 : (w.slots.length : Int) = 48) (hk : k < (timers w.slots).length) (hr : Wh.right (timAt w.slots k) w.now = true) (hb : ¬ Wh.place (timAt w.slots k).due w.now = slotAt w.slots k ∨ (slotAt w.slots k = sl ∧ 0 ≤ order ⟨l0, l1⟩ (timAt w.slots k))) : 4 = check w := by
  obtain ⟨seen, e, _, _⟩ := h
  rw [c_head h1 h2, ← e, drop_at hk, checkGo]
  rw [if_neg (by show ¬ Wh.right (timAt w.slots k) w.now = false; simp [hr])]
  exact (if_pos hb).symm
theorem CI.twice (h : CI w m sl l0 l1 k) (h1 : okTime w.now = true) (h2 : (w.slots.length : Int) = 48) (hk : k < (timers w.slots).length) (hr : Wh.right (timAt w.slots k) w.now = true) (hp : Wh.place (timAt w.slots k).due w.now = slotAt w.slots k) (ho : ¬ slotAt w.slots k = sl ∨ order ⟨l0, l1⟩ (timAt w.slots k) < 0) (hb : (AL.get m (timAt w.slots k).id).isSome = true) : 6 = check w := by
  obtain ⟨seen, e, _, e2⟩ := h
  rw [c_head h1 h2, ← e, drop_at hk, checkGo]
  rw [if_neg (by show ¬ Wh.right (timAt w.slots k) w.now = false; simp [hr]), if_neg]
  · exact (if_pos ((e2 _).1 hb)).symm
  rintro (h9 | ⟨h9, h8⟩)
  · exact h9 hp
  · rcases ho with h7 | h7
    · exact h7 h9
    · have h8' : 0 ≤ order ⟨l0, l1⟩ (timAt w.slots k) := h8
      omega
theorem CI.next (h : CI w m sl l0 l1 k) (hk : k < (timers w.slots).length) (hr : Wh.right (timAt w.slots k) w.now = true) (hp : Wh.place (timAt w.slots k).due w.now = slotAt w.slots k) (ho : ¬ slotAt w.slots k = sl ∨ order ⟨l0, l1⟩ (timAt w.slots k) < 0) (hb : (AL.get m (timAt w.slots k).id).isSome = false) (u : Unit) : CI w (AL.set m (timAt w.slots k).id u) (slotAt w.slots k) (timAt w.slots k).id (timAt w.slots k).due (k + 1) := by
  obtain ⟨seen, e, e1, e2⟩ := h
  have hn : (timAt w.slots k).id ∉ seen := fun h9 => by have := (e2 _).2 h9; rw [hb] at this; cases this
  refine ⟨(timAt w.slots k).id :: seen, ?_, ?_, fun x => ?_⟩
  · rw [← e, drop_at hk]
    show _ = checkGo w.now seen sl ⟨l0, l1⟩ (((flat w.slots).getD k (0, default)) :: (flat w.slots).drop (k + 1))
    rw [checkGo.eq_2, if_neg (by show ¬ Wh.right (timAt w.slots k) w.now = false; simp [hr]), if_neg]
    · exact (if_neg hn).symm
    · rintro (h9 | ⟨h9, h8⟩)
      · exact h9 hp
      · rcases ho with h7 | h7
        · exact h7 h9
        · have h8' : 0 ≤ order ⟨l0, l1⟩ (timAt w.slots k) := h8
          omega
  · have hi : AL.idx m (timAt w.slots k).id 0 = none := by
      have h9 := AL.get_idx m (timAt w.slots k).id 0
      cases h8 : AL.idx m (timAt w.slots k).id 0 with
      | none => rfl
      | some z => rw [h8] at h9; rw [h9] at hb; simp at hb
    rw [set_none kInt (fun _ : Unit => Value.agg #[]) _ u m 0 hi, List.length_append, e1]; rfl
  · rw [AL.get_set]
    by_cases c : x = (timAt w.slots k).id
    · rw [if_pos c]; simp [c]
    · rw [if_neg c, e2, List.mem_cons]; simp [c]
theorem CI.many (h : CI w m sl l0 l1 (timers w.slots).length) (h1 : okTime w.now = true) (h2 : (w.slots.length : Int) = 48) (hb : 60 < (m.length : Int)) : 2 = check w := by
  obtain ⟨seen, e, e1, _⟩ := h
  rw [c_head h1 h2, ← e, List.drop_of_length_le (by rw [flat_len]; exact Nat.le_refl _), checkGo, if_pos (by omega)]
theorem CI.fine (h : CI w m sl l0 l1 (timers w.slots).length) (h1 : okTime w.now = true) (h2 : (w.slots.length : Int) = 48) (hb : (m.length : Int) ≤ 60) : 0 = check w := by
  obtain ⟨seen, e, e1, _⟩ := h
  rw [c_head h1 h2, ← e, List.drop_of_length_le (by rw [flat_len]; exact Nat.le_refl _), checkGo, if_neg (by omega)]
end
/-! ### find -/
theorem f_found {w : DWheel} {id : Int} {k : Nat} (hk : k < w.slots.length) (h : findGo id k (w.slots.drop k) = find w id) (hf : 0 ≤ idxF (fun x : DTimer => (x.id == id)) (w.slots.getD k [])) : ((k : Int), idxF (fun x : DTimer => (x.id == id)) (w.slots.getD k []), true) = find w id := by
  rw [← h, List.drop_eq_getElem_cons hk, findGo, ← getD_of (d := []) hk, if_pos hf]
theorem f_next {w : DWheel} {id : Int} {k : Nat} (hk : k < w.slots.length) (h : findGo id k (w.slots.drop k) = find w id) (hf : ¬ 0 ≤ idxF (fun x : DTimer => (x.id == id)) (w.slots.getD k [])) : findGo id (k + 1) (w.slots.drop (k + 1)) = find w id := by
  rw [← h, List.drop_eq_getElem_cons hk, findGo, ← getD_of (d := []) hk, if_neg hf]
theorem f_none {w : DWheel} {id : Int} {k : Nat} (hk : w.slots.length ≤ k) (h : findGo id k (w.slots.drop k) = find w id) : (0, 0, false) = find w id := by
  rw [← h, List.drop_of_length_le hk]; rfl
/-! ### New, Next -/
theorem nw1 {now : Int} (h : okTime now = false) : new now = ⟨0, []⟩ ∧ newErr now = 3 := by unfold new newErr; rw [h]; exact ⟨rfl, rfl⟩
theorem nw2 {now : Int} (h : okTime now = true) : new now = ⟨now, List.replicate 48 []⟩ ∧ newErr now = 0 := by unfold new newErr; rw [h]; exact ⟨rfl, rfl⟩
theorem nx1 {w : DWheel} (h : ¬ check w = 0) : 0 = next w ∧ check w = nextErr w := by
  have e : nextErr w = check w := if_pos h
  exact ⟨by rw [next, if_neg (by rw [e]; exact h)], e.symm⟩
theorem nx2 {w : DWheel} (h : check w = 0) (h2 : (timers w.slots).length = 0) : 0 = next w ∧ 5 = nextErr w := by
  have e : nextErr w = 5 := by rw [nextErr, if_neg (by simp [h]), if_pos h2]
  exact ⟨by rw [next, if_neg (by rw [e]; decide)], e.symm⟩
theorem nx3 {w : DWheel} (h : check w = 0) (h2 : 0 < (timers w.slots).length) : (timAt w.slots 0).due = next w ∧ 0 = nextErr w := by
  have e : nextErr w = 0 := by rw [nextErr, if_neg (by simp [h]), if_neg (by omega)]
  exact ⟨by rw [next, if_pos e, tim_get h2], e.symm⟩
/-! ### rows -/
theorem row_le (LL : List (List DTimer)) (i : Nat) : (LL.getD i []).length ≤ (timers LL).length := by
  by_cases h : i < LL.length
  · have := pre_next h
    have h2 : pre LL (i + 1) ≤ (timers LL).length := by
      unfold pre timers
      have h3 : LL.flatten = (LL.take (i + 1)).flatten ++ (LL.drop (i + 1)).flatten := by rw [← List.flatten_append, List.take_append_drop]
      rw [h3, List.length_append]; omega
    omega
  · rw [List.getD_eq_getElem?_getD, List.getElem?_eq_none (by omega)]; exact Nat.zero_le _
theorem Ok.rows {w : DWheel} (h : Ok w) : w.slots.length ≤ 48 ∧ ∀ i, (w.slots.getD i []).length ≤ 60 := ⟨by have := h.len; omega, fun i => by have := row_le w.slots i; have := h.few; omega⟩
theorem insS_eq (t : DTimer) (l : List DTimer) : insS t l = insI t l := by
  unfold insS low lowF
  induction l with
  | nil => rfl
  | cons x l ih =>
    unfold insI
    by_cases h : order x t < 0
    · rw [List.takeWhile_cons_of_pos (by simpa using h), if_pos (order_neg.1 h)]
      simp only [List.length_cons, List.take_succ_cons, List.drop_succ_cons, List.cons_append]
      rw [← ih]
    · rw [List.takeWhile_cons_of_neg (by simpa using h), if_neg (fun h2 => h (order_neg.2 h2))]
      rfl
theorem split_sd {l : List DTimer} (h : Sd l) (t : DTimer) : Split (fun x => order x t) l := fun a b hb hab h1 => by
  have h2 := List.pairwise_iff_getElem.1 h a b (by omega) hb hab
  exact order_neg.2 (ahead_trans h2 (order_neg.1 h1))
/-! ### a wheel by its timers: put, cut, and what is due -/
theorem place_nat (a n : Int) : ((place a n).toNat : Int) = place a n ∧ (place a n).toNat < 48 := by have := place_bd a n; omega
theorem put_mkW {now : Int} {S : List DTimer} (h : Sd S) {t : DTimer} (ht : t ∉ S) : put (mkW now S) t = mkW now (insI t S) := by
  obtain ⟨p1, p2⟩ := place_nat t.due now
  have hs := sd_insI h ht
  refine wh_ext rfl (by show ((mkW now S).slots.set _ _).length = _; rw [List.length_set, mkW_len, mkW_len]) fun i hi => ?_
  have hi' : i < 48 := by
    have : i < ((mkW now S).slots.set (place t.due now).toNat (insS t ((mkW now S).slots.getD (place t.due now).toNat []))).length := hi
    rwa [List.length_set, mkW_len] at this
  show ((mkW now S).slots.set (place t.due now).toNat (insS t ((mkW now S).slots.getD (place t.due now).toNat []))).getD i [] = _
  rw [mkW_row hi']
  by_cases e : i = (place t.due now).toNat
  · subst e
    rw [getD_set_self (by rw [mkW_len]; exact p2), insS_eq, mkW_row p2]
    have hn : t ∉ S.filter fun x => decide (place x.due now = ((place t.due now).toNat : Int)) := fun h9 => ht (List.mem_filter.1 h9).1
    refine sd_ext (sd_insI (sd_filter h _) hn) (sd_filter hs _) fun x => ?_
    rw [mem_insI, List.mem_filter, List.mem_filter, mem_insI, decide_eq_true_eq]
    constructor
    · rintro (rfl | ⟨h1, h2⟩)
      · exact ⟨.inl rfl, by omega⟩
      · exact ⟨.inr h1, h2⟩
    · rintro ⟨rfl | h1, h2⟩
      · exact .inl rfl
      · exact .inr ⟨h1, h2⟩
  · rw [getD_set_ne e, mkW_row hi']
    refine sd_ext (sd_filter h _) (sd_filter hs _) fun x => ?_
    rw [List.mem_filter, List.mem_filter, mem_insI, decide_eq_true_eq]
    constructor
    · rintro ⟨h1, h2⟩; exact ⟨.inr h1, h2⟩
    · rintro ⟨rfl | h1, h2⟩
      · omega
      · exact ⟨h1, h2⟩
theorem mkW_nil (now : Int) : mkW now [] = ⟨now, List.replicate 48 []⟩ := rfl
/-- the timers that are not due yet, on the way -/
theorem advGo_eq {w : DWheel} (hw : Ok w) {to : Int} : ∀ k, k ≤ (timers w.slots).length → advGo w to k = (mkW to (((timers w.slots).take k).filter fun t => decide (to < t.due)), ((timers w.slots).take k).filter fun t => decide (t.due ≤ to))
  | 0, _ => rfl
  | k + 1, hk => by
    have ih := advGo_eq hw (to := to) k (by omega)
    unfold advGo at ih ⊢
    rw [List.take_succ_eq_append_getElem (show k < (timers w.slots).length by omega), List.foldl_append, ih]
    simp only [List.foldl_cons, List.foldl_nil, List.filter_append]
    have hsd : Sd ((timers w.slots).take k ++ [(timers w.slots)[k]]) := by
      rw [← List.take_succ_eq_append_getElem (show k < (timers w.slots).length by omega)]
      exact hw.sd.sublist (List.take_sublist _ _)
    have hlast := (List.pairwise_append.1 hsd).2.2
    unfold advStep
    by_cases c : (timers w.slots)[k].due ≤ to
    · rw [if_pos c]
      simp only [List.filter_cons, List.filter_nil, decide_eq_true c, if_true, decide_eq_false (show ¬ to < (timers w.slots)[k].due by omega)]
      simp
    · rw [if_neg c]
      have c2 : to < (timers w.slots)[k].due := by omega
      simp only [List.filter_cons, List.filter_nil, decide_eq_false c, decide_eq_true c2, if_true]
      have hP : Sd (((timers w.slots).take k).filter fun t => decide (to < t.due)) := sd_filter (hw.sd.sublist (List.take_sublist _ _)) _
      have hn : (timers w.slots)[k] ∉ ((timers w.slots).take k).filter fun t => decide (to < t.due) := fun h9 => by
        have := hlast _ (List.mem_filter.1 h9).1 _ (List.mem_singleton.2 rfl)
        rw [ahead_irrefl] at this; cases this
      rw [put_mkW hP hn]
      have e : insI (timers w.slots)[k] (((timers w.slots).take k).filter fun t => decide (to < t.due)) = (((timers w.slots).take k).filter fun t => decide (to < t.due)) ++ [(timers w.slots)[k]] := by
        refine sd_ext (sd_insI hP hn) (List.pairwise_append.2 ⟨hP, List.pairwise_singleton _ _, fun x hx y hy => ?_⟩) fun x => ?_
        · rw [List.mem_singleton] at hy; subst hy
          exact hlast x (List.mem_filter.1 hx).1 _ (List.mem_singleton.2 rfl)
        · rw [mem_insI, List.mem_append, List.mem_singleton, or_comm]
      rw [e]
      simp
theorem take_next {α : Type} {l : List (List α)} {k : Nat} (h : k < l.length) : l.take (k + 1) = l.take k ++ [l.getD k []] := by rw [List.take_succ_eq_append_getElem h, getD_of h]
theorem put_len (w : DWheel) (t : DTimer) : (put w t).slots.length = w.slots.length := List.length_set
/-! ### put, Add, Cancel: the cases -/
structure Fit (w : DWheel) (t : DTimer) : Prop where
  len : w.slots.length = 48
  now : 0 ≤ w.now ∧ w.now ≤ 262143
  due : 0 ≤ t.due ∧ t.due ≤ 262143
  row : ∀ i, (w.slots.getD i []).length ≤ 60
  srt : ∀ i, i < 48 → Sd (w.slots.getD i [])
theorem Fit.split {w : DWheel} {t : DTimer} (h : Fit w t) : Split (fun x => order x t) (w.slots.getD (place t.due w.now).toNat []) := split_sd (h.srt _ (place_nat _ _).2) t
theorem Fit.of {w : DWheel} {t : DTimer} (h : Ok w) (hr : Wh.right t w.now = true) : Fit w t := ⟨h.len, h.now, (right_iff.1 hr).2.1, h.rows.2, h.srt⟩
section
variable {w : DWheel} {t : DTimer} {id : Int}
theorem ad1 (h : ¬ check w = 0) : add w t = ⟨0, []⟩ ∧ addErr w t = check w := by
  have e : addErr w t = check w := if_pos h
  exact ⟨by rw [add, if_neg (by rw [e]; exact h)]; rfl, e⟩
theorem ad2 (h : check w = 0) (h2 : Wh.right t w.now = false) : add w t = ⟨0, []⟩ ∧ addErr w t = 3 := by
  have e : addErr w t = 3 := by rw [addErr, if_neg (by simp [h]), if_pos h2]
  exact ⟨by rw [add, if_neg (by rw [e]; decide)]; rfl, e⟩
theorem ad3 (h : check w = 0) (h2 : Wh.right t w.now = true) (h3 : (find w t.id).2.2 = true) : add w t = ⟨0, []⟩ ∧ addErr w t = 6 := by
  have e : addErr w t = 6 := by rw [addErr, if_neg (by simp [h]), if_neg (by simp [h2]), if_pos h3]
  exact ⟨by rw [add, if_neg (by rw [e]; decide)]; rfl, e⟩
theorem ad4 (h : check w = 0) (h2 : Wh.right t w.now = true) (h3 : (find w t.id).2.2 = false) (h4 : (timers w.slots).length = 60) : add w t = ⟨0, []⟩ ∧ addErr w t = 8 := by
  have e : addErr w t = 8 := by rw [addErr, if_neg (by simp [h]), if_neg (by simp [h2]), if_neg (by simp [h3]), if_pos h4]
  exact ⟨by rw [add, if_neg (by rw [e]; decide)]; rfl, e⟩
theorem ad5 (h : check w = 0) (h2 : Wh.right t w.now = true) (h3 : (find w t.id).2.2 = false) (h4 : ¬ (timers w.slots).length = 60) : add w t = put w t ∧ addErr w t = 0 := by
  have e : addErr w t = 0 := by rw [addErr, if_neg (by simp [h]), if_neg (by simp [h2]), if_neg (by simp [h3]), if_neg h4]
  exact ⟨by rw [add, if_pos e], e⟩
theorem cn1 (h : ¬ check w = 0) : cancel w id = ⟨0, []⟩ ∧ cancelErr w id = check w := by
  have e : cancelErr w id = check w := if_pos h
  exact ⟨by rw [cancel, if_neg (by rw [e]; exact h)]; rfl, e⟩
theorem cn2 (h : check w = 0) (h2 : (find w id).2.2 = false) : cancel w id = ⟨0, []⟩ ∧ cancelErr w id = 5 := by
  have e : cancelErr w id = 5 := by rw [cancelErr, if_neg (by simp [h]), if_pos h2]
  exact ⟨by rw [cancel, if_neg (by rw [e]; decide)]; rfl, e⟩
theorem cn3 (h : check w = 0) (h2 : (find w id).2.2 = true) : cancel w id = cut w (find w id).1 (find w id).2.1 ∧ cancelErr w id = 0 := by
  have e : cancelErr w id = 0 := by rw [cancelErr, if_neg (by simp [h]), if_neg (by simp [h2])]
  exact ⟨by rw [cancel, if_pos e], e⟩
end
theorem findGo_at {id : Int} : ∀ {LL : List (List DTimer)} {s : Nat}, (findGo id s LL).2.2 = true → ∃ i k : Nat, findGo id s LL = (((s + i : Nat) : Int), (k : Int), true) ∧ i < LL.length ∧ ∃ h : k < (LL.getD i []).length, (LL.getD i [])[k].id = id
  | [], s, h => by cases h
  | l :: r, s, h => by
    unfold findGo at h ⊢
    by_cases c : 0 ≤ idxF (fun x : DTimer => (x.id == id)) l
    · rw [if_pos c]
      rcases idxF_cases (fun x : DTimer => (x.id == id)) l with ⟨k, h2, h1, h3, _⟩ | ⟨h1, h2⟩
      · refine ⟨0, k, by rw [h1]; rfl, by simp, h2, ?_⟩
        simpa using h3
      · exact absurd h1 (by omega)
    · rw [if_neg c] at h ⊢
      obtain ⟨i, k, e, hi, hk, hid⟩ := findGo_at h
      refine ⟨i + 1, k, ?_, by simpa using hi, by simpa using hk, by simpa using hid⟩
      rw [e, show s + 1 + i = s + (i + 1) by omega]
theorem find_at {w : DWheel} {id : Int} (h : (find w id).2.2 = true) : 0 ≤ (find w id).1 ∧ (find w id).1 < (w.slots.length : Int) ∧ 0 ≤ (find w id).2.1 ∧ (find w id).2.1 < ((w.slots.getD (find w id).1.toNat []).length : Int) ∧ ((w.slots.getD (find w id).1.toNat []).getD (find w id).2.1.toNat default).id = id := by
  obtain ⟨i, k, e, hi, hk, hid⟩ := findGo_at h
  have e1 : find w id = (((0 + i : Nat) : Int), (k : Int), true) := e
  rw [e1]
  simp only [Nat.zero_add, Int.toNat_natCast]
  exact ⟨by omega, by omega, by omega, by omega, by rw [getD_of hk]; exact hid⟩
/-! ### Advance -/
section
variable {w oo : DWheel} {gl : List DTimer} {to : Int} {k : Nat}
theorem adv_yes (hk : k < (timers w.slots).length) (h : (oo, gl) = advGo w to k) (hc : (timAt w.slots k).due ≤ to) : (oo, gl ++ [timAt w.slots k]) = advGo w to (k + 1) := by
  unfold advGo
  rw [List.take_succ_eq_append_getElem hk, List.foldl_append]
  show _ = advStep to (advGo w to k) (timers w.slots)[k]
  rw [tim_get hk, getD_of hk] at hc ⊢
  rw [← h, advStep, if_pos hc]
theorem adv_no (hk : k < (timers w.slots).length) (h : (oo, gl) = advGo w to k) (hc : ¬ (timAt w.slots k).due ≤ to) : (put oo (timAt w.slots k), gl) = advGo w to (k + 1) := by
  unfold advGo
  rw [List.take_succ_eq_append_getElem hk, List.foldl_append]
  show _ = advStep to (advGo w to k) (timers w.slots)[k]
  rw [tim_get hk, getD_of hk] at hc ⊢
  rw [← h, advStep, if_neg hc]
theorem adv_eq (hw : Ok w) (hk : k ≤ (timers w.slots).length) (h : (oo, gl) = advGo w to k) : oo = mkW to (((timers w.slots).take k).filter fun t => decide (to < t.due)) ∧ gl = ((timers w.slots).take k).filter fun t => decide (t.due ≤ to) := by
  rw [advGo_eq hw k hk] at h
  exact ⟨congrArg Prod.fst h, congrArg Prod.snd h⟩
theorem adv_gl (hw : Ok w) (hk : k ≤ (timers w.slots).length) (h : (oo, gl) = advGo w to k) : gl.length ≤ 60 := by
  rw [(adv_eq hw hk h).2]
  have := hw.few
  exact Nat.le_trans (List.length_filter_le _ _) (by rw [List.length_take]; omega)
theorem adv_len (hw : Ok w) (h : (oo, gl) = advGo w to (timers w.slots).length) : oo.slots.length = 48 := by rw [(adv_eq hw (Nat.le_refl _) h).1, mkW_len]
theorem adv_fit (hw : Ok w) (ht : 0 ≤ to ∧ to ≤ 262143) (hk : k < (timers w.slots).length) (h : (oo, gl) = advGo w to k) : Fit oo (timAt w.slots k) := by
  have e := (adv_eq hw (Nat.le_of_lt hk) h).1
  have hf := hw.few
  have hsd : Sd (((timers w.slots).take k).filter fun t => decide (to < t.due)) := sd_filter (hw.sd.sublist (List.take_sublist _ _)) _
  refine ⟨by rw [e, mkW_len], by rw [e]; exact ht, ?_, fun i => ?_, fun i hi => ?_⟩
  · rw [tim_get hk, getD_of hk]
    exact (right_iff.1 (hw.right (List.getElem_mem hk))).2.1
  · rw [e]
    by_cases hi : i < 48
    · rw [mkW_row hi]
      refine Nat.le_trans (List.length_filter_le _ _) (Nat.le_trans (List.length_filter_le _ _) ?_)
      rw [List.length_take]; omega
    · rw [List.getD_eq_getElem?_getD, List.getElem?_eq_none (by rw [mkW_len]; omega)]; exact Nat.zero_le _
  · rw [e, mkW_row hi]; exact sd_filter hsd _
theorem adv_sd (hw : Ok w) (h : (oo, gl) = advGo w to (timers w.slots).length) : Sd gl := by
  rw [(adv_eq hw (Nat.le_refl _) h).2, List.take_length]; exact sd_filter hw.sd _
theorem av1 (h : ¬ check w = 0) : adv w to = ⟨0, []⟩ ∧ gone w to = [] ∧ advErr w to = check w := by
  have e : advErr w to = check w := if_pos h
  exact ⟨by rw [adv, if_neg (by rw [e]; exact h)]; rfl, by rw [gone, if_neg (by rw [e]; exact h)], e⟩
theorem av2 (h : check w = 0) (h2 : okTime to = false) : adv w to = ⟨0, []⟩ ∧ gone w to = [] ∧ advErr w to = 3 := by
  have e : advErr w to = 3 := by rw [advErr, if_neg (by simp [h]), if_pos h2]
  exact ⟨by rw [adv, if_neg (by rw [e]; decide)]; rfl, by rw [gone, if_neg (by rw [e]; decide)], e⟩
theorem av3 (h : check w = 0) (h2 : okTime to = true) (h3 : to < w.now) : adv w to = ⟨0, []⟩ ∧ gone w to = [] ∧ advErr w to = 4 := by
  have e : advErr w to = 4 := by rw [advErr, if_neg (by simp [h]), if_neg (by simp [h2]), if_pos h3]
  exact ⟨by rw [adv, if_neg (by rw [e]; decide)]; rfl, by rw [gone, if_neg (by rw [e]; decide)], e⟩
theorem advErr0 (hw : Ok w) (h2 : okTime to = true) (h3 : ¬ to < w.now) : advErr w to = 0 := by
  rw [advErr, if_neg (by simp [check_ok.2 hw]), if_neg (by simp [h2]), if_neg h3]
theorem av4 (hw : Ok w) (h2 : okTime to = true) (h3 : ¬ to < w.now) (h : (oo, gl) = advGo w to (timers w.slots).length) : adv w to = oo ∧ gone w to = gl ∧ advErr w to = 0 := by
  have e := advErr0 hw h2 h3
  exact ⟨by rw [adv, if_pos e, ← h], by rw [gone, if_pos e, ← h]; exact isort_sd (adv_sd hw h), e⟩
end
end Go.Sx.Wh

/- The walks, printed by a program from the translation and a specification. -/
namespace Go.Proofs.Ytnmbkopnopaigaa
open Go.Sx Go.RowKit
set_option maxHeartbeats 8000000 in
set_option maxRecDepth 100000 in
theorem wnew_ok (now : Int) : FnM Try.prog 29 [Vi now] (fun _ => True) (Option Addr × NC) (fun p => .tuple #[.agg #[Vi ((Wh.new now).now), .slice p.1 ((Wh.new now).slots).length p.2.n], Vi (Wh.newErr now)]) (fun p S w => SlON tTimer S w p.1 p.2 ((Wh.new now).slots)) := by
 refine fnM (nt := 11) (F0 := [(0, Vi now)]) Try.func29 rfl Try.ntmps29 rfl rfl (fun w0 hpre => ?_)
 refine c_seq (c_region ?_)
 refine o_alloc ze50 rfl (fun B1 => ?_)
 refine o_as rfl rfl ?_
 refine o_nil (q_then (c_seq (c_seq (c_region ?_))))
 refine o_mv rfl rfl ?_
 refine o_call0 (v := .bool (Wh.okTime now)) rfl (wtime_ok now) hf65 (fun _ _ => trivial) rfl ?_
 refine o_p (p_not (b := (Wh.okTime now)) rfl) ?_
 refine o_nil (q_then ?_)
 refine c_cond rfl (fun hc2 => ?_) (fun hc2 => ?_)
 ·simp only [Bool.not_eq_true'] at hc2
  have hot := hc2
  refine c_seq (c_region ?_)
  refine o_p (p_build (cells := [Vi 0, .slice none 0 0]) fp50 ze50 rfl rfl) ?_
  refine o_storeN (i := 0) (vs := [Vi 0, .slice none 0 0]) (cs' := [Vi 0, .slice none 0 0]) rfl rfl rfl sz50 rfl rfl rfl rfl ?_
  refine o_as rfl rfl ?_
  refine o_nil (q_then (c_ret ?_))
  refine q_then_ret ?_
  obtain ⟨hv1, hv2⟩ : _ ∧ _ := by first | exact Wh.nw1 (now := now) (by simpa using hot) | exact Wh.nw2 (now := now) (by simpa using hot)
  have hr0 : (0 : Int) = (Wh.new now).now := by
   first | (rw [hv1]; done) | (rw [hv1]; rfl) | exact hv2.symm
  have hr1 : ([] : List (List DTimer)) = (Wh.new now).slots := by
   first | (rw [hv1]; done) | (rw [hv1]; rfl) | exact hv2.symm
  have hr2 : (3 : Int) = (Wh.newErr now) := by
   first | (rw [hv1]; done) | (rw [hv1]; rfl) | exact hv2.symm
  refine q_endM (p := (none, nc0)) (fun _ => False) (rt2 rfl (r_cell (i := 0) rfl rfl sh50 rfl) (r_tmp rfl)) (i := 1) rfl ?_ ?_ ?_
  ·exact (by have hcc := congr (congr (congrArg (fun (y0 : Int) (y1 : List (List DTimer)) (y2 : Int) => (.tuple #[.agg #[.int .i64 y0, .slice none y1.length 0], .int .i64 y2] : Value)) hr0) hr1) hr2; exact hcc)
  ·intro w hw b hb; exact hb.elim
  ·intro w hw; exact Eq.mp (congrArg (fun y => SlON tTimer _ w none nc0 y) hr1) (SlON.nil tTimer w)
 ·simp only [Bool.not_eq_false'] at hc2
  have hot := hc2
  refine c_skip (q_then (c_seq (c_region ?_)))
  refine o_mv rfl rfl ?_
  refine o_makeSliceN (T := tTimer) (m := 48) rfl rfl Try.underlying48 el57 ze57 rfl (by omega) (by omega) rfl (fun S4 a3 => ?_)
  refine o_p (p_build (cells := [Vi now, .slice a3 (List.replicate 48 ([] : List DTimer)).length (ncz 48).n]) fp50 ze50 rfl rfl) ?_
  refine o_storeN (i := 1) (vs := [Vi now, .slice a3 (List.replicate 48 ([] : List DTimer)).length (ncz 48).n]) (cs' := [Vi now, .slice a3 (List.replicate 48 ([] : List DTimer)).length (ncz 48).n]) rfl rfl rfl sz50 rfl rfl rfl rfl ?_
  refine o_as rfl rfl ?_
  refine o_nil (q_then (c_ret ?_))
  obtain ⟨hv1, hv2⟩ : _ ∧ _ := by first | exact Wh.nw1 (now := now) (by simpa using hot) | exact Wh.nw2 (now := now) (by simpa using hot)
  have hr0 : (now : Int) = (Wh.new now).now := by
   first | (rw [hv1]; done) | (rw [hv1]; rfl) | exact hv2.symm
  have hr1 : ((List.replicate 48 ([] : List DTimer)) : List (List DTimer)) = (Wh.new now).slots := by
   first | (rw [hv1]; done) | (rw [hv1]; rfl) | exact hv2.symm
  have hr2 : (0 : Int) = (Wh.newErr now) := by
   first | (rw [hv1]; done) | (rw [hv1]; rfl) | exact hv2.symm
  refine q_endM (p := (a3, (ncz 48))) S4 (rt2 rfl (r_cell (i := 1) rfl rfl sh50 rfl) (r_tmp rfl)) (i := 2) rfl ?_ ?_ ?_
  ·exact (by have hcc := congr (congr (congrArg (fun (y0 : Int) (y1 : List (List DTimer)) (y2 : Int) => (.tuple #[.agg #[.int .i64 y0, .slice a3 y1.length (ncz 48).n], .int .i64 y2] : Value)) hr0) hr1) hr2; exact hcc)
  ·exact fun w hw => hw.above (i := 2) (j := 0) (by decide) rfl rfl
  ·intro w hw; exact Eq.mp (congrArg (fun y => SlON tTimer _ w a3 (ncz 48) y) hr1) ((hw.at (i := 0) rfl).here)

set_option maxHeartbeats 8000000 in
set_option maxRecDepth 100000 in
theorem wfind1_ok (t : DTimer) (Bid : Nat) (id : Int) : Fn0 Try.prog 106 [.agg #[Vi t.id, Vi t.due], .pointer (some ⟨Bid, 0, none⟩)] (fun w => (box Bid [Vi id] 3).A w) (.bool (t.id == id)) := by
 refine fn0 (nt := 8) (F0 := [(0, .agg #[Vi t.id, Vi t.due]), (1, .pointer (some ⟨Bid, 0, none⟩))]) Try.func106 rfl Try.ntmps106 rfl rfl (fun w0 hpre => ?_)
 have hBid := hpre
 refine c_seq (c_region ?_)
 refine o_box (v := .agg #[Vi t.id, Vi t.due]) rfl rfl (fun B1 => ?_)
 refine o_as rfl rfl ?_
 refine o_nil (q_then (c_seq (c_region ?_)))
 refine o_p (p_fieldAddr (j' := 0) rfl fo52_0 rfl) ?_
 refine o_p (p_load (i := 0) (v := Vi t.id) rfl rfl sh3 rfl) ?_
 refine o_p (p_loadR (v := Vi id) rfl (rbox_base (i := 1) rfl hBid) sh3 rfl) ?_
 refine o_p (p_eq rfl rfl) ?_
 refine o_as rfl rfl ?_
 refine o_nil (q_then (c_ret ?_))
 refine q_end0 (v := .bool (t.id == id)) (rt1 rfl (r_tmp rfl)) (i := 1) rfl ?_
 exact rfl

set_option maxHeartbeats 8000000 in
set_option maxRecDepth 100000 in
theorem indexFunc_Timer_ok (l : List DTimer) (al : Option Addr) (cl : Nat) (gf : FuncId) (kf : List Value) (f : DTimer → Bool) (Pf : World → Prop) (stf : ∀ w w', Below w.heap.size w w' → Pf w → Pf w') (okf : ∀ (x : DTimer), Fn0 Try.prog gf (.agg #[Vi x.id, Vi x.due] :: kf) Pf (.bool (f x))) (hpf : HasFn Try.prog gf) : Fn0 Try.prog 105 [.slice al l.length cl, .func (.func gf) #[] kf.toArray] (fun w => Rd tTimer w al cl l ∧ Pf w) (Vi (idxF f l)) := by
 refine fn0 (nt := 19) (F0 := [(0, .slice al l.length cl), (1, .func (.func gf) #[] kf.toArray)]) Try.func105 rfl Try.ntmps105 rfl rfl (fun w0 hpre => ?_)
 obtain ⟨hl, hf⟩ := hpre
 have hlhl := hl.2.1
 refine c_seq (c_region ?_)
 refine o_as rfl rfl ?_
 refine o_nil (q_then (c_seq (c_seq (c_region ?_))))
 refine o_mv rfl rfl ?_
 refine o_p (p_len_slice rfl rfl Try.underlying57) ?_
 refine o_mv rfl rfl ?_
 refine o_nil (q_then (c_block ?_))
 refine c_loop (St := Nat)
  (fun k => [(0, .slice al l.length cl), (1, .func (.func gf) #[] kf.toArray), (7, Vi (l.length : Int)), (8, Vi (k : Int))])
  (fun k => [base w0])
  (fun k => k ≤ l.length ∧ ∀ j (h : j < l.length), j < k → f l[j] = false)
  (fun k => l.length - k)
  0 ?_ (sr (sr (sr (sr (Sub.nil _))))) (fun _ hw => hw) ?_
 ·exact ⟨Nat.zero_le _, fun j _ h => absurd h (by omega)⟩
 rintro k hI K hK1
 obtain ⟨hI1, hI2⟩ := hI
 show SC _ _ Try.prog 19 w0 _ _ [(0, .slice al l.length cl), (1, .func (.func gf) #[] kf.toArray), (7, Vi (l.length : Int)), (8, Vi (k : Int))] [base w0]
 refine c_seq (c_region ?_)
 refine o_p (p_lt rfl rfl) ?_
 refine o_nil (q_then (c_seq ?_))
 refine c_cond rfl (fun hc2 => ?_) (fun hc2 => ?_)
 ·simp only [decide_eq_true_eq] at hc2
  refine c_skip (q_then (c_seq (c_block (c_seq (c_region ?_)))))
  refine o_mv rfl rfl ?_
  refine o_as rfl rfl ?_
  refine o_nil (q_then (c_seq (c_region ?_)))
  refine o_mv rfl rfl ?_
  refine o_mv rfl rfl ?_
  refine o_mv rfl rfl ?_
  refine o_p (p_indexAddr (L := l) (T := tTimer) (i := (k : Int)) rfl rfl (rd_base (i := 0) rfl hl) Try.underlying57 sz52 (by omega) (by omega)) ?_
  refine o_p (p_loadEn (i := k) (T := tTimer) (L := l) (vs := [Vi ((l[k]).id), Vi ((l[k]).due)]) rfl (rd_base (i := 0) rfl hl) (by first | assumption | omega) sh52 rfl) ?_
  refine o_call0V (vs := [.agg #[Vi ((l[k]).id), Vi ((l[k]).due)]]) (caps := kf) (v := .bool (f (l[k]))) rfl rfl (okf (l[k])) hpf (pre_base (i := 0) rfl stf hf) rfl ?_
  refine o_nil (q_then ?_)
  refine c_cond rfl (fun hc3 => ?_) (fun hc3 => ?_)
  ·skip
   refine c_seq (c_region ?_)
   refine o_mv rfl rfl ?_
   refine o_as rfl rfl ?_
   refine o_nil (q_then (c_ret ?_))
   refine q_block_ret (q_then_ret (q_then_ret (q_block_ret (q_then_ret ?_))))
   have hr0 : ((k : Int) : Int) = (idxF f l) := by
    first | exact idxF_found (by omega) (by assumption) hI2 | exact idxF_none (fun j h => hI2 j h (by omega))
   refine q_end0 (v := Vi (k : Int)) (rt1 rfl (r_tmp rfl)) (i := 0) rfl ?_
   exact (by have hcc := congrArg (fun (y0 : Int) => (.int .i64 y0 : Value)) hr0; exact hcc)
  ·skip
   refine c_skip ?_
   refine q_block_normal (q_then ?_)
   refine c_region ?_
   refine o_p (p_addb rfl rfl (by omega)) ?_
   refine o_mv rfl rfl ?_
   refine o_nil ?_
   refine q_round hK1 (k + 1) ?_ ?_ ?_ ?_
   ·clear hK1
    refine ⟨by omega, fun j h h2 => ?_⟩
    by_cases e : j = k
    ·subst e; assumption
    ·exact hI2 j h (by omega)
   ·(try dsimp only); omega
   ·exact sr (sr (sr (sr (Sub.nil _))))
   ·exact pk [0]
 ·simp only [decide_eq_false_iff_not, Int.not_lt] at hc2
  refine c_exit ?_
  refine q_then_exit (q_then_exit (q_block_exit (q_then ?_)))
  refine c_seq (c_region ?_)
  refine o_as rfl rfl ?_
  refine o_nil (q_then (c_ret ?_))
  have hr0 : ((-1) : Int) = (idxF f l) := by
   first | exact idxF_found (by omega) (by assumption) hI2 | exact idxF_none (fun j h => hI2 j h (by omega))
  refine q_end0 (v := Vi (-1)) (rt1 rfl (r_tmp rfl)) (i := 0) rfl ?_
  exact (by have hcc := congrArg (fun (y0 : Int) => (.int .i64 y0 : Value)) hr0; exact hcc)

set_option maxHeartbeats 8000000 in
set_option maxRecDepth 100000 in
theorem wfind_ok (wh : DWheel) (awh_0 : Option Addr) (cwh_0 : NC) (id : Int) : Fn0 Try.prog 67 [.agg #[Vi wh.now, .slice awh_0 wh.slots.length cwh_0.n], Vi id] (fun w => RdN tTimer w awh_0 cwh_0 wh.slots) (.tuple #[Vi ((Wh.find wh id).1), Vi ((Wh.find wh id).2.1), .bool ((Wh.find wh id).2.2)]) := by
 refine fn0 (nt := 26) (F0 := [(0, .agg #[Vi wh.now, .slice awh_0 wh.slots.length cwh_0.n]), (1, Vi id)]) Try.func67 rfl Try.ntmps67 rfl rfl (fun w0 hpre => ?_)
 have hwh_0 := hpre
 have hlhwh_0 := hwh_0.2.1
 refine c_seq (c_region ?_)
 refine o_box (v := .agg #[Vi wh.now, .slice awh_0 wh.slots.length cwh_0.n]) rfl rfl (fun B1 => ?_)
 refine o_box (v := Vi id) rfl rfl (fun B2 => ?_)
 refine o_as rfl rfl ?_
 refine o_as rfl rfl ?_
 refine o_as rfl rfl ?_
 refine o_nil (q_then (c_seq (c_seq (c_region ?_))))
 refine o_p (p_fieldAddr (j' := 1) rfl fo50_1 rfl) ?_
 refine o_p (p_load (i := 1) (v := .slice awh_0 wh.slots.length cwh_0.n) rfl rfl sh48 rfl) ?_
 refine o_p (p_len_slice rfl rfl Try.underlying48) ?_
 refine o_mv rfl rfl ?_
 refine o_nil (q_then (c_block ?_))
 refine c_loop (St := Nat)
  (fun k => [(3, .pointer (some ⟨B2, 0, none⟩)), (11, .slice awh_0 wh.slots.length cwh_0.n), (12, Vi (wh.slots.length : Int)), (13, Vi (k : Int))])
  (fun k => [box B2 [Vi id] 3, box B1 [Vi wh.now, .slice awh_0 wh.slots.length cwh_0.n] 50, base w0])
  (fun k => k ≤ wh.slots.length ∧ Wh.findGo id k (wh.slots.drop k) = Wh.find wh id)
  (fun k => wh.slots.length - k)
  0 ?_ (sr (sr (sr (sr (Sub.nil _))))) (fun _ hw => hw) ?_
 ·exact ⟨Nat.zero_le _, rfl⟩
 rintro k hI K hK3
 show SC _ _ Try.prog 26 w0 _ _ [(3, .pointer (some ⟨B2, 0, none⟩)), (11, .slice awh_0 wh.slots.length cwh_0.n), (12, Vi (wh.slots.length : Int)), (13, Vi (k : Int))] [box B2 [Vi id] 3, box B1 [Vi wh.now, .slice awh_0 wh.slots.length cwh_0.n] 50, base w0]
 refine c_seq (c_region ?_)
 refine o_p (p_lt rfl rfl) ?_
 refine o_nil (q_then (c_seq ?_))
 refine c_cond rfl (fun hc4 => ?_) (fun hc4 => ?_)
 ·simp only [decide_eq_true_eq] at hc4
  refine c_skip (q_then (c_seq (c_block (c_seq (c_region ?_)))))
  refine o_mv rfl rfl ?_
  refine o_p (p_indexAddrN (T := tTimer) (c := cwh_0) (LL := wh.slots) (i := (k : Int)) rfl rfl (rd_baseN (i := 2) rfl hwh_0) Try.underlying48 sz57 (by first | omega | decide) (by first | omega | decide)) ?_
  refine o_p (p_loadN (T := tTimer) (c := cwh_0) (LL := wh.slots) (i := k) rfl (rd_baseN (i := 2) rfl hwh_0) (by first | assumption | omega | decide) sh57) ?_
  refine o_as rfl rfl ?_
  refine o_as rfl rfl ?_
  refine o_nil (q_then (c_seq (c_region ?_)))
  refine o_mv rfl rfl ?_
  refine o_p (p_makeFunc (vs := [.pointer (some ⟨B2, 0, none⟩)]) rfl) ?_
  refine o_call0 (v := Vi (idxF (fun x : DTimer => (x.id == id)) (wh.slots.getD k []))) rfl (indexFunc_Timer_ok (wh.slots.getD k []) (cwh_0.ra k) (cwh_0.rc k) 106 [.pointer (some ⟨B2, 0, none⟩)] (fun x => (x.id == id)) (fun w => (box B2 [Vi id] 3).A w) (fun _ _ hb h => box_below hb h) (fun x => wfind1_ok x B2 id) hf106) hf105 (fun w hw => ⟨(rd_rowN (i := k) (rd_baseN (i := 2) rfl hwh_0) (by first | assumption | omega)) w hw, (hw.at (i := 0) rfl).here⟩) rfl ?_
  refine o_as rfl rfl ?_
  refine o_nil (q_then (c_seq (c_region ?_)))
  refine o_mv rfl rfl ?_
  refine o_p (p_ge rfl rfl) ?_
  refine o_nil (q_then ?_)
  refine c_cond rfl (fun hc5 => ?_) (fun hc5 => ?_)
  ·simp only [decide_eq_true_eq] at hc5
   have hix := hc5
   refine c_seq (c_region ?_)
   refine o_mv rfl rfl ?_
   refine o_mv rfl rfl ?_
   refine o_as rfl rfl ?_
   refine o_as rfl rfl ?_
   refine o_as rfl rfl ?_
   refine o_nil (q_then (c_ret ?_))
   refine q_block_ret (q_then_ret (q_then_ret (q_block_ret (q_then_ret ?_))))
   have hf := by first | exact Wh.f_found (w := wh) (id := id) (k := k) (by omega) hI.2 hix | exact Wh.f_none (w := wh) (id := id) (k := k) (by omega) hI.2
   have hr0 : ((k : Int) : Int) = ((Wh.find wh id).1) := by
    first | (rw [← hf]; done) | (rw [← hf]; rfl)
   have hr1 : ((idxF (fun x : DTimer => (x.id == id)) (wh.slots.getD k [])) : Int) = ((Wh.find wh id).2.1) := by
    first | (rw [← hf]; done) | (rw [← hf]; rfl)
   have hr2 : (true : Bool) = ((Wh.find wh id).2.2) := by
    first | (rw [← hf]; done) | (rw [← hf]; rfl)
   refine q_end0 (v := .tuple #[Vi (k : Int), Vi (idxF (fun x : DTimer => (x.id == id)) (wh.slots.getD k [])), .bool true]) (rt3 rfl (r_tmp rfl) (r_tmp rfl) (r_tmp rfl)) (i := 2) rfl ?_
   exact (by have hcc := congr (congr (congrArg (fun (y0 : Int) (y1 : Int) (y2 : Bool) => (.tuple #[.int .i64 y0, .int .i64 y1, .bool y2] : Value)) hr0) hr1) hr2; exact hcc)
  ·simp only [decide_eq_false_iff_not, Int.not_le] at hc5
   have hix := hc5
   refine c_skip ?_
   refine q_block_normal (q_then ?_)
   refine c_region ?_
   refine o_p (p_addb rfl rfl (by omega)) ?_
   refine o_mv rfl rfl ?_
   refine o_nil ?_
   refine q_round hK3 (k + 1) ?_ ?_ ?_ ?_
   ·clear hK3
    exact ⟨by omega, Wh.f_next (by omega) hI.2 (by omega)⟩
   ·(try dsimp only); omega
   ·exact sr (sr (sr (sr (Sub.nil _))))
   ·exact pk [0, 1, 2]
 ·simp only [decide_eq_false_iff_not, Int.not_lt] at hc4
  refine c_exit ?_
  refine q_then_exit (q_then_exit (q_block_exit (q_then ?_)))
  refine c_seq (c_region ?_)
  refine o_as rfl rfl ?_
  refine o_as rfl rfl ?_
  refine o_as rfl rfl ?_
  refine o_nil (q_then (c_ret ?_))
  have hf := by first | exact Wh.f_found (w := wh) (id := id) (k := k) (by omega) hI.2 hix | exact Wh.f_none (w := wh) (id := id) (k := k) (by omega) hI.2
  have hr0 : (0 : Int) = ((Wh.find wh id).1) := by
   first | (rw [← hf]; done) | (rw [← hf]; rfl)
  have hr1 : (0 : Int) = ((Wh.find wh id).2.1) := by
   first | (rw [← hf]; done) | (rw [← hf]; rfl)
  have hr2 : (false : Bool) = ((Wh.find wh id).2.2) := by
   first | (rw [← hf]; done) | (rw [← hf]; rfl)
  refine q_end0 (v := .tuple #[Vi 0, Vi 0, .bool false]) (rt3 rfl (r_tmp rfl) (r_tmp rfl) (r_tmp rfl)) (i := 2) rfl ?_
  exact (by have hcc := congr (congr (congrArg (fun (y0 : Int) (y1 : Int) (y2 : Bool) => (.tuple #[.int .i64 y0, .int .i64 y1, .bool y2] : Value)) hr0) hr1) hr2; exact hcc)

set_option maxHeartbeats 8000000 in
set_option maxRecDepth 100000 in
theorem wmany_ok (wh : DWheel) (awh_0 : Option Addr) (cwh_0 : NC) (hy1 : (Wh.timers wh.slots).length ≤ 60) : Fn0 Try.prog 68 [.agg #[Vi wh.now, .slice awh_0 wh.slots.length cwh_0.n]] (fun w => RdN tTimer w awh_0 cwh_0 wh.slots) (Vi ((Wh.timers wh.slots).length : Int)) := by
 refine fn0R (nt := 10) (F0 := [(0, .agg #[Vi wh.now, .slice awh_0 wh.slots.length cwh_0.n])]) Try.func68 rfl Try.ntmps68 rfl rfl (fun w0 hpre => ?_)
 have hwh_0 := hpre
 have hlhwh_0 := hwh_0.2.1
 refine c_seq (c_region ?_)
 refine o_box (v := .agg #[Vi wh.now, .slice awh_0 wh.slots.length cwh_0.n]) rfl rfl (fun B1 => ?_)
 refine o_alloc ze3 rfl (fun B2 => ?_)
 refine o_nil (q_then (c_seq (c_seq (c_region ?_))))
 refine o_p (p_load_agg (i := 1) (vs := [Vi wh.now, .slice awh_0 wh.slots.length cwh_0.n]) rfl rfl sh50 rfl rfl) ?_
 refine o_callX (pre := []) (R := [box B2 [Vi 0] 3, box B1 [Vi wh.now, .slice awh_0 wh.slots.length cwh_0.n] 50, base w0]) rfl (wall_ok wh awh_0 cwh_0) hf72 rfl (fun _ _ => trivial) rfl ?_
 rintro B3
 refine o_asH (H' := [box B3 [Vi wh.now, .slice awh_0 wh.slots.length cwh_0.n] 50, box B2 [Vi 0] 3, box B1 [Vi wh.now, .slice awh_0 wh.slots.length cwh_0.n] 50, base w0]) rfl ?_
 refine o_nil (q_then (c_block ?_))
 refine c_rangeFunc (f := 110) (caps := [.pointer (some ⟨B3, 0, none⟩)]) (Pr := (fun e w => ((box B3 [Vi wh.now, .slice awh_0 wh.slots.length cwh_0.n] 50).A w ∧ (outer w [e]).S B3) ∧ SlRN tTimer (outer w [e]).S w awh_0 cwh_0 wh.slots)) (X := Unit) (encs := (fun x k => [Vi (Wh.slotAt wh.slots k), .agg #[Vi ((Wh.timAt wh.slots k).id), Vi ((Wh.timAt wh.slots k).due)]])) (E := (fun x k => [])) (N := (Wh.timers wh.slots).length) rfl hf110 (wall1_ok wh awh_0 cwh_0 B3) (fun _ _ => rfl) (by decide) (St := Int)
  (fun nn => [box B2 [Vi nn] 3])
  (fun k nn => nn = (k : Int))
  (fun c nn => False)
  [box B3 [Vi wh.now, .slice awh_0 wh.slots.length cwh_0.n] 50, box B1 [Vi wh.now, .slice awh_0 wh.slots.length cwh_0.n] 50, base w0]
  0 ?_ ?_ ?_ ?_ ?_ ?_
 ·rfl
 ·exact fun w hw => hw.pick (H' := [box B2 [Vi 0] 3, box B3 [Vi wh.now, .slice awh_0 wh.slots.length cwh_0.n] 50, box B1 [Vi wh.now, .slice awh_0 wh.slots.length cwh_0.n] 50, base w0]) [1, 0, 2, 3] (by decide) rfl
 ·intro D e0 W1 hW1
  exact ⟨boxX (i := 2) (js := [0]) rfl (by decide) rfl W1 hW1, (rdXN (i := 4) (js := [0]) rfl (by decide) rfl (fun _ hA => slR_baseN hwh_0 hA)) W1 hW1⟩
 ·rintro l_ rc D e0 W1 hW1 x_ k nn hk hI
  refine c_skip ?_
  refine q_begin (i := 1) rfl ?_
  refine c_block (c_region ?_)
  refine o_p (p_load (i := 2) (v := Vi nn) rfl rfl sh3 rfl) ?_
  refine o_p (p_addb rfl rfl (by omega)) ?_
  refine o_store (i := 2) (v := Vi (nn + 1)) (cs' := [Vi (nn + 1)]) rfl rfl rfl sz3 rfl rfl rfl ?_
  refine o_nil ?_
  refine q_block_normal ?_
  refine q_next (nn + 1) ?_ (fun w hw => hw.pick (H' := [outer W1 [e0], loopE l_ (recd rc .busy none), box B2 [Vi (nn + 1)] 3]) [0, 1, 2] (by decide) rfl)
  omega
 ·rintro D nn hI
  show SQ _ 10 w0 _ _ _ [defE D, box B2 [Vi nn] 3, box B3 [Vi wh.now, .slice awh_0 wh.slots.length cwh_0.n] 50, box B1 [Vi wh.now, .slice awh_0 wh.slots.length cwh_0.n] 50, base w0]
  refine q_block_normal (q_then ?_)
  refine c_seq (c_region ?_)
  refine o_p (p_load (i := 1) (v := Vi nn) rfl rfl sh3 rfl) ?_
  refine o_store (i := 1) (v := Vi nn) (cs' := [Vi nn]) rfl rfl rfl sz3 rfl rfl rfl ?_
  refine o_nil (q_then (c_ret ?_))
  refine q_marks (i := 0) rfl ?_
  show SQ _ 10 w0 _ _ _ [box B2 [Vi nn] 3, box B3 [Vi wh.now, .slice awh_0 wh.slots.length cwh_0.n] 50, box B1 [Vi wh.now, .slice awh_0 wh.slots.length cwh_0.n] 50, base w0]
  refine q_marks0 ?_
  have hr0 : (nn : Int) = ((Wh.timers wh.slots).length : Int) := by
   exact hI
  refine q_end0 (v := Vi nn) (rt1 rfl (r_cell1 (i := 0) rfl rfl sh3)) (i := 3) rfl ?_
  exact (by have hcc := congrArg (fun (y0 : Int) => (.int .i64 y0 : Value)) hr0; exact hcc)
 ·intro D c s h; exact h.elim

set_option maxHeartbeats 8000000 in
set_option maxRecDepth 100000 in
theorem wcheck_ok (wh : DWheel) (awh_0 : Option Addr) (cwh_0 : NC) : Fn0 Try.prog 41 [.agg #[Vi wh.now, .slice awh_0 wh.slots.length cwh_0.n]] (fun w => RdN tTimer w awh_0 cwh_0 wh.slots) (Vi (Wh.check wh)) := by
 refine fn0R (nt := 67) (F0 := [(0, .agg #[Vi wh.now, .slice awh_0 wh.slots.length cwh_0.n])]) Try.func41 rfl Try.ntmps41 rfl rfl (fun w0 hpre => ?_)
 have hwh_0 := hpre
 have hlhwh_0 := hwh_0.2.1
 refine c_seq (c_region ?_)
 refine o_box (v := .agg #[Vi wh.now, .slice awh_0 wh.slots.length cwh_0.n]) rfl rfl (fun B1 => ?_)
 refine o_alloc ze25 rfl (fun B2 => ?_)
 refine o_nil (q_then (c_seq (c_block (c_seq (c_region ?_)))))
 refine o_p (p_fieldAddr (j' := 0) rfl fo50_0 rfl) ?_
 refine o_p (p_load (i := 1) (v := Vi wh.now) rfl rfl sh3 rfl) ?_
 refine o_call0 (v := .bool (Wh.okTime wh.now)) rfl (wtime_ok wh.now) hf65 (fun _ _ => trivial) rfl ?_
 refine o_p (p_not (b := (Wh.okTime wh.now)) rfl) ?_
 refine o_as rfl rfl ?_
 refine o_nil (q_then ?_)
 refine c_cond rfl (fun hc3 => ?_) (fun hc3 => ?_)
 ·simp only [Bool.not_eq_true'] at hc3
  have hot := hc3
  refine c_seq (c_region ?_)
  refine o_store (i := 0) (v := Vi 3) (cs' := [Vi 3]) rfl rfl rfl sz25 rfl rfl rfl ?_
  refine o_nil (q_then (c_ret ?_))
  refine q_block_ret (q_then_ret ?_)
  refine q_marks0 ?_
  have hr0 : (3 : Int) = (Wh.check wh) := by
   first | exact Wh.ch1 (by simpa using hot) | exact Wh.ch2 hot2 (by omega) | exact hI.many hot2 h48 (by omega) | exact hI.fine hot2 h48 (by omega) | exact hI
  refine q_end0 (v := Vi 3) (rt1 rfl (r_cell1 (i := 0) rfl rfl sh25)) (i := 2) rfl ?_
  exact (by have hcc := congrArg (fun (y0 : Int) => (.int .i64 y0 : Value)) hr0; exact hcc)
 ·simp only [Bool.not_eq_false'] at hc3
  have hot := hc3
  have hot2 : Wh.okTime wh.now = true := by simpa using hot
  have hnw := Wh.okTime_iff.1 hot2
  refine c_seq (c_region ?_)
  refine o_p (p_fieldAddr (j' := 1) rfl fo50_1 rfl) ?_
  refine o_p (p_load (i := 1) (v := .slice awh_0 wh.slots.length cwh_0.n) rfl rfl sh48 rfl) ?_
  refine o_p (p_len_slice rfl rfl Try.underlying48) ?_
  refine o_p (p_ne rfl rfl) ?_
  refine o_as rfl rfl ?_
  refine o_nil (q_then ?_)
  refine c_cond rfl (fun hc4 => ?_) (fun hc4 => ?_)
  ·simp only [bne_iff_ne, ne_eq] at hc4
   have h48 := hc4
   refine c_seq (c_region ?_)
   refine o_store (i := 0) (v := Vi 1) (cs' := [Vi 1]) rfl rfl rfl sz25 rfl rfl rfl ?_
   refine o_nil (q_then (c_ret ?_))
   refine q_block_ret (q_then_ret ?_)
   refine q_marks0 ?_
   have hr0 : (1 : Int) = (Wh.check wh) := by
    first | exact Wh.ch1 (by simpa using hot) | exact Wh.ch2 hot2 (by omega) | exact hI.many hot2 h48 (by omega) | exact hI.fine hot2 h48 (by omega) | exact hI
   refine q_end0 (v := Vi 1) (rt1 rfl (r_cell1 (i := 0) rfl rfl sh25)) (i := 2) rfl ?_
   exact (by have hcc := congrArg (fun (y0 : Int) => (.int .i64 y0 : Value)) hr0; exact hcc)
  ·simp only [bne_eq_false_iff_eq] at hc4
   have h48 : (wh.slots.length : Int) = 48 := by omega
   refine c_skip ?_
   refine q_block_normal (q_then ?_)
   refine c_seq (c_region ?_)
   refine o_makeMap (ν := Unit) kInt (fun _ => .agg #[]) rfl (fun B5 => ?_)
   refine o_alloc ze118 rfl (fun B6 => ?_)
   refine o_store (i := 0) (v := .map (some B5)) (cs' := [.map (some B5)]) rfl rfl rfl sz118 rfl rfl rfl ?_
   refine o_nil (q_then (c_seq (c_region ?_)))
   refine o_p (p_build (cells := [Vi 0, Vi 0]) fp52 ze52 rfl rfl) ?_
   refine o_alloc ze3 rfl (fun B7 => ?_)
   refine o_alloc ze52 rfl (fun B8 => ?_)
   refine o_store (i := 1) (v := Vi (-1)) (cs' := [Vi (-1)]) rfl rfl rfl sz3 rfl rfl rfl ?_
   refine o_storeN (i := 0) (vs := [Vi 0, Vi 0]) (cs' := [Vi 0, Vi 0]) rfl rfl rfl sz52 rfl rfl rfl rfl ?_
   refine o_nil (q_then (c_seq (c_seq (c_region ?_))))
   refine o_p (p_load_agg (i := 5) (vs := [Vi wh.now, .slice awh_0 wh.slots.length cwh_0.n]) rfl rfl sh50 rfl rfl) ?_
   refine o_callX (pre := []) (R := [box B8 [Vi 0, Vi 0] 52, box B7 [Vi (-1)] 3, box B6 [.map (some B5)] 118, mapE kInt (fun _ => .agg #[]) B5 ([]), box B2 [Vi 0] 25, box B1 [Vi wh.now, .slice awh_0 wh.slots.length cwh_0.n] 50, base w0]) rfl (wall_ok wh awh_0 cwh_0) hf72 rfl (fun _ _ => trivial) rfl ?_
   rintro B9
   refine o_asH (H' := [box B9 [Vi wh.now, .slice awh_0 wh.slots.length cwh_0.n] 50, box B8 [Vi 0, Vi 0] 52, box B7 [Vi (-1)] 3, box B6 [.map (some B5)] 118, mapE kInt (fun _ => .agg #[]) B5 ([]), box B2 [Vi 0] 25, box B1 [Vi wh.now, .slice awh_0 wh.slots.length cwh_0.n] 50, base w0]) rfl ?_
   refine o_nil (q_then (c_block ?_))
   refine c_rangeFunc (f := 110) (caps := [.pointer (some ⟨B9, 0, none⟩)]) (Pr := (fun e w => ((box B9 [Vi wh.now, .slice awh_0 wh.slots.length cwh_0.n] 50).A w ∧ (outer w [e]).S B9) ∧ SlRN tTimer (outer w [e]).S w awh_0 cwh_0 wh.slots)) (X := Unit) (encs := (fun x k => [Vi (Wh.slotAt wh.slots k), .agg #[Vi ((Wh.timAt wh.slots k).id), Vi ((Wh.timAt wh.slots k).due)]])) (E := (fun x k => [])) (N := (Wh.timers wh.slots).length) rfl hf110 (wall1_ok wh awh_0 cwh_0 B9) (fun _ _ => rfl) (by decide) (St := Int × Int × Int × Int × List (Int × Unit))
    (fun ⟨sl, l0, l1, re, m⟩ => [box B8 [Vi l0, Vi l1] 52, box B7 [Vi sl] 3, mapE kInt (fun _ => .agg #[]) B5 m, box B2 [Vi re] 25])
    (fun k ⟨sl, l0, l1, re, m⟩ => Wh.CI wh m sl l0 l1 k)
    (fun c ⟨sl, l0, l1, re, m⟩ => (c = .ret ∧ (re = Wh.check wh)))
    [box B9 [Vi wh.now, .slice awh_0 wh.slots.length cwh_0.n] 50, box B6 [.map (some B5)] 118, box B1 [Vi wh.now, .slice awh_0 wh.slots.length cwh_0.n] 50, base w0]
    ((-1), 0, 0, 0, []) ?_ ?_ ?_ ?_ ?_ ?_
   ·exact Wh.CI.start wh
   ·exact fun w hw => hw.pick (H' := [box B8 [Vi 0, Vi 0] 52, box B7 [Vi (-1)] 3, mapE kInt (fun _ => .agg #[]) B5 ([]), box B2 [Vi 0] 25, box B9 [Vi wh.now, .slice awh_0 wh.slots.length cwh_0.n] 50, box B6 [.map (some B5)] 118, box B1 [Vi wh.now, .slice awh_0 wh.slots.length cwh_0.n] 50, base w0]) [1, 2, 4, 5, 0, 3, 6, 7] (by decide) rfl
   ·intro D e0 W1 hW1
    exact ⟨boxX (i := 2) (js := [0]) rfl (by decide) rfl W1 hW1, (rdXN (i := 5) (js := [0]) rfl (by decide) rfl (fun _ hA => slR_baseN hwh_0 hA)) W1 hW1⟩
   ·rintro l_ rc D e0 W1 hW1 x_ k ⟨sl, l0, l1, re, m⟩ hk hI
    have hI0 := hI
    have hor0_1 : SlRN tTimer (outer W1 [e0]).S W1 awh_0 cwh_0 wh.slots := (rdXN (i := 5) (js := [0]) rfl (by decide) rfl (fun _ hA => slR_baseN hwh_0 hA)) W1 hW1
    have hlhor0_1 := hor0_1.2.1
    have hobr0_B1 := boxX (i := 4) (B := B1) (cs := [Vi wh.now, .slice awh_0 wh.slots.length cwh_0.n]) (U := 50) (js := [0]) (pre := [e0]) rfl (by decide) rfl W1 hW1
    have hobr0_B6 := boxX (i := 3) (B := B6) (cs := [.map (some B5)]) (U := 118) (js := [0]) (pre := [e0]) rfl (by decide) rfl W1 hW1
    refine c_seq (c_region ?_)
    refine o_as rfl rfl ?_
    refine o_nil (q_then (c_region ?_))
    refine o_alloc ze52 rfl (fun B10 => ?_)
    refine o_storeN (i := 0) (vs := [Vi ((Wh.timAt wh.slots k).id), Vi ((Wh.timAt wh.slots k).due)]) (cs' := [Vi ((Wh.timAt wh.slots k).id), Vi ((Wh.timAt wh.slots k).due)]) rfl rfl rfl sz52 rfl rfl rfl rfl ?_
    refine o_nil ?_
    refine q_begin (i := 2) rfl ?_
    refine c_block (c_seq (c_region ?_))
    refine o_p (p_loadR (v := .map (some B5)) rfl (rbox_outer (i := 1) rfl hobr0_B6) sh118 rfl) ?_
    refine o_p (p_fieldAddr (j' := 0) rfl fo52_0 rfl) ?_
    refine o_p (p_load (i := 0) (v := Vi ((Wh.timAt wh.slots k).id)) rfl rfl sh3 rfl) ?_
    refine o_p (p_lookup2 (i := 5) (K := kInt) (ve := (fun _ => .agg #[])) (m := m) (k := (Wh.timAt wh.slots k).id) (dflt := ()) rfl rfl rfl Try.underlying118 Try.underlying3 zv119) ?_
    refine o_mv rfl rfl ?_
    refine o_ex rfl rfl rfl ?_
    refine o_ex rfl rfl rfl ?_
    refine o_alloc ze119 rfl (fun B11 => ?_)
    refine o_storeN (i := 0) (vs := []) (cs' := []) rfl rfl rfl sz119 rfl rfl rfl rfl ?_
    refine o_as rfl rfl ?_
    refine o_nil (q_then (c_seq (c_block (c_seq (c_region ?_)))))
    refine o_p (p_load_agg (i := 1) (vs := [Vi ((Wh.timAt wh.slots k).id), Vi ((Wh.timAt wh.slots k).due)]) rfl rfl sh52 rfl rfl) ?_
    refine o_p (p_fieldAddr (j' := 0) rfl fo50_0 rfl) ?_
    refine o_p (p_loadR (v := Vi wh.now) rfl (rbox_outer (i := 2) rfl hobr0_B1) sh3 rfl) ?_
    refine o_call0 (v := .bool (Wh.right (Wh.timAt wh.slots k) wh.now)) rfl (wright_ok (Wh.timAt wh.slots k) wh.now) hf66 (fun _ _ => trivial) rfl ?_
    refine o_p (p_not (b := (Wh.right (Wh.timAt wh.slots k) wh.now)) rfl) ?_
    refine o_as rfl rfl ?_
    refine o_nil (q_then ?_)
    refine c_cond rfl (fun hc12 => ?_) (fun hc12 => ?_)
    ·simp only [Bool.not_eq_true'] at hc12
     have hrt : Wh.right (Wh.timAt wh.slots k) wh.now = false := by simpa using hc12
     refine c_seq (c_region ?_)
     refine o_store (i := 7) (v := Vi 3) (cs' := [Vi 3]) rfl rfl rfl sz25 rfl rfl rfl ?_
     refine o_nil (q_then (c_ret ?_))
     refine q_block_ret (q_then_ret (q_block_ret ?_))
     refine q_leave (sl, l0, l1, 3, m) ?_ (fun w hw => hw.pick (H' := [outer W1 [e0], loopE l_ (recd rc .busy none), box B8 [Vi l0, Vi l1] 52, box B7 [Vi sl] 3, mapE kInt (fun _ => .agg #[]) B5 m, box B2 [Vi 3] 25]) [2, 3, 4, 5, 6, 7] (by decide) rfl)
     refine ⟨rfl, ?_⟩
     first | exact hI0.right hot2 h48 hk hrt | exact hI0.place hot2 h48 hk hrt (by omega) | exact hI0.twice hot2 h48 hk hrt (by omega) (by omega) (by simpa using htw)
    ·simp only [Bool.not_eq_false'] at hc12
     have hrt : Wh.right (Wh.timAt wh.slots k) wh.now = true := by simpa using hc12
     have hri := Wh.right_iff.1 hrt
     refine c_seq (c_seq (c_region ?_))
     refine o_p (p_fieldAddr (j' := 1) rfl fo52_1 rfl) ?_
     refine o_p (p_load (i := 1) (v := Vi ((Wh.timAt wh.slots k).due)) rfl rfl sh3 rfl) ?_
     refine o_p (p_fieldAddr (j' := 0) rfl fo50_0 rfl) ?_
     refine o_p (p_loadR (v := Vi wh.now) rfl (rbox_outer (i := 2) rfl hobr0_B1) sh3 rfl) ?_
     refine o_call0 (v := Vi (Wh.place ((Wh.timAt wh.slots k).due) wh.now)) rfl (wplace_ok ((Wh.timAt wh.slots k).due) wh.now (by first | assumption | omega) (by first | assumption | omega)) hf77 (fun _ _ => trivial) rfl ?_
     refine o_mv rfl rfl ?_
     refine o_p (p_ne rfl rfl) ?_
     refine o_as rfl rfl ?_
     refine o_nil (q_then ?_)
     refine c_cond rfl (fun hc13 => ?_) (fun hc13 => ?_)
     ·simp only [bne_iff_ne, ne_eq] at hc13
      have hpl := hc13
      refine c_skip (q_then ?_)
      refine c_cond rfl (fun hc14 => ?_) (fun hc14 => ?_)
      ·simp only [bne_iff_ne, ne_eq] at hc14
       refine c_seq (c_region ?_)
       refine o_store (i := 7) (v := Vi 4) (cs' := [Vi 4]) rfl rfl rfl sz25 rfl rfl rfl ?_
       refine o_nil (q_then (c_ret ?_))
       refine q_block_ret (q_then_ret (q_block_ret ?_))
       refine q_leave (sl, l0, l1, 4, m) ?_ (fun w hw => hw.pick (H' := [outer W1 [e0], loopE l_ (recd rc .busy none), box B8 [Vi l0, Vi l1] 52, box B7 [Vi sl] 3, mapE kInt (fun _ => .agg #[]) B5 m, box B2 [Vi 4] 25]) [2, 3, 4, 5, 6, 7] (by decide) rfl)
       refine ⟨rfl, ?_⟩
       first | exact hI0.right hot2 h48 hk hrt | exact hI0.place hot2 h48 hk hrt (by omega) | exact hI0.twice hot2 h48 hk hrt (by omega) (by omega) (by simpa using htw)
      ·simp only [bne_eq_false_iff_eq] at hc14
       exfalso; first | contradiction | omega | simp_all
     ·simp only [bne_eq_false_iff_eq] at hc13
      have hpl := hc13
      refine c_region ?_
      refine o_mv rfl rfl ?_
      refine o_p (p_load (i := 5) (v := Vi sl) rfl rfl sh3 rfl) ?_
      refine o_p (p_eq rfl rfl) ?_
      refine o_mv rfl rfl ?_
      refine o_and (p := 55) 5 (decide (0 ≤ (Wh.order (⟨l0, l1⟩ : DTimer) (Wh.timAt wh.slots k)))) ?_ ?_ ?_
      ·intro hb15 hk
       simp only [beq_iff_eq] at hb15
       refine o_unguard 50 rfl rfl ?_
       refine o_p (p_load_agg (i := 4) (vs := [Vi l0, Vi l1]) rfl rfl sh52 rfl rfl) ?_
       refine o_unguard 50 rfl rfl ?_
       refine o_p (p_load_agg (i := 1) (vs := [Vi ((Wh.timAt wh.slots k).id), Vi ((Wh.timAt wh.slots k).due)]) rfl rfl sh52 rfl rfl) ?_
       refine o_unguard 50 rfl rfl ?_
       refine o_call0 (v := Vi (Wh.order (⟨l0, l1⟩ : DTimer) (Wh.timAt wh.slots k))) rfl (worder_ok (⟨l0, l1⟩ : DTimer) (Wh.timAt wh.slots k)) hf74 (fun _ _ => trivial) rfl ?_
       refine o_unguard 50 rfl rfl ?_
       refine o_p (p_ge rfl rfl) ?_
       refine o_pt rfl rfl rfl ?_
       exact o_sub (sr (Sub.skip rfl (Sub.skip rfl (Sub.skip rfl (Sub.skip rfl (Sub.skip rfl (Sub.skip rfl (Sub.refl _)))))))) hk
      ·intro hb15 hk
       refine o_guard_no rfl 50 rfl rfl rfl rfl rfl ?_
       refine o_guard_no rfl 50 rfl rfl rfl rfl rfl ?_
       refine o_guard_no rfl 50 rfl rfl rfl rfl rfl ?_
       refine o_guard_no rfl 50 rfl rfl rfl rfl rfl ?_
       refine o_pf rfl rfl rfl ?_
       exact o_sub (sr (Sub.skip rfl (Sub.skip rfl (Sub.skip rfl (Sub.skip rfl (Sub.skip rfl (Sub.skip rfl (Sub.refl _)))))))) hk
      refine o_as rfl rfl ?_
      refine o_nil (q_then ?_)
      refine c_cond rfl (fun hc16 => ?_) (fun hc16 => ?_)
      ·simp only [Bool.and_eq_true, beq_iff_eq, decide_eq_true_eq] at hc16
       refine c_seq (c_region ?_)
       refine o_store (i := 7) (v := Vi 4) (cs' := [Vi 4]) rfl rfl rfl sz25 rfl rfl rfl ?_
       refine o_nil (q_then (c_ret ?_))
       refine q_block_ret (q_then_ret (q_block_ret ?_))
       refine q_leave (sl, l0, l1, 4, m) ?_ (fun w hw => hw.pick (H' := [outer W1 [e0], loopE l_ (recd rc .busy none), box B8 [Vi l0, Vi l1] 52, box B7 [Vi sl] 3, mapE kInt (fun _ => .agg #[]) B5 m, box B2 [Vi 4] 25]) [2, 3, 4, 5, 6, 7] (by decide) rfl)
       refine ⟨rfl, ?_⟩
       first | exact hI0.right hot2 h48 hk hrt | exact hI0.place hot2 h48 hk hrt (by omega) | exact hI0.twice hot2 h48 hk hrt (by omega) (by omega) (by simpa using htw)
      ·simp only [Bool.and_eq_false_iff, beq_eq_false_iff_ne, ne_eq, decide_eq_false_iff_not, Int.not_le] at hc16
       refine c_seq (c_region ?_)
       refine o_mv rfl rfl ?_
       refine o_as rfl rfl ?_
       refine o_nil (q_then ?_)
       refine c_cond rfl (fun hc17 => ?_) (fun hc17 => ?_)
       ·skip
        have htw := hc17
        refine c_seq (c_region ?_)
        refine o_store (i := 7) (v := Vi 6) (cs' := [Vi 6]) rfl rfl rfl sz25 rfl rfl rfl ?_
        refine o_nil (q_then (c_ret ?_))
        refine q_block_ret (q_then_ret (q_block_ret ?_))
        refine q_leave (sl, l0, l1, 6, m) ?_ (fun w hw => hw.pick (H' := [outer W1 [e0], loopE l_ (recd rc .busy none), box B8 [Vi l0, Vi l1] 52, box B7 [Vi sl] 3, mapE kInt (fun _ => .agg #[]) B5 m, box B2 [Vi 6] 25]) [2, 3, 4, 5, 6, 7] (by decide) rfl)
        refine ⟨rfl, ?_⟩
        first | exact hI0.right hot2 h48 hk hrt | exact hI0.place hot2 h48 hk hrt (by omega) | exact hI0.twice hot2 h48 hk hrt (by omega) (by omega) (by simpa using htw)
       ·skip
        have htw := hc17
        refine c_skip ?_
        refine q_block_normal (q_then ?_)
        refine c_seq (c_region ?_)
        refine o_p (p_loadR (v := .map (some B5)) rfl (rbox_outer (i := 2) rfl hobr0_B6) sh118 rfl) ?_
        refine o_p (p_fieldAddr (j' := 0) rfl fo52_0 rfl) ?_
        refine o_p (p_load (i := 1) (v := Vi ((Wh.timAt wh.slots k).id)) rfl rfl sh3 rfl) ?_
        refine o_p (p_build (cells := []) fp119 ze119 rfl rfl) ?_
        refine o_mapUpdate (i := 6) (K := kInt) (ve := (fun _ => .agg #[])) (m := m) (k := (Wh.timAt wh.slots k).id) (v := ()) rfl rfl rfl rfl Try.underlying118 Try.underlying3 ?_
        refine o_nil (q_then ?_)
        refine c_heldR hmix (by decide) (fun _ _ h => h) [box B11 [] 119, box B10 [Vi ((Wh.timAt wh.slots k).id), Vi ((Wh.timAt wh.slots k).due)] 52, outer W1 [e0], loopE l_ (recd rc .busy none), mapE kInt (fun _ => .agg #[]) B5 (AL.set m ((Wh.timAt wh.slots k).id) ()), box B2 [Vi re] 25] rfl rfl ?_
        refine h_tk (i := 0) (ls := #[T1,F0,F0,F0]) rfl (p_move rfl) (dp (lj (lj (lj (lj (lz (lz (lj (lj (ln)))))))))) ?_
        refine h_tk (i := 1) (ls := #[T1,T1,F0,F0]) rfl (p_load_agg (i := 1) (vs := [Vi ((Wh.timAt wh.slots k).id), Vi ((Wh.timAt wh.slots k).due)]) rfl rfl sh52 rfl rfl) (dp (lj (lj (lj (lj (lz (lz (lj (lj (ln)))))))))) ?_
        refine h_one (i := 2) (ls := #[T1,T1,T1,F0]) (by kernel_rfl) rfl rfl ?_
        refine o_store (i := 5) (v := Vi (Wh.slotAt wh.slots k)) (cs' := [Vi (Wh.slotAt wh.slots k)]) rfl rfl rfl sz3 rfl rfl rfl ?_
        refine o_nil ?_
        refine h_next (dp (lj (lj (lj (lj (lz (lz (lj (lj (ln)))))))))) ?_
        refine h_one (i := 3) (ls := #[T1,T1,T1,T1]) (by kernel_rfl) rfl rfl ?_
        refine o_storeN (i := 4) (vs := [Vi ((Wh.timAt wh.slots k).id), Vi ((Wh.timAt wh.slots k).due)]) (cs' := [Vi ((Wh.timAt wh.slots k).id), Vi ((Wh.timAt wh.slots k).due)]) rfl rfl rfl sz52 rfl rfl rfl rfl ?_
        refine o_nil ?_
        refine h_next (dp (lj (lj (lj (lj (lz (lz (lj (lj (ln)))))))))) ?_
        refine h_done (by kernel_rfl) ?_
        refine q_block_normal ?_
        refine q_next ((Wh.slotAt wh.slots k), (Wh.timAt wh.slots k).id, (Wh.timAt wh.slots k).due, re, (AL.set m ((Wh.timAt wh.slots k).id) ())) ?_ (fun w hw => hw.pick (H' := [outer W1 [e0], loopE l_ (recd rc .busy none), box B8 [Vi ((Wh.timAt wh.slots k).id), Vi ((Wh.timAt wh.slots k).due)] 52, box B7 [Vi (Wh.slotAt wh.slots k)] 3, mapE kInt (fun _ => .agg #[]) B5 (AL.set m ((Wh.timAt wh.slots k).id) ()), box B2 [Vi re] 25]) [2, 3, 4, 5, 6, 7] (by decide) rfl)
        exact hI0.next hk hrt (by omega) (by omega) (by simpa using htw) _
   ·rintro D ⟨sl, l0, l1, re, m⟩ hI
    show SQ _ 67 w0 _ _ _ [defE D, box B8 [Vi l0, Vi l1] 52, box B7 [Vi sl] 3, mapE kInt (fun _ => .agg #[]) B5 m, box B2 [Vi re] 25, box B9 [Vi wh.now, .slice awh_0 wh.slots.length cwh_0.n] 50, box B6 [.map (some B5)] 118, box B1 [Vi wh.now, .slice awh_0 wh.slots.length cwh_0.n] 50, base w0]
    refine q_block_normal (q_then ?_)
    refine c_seq (c_seq (c_region ?_))
    refine o_p (p_load (i := 6) (v := .map (some B5)) rfl rfl sh118 rfl) ?_
    refine o_p (p_len_map (i := 3) (K := kInt) (ve := (fun _ => .agg #[])) (m := m) rfl rfl rfl Try.underlying118) ?_
    refine o_p (p_gt rfl rfl) ?_
    refine o_nil (q_then ?_)
    refine c_cond rfl (fun hc19 => ?_) (fun hc19 => ?_)
    ·simp only [decide_eq_true_eq] at hc19
     refine c_seq (c_region ?_)
     refine o_store (i := 4) (v := Vi 2) (cs' := [Vi 2]) rfl rfl rfl sz25 rfl rfl rfl ?_
     refine o_nil (q_then (c_ret ?_))
     refine q_then_ret ?_
     refine q_marks (i := 0) rfl ?_
     show SQ _ 67 w0 _ _ _ [box B8 [Vi l0, Vi l1] 52, box B7 [Vi sl] 3, mapE kInt (fun _ => .agg #[]) B5 m, box B2 [Vi 2] 25, box B9 [Vi wh.now, .slice awh_0 wh.slots.length cwh_0.n] 50, box B6 [.map (some B5)] 118, box B1 [Vi wh.now, .slice awh_0 wh.slots.length cwh_0.n] 50, base w0]
     refine q_marks0 ?_
     have hr0 : (2 : Int) = (Wh.check wh) := by
      first | exact Wh.ch1 (by simpa using hot) | exact Wh.ch2 hot2 (by omega) | exact hI.many hot2 h48 (by omega) | exact hI.fine hot2 h48 (by omega) | exact hI
     refine q_end0 (v := Vi 2) (rt1 rfl (r_cell1 (i := 3) rfl rfl sh25)) (i := 7) rfl ?_
     exact (by have hcc := congrArg (fun (y0 : Int) => (.int .i64 y0 : Value)) hr0; exact hcc)
    ·simp only [decide_eq_false_iff_not, Int.not_lt] at hc19
     refine c_skip (q_then (c_seq (c_region ?_)))
     refine o_store (i := 4) (v := Vi 0) (cs' := [Vi 0]) rfl rfl rfl sz25 rfl rfl rfl ?_
     refine o_nil (q_then (c_ret ?_))
     refine q_marks (i := 0) rfl ?_
     show SQ _ 67 w0 _ _ _ [box B8 [Vi l0, Vi l1] 52, box B7 [Vi sl] 3, mapE kInt (fun _ => .agg #[]) B5 m, box B2 [Vi 0] 25, box B9 [Vi wh.now, .slice awh_0 wh.slots.length cwh_0.n] 50, box B6 [.map (some B5)] 118, box B1 [Vi wh.now, .slice awh_0 wh.slots.length cwh_0.n] 50, base w0]
     refine q_marks0 ?_
     have hr0 : (0 : Int) = (Wh.check wh) := by
      first | exact Wh.ch1 (by simpa using hot) | exact Wh.ch2 hot2 (by omega) | exact hI.many hot2 h48 (by omega) | exact hI.fine hot2 h48 (by omega) | exact hI
     refine q_end0 (v := Vi 0) (rt1 rfl (r_cell1 (i := 3) rfl rfl sh25)) (i := 7) rfl ?_
     exact (by have hcc := congrArg (fun (y0 : Int) => (.int .i64 y0 : Value)) hr0; exact hcc)
   ·rintro D c ⟨sl, l0, l1, re, m⟩ hx
    rcases hx with ⟨rfl, hI⟩
    ·show SC _ _ Try.prog 67 w0 _ _ _ [defE D, box B8 [Vi l0, Vi l1] 52, box B7 [Vi sl] 3, mapE kInt (fun _ => .agg #[]) B5 m, box B2 [Vi re] 25, box B9 [Vi wh.now, .slice awh_0 wh.slots.length cwh_0.n] 50, box B6 [.map (some B5)] 118, box B1 [Vi wh.now, .slice awh_0 wh.slots.length cwh_0.n] 50, base w0]
     refine c_ret ?_
     refine q_block_ret (q_then_ret ?_)
     refine q_marks (i := 0) rfl ?_
     show SQ _ 67 w0 _ _ _ [box B8 [Vi l0, Vi l1] 52, box B7 [Vi sl] 3, mapE kInt (fun _ => .agg #[]) B5 m, box B2 [Vi re] 25, box B9 [Vi wh.now, .slice awh_0 wh.slots.length cwh_0.n] 50, box B6 [.map (some B5)] 118, box B1 [Vi wh.now, .slice awh_0 wh.slots.length cwh_0.n] 50, base w0]
     refine q_marks0 ?_
     have hr0 : (re : Int) = (Wh.check wh) := by
      first | exact Wh.ch1 (by simpa using hot) | exact Wh.ch2 hot2 (by omega) | exact hI.many hot2 h48 (by omega) | exact hI.fine hot2 h48 (by omega) | exact hI
     refine q_end0 (v := Vi re) (rt1 rfl (r_cell1 (i := 3) rfl rfl sh25)) (i := 7) rfl ?_
     exact (by have hcc := congrArg (fun (y0 : Int) => (.int .i64 y0 : Value)) hr0; exact hcc)

set_option maxHeartbeats 8000000 in
set_option maxRecDepth 100000 in
theorem wnext_ok (wh : DWheel) (awh_0 : Option Addr) (cwh_0 : NC) : Fn0 Try.prog 33 [.agg #[Vi wh.now, .slice awh_0 wh.slots.length cwh_0.n]] (fun w => RdN tTimer w awh_0 cwh_0 wh.slots) (.tuple #[Vi (Wh.next wh), Vi (Wh.nextErr wh)]) := by
 refine fn0R (nt := 18) (F0 := [(0, .agg #[Vi wh.now, .slice awh_0 wh.slots.length cwh_0.n])]) Try.func33 rfl Try.ntmps33 rfl rfl (fun w0 hpre => ?_)
 have hwh_0 := hpre
 have hlhwh_0 := hwh_0.2.1
 refine c_seq (c_region ?_)
 refine o_box (v := .agg #[Vi wh.now, .slice awh_0 wh.slots.length cwh_0.n]) rfl rfl (fun B1 => ?_)
 refine o_alloc ze3 rfl (fun B2 => ?_)
 refine o_alloc ze25 rfl (fun B3 => ?_)
 refine o_nil (q_then (c_seq (c_seq (c_region ?_))))
 refine o_p (p_load_agg (i := 2) (vs := [Vi wh.now, .slice awh_0 wh.slots.length cwh_0.n]) rfl rfl sh50 rfl rfl) ?_
 refine o_call0 (v := Vi (Wh.check wh)) rfl (wcheck_ok wh awh_0 cwh_0) hf41 (fun w hw => (rd_baseN (i := 3) rfl hwh_0) w hw) rfl ?_
 refine o_as rfl rfl ?_
 refine o_nil (q_then (c_seq (c_region ?_)))
 refine o_mv rfl rfl ?_
 refine o_p (p_ne rfl rfl) ?_
 refine o_nil (q_then ?_)
 refine c_cond rfl (fun hc4 => ?_) (fun hc4 => ?_)
 ·simp only [bne_iff_ne, ne_eq] at hc4
  have hch := hc4
  refine c_seq (c_region ?_)
  refine o_mv rfl rfl ?_
  refine o_store (i := 1) (v := Vi 0) (cs' := [Vi 0]) rfl rfl rfl sz3 rfl rfl rfl ?_
  refine o_store (i := 0) (v := Vi (Wh.check wh)) (cs' := [Vi (Wh.check wh)]) rfl rfl rfl sz25 rfl rfl rfl ?_
  refine o_nil (q_then (c_ret ?_))
  refine q_then_ret ?_
  refine q_marks0 ?_
  have hr0 : (0 : Int) = (Wh.next wh) := by
   first | exact hI.1 | exact hI.2 | exact (Wh.nx1 (by omega)).1 | exact (Wh.nx1 (by omega)).2 | exact (Wh.nx2 (by omega) (by omega)).1 | exact (Wh.nx2 (by omega) (by omega)).2
  have hr1 : ((Wh.check wh) : Int) = (Wh.nextErr wh) := by
   first | exact hI.1 | exact hI.2 | exact (Wh.nx1 (by omega)).1 | exact (Wh.nx1 (by omega)).2 | exact (Wh.nx2 (by omega) (by omega)).1 | exact (Wh.nx2 (by omega) (by omega)).2
  refine q_end0 (v := .tuple #[Vi 0, Vi (Wh.check wh)]) (rt2 rfl (r_cell1 (i := 1) rfl rfl sh3) (r_cell1 (i := 0) rfl rfl sh25)) (i := 3) rfl ?_
  exact (by have hcc := congr (congrArg (fun (y0 : Int) (y1 : Int) => (.tuple #[.int .i64 y0, .int .i64 y1] : Value)) hr0) hr1; exact hcc)
 ·simp only [bne_eq_false_iff_eq] at hc4
  have hch := hc4
  refine c_skip (q_then (c_seq (c_seq (c_region ?_))))
  refine o_p (p_load_agg (i := 2) (vs := [Vi wh.now, .slice awh_0 wh.slots.length cwh_0.n]) rfl rfl sh50 rfl rfl) ?_
  refine o_callX (pre := []) (R := [box B3 [Vi 0] 25, box B2 [Vi 0] 3, box B1 [Vi wh.now, .slice awh_0 wh.slots.length cwh_0.n] 50, base w0]) rfl (wall_ok wh awh_0 cwh_0) hf72 rfl (fun _ _ => trivial) rfl ?_
  rintro B5
  refine o_asH (H' := [box B5 [Vi wh.now, .slice awh_0 wh.slots.length cwh_0.n] 50, box B3 [Vi 0] 25, box B2 [Vi 0] 3, box B1 [Vi wh.now, .slice awh_0 wh.slots.length cwh_0.n] 50, base w0]) rfl ?_
  refine o_nil (q_then (c_block ?_))
  refine c_rangeFunc (f := 110) (caps := [.pointer (some ⟨B5, 0, none⟩)]) (Pr := (fun e w => ((box B5 [Vi wh.now, .slice awh_0 wh.slots.length cwh_0.n] 50).A w ∧ (outer w [e]).S B5) ∧ SlRN tTimer (outer w [e]).S w awh_0 cwh_0 wh.slots)) (X := Unit) (encs := (fun x k => [Vi (Wh.slotAt wh.slots k), .agg #[Vi ((Wh.timAt wh.slots k).id), Vi ((Wh.timAt wh.slots k).due)]])) (E := (fun x k => [])) (N := (Wh.timers wh.slots).length) rfl hf110 (wall1_ok wh awh_0 cwh_0 B5) (fun _ _ => rfl) (by decide) (St := Int × Int)
   (fun ⟨ra, rb⟩ => [box B3 [Vi rb] 25, box B2 [Vi ra] 3])
   (fun k ⟨ra, rb⟩ => k = 0)
   (fun c ⟨ra, rb⟩ => (c = .ret ∧ (ra = Wh.next wh ∧ rb = Wh.nextErr wh)))
   [box B5 [Vi wh.now, .slice awh_0 wh.slots.length cwh_0.n] 50, box B1 [Vi wh.now, .slice awh_0 wh.slots.length cwh_0.n] 50, base w0]
   (0, 0) ?_ ?_ ?_ ?_ ?_ ?_
  ·rfl
  ·exact fun w hw => hw.pick (H' := [box B3 [Vi 0] 25, box B2 [Vi 0] 3, box B5 [Vi wh.now, .slice awh_0 wh.slots.length cwh_0.n] 50, box B1 [Vi wh.now, .slice awh_0 wh.slots.length cwh_0.n] 50, base w0]) [1, 2, 0, 3, 4] (by decide) rfl
  ·intro D e0 W1 hW1
   exact ⟨boxX (i := 2) (js := [0]) rfl (by decide) rfl W1 hW1, (rdXN (i := 4) (js := [0]) rfl (by decide) rfl (fun _ hA => slR_baseN hwh_0 hA)) W1 hW1⟩
  ·rintro l_ rc D e0 W1 hW1 x_ k ⟨ra, rb⟩ hk hI
   refine c_region ?_
   refine o_alloc ze52 rfl (fun B6 => ?_)
   refine o_storeN (i := 0) (vs := [Vi ((Wh.timAt wh.slots k).id), Vi ((Wh.timAt wh.slots k).due)]) (cs' := [Vi ((Wh.timAt wh.slots k).id), Vi ((Wh.timAt wh.slots k).due)]) rfl rfl rfl sz52 rfl rfl rfl rfl ?_
   refine o_nil ?_
   refine q_begin (i := 2) rfl ?_
   refine c_block (c_seq (c_region ?_))
   refine o_p (p_fieldAddr (j' := 1) rfl fo52_1 rfl) ?_
   refine o_p (p_load (i := 0) (v := Vi ((Wh.timAt wh.slots k).due)) rfl rfl sh3 rfl) ?_
   refine o_store (i := 4) (v := Vi ((Wh.timAt wh.slots k).due)) (cs' := [Vi ((Wh.timAt wh.slots k).due)]) rfl rfl rfl sz3 rfl rfl rfl ?_
   refine o_store (i := 3) (v := Vi 0) (cs' := [Vi 0]) rfl rfl rfl sz25 rfl rfl rfl ?_
   refine o_nil (q_then (c_ret ?_))
   refine q_block_ret ?_
   refine q_leave ((Wh.timAt wh.slots k).due, 0) ?_ (fun w hw => hw.pick (H' := [outer W1 [e0], loopE l_ (recd rc .busy none), box B3 [Vi 0] 25, box B2 [Vi ((Wh.timAt wh.slots k).due)] 3]) [1, 2, 3, 4] (by decide) rfl)
   refine ⟨rfl, ?_⟩
   (subst hI; exact Wh.nx3 (by omega) hk)
  ·rintro D ⟨ra, rb⟩ hI
   show SQ _ 18 w0 _ _ _ [defE D, box B3 [Vi rb] 25, box B2 [Vi ra] 3, box B5 [Vi wh.now, .slice awh_0 wh.slots.length cwh_0.n] 50, box B1 [Vi wh.now, .slice awh_0 wh.slots.length cwh_0.n] 50, base w0]
   refine q_block_normal (q_then ?_)
   refine c_seq (c_region ?_)
   refine o_store (i := 2) (v := Vi 0) (cs' := [Vi 0]) rfl rfl rfl sz3 rfl rfl rfl ?_
   refine o_store (i := 1) (v := Vi 5) (cs' := [Vi 5]) rfl rfl rfl sz25 rfl rfl rfl ?_
   refine o_nil (q_then (c_ret ?_))
   refine q_marks (i := 0) rfl ?_
   show SQ _ 18 w0 _ _ _ [box B3 [Vi 5] 25, box B2 [Vi 0] 3, box B5 [Vi wh.now, .slice awh_0 wh.slots.length cwh_0.n] 50, box B1 [Vi wh.now, .slice awh_0 wh.slots.length cwh_0.n] 50, base w0]
   refine q_marks0 ?_
   have hr0 : (0 : Int) = (Wh.next wh) := by
    first | exact hI.1 | exact hI.2 | exact (Wh.nx1 (by omega)).1 | exact (Wh.nx1 (by omega)).2 | exact (Wh.nx2 (by omega) (by omega)).1 | exact (Wh.nx2 (by omega) (by omega)).2
   have hr1 : (5 : Int) = (Wh.nextErr wh) := by
    first | exact hI.1 | exact hI.2 | exact (Wh.nx1 (by omega)).1 | exact (Wh.nx1 (by omega)).2 | exact (Wh.nx2 (by omega) (by omega)).1 | exact (Wh.nx2 (by omega) (by omega)).2
   refine q_end0 (v := .tuple #[Vi 0, Vi 5]) (rt2 rfl (r_cell1 (i := 1) rfl rfl sh3) (r_cell1 (i := 0) rfl rfl sh25)) (i := 4) rfl ?_
   exact (by have hcc := congr (congrArg (fun (y0 : Int) (y1 : Int) => (.tuple #[.int .i64 y0, .int .i64 y1] : Value)) hr0) hr1; exact hcc)
  ·rintro D c ⟨ra, rb⟩ hx
   rcases hx with ⟨rfl, hI⟩
   ·show SC _ _ Try.prog 18 w0 _ _ _ [defE D, box B3 [Vi rb] 25, box B2 [Vi ra] 3, box B5 [Vi wh.now, .slice awh_0 wh.slots.length cwh_0.n] 50, box B1 [Vi wh.now, .slice awh_0 wh.slots.length cwh_0.n] 50, base w0]
    refine c_ret ?_
    refine q_block_ret (q_then_ret ?_)
    refine q_marks (i := 0) rfl ?_
    show SQ _ 18 w0 _ _ _ [box B3 [Vi rb] 25, box B2 [Vi ra] 3, box B5 [Vi wh.now, .slice awh_0 wh.slots.length cwh_0.n] 50, box B1 [Vi wh.now, .slice awh_0 wh.slots.length cwh_0.n] 50, base w0]
    refine q_marks0 ?_
    have hr0 : (ra : Int) = (Wh.next wh) := by
     first | exact hI.1 | exact hI.2 | exact (Wh.nx1 (by omega)).1 | exact (Wh.nx1 (by omega)).2 | exact (Wh.nx2 (by omega) (by omega)).1 | exact (Wh.nx2 (by omega) (by omega)).2
    have hr1 : (rb : Int) = (Wh.nextErr wh) := by
     first | exact hI.1 | exact hI.2 | exact (Wh.nx1 (by omega)).1 | exact (Wh.nx1 (by omega)).2 | exact (Wh.nx2 (by omega) (by omega)).1 | exact (Wh.nx2 (by omega) (by omega)).2
    refine q_end0 (v := .tuple #[Vi ra, Vi rb]) (rt2 rfl (r_cell1 (i := 1) rfl rfl sh3) (r_cell1 (i := 0) rfl rfl sh25)) (i := 4) rfl ?_
    exact (by have hcc := congr (congrArg (fun (y0 : Int) (y1 : Int) => (.tuple #[.int .i64 y0, .int .i64 y1] : Value)) hr0) hr1; exact hcc)
end Go.Proofs.Ytnmbkopnopaigaa

/- The walks, printed by a program from the translation and a specification. -/
namespace Go.Proofs.Ytnmbkopnopaigaa
open Go.Sx Go.RowKit
set_option maxHeartbeats 8000000 in
set_option maxRecDepth 100000 in
theorem clone_Timer_ok (l : List DTimer) (al : Option Addr) (cl : Nat) (hy1 : l.length ≤ 1000000) : FnM Try.prog 107 [.slice al l.length cl] (fun w => Rd tTimer w al cl l) (Option Addr × Nat) (fun p => .slice p.1 l.length p.2) (fun p S w => SlO tTimer S w p.1 p.2 l) := by
 refine fnM (nt := 8) (F0 := [(0, .slice al l.length cl)]) Try.func107 rfl Try.ntmps107 rfl rfl (fun w0 hpre => ?_)
 have hl := hpre
 have hlhl := hl.2.1
 refine c_seq (c_region ?_)
 refine o_as rfl rfl ?_
 refine o_nil (q_then (c_seq (c_seq (c_region ?_))))
 refine o_mv rfl rfl ?_
 refine o_p (p_eqNil rfl rfl Try.underlying57) ?_
 refine o_nil (q_then ?_)
 refine c_cond rfl (fun hc1 => ?_) (fun hc1 => ?_)
 ·skip
  refine c_seq (c_region ?_)
  refine o_as rfl rfl ?_
  refine o_nil (q_then (c_ret ?_))
  refine q_then_ret ?_
  have hr0 : ([] : List DTimer) = l := by
   first | exact (rd_isNone hl (by assumption)).symm | simp
  refine q_endM (p := (none, 0)) (fun _ => False) (rt1 rfl (r_tmp rfl)) (i := 0) rfl ?_ ?_ ?_
  ·exact (by have hcc := congrArg (fun (y0 : List DTimer) => (.slice none y0.length 0 : Value)) hr0; exact hcc)
  ·intro w hw b hb; exact hb.elim
  ·intro w hw; exact Eq.mp (congrArg (fun y => SlO tTimer _ w none 0 y) hr0) (SlO.nil tTimer w)
 ·skip
  refine c_skip (q_then (c_seq (c_region ?_)))
  refine o_buildSlice (m := 0) (T := tTimer) (L := []) (vs := []) rfl rfl rfl rfl Try.underlying57 sz52 (by decide) ze52 rfl (by decide) rfl (fun S2 a3 => ?_)
  refine o_mv rfl rfl ?_
  refine o_append (i := 0) (L := []) (M := l) (T := tTimer) rfl rfl rfl (rd_base (i := 1) rfl hl) Try.underlying57 Try.underlying57 (by intro k h; cases h) el52 (by intro z; simp [tTimer, one1]) (by decide) (by simp only [List.length_nil]; omega) rfl (fun a5 c6 S7 => ?_)
  refine o_as rfl rfl ?_
  refine o_nil (q_then (c_ret ?_))
  have hr0 : (([] ++ l) : List DTimer) = l := by
   first | exact (rd_isNone hl (by assumption)).symm | simp
  refine q_endM (p := (a5, c6)) S7 (rt1 rfl (r_tmp rfl)) (i := 1) rfl ?_ ?_ ?_
  ·exact (by have hcc := congrArg (fun (y0 : List DTimer) => (.slice a5 y0.length c6 : Value)) hr0; exact hcc)
  ·exact fun w hw => hw.above (i := 1) (j := 0) (by decide) rfl rfl
  ·intro w hw; exact Eq.mp (congrArg (fun y => SlO tTimer _ w a5 c6 y) hr0) ((hw.at (i := 0) rfl).here)

set_option maxHeartbeats 8000000 in
set_option maxRecDepth 100000 in
theorem wown_ok (wh : DWheel) (awh_0 : Option Addr) (cwh_0 : NC) (hy1 : wh.slots.length ≤ 48 ∧ ∀ i, (wh.slots.getD i []).length ≤ 60) : FnM Try.prog 69 [.agg #[Vi wh.now, .slice awh_0 wh.slots.length cwh_0.n]] (fun w => RdN tTimer w awh_0 cwh_0 wh.slots) (Option Addr × NC) (fun p => .agg #[Vi wh.now, .slice p.1 wh.slots.length p.2.n]) (fun p S w => SlON tTimer S w p.1 p.2 wh.slots) := by
 refine fnM (nt := 25) (F0 := [(0, .agg #[Vi wh.now, .slice awh_0 wh.slots.length cwh_0.n])]) Try.func69 rfl Try.ntmps69 rfl rfl (fun w0 hpre => ?_)
 have hwh_0 := hpre
 have hlhwh_0 := hwh_0.2.1
 refine c_seq (c_region ?_)
 refine o_box (v := .agg #[Vi wh.now, .slice awh_0 wh.slots.length cwh_0.n]) rfl rfl (fun B1 => ?_)
 refine o_alloc ze50 rfl (fun B2 => ?_)
 refine o_nil (q_then (c_seq (c_region ?_)))
 refine o_p (p_fieldAddr (j' := 0) rfl fo50_0 rfl) ?_
 refine o_p (p_load (i := 1) (v := Vi wh.now) rfl rfl sh3 rfl) ?_
 refine o_p (p_build (cells := [Vi wh.now, .slice none 0 0]) fp50 ze50 rfl rfl) ?_
 refine o_alloc ze50 rfl (fun B3 => ?_)
 refine o_storeN (i := 0) (vs := [Vi wh.now, .slice none 0 0]) (cs' := [Vi wh.now, .slice none 0 0]) rfl rfl rfl sz50 rfl rfl rfl rfl ?_
 refine o_nil (q_then (c_seq (c_seq (c_region ?_))))
 refine o_p (p_fieldAddr (j' := 1) rfl fo50_1 rfl) ?_
 refine o_p (p_load (i := 2) (v := .slice awh_0 wh.slots.length cwh_0.n) rfl rfl sh48 rfl) ?_
 refine o_p (p_len_slice rfl rfl Try.underlying48) ?_
 refine o_mv rfl rfl ?_
 refine o_nil (q_then (c_block ?_))
 refine c_ownNilN tTimer ?_
 refine c_loop (St := Nat × DWheel × Option Addr × NC × (Nat → Prop))
  (fun ⟨k, oo, aoo_0, coo_0, Soo_0⟩ => [(2, .pointer (some ⟨B2, 0, none⟩)), (3, .pointer (some ⟨B3, 0, none⟩)), (10, .slice awh_0 wh.slots.length cwh_0.n), (11, Vi (wh.slots.length : Int)), (12, Vi (k : Int))])
  (fun ⟨k, oo, aoo_0, coo_0, Soo_0⟩ => [ownN tTimer Soo_0 aoo_0 coo_0 oo.slots, box B3 [Vi oo.now, .slice aoo_0 oo.slots.length coo_0.n] 50, box B2 [Vi 0, .slice none 0 0] 50, box B1 [Vi wh.now, .slice awh_0 wh.slots.length cwh_0.n] 50, base w0])
  (fun ⟨k, oo, aoo_0, coo_0, Soo_0⟩ => k ≤ wh.slots.length ∧ oo = ⟨wh.now, wh.slots.take k⟩)
  (fun ⟨k, oo, aoo_0, coo_0, Soo_0⟩ => wh.slots.length - k)
  (0, (⟨wh.now, []⟩ : DWheel), none, nc0, (fun _ => False)) ?_ (sr (sr (sr (sr (sr (Sub.nil _)))))) (fun _ hw => hw) ?_
 ·exact ⟨Nat.zero_le _, rfl⟩
 rintro ⟨k, oo, aoo_0, coo_0, Soo_0⟩ hI K hK5
 have hol : oo.slots.length = k := by rw [hI.2]; simp; omega
 show SC _ _ Try.prog 25 w0 _ _ [(2, .pointer (some ⟨B2, 0, none⟩)), (3, .pointer (some ⟨B3, 0, none⟩)), (10, .slice awh_0 wh.slots.length cwh_0.n), (11, Vi (wh.slots.length : Int)), (12, Vi (k : Int))] [ownN tTimer Soo_0 aoo_0 coo_0 oo.slots, box B3 [Vi oo.now, .slice aoo_0 oo.slots.length coo_0.n] 50, box B2 [Vi 0, .slice none 0 0] 50, box B1 [Vi wh.now, .slice awh_0 wh.slots.length cwh_0.n] 50, base w0]
 refine c_seq (c_region ?_)
 refine o_p (p_lt rfl rfl) ?_
 refine o_nil (q_then (c_seq ?_))
 refine c_cond rfl (fun hc6 => ?_) (fun hc6 => ?_)
 ·simp only [decide_eq_true_eq] at hc6
  have hrl := hy1.2 k
  refine c_skip (q_then (c_seq (c_block (c_seq (c_region ?_)))))
  refine o_p (p_indexAddrN (T := tTimer) (c := cwh_0) (LL := wh.slots) (i := (k : Int)) rfl rfl (rd_baseN (i := 4) rfl hwh_0) Try.underlying48 sz57 (by first | omega | decide) (by first | omega | decide)) ?_
  refine o_p (p_loadN (T := tTimer) (c := cwh_0) (LL := wh.slots) (i := k) rfl (rd_baseN (i := 4) rfl hwh_0) (by first | assumption | omega | decide) sh57) ?_
  refine o_as rfl rfl ?_
  refine o_nil (q_then ?_)
  refine c_cut (G := Option Addr × Nat × (Nat → Prop) × Option Addr × Option Addr × Nat × (Nat → Prop)) (fun ⟨a7_3, c7_3, S7_4, a7_4, a7_5, c7_5, S7_5⟩ => [(2, .pointer (some ⟨B2, 0, none⟩)), (3, .pointer (some ⟨B3, 0, none⟩)), (10, .slice awh_0 wh.slots.length cwh_0.n), (11, Vi (wh.slots.length : Int)), (12, Vi (k : Int))]) (fun ⟨a7_3, c7_3, S7_4, a7_4, a7_5, c7_5, S7_5⟩ => [ownN tTimer S7_5 a7_5 (coo_0.push c7_5 oo.slots.length a7_3 c7_3) (oo.slots ++ [(wh.slots.getD k [])]), own tHdE S7_4 a7_4 ([(⟨a7_3, (wh.slots.getD k []).length, c7_3⟩ : HdE)].length) ([(⟨a7_3, (wh.slots.getD k []).length, c7_3⟩ : HdE)]), box B3 [Vi oo.now, .slice a7_5 (oo.slots ++ [(wh.slots.getD k [])]).length (coo_0.push c7_5 oo.slots.length a7_3 c7_3).n] 50, box B2 [Vi 0, .slice none 0 0] 50, box B1 [Vi wh.now, .slice awh_0 wh.slots.length cwh_0.n] 50, base w0]) (fun K hK8 => ?_) ?_
  ·refine c_held hmix [box B2 [Vi 0, .slice none 0 0] 50, box B1 [Vi wh.now, .slice awh_0 wh.slots.length cwh_0.n] 50, base w0] rfl rfl ?_
   refine h_tk (i := 0) (ls := #[T1,F0,F0,F0,F0,F0,F0,F0]) rfl (p_fieldAddr (j' := 1) rfl fo50_1 rfl) (dp (lz (lz (lj (lj (lj (ln))))))) ?_
   refine h_tk (i := 2) (ls := #[T1,F0,T1,F0,F0,F0,F0,F0]) rfl (p_move rfl) (dp (lz (lz (lj (lj (lj (ln))))))) ?_
   refine h_two (i := 1) (j := 3) (ls := #[T1,T1,T1,F0,F0,F0,F0,F0]) (ls' := #[T1,F0,T1,T1,F0,F0,F0,F0]) (by kernel_rfl) rfl rfl rfl rfl ?_ ?_
   ·refine o_p (p_load (i := 1) (v := .slice aoo_0 oo.slots.length coo_0.n) rfl rfl sh48 rfl) ?_
    refine o_nil ?_
    refine h_next (dp (lz (lz (lj (lj (lj (ln))))))) ?_
    refine h_one (i := 3) (ls := #[T1,T1,T1,T1,F0,F0,F0,F0]) (by kernel_rfl) rfl rfl ?_
    refine o_callM rfl (clone_Timer_ok (wh.slots.getD k []) (cwh_0.ra k) (cwh_0.rc k) (by first | assumption | omega | (simp only [List.length_append, List.length_take, List.length_drop, List.length_cons, List.length_nil]; omega))) hf107 (fun w hw => (rd_rowN (i := k) (rd_baseN (i := 4) rfl hwh_0) (by first | assumption | omega)) w hw) rfl (fun _ _ _ _ ha hA => SlO.agree ha hA) ?_
    rintro ⟨a7_3, c7_3⟩ S7_3
    refine o_know (fun w hw => own_len (i := 0) (T := tTimer) hw rfl) (fun hlr7_3 => ?_)
    refine o_nil ?_
    refine h_next (dp (lz (lz (lz (lj (lj (lj (ln)))))))) ?_
    refine h_one (i := 4) (ls := #[T1,T1,T1,T1,T1,F0,F0,F0]) (by kernel_rfl) rfl rfl ?_
    refine o_buildSlice (m := 1) (T := tHdE) (L := [(⟨a7_3, (wh.slots.getD k []).length, c7_3⟩ : HdE)]) (vs := [.slice a7_3 (wh.slots.getD k []).length c7_3]) rfl rfl rfl rfl Try.underlying48 sz57 (by decide) ze57 rfl (by decide) rfl (fun S7_4 a7_4 => ?_)
    refine o_nil ?_
    refine h_next (dp (lz (lz (lz (lz (lj (lj (lj (ln))))))))) ?_
    refine h_one (i := 5) (ls := #[T1,T1,T1,T1,T1,T1,F0,F0]) (by kernel_rfl) rfl rfl ?_
    refine o_pick (H' := [ownN tTimer Soo_0 aoo_0 coo_0 oo.slots, own tTimer S7_3 a7_3 c7_3 (wh.slots.getD k []), own tHdE S7_4 a7_4 ([(⟨a7_3, (wh.slots.getD k []).length, c7_3⟩ : HdE)].length) ([(⟨a7_3, (wh.slots.getD k []).length, c7_3⟩ : HdE)]), box B3 [Vi oo.now, .slice aoo_0 oo.slots.length coo_0.n] 50, box B2 [Vi 0, .slice none 0 0] 50, box B1 [Vi wh.now, .slice awh_0 wh.slots.length cwh_0.n] 50, base w0]) [2, 1, 0, 3, 4, 5, 6] (by decide) rfl ?_
    refine o_appendN (j := 0) (T := tTimer) (c := coo_0) (LL := oo.slots) (L := (wh.slots.getD k [])) rfl rfl rfl Try.underlying48 Try.underlying48 (by intro k h; cases h) el57 (by first | omega | (simp only [List.length_cons, List.length_nil]; omega) | (simp only [List.length_append, List.length_cons, List.length_nil, List.length_take, List.length_drop]; omega)) rfl (fun a7_5 c7_5 S7_5 => ?_)
    refine o_nil ?_
    refine h_next (dp (lz (lz (lz (lj (lj (lj (ln)))))))) ?_
    refine h_tk (i := 6) (ls := #[T1,T1,T1,T1,T1,T1,T1,F0]) rfl (p_fieldAddr (j' := 1) rfl fo50_1 rfl) (dp (lz (lz (lz (lj (lj (lj (ln)))))))) ?_
    refine h_one (i := 7) (ls := #[T1,T1,T1,T1,T1,T1,T1,T1]) (by kernel_rfl) rfl rfl ?_
    refine o_store (i := 2) (v := .slice a7_5 (oo.slots ++ [(wh.slots.getD k [])]).length (coo_0.push c7_5 oo.slots.length a7_3 c7_3).n) (cs' := [Vi oo.now, .slice a7_5 (oo.slots ++ [(wh.slots.getD k [])]).length (coo_0.push c7_5 oo.slots.length a7_3 c7_3).n]) rfl rfl rfl sz48 rfl rfl rfl ?_
    refine o_nil ?_
    refine h_next (dp (lz (lz (lz (lj (lj (lj (ln)))))))) ?_
    refine h_done (by kernel_rfl) ?_
    refine q_kont hK8 (a7_3, c7_3, S7_4, a7_4, a7_5, c7_5, S7_5) (sr (sr (sr (sr (sr (Sub.nil _)))))) (pk [0, 1, 2, 3, 4, 5])
   ·refine o_callM rfl (clone_Timer_ok (wh.slots.getD k []) (cwh_0.ra k) (cwh_0.rc k) (by first | assumption | omega | (simp only [List.length_append, List.length_take, List.length_drop, List.length_cons, List.length_nil]; omega))) hf107 (fun w hw => (rd_rowN (i := k) (rd_baseN (i := 4) rfl hwh_0) (by first | assumption | omega)) w hw) rfl (fun _ _ _ _ ha hA => SlO.agree ha hA) ?_
    rintro ⟨a7_3, c7_3⟩ S7_3
    refine o_know (fun w hw => own_len (i := 0) (T := tTimer) hw rfl) (fun hlr7_3 => ?_)
    refine o_nil ?_
    refine h_next (dp (lz (lz (lz (lj (lj (lj (ln)))))))) ?_
    refine h_two (i := 1) (j := 4) (ls := #[T1,T1,T1,T1,F0,F0,F0,F0]) (ls' := #[T1,F0,T1,T1,T1,F0,F0,F0]) (by kernel_rfl) rfl rfl rfl rfl ?_ ?_
    ·refine o_p (p_load (i := 2) (v := .slice aoo_0 oo.slots.length coo_0.n) rfl rfl sh48 rfl) ?_
     refine o_nil ?_
     refine h_next (dp (lz (lz (lz (lj (lj (lj (ln)))))))) ?_
     refine h_one (i := 4) (ls := #[T1,T1,T1,T1,T1,F0,F0,F0]) (by kernel_rfl) rfl rfl ?_
     refine o_buildSlice (m := 1) (T := tHdE) (L := [(⟨a7_3, (wh.slots.getD k []).length, c7_3⟩ : HdE)]) (vs := [.slice a7_3 (wh.slots.getD k []).length c7_3]) rfl rfl rfl rfl Try.underlying48 sz57 (by decide) ze57 rfl (by decide) rfl (fun S7_4 a7_4 => ?_)
     refine o_nil ?_
     refine h_next (dp (lz (lz (lz (lz (lj (lj (lj (ln))))))))) ?_
     refine h_one (i := 5) (ls := #[T1,T1,T1,T1,T1,T1,F0,F0]) (by kernel_rfl) rfl rfl ?_
     refine o_pick (H' := [ownN tTimer Soo_0 aoo_0 coo_0 oo.slots, own tTimer S7_3 a7_3 c7_3 (wh.slots.getD k []), own tHdE S7_4 a7_4 ([(⟨a7_3, (wh.slots.getD k []).length, c7_3⟩ : HdE)].length) ([(⟨a7_3, (wh.slots.getD k []).length, c7_3⟩ : HdE)]), box B3 [Vi oo.now, .slice aoo_0 oo.slots.length coo_0.n] 50, box B2 [Vi 0, .slice none 0 0] 50, box B1 [Vi wh.now, .slice awh_0 wh.slots.length cwh_0.n] 50, base w0]) [2, 1, 0, 3, 4, 5, 6] (by decide) rfl ?_
     refine o_appendN (j := 0) (T := tTimer) (c := coo_0) (LL := oo.slots) (L := (wh.slots.getD k [])) rfl rfl rfl Try.underlying48 Try.underlying48 (by intro k h; cases h) el57 (by first | omega | (simp only [List.length_cons, List.length_nil]; omega) | (simp only [List.length_append, List.length_cons, List.length_nil, List.length_take, List.length_drop]; omega)) rfl (fun a7_5 c7_5 S7_5 => ?_)
     refine o_nil ?_
     refine h_next (dp (lz (lz (lz (lj (lj (lj (ln)))))))) ?_
     refine h_tk (i := 6) (ls := #[T1,T1,T1,T1,T1,T1,T1,F0]) rfl (p_fieldAddr (j' := 1) rfl fo50_1 rfl) (dp (lz (lz (lz (lj (lj (lj (ln)))))))) ?_
     refine h_one (i := 7) (ls := #[T1,T1,T1,T1,T1,T1,T1,T1]) (by kernel_rfl) rfl rfl ?_
     refine o_store (i := 2) (v := .slice a7_5 (oo.slots ++ [(wh.slots.getD k [])]).length (coo_0.push c7_5 oo.slots.length a7_3 c7_3).n) (cs' := [Vi oo.now, .slice a7_5 (oo.slots ++ [(wh.slots.getD k [])]).length (coo_0.push c7_5 oo.slots.length a7_3 c7_3).n]) rfl rfl rfl sz48 rfl rfl rfl ?_
     refine o_nil ?_
     refine h_next (dp (lz (lz (lz (lj (lj (lj (ln)))))))) ?_
     refine h_done (by kernel_rfl) ?_
     refine q_kont hK8 (a7_3, c7_3, S7_4, a7_4, a7_5, c7_5, S7_5) (sr (sr (sr (sr (sr (Sub.nil _)))))) (pk [0, 1, 2, 3, 4, 5])
    ·refine o_buildSlice (m := 1) (T := tHdE) (L := [(⟨a7_3, (wh.slots.getD k []).length, c7_3⟩ : HdE)]) (vs := [.slice a7_3 (wh.slots.getD k []).length c7_3]) rfl rfl rfl rfl Try.underlying48 sz57 (by decide) ze57 rfl (by decide) rfl (fun S7_4 a7_4 => ?_)
     refine o_nil ?_
     refine h_next (dp (lz (lz (lz (lz (lj (lj (lj (ln))))))))) ?_
     refine h_one (i := 1) (ls := #[T1,T1,T1,T1,T1,F0,F0,F0]) (by kernel_rfl) rfl rfl ?_
     refine o_p (p_load (i := 3) (v := .slice aoo_0 oo.slots.length coo_0.n) rfl rfl sh48 rfl) ?_
     refine o_nil ?_
     refine h_next (dp (lz (lz (lz (lz (lj (lj (lj (ln))))))))) ?_
     refine h_one (i := 5) (ls := #[T1,T1,T1,T1,T1,T1,F0,F0]) (by kernel_rfl) rfl rfl ?_
     refine o_pick (H' := [ownN tTimer Soo_0 aoo_0 coo_0 oo.slots, own tTimer S7_3 a7_3 c7_3 (wh.slots.getD k []), own tHdE S7_4 a7_4 ([(⟨a7_3, (wh.slots.getD k []).length, c7_3⟩ : HdE)].length) ([(⟨a7_3, (wh.slots.getD k []).length, c7_3⟩ : HdE)]), box B3 [Vi oo.now, .slice aoo_0 oo.slots.length coo_0.n] 50, box B2 [Vi 0, .slice none 0 0] 50, box B1 [Vi wh.now, .slice awh_0 wh.slots.length cwh_0.n] 50, base w0]) [2, 1, 0, 3, 4, 5, 6] (by decide) rfl ?_
     refine o_appendN (j := 0) (T := tTimer) (c := coo_0) (LL := oo.slots) (L := (wh.slots.getD k [])) rfl rfl rfl Try.underlying48 Try.underlying48 (by intro k h; cases h) el57 (by first | omega | (simp only [List.length_cons, List.length_nil]; omega) | (simp only [List.length_append, List.length_cons, List.length_nil, List.length_take, List.length_drop]; omega)) rfl (fun a7_5 c7_5 S7_5 => ?_)
     refine o_nil ?_
     refine h_next (dp (lz (lz (lz (lj (lj (lj (ln)))))))) ?_
     refine h_tk (i := 6) (ls := #[T1,T1,T1,T1,T1,T1,T1,F0]) rfl (p_fieldAddr (j' := 1) rfl fo50_1 rfl) (dp (lz (lz (lz (lj (lj (lj (ln)))))))) ?_
     refine h_one (i := 7) (ls := #[T1,T1,T1,T1,T1,T1,T1,T1]) (by kernel_rfl) rfl rfl ?_
     refine o_store (i := 2) (v := .slice a7_5 (oo.slots ++ [(wh.slots.getD k [])]).length (coo_0.push c7_5 oo.slots.length a7_3 c7_3).n) (cs' := [Vi oo.now, .slice a7_5 (oo.slots ++ [(wh.slots.getD k [])]).length (coo_0.push c7_5 oo.slots.length a7_3 c7_3).n]) rfl rfl rfl sz48 rfl rfl rfl ?_
     refine o_nil ?_
     refine h_next (dp (lz (lz (lz (lj (lj (lj (ln)))))))) ?_
     refine h_done (by kernel_rfl) ?_
     refine q_kont hK8 (a7_3, c7_3, S7_4, a7_4, a7_5, c7_5, S7_5) (sr (sr (sr (sr (sr (Sub.nil _)))))) (pk [0, 1, 2, 3, 4, 5])
  rintro ⟨a7_3, c7_3, S7_4, a7_4, a7_5, c7_5, S7_5⟩
  show SQ _ 25 w0 _ _ [(2, .pointer (some ⟨B2, 0, none⟩)), (3, .pointer (some ⟨B3, 0, none⟩)), (10, .slice awh_0 wh.slots.length cwh_0.n), (11, Vi (wh.slots.length : Int)), (12, Vi (k : Int))] [ownN tTimer S7_5 a7_5 (coo_0.push c7_5 oo.slots.length a7_3 c7_3) (oo.slots ++ [(wh.slots.getD k [])]), own tHdE S7_4 a7_4 ([(⟨a7_3, (wh.slots.getD k []).length, c7_3⟩ : HdE)].length) ([(⟨a7_3, (wh.slots.getD k []).length, c7_3⟩ : HdE)]), box B3 [Vi oo.now, .slice a7_5 (oo.slots ++ [(wh.slots.getD k [])]).length (coo_0.push c7_5 oo.slots.length a7_3 c7_3).n] 50, box B2 [Vi 0, .slice none 0 0] 50, box B1 [Vi wh.now, .slice awh_0 wh.slots.length cwh_0.n] 50, base w0]
  refine q_block_normal (q_then ?_)
  refine c_region ?_
  refine o_p (p_addb rfl rfl (by omega)) ?_
  refine o_mv rfl rfl ?_
  refine o_nil ?_
  refine q_round hK5 (k + 1, (⟨oo.now, (oo.slots ++ [(wh.slots.getD k [])])⟩ : DWheel), a7_5, (coo_0.push c7_5 oo.slots.length a7_3 c7_3), S7_5) ?_ ?_ ?_ ?_
  ·clear hK5
   exact ⟨by omega, by rw [hI.2, Wh.take_next (by omega)]⟩
  ·(try dsimp only); omega
  ·exact sr (sr (sr (sr (sr (Sub.nil _)))))
  ·exact pk [0, 2, 3, 4, 5]
 ·simp only [decide_eq_false_iff_not, Int.not_lt] at hc6
  refine c_exit ?_
  refine q_then_exit (q_then_exit (q_block_exit (q_then ?_)))
  refine c_seq (c_region ?_)
  refine o_p (p_load_agg (i := 1) (vs := [Vi oo.now, .slice aoo_0 oo.slots.length coo_0.n]) rfl rfl sh50 rfl rfl) ?_
  refine o_storeN (i := 2) (vs := [Vi oo.now, .slice aoo_0 oo.slots.length coo_0.n]) (cs' := [Vi oo.now, .slice aoo_0 oo.slots.length coo_0.n]) rfl rfl rfl sz50 rfl rfl rfl rfl ?_
  refine o_nil (q_then (c_ret ?_))
  have hr0 : (oo.now : Int) = wh.now := by
   first | (rw [hI.2]; exact List.take_of_length_le (by omega)) | (rw [hI.2])
  have hr1 : (oo.slots : List (List DTimer)) = wh.slots := by
   first | (rw [hI.2]; exact List.take_of_length_le (by omega)) | (rw [hI.2])
  refine q_endM (p := (aoo_0, coo_0)) Soo_0 (rt1 rfl (r_cell (i := 2) rfl rfl sh50 rfl)) (i := 4) rfl ?_ ?_ ?_
  ·exact (by have hcc := congr (congrArg (fun (y0 : Int) (y1 : List (List DTimer)) => (.agg #[.int .i64 y0, .slice aoo_0 y1.length coo_0.n] : Value)) hr0) hr1; exact hcc)
  ·exact fun w hw => hw.above (i := 4) (j := 0) (by decide) rfl rfl
  ·intro w hw; exact Eq.mp (congrArg (fun y => SlON tTimer _ w aoo_0 coo_0 y) hr1) ((hw.at (i := 0) rfl).here)

set_option maxHeartbeats 8000000 in
set_option maxRecDepth 100000 in
theorem bsearch_ok (l : List DTimer) (al : Option Addr) (cl : Nat) (target : DTimer) (gf : FuncId) (kf : List Value) (f : DTimer → DTimer → Int) (Pf : World → Prop) (stf : ∀ w w', Below w.heap.size w w' → Pf w → Pf w') (okf : ∀ (x : DTimer) (y : DTimer), Fn0 Try.prog gf (.agg #[Vi x.id, Vi x.due] :: .agg #[Vi y.id, Vi y.due] :: kf) Pf (Vi (f x y))) (hpf : HasFn Try.prog gf) (hy1 : Split (fun x => f x target) l) : Fn0 Try.prog 108 [.slice al l.length cl, .agg #[Vi target.id, Vi target.due], .func (.func gf) #[] kf.toArray] (fun w => Rd tTimer w al cl l ∧ Pf w) (.tuple #[Vi (lowF (fun x => f x target) l : Int), .bool (hitF (fun x => f x target) l)]) := by
 refine fn0 (nt := 49) (F0 := [(0, .slice al l.length cl), (1, .agg #[Vi target.id, Vi target.due]), (2, .func (.func gf) #[] kf.toArray)]) Try.func108 rfl Try.ntmps108 rfl rfl (fun w0 hpre => ?_)
 obtain ⟨hl, hf⟩ := hpre
 have hlhl := hl.2.1
 refine c_seq (c_region ?_)
 refine o_box (v := .agg #[Vi target.id, Vi target.due]) rfl rfl (fun B1 => ?_)
 refine o_as rfl rfl ?_
 refine o_as rfl rfl ?_
 refine o_nil (q_then (c_seq (c_region ?_)))
 refine o_mv rfl rfl ?_
 refine o_p (p_len_slice rfl rfl Try.underlying57) ?_
 refine o_as rfl rfl ?_
 refine o_nil (q_then (c_seq (c_region ?_)))
 refine o_mv rfl rfl ?_
 refine o_as rfl rfl ?_
 refine o_as rfl rfl ?_
 refine o_nil (q_then (c_seq (c_block ?_)))
 refine c_loop (St := Int × Int)
  (fun ⟨i, j⟩ => [(0, .slice al l.length cl), (2, .func (.func gf) #[] kf.toArray), (4, .pointer (some ⟨B1, 0, none⟩)), (8, Vi (l.length : Int)), (9, Vi i), (10, Vi j)])
  (fun ⟨i, j⟩ => [box B1 [Vi target.id, Vi target.due] 52, base w0])
  (fun ⟨i, j⟩ => LowI (fun x => f x target) l i j)
  (fun ⟨i, j⟩ => (j - i).toNat)
  (0, (l.length : Int)) ?_ (sr (sr (sr (sr (sr (sr (Sub.nil _))))))) (fun _ hw => hw) ?_
 ·exact LowI.start _ _
 rintro ⟨i, j⟩ hI K hK2
 have h0 := hI.i0
 have h1 := hI.ij
 have h2 := hI.jl
 have hh := half_eq h0 h1 (by omega)
 show SC _ _ Try.prog 49 w0 _ _ [(0, .slice al l.length cl), (2, .func (.func gf) #[] kf.toArray), (4, .pointer (some ⟨B1, 0, none⟩)), (8, Vi (l.length : Int)), (9, Vi i), (10, Vi j)] [box B1 [Vi target.id, Vi target.due] 52, base w0]
 refine c_seq (c_seq (c_region ?_))
 refine o_mv rfl rfl ?_
 refine o_mv rfl rfl ?_
 refine o_p (p_lt rfl rfl) ?_
 refine o_nil (q_then ?_)
 refine c_cond rfl (fun hc3 => ?_) (fun hc3 => ?_)
 ·simp only [decide_eq_true_eq] at hc3
  refine c_skip (q_then (c_block (c_seq (c_region ?_))))
  refine o_mv rfl rfl ?_
  refine o_mv rfl rfl ?_
  refine o_p (p_addb rfl rfl (by omega)) ?_
  refine o_p (pu_conv (z := (i + j)) rfl Try.underlying3 Try.underlying73) ?_
  refine o_p (pu_shr (p := (toU (i + j))) (m := 1) rfl rfl (by decide)) ?_
  refine o_p (p_conv (z := ((shrU (toU (i + j)) 1).toNat : Int)) rfl Try.underlying73 Try.underlying3) ?_
  refine o_as rfl rfl ?_
  refine o_nil (q_then (c_seq ?_))
  refine c_held hmix [box B1 [Vi target.id, Vi target.due] 52, base w0] rfl rfl ?_
  refine h_t0 (i := 0) (ls := #[T1,F0,F0,F0,F0,F0,F0,F0]) rfl (p_move rfl) ?_
  refine h_t0 (i := 1) (ls := #[T1,T1,F0,F0,F0,F0,F0,F0]) rfl (p_move rfl) ?_
  refine h_t0 (i := 2) (ls := #[T1,T1,T1,F0,F0,F0,F0,F0]) rfl (p_move rfl) ?_
  refine h_t0 (i := 3) (ls := #[T1,T1,T1,T1,F0,F0,F0,F0]) rfl (p_indexAddr (L := l) (T := tTimer) (i := (IntKind.i64.wrap ((shrU (toU (i + j)) 1).toNat : Int))) rfl rfl (rd_base (i := 1) rfl hl) Try.underlying57 sz52 (by omega) (by omega)) ?_
  refine h_t0 (i := 4) (ls := #[T1,T1,T1,T1,T1,F0,F0,F0]) rfl (p_loadEn (i := (IntKind.i64.wrap ((shrU (toU (i + j)) 1).toNat : Int)).toNat) (T := tTimer) (L := l) (vs := [Vi ((l.getD ((IntKind.i64.wrap ((shrU (toU (i + j)) 1).toNat : Int)).toNat) default).id), Vi ((l.getD ((IntKind.i64.wrap ((shrU (toU (i + j)) 1).toNat : Int)).toNat) default).due)]) rfl (rd_base (i := 1) rfl hl) (by first | assumption | omega) sh52 (congrArg tTimer.enc (getd_at (by first | assumption | omega) default))) ?_
  refine h_t0 (i := 5) (ls := #[T1,T1,T1,T1,T1,T1,F0,F0]) rfl (p_load_agg (i := 0) (vs := [Vi target.id, Vi target.due]) rfl rfl sh52 rfl rfl) ?_
  refine h_one (i := 6) (ls := #[T1,T1,T1,T1,T1,T1,T1,F0]) (by kernel_rfl) rfl rfl ?_
  refine o_call0V (vs := [.agg #[Vi ((l.getD ((IntKind.i64.wrap ((shrU (toU (i + j)) 1).toNat : Int)).toNat) default).id), Vi ((l.getD ((IntKind.i64.wrap ((shrU (toU (i + j)) 1).toNat : Int)).toNat) default).due)], .agg #[Vi target.id, Vi target.due]]) (caps := kf) (v := Vi (f (l.getD ((IntKind.i64.wrap ((shrU (toU (i + j)) 1).toNat : Int)).toNat) default) target)) rfl rfl (okf (l.getD ((IntKind.i64.wrap ((shrU (toU (i + j)) 1).toNat : Int)).toNat) default) target) hpf (pre_base (i := 1) rfl stf hf) rfl ?_
  refine o_nil ?_
  refine h_next (dp (lr)) ?_
  refine h_t0 (i := 7) (ls := #[T1,T1,T1,T1,T1,T1,T1,T1]) rfl (p_lt rfl rfl) ?_
  refine h_done (by kernel_rfl) ?_
  refine q_then ?_
  refine c_cond rfl (fun hc5 => ?_) (fun hc5 => ?_)
  ·simp only [decide_eq_true_eq] at hc5
   refine c_region ?_
   refine o_mv rfl rfl ?_
   refine o_p (p_addb rfl rfl (by omega)) ?_
   refine o_as rfl rfl ?_
   refine o_nil ?_
   refine q_block_normal ?_
   refine q_round hK2 (((IntKind.i64.wrap ((shrU (toU (i + j)) 1).toNat : Int)) + 1), j) ?_ ?_ ?_ ?_
   ·clear hK2
    first | exact hI.up hy1 (by omega) (by omega) (by omega) (by rw [getd_at (by omega) default]; assumption) | exact hI.down hy1 (by omega) (by omega) (by omega) (by rw [getd_at (by omega) default]; assumption)
   ·(try dsimp only); omega
   ·exact sr (sr (sr (sr (sr (sr (Sub.nil _))))))
   ·exact pk [0, 1]
  ·simp only [decide_eq_false_iff_not, Int.not_lt] at hc5
   refine c_region ?_
   refine o_mv rfl rfl ?_
   refine o_as rfl rfl ?_
   refine o_nil ?_
   refine q_block_normal ?_
   refine q_round hK2 (i, (IntKind.i64.wrap ((shrU (toU (i + j)) 1).toNat : Int))) ?_ ?_ ?_ ?_
   ·clear hK2
    first | exact hI.up hy1 (by omega) (by omega) (by omega) (by rw [getd_at (by omega) default]; assumption) | exact hI.down hy1 (by omega) (by omega) (by omega) (by rw [getd_at (by omega) default]; assumption)
   ·(try dsimp only); omega
   ·exact sr (sr (sr (sr (sr (sr (Sub.nil _))))))
   ·exact pk [0, 1]
 ·simp only [decide_eq_false_iff_not, Int.not_lt] at hc3
  refine c_exit ?_
  refine q_then_exit (q_then_exit (q_block_exit (q_then ?_)))
  refine c_seq ?_
  rcases hkn : decide (i < (l.length : Int)) with _ | _
  ·have hkq : ¬ i < (l.length : Int) := by simpa using hkn
   refine c_held hmix [box B1 [Vi target.id, Vi target.due] 52, base w0] rfl rfl ?_
   refine h_t0 (i := 0) (ls := #[T1,F0,F0,F0,F0,F0,F0,F0,F0,F0,F0,F0,F0,F0,F0,F0]) rfl (p_move rfl) ?_
   refine h_t0 (i := 1) (ls := #[T1,T1,F0,F0,F0,F0,F0,F0,F0,F0,F0,F0,F0,F0,F0,F0]) rfl (p_move rfl) ?_
   refine h_t0 (i := 2) (ls := #[T1,T1,T1,F0,F0,F0,F0,F0,F0,F0,F0,F0,F0,F0,F0,F0]) rfl (p_move rfl) ?_
   refine h_t0 (i := 3) (ls := #[T1,T1,T1,T1,F0,F0,F0,F0,F0,F0,F0,F0,F0,F0,F0,F0]) rfl (p_known hkn (p_lt rfl rfl)) ?_
   refine h_t0 (i := 4) (ls := #[T1,T1,T1,T1,T1,F0,F0,F0,F0,F0,F0,F0,F0,F0,F0,F0]) rfl (p_move rfl) ?_
   refine h_takeNo (i := 5) (ls := #[T1,T1,T1,T1,T1,T1,F0,F0,F0,F0,F0,F0,F0,F0,F0,F0]) rfl (by kernel_rfl) (by kernel_rfl) (by kernel_rfl) (fun _ _ _ h => h) rfl 39 rfl rfl rfl rfl rfl (dp (lr)) rfl ?_
   refine h_takeNo (i := 6) (ls := #[T1,T1,T1,T1,T1,T1,T1,F0,F0,F0,F0,F0,F0,F0,F0,F0]) rfl (by kernel_rfl) (by kernel_rfl) (by kernel_rfl) (fun _ _ _ h => h) rfl 39 rfl rfl rfl rfl rfl (dp (lr)) rfl ?_
   refine h_takeNo (i := 7) (ls := #[T1,T1,T1,T1,T1,T1,T1,T1,F0,F0,F0,F0,F0,F0,F0,F0]) rfl (by kernel_rfl) (by kernel_rfl) (by kernel_rfl) (fun _ _ _ h => h) rfl 39 rfl rfl rfl rfl rfl (dp (lr)) rfl ?_
   refine h_takeNo (i := 8) (ls := #[T1,T1,T1,T1,T1,T1,T1,T1,T1,F0,F0,F0,F0,F0,F0,F0]) rfl (by kernel_rfl) (by kernel_rfl) (by kernel_rfl) (fun _ _ _ h => h) rfl 39 rfl rfl rfl rfl rfl (dp (lr)) rfl ?_
   refine h_takeNo (i := 9) (ls := #[T1,T1,T1,T1,T1,T1,T1,T1,T1,T1,F0,F0,F0,F0,F0,F0]) rfl (by kernel_rfl) (by kernel_rfl) (by kernel_rfl) (fun _ _ _ h => h) rfl 39 rfl rfl rfl rfl rfl (dp (lr)) rfl ?_
   refine h_takeNo (i := 10) (ls := #[T1,T1,T1,T1,T1,T1,T1,T1,T1,T1,T1,F0,F0,F0,F0,F0]) rfl (by kernel_rfl) (by kernel_rfl) (by kernel_rfl) (fun _ _ _ h => h) rfl 39 rfl rfl rfl rfl rfl (dp (lr)) rfl ?_
   refine h_takeNo (i := 11) (ls := #[T1,T1,T1,T1,T1,T1,T1,T1,T1,T1,T1,T1,F0,F0,F0,F0]) rfl (by kernel_rfl) (by kernel_rfl) (by kernel_rfl) (fun _ _ _ h => h) rfl 39 rfl rfl rfl rfl rfl (dp (lr)) rfl ?_
   refine h_takeNo (i := 12) (ls := #[T1,T1,T1,T1,T1,T1,T1,T1,T1,T1,T1,T1,T1,F0,F0,F0]) rfl (by kernel_rfl) (by kernel_rfl) (by kernel_rfl) (fun _ _ _ h => h) rfl 39 rfl rfl rfl rfl rfl (dp (lr)) rfl ?_
   refine h_t0 (i := 13) (ls := #[T1,T1,T1,T1,T1,T1,T1,T1,T1,T1,T1,T1,T1,T1,F0,F0]) rfl (p_pick_false (v := .bool false) rfl rfl) ?_
   refine h_t0 (i := 14) (ls := #[T1,T1,T1,T1,T1,T1,T1,T1,T1,T1,T1,T1,T1,T1,T1,F0]) rfl (p_assign rfl) ?_
   refine h_t0 (i := 15) (ls := #[T1,T1,T1,T1,T1,T1,T1,T1,T1,T1,T1,T1,T1,T1,T1,T1]) rfl (p_assign rfl) ?_
   refine h_done (by kernel_rfl) ?_
   refine q_then (c_ret ?_)
   have hr0 : (i : Int) = (lowF (fun x => f x target) l : Int) := by
    exact hI.done (by omega)
   have hr1 : (false : Bool) = (hitF (fun x => f x target) l) := by
    (have h9 := hit_eq (f := fun x => f x target) (hI.done (by omega)); rw [hkn] at h9; exact h9)
   refine q_end0 (v := .tuple #[Vi i, .bool false]) (rt2 rfl (r_tmp rfl) (r_tmp rfl)) (i := 1) rfl ?_
   exact (by have hcc := congr (congrArg (fun (y0 : Int) (y1 : Bool) => (.tuple #[.int .i64 y0, .bool y1] : Value)) hr0) hr1; exact hcc)
  ·have hkq : i < (l.length : Int) := by simpa using hkn
   refine c_held hmix [box B1 [Vi target.id, Vi target.due] 52, base w0] rfl rfl ?_
   refine h_t0 (i := 0) (ls := #[T1,F0,F0,F0,F0,F0,F0,F0,F0,F0,F0,F0,F0,F0,F0,F0]) rfl (p_move rfl) ?_
   refine h_t0 (i := 1) (ls := #[T1,T1,F0,F0,F0,F0,F0,F0,F0,F0,F0,F0,F0,F0,F0,F0]) rfl (p_move rfl) ?_
   refine h_t0 (i := 2) (ls := #[T1,T1,T1,F0,F0,F0,F0,F0,F0,F0,F0,F0,F0,F0,F0,F0]) rfl (p_move rfl) ?_
   refine h_t0 (i := 3) (ls := #[T1,T1,T1,T1,F0,F0,F0,F0,F0,F0,F0,F0,F0,F0,F0,F0]) rfl (p_known hkn (p_lt rfl rfl)) ?_
   refine h_t0 (i := 4) (ls := #[T1,T1,T1,T1,T1,F0,F0,F0,F0,F0,F0,F0,F0,F0,F0,F0]) rfl (p_move rfl) ?_
   refine h_takeG (i := 5) (ls := #[T1,T1,T1,T1,T1,T1,F0,F0,F0,F0,F0,F0,F0,F0,F0,F0]) rfl (by kernel_rfl) (by kernel_rfl) (by kernel_rfl) (fun _ _ _ h => h) (p_move rfl) rfl 39 rfl rfl rfl rfl (dp (lr)) rfl ?_
   refine h_takeG (i := 6) (ls := #[T1,T1,T1,T1,T1,T1,T1,F0,F0,F0,F0,F0,F0,F0,F0,F0]) rfl (by kernel_rfl) (by kernel_rfl) (by kernel_rfl) (fun _ _ _ h => h) (p_move rfl) rfl 39 rfl rfl rfl rfl (dp (lr)) rfl ?_
   refine h_takeG (i := 7) (ls := #[T1,T1,T1,T1,T1,T1,T1,T1,F0,F0,F0,F0,F0,F0,F0,F0]) rfl (by kernel_rfl) (by kernel_rfl) (by kernel_rfl) (fun _ _ _ h => h) (p_move rfl) rfl 39 rfl rfl rfl rfl (dp (lr)) rfl ?_
   refine h_takeG (i := 8) (ls := #[T1,T1,T1,T1,T1,T1,T1,T1,T1,F0,F0,F0,F0,F0,F0,F0]) rfl (by kernel_rfl) (by kernel_rfl) (by kernel_rfl) (fun _ _ _ h => h) (p_indexAddr (L := l) (T := tTimer) (i := i) rfl rfl (rd_base (i := 1) rfl hl) Try.underlying57 sz52 (by omega) (by omega)) rfl 39 rfl rfl rfl rfl (dp (lr)) rfl ?_
   refine h_takeG (i := 9) (ls := #[T1,T1,T1,T1,T1,T1,T1,T1,T1,T1,F0,F0,F0,F0,F0,F0]) rfl (by kernel_rfl) (by kernel_rfl) (by kernel_rfl) (fun _ _ _ h => h) (p_loadEn (i := i.toNat) (T := tTimer) (L := l) (vs := [Vi ((l.getD i.toNat default).id), Vi ((l.getD i.toNat default).due)]) rfl (rd_base (i := 1) rfl hl) (by first | assumption | omega) sh52 (congrArg tTimer.enc (getd_at (by first | assumption | omega) default))) rfl 39 rfl rfl rfl rfl (dp (lr)) rfl ?_
   refine h_takeG (i := 10) (ls := #[T1,T1,T1,T1,T1,T1,T1,T1,T1,T1,T1,F0,F0,F0,F0,F0]) rfl (by kernel_rfl) (by kernel_rfl) (by kernel_rfl) (fun _ _ _ h => h) (p_load_agg (i := 0) (vs := [Vi target.id, Vi target.due]) rfl rfl sh52 rfl rfl) rfl 39 rfl rfl rfl rfl (dp (lr)) rfl ?_
   refine h_one (i := 11) (ls := #[T1,T1,T1,T1,T1,T1,T1,T1,T1,T1,T1,T1,F0,F0,F0,F0]) (by kernel_rfl) rfl rfl ?_
   refine o_unguard 39 rfl rfl ?_
   refine o_call0V (vs := [.agg #[Vi ((l.getD i.toNat default).id), Vi ((l.getD i.toNat default).due)], .agg #[Vi target.id, Vi target.due]]) (caps := kf) (v := Vi (f (l.getD i.toNat default) target)) rfl rfl (okf (l.getD i.toNat default) target) hpf (pre_base (i := 1) rfl stf hf) rfl ?_
   refine o_nil ?_
   refine h_next (dp (lr)) ?_
   refine h_takeG (i := 12) (ls := #[T1,T1,T1,T1,T1,T1,T1,T1,T1,T1,T1,T1,T1,F0,F0,F0]) rfl (by kernel_rfl) (by kernel_rfl) (by kernel_rfl) (fun _ _ _ h => h) (p_eq rfl rfl) rfl 39 rfl rfl rfl rfl (dp (lr)) rfl ?_
   refine h_t0 (i := 13) (ls := #[T1,T1,T1,T1,T1,T1,T1,T1,T1,T1,T1,T1,T1,T1,F0,F0]) rfl (p_pick_true (u := .bool ((f (l.getD i.toNat default) target) == 0)) rfl rfl) ?_
   refine h_t0 (i := 14) (ls := #[T1,T1,T1,T1,T1,T1,T1,T1,T1,T1,T1,T1,T1,T1,T1,F0]) rfl (p_assign rfl) ?_
   refine h_t0 (i := 15) (ls := #[T1,T1,T1,T1,T1,T1,T1,T1,T1,T1,T1,T1,T1,T1,T1,T1]) rfl (p_assign rfl) ?_
   refine h_done (by kernel_rfl) ?_
   refine q_then (c_ret ?_)
   have hr0 : (i : Int) = (lowF (fun x => f x target) l : Int) := by
    exact hI.done (by omega)
   have hr1 : (((f (l.getD i.toNat default) target) == 0) : Bool) = (hitF (fun x => f x target) l) := by
    (have h9 := hit_eq (f := fun x => f x target) (hI.done (by omega)); rw [hkn] at h9; exact h9)
   refine q_end0 (v := .tuple #[Vi i, .bool ((f (l.getD i.toNat default) target) == 0)]) (rt2 rfl (r_tmp rfl) (r_tmp rfl)) (i := 1) rfl ?_
   exact (by have hcc := congr (congrArg (fun (y0 : Int) (y1 : Bool) => (.tuple #[.int .i64 y0, .bool y1] : Value)) hr0) hr1; exact hcc)

set_option maxHeartbeats 8000000 in
set_option maxRecDepth 100000 in
theorem insert_Timer_ok (l : List DTimer) (al : Option Addr) (cl : Nat) (Sl : Nat → Prop) (i : Int) (v : List DTimer) (av : Option Addr) (cv : Nat) (Sv : Nat → Prop) (hy1 : 0 ≤ i ∧ i ≤ (l.length : Int) ∧ l.length ≤ 1000000 ∧ v.length = 1) : FnX Try.prog 109 [.slice al l.length cl, Vi i, .slice av v.length cv] [own tTimer Sl al cl l, own tTimer Sv av cv v] (fun _ => True) (Option Addr × Nat × (Nat → Prop)) (fun p => .slice p.1 (l.take i.toNat ++ v ++ l.drop i.toNat).length p.2.1) (fun p => [own tTimer p.2.2 p.1 p.2.1 (l.take i.toNat ++ v ++ l.drop i.toNat)]) := by
 refine fnX (nt := 95) (F0 := [(0, .slice al l.length cl), (1, Vi i), (2, .slice av v.length cv)]) Try.func109 rfl Try.ntmps109 rfl rfl (fun w0 hpre => ?_)
 refine c_know (fun w hw => own_len (i := 1) (T := tTimer) hw rfl) (fun hlown_l => ?_)
 obtain ⟨hcown_l, hlown_l⟩ := hlown_l
 refine c_know (fun w hw => own_len (i := 2) (T := tTimer) hw rfl) (fun hlown_v => ?_)
 obtain ⟨hcown_v, hlown_v⟩ := hlown_v
 refine c_seq (c_region ?_)
 refine o_as rfl rfl ?_
 refine o_nil (q_then (c_seq (c_region ?_)))
 refine o_mv rfl rfl ?_
 refine o_mv rfl rfl ?_
 refine o_p (p_sliceL (L := l) (T := tTimer) (l := i) rfl rfl Try.underlying57 sz52 (by first | omega | (simp only [List.length_append, List.length_take, List.length_replicate, List.length_drop, List.length_set]; omega)) (by first | omega | (simp only [List.length_append, List.length_take, List.length_replicate, List.length_drop, List.length_set]; omega)) (rd_own (i := 1) rfl)) ?_
 refine o_nil (q_then (c_seq (c_region ?_)))
 refine o_mv rfl rfl ?_
 refine o_p (p_len_slice rfl rfl Try.underlying57) ?_
 refine o_as rfl rfl ?_
 refine o_nil (q_then (c_seq (c_seq (c_region ?_))))
 refine o_mv rfl rfl ?_
 refine o_p (p_eq rfl rfl) ?_
 refine o_nil (q_then ?_)
 refine c_cond rfl (fun hc1 => ?_) (fun hc1 => ?_)
 ·simp only [beq_iff_eq] at hc1
  exfalso; omega
 ·simp only [beq_eq_false_iff_ne, ne_eq] at hc1
  refine c_skip (q_then (c_seq (c_region ?_)))
  refine o_mv rfl rfl ?_
  refine o_p (p_len_slice rfl rfl Try.underlying57) ?_
  refine o_as rfl rfl ?_
  refine o_nil (q_then (c_seq (c_seq (c_region ?_))))
  refine o_mv rfl rfl ?_
  refine o_mv rfl rfl ?_
  refine o_p (p_eq rfl rfl) ?_
  refine o_nil (q_then ?_)
  refine c_cond rfl (fun hc2 => ?_) (fun hc2 => ?_)
  ·simp only [beq_iff_eq] at hc2
   refine c_seq (c_region ?_)
   refine o_mv rfl rfl ?_
   refine o_mv rfl rfl ?_
   refine o_append (i := 1) (L := l) (M := v) (T := tTimer) rfl rfl rfl (rd_own (i := 2) rfl) Try.underlying57 Try.underlying57 (by intro k h; cases h) el52 (by intro z; simp [tTimer, one1]) (by decide) (by first | omega | (simp only [List.length_cons, List.length_nil]; omega) | (simp only [List.length_append, List.length_cons, List.length_nil, List.length_take, List.length_drop]; omega)) rfl (fun a3 c4 S5 => ?_)
   refine o_as rfl rfl ?_
   refine o_nil (q_then (c_ret ?_))
   refine q_then_ret ?_
   have hr0 : ((l ++ v) : List DTimer) = (l.take i.toNat ++ v ++ l.drop i.toNat) := by
    first | rfl | (obtain rfl : i = (l.length : Int) := (by assumption); simp)
   refine q_endX (p := (a3, c4, S5)) (rt1 rfl (r_tmp rfl)) ?_ (fun w hw => ?_)
   ·exact (by have hcc := congrArg (fun (y0 : List DTimer) => (.slice a3 y0.length c4 : Value)) hr0; exact hcc)
   ·have h2 := hw.pick (H' := [outer w0 [own tTimer Sl al cl l, own tTimer Sv av cv v], own tTimer S5 a3 c4 (l ++ v)]) [0, 1] (by decide) rfl
    exact Eq.mp (congrArg (fun z => HeapIs w0 ((outer w0 [own tTimer Sl al cl l, own tTimer Sv av cv v]) :: z) w) ((by have hcc := congrArg (fun (y0 : List DTimer) => ([own tTimer S5 a3 c4 y0] : List Ent)) hr0; exact hcc))) h2
  ·simp only [beq_eq_false_iff_ne, ne_eq] at hc2
   refine c_skip (q_then (c_seq (c_seq (c_region ?_))))
   refine o_mv rfl rfl ?_
   refine o_mv rfl rfl ?_
   refine o_p (p_addb rfl rfl (by omega)) ?_
   refine o_mv rfl rfl ?_
   refine o_p (p_cap_slice rfl rfl Try.underlying57) ?_
   refine o_p (p_gt rfl rfl) ?_
   refine o_nil (q_then ?_)
   refine c_cond rfl (fun hc6 => ?_) (fun hc6 => ?_)
   ·simp only [decide_eq_true_eq] at hc6
    refine c_seq (c_region ?_)
    refine o_mv rfl rfl ?_
    refine o_mv rfl rfl ?_
    refine o_p (p_sliceH (L := l) (T := tTimer) (h := i) rfl rfl Try.underlying57 sz52 (by first | omega | (simp only [List.length_append, List.length_take, List.length_replicate, List.length_drop, List.length_set]; omega)) (by first | omega | (simp only [List.length_append, List.length_take, List.length_replicate, List.length_drop, List.length_set]; omega)) (rd_own (i := 1) rfl)) ?_
    refine o_mv rfl rfl ?_
    refine o_mv rfl rfl ?_
    refine o_p (p_addb rfl rfl (by omega)) ?_
    refine o_mv rfl rfl ?_
    refine o_p (p_subb rfl rfl (by omega)) ?_
    refine o_appendZ (i := 1) (m := i.toNat) (k := (l.length + v.length - i.toNat)) (L := l) (T := tTimer) (z := (⟨0, 0⟩ : DTimer)) rfl rfl rfl (by omega) Try.underlying57 Try.underlying3 el52 ze52 rfl (by decide) (by omega) rfl (fun a7 c8 S9 => ?_)
    refine o_know (fun w hw => own_len (i := 0) (T := tTimer) hw rfl) (fun hlz11 => ?_)
    have hlz11b : ((l.take i.toNat) ++ (List.replicate (l.length + v.length - i.toNat) (⟨0, 0⟩ : DTimer))).length = l.length + v.length := by simp only [List.length_append, List.length_take, List.length_replicate, List.length_drop, List.length_set]; omega
    refine o_as rfl rfl ?_
    refine o_nil (q_then (c_seq (c_region ?_)))
    refine o_mv rfl rfl ?_
    refine o_mv rfl rfl ?_
    refine o_p (p_sliceL (L := ((l.take i.toNat) ++ (List.replicate (l.length + v.length - i.toNat) (⟨0, 0⟩ : DTimer)))) (T := tTimer) (l := i) rfl rfl Try.underlying57 sz52 (by first | omega | (simp only [List.length_append, List.length_take, List.length_replicate, List.length_drop, List.length_set]; omega)) (by first | omega | (simp only [List.length_append, List.length_take, List.length_replicate, List.length_drop, List.length_set]; omega)) (rd_own (i := 0) rfl)) ?_
    refine o_mv rfl rfl ?_
    refine o_copy (i := 0) (lo := i.toNat) (M := v) (T := tTimer) (L := ((l.take i.toNat) ++ (List.replicate (l.length + v.length - i.toNat) (⟨0, 0⟩ : DTimer)))) (m := 1) (F' := [(0, .slice al l.length cl), (1, Vi i), (7, Vi (v.length : Int)), (9, .slice a7 (l.take i.toNat ++ v ++ List.replicate (l.length - i.toNat) (⟨0, 0⟩ : DTimer)).length c8)]) rfl rfl rfl (rd_own (i := 3) rfl) (by (try simp only [List.length_append, List.length_take, List.length_replicate, List.length_drop, List.length_set]); omega) Try.underlying57 sz52 (by intro z; simp [tTimer, one1]) (by (try simp only [List.length_append, List.length_take, List.length_replicate, List.length_drop, List.length_set]); omega) rfl (by omega) (sr (sr (sr (Sub.cons (by show some _ = some _; congr 2; first | (simp; omega) | simp) (Sub.nil _))))) ?_
    refine o_asH (H := [own tTimer S9 a7 c8 (((l.take i.toNat) ++ (List.replicate (l.length + v.length - i.toNat) (⟨0, 0⟩ : DTimer))).take i.toNat ++ v ++ ((l.take i.toNat) ++ (List.replicate (l.length + v.length - i.toNat) (⟨0, 0⟩ : DTimer))).drop (i.toNat + v.length)), outer w0 [own tTimer Sl al cl l, own tTimer Sv av cv v], own tTimer Sl al cl l, own tTimer Sv av cv v]) (H' := [own tTimer S9 a7 c8 (l.take i.toNat ++ v ++ List.replicate (l.length - i.toNat) (⟨0, 0⟩ : DTimer)), outer w0 [own tTimer Sl al cl l, own tTimer Sv av cv v], own tTimer Sl al cl l, own tTimer Sv av cv v]) (by have hins : ((((l.take i.toNat) ++ (List.replicate (l.length + v.length - i.toNat) (⟨0, 0⟩ : DTimer))).take i.toNat ++ v ++ ((l.take i.toNat) ++ (List.replicate (l.length + v.length - i.toNat) (⟨0, 0⟩ : DTimer))).drop (i.toNat + v.length)) : List DTimer) = (l.take i.toNat ++ v ++ List.replicate (l.length - i.toNat) (⟨0, 0⟩ : DTimer)) := (by exact ins_a (by omega) (by omega)); rw [hins]) ?_
    refine o_nil (q_then (c_seq ?_))
    refine c_held hmix [ownE tTimer S9 a7 c8 ((l.take i.toNat ++ v ++ List.replicate (l.length - i.toNat) (⟨0, 0⟩ : DTimer)).length), outer w0 [own tTimer Sl al cl l, own tTimer Sv av cv v], own tTimer Sl al cl l, own tTimer Sv av cv v] rfl rfl ?_
    refine h_tk (i := 0) (ls := #[T1,F0,F0,F0,F0,F0,F0,F0,F0]) rfl (p_move rfl) (fun _ hw => HeapIs.drop (HeapIs.toE (i := 0) (m := (l.take i.toNat ++ v ++ List.replicate (l.length - i.toNat) (⟨0, 0⟩ : DTimer)).length) (T := tTimer) rfl (by first | rfl | (simp; done) | (simp; omega)) hw) (lr)) ?_
    refine h_tk (i := 1) (ls := #[T1,T1,F0,F0,F0,F0,F0,F0,F0]) rfl (p_move rfl) (fun _ hw => HeapIs.drop (HeapIs.toE (i := 0) (m := (l.take i.toNat ++ v ++ List.replicate (l.length - i.toNat) (⟨0, 0⟩ : DTimer)).length) (T := tTimer) rfl (by first | rfl | (simp; done) | (simp; omega)) hw) (lr)) ?_
    refine h_tk (i := 2) (ls := #[T1,T1,T1,F0,F0,F0,F0,F0,F0]) rfl (p_move rfl) (fun _ hw => HeapIs.drop (HeapIs.toE (i := 0) (m := (l.take i.toNat ++ v ++ List.replicate (l.length - i.toNat) (⟨0, 0⟩ : DTimer)).length) (T := tTimer) rfl (by first | rfl | (simp; done) | (simp; omega)) hw) (lr)) ?_
    refine h_tk (i := 3) (ls := #[T1,T1,T1,T1,F0,F0,F0,F0,F0]) rfl (p_addb rfl rfl (by omega)) (fun _ hw => HeapIs.drop (HeapIs.toE (i := 0) (m := (l.take i.toNat ++ v ++ List.replicate (l.length - i.toNat) (⟨0, 0⟩ : DTimer)).length) (T := tTimer) rfl (by first | rfl | (simp; done) | (simp; omega)) hw) (lr)) ?_
    refine h_tk (i := 4) (ls := #[T1,T1,T1,T1,T1,F0,F0,F0,F0]) rfl (p_sliceLE (j := 0) (m := (l.take i.toNat ++ v ++ List.replicate (l.length - i.toNat) (⟨0, 0⟩ : DTimer)).length) (T := tTimer) (l := (i + (v.length : Int))) rfl rfl rfl Try.underlying57 sz52 (by omega) (by first | omega | (simp; omega))) (fun _ hw => HeapIs.drop (HeapIs.toE (i := 0) (m := (l.take i.toNat ++ v ++ List.replicate (l.length - i.toNat) (⟨0, 0⟩ : DTimer)).length) (T := tTimer) rfl (by first | rfl | (simp; done) | (simp; omega)) hw) (lr)) ?_
    refine h_tk (i := 5) (ls := #[T1,T1,T1,T1,T1,T1,F0,F0,F0]) rfl (p_move rfl) (fun _ hw => HeapIs.drop (HeapIs.toE (i := 0) (m := (l.take i.toNat ++ v ++ List.replicate (l.length - i.toNat) (⟨0, 0⟩ : DTimer)).length) (T := tTimer) rfl (by first | rfl | (simp; done) | (simp; omega)) hw) (lr)) ?_
    refine h_tk (i := 6) (ls := #[T1,T1,T1,T1,T1,T1,T1,F0,F0]) rfl (p_move rfl) (fun _ hw => HeapIs.drop (HeapIs.toE (i := 0) (m := (l.take i.toNat ++ v ++ List.replicate (l.length - i.toNat) (⟨0, 0⟩ : DTimer)).length) (T := tTimer) rfl (by first | rfl | (simp; done) | (simp; omega)) hw) (lr)) ?_
    refine h_tk (i := 7) (ls := #[T1,T1,T1,T1,T1,T1,T1,T1,F0]) rfl (p_sliceL (L := l) (T := tTimer) (l := i) rfl rfl Try.underlying57 sz52 (by first | omega | (simp only [List.length_append, List.length_take, List.length_replicate, List.length_drop, List.length_set]; omega)) (by first | omega | (simp only [List.length_append, List.length_take, List.length_replicate, List.length_drop, List.length_set]; omega)) (rd_own (i := 2) rfl)) (fun _ hw => HeapIs.drop (HeapIs.toE (i := 0) (m := (l.take i.toNat ++ v ++ List.replicate (l.length - i.toNat) (⟨0, 0⟩ : DTimer)).length) (T := tTimer) rfl (by first | rfl | (simp; done) | (simp; omega)) hw) (lr)) ?_
    refine h_one (i := 8) (ls := #[T1,T1,T1,T1,T1,T1,T1,T1,T1]) (by kernel_rfl) rfl rfl ?_
    refine o_copy (i := 0) (lo := (i + (v.length : Int)).toNat) (M := (l.drop i.toNat)) (T := tTimer) (L := (l.take i.toNat ++ v ++ List.replicate (l.length - i.toNat) (⟨0, 0⟩ : DTimer))) (m := (l.length - i.toNat)) (F' := [(0, .slice al l.length cl), (1, Vi i), (7, Vi (v.length : Int)), (9, .slice a7 (l.take i.toNat ++ v ++ l.drop i.toNat).length c8)]) rfl rfl rfl (rd_dropC (l := i.toNat) (rd_own (i := 2) rfl) (by first | omega | (simp only [List.length_append, List.length_take, List.length_replicate, List.length_drop, List.length_set]; omega))) (by (try simp only [List.length_append, List.length_take, List.length_replicate, List.length_drop, List.length_set]); omega) Try.underlying57 sz52 (by intro z; simp [tTimer, one1]) (by (try simp only [List.length_append, List.length_take, List.length_replicate, List.length_drop, List.length_set]); omega) rfl (by simp) (sr (sr (sr (Sub.cons (by show some _ = some _; congr 2; first | (simp; omega) | simp) (Sub.nil _))))) ?_
    refine o_asH (H := [own tTimer S9 a7 c8 ((l.take i.toNat ++ v ++ List.replicate (l.length - i.toNat) (⟨0, 0⟩ : DTimer)).take ((i + (v.length : Int)).toNat) ++ (l.drop i.toNat) ++ (l.take i.toNat ++ v ++ List.replicate (l.length - i.toNat) (⟨0, 0⟩ : DTimer)).drop (((i + (v.length : Int)).toNat) + (l.drop i.toNat).length)), outer w0 [own tTimer Sl al cl l, own tTimer Sv av cv v], own tTimer Sl al cl l, own tTimer Sv av cv v]) (H' := [own tTimer S9 a7 c8 (l.take i.toNat ++ v ++ l.drop i.toNat), outer w0 [own tTimer Sl al cl l, own tTimer Sv av cv v], own tTimer Sl al cl l, own tTimer Sv av cv v]) (by have hins : (((l.take i.toNat ++ v ++ List.replicate (l.length - i.toNat) (⟨0, 0⟩ : DTimer)).take ((i + (v.length : Int)).toNat) ++ (l.drop i.toNat) ++ (l.take i.toNat ++ v ++ List.replicate (l.length - i.toNat) (⟨0, 0⟩ : DTimer)).drop (((i + (v.length : Int)).toNat) + (l.drop i.toNat).length)) : List DTimer) = (l.take i.toNat ++ v ++ l.drop i.toNat) := (by exact ins_b (by omega) (by omega) (by omega)); rw [hins]) ?_
    refine o_nil ?_
    refine h_next (fun _ hw => HeapIs.drop (HeapIs.toE (i := 0) (m := (l.take i.toNat ++ v ++ List.replicate (l.length - i.toNat) (⟨0, 0⟩ : DTimer)).length) (T := tTimer) rfl (by first | rfl | (simp; done) | (simp; omega)) hw) (lr)) ?_
    refine h_done (by kernel_rfl) ?_
    refine q_cast (F' := [(9, .slice a7 (l.take i.toNat ++ v ++ l.drop i.toNat).length c8)]) (H := [own tTimer S9 a7 c8 (l.take i.toNat ++ v ++ l.drop i.toNat), outer w0 [own tTimer Sl al cl l, own tTimer Sv av cv v], own tTimer Sl al cl l, own tTimer Sv av cv v]) (H' := [own tTimer S9 a7 c8 (l.take i.toNat ++ v ++ l.drop i.toNat), outer w0 [own tTimer Sl al cl l, own tTimer Sv av cv v], own tTimer Sl al cl l, own tTimer Sv av cv v]) (sr (Sub.nil _)) (by rfl) ?_
    refine q_then (c_seq (c_region ?_))
    refine o_mv rfl rfl ?_
    refine o_as rfl rfl ?_
    refine o_nil (q_then (c_ret ?_))
    refine q_then_ret ?_
    refine q_endX (p := (a7, c8, S9)) (rt1 rfl (r_tmp rfl)) ?_ (fun w hw => ?_)
    ·exact rfl
    ·have h2 := hw.pick (H' := [outer w0 [own tTimer Sl al cl l, own tTimer Sv av cv v], own tTimer S9 a7 c8 (l.take i.toNat ++ v ++ l.drop i.toNat)]) [1, 0] (by decide) rfl
     exact Eq.mp (congrArg (fun z => HeapIs w0 ((outer w0 [own tTimer Sl al cl l, own tTimer Sv av cv v]) :: z) w) (rfl)) h2
   ·simp only [decide_eq_false_iff_not, Int.not_lt] at hc6
    refine c_skip (q_then (c_seq (c_region ?_)))
    refine o_mv rfl rfl ?_
    refine o_mv rfl rfl ?_
    refine o_mv rfl rfl ?_
    refine o_p (p_addb rfl rfl (by omega)) ?_
    refine o_p (p_slice0 (hi := (l.length + v.length)) (hv := ((l.length : Int) + (v.length : Int))) rfl rfl Try.underlying57 sz52 (by omega) (by omega)) ?_
    refine o_as rfl rfl ?_
    refine o_nil (q_then (c_seq (c_seq (c_region ?_))))
    refine o_mv rfl rfl ?_
    refine o_mv rfl rfl ?_
    refine o_mv rfl rfl ?_
    refine o_mv rfl rfl ?_
    refine o_p (p_addb rfl rfl (by omega)) ?_
    refine o_p (p_slice (l := (i.toNat + 1)) (hi := (l.length + v.length)) (m := cl) (lv := some (Vi (i + (v.length : Int)))) (hv := none) (mv := none) rfl rfl rfl rfl Try.underlying57 sz52 (.inr ⟨.i64, by congr 1; congr 1; omega⟩) (.inl ⟨rfl, rfl⟩) (.inl ⟨rfl, rfl⟩) (fun _ => rfl) (by omega) (by omega) (Nat.le_refl _) rfl) ?_
    refine o_p (p_overlaps (tS := 57) (tR := 4) (i := 1) (j := 2) (lo := (i.toNat + 1)) (M := v) Try.func140 (by kernel_rfl) (by kernel_rfl) (by kernel_rfl) (by kernel_rfl) rfl rfl rfl rfl (by decide) Try.underlying57 sz52 (by omega) (by omega) (by decide)) ?_
    refine o_p (p_not (b := false) rfl) ?_
    refine o_nil (q_then ?_)
    refine c_true rfl ?_
    refine c_seq ?_
    refine c_held hmix [outer w0 [own tTimer Sl al cl l, own tTimer Sv av cv v], own tTimer Sv av cv v] rfl rfl ?_
    refine h_tk (i := 0) (ls := #[T1,F0,F0,F0,F0,F0,F0,F0,F0]) rfl (p_move rfl) (dp (lj (lz (lj (ln))))) ?_
    refine h_tk (i := 1) (ls := #[T1,T1,F0,F0,F0,F0,F0,F0,F0]) rfl (p_move rfl) (dp (lj (lz (lj (ln))))) ?_
    refine h_tk (i := 2) (ls := #[T1,T1,T1,F0,F0,F0,F0,F0,F0]) rfl (p_move rfl) (dp (lj (lz (lj (ln))))) ?_
    refine h_tk (i := 3) (ls := #[T1,T1,T1,T1,F0,F0,F0,F0,F0]) rfl (p_addb rfl rfl (by omega)) (dp (lj (lz (lj (ln))))) ?_
    refine h_tk (i := 4) (ls := #[T1,T1,T1,T1,T1,F0,F0,F0,F0]) rfl (p_slice (l := (i.toNat + 1)) (hi := (l.length + v.length)) (m := cl) (lv := some (Vi (i + (v.length : Int)))) (hv := none) (mv := none) rfl rfl rfl rfl Try.underlying57 sz52 (.inr ⟨.i64, by congr 1; congr 1; omega⟩) (.inl ⟨rfl, rfl⟩) (.inl ⟨rfl, rfl⟩) (fun _ => rfl) (by omega) (by omega) (Nat.le_refl _) rfl) (dp (lj (lz (lj (ln))))) ?_
    refine h_tk (i := 5) (ls := #[T1,T1,T1,T1,T1,T1,F0,F0,F0]) rfl (p_move rfl) (dp (lj (lz (lj (ln))))) ?_
    refine h_tk (i := 6) (ls := #[T1,T1,T1,T1,T1,T1,T1,F0,F0]) rfl (p_move rfl) (dp (lj (lz (lj (ln))))) ?_
    refine h_tk (i := 7) (ls := #[T1,T1,T1,T1,T1,T1,T1,T1,F0]) rfl (p_slice (l := i.toNat) (hi := (l.length + v.length)) (m := cl) (lv := some (Vi i)) (hv := none) (mv := none) rfl rfl rfl rfl Try.underlying57 sz52 (.inr ⟨.i64, by congr 1; congr 1; omega⟩) (.inl ⟨rfl, rfl⟩) (.inl ⟨rfl, rfl⟩) (fun _ => rfl) (by omega) (by omega) (Nat.le_refl _) rfl) (dp (lj (lz (lj (ln))))) ?_
    refine h_one (i := 8) (ls := #[T1,T1,T1,T1,T1,T1,T1,T1,T1]) (by kernel_rfl) rfl rfl ?_
    refine o_copy (i := 1) (lo := (i.toNat + 1)) (M := (l.drop i.toNat)) (T := tTimer) (L := l) (m := (l.length - i.toNat)) (F' := [(0, .slice al (l.take (i.toNat + 1) ++ l.drop i.toNat).length cl), (1, Vi i), (2, .slice av v.length cv), (7, Vi (v.length : Int)), (8, Vi (l.length : Int)), (68, .bool true)]) rfl rfl rfl (rd_dropC (l := i.toNat) (rd_own (i := 1) rfl) (by omega)) (by (try simp only [List.length_append, List.length_take, List.length_replicate, List.length_drop, List.length_set]); omega) Try.underlying57 sz52 (by intro z; simp [tTimer, one1]) (by (try simp only [List.length_append, List.length_take, List.length_replicate, List.length_drop, List.length_set]); omega) rfl (by simp) (Sub.cons (by show some _ = some _; congr 2; first | (simp; omega) | simp) (sr (sr (sr (sr (sr (Sub.nil _))))))) ?_
    refine o_asH (H := [outer w0 [own tTimer Sl al cl l, own tTimer Sv av cv v], own tTimer Sl al cl (l.take (i.toNat + 1) ++ (l.drop i.toNat) ++ l.drop ((i.toNat + 1) + (l.drop i.toNat).length)), own tTimer Sv av cv v]) (H' := [outer w0 [own tTimer Sl al cl l, own tTimer Sv av cv v], own tTimer Sl al cl (l.take (i.toNat + 1) ++ l.drop i.toNat), own tTimer Sv av cv v]) (by have hins : ((l.take (i.toNat + 1) ++ (l.drop i.toNat) ++ l.drop ((i.toNat + 1) + (l.drop i.toNat).length)) : List DTimer) = (l.take (i.toNat + 1) ++ l.drop i.toNat) := (by exact ins_c (by omega) (by omega)); rw [hins]) ?_
    refine o_nil ?_
    refine h_next (dp (lj (lz (lj (ln))))) ?_
    refine h_done (by kernel_rfl) ?_
    refine q_cast (F' := [(0, .slice al (l.take (i.toNat + 1) ++ l.drop i.toNat).length cl), (1, Vi i), (2, .slice av v.length cv)]) (H := [outer w0 [own tTimer Sl al cl l, own tTimer Sv av cv v], own tTimer Sl al cl (l.take (i.toNat + 1) ++ l.drop i.toNat), own tTimer Sv av cv v]) (H' := [outer w0 [own tTimer Sl al cl l, own tTimer Sv av cv v], own tTimer Sl al cl (l.take (i.toNat + 1) ++ l.drop i.toNat), own tTimer Sv av cv v]) (sr (sr (sr (Sub.nil _)))) (by rfl) ?_
    refine q_then (c_seq (c_region ?_))
    refine o_mv rfl rfl ?_
    refine o_mv rfl rfl ?_
    refine o_p (p_sliceL (L := (l.take (i.toNat + 1) ++ l.drop i.toNat)) (T := tTimer) (l := i) rfl rfl Try.underlying57 sz52 (by first | omega | (simp only [List.length_append, List.length_take, List.length_replicate, List.length_drop, List.length_set]; omega)) (by first | omega | (simp only [List.length_append, List.length_take, List.length_replicate, List.length_drop, List.length_set]; omega)) (rd_own (i := 1) rfl)) ?_
    refine o_mv rfl rfl ?_
    refine o_copy (i := 1) (lo := i.toNat) (M := v) (T := tTimer) (L := (l.take (i.toNat + 1) ++ l.drop i.toNat)) (m := 1) (F' := [(0, .slice al (l.take i.toNat ++ v ++ l.drop i.toNat).length cl)]) rfl rfl rfl (rd_own (i := 2) rfl) (by (try simp only [List.length_append, List.length_take, List.length_replicate, List.length_drop, List.length_set]); omega) Try.underlying57 sz52 (by intro z; simp [tTimer, one1]) (by (try simp only [List.length_append, List.length_take, List.length_replicate, List.length_drop, List.length_set]); omega) rfl (by omega) (Sub.cons (by show some _ = some _; congr 2; first | (simp; omega) | simp) (Sub.nil _)) ?_
    refine o_asH (H := [outer w0 [own tTimer Sl al cl l, own tTimer Sv av cv v], own tTimer Sl al cl ((l.take (i.toNat + 1) ++ l.drop i.toNat).take i.toNat ++ v ++ (l.take (i.toNat + 1) ++ l.drop i.toNat).drop (i.toNat + v.length)), own tTimer Sv av cv v]) (H' := [outer w0 [own tTimer Sl al cl l, own tTimer Sv av cv v], own tTimer Sl al cl (l.take i.toNat ++ v ++ l.drop i.toNat), own tTimer Sv av cv v]) (by have hins : (((l.take (i.toNat + 1) ++ l.drop i.toNat).take i.toNat ++ v ++ (l.take (i.toNat + 1) ++ l.drop i.toNat).drop (i.toNat + v.length)) : List DTimer) = (l.take i.toNat ++ v ++ l.drop i.toNat) := (by exact ins_d (by omega) (by omega)); rw [hins]) ?_
    refine o_nil (q_then (c_seq (c_region ?_)))
    refine o_mv rfl rfl ?_
    refine o_as rfl rfl ?_
    refine o_nil (q_then (c_ret ?_))
    refine q_then_ret ?_
    refine q_endX (p := (al, cl, Sl)) (rt1 rfl (r_tmp rfl)) ?_ (fun w hw => ?_)
    ·exact rfl
    ·have h2 := hw.pick (H' := [outer w0 [own tTimer Sl al cl l, own tTimer Sv av cv v], own tTimer Sl al cl (l.take i.toNat ++ v ++ l.drop i.toNat)]) [0, 1] (by decide) rfl
     exact Eq.mp (congrArg (fun z => HeapIs w0 ((outer w0 [own tTimer Sl al cl l, own tTimer Sv av cv v]) :: z) w) (rfl)) h2

set_option maxHeartbeats 8000000 in
set_option maxRecDepth 100000 in
theorem delete_Timer_ok (l : List DTimer) (al : Option Addr) (cl : Nat) (Sl : Nat → Prop) (i : Int) (j : Int) (hy1 : 0 ≤ i ∧ i ≤ j ∧ j ≤ (l.length : Int)) : FnX Try.prog 71 [.slice al l.length cl, Vi i, Vi j] [own tTimer Sl al cl l] (fun _ => True) (Option Addr × Nat × (Nat → Prop)) (fun p => .slice p.1 (l.take i.toNat ++ l.drop j.toNat).length p.2.1) (fun p => [own tTimer p.2.2 p.1 p.2.1 (l.take i.toNat ++ l.drop j.toNat)]) := by
 refine fnX (nt := 33) (F0 := [(0, .slice al l.length cl), (1, Vi i), (2, Vi j)]) Try.func71 rfl Try.ntmps71 rfl rfl (fun w0 hpre => ?_)
 refine c_know (fun w hw => own_len (i := 1) (T := tTimer) hw rfl) (fun hlown_l => ?_)
 obtain ⟨hcown_l, hlown_l⟩ := hlown_l
 refine c_seq (c_region ?_)
 refine o_as rfl rfl ?_
 refine o_nil (q_then (c_seq (c_region ?_)))
 refine o_mv rfl rfl ?_
 refine o_mv rfl rfl ?_
 refine o_mv rfl rfl ?_
 refine o_mv rfl rfl ?_
 refine o_p (p_len_slice rfl rfl Try.underlying57) ?_
 refine o_p (p_sliceLHM (L := l) (T := tTimer) (l := i) (h := j) (m := (l.length : Int)) rfl rfl rfl rfl Try.underlying57 sz52 (by omega) (by omega) (by omega) (by omega) (rd_own (i := 1) rfl)) ?_
 refine o_nil (q_then (c_seq (c_seq (c_region ?_))))
 refine o_mv rfl rfl ?_
 refine o_mv rfl rfl ?_
 refine o_p (p_eq rfl rfl) ?_
 refine o_nil (q_then ?_)
 refine c_cond rfl (fun hc1 => ?_) (fun hc1 => ?_)
 ·simp only [beq_iff_eq] at hc1
  refine c_seq (c_region ?_)
  refine o_mv rfl rfl ?_
  refine o_as rfl rfl ?_
  refine o_nil (q_then (c_ret ?_))
  refine q_then_ret ?_
  have hr0 : (l : List DTimer) = (l.take i.toNat ++ l.drop j.toNat) := by
   first | rfl | (have hij : i = j := (by assumption); subst hij; exact (List.take_append_drop _ _).symm)
  refine q_endX (p := (al, cl, Sl)) (rt1 rfl (r_tmp rfl)) ?_ (fun w hw => ?_)
  ·exact (by have hcc := congrArg (fun (y0 : List DTimer) => (.slice al y0.length cl : Value)) hr0; exact hcc)
  ·have h2 := hw.pick (H' := [outer w0 [own tTimer Sl al cl l], own tTimer Sl al cl l]) [0, 1] (by decide) rfl
   exact Eq.mp (congrArg (fun z => HeapIs w0 ((outer w0 [own tTimer Sl al cl l]) :: z) w) ((by have hcc := congrArg (fun (y0 : List DTimer) => ([own tTimer Sl al cl y0] : List Ent)) hr0; exact hcc))) h2
 ·simp only [beq_eq_false_iff_ne, ne_eq] at hc1
  refine c_skip (q_then (c_seq (c_region ?_)))
  refine o_mv rfl rfl ?_
  refine o_p (p_len_slice rfl rfl Try.underlying57) ?_
  refine o_as rfl rfl ?_
  refine o_nil (q_then (c_seq ?_))
  refine c_cut (G := Unit) (fun _ => [(0, .slice al ((l.take i.toNat) ++ (l.drop j.toNat)).length cl), (7, Vi (l.length : Int))]) (fun _ => [outer w0 [own tTimer Sl al cl l], own tTimer Sl al cl ((l.take i.toNat) ++ (l.drop j.toNat))]) (fun K hK3 => ?_) ?_
  ·refine c_held hmix [outer w0 [own tTimer Sl al cl l]] rfl rfl ?_
   refine h_tk (i := 0) (ls := #[T1,F0,F0,F0,F0,F0,F0,F0]) rfl (p_move rfl) (dp (lj (lz (ln)))) ?_
   refine h_tk (i := 1) (ls := #[T1,T1,F0,F0,F0,F0,F0,F0]) rfl (p_move rfl) (dp (lj (lz (ln)))) ?_
   refine h_tk (i := 3) (ls := #[T1,T1,F0,T1,F0,F0,F0,F0]) rfl (p_move rfl) (dp (lj (lz (ln)))) ?_
   refine h_tk (i := 4) (ls := #[T1,T1,F0,T1,T1,F0,F0,F0]) rfl (p_move rfl) (dp (lj (lz (ln)))) ?_
   refine h_two (i := 2) (j := 5) (ls := #[T1,T1,T1,T1,T1,F0,F0,F0]) (ls' := #[T1,T1,F0,T1,T1,T1,F0,F0]) (by kernel_rfl) rfl rfl rfl rfl ?_ ?_
   ·refine o_p (p_sliceH (L := l) (T := tTimer) (h := i) rfl rfl Try.underlying57 sz52 (by omega) (by omega) (rd_own (i := 1) rfl)) ?_
    refine o_nil ?_
    refine h_next (dp (lj (lz (ln)))) ?_
    refine h_one (i := 5) (ls := #[T1,T1,T1,T1,T1,T1,F0,F0]) (by kernel_rfl) rfl rfl ?_
    refine o_p (p_sliceL (L := l) (T := tTimer) (l := j) rfl rfl Try.underlying57 sz52 (by omega) (by omega) (rd_own (i := 1) rfl)) ?_
    refine o_nil ?_
    refine h_next (dp (lj (lz (ln)))) ?_
    refine h_one (i := 6) (ls := #[T1,T1,T1,T1,T1,T1,T1,F0]) (by kernel_rfl) rfl rfl ?_
    refine o_appendIn (i := 1) (m := i.toNat) (L := l) (M := (l.drop j.toNat)) (T := tTimer) rfl rfl rfl (by omega) (rd_dropC (l := j.toNat) (rd_own (i := 1) rfl) (by omega)) Try.underlying57 Try.underlying57 (by intro k h; cases h) el52 (by intro z; simp [tTimer, one1]) (by first | (simp only [List.length_drop]; omega) | (simp; omega)) rfl ?_
    refine o_nil ?_
    refine h_next (dp (lj (lz (ln)))) ?_
    refine h_tk (i := 7) (ls := #[T1,T1,T1,T1,T1,T1,T1,T1]) rfl (p_assign rfl) (dp (lj (lz (ln)))) ?_
    refine h_done (by kernel_rfl) ?_
    refine q_kont hK3 () (sr (sr (Sub.nil _))) (pk [0, 1])
   ·refine o_p (p_sliceL (L := l) (T := tTimer) (l := j) rfl rfl Try.underlying57 sz52 (by omega) (by omega) (rd_own (i := 1) rfl)) ?_
    refine o_nil ?_
    refine h_next (dp (lj (lz (ln)))) ?_
    refine h_one (i := 2) (ls := #[T1,T1,T1,T1,T1,T1,F0,F0]) (by kernel_rfl) rfl rfl ?_
    refine o_p (p_sliceH (L := l) (T := tTimer) (h := i) rfl rfl Try.underlying57 sz52 (by omega) (by omega) (rd_own (i := 1) rfl)) ?_
    refine o_nil ?_
    refine h_next (dp (lj (lz (ln)))) ?_
    refine h_one (i := 6) (ls := #[T1,T1,T1,T1,T1,T1,T1,F0]) (by kernel_rfl) rfl rfl ?_
    refine o_appendIn (i := 1) (m := i.toNat) (L := l) (M := (l.drop j.toNat)) (T := tTimer) rfl rfl rfl (by omega) (rd_dropC (l := j.toNat) (rd_own (i := 1) rfl) (by omega)) Try.underlying57 Try.underlying57 (by intro k h; cases h) el52 (by intro z; simp [tTimer, one1]) (by first | (simp only [List.length_drop]; omega) | (simp; omega)) rfl ?_
    refine o_nil ?_
    refine h_next (dp (lj (lz (ln)))) ?_
    refine h_tk (i := 7) (ls := #[T1,T1,T1,T1,T1,T1,T1,T1]) rfl (p_assign rfl) (dp (lj (lz (ln)))) ?_
    refine h_done (by kernel_rfl) ?_
    refine q_kont hK3 () (sr (sr (Sub.nil _))) (pk [0, 1])
  rintro _
  show SQ _ 33 w0 _ _ [(0, .slice al ((l.take i.toNat) ++ (l.drop j.toNat)).length cl), (7, Vi (l.length : Int))] [outer w0 [own tTimer Sl al cl l], own tTimer Sl al cl ((l.take i.toNat) ++ (l.drop j.toNat))]
  refine q_cast (F' := [(0, .slice al ((l.take i.toNat) ++ (l.drop j.toNat)).length cl), (7, Vi (l.length : Int))]) (H := [outer w0 [own tTimer Sl al cl l], own tTimer Sl al cl ((l.take i.toNat) ++ (l.drop j.toNat))]) (H' := [outer w0 [own tTimer Sl al cl l], own tTimer Sl al cl ((l.take i.toNat) ++ (l.drop j.toNat))]) (sr (sr (Sub.nil _))) (by rfl) ?_
  refine q_then (c_seq (c_region ?_))
  refine o_mv rfl rfl ?_
  refine o_mv rfl rfl ?_
  refine o_p (p_len_slice rfl rfl Try.underlying57) ?_
  refine o_mv rfl rfl ?_
  refine o_p (p_sliceTail (i := 1) (L := ((l.take i.toNat) ++ (l.drop j.toNat))) (T := tTimer) (h := (l.length : Int)) (m := (l.length - (l.take i.toNat ++ l.drop j.toNat).length)) rfl rfl rfl rfl Try.underlying57 sz52 (by simp only [List.length_append, List.length_take, List.length_drop]; omega)) ?_
  refine o_clearTail (i := 1) (T := tTimer) (m := (l.length - (l.take i.toNat ++ l.drop j.toNat).length)) rfl rfl rfl Try.underlying57 ze52 rfl rfl (by first | omega | (simp only [List.length_append, List.length_take, List.length_drop]; omega)) ?_
  refine o_nil (q_then (c_seq (c_region ?_)))
  refine o_mv rfl rfl ?_
  refine o_as rfl rfl ?_
  refine o_nil (q_then (c_ret ?_))
  have hr0 : (((l.take i.toNat) ++ (l.drop j.toNat)) : List DTimer) = (l.take i.toNat ++ l.drop j.toNat) := by
   first | rfl | (have hij : i = j := (by assumption); subst hij; exact (List.take_append_drop _ _).symm)
  refine q_endX (p := (al, cl, Sl)) (rt1 rfl (r_tmp rfl)) ?_ (fun w hw => ?_)
  ·exact (by have hcc := congrArg (fun (y0 : List DTimer) => (.slice al y0.length cl : Value)) hr0; exact hcc)
  ·have h2 := hw.pick (H' := [outer w0 [own tTimer Sl al cl l], own tTimer Sl al cl ((l.take i.toNat) ++ (l.drop j.toNat))]) [0, 1] (by decide) rfl
   exact Eq.mp (congrArg (fun z => HeapIs w0 ((outer w0 [own tTimer Sl al cl l]) :: z) w) ((by have hcc := congrArg (fun (y0 : List DTimer) => ([own tTimer Sl al cl y0] : List Ent)) hr0; exact hcc))) h2

set_option maxHeartbeats 8000000 in
set_option maxRecDepth 100000 in
theorem wput_ok (wh : DWheel) (awh_0 : Option Addr) (cwh_0 : NC) (Swh_0 : Nat → Prop) (t : DTimer) (hy1 : Wh.Fit wh t) : FnX Try.prog 70 [.agg #[Vi wh.now, .slice awh_0 wh.slots.length cwh_0.n], .agg #[Vi t.id, Vi t.due]] [ownN tTimer Swh_0 awh_0 cwh_0 wh.slots] (fun _ => True) ((Nat → Option Addr) × (Nat → Nat) × (Nat → Prop)) (fun p => .tuple #[]) (fun p => [ownN tTimer p.2.2 awh_0 (⟨cwh_0.n, p.1, p.2.1⟩ : NC) ((Wh.put wh t).slots)]) := by
 refine fnX (nt := 35) (F0 := [(0, .agg #[Vi wh.now, .slice awh_0 wh.slots.length cwh_0.n]), (1, .agg #[Vi t.id, Vi t.due])]) Try.func70 rfl Try.ntmps70 rfl rfl (fun w0 hpre => ?_)
 refine c_know (fun w hw => own_lenN (i := 1) (T := tTimer) hw rfl) (fun hlown_wh_0 => ?_)
 obtain ⟨hcown_wh_0, hlown_wh_0⟩ := hlown_wh_0
 obtain ⟨hf1, hf2, hf3, hf4⟩ := id hy1
 have hpb := Wh.place_bd t.due wh.now
 have hsp := hy1.split
 have hrl := hf4 (Wh.place t.due wh.now).toNat
 have hlw := lowF_le (fun x => Wh.order x t) (wh.slots.getD (Wh.place t.due wh.now).toNat [])
 refine c_seq (c_region ?_)
 refine o_box (v := .agg #[Vi wh.now, .slice awh_0 wh.slots.length cwh_0.n]) rfl rfl (fun B1 => ?_)
 refine o_box (v := .agg #[Vi t.id, Vi t.due]) rfl rfl (fun B2 => ?_)
 refine o_nil (q_then (c_seq (c_region ?_)))
 refine o_p (p_fieldAddr (j' := 1) rfl fo52_1 rfl) ?_
 refine o_p (p_load (i := 0) (v := Vi t.due) rfl rfl sh3 rfl) ?_
 refine o_p (p_fieldAddr (j' := 0) rfl fo50_0 rfl) ?_
 refine o_p (p_load (i := 1) (v := Vi wh.now) rfl rfl sh3 rfl) ?_
 refine o_call0 (v := Vi (Wh.place t.due wh.now)) rfl (wplace_ok t.due wh.now (by first | assumption | omega) (by first | assumption | omega)) hf77 (fun _ _ => trivial) rfl ?_
 refine o_as rfl rfl ?_
 refine o_nil (q_then (c_seq ?_))
 refine c_draw hmix (by kernel_rfl) ?_
 refine w_p (p_fieldAddr (j' := 1) rfl fo50_1 rfl) ?_
 refine w_p (p_load (i := 1) (v := .slice awh_0 wh.slots.length cwh_0.n) rfl rfl sh48 rfl) ?_
 refine w_mv rfl rfl ?_
 refine w_p (p_indexAddrN (T := tTimer) (c := cwh_0) (LL := wh.slots) (i := (Wh.place t.due wh.now)) rfl rfl (rd_ownN (i := 3) rfl) Try.underlying48 sz57 (by first | omega | decide) (by first | omega | decide)) ?_
 refine w_p (p_loadN (T := tTimer) (c := cwh_0) (LL := wh.slots) (i := (Wh.place t.due wh.now).toNat) rfl (rd_ownN (i := 3) rfl) (by first | assumption | omega | decide) sh57) ?_
 refine w_p (p_load_agg (i := 0) (vs := [Vi t.id, Vi t.due]) rfl rfl sh52 rfl rfl) ?_
 refine w_call0 (v := .tuple #[Vi (lowF (fun x => (fun (x : DTimer) (y : DTimer) => (Wh.order x y)) x t) (wh.slots.getD ((Wh.place t.due wh.now).toNat) []) : Int), .bool (hitF (fun x => (fun (x : DTimer) (y : DTimer) => (Wh.order x y)) x t) (wh.slots.getD ((Wh.place t.due wh.now).toNat) []))]) rfl (bsearch_ok (wh.slots.getD ((Wh.place t.due wh.now).toNat) []) (cwh_0.ra ((Wh.place t.due wh.now).toNat)) (cwh_0.rc ((Wh.place t.due wh.now).toNat)) t 74 [] (fun x y => (Wh.order x y)) (fun _ => True) (fun _ _ _ h => h) (fun x y => worder_ok x y) hf74 (by first | assumption | exact hsp)) hf108 (fun w hw => ⟨(rd_rowN (i := (Wh.place t.due wh.now).toNat) (rd_ownN (i := 3) rfl) (by first | assumption | omega)) w hw, trivial⟩) rfl ?_
 refine w_mv rfl rfl ?_
 refine w_p (p_extract rfl rfl) ?_
 refine w_p (p_extract rfl rfl) ?_
 refine w_p (p_assign rfl) ?_
 refine w_p (p_assign rfl) ?_
 refine w_nil (q_then ?_)
 refine c_cut (G := Option Addr × Nat × (Nat → Prop)) (fun ⟨a3_11, c3_11, S3_13⟩ => []) (fun ⟨a3_11, c3_11, S3_13⟩ => [ownN tTimer S3_13 awh_0 (cwh_0.put ((Wh.place t.due wh.now).toNat) a3_11 c3_11) (wh.slots.set ((Wh.place t.due wh.now).toNat) ((wh.slots.getD ((Wh.place t.due wh.now).toNat) []).take (lowF (fun x => (fun (x : DTimer) (y : DTimer) => (Wh.order x y)) x t) (wh.slots.getD ((Wh.place t.due wh.now).toNat) []) : Int).toNat ++ ([(⟨t.id, t.due⟩ : DTimer)]) ++ (wh.slots.getD ((Wh.place t.due wh.now).toNat) []).drop (lowF (fun x => (fun (x : DTimer) (y : DTimer) => (Wh.order x y)) x t) (wh.slots.getD ((Wh.place t.due wh.now).toNat) []) : Int).toNat)), box B2 [Vi t.id, Vi t.due] 52, box B1 [Vi wh.now, .slice awh_0 wh.slots.length cwh_0.n] 50, outer w0 [ownN tTimer Swh_0 awh_0 cwh_0 wh.slots]]) (fun K hK4 => ?_) ?_
 ·refine c_held hmix [box B2 [Vi t.id, Vi t.due] 52, box B1 [Vi wh.now, .slice awh_0 wh.slots.length cwh_0.n] 50, outer w0 [ownN tTimer Swh_0 awh_0 cwh_0 wh.slots]] rfl rfl ?_
  refine h_tk (i := 0) (ls := #[T1,F0,F0,F0,F0,F0,F0,F0,F0,F0,F0,F0,F0,F0]) rfl (p_fieldAddr (j' := 1) rfl fo50_1 rfl) (dp (lj (lj (lj (lz (ln)))))) ?_
  refine h_tk (i := 1) (ls := #[T1,T1,F0,F0,F0,F0,F0,F0,F0,F0,F0,F0,F0,F0]) rfl (p_load (i := 1) (v := .slice awh_0 wh.slots.length cwh_0.n) rfl rfl sh48 rfl) (dp (lj (lj (lj (lz (ln)))))) ?_
  refine h_tk (i := 2) (ls := #[T1,T1,T1,F0,F0,F0,F0,F0,F0,F0,F0,F0,F0,F0]) rfl (p_move rfl) (dp (lj (lj (lj (lz (ln)))))) ?_
  refine h_tk (i := 3) (ls := #[T1,T1,T1,T1,F0,F0,F0,F0,F0,F0,F0,F0,F0,F0]) rfl (p_fieldAddr (j' := 1) rfl fo50_1 rfl) (dp (lj (lj (lj (lz (ln)))))) ?_
  refine h_tk (i := 4) (ls := #[T1,T1,T1,T1,T1,F0,F0,F0,F0,F0,F0,F0,F0,F0]) rfl (p_load (i := 1) (v := .slice awh_0 wh.slots.length cwh_0.n) rfl rfl sh48 rfl) (dp (lj (lj (lj (lz (ln)))))) ?_
  refine h_tk (i := 5) (ls := #[T1,T1,T1,T1,T1,T1,F0,F0,F0,F0,F0,F0,F0,F0]) rfl (p_move rfl) (dp (lj (lj (lj (lz (ln)))))) ?_
  refine h_tk (i := 8) (ls := #[T1,T1,T1,T1,T1,T1,F0,F0,T1,F0,F0,F0,F0,F0]) rfl (p_move rfl) (dp (lj (lj (lj (lz (ln)))))) ?_
  refine h_tk (i := 9) (ls := #[T1,T1,T1,T1,T1,T1,F0,F0,T1,T1,F0,F0,F0,F0]) rfl (p_load_agg (i := 0) (vs := [Vi t.id, Vi t.due]) rfl rfl sh52 rfl rfl) (dp (lj (lj (lj (lz (ln)))))) ?_
  refine h_two (i := 6) (j := 10) (ls := #[T1,T1,T1,T1,T1,T1,T1,F0,T1,T1,F0,F0,F0,F0]) (ls' := #[T1,T1,T1,T1,T1,T1,F0,F0,T1,T1,T1,F0,F0,F0]) (by kernel_rfl) rfl rfl rfl rfl ?_ ?_
  ·refine o_p (p_indexAddrN (T := tTimer) (c := cwh_0) (LL := wh.slots) (i := (Wh.place t.due wh.now)) rfl rfl (rd_ownN (i := 3) rfl) Try.underlying48 sz57 (by first | omega | decide) (by first | omega | decide)) ?_
   refine o_nil ?_
   refine h_next (dp (lj (lj (lj (lz (ln)))))) ?_
   refine h_two (i := 7) (j := 10) (ls := #[T1,T1,T1,T1,T1,T1,T1,T1,T1,T1,F0,F0,F0,F0]) (ls' := #[T1,T1,T1,T1,T1,T1,T1,F0,T1,T1,T1,F0,F0,F0]) (by kernel_rfl) rfl rfl rfl rfl ?_ ?_
   ·refine o_p (p_loadN (T := tTimer) (c := cwh_0) (LL := wh.slots) (i := (Wh.place t.due wh.now).toNat) rfl (rd_ownN (i := 3) rfl) (by first | assumption | omega | decide) sh57) ?_
    refine o_nil ?_
    refine h_next (dp (lj (lj (lj (lz (ln)))))) ?_
    refine h_one (i := 10) (ls := #[T1,T1,T1,T1,T1,T1,T1,T1,T1,T1,T1,F0,F0,F0]) (by kernel_rfl) rfl rfl ?_
    refine o_buildSlice (m := 1) (T := tTimer) (L := [(⟨t.id, t.due⟩ : DTimer)]) (vs := [.agg #[Vi t.id, Vi t.due]]) rfl rfl rfl rfl Try.underlying57 sz52 (by decide) ze52 rfl (by decide) rfl (fun S3_10 a3_10 => ?_)
    refine o_nil ?_
    refine h_next (dp (lz (lj (lj (lj (lz (ln))))))) ?_
    refine h_one (i := 11) (ls := #[T1,T1,T1,T1,T1,T1,T1,T1,T1,T1,T1,T1,F0,F0]) (by kernel_rfl) rfl rfl ?_
    refine o_pick (H' := [ownN tTimer Swh_0 awh_0 cwh_0 wh.slots, own tTimer S3_10 a3_10 ([(⟨t.id, t.due⟩ : DTimer)].length) ([(⟨t.id, t.due⟩ : DTimer)]), box B2 [Vi t.id, Vi t.due] 52, box B1 [Vi wh.now, .slice awh_0 wh.slots.length cwh_0.n] 50, outer w0 [ownN tTimer Swh_0 awh_0 cwh_0 wh.slots]]) [4, 0, 1, 2, 3] (by decide) rfl ?_
    refine o_outN (k := (Wh.place t.due wh.now).toNat) (by first | assumption | omega) (fun S3_11 S3_11_1 => ?_)
    refine o_pick (H' := [own tTimer S3_11 (cwh_0.ra ((Wh.place t.due wh.now).toNat)) (cwh_0.rc ((Wh.place t.due wh.now).toNat)) (wh.slots.getD ((Wh.place t.due wh.now).toNat) []), own tTimer S3_10 a3_10 ([(⟨t.id, t.due⟩ : DTimer)].length) ([(⟨t.id, t.due⟩ : DTimer)]), ownX tTimer S3_11_1 awh_0 cwh_0 wh.slots (fun i => i = ((Wh.place t.due wh.now).toNat)), box B2 [Vi t.id, Vi t.due] 52, box B1 [Vi wh.now, .slice awh_0 wh.slots.length cwh_0.n] 50, outer w0 [ownN tTimer Swh_0 awh_0 cwh_0 wh.slots]]) [0, 2, 1, 3, 4, 5] (by decide) rfl ?_
    refine o_callX (pre := [own tTimer S3_11 (cwh_0.ra ((Wh.place t.due wh.now).toNat)) (cwh_0.rc ((Wh.place t.due wh.now).toNat)) (wh.slots.getD ((Wh.place t.due wh.now).toNat) []), own tTimer S3_10 a3_10 ([(⟨t.id, t.due⟩ : DTimer)].length) ([(⟨t.id, t.due⟩ : DTimer)])]) (R := [ownX tTimer S3_11_1 awh_0 cwh_0 wh.slots (fun i => i = ((Wh.place t.due wh.now).toNat)), box B2 [Vi t.id, Vi t.due] 52, box B1 [Vi wh.now, .slice awh_0 wh.slots.length cwh_0.n] 50, outer w0 [ownN tTimer Swh_0 awh_0 cwh_0 wh.slots]]) rfl (insert_Timer_ok (wh.slots.getD ((Wh.place t.due wh.now).toNat) []) (cwh_0.ra ((Wh.place t.due wh.now).toNat)) (cwh_0.rc ((Wh.place t.due wh.now).toNat)) S3_11 (lowF (fun x => (fun (x : DTimer) (y : DTimer) => (Wh.order x y)) x t) (wh.slots.getD ((Wh.place t.due wh.now).toNat) []) : Int) ([(⟨t.id, t.due⟩ : DTimer)]) a3_10 ([(⟨t.id, t.due⟩ : DTimer)].length) S3_10 (by (try simp only [List.length_cons, List.length_nil, List.length_append, List.length_take, List.length_drop, and_true]); omega)) hf109 rfl (fun _ _ => trivial) rfl ?_
    rintro ⟨a3_11, c3_11, S3_11_2⟩
    refine o_asH (H' := [own tTimer S3_11_2 a3_11 c3_11 ((wh.slots.getD ((Wh.place t.due wh.now).toNat) []).take (lowF (fun x => (fun (x : DTimer) (y : DTimer) => (Wh.order x y)) x t) (wh.slots.getD ((Wh.place t.due wh.now).toNat) []) : Int).toNat ++ ([(⟨t.id, t.due⟩ : DTimer)]) ++ (wh.slots.getD ((Wh.place t.due wh.now).toNat) []).drop (lowF (fun x => (fun (x : DTimer) (y : DTimer) => (Wh.order x y)) x t) (wh.slots.getD ((Wh.place t.due wh.now).toNat) []) : Int).toNat), ownX tTimer S3_11_1 awh_0 cwh_0 wh.slots (fun i => i = ((Wh.place t.due wh.now).toNat)), box B2 [Vi t.id, Vi t.due] 52, box B1 [Vi wh.now, .slice awh_0 wh.slots.length cwh_0.n] 50, outer w0 [ownN tTimer Swh_0 awh_0 cwh_0 wh.slots]]) rfl ?_
    refine o_nil ?_
    refine h_next (dp (lz (lz (lj (lj (lj (ln))))))) ?_
    refine h_one (i := 12) (ls := #[T1,T1,T1,T1,T1,T1,T1,T1,T1,T1,T1,T1,T1,F0]) (by kernel_rfl) rfl rfl ?_
    refine o_p (p_indexAddrX (T := tTimer) (c := cwh_0) (LL := wh.slots) (i := (Wh.place t.due wh.now)) (j := 1) rfl rfl rfl Try.underlying48 sz57 (by first | omega | decide) (by first | omega | decide)) ?_
    refine o_nil ?_
    refine h_next (dp (lz (lz (lj (lj (lj (ln))))))) ?_
    refine h_one (i := 13) (ls := #[T1,T1,T1,T1,T1,T1,T1,T1,T1,T1,T1,T1,T1,T1]) (by kernel_rfl) rfl rfl ?_
    refine o_storeRow (k := (Wh.place t.due wh.now).toNat) (T := tTimer) rfl rfl (by first | assumption | omega | (simp only [List.length_set]; omega)) sz57 (Sub.refl _) (fun S3_13 => ?_)
    refine o_nil ?_
    refine h_next (dp (lz (lj (lj (lj (ln)))))) ?_
    refine h_done (by kernel_rfl) ?_
    refine q_kont hK4 (a3_11, c3_11, S3_13) (Sub.nil _) (pk [0, 1, 2, 3])
   ·refine o_buildSlice (m := 1) (T := tTimer) (L := [(⟨t.id, t.due⟩ : DTimer)]) (vs := [.agg #[Vi t.id, Vi t.due]]) rfl rfl rfl rfl Try.underlying57 sz52 (by decide) ze52 rfl (by decide) rfl (fun S3_10 a3_10 => ?_)
    refine o_nil ?_
    refine h_next (dp (lz (lj (lj (lj (lz (ln))))))) ?_
    refine h_one (i := 7) (ls := #[T1,T1,T1,T1,T1,T1,T1,T1,T1,T1,T1,F0,F0,F0]) (by kernel_rfl) rfl rfl ?_
    refine o_p (p_loadN (T := tTimer) (c := cwh_0) (LL := wh.slots) (i := (Wh.place t.due wh.now).toNat) rfl (rd_ownN (i := 4) rfl) (by first | assumption | omega | decide) sh57) ?_
    refine o_nil ?_
    refine h_next (dp (lz (lj (lj (lj (lz (ln))))))) ?_
    refine h_one (i := 11) (ls := #[T1,T1,T1,T1,T1,T1,T1,T1,T1,T1,T1,T1,F0,F0]) (by kernel_rfl) rfl rfl ?_
    refine o_pick (H' := [ownN tTimer Swh_0 awh_0 cwh_0 wh.slots, own tTimer S3_10 a3_10 ([(⟨t.id, t.due⟩ : DTimer)].length) ([(⟨t.id, t.due⟩ : DTimer)]), box B2 [Vi t.id, Vi t.due] 52, box B1 [Vi wh.now, .slice awh_0 wh.slots.length cwh_0.n] 50, outer w0 [ownN tTimer Swh_0 awh_0 cwh_0 wh.slots]]) [4, 0, 1, 2, 3] (by decide) rfl ?_
    refine o_outN (k := (Wh.place t.due wh.now).toNat) (by first | assumption | omega) (fun S3_11 S3_11_1 => ?_)
    refine o_pick (H' := [own tTimer S3_11 (cwh_0.ra ((Wh.place t.due wh.now).toNat)) (cwh_0.rc ((Wh.place t.due wh.now).toNat)) (wh.slots.getD ((Wh.place t.due wh.now).toNat) []), own tTimer S3_10 a3_10 ([(⟨t.id, t.due⟩ : DTimer)].length) ([(⟨t.id, t.due⟩ : DTimer)]), ownX tTimer S3_11_1 awh_0 cwh_0 wh.slots (fun i => i = ((Wh.place t.due wh.now).toNat)), box B2 [Vi t.id, Vi t.due] 52, box B1 [Vi wh.now, .slice awh_0 wh.slots.length cwh_0.n] 50, outer w0 [ownN tTimer Swh_0 awh_0 cwh_0 wh.slots]]) [0, 2, 1, 3, 4, 5] (by decide) rfl ?_
    refine o_callX (pre := [own tTimer S3_11 (cwh_0.ra ((Wh.place t.due wh.now).toNat)) (cwh_0.rc ((Wh.place t.due wh.now).toNat)) (wh.slots.getD ((Wh.place t.due wh.now).toNat) []), own tTimer S3_10 a3_10 ([(⟨t.id, t.due⟩ : DTimer)].length) ([(⟨t.id, t.due⟩ : DTimer)])]) (R := [ownX tTimer S3_11_1 awh_0 cwh_0 wh.slots (fun i => i = ((Wh.place t.due wh.now).toNat)), box B2 [Vi t.id, Vi t.due] 52, box B1 [Vi wh.now, .slice awh_0 wh.slots.length cwh_0.n] 50, outer w0 [ownN tTimer Swh_0 awh_0 cwh_0 wh.slots]]) rfl (insert_Timer_ok (wh.slots.getD ((Wh.place t.due wh.now).toNat) []) (cwh_0.ra ((Wh.place t.due wh.now).toNat)) (cwh_0.rc ((Wh.place t.due wh.now).toNat)) S3_11 (lowF (fun x => (fun (x : DTimer) (y : DTimer) => (Wh.order x y)) x t) (wh.slots.getD ((Wh.place t.due wh.now).toNat) []) : Int) ([(⟨t.id, t.due⟩ : DTimer)]) a3_10 ([(⟨t.id, t.due⟩ : DTimer)].length) S3_10 (by (try simp only [List.length_cons, List.length_nil, List.length_append, List.length_take, List.length_drop, and_true]); omega)) hf109 rfl (fun _ _ => trivial) rfl ?_
    rintro ⟨a3_11, c3_11, S3_11_2⟩
    refine o_asH (H' := [own tTimer S3_11_2 a3_11 c3_11 ((wh.slots.getD ((Wh.place t.due wh.now).toNat) []).take (lowF (fun x => (fun (x : DTimer) (y : DTimer) => (Wh.order x y)) x t) (wh.slots.getD ((Wh.place t.due wh.now).toNat) []) : Int).toNat ++ ([(⟨t.id, t.due⟩ : DTimer)]) ++ (wh.slots.getD ((Wh.place t.due wh.now).toNat) []).drop (lowF (fun x => (fun (x : DTimer) (y : DTimer) => (Wh.order x y)) x t) (wh.slots.getD ((Wh.place t.due wh.now).toNat) []) : Int).toNat), ownX tTimer S3_11_1 awh_0 cwh_0 wh.slots (fun i => i = ((Wh.place t.due wh.now).toNat)), box B2 [Vi t.id, Vi t.due] 52, box B1 [Vi wh.now, .slice awh_0 wh.slots.length cwh_0.n] 50, outer w0 [ownN tTimer Swh_0 awh_0 cwh_0 wh.slots]]) rfl ?_
    refine o_nil ?_
    refine h_next (dp (lz (lz (lj (lj (lj (ln))))))) ?_
    refine h_one (i := 12) (ls := #[T1,T1,T1,T1,T1,T1,T1,T1,T1,T1,T1,T1,T1,F0]) (by kernel_rfl) rfl rfl ?_
    refine o_p (p_indexAddrX (T := tTimer) (c := cwh_0) (LL := wh.slots) (i := (Wh.place t.due wh.now)) (j := 1) rfl rfl rfl Try.underlying48 sz57 (by first | omega | decide) (by first | omega | decide)) ?_
    refine o_nil ?_
    refine h_next (dp (lz (lz (lj (lj (lj (ln))))))) ?_
    refine h_one (i := 13) (ls := #[T1,T1,T1,T1,T1,T1,T1,T1,T1,T1,T1,T1,T1,T1]) (by kernel_rfl) rfl rfl ?_
    refine o_storeRow (k := (Wh.place t.due wh.now).toNat) (T := tTimer) rfl rfl (by first | assumption | omega | (simp only [List.length_set]; omega)) sz57 (Sub.refl _) (fun S3_13 => ?_)
    refine o_nil ?_
    refine h_next (dp (lz (lj (lj (lj (ln)))))) ?_
    refine h_done (by kernel_rfl) ?_
    refine q_kont hK4 (a3_11, c3_11, S3_13) (Sub.nil _) (pk [0, 1, 2, 3])
  ·refine o_buildSlice (m := 1) (T := tTimer) (L := [(⟨t.id, t.due⟩ : DTimer)]) (vs := [.agg #[Vi t.id, Vi t.due]]) rfl rfl rfl rfl Try.underlying57 sz52 (by decide) ze52 rfl (by decide) rfl (fun S3_10 a3_10 => ?_)
   refine o_nil ?_
   refine h_next (dp (lz (lj (lj (lj (lz (ln))))))) ?_
   refine h_one (i := 6) (ls := #[T1,T1,T1,T1,T1,T1,T1,F0,T1,T1,T1,F0,F0,F0]) (by kernel_rfl) rfl rfl ?_
   refine o_p (p_indexAddrN (T := tTimer) (c := cwh_0) (LL := wh.slots) (i := (Wh.place t.due wh.now)) rfl rfl (rd_ownN (i := 4) rfl) Try.underlying48 sz57 (by first | omega | decide) (by first | omega | decide)) ?_
   refine o_nil ?_
   refine h_next (dp (lz (lj (lj (lj (lz (ln))))))) ?_
   refine h_one (i := 7) (ls := #[T1,T1,T1,T1,T1,T1,T1,T1,T1,T1,T1,F0,F0,F0]) (by kernel_rfl) rfl rfl ?_
   refine o_p (p_loadN (T := tTimer) (c := cwh_0) (LL := wh.slots) (i := (Wh.place t.due wh.now).toNat) rfl (rd_ownN (i := 4) rfl) (by first | assumption | omega | decide) sh57) ?_
   refine o_nil ?_
   refine h_next (dp (lz (lj (lj (lj (lz (ln))))))) ?_
   refine h_one (i := 11) (ls := #[T1,T1,T1,T1,T1,T1,T1,T1,T1,T1,T1,T1,F0,F0]) (by kernel_rfl) rfl rfl ?_
   refine o_pick (H' := [ownN tTimer Swh_0 awh_0 cwh_0 wh.slots, own tTimer S3_10 a3_10 ([(⟨t.id, t.due⟩ : DTimer)].length) ([(⟨t.id, t.due⟩ : DTimer)]), box B2 [Vi t.id, Vi t.due] 52, box B1 [Vi wh.now, .slice awh_0 wh.slots.length cwh_0.n] 50, outer w0 [ownN tTimer Swh_0 awh_0 cwh_0 wh.slots]]) [4, 0, 1, 2, 3] (by decide) rfl ?_
   refine o_outN (k := (Wh.place t.due wh.now).toNat) (by first | assumption | omega) (fun S3_11 S3_11_1 => ?_)
   refine o_pick (H' := [own tTimer S3_11 (cwh_0.ra ((Wh.place t.due wh.now).toNat)) (cwh_0.rc ((Wh.place t.due wh.now).toNat)) (wh.slots.getD ((Wh.place t.due wh.now).toNat) []), own tTimer S3_10 a3_10 ([(⟨t.id, t.due⟩ : DTimer)].length) ([(⟨t.id, t.due⟩ : DTimer)]), ownX tTimer S3_11_1 awh_0 cwh_0 wh.slots (fun i => i = ((Wh.place t.due wh.now).toNat)), box B2 [Vi t.id, Vi t.due] 52, box B1 [Vi wh.now, .slice awh_0 wh.slots.length cwh_0.n] 50, outer w0 [ownN tTimer Swh_0 awh_0 cwh_0 wh.slots]]) [0, 2, 1, 3, 4, 5] (by decide) rfl ?_
   refine o_callX (pre := [own tTimer S3_11 (cwh_0.ra ((Wh.place t.due wh.now).toNat)) (cwh_0.rc ((Wh.place t.due wh.now).toNat)) (wh.slots.getD ((Wh.place t.due wh.now).toNat) []), own tTimer S3_10 a3_10 ([(⟨t.id, t.due⟩ : DTimer)].length) ([(⟨t.id, t.due⟩ : DTimer)])]) (R := [ownX tTimer S3_11_1 awh_0 cwh_0 wh.slots (fun i => i = ((Wh.place t.due wh.now).toNat)), box B2 [Vi t.id, Vi t.due] 52, box B1 [Vi wh.now, .slice awh_0 wh.slots.length cwh_0.n] 50, outer w0 [ownN tTimer Swh_0 awh_0 cwh_0 wh.slots]]) rfl (insert_Timer_ok (wh.slots.getD ((Wh.place t.due wh.now).toNat) []) (cwh_0.ra ((Wh.place t.due wh.now).toNat)) (cwh_0.rc ((Wh.place t.due wh.now).toNat)) S3_11 (lowF (fun x => (fun (x : DTimer) (y : DTimer) => (Wh.order x y)) x t) (wh.slots.getD ((Wh.place t.due wh.now).toNat) []) : Int) ([(⟨t.id, t.due⟩ : DTimer)]) a3_10 ([(⟨t.id, t.due⟩ : DTimer)].length) S3_10 (by (try simp only [List.length_cons, List.length_nil, List.length_append, List.length_take, List.length_drop, and_true]); omega)) hf109 rfl (fun _ _ => trivial) rfl ?_
   rintro ⟨a3_11, c3_11, S3_11_2⟩
   refine o_asH (H' := [own tTimer S3_11_2 a3_11 c3_11 ((wh.slots.getD ((Wh.place t.due wh.now).toNat) []).take (lowF (fun x => (fun (x : DTimer) (y : DTimer) => (Wh.order x y)) x t) (wh.slots.getD ((Wh.place t.due wh.now).toNat) []) : Int).toNat ++ ([(⟨t.id, t.due⟩ : DTimer)]) ++ (wh.slots.getD ((Wh.place t.due wh.now).toNat) []).drop (lowF (fun x => (fun (x : DTimer) (y : DTimer) => (Wh.order x y)) x t) (wh.slots.getD ((Wh.place t.due wh.now).toNat) []) : Int).toNat), ownX tTimer S3_11_1 awh_0 cwh_0 wh.slots (fun i => i = ((Wh.place t.due wh.now).toNat)), box B2 [Vi t.id, Vi t.due] 52, box B1 [Vi wh.now, .slice awh_0 wh.slots.length cwh_0.n] 50, outer w0 [ownN tTimer Swh_0 awh_0 cwh_0 wh.slots]]) rfl ?_
   refine o_nil ?_
   refine h_next (dp (lz (lz (lj (lj (lj (ln))))))) ?_
   refine h_one (i := 12) (ls := #[T1,T1,T1,T1,T1,T1,T1,T1,T1,T1,T1,T1,T1,F0]) (by kernel_rfl) rfl rfl ?_
   refine o_p (p_indexAddrX (T := tTimer) (c := cwh_0) (LL := wh.slots) (i := (Wh.place t.due wh.now)) (j := 1) rfl rfl rfl Try.underlying48 sz57 (by first | omega | decide) (by first | omega | decide)) ?_
   refine o_nil ?_
   refine h_next (dp (lz (lz (lj (lj (lj (ln))))))) ?_
   refine h_one (i := 13) (ls := #[T1,T1,T1,T1,T1,T1,T1,T1,T1,T1,T1,T1,T1,T1]) (by kernel_rfl) rfl rfl ?_
   refine o_storeRow (k := (Wh.place t.due wh.now).toNat) (T := tTimer) rfl rfl (by first | assumption | omega | (simp only [List.length_set]; omega)) sz57 (Sub.refl _) (fun S3_13 => ?_)
   refine o_nil ?_
   refine h_next (dp (lz (lj (lj (lj (ln)))))) ?_
   refine h_done (by kernel_rfl) ?_
   refine q_kont hK4 (a3_11, c3_11, S3_13) (Sub.nil _) (pk [0, 1, 2, 3])
 rintro ⟨a3_11, c3_11, S3_13⟩
 show SQ _ 35 w0 _ _ [] [ownN tTimer S3_13 awh_0 (cwh_0.put ((Wh.place t.due wh.now).toNat) a3_11 c3_11) (wh.slots.set ((Wh.place t.due wh.now).toNat) ((wh.slots.getD ((Wh.place t.due wh.now).toNat) []).take (lowF (fun x => (fun (x : DTimer) (y : DTimer) => (Wh.order x y)) x t) (wh.slots.getD ((Wh.place t.due wh.now).toNat) []) : Int).toNat ++ ([(⟨t.id, t.due⟩ : DTimer)]) ++ (wh.slots.getD ((Wh.place t.due wh.now).toNat) []).drop (lowF (fun x => (fun (x : DTimer) (y : DTimer) => (Wh.order x y)) x t) (wh.slots.getD ((Wh.place t.due wh.now).toNat) []) : Int).toNat)), box B2 [Vi t.id, Vi t.due] 52, box B1 [Vi wh.now, .slice awh_0 wh.slots.length cwh_0.n] 50, outer w0 [ownN tTimer Swh_0 awh_0 cwh_0 wh.slots]]
 refine q_cast (F' := []) (H := [ownN tTimer S3_13 awh_0 (cwh_0.put ((Wh.place t.due wh.now).toNat) a3_11 c3_11) (wh.slots.set ((Wh.place t.due wh.now).toNat) ((wh.slots.getD ((Wh.place t.due wh.now).toNat) []).take (lowF (fun x => (fun (x : DTimer) (y : DTimer) => (Wh.order x y)) x t) (wh.slots.getD ((Wh.place t.due wh.now).toNat) []) : Int).toNat ++ ([(⟨t.id, t.due⟩ : DTimer)]) ++ (wh.slots.getD ((Wh.place t.due wh.now).toNat) []).drop (lowF (fun x => (fun (x : DTimer) (y : DTimer) => (Wh.order x y)) x t) (wh.slots.getD ((Wh.place t.due wh.now).toNat) []) : Int).toNat)), box B2 [Vi t.id, Vi t.due] 52, box B1 [Vi wh.now, .slice awh_0 wh.slots.length cwh_0.n] 50, outer w0 [ownN tTimer Swh_0 awh_0 cwh_0 wh.slots]]) (H' := [ownN tTimer S3_13 awh_0 (cwh_0.put ((Wh.place t.due wh.now).toNat) a3_11 c3_11) (wh.slots.set ((Wh.place t.due wh.now).toNat) ((wh.slots.getD ((Wh.place t.due wh.now).toNat) []).take (lowF (fun x => (fun (x : DTimer) (y : DTimer) => (Wh.order x y)) x t) (wh.slots.getD ((Wh.place t.due wh.now).toNat) []) : Int).toNat ++ ([(⟨t.id, t.due⟩ : DTimer)]) ++ (wh.slots.getD ((Wh.place t.due wh.now).toNat) []).drop (lowF (fun x => (fun (x : DTimer) (y : DTimer) => (Wh.order x y)) x t) (wh.slots.getD ((Wh.place t.due wh.now).toNat) []) : Int).toNat)), box B2 [Vi t.id, Vi t.due] 52, box B1 [Vi wh.now, .slice awh_0 (wh.slots.set ((Wh.place t.due wh.now).toNat) ((wh.slots.getD ((Wh.place t.due wh.now).toNat) []).take (lowF (fun x => (fun (x : DTimer) (y : DTimer) => (Wh.order x y)) x t) (wh.slots.getD ((Wh.place t.due wh.now).toNat) []) : Int).toNat ++ ([(⟨t.id, t.due⟩ : DTimer)]) ++ (wh.slots.getD ((Wh.place t.due wh.now).toNat) []).drop (lowF (fun x => (fun (x : DTimer) (y : DTimer) => (Wh.order x y)) x t) (wh.slots.getD ((Wh.place t.due wh.now).toNat) []) : Int).toNat)).length (cwh_0.put ((Wh.place t.due wh.now).toNat) a3_11 c3_11).n] 50, outer w0 [ownN tTimer Swh_0 awh_0 cwh_0 wh.slots]]) (Sub.nil _) (by simp only [List.length_set, List.length_reverse, NC.put_n]) ?_
 have hr0 : ((wh.slots.set ((Wh.place t.due wh.now).toNat) ((wh.slots.getD ((Wh.place t.due wh.now).toNat) []).take (lowF (fun x => (fun (x : DTimer) (y : DTimer) => (Wh.order x y)) x t) (wh.slots.getD ((Wh.place t.due wh.now).toNat) []) : Int).toNat ++ ([(⟨t.id, t.due⟩ : DTimer)]) ++ (wh.slots.getD ((Wh.place t.due wh.now).toNat) []).drop (lowF (fun x => (fun (x : DTimer) (y : DTimer) => (Wh.order x y)) x t) (wh.slots.getD ((Wh.place t.due wh.now).toNat) []) : Int).toNat)) : List (List DTimer)) = ((Wh.put wh t).slots) := by
  first | rfl | omega
 refine q_endX (p := (((cwh_0.put ((Wh.place t.due wh.now).toNat) a3_11 c3_11)).ra, ((cwh_0.put ((Wh.place t.due wh.now).toNat) a3_11 c3_11)).rc, S3_13)) (rt0 rfl) ?_ (fun w hw => ?_)
 ·exact rfl
 ·have h2 := hw.pick (H' := [outer w0 [ownN tTimer Swh_0 awh_0 cwh_0 wh.slots], ownN tTimer S3_13 awh_0 (cwh_0.put ((Wh.place t.due wh.now).toNat) a3_11 c3_11) (wh.slots.set ((Wh.place t.due wh.now).toNat) ((wh.slots.getD ((Wh.place t.due wh.now).toNat) []).take (lowF (fun x => (fun (x : DTimer) (y : DTimer) => (Wh.order x y)) x t) (wh.slots.getD ((Wh.place t.due wh.now).toNat) []) : Int).toNat ++ ([(⟨t.id, t.due⟩ : DTimer)]) ++ (wh.slots.getD ((Wh.place t.due wh.now).toNat) []).drop (lowF (fun x => (fun (x : DTimer) (y : DTimer) => (Wh.order x y)) x t) (wh.slots.getD ((Wh.place t.due wh.now).toNat) []) : Int).toNat))]) [3, 0] (by decide) rfl
  exact Eq.mp (congrArg (fun z => HeapIs w0 ((outer w0 [ownN tTimer Swh_0 awh_0 cwh_0 wh.slots]) :: z) w) ((by have hcc := congrArg (fun (y0 : List (List DTimer)) => ([ownN tTimer S3_13 awh_0 (⟨cwh_0.n, ((cwh_0.put ((Wh.place t.due wh.now).toNat) a3_11 c3_11)).ra, ((cwh_0.put ((Wh.place t.due wh.now).toNat) a3_11 c3_11)).rc⟩ : NC) y0] : List Ent)) hr0; exact hcc))) h2

set_option maxHeartbeats 8000000 in
set_option maxRecDepth 100000 in
theorem wadd_ok (wh : DWheel) (awh_0 : Option Addr) (cwh_0 : NC) (t : DTimer) : FnM Try.prog 30 [.agg #[Vi wh.now, .slice awh_0 wh.slots.length cwh_0.n], .agg #[Vi t.id, Vi t.due]] (fun w => RdN tTimer w awh_0 cwh_0 wh.slots) (Option Addr × NC) (fun p => .tuple #[.agg #[Vi ((Wh.add wh t).now), .slice p.1 ((Wh.add wh t).slots).length p.2.n], Vi (Wh.addErr wh t)]) (fun p S w => SlON tTimer S w p.1 p.2 ((Wh.add wh t).slots)) := by
 refine fnM (nt := 43) (F0 := [(0, .agg #[Vi wh.now, .slice awh_0 wh.slots.length cwh_0.n]), (1, .agg #[Vi t.id, Vi t.due])]) Try.func30 rfl Try.ntmps30 rfl rfl (fun w0 hpre => ?_)
 have hwh_0 := hpre
 have hlhwh_0 := hwh_0.2.1
 refine c_seq (c_region ?_)
 refine o_box (v := .agg #[Vi wh.now, .slice awh_0 wh.slots.length cwh_0.n]) rfl rfl (fun B1 => ?_)
 refine o_box (v := .agg #[Vi t.id, Vi t.due]) rfl rfl (fun B2 => ?_)
 refine o_alloc ze50 rfl (fun B3 => ?_)
 refine o_as rfl rfl ?_
 refine o_nil (q_then (c_seq (c_seq (c_region ?_))))
 refine o_p (p_load_agg (i := 2) (vs := [Vi wh.now, .slice awh_0 wh.slots.length cwh_0.n]) rfl rfl sh50 rfl rfl) ?_
 refine o_call0 (v := Vi (Wh.check wh)) rfl (wcheck_ok wh awh_0 cwh_0) hf41 (fun w hw => (rd_baseN (i := 3) rfl hwh_0) w hw) rfl ?_
 refine o_as rfl rfl ?_
 refine o_nil (q_then (c_seq (c_region ?_)))
 refine o_mv rfl rfl ?_
 refine o_p (p_ne rfl rfl) ?_
 refine o_nil (q_then ?_)
 refine c_cond rfl (fun hc4 => ?_) (fun hc4 => ?_)
 ·simp only [bne_iff_ne, ne_eq] at hc4
  have hch := hc4
  refine c_seq (c_region ?_)
  refine o_p (p_build (cells := [Vi 0, .slice none 0 0]) fp50 ze50 rfl rfl) ?_
  refine o_mv rfl rfl ?_
  refine o_storeN (i := 0) (vs := [Vi 0, .slice none 0 0]) (cs' := [Vi 0, .slice none 0 0]) rfl rfl rfl sz50 rfl rfl rfl rfl ?_
  refine o_as rfl rfl ?_
  refine o_nil (q_then (c_ret ?_))
  refine q_then_ret ?_
  obtain ⟨c1, c2⟩ : _ ∧ _ := by first | exact Wh.ad1 (w := wh) (t := t) (by omega) | exact Wh.ad2 (w := wh) (t := t) hch hrt | exact Wh.ad3 (w := wh) (t := t) hch hrt hfn | exact Wh.ad4 (w := wh) (t := t) hch hrt (by simpa using hfn) (by omega) | exact Wh.ad5 (w := wh) (t := t) hch hrt (by simpa using hfn) (by omega)
  have hr0 : (0 : Int) = (Wh.add wh t).now := by
   first | (rw [c1]; done) | (rw [c1]; rfl) | exact c2.symm
  have hr1 : ([] : List (List DTimer)) = (Wh.add wh t).slots := by
   first | (rw [c1]; done) | (rw [c1]; rfl) | exact c2.symm
  have hr2 : ((Wh.check wh) : Int) = (Wh.addErr wh t) := by
   first | (rw [c1]; done) | (rw [c1]; rfl) | exact c2.symm
  refine q_endM (p := (none, nc0)) (fun _ => False) (rt2 rfl (r_cell (i := 0) rfl rfl sh50 rfl) (r_tmp rfl)) (i := 3) rfl ?_ ?_ ?_
  ·exact (by have hcc := congr (congr (congrArg (fun (y0 : Int) (y1 : List (List DTimer)) (y2 : Int) => (.tuple #[.agg #[.int .i64 y0, .slice none y1.length 0], .int .i64 y2] : Value)) hr0) hr1) hr2; exact hcc)
  ·intro w hw b hb; exact hb.elim
  ·intro w hw; exact Eq.mp (congrArg (fun y => SlON tTimer _ w none nc0 y) hr1) (SlON.nil tTimer w)
 ·simp only [bne_eq_false_iff_eq] at hc4
  have hch : Wh.check wh = 0 := by omega
  have hok := Wh.check_ok.1 hch
  have hrows := hok.rows
  have hnw := hok.now
  refine c_skip (q_then (c_seq (c_seq (c_region ?_))))
  refine o_p (p_load_agg (i := 1) (vs := [Vi t.id, Vi t.due]) rfl rfl sh52 rfl rfl) ?_
  refine o_p (p_fieldAddr (j' := 0) rfl fo50_0 rfl) ?_
  refine o_p (p_load (i := 2) (v := Vi wh.now) rfl rfl sh3 rfl) ?_
  refine o_call0 (v := .bool (Wh.right t wh.now)) rfl (wright_ok t wh.now) hf66 (fun _ _ => trivial) rfl ?_
  refine o_p (p_not (b := (Wh.right t wh.now)) rfl) ?_
  refine o_nil (q_then ?_)
  refine c_cond rfl (fun hc5 => ?_) (fun hc5 => ?_)
  ·simp only [Bool.not_eq_true'] at hc5
   have hrt : Wh.right t wh.now = false := by simpa using hc5
   refine c_seq (c_region ?_)
   refine o_p (p_build (cells := [Vi 0, .slice none 0 0]) fp50 ze50 rfl rfl) ?_
   refine o_storeN (i := 0) (vs := [Vi 0, .slice none 0 0]) (cs' := [Vi 0, .slice none 0 0]) rfl rfl rfl sz50 rfl rfl rfl rfl ?_
   refine o_as rfl rfl ?_
   refine o_nil (q_then (c_ret ?_))
   refine q_then_ret ?_
   obtain ⟨c1, c2⟩ : _ ∧ _ := by first | exact Wh.ad1 (w := wh) (t := t) (by omega) | exact Wh.ad2 (w := wh) (t := t) hch hrt | exact Wh.ad3 (w := wh) (t := t) hch hrt hfn | exact Wh.ad4 (w := wh) (t := t) hch hrt (by simpa using hfn) (by omega) | exact Wh.ad5 (w := wh) (t := t) hch hrt (by simpa using hfn) (by omega)
   have hr0 : (0 : Int) = (Wh.add wh t).now := by
    first | (rw [c1]; done) | (rw [c1]; rfl) | exact c2.symm
   have hr1 : ([] : List (List DTimer)) = (Wh.add wh t).slots := by
    first | (rw [c1]; done) | (rw [c1]; rfl) | exact c2.symm
   have hr2 : (3 : Int) = (Wh.addErr wh t) := by
    first | (rw [c1]; done) | (rw [c1]; rfl) | exact c2.symm
   refine q_endM (p := (none, nc0)) (fun _ => False) (rt2 rfl (r_cell (i := 0) rfl rfl sh50 rfl) (r_tmp rfl)) (i := 3) rfl ?_ ?_ ?_
   ·exact (by have hcc := congr (congr (congrArg (fun (y0 : Int) (y1 : List (List DTimer)) (y2 : Int) => (.tuple #[.agg #[.int .i64 y0, .slice none y1.length 0], .int .i64 y2] : Value)) hr0) hr1) hr2; exact hcc)
   ·intro w hw b hb; exact hb.elim
   ·intro w hw; exact Eq.mp (congrArg (fun y => SlON tTimer _ w none nc0 y) hr1) (SlON.nil tTimer w)
  ·simp only [Bool.not_eq_false'] at hc5
   have hrt : Wh.right t wh.now = true := by simpa using hc5
   refine c_skip (q_then (c_seq (c_seq (c_region ?_))))
   refine o_p (p_load_agg (i := 2) (vs := [Vi wh.now, .slice awh_0 wh.slots.length cwh_0.n]) rfl rfl sh50 rfl rfl) ?_
   refine o_p (p_fieldAddr (j' := 0) rfl fo52_0 rfl) ?_
   refine o_p (p_load (i := 1) (v := Vi t.id) rfl rfl sh3 rfl) ?_
   refine o_call0 (v := .tuple #[Vi ((Wh.find wh t.id).1), Vi ((Wh.find wh t.id).2.1), .bool ((Wh.find wh t.id).2.2)]) rfl (wfind_ok wh awh_0 cwh_0 t.id) hf67 (fun w hw => (rd_baseN (i := 3) rfl hwh_0) w hw) rfl ?_
   refine o_mv rfl rfl ?_
   refine o_ex rfl rfl rfl ?_
   refine o_ex rfl rfl rfl ?_
   refine o_ex rfl rfl rfl ?_
   refine o_as rfl rfl ?_
   refine o_as rfl rfl ?_
   refine o_as rfl rfl ?_
   refine o_nil (q_then (c_seq (c_region ?_)))
   refine o_mv rfl rfl ?_
   refine o_nil (q_then ?_)
   refine c_cond rfl (fun hc6 => ?_) (fun hc6 => ?_)
   ·skip
    have hfn := hc6
    refine c_seq (c_region ?_)
    refine o_p (p_build (cells := [Vi 0, .slice none 0 0]) fp50 ze50 rfl rfl) ?_
    refine o_storeN (i := 0) (vs := [Vi 0, .slice none 0 0]) (cs' := [Vi 0, .slice none 0 0]) rfl rfl rfl sz50 rfl rfl rfl rfl ?_
    refine o_as rfl rfl ?_
    refine o_nil (q_then (c_ret ?_))
    refine q_then_ret ?_
    obtain ⟨c1, c2⟩ : _ ∧ _ := by first | exact Wh.ad1 (w := wh) (t := t) (by omega) | exact Wh.ad2 (w := wh) (t := t) hch hrt | exact Wh.ad3 (w := wh) (t := t) hch hrt hfn | exact Wh.ad4 (w := wh) (t := t) hch hrt (by simpa using hfn) (by omega) | exact Wh.ad5 (w := wh) (t := t) hch hrt (by simpa using hfn) (by omega)
    have hr0 : (0 : Int) = (Wh.add wh t).now := by
     first | (rw [c1]; done) | (rw [c1]; rfl) | exact c2.symm
    have hr1 : ([] : List (List DTimer)) = (Wh.add wh t).slots := by
     first | (rw [c1]; done) | (rw [c1]; rfl) | exact c2.symm
    have hr2 : (6 : Int) = (Wh.addErr wh t) := by
     first | (rw [c1]; done) | (rw [c1]; rfl) | exact c2.symm
    refine q_endM (p := (none, nc0)) (fun _ => False) (rt2 rfl (r_cell (i := 0) rfl rfl sh50 rfl) (r_tmp rfl)) (i := 3) rfl ?_ ?_ ?_
    ·exact (by have hcc := congr (congr (congrArg (fun (y0 : Int) (y1 : List (List DTimer)) (y2 : Int) => (.tuple #[.agg #[.int .i64 y0, .slice none y1.length 0], .int .i64 y2] : Value)) hr0) hr1) hr2; exact hcc)
    ·intro w hw b hb; exact hb.elim
    ·intro w hw; exact Eq.mp (congrArg (fun y => SlON tTimer _ w none nc0 y) hr1) (SlON.nil tTimer w)
   ·skip
    have hfn := hc6
    refine c_skip (q_then (c_seq (c_seq (c_region ?_))))
    refine o_p (p_load_agg (i := 2) (vs := [Vi wh.now, .slice awh_0 wh.slots.length cwh_0.n]) rfl rfl sh50 rfl rfl) ?_
    refine o_call0 (v := Vi ((Wh.timers wh.slots).length : Int)) rfl (wmany_ok wh awh_0 cwh_0 (by first | assumption | exact hok.few)) hf68 (fun w hw => (rd_baseN (i := 3) rfl hwh_0) w hw) rfl ?_
    refine o_p (p_eq rfl rfl) ?_
    refine o_nil (q_then ?_)
    refine c_cond rfl (fun hc7 => ?_) (fun hc7 => ?_)
    ·simp only [beq_iff_eq] at hc7
     have h60 := hc7
     refine c_seq (c_region ?_)
     refine o_p (p_build (cells := [Vi 0, .slice none 0 0]) fp50 ze50 rfl rfl) ?_
     refine o_storeN (i := 0) (vs := [Vi 0, .slice none 0 0]) (cs' := [Vi 0, .slice none 0 0]) rfl rfl rfl sz50 rfl rfl rfl rfl ?_
     refine o_as rfl rfl ?_
     refine o_nil (q_then (c_ret ?_))
     refine q_then_ret ?_
     obtain ⟨c1, c2⟩ : _ ∧ _ := by first | exact Wh.ad1 (w := wh) (t := t) (by omega) | exact Wh.ad2 (w := wh) (t := t) hch hrt | exact Wh.ad3 (w := wh) (t := t) hch hrt hfn | exact Wh.ad4 (w := wh) (t := t) hch hrt (by simpa using hfn) (by omega) | exact Wh.ad5 (w := wh) (t := t) hch hrt (by simpa using hfn) (by omega)
     have hr0 : (0 : Int) = (Wh.add wh t).now := by
      first | (rw [c1]; done) | (rw [c1]; rfl) | exact c2.symm
     have hr1 : ([] : List (List DTimer)) = (Wh.add wh t).slots := by
      first | (rw [c1]; done) | (rw [c1]; rfl) | exact c2.symm
     have hr2 : (8 : Int) = (Wh.addErr wh t) := by
      first | (rw [c1]; done) | (rw [c1]; rfl) | exact c2.symm
     refine q_endM (p := (none, nc0)) (fun _ => False) (rt2 rfl (r_cell (i := 0) rfl rfl sh50 rfl) (r_tmp rfl)) (i := 3) rfl ?_ ?_ ?_
     ·exact (by have hcc := congr (congr (congrArg (fun (y0 : Int) (y1 : List (List DTimer)) (y2 : Int) => (.tuple #[.agg #[.int .i64 y0, .slice none y1.length 0], .int .i64 y2] : Value)) hr0) hr1) hr2; exact hcc)
     ·intro w hw b hb; exact hb.elim
     ·intro w hw; exact Eq.mp (congrArg (fun y => SlON tTimer _ w none nc0 y) hr1) (SlON.nil tTimer w)
    ·simp only [beq_eq_false_iff_ne, ne_eq] at hc7
     have h60 := hc7
     have hfit := Wh.Fit.of hok hrt
     refine c_skip (q_then (c_seq (c_region ?_)))
     refine o_p (p_load_agg (i := 2) (vs := [Vi wh.now, .slice awh_0 wh.slots.length cwh_0.n]) rfl rfl sh50 rfl rfl) ?_
     refine o_callM rfl (wown_ok wh awh_0 cwh_0 (by first | assumption | exact hok.rows)) hf69 (fun w hw => (rd_baseN (i := 3) rfl hwh_0) w hw) rfl (fun _ _ _ _ ha hA => SlON.agree ha hA) ?_
     rintro ⟨a10, c11⟩ S8
     refine o_know (fun w hw => own_lenN (i := 0) (T := tTimer) hw rfl) (fun hlr12 => ?_)
     refine o_alloc ze50 rfl (fun B13 => ?_)
     refine o_storeN (i := 0) (vs := [Vi wh.now, .slice a10 wh.slots.length c11.n]) (cs' := [Vi wh.now, .slice a10 wh.slots.length c11.n]) rfl rfl rfl sz50 rfl rfl rfl rfl ?_
     refine o_nil (q_then (c_seq (c_region ?_)))
     refine o_p (p_load_agg (i := 0) (vs := [Vi wh.now, .slice a10 wh.slots.length c11.n]) rfl rfl sh50 rfl rfl) ?_
     refine o_p (p_load_agg (i := 3) (vs := [Vi t.id, Vi t.due]) rfl rfl sh52 rfl rfl) ?_
     refine o_pick (H' := [ownN tTimer S8 a10 c11 wh.slots, box B13 [Vi wh.now, .slice a10 wh.slots.length c11.n] 50, box B3 [Vi 0, .slice none 0 0] 50, box B2 [Vi t.id, Vi t.due] 52, box B1 [Vi wh.now, .slice awh_0 wh.slots.length cwh_0.n] 50, base w0]) [1, 0, 2, 3, 4, 5] (by decide) rfl ?_
     refine o_callX (pre := [ownN tTimer S8 a10 c11 wh.slots]) (R := [box B13 [Vi wh.now, .slice a10 wh.slots.length c11.n] 50, box B3 [Vi 0, .slice none 0 0] 50, box B2 [Vi t.id, Vi t.due] 52, box B1 [Vi wh.now, .slice awh_0 wh.slots.length cwh_0.n] 50, base w0]) rfl (wput_ok wh a10 c11 S8 t (by first | assumption | exact hfit)) hf70 rfl (fun _ _ => trivial) rfl ?_
     rintro ⟨R14, K15, S16⟩
     refine o_asH (H' := [ownN tTimer S16 a10 (⟨c11.n, R14, K15⟩ : NC) ((Wh.put wh t).slots), box B13 [Vi wh.now, .slice a10 wh.slots.length c11.n] 50, box B3 [Vi 0, .slice none 0 0] 50, box B2 [Vi t.id, Vi t.due] 52, box B1 [Vi wh.now, .slice awh_0 wh.slots.length cwh_0.n] 50, base w0]) rfl ?_
     refine o_cast (F' := [(4, .pointer (some ⟨B3, 0, none⟩)), (10, .pointer (some ⟨B13, 0, none⟩)), (41, .tuple #[])]) (H := [ownN tTimer S16 a10 (⟨c11.n, R14, K15⟩ : NC) ((Wh.put wh t).slots), box B13 [Vi wh.now, .slice a10 wh.slots.length c11.n] 50, box B3 [Vi 0, .slice none 0 0] 50, box B2 [Vi t.id, Vi t.due] 52, box B1 [Vi wh.now, .slice awh_0 wh.slots.length cwh_0.n] 50, base w0]) (H' := [ownN tTimer S16 a10 (⟨c11.n, R14, K15⟩ : NC) ((Wh.put wh t).slots), box B13 [Vi wh.now, .slice a10 ((Wh.put wh t).slots).length (⟨c11.n, R14, K15⟩ : NC).n] 50, box B3 [Vi 0, .slice none 0 0] 50, box B2 [Vi t.id, Vi t.due] 52, box B1 [Vi wh.now, .slice awh_0 wh.slots.length cwh_0.n] 50, base w0]) (sr (sr (sr (Sub.nil _)))) (by simp only [List.length_set, List.length_reverse, Wh.put_len, NC.put_n]) ?_
     refine o_nil (q_then (c_seq (c_region ?_)))
     refine o_p (p_load_agg (i := 1) (vs := [Vi wh.now, .slice a10 ((Wh.put wh t).slots).length (⟨c11.n, R14, K15⟩ : NC).n]) rfl rfl sh50 rfl rfl) ?_
     refine o_storeN (i := 2) (vs := [Vi wh.now, .slice a10 ((Wh.put wh t).slots).length (⟨c11.n, R14, K15⟩ : NC).n]) (cs' := [Vi wh.now, .slice a10 ((Wh.put wh t).slots).length (⟨c11.n, R14, K15⟩ : NC).n]) rfl rfl rfl sz50 rfl rfl rfl rfl ?_
     refine o_as rfl rfl ?_
     refine o_nil (q_then (c_ret ?_))
     obtain ⟨c1, c2⟩ : _ ∧ _ := by first | exact Wh.ad1 (w := wh) (t := t) (by omega) | exact Wh.ad2 (w := wh) (t := t) hch hrt | exact Wh.ad3 (w := wh) (t := t) hch hrt hfn | exact Wh.ad4 (w := wh) (t := t) hch hrt (by simpa using hfn) (by omega) | exact Wh.ad5 (w := wh) (t := t) hch hrt (by simpa using hfn) (by omega)
     have hr0 : (wh.now : Int) = (Wh.add wh t).now := by
      first | (rw [c1]; done) | (rw [c1]; rfl) | exact c2.symm
     have hr1 : (((Wh.put wh t).slots) : List (List DTimer)) = (Wh.add wh t).slots := by
      first | (rw [c1]; done) | (rw [c1]; rfl) | exact c2.symm
     have hr2 : (0 : Int) = (Wh.addErr wh t) := by
      first | (rw [c1]; done) | (rw [c1]; rfl) | exact c2.symm
     refine q_endM (p := (a10, (⟨c11.n, R14, K15⟩ : NC))) S16 (rt2 rfl (r_cell (i := 2) rfl rfl sh50 rfl) (r_tmp rfl)) (i := 5) rfl ?_ ?_ ?_
     ·exact (by have hcc := congr (congr (congrArg (fun (y0 : Int) (y1 : List (List DTimer)) (y2 : Int) => (.tuple #[.agg #[.int .i64 y0, .slice a10 y1.length (⟨c11.n, R14, K15⟩ : NC).n], .int .i64 y2] : Value)) hr0) hr1) hr2; exact hcc)
     ·exact fun w hw => hw.above (i := 5) (j := 0) (by decide) rfl rfl
     ·intro w hw; exact Eq.mp (congrArg (fun y => SlON tTimer _ w a10 (⟨c11.n, R14, K15⟩ : NC) y) hr1) ((hw.at (i := 0) rfl).here)

set_option maxHeartbeats 8000000 in
set_option maxRecDepth 100000 in
theorem wcancel_ok (wh : DWheel) (awh_0 : Option Addr) (cwh_0 : NC) (id : Int) : FnM Try.prog 31 [.agg #[Vi wh.now, .slice awh_0 wh.slots.length cwh_0.n], Vi id] (fun w => RdN tTimer w awh_0 cwh_0 wh.slots) (Option Addr × NC) (fun p => .tuple #[.agg #[Vi ((Wh.cancel wh id).now), .slice p.1 ((Wh.cancel wh id).slots).length p.2.n], Vi (Wh.cancelErr wh id)]) (fun p S w => SlON tTimer S w p.1 p.2 ((Wh.cancel wh id).slots)) := by
 refine fnM (nt := 43) (F0 := [(0, .agg #[Vi wh.now, .slice awh_0 wh.slots.length cwh_0.n]), (1, Vi id)]) Try.func31 rfl Try.ntmps31 rfl rfl (fun w0 hpre => ?_)
 have hwh_0 := hpre
 have hlhwh_0 := hwh_0.2.1
 refine c_seq (c_region ?_)
 refine o_box (v := .agg #[Vi wh.now, .slice awh_0 wh.slots.length cwh_0.n]) rfl rfl (fun B1 => ?_)
 refine o_alloc ze50 rfl (fun B2 => ?_)
 refine o_as rfl rfl ?_
 refine o_nil (q_then (c_seq (c_seq (c_region ?_))))
 refine o_p (p_load_agg (i := 1) (vs := [Vi wh.now, .slice awh_0 wh.slots.length cwh_0.n]) rfl rfl sh50 rfl rfl) ?_
 refine o_call0 (v := Vi (Wh.check wh)) rfl (wcheck_ok wh awh_0 cwh_0) hf41 (fun w hw => (rd_baseN (i := 2) rfl hwh_0) w hw) rfl ?_
 refine o_as rfl rfl ?_
 refine o_nil (q_then (c_seq (c_region ?_)))
 refine o_mv rfl rfl ?_
 refine o_p (p_ne rfl rfl) ?_
 refine o_nil (q_then ?_)
 refine c_cond rfl (fun hc3 => ?_) (fun hc3 => ?_)
 ·simp only [bne_iff_ne, ne_eq] at hc3
  have hch := hc3
  refine c_seq (c_region ?_)
  refine o_p (p_build (cells := [Vi 0, .slice none 0 0]) fp50 ze50 rfl rfl) ?_
  refine o_mv rfl rfl ?_
  refine o_storeN (i := 0) (vs := [Vi 0, .slice none 0 0]) (cs' := [Vi 0, .slice none 0 0]) rfl rfl rfl sz50 rfl rfl rfl rfl ?_
  refine o_as rfl rfl ?_
  refine o_nil (q_then (c_ret ?_))
  refine q_then_ret ?_
  obtain ⟨c1, c2⟩ : _ ∧ _ := by first | exact Wh.cn1 (w := wh) (id := id) (by omega) | exact Wh.cn2 (w := wh) (id := id) hch hfn | exact Wh.cn3 (w := wh) (id := id) hch hfn
  have hr0 : (0 : Int) = (Wh.cancel wh id).now := by
   first | (rw [c1]; done) | (rw [c1]; rfl) | exact c2.symm
  have hr1 : ([] : List (List DTimer)) = (Wh.cancel wh id).slots := by
   first | (rw [c1]; done) | (rw [c1]; rfl) | exact c2.symm
  have hr2 : ((Wh.check wh) : Int) = (Wh.cancelErr wh id) := by
   first | (rw [c1]; done) | (rw [c1]; rfl) | exact c2.symm
  refine q_endM (p := (none, nc0)) (fun _ => False) (rt2 rfl (r_cell (i := 0) rfl rfl sh50 rfl) (r_tmp rfl)) (i := 2) rfl ?_ ?_ ?_
  ·exact (by have hcc := congr (congr (congrArg (fun (y0 : Int) (y1 : List (List DTimer)) (y2 : Int) => (.tuple #[.agg #[.int .i64 y0, .slice none y1.length 0], .int .i64 y2] : Value)) hr0) hr1) hr2; exact hcc)
  ·intro w hw b hb; exact hb.elim
  ·intro w hw; exact Eq.mp (congrArg (fun y => SlON tTimer _ w none nc0 y) hr1) (SlON.nil tTimer w)
 ·simp only [bne_eq_false_iff_eq] at hc3
  have hch : Wh.check wh = 0 := by omega
  have hok := Wh.check_ok.1 hch
  have hrows := hok.rows
  have hnw := hok.now
  refine c_skip (q_then (c_seq (c_region ?_)))
  refine o_p (p_load_agg (i := 1) (vs := [Vi wh.now, .slice awh_0 wh.slots.length cwh_0.n]) rfl rfl sh50 rfl rfl) ?_
  refine o_mv rfl rfl ?_
  refine o_call0 (v := .tuple #[Vi ((Wh.find wh id).1), Vi ((Wh.find wh id).2.1), .bool ((Wh.find wh id).2.2)]) rfl (wfind_ok wh awh_0 cwh_0 id) hf67 (fun w hw => (rd_baseN (i := 2) rfl hwh_0) w hw) rfl ?_
  refine o_mv rfl rfl ?_
  refine o_ex rfl rfl rfl ?_
  refine o_ex rfl rfl rfl ?_
  refine o_ex rfl rfl rfl ?_
  refine o_as rfl rfl ?_
  refine o_as rfl rfl ?_
  refine o_as rfl rfl ?_
  refine o_nil (q_then (c_seq (c_seq (c_region ?_))))
  refine o_mv rfl rfl ?_
  refine o_p (p_not (b := ((Wh.find wh id).2.2)) rfl) ?_
  refine o_nil (q_then ?_)
  refine c_cond rfl (fun hc4 => ?_) (fun hc4 => ?_)
  ·simp only [Bool.not_eq_true'] at hc4
   have hfn : (Wh.find wh id).2.2 = false := by simpa using hc4
   refine c_seq (c_region ?_)
   refine o_p (p_build (cells := [Vi 0, .slice none 0 0]) fp50 ze50 rfl rfl) ?_
   refine o_storeN (i := 0) (vs := [Vi 0, .slice none 0 0]) (cs' := [Vi 0, .slice none 0 0]) rfl rfl rfl sz50 rfl rfl rfl rfl ?_
   refine o_as rfl rfl ?_
   refine o_nil (q_then (c_ret ?_))
   refine q_then_ret ?_
   obtain ⟨c1, c2⟩ : _ ∧ _ := by first | exact Wh.cn1 (w := wh) (id := id) (by omega) | exact Wh.cn2 (w := wh) (id := id) hch hfn | exact Wh.cn3 (w := wh) (id := id) hch hfn
   have hr0 : (0 : Int) = (Wh.cancel wh id).now := by
    first | (rw [c1]; done) | (rw [c1]; rfl) | exact c2.symm
   have hr1 : ([] : List (List DTimer)) = (Wh.cancel wh id).slots := by
    first | (rw [c1]; done) | (rw [c1]; rfl) | exact c2.symm
   have hr2 : (5 : Int) = (Wh.cancelErr wh id) := by
    first | (rw [c1]; done) | (rw [c1]; rfl) | exact c2.symm
   refine q_endM (p := (none, nc0)) (fun _ => False) (rt2 rfl (r_cell (i := 0) rfl rfl sh50 rfl) (r_tmp rfl)) (i := 2) rfl ?_ ?_ ?_
   ·exact (by have hcc := congr (congr (congrArg (fun (y0 : Int) (y1 : List (List DTimer)) (y2 : Int) => (.tuple #[.agg #[.int .i64 y0, .slice none y1.length 0], .int .i64 y2] : Value)) hr0) hr1) hr2; exact hcc)
   ·intro w hw b hb; exact hb.elim
   ·intro w hw; exact Eq.mp (congrArg (fun y => SlON tTimer _ w none nc0 y) hr1) (SlON.nil tTimer w)
  ·simp only [Bool.not_eq_false'] at hc4
   have hfn : (Wh.find wh id).2.2 = true := by simpa using hc4
   obtain ⟨hf1, hf2, hf3, hf4, hf5⟩ := Wh.find_at hfn
   have hrl := hrows.2 (Wh.find wh id).1.toNat
   refine c_skip (q_then (c_seq (c_region ?_)))
   refine o_p (p_load_agg (i := 1) (vs := [Vi wh.now, .slice awh_0 wh.slots.length cwh_0.n]) rfl rfl sh50 rfl rfl) ?_
   refine o_callM rfl (wown_ok wh awh_0 cwh_0 (by first | assumption | exact hok.rows)) hf69 (fun w hw => (rd_baseN (i := 2) rfl hwh_0) w hw) rfl (fun _ _ _ _ ha hA => SlON.agree ha hA) ?_
   rintro ⟨a7, c8⟩ S5
   refine o_know (fun w hw => own_lenN (i := 0) (T := tTimer) hw rfl) (fun hlr9 => ?_)
   refine o_alloc ze50 rfl (fun B10 => ?_)
   refine o_storeN (i := 0) (vs := [Vi wh.now, .slice a7 wh.slots.length c8.n]) (cs' := [Vi wh.now, .slice a7 wh.slots.length c8.n]) rfl rfl rfl sz50 rfl rfl rfl rfl ?_
   refine o_nil (q_then (c_seq ?_))
   refine c_held hmix [box B10 [Vi wh.now, .slice a7 wh.slots.length c8.n] 50, box B2 [Vi 0, .slice none 0 0] 50, box B1 [Vi wh.now, .slice awh_0 wh.slots.length cwh_0.n] 50, base w0] rfl rfl ?_
   refine h_tk (i := 0) (ls := #[T1,F0,F0,F0,F0,F0,F0,F0,F0,F0,F0,F0,F0,F0]) rfl (p_fieldAddr (j' := 1) rfl fo50_1 rfl) (dp (lj (lz (lj (lj (lj (ln))))))) ?_
   refine h_tk (i := 1) (ls := #[T1,T1,F0,F0,F0,F0,F0,F0,F0,F0,F0,F0,F0,F0]) rfl (p_load (i := 0) (v := .slice a7 wh.slots.length c8.n) rfl rfl sh48 rfl) (dp (lj (lz (lj (lj (lj (ln))))))) ?_
   refine h_tk (i := 2) (ls := #[T1,T1,T1,F0,F0,F0,F0,F0,F0,F0,F0,F0,F0,F0]) rfl (p_move rfl) (dp (lj (lz (lj (lj (lj (ln))))))) ?_
   refine h_tk (i := 3) (ls := #[T1,T1,T1,T1,F0,F0,F0,F0,F0,F0,F0,F0,F0,F0]) rfl (p_fieldAddr (j' := 1) rfl fo50_1 rfl) (dp (lj (lz (lj (lj (lj (ln))))))) ?_
   refine h_tk (i := 4) (ls := #[T1,T1,T1,T1,T1,F0,F0,F0,F0,F0,F0,F0,F0,F0]) rfl (p_load (i := 0) (v := .slice a7 wh.slots.length c8.n) rfl rfl sh48 rfl) (dp (lj (lz (lj (lj (lj (ln))))))) ?_
   refine h_tk (i := 5) (ls := #[T1,T1,T1,T1,T1,T1,F0,F0,F0,F0,F0,F0,F0,F0]) rfl (p_move rfl) (dp (lj (lz (lj (lj (lj (ln))))))) ?_
   refine h_tk (i := 8) (ls := #[T1,T1,T1,T1,T1,T1,F0,F0,T1,F0,F0,F0,F0,F0]) rfl (p_move rfl) (dp (lj (lz (lj (lj (lj (ln))))))) ?_
   refine h_tk (i := 9) (ls := #[T1,T1,T1,T1,T1,T1,F0,F0,T1,T1,F0,F0,F0,F0]) rfl (p_move rfl) (dp (lj (lz (lj (lj (lj (ln))))))) ?_
   refine h_tk (i := 10) (ls := #[T1,T1,T1,T1,T1,T1,F0,F0,T1,T1,T1,F0,F0,F0]) rfl (p_addb rfl rfl (by omega)) (dp (lj (lz (lj (lj (lj (ln))))))) ?_
   refine h_one (i := 6) (ls := #[T1,T1,T1,T1,T1,T1,T1,F0,T1,T1,T1,F0,F0,F0]) (by kernel_rfl) rfl rfl ?_
   refine o_p (p_indexAddrN (T := tTimer) (c := c8) (LL := wh.slots) (i := ((Wh.find wh id).1)) rfl rfl (rd_ownN (i := 1) rfl) Try.underlying48 sz57 (by first | omega | decide) (by first | omega | decide)) ?_
   refine o_nil ?_
   refine h_next (dp (lj (lz (lj (lj (lj (ln))))))) ?_
   refine h_one (i := 7) (ls := #[T1,T1,T1,T1,T1,T1,T1,T1,T1,T1,T1,F0,F0,F0]) (by kernel_rfl) rfl rfl ?_
   refine o_p (p_loadN (T := tTimer) (c := c8) (LL := wh.slots) (i := ((Wh.find wh id).1).toNat) rfl (rd_ownN (i := 1) rfl) (by first | assumption | omega | decide) sh57) ?_
   refine o_nil ?_
   refine h_next (dp (lj (lz (lj (lj (lj (ln))))))) ?_
   refine h_one (i := 11) (ls := #[T1,T1,T1,T1,T1,T1,T1,T1,T1,T1,T1,T1,F0,F0]) (by kernel_rfl) rfl rfl ?_
   refine o_pick (H' := [ownN tTimer S5 a7 c8 wh.slots, box B10 [Vi wh.now, .slice a7 wh.slots.length c8.n] 50, box B2 [Vi 0, .slice none 0 0] 50, box B1 [Vi wh.now, .slice awh_0 wh.slots.length cwh_0.n] 50, base w0]) [1, 0, 2, 3, 4] (by decide) rfl ?_
   refine o_outN (k := ((Wh.find wh id).1).toNat) (by first | assumption | omega) (fun S11_11 S11_11_1 => ?_)
   refine o_callX (pre := [own tTimer S11_11 (c8.ra (((Wh.find wh id).1).toNat)) (c8.rc (((Wh.find wh id).1).toNat)) (wh.slots.getD (((Wh.find wh id).1).toNat) [])]) (R := [ownX tTimer S11_11_1 a7 c8 wh.slots (fun i => i = (((Wh.find wh id).1).toNat)), box B10 [Vi wh.now, .slice a7 wh.slots.length c8.n] 50, box B2 [Vi 0, .slice none 0 0] 50, box B1 [Vi wh.now, .slice awh_0 wh.slots.length cwh_0.n] 50, base w0]) rfl (delete_Timer_ok (wh.slots.getD (((Wh.find wh id).1).toNat) []) (c8.ra (((Wh.find wh id).1).toNat)) (c8.rc (((Wh.find wh id).1).toNat)) S11_11 ((Wh.find wh id).2.1) (((Wh.find wh id).2.1) + 1) (by omega)) hf71 rfl (fun _ _ => trivial) rfl ?_
   rintro ⟨a11_11, c11_11, S11_11_2⟩
   refine o_asH (H' := [own tTimer S11_11_2 a11_11 c11_11 ((wh.slots.getD (((Wh.find wh id).1).toNat) []).take ((Wh.find wh id).2.1).toNat ++ (wh.slots.getD (((Wh.find wh id).1).toNat) []).drop (((Wh.find wh id).2.1) + 1).toNat), ownX tTimer S11_11_1 a7 c8 wh.slots (fun i => i = (((Wh.find wh id).1).toNat)), box B10 [Vi wh.now, .slice a7 wh.slots.length c8.n] 50, box B2 [Vi 0, .slice none 0 0] 50, box B1 [Vi wh.now, .slice awh_0 wh.slots.length cwh_0.n] 50, base w0]) rfl ?_
   refine o_nil ?_
   refine h_next (dp (lz (lz (lj (lj (lj (lj (ln)))))))) ?_
   refine h_one (i := 12) (ls := #[T1,T1,T1,T1,T1,T1,T1,T1,T1,T1,T1,T1,T1,F0]) (by kernel_rfl) rfl rfl ?_
   refine o_p (p_indexAddrX (T := tTimer) (c := c8) (LL := wh.slots) (i := ((Wh.find wh id).1)) (j := 1) rfl rfl rfl Try.underlying48 sz57 (by first | omega | decide) (by first | omega | decide)) ?_
   refine o_nil ?_
   refine h_next (dp (lz (lz (lj (lj (lj (lj (ln)))))))) ?_
   refine h_one (i := 13) (ls := #[T1,T1,T1,T1,T1,T1,T1,T1,T1,T1,T1,T1,T1,T1]) (by kernel_rfl) rfl rfl ?_
   refine o_storeRow (k := ((Wh.find wh id).1).toNat) (T := tTimer) rfl rfl (by first | assumption | omega | (simp only [List.length_set]; omega)) sz57 (Sub.refl _) (fun S11_13 => ?_)
   refine o_nil ?_
   refine h_next (dp (lz (lj (lj (lj (lj (ln))))))) ?_
   refine h_done (by kernel_rfl) ?_
   refine q_cast (F' := [(4, .pointer (some ⟨B2, 0, none⟩)), (10, .pointer (some ⟨B10, 0, none⟩))]) (H := [ownN tTimer S11_13 a7 (c8.put (((Wh.find wh id).1).toNat) a11_11 c11_11) (wh.slots.set (((Wh.find wh id).1).toNat) ((wh.slots.getD (((Wh.find wh id).1).toNat) []).take ((Wh.find wh id).2.1).toNat ++ (wh.slots.getD (((Wh.find wh id).1).toNat) []).drop (((Wh.find wh id).2.1) + 1).toNat)), box B10 [Vi wh.now, .slice a7 wh.slots.length c8.n] 50, box B2 [Vi 0, .slice none 0 0] 50, box B1 [Vi wh.now, .slice awh_0 wh.slots.length cwh_0.n] 50, base w0]) (H' := [ownN tTimer S11_13 a7 (c8.put (((Wh.find wh id).1).toNat) a11_11 c11_11) (wh.slots.set (((Wh.find wh id).1).toNat) ((wh.slots.getD (((Wh.find wh id).1).toNat) []).take ((Wh.find wh id).2.1).toNat ++ (wh.slots.getD (((Wh.find wh id).1).toNat) []).drop (((Wh.find wh id).2.1) + 1).toNat)), box B10 [Vi wh.now, .slice a7 (wh.slots.set (((Wh.find wh id).1).toNat) ((wh.slots.getD (((Wh.find wh id).1).toNat) []).take ((Wh.find wh id).2.1).toNat ++ (wh.slots.getD (((Wh.find wh id).1).toNat) []).drop (((Wh.find wh id).2.1) + 1).toNat)).length (c8.put (((Wh.find wh id).1).toNat) a11_11 c11_11).n] 50, box B2 [Vi 0, .slice none 0 0] 50, box B1 [Vi wh.now, .slice awh_0 wh.slots.length cwh_0.n] 50, base w0]) (sr (sr (Sub.nil _))) (by simp only [List.length_set, List.length_reverse, NC.put_n]) ?_
   refine q_then (c_seq (c_region ?_))
   refine o_p (p_load_agg (i := 1) (vs := [Vi wh.now, .slice a7 (wh.slots.set (((Wh.find wh id).1).toNat) ((wh.slots.getD (((Wh.find wh id).1).toNat) []).take ((Wh.find wh id).2.1).toNat ++ (wh.slots.getD (((Wh.find wh id).1).toNat) []).drop (((Wh.find wh id).2.1) + 1).toNat)).length (c8.put (((Wh.find wh id).1).toNat) a11_11 c11_11).n]) rfl rfl sh50 rfl rfl) ?_
   refine o_storeN (i := 2) (vs := [Vi wh.now, .slice a7 (wh.slots.set (((Wh.find wh id).1).toNat) ((wh.slots.getD (((Wh.find wh id).1).toNat) []).take ((Wh.find wh id).2.1).toNat ++ (wh.slots.getD (((Wh.find wh id).1).toNat) []).drop (((Wh.find wh id).2.1) + 1).toNat)).length (c8.put (((Wh.find wh id).1).toNat) a11_11 c11_11).n]) (cs' := [Vi wh.now, .slice a7 (wh.slots.set (((Wh.find wh id).1).toNat) ((wh.slots.getD (((Wh.find wh id).1).toNat) []).take ((Wh.find wh id).2.1).toNat ++ (wh.slots.getD (((Wh.find wh id).1).toNat) []).drop (((Wh.find wh id).2.1) + 1).toNat)).length (c8.put (((Wh.find wh id).1).toNat) a11_11 c11_11).n]) rfl rfl rfl sz50 rfl rfl rfl rfl ?_
   refine o_as rfl rfl ?_
   refine o_nil (q_then (c_ret ?_))
   obtain ⟨c1, c2⟩ : _ ∧ _ := by first | exact Wh.cn1 (w := wh) (id := id) (by omega) | exact Wh.cn2 (w := wh) (id := id) hch hfn | exact Wh.cn3 (w := wh) (id := id) hch hfn
   have hr0 : (wh.now : Int) = (Wh.cancel wh id).now := by
    first | (rw [c1]; done) | (rw [c1]; rfl) | exact c2.symm
   have hr1 : ((wh.slots.set (((Wh.find wh id).1).toNat) ((wh.slots.getD (((Wh.find wh id).1).toNat) []).take ((Wh.find wh id).2.1).toNat ++ (wh.slots.getD (((Wh.find wh id).1).toNat) []).drop (((Wh.find wh id).2.1) + 1).toNat)) : List (List DTimer)) = (Wh.cancel wh id).slots := by
    first | (rw [c1]; done) | (rw [c1]; rfl) | exact c2.symm
   have hr2 : (0 : Int) = (Wh.cancelErr wh id) := by
    first | (rw [c1]; done) | (rw [c1]; rfl) | exact c2.symm
   refine q_endM (p := (a7, (c8.put (((Wh.find wh id).1).toNat) a11_11 c11_11))) S11_13 (rt2 rfl (r_cell (i := 2) rfl rfl sh50 rfl) (r_tmp rfl)) (i := 4) rfl ?_ ?_ ?_
   ·exact (by have hcc := congr (congr (congrArg (fun (y0 : Int) (y1 : List (List DTimer)) (y2 : Int) => (.tuple #[.agg #[.int .i64 y0, .slice a7 y1.length (c8.put (((Wh.find wh id).1).toNat) a11_11 c11_11).n], .int .i64 y2] : Value)) hr0) hr1) hr2; exact hcc)
   ·exact fun w hw => hw.above (i := 4) (j := 0) (by decide) rfl rfl
   ·intro w hw; exact Eq.mp (congrArg (fun y => SlON tTimer _ w a7 (c8.put (((Wh.find wh id).1).toNat) a11_11 c11_11) y) hr1) ((hw.at (i := 0) rfl).here)
end Go.Proofs.Ytnmbkopnopaigaa
