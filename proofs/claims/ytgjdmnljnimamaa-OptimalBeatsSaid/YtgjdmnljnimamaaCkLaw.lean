/- The clock algorithm: what a touch does. -/
import Derived.Test.YtgjdmnljnimamaaCkPure
namespace Go.Sx.Clock
abbrev at_ (l : List DFrame) (key : Int) : Int := idxF (fun f : DFrame => f.key == key) l
theorem at_lt (l : List DFrame) (key : Int) : at_ l key < l.length ∧ -1 ≤ at_ l key := idxF_lt _ _
theorem touch_hit {c : DClock} {key : Int} (h : 0 ≤ at_ c.frames key) : touch c key = (⟨c.room, c.hand, c.frames.set (at_ c.frames key).toNat ⟨(c.frames[(at_ c.frames key).toNat]'(by have := at_lt c.frames key; omega)).key, true⟩⟩, true, -1) := by
  unfold touch; rw [if_pos h]
  have hl : (at_ c.frames key).toNat < c.frames.length := by have := at_lt c.frames key; omega
  simp [List.getD, hl]
theorem touch_room {c : DClock} {key : Int} (h : at_ c.frames key < 0) (h2 : (c.frames.length : Int) < c.room) : touch c key = (⟨c.room, c.hand, c.frames ++ [⟨key, false⟩]⟩, false, -1) := by
  unfold at_ at h; unfold touch; rw [if_neg (by omega), if_pos h2]
def usedOf (l : List DFrame) : Nat := l.countP (·.used)
structure SInv (c cc : DClock) : Prop where
  room : cc.room = c.room
  len : cc.frames.length = c.frames.length
  pos : 0 < c.frames.length
  small : c.frames.length ≤ 40
  h0 : 0 ≤ cc.hand
  h1 : cc.hand < cc.frames.length
  run : ∃ f, usedOf cc.frames ≤ f ∧ spin f cc.frames cc.hand.toNat = spin c.frames.length c.frames c.hand.toNat
theorem SInv.start {c : DClock} (h : Ok c) (h2 : c.room ≤ (c.frames.length : Int)) : SInv c c := by
  obtain ⟨⟨r1, r2⟩, l, a0, a1⟩ := h
  exact ⟨rfl, rfl, by omega, by omega, a0, by omega, _, List.countP_le_length, rfl⟩
theorem usedOf_set {l : List DFrame} {i : Nat} (h : i < l.length) (hu : l[i].used = true) (k : Int) : usedOf (l.set i ⟨k, false⟩) + 1 = usedOf l := by
  unfold usedOf
  rw [List.countP_set h]
  have hp : 0 < l.countP (·.used) := List.countP_pos_iff.2 ⟨l[i], List.getElem_mem h, hu⟩
  simp [hu]; omega
theorem tmod_next {h n : Int} (h0 : 0 ≤ h) (h1 : h < n) : (h + 1).tmod n = if h + 1 = n then 0 else h + 1 := by
  rw [Int.tmod_eq_emod_of_nonneg (by omega)]
  split
  · rename_i e; rw [e]; exact Int.emod_self
  · exact Int.emod_eq_of_lt (by omega) (by omega)
theorem mod_next {h n : Nat} (h1 : h < n) : (h + 1) % n = if h + 1 = n then 0 else h + 1 := by
  split
  · rename_i e; rw [e]; exact Nat.mod_self n
  · exact Nat.mod_eq_of_lt (by omega)
theorem spin_step {f : Nat} {l : List DFrame} {h : Nat} (hl : h < l.length) (hu : l[h].used = true) : spin (f + 1) l h = spin f (l.set h ⟨l[h].key, false⟩) ((h + 1) % l.length) := by
  rw [spin]; simp [List.getD, hl, hu]
theorem spin_stop {f : Nat} {l : List DFrame} {h : Nat} (hl : h < l.length) (hu : l[h].used = false) : spin f l h = (l, h) := by
  cases f with
  | zero => rfl
  | succ f => rw [spin]; simp [List.getD, hl, hu]
theorem SInv.next {c cc : DClock} (h : SInv c cc) (hl : cc.hand.toNat < cc.frames.length) (hu : cc.frames[cc.hand.toNat].used = true) :
    SInv c ⟨cc.room, (cc.hand + 1).tmod ((cc.frames.set cc.hand.toNat ⟨cc.frames[cc.hand.toNat].key, false⟩).length : Int), cc.frames.set cc.hand.toNat ⟨cc.frames[cc.hand.toNat].key, false⟩⟩ ∧
    usedOf (cc.frames.set cc.hand.toNat ⟨cc.frames[cc.hand.toNat].key, false⟩) < usedOf cc.frames := by
  obtain ⟨g1, g2, g3, g4, g5, g6, f, g7, g8⟩ := h
  have hc := usedOf_set hl hu cc.frames[cc.hand.toNat].key
  have hm := tmod_next g5 g6
  have hm2 := mod_next hl
  refine ⟨⟨g1, by simpa using g2, g3, g4, ?_, ?_, f - 1, by simp only; omega, ?_⟩, by omega⟩
  · simp only [List.length_set]; rw [hm]; split <;> omega
  · simp only [List.length_set]; rw [hm]; split <;> omega
  · obtain ⟨f', rfl⟩ : ∃ f', f = f' + 1 := ⟨f - 1, by omega⟩
    rw [spin_step hl hu] at g8
    rw [← g8]
    simp only [List.length_set, Nat.add_sub_cancel]
    congr 1
    rw [hm, hm2]; split <;> split <;> omega
theorem touch_evict {c cc : DClock} {key : Int} (h : SInv c cc) (hn : at_ c.frames key < 0) (h2 : c.room ≤ (c.frames.length : Int)) (hl : cc.hand.toNat < cc.frames.length) (hu : cc.frames[cc.hand.toNat].used = false) :
    touch c key = (⟨cc.room, (cc.hand + 1).tmod (cc.frames.length : Int), cc.frames.set cc.hand.toNat ⟨key, false⟩⟩, false, cc.frames[cc.hand.toNat].key) := by
  obtain ⟨g1, g2, g3, g4, g5, g6, f, g7, g8⟩ := h
  rw [spin_stop hl hu] at g8
  unfold touch
  rw [if_neg (by unfold at_ at hn; omega), if_neg (by omega), ← g8]
  simp only [g1]
  have hm := tmod_next g5 g6
  have hm2 := mod_next hl
  rw [hm, ← g2, hm2]
  have e : (cc.frames.getD cc.hand.toNat default) = cc.frames[cc.hand.toNat] := by simp [List.getD, hl]
  rw [e]
  congr 2
  split <;> split <;> omega
theorem tm_bounds {a n : Int} (ha : 0 ≤ a) : 0 < n → 0 ≤ a.tmod n ∧ a.tmod n < n := fun hn => by
  rw [Int.tmod_eq_emod_of_nonneg ha]; exact ⟨Int.emod_nonneg _ (by omega), Int.emod_lt_of_pos _ hn⟩
theorem tm_nat {h : Int} {p n : Nat} (h0 : 0 ≤ h) : ((h + (p : Int)).tmod (n : Int)).toNat = (h.toNat + p) % n := by
  obtain ⟨k, rfl⟩ : ∃ k : Nat, h = k := ⟨h.toNat, by omega⟩
  rw [Int.tmod_eq_emod_of_nonneg (by omega), show (k : Int) + (p : Int) = ((k + p : Nat) : Int) by omega, ← Int.natCast_emod, Int.toNat_natCast, Int.toNat_natCast]
structure PInv (c : DClock) (lc : List DFrame) (p : Nat) : Prop where
  len : lc.length = c.frames.length
  le : p ≤ c.frames.length
  run : spin (c.frames.length - p) lc ((c.hand.toNat + p) % c.frames.length) = spin c.frames.length c.frames c.hand.toNat
theorem PInv.start {c : DClock} (h : Ok c) (h2 : c.room ≤ (c.frames.length : Int)) : PInv c c.frames 0 := by
  obtain ⟨⟨r1, r2⟩, l, a0, a1⟩ := h
  exact ⟨rfl, Nat.zero_le _, by rw [Nat.add_zero, Nat.mod_eq_of_lt (by omega), Nat.sub_zero]⟩
theorem PInv.next {c : DClock} {lc : List DFrame} {p : Nat} (ho : Ok c) (h : PInv c lc p) (hp : p < c.frames.length) (hl : ((c.hand + (p : Int)).tmod (c.frames.length : Int)).toNat < lc.length) (hu : lc[((c.hand + (p : Int)).tmod (c.frames.length : Int)).toNat].used = true) :
    PInv c (lc.set ((c.hand + (p : Int)).tmod (c.frames.length : Int)).toNat ⟨lc[((c.hand + (p : Int)).tmod (c.frames.length : Int)).toNat].key, false⟩) (p + 1) := by
  obtain ⟨g1, g2, g3⟩ := h
  have ht := tm_nat (p := p) (n := c.frames.length) ho.hand0
  simp only [ht] at hl hu ⊢
  refine ⟨by simpa using g1, hp, ?_⟩
  rw [← g3, show c.frames.length - p = (c.frames.length - (p + 1)) + 1 by omega, spin_step hl hu]
  congr 1
  rw [g1, Nat.mod_add_mod]; congr 1
theorem touch_ref {c : DClock} {lc : List DFrame} {p : Nat} {key : Int} (ho : Ok c) (h : PInv c lc p) (hn : at_ c.frames key < 0) (h2 : c.room ≤ (c.frames.length : Int)) (hl : ((c.hand + (p : Int)).tmod (c.frames.length : Int)).toNat < lc.length)
    (hu : (c.frames.length : Int) ≤ (p : Int) ∨ lc[((c.hand + (p : Int)).tmod (c.frames.length : Int)).toNat].used = false) :
    touch c key = (⟨c.room, ((c.hand + (p : Int)).tmod (c.frames.length : Int) + 1).tmod (c.frames.length : Int), lc.set ((c.hand + (p : Int)).tmod (c.frames.length : Int)).toNat ⟨key, false⟩⟩, false, lc[((c.hand + (p : Int)).tmod (c.frames.length : Int)).toNat].key) := by
  obtain ⟨g1, g2, g3⟩ := h
  have ht := tm_nat (p := p) (n := c.frames.length) ho.hand0
  have hr := ho.room; have hr0 := ho.hand0
  have hpos : (0 : Int) < c.frames.length := by omega
  obtain ⟨b1, b2⟩ := tm_bounds (a := c.hand + (p : Int)) (n := (c.frames.length : Int)) (by omega) hpos
  have he : (c.hand + (p : Int)).tmod (c.frames.length : Int) = (((c.hand.toNat + p) % c.frames.length : Nat) : Int) := by rw [← ht]; omega
  simp only [ht] at hl hu ⊢
  simp only [he]
  have hs : spin (c.frames.length - p) lc ((c.hand.toNat + p) % c.frames.length) = (lc, (c.hand.toNat + p) % c.frames.length) := by
    rcases hu with hu | hu
    · rw [show c.frames.length - p = 0 by omega]; rfl
    · exact spin_stop hl hu
  rw [hs] at g3
  unfold touch
  rw [if_neg (by unfold at_ at hn; omega), if_neg (by omega), ← g3]
  have e : (lc.getD ((c.hand.toNat + p) % c.frames.length) default) = lc[(c.hand.toNat + p) % c.frames.length] := by simp [List.getD, hl]
  simp only [e]
  congr 2
theorem same_clock {a b : DClock} : a = b ↔ a.room = b.room ∧ a.hand = b.hand ∧ a.frames = b.frames := by
  constructor
  · rintro rfl; exact ⟨rfl, rfl, rfl⟩
  · rintro ⟨h1, h2, h3⟩; cases a; cases b; simp_all
theorem same_no {a b : DClock} (h : (a.room ≠ b.room ∨ a.hand ≠ b.hand) ∨ (a.frames.length : Int) ≠ b.frames.length) : false = decide (a = b) := by
  refine (decide_eq_false fun e => ?_).symm
  subst e; simp at h
theorem frame_ne {f g : DFrame} (h : f.key ≠ g.key ∨ f.used ≠ g.used) : f ≠ g := by rintro rfl; simp at h
theorem same_no2 {a b : DClock} {i : Nat} {h1 : i < a.frames.length} {h2 : i < b.frames.length} (h : a.frames[i].key ≠ b.frames[i].key ∨ a.frames[i].used ≠ b.frames[i].used) : false = decide (a = b) := by
  refine (decide_eq_false fun e => ?_).symm
  subst e; simp at h
theorem same_yes {a b : DClock} (h1 : a.room = b.room) (h2 : a.hand = b.hand) (h3 : (a.frames.length : Int) = b.frames.length) (h : ∀ j (h1 : j < a.frames.length) (h2 : j < b.frames.length), a.frames[j] = b.frames[j]) : true = decide (a = b) := by
  refine (decide_eq_true (same_clock.2 ⟨h1, h2, List.ext_getElem (by omega) fun i q1 q2 => h i q1 q2⟩)).symm
theorem frame_eq {f g : DFrame} (h1 : f.key = g.key) (h2 : f.used = g.used) : f = g := by cases f; cases g; simp_all
/-! ### Access and run -/
theorem acc_key {c : DClock} {key : Int} (h : check c = 0) (hk : Lru.okKey key = false) : access c key = (zero, false, 0) ∧ accessErr c key = 3 := by
  have e : accessErr c key = 3 := by unfold accessErr; rw [if_pos h, if_neg (by simp [hk])]
  exact ⟨by unfold access; rw [e]; rfl, e⟩
theorem acc_chk {c : DClock} (key : Int) (h : check c ≠ 0) : access c key = (zero, false, 0) ∧ accessErr c key = check c := by
  have e : accessErr c key = check c := by unfold accessErr; rw [if_neg h]
  exact ⟨by unfold access; rw [e, if_neg h], e⟩
theorem acc_ok {c : DClock} {key : Int} (h : check c = 0) (hk : Lru.okKey key = true) : access c key = touch c key ∧ accessErr c key = 0 := by
  have e : accessErr c key = 0 := by unfold accessErr; rw [if_pos h, if_pos hk]
  exact ⟨by unfold access; rw [if_pos e], e⟩
theorem acc_key2 {c : DClock} {key : Int} (h : check c = 0 ∧ Lru.okKey key = false) : access c key = (zero, false, 0) ∧ accessErr c key = 3 := acc_key h.1 h.2
theorem acc_ok2 {c : DClock} {key : Int} (h : ¬ check c = 0 ∨ Lru.okKey key = true) (h2 : check c = 0) : access c key = touch c key ∧ accessErr c key = 0 := acc_ok h2 (h.resolve_left fun h => h h2)
theorem run_chk {c : DClock} (l : List Int) (h : check c ≠ 0) : run c l = (zero, 0) ∧ runErr c l = check c := by
  have e : runErr c l = check c := by unfold runErr; rw [if_neg h]
  exact ⟨by unfold run; rw [e, if_neg h], e⟩
theorem run_tr {c : DClock} {l : List Int} (h : check c = 0) (h2 : Lru.trace l ≠ 0) : run c l = (zero, 0) ∧ runErr c l = Lru.trace l := by
  have e : runErr c l = Lru.trace l := by unfold runErr; rw [if_pos h]
  exact ⟨by unfold run; rw [e, if_neg h2], e⟩
theorem run_ok {c : DClock} {l : List Int} (h : check c = 0) (h2 : Lru.trace l = 0) : run c l = runGo c 0 l ∧ runErr c l = 0 := by
  have e : runErr c l = 0 := by unfold runErr; rw [if_pos h, h2]
  exact ⟨by unfold run; rw [e, if_pos rfl], e⟩
theorem spin_len : ∀ (f : Nat) (l : List DFrame) (h : Nat), (spin f l h).1.length = l.length ∧ (h < l.length → (spin f l h).2 < l.length)
  | 0, l, h => ⟨rfl, fun hl => hl⟩
  | f + 1, l, h => by
    rw [spin]; split
    · obtain ⟨h1, h2⟩ := spin_len f (l.set h ⟨(l.getD h default).key, false⟩) ((h + 1) % l.length)
      refine ⟨by simpa using h1, fun hl => ?_⟩
      have := h2 (by simpa using Nat.mod_lt _ (by omega))
      simpa using this
    · exact ⟨rfl, fun hl => hl⟩
theorem Ok.touch {c : DClock} (h : Ok c) (key : Int) : Ok (touch c key).1 := by
  obtain ⟨⟨r1, r2⟩, l, a0, a1⟩ := h
  unfold Clock.touch
  split
  · exact ⟨⟨r1, r2⟩, by simpa using l, a0, by simpa using a1⟩
  · split
    · exact ⟨⟨r1, r2⟩, by simp only [List.length_append, List.length_singleton]; omega, a0, by simp only [List.length_append, List.length_singleton]; omega⟩
    · obtain ⟨s1, s2⟩ := spin_len c.frames.length c.frames c.hand.toNat
      have := Nat.mod_lt ((spin c.frames.length c.frames c.hand.toNat).2 + 1) (show 0 < c.frames.length by omega)
      exact ⟨⟨r1, r2⟩, by simp only [List.length_set, s1]; omega, by simp only; omega, by simp only [List.length_set, s1]; omega⟩
theorem touch_hit2 {c : DClock} {key : Int} {i : Nat} (hl : i < c.frames.length) (hk : c.frames[i].key = key) (hn : ∀ j (h : j < c.frames.length), j < i → c.frames[j].key ≠ key) : touch c key = (⟨c.room, c.hand, c.frames.set i ⟨c.frames[i].key, true⟩⟩, true, -1) := by
  have e := idxF_found (f := fun f : DFrame => f.key == key) hl (by simpa using hk) (fun j h h2 => by simpa using hn j h h2)
  have e2 : at_ c.frames key = (i : Int) := e.symm
  rw [touch_hit (by omega)]
  simp only [e2, Int.toNat_natCast]
theorem at_neg {c : DClock} {key : Int} (hn : ∀ j (h : j < c.frames.length), c.frames[j].key ≠ key) : at_ c.frames key < 0 := by
  have e := idxF_none (f := fun f : DFrame => f.key == key) (l := c.frames) (fun j h => by simpa using hn j h)
  have e2 : at_ c.frames key = -1 := e.symm
  omega
theorem acc_cases (c : DClock) (key : Int) : (check c ≠ 0 ∧ access c key = (zero, false, 0) ∧ accessErr c key = check c) ∨ (check c = 0 ∧ (key < 0 ∨ 1048576 < key) ∧ access c key = (zero, false, 0) ∧ accessErr c key = 3) ∨ (check c = 0 ∧ (0 ≤ key ∧ key ≤ 1048576) ∧ access c key = touch c key ∧ accessErr c key = 0) := by
  by_cases h : check c = 0
  · cases hk : Lru.okKey key
    · refine .inr (.inl ⟨h, ?_, acc_key h hk⟩)
      simp [Lru.okKey] at hk; omega
    · exact .inr (.inr ⟨h, Lru.key_ok hk, acc_ok h hk⟩)
  · exact .inl ⟨h, acc_chk key h⟩
theorem run_cases (c : DClock) (l : List Int) : (check c ≠ 0 ∧ run c l = (zero, 0) ∧ runErr c l = check c) ∨ (check c = 0 ∧ Lru.trace l ≠ 0 ∧ run c l = (zero, 0) ∧ runErr c l = Lru.trace l) ∨ (check c = 0 ∧ Lru.trace l = 0 ∧ run c l = runGo c 0 l ∧ runErr c l = 0) := by
  by_cases h : check c = 0
  · by_cases h2 : Lru.trace l = 0
    · exact .inr (.inr ⟨h, h2, run_ok h h2⟩)
    · exact .inr (.inl ⟨h, h2, run_tr h h2⟩)
  · exact .inl ⟨h, run_chk l h⟩
theorem clear_bad {c : DClock} (h : check c ≠ 0) : clear c = zero := if_neg h
theorem clear_ok {c : DClock} (h : check c = 0) : clear c = ⟨c.room, c.hand, unused c.frames⟩ := if_pos h
structure RInv (c cc : DClock) (l : List Int) (n : Int) (k : Nat) : Prop where
  ok : Ok cc
  n0 : 0 ≤ n
  n1 : n ≤ (k : Int)
  le : k ≤ l.length
  go : runGo cc n (l.drop k) = runGo c 0 l
theorem RInv.start {c : DClock} (h : Ok c) (l : List Int) : RInv c c l 0 0 := ⟨h, Int.le_refl _, Int.le_refl _, Nat.zero_le _, rfl⟩
theorem RInv.hit {c cc : DClock} {l : List Int} {n : Int} {k : Nat} (h : RInv c cc l n k) (hk : k < l.length) (ht : (Clock.touch cc l[k]).2.1 = true) : RInv c (Clock.touch cc l[k]).1 l (n + 1) (k + 1) := by
  obtain ⟨g1, g2, g3, g4, g5⟩ := h
  rw [List.drop_eq_getElem_cons hk, runGo, if_pos ht] at g5
  exact ⟨g1.touch _, by omega, by omega, hk, g5⟩
theorem RInv.miss {c cc : DClock} {l : List Int} {n : Int} {k : Nat} (h : RInv c cc l n k) (hk : k < l.length) (ht : (Clock.touch cc l[k]).2.1 = false) : RInv c (Clock.touch cc l[k]).1 l n (k + 1) := by
  obtain ⟨g1, g2, g3, g4, g5⟩ := h
  rw [List.drop_eq_getElem_cons hk, runGo, if_neg (by simp [ht])] at g5
  exact ⟨g1.touch _, by omega, by omega, hk, g5⟩
theorem RInv.done {c cc : DClock} {l : List Int} {n : Int} {k : Nat} (h : RInv c cc l n k) (hk : (l.length : Int) ≤ k) : runGo c 0 l = (cc, n) := by
  rw [← h.go, List.drop_of_length_le (by omega)]; rfl
structure UInv (l cc : List DFrame) (k : Nat) : Prop where
  le : k ≤ l.length
  eq : cc = unused (l.take k) ++ l.drop k
theorem UInv.start (l : List DFrame) : UInv l l 0 := ⟨Nat.zero_le _, by simp [unused]⟩
theorem UInv.len {l cc : List DFrame} {k : Nat} (h : UInv l cc k) : cc.length = l.length := by have := h.le; rw [h.eq]; simp [unused]; omega
theorem UInv.next {l cc : List DFrame} {k : Nat} (h : UInv l cc k) (hk : k < l.length) (hl : k < cc.length) : UInv l (cc.set k ⟨cc[k].key, false⟩) (k + 1) := by
  have hle := h.le
  have he := h.eq
  subst he
  refine ⟨hk, ?_⟩
  have hl2 : (unused (l.take k)).length = k := by simp [unused]; omega
  have e : (unused (l.take k) ++ l.drop k)[k] = l[k] := by rw [List.getElem_append_right (by omega)]; simp [hl2]
  rw [e, List.set_append, if_neg (by omega), hl2, Nat.sub_self, List.drop_eq_getElem_cons hk, List.take_succ_eq_append_getElem hk]
  simp only [unused, List.map_append, List.map_cons, List.map_nil, List.set_cons_zero, List.append_assoc, List.singleton_append]
theorem UInv.done {l cc : List DFrame} {k : Nat} (h : UInv l cc k) (hk : (l.length : Int) ≤ k) : cc = unused l := by
  rw [h.eq, List.drop_of_length_le (by omega), List.take_of_length_le (by omega), List.append_nil]
theorem turn_eq {c tc : DClock} {i : Nat} (h : tc.room = c.room ∧ tc.hand = c.hand ∧ UInv c.frames tc.frames i) (hk : (c.frames.length : Int) ≤ i) : tc = ⟨c.room, c.hand, unused c.frames⟩ := same_clock.2 ⟨h.1, h.2.1, h.2.2.done hk⟩
end Go.Sx.Clock
