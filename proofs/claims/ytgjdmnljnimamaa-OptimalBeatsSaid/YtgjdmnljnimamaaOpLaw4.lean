/- Nobody beats the optimal policy: LFU and the clock as runs. -/
import Derived.Test.YtgjdmnljnimamaaOpLaw3
import Derived.Test.YtgjdmnljnimamaaLfLaw2
import Derived.Test.YtgjdmnljnimamaaCkLaw2
namespace Go.Sx.Opt
open Belady (Run)
/-! ### LFU -/
theorem lfu_step {c : DUses} {k : Int} : (k ∈ Lfu.keysOf c.list → (Lfu.touch c k).2.1 = true ∧ ∀ x ∈ Lfu.keysOf (Lfu.touch c k).1.list, x ∈ Lfu.keysOf c.list) ∧ (k ∉ Lfu.keysOf c.list → (Lfu.touch c k).2.1 = false) ∧
    k ∈ Lfu.keysOf (Lfu.touch c k).1.list ∧ ∀ x ∈ Lfu.keysOf (Lfu.touch c k).1.list, x = k ∨ x ∈ Lfu.keysOf c.list := by
  have her : ∀ i, ∀ x ∈ Lfu.keysOf (c.list.eraseIdx i), x ∈ Lfu.keysOf c.list := fun i x hx => by rw [Lfu.keys_erase] at hx; exact List.mem_of_mem_eraseIdx hx
  by_cases h : 0 ≤ Lfu.at_ c.list k
  · obtain ⟨hl, hk⟩ := Lfu.at_pos h
    have hm : k ∈ Lfu.keysOf c.list := List.mem_map.2 ⟨_, List.getElem_mem hl, hk⟩
    have e := Lfu.touch_hit h hl
    have e2 : Lfu.keysOf (Lfu.touch c k).1.list = k :: Lfu.keysOf (c.list.eraseIdx (Lfu.at_ c.list k).toNat) := by rw [e]; simp only [Lfu.keysOf, List.map_cons, hk]
    have hs : ∀ x ∈ Lfu.keysOf (Lfu.touch c k).1.list, x ∈ Lfu.keysOf c.list := fun x hx => by
      rw [e2] at hx
      rcases List.mem_cons.1 hx with h | h
      · rw [h]; exact hm
      · exact her _ _ h
    exact ⟨fun _ => ⟨by rw [e], hs⟩, fun hn => absurd hm hn, by rw [e2]; simp, fun x hx => .inr (hs x hx)⟩
  · have hlt : Lfu.at_ c.list k < 0 := by omega
    have hn : k ∉ Lfu.keysOf c.list := fun hm => by
      obtain ⟨x, hx, hxk⟩ := List.mem_map.1 hm
      exact Lfu.at_neg.1 hlt x hx hxk
    refine ⟨fun hm => absurd hm hn, fun _ => ?_, ?_⟩
    · unfold Lfu.touch; rw [if_neg h]; split <;> rfl
    · have e2 : ∃ i, Lfu.keysOf (Lfu.touch c k).1.list = k :: Lfu.keysOf (c.list.eraseIdx i) := by
        by_cases hf : (c.list.length : Int) = c.room
        · refine ⟨Lfu.least c.list, ?_⟩; unfold Lfu.touch; rw [if_neg h, if_pos hf]; rfl
        · refine ⟨c.list.length, ?_⟩; unfold Lfu.touch; rw [if_neg h, if_neg hf, List.eraseIdx_of_length_le (Nat.le_refl _)]; rfl
      obtain ⟨i, e2⟩ := e2
      rw [e2]
      exact ⟨by simp, fun x hx => (List.mem_cons.1 hx).imp id (her _ _)⟩
theorem lfu_run {l : List Int} : ∀ {c : DUses} {n : Int}, Lfu.Ok c → (∀ x ∈ l, Lru.okKey x = true) → ∃ m : Nat, Run c.room.toNat (Lfu.keysOf c.list) l m ∧ (Lfu.runGo c n l).2 + m = n + l.length := by
  induction l with
  | nil => intro c n _ _; exact ⟨0, .nil _, by simp [Lfu.runGo]⟩
  | cons k l ih =>
    intro c n h hk
    have h2 := h.touch (hk k (by simp))
    have hr := h2.room; have hl := h2.len
    have e := Lfu.touch_room c k
    obtain ⟨s1, s2, s3, s4⟩ := lfu_step (c := c) (k := k)
    have hlen : (Lfu.keysOf (Lfu.touch c k).1.list).length ≤ c.room.toNat := by rw [e] at hl hr; simp only [Lfu.keysOf, List.length_map]; omega
    by_cases hm : k ∈ Lfu.keysOf c.list
    · obtain ⟨m, h3, h4⟩ := ih (c := (Lfu.touch c k).1) (n := n + 1) h2 (fun x hx => hk x (by simp [hx]))
      refine ⟨m, .hit hm h2.once hlen s3 (s1 hm).2 (by rw [e] at h3; exact h3), ?_⟩
      rw [Lfu.runGo, (s1 hm).1]; simp only [if_true, List.length_cons]; omega
    · obtain ⟨m, h3, h4⟩ := ih (c := (Lfu.touch c k).1) (n := n) h2 (fun x hx => hk x (by simp [hx]))
      refine ⟨m + 1, .miss hm h2.once hlen s3 s4 (by rw [e] at h3; exact h3), ?_⟩
      rw [Lfu.runGo, s2 hm]; simp only [Bool.false_eq_true, if_false, List.length_cons]; omega
/-! ### The clock -/
theorem ck_room (c : DClock) (k : Int) : (Clock.touch c k).1.room = c.room := by unfold Clock.touch; split; rfl; split <;> rfl
theorem ck_step {c : DClock} {k : Int} (ho : Clock.Ok c) : (k ∈ Clock.keysOf c.frames → (Clock.touch c k).2.1 = true ∧ ∀ x ∈ Clock.keysOf (Clock.touch c k).1.frames, x ∈ Clock.keysOf c.frames) ∧ (k ∉ Clock.keysOf c.frames → (Clock.touch c k).2.1 = false) ∧
    k ∈ Clock.keysOf (Clock.touch c k).1.frames ∧ ∀ x ∈ Clock.keysOf (Clock.touch c k).1.frames, x = k ∨ x ∈ Clock.keysOf c.frames := by
  by_cases h : 0 ≤ Clock.at_ c.frames k
  · have e := Clock.touch_hit h
    have e2 : Clock.keysOf (Clock.touch c k).1.frames = Clock.keysOf c.frames := by rw [e]; exact Clock.keysOf_clear _ true
    have hm : k ∈ Clock.keysOf c.frames := by
      rcases idxF_cases (fun x : DFrame => (x.key == k)) c.frames with ⟨j, hj, _, h1, _⟩ | ⟨e, _⟩
      · exact List.mem_map.2 ⟨_, List.getElem_mem hj, by simpa using h1⟩
      · unfold Clock.at_ at h; omega
    exact ⟨fun _ => ⟨by rw [e], fun x hx => e2 ▸ hx⟩, fun hn => absurd hm hn, by rw [e2]; exact hm, fun x hx => .inr (e2 ▸ hx)⟩
  · have hn := Clock.at_mem (l := c.frames) (key := k) (by omega)
    refine ⟨fun hm => absurd hm hn, fun _ => ?_, ?_⟩
    · unfold Clock.touch; rw [if_neg h]; split <;> rfl
    · by_cases h2 : (c.frames.length : Int) < c.room
      · have e : Clock.keysOf (Clock.touch c k).1.frames = Clock.keysOf c.frames ++ [k] := by rw [Clock.touch_room (by omega) h2]; simp [Clock.keysOf]
        rw [e]; exact ⟨by simp, fun x hx => by simpa [or_comm] using hx⟩
      · obtain ⟨i, hi, e, _⟩ := Clock.evict (key := k) ho (by omega) (by omega)
        rw [e]
        refine ⟨?_, fun x hx => Clock.mem_set_keys hx⟩
        have hlt : i < ((Clock.keysOf c.frames).set i k).length := by simpa [Clock.keysOf] using hi
        have := List.getElem_mem hlt
        rwa [List.getElem_set_self] at this
theorem ck_run {l : List Int} : ∀ {c : DClock} {n : Int}, Clock.check c = 0 → (∀ x ∈ l, Lru.okKey x = true) → ∃ m : Nat, Run c.room.toNat (Clock.keysOf c.frames) l m ∧ (Clock.runGo c n l).2 + m = n + l.length := by
  induction l with
  | nil => intro c n _ _; exact ⟨0, .nil _, by simp [Clock.runGo]⟩
  | cons k l ih =>
    intro c n h hk
    have h2 := Clock.check_touch h (hk k (by simp))
    have hr := (Clock.ok_of h2).room; have hl := (Clock.ok_of h2).len; have hnd := (Clock.ok_keys h2).2
    have e := ck_room c k
    obtain ⟨s1, s2, s3, s4⟩ := ck_step (k := k) (Clock.ok_of h)
    have hlen : (Clock.keysOf (Clock.touch c k).1.frames).length ≤ c.room.toNat := by rw [e] at hl hr; simp only [Clock.keysOf, List.length_map]; omega
    by_cases hm : k ∈ Clock.keysOf c.frames
    · obtain ⟨m, h3, h4⟩ := ih (c := (Clock.touch c k).1) (n := n + 1) h2 (fun x hx => hk x (by simp [hx]))
      refine ⟨m, .hit hm hnd hlen s3 (s1 hm).2 (by rw [e] at h3; exact h3), ?_⟩
      rw [Clock.runGo, (s1 hm).1]; simp only [if_true, List.length_cons]; omega
    · obtain ⟨m, h3, h4⟩ := ih (c := (Clock.touch c k).1) (n := n) h2 (fun x hx => hk x (by simp [hx]))
      refine ⟨m + 1, .miss hm hnd hlen s3 s4 (by rw [e] at h3; exact h3), ?_⟩
      rw [Clock.runGo, s2 hm]; simp only [Bool.false_eq_true, if_false, List.length_cons]; omega
/-! ### The law -/
theorem beats_lfu {room : Int} {l : List Int} (h : evErr l room = 0) (h2 : Lfu.runErr ⟨room, []⟩ l = 0) : (ev l room).2 ≤ (l.length : Int) - (Lfu.run ⟨room, []⟩ l).2 := by
  obtain ⟨a1, a2, a3⟩ := Lfu.run_ok h2
  obtain ⟨m, h3, h4⟩ := lfu_run (n := 0) (Lfu.ok_of a1) (Lru.trace_ok.1 a2).2
  have := least h h3; rw [a3]; omega
theorem beats_ck {room : Int} {l : List Int} (h : evErr l room = 0) (h2 : Clock.runErr ⟨room, 0, []⟩ l = 0) : (ev l room).2 ≤ (l.length : Int) - (Clock.run ⟨room, 0, []⟩ l).2 := by
  obtain ⟨a1, a2, a3⟩ := Clock.run_err h2
  obtain ⟨m, h3, h4⟩ := ck_run (n := 0) a1 (Lru.trace_ok.1 a2).2
  have := least h h3; rw [a3]; omega
/-- who refuses, and who does not -/
theorem beats_bad {room : Int} {l : List Int} (h : ((evErr l room ≠ 0 ∨ Lru.runErr ⟨room, []⟩ l ≠ 0) ∨ Clock.runErr ⟨room, 0, []⟩ l ≠ 0) ∨ Lfu.runErr ⟨room, []⟩ l ≠ 0) : (ev l room).2 = 0 := by
  have hne : evErr l room ≠ 0 := by
    intro h0
    obtain ⟨h1, h2, _⟩ := ev_ok h0
    have hr := Lru.room_ok h2
    have hk : Lru.keys [] = 0 := by decide
    rcases h with ((h | h) | h) | h
    · exact h h0
    · have : Lru.check ⟨room, []⟩ = 0 := by simp [Lru.check, h2, hk]; omega
      exact h (by unfold Lru.runErr; rw [if_pos this]; exact h1)
    · have : Clock.check ⟨room, 0, []⟩ = 0 := by simp [Clock.check, h2, hk, Clock.keysOf]; omega
      exact h (by unfold Clock.runErr; rw [if_pos this]; exact h1)
    · have : Lfu.check ⟨room, []⟩ = 0 := by simp [Lfu.check, h2, hk, Lfu.keysOf]; omega
      exact h (by unfold Lfu.runErr; rw [if_pos this]; exact h1)
  rw [ev_bad hne]
theorem lfu_small {c : DUses} {l : List Int} : ∀ {n : Int}, n ≤ (Lfu.runGo c n l).2 ∧ (Lfu.runGo c n l).2 ≤ n + l.length := by
  induction l generalizing c with
  | nil => intro n; simp [Lfu.runGo]
  | cons k l ih =>
    intro n; rw [Lfu.runGo]
    simp only [List.length_cons]
    by_cases ht : (Lfu.touch c k).2.1 = true
    · rw [if_pos ht]; have := @ih (Lfu.touch c k).1 (n + 1); omega
    · rw [if_neg ht]; have := @ih (Lfu.touch c k).1 n; omega
theorem beats_bd {room : Int} {l : List Int} (h1 : evErr l room = 0) (h2 : Lru.runErr ⟨room, []⟩ l = 0) (h3 : Clock.runErr ⟨room, 0, []⟩ l = 0) (h4 : Lfu.runErr ⟨room, []⟩ l = 0) :
    l.length ≤ 200 ∧ (0 ≤ (Lru.run ⟨room, []⟩ l).2 ∧ (Lru.run ⟨room, []⟩ l).2 ≤ 200) ∧ (0 ≤ (Clock.run ⟨room, 0, []⟩ l).2 ∧ (Clock.run ⟨room, 0, []⟩ l).2 ≤ 200) ∧ (0 ≤ (Lfu.run ⟨room, []⟩ l).2 ∧ (Lfu.run ⟨room, []⟩ l).2 ≤ 200) := by
  obtain ⟨_, _, _, _, g5⟩ := go_n h1
  obtain ⟨a1, a2, a3⟩ := Lru.run_ok h2
  obtain ⟨b1, b2, b3⟩ := Clock.run_err h3
  obtain ⟨c1, c2, c3⟩ := Lfu.run_ok h4
  have x1 := Lru.run_n l ⟨room, []⟩
  have x2 := Clock.run_n l ⟨room, 0, []⟩
  have x3 := @lfu_small ⟨room, []⟩ l 0
  rw [a3, b3, c3]
  refine ⟨g5, by omega, by omega, by omega⟩
end Go.Sx.Opt
