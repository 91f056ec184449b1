/- Nobody beats the optimal policy: LFU and the clock as runs. -/
import Derived.Test.YtfncgfcehkalnaaBeLawM15
import Derived.Test.YtfncgfcehkalnaaSx12M16
namespace Go.Sx.Opt
open Belady (Run)
/-! ### LFU -/
theorem lfu_step {c : DUses} {k : Int} : (k ∈ Lfu.keysOf c.list → (Lfu.touch c k).2.1 = true ∧ ∀ x ∈ Lfu.keysOf (Lfu.touch c k).1.list, x ∈ Lfu.keysOf c.list) ∧ (k ∉ Lfu.keysOf c.list → (Lfu.touch c k).2.1 = false) ∧
    k ∈ Lfu.keysOf (Lfu.touch c k).1.list ∧ ∀ x ∈ Lfu.keysOf (Lfu.touch c k).1.list, x = k ∨ x ∈ Lfu.keysOf c.list := by
  have her : ∀ i, ∀ x ∈ Lfu.keysOf (c.list.eraseIdx i), x ∈ Lfu.keysOf c.list := fun i x hx => by rw [Lfu.keys_erase] at hx; exact List.mem_of_mem_eraseIdx hx
  by_cases h : 0 ≤ Lfu.at_ c.list k
  · obtain ⟨hl, hk⟩ := Lfu.at_pos h
    have hm : k ∈ Lfu.keysOf c.list := List.mem_map.2 ⟨_, List.getElem_mem hl, hk⟩
    have e := Lfu.touch_hit h hl
    have e2 : Lfu.keysOf (Lfu.touch c k).1.list = k :: Lfu.keysOf (c.list.eraseIdx (Lfu.at_ c.list k).toNat) := by rw [e]; simp only [Lfu.keysOf, List.map_cons, hk]
    have hs : ∀ x ∈ Lfu.keysOf (Lfu.touch c k).1.list, x ∈ Lfu.keysOf c.list := fun x hx => by
      rw [e2] at hx
      rcases List.mem_cons.1 hx with h | h
      · rw [h]; exact hm
      · exact her _ _ h
    exact ⟨fun _ => ⟨by rw [e], hs⟩, fun hn => absurd hm hn, by rw [e2]; simp, fun x hx => .inr (hs x hx)⟩
  · have hlt : Lfu.at_ c.list k < 0 := by omega
    have hn : k ∉ Lfu.keysOf c.list := fun hm => by
      obtain ⟨x, hx, hxk⟩ := List.mem_map.1 hm
      exact Lfu.at_neg.1 hlt x hx hxk
    refine ⟨fun hm => absurd hm hn, fun _ => ?_, ?_⟩
    · unfold Lfu.touch; rw [if_neg h]; split <;> rfl
    · have e2 : ∃ i, Lfu.keysOf (Lfu.touch c k).1.list = k :: Lfu.keysOf (c.list.eraseIdx i) := by
        by_cases hf : (c.list.length : Int) = c.room
        · refine ⟨Lfu.least c.list, ?_⟩; unfold Lfu.touch; rw [if_neg h, if_pos hf]; rfl
        · refine ⟨c.list.length, ?_⟩; unfold Lfu.touch; rw [if_neg h, if_neg hf, List.eraseIdx_of_length_le (Nat.le_refl _)]; rfl
      obtain ⟨i, e2⟩ := e2
      rw [e2]
      exact ⟨by simp, fun x hx => (List.mem_cons.1 hx).imp id (her _ _)⟩
theorem lfu_run {l : List Int} : ∀ {c : DUses} {n : Int}, Lfu.Ok c → (∀ x ∈ l, Lru.okKey x = true) → ∃ m : Nat, Run c.room.toNat (Lfu.keysOf c.list) l m ∧ (Lfu.runGo c n l).2 + m = n + l.length := by
  induction l with
  | nil => intro c n _ _; exact ⟨0, .nil _, by simp [Lfu.runGo]⟩
  | cons k l ih =>
    intro c n h hk
    have h2 := h.touch (hk k (by simp))
    have hr := h2.room; have hl := h2.len
    have e := Lfu.touch_room c k
    obtain ⟨s1, s2, s3, s4⟩ := lfu_step (c := c) (k := k)
    have hlen : (Lfu.keysOf (Lfu.touch c k).1.list).length ≤ c.room.toNat := by rw [e] at hl hr; simp only [Lfu.keysOf, List.length_map]; omega
    by_cases hm : k ∈ Lfu.keysOf c.list
    · obtain ⟨m, h3, h4⟩ := ih (c := (Lfu.touch c k).1) (n := n + 1) h2 (fun x hx => hk x (by simp [hx]))
      refine ⟨m, .hit hm h2.once hlen s3 (s1 hm).2 (by rw [e] at h3; exact h3), ?_⟩
      rw [Lfu.runGo, (s1 hm).1]; simp only [if_true, List.length_cons]; omega
    · obtain ⟨m, h3, h4⟩ := ih (c := (Lfu.touch c k).1) (n := n) h2 (fun x hx => hk x (by simp [hx]))
      refine ⟨m + 1, .miss hm h2.once hlen s3 s4 (by rw [e] at h3; exact h3), ?_⟩
      rw [Lfu.runGo, s2 hm]; simp only [Bool.false_eq_true, if_false, List.length_cons]; omega
/-! ### The clock -/
theorem ck_room (c : DClock) (k : Int) : (Clock.touch c k).1.room = c.room := by unfold Clock.touch; split; rfl; split <;> rfl
theorem ck_step {c : DClock} {k : Int} (ho : Clock.Ok c) : (k ∈ Clock.keysOf c.frames → (Clock.touch c k).2.1 = true ∧ ∀ x ∈ Clock.keysOf (Clock.touch c k).1.frames, x ∈ Clock.keysOf c.frames) ∧ (k ∉ Clock.keysOf c.frames → (Clock.touch c k).2.1 = false) ∧
    k ∈ Clock.keysOf (Clock.touch c k).1.frames ∧ ∀ x ∈ Clock.keysOf (Clock.touch c k).1.frames, x = k ∨ x ∈ Clock.keysOf c.frames := by
  by_cases h : 0 ≤ Clock.at_ c.frames k
  · have e := Clock.touch_hit h
    have e2 : Clock.keysOf (Clock.touch c k).1.frames = Clock.keysOf c.frames := by rw [e]; exact Clock.keysOf_clear _ true
    have hm : k ∈ Clock.keysOf c.frames := by
      rcases idxF_cases (fun x : DFrame => (x.key == k)) c.frames with ⟨j, hj, _, h1, _⟩ | ⟨e, _⟩
      · exact List.mem_map.2 ⟨_, List.getElem_mem hj, by simpa using h1⟩
      · unfold Clock.at_ at h; omega
    exact ⟨fun _ => ⟨by rw [e], fun x hx => e2 ▸ hx⟩, fun hn => absurd hm hn, by rw [e2]; exact hm, fun x hx => .inr (e2 ▸ hx)⟩
  · have hn := Clock.at_mem (l := c.frames) (key := k) (by omega)
    refine ⟨fun hm => absurd hm hn, fun _ => ?_, ?_⟩
    · unfold Clock.touch; rw [if_neg h]; split <;> rfl
    · by_cases h2 : (c.frames.length : Int) < c.room
      · have e : Clock.keysOf (Clock.touch c k).1.frames = Clock.keysOf c.frames ++ [k] := by rw [Clock.touch_room (by omega) h2]; simp [Clock.keysOf]
        rw [e]; exact ⟨by simp, fun x hx => by simpa [or_comm] using hx⟩
      · obtain ⟨i, hi, e, _⟩ := Clock.evict (key := k) ho (by omega) (by omega)
        rw [e]
        refine ⟨?_, fun x hx => Clock.mem_set_keys hx⟩
        have hlt : i < ((Clock.keysOf c.frames).set i k).length := by simpa [Clock.keysOf] using hi
        have := List.getElem_mem hlt
        rwa [List.getElem_set_self] at this
theorem ck_run {l : List Int} : ∀ {c : DClock} {n : Int}, Clock.check c = 0 → (∀ x ∈ l, Lru.okKey x = true) → ∃ m : Nat, Run c.room.toNat (Clock.keysOf c.frames) l m ∧ (Clock.runGo c n l).2 + m = n + l.length := by
  induction l with
  | nil => intro c n _ _; exact ⟨0, .nil _, by simp [Clock.runGo]⟩
  | cons k l ih =>
    intro c n h hk
    have h2 := Clock.check_touch h (hk k (by simp))
    have hr := (Clock.ok_of h2).room; have hl := (Clock.ok_of h2).len; have hnd := (Clock.ok_keys h2).2
    have e := ck_room c k
    obtain ⟨s1, s2, s3, s4⟩ := ck_step (k := k) (Clock.ok_of h)
    have hlen : (Clock.keysOf (Clock.touch c k).1.frames).length ≤ c.room.toNat := by rw [e] at hl hr; simp only [Clock.keysOf, List.length_map]; omega
    by_cases hm : k ∈ Clock.keysOf c.frames
    · obtain ⟨m, h3, h4⟩ := ih (c := (Clock.touch c k).1) (n := n + 1) h2 (fun x hx => hk x (by simp [hx]))
      refine ⟨m, .hit hm hnd hlen s3 (s1 hm).2 (by rw [e] at h3; exact h3), ?_⟩
      rw [Clock.runGo, (s1 hm).1]; simp only [if_true, List.length_cons]; omega
    · obtain ⟨m, h3, h4⟩ := ih (c := (Clock.touch c k).1) (n := n) h2 (fun x hx => hk x (by simp [hx]))
      refine ⟨m + 1, .miss hm hnd hlen s3 s4 (by rw [e] at h3; exact h3), ?_⟩
      rw [Clock.runGo, s2 hm]; simp only [Bool.false_eq_true, if_false, List.length_cons]; omega
/-! ### The law -/
theorem beats_lfu {room : Int} {l : List Int} (h : evErr l room = 0) (h2 : Lfu.runErr ⟨room, []⟩ l = 0) : (ev l room).2 ≤ (l.length : Int) - (Lfu.run ⟨room, []⟩ l).2 := by
  obtain ⟨a1, a2, a3⟩ := Lfu.run_ok h2
  obtain ⟨m, h3, h4⟩ := lfu_run (n := 0) (Lfu.ok_of a1) (Lru.trace_ok.1 a2).2
  have := least h h3; rw [a3]; omega
theorem beats_ck {room : Int} {l : List Int} (h : evErr l room = 0) (h2 : Clock.runErr ⟨room, 0, []⟩ l = 0) : (ev l room).2 ≤ (l.length : Int) - (Clock.run ⟨room, 0, []⟩ l).2 := by
  obtain ⟨a1, a2, a3⟩ := Clock.run_err h2
  obtain ⟨m, h3, h4⟩ := ck_run (n := 0) a1 (Lru.trace_ok.1 a2).2
  have := least h h3; rw [a3]; omega
/-- who refuses, and who does not -/
theorem beats_bad {room : Int} {l : List Int} (h : ((evErr l room ≠ 0 ∨ Lru.runErr ⟨room, []⟩ l ≠ 0) ∨ Clock.runErr ⟨room, 0, []⟩ l ≠ 0) ∨ Lfu.runErr ⟨room, []⟩ l ≠ 0) : (ev l room).2 = 0 := by
  have hne : evErr l room ≠ 0 := by
    intro h0
    obtain ⟨h1, h2, _⟩ := ev_ok h0
    have hr := Lru.room_ok h2
    have hk : Lru.keys [] = 0 := by decide
    rcases h with ((h | h) | h) | h
    · exact h h0
    · have : Lru.check ⟨room, []⟩ = 0 := by simp [Lru.check, h2, hk]; omega
      exact h (by unfold Lru.runErr; rw [if_pos this]; exact h1)
    · have : Clock.check ⟨room, 0, []⟩ = 0 := by simp [Clock.check, h2, hk, Clock.keysOf]; omega
      exact h (by unfold Clock.runErr; rw [if_pos this]; exact h1)
    · have : Lfu.check ⟨room, []⟩ = 0 := by simp [Lfu.check, h2, hk, Lfu.keysOf]; omega
      exact h (by unfold Lfu.runErr; rw [if_pos this]; exact h1)
  rw [ev_bad hne]
theorem lfu_small {c : DUses} {l : List Int} : ∀ {n : Int}, n ≤ (Lfu.runGo c n l).2 ∧ (Lfu.runGo c n l).2 ≤ n + l.length := by
  induction l generalizing c with
  | nil => intro n; simp [Lfu.runGo]
  | cons k l ih =>
    intro n; rw [Lfu.runGo]
    simp only [List.length_cons]
    by_cases ht : (Lfu.touch c k).2.1 = true
    · rw [if_pos ht]; have := @ih (Lfu.touch c k).1 (n + 1); omega
    · rw [if_neg ht]; have := @ih (Lfu.touch c k).1 n; omega
theorem beats_bd {room : Int} {l : List Int} (h1 : evErr l room = 0) (h2 : Lru.runErr ⟨room, []⟩ l = 0) (h3 : Clock.runErr ⟨room, 0, []⟩ l = 0) (h4 : Lfu.runErr ⟨room, []⟩ l = 0) :
    l.length ≤ 200 ∧ (0 ≤ (Lru.run ⟨room, []⟩ l).2 ∧ (Lru.run ⟨room, []⟩ l).2 ≤ 200) ∧ (0 ≤ (Clock.run ⟨room, 0, []⟩ l).2 ∧ (Clock.run ⟨room, 0, []⟩ l).2 ≤ 200) ∧ (0 ≤ (Lfu.run ⟨room, []⟩ l).2 ∧ (Lfu.run ⟨room, []⟩ l).2 ≤ 200) := by
  obtain ⟨_, _, _, _, g5⟩ := go_n h1
  obtain ⟨a1, a2, a3⟩ := Lru.run_ok h2
  obtain ⟨b1, b2, b3⟩ := Clock.run_err h3
  obtain ⟨c1, c2, c3⟩ := Lfu.run_ok h4
  have x1 := Lru.run_n l ⟨room, []⟩
  have x2 := Clock.run_n l ⟨room, 0, []⟩
  have x3 := @lfu_small ⟨room, []⟩ l 0
  rw [a3, b3, c3]
  refine ⟨g5, by omega, by omega, by omega⟩
end Go.Sx.Opt

/- Segmented caches: the plain functions. -/
namespace Go.Sx
structure DHalls where
  first : Int
  second : Int
  young : List Int
  old : List Int
deriving DecidableEq
namespace Seg
open Lru (okKey trace okRoom)
def check (h : DHalls) : Int :=
  if okRoom h.first = false ∨ okRoom h.second = false then 3 else if h.first < (h.young.length : Int) ∨ h.second < (h.old.length : Int) then 2 else Lru.keys (h.young ++ h.old)
structure Ok (h : DHalls) : Prop where
  first : 1 ≤ h.first ∧ h.first ≤ 40
  second : 1 ≤ h.second ∧ h.second ≤ 40
  len1 : (h.young.length : Int) ≤ h.first
  len2 : (h.old.length : Int) ≤ h.second
  key : ∀ k ∈ h.young ++ h.old, okKey k = true
  once : (h.young ++ h.old).Nodup
theorem check_ok {h : DHalls} : check h = 0 ↔ Ok h := by
  unfold check
  constructor
  · intro e
    split at e
    · cases e
    · split at e
      · cases e
      · rename_i h1 h2
        have h3 := Lru.keys_ok.1 e
        simp [okRoom] at h1
        exact ⟨by omega, by omega, by omega, by omega, h3.1, h3.2⟩
  · rintro ⟨a, b, c, d, e, f⟩
    rw [if_neg (by simp [okRoom]; omega), if_neg (by omega)]
    exact Lru.keys_ok.2 ⟨e, f⟩
theorem ok_of {h : DHalls} (e : check h = 0) : Ok h := check_ok.1 e
def touch (h : DHalls) (key : Int) : DHalls × Bool × List Int :=
  if key ∈ h.old ∨ key ∈ h.young then (⟨h.first, h.second, h.young.erase key, (key :: h.old.erase key).take h.second.toNat⟩, true, (key :: h.old.erase key).drop h.second.toNat)
  else (⟨h.first, h.second, (key :: h.young).take h.first.toNat, h.old⟩, false, (key :: h.young).drop h.first.toNat)
def zero : DHalls := ⟨0, 0, [], []⟩
def accessErr (c : DHalls) (key : Int) : Int := if check c = 0 then (if okKey key then 0 else 3) else check c
def access (c : DHalls) (key : Int) : DHalls × Bool × List Int := if accessErr c key = 0 then touch c key else (zero, false, [])
def runGo (c : DHalls) (n : Int) : List Int → DHalls × Int
  | [] => (c, n)
  | k :: l => runGo (touch c k).1 (if (touch c k).2.1 then n + 1 else n) l
def runErr (c : DHalls) (l : List Int) : Int := if check c = 0 then trace l else check c
def run (c : DHalls) (l : List Int) : DHalls × Int := if runErr c l = 0 then runGo c 0 l else (zero, 0)
def flat (c : DHalls) : List Int := if check c = 0 then c.young ++ c.old else []
theorem Ok.touch {c : DHalls} (h : Ok c) {key : Int} (hk : okKey key = true) : Ok (touch c key).1 := by
  obtain ⟨a, b, d, e, f, g⟩ := h
  rw [List.nodup_append] at g
  obtain ⟨g1, g2, g3⟩ := g
  unfold Seg.touch
  split
  · rename_i hm
    refine ⟨a, b, ?_, ?_, ?_, ?_⟩
    · have := List.length_erase_le (a := key) (l := c.young); simp only; omega
    · have := List.length_take_le c.second.toNat (key :: c.old.erase key); simp only; omega
    · intro k hk2
      rcases List.mem_append.1 hk2 with h | h
      · exact f k (List.mem_append_left _ (List.mem_of_mem_erase h))
      · rcases List.mem_cons.1 (List.mem_of_mem_take h) with rfl | h
        · exact hk
        · exact f k (List.mem_append_right _ (List.mem_of_mem_erase h))
    · rw [List.nodup_append]
      refine ⟨g1.erase _, ?_, ?_⟩
      · refine List.Nodup.sublist (List.take_sublist _ _) (List.nodup_cons.2 ⟨fun h => ?_, g2.erase _⟩)
        exact absurd rfl (g2.mem_erase_iff.1 h).1
      · intro x hx y hy e
        subst e
        rcases List.mem_cons.1 (List.mem_of_mem_take hy) with rfl | h
        · exact absurd rfl (g1.mem_erase_iff.1 hx).1
        · exact g3 x (List.mem_of_mem_erase hx) x (List.mem_of_mem_erase h) rfl
  · rename_i hm
    have hm1 : key ∉ c.old := fun h => hm (.inl h)
    have hm2 : key ∉ c.young := fun h => hm (.inr h)
    refine ⟨a, b, ?_, e, ?_, ?_⟩
    · have := List.length_take_le c.first.toNat (key :: c.young); simp only; omega
    · intro k hk2
      rcases List.mem_append.1 hk2 with h | h
      · rcases List.mem_cons.1 (List.mem_of_mem_take h) with rfl | h
        · exact hk
        · exact f k (List.mem_append_left _ h)
      · exact f k (List.mem_append_right _ h)
    · rw [List.nodup_append]
      refine ⟨List.Nodup.sublist (List.take_sublist _ _) (List.nodup_cons.2 ⟨hm2, g1⟩), g2, ?_⟩
      intro x hx y hy e
      subst e
      rcases List.mem_cons.1 (List.mem_of_mem_take hx) with rfl | h
      · exact hm1 hy
      · exact g3 x h x hy rfl
end Seg
end Go.Sx

/- Segmented caches: access and run, the loops of the reference, the laws. -/
namespace Go.Sx.Seg
/-! ### access and run -/
theorem acc_cases (c : DHalls) (key : Int) : (check c ≠ 0 ∧ access c key = (zero, false, []) ∧ accessErr c key = check c) ∨ (check c = 0 ∧ Lru.okKey key = false ∧ access c key = (zero, false, []) ∧ accessErr c key = 3) ∨ (check c = 0 ∧ Lru.okKey key = true ∧ access c key = touch c key ∧ accessErr c key = 0) := by
  by_cases hc : check c = 0
  · cases hr : Lru.okKey key
    · have e : accessErr c key = 3 := by unfold accessErr; rw [if_pos hc, if_neg (by simp [hr])]
      exact .inr (.inl ⟨hc, rfl, by unfold access; rw [e]; rfl, e⟩)
    · have e : accessErr c key = 0 := by unfold accessErr; rw [if_pos hc, if_pos hr]
      exact .inr (.inr ⟨hc, rfl, by unfold access; rw [if_pos e], e⟩)
  · have e : accessErr c key = check c := by unfold accessErr; rw [if_neg hc]
    exact .inl ⟨hc, by unfold access; rw [e, if_neg hc], e⟩
theorem acc1 {c : DHalls} {key : Int} (e : check c ≠ 0) : access c key = (zero, false, []) ∧ accessErr c key = check c := by
  rcases acc_cases c key with ⟨_, b⟩ | ⟨a, _⟩ | ⟨a, _⟩
  · exact b
  · exact absurd a e
  · exact absurd a e
theorem acc2 {c : DHalls} {key : Int} (e : check c = 0 ∧ Lru.okKey key = false) : access c key = (zero, false, []) ∧ accessErr c key = 3 := by
  rcases acc_cases c key with ⟨a, _⟩ | ⟨_, _, b⟩ | ⟨_, b, _⟩
  · exact absurd e.1 a
  · exact b
  · rw [e.2] at b; cases b
theorem acc3 {c : DHalls} {key : Int} (e2 : ¬ check c = 0 ∨ Lru.okKey key = true) (e : check c = 0) : access c key = touch c key ∧ accessErr c key = 0 := by
  rcases acc_cases c key with ⟨a, _⟩ | ⟨_, b, _⟩ | ⟨_, _, b⟩
  · exact absurd e a
  · rcases e2 with e2 | e2
    · exact absurd e e2
    · rw [e2] at b; cases b
  · exact b
theorem acc_bad {c : DHalls} {key : Int} (e : accessErr c key ≠ 0) : access c key = (zero, false, []) := if_neg e
theorem acc_ok {c : DHalls} {key : Int} (e : accessErr c key = 0) : check c = 0 ∧ Lru.okKey key = true ∧ access c key = touch c key := by
  rcases acc_cases c key with ⟨a, b, d⟩ | ⟨a, a2, b, d⟩ | ⟨a, a2, b, d⟩
  · exact absurd (d ▸ e) a
  · rw [d] at e; cases e
  · exact ⟨a, a2, b⟩
theorem run_cases (c : DHalls) (l : List Int) : (check c ≠ 0 ∧ run c l = (zero, 0) ∧ runErr c l = check c) ∨ (check c = 0 ∧ Lru.trace l ≠ 0 ∧ run c l = (zero, 0) ∧ runErr c l = Lru.trace l) ∨ (check c = 0 ∧ Lru.trace l = 0 ∧ run c l = runGo c 0 l ∧ runErr c l = 0) := by
  by_cases h : check c = 0
  · have e : runErr c l = Lru.trace l := by unfold runErr; rw [if_pos h]
    by_cases h2 : Lru.trace l = 0
    · exact .inr (.inr ⟨h, h2, by unfold run; rw [if_pos (e.trans h2)], e.trans h2⟩)
    · exact .inr (.inl ⟨h, h2, by unfold run; rw [if_neg (by rw [e]; exact h2)], e⟩)
  · have e : runErr c l = check c := by unfold runErr; rw [if_neg h]
    exact .inl ⟨h, by unfold run; rw [if_neg (by rw [e]; exact h)], e⟩
theorem run1 {c : DHalls} {l : List Int} (e : check c ≠ 0) : run c l = (zero, 0) ∧ runErr c l = check c := by
  rcases run_cases c l with ⟨_, b⟩ | ⟨a, _⟩ | ⟨a, _⟩
  · exact b
  · exact absurd a e
  · exact absurd a e
theorem run2 {c : DHalls} {l : List Int} (e : check c = 0) (e2 : Lru.trace l ≠ 0) : run c l = (zero, 0) ∧ runErr c l = Lru.trace l := by
  rcases run_cases c l with ⟨a, _⟩ | ⟨_, _, b⟩ | ⟨_, a, _⟩
  · exact absurd e a
  · exact b
  · exact absurd a e2
theorem run3 {c : DHalls} {l : List Int} (e : check c = 0) (e2 : Lru.trace l = 0) : run c l = runGo c 0 l ∧ runErr c l = 0 := by
  rcases run_cases c l with ⟨a, _⟩ | ⟨_, a, _⟩ | ⟨_, _, b⟩
  · exact absurd e a
  · exact absurd e2 a
  · exact b
theorem run_bad {c : DHalls} {l : List Int} (e : runErr c l ≠ 0) : run c l = (zero, 0) := if_neg e
theorem run_ok {c : DHalls} {l : List Int} (e : runErr c l = 0) : check c = 0 ∧ Lru.trace l = 0 ∧ run c l = runGo c 0 l := by
  rcases run_cases c l with ⟨a, b, d⟩ | ⟨a, a2, b, d⟩ | ⟨a, a2, b, d⟩
  · exact absurd (d ▸ e) a
  · exact absurd (d ▸ e) a2
  · exact ⟨a, a2, b⟩
structure RInv (c cc : DHalls) (l : List Int) (n : Int) (k : Nat) : Prop where
  ok : Ok cc
  key : ∀ x ∈ l, Lru.okKey x = true
  n0 : 0 ≤ n
  n1 : n ≤ (k : Int)
  le : k ≤ l.length
  go : runGo cc n (l.drop k) = runGo c 0 l
theorem RInv.start {c : DHalls} {l : List Int} (h : Ok c) (hk : ∀ x ∈ l, Lru.okKey x = true) : RInv c c l 0 0 := ⟨h, hk, Int.le_refl _, Int.le_refl _, Nat.zero_le _, rfl⟩
theorem RInv.start' {c : DHalls} {l : List Int} (h : check c = 0) (hk : Lru.trace l = 0) : RInv c c l 0 0 := RInv.start (ok_of h) (Lru.trace_ok.1 hk).2
theorem RInv.hit {c cc : DHalls} {l : List Int} {n : Int} {k : Nat} (h : RInv c cc l n k) (hk : k < l.length) (ht : (Seg.touch cc l[k]).2.1 = true) : RInv c (Seg.touch cc l[k]).1 l (n + 1) (k + 1) := by
  obtain ⟨g1, g0, g2, g3, g4, g5⟩ := h
  rw [List.drop_eq_getElem_cons hk, runGo, if_pos ht] at g5
  exact ⟨g1.touch (g0 _ (List.getElem_mem hk)), g0, by omega, by omega, hk, g5⟩
theorem RInv.miss {c cc : DHalls} {l : List Int} {n : Int} {k : Nat} (h : RInv c cc l n k) (hk : k < l.length) (ht : (Seg.touch cc l[k]).2.1 = false) : RInv c (Seg.touch cc l[k]).1 l n (k + 1) := by
  obtain ⟨g1, g0, g2, g3, g4, g5⟩ := h
  rw [List.drop_eq_getElem_cons hk, runGo, if_neg (by simp [ht])] at g5
  exact ⟨g1.touch (g0 _ (List.getElem_mem hk)), g0, by omega, by omega, hk, g5⟩
theorem RInv.done {c cc : DHalls} {l : List Int} {n : Int} {k : Nat} (h : RInv c cc l n k) (hk : (l.length : Int) ≤ k) : runGo c 0 l = (cc, n) := by
  rw [← h.go, List.drop_of_length_le (by omega)]; rfl
theorem Ok.runGo {l : List Int} : ∀ {c : DHalls} {n : Int}, Ok c → (∀ x ∈ l, Lru.okKey x = true) → Ok (runGo c n l).1 := by
  induction l with
  | nil => intro c n h _; exact h
  | cons k l ih => intro c n h hk; exact ih (h.touch (hk k (by simp))) (fun x hx => hk x (by simp [hx]))
theorem runGo_append {l m : List Int} : ∀ {c : DHalls} {n : Int}, Seg.runGo c n (l ++ m) = Seg.runGo (Seg.runGo c n l).1 (Seg.runGo c n l).2 m := by
  induction l with
  | nil => intro c n; rfl
  | cons k l ih => intro c n; rw [List.cons_append, Seg.runGo, ih]; rfl
theorem runGo_add {l : List Int} : ∀ {c : DHalls} {n : Int}, Seg.runGo c n l = ((Seg.runGo c 0 l).1, n + (Seg.runGo c 0 l).2) := by
  induction l with
  | nil => intro c n; simp [Seg.runGo]
  | cons k l ih =>
    intro c n
    rw [Seg.runGo, ih, Seg.runGo, ih (n := if (Seg.touch c k).2.1 = true then 0 + 1 else 0)]
    split <;> simp <;> omega
theorem run_n (l : List Int) : ∀ (c : DHalls), 0 ≤ (Seg.runGo c 0 l).2 ∧ (Seg.runGo c 0 l).2 ≤ l.length := by
  induction l with
  | nil => intro c; simp [Seg.runGo]
  | cons k l ih =>
    intro c
    rw [Seg.runGo, runGo_add]
    have := ih (touch c k).1
    split <;> simp <;> omega
theorem run_small {c : DHalls} {l : List Int} (h : runErr c l = 0) : l.length ≤ 200 := (Lru.trace_ok.1 (run_ok h).2.1).1
theorem run_oks {c : DHalls} {l : List Int} (h : runErr c l = 0) : Ok (run c l).1 := by
  obtain ⟨a, b, e⟩ := run_ok h
  rw [e]; exact (ok_of a).runGo (Lru.trace_ok.1 b).2
theorem parts_err {c : DHalls} {l m : List Int} (h : runErr c l = 0) : runErr (run c l).1 m = runErr c (l ++ m) ∨ runErr c (l ++ m) = 2 := by
  have ho := run_oks h
  obtain ⟨a1, a2, a3⟩ := run_ok h
  obtain ⟨t1, t2⟩ := Lru.trace_ok.1 a2
  have e1 : runErr (run c l).1 m = Lru.trace m := by unfold runErr; rw [if_pos (check_ok.2 ho)]
  have e2 : runErr c (l ++ m) = Lru.trace (l ++ m) := by unfold runErr; rw [if_pos a1]
  rw [e1, e2]
  by_cases g : 200 < (l ++ m).length
  · right; unfold Lru.trace; rw [if_pos g]
  · left
    have g2 : ¬ 200 < m.length := by rw [List.length_append] at g; omega
    have g3 : (l ++ m).any (fun k => !Lru.okKey k) = m.any (fun k => !Lru.okKey k) := by
      have : l.any (fun k => !Lru.okKey k) = false := List.any_eq_false.2 fun k hk => by simp [t2 k hk]
      rw [List.any_append, this, Bool.false_or]
    unfold Lru.trace; rw [if_neg g, if_neg g2, g3]
theorem parts_ok {c : DHalls} {l m : List Int} (h : runErr c l = 0) (h2 : runErr (run c l).1 m = 0) (h3 : runErr c (l ++ m) = 0) :
    (run (run c l).1 m).1 = (run c (l ++ m)).1 ∧ (run c (l ++ m)).2 = (run c l).2 + (run (run c l).1 m).2 ∧ 0 ≤ (run c l).2 ∧ (run c l).2 ≤ 200 ∧ 0 ≤ (run (run c l).1 m).2 ∧ (run (run c l).1 m).2 ≤ 200 := by
  obtain ⟨a1, a2, a3⟩ := run_ok h
  obtain ⟨b1, b2, b3⟩ := run_ok h2
  obtain ⟨c1, c2, c3⟩ := run_ok h3
  have n1 := run_n l c
  have n2 := run_n m (run c l).1
  have t1 := (Lru.trace_ok.1 a2).1
  have t2 := (Lru.trace_ok.1 b2).1
  have e := runGo_append (l := l) (m := m) (c := c) (n := 0)
  rw [runGo_add (l := m)] at e
  rw [b3, c3, e, a3] at *
  exact ⟨rfl, rfl, by omega, by omega, by omega, by omega⟩
theorem parts_bool2 {c : DHalls} {l m : List Int} (h : runErr c l = 0) : (runErr (run c l).1 m == runErr c ([] ++ l ++ m) || runErr c ([] ++ l ++ m) == 2) = true := by
  rcases parts_err (l := l) (m := m) h with e | e
  · simp only [List.nil_append]; simp [e]
  · simp only [List.nil_append]; simp [e]

/-! ### the check -/
theorem chk1 {h : DHalls} (e : Lru.okRoom h.first = false ∨ Lru.okRoom h.second = false) : 3 = check h := by unfold check; rw [if_pos e]
theorem chk2 {h : DHalls} (e : Lru.okRoom h.first = true ∧ Lru.okRoom h.second = true) (e2 : h.first < (h.young.length : Int) ∨ h.second < (h.old.length : Int)) : 2 = check h := by unfold check; rw [if_neg (by simp [e]), if_pos e2]
theorem chk3 {h : DHalls} (e : Lru.okRoom h.first = true ∧ Lru.okRoom h.second = true) (e2 : (h.young.length : Int) ≤ h.first ∧ (h.old.length : Int) ≤ h.second) : Lru.keys (h.young ++ h.old) = check h := by unfold check; rw [if_neg (by simp [e]), if_neg (by omega)]
theorem flat1 {c : DHalls} (h : check c ≠ 0) : flat c = [] := if_neg h
theorem flat2 {c : DHalls} (h : check c = 0) : flat c = c.young ++ c.old := if_pos h
theorem ins0 (l : List Int) (k : Int) : l.take (0 : Int).toNat ++ [k] ++ l.drop (0 : Int).toNat = k :: l := rfl
theorem min_len (l : List Int) (k room : Int) : (min ((l.take (0 : Int).toNat ++ [k] ++ l.drop (0 : Int).toNat).length : Int) room).toNat = min room.toNat (k :: l).length := by
  rw [ins0]; omega
theorem cut_a (l : List Int) (k room : Int) : (k :: l).take (min room.toNat (k :: l).length) = (k :: l).take room.toNat := Lru.take_min _ _
theorem cut_b (l : List Int) (k room : Int) : (k :: l).drop (min room.toNat (k :: l).length) = (k :: l).drop room.toNat := Lru.drop_min _ _
/-- a touch, case by case -/
theorem touch_old {b : DHalls} {key : Int} (h : key ∈ b.old) (hn : (b.young ++ b.old).Nodup) : touch b key = (⟨b.first, b.second, b.young, (key :: b.old.erase key).take b.second.toNat⟩, true, (key :: b.old.erase key).drop b.second.toNat) := by
  have : key ∉ b.young := fun h2 => (List.nodup_append.1 hn).2.2 key h2 key h rfl
  unfold touch; rw [if_pos (.inl h), List.erase_of_not_mem this]
theorem touch_young {b : DHalls} {key : Int} (h0 : key ∉ b.old) (h : key ∈ b.young) : touch b key = (⟨b.first, b.second, b.young.erase key, (key :: b.old).take b.second.toNat⟩, true, (key :: b.old).drop b.second.toNat) := by
  unfold touch; rw [if_pos (.inr h), List.erase_of_not_mem h0]
theorem touch_new {b : DHalls} {key : Int} (h0 : key ∉ b.old) (h : key ∉ b.young) : touch b key = (⟨b.first, b.second, (key :: b.young).take b.first.toNat, b.old⟩, false, (key :: b.young).drop b.first.toNat) := by
  unfold touch; rw [if_neg (by simp [h0, h])]
/-! ### butKey -/
def pre (first : Int) : List Int := if 0 ≤ first then [first] else []
def but (l : List Int) (key first : Int) : List Int := pre first ++ l.filter fun x => !(x == key)
structure BI (l : List Int) (key first room : Int) (out gone : List Int) (i : Nat) : Prop where
  le : i ≤ l.length
  out : out = (but (l.take i) key first).take room.toNat
  gone : gone = (but (l.take i) key first).drop room.toNat
theorem BI.start {l : List Int} {key first room : Int} (hr : 1 ≤ room) : BI l key first room (pre first) [] 0 := by
  have h : (pre first).length ≤ 1 := by unfold pre; split <;> simp
  refine ⟨Nat.zero_le _, ?_, ?_⟩
  · simp only [but, List.take_zero, List.filter_nil, List.append_nil]; rw [List.take_of_length_le (by omega)]
  · simp only [but, List.take_zero, List.filter_nil, List.append_nil]; rw [List.drop_of_length_le (by omega)]
theorem BI.start1 {l : List Int} {key first room : Int} (hr : 1 ≤ room) (h : 0 ≤ first) : BI l key first room [first] [] 0 := by
  have := BI.start (l := l) (key := key) (first := first) hr; rwa [show pre first = [first] from if_pos h] at this
theorem BI.start2 {l : List Int} {key first room : Int} (hr : 1 ≤ room) (h : first < 0) : BI l key first room [] [] 0 := by
  have := BI.start (l := l) (key := key) (first := first) hr; rwa [show pre first = [] from if_neg (by omega)] at this
theorem but_skip {l : List Int} {key first : Int} {i : Nat} (hi : i < l.length) (hx : l[i] = key) : but (l.take (i + 1)) key first = but (l.take i) key first := by
  unfold but; rw [List.take_succ_eq_append_getElem hi, List.filter_append]; simp [hx]
theorem but_add {l : List Int} {key first : Int} {i : Nat} (hi : i < l.length) (hx : l[i] ≠ key) : but (l.take (i + 1)) key first = but (l.take i) key first ++ [l[i]] := by
  unfold but; rw [List.take_succ_eq_append_getElem hi, List.filter_append]; simp [hx]
theorem BI.skip {l out gone : List Int} {key first room : Int} {i : Nat} (h : BI l key first room out gone i) (hi : i < l.length) (hx : l[i] = key) : BI l key first room out gone (i + 1) := ⟨by omega, by rw [but_skip hi hx]; exact h.out, by rw [but_skip hi hx]; exact h.gone⟩
theorem BI.add {l out gone : List Int} {key first room : Int} {i : Nat} (h : BI l key first room out gone i) (hi : i < l.length) (hx : l[i] ≠ key) (hl : (out.length : Int) < room) : BI l key first room (out ++ [l[i]]) gone (i + 1) := by
  have hb : (but (l.take i) key first).length < room.toNat := by have h1 := congrArg List.length h.out; rw [List.length_take] at h1; omega
  refine ⟨by omega, ?_, ?_⟩
  · rw [but_add hi hx, h.out, List.take_of_length_le (l := but (l.take i) key first) (by omega), List.take_of_length_le (l := but (l.take i) key first ++ [l[i]]) (by rw [List.length_append, List.length_singleton]; omega)]
  · rw [but_add hi hx, h.gone, List.drop_of_length_le (l := but (l.take i) key first) (by omega), List.drop_of_length_le (l := but (l.take i) key first ++ [l[i]]) (by rw [List.length_append, List.length_singleton]; omega)]
theorem BI.drop {l out gone : List Int} {key first room : Int} {i : Nat} (h : BI l key first room out gone i) (hi : i < l.length) (hx : l[i] ≠ key) (hr : 1 ≤ room) (hl : room ≤ (out.length : Int)) : BI l key first room out (gone ++ [l[i]]) (i + 1) := by
  have hb : room.toNat ≤ (but (l.take i) key first).length := by have h1 := congrArg List.length h.out; rw [List.length_take] at h1; omega
  refine ⟨by omega, ?_, ?_⟩
  · rw [but_add hi hx, h.out, List.take_append_of_le_length hb]
  · rw [but_add hi hx, h.gone, List.drop_append_of_le_length hb]
theorem BI.len {l out gone : List Int} {key first room : Int} {i : Nat} (h : BI l key first room out gone i) : out.length + gone.length ≤ i + 1 := by
  have h1 := congrArg List.length h.out; have h2 := congrArg List.length h.gone
  rw [List.length_take] at h1; rw [List.length_drop] at h2
  have h3 : (but (l.take i) key first).length ≤ i + 1 := by
    unfold but; rw [List.length_append]
    have h4 := List.length_filter_le (fun x => !(x == key)) (l.take i); rw [List.length_take] at h4
    have h5 : (pre first).length ≤ 1 := by unfold pre; split <;> simp
    omega
  omega
theorem BI.done {l out gone : List Int} {key first room : Int} {i : Nat} (h : BI l key first room out gone i) (hi : l.length ≤ i) : out = (but l key first).take room.toNat ∧ gone = (but l key first).drop room.toNat := by
  have := h.out; have := h.gone; rw [List.take_of_length_le hi] at *; exact ⟨by assumption, by assumption⟩
theorem but_is {l : List Int} (hn : l.Nodup) {key first : Int} : but l key first = pre first ++ l.erase key := by unfold but; rw [Lru.filter_erase hn]
theorem Ok.halves {b : DHalls} (h : Ok b) : b.young.Nodup ∧ b.old.Nodup := ⟨(List.nodup_append.1 h.once).1, (List.nodup_append.1 h.once).2.1⟩
theorem ref_hit {b : DHalls} {key : Int} (h : Ok b) (hk : Lru.okKey key = true) (hm : Ref.hasInt b.young key = true ∨ Ref.hasInt b.old key = true) : touch b key = (⟨b.first, b.second, (but b.young key (-1)).take b.first.toNat, (but b.old key key).take b.second.toNat⟩, true, (but b.old key key).drop b.second.toNat) := by
  have hm2 : key ∈ b.old ∨ key ∈ b.young := by simpa [Ref.hasInt, or_comm] using hm
  have h0 := (Lru.key_ok hk).1
  have e := List.length_erase_le (a := key) (l := b.young); have h1 := h.len1; have h2 := h.first
  unfold touch; rw [if_pos hm2, but_is h.halves.1, but_is h.halves.2]
  simp only [pre, if_pos h0, if_neg (show ¬ (0 : Int) ≤ -1 by decide), List.nil_append, List.singleton_append]
  rw [List.take_of_length_le (l := b.young.erase key) (by omega)]
theorem ref_miss {b : DHalls} {key : Int} (hk : Lru.okKey key = true) (hm : Ref.hasInt b.young key = false ∧ Ref.hasInt b.old key = false) (h : Ok b) : touch b key = (⟨b.first, b.second, (but b.young key key).take b.first.toNat, b.old⟩, false, (but b.young key key).drop b.first.toNat) := by
  have hm2 : key ∉ b.old ∧ key ∉ b.young := by simpa [Ref.hasInt, and_comm] using hm
  have h0 := (Lru.key_ok hk).1
  rw [touch_new hm2.1 hm2.2, but_is h.halves.1, List.erase_of_not_mem hm2.2]
  simp only [pre, if_pos h0, List.singleton_append]
theorem same_halls {a b : DHalls} : a = b ↔ a.first = b.first ∧ a.second = b.second ∧ a.young = b.young ∧ a.old = b.old := by
  cases a; cases b; simp
/-! ### what the laws say -/
theorem runGo_ge {l : List Int} : ∀ {c : DHalls} {n : Int}, n ≤ (Seg.runGo c n l).2 := by
  induction l with
  | nil => intro c n; exact Int.le_refl _
  | cons k l ih =>
    intro c n; rw [Seg.runGo]
    have := ih (c := (touch c k).1) (n := if (touch c k).2.1 = true then n + 1 else n)
    split at this <;> rename_i h <;> simp only [h, if_true, if_false, Bool.false_eq_true] <;> omega
theorem scan {l : List Int} : ∀ {c : DHalls} {n : Int}, (Seg.runGo c n l).2 ≤ n → (Seg.runGo c n l).1.old = c.old := by
  induction l with
  | nil => intro c n _; rfl
  | cons k l ih =>
    intro c n h
    rw [Seg.runGo] at h ⊢
    cases ht : (touch c k).2.1
    · rw [ht] at h
      simp only [Bool.false_eq_true, if_false] at h ⊢
      rw [ih h]
      unfold touch at ht ⊢
      split at ht
      · cases ht
      · rename_i h2; rw [if_neg h2]
    · rw [ht] at h
      simp only [if_true] at h
      have := runGo_ge (l := l) (c := (touch c k).1) (n := n + 1); omega
theorem runGo_first {l : List Int} : ∀ {c : DHalls} {n : Int}, (Seg.runGo c n l).1.first = c.first := by
  induction l with
  | nil => intro c n; rfl
  | cons k l ih => intro c n; rw [Seg.runGo, ih]; unfold touch; split <;> rfl
theorem scan_law {h : DHalls} {l : List Int} (e : runErr h l = 0) (e2 : (run h l).2 ≤ 0) : (run h l).1.old = h.old ∧ ((run h l).1.young.length : Int) ≤ h.first ∧ check (run h l).1 = 0 := by
  obtain ⟨a1, a2, a3⟩ := run_ok e
  have ho := run_oks e
  refine ⟨?_, ?_, check_ok.2 ho⟩
  · rw [a3] at e2 ⊢; exact scan e2
  · have := ho.len1; rw [a3] at this ⊢; rwa [runGo_first] at this
theorem run_bad0 {h : DHalls} {l : List Int} (e : runErr h l ≠ 0) : run h l = (zero, 0) := run_bad e
/-- all keys that were there, and the one that is touched: cached, or gone -/
theorem kept {b : DHalls} (h : Ok b) {key : Int} : ∃ N : List Int, N.Nodup ∧ (((touch b key).1.young ++ (touch b key).1.old) ++ (touch b key).2.2).Perm N ∧ (∀ x ∈ b.young ++ b.old, x ∈ N) ∧ (N.length : Int) = (b.young ++ b.old).length + (if (touch b key).2.1 then 0 else 1) ∧ key ∈ (touch b key).1.young ++ (touch b key).1.old ∧ (touch b key).2.1 = decide (key ∈ b.young ++ b.old) ∧ (touch b key).2.2.length ≤ 1 := by
  have hn := h.once
  have hs := h.second; have hf := h.first; have hl1 := h.len1; have hl2 := h.len2
  obtain ⟨s, es⟩ : ∃ s, b.second.toNat = s + 1 := ⟨b.second.toNat - 1, by omega⟩
  obtain ⟨f, ef⟩ : ∃ f, b.first.toNat = f + 1 := ⟨b.first.toNat - 1, by omega⟩
  by_cases ho : key ∈ b.old
  · rw [touch_old ho hn]
    have hp := List.perm_cons_erase ho
    refine ⟨b.young ++ b.old, hn, ?_, fun x hx => hx, by simp, ?_, by simp [ho], ?_⟩
    · simp only [List.append_assoc, List.take_append_drop]; exact List.Perm.append_left _ hp.symm
    · simp only; rw [es, List.take_succ_cons]; simp
    · have := List.length_erase_le (a := key) (l := b.old); simp only [List.length_drop, List.length_cons]; omega
  · by_cases hy : key ∈ b.young
    · rw [touch_young ho hy]
      have hp := List.perm_cons_erase hy
      refine ⟨b.young ++ b.old, hn, ?_, fun x hx => hx, by simp, ?_, by simp [hy], ?_⟩
      · simp only [List.append_assoc, List.take_append_drop]
        exact (List.perm_middle.trans (List.Perm.append_right b.old hp.symm : (key :: (b.young.erase key) ++ b.old).Perm _))
      · simp only; rw [es, List.take_succ_cons]; simp
      · simp only [List.length_drop, List.length_cons]; omega
    · rw [touch_new ho hy]
      refine ⟨key :: (b.young ++ b.old), List.nodup_cons.2 ⟨by simp [ho, hy], hn⟩, ?_, fun x hx => by simp at hx ⊢; right; exact hx, by simp, ?_, by simp [ho, hy], ?_⟩
      · simp only
        have h1 : (((key :: b.young).take b.first.toNat ++ b.old) ++ (key :: b.young).drop b.first.toNat).Perm (((key :: b.young).take b.first.toNat ++ (key :: b.young).drop b.first.toNat) ++ b.old) := by
          rw [List.append_assoc, List.append_assoc]; exact List.Perm.append_left _ List.perm_append_comm
        rw [List.take_append_drop] at h1
        exact h1
      · simp only; rw [ef, List.take_succ_cons]; simp
      · simp only [List.length_drop, List.length_cons]; omega
theorem keeps_law {h : DHalls} {key : Int} (e : accessErr h key = 0) : check h = 0 ∧ check (access h key).1 = 0 ∧ (access h key).2.2.length ≤ 1 ∧ (access h key).2.1 = Ref.hasInt (flat h) key ∧ Ref.hasInt (flat (access h key).1) key = true ∧
    (∀ x ∈ flat h, Ref.hasInt (flat (access h key).1) x ≠ Ref.hasInt (access h key).2.2 x) ∧ ((flat (access h key).1).length : Int) = (flat h).length + (if (access h key).2.1 then 0 else 1) - (access h key).2.2.length := by
  obtain ⟨h1, h2, h3⟩ := acc_ok e
  have ho := ok_of h1
  have ho2 := ho.touch h2
  obtain ⟨N, n1, n2, n3, n4, n5, n6, n7⟩ := kept ho (key := key)
  rw [h3, flat2 h1, flat2 (check_ok.2 ho2)]
  have n8 := n2.length_eq
  rw [List.length_append] at n8
  refine ⟨h1, check_ok.2 ho2, n7, n6, by simpa [Ref.hasInt] using n5, fun x hx hb => ?_, by rw [← n4] ; omega⟩
  have hx2 := (n2.mem_iff (a := x)).2 (n3 x hx)
  have hnd := (List.nodup_append.1 (n2.nodup_iff.2 n1)).2.2
  simp only [Ref.hasInt] at hb
  rcases List.mem_append.1 hx2 with h9 | h9
  · rw [decide_eq_true h9] at hb
    exact hnd x h9 x (of_decide_eq_true hb.symm) rfl
  · rw [decide_eq_true h9] at hb
    exact hnd x (of_decide_eq_true hb) x h9 rfl
theorem keeps_bad {h : DHalls} {key : Int} (e : accessErr h key ≠ 0) : access h key = (zero, false, []) := acc_bad e
theorem twice {b : DHalls} (h : Ok b) {key : Int} (hk : Lru.okKey key = true) : ∃ t, (Seg.runGo b 0 [key, key]).1.old = key :: t ∧ key ∉ (Seg.runGo b 0 [key, key]).1.young := by
  have h1 := h.touch hk
  obtain ⟨N, _, _, _, _, n5, _⟩ := kept h (key := key)
  have hs := h1.second
  obtain ⟨s, es⟩ : ∃ s, (touch b key).1.second.toNat = s + 1 := ⟨(touch b key).1.second.toNat - 1, by omega⟩
  have e : (Seg.runGo b 0 [key, key]).1 = (touch (touch b key).1 key).1 := rfl
  rw [e]
  rcases List.mem_append.1 n5 with hy | ho
  · have hno : key ∉ (touch b key).1.old := fun h9 => (List.nodup_append.1 h1.once).2.2 key hy key h9 rfl
    rw [touch_young hno hy]
    refine ⟨_, by simp only; rw [es, List.take_succ_cons], ?_⟩
    exact fun h9 => absurd rfl (((List.nodup_append.1 h1.once).1.mem_erase_iff).1 h9).1
  · rw [touch_old ho h1.once]
    refine ⟨_, by simp only; rw [es, List.take_succ_cons], ?_⟩
    exact fun h9 => (List.nodup_append.1 h1.once).2.2 key h9 key ho rfl
theorem twice_law {b : DHalls} {key : Int} (e : runErr b [key, key] = 0) : 0 < (run b [key, key]).1.old.length ∧ (run b [key, key]).1.old.getD 0 default = key ∧ Ref.hasInt (run b [key, key]).1.young key = false := by
  obtain ⟨a1, a2, a3⟩ := run_ok e
  obtain ⟨t, h1, h2⟩ := twice (ok_of a1) ((Lru.trace_ok.1 a2).2 key (by simp))
  rw [a3]
  refine ⟨by rw [h1]; simp, by rw [h1]; rfl, by simpa [Ref.hasInt] using h2⟩
theorem parts_bool3 {c : DHalls} {l m : List Int} (h : runErr c l = 0) (h2 : runErr (run c l).1 m ≠ 0 ∨ runErr c (l ++ m) ≠ 0) : (runErr (run c l).1 m == runErr c (l ++ m) || runErr c (l ++ m) == 2) = true := by
  rcases parts_err (l := l) (m := m) h with e | e <;> simp [e]
theorem parts_end {b z c : DHalls} {n s e key : Int} (p1 : b = z) (p2 : n = s) (htw : e = 0 → 0 < c.old.length ∧ c.old.getD 0 default = key ∧ Ref.hasInt c.young key = false) :
    ((decide (b = z) && (n == s)) && ((e != 0) || ((decide ((0 : Int) < (c.old.length : Int)) && (c.old.getD 0 default == key)) && (!(Ref.hasInt c.young key))))) = true := by
  rw [decide_eq_true p1, beq_iff_eq.2 p2]
  by_cases h9 : e = 0
  · obtain ⟨w1, w2, w3⟩ := htw h9
    rw [w3, beq_iff_eq.2 w2, decide_eq_true (by omega : (0 : Int) < (c.old.length : Int))]; simp
  · rw [bne_iff_ne.2 h9]; rfl
end Go.Sx.Seg

/- Insertion sort, as the library does it: the plain function, its loops, and what it gives. -/
namespace Go.Sx.St
section
variable {α : Type}
def insR (f : α → α → Int) (x : α) : List α → List α
  | [] => [x]
  | p :: r => if f x p < 0 then p :: insR f x r else x :: p :: r
def insF (f : α → α → Int) (P : List α) (x : α) : List α := (insR f x P.reverse).reverse
def isort (f : α → α → Int) (l : List α) : List α := l.foldl (insF f) []
theorem insR_perm (f : α → α → Int) (x : α) : ∀ l, (insR f x l).Perm (x :: l)
  | [] => List.Perm.refl _
  | p :: r => by
    simp only [insR]
    split
    · exact ((insR_perm f x r).cons p).trans (List.Perm.swap x p r)
    · exact List.Perm.refl _
theorem insF_perm (f : α → α → Int) (P : List α) (x : α) : (insF f P x).Perm (x :: P) :=
  (List.reverse_perm _).trans ((insR_perm f x _).trans ((List.reverse_perm P).cons x))
theorem rev_ind {p : List α → Prop} (h0 : p []) (h1 : ∀ l x, p l → p (l ++ [x])) (l : List α) : p l := by
  have h : ∀ m : List α, p m.reverse := by
    intro m
    induction m with
    | nil => exact h0
    | cons x m ih => rw [List.reverse_cons]; exact h1 _ _ ih
  have := h l.reverse
  rwa [List.reverse_reverse] at this
theorem isort_snoc (f : α → α → Int) (l : List α) (x : α) : isort f (l ++ [x]) = insF f (isort f l) x := by simp [isort]
theorem isort_perm (f : α → α → Int) (l : List α) : (isort f l).Perm l := by
  refine rev_ind (p := fun l => (isort f l).Perm l) (List.Perm.refl _) (fun l x ih => ?_) l
  · show (isort f (l ++ [x])).Perm (l ++ [x])
    rw [isort_snoc]
    exact (insF_perm f _ x).trans ((ih.cons x).trans (List.perm_append_singleton x l).symm)
theorem isort_len (f : α → α → Int) (l : List α) : (isort f l).length = l.length := (isort_perm f l).length_eq
theorem ite_len (f : α → α → Int) (l : List α) (a : Int) : (if a = 0 then isort f l else l).length = l.length := by split; exact isort_len f l; rfl
theorem isort_mem {f : α → α → Int} {l : List α} {x : α} : x ∈ isort f l ↔ x ∈ l := (isort_perm f l).mem_iff
theorem isort_next (f : α → α → Int) {l : List α} {i : Nat} (h : i < l.length) : isort f (l.take (i + 1)) = insF f (isort f (l.take i)) l[i] := by
  rw [List.take_succ_eq_append_getElem h, isort_snoc]
theorem insR_at {f : α → α → Int} {x : α} : ∀ {r : List α} {k : Nat}, k ≤ r.length → (∀ p ∈ r.take k, f x p < 0) → (∀ (h : k < r.length), ¬ f x r[k] < 0) → insR f x r = r.take k ++ x :: r.drop k
  | [], k, _, _, _ => by simp [insR]
  | p :: r, 0, _, _, h => by simp only [insR]; rw [if_neg (show ¬ f x p < 0 from h (by simp))]; rfl
  | p :: r, k + 1, hk, h1, h2 => by
    simp only [insR]
    rw [if_pos (h1 p (by simp)), insR_at (r := r) (k := k) (by simpa using hk) (fun q hq => h1 q (by simp [hq])) (fun h => by have := h2 (by simpa using h); simpa using this)]
    simp
theorem insF_at {f : α → α → Int} {x : α} {P : List α} {j : Nat} (hj : j ≤ P.length) (h1 : ∀ p ∈ P.drop j, f x p < 0) (h2 : ∀ (h : 0 < j), ¬ f x (P[j - 1]'(by omega)) < 0) : insF f P x = P.take j ++ x :: P.drop j := by
  unfold insF
  rw [insR_at (k := P.length - j) (by simp) (fun p hp => h1 p (by
    rw [List.take_reverse] at hp
    rw [show P.length - (P.length - j) = j by omega] at hp
    simpa using hp)) (fun h => by
    rw [List.getElem_reverse]
    have := h2 (by simp at h; omega)
    have e : P.length - 1 - (P.length - j) = j - 1 := by omega
    simpa only [e] using this)]
  rw [List.take_reverse, List.drop_reverse, show P.length - (P.length - j) = j by omega]
  simp
/-! ### the order -/
theorem insR_sorted {f : α → α → Int} {x : α} {R : α → α → Prop} (ht : ∀ a b c, R a b → R b c → R a c) : ∀ {r : List α}, (∀ p ∈ r, f x p < 0 → R x p) → (∀ p ∈ r, ¬ f x p < 0 → R p x) → r.Pairwise (fun a b => R b a) → (insR f x r).Pairwise (fun a b => R b a)
  | [], _, _, _ => by simp [insR]
  | p :: r, h1, h2, hp => by
    obtain ⟨hp1, hp2⟩ := List.pairwise_cons.1 hp
    simp only [insR]
    split
    · rename_i hn
      refine List.pairwise_cons.2 ⟨fun y hy => ?_, insR_sorted (r := r) ht (fun q hq => h1 q (by simp [hq])) (fun q hq => h2 q (by simp [hq])) hp2⟩
      rcases List.mem_cons.1 ((insR_perm f x r).mem_iff.1 hy) with rfl | hy
      · exact h1 p (by simp) hn
      · exact hp1 y hy
    · rename_i hn
      refine List.pairwise_cons.2 ⟨fun y hy => ?_, hp⟩
      have hpx := h2 p (by simp) hn
      rcases List.mem_cons.1 hy with rfl | hy
      · exact hpx
      · exact ht _ _ _ (hp1 y hy) hpx
theorem insF_sorted {f : α → α → Int} {x : α} {R : α → α → Prop} (ht : ∀ a b c, R a b → R b c → R a c) {P : List α} (h1 : ∀ p ∈ P, f x p < 0 → R x p) (h2 : ∀ p ∈ P, ¬ f x p < 0 → R p x) (hp : P.Pairwise R) : (insF f P x).Pairwise R := by
  unfold insF
  rw [List.pairwise_reverse]
  exact insR_sorted ht (fun p hp => h1 p (by simpa using hp)) (fun p hp => h2 p (by simpa using hp)) (List.pairwise_reverse.2 hp)
/-- O: the order in which the elements stand ahead of the sorting -/
theorem isort_sorted {f : α → α → Int} {R O : α → α → Prop} (ht : ∀ a b c, R a b → R b c → R a c) (h1 : ∀ {x p}, O p x → f x p < 0 → R x p) (h2 : ∀ {x p}, O p x → ¬ f x p < 0 → R p x) (l : List α) (hO : l.Pairwise O) : (isort f l).Pairwise R := by
  revert hO
  refine rev_ind (p := fun l => l.Pairwise O → (isort f l).Pairwise R) (fun _ => List.Pairwise.nil) (fun l x ih hO => ?_) l
  · rw [isort_snoc]
    obtain ⟨ho1, _, ho2⟩ := List.pairwise_append.1 hO
    exact insF_sorted ht (fun p hp => h1 (ho2 p (isort_mem.1 hp) x (by simp))) (fun p hp => h2 (ho2 p (isort_mem.1 hp) x (by simp))) (ih ho1)
/-! ### the loops -/
structure OI (f : α → α → Int) (l : List α) (a : Int) (ls : List α) (i : Int) : Prop where
  lo : a + 1 ≤ i
  hi : i ≤ l.length ∨ i = a + 1
  eq : (a = 0 ∧ ls = isort f (l.take i.toNat) ++ l.drop i.toNat) ∨ (a = l.length ∧ ls = l)
theorem OI.len {f : α → α → Int} {l ls : List α} {a i : Int} (h : OI f l a ls i) : ls.length = l.length := by
  rcases h.eq with ⟨_, e⟩ | ⟨_, e⟩ <;> rw [e]
  rw [List.length_append, isort_len, List.length_take, List.length_drop]; omega
theorem OI.mem {f : α → α → Int} {l ls : List α} {a i : Int} (h : OI f l a ls i) : ls.Perm l := by
  rcases h.eq with ⟨_, e⟩ | ⟨_, e⟩ <;> rw [e]
  exact ((isort_perm f _).append_right _).trans (by rw [List.take_append_drop])
theorem OI.start {f : α → α → Int} {l : List α} {a : Int} (h : a = 0 ∨ a = l.length) : OI f l a l (a + 1) :=
  ⟨Int.le_refl _, .inr rfl, by
    rcases h with h | h
    · left; subst h; refine ⟨rfl, ?_⟩
      show l = isort f (l.take 1) ++ l.drop 1
      match l with
      | [] => rfl
      | [x] => rfl
      | x :: y :: r => rfl
    · right; exact ⟨h, rfl⟩⟩
theorem OI.done {f : α → α → Int} {l ls : List α} {a i : Int} (h : OI f l a ls i) (hi : (l.length : Int) ≤ i) : ls = if a = 0 then isort f l else l := by
  rcases h.eq with ⟨e1, e⟩ | ⟨e1, e⟩
  · rw [if_pos e1, e, List.take_of_length_le (by omega), List.drop_of_length_le (by omega), List.append_nil]
  · rw [e]; split
    · match l with
      | [] => rfl
      | x :: r => simp at e1; omega
    · rfl
theorem plen (f : α → α → Int) {l : List α} {i : Int} (h : 0 < i ∧ i < l.length) : (isort f (l.take i.toNat)).length = i.toNat := by
  rw [isort_len, List.length_take]; omega
theorem swap_mid (A B : List α) (p x : α) {j : Nat} (hj : j = A.length + 1) : ((A ++ p :: x :: B).set j p).set (j - 1) x = A ++ x :: p :: B := by
  subst hj
  rw [List.set_append_right _ _ (by omega), show A.length + 1 - A.length = 1 by omega, List.set_append_right _ _ (by omega), show A.length + 1 - 1 - A.length = 0 by omega]
  rfl
/-- blocks of twenty, at lists of at most twenty -/
inductive BI (f : α → α → Int) (l ls : List α) (a b : Int) : Prop where
  | first (h1 : a = 0) (h2 : b = 20) (h3 : ls = l) : BI f l ls a b
  | then_ (h1 : a = 20) (h2 : b = 40) (h4 : l.length = 20) (h3 : ls = isort f l) : BI f l ls a b
theorem BI.start {f : α → α → Int} {l : List α} : BI f l l 0 20 := .first rfl rfl rfl
theorem BI.len {f : α → α → Int} {l ls : List α} {a b : Int} (h : BI f l ls a b) : ls.length = l.length := by
  rcases h with ⟨_, _, rfl⟩ | ⟨_, _, _, rfl⟩
  · rfl
  · exact isort_len f l
theorem BI.cases {f : α → α → Int} {l ls : List α} {a b : Int} (h : BI f l ls a b) : (a = 0 ∧ b = 20) ∨ (a = 20 ∧ b = 40 ∧ (l.length : Int) = 20) := by
  rcases h with ⟨h1, h2, _⟩ | ⟨h1, h2, h3, _⟩
  · exact .inl ⟨h1, h2⟩
  · exact .inr ⟨h1, h2, by omega⟩
theorem BI.mem {f : α → α → Int} {l ls : List α} {a b : Int} (h : BI f l ls a b) {x : α} : x ∈ ls ↔ x ∈ l := by
  rcases h with ⟨_, _, rfl⟩ | ⟨_, _, _, rfl⟩
  · rfl
  · exact isort_mem
theorem BI.next {f : α → α → Int} {l ls : List α} {a b : Int} (h : BI f l ls a b) (hb : b ≤ 20 ∧ (l.length : Int) = 20) : BI f l (if a = 0 then isort f ls else ls) b (b + 20) := by
  rcases h with ⟨h1, h2, rfl⟩ | ⟨h1, h2, h3, rfl⟩
  · exact .then_ h2 (by omega) (by omega) (by rw [if_pos h1])
  · omega
theorem BI.done {f : α → α → Int} {l ls : List α} {a b : Int} (h : BI f l ls a b) : (if a = 0 then isort f ls else ls) = isort f l := by
  rcases h with ⟨h1, h2, rfl⟩ | ⟨h1, h2, h3, rfl⟩
  · rw [if_pos h1]
  · rw [if_neg (by omega)]
variable [Inhabited α]
structure II (f : α → α → Int) (l : List α) (a : Int) (ls : List α) (i j : Int) : Prop where
  a0 : a = 0
  ilt : 0 < i ∧ i < l.length
  jlo : 0 ≤ j
  jhi : j ≤ i
  eq : ls = (isort f (l.take i.toNat)).take j.toNat ++ (l.getD i.toNat default) :: (isort f (l.take i.toNat)).drop j.toNat ++ l.drop (i.toNat + 1)
  big : ∀ p ∈ (isort f (l.take i.toNat)).drop j.toNat, f (l.getD i.toNat default) p < 0
theorem II.len {f : α → α → Int} {l ls : List α} {a i j : Int} (h : II f l a ls i j) : ls.length = l.length := by
  have := plen f h.ilt; have := h.ilt; have := h.jlo; have := h.jhi
  rw [h.eq]; simp only [List.length_append, List.length_cons, List.length_take, List.length_drop]; omega
theorem II.start {f : α → α → Int} {l ls : List α} {a i : Int} (h : OI f l a ls i) (ha : 0 ≤ a) (hi : i < l.length) : II f l a ls i i := by
  have hlo := h.lo
  rcases h.eq with ⟨e1, e⟩ | ⟨e1, e⟩
  · refine ⟨e1, ⟨by omega, hi⟩, by omega, Int.le_refl _, ?_, ?_⟩
    · have hp := plen f (l := l) (i := i) ⟨by omega, hi⟩
      rw [e, List.take_of_length_le (l := isort f (l.take i.toNat)) (by omega), List.drop_of_length_le (l := isort f (l.take i.toNat)) (by omega), List.append_assoc]
      congr 1
      rw [List.drop_eq_getElem_cons (show i.toNat < l.length by omega), ← getd_at (show i.toNat < l.length by omega) default]
      rfl
    · rw [List.drop_of_length_le (by rw [plen f ⟨by omega, hi⟩]; exact Nat.le_refl _)]
      intro p hp; cases hp
  · omega
theorem II.perm {f : α → α → Int} {l ls : List α} {a i j : Int} (h : II f l a ls i j) : ls.Perm l := by
  have hi := h.ilt
  have e : l = l.take i.toNat ++ (l.getD i.toNat default) :: l.drop (i.toNat + 1) := by
    rw [← getd_at (show i.toNat < l.length by omega) default, ← List.drop_eq_getElem_cons (show i.toNat < l.length by omega), List.take_append_drop]
  have h1 : ls.Perm ((l.getD i.toNat default) :: (isort f (l.take i.toNat)) ++ l.drop (i.toNat + 1)) := by
    rw [h.eq]
    refine List.Perm.append_right _ ?_
    refine List.perm_middle.trans ?_
    rw [List.take_append_drop]
  refine h1.trans ?_
  refine (((isort_perm f (l.take i.toNat)).cons _).append_right _).trans ?_
  have h2 : ((l.getD i.toNat default) :: l.take i.toNat ++ l.drop (i.toNat + 1)).Perm (l.take i.toNat ++ (l.getD i.toNat default) :: l.drop (i.toNat + 1)) := by
    rw [List.cons_append]; exact List.perm_middle.symm
  rw [← e] at h2; exact h2
theorem II.x {f : α → α → Int} {l ls : List α} {a i j : Int} (h : II f l a ls i j) : ls.getD j.toNat default = l.getD i.toNat default := by
  have := plen f h.ilt; have := h.ilt; have := h.jlo; have := h.jhi
  rw [h.eq, List.getD_eq_getElem?_getD, List.append_assoc, List.getElem?_append_right (by rw [List.length_take]; omega)]
  rw [List.length_take, show j.toNat - min j.toNat (isort f (l.take i.toNat)).length = 0 by omega]
  rfl
theorem II.p {f : α → α → Int} {l ls : List α} {a i j : Int} (h : II f l a ls i j) (hj : 0 < j) : ls.getD (j - 1).toNat default = (isort f (l.take i.toNat)).getD (j.toNat - 1) default := by
  have := plen f h.ilt; have := h.ilt; have := h.jlo; have := h.jhi
  rw [h.eq, List.append_assoc, List.getD_eq_getElem?_getD, List.getElem?_append_left (by rw [List.length_take]; omega), List.getElem?_take, if_pos (by omega), List.getD_eq_getElem?_getD, show (j - 1).toNat = j.toNat - 1 by omega]
theorem II.next {f : α → α → Int} {l ls : List α} {a i j : Int} (h : II f l a ls i j) (hj : 0 < j) (hlt : f (ls.getD j.toNat default) (ls.getD (j - 1).toNat default) < 0) : II f l a ((ls.set j.toNat (ls.getD (j - 1).toNat default)).set (j - 1).toNat (ls.getD j.toNat default)) i (j - 1) := by
  have hpl := plen f h.ilt; have hil := h.ilt; have hjl := h.jlo; have hjh := h.jhi
  rw [h.x, h.p hj] at *
  have hdrop : (isort f (l.take i.toNat)).drop (j - 1).toNat = (isort f (l.take i.toNat)).getD (j.toNat - 1) default :: (isort f (l.take i.toNat)).drop j.toNat := by
    rw [show (j - 1).toNat = j.toNat - 1 by omega, List.drop_eq_getElem_cons (show j.toNat - 1 < _ by omega), ← getd_at (show j.toNat - 1 < (isort f (l.take i.toNat)).length by omega) default, show j.toNat - 1 + 1 = j.toNat by omega]
  have htake : (isort f (l.take i.toNat)).take j.toNat = (isort f (l.take i.toNat)).take (j - 1).toNat ++ [(isort f (l.take i.toNat)).getD (j.toNat - 1) default] := by
    rw [show j.toNat = (j - 1).toNat + 1 by omega, List.take_succ_eq_append_getElem (by omega), show (j - 1).toNat + 1 - 1 = (j - 1).toNat by omega, ← getd_at (show (j - 1).toNat < (isort f (l.take i.toNat)).length by omega) default]
  refine ⟨h.a0, hil, by omega, by omega, ?_, ?_⟩
  · rw [h.eq, htake, hdrop]
    simp only [List.append_assoc, List.singleton_append, List.cons_append, List.nil_append]
    have := swap_mid ((isort f (l.take i.toNat)).take (j - 1).toNat) ((isort f (l.take i.toNat)).drop j.toNat ++ l.drop (i.toNat + 1)) ((isort f (l.take i.toNat)).getD (j.toNat - 1) default) (l.getD i.toNat default) (j := j.toNat) (by rw [List.length_take]; omega)
    rw [show (j - 1).toNat = j.toNat - 1 by omega] at *
    exact this
  · rw [hdrop]
    intro p hp
    rcases List.mem_cons.1 hp with rfl | hp
    · exact hlt
    · exact h.big p hp
theorem II.fin {f : α → α → Int} {l ls : List α} {a i j : Int} (h : II f l a ls i j) (he : j ≤ 0 ∨ ¬ f (ls.getD j.toNat default) (ls.getD (j - 1).toNat default) < 0) : OI f l a ls (i + 1) := by
  have hpl := plen f h.ilt; have hil := h.ilt; have hjl := h.jlo; have hjh := h.jhi
  refine ⟨by have := h.a0; omega, .inl (by omega), .inl ⟨h.a0, ?_⟩⟩
  rw [show (i + 1).toNat = i.toNat + 1 by omega, isort_next f (show i.toNat < l.length by omega), getd_at (show i.toNat < l.length by omega) default]
  rw [insF_at (j := j.toNat) (by omega) h.big (fun h0 => ?_), ← h.eq]
  have h1 := he.resolve_left (by omega)
  rw [h.x, h.p (by omega), ← getd_at (show j.toNat - 1 < (isort f (l.take i.toNat)).length by omega) default] at h1
  exact h1
theorem II.both {f : α → α → Int} {l ls : List α} {a i j : Int} (h : II f l a ls i j) {p : α → Prop} (hp : ∀ x ∈ l, p x) (hj : 0 < j) : p (ls.getD j.toNat default) ∧ p (ls.getD (j - 1).toNat default) := by
  have hil := h.ilt; have hjl := h.jlo; have hjh := h.jhi; have hl := h.len
  have key : ∀ k, k < ls.length → p (ls.getD k default) := fun k hk => by
    rw [← getd_at hk default]; exact hp _ (h.perm.mem_iff.1 (List.getElem_mem hk))
  exact ⟨key _ (by omega), key _ (by omega)⟩
end
end Go.Sx.St
